import PyProof.Rows.All
import HandS.ForMost
import HandS.Nested
import HandS.NoneIn
import HandS.ForExc
import HandS.DeepEq
import HandS.Deep
import HandS.IsInst
import HandS.Star
import HandS.TupAny
import HandS.TupMul
import HandS.TupLe
import HandS.Style
import HandS.Flow
import HandS.Wide
import HandS.WideBits
import HandS.Conv
import HandS.Property
import HandS.Dict
import HandS.More
import HandS.Codes
import HandS.Zip
import HandS.Text
import HandS.SortInts
import HandS.StrMore
import KE.GoesEnum
import KE.KDictPairs
import PyProof.StrOps2
import HandS.Flt
import HandS.MakeKwOnly
import HandS.HeadWalk
import HandS.CallRecv
import HandS.Strs
import PyProof.CollectIter
import PyProof.WalksMore
import HandS.HeadHook1
import HandS.HeadHook2
import HandS.HeadHook3
import HandS.HeadHook4
import HandS.HeadNt
import HandS.Head2
import PySem.Challenge.RW_inkbands_k06_whole_first_faults
import HandS.Head0
import HandS.Head1
set_option Elab.async false
set_option linter.all false
set_option maxRecDepth 100000
namespace Dp
open PySem PySem.Spec L2
open PyProof.Rows hiding St

/-! ### values as trees -/
inductive PV where
  | non | bl (b : Bool) | int (i : Int) | str (x : Str) | tup (xs : List PV) | lst (xs : List PV) | loc (xs : List PV) | ref (a : Addr) | fn (f : Str) | ty (n : String) | clo (f c : Addr) (q : Str) (cs : List PV) (vs : List V) | dct (ks : List Key) (xs : List PV) | kdc (ks : List Key) (xs : List PV)
  deriving Inhabited

inductive Cell where
  | lst (xs : List PV)
  | ins (C : Str) (fs : List (Str × PV))

abbrev Stt := Addr → Option Cell
def put (S : Stt) (a : Addr) (c : Cell) : Stt := fun b => if b = a then some c else S b
def del (S : Stt) (a : Addr) : Stt := fun b => if b = a then none else S b
theorem put_same {S : Stt} {a : Addr} {c : Cell} : put S a c a = some c := if_pos rfl
theorem put_ne {S : Stt} {a b : Addr} {c : Cell} (h : b ≠ a) : put S a c b = S b := if_neg h
theorem del_same {S : Stt} {a : Addr} : del S a a = none := if_pos rfl
theorem del_ne {S : Stt} {a b : Addr} (h : b ≠ a) : del S a b = S b := if_neg h
theorem del_put {S : Stt} {a : Addr} {c : Cell} (h : S a = none) : del (put S a c) a = S := by
  funext b; unfold del put; by_cases e : b = a
  · subst e; simp [h]
  · simp [e]
theorem put_put {S : Stt} {a : Addr} {c d : Cell} : put (put S a c) a d = put S a d := by
  funext b; unfold put; by_cases e : b = a <;> simp [e]

structure Exc where
  cls : Str
  fs : List (Str × PV)

/-- a wp-monad with owned cells and exceptions -/
structure M (α : Type) where
  run : Stt → (α → Stt → Prop) → (Exc → Stt → Prop) → Prop
  mono : ∀ {S : Stt} {Q Q' : α → Stt → Prop} {E E' : Exc → Stt → Prop}, (∀ a S, Q a S → Q' a S) → (∀ e S, E e S → E' e S) → run S Q E → run S Q' E'

theorem M.ext {α : Type} {m n : M α} (h : ∀ S Q E, m.run S Q E = n.run S Q E) : m = n := by
  cases m; cases n; congr; funext S Q E; exact h S Q E

def ret {α : Type} (a : α) : M α := ⟨fun S Q _ => Q a S, fun h _ q => h _ _ q⟩
def bnd {α β : Type} (m : M α) (f : α → M β) : M β :=
  ⟨fun S Q E => m.run S (fun a S1 => (f a).run S1 Q E) E, fun h g q => m.mono (fun a S1 q => (f a).mono h g q) g q⟩
/-- no answer: nothing can be shown of it -/
def stuck {α : Type} : M α := ⟨fun _ _ _ => False, fun _ _ q => q⟩
def throw {α : Type} (e : Exc) : M α := ⟨fun S _ E => E e S, fun _ g q => g _ _ q⟩
def M.map {α β : Type} (f : α → β) (m : M α) : M β := bnd m fun a => ret (f a)
theorem run_ret {α : Type} {a : α} {S Q E} : (ret a).run S Q E = Q a S := rfl
theorem run_bnd {α β : Type} {m : M α} {f : α → M β} {S Q E} : (bnd m f).run S Q E = m.run S (fun a S1 => (f a).run S1 Q E) E := rfl
@[simp] theorem ret_bnd {α β : Type} {a : α} {f : α → M β} : bnd (ret a) f = f a := rfl
@[simp] theorem bnd_ret {α : Type} {m : M α} : bnd m ret = m := rfl
@[simp] theorem bnd_bnd {α β γ : Type} {m : M α} {f : α → M β} {g : β → M γ} : bnd (bnd m f) g = bnd m fun a => bnd (f a) g := rfl
@[simp] theorem stuck_bnd {α β : Type} {f : α → M β} : bnd stuck f = stuck := rfl
@[simp] theorem throw_bnd {α β : Type} {e : Exc} {f : α → M β} : bnd (throw e) f = throw e := rfl

/-! ### how values lie in the heap -/
structure Zs where
  K : PySem.W.Frag
  mg : Str → Option Value
  w : World

/-! ### the tables of the code objects of defs that make lambdas -/
/-- the defs' names -/
def lamNames : List Str := ["is_deed", "wrong_in_deeds"]
def lamQ (x : Str) : Str := x ++ ".<locals>." ++ "<lambda>"
def tabOf (Z : Zs) (x : Str) : Option (Addr × Str) := match Z.mg x with
  | some (.ref f) => match Z.K.lookup f with
    | some ⟨_, _, .func fd, _⟩ => match fd.code with
      | .ref c => match Z.K.lookup c with
        | some ⟨_, _, .fields vs, _⟩ => match (vs[11]? : Option Value) with
          | some (.ref P) => some (P, lamQ x)
          | _ => none
        | _ => none
      | _ => none
    | _ => none
  | _ => none
def tabsOf (Z : Zs) : List (Addr × Str) := lamNames.filterMap (tabOf Z)
theorem tabs_step {T : List (Addr × Str)} {H H' : Hp} (t : LamX.Tabs T H) (h : ∀ b o, H b = some o → (∀ vs, o ≠ .lst vs) → (∀ C dx fs, o ≠ .ins C dx fs) → (∀ kvs, o ≠ .dK kvs) → H' b = some o) : LamX.Tabs T H' := fun p hp => by
  obtain ⟨ps, h1, h2, h3⟩ := t p hp
  refine ⟨ps, h _ _ h1 (fun vs e => nomatch e) (fun C dx fs e => nomatch e) (fun kvs e => nomatch e), h2, fun pos cv hc => ?_⟩
  obtain ⟨c, e1, e2⟩ := h3 pos cv hc
  refine ⟨c, e1, h _ _ e2 (fun vs e => ?_) (fun C dx fs e => ?_) fun kvs e => ?_⟩ <;> unfold LamX.CodeO at e <;> cases e
theorem tabs_upd {T : List (Addr × Str)} {H : Hp} (t : LamX.Tabs T H) {p : Addr} {o : HO} (hp : H p = none ∨ (∃ vs, H p = some (.lst vs)) ∨ (∃ C dx fs, H p = some (.ins C dx fs)) ∨ ∃ kvs, H p = some (.dK kvs)) : LamX.Tabs T (upd H p o) := tabs_step t fun b u e n1 n2 n3 => by
  rw [upd_ne fun z => ?_]
  · exact e
  · subst z
    rcases hp with q | ⟨vs, q⟩ | ⟨C, dx, fs, q⟩ | ⟨kvs, q⟩
    · rw [q] at e; cases e
    · rw [q] at e; cases e; exact n1 _ rfl
    · rw [q] at e; cases e; exact n2 _ _ _ rfl
    · rw [q] at e; cases e; exact n3 _ rfl

/-- a tuple that is kept: frozen, or written -/
def TupAt (Z : Zs) (F : Addr → Prop) (H : Hp) (a : Addr) (vs : List V) : Prop :=
  (F a ∧ ∃ o, H a = some (.frz o (.tup vs)) ∧ o.dict = none) ∨ ∃ (o : Obj) (its : Array Value) (n : Nat), Z.K.lookup a = some o ∧ o.cls = .type "tuple" ∧ o.dict = none ∧ o.data = .seq its n ∧ its.size ≤ sizeLine ∧ Vals vs its.toList
def LstAt (F : Addr → Prop) (H : Hp) (a : Addr) (vs : List V) : Prop := F a ∧ H a = some (.lst vs)
/-- a list that is locked, or written -/
def LocAt (Z : Zs) (F : Addr → Prop) (H : Hp) (a : Addr) (vs : List V) : Prop :=
  (F a ∧ Rd H a (.lst vs)) ∨ ∃ (o : Obj) (its : Array Value) (n : Nat), Z.K.lookup a = some o ∧ o.cls = .type "list" ∧ o.dict = none ∧ o.data = .seq its n ∧ its.size ≤ sizeLine ∧ Vals vs its.toList
/-- a dict that is written -/
def KdcAt (Z : Zs) (a : Addr) (kvs : List (Key × V)) : Prop := (∃ es n, KDict Z.K Z.w a es n) ∧ ∀ k v, valV kvs k = some v → ∃ z u, k = .inr z ∧ PySem.W.nsIn Z.K a z = some (some u) ∧ RelV v u
theorem TupAt.sq {Z : Zs} {F H a vs} (h : TupAt Z F H a vs) : SqT Z.K H a vs := by
  rcases h with ⟨_, o, h, _⟩ | ⟨o, its, n, h1, h2, _, h3⟩
  · exact .inl (.inr ⟨o, h⟩)
  · exact .inr ⟨o, its, n, h1, h2, h3⟩
theorem LstAt.sq {K : PySem.W.Frag} {F H a vs} (h : LstAt F H a vs) : SqL K H a vs := .of h.2
theorem LocAt.sq {Z : Zs} {F H a vs} (h : LocAt Z F H a vs) : SqL Z.K H a vs := by
  rcases h with ⟨_, h⟩ | h
  · exact .inl h
  · exact .inr h

mutual
inductive Rep (Z : Zs) (F : Addr → Prop) (H : Hp) : PV → V → Prop
  | non : Rep Z F H .non .non
  | bl (b : Bool) : Rep Z F H (.bl b) (.bl b)
  | int (i : Int) : Rep Z F H (.int i) (.int i)
  | str (x : Str) : Rep Z F H (.str x) (.str x)
  | tup {a : Addr} {xs : List PV} {vs : List V} : TupAt Z F H a vs → RepL Z F H xs vs → Rep Z F H (.tup xs) (.ref a)
  | lst {a : Addr} {xs : List PV} {vs : List V} : LstAt F H a vs → RepL Z F H xs vs → Rep Z F H (.lst xs) (.ref a)
  | loc {a : Addr} {xs : List PV} {vs : List V} : LocAt Z F H a vs → RepL Z F H xs vs → Rep Z F H (.loc xs) (.ref a)
  | ref (a : Addr) : Rep Z F H (.ref a) (.ref a)
  | fn {f : Str} {a : Addr} : Z.mg f = some (.ref a) → Rep Z F H (.fn f) (.ref a)
  | ty (n : String) : Rep Z F H (.ty n) (.ty n)
  | clo {f c : Addr} {q : Str} {cs : List PV} {vs : List V} : F c → H c = some (LamX.CodeO c q) → RepL Z F H cs vs → Rep Z F H (.clo f c q cs vs) (.ref f)
  | dct {a : Addr} {ks : List Key} {xs : List PV} {vs : List V} : F a → H a = some (.dK (ks.zip vs)) → ks.length = xs.length → RepL Z F H xs vs → Rep Z F H (.dct ks xs) (.ref a)
  | kdc {a : Addr} {ks : List Key} {xs : List PV} {vs : List V} : KdcAt Z a (ks.zip vs) → RepL Z F H xs vs → Rep Z F H (.kdc ks xs) (.ref a)
inductive RepL (Z : Zs) (F : Addr → Prop) (H : Hp) : List PV → List V → Prop
  | nil : RepL Z F H [] []
  | cons {x : PV} {xs : List PV} {v : V} {vs : List V} : Rep Z F H x v → RepL Z F H xs vs → RepL Z F H (x :: xs) (v :: vs)
end

def nontbl (o : HO) : Prop := ∀ ps, o ≠ .tbl ps
/-- what is frozen stays -/
structure Sub (F : Addr → Prop) (H : Hp) (F' : Addr → Prop) (H' : Hp) : Prop where
  sub : ∀ a, F a → F' a
  keep : ∀ a o, F a → H a = some o → nontbl o → H' a = some o
theorem Sub.refl {F H} : Sub F H F H := ⟨fun _ h => h, fun _ _ _ h _ => h⟩
theorem Sub.trans {F H F1 H1 F2 H2} (a : Sub F H F1 H1) (b : Sub F1 H1 F2 H2) : Sub F H F2 H2 :=
  ⟨fun x h => b.sub x (a.sub x h), fun x o f h n => b.keep x o (a.sub x f) (a.keep x o f h n) n⟩
theorem Sub.rd {F H F' H'} (s : Sub F H F' H') {a u} (f : F a) (hu : nontbl u) (h : Rd H a u) : Rd H' a u := by
  rcases h with h | ⟨o, h⟩
  · exact .inl (s.keep a _ f h hu)
  · exact .inr ⟨o, s.keep a _ f h (fun ps e => nomatch e)⟩
theorem TupAt.mono {Z F H F' H' a vs} (s : Sub F H F' H') (h : TupAt Z F H a vs) : TupAt Z F' H' a vs := by
  rcases h with ⟨f, o, h, hd⟩ | h
  · exact .inl ⟨s.sub a f, o, s.keep a _ f h (fun ps e => nomatch e), hd⟩
  · exact .inr h
theorem LstAt.mono {F H F' H' a vs} (s : Sub F H F' H') (h : LstAt F H a vs) : LstAt F' H' a vs := ⟨s.sub a h.1, s.keep a _ h.1 h.2 fun ps e => nomatch e⟩
theorem LocAt.mono {Z F H F' H' a vs} (s : Sub F H F' H') (h : LocAt Z F H a vs) : LocAt Z F' H' a vs := by
  rcases h with ⟨f, h⟩ | h
  · exact .inl ⟨s.sub a f, s.rd f (fun ps e => nomatch e) h⟩
  · exact .inr h
mutual
theorem Rep.mono {Z F H F' H'} (s : Sub F H F' H') : ∀ {x : PV} {v : V}, Rep Z F H x v → Rep Z F' H' x v
  | _, _, .non => .non
  | _, _, .bl b => .bl b
  | _, _, .int i => .int i
  | _, _, .str x => .str x
  | _, _, .tup t r => .tup (t.mono s) (RepL.mono s r)
  | _, _, .lst t r => .lst (t.mono s) (RepL.mono s r)
  | _, _, .loc t r => .loc (t.mono s) (RepL.mono s r)
  | _, _, .ref a => .ref a
  | _, _, .fn h => .fn h
  | _, _, .ty n => .ty n
  | _, _, .clo t h r => .clo (s.sub _ t) (s.keep _ _ t h fun ps => LamX.codeO_ne ps) (RepL.mono s r)
  | _, _, .dct t h l r => .dct (s.sub _ t) (s.keep _ _ t h fun ps e => nomatch e) l (RepL.mono s r)
  | _, _, .kdc t r => .kdc t (RepL.mono s r)
theorem RepL.mono {Z F H F' H'} (s : Sub F H F' H') : ∀ {xs : List PV} {vs : List V}, RepL Z F H xs vs → RepL Z F' H' xs vs
  | _, _, .nil => .nil
  | _, _, .cons r t => .cons (Rep.mono s r) (RepL.mono s t)
end
section
variable {Z : Zs} {F : Addr → Prop} {H : Hp}
theorem RepL.length : ∀ {xs : List PV} {vs : List V}, RepL Z F H xs vs → xs.length = vs.length
  | _, _, .nil => rfl
  | _, _, .cons _ t => congrArg Nat.succ (RepL.length t)
theorem RepL.get : ∀ {xs : List PV} {vs : List V} {i : Nat} {x : PV}, RepL Z F H xs vs → xs[i]? = some x → ∃ v, vs[i]? = some v ∧ Rep Z F H x v
  | _, _, _, _, .nil, e => by simp at e
  | _, _, 0, _, .cons r _, e => by simp at e; subst e; exact ⟨_, rfl, r⟩
  | _, _, i + 1, x, .cons _ t, e => by
    obtain ⟨u, h1, h2⟩ := RepL.get (i := i) (x := x) t (by simpa using e)
    exact ⟨u, by simpa using h1, h2⟩
theorem RepL.get' : ∀ {xs : List PV} {vs : List V} {i : Nat} {v : V}, RepL Z F H xs vs → vs[i]? = some v → ∃ x, xs[i]? = some x ∧ Rep Z F H x v
  | _, _, _, _, .nil, e => by simp at e
  | _, _, 0, _, .cons r _, e => by simp at e; subst e; exact ⟨_, rfl, r⟩
  | _, _, i + 1, x, .cons _ t, e => by
    obtain ⟨u, h1, h2⟩ := RepL.get' (i := i) (v := x) t (by simpa using e)
    exact ⟨u, by simpa using h1, h2⟩
theorem RepL.append : ∀ {xs ys : List PV} {vs us : List V}, RepL Z F H xs vs → RepL Z F H ys us → RepL Z F H (xs ++ ys) (vs ++ us)
  | _, _, _, _, .nil, s => s
  | _, _, _, _, .cons r t, s => .cons r (RepL.append t s)
theorem RepL.take : ∀ {xs : List PV} {vs : List V} (n : Nat), RepL Z F H xs vs → RepL Z F H (xs.take n) (vs.take n)
  | _, _, 0, _ => .nil
  | _, _, _ + 1, .nil => .nil
  | _, _, n + 1, .cons r t => .cons r (RepL.take n t)
theorem RepL.drop : ∀ {xs : List PV} {vs : List V} (n : Nat), RepL Z F H xs vs → RepL Z F H (xs.drop n) (vs.drop n)
  | _, _, 0, r => r
  | _, _, _ + 1, .nil => .nil
  | _, _, n + 1, .cons _ t => RepL.drop n t
theorem RepL.set : ∀ {xs : List PV} {vs : List V} (n : Nat) {x : PV} {v : V}, RepL Z F H xs vs → Rep Z F H x v → RepL Z F H (xs.set n x) (vs.set n v)
  | _, _, _, _, _, .nil, _ => .nil
  | _, _, 0, _, _, .cons _ t, r => .cons r t
  | _, _, n + 1, _, _, .cons r t, q => .cons r (RepL.set n t q)
end

/-! ### the world -/
def CellAt (Z : Zs) (F : Addr → Prop) (H : Hp) (a : Addr) : Cell → Prop
  | .lst xs => ∃ vs, H a = some (.lst vs) ∧ RepL Z F H xs vs
  | .ins C fs => ∃ Ca dx vs, Z.mg C = some (.ref Ca) ∧ H a = some (.ins Ca dx ((fs.map (·.1)).zip vs)) ∧ H dx = some (.own a) ∧ RepL Z F H (fs.map (·.2)) vs
/-- what may be frozen -/
def tl : HO → Bool
  | .lst _ => true | .tup _ => true | .dK _ => true | .frz _ _ => true | .ext _ => true | _ => false
structure W (Z : Zs) (F : Addr → Prop) (S : Stt) (H : Hp) : Prop where
  dis : ∀ a, F a → S a = none
  ff : ∀ a, F a → ∃ o, H a = some o ∧ tl o = true
  cell : ∀ a c, S a = some c → CellAt Z F H a c
  tabs : LamX.Tabs (tabsOf Z) H
/-- what is never frozen behind one's back -/
def hid : HO → Bool
  | .lst _ => true | .dK _ => true | _ => false
/-- from one world to the next -/
structure Nxt (Z : Zs) (F : Addr → Prop) (S : Stt) (H : Hp) (F' : Addr → Prop) (S' : Stt) (H' : Hp) : Prop where
  sub : ∀ a, F a → F' a
  keep : ∀ b o, H b = some o → S b = none → nontbl o → H' b = some o
  own : ∀ b o, H b = some o → S b = none → nontbl o → S' b = none
  fre : ∀ b o, H b = some o → hid o = true → S b = none → ¬ F b → ¬ F' b
  w : W Z F' S' H'
end Dp

namespace Dp
open PySem PySem.Spec L2
open PyProof.Rows hiding St

section
variable {Z : Zs} {F F1 F2 : Addr → Prop} {S S1 S2 : Stt} {H H1 H2 : Hp}
theorem hid_nt {o : HO} (h : hid o = true) : nontbl o := fun ps e => by subst e; cases h
theorem Nxt.refl (w : W Z F S H) : Nxt Z F S H F S H := ⟨fun _ h => h, fun _ _ h _ _ => h, fun _ _ _ h _ => h, fun _ _ _ _ _ h => h, w⟩
theorem Nxt.trans (a : Nxt Z F S H F1 S1 H1) (b : Nxt Z F1 S1 H1 F2 S2 H2) : Nxt Z F S H F2 S2 H2 :=
  ⟨fun x h => b.sub x (a.sub x h), fun x o h s n => b.keep x o (a.keep x o h s n) (a.own x o h s n) n,
    fun x o h s n => b.own x o (a.keep x o h s n) (a.own x o h s n) n, fun x o h hh s f => b.fre x o (a.keep x _ h s (hid_nt hh)) hh (a.own x _ h s (hid_nt hh)) (a.fre x o h hh s f), b.w⟩
theorem Nxt.toSub (w : W Z F S H) (n : Nxt Z F S H F1 S1 H1) : Sub F H F1 H1 := ⟨n.sub, fun a o f h nt => n.keep a o h (w.dis a f) nt⟩
theorem Rep.nxt (w : W Z F S H) (n : Nxt Z F S H F1 S1 H1) {x v} (r : Rep Z F H x v) : Rep Z F1 H1 x v := r.mono (n.toSub w)
theorem RepL.nxt (w : W Z F S H) (n : Nxt Z F S H F1 S1 H1) {x v} (r : RepL Z F H x v) : RepL Z F1 H1 x v := r.mono (n.toSub w)

theorem W.fresh_S (w : W Z F S H) {p : Addr} (h : H p = none) : S p = none := by
  cases e : S p with
  | none => rfl
  | some c =>
    have := w.cell p c e
    cases c with
    | lst xs => obtain ⟨vs, q, _⟩ := this; rw [h] at q; cases q
    | ins C fs => obtain ⟨Ca, dx, vs, _, q, _⟩ := this; rw [h] at q; cases q
theorem W.own_S (w : W Z F S H) {p x : Addr} (h : H p = some (.own x)) : S p = none := by
  cases e : S p with
  | none => rfl
  | some c =>
    have := w.cell p c e
    cases c with
    | lst xs => obtain ⟨vs, q, _⟩ := this; rw [h] at q; cases q
    | ins C fs => obtain ⟨Ca, dx, vs, _, q, _⟩ := this; rw [h] at q; cases q
theorem W.fresh_F (w : W Z F S H) {p : Addr} (h : H p = none) : ¬ F p := fun f => by
  obtain ⟨o, q, _⟩ := w.ff p f; rw [h] at q; cases q
theorem CellAt.mono (s : Sub F H F1 H1) {a : Addr} {c : Cell} (h : CellAt Z F H a c) (ha : H1 a = H a) (hd : ∀ dx, H dx = some (.own a) → H1 dx = some (.own a)) : CellAt Z F1 H1 a c := by
  cases c with
  | lst xs => obtain ⟨vs, q, r⟩ := h; exact ⟨vs, ha.trans q, r.mono s⟩
  | ins C fs => obtain ⟨Ca, dx, vs, m, q, q2, r⟩ := h; exact ⟨Ca, dx, vs, m, ha.trans q, hd _ q2, r.mono s⟩
/-- a new object that nobody owns; frozen from now on, if f -/
theorem W.lay (w : W Z F S H) {p : Addr} {o : HO} (h : H p = none) (f : Prop) (nt : f → tl o = true) :
    Nxt Z F S H (fun a => F a ∨ (f ∧ a = p)) S (upd H p o) := by
  have hs := w.fresh_S h
  have sb : Sub F H (fun a => F a ∨ (f ∧ a = p)) (upd H p o) := ⟨fun a q => .inl q, fun a u q e _ => by rw [upd_ne (ne_of_none e h)]; exact e⟩
  refine ⟨fun a q => .inl q, fun b u e _ _ => ?_, fun b u e s _ => s, fun b u e _ _ nf q => ?_, ⟨fun a q => ?_, fun a q => ?_, fun a c e => ?_, tabs_upd w.tabs (.inl h)⟩⟩
  · rw [upd_ne (ne_of_none e h)]; exact e
  · rcases q with q | ⟨_, q⟩
    · exact nf q
    · exact ne_of_none e h q
  · rcases q with q | ⟨_, q⟩
    · exact w.dis a q
    · rw [q]; exact hs
  · rcases q with q | ⟨ff, q⟩
    · obtain ⟨u, e, t⟩ := w.ff a q
      exact ⟨u, by rw [upd_ne (ne_of_none e h)]; exact e, t⟩
    · exact ⟨o, by rw [q, upd_same], nt ff⟩
  · have ha : a ≠ p := fun z => by subst z; rw [hs] at e; cases e
    refine (w.cell a c e).mono sb (upd_ne ha) fun dx q => ?_
    rw [upd_ne (ne_of_none q h)]; exact q
/-- a new list that is owned -/
theorem W.layOwn (w : W Z F S H) {p : Addr} {xs : List PV} {vs : List V} (h : H p = none) (r : RepL Z F H xs vs) :
    Nxt Z F S H F (put S p (.lst xs)) (upd H p (.lst vs)) := by
  have hs := w.fresh_S h
  have sb : Sub F H F (upd H p (.lst vs)) := ⟨fun a q => q, fun a u q e _ => by rw [upd_ne (ne_of_none e h)]; exact e⟩
  refine ⟨fun a q => q, fun b u e _ _ => ?_, fun b u e s _ => ?_, fun b u e _ _ nf q => nf q, ⟨fun a q => ?_, fun a q => ?_, fun a c e => ?_, tabs_upd w.tabs (.inl h)⟩⟩
  · rw [upd_ne (ne_of_none e h)]; exact e
  · rw [put_ne (ne_of_none e h)]; exact s
  · obtain ⟨u, e, _⟩ := w.ff a q
    rw [put_ne (ne_of_none e h)]; exact w.dis a q
  · obtain ⟨u, e, t⟩ := w.ff a q
    exact ⟨u, by rw [upd_ne (ne_of_none e h)]; exact e, t⟩
  · by_cases ha : a = p
    · subst ha; rw [put_same] at e; cases e
      exact ⟨vs, upd_same, r.mono sb⟩
    · rw [put_ne ha] at e
      refine (w.cell a c e).mono sb (upd_ne ha) fun dx q => ?_
      rw [upd_ne (ne_of_none q h)]; exact q
/-- an owned list is changed -/
theorem W.setLst (w : W Z F S H) {p : Addr} {ys xs : List PV} {vs : List V} (h : S p = some (.lst ys)) (r : RepL Z F H xs vs) :
    Nxt Z F S H F (put S p (.lst xs)) (upd H p (.lst vs)) := by
  obtain ⟨vs0, h0, _⟩ := w.cell p _ h
  have ne : ∀ b, S b = none → b ≠ p := fun b e z => by subst z; rw [h] at e; cases e
  have sb : Sub F H F (upd H p (.lst vs)) := ⟨fun a q => q, fun a u q e _ => by rw [upd_ne (ne a (w.dis a q))]; exact e⟩
  refine ⟨fun a q => q, fun b u e s _ => ?_, fun b u e s _ => ?_, fun b u e _ _ nf q => nf q, ⟨fun a q => ?_, fun a q => ?_, fun a c e => ?_, tabs_upd w.tabs (.inr (.inl ⟨_, h0⟩))⟩⟩
  · rw [upd_ne (ne b s)]; exact e
  · rw [put_ne (ne b s)]; exact s
  · rw [put_ne (ne a (w.dis a q))]; exact w.dis a q
  · obtain ⟨u, e, t⟩ := w.ff a q
    exact ⟨u, by rw [upd_ne (ne a (w.dis a q))]; exact e, t⟩
  · by_cases ha : a = p
    · subst ha; rw [put_same] at e; cases e
      exact ⟨vs, upd_same, r.mono sb⟩
    · rw [put_ne ha] at e
      refine (w.cell a c e).mono sb (upd_ne ha) fun dx q => ?_
      rw [upd_ne (ne dx (w.own_S q))]; exact q
/-- an owned list is frozen -/
theorem W.freeze (w : W Z F S H) {p : Addr} {xs : List PV} (h : S p = some (.lst xs)) :
    Nxt Z F S H (fun a => F a ∨ a = p) (del S p) H ∧ Rep Z (fun a => F a ∨ a = p) H (.lst xs) (.ref p) := by
  obtain ⟨vs, h0, r⟩ := w.cell p _ h
  have sb : Sub F H (fun a => F a ∨ a = p) H := ⟨fun a q => .inl q, fun a u q e _ => e⟩
  refine ⟨⟨fun a q => .inl q, fun b u e _ _ => e, fun b u e s _ => ?_, fun b u e _ s nf q => ?_, ⟨fun a q => ?_, fun a q => ?_, fun a c e => ?_, w.tabs⟩⟩, ?_⟩
  · by_cases z : b = p
    · rw [z]; exact del_same
    · rw [del_ne z]; exact s
  · rcases q with q | q
    · exact nf q
    · rw [q, h] at s; cases s
  · rcases q with q | q
    · by_cases z : a = p
      · rw [z]; exact del_same
      · rw [del_ne z]; exact w.dis a q
    · rw [q]; exact del_same
  · rcases q with q | q
    · exact w.ff a q
    · rw [q]; exact ⟨_, h0, rfl⟩
  · by_cases z : a = p
    · subst z; rw [del_same] at e; cases e
    · rw [del_ne z] at e
      exact (w.cell a c e).mono sb rfl fun dx q => q
  · exact .lst ⟨.inr rfl, h0⟩ (r.mono sb)
end

/-! ### the slots -/
abbrev En := List (Option PV)
def EnvR (Z : Zs) (F : Addr → Prop) (H : Hp) (env : En) (σ : St) : Prop :=
  env.length = σ.length ∧ ∀ (i : Nat) (x : PV), env[i]? = some (some x) → ∃ v, σ[i]? = some (some v) ∧ Rep Z F H x v
def Out (L : List Nat) (σ σ' : St) : Prop := σ'.length = σ.length ∧ ∀ i, i ∉ L → σ'[i]? = σ[i]?
theorem Out.refl {L σ} : Out L σ σ := ⟨rfl, fun _ _ => rfl⟩
theorem Out.trans {L σ σ1 σ2} (a : Out L σ σ1) (b : Out L σ1 σ2) : Out L σ σ2 := ⟨b.1.trans a.1, fun i h => (b.2 i h).trans (a.2 i h)⟩
theorem Out.mono {L L' σ σ'} (a : Out L σ σ') (h : ∀ i ∈ L, i ∈ L') : Out L' σ σ' := ⟨a.1, fun i hi => a.2 i fun z => hi (h i z)⟩
theorem EnvR.mono {Z F H F' H' env σ} (s : Sub F H F' H') (e : EnvR Z F H env σ) : EnvR Z F' H' env σ :=
  ⟨e.1, fun i x h => let ⟨v, h1, h2⟩ := e.2 i x h; ⟨v, h1, h2.mono s⟩⟩
theorem EnvR.set {Z F H env σ} (e : EnvR Z F H env σ) (i : Nat) {x v} (r : Rep Z F H x v) : EnvR Z F H (env.set i (some x)) (σ.set i (some v)) := by
  refine ⟨by simp [e.1], fun j y h => ?_⟩
  by_cases hj : i = j
  · subst hj
    by_cases hi : i < env.length
    · rw [List.getElem?_set_self hi] at h
      cases h
      exact ⟨v, List.getElem?_set_self (by rw [← e.1]; exact hi), r⟩
    · rw [List.getElem?_eq_none (by simpa using hi)] at h; cases h
  · rw [List.getElem?_set_ne hj] at h
    rw [List.getElem?_set_ne hj]
    exact e.2 j y h
theorem Out.set {L : List Nat} {σ : St} {i : Nat} {v : Option V} (h : i ∈ L) : Out L σ (σ.set i v) := ⟨by simp, fun j hj => List.getElem?_set_ne fun (z : i = j) => hj (by rw [← z]; exact h)⟩
def wipeE (env : En) : List Nat → En
  | [] => env
  | v :: vs => (wipeE env vs).set v none
theorem wipeE_length (env : En) : ∀ vs, (wipeE env vs).length = env.length
  | [] => rfl
  | v :: vs => by unfold wipeE; rw [List.length_set, wipeE_length env vs]
theorem wipeE_some {env : En} {i : Nat} {x : PV} : ∀ {vs : List Nat}, (wipeE env vs)[i]? = some (some x) → env[i]? = some (some x) ∧ i ∉ vs
  | [], h => ⟨h, by simp⟩
  | v :: vs, h => by
    unfold wipeE at h
    by_cases hi : v = i
    · subst hi
      by_cases hv : v < (wipeE env vs).length
      · rw [List.getElem?_set_self hv] at h; cases h
      · rw [List.getElem?_eq_none (by simpa using hv)] at h; cases h
    · rw [List.getElem?_set_ne hi] at h
      obtain ⟨h1, h2⟩ := wipeE_some h
      exact ⟨h1, by simp only [List.mem_cons, not_or]; exact ⟨fun e => hi e.symm, h2⟩⟩
theorem wipe_get {σ : St} {i : Nat} : ∀ {vs : List Nat}, i ∉ vs → (wipe σ vs)[i]? = σ[i]?
  | [], _ => rfl
  | v :: vs, h => by
    unfold wipe
    rw [List.mem_cons, not_or] at h
    rw [List.getElem?_set_ne fun z => h.1 z.symm]
    exact wipe_get h.2
theorem EnvR.wipe {Z F H env σ} (e : EnvR Z F H env σ) (L : List Nat) : EnvR Z F H (wipeE env L) (L2.wipe σ L) :=
  ⟨by rw [wipeE_length, wipe_length, e.1], fun i x h => by
    obtain ⟨h1, h2⟩ := wipeE_some h
    rw [wipe_get h2]
    exact e.2 i x h1⟩
theorem EnvR.out {Z F H env σ σ'} (e : EnvR Z F H env σ) {L : List Nat} (o : Out L σ σ') : EnvR Z F H (wipeE env L) σ' :=
  ⟨by rw [wipeE_length, e.1, o.1], fun i x h => by
    obtain ⟨h1, h2⟩ := wipeE_some h
    rw [o.2 i h2]
    exact e.2 i x h1⟩
theorem wipe_mem : ∀ {vs : List Nat} {σ : St} {i : Nat}, i ∈ vs → (wipe σ vs)[i]? = if i < σ.length then some none else none
  | [], _, _, h => by simp at h
  | v :: vs, σ, i, h => by
    unfold wipe
    by_cases hv : v = i
    · subst hv
      by_cases hl : v < σ.length
      · rw [List.getElem?_set_self (by rw [wipe_length]; exact hl), if_pos hl]
      · rw [List.getElem?_eq_none (by simp [wipe_length]; omega), if_neg hl]
    · rw [List.getElem?_set_ne hv]
      exact wipe_mem ((List.mem_cons.mp h).elim (fun z => absurd z.symm hv) id)
theorem Out.wipe_eq {L σ σ'} (o : Out L σ σ') : L2.wipe σ' L = L2.wipe σ L := by
  apply List.ext_getElem?
  intro i
  by_cases h : i ∈ L
  · rw [wipe_mem h, wipe_mem h, o.1]
  · rw [wipe_get h, wipe_get h, o.2 i h]

/-! ### what is wanted behind -/
def ExcR (Z : Zs) (F : Addr → Prop) (H : Hp) (e : Exc) (c : Value) (d : Option Addr) : Prop :=
  Z.mg e.cls = some c ∧ match e.fs with
    | [] => True
    | fs => ∃ dx vs, d = some dx ∧ H dx = some (.xd ((fs.map (·.1)).zip vs)) ∧ RepL Z F H (fs.map (·.2)) vs
section
variable (Z : Zs) (F : Addr → Prop) (S : Stt) (H : Hp)
def Pv (Q : VK) : PV → Stt → Prop := fun x S' => ∀ F' H' v, Nxt Z F S H F' S' H' → Rep Z F' H' x v → Q v H'
def Pl (Q : List V → Hp → Prop) : List PV → Stt → Prop := fun x S' => ∀ F' H' v, Nxt Z F S H F' S' H' → RepL Z F' H' x v → Q v H'
def Pb (Q : Bool → Hp → Prop) : Bool → Stt → Prop := fun b S' => ∀ F' H', Nxt Z F S H F' S' H' → Q b H'
def Px (Q : XK) : Exc → Stt → Prop := fun e S' => ∀ F' H' c d, Nxt Z F S H F' S' H' → ExcR Z F' H' e c d → Q c d H'
def Pe (L : List Nat) (σ : St) (Q : St → Hp → Prop) : En → Stt → Prop := fun env S' => ∀ F' H' σ', Nxt Z F S H F' S' H' → EnvR Z F' H' env σ' → Out L σ σ' → Q σ' H'
def Pw (L : List Nat) (σ : St) (W : WX) : Exc → Stt → Prop := fun e S' => ∀ F' H' c d σ', Nxt Z F S H F' S' H' → ExcR Z F' H' e c d → Out L σ σ' → W c d σ' H'
end
section
variable {Z : Zs} {F F1 : Addr → Prop} {S S1 : Stt} {H H1 : Hp} (n : Nxt Z F S H F1 S1 H1)
include n
theorem Pv.nxt {Q x S2} (h : Pv Z F S H Q x S2) : Pv Z F1 S1 H1 Q x S2 := fun F' H' v n' r => h F' H' v (n.trans n') r
theorem Pl.nxt {Q x S2} (h : Pl Z F S H Q x S2) : Pl Z F1 S1 H1 Q x S2 := fun F' H' v n' r => h F' H' v (n.trans n') r
theorem Pb.nxt {Q x S2} (h : Pb Z F S H Q x S2) : Pb Z F1 S1 H1 Q x S2 := fun F' H' n' => h F' H' (n.trans n')
theorem Px.nxt {Q x S2} (h : Px Z F S H Q x S2) : Px Z F1 S1 H1 Q x S2 := fun F' H' c d n' r => h F' H' c d (n.trans n') r
theorem Pe.nxt {L σ Q x S2} (h : Pe Z F S H L σ Q x S2) : Pe Z F1 S1 H1 L σ Q x S2 := fun F' H' σ' n' r o => h F' H' σ' (n.trans n') r o
theorem Pw.nxt {L σ Q x S2} (h : Pw Z F S H L σ Q x S2) : Pw Z F1 S1 H1 L σ Q x S2 := fun F' H' c d σ' n' r o => h F' H' c d σ' (n.trans n') r o
end
/-- readings -/
def tE (Z : Zs) (Wx : WX) (m : En → M PV) : TE := fun σ H Q => ∃ F S env, EnvR Z F H env σ ∧ W Z F S H ∧ (m env).run S (Pv Z F S H Q) (Pw Z F S H [] σ Wx)
def tT (Z : Zs) (Wx : WX) (m : En → M Bool) : TT := fun σ H Q => ∃ F S env, EnvR Z F H env σ ∧ W Z F S H ∧ (m env).run S (Pb Z F S H Q) (Pw Z F S H [] σ Wx)
def tL (Z : Zs) (Wx : WX) (m : En → M (List PV)) : TA := fun σ H Q => ∃ F S env, EnvR Z F H env σ ∧ W Z F S H ∧ (m env).run S (Pl Z F S H Q) (Pw Z F S H [] σ Wx)
def tG (Z : Zs) (Wx : WX) (L : List Nat) (m : PV → En → M En) : TG := fun v σ H Q => ∃ F S env x, EnvR Z F H env σ ∧ W Z F S H ∧ Rep Z F H x v ∧ (m x env).run S (Pe Z F S H L σ Q) (Pw Z F S H L σ Wx)
def tGs (Z : Zs) (Wx : WX) (L : List Nat) (m : List PV → En → M En) : TGs := fun vs σ H Q => ∃ F S env xs, EnvR Z F H env σ ∧ W Z F S H ∧ RepL Z F H xs vs ∧ (m xs env).run S (Pe Z F S H L σ Q) (Pw Z F S H L σ Wx)
inductive Res where
  | nx (env : En) | rt (v : PV) | bk (env : En) | ct (env : En)
def Pr (Z : Zs) (F : Addr → Prop) (S : Stt) (H : Hp) (L : List Nat) (σ : St) (D : Ends) : Res → Stt → Prop := fun r S' => match r with
  | .nx env => Pe Z F S H L σ D.nx env S'
  | .rt v => Pv Z F S H D.rt v S'
  | .bk env => Pe Z F S H L σ D.bk env S'
  | .ct env => Pe Z F S H L σ D.ct env S'
def tS (Z : Zs) (Wx : WX) (L : List Nat) (m : En → M Res) : TS := fun D σ H => ∃ F S env, EnvR Z F H env σ ∧ W Z F S H ∧ (m env).run S (Pr Z F S H L σ D) (Pw Z F S H L σ Wx)
end Dp

namespace Dp
open PySem PySem.Spec L2
open PyProof.Rows hiding St

abbrev zs (X : Cx) : Zs := ⟨X.K, X.mg, X.w⟩
def SE (X : Cx) (Wx : WX) (e : Expr) (m : En → M PV) : Prop := PE X e (tE (zs X) Wx m)
def STe (X : Cx) (Wx : WX) (e : Expr) (m : En → M Bool) : Prop := PT X e (tT (zs X) Wx m)
def SA (X : Cx) (Wx : WX) (es : List Expr) (m : En → M (List PV)) : Prop := PA X es (tL (zs X) Wx m)
def SS (X : Cx) (Wx : WX) (L : List Nat) (st : Stmt) (m : En → M Res) : Prop := PS X st (tS (zs X) Wx L m)
def SSs (X : Cx) (Wx : WX) (L : List Nat) (st : List Stmt) (m : En → M Res) : Prop := PSs X st (tS (zs X) Wx L m)
def SG (X : Cx) (Wx : WX) (L : List Nat) (e : Expr) (m : PV → En → M En) : Prop := PG X e (tG (zs X) Wx L m)
def SGs (X : Cx) (Wx : WX) (L : List Nat) (es : List Expr) (m : List PV → En → M En) : Prop := PGs X es (tGs (zs X) Wx L m)

section
variable {X : Cx} {Wx : WX} {pins : List (Addr × Obj)} {s : Shared} {σ : St} {H : Hp} {F : Addr → Prop} {S : Stt} {env : En}
theorem SE.go {e : Expr} {m : En → M PV} (he : SE X Wx e m) (I : Inv X pins σ H s) (er : EnvR (zs X) F H env σ) (w : W (zs X) F S H) {R : PV → Stt → Prop} (h : (m env).run S R (Pw (zs X) F S H [] σ Wx))
    {Qf : Value → Shared → Prop} (hk : ∀ v s1 x px F1 S1 H1, Inv X pins σ H1 s1 → RelV x v → Nxt (zs X) F S H F1 S1 H1 → Rep (zs X) F1 H1 px x → R px S1 → Qf v s1) :
    wpAny (model X.prog X.w) X.A (eval e X.env) Qf X.xe s := by
  refine thn (he.run pins s σ H (fun x H1 => ∃ F1 S1 px, Nxt (zs X) F S H F1 S1 H1 ∧ Rep (zs X) F1 H1 px x ∧ R px S1) I ⟨F, S, env, er, w, (m env).mono (fun px S1 r F1 H1 x n rp => ⟨F1, S1, px, n, rp, r⟩) (fun _ _ q => q) h⟩) ?_
  rintro v s1 ⟨x, H1, I1, r1, F1, S1, px, n, rp, r⟩
  exact hk v s1 x px F1 S1 H1 I1 r1 n rp r
theorem STe.go {e : Expr} {m : En → M Bool} (he : STe X Wx e m) (I : Inv X pins σ H s) (er : EnvR (zs X) F H env σ) (w : W (zs X) F S H) {R : Bool → Stt → Prop} (h : (m env).run S R (Pw (zs X) F S H [] σ Wx))
    {Qf : Bool → Shared → Prop} (hk : ∀ b s1 F1 S1 H1, Inv X pins σ H1 s1 → Nxt (zs X) F S H F1 S1 H1 → R b S1 → Qf b s1) :
    wpAny (model X.prog X.w) X.A (isTrue e X.env (eval e X.env)) Qf X.xe s := by
  refine thn (he.run pins s σ H (fun b H1 => ∃ F1 S1, Nxt (zs X) F S H F1 S1 H1 ∧ R b S1) I ⟨F, S, env, er, w, (m env).mono (fun b S1 r F1 H1 n => ⟨F1, S1, n, r⟩) (fun _ _ q => q) h⟩) ?_
  rintro b s1 ⟨H1, I1, F1, S1, n, r⟩
  exact hk b s1 F1 S1 H1 I1 n r
theorem SA.go {es : List Expr} {m : En → M (List PV)} (he : SA X Wx es m) (pos : Pos) (I : Inv X pins σ H s) (er : EnvR (zs X) F H env σ) (w : W (zs X) F S H) {R : List PV → Stt → Prop} (h : (m env).run S R (Pw (zs X) F S H [] σ Wx))
    {Qf : List Value → Shared → Prop} (hk : ∀ us s1 vs ps F1 S1 H1, Inv X pins σ H1 s1 → Vals vs us → Nxt (zs X) F S H F1 S1 H1 → RepL (zs X) F1 H1 ps vs → R ps S1 → Qf us s1) :
    wpAny (model X.prog X.w) X.A (spliced (backTo pos (starEach es X.env))) Qf X.xe s := by
  refine thn (he.run pos pins s σ H (fun x H1 => ∃ F1 S1 px, Nxt (zs X) F S H F1 S1 H1 ∧ RepL (zs X) F1 H1 px x ∧ R px S1) I ⟨F, S, env, er, w, (m env).mono (fun px S1 r F1 H1 x n rp => ⟨F1, S1, px, n, rp, r⟩) (fun _ _ q => q) h⟩) ?_
  rintro v s1 ⟨x, H1, I1, r1, F1, S1, px, n, rp, r⟩
  exact hk v s1 x px F1 S1 H1 I1 r1 n rp r
theorem SE.mk {e : Expr} {m : En → M PV} (h : ∀ pins s σ H F S env Q, Inv X pins σ H s → EnvR (zs X) F H env σ → W (zs X) F S H → (m env).run S (Pv (zs X) F S H Q) (Pw (zs X) F S H [] σ Wx) →
    wpAny (model X.prog X.w) X.A (eval e X.env) (EP X pins σ Q) X.xe s) : SE X Wx e m :=
  ⟨fun pins s σ H Q I ⟨F, S, env, er, w, q⟩ => h pins s σ H F S env Q I er w q⟩
theorem STe.mk {e : Expr} {m : En → M Bool} (h : ∀ pins s σ H F S env Q, Inv X pins σ H s → EnvR (zs X) F H env σ → W (zs X) F S H → (m env).run S (Pb (zs X) F S H Q) (Pw (zs X) F S H [] σ Wx) →
    wpAny (model X.prog X.w) X.A (isTrue e X.env (eval e X.env)) (TP X pins σ Q) X.xe s) : STe X Wx e m :=
  ⟨fun pins s σ H Q I ⟨F, S, env, er, w, q⟩ => h pins s σ H F S env Q I er w q⟩
theorem fin {Q : VK} {px : PV} {x : V} {u : Value} {F1 S1 H1} (I : Inv X pins σ H1 s) (r : RelV x u) (n : Nxt (zs X) F S H F1 S1 H1) (rp : Rep (zs X) F1 H1 px x) (q : Pv (zs X) F S H Q px S1) : EP X pins σ Q u s :=
  ⟨x, H1, I, r, q F1 H1 x n rp⟩

/-! ### names, constants -/
def getv (env : En) (i : Nat) : M PV := match env[i]? with
  | some (some v) => ret v
  | _ => stuck
theorem s_var {i : Nat} {x : Str} {pos : Pos} (hN : X.N[i]? = some x) (hv : Vis X.env.scope x) (hd : (x == ("__debug__" : Str)) = false) (hcd : (x == ("__classdict__" : Str)) = false) :
    SE X Wx (.Name x pos) (fun env => getv env i) := .mk fun pins s σ H F S env Q I er w q => by
  unfold getv at q
  split at q
  · rename_i v hv'
    obtain ⟨x', e, r⟩ := er.2 i v hv'
    exact (pe_var hN hv hd hcd).run pins s σ H Q I ⟨x', e, q F H x' (Nxt.refl w) r⟩
  · exact q.elim
theorem s_int {i : Int} {j pos} : SE X Wx (.Constant (.int i) j pos) (fun _ => ret (.int i)) := .mk fun pins s σ H F S env Q I er w q =>
  pe_int.run pins s σ H Q I (q F H _ (Nxt.refl w) (.int i))
theorem s_bl {i : Bool} {j pos} : SE X Wx (.Constant (.bool i) j pos) (fun _ => ret (.bl i)) := .mk fun pins s σ H F S env Q I er w q =>
  pe_bl.run pins s σ H Q I (q F H _ (Nxt.refl w) (.bl i))
theorem s_non {j pos} : SE X Wx (.Constant .none j pos) (fun _ => ret .non) := .mk fun pins s σ H F S env Q I er w q =>
  pe_non.run pins s σ H Q I (q F H _ (Nxt.refl w) .non)
theorem s_str {x : Str} {j pos} : SE X Wx (.Constant (.str x) j pos) (fun _ => ret (.str x)) := .mk fun pins s σ H F S env Q I er w q =>
  pe_str.run pins s σ H Q I (q F H _ (Nxt.refl w) (.str x))
/-- a constant of the module: written, the same in every heap -/
def Wr (Z : Zs) (x : PV) (v : V) : Prop := ∀ F H, Rep Z F H x v
theorem s_glob {x : Str} {v : V} {u : Value} {px : PV} {pos : Pos} (hg : Gl X x) (hm : X.mg x = some u) (r : RelV v u) (hw : Wr (zs X) px v) (hd : (x == ("__debug__" : Str)) = false) :
    SE X Wx (.Name x pos) (fun _ => ret px) := .mk fun pins s σ H F S env Q I er w q =>
  (pe_glob hg hm r hd).run pins s σ H Q I (q F H _ (Nxt.refl w) (hw F H))

/-! ### operators by values -/
def Op2 (X : Cx) (Wx : WX) (f : Value → Value → Sem Value) (m : PV → PV → M PV) : Prop :=
  ∀ (pins : List (Addr × Obj)) (s : Shared) (σ : St) (H : Hp) (x y : V) (v u : Value) (Q : VK) (F : Addr → Prop) (S : Stt) (px py : PV), Inv X pins σ H s → RelV x v → RelV y u → W (zs X) F S H → Rep (zs X) F H px x → Rep (zs X) F H py y →
    (m px py).run S (Pv (zs X) F S H Q) (Pw (zs X) F S H [] σ Wx) → wpAny (model X.prog X.w) X.A (f v u) (EP X pins σ Q) X.xe s
def Op1 (X : Cx) (Wx : WX) (f : Value → Sem Value) (m : PV → M PV) : Prop :=
  ∀ (pins : List (Addr × Obj)) (s : Shared) (σ : St) (H : Hp) (x : V) (v : Value) (Q : VK) (F : Addr → Prop) (S : Stt) (px : PV), Inv X pins σ H s → RelV x v → W (zs X) F S H → Rep (zs X) F H px x →
    (m px).run S (Pv (zs X) F S H Q) (Pw (zs X) F S H [] σ Wx) → wpAny (model X.prog X.w) X.A (f v) (EP X pins σ Q) X.xe s
def OpN (X : Cx) (Wx : WX) (f : List Value → Sem Value) (m : List PV → M PV) : Prop :=
  ∀ (pins : List (Addr × Obj)) (s : Shared) (σ : St) (H : Hp) (xs : List V) (us : List Value) (Q : VK) (F : Addr → Prop) (S : Stt) (ps : List PV), Inv X pins σ H s → Vals xs us → W (zs X) F S H → RepL (zs X) F H ps xs →
    (m ps).run S (Pv (zs X) F S H Q) (Pw (zs X) F S H [] σ Wx) → wpAny (model X.prog X.w) X.A (f us) (EP X pins σ Q) X.xe s
def OpB (X : Cx) (Wx : WX) (f : Value → Sem Bool) (m : PV → M Bool) : Prop :=
  ∀ (pins : List (Addr × Obj)) (s : Shared) (σ : St) (H : Hp) (x : V) (v : Value) (Q : Bool → Hp → Prop) (F : Addr → Prop) (S : Stt) (px : PV), Inv X pins σ H s → RelV x v → W (zs X) F S H → Rep (zs X) F H px x →
    (m px).run S (Pb (zs X) F S H Q) (Pw (zs X) F S H [] σ Wx) → wpAny (model X.prog X.w) X.A (f v) (TP X pins σ Q) X.xe s
variable {a b c : Expr} {ma mb mc : En → M PV} {pos : Pos}
/-- two expressions in a row, then what is done with both -/
theorem two (ha : SE X Wx a ma) (hb : SE X Wx b mb) (I : Inv X pins σ H s) (er : EnvR (zs X) F H env σ) (w : W (zs X) F S H) {R : PV → PV → Stt → Prop}
    (h : (ma env).run S (fun x S1 => (mb env).run S1 (fun y S2 => R x y S2) (Pw (zs X) F S H [] σ Wx)) (Pw (zs X) F S H [] σ Wx)) {α : Type} {Qf : α → Shared → Prop} {f : Value → Value → Sem α}
    (hk : ∀ v u s2 x y px py F2 S2 H2, Inv X pins σ H2 s2 → RelV x v → RelV y u → Nxt (zs X) F S H F2 S2 H2 → Rep (zs X) F2 H2 px x → Rep (zs X) F2 H2 py y → R px py S2 → wpAny (model X.prog X.w) X.A (f v u) Qf X.xe s2) :
    wpAny (model X.prog X.w) X.A (eval a X.env) (fun v s₁ => wpAny (model X.prog X.w) X.A (eval b X.env) (fun u s₂ => wpAny (model X.prog X.w) X.A (f v u) Qf X.xe s₂) X.xe s₁) X.xe s := by
  refine ha.go I er w h fun v s1 x px F1 S1 H1 I1 r1 n1 rp1 q1 => ?_
  refine hb.go I1 (er.mono (n1.toSub w)) n1.w (R := fun y S2 => R px y S2) ((mb env).mono (fun _ _ q => q) (fun _ _ q => Pw.nxt n1 q) q1) fun u s2 y py F2 S2 H2 I2 r2 n2 rp2 q2 => ?_
  exact hk v u s2 x y px py F2 S2 H2 I2 r1 r2 (n1.trans n2) (rp1.nxt n1.w n2) rp2 q2
theorem s_bin {op : Operator} {m : PV → PV → M PV} (ho : Op2 X Wx (binaryOp op) m) (ha : SE X Wx a ma) (hb : SE X Wx b mb) : SE X Wx (.BinOp a op b pos) (fun env => bnd (ma env) fun x => bnd (mb env) fun y => m x y) :=
  .mk fun pins s σ H F S env Q I er w q => wpAny_BinOp (two ha hb I er w q fun v u s2 x y px py F2 S2 H2 I2 r1 r2 n rp1 rp2 q2 =>
    ho pins s2 σ H2 x y v u Q F2 S2 px py I2 r1 r2 n.w rp1 rp2 ((m px py).mono (fun _ _ q => Pv.nxt n q) (fun _ _ q => Pw.nxt n q) q2))
theorem s_un {op : UnaryOp} {m : PV → M PV} (ho : Op1 X Wx (unaryOp op) m) (ha : SE X Wx a ma) : SE X Wx (.UnaryOp op a pos) (fun env => bnd (ma env) m) :=
  .mk fun pins s σ H F S env Q I er w q => UnaryOp_ (ha.go I er w q fun v s1 x px F1 S1 H1 I1 r1 n rp q1 =>
    ho pins s1 σ H1 x v Q F1 S1 px I1 r1 n.w rp ((m px).mono (fun _ _ q => Pv.nxt n q) (fun _ _ q => Pw.nxt n q) q1))
theorem s_cmp {op : CmpOp} {m : PV → PV → M PV} (ho : Op2 X Wx (compareOp op) m) (ha : SE X Wx a ma) (hb : SE X Wx b mb) (hm : behindInMarks op b = false) : SE X Wx (.Compare a [op] [b] pos) (fun env => bnd (ma env) fun x => bnd (mb env) fun y => m x y) :=
  .mk fun pins s σ H F S env Q I er w q => wpAny_Compare1 (two ha hb I er w q fun v u s2 x y px py F2 S2 H2 I2 r1 r2 n rp1 rp2 q2 =>
    ho pins s2 σ H2 x y v u Q F2 S2 px py I2 r1 r2 n.w rp1 rp2 ((m px py).mono (fun _ _ q => Pv.nxt n q) (fun _ _ q => Pw.nxt n q) q2)) hm
/-- truth of a value -/
theorem s_truth {mt : PV → M Bool} (ht : OpB X Wx truthy mt) (ha : SE X Wx a ma) (he : ∀ whole, isTrue a X.env whole = (do let v ← whole; standAt a.pos; holding [v] (truthy v))) : STe X Wx a (fun env => bnd (ma env) mt) :=
  .mk fun pins s σ H F S env Q I er w q => isTrue_plain (ha.go I er w q fun v s1 x px F1 S1 H1 I1 r1 n rp q1 =>
    ht pins s1 σ H1 x v Q F1 S1 px I1 r1 n.w rp ((mt px).mono (fun _ _ q => Pb.nxt n q) (fun _ _ q => Pw.nxt n q) q1)) (he _)
theorem s_ifExp {mt : En → M Bool} (hc : STe X Wx c mt) (ha : SE X Wx a ma) (hb : SE X Wx b mb) : SE X Wx (.IfExp c a b pos) (fun env => bnd (mt env) fun t => if t = true then ma env else mb env) :=
  .mk fun pins s σ H F S env Q I er w q => wpAny_IfExp (hc.go I er w q fun d s1 F1 S1 H1 I1 n q1 => by
    cases d with
    | true => exact ha.go I1 (er.mono (n.toSub w)) n.w ((ma env).mono (fun _ _ q => q) (fun _ _ q => Pw.nxt n q) q1) fun v s2 x px F2 S2 H2 I2 r2 n2 rp q2 => fin I2 r2 (n.trans n2) rp q2
    | false => exact hb.go I1 (er.mono (n.toSub w)) n.w ((mb env).mono (fun _ _ q => q) (fun _ _ q => Pw.nxt n q) q1) fun v s2 x px F2 S2 H2 I2 r2 n2 rp q2 => fin I2 r2 (n.trans n2) rp q2)
end
end Dp

namespace Dp
open PySem PySem.Spec L2
open PyProof.Rows hiding St

/-! ### new tuples, their object told -/
abbrev tupO (us : List Value) : Obj := { cls := .type "tuple", data := .seq us.toArray }
abbrev frT (us : List Value) (xs : List V) : HO := .frz (tupO us) (.tup xs)
/-- what is wanted of a new tuple -/
def newT (xs : List V) (H : Hp) (Q : VK) : Prop := ∀ p o, H p = none → o.dict = none → Q (.ref p) (upd H p (.frz o (.tup xs)))
section
variable {X : Cx} {pins : List (Addr × Obj)} {σ : St} {H : Hp} {s : Shared} {xs : List V} {us : List Value}
theorem laidT (I : Inv X pins σ H s) (r : Vals xs us) (hz : xs.length ≤ sizeLine) : Inv X pins σ (upd H s.heap.objs.size (frT us xs)) { s with heap := s.heap.push (tupO us) } :=
  I.laid (t' := s.toks) (o := frT us xs) (fun b ob q => Heap.get?_push_of_some _ q) (Nat.le_refl _) ⟨Heap.get?_push_size _ rfl, hz, us, r, IsTup.new _ _⟩
theorem finT {Q : VK} (I : Inv X pins σ H s) (r : Vals xs us) (hz : xs.length ≤ sizeLine) (q : newT xs H Q) : EP X pins σ Q (.ref s.heap.objs.size) { s with heap := s.heap.push (tupO us) } :=
  ⟨.ref s.heap.objs.size, _, laidT I r hz, rfl, q _ _ (I.hok.fresh (Nat.le_refl _)) rfl⟩
end
/-- a new tuple of values -/
theorem W.layTup {Z : Zs} {F : Addr → Prop} {S : Stt} {H : Hp} (w : W Z F S H) {p : Addr} {o : Obj} {xs : List PV} {vs : List V} (h : H p = none) (hd : o.dict = none) (r : RepL Z F H xs vs) :
    Nxt Z F S H (fun a => F a ∨ (True ∧ a = p)) S (upd H p (.frz o (.tup vs))) ∧ Rep Z (fun a => F a ∨ (True ∧ a = p)) (upd H p (.frz o (.tup vs))) (.tup xs) (.ref p) := by
  have n := w.lay (o := .frz o (.tup vs)) h True fun _ => rfl
  exact ⟨n, .tup (.inl ⟨.inr ⟨trivial, rfl⟩, o, upd_same, hd⟩) (r.nxt w n)⟩
section
variable {X : Cx}
def tTupF (t : TA) : TE := fun σ H Q => t σ H fun xs H1 => xs.length ≤ sizeLine ∧ newT xs H1 Q
theorem pe_tupF {es : List Expr} {t : TA} {x1 : Nat} {pos : Pos} (h : PA X es t) : PE X (.Tuple es x1 pos) (tTupF t) := by
  refine ⟨fun pins s σ H Q I hq => ?_⟩
  refine wpAny_Tuple_spliced (thn (h.run pos pins s σ H _ I hq) fun us s1 ⟨xs, H1, I1, r, z, q⟩ => ⟨by rw [← r.length]; exact z, ?_⟩)
  exact finT I1 r z q
def rCatF (K : PySem.W.Frag) : R2 := fun x y H Q => ∃ a b xs ys, x = .ref a ∧ y = .ref b ∧ SqT K H a xs ∧ SqT K H b ys ∧ xs.length + ys.length ≤ sizeLine ∧
  (xs = [] → Q (.ref b) H) ∧ (xs ≠ [] → ys = [] → Q (.ref a) H) ∧ (xs ≠ [] → ys ≠ [] → newT (xs ++ ys) H Q)
theorem op_catF : OpR X (binaryOp .Add) (rCatF X.K) := by
  intro pins s σ H x y v u Q I rx ry h
  obtain ⟨a, b, xs, ys, rfl, rfl, ha, hb, hz, q0, q1, q2⟩ := h
  cases rx
  cases ry
  obtain ⟨its, r1, p1, _⟩ := I.tuple ha
  obtain ⟨its2, r2, p2, _⟩ := I.tuple hb
  by_cases hx : xs = []
  · subst hx
    cases r1
    exact cat_tup0 p1 p2 ⟨.ref b, H, I, rfl, q0 rfl⟩
  · refine HT.cat_tup p1 p2 (fun z => hx (r1.nil_iff.mp z)) (fun z => ⟨.ref a, H, I, rfl, q1 hx (r2.nil_iff.mp z)⟩) (fun z => ?_) (by rw [← r1.length, ← r2.length]; exact hz)
    exact finT (us := its ++ its2) I (r1.append r2) (by rw [List.length_append]; exact hz) (q2 hx fun w => z (r2.nil_iff.mpr w))
def rSlF (K : PySem.W.Frag) : V → Option Int → Option Int → Hp → VK → Prop := fun x lo hi H Q => ∃ a xs, x = .ref a ∧ SqT K H a xs ∧
  (HT.sIx xs.length 0 lo = 0 ∧ HT.sIx xs.length xs.length hi = xs.length → Q (.ref a) H) ∧ (¬ (HT.sIx xs.length 0 lo = 0 ∧ HT.sIx xs.length xs.length hi = xs.length) → newT (cutV xs lo hi) H Q)
theorem sl_tupF : SlR X (rSlF X.K) := by
  intro pins s σ H x v vl vu lo hi sl Q I rx hs pl pu h
  obtain ⟨a, xs, rfl, hx, q1, q2⟩ := h
  cases rx
  obtain ⟨its, r, ht, hz⟩ := I.tuple hx
  have hlen : its.toArray.size = xs.length := by rw [List.size_toArray]; exact r.length.symm
  refine ⟨"tuple", _, PyProof.Rows.slot_tuple_getitem.lookup, ht.typeIs, ?_⟩
  by_cases hw : HT.sIx xs.length 0 lo = 0 ∧ HT.sIx xs.length xs.length hi = xs.length
  · exact getItem_tuple_whole ht hs pl pu (by rw [hlen]; exact hw) ⟨.ref a, H, I, rfl, q1 hw⟩
  · refine HT.getItem_tuple_cut ht hs pl pu (by rw [hlen]; exact hw) ?_ (by rw [hlen]; exact hz)
    rw [hlen]
    exact finT I ((r.drop (HT.sIx xs.length 0 lo)).take (HT.sIx xs.length xs.length hi - HT.sIx xs.length 0 lo)) (Nat.le_trans (cutV_length xs lo hi) hz) (q2 hw)
theorem call_tupleF : CallR X (.type "tuple") (fun xs H Q => ∃ p ys, xs = [.ref p] ∧ ((SqL X.K H p ys ∧ newT ys H Q) ∨ (SqT X.K H p ys ∧ Q (.ref p) H))) := by
  intro pins s σ H xs us Q I r h
  obtain ⟨p, ys, rfl, h⟩ := h
  obtain ⟨u, rfl, rx⟩ := vals1 r
  cases rx
  rcases h with ⟨hq, q⟩ | ⟨hq, q⟩
  · obtain ⟨its, r', pl, hz⟩ := I.list hq
    have hlen := r'.length
    refine call_tuple_list pl.isList (fun h' kp => ?_) (by simp only [List.size_toArray] <;> omega)
    have I1 : Inv X pins σ H { s with heap := h' } := I.kept (t' := s.toks) kp
    exact finT I1 r' hz q
  · obtain ⟨its, r', pl, hz⟩ := I.tuple hq
    exact call_tuple_same pl ⟨.ref p, H, I, rfl, q⟩
theorem call_divmodF : CallR X (.builtin "divmod") (fun xs H Q => ∃ i j, xs = [.int i, .int j] ∧ CDivP i j ∧ newT [.int (i / j), .int (i % j)] H Q) := by
  intro pins s σ H xs us Q I r h
  obtain ⟨i, j, rfl, ⟨h1, h2⟩, q⟩ := h
  obtain ⟨u, w', rfl, ⟨t, rfl⟩, ⟨t', rfl⟩⟩ := vals2 r
  refine divmod_int (by omega) ?_ (.inl h2)
  rw [Int.fdiv_eq_ediv_of_nonneg i (by omega), Int.fmod_eq_emod_of_nonneg i (by omega)]
  refine ⟨.ref s.heap.objs.size, _, ?_, rfl, q _ (tupO [.int (i / j) s.toks, .int (i % j) (s.toks + 1)]) (I.hok.fresh (Nat.le_refl _)) rfl⟩
  exact I.laid (fun b o e => Heap.get?_push_of_some _ e) (Nat.le_refl _) ⟨Heap.get?_push_size s.heap rfl, by simp only [List.length_cons, List.length_nil]; rw [sizeLine_eq]; decide, [.int (i / j) s.toks, .int (i % j) (s.toks + 1)], .cons ⟨_, rfl⟩ (.cons ⟨_, rfl⟩ .nil), _, Heap.get?_push_size s.heap rfl, rfl, 0, rfl⟩

/-! ### dict(t), t a tuple of pairs -/
theorem pairsB {pins : List (Addr × Obj)} {σ : St} {H : Hp} {s : Shared} (I : Inv X pins σ H s) : ∀ {ps : List Addr} {kvs : List (Key × V)}, Paired (fun p kv => SqT X.K H p [kV kv.1, kv.2]) ps kvs →
    ∃ prs : List (Key × Value), KV kvs prs ∧ prs.length = ps.length ∧ ∀ (j : Nat) (q : Key × Value), prs[j]? = some q → ∃ (b : Addr) (u : Value), ps[j]? = some b ∧ IsTup s.heap b #[u, q.2] ∧ (mixKind X.prog X.w).is q.1 u = true
  | _, _, .nil => ⟨[], .nil, rfl, fun j q e => by simp at e⟩
  | _, _, .cons (a := p) (b := kv) h t => by
    obtain ⟨prs, r, hl, hp⟩ := pairsB I t
    obtain ⟨its, rv, ht, _⟩ := I.tuple h
    obtain ⟨u, y, rfl, ru, ry⟩ := vals2 rv
    refine ⟨(kv.1, y) :: prs, .cons ⟨rfl, ry⟩ r, by rw [List.length_cons, List.length_cons, hl], fun j q e => ?_⟩
    cases j with
    | zero =>
      have e' : (kv.1, y) = q := Option.some.inj e
      subst e'
      exact ⟨p, u, rfl, ht, kV_is (P := X.prog) (w := X.w) ru⟩
    | succ j =>
      obtain ⟨b, u', e1, e2, e3⟩ := hp j q (by simpa using e)
      exact ⟨b, u', by simpa using e1, e2, e3⟩
/-- the tuple's object has no dict -/
def PlnT (K : PySem.W.Frag) (H : Hp) (a : Addr) (xs : List V) : Prop :=
  (∃ o, H a = some (.frz o (.tup xs)) ∧ o.dict = none) ∨ ∃ (o : Obj) (its : Array Value) (n : Nat), K.lookup a = some o ∧ o.cls = .type "tuple" ∧ o.dict = none ∧ o.data = .seq its n ∧ its.size ≤ sizeLine ∧ Vals xs its.toList
theorem PlnT.at {pins : List (Addr × Obj)} {σ : St} {H : Hp} {s : Shared} {a : Addr} {xs : List V} (I : Inv X pins σ H s) (h : PlnT X.K H a xs) : ∃ its, Vals xs its ∧ xs.length ≤ sizeLine ∧ PlainSeq "tuple" s.heap a its.toArray := by
  rcases h with ⟨o, h, hd⟩ | ⟨o, its, n, h1, h2, h3, h4, h5, h6⟩
  · obtain ⟨e1, hz, its, r, o', e2, c, n, d⟩ := I.hok a _ h
    rw [e1] at e2; cases e2
    exact ⟨its, r, hz, o, n, e1, c, hd, d⟩
  · exact ⟨its.toList, h6, by rw [h6.length]; simpa using h5, o, n, I.kIn a o h1, h2, h3, by simpa using h4⟩
theorem call_dictT (hcalm : X.calm = true) : CallR X (.type "dict") (fun xs H Q => ∃ (a : Addr) (ps : List Addr) (kvs : List (Key × V)), xs = [.ref a] ∧ PlnT X.K H a (ps.map V.ref) ∧ Paired (fun p kv => SqT X.K H p [kV kv.1, kv.2]) ps kvs ∧
    ∀ p, H p = none → Q (.ref p) (upd H p (.dK (mergeK [] kvs)))) := by
  intro pins s σ H xs us Q I r q
  obtain ⟨a, ps, kvs, ex, hq, hp, q⟩ := q
  subst ex
  obtain ⟨u, eu, rx⟩ := vals1 r
  subst eu
  cases rx
  obtain ⟨its, rv, hz, pl⟩ := hq.at I
  have ei := refs_at rv
  subst ei
  rw [List.length_map] at hz
  obtain ⟨prs, rel, hl, hpr⟩ := pairsB I hp
  -- the pairs as the library wants them
  have key : ∀ j : Nat, ∃ (b : Addr) (u : Value), ∀ q : Key × Value, prs[j]? = some q → ps[j]? = some b ∧ IsTup s.heap b #[u, q.2] ∧ (mixKind X.prog X.w).is q.1 u = true := fun j => by
    cases e : prs[j]? with
    | none => exact ⟨0, .none, fun q z => by cases z⟩
    | some q =>
      obtain ⟨b, u, h1, h2, h3⟩ := hpr j q e
      exact ⟨b, u, fun q' z => by cases z; exact ⟨h1, h2, h3⟩⟩
  let Ts : Nat → Addr := fun j => Classical.choose (key j)
  let Us : Nat → Value := fun j => Classical.choose (Classical.choose_spec (key j))
  have hk : ∀ (j : Nat) (q : Key × Value), prs[j]? = some q → ps[j]? = some (Ts j) ∧ IsTup s.heap (Ts j) #[Us j, q.2] ∧ (mixKind X.prog X.w).is q.1 (Us j) = true := fun j => Classical.choose_spec (Classical.choose_spec (key j))
  let pv : List (Value × Value) := prs.mapIdx fun j q => (Us j, q.2)
  have hpl : pv.length = prs.length := by simp [pv]
  have hpi : PairItems s.heap (ps.map Value.ref).toArray Ts pv := by
    refine ⟨by simp [hpl, hl], fun j k v e => ?_⟩
    simp only [pv, List.getElem?_mapIdx, Option.map_eq_some_iff] at e
    obtain ⟨q, e1, e2⟩ := e
    cases e2
    obtain ⟨h1, h2, _⟩ := hk j q e1
    exact ⟨by simp [h1], .inl h2⟩
  have hcl : PairsHave (mixKind X.prog X.w) pv.length (PairRel pv) prs := by
    refine ⟨hpl.symm, fun i key v e => ?_⟩
    simp only [PairRel, pv, List.getElem?_mapIdx, Option.map_eq_some_iff] at e
    obtain ⟨q, e1, e2⟩ := e
    cases e2
    exact ⟨q.1, e1, (hk i q e1).2.2⟩
  have hn : pv.length ≤ sizeLine := by rw [hpl, hl]; exact hz
  have hsl := sizeLine_eq
  refine PySem.call_dict_pairs (PairArg.tuple a (ps.map Value.ref).toArray Ts pv) (I.ok.hd hcalm) ⟨pl, hpi⟩ hcl hn fun h' tk hd k => ?_
  have hmr := KV.merge rel (.nil : KV [] [])
  have I1 : Inv X pins σ (upd H s.heap.objs.size (.dK (mergeK [] kvs))) { s with heap := h', toks := tk } := by
    refine I.laid (fun b o e => k b o (by simp) e) (Nat.le_refl _) ⟨?_, ?_, _, hmr, hd⟩
    · refine Nat.le_trans (length_mergeK _ _) ?_
      rw [List.length_nil, Nat.zero_add, rel.length, hl]; exact hz
    · exact beq_eq_false_iff_ne.mpr (Nat.ne_of_gt I.big)
  exact ⟨.ref s.heap.objs.size, _, I1, rfl, q _ (I.hok.fresh (Nat.le_refl _))⟩

/-! ### a sign, some times -/
def repS (x : Str) (n : Nat) : Str := ⟨(List.replicate n x.cps.toList).flatten.toArray⟩
theorem foldl_repA {α : Type} (x : Array α) : ∀ (n : Nat) (acc : Array α), (List.replicate n x).foldl (· ++ ·) acc = acc ++ (List.replicate n x.toList).flatten.toArray
  | 0, acc => by simp
  | n + 1, acc => by
    rw [List.replicate_succ, List.foldl_cons, foldl_repA x n, List.replicate_succ, List.flatten_cons, Array.append_assoc]
    congr 1
    simp
theorem op_repS : OpR X (binaryOp .Mult) (fun x y H Q => ∃ a k, x = .str a ∧ y = .int k ∧ 2 ≤ k ∧ k ≤ 1000 ∧ a.length ≤ 1000 ∧ 1 ≤ a.length ∧ Q (.str (repS a k.toNat)) H) := by
  intro pins s σ H x y v u Q I rx ry h
  obtain ⟨a, k, rfl, rfl, h1, h2, h3, h4, q⟩ := h
  obtain ⟨t, rfl⟩ := rx
  obtain ⟨t', rfl⟩ := ry
  have e1 : ¬ k < 1 := by omega
  have e2 : (k == 1 || a.length == 0) = false := by
    rw [Bool.or_eq_false_iff]; exact ⟨beq_eq_false_iff_ne.mpr (by omega), beq_eq_false_iff_ne.mpr (by omega)⟩
  refine PySem.P.mul_str (by rw [decide_eq_false (by omega), decide_eq_false (by omega)]; rfl) (fun _ _ => ?_) (fun _ _ => ?_) ?_
  · have : (a.length : Int) * k ≤ 1000 * 1000 := Int.le_trans (Int.mul_le_mul_of_nonneg_right (by omega) (by omega)) (Int.mul_le_mul_of_nonneg_left h2 (by omega))
    intro z
    have := Int.lt_mul_of_ediv_lt (by omega) z
    omega
  · have : a.length * k.toNat ≤ 1000 * 1000 := Nat.mul_le_mul (by omega) (by omega)
    unfold Builtin.Str.tooLong
    rw [sizeLine_eq] <;> first | exact decide_eq_false (by omega) | skip
  · rw [if_neg e1, if_neg (by rw [e2]; simp)]
    have e3 : (⟨(List.replicate k.toNat a.cps).foldl (· ++ ·) #[]⟩ : Str) = repS a k.toNat := by
      unfold repS; rw [foldl_repA]; simp
    rw [e3]
    refine ⟨?_, ⟨.str (repS a k.toNat), H, I.tok _, ⟨_, rfl⟩, q⟩⟩
    have hl : (repS a k.toNat).length = k.toNat * a.length := by
      show (repS a k.toNat).cps.size = _
      unfold repS
      simp [Str.length]
    have : k.toNat * a.length ≤ 1000 * 1000 := Nat.mul_le_mul (by omega) (by omega)
    rw [hl, sizeLine_eq]; omega
end
end Dp

namespace Dp
open PySem PySem.Spec L2
open PyProof.Rows hiding St

def guard (p : Prop) : M Unit := ⟨fun S Q _ => p ∧ Q () S, fun h _ q => ⟨q.1, h _ _ q.2⟩⟩
theorem guard_true {α : Type} {p : Prop} {f : Unit → M α} (h : p) : bnd (guard p) f = f () := M.ext fun S Q E => by
  show (p ∧ _) = _
  exact propext ⟨fun q => q.2, fun q => ⟨h, q⟩⟩
/-- an owned list's items, as a list -/
def deref : PV → M PV
  | .ref a => ⟨fun S Q _ => (∃ xs, S a = some (.lst xs) ∧ Q (.lst xs) S) ∨ ((∀ xs, S a ≠ some (.lst xs)) ∧ Q (.ref a) S), fun h _ q => q.imp (fun ⟨xs, e, q⟩ => ⟨xs, e, h _ _ q⟩) fun q => ⟨q.1, h _ _ q.2⟩⟩
  | v => ret v

/-! ### data -/
mutual
def PV.eqv : PV → PV → Bool
  | .non, .non => true
  | .bl a, .bl b => a == b
  | .bl a, .int j => (if a then 1 else 0) == j
  | .int i, .bl b => i == (if b then 1 else 0)
  | .int i, .int j => i == j
  | .str x, .str y => x == y
  | .lst xs, .lst ys => PV.eqvL xs ys
  | .tup xs, .tup ys => PV.eqvL xs ys
  | _, _ => false
def PV.eqvL : List PV → List PV → Bool
  | [], [] => true
  | x :: xs, y :: ys => PV.eqv x y && PV.eqvL xs ys
  | _, _ => false
end
mutual
def PV.dat : PV → PyData
  | .non => .none
  | .bl b => .bool b
  | .int i => .int i
  | .str x => .str x
  | .lst xs => .list (PV.datL xs)
  | .tup xs => .tuple (PV.datL xs)
  | _ => .none
def PV.datL : List PV → List PyData
  | [] => []
  | x :: xs => PV.dat x :: PV.datL xs
end
mutual
/-- plain data of nesting below n -/
def PV.fine : Nat → PV → Bool
  | _, .non => true
  | _, .bl _ => true
  | _, .int _ => true
  | _, .str x => PyData.strOk x
  | 0, .lst _ => false
  | 0, .tup _ => false
  | n + 1, .lst xs => PV.fineL n xs
  | n + 1, .tup xs => PV.fineL n xs
  | _, .loc _ => false
  | _, .ref _ => false
  | _, .fn _ => false
  | _, .ty _ => false
  | _, .clo _ _ _ _ _ => false
  | _, .dct _ _ => false
  | _, .kdc _ _ => false
def PV.fineL : Nat → List PV → Bool
  | _, [] => true
  | n, x :: xs => PV.fine n x && PV.fineL n xs
end
theorem fineL_all {n : Nat} : ∀ {xs : List PV}, PV.fineL n xs = true ↔ ∀ x ∈ xs, PV.fine n x = true
  | [] => by simp [PV.fineL]
  | x :: xs => by simp [PV.fineL, fineL_all (xs := xs)]
mutual
theorem fine_lay : ∀ {n : Nat} {x : PV}, PV.fine n x = true → x.dat.canLay0 = true
  | _, .non, _ => by simp [PV.dat, PyData.canLay0]
  | _, .bl _, _ => by simp [PV.dat, PyData.canLay0]
  | _, .int _, _ => by simp [PV.dat, PyData.canLay0]
  | n, .str x, h => by simpa [PV.dat, PyData.canLay0, PV.fine] using h
  | 0, .lst _, h => by simp [PV.fine] at h
  | 0, .tup _, h => by simp [PV.fine] at h
  | n + 1, .lst xs, h => by simp only [PV.dat, PyData.canLay0]; exact fineL_lay (by simpa [PV.fine] using h)
  | n + 1, .tup xs, h => by simp only [PV.dat, PyData.canLay0]; exact fineL_lay (by simpa [PV.fine] using h)
  | _, .loc _, h => by simp [PV.fine] at h
  | _, .ref _, h => by simp [PV.fine] at h
  | _, .fn _, h => by simp [PV.fine] at h
  | _, .ty _, h => by simp [PV.fine] at h
  | _, .clo _ _ _ _ _, h => by simp [PV.fine] at h
theorem fineL_lay : ∀ {n : Nat} {xs : List PV}, PV.fineL n xs = true → PyData.canLayAll0 (PV.datL xs) = true
  | _, [], _ => by simp [PV.datL, PyData.canLayAll0]
  | n, x :: xs, h => by
    have h' : PV.fine n x = true ∧ PV.fineL n xs = true := by simpa [PV.fineL] using h
    simp only [PV.datL, PyData.canLayAll0, Bool.and_eq_true]
    exact ⟨fine_lay h'.1, fineL_lay h'.2⟩
end
mutual
theorem fine_depth : ∀ {n : Nat} {x : PV}, PV.fine n x = true → x.dat.depth ≤ n + 1
  | _, .non, _ => by simp [PV.dat, PyData.depth]
  | _, .bl _, _ => by simp [PV.dat, PyData.depth]
  | _, .int _, _ => by simp [PV.dat, PyData.depth]
  | n, .str x, h => by simp [PV.dat, PyData.depth]
  | 0, .lst _, h => by simp [PV.fine] at h
  | 0, .tup _, h => by simp [PV.fine] at h
  | n + 1, .lst xs, h => by
    have := fineL_depth (n := n) (xs := xs) (by simpa [PV.fine] using h)
    simp only [PV.dat, PyData.depth]; omega
  | n + 1, .tup xs, h => by
    have := fineL_depth (n := n) (xs := xs) (by simpa [PV.fine] using h)
    simp only [PV.dat, PyData.depth]; omega
  | _, .loc _, h => by simp [PV.fine] at h
  | _, .ref _, h => by simp [PV.fine] at h
  | _, .fn _, h => by simp [PV.fine] at h
  | _, .ty _, h => by simp [PV.fine] at h
  | _, .clo _ _ _ _ _, h => by simp [PV.fine] at h
theorem fineL_depth : ∀ {n : Nat} {xs : List PV}, PV.fineL n xs = true → PyData.depthAll (PV.datL xs) ≤ n + 1
  | _, [], _ => by simp [PV.datL, PyData.depthAll]
  | n, x :: xs, h => by
    have h' : PV.fine n x = true ∧ PV.fineL n xs = true := by simpa [PV.fineL] using h
    have h1 := fine_depth h'.1
    have h2 := fineL_depth h'.2
    simp only [PV.datL, PyData.depthAll]; omega
end
mutual
theorem eqv_dat : ∀ (x y : PV) {n m : Nat}, PV.fine n x = true → PV.fine m y = true → x.dat.eqv y.dat = PV.eqv x y
  | .non, y, _, _, _, hy => by cases y <;> simp [PV.dat, PyData.eqv, PV.eqv, PV.fine] at hy ⊢
  | .bl a, y, _, _, _, hy => by cases y <;> simp [PV.dat, PyData.eqv, PV.eqv, PV.fine] at hy ⊢
  | .int i, y, _, _, _, hy => by cases y <;> simp [PV.dat, PyData.eqv, PV.eqv, PV.fine] at hy ⊢
  | .str x, y, _, _, _, hy => by cases y <;> simp [PV.dat, PyData.eqv, PV.eqv, PV.fine] at hy ⊢
  | .lst xs, y, 0, _, hx, _ => by simp [PV.fine] at hx
  | .tup xs, y, 0, _, hx, _ => by simp [PV.fine] at hx
  | .lst xs, y, n + 1, 0, hx, hy => by cases y <;> simp [PV.dat, PyData.eqv, PV.eqv, PV.fine] at hy ⊢
  | .tup xs, y, n + 1, 0, hx, hy => by cases y <;> simp [PV.dat, PyData.eqv, PV.eqv, PV.fine] at hy ⊢
  | .lst xs, y, n + 1, m + 1, hx, hy => by
    cases y <;> simp [PV.dat, PyData.eqv, PV.eqv, PV.fine] at hx hy ⊢
    exact eqvL_dat _ _ hx hy
  | .tup xs, y, n + 1, m + 1, hx, hy => by
    cases y <;> simp [PV.dat, PyData.eqv, PV.eqv, PV.fine] at hx hy ⊢
    exact eqvL_dat _ _ hx hy
  | .loc _, y, _, _, hx, _ => by simp [PV.fine] at hx
  | .ref _, y, _, _, hx, _ => by simp [PV.fine] at hx
  | .fn _, y, _, _, hx, _ => by simp [PV.fine] at hx
  | .ty _, y, _, _, hx, _ => by simp [PV.fine] at hx
  | .clo _ _ _ _ _, y, _, _, hx, _ => by simp [PV.fine] at hx
theorem eqvL_dat : ∀ (xs ys : List PV) {n m : Nat}, PV.fineL n xs = true → PV.fineL m ys = true → PyData.eqvAll (PV.datL xs) (PV.datL ys) = PV.eqvL xs ys
  | [], [], _, _, _, _ => by simp [PV.datL, PyData.eqvAll, PV.eqvL]
  | [], _ :: _, _, _, _, _ => by simp [PV.datL, PyData.eqvAll, PV.eqvL]
  | _ :: _, [], _, _, _, _ => by simp [PV.datL, PyData.eqvAll, PV.eqvL]
  | x :: xs, y :: ys, n, m, hx, hy => by
    have h1 : PV.fine n x = true ∧ PV.fineL n xs = true := by simpa [PV.fineL] using hx
    have h2 : PV.fine m y = true ∧ PV.fineL m ys = true := by simpa [PV.fineL] using hy
    simp only [PV.datL, PyData.eqvAll, PV.eqvL]
    rw [eqv_dat x y h1.1 h2.1, eqvL_dat xs ys h1.2 h2.2]
end
theorem shaped_fine {n : Nat} {x : PV} (hn : n ≤ 60) (h : PV.fine n x = true) : SeqAt.shaped x.dat = true := by
  unfold SeqAt.shaped
  rw [fine_lay h, Bool.true_and]
  have := fine_depth h
  exact decide_eq_true (by omega)

/-! ### owned lists read at once -/
/-- a value as it lies now -/
inductive RepD (Z : Zs) (F : Addr → Prop) (H : Hp) : PV → V → Prop
  | of {x v} : Rep Z F H x v → RepD Z F H x v
  | now {a xs vs} : H a = some (.lst vs) → RepL Z F H xs vs → RepD Z F H (.lst xs) (.ref a)
section
variable {Z : Zs} {F : Addr → Prop} {S : Stt} {H : Hp}
theorem deref_ok {px : PV} {x : V} (w : W Z F S H) (r : Rep Z F H px x) {Q E} (q : (deref px).run S Q E) : ∃ py, RepD Z F H py x ∧ Q py S := by
  cases px with
  | ref a =>
    cases r
    rcases q with ⟨xs, e, q⟩ | ⟨_, q⟩
    · obtain ⟨vs, h, r⟩ := w.cell a _ e
      exact ⟨_, .now h r, q⟩
    · exact ⟨_, .of (.ref a), q⟩
  | _ => exact ⟨_, .of r, q⟩
theorem RepD.lst {xs v} (r : RepD Z F H (.lst xs) v) : ∃ a vs, v = .ref a ∧ H a = some (.lst vs) ∧ RepL Z F H xs vs := by
  cases r with
  | of r => cases r with | lst t r => exact ⟨_, _, rfl, t.2, r⟩
  | now h r => exact ⟨_, _, rfl, h, r⟩
theorem RepD.rep {x v} (r : RepD Z F H x v) (h : ∀ xs, x ≠ .lst xs) : Rep Z F H x v := by
  cases r with
  | of r => exact r
  | now => exact absurd rfl (h _)
mutual
theorem Rep.dp : ∀ {x : PV} {v : V} {n : Nat}, PV.fine n x = true → Rep Z F H x v → Dp Z.K H v x.dat
  | .non, _, _, _, .non => .non
  | .bl b, _, _, _, .bl _ => .bl b
  | .int i, _, _, _, .int _ => .int i
  | .str x, _, _, _, .str _ => .str x
  | .lst xs, _, 0, h, .lst t r => by simp [PV.fine] at h
  | .tup xs, _, 0, h, .tup t r => by simp [PV.fine] at h
  | .lst xs, _, n + 1, h, .lst t r => .lst t.sq (RepL.dp (n := n) (by simpa [PV.fine] using h) r)
  | .tup xs, _, n + 1, h, .tup t r => .tup t.sq (RepL.dp (n := n) (by simpa [PV.fine] using h) r)
  | .loc _, _, _, h, _ => by simp [PV.fine] at h
  | .ref _, _, _, h, _ => by simp [PV.fine] at h
  | .fn _, _, _, h, _ => by simp [PV.fine] at h
  | .ty _, _, _, h, _ => by simp [PV.fine] at h
  | .clo _ _ _ _ _, _, _, h, _ => by simp [PV.fine] at h
theorem RepL.dp : ∀ {xs : List PV} {vs : List V} {n : Nat}, PV.fineL n xs = true → RepL Z F H xs vs → DpAll Z.K H vs (PV.datL xs)
  | [], _, _, _, .nil => .nil
  | x :: xs, _, n, h, .cons r t => by
    have h' : PV.fine n x = true ∧ PV.fineL n xs = true := by simpa [PV.fineL] using h
    exact .cons (Rep.dp h'.1 r) (RepL.dp h'.2 t)
end
theorem RepD.dp {x : PV} {v : V} {n : Nat} (h : PV.fine n x = true) (r : RepD Z F H x v) : Dp Z.K H v x.dat := by
  cases r with
  | of r => exact r.dp h
  | now e r =>
    cases n with
    | zero => simp [PV.fine] at h
    | succ n => exact .lst (.of e) (r.dp (n := n) (by simpa [PV.fine] using h))
end

/-! ### operators -/
def vAdd : PV → PV → M PV := fun x y => bnd (deref x) fun x => bnd (deref y) fun y => match x, y with
  | .int a, .int b => ret (.int (a + b))
  | .str a, .str b => bnd (guard (a.length + b.length ≤ sizeLine)) fun _ => ret (.str (a ++ b))
  | .tup a, .tup b => bnd (guard (a.length + b.length ≤ sizeLine)) fun _ => ret (.tup (a ++ b))
  | .lst a, .lst b => bnd (guard (a.length + b.length ≤ sizeLine)) fun _ => ret (.lst (a ++ b))
  | _, _ => stuck
def vInt2 (p : Int → Int → Prop) (f : Int → Int → PV) : PV → PV → M PV
  | .int a, .int b => bnd (guard (p a b)) fun _ => ret (f a b)
  | _, _ => stuck
def vSub : PV → PV → M PV := vInt2 (fun _ _ => True) fun a b => .int (a - b)
def vMod : PV → PV → M PV := vInt2 (fun _ b => 0 < b) fun a b => .int (a % b)
def vFDiv : PV → PV → M PV := vInt2 CDivW fun a b => .int (a / b)
def vPow : PV → PV → M PV := vInt2 CPow fun a b => .int (a ^ b.toNat)
def CMulA (a b : Int) : Prop := CMul a b ∨ CMulW a b
def vMul : PV → PV → M PV
  | .int a, .int b => bnd (guard (CMulA a b)) fun _ => ret (.int (a * b))
  | .str a, .int k => bnd (guard (2 ≤ k ∧ k ≤ 1000 ∧ a.length ≤ 1000 ∧ 1 ≤ a.length)) fun _ => ret (.str (repS a k.toNat))
  | .lst xs, .int k => bnd (guard (-(2 ^ 63) ≤ k ∧ k < 2 ^ 63 ∧ xs.length * k.toNat ≤ sizeLine)) fun _ => ret (.lst (List.replicate k.toNat xs).flatten)
  | _, _ => stuck
def vLt : PV → PV → M PV := vInt2 (fun _ _ => True) fun a b => .bl (decide (a < b))
def vLe : PV → PV → M PV := vInt2 (fun _ _ => True) fun a b => .bl (decide (a ≤ b))
def vGt : PV → PV → M PV := vInt2 (fun _ _ => True) fun a b => .bl (decide (b < a))
def vGe : PV → PV → M PV := vInt2 (fun _ _ => True) fun a b => .bl (decide (b ≤ a))
def vNeg : PV → M PV
  | .int a => ret (.int (-a))
  | _ => stuck
def fine2 (x y : PV) : Prop := PV.fine 30 x = true ∧ PV.fine 30 y = true
def vEq : PV → PV → M PV := fun x y => bnd (deref x) fun x => bnd (deref y) fun y => bnd (guard (fine2 x y)) fun _ => ret (.bl (PV.eqv x y))
def vNe : PV → PV → M PV := fun x y => bnd (deref x) fun x => bnd (deref y) fun y => bnd (guard (fine2 x y)) fun _ => ret (.bl (!PV.eqv x y))
def isNon : PV → Bool
  | .non => true
  | _ => false
def vIn (neg : Bool) : PV → PV → M PV := fun x y => bnd (deref y) fun y => match y, x with
  | .lst ys, x => bnd (guard (fine2 x (.lst ys))) fun _ => ret (.bl (neg ^^ ys.any fun y => PV.eqv y x))
  | .tup ys, x => bnd (guard (fine2 x (.tup ys))) fun _ => ret (.bl (neg ^^ ys.any fun y => PV.eqv y x))
  | .str z, .str c => bnd (guard (c.cps.size = 1)) fun _ => ret (.bl (neg ^^ decide (c.cps.getD 0 0 ∈ z.cps.toList)))
  | _, _ => stuck

section
variable {X : Cx} {Wx : WX}
/-- an op by a rule of the hand layer that asks at the values as they are -/
theorem Op2.of {f : Value → Value → Sem Value} {m : PV → PV → M PV} {r : R2} (ho : OpR X f r)
    (h : ∀ (x y : V) (H : Hp) (Q : VK) (F : Addr → Prop) (S : Stt) (px py : PV) (E : Exc → Stt → Prop), W (zs X) F S H → Rep (zs X) F H px x → Rep (zs X) F H py y → (m px py).run S (Pv (zs X) F S H Q) E → r x y H Q) : Op2 X Wx f m :=
  fun pins s σ H x y v u Q F S px py I rx ry w rpx rpy q => ho pins s σ H x y v u Q I rx ry (h x y H Q F S px py _ w rpx rpy q)
theorem Op1.of {f : Value → Sem Value} {m : PV → M PV} {r : V → Hp → VK → Prop} (ho : UnR X f r)
    (h : ∀ (x : V) (H : Hp) (Q : VK) (F : Addr → Prop) (S : Stt) (px : PV) (E : Exc → Stt → Prop), W (zs X) F S H → Rep (zs X) F H px x → (m px).run S (Pv (zs X) F S H Q) E → r x H Q) : Op1 X Wx f m :=
  fun pins s σ H x v Q F S px I rx w rpx q => ho pins s σ H x v Q I rx (h x H Q F S px _ w rpx q)
theorem OpN.of {f : Value} {m : List PV → M PV} {r : List V → Hp → VK → Prop} (ho : CallR X f r)
    (h : ∀ (xs : List V) (H : Hp) (Q : VK) (F : Addr → Prop) (S : Stt) (ps : List PV) (E : Exc → Stt → Prop), W (zs X) F S H → RepL (zs X) F H ps xs → (m ps).run S (Pv (zs X) F S H Q) E → r xs H Q) : OpN X Wx (fun us => call f us) m :=
  fun pins s σ H xs us Q F S ps I rx w rp q => ho pins s σ H xs us Q I rx (h xs H Q F S ps _ w rp q)
theorem o_int2 {f : Value → Value → Sem Value} {C p : Int → Int → Prop} {g : Int → Int → V} {k : Int → Int → PV} (ho : OpR X f (rI C g)) (hp : ∀ a b, p a b → C a b) (hk : ∀ Z F H a b, Rep Z F H (k a b) (g a b)) : Op2 X Wx f (vInt2 p k) :=
  .of ho fun x y H Q F S px py E w rx ry q => by
    cases px with
    | int a =>
      cases py with
      | int b =>
        cases rx; cases ry
        exact ⟨a, b, rfl, rfl, hp a b q.1, q.2 F H _ (Nxt.refl w) (hk _ F H a b)⟩
      | _ => exact q.elim
    | _ => exact q.elim
theorem o_int20 {f : Value → Value → Sem Value} {p : Int → Int → Prop} {g : Int → Int → V} {k : Int → Int → PV} (ho : OpR X f (rI0 g)) (hk : ∀ Z F H a b, Rep Z F H (k a b) (g a b)) : Op2 X Wx f (vInt2 p k) :=
  .of ho fun x y H Q F S px py E w rx ry q => by
    cases px with
    | int a =>
      cases py with
      | int b =>
        cases rx; cases ry
        exact ⟨a, b, rfl, rfl, q.2 F H _ (Nxt.refl w) (hk _ F H a b)⟩
      | _ => exact q.elim
    | _ => exact q.elim
theorem o_sub : Op2 X Wx (binaryOp .Sub) vSub := o_int20 op_sub fun _ _ _ _ _ => .int _
theorem RepL.rep {Z : Zs} {F : Addr → Prop} {H : Hp} {xs : List PV} {vs : List V} (r : RepL Z F H xs vs) : ∀ n : Nat, RepL Z F H (List.replicate n xs).flatten (List.replicate n vs).flatten
  | 0 => .nil
  | n + 1 => by
    rw [List.replicate_succ, List.replicate_succ, List.flatten_cons, List.flatten_cons]
    exact r.append (RepL.rep r n)
theorem o_mul : Op2 X Wx (binaryOp .Mult) vMul := .of (((op_mul.or op_mulW).or op_repS).or op_rep) fun x y H Q F S px py E w rx ry q => by
  unfold vMul at q
  split at q
  · rename_i a b
    cases rx; cases ry
    obtain ⟨h, q⟩ := q
    rcases h with h | h
    · exact .inl (.inl (.inl ⟨a, b, rfl, rfl, h, q F H _ (Nxt.refl w) (.int _)⟩))
    · exact .inl (.inl (.inr ⟨a, b, rfl, rfl, h, q F H _ (Nxt.refl w) (.int _)⟩))
  · rename_i a k
    cases rx; cases ry
    obtain ⟨h, q⟩ := q
    exact .inl (.inr ⟨a, k, rfl, rfl, h.1, h.2.1, h.2.2.1, h.2.2.2, q F H _ (Nxt.refl w) (.str _)⟩)
  · rename_i xs k
    cases ry
    obtain ⟨⟨h1, h2, h3⟩, q⟩ := q
    cases rx with
    | @lst l _ vs t r =>
      rw [r.length] at h3
      refine .inr ⟨l, k, vs, rfl, rfl, t.2, h1, h2, h3, fun p hp => ?_⟩
      have n := w.lay (o := .lst (List.replicate k.toNat vs).flatten) hp True fun _ => rfl
      exact q _ _ _ n (.lst ⟨.inr ⟨trivial, rfl⟩, upd_same⟩ ((r.rep _).nxt w n))
  · exact q.elim
theorem o_mod : Op2 X Wx (binaryOp .Mod) vMod := o_int2 op_mod (fun _ _ h => h) fun _ _ _ _ _ => .int _
theorem o_fdiv : Op2 X Wx (binaryOp .FloorDiv) vFDiv := o_int2 op_fdivW (fun _ _ h => h) fun _ _ _ _ _ => .int _
theorem o_pow : Op2 X Wx (binaryOp .Pow) vPow := o_int2 op_pow (fun _ _ h => h) fun _ _ _ _ _ => .int _
theorem o_lt : Op2 X Wx (compareOp .Lt) vLt := o_int20 op_lt fun _ _ _ _ _ => .bl _
theorem o_le : Op2 X Wx (compareOp .LtE) vLe := o_int20 op_le fun _ _ _ _ _ => .bl _
theorem o_gt : Op2 X Wx (compareOp .Gt) vGt := o_int20 op_gt fun _ _ _ _ _ => .bl _
theorem o_ge : Op2 X Wx (compareOp .GtE) vGe := o_int20 op_ge fun _ _ _ _ _ => .bl _
theorem o_neg : Op1 X Wx (unaryOp .USub) vNeg := .of un_neg fun x H Q F S px E w rx q => by
  cases px with
  | int a => cases rx; exact ⟨a, rfl, q F H _ (Nxt.refl w) (.int _)⟩
  | _ => exact q.elim
theorem o_add : Op2 X Wx (binaryOp .Add) vAdd := .of (((op_add.or op_add_str).or op_catF).or op_cat) fun x y H Q F S px py E w rx ry q => by
  obtain ⟨px', r1, q⟩ := deref_ok w rx q
  obtain ⟨py', r2, q⟩ := deref_ok w ry q
  cases px' with
  | int a =>
    cases py' with
    | int b =>
      cases r1.rep (fun xs e => nomatch e); cases r2.rep (fun xs e => nomatch e)
      exact .inl (.inl (.inl ⟨a, b, rfl, rfl, q F H _ (Nxt.refl w) (.int _)⟩))
    | _ => exact q.elim
  | str a =>
    cases py' with
    | str b =>
      cases r1.rep (fun xs e => nomatch e); cases r2.rep (fun xs e => nomatch e)
      exact .inl (.inl (.inr ⟨a, b, rfl, rfl, q.1, q.2 F H _ (Nxt.refl w) (.str _)⟩))
    | _ => exact q.elim
  | tup a =>
    cases py' with
    | tup b =>
      obtain ⟨hz, q⟩ := q
      cases r1.rep (fun xs e => nomatch e) with
      | @tup l _ vs t r =>
        cases r2.rep (fun xs e => nomatch e) with
        | @tup l2 _ vs2 t2 r' =>
          rw [r.length, r'.length] at hz
          refine .inl (.inr ⟨l, l2, vs, vs2, rfl, rfl, t.sq, t2.sq, hz, fun e => ?_, fun _ e => ?_, fun _ _ p o hp hd => ?_⟩)
          · subst e
            have : a = [] := List.length_eq_zero_iff.mp r.length
            subst this
            exact q F H _ (Nxt.refl w) (.tup t2 r')
          · subst e
            have : b = [] := List.length_eq_zero_iff.mp r'.length
            subst this
            rw [List.append_nil] at q
            exact q F H _ (Nxt.refl w) (.tup t r)
          · have n := w.layTup hp hd (r.append r')
            exact q _ _ _ n.1 n.2
    | _ => exact q.elim
  | lst a =>
    cases py' with
    | lst b =>
      obtain ⟨hz, q⟩ := q
      obtain ⟨l, vs, rfl, h1, r⟩ := r1.lst
      obtain ⟨l2, vs2, rfl, h2, r'⟩ := r2.lst
      rw [r.length, r'.length] at hz
      refine .inr ⟨l, l2, vs, vs2, rfl, rfl, h1, h2, hz, fun p hp => ?_⟩
      have n := w.lay (o := .lst (vs ++ vs2)) hp True fun _ => rfl
      exact q _ _ _ n (.lst ⟨.inr ⟨trivial, rfl⟩, upd_same⟩ ((r.append r').nxt w n))
    | _ => exact q.elim
  | _ => exact q.elim
theorem dpl {Z : Zs} {K : PySem.W.Frag} {H : Hp} {v : V} {ds : List PyData} (h : Dp K H v (.list ds)) : True := trivial
theorem room_in {A : Around} (hu : A.units + 65 < cLine) {x : PV} {ys : List PV} (h1 : PV.fine 30 x = true) : A.units + 1 + min (PyData.depthAll (PV.datL ys)) x.dat.depth < cLine := by
  have := fine_depth h1
  have h2 : min (PyData.depthAll (PV.datL ys)) x.dat.depth ≤ x.dat.depth := Nat.min_le_right _ _
  omega
theorem o_eq (hu : X.A.units + 64 < cLine) : Op2 X Wx (compareOp .Eq) vEq := .of (op_eqD hu) fun x y H Q F S px py E w rx ry q => by
  obtain ⟨px', r1, q⟩ := deref_ok w rx q
  obtain ⟨py', r2, q⟩ := deref_ok w ry q
  obtain ⟨⟨f1, f2⟩, q⟩ := q
  refine ⟨_, _, r1.dp f1, r2.dp f2, shaped_fine (by decide) f1, shaped_fine (by decide) f2, ?_⟩
  rw [eqv_dat _ _ f1 f2]
  exact q F H _ (Nxt.refl w) (.bl _)
theorem o_ne (hu : X.A.units + 64 < cLine) : Op2 X Wx (compareOp .NotEq) vNe := .of (op_neD hu) fun x y H Q F S px py E w rx ry q => by
  obtain ⟨px', r1, q⟩ := deref_ok w rx q
  obtain ⟨py', r2, q⟩ := deref_ok w ry q
  obtain ⟨⟨f1, f2⟩, q⟩ := q
  refine ⟨_, _, r1.dp f1, r2.dp f2, shaped_fine (by decide) f1, shaped_fine (by decide) f2, ?_⟩
  rw [eqv_dat _ _ f1 f2]
  exact q F H _ (Nxt.refl w) (.bl _)
theorem any_dat {x : PV} {n : Nat} (hx : PV.fine n x = true) : ∀ {ys : List PV} {m : Nat}, PV.fineL m ys = true → ((PV.datL ys).any fun d => d.eqv x.dat) = ys.any fun y => PV.eqv y x
  | [], _, _ => rfl
  | y :: ys, m, h => by
    have h' : PV.fine m y = true ∧ PV.fineL m ys = true := by simpa [PV.fineL] using h
    simp only [PV.datL, List.any_cons]
    rw [eqv_dat y x h'.1 hx, any_dat hx h'.2]
theorem op_in_tupD (hu : X.A.units + 65 < cLine) : OpR X (compareOp .In) (fun x y H Q => ∃ px ys, Dp X.K H x (PV.dat px) ∧ Dp X.K H y (.tuple (PV.datL ys)) ∧ PV.fine 30 px = true ∧ PV.fineL 29 ys = true ∧ Q (.bl (ys.any fun y => PV.eqv y px)) H) := by
  intro pins s σ H x y v u Q I rx ry h
  obtain ⟨px, ys, hd, he, f1, f2, q⟩ := h
  obtain ⟨as, r1⟩ := Dp.reads I _ x v hd rx
  obtain ⟨bs, r2⟩ := Dp.reads I _ y u he ry
  refine SeqAt.in_tuple_reads r2 r1 (fineL_lay f2) (fine_lay f1) (room_in hu f1) ⟨.bl _, H, I, rfl, ?_⟩
  rw [any_dat f1 f2]; exact q
theorem op_notIn_tupD (hu : X.A.units + 65 < cLine) : OpR X (compareOp .NotIn) (fun x y H Q => ∃ px ys, Dp X.K H x (PV.dat px) ∧ Dp X.K H y (.tuple (PV.datL ys)) ∧ PV.fine 30 px = true ∧ PV.fineL 29 ys = true ∧ Q (.bl (!ys.any fun y => PV.eqv y px)) H) := by
  intro pins s σ H x y v u Q I rx ry h
  obtain ⟨px, ys, hd, he, f1, f2, q⟩ := h
  obtain ⟨as, r1⟩ := Dp.reads I _ x v hd rx
  obtain ⟨bs, r2⟩ := Dp.reads I _ y u he ry
  refine SeqAt.notIn_tuple_reads r2 r1 (fineL_lay f2) (fine_lay f1) (room_in hu f1) ⟨.bl _, H, I, rfl, ?_⟩
  rw [any_dat f1 f2]; exact q
theorem str_one {c : Str} (h : c.cps.size = 1) : c = ⟨#[c.cps.getD 0 0]⟩ := by
  cases c with
  | mk a =>
    congr
    apply Array.ext
    · simpa using h
    · intro i h1 h2
      have : i = 0 := by simp at h2; exact h2
      subst this
      simp [Array.getD, h1]
theorem o_in (hu : X.A.units + 65 < cLine) : Op2 X Wx (compareOp .In) (vIn false) :=
  .of ((op_in_sign.or (op_inD hu)).or (op_in_tupD hu)) fun x y H Q F S px py E w rx ry q => by
    obtain ⟨py', r2, q⟩ := deref_ok w ry q
    cases py' with
    | lst ys =>
      obtain ⟨⟨f1, f2⟩, q⟩ := q
      have f2' : PV.fineL 29 ys = true := by simpa [PV.fine] using f2
      refine .inl (.inr ⟨_, _, rx.dp f1, r2.dp f2, shaped_fine (by decide) f1, shaped_fine (by decide) f2, ?_⟩)
      rw [any_dat f1 f2']
      have := q F H _ (Nxt.refl w) (.bl _)
      simpa using this
    | tup ys =>
      obtain ⟨⟨f1, f2⟩, q⟩ := q
      have f2' : PV.fineL 29 ys = true := by simpa [PV.fine] using f2
      refine .inr ⟨_, _, rx.dp f1, r2.dp f2, f1, f2', ?_⟩
      have := q F H _ (Nxt.refl w) (.bl _)
      simpa using this
    | str z =>
      cases px with
      | str c =>
        cases rx
        cases r2.rep (fun xs e => nomatch e)
        obtain ⟨h1, q⟩ := q
        have := q F H _ (Nxt.refl w) (.bl _)
        refine .inl (.inl ⟨c.cps.getD 0 0, z, by rw [← str_one h1], rfl, by simpa using this⟩)
      | _ => exact q.elim
    | _ => exact q.elim
theorem o_notIn (hu : X.A.units + 65 < cLine) : Op2 X Wx (compareOp .NotIn) (vIn true) :=
  .of ((op_notIn_sign.or (op_notInD hu)).or (op_notIn_tupD hu)) fun x y H Q F S px py E w rx ry q => by
    obtain ⟨py', r2, q⟩ := deref_ok w ry q
    cases py' with
    | lst ys =>
      obtain ⟨⟨f1, f2⟩, q⟩ := q
      have f2' : PV.fineL 29 ys = true := by simpa [PV.fine] using f2
      refine .inl (.inr ⟨_, _, rx.dp f1, r2.dp f2, shaped_fine (by decide) f1, shaped_fine (by decide) f2, ?_⟩)
      rw [any_dat f1 f2']
      have := q F H _ (Nxt.refl w) (.bl _)
      simpa using this
    | tup ys =>
      obtain ⟨⟨f1, f2⟩, q⟩ := q
      have f2' : PV.fineL 29 ys = true := by simpa [PV.fine] using f2
      refine .inr ⟨_, _, rx.dp f1, r2.dp f2, f1, f2', ?_⟩
      have := q F H _ (Nxt.refl w) (.bl _)
      simpa using this
    | str z =>
      cases px with
      | str c =>
        cases rx
        cases r2.rep (fun xs e => nomatch e)
        obtain ⟨h1, q⟩ := q
        have := q F H _ (Nxt.refl w) (.bl _)
        refine .inl (.inl ⟨c.cps.getD 0 0, z, by rw [← str_one h1], rfl, by simpa using this⟩)
      | _ => exact q.elim
    | _ => exact q.elim
end
end Dp

namespace Dp
open PySem PySem.Spec L2
open PyProof.Rows hiding St

/-! ### truth, len, items, slices -/
def vTruth : PV → M Bool := fun x => bnd (deref x) fun x => match x with
  | .non => ret false
  | .bl b => ret b
  | .int i => ret (i != 0)
  | .str z => bnd (guard (z.length ≤ sizeLine)) fun _ => ret (z.length != 0)
  | .tup xs => ret (!xs.isEmpty)
  | .lst xs => ret (!xs.isEmpty)
  | .loc xs => ret (!xs.isEmpty)
  | _ => stuck
def vLen : PV → M PV := fun x => bnd (deref x) fun x => match x with
  | .str z => bnd (guard (z.length ≤ sizeLine)) fun _ => ret (.int z.length)
  | .tup xs => ret (.int xs.length)
  | .lst xs => ret (.int xs.length)
  | .loc xs => ret (.int xs.length)
  | _ => stuck
def ofO {α : Type} : Option α → M α
  | some a => ret a
  | none => stuck
def keyP : PV → Option Key
  | .int i => some (.inl i)
  | .str x => some (.inr x)
  | _ => none
def dlook : List Key → List PV → Key → Option PV
  | k' :: ks, x :: xs, k => if k' = k then some x else dlook ks xs k
  | _, _, _ => none
def vIdx : PV → PV → M PV := fun x i => bnd (deref x) fun x => match x, i with
  | .tup xs, .int i => ofO (atI xs i)
  | .lst xs, .int i => ofO (atI xs i)
  | .loc xs, .int i => ofO (atI xs i)
  | .str z, .int i => bnd (guard (z.length ≤ sizeLine)) fun _ => bnd (ofO (atI z.cps.toList i)) fun c => ret (.str ⟨#[c]⟩)
  | .dct ks xs, k => bnd (ofO (keyP k)) fun k => ofO (dlook ks xs k)
  | .kdc ks xs, k => bnd (ofO (keyP k)) fun k => ofO (dlook ks xs k)
  | _, _ => stuck
def cutL {α : Type} (xs : List α) (lo hi : Option Int) : List α := (xs.drop (HT.sIx xs.length 0 lo)).take (HT.sIx xs.length xs.length hi - HT.sIx xs.length 0 lo)
def vSlice (lo hi : Option Int) : PV → M PV := fun x => bnd (deref x) fun x => match x with
  | .tup xs => ret (.tup (cutL xs lo hi))
  | .lst xs => ret (.lst (cutL xs lo hi))
  | .loc xs => ret (.lst (cutL xs lo hi))
  | .str z => bnd (guard (z.length ≤ sizeLine)) fun _ => ret (.str (cutS z lo hi))
  | _ => stuck

section
variable {Z : Zs} {F : Addr → Prop} {H : Hp}
theorem RepD.isEmptyL {xs v} (r : RepD Z F H (.lst xs) v) : TruV Z.K v H (!xs.isEmpty) := by
  obtain ⟨a, vs, rfl, h, r⟩ := r.lst
  refine .inl ⟨vs, .of h, ?_⟩
  cases r <;> rfl
theorem RepL.isEmpty {xs : List PV} {vs : List V} (r : RepL Z F H xs vs) : xs.isEmpty = vs.isEmpty := by cases r <;> rfl
theorem RepL.cut {xs : List PV} {vs : List V} (r : RepL Z F H xs vs) (lo hi : Option Int) : RepL Z F H (cutL xs lo hi) (cutV vs lo hi) := by
  unfold cutL cutV
  rw [r.length]
  exact (r.drop _).take _
theorem RepL.atI {xs : List PV} {vs : List V} (r : RepL Z F H xs vs) {i : Int} {x : PV} (h : L2.atI xs i = some x) : ∃ v, L2.atI vs i = some v ∧ Rep Z F H x v := by
  unfold L2.atI at h ⊢
  rw [← r.length]
  cases e : ixN xs.length i with
  | none => rw [e] at h; cases h
  | some j => rw [e] at h; exact r.get h
end

section
variable {X : Cx} {Wx : WX}
theorem o_truth : OpB X Wx truthy vTruth := fun pins s σ H x v Q F S px I rx w rpx q => by
  obtain ⟨py, r, q⟩ := deref_ok w rpx q
  refine tru_ok pins s σ H x v Q I rx ?_
  cases py with
  | non => cases r.rep (fun xs e => nomatch e); exact ⟨false, rfl, q F H (Nxt.refl w)⟩
  | bl b => cases r.rep (fun xs e => nomatch e); exact ⟨b, rfl, q F H (Nxt.refl w)⟩
  | int i => cases r.rep (fun xs e => nomatch e); exact ⟨_, rfl, q F H (Nxt.refl w)⟩
  | str z =>
    cases r.rep (fun xs e => nomatch e)
    have e : (z.length != 0) = (((z.length : Nat) : Int) != 0) := by
      cases h : z.length with
      | zero => rfl
      | succ n => simp; omega
    refine ⟨_, ⟨q.1, rfl⟩, ?_⟩
    rw [← e]; exact q.2 F H (Nxt.refl w)
  | tup xs =>
    cases r.rep (fun xs e => nomatch e) with
    | tup t rl => exact ⟨_, .inr (.inl ⟨_, t.sq, rfl⟩), by rw [← rl.isEmpty]; exact q F H (Nxt.refl w)⟩
  | lst xs => exact ⟨_, r.isEmptyL, q F H (Nxt.refl w)⟩
  | loc xs =>
    cases r.rep (fun xs e => nomatch e) with
    | loc t rl => exact ⟨_, .inl ⟨_, t.sq, rfl⟩, by rw [← rl.isEmpty]; exact q F H (Nxt.refl w)⟩
  | _ => exact q.elim
theorem lenV_of {F S H px x Q E} (w : W (zs X) F S H) (rpx : Rep (zs X) F H px x) (q : (vLen px).run S (Pv (zs X) F S H Q) E) : ∃ n, LenV X.K x H n ∧ Q (.int n) H := by
  obtain ⟨py, r, q⟩ := deref_ok w rpx q
  cases py with
  | str z => cases r.rep (fun xs e => nomatch e); exact ⟨_, ⟨q.1, rfl⟩, q.2 F H _ (Nxt.refl w) (.int _)⟩
  | tup xs =>
    cases r.rep (fun xs e => nomatch e) with
    | tup t rl => exact ⟨_, .inr ⟨_, t.sq, rfl⟩, by rw [← rl.length]; exact q F H _ (Nxt.refl w) (.int _)⟩
  | lst xs =>
    obtain ⟨a, vs, rfl, h, r⟩ := r.lst
    exact ⟨_, .inl ⟨_, .of h, rfl⟩, by rw [← r.length]; exact q F H _ (Nxt.refl w) (.int _)⟩
  | loc xs =>
    cases r.rep (fun xs e => nomatch e) with
    | loc t rl => exact ⟨_, .inl ⟨_, t.sq, rfl⟩, by rw [← rl.length]; exact q F H _ (Nxt.refl w) (.int _)⟩
  | _ => exact q.elim
/-! ### subscripts -/
def notSlice : Expr → Bool
  | .Slice .. => false
  | _ => true
theorem ofO_some {α : Type} {o : Option α} {S : Stt} {Q : α → Stt → Prop} {E : Exc → Stt → Prop} (q : (ofO o).run S Q E) : ∃ a, o = some a ∧ Q a S := by
  cases o with
  | none => exact q.elim
  | some a => exact ⟨a, rfl, q⟩
theorem keyP_rep {Z F H} {x : PV} {v : V} {k : Key} (h : keyP x = some k) (r : Rep Z F H x v) : v = kV k := by
  cases r <;> simp [keyP] at h <;> subst h <;> rfl
theorem dlook_rep {Z F H} : ∀ {ks : List Key} {xs : List PV} {vs : List V} {k : Key} {x : PV}, RepL Z F H xs vs → dlook ks xs k = some x → ∃ v, valV (ks.zip vs) k = some v ∧ Rep Z F H x v
  | k' :: ks, x' :: xs, v' :: vs, k, x, .cons r t, h => by
    unfold dlook at h
    by_cases e : k' = k
    · rw [if_pos e] at h; cases h
      exact ⟨v', valV_pos e, r⟩
    · rw [if_neg e] at h
      obtain ⟨v, h1, h2⟩ := dlook_rep (ks := ks) t h
      exact ⟨v, by rw [List.zip_cons_cons, valV_neg e]; exact h1, h2⟩
  | [], _, _, _, _, _, h => by simp [dlook] at h
  | _ :: _, [], _, _, _, _, h => by simp [dlook] at h
theorem dlook_none {Z F H} : ∀ {ks : List Key} {xs : List PV} {vs : List V} {k : Key}, RepL Z F H xs vs → ks.length = xs.length → dlook ks xs k = none → valV (ks.zip vs) k = none
  | [], _, _, _, _, _, _ => rfl
  | k' :: ks, x' :: xs, v' :: vs, k, .cons r t, hl, h => by
    unfold dlook at h
    by_cases e : k' = k
    · rw [if_pos e] at h; cases h
    · rw [if_neg e] at h
      rw [List.zip_cons_cons, valV_neg e]
      exact dlook_none t (by simpa using hl) h
  | _ :: _, [], _, _, _, hl, _ => by simp at hl
theorem ix_dget (hu : X.A.units + 1 < cLine) : IxR X (fun x y H Q => ∃ a v, x = .ref a ∧ DGet H a y (some v) ∧ Q v H) := by
  intro value slice pins s σ H x y v u Q I rx ry h hs
  obtain ⟨a, z, rfl, g, q⟩ := h
  obtain rfl : v = Value.ref a := rx
  exact tail_any (dict_typeIs I g) slot_dict_getitem.lookup (d_getItem hu I g ry fun w' s' I' r' => ⟨z, H, I', r', q⟩) hs
theorem plainIx {b : Expr} (h : notSlice b = true) : PlainIx b := by
  intro o i
  cases b <;> first | rfl | (cases h)
theorem s_ix {a b : Expr} {ma mb : En → M PV} {pos : Pos} (hu : X.A.units + 1 < cLine) (ha : SE X Wx a ma) (hb : SE X Wx b mb) (hs : PlainIx b) : SE X Wx (.Subscript a b pos) (fun env => bnd (ma env) fun x => bnd (mb env) fun y => vIdx x y) :=
  ⟨fun pins s σ H Q I ⟨F, S, env, er, w, q⟩ => by
    refine (pe_ix (pos := pos) (ix_seq.or ((ix_dget hu).or ix_kdict)) ha hb hs).run pins s σ H Q I ?_
    refine ⟨F, S, env, er, w, (ma env).mono (fun px S1 q F1 H1 x n1 r1 => ?_) (fun _ _ q => q) q⟩
    refine ⟨F1, S1, env, er.mono (n1.toSub w), n1.w, (mb env).mono (fun py S2 q F2 H2 y n2 r2 => ?_) (fun _ _ q => Pw.nxt n1 q) q⟩
    have n := n1.trans n2
    obtain ⟨pz, r, q⟩ := deref_ok n.w (r1.nxt n1.w n2) q
    cases pz with
    | tup xs =>
      cases py with
      | int i =>
        cases r2
        cases r.rep (fun xs e => nomatch e) with
        | tup t rl =>
          cases e : L2.atI xs i with
          | none => simp only [e] at q; exact q.elim
          | some z =>
            simp only [e] at q
            obtain ⟨v, e', rv⟩ := rl.atI e
            exact .inl (.inr (.inl ⟨_, _, i, v, rfl, rfl, t.sq, e', q F2 H2 v n rv⟩))
      | _ => exact q.elim
    | lst xs =>
      cases py with
      | int i =>
        cases r2
        obtain ⟨a', vs, rfl, h, rl⟩ := r.lst
        cases e : L2.atI xs i with
        | none => simp only [e] at q; exact q.elim
        | some z =>
          simp only [e] at q
          obtain ⟨v, e', rv⟩ := rl.atI e
          exact .inl (.inl ⟨_, _, i, v, rfl, rfl, .of h, e', q F2 H2 v n rv⟩)
      | _ => exact q.elim
    | loc xs =>
      cases py with
      | int i =>
        cases r2
        cases r.rep (fun xs e => nomatch e) with
        | loc t rl =>
          cases e : L2.atI xs i with
          | none => simp only [e] at q; exact q.elim
          | some z =>
            simp only [e] at q
            obtain ⟨v, e', rv⟩ := rl.atI e
            exact .inl (.inl ⟨_, _, i, v, rfl, rfl, t.sq, e', q F2 H2 v n rv⟩)
      | _ => exact q.elim
    | str z =>
      cases py with
      | int i =>
        cases r2
        cases r.rep (fun xs e => nomatch e)
        obtain ⟨hz, q⟩ := q
        cases e : L2.atI z.cps.toList i with
        | none => simp only [e] at q; exact q.elim
        | some c =>
          simp only [e] at q
          exact .inl (.inr (.inr ⟨z, i, c, rfl, rfl, hz, e, q F2 H2 _ n (.str _)⟩))
      | _ => exact q.elim
    | dct ks xs =>
      obtain ⟨k, hk, q⟩ := ofO_some q
      obtain ⟨z, hz, q3⟩ := ofO_some q
      have ek := keyP_rep hk r2
      subst ek
      cases r.rep (fun xs e => nomatch e) with
      | dct t h hl rl =>
        obtain ⟨v, e', rv⟩ := dlook_rep rl hz
        exact .inr (.inl ⟨_, v, rfl, by rw [← e']; exact DGet.k h, q3 F2 H2 v n rv⟩)
    | kdc ks xs =>
      obtain ⟨k, hk, q⟩ := ofO_some q
      obtain ⟨z, hz, q3⟩ := ofO_some q
      have ek := keyP_rep hk r2
      subst ek
      cases r.rep (fun xs e => nomatch e) with
      | kdc t rl =>
        obtain ⟨v, e', rv⟩ := dlook_rep rl hz
        obtain ⟨⟨es, n', D⟩, hd⟩ := t
        obtain ⟨z', u, rfl, h1, h2⟩ := hd _ _ e'
        exact .inr (.inr ⟨_, z', v, rfl, rfl, ⟨es, n', u, D.at_, D.lit, h1, h2⟩, q3 F2 H2 v n rv⟩)
    | _ => exact q.elim⟩
def SOx (X : Cx) (Wx : WX) (o : Option Expr) (m : En → M (Option Int)) : Prop := PO X o (fun σ H Q => ∃ F S env, EnvR (zs X) F H env σ ∧ W (zs X) F S H ∧ (m env).run S (fun o S' => ∀ F' H', Nxt (zs X) F S H F' S' H' → Q o H') (Pw (zs X) F S H [] σ Wx))
theorem so_none : SOx X Wx none (fun _ => ret none) := ⟨fun pins s σ H Q I ⟨F, S, env, er, w, q⟩ => po_none.run pins s σ H Q I (q F H (Nxt.refl w))⟩
def vPart : PV → M (Option Int)
  | .int i => ret (some i)
  | _ => stuck
theorem so_some {e : Expr} {m : En → M PV} (he : SE X Wx e m) : SOx X Wx (some e) (fun env => bnd (m env) vPart) := ⟨fun pins s σ H Q I ⟨F, S, env, er, w, q⟩ => by
  refine (po_some he).run pins s σ H Q I ⟨F, S, env, er, w, (m env).mono (fun px S1 q F1 H1 x n1 r1 => ?_) (fun _ _ q => q) q⟩
  cases px with
  | int i => cases r1; exact ⟨i, rfl, q F1 H1 n1⟩
  | _ => exact q.elim⟩
theorem SlR.or {r r' : V → Option Int → Option Int → Hp → VK → Prop} (h : SlR X r) (h' : SlR X r') : SlR X (fun x lo hi H Q => r x lo hi H Q ∨ r' x lo hi H Q) :=
  fun pins s σ H x v vl vu lo hi sl Q I rx hsl p1 p2 q => q.elim (h pins s σ H x v vl vu lo hi sl Q I rx hsl p1 p2) (h' pins s σ H x v vl vu lo hi sl Q I rx hsl p1 p2)
theorem s_slice {a : Expr} {lo hi : Option Expr} {ma : En → M PV} {ml mh : En → M (Option Int)} {pos p2 : Pos} (ha : SE X Wx a ma) (hl : SOx X Wx lo ml) (hh : SOx X Wx hi mh) :
    SE X Wx (.Subscript a (.Slice lo hi none p2) pos) (fun env => bnd (ma env) fun x => bnd (ml env) fun l => bnd (mh env) fun h => vSlice l h x) :=
  ⟨fun pins s σ H Q I ⟨F, S, env, er, w, q⟩ => by
    refine (pe_slice (pos := pos) (p2 := p2) (SlR.or (SlR.or sl_tupF sl_list) sl_str) ha hl hh).run pins s σ H Q I ?_
    refine ⟨F, S, env, er, w, (ma env).mono (fun px S1 q F1 H1 x n1 r1 => ?_) (fun _ _ q => q) q⟩
    refine ⟨F1, S1, env, er.mono (n1.toSub w), n1.w, (ml env).mono (fun l S2 q F2 H2 n2 => ?_) (fun _ _ q => Pw.nxt n1 q) q⟩
    have n12 := n1.trans n2
    refine ⟨F2, S2, env, er.mono (n12.toSub w), n12.w, (mh env).mono (fun h S3 q F3 H3 n3 => ?_) (fun _ _ q => Pw.nxt n12 q) q⟩
    have n := n12.trans n3
    obtain ⟨pz, r, q⟩ := deref_ok n.w (r1.nxt n1.w (n2.trans n3)) q
    cases pz with
    | tup xs =>
      cases r.rep (fun xs e => nomatch e) with
      | @tup a' _ vs t rl =>
        refine .inl (.inl ⟨a', vs, rfl, t.sq, fun e => ?_, fun _ p o hp hd => ?_⟩)
        · have ec : cutV vs l h = vs := by unfold cutV; rw [e.1, e.2]; simp
          refine q F3 H3 _ n (.tup t ?_)
          have := rl.cut l h
          rw [ec] at this; exact this
        · have n' := n.w.layTup hp hd (rl.cut l h)
          exact q _ _ _ (n.trans n'.1) n'.2
    | lst xs =>
      obtain ⟨a', vs, rfl, e, rl⟩ := r.lst
      refine .inl (.inr ⟨a', vs, rfl, .of e, fun p hp => ?_⟩)
      have n' := n.w.lay (o := .lst (cutV vs l h)) hp True fun _ => rfl
      exact q _ _ _ (n.trans n') (.lst ⟨.inr ⟨trivial, rfl⟩, upd_same⟩ ((rl.cut l h).nxt n.w n'))
    | loc xs =>
      cases r.rep (fun xs e => nomatch e) with
      | @loc a' _ vs t rl =>
        refine .inl (.inr ⟨a', vs, rfl, t.sq, fun p hp => ?_⟩)
        have n' := n.w.lay (o := .lst (cutV vs l h)) hp True fun _ => rfl
        exact q _ _ _ (n.trans n') (.lst ⟨.inr ⟨trivial, rfl⟩, upd_same⟩ ((rl.cut l h).nxt n.w n'))
    | str z =>
      obtain ⟨hz, q⟩ := q
      cases r.rep (fun xs e => nomatch e)
      exact .inr ⟨z, rfl, hz, q F3 H3 _ n (.str _)⟩
    | _ => exact q.elim⟩

/-! ### argument lists, displays -/
theorem sa_nil : SA X Wx [] (fun _ => ret []) := ⟨fun pos pins s σ H Q I ⟨F, S, env, er, w, q⟩ => pa_nil.run pos pins s σ H Q I (q F H _ (Nxt.refl w) .nil)⟩
def notStar : Expr → Bool
  | .Starred .. => false
  | _ => true
theorem starEach_not {e : Expr} {es : List Expr} {env : Env} (h : notStar e = true) : starEach (e :: es) env = (false, eval e env) :: starEach es env := by
  cases e <;> first | rfl | cases h
theorem sa_cons {e : Expr} {es : List Expr} {m : En → M PV} {ms : En → M (List PV)} (he : SE X Wx e m) (hr : SA X Wx es ms) (hs : notStar e = true) : SA X Wx (e :: es) (fun env => bnd (m env) fun x => bnd (ms env) fun xs => ret (x :: xs)) :=
  ⟨fun pos pins s σ H Q I ⟨F, S, env, er, w, q⟩ => by
    refine (pa_cons he hr (starEach_not hs)).run pos pins s σ H Q I ?_
    refine ⟨F, S, env, er, w, (m env).mono (fun px S1 q F1 H1 x n1 r1 => ?_) (fun _ _ q => q) q⟩
    refine ⟨F1, S1, env, er.mono (n1.toSub w), n1.w, (ms env).mono (fun pxs S2 q F2 H2 xs n2 r2 => ?_) (fun _ _ q => Pw.nxt n1 q) q⟩
    exact q F2 H2 _ (n1.trans n2) (.cons (r1.nxt n1.w n2) r2)⟩
/-- the items of a list or a tuple -/
def vItems : PV → M (List PV) := fun x => bnd (deref x) fun x => match x with
  | .tup xs => ret xs
  | .lst xs => ret xs
  | .loc xs => ret xs
  | _ => stuck
theorem items_ok {F S H px x Q E} (w : W (zs X) F S H) (rpx : Rep (zs X) F H px x) (q : (vItems px).run S Q E) : ∃ a ps vs, x = .ref a ∧ (SqT X.K H a vs ∨ SqL X.K H a vs) ∧ RepL (zs X) F H ps vs ∧ Q ps S := by
  obtain ⟨py, r, q⟩ := deref_ok w rpx q
  cases py with
  | tup xs =>
    cases r.rep (fun xs e => nomatch e) with
    | tup t rl => exact ⟨_, _, _, rfl, .inl t.sq, rl, q⟩
  | lst xs =>
    obtain ⟨a, vs, rfl, h, r⟩ := r.lst
    exact ⟨_, _, _, rfl, .inr (.of h), r, q⟩
  | loc xs =>
    cases r.rep (fun xs e => nomatch e) with
    | loc t rl => exact ⟨_, _, _, rfl, .inr t.sq, rl, q⟩
  | _ => exact q.elim
theorem sa_star {e : Expr} {es : List Expr} {m : En → M PV} {ms : En → M (List PV)} {p : Pos} (he : SE X Wx e m) (hr : SA X Wx es ms) : SA X Wx (.Starred e p :: es) (fun env => bnd (m env) fun x => bnd (vItems x) fun ys => bnd (ms env) fun xs => ret (ys ++ xs)) :=
  ⟨fun pos pins s σ H Q I ⟨F, S, env, er, w, q⟩ => by
    refine (StX.pa_star he hr).run pos pins s σ H Q I ?_
    refine ⟨F, S, env, er, w, (m env).mono (fun px S1 q F1 H1 x n1 r1 => ?_) (fun _ _ q => q) q⟩
    obtain ⟨a, ps, vs, rfl, hs, rl, q⟩ := items_ok n1.w r1 q
    refine ⟨a, vs, rfl, hs, ?_⟩
    refine ⟨F1, S1, env, er.mono (n1.toSub w), n1.w, (ms env).mono (fun pxs S2 q F2 H2 xs n2 r2 => ?_) (fun _ _ q => Pw.nxt n1 q) q⟩
    exact q F2 H2 _ (n1.trans n2) ((rl.nxt n1.w n2).append r2)⟩
def mkTup (xs : List PV) : M PV := bnd (guard (xs.length ≤ sizeLine)) fun _ => ret (.tup xs)
def mkLst (xs : List PV) : M PV := bnd (guard (xs.length ≤ sizeLine)) fun _ => ret (.lst xs)
/-- a new owned list -/
def mkOwn (xs : List PV) : M PV := ⟨fun S Q _ => xs.length ≤ sizeLine ∧ ∀ p, S p = none → Q (.ref p) (put S p (.lst xs)), fun h _ q => ⟨q.1, fun p e => h _ _ (q.2 p e)⟩⟩
section
variable {F : Addr → Prop} {S S1 : Stt} {H H1 : Hp} {Q : VK} {F1 : Addr → Prop} {ps : List PV} {vs : List V}
theorem lay_tup (n : Nxt (zs X) F S H F1 S1 H1) (r : RepL (zs X) F1 H1 ps vs) (q : Pv (zs X) F S H Q (.tup ps) S1) : newT vs H1 Q := fun p o hp hd => by
  have n' := n.w.layTup hp hd r
  exact q _ _ _ (n.trans n'.1) n'.2
theorem lay_lst (n : Nxt (zs X) F S H F1 S1 H1) (r : RepL (zs X) F1 H1 ps vs) (q : Pv (zs X) F S H Q (.lst ps) S1) {p : Addr} (hp : H1 p = none) : Q (.ref p) (upd H1 p (.lst vs)) := by
  have n' := n.w.lay (o := .lst vs) hp True fun _ => rfl
  exact q _ _ _ (n.trans n') (.lst ⟨.inr ⟨trivial, rfl⟩, upd_same⟩ (r.nxt n.w n'))
end
theorem s_tup {es : List Expr} {ms : En → M (List PV)} {k : Nat} {pos : Pos} (h : SA X Wx es ms) : SE X Wx (.Tuple es k pos) (fun env => bnd (ms env) mkTup) :=
  ⟨fun pins s σ H Q I ⟨F, S, env, er, w, q⟩ => (pe_tupF h).run pins s σ H Q I ⟨F, S, env, er, w, (ms env).mono (fun ps S1 q F1 H1 vs n r => ⟨by rw [← r.length]; exact q.1, lay_tup n r q.2⟩) (fun _ _ q => q) q⟩⟩
theorem s_lst {es : List Expr} {ms : En → M (List PV)} {pos : Pos} (h : SA X Wx es ms) : SE X Wx (.List es pos) (fun env => bnd (ms env) mkLst) :=
  ⟨fun pins s σ H Q I ⟨F, S, env, er, w, q⟩ => (pe_lst h).run pins s σ H Q I ⟨F, S, env, er, w, (ms env).mono (fun ps S1 q F1 H1 vs n r => ⟨by rw [← r.length]; exact q.1, fun p hp => lay_lst n r q.2 hp⟩) (fun _ _ q => q) q⟩⟩
theorem s_own {es : List Expr} {ms : En → M (List PV)} {pos : Pos} (h : SA X Wx es ms) : SE X Wx (.List es pos) (fun env => bnd (ms env) mkOwn) :=
  ⟨fun pins s σ H Q I ⟨F, S, env, er, w, q⟩ => (pe_lst h).run pins s σ H Q I ⟨F, S, env, er, w, (ms env).mono (fun ps S1 q F1 H1 vs n r => ⟨by rw [← r.length]; exact q.1, fun p hp => by
    have n' := n.w.layOwn hp r
    exact q.2 p (n.w.fresh_S hp) _ _ _ (n.trans n') (.ref p)⟩) (fun _ _ q => q) q⟩⟩

/-! ### and, or, not; tests -/
variable {a b c : Expr} {ma mb : En → M PV} {mta mtb : En → M Bool} {rest : List Expr} {pos : Pos}
def vAnd (x : PV) (k : M PV) : M PV := bnd (vTruth x) fun t => if t = true then k else ret x
def vOr (x : PV) (k : M PV) : M PV := bnd (vTruth x) fun t => if t = true then ret x else k
theorem s_one {op} (h : SE X Wx a ma) : SE X Wx (.BoolOp op [a] pos) ma := ⟨fun pins s σ H Q I hw => (pe_one h).run pins s σ H Q I hw⟩
theorem tru_go {pins : List (Addr × Obj)} {s : Shared} {σ : St} {H : Hp} {x : V} {v : Value} {F : Addr → Prop} {S : Stt} {px : PV} (I : Inv X pins σ H s) (rx : RelV x v) (w : W (zs X) F S H) (rp : Rep (zs X) F H px x) {R : Bool → Stt → Prop} (q : (vTruth px).run S R (Pw (zs X) F S H [] σ Wx))
    {Qf : Bool → Shared → Prop} (hk : ∀ b s1 F1 S1 H1, Inv X pins σ H1 s1 → Nxt (zs X) F S H F1 S1 H1 → R b S1 → Qf b s1) : wpAny (model X.prog X.w) X.A (truthy v) Qf X.xe s :=
  thn (o_truth (Wx := Wx) pins s σ H x v (fun b H1 => ∃ F1 S1, Nxt (zs X) F S H F1 S1 H1 ∧ R b S1) F S px I rx w rp ((vTruth px).mono (fun b S1 r F1 H1 n => ⟨F1, S1, n, r⟩) (fun _ _ q => q) q))
    fun b s1 ⟨H1, I1, F1, S1, n, r⟩ => hk b s1 F1 S1 H1 I1 n r
theorem s_and (ha : SE X Wx a ma) (hb : SE X Wx (.BoolOp .And (b :: rest) pos) mb) : SE X Wx (.BoolOp .And (a :: b :: rest) pos) (fun env => bnd (ma env) fun x => vAnd x (mb env)) :=
  .mk fun pins s σ H F S env Q I er w q => BoolOp_and (ha.go I er w q fun v s1 x px F1 S1 H1 I1 r1 n rp q1 => by
    refine tru_go I1 r1 n.w rp ((vTruth px).mono (fun _ _ q => q) (fun _ _ q => Pw.nxt n q) q1) fun t s2 F2 S2 H2 I2 n2 q2 => ?_
    have n' := n.trans n2
    cases t with
    | true => exact hb.go I2 (er.mono (n'.toSub w)) n'.w ((mb env).mono (fun _ _ q => q) (fun _ _ q => Pw.nxt n' q) q2) fun v s3 y py F3 S3 H3 I3 r3 n3 rp3 q3 => fin I3 r3 (n'.trans n3) rp3 q3
    | false => exact fin I2 r1 n' (rp.nxt n.w n2) q2)
theorem s_or (ha : SE X Wx a ma) (hb : SE X Wx (.BoolOp .Or (b :: rest) pos) mb) : SE X Wx (.BoolOp .Or (a :: b :: rest) pos) (fun env => bnd (ma env) fun x => vOr x (mb env)) :=
  .mk fun pins s σ H F S env Q I er w q => BoolOp_or (ha.go I er w q fun v s1 x px F1 S1 H1 I1 r1 n rp q1 => by
    refine tru_go I1 r1 n.w rp ((vTruth px).mono (fun _ _ q => q) (fun _ _ q => Pw.nxt n q) q1) fun t s2 F2 S2 H2 I2 n2 q2 => ?_
    have n' := n.trans n2
    cases t with
    | false => exact hb.go I2 (er.mono (n'.toSub w)) n'.w ((mb env).mono (fun _ _ q => q) (fun _ _ q => Pw.nxt n' q) q2) fun v s3 y py F3 S3 H3 I3 r3 n3 rp3 q3 => fin I3 r3 (n'.trans n3) rp3 q3
    | true => exact fin I2 r1 n' (rp.nxt n.w n2) q2)
theorem s_not (ha : STe X Wx a mta) (he : eval (.UnaryOp .Not a pos) X.env = eval (.UnaryOp .Not a pos) X.env := rfl) : STe X Wx (.UnaryOp .Not a pos) (fun env => bnd (mta env) fun t => ret (!t)) :=
  ⟨fun pins s σ H Q I ⟨F, S, env, er, w, q⟩ => (pt_not ha).run pins s σ H Q I ⟨F, S, env, er, w, q⟩⟩
def vNot (x : PV) : M PV := bnd (vTruth x) fun t => ret (.bl !t)
theorem o_not : Op1 X Wx (unaryOp .Not) vNot := fun pins s σ H x v Q F S px I rx w rp q =>
  not_of (tru_go I rx w rp q fun t s1 F1 S1 H1 I1 n q1 => fin (x := V.bl (!t)) I1 rfl n (.bl _) q1)
/-- a test of one kind: what isTrue makes of and, or -/
def STw (X : Cx) (Wx : WX) (e : Expr) (m : En → M Bool) : Prop := PW X e (tT (zs X) Wx m)
theorem w_and1 (ha : STe X Wx a mta) : STw X Wx (.BoolOp .And [a] pos) mta := pw_and1 ha
theorem w_or1 (ha : STe X Wx a mta) : STw X Wx (.BoolOp .Or [a] pos) mta := pw_or1 ha
theorem w_and (ha : STe X Wx a mta) (hb : STw X Wx (.BoolOp .And (b :: rest) pos) mtb) : STw X Wx (.BoolOp .And (a :: b :: rest) pos) (fun env => bnd (mta env) fun t => if t = true then mtb env else ret false) :=
  ⟨fun wh pins s σ H Q I ⟨F, S, env, er, w, q⟩ => (pw_and ha hb).run wh pins s σ H Q I ⟨F, S, env, er, w, (mta env).mono (fun t S1 q F1 H1 n => by
    cases t with
    | true => exact ⟨F1, S1, env, er.mono (n.toSub w), n.w, (mtb env).mono (fun _ _ q => Pb.nxt n q) (fun _ _ q => Pw.nxt n q) q⟩
    | false => exact q F1 H1 n) (fun _ _ q => q) q⟩⟩
theorem w_or (ha : STe X Wx a mta) (hb : STw X Wx (.BoolOp .Or (b :: rest) pos) mtb) : STw X Wx (.BoolOp .Or (a :: b :: rest) pos) (fun env => bnd (mta env) fun t => if t = true then ret true else mtb env) :=
  ⟨fun wh pins s σ H Q I ⟨F, S, env, er, w, q⟩ => (pw_or ha hb).run wh pins s σ H Q I ⟨F, S, env, er, w, (mta env).mono (fun t S1 q F1 H1 n => by
    cases t with
    | false => exact ⟨F1, S1, env, er.mono (n.toSub w), n.w, (mtb env).mono (fun _ _ q => Pb.nxt n q) (fun _ _ q => Pw.nxt n q) q⟩
    | true => exact q F1 H1 n) (fun _ _ q => q) q⟩⟩
theorem s_tcmp {op : CmpOp} {m : PV → PV → M PV} (ho : Op2 X Wx (compareOp op) m) (ha : SE X Wx a ma) (hb : SE X Wx b mb) (hm : behindInMarks op b = false) : STe X Wx (.Compare a [op] [b] pos) (fun env => bnd (ma env) fun x => bnd (mb env) fun y => bnd (m x y) vTruth) :=
  .mk fun pins s σ H F S env Q I er w q => by
    refine wpAny_isTrue_Compare1 (two ha hb I er w (R := fun px py S2 => (m px py).run S2 (fun pz S3 => (vTruth pz).run S3 (Pb (zs X) F S H Q) (Pw (zs X) F S H [] σ Wx)) (Pw (zs X) F S H [] σ Wx)) q fun v u s2 x y px py F2 S2 H2 I2 r1 r2 n rp1 rp2 q2 => ?_) hm
    refine thn (ho pins s2 σ H2 x y v u (fun z H3 => ∃ F3 S3 pz, Nxt (zs X) F2 S2 H2 F3 S3 H3 ∧ Rep (zs X) F3 H3 pz z ∧ (vTruth pz).run S3 (Pb (zs X) F S H Q) (Pw (zs X) F S H [] σ Wx)) F2 S2 px py I2 r1 r2 n.w rp1 rp2
      ((m px py).mono (fun pz S3 r F3 H3 z n3 r3 => ⟨F3, S3, pz, n3, r3, r⟩) (fun _ _ q => Pw.nxt n q) q2)) fun c s3 ⟨z, H3, I3, r3, F3, S3, pz, n3, rp3, q3⟩ => ?_
    have n' := n.trans n3
    exact tru_go I3 r3 n'.w rp3 ((vTruth pz).mono (fun _ _ q => q) (fun _ _ q => Pw.nxt n' q) q3) fun t s4 F4 S4 H4 I4 n4 q4 => ⟨H4, I4, q4 F4 H4 (n'.trans n4)⟩
end
end Dp

namespace Dp
open PySem PySem.Spec L2
open PyProof.Rows hiding St

section
variable {X : Cx} {Wx : WX} {a b c : Expr} {ma mb mc : En → M PV} {pos : Pos}
/-! ### a op1 b op2 c -/
def chain2 (m1 m2 : PV → PV → M PV) (x y : PV) (k : M PV) : M PV := bnd (m1 x y) fun t => bnd (vTruth t) fun d => if d = true then bnd k fun z => m2 y z else ret t
theorem go2 {op : CmpOp} {m : PV → PV → M PV} (ho : Op2 X Wx (compareOp op) m) {pins : List (Addr × Obj)} {s : Shared} {σ : St} {H : Hp} {x y : V} {v u : Value} {F : Addr → Prop} {S : Stt} {px py : PV} (I : Inv X pins σ H s) (rx : RelV x v) (ry : RelV y u) (w : W (zs X) F S H) (rpx : Rep (zs X) F H px x) (rpy : Rep (zs X) F H py y)
    {R : PV → Stt → Prop} (q : (m px py).run S R (Pw (zs X) F S H [] σ Wx)) {Qf : Value → Shared → Prop} (hk : ∀ v s1 x px F1 S1 H1, Inv X pins σ H1 s1 → RelV x v → Nxt (zs X) F S H F1 S1 H1 → Rep (zs X) F1 H1 px x → R px S1 → Qf v s1) :
    wpAny (model X.prog X.w) X.A (compareOp op v u) Qf X.xe s :=
  thn (ho pins s σ H x y v u (fun z H3 => ∃ F3 S3 pz, Nxt (zs X) F S H F3 S3 H3 ∧ Rep (zs X) F3 H3 pz z ∧ R pz S3) F S px py I rx ry w rpx rpy ((m px py).mono (fun pz S3 r F3 H3 z n3 r3 => ⟨F3, S3, pz, n3, r3, r⟩) (fun _ _ q => q) q))
    fun v s1 ⟨z, H1, I1, r1, F1, S1, pz, n, rp, r⟩ => hk v s1 z pz F1 S1 H1 I1 r1 n rp r
theorem s_chain {op op' : CmpOp} {m1 m2 : PV → PV → M PV} (ho : Op2 X Wx (compareOp op) m1) (ho' : Op2 X Wx (compareOp op') m2) (ha : SE X Wx a ma) (hb : SE X Wx b mb) (hc : SE X Wx c mc) (hm : lastMarks [op, op'] [b, c] = false) :
    SE X Wx (.Compare a [op, op'] [b, c] pos) (fun env => bnd (ma env) fun x => bnd (mb env) fun y => chain2 m1 m2 x y (mc env)) := .mk fun pins s σ H F S env Q I er w q => by
  refine Compare_chain (ha.go I er w q fun v s1 x px F1 S1 H1 I1 r1 n1 rp1 q1 => chain_link (hb.go I1 (er.mono (n1.toSub w)) n1.w ((mb env).mono (fun _ _ q => q) (fun _ _ q => Pw.nxt n1 q) q1) fun u s2 y py F2 S2 H2 I2 r2 n2 rp2 q2 => ?_)) hm
  have n12 := n1.trans n2
  refine go2 ho I2 r1 r2 n2.w (rp1.nxt n1.w n2) rp2 ((m1 px py).mono (fun _ _ q => q) (fun _ _ q => Pw.nxt n12 q) q2) fun d s3 z pz F3 S3 H3 I3 r3 n3 rp3 q3 => ?_
  have n13 := n12.trans n3
  refine tru_go I3 r3 n3.w rp3 ((vTruth pz).mono (fun _ _ q => q) (fun _ _ q => Pw.nxt n13 q) q3) fun t s4 F4 S4 H4 I4 n4 q4 => ?_
  have n14 := n13.trans n4
  cases t with
  | false => exact ite_ff (fin I4 r3 n14 (rp3.nxt n3.w n4) q4)
  | true =>
    refine ite_tt (chain_last (hc.go I4 (er.mono (n14.toSub w)) n4.w ((mc env).mono (fun _ _ q => q) (fun _ _ q => Pw.nxt n14 q) q4) fun w' s5 z' pz' F5 S5 H5 I5 r5 n5 rp5 q5 => ?_))
    have n15 := n14.trans n5
    exact go2 ho' I5 r2 r5 n5.w (rp2.nxt n2.w (n3.trans (n4.trans n5))) rp5 ((m2 py pz').mono (fun _ _ q => q) (fun _ _ q => Pw.nxt n15 q) q5) fun d s6 z6 pz6 F6 S6 H6 I6 r6 n6 rp6 q6 => fin I6 r6 (n15.trans n6) rp6 q6
theorem s_tchain {op op' : CmpOp} {m1 m2 : PV → PV → M PV} (ho : Op2 X Wx (compareOp op) m1) (ho' : Op2 X Wx (compareOp op') m2) (ha : SE X Wx a ma) (hb : SE X Wx b mb) (hc : SE X Wx c mc) (hm : lastMarks [op, op'] [b, c] = false) :
    STe X Wx (.Compare a [op, op'] [b, c] pos) (fun env => bnd (ma env) fun x => bnd (mb env) fun y => bnd (m1 x y) fun t => bnd (vTruth t) fun d => if d = true then bnd (mc env) fun z => bnd (m2 y z) vTruth else ret false) := .mk fun pins s σ H F S env Q I er w q => by
  refine isTrue_chain (ha.go I er w q fun v s1 x px F1 S1 H1 I1 r1 n1 rp1 q1 => test_link (hb.go I1 (er.mono (n1.toSub w)) n1.w ((mb env).mono (fun _ _ q => q) (fun _ _ q => Pw.nxt n1 q) q1) fun u s2 y py F2 S2 H2 I2 r2 n2 rp2 q2 => ?_)) hm
  have n12 := n1.trans n2
  refine go2 ho I2 r1 r2 n2.w (rp1.nxt n1.w n2) rp2 ((m1 px py).mono (fun _ _ q => q) (fun _ _ q => Pw.nxt n12 q) q2) fun d s3 z pz F3 S3 H3 I3 r3 n3 rp3 q3 => ?_
  have n13 := n12.trans n3
  refine tru_go I3 r3 n3.w rp3 ((vTruth pz).mono (fun _ _ q => q) (fun _ _ q => Pw.nxt n13 q) q3) fun t s4 F4 S4 H4 I4 n4 q4 => ?_
  have n14 := n13.trans n4
  cases t with
  | false => exact ite_ff ⟨H4, I4, q4 F4 H4 n14⟩
  | true =>
    refine ite_tt (test_last (hc.go I4 (er.mono (n14.toSub w)) n4.w ((mc env).mono (fun _ _ q => q) (fun _ _ q => Pw.nxt n14 q) q4) fun w' s5 z' pz' F5 S5 H5 I5 r5 n5 rp5 q5 => ?_))
    have n15 := n14.trans n5
    refine go2 ho' I5 r2 r5 n5.w (rp2.nxt n2.w (n3.trans (n4.trans n5))) rp5 ((m2 py pz').mono (fun _ _ q => q) (fun _ _ q => Pw.nxt n15 q) q5) fun d s6 z6 pz6 F6 S6 H6 I6 r6 n6 rp6 q6 => ?_
    have n16 := n15.trans n6
    exact tru_go I6 r6 n6.w rp6 ((vTruth pz6).mono (fun _ _ q => q) (fun _ _ q => Pw.nxt n16 q) q6) fun t s7 F7 S7 H7 I7 n7 q7 => ⟨H7, I7, q7 F7 H7 (n16.trans n7)⟩

/-! ### calls of defs -/
/-- how a call's arguments come to the parameters: so many by position, these names, and for each parameter the place of its value among all -/
structure Shape where
  n : Nat
  ks : List Str
  ix : List Nat
  deriving DecidableEq
def pick {α : Type} (is : List Nat) (xs : List α) : List α := is.filterMap (xs[·]?)
structure Fn where
  ps : List Str
  shapes : List Shape
  m : List PV → M PV
abbrev Tab := Str → Option Fn
def FnSp (Z : Zs) (n : Nat) (m : List PV → M PV) : Sp := fun vs H Q E => vs.length = n ∧ ∃ F S args, RepL Z F H args vs ∧ W Z F S H ∧ (m args).run S (Pv Z F S H Q) (Px Z F S H E)
structure FnAt (X : Cx) (k : Nat) (f : Str) (fn : Fn) : Prop where
  ex : ∃ (a : Addr) (fd : FuncData), X.mg f = some (.ref a) ∧ PySem.W.keepIn X.K (.ref a) = true ∧ FnOk X.prog X.w X.K X.mg X.base (L2.CX X.prog X.w) k a fd fn.ps (FnSp (zs X) fn.ps.length fn.m) ∧
    ∀ sh ∈ fn.shapes, ∀ (s : Shared) (us ws : List Value), X.K.In s.heap → us.length = sh.n → ws.length = sh.ks.length → BindsTo s fd ⟨us, sh.ks.zip ws⟩ (fn.ps.zip (pick sh.ix (us ++ ws)))
def TabOk (X : Cx) (T : Tab) (k : Nat) : Prop := ∀ f fn, T f = some fn → FnAt X k f fn
theorem pick_vals : ∀ {is : List Nat} {xs : List V} {us : List Value}, Vals xs us → Vals (pick is xs) (pick is us)
  | [], _, _, _ => .nil
  | i :: is, xs, us, r => by
    unfold pick
    rw [List.filterMap_cons, List.filterMap_cons]
    cases e : xs[i]? with
    | none => rw [r.none_of e]; exact pick_vals r
    | some x =>
      obtain ⟨u, e', ru⟩ := r.get e
      rw [e']; exact .cons ru (pick_vals r)
theorem pick_rep {Z F H} : ∀ {is : List Nat} {xs : List PV} {vs : List V}, RepL Z F H xs vs → RepL Z F H (pick is xs) (pick is vs)
  | [], _, _, _ => .nil
  | i :: is, xs, vs, r => by
    unfold pick
    rw [List.filterMap_cons, List.filterMap_cons]
    cases e : xs[i]? with
    | none =>
      have : vs[i]? = none := by
        have h1 := List.getElem?_eq_none_iff.mp e
        exact List.getElem?_eq_none_iff.mpr (by rw [← r.length]; exact h1)
      rw [this]; exact pick_rep r
    | some x =>
      obtain ⟨u, e', ru⟩ := r.get e
      rw [e']; exact .cons ru (pick_rep r)
/-- the callee runs -/
theorem run_call {k : Nat} {g : Addr} {fd : FuncData} {ps : List Str} {m : List PV → M PV} (FO : FnOk X.prog X.w X.K X.mg X.base (L2.CX X.prog X.w) k g fd ps (FnSp (zs X) ps.length m)) (hr : Room k X.A) (tk : Takes X Wx)
    {pins : List (Addr × Obj)} {σ : St} {H : Hp} {s : Shared} {Q : VK} {args : Args} {us : List Value} {vs : List V} {F : Addr → Prop} {S : Stt} {pvs : List PV} (I : Inv X pins σ H s) (hb : BindsTo s fd args (ps.zip us)) (r : Vals vs us) (hl : vs.length = ps.length) (w : W (zs X) F S H) (rp : RepL (zs X) F H pvs vs)
    (q : (m pvs).run S (Pv (zs X) F S H Q) (Pw (zs X) F S H [] σ Wx)) : codeAny (model X.prog X.w) X.A (.call (.ref g) args) (fun r s' => match r with | .ok (.ret u) => EP X pins σ Q u s' | .ok _ => False | .error e => X.xe e s') s := by
  refine codeAny_mono (FO.run X.A X.stack s H args us vs Q (fun c d H' => Wx c d σ H') hr I.env0 hb r ⟨hl, F, S, pvs, rp, w, (m pvs).mono (fun _ _ q => q) (fun e S' q F' H' c d n ex => q F' H' c d σ n ex Out.refl) q⟩) fun r s' hq => ?_
  cases r with
  | error e => exact tk e s' (XE.of_call I (fun _ _ _ q => q) hq)
  | ok fl =>
    cases fl with
    | ret u => exact I.after hq
    | next => exact False.elim hq
    | brk => exact False.elim hq
    | cont => exact False.elim hq
/-- keywords' values -/
def SK (X : Cx) (Wx : WX) (kws : List Keyword) (m : En → M (List PV)) : Prop := PK X kws (tL (zs X) Wx m)
theorem sk_nil : SK X Wx [] (fun _ => ret []) := ⟨fun pos pins s σ H Q I ⟨F, S, env, er, w, q⟩ => pk_nil.run pos pins s σ H Q I (q F H _ (Nxt.refl w) .nil)⟩
theorem sk_cons {e : Expr} {nm : Option Str} {kpos : Pos} {kws : List Keyword} {m : En → M PV} {ms : En → M (List PV)} (he : SE X Wx e m) (hr : SK X Wx kws ms) : SK X Wx (⟨nm, e, kpos⟩ :: kws) (fun env => bnd (m env) fun x => bnd (ms env) fun xs => ret (x :: xs)) :=
  ⟨fun pos pins s σ H Q I ⟨F, S, env, er, w, q⟩ => by
    refine (pk_cons he hr).run pos pins s σ H Q I ?_
    refine ⟨F, S, env, er, w, (m env).mono (fun px S1 q F1 H1 x n1 r1 => ?_) (fun _ _ q => q) q⟩
    refine ⟨F1, S1, env, er.mono (n1.toSub w), n1.w, (ms env).mono (fun pxs S2 q F2 H2 xs n2 r2 => ?_) (fun _ _ q => Pw.nxt n1 q) q⟩
    exact q F2 H2 _ (n1.trans n2) (.cons (r1.nxt n1.w n2) r2)⟩
def kwNames (kws : List Keyword) : Option (List Str) := kws.mapM fun k => k.arg
theorem SK.go {kws : List Keyword} {m : En → M (List PV)} (he : SK X Wx kws m) (pos : Pos) {pins : List (Addr × Obj)} {s : Shared} {σ : St} {H : Hp} {F : Addr → Prop} {S : Stt} {env : En} (I : Inv X pins σ H s) (er : EnvR (zs X) F H env σ) (w : W (zs X) F S H) {R : List PV → Stt → Prop} (h : (m env).run S R (Pw (zs X) F S H [] σ Wx))
    {Qf : List Value → Shared → Prop} (hk : ∀ us s1 vs ps F1 S1 H1, Inv X pins σ H1 s1 → Vals vs us → Nxt (zs X) F S H F1 S1 H1 → RepL (zs X) F1 H1 ps vs → R ps S1 → Qf us s1) :
    wpAny (model X.prog X.w) X.A (evalAll ((backToKw pos (keywordEach kws X.env)).map (·.2))) Qf X.xe s := by
  refine thn (he.run pos pins s σ H (fun x H1 => ∃ F1 S1 px, Nxt (zs X) F S H F1 S1 H1 ∧ RepL (zs X) F1 H1 px x ∧ R px S1) I ⟨F, S, env, er, w, (m env).mono (fun px S1 r F1 H1 x n rp => ⟨F1, S1, px, n, rp, r⟩) (fun _ _ q => q) h⟩) ?_
  rintro v s1 ⟨x, H1, I1, r1, F1, S1, px, n, rp, r⟩
  exact hk v s1 x px F1 S1 H1 I1 r1 n rp r
theorem kw_all {pos : Pos} {env : Env} : ∀ {kws : List Keyword} {ks : List Str}, kwNames kws = some ks → (backToKw pos (keywordEach kws env)).all (·.1.isSome) = true ∧ (backToKw pos (keywordEach kws env)).filterMap (·.1) = ks ∧ (backToKw pos (keywordEach kws env)).any (·.1.isNone) = false ∧ (keywordEach kws env).length = ks.length
  | [], ks, h => by
    cases ks with
    | nil => exact ⟨rfl, rfl, rfl, rfl⟩
    | cons => simp [kwNames] at h
  | ⟨nm, e, p⟩ :: kws, ks, h => by
    unfold kwNames at h
    rw [List.mapM_cons] at h
    cases nm with
    | none => simp at h
    | some nm =>
      cases e2 : kwNames kws with
      | none => unfold kwNames at e2; simp [e2] at h
      | some ks' =>
        have e2' := e2
        unfold kwNames at e2'
        simp [e2'] at h
        subst h
        obtain ⟨h1, h2, h3, h4⟩ := kw_all (pos := pos) (env := env) e2
        unfold backToKw at h1 h2 h3 ⊢
        refine ⟨?_, ?_, ?_, ?_⟩
        · simp only [keywordEach, List.map_cons, List.all_cons]; rw [h1]; rfl
        · simp only [keywordEach, List.map_cons, List.filterMap_cons]; rw [h2]
        · simp only [keywordEach, List.map_cons, List.any_cons]; rw [h3]; rfl
        · simp only [keywordEach, List.length_cons]; rw [h4]
def noStars : List Expr → Bool
  | [] => true
  | e :: es => notStar e && noStars es
theorem stars_none {pos : Pos} {env : Env} : ∀ {es : List Expr}, noStars es = true → (backTo pos (starEach es env)).any (·.1) = false
  | [], _ => rfl
  | e :: es, h => by
    have h' : notStar e = true ∧ noStars es = true := by simpa [noStars] using h
    rw [starEach_not h'.1]
    unfold backTo
    rw [List.map_cons, List.any_cons]
    have := stars_none (pos := pos) (env := env) h'.2
    unfold backTo at this
    rw [this]; rfl
theorem call_last {k : Nat} {a : Addr} {fd : FuncData} {fn : Fn} {sh : Shape} (FO : FnOk X.prog X.w X.K X.mg X.base (L2.CX X.prog X.w) k a fd fn.ps (FnSp (zs X) fn.ps.length fn.m)) (hr : Room k X.A) (tk : Takes X Wx)
    (hb : ∀ (s : Shared) (us ws : List Value), X.K.In s.heap → us.length = sh.n → ws.length = sh.ks.length → BindsTo s fd ⟨us, sh.ks.zip ws⟩ (fn.ps.zip (pick sh.ix (us ++ ws))))
    {pins : List (Addr × Obj)} {σ : St} {H : Hp} {F : Addr → Prop} {S : Stt} {Q : VK} {us ws : List Value} {s2 : Shared} {vs zs' : List V} {ps pz : List PV} {F2 : Addr → Prop} {S2 : Stt} {H2 : Hp} (I2 : Inv X pins σ H2 s2) (r1 : Vals vs us) (r2 : Vals zs' ws) (n : Nxt (zs X) F S H F2 S2 H2) (rp1 : RepL (zs X) F2 H2 ps vs) (rp2 : RepL (zs X) F2 H2 pz zs')
    (q2 : (bnd (guard (ps.length = sh.n ∧ pz.length = sh.ks.length ∧ (pick sh.ix (ps ++ pz)).length = fn.ps.length)) fun _ => fn.m (pick sh.ix (ps ++ pz))).run S2 (Pv (zs X) F S H Q) (Pw (zs X) F S H [] σ Wx)) :
    wpAny (model X.prog X.w) X.A (call (.ref a) us (sh.ks.zip ws)) (EP X pins σ Q) X.xe s2 := by
  obtain ⟨⟨g1, g2, g3⟩, q2⟩ := q2
  have rp := (rp1.append rp2)
  refine wpAny_call (codeAny_mono (run_call (Wx := Wx) (Q := Q) FO hr tk I2 (hb s2 us ws I2.kIn ?_ ?_) (pick_vals (r1.append r2)) ?_ n.w (pick_rep rp) ((fn.m _).mono (fun _ _ q => Pv.nxt n q) (fun _ _ q => Pw.nxt n q) q2)) fun r s' hq => ?_)
  · rw [← r1.length, ← rp1.length]; exact g1
  · rw [← r2.length, ← rp2.length]; exact g2
  · rw [← (pick_rep rp).length]; exact g3
  · cases r with
    | error e => exact hq
    | ok fl => cases fl <;> first | exact hq | exact False.elim hq
def callFn (fn : Fn) (sh : Shape) (xs ys : List PV) : M PV := bnd (guard (xs.length = sh.n ∧ ys.length = sh.ks.length ∧ (pick sh.ix (xs ++ ys)).length = fn.ps.length)) fun _ => fn.m (pick sh.ix (xs ++ ys))
theorem s_call {k : Nat} {f : Str} {fn : Fn} {sh : Shape} {p : Pos} {e : Expr} {es : List Expr} {kws : List Keyword} {ms mk : En → M (List PV)} (FA : FnAt X k f fn) (hr : Room k X.A) (tk : Takes X Wx) (hg : Gl X f) (hsh : sh ∈ fn.shapes) (hd : (f == ("__debug__" : Str)) = false)
    (he : SA X Wx (e :: es) ms) (hst : noStars (e :: es) = true) (hkw : SK X Wx kws mk) (hks : kwNames kws = some sh.ks) :
    SE X Wx (.Call (.Name f p) (e :: es) kws pos) (fun env => bnd (ms env) fun xs => bnd (mk env) fun ys => callFn fn sh xs ys) := .mk fun pins s σ H F S env Q I er w q => by
  obtain ⟨a, fd, hm, hkp, FO, hb⟩ := FA.ex
  obtain ⟨k1, k2, k3, k4⟩ := kw_all (pos := pos) (env := X.env) hks
  refine wpAny_Call_Name_kw (ld_glob I hg hm ?_ hd)
  have h' : notStar e = true ∧ noStars es = true := by simpa [noStars] using hst
  refine PySem.W.callWith_KW (h₀ := X.base) I.ok.mod.kin hkp k1 (he.go pos I er w q fun us s1 vs ps F1 S1 H1 I1 r1 n1 rp1 q1 => ?_) (by rw [k3, stars_none hst]; rfl) (starEach_not h'.1)
  refine hkw.go pos I1 (er.mono (n1.toSub w)) n1.w ((mk env).mono (fun _ _ q => q) (fun _ _ q => Pw.nxt n1 q) q1) fun ws s2 zs' pz F2 S2 H2 I2 r2 n2 rp2 q2 => ⟨I2.kIn, ?_⟩
  rw [k2]
  exact call_last FO hr tk (hb sh hsh) I2 r1 r2 (n1.trans n2) (rp1.nxt n1.w n2) rp2 q2
theorem s_call0 {k : Nat} {f : Str} {fn : Fn} {sh : Shape} {p : Pos} {kws : List Keyword} {mk : En → M (List PV)} (FA : FnAt X k f fn) (hr : Room k X.A) (tk : Takes X Wx) (hg : Gl X f) (hsh : sh ∈ fn.shapes) (hd : (f == ("__debug__" : Str)) = false)
    (hkw : SK X Wx kws mk) (hks : kwNames kws = some sh.ks) :
    SE X Wx (.Call (.Name f p) [] kws pos) (fun env => bnd (mk env) fun ys => callFn fn sh [] ys) := .mk fun pins s σ H F S env Q I er w q => by
  obtain ⟨a, fd, hm, hkp, FO, hb⟩ := FA.ex
  obtain ⟨k1, k2, k3, k4⟩ := kw_all (pos := pos) (env := X.env) hks
  refine wpAny_Call_Name_kw (ld_glob I hg hm ?_ hd)
  refine PySem.W.callWith_KW0 (h₀ := X.base) I.ok.mod.kin hkp k1 (hkw.go pos I er w q fun ws s2 zs' pz F2 S2 H2 I2 r2 n2 rp2 q2 => ⟨I2.kIn, ?_⟩) (by rw [k3]; rfl)
  rw [k2]
  exact call_last FO hr tk (hb sh hsh) I2 .nil r2 n2 .nil rp2 q2

/-! ### calls of built-ins -/
theorem s_callB {id : String} {x : Str} {p : Pos} {e : Expr} {es : List Expr} {ms : En → M (List PV)} {m : List PV → M PV} (ho : OpN X Wx (fun us => call (.builtin id) us) m) (hg : Gl X x) (hm : X.mg x = none) (hv : bootBuiltins x = some (.builtin id)) (ha : SA X Wx (e :: es) ms) (hst : noStars (e :: es) = true) (hn : x ≠ "__name__") (hd : (x == ("__debug__" : Str)) = false) :
    SE X Wx (.Call (.Name x p) (e :: es) [] pos) (fun env => bnd (ms env) m) := .mk fun pins s σ H F S env Q I er w q => by
  have h' : notStar e = true ∧ noStars es = true := by simpa [noStars] using hst
  refine wpAny_Call_Name_kw (ld_blt I hg hm hv ?_ hn hd)
  refine PyProof.Rows.callWith_builtin1 (ha.go pos I er w q fun us s1 vs ps F1 S1 H1 I1 r1 n1 rp1 q1 => ?_) (starEach_not h'.1) (stars_none h'.2)
  exact ho pins s1 σ H1 vs us Q F1 S1 ps I1 r1 n1.w rp1 ((m ps).mono (fun _ _ q => Pv.nxt n1 q) (fun _ _ q => Pw.nxt n1 q) q1)
theorem s_callT {T : String} {x : Str} {p : Pos} {e : Expr} {es : List Expr} {ms : En → M (List PV)} {m : List PV → M PV} (ho : OpN X Wx (fun us => call (.type T) us) m) (hg : Gl X x) (hm : X.mg x = none) (hv : bootBuiltins x = some (.type T)) (ha : SA X Wx (e :: es) ms) (hst : noStars (e :: es) = true) (hn : x ≠ "__name__") (hd : (x == ("__debug__" : Str)) = false) :
    SE X Wx (.Call (.Name x p) (e :: es) [] pos) (fun env => bnd (ms env) m) := .mk fun pins s σ H F S env Q I er w q => by
  have h' : notStar e = true ∧ noStars es = true := by simpa [noStars] using hst
  refine wpAny_Call_Name_kw (ld_blt I hg hm hv ?_ hn hd)
  refine PyProof.Rows.callWith_type1 (ha.go pos I er w q fun us s1 vs ps F1 S1 H1 I1 r1 n1 rp1 q1 => ?_) (starEach_not h'.1) (stars_none h'.2)
  exact ho pins s1 σ H1 vs us Q F1 S1 ps I1 r1 n1.w rp1 ((m ps).mono (fun _ _ q => Pv.nxt n1 q) (fun _ _ q => Pw.nxt n1 q) q1)

/-! ### methods of lists, texts -/
def OpM (X : Cx) (Wx : WX) (id : String) (m : PV → List PV → M PV) : Prop :=
  ∀ (pins : List (Addr × Obj)) (s : Shared) (σ : St) (H : Hp) (x : V) (xs : List V) (v : Value) (us : List Value) (Q : VK) (F : Addr → Prop) (S : Stt) (px : PV) (ps : List PV), Inv X pins σ H s → RelV x v → Vals xs us → W (zs X) F S H → Rep (zs X) F H px x → RepL (zs X) F H ps xs →
    (m px ps).run S (Pv (zs X) F S H Q) (Pw (zs X) F S H [] σ Wx) → wpAny (model X.prog X.w) X.A (call (.builtin id) (v :: us)) (EP X pins σ Q) X.xe s
/-- it is of the built-in type -/
def isT (T : String) : PV → M Unit := fun x => bnd (deref x) fun x => match x with
  | .lst _ => guard (T = "list")
  | .loc _ => guard (T = "list")
  | .str _ => guard (T = "str")
  | .tup _ => guard (T = "tuple")
  | .dct _ _ => guard (T = "dict")
  | _ => stuck
theorem isT_ok {F S H px x Q E} {T : String} {pins : List (Addr × Obj)} {σ : St} {s : Shared} {v : Value} (I : Inv X pins σ H s) (rv : RelV x v) (w : W (zs X) F S H) (rpx : Rep (zs X) F H px x) (q : (isT T px).run S Q E) :
    (s.TypeIs v T ∧ ∀ a, v = .ref a → ∃ ob, s.heap.get? a = some ob ∧ ob.dict = none) ∧ Q () S := by
  obtain ⟨py, r, q⟩ := deref_ok w rpx q
  cases py with
  | lst xs =>
    obtain ⟨a, vs, rfl, h, rl⟩ := r.lst
    exact ⟨tyV_is I rv (.inl ⟨q.1, vs, .of h⟩), q.2⟩
  | loc xs =>
    cases r.rep (fun xs e => nomatch e) with
    | loc t rl => exact ⟨tyV_is I rv (.inl ⟨q.1, _, t.sq⟩), q.2⟩
  | str z => cases r.rep (fun xs e => nomatch e); exact ⟨tyV_is I rv (show tyV X.K T (.str z) H from q.1), q.2⟩
  | tup xs =>
    cases r.rep (fun xs e => nomatch e) with
    | @tup a _ vs t rl =>
      obtain ⟨e, q2⟩ := q
      subst e
      obtain rfl : v = Value.ref a := rv
      rcases t with ⟨_, o, h, hd⟩ | ⟨o, its, n, h1, h2, h3, _⟩
      · obtain ⟨e1, _, its, _, o', e2, c, _⟩ := I.hok a _ h
        rw [e1] at e2; cases e2
        exact ⟨⟨⟨o, e1, c⟩, fun b e => by cases e; exact ⟨o, e1, hd⟩⟩, q2⟩
      · exact ⟨⟨⟨o, I.kIn a o h1, h2⟩, fun b e => by cases e; exact ⟨o, I.kIn a o h1, h3⟩⟩, q2⟩
  | dct ks xs =>
    cases r.rep (fun xs e => nomatch e) with
    | @dct a _ _ vs t h hl rl =>
      obtain ⟨e, q2⟩ := q
      subst e
      exact ⟨tyV_is I rv (.inr (.inr (.inl ⟨rfl, .inl ⟨_, h⟩⟩))), q2⟩
  | _ => exact q.elim
def plainBase : Expr → Bool
  | .Call (.Name id _) [] [] _ => id != "super"
  | _ => true
theorem base_ok {o : Expr} {f : Str} {env : Env} (h : plainBase o = true) : attributeBase o f env (eval o env) = eval o env := by
  unfold attributeBase
  split
  · rename_i id _ _
    have h' : (id != ("super" : Str)) = true := h
    simp only [h', Bool.true_or, if_true, pure_bind]
  · rfl
theorem s_meth0 {T id : String} {name : Str} {o : Expr} {mo : En → M PV} {apos cpos : Pos} {m : PV → List PV → M PV} (pa : PlainAttrs T) (slot : Slot T name id) (hty : typeOf (.builtin id) = pure (.type "method_descriptor")) (hm : OpM X Wx id m) (ho : SE X Wx o mo) (hb : plainBase o = true) (hline : (apos.endLine == cpos.line) = true) :
    SE X Wx (.Call (.Attribute o name apos) [] [] cpos) (fun env => bnd (mo env) fun x => bnd (isT T x) fun _ => m x []) := .mk fun pins s σ H F S env Q I er w q =>
  wpAny_Call_method0_late (base_ok hb) hline (ho.go I er w q fun v s1 x px F1 S1 H1 I1 r1 n1 rp1 q1 => by
    obtain ⟨⟨h1, h2⟩, q2⟩ := isT_ok I1 r1 n1.w rp1 q1
    exact ⟨T, id, pa, slot, hty, h1, h2, Calls.callWith_builtin rfl (PySem.evalArgs_none (hm pins s1 σ H1 x [] v [] Q F1 S1 px [] I1 r1 .nil n1.w rp1 .nil ((m px []).mono (fun _ _ q => Pv.nxt n1 q) (fun _ _ q => Pw.nxt n1 q) q2)))⟩)
theorem s_meth {T id : String} {name : Str} {o e : Expr} {es : List Expr} {mo : En → M PV} {ms : En → M (List PV)} {apos cpos : Pos} {m : PV → List PV → M PV} (pa : PlainAttrs T) (slot : Slot T name id) (hty : typeOf (.builtin id) = pure (.type "method_descriptor")) (hm : OpM X Wx id m) (ho : SE X Wx o mo) (ha : SA X Wx (e :: es) ms) (hb : plainBase o = true) (hst : noStars (e :: es) = true) (hlen : es.length < 20)
    (hline : (apos.endLine == cpos.line) = true) :
    SE X Wx (.Call (.Attribute o name apos) (e :: es) [] cpos) (fun env => bnd (mo env) fun x => bnd (isT T x) fun _ => bnd (ms env) fun xs => m x xs) := .mk fun pins s σ H F S env Q I er w q => by
  have h' : notStar e = true ∧ noStars es = true := by simpa [noStars] using hst
  have hall : (backTo cpos (starEach (e :: es) X.env)).all (fun x => !x.1) = true := by
    have := stars_none (pos := cpos) (env := X.env) hst
    rw [List.any_eq_false] at this
    rw [List.all_eq_true]
    intro x hx
    have := this x hx
    simpa using this
  refine wpAny_Call_method_late (base_ok hb) (by rw [hall]; simp [backToKw, keywordEach]; omega) hline rfl (ho.go I er w q fun v s1 x px F1 S1 H1 I1 r1 n1 rp1 q1 => ?_)
  obtain ⟨⟨h1, h2⟩, q2⟩ := isT_ok I1 r1 n1.w rp1 q1
  refine ⟨T, id, pa, slot, hty, h1, h2, ?_⟩
  have hA := ha.go cpos I1 (er.mono (n1.toSub w)) n1.w ((ms env).mono (fun _ _ q => q) (fun _ _ q => Pw.nxt n1 q) q2) (Qf := fun us s2 => wpAny (model X.prog X.w) X.A (call (.builtin id) (v :: us)) (EP X pins σ Q) X.xe s2) fun us s2 vs ps F2 S2 H2 I2 r2 n2 rp2 q2 => by
    have n12 := n1.trans n2
    exact hm pins s2 σ H2 x vs v us Q F2 S2 px ps I2 r1 r2 n2.w (rp1.nxt n1.w n2) rp2 ((m px ps).mono (fun _ _ q => Pv.nxt n12 q) (fun _ _ q => Pw.nxt n12 q) q2)
  rw [starEach_not h'.1] at hA ⊢
  exact Calls.callWith_builtin (by show (false || (backTo cpos (starEach es X.env)).any (·.1)) = false; rw [stars_none h'.2] <;> rfl) (Calls.evalArgs_plain hA)
end
end Dp

namespace Dp
open PySem PySem.Spec L2
open PyProof.Rows hiding St

theorem set_self_get {α : Type} : ∀ {l : List α} {i : Nat} {x : α}, l[i]? = some x → l.set i x = l
  | [], _, _, h => by simp at h
  | a :: l, 0, x, h => by simp at h; simp [h]
  | a :: l, i + 1, x, h => by simp at h; simp [set_self_get h]
/-! ### statements -/
def seqR (r : Res) (k : En → M Res) : M Res := match r with
  | .nx e => k e
  | r => ret r
section
variable {Z : Zs} {F F1 : Addr → Prop} {S S1 S2 : Stt} {H H1 : Hp} {L L1 L2' : List Nat} {σ σ1 : St}
theorem Pe.step (n : Nxt Z F S H F1 S1 H1) (o : Out L σ σ1) {Q : St → Hp → Prop} {e S2} (h : Pe Z F S H L σ Q e S2) : Pe Z F1 S1 H1 L σ1 Q e S2 := fun F' H' σ' n' r o' => h F' H' σ' (n.trans n') r (o.trans o')
theorem Pe.sub (hs : ∀ i ∈ L1, i ∈ L) {Q : St → Hp → Prop} {e S2} (h : Pe Z F S H L σ Q e S2) : Pe Z F S H L1 σ Q e S2 := fun F' H' σ' n' r o' => h F' H' σ' n' r (o'.mono hs)
theorem Pw.step (n : Nxt Z F S H F1 S1 H1) (o : Out L σ σ1) {Q : WX} {e S2} (h : Pw Z F S H L σ Q e S2) : Pw Z F1 S1 H1 L σ1 Q e S2 := fun F' H' c d σ' n' r o' => h F' H' c d σ' (n.trans n') r (o.trans o')
theorem Pw.sub (hs : ∀ i ∈ L1, i ∈ L) {Q : WX} {e S2} (h : Pw Z F S H L σ Q e S2) : Pw Z F S H L1 σ Q e S2 := fun F' H' c d σ' n' r o' => h F' H' c d σ' n' r (o'.mono hs)
theorem Pr.step (n : Nxt Z F S H F1 S1 H1) (o : Out L σ σ1) {D : Ends} {r S2} (h : Pr Z F S H L σ D r S2) : Pr Z F1 S1 H1 L σ1 D r S2 := by
  cases r with
  | nx e => exact Pe.step n o h
  | rt v => exact Pv.nxt n h
  | bk e => exact Pe.step n o h
  | ct e => exact Pe.step n o h
theorem Pr.sub (hs : ∀ i ∈ L1, i ∈ L) {D : Ends} {r S2} (h : Pr Z F S H L σ D r S2) : Pr Z F S H L1 σ D r S2 := by
  cases r with
  | nx e => exact Pe.sub hs h
  | rt v => exact h
  | bk e => exact Pe.sub hs h
  | ct e => exact Pe.sub hs h
end
section
variable {X : Cx} {Wx : WX} {L : List Nat} {st : Stmt} {rest : List Stmt} {e a b c : Expr} {m m2 : En → M PV} {mt : En → M Bool} {ms ms2 : En → M Res} {pos : Pos}
theorem nil_sub : ∀ i ∈ ([] : List Nat), i ∈ L := fun i h => by simp at h
theorem SS.mk (h : ∀ D σ H F S env, EnvR (zs X) F H env σ → W (zs X) F S H → (ms env).run S (Pr (zs X) F S H L σ D) (Pw (zs X) F S H L σ Wx) → ∀ pins s, Inv X pins σ H s → wpAny (model X.prog X.w) X.A (exec st X.env) (SP X pins D) X.xe s) : SS X Wx L st ms :=
  ⟨fun pins s σ H D I ⟨F, S, env, er, w, q⟩ => h D σ H F S env er w q pins s I⟩
/-- by a reading of the hand layer -/
theorem SS.of {t : TS} (hp : PS X st t) (h : ∀ D σ H F S env, EnvR (zs X) F H env σ → W (zs X) F S H → (ms env).run S (Pr (zs X) F S H L σ D) (Pw (zs X) F S H L σ Wx) → t D σ H) : SS X Wx L st ms :=
  ⟨fun pins s σ H D I ⟨F, S, env, er, w, q⟩ => hp.run pins s σ H D I (h D σ H F S env er w q)⟩
theorem SSs.of {sts : List Stmt} {t : TS} (hp : PSs X sts t) (h : ∀ D σ H F S env, EnvR (zs X) F H env σ → W (zs X) F S H → (ms env).run S (Pr (zs X) F S H L σ D) (Pw (zs X) F S H L σ Wx) → t D σ H) : SSs X Wx L sts ms :=
  ⟨fun pins s σ H D I ⟨F, S, env, er, w, q⟩ => hp.run pins s σ H D I (h D σ H F S env er w q)⟩
theorem b_nil : SSs X Wx L [] (fun env => ret (.nx env)) := .of pss_nil fun D σ H F S env er w q => q F H σ (Nxt.refl w) er Out.refl
theorem b_cons (h1 : SS X Wx L st ms) (h2 : SSs X Wx L rest ms2) : SSs X Wx L (st :: rest) (fun env => bnd (ms env) fun r => seqR r ms2) := .of (pss_cons h1 h2) fun D σ H F S env er w q =>
  ⟨F, S, env, er, w, (ms env).mono (fun r S1 q => by
    cases r with
    | nx e => exact fun F1 H1 σ1 n r o => ⟨F1, S1, e, r, n.w, (ms2 e).mono (fun _ _ q => Pr.step n o q) (fun _ _ q => Pw.step n o q) q⟩
    | rt v => exact q
    | bk e => exact q
    | ct e => exact q) (fun _ _ q => q) q⟩
theorem c_pass : SS X Wx L (.Pass pos) (fun env => ret (.nx env)) := .of ps_pass fun D σ H F S env er w q => q F H σ (Nxt.refl w) er Out.refl
theorem c_break : SS X Wx L (.Break pos) (fun env => ret (.bk env)) := .of ps_break fun D σ H F S env er w q => q F H σ (Nxt.refl w) er Out.refl
theorem c_cont : SS X Wx L (.Continue pos) (fun env => ret (.ct env)) := .of ps_continue fun D σ H F S env er w q => q F H σ (Nxt.refl w) er Out.refl
theorem c_doc {x j pos'} : SS X Wx L (.Expr (.Constant (.str x) j pos) pos') (fun env => ret (.nx env)) := .of ps_doc fun D σ H F S env er w q => q F H σ (Nxt.refl w) er Out.refl
theorem c_retN : SS X Wx L (.Return none pos) (fun env => ret (.rt .non)) := .of ps_retN fun D σ H F S env er w q => q F H _ (Nxt.refl w) .non
theorem c_ret (he : SE X Wx e m) : SS X Wx L (.Return (some e) pos) (fun env => bnd (m env) fun v => ret (.rt v)) := .of (ps_ret he) fun D σ H F S env er w q =>
  ⟨F, S, env, er, w, (m env).mono (fun v S1 q => q) (fun _ _ q => Pw.sub nil_sub q) q⟩
theorem c_expr (he : SE X Wx e m) (hs : swapsWith e none pos.line X.env = pure false) : SS X Wx L (.Expr e pos) (fun env => bnd (m env) fun _ => ret (.nx env)) := .of (ps_expr he hs) fun D σ H F S env er w q =>
  ⟨F, S, env, er, w, (m env).mono (fun v S1 q F1 H1 x n r => q F1 H1 σ n (er.mono (n.toSub w)) Out.refl) (fun _ _ q => Pw.sub nil_sub q) q⟩
theorem c_if {sa sb : List Stmt} (hc : STe X Wx c mt) (ha : SSs X Wx L sa ms) (hb : SSs X Wx L sb ms2) : SS X Wx L (.If c sa sb pos) (fun env => bnd (mt env) fun t => if t = true then ms env else ms2 env) := .of (ps_if hc ha hb) fun D σ H F S env er w q =>
  ⟨F, S, env, er, w, (mt env).mono (fun t S1 q F1 H1 n => by
    cases t with
    | true => exact ⟨F1, S1, env, er.mono (n.toSub w), n.w, (ms env).mono (fun _ _ q => Pr.step n Out.refl q) (fun _ _ q => Pw.step n Out.refl q) q⟩
    | false => exact ⟨F1, S1, env, er.mono (n.toSub w), n.w, (ms2 env).mono (fun _ _ q => Pr.step n Out.refl q) (fun _ _ q => Pw.step n Out.refl q) q⟩) (fun _ _ q => Pw.sub nil_sub q) q⟩
/-- an owned list is frozen, ahead of a block -/
def freezeV (i : Nat) (env : En) : M En := match env[i]? with
  | some (some (.ref a)) => ⟨fun S Q _ => ∃ xs, S a = some (.lst xs) ∧ Q (env.set i (some (.lst xs))) (del S a), fun h _ ⟨xs, e, q⟩ => ⟨xs, e, h _ _ q⟩⟩
  | _ => stuck
theorem b_freeze {i : Nat} (h2 : SSs X Wx L rest ms2) : SSs X Wx L rest (fun env => bnd (freezeV i env) ms2) :=
  ⟨fun pins s σ H D I ⟨F, S, env, er, w, q⟩ => by
    have q' : (bnd (freezeV i env) ms2).run S (Pr (zs X) F S H L σ D) (Pw (zs X) F S H L σ Wx) := q
    unfold freezeV at q'
    split at q'
    · rename_i a ha
      obtain ⟨xs, e, q'⟩ := q'
      obtain ⟨n, r⟩ := w.freeze e
      refine h2.run pins s σ H D I ⟨_, _, _, ?_, n.w, (ms2 _).mono (fun _ _ q => Pr.step n Out.refl q) (fun _ _ q => Pw.step n Out.refl q) q'⟩
      have er' := er.mono (n.toSub w)
      obtain ⟨v, e1, e2⟩ := er.2 i _ ha
      cases e2
      have := er'.set i r
      rw [show σ.set i (some (V.ref a)) = σ from set_self_get e1] at this
      exact this
    · exact q'.elim⟩

/-! ### targets -/
def setv (i : Nat) (x : PV) (env : En) : M En := ret (env.set i (some x))
theorem g_name {i : Nat} {x : Str} (hN : X.N.Nodup) (hi : X.N[i]? = some x) (hx : Loc X.env.scope x) (hf : X.fn x = true ∨ X.env.scope.names.lookup x = some .local) (hL : i ∈ L) : SG X Wx L (.Name x pos) (setv i) :=
  ⟨fun pins s σ H v u Q I r ⟨F, S, env, px, er, w, rp, q⟩ => (pg_name (pos := pos) hN hi hx hf).run pins s σ H v u Q I r (q F H _ (Nxt.refl w) (er.set i rp) (Out.set hL))⟩
def setNil : List PV → En → M En
  | [], env => ret env
  | _, _ => stuck
theorem gs_nil : SGs X Wx L [] setNil := ⟨fun pins s σ H vs us Q I r ⟨F, S, env, xs, er, w, rp, q⟩ => by
  cases rp with
  | nil => exact pgs_nil.run pins s σ H [] us Q I r ⟨rfl, q F H σ (Nxt.refl w) er Out.refl⟩
  | cons => exact q.elim⟩
def setCons (m1 : PV → En → M En) (m2 : List PV → En → M En) : List PV → En → M En
  | x :: xs, env => bnd (m1 x env) fun env => m2 xs env
  | [], _ => stuck
theorem gs_cons {e : Expr} {es : List Expr} {m1 : PV → En → M En} {m2 : List PV → En → M En} (h1 : SG X Wx L e m1) (h2 : SGs X Wx L es m2) (hs : (assignEach (e :: es) X.env).map (·.2) = assign e X.env :: (assignEach es X.env).map (·.2)) : SGs X Wx L (e :: es) (setCons m1 m2) :=
  ⟨fun pins s σ H vs us Q I r ⟨F, S, env, xs, er, w, rp, q⟩ => by
    cases rp with
    | nil => exact q.elim
    | @cons x xs v vs r1 r2 =>
      refine (pgs_cons h1 h2 hs).run pins s σ H (v :: vs) us Q I r ⟨v, vs, rfl, F, S, env, x, er, w, r1, (m1 x env).mono (fun env1 S1 q F1 H1 σ1 n er1 o => ?_) (fun _ _ q => q) q⟩
      exact ⟨F1, S1, env1, xs, er1, n.w, r2.nxt w n, (m2 xs env1).mono (fun _ _ q => Pe.step n o q) (fun _ _ q => Pw.step n o q) q⟩⟩
def setTup (m : List PV → En → M En) (n : Nat) : PV → En → M En
  | .tup xs, env => bnd (guard (xs.length = n)) fun _ => m xs env
  | .lst xs, env => bnd (guard (xs.length = n)) fun _ => m xs env
  | .loc xs, env => bnd (guard (xs.length = n)) fun _ => m xs env
  | .ref a, env => ⟨fun S Q E => ∃ xs, S a = some (.lst xs) ∧ xs.length = n ∧ (m xs env).run S Q E, fun h g ⟨xs, e, l, q⟩ => ⟨xs, e, l, (m xs env).mono h g q⟩⟩
  | _, _ => stuck
theorem g_tup {es : List Expr} {k : Nat} {m : List PV → En → M En} {n : Nat} (hc : X.calm = true) (h0 : SGs X Wx L es m) (hn : (assignEach es X.env).length = n) (hst : (assignEach es X.env).findIdx? (·.1) = none) : SG X Wx L (.Tuple es k pos) (setTup m n) :=
  ⟨fun pins s σ H v u Q I r ⟨F, S, env, x, er, w, rp, q⟩ => by
    cases x with
    | tup xs =>
      obtain ⟨hl, q⟩ := q
      cases rp with
      | @tup a _ vs t rl =>
        exact (pg_tup (pos := pos) (k := k) hc h0 hn hst).run pins s σ H _ u Q I r ⟨a, vs, rfl, t.sq, by rw [← rl.length]; exact hl, F, S, env, xs, er, w, rl, q⟩
    | lst xs =>
      obtain ⟨hl, q⟩ := q
      cases rp with
      | @lst a _ vs t rl =>
        exact (pg_unl (pos := pos) (k := k) hc h0 hn hst).run pins s σ H _ u Q I r ⟨a, vs, rfl, t.sq, by rw [← rl.length]; exact hl, F, S, env, xs, er, w, rl, q⟩
    | loc xs =>
      obtain ⟨hl, q⟩ := q
      cases rp with
      | @loc a _ vs t rl =>
        exact (pg_unl (pos := pos) (k := k) hc h0 hn hst).run pins s σ H _ u Q I r ⟨a, vs, rfl, t.sq, by rw [← rl.length]; exact hl, F, S, env, xs, er, w, rl, q⟩
    | ref p =>
      obtain ⟨xs, e, hl, q⟩ := q
      cases rp
      obtain ⟨vs, h, rl⟩ := w.cell p _ e
      exact (pg_unl (pos := pos) (k := k) hc h0 hn hst).run pins s σ H _ u Q I r ⟨p, vs, rfl, .of h, by rw [← rl.length]; exact hl, F, S, env, xs, er, w, rl, q⟩
    | _ => exact q.elim⟩
def asgn (m : En → M PV) (g : PV → En → M En) : En → M Res := fun env => bnd (m env) fun v => bnd (g v env) fun env => ret (.nx env)
theorem c_asg {tg : Expr} {g : PV → En → M En} (he : SE X Wx e m) (hg : SG X Wx L tg g) (hs : swapsWithSole [tg] e pos.line X.env = pure false) (hw : swappedStores [tg] e X.env = pure none) (h1 : (assignEach [tg] X.env).map (·.2) = [assign tg X.env]) :
    SS X Wx L (.Assign [tg] e pos) (asgn m g) := .of (ps_asg he hg hs hw h1) fun D σ H F S env er w q =>
  ⟨F, S, env, er, w, (m env).mono (fun v S1 q F1 H1 x n r => ⟨F1, S1, env, v, er.mono (n.toSub w), n.w, r, (g v env).mono (fun e2 S2 q => Pe.step n Out.refl q) (fun _ _ q => Pw.step n Out.refl q) q⟩) (fun _ _ q => Pw.sub nil_sub q) q⟩
/-- a, b = x, y of plain local names -/
def asgn2 (i j : Nat) (m : En → M (List PV)) : En → M Res := fun env => bnd (m env) fun vs => match vs with
  | [v, w] => ret (.nx ((env.set i (some v)).set j (some w)))
  | _ => stuck
theorem c_par {i j : Nat} {x y : Str} {a b : Expr} {ml : En → M (List PV)} {px py pt : Pos} {kt k2 pt2} (hc : X.calm = true) (hN : X.N.Nodup) (hi : X.N[i]? = some x) (hj : X.N[j]? = some y) (hij : i ≠ j)
    (hx : X.env.scope.names.lookup x = some .local) (hy : X.env.scope.names.lookup y = some .local) (ha : SA X Wx [a, b] ml)
    (hw : swappedStores [.Tuple [.Name x px, .Name y py] kt pt] (.Tuple [a, b] k2 pt2) X.env = pure (some [x, y]))
    (hs : swapsWithSole [.Tuple [.Name x px, .Name y py] kt pt] (.Tuple [a, b] k2 pt2) pos.line X.env = pure false) (hL : i ∈ L ∧ j ∈ L) :
    SS X Wx L (.Assign [.Tuple [.Name x px, .Name y py] kt pt] (.Tuple [a, b] k2 pt2) pos) (asgn2 i j ml) := .of (ps_par hc hN hi hj hij hx hy ha hw hs) fun D σ H F S env er w q =>
  ⟨F, S, env, er, w, (ml env).mono (fun ps S1 q F1 H1 vs n r => by
    match ps, vs, r with
    | [p1, p2], [v1, v2], .cons r1 (.cons r2 .nil) =>
      exact ⟨v1, v2, rfl, q F1 H1 _ n (((er.mono (n.toSub w)).set i r1).set j r2) ((Out.set hL.1).trans (Out.set hL.2))⟩
    | [], _, _ => exact q.elim
    | [_], _, _ => exact q.elim
    | _ :: _ :: _ :: _, _, _ => exact q.elim) (fun _ _ q => Pw.sub nil_sub q) q⟩
def asgn3 (i j l : Nat) (m : En → M (List PV)) : En → M Res := fun env => bnd (m env) fun vs => match vs with
  | [v, w, z] => ret (.nx (((env.set i (some v)).set j (some w)).set l (some z)))
  | _ => stuck
theorem c_par3 {i j l : Nat} {x y z : Str} {a b c : Expr} {ml : En → M (List PV)} {px py pz pt : Pos} {kt k2 pt2} (hc : X.calm = true) (hN : X.N.Nodup) (hi : X.N[i]? = some x) (hj : X.N[j]? = some y) (hl : X.N[l]? = some z) (hij : i ≠ j) (hil : i ≠ l) (hjl : j ≠ l)
    (hx : X.env.scope.names.lookup x = some .local) (hy : X.env.scope.names.lookup y = some .local) (hz : X.env.scope.names.lookup z = some .local) (ha : SA X Wx [a, b, c] ml)
    (hw : swappedStores [.Tuple [.Name x px, .Name y py, .Name z pz] kt pt] (.Tuple [a, b, c] k2 pt2) X.env = pure (some [x, y, z]))
    (hs : swapsWithSole [.Tuple [.Name x px, .Name y py, .Name z pz] kt pt] (.Tuple [a, b, c] k2 pt2) pos.line X.env = pure false) (hL : i ∈ L ∧ j ∈ L ∧ l ∈ L) :
    SS X Wx L (.Assign [.Tuple [.Name x px, .Name y py, .Name z pz] kt pt] (.Tuple [a, b, c] k2 pt2) pos) (asgn3 i j l ml) := .of (ps_par3 hc hN hi hj hl hij hil hjl hx hy hz ha hw hs) fun D σ H F S env er w q =>
  ⟨F, S, env, er, w, (ml env).mono (fun ps S1 q F1 H1 vs n r => by
    match ps, vs, r with
    | [p1, p2, p3], [v1, v2, v3], .cons r1 (.cons r2 (.cons r3 .nil)) =>
      exact ⟨v1, v2, v3, rfl, q F1 H1 _ n ((((er.mono (n.toSub w)).set i r1).set j r2).set l r3) (((Out.set hL.1).trans (Out.set hL.2.1)).trans (Out.set hL.2.2))⟩
    | [], _, _ => exact q.elim
    | [_], _, _ => exact q.elim
    | [_, _], _, _ => exact q.elim
    | _ :: _ :: _ :: _ :: _, _, _ => exact q.elim) (fun _ _ q => Pw.sub nil_sub q) q⟩
/-! ### o[i] = v -/
def vSet (o i v : PV) : M Unit := match o, i with
  | .ref a, .int k => ⟨fun S Q _ => ∃ xs j, S a = some (.lst xs) ∧ ixN xs.length k = some j ∧ Q () (put S a (.lst (xs.set j v))), fun h _ ⟨xs, j, e, e2, q⟩ => ⟨xs, j, e, e2, h _ _ q⟩⟩
  | _, _ => stuck
theorem o_set : ∀ (pins : List (Addr × Obj)) (s : Shared) (σ : St) (H : Hp) (o i v : V) (ov iv u : Value) (Q : Hp → Prop) (F : Addr → Prop) (S : Stt) (po pi pv : PV) (E : Exc → Stt → Prop), Inv X pins σ H s → RelV o ov → RelV i iv → RelV v u → W (zs X) F S H → Rep (zs X) F H po o → Rep (zs X) F H pi i → Rep (zs X) F H pv v →
    (vSet po pi pv).run S (fun _ S' => ∀ F' H', Nxt (zs X) F S H F' S' H' → Q H') E → wpAny (model X.prog X.w) X.A (setItem ov iv u) (fun _ s' => ∃ H', Inv X pins σ H' s' ∧ Q H') X.xe s := by
  intro pins s σ H o i v ov iv u Q F S po pi pv E I ro ri rv w rpo rpi rpv q
  refine set_list pins s σ H o i v ov iv u Q I ro ri rv ?_
  cases po with
  | ref a =>
    cases pi with
    | int k =>
      cases rpo; cases rpi
      obtain ⟨xs, j, e, e2, q⟩ := q
      obtain ⟨vs, h, r⟩ := w.cell a _ e
      rw [r.length] at e2
      exact ⟨a, vs, k, j, rfl, rfl, h, e2, q _ _ (w.setLst e (r.set j rpv))⟩
    | _ => exact q.elim
  | _ => exact q.elim
theorem g_sub {o i : Expr} {mo mi : En → M PV} (ho : SE X Wx o mo) (hi : SE X Wx i mi) (hx : notSlice i = true) : SG X Wx L (.Subscript o i pos) (fun v env => bnd (mo env) fun a => bnd (mi env) fun k => bnd (vSet a k v) fun _ => ret env) :=
  ⟨fun pins s σ H v u Q I r ⟨F, S, env, px, er, w, rp, q⟩ => by
    have ha : ∀ v, assign (.Subscript o i pos) X.env v = (do
      let ov ← holding [v] (eval o X.env)
      let iv ← holding [v, ov] (eval i X.env)
      standAt pos
      holding [v, ov, iv] (setItem ov iv v)
      release [v, ov, iv] []) := by
      intro v
      cases i <;> first | rfl | cases hx
    rw [ha]
    have q' : (mo env).run S (fun a S1 => (mi env).run S1 (fun k S2 => (vSet a k px).run S2 (fun _ S3 => Pe (zs X) F S H L σ Q env S3) (Pw (zs X) F S H L σ Wx)) (Pw (zs X) F S H L σ Wx)) (Pw (zs X) F S H [] σ Wx) := (mo env).mono (fun _ _ q => q) (fun _ _ q => Pw.sub nil_sub q) q
    refine wpAny_bind (wpAny_holding (ho.go I er w q' fun ov s1 x1 p1 F1 S1 H1 I1 r1 n1 rp1 q1 => ?_))
    refine wpAny_bind (wpAny_holding (hi.go I1 (er.mono (n1.toSub w)) n1.w ((mi env).mono (fun _ _ q => q) (fun _ _ q => Pw.sub nil_sub (Pw.nxt n1 q)) q1) fun iv s2 x2 p2 F2 S2 H2 I2 r2 n2 rp2 q2 => ?_))
    have n12 := n1.trans n2
    refine wpAny_bind (wpAny_standAt (wpAny_bind (wpAny_holding (thn (o_set pins s2 σ H2 x1 x2 v ov iv u (fun H3 => Q σ H3) F2 S2 p1 p2 px _ I2 r1 r2 r n2.w (rp1.nxt n1.w n2) rp2 (rp.nxt w n12)
      ((vSet p1 p2 px).mono (fun _ S3 q F3 H3 n3 => q F3 H3 σ (n12.trans n3) (er.mono ((n12.trans n3).toSub w)) Out.refl) (fun _ _ q => q) q2)) fun _ s3 ⟨H3, I3, q3⟩ => ?_))))
    exact wpAny_release ⟨σ, H3, I3, q3⟩⟩

/-! ### what is walked -/
inductive Src where
  | fix
  | own (a : Addr) (xs : List PV)
def chkP (src : Src) (S : Stt) : Prop := match src with
  | .fix => True
  | .own a xs => S a = some (.lst xs)
def chk (src : Src) : M Unit := match src with
  | .fix => ret ()
  | .own a xs => ⟨fun S Q _ => S a = some (.lst xs) ∧ Q () S, fun h _ q => ⟨q.1, h _ _ q.2⟩⟩
theorem chk_run {src : Src} {S Q E} (h : (chk src).run S Q E) : chkP src S ∧ Q () S := by
  cases src with
  | fix => exact ⟨trivial, h⟩
  | own a xs => exact h
/-- J gives the items xs, one by one -/
structure Iter (Z : Zs) (J : It) (src : Src) (xs : List PV) (ok : (Addr → Prop) → Stt → Hp → Prop) : Prop where
  go : ∀ F S H i, ok F S H → W Z F S H → i < xs.length → J.go i H
  stop : ∀ F S H, ok F S H → W Z F S H → J.stop xs.length H
  yld : ∀ F S H i x v H', ok F S H → W Z F S H → xs[i]? = some x → J.yld i H v H' → ∃ F1, Nxt Z F S H F1 S H' ∧ Rep Z F1 H' x v
  keep : ∀ F S H F' S' H', ok F S H → Sub F H F' H' → chkP src S' → ok F' S' H'
def iM (Z : Zs) (Wx : WX) (mi : En → M (Src × List PV)) : TI := fun σ H R => ∃ F S env, EnvR Z F H env σ ∧ W Z F S H ∧ (mi env).run S (fun p S' => ∀ F' H' J ok, Nxt Z F S H F' S' H' → Iter Z J p.1 p.2 ok → ok F' S' H' → R J H') (Pw Z F S H [] σ Wx)
def SI (X : Cx) (Wx : WX) (tg iter : Expr) (mi : En → M (Src × List PV)) : Prop := PI X tg iter (iM (zs X) Wx mi)

def forM (src : Src) (body : PV → En → M Res) : List PV → En → M Res
  | [], env => bnd (chk src) fun _ => ret (.nx env)
  | x :: xs, env => bnd (chk src) fun _ => bnd (body x env) fun r => match r with
    | .nx e => forM src body xs e
    | .ct e => forM src body xs e
    | .bk e => ret (.nx e)
    | .rt v => ret (.rt v)
def forB (mi : En → M (Src × List PV)) (body : PV → En → M Res) : En → M Res := fun env => bnd (mi env) fun p => forM p.1 body p.2 env
theorem drop_get {α : Type} {xs : List α} {i : Nat} (h : i < xs.length) : ∃ x, xs[i]? = some x ∧ xs.drop i = x :: xs.drop (i + 1) :=
  ⟨xs[i], by simp [h], List.drop_eq_getElem_cons h⟩
theorem c_for {tg iter : Expr} {body : List Stmt} {mi : En → M (Src × List PV)} {g : PV → En → M En} {mb : En → M Res} (hp : PassesOwn (model X.prog X.w) X.A X.env X.xe) (hc : X.calm = true) (hi : SI X Wx tg iter mi) (hg : SG X Wx L tg g) (hb : SSs X Wx L body mb) (hs : ∀ x, foldedSetIterable iter X.env x = pure x) :
    SS X Wx L (.For tg iter body [] pos) (forB mi fun x env => bnd (g x env) mb) := .of (ps_for hp hc hi hg hb hs) fun D σ H F S env er w q => by
  refine ⟨F, S, env, er, w, (mi env).mono (fun p S1 q F1 H1 J ok n1 it o1 => ?_) (fun _ _ q => Pw.sub nil_sub q) q⟩
  obtain ⟨src, xs⟩ := p
  let body' : PV → En → M Res := fun x env => bnd (g x env) mb
  let Wn : Nat → Nat → St → Hp → Prop := fun i m σ' H' => m = xs.length - i ∧ i ≤ xs.length ∧ ∃ F0 S0 H0 F' S' env', ok F0 S0 H0 ∧ W (zs X) F0 S0 H0 ∧ Nxt (zs X) F0 S0 H0 F' S' H' ∧ Nxt (zs X) F S H F' S' H' ∧ EnvR (zs X) F' H' env' σ' ∧ Out L σ σ' ∧
    (forM src body' (xs.drop i) env').run S' (Pr (zs X) F S H L σ D) (Pw (zs X) F S H L σ Wx)
  refine ⟨Wn, ⟨_, rfl, Nat.zero_le _, F1, S1, H1, F1, S1, env, o1, n1.w, Nxt.refl n1.w, n1, er.mono (n1.toSub w), Out.refl, q⟩, ?_⟩
  rintro i m σ' H' ⟨rfl, hi', F0, S0, H0, F', S', env', o0, w0, n0, n', er', out', q'⟩
  by_cases hlt : i < xs.length
  · obtain ⟨x, hx, hd⟩ := drop_get hlt
    rw [hd] at q'
    obtain ⟨ck, q'⟩ := chk_run q'
    have o' := it.keep F0 S0 H0 F' S' H' o0 (n0.toSub w0) ck
    refine .inr ⟨it.go F' S' H' i o' n'.w hlt, Wn (i + 1) (xs.length - (i + 1)), fun σ2 H2 h => ⟨_, by omega, h⟩, fun v H2 y => ?_⟩
    obtain ⟨F2, n2, rx⟩ := it.yld F' S' H' i x v H2 o' n'.w hx y
    have n02 := n'.trans n2
    refine ⟨F2, S', env', x, er'.mono (n2.toSub n'.w), n2.w, rx, (g x env').mono (fun env3 S3 q3 F3 H3 σ3 n3 er3 out3 => ?_) (fun _ _ q => Pw.step n02 out' q) q'⟩
    have n03 := n02.trans n3
    have out03 := out'.trans out3
    refine ⟨F3, S3, env3, er3, n3.w, (mb env3).mono (fun r S4 q4 => ?_) (fun _ _ q => Pw.step n03 out03 q) q3⟩
    have next : ∀ {e : En}, (forM src body' (xs.drop (i + 1)) e).run S4 (Pr (zs X) F S H L σ D) (Pw (zs X) F S H L σ Wx) → Pe (zs X) F3 S3 H3 L σ3 (Wn (i + 1) (xs.length - (i + 1))) e S4 := fun {e} q F5 H5 σ5 n5 er5 out5 =>
      ⟨rfl, hlt, F', S', H', F5, S4, e, o', n'.w, (n2.trans n3).trans n5, n03.trans n5, er5, out03.trans out5, q⟩
    cases r with
    | nx e => exact next q4
    | ct e => exact next q4
    | bk e => exact Pe.step n03 out03 q4
    | rt v => exact Pv.nxt n03 q4
  · have ei : i = xs.length := by omega
    subst ei
    rw [List.drop_length] at q'
    obtain ⟨ck, q'⟩ := chk_run q'
    have o' := it.keep F0 S0 H0 F' S' H' o0 (n0.toSub w0) ck
    exact .inl ⟨it.stop F' S' H' o' n'.w, q' F' H' σ' n' er' out'⟩

/-! ### while -/
def wh (mt : En → M Bool) (mb : En → M Res) : Nat → En → M Res
  | 0, _ => stuck
  | n + 1, env => bnd (mt env) fun t => if t = true then bnd (mb env) fun r => match r with
    | .nx e => wh mt mb n e
    | .ct e => wh mt mb n e
    | .bk e => ret (.nx e)
    | .rt v => ret (.rt v)
    else ret (.nx env)
def whileM (mt : En → M Bool) (mb : En → M Res) (env : En) : M Res := ⟨fun S Q E => ∃ n, (wh mt mb n env).run S Q E, fun h g ⟨n, q⟩ => ⟨n, (wh mt mb n env).mono h g q⟩⟩
theorem c_while {body : List Stmt} {mb : En → M Res} (hp : PassesOwn (model X.prog X.w) X.A X.env X.xe) (hc : STe X Wx c mt) (hb : SSs X Wx L body mb) : SS X Wx L (.While c body [] pos) (whileM mt mb) := .of (ps_while hp hc hb) fun D σ H F S env er w ⟨n, q⟩ => by
  let Wn : Nat → St → Hp → Prop := fun m σ' H' => ∃ F' S' env', Nxt (zs X) F S H F' S' H' ∧ EnvR (zs X) F' H' env' σ' ∧ Out L σ σ' ∧ (wh mt mb m env').run S' (Pr (zs X) F S H L σ D) (Pw (zs X) F S H L σ Wx)
  refine ⟨Wn, ⟨n, F, S, env, Nxt.refl w, er, Out.refl, q⟩, ?_⟩
  rintro m σ' H' ⟨F', S', env', n', er', out', q'⟩
  cases m with
  | zero => exact q'.elim
  | succ m =>
    refine ⟨F', S', env', er', n'.w, (mt env').mono (fun t S2 q2 F2 H2 n2 => ?_) (fun _ _ q => Pw.sub nil_sub (Pw.step n' out' q)) q'⟩
    have n02 := n'.trans n2
    cases t with
    | true =>
      show if true = true then _ else _
      rw [if_pos rfl]
      refine ⟨fun σ3 H3 => Wn m σ3 H3, fun σ3 H3 h => ⟨m, Nat.lt_succ_self m, h⟩, F2, S2, env', er'.mono (n2.toSub n'.w), n2.w, (mb env').mono (fun r S4 q4 => ?_) (fun _ _ q => Pw.step n02 out' q) q2⟩
      have next : ∀ {e : En}, (wh mt mb m e).run S4 (Pr (zs X) F S H L σ D) (Pw (zs X) F S H L σ Wx) → Pe (zs X) F2 S2 H2 L σ' (Wn m) e S4 := fun {e} q F5 H5 σ5 n5 er5 out5 => ⟨F5, S4, e, n02.trans n5, er5, out'.trans out5, q⟩
      cases r with
      | nx e => exact next q4
      | ct e => exact next q4
      | bk e => exact Pe.step n02 out' q4
      | rt v => exact Pv.nxt n02 q4
    | false =>
      show if false = true then _ else _
      rw [if_neg Bool.false_ne_true]
      exact q2 F2 H2 σ' n02 (er'.mono (n2.toSub n'.w)) out'
end
end Dp

namespace Dp
open PySem PySem.Spec L2
open PyProof.Rows hiding St

section
variable {X : Cx} {Wx : WX} {tg iter : Expr} {pos : Pos}
/-! ### sources of loops -/
theorem it_fix {J : It} {xs : List PV} {G : (Addr → Prop) → Hp → Prop} (mono : ∀ F H F' H', Sub F H F' H' → G F H → G F' H')
    (go : ∀ F H i, G F H → i < xs.length → J.go i H) (stop : ∀ F H, G F H → J.stop xs.length H)
    (yld : ∀ F S H i x v H', G F H → W (zs X) F S H → xs[i]? = some x → J.yld i H v H' → ∃ F1, Nxt (zs X) F S H F1 S H' ∧ Rep (zs X) F1 H' x v) : Iter (zs X) J .fix xs (fun F _ H => G F H) :=
  ⟨fun F S H i o _ h => go F H i o h, fun F S H o _ => stop F H o, fun F S H i x v H' o w hx y => yld F S H i x v H' o w hx y, fun F S H F' S' H' o sb _ => mono F H F' H' sb o⟩
theorem it_lst {a : Addr} {xs : List PV} : Iter (zs X) (Itl X.K a) .fix xs (fun F _ H => ∃ vs, LstAt F H a vs ∧ RepL (zs X) F H xs vs) := by
  refine it_fix (fun F H F' H' s ⟨vs, h, r⟩ => ⟨vs, h.mono s, r.mono s⟩) (fun F H i ⟨vs, h, r⟩ hi => ?_) (fun F H ⟨vs, h, r⟩ => ⟨vs, h.sq, by rw [r.length]; exact Nat.le_refl _⟩) fun F S H i x v H' ⟨vs, h, r⟩ w hx y => ?_
  · rw [r.length] at hi
    exact ⟨vs, vs[i], h.sq, by simp [hi]⟩
  · obtain ⟨e, y⟩ := y
    subst e
    obtain ⟨u, hu, ru⟩ := r.get hx
    have := y vs h.sq
    rw [hu] at this; cases this
    exact ⟨F, Nxt.refl w, ru⟩
theorem it_loc {a : Addr} {xs : List PV} : Iter (zs X) (Itl X.K a) .fix xs (fun F _ H => ∃ vs, LocAt (zs X) F H a vs ∧ RepL (zs X) F H xs vs) := by
  refine it_fix (fun F H F' H' s ⟨vs, h, r⟩ => ⟨vs, h.mono s, r.mono s⟩) (fun F H i ⟨vs, h, r⟩ hi => ?_) (fun F H ⟨vs, h, r⟩ => ⟨vs, h.sq, by rw [r.length]; exact Nat.le_refl _⟩) fun F S H i x v H' ⟨vs, h, r⟩ w hx y => ?_
  · rw [r.length] at hi
    exact ⟨vs, vs[i], h.sq, by simp [hi]⟩
  · obtain ⟨e, y⟩ := y
    subst e
    obtain ⟨u, hu, ru⟩ := r.get hx
    have := y vs h.sq
    rw [hu] at this; cases this
    exact ⟨F, Nxt.refl w, ru⟩
theorem it_tup {a : Addr} {xs : List PV} : Iter (zs X) (Itt X.K a) .fix xs (fun F _ H => ∃ vs, TupAt (zs X) F H a vs ∧ RepL (zs X) F H xs vs) := by
  refine it_fix (fun F H F' H' s ⟨vs, h, r⟩ => ⟨vs, h.mono s, r.mono s⟩) (fun F H i ⟨vs, h, r⟩ hi => ?_) (fun F H ⟨vs, h, r⟩ => ⟨vs, h.sq, by rw [r.length]; exact Nat.le_refl _⟩) fun F S H i x v H' ⟨vs, h, r⟩ w hx y => ?_
  · rw [r.length] at hi
    exact ⟨vs, vs[i], h.sq, by simp [hi]⟩
  · obtain ⟨e, y⟩ := y
    subst e
    obtain ⟨u, hu, ru⟩ := r.get hx
    have := y vs h.sq
    rw [hu] at this; cases this
    exact ⟨F, Nxt.refl w, ru⟩
theorem it_own {a : Addr} {xs : List PV} : Iter (zs X) (Itl X.K a) (.own a xs) xs (fun _ S _ => S a = some (.lst xs)) := by
  refine ⟨fun F S H i o w hi => ?_, fun F S H o w => ?_, fun F S H i x v H' o w hx y => ?_, fun F S H F' S' H' _ _ ck => ck⟩
  · obtain ⟨vs, h, r⟩ := w.cell a _ o
    rw [r.length] at hi
    exact ⟨vs, vs[i], .of h, by simp [hi]⟩
  · obtain ⟨vs, h, r⟩ := w.cell a _ o
    exact ⟨vs, .of h, by rw [r.length]; exact Nat.le_refl _⟩
  · obtain ⟨e, y⟩ := y
    subst e
    obtain ⟨vs, h, r⟩ := w.cell a _ o
    obtain ⟨u, hu, ru⟩ := r.get hx
    have := y vs (.of h)
    rw [hu] at this; cases this
    exact ⟨F, Nxt.refl w, ru⟩
def strItems (z : Str) : List PV := z.cps.toList.map fun c => .str ⟨#[c]⟩
theorem it_str {z : Str} : Iter (zs X) (Its z) .fix (strItems z) (fun _ _ _ => True) := by
  refine it_fix (fun _ _ _ _ _ _ => trivial) (fun F H i _ hi => ?_) (fun F H _ => ?_) fun F S H i x v H' _ w hx y => ?_
  · show i < z.cps.size
    simpa [strItems] using hi
  · show z.cps.size ≤ _
    simp [strItems]
  · obtain ⟨rfl, c, hc, rfl⟩ := y
    unfold strItems at hx
    rw [List.getElem?_map] at hx
    have hc' : z.cps.toList[i]? = some c := by simpa using hc
    rw [hc'] at hx
    cases hx
    exact ⟨F, Nxt.refl w, .str _⟩
def rngItems (lo : Int) (n : Nat) : List PV := (List.range n).map fun (i : Nat) => PV.int (lo + (i : Int))
theorem rngItems_len {lo n} : (rngItems lo n).length = n := by simp [rngItems]
theorem it_rng {lo : Int} {n : Nat} : Iter (zs X) (Itr lo n) .fix (rngItems lo n) (fun _ _ _ => True) := by
  refine it_fix (fun _ _ _ _ _ _ => trivial) (fun F H i _ hi => ?_) (fun F H _ => ?_) fun F S H i x v H' _ w hx y => ?_
  · show i < n
    rw [rngItems_len] at hi; exact hi
  · show n ≤ _
    rw [rngItems_len]; exact Nat.le_refl _
  · obtain ⟨rfl, rfl⟩ := y
    unfold rngItems at hx
    rw [List.getElem?_map] at hx
    cases e : (List.range n)[i]? with
    | none => rw [e] at hx; cases hx
    | some j =>
      rw [e] at hx
      cases hx
      have : j = i := by
        rw [List.getElem?_range] at e
        · cases e; rfl
        · exact Nat.lt_of_not_le fun z => by rw [List.getElem?_eq_none (by simpa using z)] at e; cases e
      subst this
      exact ⟨F, Nxt.refl w, .int _⟩
/-- any value that is walked -/
def vSrc : PV → M (Src × List PV)
  | .tup xs => ret (.fix, xs)
  | .lst xs => ret (.fix, xs)
  | .loc xs => ret (.fix, xs)
  | .str z => ret (.fix, strItems z)
  | .ref a => ⟨fun S Q _ => ∃ xs, S a = some (.lst xs) ∧ Q (.own a xs, xs) S, fun h _ ⟨xs, e, q⟩ => ⟨xs, e, h _ _ q⟩⟩
  | _ => stuck
theorem i_val {m : En → M PV} (he : SE X Wx iter m) : SI X Wx tg iter (fun env => bnd (m env) vSrc) :=
  ⟨fun pins s σ H R I ⟨F, S, env, er, w, q⟩ => he.go I er w q fun v s1 x px F1 S1 H1 I1 r1 n1 rp1 q1 => by
    have one : ∀ {a : Addr}, (∃ vs, SqL X.K H1 a vs) → R (Itl X.K a) H1 → wpAny (model X.prog X.w) X.A (pyIter (.ref a)) (PIE X pins σ tg R) X.xe s1 := fun {a} ⟨vs, hq⟩ hR => by
      obtain ⟨its, rv, p, hz⟩ := I1.list hq
      refine wpAny_pyIter_list p.isList ?_
      refine ⟨s1.heap.objs.size, [s1.heap.objs.size], _, _, H1, rfl, I1.kept (t' := s1.toks) fun b o e => Heap.get?_push_of_some _ e, turn_list a _, ⟨_, Heap.get?_push_size _ rfl, rfl, rfl⟩, fun b hb => ?_, hR⟩
      have e : b = s1.heap.objs.size := by simpa using hb
      subst e
      exact I1.fpOk (Nat.le_refl _) (I1.hok.fresh (Nat.le_refl _))
    cases px with
    | tup xs =>
      cases rp1 with
      | @tup a _ vs t rl =>
        cases r1
        obtain ⟨its, rv, p, hz⟩ := I1.tuple t.sq
        refine wpAny_pyIter_tuple (show s1.heap.IsTuple a its.toArray from p) ?_
        refine ⟨s1.heap.objs.size, [s1.heap.objs.size], _, _, H1, rfl, I1.kept (t' := s1.toks) fun b o e => Heap.get?_push_of_some _ e, turn_tuple a _, ⟨_, Heap.get?_push_size _ rfl, rfl, rfl⟩, fun b hb => ?_, q1 F1 H1 _ _ n1 it_tup ⟨vs, t, rl⟩⟩
        have e : b = s1.heap.objs.size := by simpa using hb
        subst e
        exact I1.fpOk (Nat.le_refl _) (I1.hok.fresh (Nat.le_refl _))
    | lst xs =>
      cases rp1 with
      | @lst a _ vs t rl =>
        cases r1
        exact one ⟨vs, t.sq⟩ (q1 F1 H1 _ _ n1 it_lst ⟨vs, t, rl⟩)
    | loc xs =>
      cases rp1 with
      | @loc a _ vs t rl =>
        cases r1
        exact one ⟨vs, t.sq⟩ (q1 F1 H1 _ _ n1 it_loc ⟨vs, t, rl⟩)
    | ref a =>
      cases rp1
      cases r1
      obtain ⟨xs, e, q1⟩ := q1
      obtain ⟨vs, h, rl⟩ := n1.w.cell a _ e
      exact one ⟨vs, .of h⟩ (q1 F1 H1 _ _ n1 it_own e)
    | str z =>
      cases rp1
      obtain ⟨t, rfl⟩ := r1
      have hR := q1 F1 H1 _ _ n1 it_str trivial
      cases ha : z.cps.all (· < 128)
      · exact wpAny_pyIter_wide ha (pi_one (tk := s1.toks) I1 _ (turn_str _ z t "str_iterator" (.inr rfl)) ⟨_, Heap.get?_push_size _ rfl, rfl, rfl⟩ hR)
      · exact wpAny_pyIter_ascii ha (pi_one (tk := s1.toks) I1 _ (turn_str _ z t "str_ascii_iterator" (.inl rfl)) ⟨_, Heap.get?_push_size _ rfl, rfl, rfl⟩ hR)
    | _ => exact q1.elim⟩
def inRng (i : Int) : Prop := -(2 ^ 62) ≤ i ∧ i < 2 ^ 62
def vRng : List PV → M (Src × List PV)
  | [.int j] => bnd (guard (inRng j)) fun _ => ret (.fix, rngItems 0 j.toNat)
  | [.int i, .int j] => bnd (guard (inRng i ∧ inRng j)) fun _ => ret (.fix, rngItems i (j - i).toNat)
  | _ => stuck
theorem i_rng1 {a : Expr} {ms : En → M (List PV)} {p : Pos} (hg : Gl X "range") (hm : X.mg "range" = none) (ha : SA X Wx [a] ms) (hs : notStar a = true) : SI X Wx tg (.Call (.Name "range" p) [a] [] pos) (fun env => bnd (ms env) fun xs => bnd (guard (xs.length = 1)) fun _ => vRng xs) :=
  ⟨fun pins s σ H R I ⟨F, S, env, er, w, q⟩ => (pi_range1 hg hm ha (starEach_not hs)).run pins s σ H R I ⟨F, S, env, er, w, (ms env).mono (fun ps S1 q F1 H1 vs n r => by
    obtain ⟨hl, q⟩ := q
    match ps, vs, r with
    | [.int j], [_], .cons (.int _) .nil => exact ⟨j, rfl, q.1.1, q.1.2, q.2 F1 H1 _ _ n it_rng trivial⟩
    | [.non], _, _ => exact q.elim
    | [.bl _], _, _ => exact q.elim
    | [.str _], _, _ => exact q.elim
    | [.tup _], _, _ => exact q.elim
    | [.lst _], _, _ => exact q.elim
    | [.loc _], _, _ => exact q.elim
    | [.ref _], _, _ => exact q.elim
    | [.fn _], _, _ => exact q.elim
    | [.ty _], _, _ => exact q.elim
    | [.clo _ _ _ _ _], _, _ => exact q.elim
    | [], _, _ => simp at hl
    | _ :: _ :: _, _, _ => simp at hl) (fun _ _ q => q) q⟩⟩
theorem vRng2 {x y : PV} {S Q E} (h : (vRng [x, y]).run S Q E) : ∃ i j, x = .int i ∧ y = .int j ∧ inRng i ∧ inRng j ∧ Q (.fix, rngItems i (j - i).toNat) S := by
  cases x <;> cases y <;> first | exact ⟨_, _, rfl, rfl, h.1.1, h.1.2, h.2⟩ | exact h.elim
theorem i_rng2 {a b : Expr} {ms : En → M (List PV)} {p : Pos} (hg : Gl X "range") (hm : X.mg "range" = none) (ha : SA X Wx [a, b] ms) (hs : noStars [a, b] = true) : SI X Wx tg (.Call (.Name "range" p) [a, b] [] pos) (fun env => bnd (ms env) fun xs => bnd (guard (xs.length = 2)) fun _ => vRng xs) := by
  have h' : notStar a = true ∧ noStars [b] = true := by simpa [noStars] using hs
  exact ⟨fun pins s σ H R I ⟨F, S, env, er, w, q⟩ => (pi_range2 hg hm ha (by rw [starEach_not h'.1, starEach_not (by simpa [noStars] using h'.2)]; rfl) (by rw [starEach_not (by simpa [noStars] using h'.2)]; rfl)).run pins s σ H R I ⟨F, S, env, er, w, (ms env).mono (fun ps S1 q F1 H1 vs n r => by
    obtain ⟨hl, q⟩ := q
    match ps, vs, r with
    | [x, y], [_, _], .cons r1 (.cons r2 .nil) =>
      obtain ⟨i, j, rfl, rfl, h1, h2, q⟩ := vRng2 q
      cases r1; cases r2
      exact ⟨i, j, rfl, ⟨h1.1, h1.2, h2.1, h2.2⟩, q F1 H1 _ _ n it_rng trivial⟩
    | [], _, _ => simp at hl
    | [_], _, _ => simp at hl
    | _ :: _ :: _ :: _, _, _ => simp at hl) (fun _ _ q => q) q⟩⟩
end

/-! ### comprehensions -/
section
variable {Z : Zs} {F0 F : Addr → Prop} {S0 S : Stt} {H0 H : Hp} {D : Addr} {xs : List PV} {vs : List V}
/-- a hidden list becomes a value -/
theorem Nxt.adopt (n : Nxt Z F0 S0 H0 F S H) (h0 : H0 D = none) (hS : S D = none) (hD : H D = some (.lst vs)) : Nxt Z F0 S0 H0 (fun a => F a ∨ a = D) S H := by
  have sb : Sub F H (fun a => F a ∨ a = D) H := ⟨fun a q => .inl q, fun a u q e _ => e⟩
  refine ⟨fun a q => .inl (n.sub a q), n.keep, n.own, fun b o e hh s f q => ?_, ⟨fun a q => ?_, fun a q => ?_, fun a c e => (n.w.cell a c e).mono sb rfl fun _ q => q, n.w.tabs⟩⟩
  · rcases q with q | q
    · exact n.fre b o e hh s f q
    · rw [q, h0] at e; cases e
  · rcases q with q | q
    · exact n.w.dis a q
    · rw [q]; exact hS
  · rcases q with q | q
    · exact n.w.ff a q
    · rw [q]; exact ⟨_, hD, rfl⟩
theorem Nxt.adoptOwn (n : Nxt Z F0 S0 H0 F S H) (h0 : H0 D = none) (hS : S D = none) (hF : ¬ F D) (hD : H D = some (.lst vs)) (r : RepL Z F H xs vs) : Nxt Z F0 S0 H0 F (put S D (.lst xs)) H := by
  refine ⟨n.sub, n.keep, fun b o e s nt => ?_, n.fre, ⟨fun a q => ?_, n.w.ff, fun a c e => ?_, n.w.tabs⟩⟩
  · rw [put_ne (ne_of_none e h0)]; exact n.own b o e s nt
  · rw [put_ne (fun z => hF (by rw [← z]; exact q))]; exact n.w.dis a q
  · by_cases ha : a = D
    · subst ha; rw [put_same] at e; cases e
      exact ⟨vs, hD, r⟩
    · rw [put_ne ha] at e; exact n.w.cell a c e
/-- the hidden list grows -/
theorem W.grow (w : W Z F S H) (hS : S D = none) (hF : ¬ F D) (hD : H D = some (.lst vs)) {us : List V} : W Z F S (upd H D (.lst us)) ∧ Sub F H F (upd H D (.lst us)) := by
  have sb : Sub F H F (upd H D (.lst us)) := ⟨fun a q => q, fun a u q e _ => by rw [upd_ne (fun z => hF (by rw [← z]; exact q))]; exact e⟩
  refine ⟨⟨w.dis, fun a q => ?_, fun a c e => (w.cell a c e).mono sb (upd_ne fun z => ?_) fun dx q => ?_, tabs_upd w.tabs (.inr (.inl ⟨_, hD⟩))⟩, sb⟩
  · obtain ⟨u, e, t⟩ := w.ff a q
    exact ⟨u, by rw [upd_ne (fun z => hF (by rw [← z]; exact q))]; exact e, t⟩
  · rw [z, hS] at e; cases e
  · rw [upd_ne fun z => by rw [z, hD] at q; cases q]; exact q
theorem Nxt.grow (n : Nxt Z F0 S0 H0 F S H) (h0 : H0 D = none) (hS : S D = none) (hF : ¬ F D) (hD : H D = some (.lst vs)) {us : List V} : Nxt Z F0 S0 H0 F S (upd H D (.lst us)) :=
  ⟨n.sub, fun b o e s nt => by rw [upd_ne (ne_of_none e h0)]; exact n.keep b o e s nt, n.own, n.fre, (n.w.grow hS hF hD).1⟩
end
def noexc {α : Type} (m : M α) : M α := ⟨fun S Q _ => m.run S Q (fun _ _ => False), fun h _ q => m.mono h (fun _ _ z => z) q⟩
@[simp] theorem noexc_ret {α : Type} (a : α) : noexc (ret a) = ret a := rfl
/-- a comprehension's loop: acc is what it has so far -/
def compM (src : Src) (body : PV → List PV → M (List PV)) : List PV → List PV → M (List PV)
  | [], acc => bnd (chk src) fun _ => ret acc
  | x :: xs, acc => bnd (chk src) fun _ => bnd (body x acc) fun acc => compM src body xs acc
def app1 (acc : List PV) (x : PV) : M (List PV) := bnd (guard (acc.length < sizeLine)) fun _ => ret (acc ++ [x])
def compB (vs : List Nat) (mi : En → M (Src × List PV)) (g : PV → En → M En) (mt : En → M Bool) (me : En → M PV) : En → M (List PV) := fun env =>
  bnd (mi env) fun p => compM p.1 (fun x acc => noexc (bnd (g x (wipeE env vs)) fun env1 => bnd (mt env1) fun t => if t = true then bnd (me env1) fun y => app1 acc y else ret acc)) p.2 []
def wFalse : WX := fun _ _ _ _ => False
def SPT (X : Cx) (Wx : WX) (ifs : List Expr) (mt : En → M Bool) : Prop := PTs X ifs (tT (zs X) Wx mt)
theorem spt_nil {X : Cx} {Wx : WX} : SPT X Wx [] (fun _ => ret true) := ⟨fun pins s σ H Q I ⟨F, S, env, er, w, q⟩ => pts_nil.run pins s σ H Q I (q F H (Nxt.refl w))⟩
theorem spt_one {X : Cx} {Wx : WX} {c : Expr} {mt : En → M Bool} (h : STe X Wx c mt) : SPT X Wx [c] mt := pts_one h
def freezeL (xs : List PV) : M PV := ret (.lst xs)
def ownL (xs : List PV) : M PV := ⟨fun S Q _ => ∀ p, S p = none → Q (.ref p) (put S p (.lst xs)), fun h _ q => fun p e => h _ _ (q p e)⟩
theorem W.layHid {Z : Zs} {F : Addr → Prop} {S : Stt} {H : Hp} {D : Addr} (w : W Z F S H) (h : H D = none) {vs : List V} : Nxt Z F S H F S (upd H D (.lst vs)) := by
  have hs := w.fresh_S h
  have sb : Sub F H F (upd H D (.lst vs)) := ⟨fun a q => q, fun a u q e _ => by rw [upd_ne (ne_of_none e h)]; exact e⟩
  refine ⟨fun a q => q, fun b u e _ _ => ?_, fun b u e s _ => s, fun b u e _ _ nf => nf, ⟨w.dis, fun a q => ?_, fun a c e => ?_, tabs_upd w.tabs (.inl h)⟩⟩
  · rw [upd_ne (ne_of_none e h)]; exact e
  · obtain ⟨u, e, t⟩ := w.ff a q
    exact ⟨u, by rw [upd_ne (ne_of_none e h)]; exact e, t⟩
  · have ha : a ≠ D := fun z => by subst z; rw [hs] at e; cases e
    refine (w.cell a c e).mono sb (upd_ne ha) fun dx q => ?_
    rw [upd_ne (ne_of_none q h)]; exact q
theorem Out.wipe {L : List Nat} {σ : St} : Out L σ (L2.wipe σ L) := ⟨wipe_length σ L, fun i h => wipe_get h⟩
/-- the list that a comprehension fills -/
structure Hid (Z : Zs) (D : Addr) (F : Addr → Prop) (S : Stt) (H : Hp) (acc : List PV) : Prop where
  s : S D = none
  f : ¬ F D
  ex : ∃ vs, H D = some (.lst vs) ∧ RepL Z F H acc vs
theorem Hid.nxt {Z D F S H F' S' H' acc} (h : Hid Z D F S H acc) (w : W Z F S H) (n : Nxt Z F S H F' S' H') : Hid Z D F' S' H' acc := by
  obtain ⟨vs, e, r⟩ := h.ex
  have nt : nontbl (.lst vs) := fun ps e => nomatch e
  exact ⟨n.own D _ e h.s nt, n.fre D _ e rfl h.s h.f, vs, n.keep D _ e h.s nt, r.mono (n.toSub w)⟩
section
variable {X : Cx} {Wx : WX}
theorem comp_loop {J : It} {src : Src} {xs : List PV} {ok : (Addr → Prop) → Stt → Hp → Prop} (it : Iter (zs X) J src xs ok) {D : Addr} {Fb Fs : Addr → Prop} {Sb Ss : Stt} {Hb Hs : Hp} {body : PV → List PV → M (List PV)} {R : List PV → Stt → Prop} {E : Exc → Stt → Prop} {Fin : Hp → Prop} {Step : V → Hp → (Hp → Prop) → Prop} {acc0 : List PV}
    (fin : ∀ acc F S H, R acc S → Nxt (zs X) Fb Sb Hb F S H → Sub Fs Hs F H → Hid (zs X) D F S H acc → Fin H)
    (step : ∀ x v acc F S H (K : List PV → Stt → Prop) (Nx : Hp → Prop), Nxt (zs X) Fb Sb Hb F S H → Sub Fs Hs F H → Hid (zs X) D F S H acc → Rep (zs X) F H x v → (body x acc).run S K E →
      (∀ acc' F' S' H', Nxt (zs X) Fb Sb Hb F' S' H' → Sub Fs Hs F' H' → Hid (zs X) D F' S' H' acc' → K acc' S' → Nx H') → Step v H Nx)
    (n : Nxt (zs X) Fb Sb Hb Fs Ss Hs) (hid : Hid (zs X) D Fs Ss Hs acc0) (o : ok Fs Ss Hs) (q : (compM src body xs acc0).run Ss R E) :
    ∃ W : Nat → Nat → Hp → Prop, (∃ m, W 0 m Hs) ∧ ∀ i m H, W i m H → (J.stop i H ∧ Fin H) ∨ (J.go i H ∧ ∃ Nx : Hp → Prop, (∀ H', Nx H' → ∃ m', m' < m ∧ W (i + 1) m' H') ∧ ∀ x H', J.yld i H x H' → Step x H' Nx) := by
  let Wn : Nat → Nat → Hp → Prop := fun i m H' => m = xs.length - i ∧ i ≤ xs.length ∧ ∃ F' S' acc, Nxt (zs X) Fb Sb Hb F' S' H' ∧ Sub Fs Hs F' H' ∧ Hid (zs X) D F' S' H' acc ∧ (compM src body (xs.drop i) acc).run S' R E
  refine ⟨Wn, ⟨_, rfl, Nat.zero_le _, Fs, Ss, acc0, n, Sub.refl, hid, q⟩, ?_⟩
  rintro i m H' ⟨rfl, hi', F', S', acc, n', sb, hd', q'⟩
  by_cases hlt : i < xs.length
  · obtain ⟨x, hx, hd⟩ := drop_get hlt
    rw [hd] at q'
    obtain ⟨ck, q'⟩ := chk_run q'
    have o' := it.keep Fs Ss Hs F' S' H' o sb ck
    refine .inr ⟨it.go F' S' H' i o' n'.w hlt, Wn (i + 1) (xs.length - (i + 1)), fun H2 h => ⟨_, by omega, h⟩, fun v H2 y => ?_⟩
    obtain ⟨F2, n2, rx⟩ := it.yld F' S' H' i x v H2 o' n'.w hx y
    exact step x v acc F2 S' H2 _ _ (n'.trans n2) (sb.trans (n2.toSub n'.w)) (hd'.nxt n'.w n2) rx q' fun acc' F3 S3 H3 n3 sb3 hd3 q3 => ⟨rfl, hlt, F3, S3, acc', n3, sb3, hd3, q3⟩
  · have ei : i = xs.length := by omega
    subst ei
    rw [List.drop_length] at q'
    obtain ⟨ck, q'⟩ := chk_run q'
    have o' := it.keep Fs Ss Hs F' S' H' o sb ck
    exact .inl ⟨it.stop F' S' H' o' n'.w, fin acc F' S' H' q' n' sb hd'⟩
/-- the element laid behind -/
theorem comp_leaf {me : En → M PV} {env : En} {σ : St} {D : Addr} {Fb Fs F : Addr → Prop} {Sb S : Stt} {Hb Hs H : Hp} {acc : List PV} {K : List PV → Stt → Prop} {Nx : Hp → Prop} {E : Exc → Stt → Prop} (hb : Hb D = none) (hE : ∀ e S, ¬ E e S)
    (n : Nxt (zs X) Fb Sb Hb F S H) (sb : Sub Fs Hs F H) (hfs : ¬ Fs D) (hid : Hid (zs X) D F S H acc) (er : EnvR (zs X) F H env σ) (q : (bnd (me env) fun y => app1 acc y).run S K E)
    (hk : ∀ acc' F' S' H', Nxt (zs X) Fb Sb Hb F' S' H' → Sub Fs Hs F' H' → Hid (zs X) D F' S' H' acc' → K acc' S' → Nx H') :
    tE (zs X) wFalse me σ H fun y H4 => ∃ acc, H4 D = some (.lst acc) ∧ acc.length < sizeLine ∧ Nx (upd H4 D (.lst (acc ++ [y]))) := by
  refine ⟨F, S, env, er, n.w, (me env).mono (fun y S5 q5 F5 H5 yv n5 r5 => ?_) (fun e S q => (hE e S q).elim) q⟩
  obtain ⟨hz, q5⟩ := q5
  have h5 := hid.nxt n.w n5
  obtain ⟨vs, hD, rl⟩ := h5.ex
  have nb := n.trans n5
  refine ⟨vs, hD, by rw [← rl.length]; exact hz, ?_⟩
  have g := nb.w.grow h5.s h5.f hD (us := vs ++ [yv])
  refine hk (acc ++ [y]) F5 S5 _ (nb.grow hb h5.s h5.f hD) ((sb.trans (n5.toSub n.w)).trans g.2) ⟨h5.s, h5.f, _, upd_same, ((rl.append (.cons r5 .nil)).mono g.2)⟩ q5
theorem compM_chk {src : Src} {body : PV → List PV → M (List PV)} {xs acc : List PV} {S R E} (q : (compM src body xs acc).run S R E) : chkP src S := by
  cases xs with
  | nil => exact (chk_run q).1
  | cons => exact (chk_run q).1
/-- one clause's turn -/
theorem comp_turn {L : List Nat} {g : PV → En → M En} {mt : En → M Bool} {env : En} {σ : St} {D : Addr} {Fb Fs F : Addr → Prop} {Sb S : Stt} {Hb Hs H : Hp} {acc : List PV} {K : List PV → Stt → Prop} {Nx : Hp → Prop} {E : Exc → Stt → Prop} {x : PV} {v : V} {cont : En → M (List PV)} {rest : St → Hp → Prop} (hE : ∀ e S, ¬ E e S)
    (n : Nxt (zs X) Fb Sb Hb F S H) (sb : Sub Fs Hs F H) (hid : Hid (zs X) D F S H acc) (er : EnvR (zs X) Fs Hs env σ) (rx : Rep (zs X) F H x v) (q : (bnd (g x (wipeE env L)) fun env1 => bnd (mt env1) fun t => if t = true then cont env1 else ret acc).run S K E)
    (hk : ∀ acc' F' S' H', Nxt (zs X) Fb Sb Hb F' S' H' → Sub Fs Hs F' H' → Hid (zs X) D F' S' H' acc' → K acc' S' → Nx H')
    (hc : ∀ env1 σ1 F' S' H', Nxt (zs X) Fb Sb Hb F' S' H' → Sub Fs Hs F' H' → Hid (zs X) D F' S' H' acc → EnvR (zs X) F' H' env1 σ1 → (cont env1).run S' K E → rest σ1 H') :
    tG (zs X) wFalse L g v (wipe σ L) H fun σ2 H2 => wipe σ2 L = wipe σ L ∧ tT (zs X) wFalse mt σ2 H2 fun b H3 => if b = true then rest σ2 H3 else Nx H3 := by
  refine ⟨F, S, wipeE env L, x, (er.mono sb).wipe L, n.w, rx, (g x (wipeE env L)).mono (fun env3 S3 q3 F3 H3 σ3 n3 er3 out3 => ?_) (fun e S q => (hE e S q).elim) q⟩
  refine ⟨((Out.wipe (σ := σ)).trans out3).wipe_eq, ?_⟩
  refine ⟨F3, S3, env3, er3, n3.w, (mt env3).mono (fun t S4 q4 F4 H4 n4 => ?_) (fun e S q => (hE e S q).elim) q3⟩
  have n34 := n3.trans n4
  have sb' := sb.trans (n34.toSub n.w)
  cases t with
  | false => exact hk acc F4 S4 H4 (n.trans n34) sb' (hid.nxt n.w n34) q4
  | true => exact hc env3 σ3 F4 S4 H4 (n.trans n34) sb' (hid.nxt n.w n34) (er3.mono (n4.toSub n3.w)) q4
theorem tLc_of {L : List Nat} {mi : En → M (Src × List PV)} {g : PV → En → M En} {mt : En → M Bool} {me : En → M PV} {σ : St} {H : Hp} {F : Addr → Prop} {S : Stt} {env : En} {Q : VK} (er : EnvR (zs X) F H env σ) (w : W (zs X) F S H)
    (R : List PV → Stt → Prop) (hR : ∀ acc S' F' H' D F1 S1 H1, R acc S' → Nxt (zs X) F S H F1 S1 H1 → Nxt (zs X) F1 S1 H1 F' S' H' → H1 D = none → Hid (zs X) D F' S' H' acc → Q (.ref D) H')
    (q : (compB L mi g mt me env).run S R (Pw (zs X) F S H [] σ Wx)) : tLc (iM (zs X) Wx mi) (tG (zs X) wFalse L g) (tT (zs X) wFalse mt) (tE (zs X) wFalse me) L σ H Q := by
  refine ⟨F, S, env, er, w, (mi env).mono (fun p S1 q F1 H1 J ok n1 it o1 => ?_) (fun _ _ q => q) q⟩
  obtain ⟨src, xs⟩ := p
  intro D hD
  have nl := n1.w.layHid hD (vs := [])
  have sb0 : Sub F1 H1 F1 (upd H1 D (.lst [])) := nl.toSub n1.w
  refine comp_loop (X := X) it (D := D) (Fb := F1) (Sb := S1) (Hb := H1) (Fs := F1) (Ss := S1) (Hs := upd H1 D (.lst [])) (E := Pw (zs X) F S H [] σ Wx) (Fin := fun H' => Q (.ref D) H')
    (fun acc F' S' H' r n' _ hd => hR acc S' F' H' D F1 S1 H1 r n1 n' hD hd) (fun x v acc F' S' H' K Nx n' sb hd rx q' hk => ?_) nl ⟨n1.w.fresh_S hD, n1.w.fresh_F hD, [], upd_same, .nil⟩ (it.keep F1 S1 H1 F1 S1 _ o1 sb0 ?_) q
  · exact comp_turn (E := fun _ _ => False) (fun _ _ z => z) n' sb hd ((er.mono (n1.toSub w)).mono sb0) rx q' hk fun env1 σ1 F2 S2 H2 n2 sb2 hd2 er2 q2 => comp_leaf hD (fun _ _ z => z) n2 sb2 (n1.w.fresh_F hD) hd2 er2 q2 hk
  · cases src with
    | fix => trivial
    | own a ys => exact compM_chk (src := .own a ys) q
/-- two clauses -/
def compB2 (vs vs1 : List Nat) (mi : En → M (Src × List PV)) (g : PV → En → M En) (mt : En → M Bool) (mi1 : En → M (Src × List PV)) (g1 : PV → En → M En) (mt1 : En → M Bool) (me : En → M PV) : En → M (List PV) := fun env =>
  bnd (mi env) fun p => compM p.1 (fun x acc => noexc (bnd (g x (wipeE env vs)) fun env1 => bnd (mt env1) fun t => if t = true then
    bnd (mi1 env1) fun p1 => compM p1.1 (fun y acc => bnd (g1 y (wipeE env1 vs1)) fun env2 => bnd (mt1 env2) fun t => if t = true then bnd (me env2) fun z => app1 acc z else ret acc) p1.2 acc
    else ret acc)) p.2 []
theorem tLc2_of {L L1 : List Nat} {mi mi1 : En → M (Src × List PV)} {g g1 : PV → En → M En} {mt mt1 : En → M Bool} {me : En → M PV} {σ : St} {H : Hp} {F : Addr → Prop} {S : Stt} {env : En} {Q : VK} (er : EnvR (zs X) F H env σ) (w : W (zs X) F S H)
    (R : List PV → Stt → Prop) (hR : ∀ acc S' F' H' D F1 S1 H1, R acc S' → Nxt (zs X) F S H F1 S1 H1 → Nxt (zs X) F1 S1 H1 F' S' H' → H1 D = none → Hid (zs X) D F' S' H' acc → Q (.ref D) H')
    (q : (compB2 L L1 mi g mt mi1 g1 mt1 me env).run S R (Pw (zs X) F S H [] σ Wx)) :
    tLc2 (iM (zs X) Wx mi) (tG (zs X) wFalse L g) (tT (zs X) wFalse mt) (iM (zs X) wFalse mi1) (tG (zs X) wFalse L1 g1) (tT (zs X) wFalse mt1) (tE (zs X) wFalse me) L L1 σ H Q := by
  refine ⟨F, S, env, er, w, (mi env).mono (fun p S1 q F1 H1 J ok n1 it o1 => ?_) (fun _ _ q => q) q⟩
  obtain ⟨src, xs⟩ := p
  intro D hD
  have nl := n1.w.layHid hD (vs := [])
  have sb0 : Sub F1 H1 F1 (upd H1 D (.lst [])) := nl.toSub n1.w
  refine comp_loop (X := X) it (D := D) (Fb := F1) (Sb := S1) (Hb := H1) (Fs := F1) (Ss := S1) (Hs := upd H1 D (.lst [])) (E := Pw (zs X) F S H [] σ Wx) (Fin := fun H' => Q (.ref D) H')
    (fun acc F' S' H' r n' _ hd => hR acc S' F' H' D F1 S1 H1 r n1 n' hD hd) (fun x v acc F' S' H' K Nx n' sb hd rx q' hk => ?_) nl ⟨n1.w.fresh_S hD, n1.w.fresh_F hD, [], upd_same, .nil⟩ (it.keep F1 S1 H1 F1 S1 _ o1 sb0 ?_) q
  · refine comp_turn (E := fun _ _ => False) (fun _ _ z => z) n' sb hd ((er.mono (n1.toSub w)).mono sb0) rx q' hk fun env1 σ1 F2 S2 H2 n2 sb2 hd2 er2 q2 => ?_
    refine ⟨F2, S2, env1, er2, n2.w, (mi1 env1).mono (fun p1 S3 q3 F3 H3 J1 ok1 n3 it1 o3 => ?_) (fun e S z => z.elim) q2⟩
    obtain ⟨src1, ys⟩ := p1
    have sb3 := sb2.trans (n3.toSub n2.w)
    have nb3 := n2.trans n3
    refine comp_loop (X := X) it1 (D := D) (Fb := F1) (Sb := S1) (Hb := H1) (Fs := F3) (Ss := S3) (Hs := H3) (E := fun _ _ => False) (R := K) (Fin := Nx)
      (fun acc F' S' H' r n' sb4 hd => hk acc F' S' H' n' (sb3.trans sb4) hd r) (fun y u acc F4 S4 H4 K4 Nx4 n4 sb4 hd4 ry q4 hk4 => ?_) nb3 (hd2.nxt n2.w n3) o3 q3
    exact comp_turn (E := fun _ _ => False) (fun _ _ z => z) n4 sb4 hd4 (er2.mono (n3.toSub n2.w)) ry q4 hk4 fun env2 σ2 F5 S5 H5 n5 sb5 hd5 er5 q5 => comp_leaf hD (fun _ _ z => z) n5 sb5 ((hd2.nxt n2.w n3).f) hd5 er5 q5 hk4
  · cases src with
    | fix => trivial
    | own a ys => exact compM_chk (src := .own a ys) q

/-! ### as expressions -/
section
variable {elt tg iter tg1 iter1 : Expr} {ifs ifs1 : List Expr} {scope : Scope} {own : List (Str × Nat)} {vs1 : List Nat} {pos spos py : Pos} {mi mi1 : En → M (Src × List PV)} {g g1 : PV → En → M En} {mt mt1 : En → M Bool} {me : En → M PV} {Lx : List Nat}
/-- what the rest does with the new list -/
structure Ends1 (X : Cx) (fl : List PV → M PV) : Prop where
  ok : ∀ {σ : St} {H : Hp} {F : Addr → Prop} {S : Stt} {R : PV → Stt → Prop} {E : Exc → Stt → Prop} {acc S' F' H' D F1 S1 H1}, (fl acc).run S' R E → Nxt (zs X) F S H F1 S1 H1 → Nxt (zs X) F1 S1 H1 F' S' H' → H1 D = none → Hid (zs X) D F' S' H' acc →
    ∃ F2 S2 px, Nxt (zs X) F S H F2 S2 H' ∧ Rep (zs X) F2 H' px (.ref D) ∧ R px S2
theorem e_frz : Ends1 X freezeL := ⟨fun {σ H F S R E acc S' F' H' D F1 S1 H1} q n1 n' hD hd => by
  obtain ⟨vs, e, r⟩ := hd.ex
  have n2 := n'.adopt hD hd.s e
  exact ⟨_, _, _, n1.trans n2, .lst ⟨.inr rfl, e⟩ (r.mono ⟨fun a q => .inl q, fun a u q e _ => e⟩), q⟩⟩
theorem e_own : Ends1 X ownL := ⟨fun {σ H F S R E acc S' F' H' D F1 S1 H1} q n1 n' hD hd => by
  obtain ⟨vs, e, r⟩ := hd.ex
  have n2 := n'.adoptOwn hD hd.s hd.f e r
  exact ⟨_, _, _, n1.trans n2, .ref D, q D hd.s⟩⟩
theorem s_lc {fl : List PV → M PV} (hf : Ends1 X fl) (hc : X.calm = true) (hN : X.N.Nodup) (hi : SI X Wx tg iter mi) (ok : BlkOk X.N X.env.scope scope own)
    (hg : ∀ (s : Shared) (H : Hp) (C : Addr) (cl : List (Str × Addr)) (fp : List Addr), SG (X.blk s H scope (compEnvC scope cl C X.env) fp) wFalse (own.map (·.2)) tg g) (ht : ∀ (s : Shared) (H : Hp) (C : Addr) (cl : List (Str × Addr)) (fp : List Addr), SPT (X.blk s H scope (compEnvC scope cl C X.env) fp) wFalse ifs mt)
    (he : ∀ (s : Shared) (H : Hp) (C : Addr) (cl : List (Str × Addr)) (fp : List Addr), SE (X.blk s H scope (compEnvC scope cl C X.env) fp) wFalse elt me) (hs : ∀ x, foldedSetIterable iter X.env x = pure x) :
    SE X Wx (.ListComp elt [⟨tg, iter, ifs, 0⟩] scope pos) (fun env => bnd (compB (own.map (·.2)) mi g mt me env) fl) :=
  ⟨fun pins s σ H Q I ⟨F, S, env, er, w, q⟩ => (pe_lc (pos := pos) (g := tG (zs X) wFalse (List.map (fun (p : Str × Nat) => p.2) own) g) (tt := tT (zs X) wFalse mt) (te := tE (zs X) wFalse me) hc hN hi ok hg ht he hs).run pins s σ H Q I (tLc_of er w (fun acc S' => (fl acc).run S' (Pv (zs X) F S H Q) (Pw (zs X) F S H [] σ Wx)) (fun acc S' F' H' D F1 S1 H1 r n1 n' hD hd => by
    obtain ⟨F2, S2, px, n2, rp, q⟩ := hf.ok (σ := σ) r n1 n' hD hd
    exact q F2 H' _ n2 rp) q)⟩
theorem c_setLc {fl : List PV → M PV} {i : Nat} {y : Str} (hf : Ends1 X fl) (hc : X.calm = true) (hN : X.N.Nodup) (hy : X.N[i]? = some y) (hyl : X.env.scope.names.lookup y = some .local) (hL : i ∈ Lx)
    (hsw : swapsWith (.ListComp elt [⟨tg, iter, ifs, 0⟩] scope pos) (some (.Name y py)) spos.line X.env = pure true) (hi : SI X Wx tg iter mi) (ok : BlkOk X.N X.env.scope scope own)
    (hg : ∀ (s : Shared) (H : Hp) (C : Addr) (cl : List (Str × Addr)) (fp : List Addr), SG (X.blk s H scope (compEnvC scope cl C X.env) fp) wFalse (own.map (·.2)) tg g) (ht : ∀ (s : Shared) (H : Hp) (C : Addr) (cl : List (Str × Addr)) (fp : List Addr), SPT (X.blk s H scope (compEnvC scope cl C X.env) fp) wFalse ifs mt)
    (he : ∀ (s : Shared) (H : Hp) (C : Addr) (cl : List (Str × Addr)) (fp : List Addr), SE (X.blk s H scope (compEnvC scope cl C X.env) fp) wFalse elt me) (hs : ∀ x, foldedSetIterable iter X.env x = pure x) :
    SS X Wx Lx (.Assign [.Name y py] (.ListComp elt [⟨tg, iter, ifs, 0⟩] scope pos) spos) (asgn (fun env => bnd (compB (own.map (·.2)) mi g mt me env) fl) (setv i)) :=
  .of (ps_setLc (g := tG (zs X) wFalse (List.map (fun (p : Str × Nat) => p.2) own) g) (tt := tT (zs X) wFalse mt) (te := tE (zs X) wFalse me) hc hN hy hyl hsw hi ok hg ht he hs) fun D σ H F S env er w q => tLc_of (Q := fun x H1 => gName i x σ H1 D.nx) er w (fun acc S' => (fl acc).run S' (fun v S1 => Pe (zs X) F S H Lx σ D.nx (env.set i (some v)) S1) (Pw (zs X) F S H Lx σ Wx)) (fun acc S' F' H' D' F1 S1 H1 r n1 n' hD hd => by
    obtain ⟨F2, S2, px, n2, rp, q⟩ := hf.ok (σ := σ) r n1 n' hD hd
    exact q F2 H' _ n2 ((er.mono (n2.toSub w)).set i rp) (Out.set hL)) ((compB _ mi g mt me env).mono (fun _ _ q => q) (fun _ _ q => Pw.sub nil_sub q) q)
theorem s_lc2 {fl : List PV → M PV} (hf : Ends1 X fl) (hc : X.calm = true) (hN : X.N.Nodup) (hi : SI X Wx tg iter mi) (ok : BlkOk X.N X.env.scope scope own) (hv : ∀ i ∈ vs1, i ∈ own.map (·.2))
    (hg : ∀ (s : Shared) (H : Hp) (C : Addr) (cl : List (Str × Addr)) (fp : List Addr), SG (X.blk s H scope (compEnvC scope cl C X.env) fp) wFalse (own.map (·.2)) tg g) (ht : ∀ (s : Shared) (H : Hp) (C : Addr) (cl : List (Str × Addr)) (fp : List Addr), SPT (X.blk s H scope (compEnvC scope cl C X.env) fp) wFalse ifs mt)
    (hi1 : ∀ (s : Shared) (H : Hp) (C : Addr) (cl : List (Str × Addr)) (fp : List Addr), SI (X.blk s H scope (compEnvC scope cl C X.env) fp) wFalse tg1 iter1 mi1)
    (hg1 : ∀ (s : Shared) (H : Hp) (C : Addr) (cl : List (Str × Addr)) (fp : List Addr), SG (X.blk s H scope (compEnvC scope cl C X.env) fp) wFalse vs1 tg1 g1) (ht1 : ∀ (s : Shared) (H : Hp) (C : Addr) (cl : List (Str × Addr)) (fp : List Addr), SPT (X.blk s H scope (compEnvC scope cl C X.env) fp) wFalse ifs1 mt1)
    (he : ∀ (s : Shared) (H : Hp) (C : Addr) (cl : List (Str × Addr)) (fp : List Addr), SE (X.blk s H scope (compEnvC scope cl C X.env) fp) wFalse elt me) (hs : ∀ x, foldedSetIterable iter X.env x = pure x) (hs1 : ∀ env x, foldedSetIterable iter1 env x = pure x) :
    SE X Wx (.ListComp elt [⟨tg, iter, ifs, 0⟩, ⟨tg1, iter1, ifs1, 0⟩] scope pos) (fun env => bnd (compB2 (own.map (·.2)) vs1 mi g mt mi1 g1 mt1 me env) fl) :=
  ⟨fun pins s σ H Q I ⟨F, S, env, er, w, q⟩ => (pe_lc2 (pos := pos) (g := tG (zs X) wFalse (List.map (fun (p : Str × Nat) => p.2) own) g) (tt := tT (zs X) wFalse mt) (wi1 := iM (zs X) wFalse mi1) (g1 := tG (zs X) wFalse vs1 g1) (tt1 := tT (zs X) wFalse mt1) (te := tE (zs X) wFalse me) hc hN hi ok hv hg ht hi1 hg1 ht1 he hs hs1).run pins s σ H Q I (tLc2_of er w (fun acc S' => (fl acc).run S' (Pv (zs X) F S H Q) (Pw (zs X) F S H [] σ Wx)) (fun acc S' F' H' D F1 S1 H1 r n1 n' hD hd => by
    obtain ⟨F2, S2, px, n2, rp, q⟩ := hf.ok (σ := σ) r n1 n' hD hd
    exact q F2 H' _ n2 rp) q)⟩
theorem c_setLc2 {fl : List PV → M PV} {i : Nat} {y : Str} (hf : Ends1 X fl) (hc : X.calm = true) (hN : X.N.Nodup) (hy : X.N[i]? = some y) (hyl : X.env.scope.names.lookup y = some .local) (hL : i ∈ Lx)
    (hsw : swapsWith (.ListComp elt [⟨tg, iter, ifs, 0⟩, ⟨tg1, iter1, ifs1, 0⟩] scope pos) (some (.Name y py)) spos.line X.env = pure true) (hi : SI X Wx tg iter mi) (ok : BlkOk X.N X.env.scope scope own) (hv : ∀ i ∈ vs1, i ∈ own.map (·.2))
    (hg : ∀ (s : Shared) (H : Hp) (C : Addr) (cl : List (Str × Addr)) (fp : List Addr), SG (X.blk s H scope (compEnvC scope cl C X.env) fp) wFalse (own.map (·.2)) tg g) (ht : ∀ (s : Shared) (H : Hp) (C : Addr) (cl : List (Str × Addr)) (fp : List Addr), SPT (X.blk s H scope (compEnvC scope cl C X.env) fp) wFalse ifs mt)
    (hi1 : ∀ (s : Shared) (H : Hp) (C : Addr) (cl : List (Str × Addr)) (fp : List Addr), SI (X.blk s H scope (compEnvC scope cl C X.env) fp) wFalse tg1 iter1 mi1)
    (hg1 : ∀ (s : Shared) (H : Hp) (C : Addr) (cl : List (Str × Addr)) (fp : List Addr), SG (X.blk s H scope (compEnvC scope cl C X.env) fp) wFalse vs1 tg1 g1) (ht1 : ∀ (s : Shared) (H : Hp) (C : Addr) (cl : List (Str × Addr)) (fp : List Addr), SPT (X.blk s H scope (compEnvC scope cl C X.env) fp) wFalse ifs1 mt1)
    (he : ∀ (s : Shared) (H : Hp) (C : Addr) (cl : List (Str × Addr)) (fp : List Addr), SE (X.blk s H scope (compEnvC scope cl C X.env) fp) wFalse elt me) (hs : ∀ x, foldedSetIterable iter X.env x = pure x) (hs1 : ∀ env x, foldedSetIterable iter1 env x = pure x) :
    SS X Wx Lx (.Assign [.Name y py] (.ListComp elt [⟨tg, iter, ifs, 0⟩, ⟨tg1, iter1, ifs1, 0⟩] scope pos) spos) (asgn (fun env => bnd (compB2 (own.map (·.2)) vs1 mi g mt mi1 g1 mt1 me env) fl) (setv i)) :=
  .of (ps_setLc2 (g := tG (zs X) wFalse (List.map (fun (p : Str × Nat) => p.2) own) g) (tt := tT (zs X) wFalse mt) (wi1 := iM (zs X) wFalse mi1) (g1 := tG (zs X) wFalse vs1 g1) (tt1 := tT (zs X) wFalse mt1) (te := tE (zs X) wFalse me) hc hN hy hyl hsw hi ok hv hg ht hi1 hg1 ht1 he hs hs1) fun D σ H F S env er w q => tLc2_of (Q := fun x H1 => gName i x σ H1 D.nx) er w (fun acc S' => (fl acc).run S' (fun v S1 => Pe (zs X) F S H Lx σ D.nx (env.set i (some v)) S1) (Pw (zs X) F S H Lx σ Wx)) (fun acc S' F' H' D' F1 S1 H1 r n1 n' hD hd => by
    obtain ⟨F2, S2, px, n2, rp, q⟩ := hf.ok (σ := σ) r n1 n' hD hd
    exact q F2 H' _ n2 ((er.mono (n2.toSub w)).set i rp) (Out.set hL)) ((compB2 _ _ mi g mt mi1 g1 mt1 me env).mono (fun _ _ q => q) (fun _ _ q => Pw.sub nil_sub q) q)
end
end
end Dp

namespace Dp
open PySem PySem.Spec L2
open PyProof.Rows hiding St
open Builtin in
theorem meets_enum1 {v : Value} {o : Obj} {H : Heap → Prop} (B : Begins v o H) :
    Meets (Builtin.«enumerate.__new__» ⟨[.type "enumerate", v], []⟩) (fun _ R s => H s.heap ∧
      R (.ok (.ret (.ref (s.heap.push o).objs.size))) { s with heap := (s.heap.push o).push { cls := .type "enumerate", data := .fields #[.none, .bool false, .ref s.heap.objs.size, rawInt 0, .none, .none] } }) :=
  .of_wp fun prog w A R s h => by
    obtain ⟨hp, g, d, tk, os⟩ := s; obtain ⟨h1, h⟩ := h
    have hsub := sub_enumerate
    have q1 : ∀ {A' : Around} {E : Value → Shared → Prop} {Q : Value → Shared → Prop}, Q (.ref hp.objs.size) ⟨hp.push o, g, d, tk, os⟩ → wpAny (model prog w) A' (pyIter v) Q E ⟨hp, g, d, tk, os⟩ :=
      fun q => B.iter prog w _ _ ⟨hp, g, d, tk, os⟩ _ h1 q
    wp_walk using q1
    refine wpAny_stack_any fun st => wpAny_pure ?_
    split
    · rename_i c _ _ _ _ _
      cases (c == Value.type "enumerate")
      · wp_walk using q1
        exact ⟨_, rfl, h⟩
      · wp_walk using q1
        exact ⟨_, rfl, h⟩
    · wp_walk using q1
      exact ⟨_, rfl, h⟩

/-! ### a list or a tuple (T), read in turn -/
def SqB (T : Bool) (K : PySem.W.Frag) (H : Hp) (a : Addr) (xs : List V) : Prop := match T with | true => SqT K H a xs | false => SqL K H a xs
def IsB (T : Bool) (h : Heap) (a : Addr) (its : Array Value) : Prop := match T with | true => h.IsTuple a its | false => h.IsList a its
def ItB (T : Bool) (h : Heap) (it a : Addr) (i : Nat) : Prop := match T with | true => h.IsTupleIter it a i | false => h.IsListIter it a i
def itO (T : Bool) (a : Addr) : Obj := match T with | true => { cls := .type "tuple_iterator", data := .fields #[.ref a, .int 0 0] } | false => { cls := .type "list_iterator", data := .fields #[.ref a, .int 0 0] }
theorem drawsB (T : Bool) {prog : Program} {w : World} {A : Around} (hh : A.handled = none) (it a : Addr) (hne : a ≠ it) (items : Array Value) :
    Draws prog w A it [it, a] items.size (fun i v => items[i]? = some v) (fun i h => ItB T h it a i ∧ IsB T h a items) := by
  cases T
  · exact Draws.list hh it a hne items
  · exact Draws.tuple hh it a hne items
theorem beginsB (T : Bool) (a : Addr) (items : Array Value) : Begins (.ref a) (itO T a) fun h => IsB T h a items := by
  cases T
  · exact begins_list a items
  · exact begins_tuple a items
section
variable {X : Cx} {pins : List (Addr × Obj)} {σ : St} {H : Hp} {s : Shared} {T : Bool} {a it : Addr} {xs ys : List V}
theorem sqb_at (I : Inv X pins σ H s) (h : SqB T X.K H a xs) : ∃ its, Vals xs its ∧ IsB T s.heap a its.toArray ∧ xs.length ≤ sizeLine := by
  cases T
  · obtain ⟨its, r, p, hz⟩ := I.list h
    exact ⟨its, r, p.isList, hz⟩
  · obtain ⟨its, r, p, hz⟩ := I.tuple h
    exact ⟨its, r, p, hz⟩
theorem sqb_inj (I : Inv X pins σ H s) (h : SqB T X.K H a xs) (h' : SqB T X.K H a ys) : xs = ys := by
  cases T
  · exact I.list_inj h h'
  · exact I.tuple_inj h h'
theorem isb_obj {h : Heap} {its : Array Value} (x : IsB T h a its) : ∃ o, h.get? a = some o ∧ (o.cls = .type "list" ∨ o.cls = .type "tuple") := by
  cases T
  · obtain ⟨o, e, c, _⟩ := x; exact ⟨o, e, .inl c⟩
  · obtain ⟨o, e, c, _⟩ := x; exact ⟨o, e, .inr c⟩
theorem itb_obj {h : Heap} {i : Nat} (x : ItB T h it a i) : ∃ o, h.get? it = some o ∧ (∀ v, o.data ≠ .cell v) ∧ (o.cls = .type "list_iterator" ∨ o.cls = .type "tuple_iterator") := by
  cases T
  · obtain ⟨o, e, c, d⟩ := x; exact ⟨o, e, (fun v q => by rw [d] at q; cases q), .inl c⟩
  · obtain ⟨o, e, c, d⟩ := x; exact ⟨o, e, (fun v q => by rw [d] at q; cases q), .inr c⟩
theorem itb_at {h h' : Heap} {i : Nat} (x : ItB T h it a i) (k : ∀ o, h.get? it = some o → h'.get? it = some o) : ItB T h' it a i := by
  cases T
  · exact Heap.IsListIter.at x k
  · exact Heap.IsTupleIter.at x k
theorem itb_0 {h : Heap} (e : h.get? it = some (itO T a)) : ItB T h it a 0 := by
  cases T
  · exact ⟨_, e, rfl, rfl⟩
  · exact ⟨_, e, rfl, rfl⟩
theorem itb_ne {h : Heap} {i : Nat} {its : Array Value} (x : ItB T h it a i) (y : IsB T h a its) : a ≠ it := fun z => by
  obtain ⟨o, e, _, c⟩ := itb_obj x
  obtain ⟨o', e', c'⟩ := isb_obj y
  rw [z, e] at e'; cases e'
  rcases c with c | c <;> rcases c' with c' | c' <;> rw [c] at c' <;> simp at c'
end
/-! ### enumerate -/
def IteF (T : Bool) (K : PySem.W.Frag) (a : Addr) : It :=
  ⟨fun i H => ∃ (xs : List V) (x : V), SqB T K H a xs ∧ xs[i]? = some x, fun i H v H' => ∃ p o x, v = .ref p ∧ H p = none ∧ o.dict = none ∧ H' = upd H p (.frz o (.tup [.int (i : Nat), x])) ∧ ∀ xs, SqB T K H a xs → xs[i]? = some x, fun i H => ∃ xs : List V, SqB T K H a xs ∧ xs.length = i⟩
theorem turn_enumF {T : Bool} {P : Program} {w : World} {K : PySem.W.Frag} {elts : List Expr} {kk : Nat} {tpos : Pos} (a e it : Addr) :
    Turn P w K (.Tuple elts kk tpos) (IteF T K a) [e, it] e (fun i h => (∃ old, IsEnum h e it ((i : Nat) : Int) old) ∧ ItB T h it a i ∧ e ≠ it) where
  mem := by simp
  obj := fun i h st b hb => by
    obtain ⟨⟨old, he⟩, hi, _⟩ := st
    have e' : b = e ∨ b = it := by simpa using hb
    rcases e' with z | z
    · rw [z]; exact ⟨_, he, fun v q => nomatch q⟩
    · rw [z]; obtain ⟨o, h1, h2, _⟩ := itb_obj hi; exact ⟨o, h1, h2⟩
  keep := fun i h h' st k => let ⟨⟨old, he⟩, hi, hne⟩ := st; ⟨⟨old, k e (by simp) _ he⟩, itb_at hi fun o q => k it (by simp) o q, hne⟩
  item := by
    intro X hP hw hK hc i pins s σ H E I hf st hg
    subst hP hw hK
    obtain ⟨⟨old, he⟩, hit, hne⟩ := st
    obtain ⟨xs, x, hq, hx⟩ := hg
    obtain ⟨its, rv, p, hz⟩ := sqb_at I hq
    obtain ⟨u, hu, ru⟩ := rv.get hx
    have hel : e < s.heap.objs.size := Heap.lt_size he
    have hai := itb_ne hit p
    have hil : it < s.heap.objs.size := by obtain ⟨_, q, _⟩ := itb_obj hit; exact Heap.lt_size q
    have hae : e ≠ a := fun z => by
      obtain ⟨o', e', c'⟩ := isb_obj p
      rw [← z, he] at e'; cases e'
      rcases c' with c' | c' <;> simp at c'
    have hlt : i < its.toArray.size := by
      have := (List.getElem?_eq_some_iff.mp hu).1
      simpa using this
    refine wpAny_pyNext_enum_itemC (drawsB (A := X.A.in1) T (I.ok.hd hc) it a hai its.toArray) he ⟨hit, p⟩ hlt hne (by simp; exact ⟨hne, hae⟩) fun y h' tk hP ho hst hT hsz hk => ?_
    have hy : y = u := by
      have hP : its.toArray[i]? = some y := hP
      simp at hP
      rw [hu] at hP; exact (Option.some.inj hP).symm
    subst hy
    refine ⟨_, rfl, wpAny_letOwnedTupleGo_enum (s := { s with heap := h', toks := tk + 1 }) ho fun h'' he' sb => ?_⟩
    have hT2 : h''.get? s.heap.objs.size = some { cls := .type "tuple", data := .seq #[.int i tk, y] } := (sb.2 _ (Nat.ne_of_gt hel)).trans hT
    have new : ObjOk X.prog X.w (upd H s.heap.objs.size (frT [.int i tk, y] [.int (i : Nat), x])) h'' s.heap.objs.size (frT [.int i tk, y] [.int (i : Nat), x]) :=
      ⟨hT2, by show 2 ≤ sizeLine; decide, [.int i tk, y], .cons ⟨_, rfl⟩ (.cons ru .nil), ⟨_, hT2, rfl, _, rfl⟩⟩
    have I1 : Inv X pins σ (upd H s.heap.objs.size (frT [.int i tk, y] [.int (i : Nat), x])) { s with heap := h'', toks := tk + 1 } :=
      I.turnedNew (ch := [e, it]) (fun b ob hb q => (sb.2 b (fun z => hb (by simp [z]))).trans (hk b ob (fun z => hb (by simp [z])) (fun z => hb (by simp [z])) q)) hf (Nat.le_refl _) new
    refine ⟨.ref s.heap.objs.size, _, I1, rfl, ⟨_, _, x, rfl, I.hok.fresh (Nat.le_refl _), rfl, rfl, fun ys hy => by rw [sqb_inj I hy hq]; exact hx⟩, ⟨⟨y, ?_⟩, itb_at hst.1 fun o q => (sb.2 it (Ne.symm hne)).trans q, hne⟩, fun b hb => ?_⟩
    · have e1 : ((i + 1 : Nat) : Int) = (i : Int) + 1 := by omega
      rw [e1]; exact he'
    · have hb' : b < s.heap.objs.size := by
        have e' : b = e ∨ b = it := by simpa using hb
        rcases e' with z | z
        · rw [z]; exact hel
        · rw [z]; exact hil
      rw [upd_ne (Nat.ne_of_lt hb')]
      exact (hf b hb).1
  done := by
    intro X hP hw hK hc i pins s σ H E I hf st hg
    subst hP hw hK
    obtain ⟨⟨old, he⟩, hit, hne⟩ := st
    obtain ⟨xs, hq, hx⟩ := hg
    obtain ⟨its, rv, p, hz⟩ := sqb_at I hq
    obtain ⟨f0, f1, f2, f3, f4, f5⟩ := hf it (by simp)
    have hl := rv.length
    have hn : i = its.toArray.size := by simp; omega
    exact wpAny_pyNext_enum_endD (drawsB (A := X.A.in1) T (I.ok.hd hc) it a (itb_ne hit p) its.toArray) he (by rw [← hn]; exact ⟨hit, p⟩) fun h' eb => ⟨rfl, I.turned (t' := s.toks) (fun b o hb q => eb b o hb q) f0 f1 f3 f4 f5⟩
  self := fun A i s Q E st h => let ⟨⟨_, he⟩, _⟩ := st; wpAny_pyIter_enum he h
theorem enum_begins1 {prog : Program} {w : World} {A : Around} {E : Value → Shared → Prop} {s : Shared} {v : Value} {o : Obj} {H : Heap → Prop} {Q : Value → Shared → Prop} (B : Begins v o H) (h1 : H s.heap)
    (h : ∀ h', IsEnum h' (s.heap.objs.size + 1) s.heap.objs.size 0 .none → h'.get? s.heap.objs.size = some o → h'.objs.size = s.heap.objs.size + 2 →
      (∀ b o, s.heap.get? b = some o → h'.get? b = some o) → Q (.ref (s.heap.objs.size + 1)) { s with heap := h' }) :
    wpAny (model prog w) A (call (.type "enumerate") [v]) Q E s := by
  refine callType_new F.called_enumerate (by decide) (F.typeCall_enumerate_1 _) (F.newCall_enumerate_1 _) (fun obj => F.args_object_init_2 obj _) F.entry_enumerate_new
    (meets_enum1 B) ⟨h1, ?_⟩
  have hz : (s.heap.push o).objs.size = s.heap.objs.size + 1 := Heap.size_push ..
  show _ ∧ _
  rw [hz]
  have he : IsEnum ((s.heap.push o).push { cls := .type "enumerate", data := .fields #[.none, .bool false, .ref s.heap.objs.size, rawInt 0, .none, .none] }) (s.heap.objs.size + 1) s.heap.objs.size 0 .none := by
    have := Heap.get?_push_size (s.heap.push o) (o := { cls := .type "enumerate", data := .fields #[.none, .bool false, .ref s.heap.objs.size, rawInt 0, .none, .none] }) rfl
    rw [hz] at this; exact this
  refine ⟨⟨_, he, rfl⟩, h _ he (Heap.get?_push_of_some _ (Heap.get?_push_size _ B.free)) (by rw [Heap.size_push, hz]) fun b o x => Heap.get?_push_of_some _ (Heap.get?_push_of_some _ x)⟩
def iEnumF (K : PySem.W.Frag) (ta : TA) : TI := fun σ H R => ta σ H fun vs H1 => ∃ T a xs, vs = [.ref a] ∧ SqB T K H1 a xs ∧ R (IteF T K a) H1
theorem pi_enumF {X : Cx} {e : Expr} {ta : TA} {p pos tpos : Pos} {elts : List Expr} {kk : Nat} (hg : Gl X "enumerate") (hm : X.mg "enumerate" = none) (ha : PA X [e] ta) (hs : starEach [e] X.env = [(false, eval e X.env)]) :
    PI X (.Tuple elts kk tpos) (.Call (.Name "enumerate" p) [e] [] pos) (iEnumF X.K ta) := by
  refine ⟨fun pins s σ H R I h => ?_⟩
  refine Call_ (ld_blt I hg hm boot_enumerate (PyProof.Rows.callWith_type1 (thn (ha.run pos pins s σ H _ I h) fun us s1 ⟨vs, H1, I1, r1, q1⟩ => ?_) hs rfl))
  obtain ⟨T, a, xs, ex, hq, q⟩ := q1
  subst ex
  cases r1 with
  | cons r rr =>
    cases rr
    cases r
    obtain ⟨its, rv, p', hz⟩ := sqb_at I1 hq
    refine enum_begins1 (beginsB T a its.toArray) p' fun h' he hit hsz hk => wpAny_pyIter_enum he ?_
    have I2 : Inv X pins σ H1 { s1 with heap := h' } := I1.kept (t' := s1.toks) hk
    refine ⟨s1.heap.objs.size + 1, [s1.heap.objs.size + 1, s1.heap.objs.size], _, _, H1, rfl, I2, turn_enumF a (s1.heap.objs.size + 1) s1.heap.objs.size, ⟨⟨.none, he⟩, itb_0 hit, Nat.succ_ne_self _⟩, fun b hb => ?_, q⟩
    have e' : b = s1.heap.objs.size + 1 ∨ b = s1.heap.objs.size := by simpa using hb
    have hle : s1.heap.objs.size ≤ b := by
      rcases e' with z | z
      · rw [z]; exact Nat.le_add_right _ _
      · rw [z]; exact Nat.le_refl _
    exact I1.fpOk hle (I1.hok.fresh hle)
/-! ### zip -/
def ItzF (T U : Bool) (K : PySem.W.Frag) (a b : Addr) : It :=
  ⟨fun i H => ∃ (xs ys : List V) (x y : V), SqB T K H a xs ∧ SqB U K H b ys ∧ xs[i]? = some x ∧ ys[i]? = some y,
    fun i H v H' => ∃ p o x y, v = .ref p ∧ H p = none ∧ o.dict = none ∧ H' = upd H p (.frz o (.tup [x, y])) ∧ (∀ xs, SqB T K H a xs → xs[i]? = some x) ∧ ∀ ys, SqB U K H b ys → ys[i]? = some y,
    fun i H => ∃ xs ys : List V, SqB T K H a xs ∧ SqB U K H b ys ∧ i = min xs.length ys.length⟩
theorem turn_zipF {T U : Bool} {P : Program} {w : World} {K : PySem.W.Frag} {elts : List Expr} {kk : Nat} {tpos : Pos} {a b z TI TO i1 i2 : Addr} (D : ZipSep2 z TI TO i1 i2 [i1, a] [i2, b]) :
    Turn P w K (.Tuple elts kk tpos) (ItzF T U K a b) [z, TI, TO, i1, i2] z (fun i h => IsZip h z TI TO .none ∧ IsTupOf2 h TI (.ref i1) (.ref i2) ∧ (∃ x y, IsTupOf2 h TO x y) ∧ ItB T h i1 a i ∧ ItB U h i2 b i) where
  mem := by simp
  obj := fun i h st c hc => by
    obtain ⟨hz, hTI, ⟨x, y, hTO⟩, h1, h2⟩ := st
    have e' : c = z ∨ c = TI ∨ c = TO ∨ c = i1 ∨ c = i2 := by simpa using hc
    rcases e' with q | q | q | q | q
    · rw [q]; exact ⟨_, hz, fun v q => nomatch q⟩
    · rw [q]; exact ⟨_, hTI, fun v q => nomatch q⟩
    · rw [q]; exact ⟨_, hTO, fun v q => nomatch q⟩
    · rw [q]; obtain ⟨o, e1, e2, _⟩ := itb_obj h1; exact ⟨o, e1, e2⟩
    · rw [q]; obtain ⟨o, e1, e2, _⟩ := itb_obj h2; exact ⟨o, e1, e2⟩
  keep := fun i h h' st k => by
    obtain ⟨hz, hTI, ⟨x, y, hTO⟩, h1, h2⟩ := st
    exact ⟨k z (by simp) _ hz, k TI (by simp) _ hTI, ⟨x, y, k TO (by simp) _ hTO⟩, itb_at h1 fun o q => k i1 (by simp) o q, itb_at h2 fun o q => k i2 (by simp) o q⟩
  item := by
    intro X hP hw hK hc i pins s σ H E I hf st hg
    subst hP hw hK
    obtain ⟨hz, hTI, ⟨x0, y0, hTO⟩, h1, h2⟩ := st
    obtain ⟨xs, ys, x, y, hqx, hqy, hx, hy⟩ := hg
    obtain ⟨its, rv, p, _⟩ := sqb_at I hqx
    obtain ⟨its2, rv2, p2, _⟩ := sqb_at I hqy
    obtain ⟨u, hu, ru⟩ := rv.get hx
    obtain ⟨u2, hu2, ru2⟩ := rv2.get hy
    have hzl : z < s.heap.objs.size := Heap.lt_size hz
    have l1 : i < its.toArray.size := by simpa using (List.getElem?_eq_some_iff.mp hu).1
    have l2 : i < its2.toArray.size := by simpa using (List.getElem?_eq_some_iff.mp hu2).1
    refine wpAny_pyNext_zipD2_item D (drawsB (A := X.A.in1) T (I.ok.hd hc) i1 a (itb_ne h1 p) its.toArray) (drawsB (A := X.A.in1) U (I.ok.hd hc) i2 b (itb_ne h2 p2) its2.toArray) hz hTI hTO ⟨h1, p⟩ ⟨h2, p2⟩ l1 l2 fun v1 v2 h' tk hp1 hp2 z' TO' h1' h2' hT hsz hk => ?_
    have e1 : v1 = u := by
      have hp1 : its.toArray[i]? = some v1 := hp1
      simp at hp1
      rw [hu] at hp1; exact (Option.some.inj hp1).symm
    have e2 : v2 = u2 := by
      have hp2 : its2.toArray[i]? = some v2 := hp2
      simp at hp2
      rw [hu2] at hp2; exact (Option.some.inj hp2).symm
    subst e1 e2
    refine ⟨_, rfl, wpAny_letOwnedTupleGo_zip (s := { s with heap := h', toks := tk }) z' fun h'' z'' sb => ?_⟩
    have hT2 : h''.get? s.heap.objs.size = some { cls := .type "tuple", data := .seq #[v1, v2] } := (sb.2 _ (Nat.ne_of_gt hzl)).trans hT
    have new : ObjOk X.prog X.w (upd H s.heap.objs.size (frT [v1, v2] [x, y])) h'' s.heap.objs.size (frT [v1, v2] [x, y]) :=
      ⟨hT2, by show 2 ≤ sizeLine; decide, [v1, v2], .cons ru (.cons ru2 .nil), ⟨_, hT2, rfl, _, rfl⟩⟩
    have I1 : Inv X pins σ (upd H s.heap.objs.size (frT [v1, v2] [x, y])) { s with heap := h'', toks := tk } :=
      I.turnedNew (t' := tk) (ch := [z, TI, TO, i1, i2]) (fun c o hb q => (sb.2 c (fun q' => hb (by simp [q']))).trans (hk c o (fun q' => hb (by simp [q'])) (fun q' => hb (by simp [q'])) (fun q' => hb (by simp [q'])) (fun q' => hb (by simp [q'])) q)) hf (Nat.le_refl _) new
    refine ⟨.ref s.heap.objs.size, _, I1, rfl, ⟨_, _, x, y, rfl, I.hok.fresh (Nat.le_refl _), rfl, rfl, fun l hl => by rw [sqb_inj I hl hqx]; exact hx, fun l hl => by rw [sqb_inj I hl hqy]; exact hy⟩, ⟨z'', ?_, ⟨v1, v2, ?_⟩, ?_, ?_⟩, fun c hcm => ?_⟩
    · exact (sb.2 _ D.TIz).trans (hk _ _ D.TIz D.TITO D.TIi1 D.TIi2 hTI)
    · exact (sb.2 _ D.TOz).trans TO'
    · exact itb_at h1'.1 fun o q => (sb.2 _ D.zi1.symm).trans q
    · exact itb_at h2'.1 fun o q => (sb.2 _ D.zi2.symm).trans q
    · have hlt : c < s.heap.objs.size := by
        have e' : c = z ∨ c = TI ∨ c = TO ∨ c = i1 ∨ c = i2 := by simpa using hcm
        rcases e' with q | q | q | q | q
        · rw [q]; exact hzl
        · rw [q]; exact Heap.lt_size hTI
        · rw [q]; exact Heap.lt_size hTO
        · rw [q]; obtain ⟨_, e1, _⟩ := itb_obj h1; exact Heap.lt_size e1
        · rw [q]; obtain ⟨_, e2, _⟩ := itb_obj h2; exact Heap.lt_size e2
      rw [upd_ne (Nat.ne_of_lt hlt)]
      exact (hf c hcm).1
  done := by
    intro X hP hw hK hc i pins s σ H E I hf st hg
    subst hP hw hK
    obtain ⟨hz, hTI, ⟨x0, y0, hTO⟩, h1, h2⟩ := st
    obtain ⟨xs, ys, hqx, hqy, hend⟩ := hg
    obtain ⟨its, rv, p, _⟩ := sqb_at I hqx
    obtain ⟨its2, rv2, p2, _⟩ := sqb_at I hqy
    have l1 := rv.length
    have l2 := rv2.length
    exact wpAny_pyNext_zipD2_end D (drawsB (A := X.A.in1) T (I.ok.hd hc) i1 a (itb_ne h1 p) its.toArray) (drawsB (A := X.A.in1) U (I.ok.hd hc) i2 b (itb_ne h2 p2) its2.toArray) hz hTI hTO ⟨h1, p⟩ ⟨h2, p2⟩ (by simp; omega) (by simp; omega) (by simp; omega) fun h' tk hk => ⟨rfl, I.turnedL (t' := tk) (ch := [z, TI, TO, i1, i2]) (fun c o hb q =>
      hk c o (fun q' => hb (by simp [q'])) (fun q' => hb (by simp [q'])) (fun q' => hb (by simp [q'])) (fun q' => hb (by simp [q'])) q) hf⟩
  self := fun A i s Q E st h => wpAny_pyIter_zip st.1 h
def iZipF (K : PySem.W.Frag) (ta : TA) : TI := fun σ H R => ta σ H fun vs H1 => ∃ T U a b xs ys, vs = [.ref a, .ref b] ∧ SqB T K H1 a xs ∧ SqB U K H1 b ys ∧ R (ItzF T U K a b) H1
theorem pi_zipF {X : Cx} {e e2 : Expr} {ta : TA} {p pos tpos : Pos} {elts : List Expr} {kk : Nat} (hg : Gl X "zip") (hm : X.mg "zip" = none) (ha : PA X [e, e2] ta)
    (hs : starEach [e, e2] X.env = (false, eval e X.env) :: starEach [e2] X.env) (hpl : (backTo pos (starEach [e2] X.env)).any (·.1) = false) :
    PI X (.Tuple elts kk tpos) (.Call (.Name "zip" p) [e, e2] [] pos) (iZipF X.K ta) := by
  refine ⟨fun pins s σ H R I h => ?_⟩
  refine Call_ (ld_blt I hg hm PyProof.Rows.boot_zip (PyProof.Rows.callWith_type1 (thn (ha.run pos pins s σ H _ I h) fun us s1 ⟨vs, H1, I1, r1, q1⟩ => ?_) hs hpl))
  obtain ⟨T, U, a, b, xs, ys, ex, hqx, hqy, q⟩ := q1
  subst ex
  cases r1 with
  | cons r rr =>
    cases rr with
    | cons r' rr =>
      cases rr
      cases r
      cases r'
      obtain ⟨its, rv, p1, _⟩ := sqb_at I1 hqx
      obtain ⟨its2, rv2, p2, _⟩ := sqb_at I1 hqy
      refine zip_begins2 (beginsB T a its.toArray) (beginsB U b its2.toArray) p1 p2 fun h' hz hTI hTO h1 h2 hsz hk => wpAny_pyIter_zip hz ?_
      have I2 : Inv X pins σ H1 { s1 with heap := h' } := I1.kept (t' := s1.toks) hk
      have la : a < s1.heap.objs.size := by obtain ⟨o, e, _⟩ := isb_obj p1; exact Heap.lt_size e
      have lb : b < s1.heap.objs.size := by obtain ⟨o, e, _⟩ := isb_obj p2; exact Heap.lt_size e
      refine ⟨s1.heap.objs.size + 4, [s1.heap.objs.size + 4, s1.heap.objs.size + 2, s1.heap.objs.size + 3, s1.heap.objs.size, s1.heap.objs.size + 1], _, _, H1, rfl, I2, turn_zipF (zip_sep2 (N := s1.heap.objs.size) (fp1 := [a]) (fp2 := [b]) (by simpa using la) (by simpa using lb)), ⟨hz, hTI, ⟨_, _, hTO⟩, itb_0 h1, itb_0 h2⟩, fun c hcm => ?_, q⟩
      have e' : c = s1.heap.objs.size + 4 ∨ c = s1.heap.objs.size + 2 ∨ c = s1.heap.objs.size + 3 ∨ c = s1.heap.objs.size ∨ c = s1.heap.objs.size + 1 := by simpa using hcm
      have hle : s1.heap.objs.size ≤ c := by
        rcases e' with z | z | z | z | z
        · rw [z]; exact Nat.le_add_right _ _
        · rw [z]; exact Nat.le_add_right _ _
        · rw [z]; exact Nat.le_add_right _ _
        · rw [z]; exact Nat.le_refl _
        · rw [z]; exact Nat.le_add_right _ _
      exact I1.fpOk hle (I1.hok.fresh hle)

/-! ### over the layer -/
def enumP (xs : List PV) : List PV := xs.mapIdx fun i x => .tup [.int (i : Nat), x]
def zipP (xs ys : List PV) : List PV := (xs.zip ys).map fun p => .tup [p.1, p.2]
/-- what may be numbered, paired -/
def vSeqI : PV → M (List PV) := fun x => match x with
  | .tup xs => ret xs
  | .lst xs => ret xs
  | .loc xs => ret xs
  | _ => stuck
section
variable {X : Cx} {Wx : WX} {tg iter : Expr}
/-- the items at a -/
def SeqAt' (Z : Zs) (T : Bool) (F : Addr → Prop) (H : Hp) (a : Addr) (vs : List V) : Prop := match T with
  | true => TupAt Z F H a vs
  | false => LocAt Z F H a vs
theorem SeqAt'.mono {Z T F H F' H' a vs} (s : Sub F H F' H') (h : SeqAt' Z T F H a vs) : SeqAt' Z T F' H' a vs := by
  cases T
  · exact LocAt.mono s h
  · exact TupAt.mono s h
theorem SeqAt'.sq {Z : Zs} {T F H a vs} (h : SeqAt' Z T F H a vs) : SqB T Z.K H a vs := by
  cases T
  · exact LocAt.sq h
  · exact TupAt.sq h
theorem seq_ok {F S H px x Q E} (rpx : Rep (zs X) F H px x) (q : (vSeqI px).run S Q E) : ∃ T a ps vs, x = .ref a ∧ SeqAt' (zs X) T F H a vs ∧ RepL (zs X) F H ps vs ∧ Q ps S := by
  cases px with
  | tup xs => cases rpx with | @tup a _ vs t r => exact ⟨true, a, xs, vs, rfl, t, r, q⟩
  | lst xs => cases rpx with | @lst a _ vs t r => exact ⟨false, a, xs, vs, rfl, .inl ⟨t.1, .inl t.2⟩, r, q⟩
  | loc xs => cases rpx with | @loc a _ vs t r => exact ⟨false, a, xs, vs, rfl, t, r, q⟩
  | _ => exact q.elim
theorem it_enum {T : Bool} {a : Addr} {xs : List PV} : Iter (zs X) (IteF T X.K a) .fix (enumP xs) (fun F _ H => ∃ vs, SeqAt' (zs X) T F H a vs ∧ RepL (zs X) F H xs vs) := by
  refine it_fix (fun F H F' H' s ⟨vs, h, r⟩ => ⟨vs, h.mono s, r.mono s⟩) (fun F H i ⟨vs, h, r⟩ hi => ?_) (fun F H ⟨vs, h, r⟩ => ⟨vs, h.sq, by rw [enumP, List.length_mapIdx, r.length]⟩) fun F S H i x v H' ⟨vs, h, r⟩ w hx y => ?_
  · rw [enumP, List.length_mapIdx, r.length] at hi
    exact ⟨vs, vs[i], h.sq, by simp [hi]⟩
  · obtain ⟨p, o, x', rfl, hp, hd, rfl, hy⟩ := y
    rw [enumP, List.getElem?_mapIdx, Option.map_eq_some_iff] at hx
    obtain ⟨z, hz, rfl⟩ := hx
    obtain ⟨u, hu, ru⟩ := r.get hz
    have := hy vs h.sq
    rw [hu] at this; cases this
    exact ⟨_, w.layTup hp hd (.cons (.int _) (.cons ru .nil))⟩
theorem it_zip {T U : Bool} {a b : Addr} {xs ys : List PV} : Iter (zs X) (ItzF T U X.K a b) .fix (zipP xs ys) (fun F _ H => ∃ vs us, SeqAt' (zs X) T F H a vs ∧ RepL (zs X) F H xs vs ∧ SeqAt' (zs X) U F H b us ∧ RepL (zs X) F H ys us) := by
  refine it_fix (fun F H F' H' s ⟨vs, us, h, r, h2, r2⟩ => ⟨vs, us, h.mono s, r.mono s, h2.mono s, r2.mono s⟩) (fun F H i ⟨vs, us, h, r, h2, r2⟩ hi => ?_) (fun F H ⟨vs, us, h, r, h2, r2⟩ => ⟨vs, us, h.sq, h2.sq, by rw [zipP, List.length_map, List.length_zip, r.length, r2.length]⟩) fun F S H i x v H' ⟨vs, us, h, r, h2, r2⟩ w hx y => ?_
  · rw [zipP, List.length_map, List.length_zip, r.length, r2.length] at hi
    have i1 : i < vs.length := by omega
    have i2 : i < us.length := by omega
    exact ⟨vs, us, vs[i], us[i], h.sq, h2.sq, by simp [i1], by simp [i2]⟩
  · obtain ⟨p, o, x', y', rfl, hp, hd, rfl, hy1, hy2⟩ := y
    rw [zipP, List.getElem?_map, Option.map_eq_some_iff] at hx
    obtain ⟨⟨z1, z2⟩, hz, rfl⟩ := hx
    rw [List.getElem?_zip_eq_some] at hz
    obtain ⟨u1, hu1, ru1⟩ := r.get hz.1
    obtain ⟨u2, hu2, ru2⟩ := r2.get hz.2
    have e1 := hy1 vs h.sq
    have e2 := hy2 us h2.sq
    rw [hu1] at e1; cases e1
    rw [hu2] at e2; cases e2
    exact ⟨_, w.layTup hp hd (.cons ru1 (.cons ru2 .nil))⟩
def vEnum : List PV → M (Src × List PV)
  | [x] => bnd (vSeqI x) fun xs => ret (.fix, enumP xs)
  | _ => stuck
def vZip : List PV → M (Src × List PV)
  | [x, y] => bnd (vSeqI x) fun xs => bnd (vSeqI y) fun ys => ret (.fix, zipP xs ys)
  | _ => stuck
theorem i_enum {e : Expr} {elts : List Expr} {kk : Nat} {tpos p pos : Pos} {ms : En → M (List PV)} (hg : Gl X "enumerate") (hm : X.mg "enumerate" = none) (ha : SA X Wx [e] ms) (hs : notStar e = true) :
    SI X Wx (.Tuple elts kk tpos) (.Call (.Name "enumerate" p) [e] [] pos) (fun env => bnd (ms env) vEnum) :=
  ⟨fun pins s σ H R I ⟨F, S, env, er, w, q⟩ => (pi_enumF hg hm ha (starEach_not hs)).run pins s σ H R I ⟨F, S, env, er, w, (ms env).mono (fun ps S1 q F1 H1 vs n r => by
    match ps, vs, r with
    | [x], [v], .cons rx .nil =>
      obtain ⟨T, a, xs, us, rfl, hs, rl, q⟩ := seq_ok rx q
      exact ⟨T, a, us, rfl, hs.sq, q F1 H1 _ _ n it_enum ⟨us, hs, rl⟩⟩
    | [], _, _ => exact q.elim
    | _ :: _ :: _, _, _ => exact q.elim) (fun _ _ q => q) q⟩⟩
theorem i_zip {e e2 : Expr} {elts : List Expr} {kk : Nat} {tpos p pos : Pos} {ms : En → M (List PV)} (hg : Gl X "zip") (hm : X.mg "zip" = none) (ha : SA X Wx [e, e2] ms) (hs : notStar e = true) (hs2 : notStar e2 = true) :
    SI X Wx (.Tuple elts kk tpos) (.Call (.Name "zip" p) [e, e2] [] pos) (fun env => bnd (ms env) vZip) :=
  ⟨fun pins s σ H R I ⟨F, S, env, er, w, q⟩ => (pi_zipF hg hm ha (starEach_not hs) (by rw [starEach_not hs2]; rfl)).run pins s σ H R I ⟨F, S, env, er, w, (ms env).mono (fun ps S1 q F1 H1 vs n r => by
    match ps, vs, r with
    | [x, y], [v, v2], .cons rx (.cons ry .nil) =>
      obtain ⟨T, a, xs, us, rfl, h1, rl, q⟩ := seq_ok rx q
      obtain ⟨U, b, ys, us2, rfl, h2, rl2, q⟩ := seq_ok ry q
      exact ⟨T, U, a, b, us, us2, rfl, h1.sq, h2.sq, q F1 H1 _ _ n it_zip ⟨us, us2, h1, rl, h2, rl2⟩⟩
    | [], _, _ => exact q.elim
    | [_], _, _ => exact q.elim
    | _ :: _ :: _ :: _, _, _ => exact q.elim) (fun _ _ q => q) q⟩⟩
end
end Dp

namespace Dp
open PySem PySem.Spec L2
open PyProof.Rows hiding St

/-! ### built-in functions -/
def tyName : PV → Option String
  | .non => some "NoneType"
  | .bl _ => some "bool"
  | .int _ => some "int"
  | .str _ => some "str"
  | .tup _ => some "tuple"
  | .lst _ => some "list"
  | .loc _ => some "list"
  | _ => none
def isiNames : List String := ["int", "bool", "str", "tuple", "list"]
def isiB (t n : String) : Bool := t == n || (t == "bool" && n == "int")
theorem isiB_ok {t n : String} (ht : t ∈ ["NoneType", "bool", "int", "str", "tuple", "list"]) (hn : n ∈ isiNames) : kitB t n = some (isiB t n) := by
  revert t n
  have : ∀ t ∈ ["NoneType", "bool", "int", "str", "tuple", "list"], ∀ n ∈ isiNames, kitB t n = some (isiB t n) := by decide +kernel
  exact fun {t n} h1 h2 => this t h1 n h2
theorem tyName_mem {x : PV} {t : String} (h : tyName x = some t) : t ∈ ["NoneType", "bool", "int", "str", "tuple", "list"] := by
  cases x <;> simp [tyName] at h <;> subst h <;> decide
def vIsi : List PV → M PV
  | [x, .ty n] => bnd (deref x) fun x => match tyName x with
    | some t => bnd (guard (n ∈ isiNames)) fun _ => ret (.bl (isiB t n))
    | none => stuck
  | _ => stuck
def vAbs : List PV → M PV
  | [.int i] => ret (.int (if i < 0 then -i else i))
  | _ => stuck
def intsOf : List PV → Option (List Int)
  | [] => some []
  | .int i :: xs => (intsOf xs).map (i :: ·)
  | _ => none
def blsOf : List PV → Option (List Bool)
  | [] => some []
  | .bl b :: xs => (blsOf xs).map (b :: ·)
  | _ => none
def maxL : List Int → Int
  | [] => 0
  | [x] => x
  | x :: xs => max x (maxL xs)
def minL : List Int → Int
  | [] => 0
  | [x] => x
  | x :: xs => min x (minL xs)
def vMax : List PV → M PV
  | [.int a, .int b] => ret (.int (max a b))
  | [.int a, .int b, .int c] => ret (.int (max a (max b c)))
  | [x] => bnd (deref x) fun x => match x with
    | .lst xs => bnd (ofO (intsOf xs)) fun ns => bnd (guard (0 < ns.length)) fun _ => ret (.int (maxL ns))
    | _ => stuck
  | _ => stuck
def vMin : List PV → M PV
  | [.int a, .int b] => ret (.int (min a b))
  | [.int a, .int b, .int c] => ret (.int (min a (min b c)))
  | [x] => bnd (deref x) fun x => match x with
    | .lst xs => bnd (ofO (intsOf xs)) fun ns => bnd (guard (0 < ns.length)) fun _ => ret (.int (minL ns))
    | _ => stuck
  | _ => stuck
def vSum : List PV → M PV
  | [x] => bnd (deref x) fun x => match x with
    | .lst xs => bnd (ofO (intsOf xs)) fun ns => ret (.int ns.sum)
    | _ => stuck
  | _ => stuck
def vAll : List PV → M PV
  | [x] => bnd (deref x) fun x => match x with
    | .lst xs => bnd (ofO (blsOf xs)) fun bs => ret (.bl (bs.all id))
    | _ => stuck
  | _ => stuck
def vAny : List PV → M PV
  | [x] => bnd (deref x) fun x => match x with
    | .lst xs => bnd (ofO (blsOf xs)) fun bs => ret (.bl (bs.any id))
    | _ => stuck
  | _ => stuck
def vLenL : List PV → M PV
  | [x] => vLen x
  | _ => stuck
def vDivmod : List PV → M PV
  | [.int a, .int b] => bnd (guard (CDivP a b)) fun _ => ret (.tup [.int (a / b), .int (a % b)])
  | _ => stuck
def vTupT : List PV → M PV
  | [x] => bnd (deref x) fun x => match x with
    | .tup xs => ret (.tup xs)
    | .lst xs => ret (.tup xs)
    | .loc xs => ret (.tup xs)
    | _ => stuck
  | _ => stuck
def vLstT : List PV → M PV
  | [x] => bnd (deref x) fun x => match x with
    | .tup xs => ret (.lst xs)
    | .lst xs => ret (.lst xs)
    | .loc xs => ret (.lst xs)
    | _ => stuck
  | _ => stuck
def vIntT : List PV → M PV
  | [.int a] => ret (.int a)
  | [.bl k] => ret (.int (if k then 1 else 0))
  | _ => stuck
def vStrT : List PV → M PV
  | [.int i] => bnd (guard (i.natAbs.log2 < 1920)) fun _ => ret (.str (Str.ofString (toString i)))
  | _ => stuck

section
variable {X : Cx} {Wx : WX} {Z : Zs} {F : Addr → Prop} {S : Stt} {H : Hp}
theorem RepL.ints : ∀ {xs : List PV} {ns : List Int} {vs : List V}, intsOf xs = some ns → RepL Z F H xs vs → vs = ns.map V.int
  | [], ns, _, h, .nil => by simp [intsOf] at h; subst h; rfl
  | x :: xs, ns, _, h, .cons r t => by
    cases x with
    | int i =>
      unfold intsOf at h
      cases e : intsOf xs with
      | none => rw [e] at h; cases h
      | some ms =>
        rw [e] at h
        cases h
        cases r
        rw [RepL.ints e t]; rfl
    | _ => cases h
theorem RepL.bls : ∀ {xs : List PV} {ns : List Bool} {vs : List V}, blsOf xs = some ns → RepL Z F H xs vs → vs = ns.map V.bl
  | [], ns, _, h, .nil => by simp [blsOf] at h; subst h; rfl
  | x :: xs, ns, _, h, .cons r t => by
    cases x with
    | bl i =>
      unfold blsOf at h
      cases e : blsOf xs with
      | none => rw [e] at h; cases h
      | some ms =>
        rw [e] at h
        cases h
        cases r
        rw [RepL.bls e t]; rfl
    | _ => cases h
theorem ofO_run {α : Type} {o : Option α} {S Q E} (h : (ofO o).run S Q E) : ∃ a, o = some a ∧ Q a S := by
  cases o with
  | none => exact h.elim
  | some a => exact ⟨a, rfl, h⟩
theorem maxL_mem : ∀ {ns : List Int}, 0 < ns.length → maxL ns ∈ ns ∧ ∀ y ∈ ns, y ≤ maxL ns
  | [x], _ => by simp [maxL]
  | x :: y :: r, _ => by
    obtain ⟨h1, h2⟩ := maxL_mem (ns := y :: r) (by simp)
    simp only [maxL]
    refine ⟨?_, fun z hz => ?_⟩
    · by_cases h : x ≤ maxL (y :: r)
      · rw [Int.max_eq_right h]; exact List.mem_cons_of_mem _ h1
      · rw [Int.max_eq_left (by omega)]; exact List.mem_cons_self
    · rcases List.mem_cons.mp hz with rfl | hz
      · exact Int.le_max_left _ _
      · exact Int.le_trans (h2 z hz) (Int.le_max_right _ _)
theorem minL_mem : ∀ {ns : List Int}, 0 < ns.length → minL ns ∈ ns ∧ ∀ y ∈ ns, minL ns ≤ y
  | [x], _ => by simp [minL]
  | x :: y :: r, _ => by
    obtain ⟨h1, h2⟩ := minL_mem (ns := y :: r) (by simp)
    simp only [minL]
    refine ⟨?_, fun z hz => ?_⟩
    · by_cases h : x ≤ minL (y :: r)
      · rw [Int.min_eq_left h]; exact List.mem_cons_self
      · rw [Int.min_eq_right (by omega)]; exact List.mem_cons_of_mem _ h1
    · rcases List.mem_cons.mp hz with rfl | hz
      · exact Int.min_le_left _ _
      · exact Int.le_trans (Int.min_le_right _ _) (h2 z hz)
theorem rep1 {ps : List PV} {xs : List V} {x : PV} (r : RepL Z F H ps xs) (e : ps = [x]) : ∃ v, xs = [v] ∧ Rep Z F H x v := by
  subst e
  cases r with
  | cons r t => cases t; exact ⟨_, rfl, r⟩
theorem TyX_of (w : W (zs X) F S H) {px py : PV} {x : V} {t : String} (r : RepD (zs X) F H py x) (h : tyName py = some t) : TyX X.K H x (.type t) := by
  cases py with
  | non => cases h; cases r.rep (fun xs e => nomatch e); exact .base .non
  | bl b => cases h; cases r.rep (fun xs e => nomatch e); exact .base (.bl b)
  | int i => cases h; cases r.rep (fun xs e => nomatch e); exact .base (.int i)
  | str z => cases h; cases r.rep (fun xs e => nomatch e); exact .base (.str z)
  | tup xs =>
    cases h
    cases r.rep (fun xs e => nomatch e) with
    | tup t rl =>
      rcases t with ⟨_, o, t, _⟩ | ⟨o, its, n, t, c, _⟩
      · exact .fTuple t
      · exact .kTuple t c
  | lst xs =>
    cases h
    obtain ⟨a, vs, rfl, h, rl⟩ := r.lst
    exact .base (.lst h)
  | loc xs =>
    cases h
    cases r.rep (fun xs e => nomatch e) with
    | loc t rl =>
      rcases t with ⟨_, t | ⟨o, t⟩⟩ | ⟨o, its, n, t, c, _⟩
      · exact .base (.lst t)
      · exact .base (.frz t)
      · exact .kList t c
  | _ => cases h
theorem o_isi : OpN X Wx (fun us => call (.builtin "isinstance") us) vIsi := .of call_isi fun xs H Q F S ps E w r q => by
  match ps, xs, r with
  | [px, .ty n], [x, _], .cons r1 (.cons (.ty _) .nil) =>
    obtain ⟨py, rd, q⟩ := deref_ok w r1 q
    cases e : tyName py with
    | none => simp only [e] at q; exact q.elim
    | some t =>
      simp only [e] at q
      obtain ⟨hn, q⟩ := q
      exact ⟨x, .ty n, .type t, .type n, _, rfl, .ty n, TyX_of (px := px) w rd e, kit_ty (isiB_ok (tyName_mem e) hn), q F H _ (Nxt.refl w) (.bl _)⟩
  | [_, .non], _, _ => exact q.elim
  | [_, .bl _], _, _ => exact q.elim
  | [_, .int _], _, _ => exact q.elim
  | [_, .str _], _, _ => exact q.elim
  | [_, .tup _], _, _ => exact q.elim
  | [_, .lst _], _, _ => exact q.elim
  | [_, .loc _], _, _ => exact q.elim
  | [_, .ref _], _, _ => exact q.elim
  | [_, .fn _], _, _ => exact q.elim
  | [], _, _ => exact q.elim
  | [_], _, _ => exact q.elim
  | _ :: y :: _ :: _, _, _ => cases y <;> exact q.elim
theorem o_len : OpN X Wx (fun us => call (.builtin "len") us) vLenL := .of call_len fun xs H Q F S ps E w r q => by
  match ps, xs, r with
  | [px], [x], .cons r1 .nil =>
    obtain ⟨n, h1, h2⟩ := lenV_of w r1 q
    exact ⟨x, n, rfl, h1, h2⟩
  | [], _, _ => exact q.elim
  | _ :: _ :: _, _, _ => exact q.elim
theorem o_abs : OpN X Wx (fun us => call (.builtin "abs") us) vAbs := .of call_abs fun xs H Q F S ps E w r q => by
  unfold vAbs at q
  split at q
  · cases r with
    | cons r1 t => cases t; cases r1; exact ⟨_, rfl, q F H _ (Nxt.refl w) (.int _)⟩
  · exact q.elim
theorem o_int : OpN X Wx (fun us => call (.type "int") us) vIntT := .of call_int1 fun xs H Q F S ps E w r q => by
  unfold vIntT at q
  split at q
  · cases r with
    | cons r1 t => cases t; cases r1; exact .inl ⟨_, rfl, q F H _ (Nxt.refl w) (.int _)⟩
  · cases r with
    | cons r1 t => cases t; cases r1; exact .inr ⟨_, rfl, q F H _ (Nxt.refl w) (.int _)⟩
  · exact q.elim
theorem o_str : OpN X Wx (fun us => call (.type "str") us) vStrT := .of call_str_int fun xs H Q F S ps E w r q => by
  unfold vStrT at q
  split at q
  · cases r with
    | cons r1 t => cases t; cases r1; exact ⟨_, rfl, q.1, q.2 F H _ (Nxt.refl w) (.str _)⟩
  · exact q.elim
theorem o_divmod : OpN X Wx (fun us => call (.builtin "divmod") us) vDivmod := .of call_divmodF fun xs H Q F S ps E w r q => by
  unfold vDivmod at q
  split at q
  · cases r with
    | cons r1 t =>
      cases t with
      | cons r2 t =>
        cases t; cases r1; cases r2
        exact ⟨_, _, rfl, q.1, lay_tup (Nxt.refl w) (.cons (.int _) (.cons (.int _) .nil)) q.2⟩
  · exact q.elim
theorem o_tup : OpN X Wx (fun us => call (.type "tuple") us) vTupT := .of call_tupleF fun xs H Q F S ps E w r q => by
  match ps, xs, r with
  | [px], [x], .cons r1 .nil =>
    obtain ⟨py, rd, q⟩ := deref_ok w r1 q
    cases py with
    | tup ys =>
      cases rd.rep (fun xs e => nomatch e) with
      | @tup a _ vs t rl => exact ⟨_, _, rfl, .inr ⟨t.sq, q F H _ (Nxt.refl w) (.tup t rl)⟩⟩
    | lst ys =>
      obtain ⟨a, vs, rfl, h, rl⟩ := rd.lst
      exact ⟨_, _, rfl, .inl ⟨.of h, lay_tup (Nxt.refl w) rl q⟩⟩
    | loc ys =>
      cases rd.rep (fun xs e => nomatch e) with
      | @loc a _ vs t rl => exact ⟨_, _, rfl, .inl ⟨t.sq, lay_tup (Nxt.refl w) rl q⟩⟩
    | _ => exact q.elim
  | [], _, _ => exact q.elim
  | _ :: _ :: _, _, _ => exact q.elim
theorem o_lst : OpN X Wx (fun us => call (.type "list") us) vLstT := .of call_list_of fun xs H Q F S ps E w r q => by
  match ps, xs, r with
  | [px], [x], .cons r1 .nil =>
    obtain ⟨py, rd, q⟩ := deref_ok w r1 q
    cases py with
    | tup ys =>
      cases rd.rep (fun xs e => nomatch e) with
      | @tup a _ vs t rl => exact ⟨_, _, rfl, .inr t.sq, fun p hp => lay_lst (Nxt.refl w) rl q hp⟩
    | lst ys =>
      obtain ⟨a, vs, rfl, h, rl⟩ := rd.lst
      exact ⟨_, _, rfl, .inl (.of h), fun p hp => lay_lst (Nxt.refl w) rl q hp⟩
    | loc ys =>
      cases rd.rep (fun xs e => nomatch e) with
      | @loc a _ vs t rl => exact ⟨_, _, rfl, .inl t.sq, fun p hp => lay_lst (Nxt.refl w) rl q hp⟩
    | _ => exact q.elim
  | [], _, _ => exact q.elim
  | _ :: _ :: _, _, _ => exact q.elim
theorem o_all (hc : X.calm = true) : OpN X Wx (fun us => call (.builtin "all") us) vAll := .of (cr_all hc) fun xs H Q F S ps E w r q => by
  match ps, xs, r with
  | [px], [x], .cons r1 .nil =>
    obtain ⟨py, rd, q⟩ := deref_ok w r1 q
    cases py with
    | lst ys =>
      obtain ⟨a, vs, rfl, h, rl⟩ := rd.lst
      obtain ⟨bs, e, q⟩ := ofO_run q
      have := rl.bls e
      subst this
      exact ⟨a, bs, rfl, .of h, q F H _ (Nxt.refl w) (.bl _)⟩
    | _ => exact q.elim
  | [], _, _ => exact q.elim
  | _ :: _ :: _, _, _ => exact q.elim
theorem o_any (hc : X.calm = true) : OpN X Wx (fun us => call (.builtin "any") us) vAny := .of (cr_any hc) fun xs H Q F S ps E w r q => by
  match ps, xs, r with
  | [px], [x], .cons r1 .nil =>
    obtain ⟨py, rd, q⟩ := deref_ok w r1 q
    cases py with
    | lst ys =>
      obtain ⟨a, vs, rfl, h, rl⟩ := rd.lst
      obtain ⟨bs, e, q⟩ := ofO_run q
      have := rl.bls e
      subst this
      exact ⟨a, bs, rfl, .of h, q F H _ (Nxt.refl w) (.bl _)⟩
    | _ => exact q.elim
  | [], _, _ => exact q.elim
  | _ :: _ :: _, _, _ => exact q.elim
theorem o_sum (hc : X.calm = true) : OpN X Wx (fun us => call (.builtin "sum") us) vSum := .of (cr_sum hc) fun xs H Q F S ps E w r q => by
  match ps, xs, r with
  | [px], [x], .cons r1 .nil =>
    obtain ⟨py, rd, q⟩ := deref_ok w r1 q
    cases py with
    | lst ys =>
      obtain ⟨a, vs, rfl, h, rl⟩ := rd.lst
      obtain ⟨bs, e, q⟩ := ofO_run q
      have := rl.ints e
      subst this
      exact ⟨a, bs, rfl, .of h, q F H _ (Nxt.refl w) (.int _)⟩
    | _ => exact q.elim
  | [], _, _ => exact q.elim
  | _ :: _ :: _, _, _ => exact q.elim
theorem CallR.or {f : Value} {r r' : List V → Hp → VK → Prop} (h : CallR X f r) (h' : CallR X f r') : CallR X f (fun xs H Q => r xs H Q ∨ r' xs H Q) :=
  fun pins s σ H xs us Q I rx q => q.elim (h pins s σ H xs us Q I rx) (h' pins s σ H xs us Q I rx)
theorem vals3' {x y z : V} {us : List Value} (r : Vals [x, y, z] us) : ∃ u v t, us = [u, v, t] ∧ RelV x u ∧ RelV y v ∧ RelV z t := by
  cases r with
  | cons r1 t => cases t with
    | cons r2 t => cases t with
      | cons r3 t => cases t; exact ⟨_, _, _, rfl, r1, r2, r3⟩
theorem call_max3 (hc : X.calm = true) : CallR X (.builtin "max") (fun xs H Q => ∃ i j k, xs = [.int i, .int j, .int k] ∧ Q (.int (max i (max j k))) H) := by
  intro pins s σ H xs us Q I r h
  obtain ⟨i, j, k, rfl, q⟩ := h
  obtain ⟨u1, u2, u3, rfl, ⟨t1, rfl⟩, ⟨t2, rfl⟩, ⟨t3, rfl⟩⟩ := vals3' r
  refine max_three_ints (I.ok.hd hc) fun h' tk hk => ⟨.int (max i (max j k)), H, I.kept hk, ?_, q⟩
  have e : ∀ {a b : Int} {t t' : Tok}, a = b → RelV (.int a) (.int b t) := fun {a b t t'} e => ⟨t, by rw [e]⟩
  split
  · split
    · exact e (t' := t1) (by omega)
    · exact e (t' := t1) (by omega)
  · split
    · exact e (t' := t1) (by omega)
    · exact e (t' := t1) (by omega)
theorem call_min3 (hc : X.calm = true) : CallR X (.builtin "min") (fun xs H Q => ∃ i j k, xs = [.int i, .int j, .int k] ∧ Q (.int (min i (min j k))) H) := by
  intro pins s σ H xs us Q I r h
  obtain ⟨i, j, k, rfl, q⟩ := h
  obtain ⟨u1, u2, u3, rfl, ⟨t1, rfl⟩, ⟨t2, rfl⟩, ⟨t3, rfl⟩⟩ := vals3' r
  refine min_three_ints (I.ok.hd hc) fun h' tk hk => ⟨.int (min i (min j k)), H, I.kept hk, ?_, q⟩
  have e : ∀ {a b : Int} {t t' : Tok}, a = b → RelV (.int a) (.int b t) := fun {a b t t'} e => ⟨t, by rw [e]⟩
  split
  · split
    · exact e (t' := t1) (by omega)
    · exact e (t' := t1) (by omega)
  · split
    · exact e (t' := t1) (by omega)
    · exact e (t' := t1) (by omega)
theorem o_max (hc : X.calm = true) : OpN X Wx (fun us => call (.builtin "max") us) vMax := .of (((call_max2 hc).or (call_max3 hc)).or (cr_max hc)) fun xs H Q F S ps E w r q => by
  unfold vMax at q
  split at q
  · rename_i a b
    cases r with
    | cons r1 t => cases t with
      | cons r2 t =>
        cases t; cases r1; cases r2
        refine .inl (.inl ⟨a, b, rfl, ?_⟩)
        have e : (if b > a then b else a) = max a b := by split <;> omega
        rw [e]; exact q F H _ (Nxt.refl w) (.int _)
  · rename_i a b c
    cases r with
    | cons r1 t => cases t with
      | cons r2 t => cases t with
        | cons r3 t =>
          cases t; cases r1; cases r2; cases r3
          exact .inl (.inr ⟨a, b, c, rfl, q F H _ (Nxt.refl w) (.int _)⟩)
  · cases r with
    | cons r1 t =>
      cases t
      obtain ⟨py, rd, q⟩ := deref_ok w r1 q
      cases py with
      | lst ys =>
        obtain ⟨a, vs, rfl, h, rl⟩ := rd.lst
        obtain ⟨ns, e, hl, q⟩ := ofO_run q
        have := rl.ints e
        subst this
        refine .inr ⟨a, ns, rfl, .of h, hl, fun m h1 h2 => ?_⟩
        obtain ⟨h3, h4⟩ := maxL_mem hl
        have : m = maxL ns := Int.le_antisymm (h4 m h1) (h2 _ h3)
        rw [this]; exact q F H _ (Nxt.refl w) (.int _)
      | _ => exact q.elim
  · exact q.elim
theorem o_min (hc : X.calm = true) : OpN X Wx (fun us => call (.builtin "min") us) vMin := .of (((call_min2 hc).or (call_min3 hc)).or (cr_min hc)) fun xs H Q F S ps E w r q => by
  unfold vMin at q
  split at q
  · rename_i a b
    cases r with
    | cons r1 t => cases t with
      | cons r2 t =>
        cases t; cases r1; cases r2
        refine .inl (.inl ⟨a, b, rfl, ?_⟩)
        have e : (if b < a then b else a) = min a b := by split <;> omega
        rw [e]; exact q F H _ (Nxt.refl w) (.int _)
  · rename_i a b c
    cases r with
    | cons r1 t => cases t with
      | cons r2 t => cases t with
        | cons r3 t =>
          cases t; cases r1; cases r2; cases r3
          exact .inl (.inr ⟨a, b, c, rfl, q F H _ (Nxt.refl w) (.int _)⟩)
  · cases r with
    | cons r1 t =>
      cases t
      obtain ⟨py, rd, q⟩ := deref_ok w r1 q
      cases py with
      | lst ys =>
        obtain ⟨a, vs, rfl, h, rl⟩ := rd.lst
        obtain ⟨ns, e, hl, q⟩ := ofO_run q
        have := rl.ints e
        subst this
        refine .inr ⟨a, ns, rfl, .of h, hl, fun m h1 h2 => ?_⟩
        obtain ⟨h3, h4⟩ := minL_mem hl
        have : m = minL ns := Int.le_antisymm (h2 _ h3) (h4 m h1)
        rw [this]; exact q F H _ (Nxt.refl w) (.int _)
      | _ => exact q.elim
  · exact q.elim

/-! ### methods -/
/-- xs.append(y), xs owned -/
def vAppend : PV → List PV → M PV
  | .ref a, [y] => ⟨fun S Q _ => ∃ xs, S a = some (.lst xs) ∧ xs.length < sizeLine ∧ Q .non (put S a (.lst (xs ++ [y]))), fun h _ ⟨xs, e, l, q⟩ => ⟨xs, e, l, h _ _ q⟩⟩
  | _, _ => stuck
def vExtend : PV → List PV → M PV
  | .ref a, [y] => bnd (deref y) fun y => match y with
    | .lst ys => ⟨fun S Q _ => ∃ xs, S a = some (.lst xs) ∧ xs.length + ys.length ≤ sizeLine ∧ Q .non (put S a (.lst (xs ++ ys))), fun h _ ⟨xs, e, l, q⟩ => ⟨xs, e, l, h _ _ q⟩⟩
    | _ => stuck
  | _, _ => stuck
def vPop : PV → List PV → M PV
  | .ref a, [] => ⟨fun S Q _ => ∃ xs y, S a = some (.lst xs) ∧ xs[xs.length - 1]? = some y ∧ Q y (put S a (.lst xs.dropLast)), fun h _ ⟨xs, y, e, l, q⟩ => ⟨xs, y, e, l, h _ _ q⟩⟩
  | _, _ => stuck
/-- the first place of a value -/
def findP (y : PV) : List PV → Option Nat
  | [] => none
  | x :: xs => if PV.eqv x y = true then some 0 else (findP y xs).map (· + 1)
def vIndex : PV → List PV → M PV
  | x, [y] => bnd (deref x) fun x => match x with
    | .lst xs => bnd (guard (fine2 y (.lst xs))) fun _ => bnd (ofO (findP y xs)) fun j => ret (.int j)
    | _ => stuck
  | _, _ => stuck
theorem findP_ok {y : PV} : ∀ {xs : List PV} {j : Nat}, findP y xs = some j → (∃ z, xs[j]? = some z ∧ PV.eqv z y = true) ∧ ∀ m z, m < j → xs[m]? = some z → PV.eqv z y = false
  | [], _, h => by simp [findP] at h
  | x :: xs, j, h => by
    unfold findP at h
    split at h
    · cases h
      rename_i e
      exact ⟨⟨x, rfl, e⟩, fun m z hm => absurd hm (Nat.not_lt_zero m)⟩
    · rename_i e
      cases e2 : findP y xs with
      | none => rw [e2] at h; cases h
      | some k =>
        rw [e2] at h
        cases h
        obtain ⟨⟨z, h1, h2⟩, h3⟩ := findP_ok e2
        refine ⟨⟨z, by simpa using h1, h2⟩, fun m z hm hz => ?_⟩
        cases m with
        | zero => simp at hz; subst hz; simpa using e
        | succ m => exact h3 m z (Nat.lt_of_succ_lt_succ hm) (by simpa using hz)
theorem OpM.of {id : String} {m : PV → List PV → M PV} {r : V → List V → Hp → VK → Prop} (ho : MtR X id r)
    (h : ∀ (x : V) (xs : List V) (H : Hp) (Q : VK) (F : Addr → Prop) (S : Stt) (px : PV) (ps : List PV) (E : Exc → Stt → Prop), W (zs X) F S H → Rep (zs X) F H px x → RepL (zs X) F H ps xs → (m px ps).run S (Pv (zs X) F S H Q) E → r x xs H Q) : OpM X Wx id m :=
  fun pins s σ H x xs v us Q F S px ps I rx rxs w rp rps q => ho pins s σ H x xs v us Q I rx rxs (h x xs H Q F S px ps _ w rp rps q)
theorem m_append : OpM X Wx "list.append" vAppend := .of mt_append fun x xs H Q F S px ps E w rp rps q => by
  unfold vAppend at q
  split at q
  · obtain ⟨ys, e, hl, q⟩ := q
    cases rp
    cases rps with
    | cons r1 t =>
      cases t
      obtain ⟨vs, h, rl⟩ := w.cell _ _ e
      rw [rl.length] at hl
      exact ⟨_, vs, _, rfl, rfl, h, hl, q _ _ _ (w.setLst e (rl.append (.cons r1 .nil))) .non⟩
  · exact q.elim
theorem m_extend : OpM X Wx "list.extend" vExtend := .of mt_extend fun x xs H Q F S px ps E w rp rps q => by
  unfold vExtend at q
  split at q
  · cases rp
    cases rps with
    | cons r1 t =>
      cases t
      obtain ⟨py, rd, q⟩ := deref_ok w r1 q
      cases py with
      | lst ys =>
        obtain ⟨b, us, rfl, hb, rb⟩ := rd.lst
        obtain ⟨xs, e, hl, q⟩ := q
        obtain ⟨vs, h, rl⟩ := w.cell _ _ e
        rw [rl.length, rb.length] at hl
        exact ⟨_, b, vs, us, rfl, rfl, h, hb, hl, q _ _ _ (w.setLst e (rl.append rb)) .non⟩
      | _ => exact q.elim
  · exact q.elim
theorem RepL.dropLast {xs : List PV} {vs : List V} (r : RepL Z F H xs vs) : RepL Z F H xs.dropLast vs.dropLast := by
  rw [List.dropLast_eq_take, List.dropLast_eq_take, r.length]
  exact r.take _
theorem m_pop : OpM X Wx "list.pop" vPop := .of mt_pop fun x xs H Q F S px ps E w rp rps q => by
  unfold vPop at q
  split at q
  · obtain ⟨ys, y, e, hy, q⟩ := q
    cases rp
    cases rps
    obtain ⟨vs, h, rl⟩ := w.cell _ _ e
    obtain ⟨v, hv, rv⟩ := rl.get hy
    rw [rl.length] at hv
    have n := w.setLst e rl.dropLast
    exact ⟨_, vs, v, rfl, rfl, h, hv, q _ _ _ n (rv.nxt w n)⟩
  · exact q.elim
theorem m_index (hu : X.A.units + 65 < cLine) : OpM X Wx "list.index" vIndex := .of (mt_indexD hu) fun x xs H Q F S px ps E w rp rps q => by
  unfold vIndex at q
  split at q
  · cases rps with
    | cons r1 t =>
      cases t
      obtain ⟨py, rd, q⟩ := deref_ok w rp q
      cases py with
      | lst ys =>
        obtain ⟨⟨f1, f2⟩, q⟩ := q
        obtain ⟨j, e, q⟩ := ofO_run q
        have f2' : PV.fineL 29 ys = true := by simpa [PV.fine] using f2
        obtain ⟨a, vs, rfl, ha, rl⟩ := rd.lst
        obtain ⟨⟨z, h1, h2⟩, h3⟩ := findP_ok e
        have hget : ∀ {m : Nat} {xs : List PV}, (PV.datL xs)[m]? = xs[m]?.map PV.dat := by
          intro m xs
          induction xs generalizing m with
          | nil => simp [PV.datL]
          | cons x xs ih => cases m <;> simp [PV.datL, ih]
        have fz : ∀ {m : Nat} {z : PV}, ys[m]? = some z → PV.fine 29 z = true := fun {m z} h => (fineL_all.mp f2') z (List.mem_of_getElem? h)
        refine ⟨a, _, _, _, j, z.dat, rfl, rfl, rd.dp f2, r1.dp f1, shaped_fine (by decide) f2, shaped_fine (by decide) f1, by rw [hget, h1]; rfl, ?_, fun m z' hm hz => ?_, q F H _ (Nxt.refl w) (.int _)⟩
        · rw [eqv_dat _ _ (fz h1) f1]; exact h2
        · rw [hget] at hz
          cases e3 : ys[m]? with
          | none => rw [e3] at hz; cases hz
          | some z2 =>
            rw [e3] at hz; cases hz
            rw [eqv_dat _ _ (fz e3) f1]; exact h3 m z2 hm e3
      | _ => exact q.elim
  · exact q.elim
/-- a built-in type as a value -/
theorem s_bty {x : Str} {n : String} {pos : Pos} (hg : Gl X x) (hm : X.mg x = none) (hv : bootBuiltins x = some (.type n)) (hn : x ≠ "__name__") (hd : (x == ("__debug__" : Str)) = false) : SE X Wx (.Name x pos) (fun _ => ret (.ty n)) := .mk fun pins s σ H F S env Q I er w q =>
  (pe_bltn (v := .ty n) hg hm hv rfl hn hd).run pins s σ H Q I (q F H _ (Nxt.refl w) (.ty n))
end
end Dp

namespace Dp
open PySem PySem.Spec L2
open PyProof.Rows hiding St

/-! ### instances -/
def putP (f : Str) (v : PV) : List (Str × PV) → List (Str × PV)
  | [] => [(f, v)]
  | (g, x) :: r => if g = f then (g, v) :: r else (g, x) :: putP f v r
section
variable {Z : Zs} {F : Addr → Prop} {S : Stt} {H : Hp}
theorem putP_rep {f : Str} {px : PV} {v : V} (rv : Rep Z F H px v) : ∀ {fs : List (Str × PV)} {vs : List V}, RepL Z F H (fs.map (·.2)) vs → ∃ vs', putF f v ((fs.map (·.1)).zip vs) = ((putP f px fs).map (·.1)).zip vs' ∧ RepL Z F H ((putP f px fs).map (·.2)) vs'
  | [], _, .nil => ⟨[v], rfl, .cons rv .nil⟩
  | (g, x) :: fs, v0 :: vs, .cons r0 r => by
    by_cases h : g = f
    · refine ⟨v :: vs, ?_, ?_⟩
      · simp [putF, putP, h]
      · simp only [putP, h, if_true, List.map_cons]; exact .cons rv r
    · obtain ⟨vs', h1, h2⟩ := putP_rep rv r
      refine ⟨v0 :: vs', ?_, ?_⟩
      · simp only [putP, putF, h, if_false, List.map_cons, List.zip_cons_cons]; rw [h1]
      · simp only [putP, h, if_false, List.map_cons]; exact .cons r0 h2
theorem look_rep {f : Str} : ∀ {fs : List (Str × PV)} {vs : List V}, RepL Z F H (fs.map (·.2)) vs → (∀ px, fs.lookup f = some px → ∃ v, ((fs.map (·.1)).zip vs).lookup f = some v ∧ Rep Z F H px v) ∧ (fs.lookup f = none → ((fs.map (·.1)).zip vs).lookup f = none)
  | [], _, .nil => ⟨fun _ h => by simp at h, fun _ => rfl⟩
  | (g, x) :: fs, v0 :: vs, .cons r0 r => by
    obtain ⟨h1, h2⟩ := look_rep (f := f) r
    simp only [List.map_cons, List.zip_cons_cons, List.lookup_cons]
    cases e : f == g with
    | true => exact ⟨fun px h => by cases h; exact ⟨v0, rfl, r0⟩, fun h => by cases h⟩
    | false => exact ⟨h1, h2⟩
theorem zip_len {fs : List (Str × PV)} {vs : List V} (r : RepL Z F H (fs.map (·.2)) vs) : ((fs.map (·.1)).zip vs).length = fs.length := by
  have := r.length
  rw [List.length_map] at this
  rw [List.length_zip, List.length_map, ← this]; omega
/-- an instance's attribute is set -/
theorem W.setIns (w : W Z F S H) {p Ca dx : Addr} {C : Str} {fs fs' : List (Str × PV)} {os : List (Str × V)} {vs : List V} (h : S p = some (.ins C fs)) (hm : Z.mg C = some (.ref Ca)) (h0 : H p = some (.ins Ca dx os)) (hd : H dx = some (.own p)) (r : RepL Z F H (fs'.map (·.2)) vs) :
    Nxt Z F S H F (put S p (.ins C fs')) (upd H p (.ins Ca dx ((fs'.map (·.1)).zip vs))) := by
  have ne : ∀ b, S b = none → b ≠ p := fun b e z => by subst z; rw [h] at e; cases e
  have nd : dx ≠ p := fun z => by rw [z, h0] at hd; cases hd
  have sb : Sub F H F (upd H p (.ins Ca dx ((fs'.map (·.1)).zip vs))) := ⟨fun a q => q, fun a u q e _ => by rw [upd_ne (ne a (w.dis a q))]; exact e⟩
  refine ⟨fun a q => q, fun b u e s _ => ?_, fun b u e s _ => ?_, fun b u e _ _ nf q => nf q, ⟨fun a q => ?_, fun a q => ?_, fun a c e => ?_, tabs_upd w.tabs (.inr (.inr (.inl ⟨_, _, _, h0⟩)))⟩⟩
  · rw [upd_ne (ne b s)]; exact e
  · rw [put_ne (ne b s)]; exact s
  · rw [put_ne (ne a (w.dis a q))]; exact w.dis a q
  · obtain ⟨u, e, t⟩ := w.ff a q
    exact ⟨u, by rw [upd_ne (ne a (w.dis a q))]; exact e, t⟩
  · by_cases ha : a = p
    · subst ha; rw [put_same] at e; cases e
      exact ⟨Ca, dx, vs, hm, upd_same, by rw [upd_ne nd]; exact hd, r.mono sb⟩
    · rw [put_ne ha] at e
      refine (w.cell a c e).mono sb (upd_ne ha) fun dx q => ?_
      rw [upd_ne (ne dx (w.own_S q))]; exact q
/-- a new instance -/
theorem W.layIns (w : W Z F S H) {p dx Ca : Addr} {C : Str} (h : H p = none) (hx : H dx = none) (nd : dx ≠ p) (hm : Z.mg C = some (.ref Ca)) :
    Nxt Z F S H F (put S p (.ins C [])) (upd (upd H dx (.own p)) p (.ins Ca dx [])) := by
  have hs := w.fresh_S h
  have hsx := w.fresh_S hx
  have ne2 : ∀ {b u}, H b = some u → upd (upd H dx (.own p)) p (.ins Ca dx []) b = some u := fun e => by
    rw [upd_ne (ne_of_none e h), upd_ne (ne_of_none e hx)]; exact e
  have sb : Sub F H F (upd (upd H dx (.own p)) p (.ins Ca dx [])) := ⟨fun a q => q, fun a u q e _ => ne2 e⟩
  refine ⟨fun a q => q, fun b u e _ _ => ne2 e, fun b u e s _ => ?_, fun b u e _ _ nf q => nf q, ⟨fun a q => ?_, fun a q => ?_, fun a c e => ?_, tabs_upd (tabs_upd w.tabs (.inl hx)) (.inl (by rw [upd_ne nd.symm]; exact h))⟩⟩
  · rw [put_ne (ne_of_none e h)]; exact s
  · obtain ⟨u, e, _⟩ := w.ff a q
    rw [put_ne (ne_of_none e h)]; exact w.dis a q
  · obtain ⟨u, e, t⟩ := w.ff a q
    exact ⟨u, ne2 e, t⟩
  · by_cases ha : a = p
    · subst ha; rw [put_same] at e; cases e
      exact ⟨Ca, dx, [], hm, upd_same, by rw [upd_ne nd, upd_same], .nil⟩
    · rw [put_ne ha] at e
      have hax : a ≠ dx := fun z => by subst z; rw [hsx] at e; cases e
      refine (w.cell a c e).mono sb (by rw [upd_ne ha, upd_ne hax]) fun dx' q => ne2 q
end

/-! ### classes -/
structure ClsAt (X : Cx) (C : Str) (flds : List Str) : Prop where
  ex : ∃ Ca : Addr, X.mg C = some (.ref Ca) ∧ Cls X.K Ca ∧ ∀ f ∈ flds, NoAttr X.K Ca f
structure PropAt (X : Cx) (k : Nat) (C f : Str) (fn : Fn) : Prop where
  ex : ∃ (Ca p g : Addr) (fd : FuncData), X.mg C = some (.ref Ca) ∧ Cls X.K Ca ∧ PropOf X.K Ca f p g ∧ FnOk X.prog X.w X.K X.mg X.base (L2.CX X.prog X.w) k g fd fn.ps (FnSp (zs X) fn.ps.length fn.m) ∧ Binds X.K fd fn.ps []
structure MethAt (X : Cx) (k : Nat) (C m : Str) (fn : Fn) : Prop where
  ex : ∃ (Ca g : Addr) (fd : FuncData), X.mg C = some (.ref Ca) ∧ Cls X.K Ca ∧ Meth X.K Ca m g ∧ FnOk X.prog X.w X.K X.mg X.base (L2.CX X.prog X.w) k g fd fn.ps (FnSp (zs X) fn.ps.length fn.m) ∧ Binds X.K fd fn.ps []
structure MakeAt (X : Cx) (k : Nat) (C : Str) (fn : Fn) : Prop where
  ex : ∃ (Ca g : Addr) (fd : FuncData), X.mg C = some (.ref Ca) ∧ Mk X.K Ca g ∧ FnOk X.prog X.w X.K X.mg X.base (L2.CX X.prog X.w) k g fd fn.ps (FnSp (zs X) fn.ps.length fn.m) ∧
    ∀ sh ∈ fn.shapes, ∀ (s : Shared) (us ws : List Value), X.K.In s.heap → us.length = sh.n + 1 → ws.length = sh.ks.length → BindsTo s fd ⟨us, sh.ks.zip ws⟩ (fn.ps.zip (pick sh.ix (us ++ ws)))
def vFld (C f : Str) : PV → M PV
  | .ref a => ⟨fun S Q _ => ∃ fs px, S a = some (.ins C fs) ∧ fs.lookup f = some px ∧ Q px S, fun h _ ⟨fs, px, e, l, q⟩ => ⟨fs, px, e, l, h _ _ q⟩⟩
  | _ => stuck
def vProp (C : Str) (m : List PV → M PV) : PV → M PV
  | .ref a => ⟨fun S Q _ => (∃ fs, S a = some (.ins C fs)) ∧ (noexc (m [.ref a])).run S Q (fun _ _ => False), fun h _ q => ⟨q.1, (noexc (m [.ref a])).mono h (fun _ _ z => z) q.2⟩⟩
  | _ => stuck
def isIns (C m : Str) : PV → M Unit
  | .ref a => ⟨fun S Q _ => (∃ fs, S a = some (.ins C fs) ∧ fs.lookup m = none) ∧ Q () S, fun h _ q => ⟨q.1, h _ _ q.2⟩⟩
  | _ => stuck
def vPutF (C f : Str) (v : PV) : PV → M Unit
  | .ref a => ⟨fun S Q _ => ∃ fs, S a = some (.ins C fs) ∧ fs.length < 1000 ∧ Q () (put S a (.ins C (putP f v fs))), fun h _ ⟨fs, e, l, q⟩ => ⟨fs, e, l, h _ _ q⟩⟩
  | _ => stuck
section
variable {X : Cx} {Wx : WX} {C f m : Str} {flds : List Str} {e o : Expr} {me : En → M PV} {pos apos cpos : Pos} {k : Nat} {fn : Fn}
theorem s_fld (CA : ClsAt X C flds) (hf : f ∈ flds) (he : SE X Wx e me) (hb : plainBase e = true) : SE X Wx (.Attribute e f pos) (fun env => bnd (me env) (vFld C f)) := .mk fun pins s σ H F S env Q I er w q => by
  obtain ⟨Ca, hm, c, hn⟩ := CA.ex
  refine attr_of (base_ok hb) (he.go I er w q fun v s1 x px F1 S1 H1 I1 r1 n1 rp1 q1 => ?_)
  cases px with
  | ref a =>
    obtain ⟨fs, py, e1, l, q1⟩ := q1
    cases rp1
    cases r1
    obtain ⟨Ca', dx, vs, hm', eh, _, rl⟩ := n1.w.cell a _ e1
    rw [show X.mg C = some (.ref Ca') from hm'] at hm
    cases hm
    obtain ⟨v, hl, rv⟩ := (look_rep rl).1 py l
    exact getattr_ok I1 eh c (hn f hf) hl fun u s2 I2 ru => fin I2 ru n1 rv q1
  | _ => exact q1.elim
theorem noPass {CX : CXT} {E : Value → Shared → Prop} (h : ∀ (o : List Env) (H : Hp) (s : Shared) (e : Value) (s' : Shared), CX o H s (fun _ _ _ => False) e s' → False) : Passes CX (X.wish E) (fun _ _ _ => False) := fun _ _ _ _ _ _ _ c => (h _ _ _ _ _ c).elim
theorem cx_no {P : Program} {w : World} : ∀ (o : List Env) (H : Hp) (s : Shared) (e : Value) (s' : Shared), L2.CX P w o H s (fun _ _ _ => False) e s' → False :=
  fun _ _ _ _ _ ⟨_, _, _, _, _, _, _, _, _, _, _, _, z⟩ => z
theorem s_prop (PA : PropAt X k C f fn) (hr : Room (k + 1) X.A) (he : SE X Wx e me) (hb : plainBase e = true) (h1 : fn.ps.length = 1) : SE X Wx (.Attribute e f pos) (fun env => bnd (me env) (vProp C fn.m)) := .mk fun pins s σ H F S env Q I er w q => by
  obtain ⟨Ca, p, g, fd, hm, c, hp, FO, hbd⟩ := PA.ex
  refine attr_of (base_ok hb) (he.go I er w q fun v s1 x px F1 S1 H1 I1 r1 n1 rp1 q1 => ?_)
  cases px with
  | ref a =>
    obtain ⟨⟨fs, e1⟩, q1⟩ := q1
    cases rp1
    cases r1
    obtain ⟨Ca', dx, vs, hm', eh, _, rl⟩ := n1.w.cell a _ e1
    rw [show X.mg C = some (.ref Ca') from hm'] at hm
    cases hm
    refine getprop_ok (dvs := []) (E := fun _ _ _ => False) I1 eh c hp FO hr hbd .nil (noPass cx_no) ⟨h1.symm, F1, S1, [.ref a], .cons (.ref a) .nil, n1.w, (fn.m _).mono (fun _ _ q => Pv.nxt n1 q) (fun _ _ z => z.elim) q1⟩
  | _ => exact q1.elim
theorem mc_tree {args : List Expr} (hb : plainBase o = true) (hst : noStars args = true) (hlen : args.length < 20) (hline : (apos.endLine == pos.line) = true) :
    eval (.Call (.Attribute o m apos) args [] pos) X.env = (do
      let ov ← eval o X.env
      standAt apos.atName
      let (f, first) ← holding [ov] (getMethod ov m (plainOf o X.env))
      callWith pos f first (backTo pos (starEach args X.env)) (backToKw pos (keywordEach [] X.env))) := by
  have hall : (backTo pos (starEach args X.env)).all (fun x => !x.1) = true := by
    have := stars_none (pos := pos) (env := X.env) hst
    rw [List.any_eq_false] at this
    rw [List.all_eq_true]
    intro x hx
    have := this x hx
    simpa using this
  exact mcall_of (base_ok hb) fun ov => mcall_line (by unfold methodCallForm; rw [hall]; simp [backToKw, keywordEach]; omega) hline
theorem s_mcall {es : List Expr} {ms : En → M (List PV)} (MA : MethAt X k C m fn) (hr : Room k X.A) (tk : Takes X Wx) (he : SE X Wx o me) (ha : SA X Wx (e :: es) ms) (hb : plainBase o = true) (hst : noStars (e :: es) = true) (hlen : es.length < 19) (hline : (apos.endLine == pos.line) = true) :
    SE X Wx (.Call (.Attribute o m apos) (e :: es) [] pos) (fun env => bnd (me env) fun x => bnd (isIns C m x) fun _ => bnd (ms env) fun xs => bnd (guard ((x :: xs).length = fn.ps.length)) fun _ => fn.m (x :: xs)) := .mk fun pins s σ H F S env Q I er w q => by
  obtain ⟨Ca, g, fd, hm, c, hg, FO, hbd⟩ := MA.ex
  have h' : notStar e = true ∧ noStars es = true := by simpa [noStars] using hst
  refine PySem.W.methodCall_KW (pl := plainOf o X.env) (he.go I er w q fun v s1 x px F1 S1 H1 I1 r1 n1 rp1 q1 => ?_) (mc_tree hb hst (by simpa using Nat.succ_lt_succ hlen) hline)
  cases px with
  | ref a =>
    obtain ⟨⟨fs, e1, l⟩, q1⟩ := q1
    cases rp1
    cases r1
    obtain ⟨Ca', dx, vs, hm', eh, _, rl⟩ := n1.w.cell a _ e1
    rw [show X.mg C = some (.ref Ca') from hm'] at hm
    cases hm
    refine getmeth_ok I1 eh c hg ((look_rep rl).2 l) ?_
    refine PySem.W.callWith_K (first := [.ref a]) (h₀ := X.base) I.ok.mod.kin hg.kp (ha.go pos I1 (er.mono (n1.toSub w)) n1.w ((ms env).mono (fun _ _ q => q) (fun _ _ q => Pw.nxt n1 q) q1) fun us s2 vs2 ps F2 S2 H2 I2 r2 n2 rp2 q2 => ⟨I2.kIn, ?_⟩) (starEach_not h'.1) (stars_none h'.2)
    have rp : RepL (zs X) F2 H2 (.ref a :: ps) (.ref a :: vs2) := .cons (.ref a) rp2
    have rv : Vals (.ref a :: vs2) (.ref a :: us) := .cons rfl r2
    have hl : (Value.ref a :: us).length = fn.ps.length := by rw [← rv.length, ← rp.length]; exact q2.1
    have n12 := n1.trans n2
    refine wpAny_call (codeAny_mono (run_call (Wx := Wx) (Q := Q) (us := .ref a :: us) FO hr tk I2 ?_ rv (by rw [← rp.length]; exact q2.1) n12.w rp ((fn.m _).mono (fun _ _ q => Pv.nxt n12 q) (fun _ _ q => Pw.nxt n12 q) q2.2)) fun r s' hq => ?_)
    · have := hbd s2 (.ref a :: us) I2.kIn (by simpa using hl)
      rw [List.append_nil] at this
      exact this
    · cases r with
      | error e => exact hq
      | ok fl => cases fl <;> first | exact hq | exact False.elim hq
  | _ => exact q1.elim
theorem s_mcall0 (MA : MethAt X k C m fn) (hr : Room k X.A) (tk : Takes X Wx) (he : SE X Wx o me) (hb : plainBase o = true) (hline : (apos.endLine == pos.line) = true) :
    SE X Wx (.Call (.Attribute o m apos) [] [] pos) (fun env => bnd (me env) fun x => bnd (isIns C m x) fun _ => bnd (guard ([x].length = fn.ps.length)) fun _ => fn.m [x]) := .mk fun pins s σ H F S env Q I er w q => by
  obtain ⟨Ca, g, fd, hm, c, hg, FO, hbd⟩ := MA.ex
  refine PySem.W.methodCall_KW (pl := plainOf o X.env) (he.go I er w q fun v s1 x px F1 S1 H1 I1 r1 n1 rp1 q1 => ?_) (mc_tree hb rfl (by decide) hline)
  cases px with
  | ref a =>
    obtain ⟨⟨fs, e1, l⟩, q2⟩ := q1
    cases rp1
    cases r1
    obtain ⟨Ca', dx, vs, hm', eh, _, rl⟩ := n1.w.cell a _ e1
    rw [show X.mg C = some (.ref Ca') from hm'] at hm
    cases hm
    refine getmeth_ok I1 eh c hg ((look_rep rl).2 l) ?_
    refine PySem.W.callWith_K0 (first := [.ref a]) I1.kIn hg.kp ?_
    have rp : RepL (zs X) F1 H1 [.ref a] [.ref a] := .cons (.ref a) .nil
    have rv : Vals [V.ref a] [Value.ref a] := .cons rfl .nil
    refine wpAny_call (codeAny_mono (run_call (Wx := Wx) (Q := Q) (us := [.ref a]) FO hr tk I1 ?_ rv q2.1 n1.w rp ((fn.m _).mono (fun _ _ q => Pv.nxt n1 q) (fun _ _ q => Pw.nxt n1 q) q2.2)) fun r s' hq => ?_)
    · have := hbd s1 [.ref a] I1.kIn (by simpa using q2.1)
      exact this
    · cases r with
      | error e => exact hq
      | ok fl => cases fl <;> first | exact hq | exact False.elim hq
  | _ => exact q1.elim
/-- C(..): a new instance, then __init__ -/
def makeP (C : Str) (fn : Fn) (sh : Shape) (xs ys : List PV) : M PV := ⟨fun S Q E => (xs.length = sh.n ∧ ys.length = sh.ks.length) ∧ ∀ p, S p = none → (pick sh.ix (.ref p :: (xs ++ ys))).length = fn.ps.length ∧ (fn.m (pick sh.ix (.ref p :: (xs ++ ys)))).run (put S p (.ins C [])) (fun v S' => v = .non ∧ Q (.ref p) S') E,
  fun h g q => ⟨q.1, fun p hp => ⟨(q.2 p hp).1, (fn.m _).mono (fun v S' z => ⟨z.1, h _ _ z.2⟩) g (q.2 p hp).2⟩⟩⟩
theorem run_makeP {Ca g : Addr} {fd : FuncData} {sh : Shape} (M : Mk X.K Ca g) (FO : FnOk X.prog X.w X.K X.mg X.base (L2.CX X.prog X.w) k g fd fn.ps (FnSp (zs X) fn.ps.length fn.m)) (hr : Room (k + 1) X.A) (tk : Takes X Wx) (hm : X.mg C = some (.ref Ca))
    (hb : ∀ (s : Shared) (us ws : List Value), X.K.In s.heap → us.length = sh.n + 1 → ws.length = sh.ks.length → BindsTo s fd ⟨us, sh.ks.zip ws⟩ (fn.ps.zip (pick sh.ix (us ++ ws))))
    {pins : List (Addr × Obj)} {σ : St} {H : Hp} {s : Shared} {F : Addr → Prop} {S : Stt} {Q : VK} {us ws : List Value} {vs zs' : List V} {ps pz : List PV} (I : Inv X pins σ H s) (w : W (zs X) F S H) (r : Vals vs us) (rz : Vals zs' ws) (rp : RepL (zs X) F H ps vs) (rq : RepL (zs X) F H pz zs')
    (q : (makeP C fn sh ps pz).run S (Pv (zs X) F S H Q) (Pw (zs X) F S H [] σ Wx)) : wpAny (model X.prog X.w) X.A (call (.ref Ca) us (sh.ks.zip ws)) (EP X pins σ Q) X.xe s := by
  obtain ⟨⟨l1, l2⟩, q⟩ := q
  have hx : H (s.heap.objs.size + 1) = none := I.hok.fresh (Nat.le_succ _)
  have hdx : H s.heap.objs.size = none := I.hok.fresh (Nat.le_refl _)
  have nd : s.heap.objs.size ≠ s.heap.objs.size + 1 := Nat.ne_of_lt (Nat.lt_succ_self _)
  obtain ⟨l3, q⟩ := q _ (w.fresh_S hx)
  have n1 := w.layIns hx hdx nd hm
  have I2 := Inv.made (C := Ca) I
  have rp' : RepL (zs X) F _ (.ref (s.heap.objs.size + 1) :: (ps ++ pz)) (.ref (s.heap.objs.size + 1) :: (vs ++ zs')) := .cons (.ref _) ((rp.append rq).nxt w n1)
  have r1 : Vals (V.ref (s.heap.objs.size + 1) :: (vs ++ zs')) (Value.ref (s.heap.objs.size + 1) :: (us ++ ws)) := .cons rfl (r.append rz)
  have hsp : FnSp (zs X) fn.ps.length fn.m (pick sh.ix (V.ref (s.heap.objs.size + 1) :: (vs ++ zs'))) _ (fun v H2 => v = .non ∧ Q (.ref (s.heap.objs.size + 1)) H2) (fun c d H' => Wx c d σ H') :=
    ⟨by rw [← (pick_rep rp').length]; exact l3, F, _, _, pick_rep rp', n1.w, (fn.m _).mono (fun v S' z F' H' vv nx rr => by
      obtain ⟨rfl, z⟩ := z
      cases rr
      exact ⟨rfl, z F' H' _ (n1.trans nx) (.ref _)⟩) (fun e S' z F' H' c d nx ex => z F' H' c d σ (n1.trans nx) ex Out.refl) q⟩
  have hbt := hb { s with heap := ((s.heap.push _).push _) } (Value.ref (s.heap.objs.size + 1) :: us) ws I2.kIn (by rw [List.length_cons, ← r.length, ← rp.length, l1]) (by rw [← rz.length, ← rq.length, l2])
  refine wpAny_call (make_map (f := g) I.kIn M.makes M.init (beq_iff_eq.mp M.fn) (codeAny_mono (FO.run _ X.stack _ _ ⟨Value.ref (s.heap.objs.size + 1) :: us, sh.ks.zip ws⟩ (pick sh.ix (Value.ref (s.heap.objs.size + 1) :: (us ++ ws))) _ _ _ (hr.make Ca us (sh.ks.zip ws))
    (I2.env0.make Ca us (sh.ks.zip ws)) hbt (pick_vals r1) hsp) fun r s' hq' => ?_))
  cases r with
  | error e => exact tk e s' (XE.of_call I2 (fun _ _ _ q => q) hq')
  | ok fl =>
    cases fl with
    | ret u =>
      obtain ⟨v, H', I3, rv, ev, q3⟩ := I2.after hq'
      subst ev
      exact ⟨rv, ⟨V.ref (s.heap.objs.size + 1), H', I3, rfl, q3⟩⟩
    | next => exact False.elim hq'
    | brk => exact False.elim hq'
    | cont => exact False.elim hq'
theorem s_make {sh : Shape} {p : Pos} {es : List Expr} {kws : List Keyword} {ms mk : En → M (List PV)} (MA : MakeAt X k C fn) (hr : Room (k + 1) X.A) (tk : Takes X Wx) (hg : Gl X C) (hsh : sh ∈ fn.shapes) (hd : (C == ("__debug__" : Str)) = false)
    (he : SA X Wx (e :: es) ms) (hst : noStars (e :: es) = true) (hkw : SK X Wx kws mk) (hks : kwNames kws = some sh.ks) :
    SE X Wx (.Call (.Name C p) (e :: es) kws pos) (fun env => bnd (ms env) fun xs => bnd (mk env) fun ys => makeP C fn sh xs ys) := .mk fun pins s σ H F S env Q I er w q => by
  obtain ⟨Ca, g, fd, hm, M, FO, hb⟩ := MA.ex
  obtain ⟨k1, k2, k3, k4⟩ := kw_all (pos := pos) (env := X.env) hks
  refine wpAny_Call_Name_kw (ld_glob I hg hm ?_ hd)
  have h' : notStar e = true ∧ noStars es = true := by simpa [noStars] using hst
  refine PySem.W.callWith_KW (h₀ := X.base) I.ok.mod.kin M.kp k1 (he.go pos I er w q fun us s1 vs ps F1 S1 H1 I1 r1 n1 rp1 q1 => ?_) (by rw [k3, stars_none hst]; rfl) (starEach_not h'.1)
  refine hkw.go pos I1 (er.mono (n1.toSub w)) n1.w ((mk env).mono (fun _ _ q => q) (fun _ _ q => Pw.nxt n1 q) q1) fun ws s2 zs' pz F2 S2 H2 I2 r2 n2 rp2 q2 => ⟨I2.kIn, ?_⟩
  rw [k2]
  have n12 := n1.trans n2
  exact run_makeP M FO hr tk hm (hb sh hsh) I2 n2.w r1 r2 (rp1.nxt n1.w n2) rp2 ((makeP C fn sh ps pz).mono (fun _ _ q => Pv.nxt n12 q) (fun _ _ q => Pw.nxt n12 q) q2)
theorem s_make0 {sh : Shape} {p : Pos} {kws : List Keyword} {mk : En → M (List PV)} (MA : MakeAt X k C fn) (hr : Room (k + 1) X.A) (tk : Takes X Wx) (hg : Gl X C) (hsh : sh ∈ fn.shapes) (hd : (C == ("__debug__" : Str)) = false) (hkw : SK X Wx kws mk) (hks : kwNames kws = some sh.ks) :
    SE X Wx (.Call (.Name C p) [] kws pos) (fun env => bnd (mk env) fun ys => makeP C fn sh [] ys) := .mk fun pins s σ H F S env Q I er w q => by
  obtain ⟨Ca, g, fd, hm, M, FO, hb⟩ := MA.ex
  obtain ⟨k1, k2, k3, k4⟩ := kw_all (pos := pos) (env := X.env) hks
  refine wpAny_Call_Name_kw (ld_glob I hg hm ?_ hd)
  refine PySem.W.callWith_KW0 (h₀ := X.base) I.ok.mod.kin M.kp k1 (hkw.go pos I er w q fun ws s2 zs' pz F2 S2 H2 I2 r2 n2 rp2 q2 => ⟨I2.kIn, ?_⟩) (by rw [k3]; rfl)
  rw [k2]
  exact run_makeP M FO hr tk hm (hb sh hsh) I2 n2.w .nil r2 .nil rp2 ((makeP C fn sh [] pz).mono (fun _ _ q => Pv.nxt n2 q) (fun _ _ q => Pw.nxt n2 q) q2)
/-- o.f = v, as a target -/
theorem g_fld {L : List Nat} {mo : En → M PV} (CA : ClsAt X C flds) (hf : f ∈ flds) (ho : SE X Wx o mo) : SG X Wx L (.Attribute o f pos) (fun v env => bnd (mo env) fun a => bnd (vPutF C f v a) fun _ => ret env) :=
  ⟨fun pins s σ H v u Q I r ⟨F, S, env, px, er, w, rp, q⟩ => by
    obtain ⟨Ca, hm, c, hn⟩ := CA.ex
    rw [PySem.assign_Attribute]
    have q' : (mo env).run S (fun a S1 => (vPutF C f px a).run S1 (fun _ S3 => Pe (zs X) F S H L σ Q env S3) (Pw (zs X) F S H L σ Wx)) (Pw (zs X) F S H [] σ Wx) := (mo env).mono (fun _ _ q => q) (fun _ _ q => Pw.sub nil_sub q) q
    refine wpAny_bind (wpAny_holding (ho.go I er w q' fun ov s1 x1 p1 F1 S1 H1 I1 r1 n1 rp1 q1 => ?_))
    cases p1 with
    | ref a =>
      obtain ⟨fs, e1, hl, q1⟩ := q1
      cases rp1
      cases r1
      obtain ⟨Ca', dx, vs, hm', eh, ed, rl⟩ := n1.w.cell a _ e1
      have hm2 := hm'
      rw [show X.mg C = some (.ref Ca') from hm'] at hm
      cases hm
      obtain ⟨vs', h1, h2⟩ := putP_rep (f := f) (rp.nxt w n1) rl
      have n2 := n1.w.setIns e1 hm2 eh ed h2
      refine wpAny_bind (wpAny_standAt (wpAny_bind (wpAny_holding (setattr_ok I1 eh c (hn f hf) (by rw [zip_len rl]; exact hl) r fun s3 I3 => ?_))))
      rw [h1] at I3
      exact wpAny_release ⟨σ, _, I3, q1 F1 _ σ (n1.trans n2) (er.mono ((n1.trans n2).toSub w)) Out.refl⟩
    | _ => exact q1.elim⟩
end
end Dp

namespace Dp
open PySem PySem.Spec L2
open PyProof.Rows hiding St

/-! ### dict(xs) -/
def pairsP : List PV → Option (List (Key × PV))
  | [] => some []
  | .tup [k, v] :: r => (keyP k).bind fun k' => (pairsP r).map ((k', v) :: ·)
  | _ => none
def vDictT : List PV → M PV
  | [x] => bnd (deref x) fun x => match x with
    | .tup xs => bnd (ofO (pairsP xs)) fun l => bnd (guard ((l.map (·.1)).Nodup)) fun _ => ret (.dct (l.map (·.1)) (l.map (·.2)))
    | .lst xs => bnd (ofO (pairsP xs)) fun l => bnd (guard ((l.map (·.1)).Nodup)) fun _ => ret (.dct (l.map (·.1)) (l.map (·.2)))
    | _ => stuck
  | _ => stuck
theorem mergeK_app : ∀ (more acc : List (Key × V)), (∀ k ∈ more.map (·.1), valV acc k = none) → (more.map (·.1)).Nodup → mergeK acc more = acc ++ more
  | [], acc, _, _ => by simp [mergeK]
  | kv :: more, acc, h, nd => by
    rw [List.map_cons, List.nodup_cons] at nd
    have e : mergeK acc (kv :: more) = mergeK (putK acc kv.1 kv.2) more := rfl
    rw [e, putK_new _ (h kv.1 (by simp))]
    rw [mergeK_app more _ (fun k hk => ?_) nd.2, List.append_assoc]
    · rfl
    · rw [valV_snoc _ _ _ _ (h kv.1 (by simp)), if_neg (fun z => nd.1 (by rw [← z]; exact hk))]
      exact h k (by simp only [List.map_cons, List.mem_cons]; exact .inr hk)
theorem mergeK_nil {more : List (Key × V)} (nd : (more.map (·.1)).Nodup) : mergeK [] more = more := by
  rw [mergeK_app more [] (fun _ _ => rfl) nd, List.nil_append]
section
variable {X : Cx} {Wx : WX} {Z : Zs} {F : Addr → Prop} {S : Stt} {H : Hp}
theorem pairs_rep : ∀ {xs : List PV} {l : List (Key × PV)} {vs : List V}, pairsP xs = some l → RepL Z F H xs vs →
    ∃ (ps : List Addr) (kvs : List (Key × V)), vs = ps.map V.ref ∧ Paired (fun p kv => SqT Z.K H p [kV kv.1, kv.2]) ps kvs ∧ kvs.map (·.1) = l.map (·.1) ∧ RepL Z F H (l.map (·.2)) (kvs.map (·.2))
  | [], l, _, h, .nil => by
    cases h
    exact ⟨[], [], rfl, .nil, rfl, .nil⟩
  | x :: xs, l, _, h, .cons r t => by
    unfold pairsP at h
    split at h
    · rename_i h1; cases h1
    · rename_i k v r' h1
      cases h1
      rw [Option.bind_eq_some_iff] at h
      obtain ⟨k', hk, h⟩ := h
      rw [Option.map_eq_some_iff] at h
      obtain ⟨l', hl, rfl⟩ := h
      obtain ⟨ps, kvs, rfl, hp, e1, e2⟩ := pairs_rep hl t
      cases r with
      | @tup a _ us ta rl =>
        cases rl with
        | cons rk rl =>
          cases rl with
          | @cons _ _ v' _ rv rl =>
            cases rl
            have := keyP_rep hk rk
            subst this
            exact ⟨a :: ps, (k', v') :: kvs, rfl, .cons ta.sq hp, by simp [e1], .cons rv e2⟩
    · cases h
theorem kvs_zip {α β : Type} : ∀ (l : List (α × β)), (l.map (·.1)).zip (l.map (·.2)) = l
  | [] => rfl
  | p :: l => by simp [kvs_zip l]
theorem o_dict (hc : X.calm = true) : OpN X Wx (fun us => call (.type "dict") us) vDictT := by
  have both : CallR X (.type "dict") _ := CallR.or (call_dictT hc) (call_dictP hc)
  refine .of both fun xs H Q F S ps E w r q => ?_
  match ps, xs, r with
  | [], _, _ => exact q.elim
  | _ :: _ :: _, _, _ => exact q.elim
  | [px], [x], .cons r1 .nil =>
    obtain ⟨py, rd, q⟩ := deref_ok w r1 q
    have fin : ∀ {l : List (Key × PV)} {kvs : List (Key × V)}, (l.map (·.1)).Nodup → kvs.map (·.1) = l.map (·.1) → RepL (zs X) F H (l.map (·.2)) (kvs.map (·.2)) → Pv (zs X) F S H Q (.dct (l.map (·.1)) (l.map (·.2))) S → ∀ p, H p = none → Q (.ref p) (upd H p (.dK (mergeK [] kvs))) := by
      intro l kvs nd e1 e2 q p hp
      have n := w.lay (o := .dK (mergeK [] kvs)) hp True fun _ => rfl
      refine q _ _ _ n ?_
      refine .dct (vs := kvs.map (·.2)) (.inr ⟨trivial, rfl⟩) ?_ (by simp) (e2.nxt w n)
      rw [upd_same, mergeK_nil (by rw [e1]; exact nd), ← e1, kvs_zip]
    cases py with
    | tup xs =>
      cases rd.rep (fun xs e => nomatch e) with
      | @tup a _ vs t rl =>
        obtain ⟨l, hl, q⟩ := ofO_some q
        obtain ⟨nd, q⟩ := q
        obtain ⟨ps, kvs, e, hp, e1, e2⟩ := pairs_rep hl rl
        subst e
        refine .inl ⟨a, ps, kvs, rfl, ?_, hp, fin nd e1 e2 q⟩
        rcases t with ⟨_, o, h, hd⟩ | ⟨o, its, n, h1, h2, h3, h4, h5, h6⟩
        · exact .inl ⟨o, h, hd⟩
        · exact .inr ⟨o, its, n, h1, h2, h3, h4, h5, h6⟩
    | lst xs =>
      obtain ⟨a, vs, rfl, h, rl⟩ := rd.lst
      obtain ⟨l, hl, q⟩ := ofO_some q
      obtain ⟨nd, q⟩ := q
      obtain ⟨ps, kvs, e, hp, e1, e2⟩ := pairs_rep hl rl
      subst e
      exact .inr ⟨a, ps, kvs, rfl, .of h, hp, fin nd e1 e2 q⟩
    | _ => exact q.elim

/-! ### sorted(ns) -/
def vSortT : List PV → M PV
  | [x] => bnd (deref x) fun x => match x with
    | .lst xs => bnd (ofO (intsOf xs)) fun ns => ⟨fun S Q _ => ∀ ms : List Int, ms.Perm ns → ms.Pairwise (· ≤ ·) → Q (.lst (ms.map .int)) S, fun h _ q => fun ms a b => h _ _ (q ms a b)⟩
    | _ => stuck
  | _ => stuck
theorem rep_ints {ns : List Int} : RepL Z F H (ns.map PV.int) (ns.map V.int) := by
  induction ns with
  | nil => exact .nil
  | cons n ns ih => exact .cons (.int n) ih
theorem o_sorted : OpN X Wx (fun us => call (.builtin "sorted") us) vSortT := .of cr_sortedI fun xs H Q F S ps E w r q => by
  match ps, xs, r with
  | [], _, _ => exact q.elim
  | _ :: _ :: _, _, _ => exact q.elim
  | [px], [x], .cons r1 .nil =>
    obtain ⟨py, rd, q⟩ := deref_ok w r1 q
    cases py with
    | lst ys =>
      obtain ⟨a, vs, rfl, h, rl⟩ := rd.lst
      obtain ⟨ns, e, q⟩ := ofO_some q
      have := rl.ints e
      subst this
      refine ⟨a, ns, rfl, .of h, fun ms p h1 h2 hp => ?_⟩
      have n := w.lay (o := .lst (ms.map V.int)) hp True fun _ => rfl
      exact q ms h1 h2 _ _ _ n (.lst ⟨.inr ⟨trivial, rfl⟩, upd_same⟩ rep_ints)
    | _ => exact q.elim

/-! ### texts -/
def strsOf : List PV → Option (List Str)
  | [] => some []
  | .str i :: xs => (strsOf xs).map (i :: ·)
  | _ => none
theorem RepL.strs : ∀ {xs : List PV} {ns : List Str} {vs : List V}, strsOf xs = some ns → RepL Z F H xs vs → vs = ns.map V.str
  | [], ns, _, h, .nil => by simp [strsOf] at h; subst h; rfl
  | x :: xs, ns, _, h, .cons r t => by
    cases x with
    | str i =>
      unfold strsOf at h
      cases e : strsOf xs with
      | none => rw [e] at h; cases h
      | some ms =>
        rw [e] at h
        cases h
        cases r
        rw [RepL.strs e t]; rfl
    | _ => cases h
theorem rep_strs {ns : List Str} : RepL Z F H (ns.map PV.str) (ns.map V.str) := by
  induction ns with
  | nil => exact .nil
  | cons n ns ih => exact .cons (.str n) ih
def vSplit : PV → List PV → M PV
  | .str a, [.str b] => bnd (guard ((b.length == 0) = false ∧ a.length + 2 ≤ sizeLine)) fun _ => ret (.lst ((Txt.split a b).map .str))
  | _, _ => stuck
theorem m_split : OpM X Wx "str.split" vSplit := .of mt_split fun x xs H Q F S px ps E w rp rps q => by
  unfold vSplit at q
  split at q
  · rename_i a b
    obtain ⟨⟨h1, h2⟩, q⟩ := q
    cases rp
    cases rps with
    | cons r1 t =>
      cases t; cases r1
      refine ⟨a, b, rfl, rfl, h1, h2, fun p hp => ?_⟩
      have n := w.lay (o := .lst ((Txt.split a b).map V.str)) hp True fun _ => rfl
      exact q _ _ _ n (.lst ⟨.inr ⟨trivial, rfl⟩, upd_same⟩ rep_strs)
  · exact q.elim
def vJoin : PV → List PV → M PV
  | .str a, [x] => bnd (deref x) fun x => match x with
    | .lst xs => bnd (ofO (strsOf xs)) fun ys => bnd (guard ((ys.map (·.length)).sum + ys.length * a.length ≤ 16777216)) fun _ => ret (.str (Txt.join a ys))
    | .tup xs => bnd (ofO (strsOf xs)) fun ys => bnd (guard ((ys.map (·.length)).sum + ys.length * a.length ≤ 16777216)) fun _ => ret (.str (Txt.join a ys))
    | _ => stuck
  | _, _ => stuck
theorem m_join : OpM X Wx "str.join" vJoin := .of mt_join fun x xs H Q F S px ps E w rp rps q => by
  unfold vJoin at q
  split at q
  · rename_i a y
    cases rp
    cases rps with
    | cons r1 t =>
      cases t
      obtain ⟨py, rd, q⟩ := deref_ok w r1 q
      cases py with
      | lst ys =>
        obtain ⟨p, vs, rfl, h, rl⟩ := rd.lst
        obtain ⟨ss, e, q⟩ := ofO_some q
        obtain ⟨hz, q⟩ := q
        have := rl.strs e
        subst this
        exact ⟨a, p, ss, rfl, rfl, .inl (.of h), hz, q _ _ _ (Nxt.refl w) (.str _)⟩
      | tup ys =>
        cases rd.rep (fun xs e => nomatch e) with
        | @tup p _ vs t rl =>
          obtain ⟨ss, e, q⟩ := ofO_some q
          obtain ⟨hz, q⟩ := q
          have := rl.strs e
          subst this
          exact ⟨a, p, ss, rfl, rfl, .inr t.sq, hz, q _ _ _ (Nxt.refl w) (.str _)⟩
      | _ => exact q.elim
  · exact q.elim
/-- t.index(z), texts -/
def vIndexT : PV → List PV → M PV
  | .tup xs, [.str z] => bnd (ofO (strsOf xs)) fun ys => bnd (guard (z ∈ ys)) fun _ => ret (.int (ys.idxOf z))
  | _, _ => stuck
theorem idxOf_first {α : Type} [BEq α] [LawfulBEq α] {z : α} {ys : List α} (h : z ∈ ys) : ys[ys.idxOf z]? = some z ∧ ∀ m, m < ys.idxOf z → ys[m]? ≠ some z := by
  have hl := List.idxOf_lt_length_of_mem h
  refine ⟨by rw [List.getElem?_eq_getElem hl]; simp, fun m hm e => ?_⟩
  have hm' : m < ys.length := Nat.lt_trans hm hl
  have := List.not_of_lt_findIdx (p := (· == z)) (xs := ys) (i := m) hm
  rw [List.getElem?_eq_getElem hm'] at e
  rw [Option.some.inj e] at this
  simp at this
theorem m_indexT : OpM X Wx "tuple.index" vIndexT := .of mt_tup_index fun x xs H Q F S px ps E w rp rps q => by
  unfold vIndexT at q
  split at q
  · rename_i ts z
    cases rp with
    | @tup p _ vs t rl =>
      cases rps with
      | cons r1 t1 =>
        cases t1; cases r1
        obtain ⟨ss, e, q⟩ := ofO_some q
        obtain ⟨hz, q⟩ := q
        have := rl.strs e
        subst this
        obtain ⟨i1, i2⟩ := idxOf_first hz
        exact ⟨p, ss, z, _, rfl, rfl, t.sq, i1, i2, q _ _ _ (Nxt.refl w) (.int _)⟩
  · exact q.elim
/-- d.get(k, x), d.get(k) -/
def vGet : PV → List PV → M PV
  | .dct ks xs, [k, d] => bnd (ofO (keyP k)) fun k => ret ((dlook ks xs k).getD d)
  | .dct ks xs, [k] => bnd (ofO (keyP k)) fun k => ret ((dlook ks xs k).getD .non)
  | _, _ => stuck
theorem m_get (hu : X.A.units + 1 < cLine) : OpM X Wx "dict.get" vGet := fun pins s σ H x xs v us Q F S px ps I rx rxs w rp rps q => by
  unfold vGet at q
  split at q
  · rename_i ks ys k d
    cases rp with
    | @dct a _ _ vs t h hl rl =>
      rcases rps with _ | ⟨rk, rps⟩
      rcases rps with _ | ⟨rd, rps⟩
      cases rps
      obtain ⟨k', hk, q⟩ := ofO_some q
      have := keyP_rep hk rk
      subst this
      obtain rfl : v = Value.ref a := rx
      obtain ⟨u, u2, rfl, ru, ru2⟩ := vals2 rxs
      have q : Pv (zs X) F S H Q ((dlook ks ys k').getD d) S := q
      refine d_get2 hu I (DGet.k (k := k') h) ru ru2 fun w' s' I' r' => ⟨_, H, I', r', ?_⟩
      cases e : dlook ks ys k' with
      | none => rw [dlook_none rl hl e]; rw [e] at q; exact q F H _ (Nxt.refl w) rd
      | some z =>
        obtain ⟨y, e', ry⟩ := dlook_rep rl e
        rw [e']; rw [e] at q; exact q F H _ (Nxt.refl w) ry
  · rename_i ks ys k
    cases rp with
    | @dct a _ _ vs t h hl rl =>
      rcases rps with _ | ⟨rk, rps⟩
      cases rps
      obtain ⟨k', hk, q⟩ := ofO_some q
      have := keyP_rep hk rk
      subst this
      obtain rfl : v = Value.ref a := rx
      obtain ⟨u, rfl, ru⟩ := vals1 rxs
      have q : Pv (zs X) F S H Q ((dlook ks ys k').getD .non) S := q
      refine d_get1 hu I (DGet.k (k := k') h) ru fun w' s' I' r' => ⟨_, H, I', r', ?_⟩
      cases e : dlook ks ys k' with
      | none => rw [dlook_none rl hl e]; rw [e] at q; exact q F H _ (Nxt.refl w) .non
      | some z =>
        obtain ⟨y, e', ry⟩ := dlook_rep rl e
        rw [e']; rw [e] at q; exact q F H _ (Nxt.refl w) ry
  · exact q.elim

/-! ### a dict displayed -/
theorem lay_hidD (w : W Z F S H) {D : Addr} (h : H D = none) : Nxt Z F S H F S (upd H D (.dK [])) := by
  have n := w.lay (o := .dK []) h False (fun z => z.elim)
  have e : (fun a => F a ∨ (False ∧ a = D)) = F := by funext a; simp
  rw [e] at n
  exact n
/-- the dict that was hidden becomes a value -/
theorem adoptD {F0 : Addr → Prop} {S0 : Stt} {H0 : Hp} {D : Addr} {kvs : List (Key × V)} (n0 : Nxt Z F0 S0 H0 F0 S0 (upd H0 D (.dK []))) (h0 : H0 D = none) (hS0 : S0 D = none) (hF0 : ¬ F0 D) (n : Nxt Z F0 S0 (upd H0 D (.dK [])) F S H) :
    H D = some (.dK []) ∧ Nxt Z F0 S0 H0 (fun a => F a ∨ a = D) S (upd H D (.dK kvs)) ∧ Sub F H (fun a => F a ∨ a = D) (upd H D (.dK kvs)) := by
  have hS : S D = none := n.own D _ upd_same hS0 fun ps e => nomatch e
  have hF : ¬ F D := n.fre D _ upd_same rfl hS0 hF0
  have hD : H D = some (.dK []) := n.keep D _ upd_same hS0 fun ps e => nomatch e
  have sb : Sub F H (fun a => F a ∨ a = D) (upd H D (.dK kvs)) := ⟨fun a q => .inl q, fun a u q e _ => by rw [upd_ne (fun z => hF (by rw [← z]; exact q))]; exact e⟩
  have n1 := n0.trans n
  refine ⟨hD, ⟨fun a q => .inl (n1.sub a q), fun b o e s nt => ?_, n1.own, fun b o e hh s f q => ?_, ⟨fun a q => ?_, fun a q => ?_, fun a c e => (n1.w.cell a c e).mono sb (upd_ne fun z => ?_) fun dx q => ?_, tabs_upd n1.w.tabs (.inr (.inr (.inr ⟨_, hD⟩)))⟩⟩, sb⟩
  · rw [upd_ne (ne_of_none e h0)]; exact n1.keep b o e s nt
  · rcases q with q | q
    · exact n1.fre b o e hh s f q
    · rw [q, h0] at e; cases e
  · rcases q with q | q
    · exact n1.w.dis a q
    · rw [q]; exact hS
  · rcases q with q | q
    · obtain ⟨u, e, t⟩ := n1.w.ff a q
      exact ⟨u, by rw [upd_ne (fun z => hF (by rw [← z]; exact q))]; exact e, t⟩
    · exact ⟨_, by rw [q, upd_same], rfl⟩
  · rw [z, hS] at e; cases e
  · rw [upd_ne fun z => by rw [z, hD] at q; cases q]; exact q
def SD (X : Cx) (Wx : WX) (keys values : List Expr) (m : En → M (List (PV × PV))) : Prop :=
  ∃ trs, (∀ pos, PPs X pos (keys.map some) values trs) ∧ ∀ {σ H F S env} {R : List (V × V) → Hp → Prop}, EnvR (zs X) F H env σ → W (zs X) F S H →
    (m env).run S (fun ps S' => ∀ F' H' vs, Nxt (zs X) F S H F' S' H' → RepL (zs X) F' H' (ps.map (·.1)) (vs.map (·.1)) → RepL (zs X) F' H' (ps.map (·.2)) (vs.map (·.2)) → R vs H') (Pw (zs X) F S H [] σ Wx) → tPairs trs σ H R
theorem sd_nil : SD X Wx [] [] (fun _ => ret []) := ⟨[], fun _ => pps_nil, fun er w q => q _ _ [] (Nxt.refl w) .nil .nil⟩
theorem sd_cons {k v : Expr} {ks vs : List Expr} {mk mv : En → M PV} {mr : En → M (List (PV × PV))} (hk : SE X Wx k mk) (hv : SE X Wx v mv) (hr : SD X Wx ks vs mr) :
    SD X Wx (k :: ks) (v :: vs) (fun env => bnd (mk env) fun x => bnd (mv env) fun y => bnd (mr env) fun r => ret ((x, y) :: r)) := by
  obtain ⟨trs, h1, h2⟩ := hr
  refine ⟨_, fun pos => pps_cons hk hv (h1 pos), fun {σ H F S env R} er w q => ?_⟩
  refine ⟨F, S, env, er, w, (mk env).mono (fun px S1 q F1 H1 x n1 r1 => ?_) (fun _ _ q => q) q⟩
  refine ⟨F1, S1, env, er.mono (n1.toSub w), n1.w, (mv env).mono (fun py S2 q F2 H2 y n2 r2 => ?_) (fun _ _ q => Pw.nxt n1 q) q⟩
  have n12 := n1.trans n2
  refine h2 (er.mono (n12.toSub w)) n12.w ((mr env).mono (fun ps S3 q F3 H3 vs n3 ra rb => ?_) (fun _ _ q => Pw.nxt n12 q) q)
  exact q F3 H3 ((x, y) :: vs) (n12.trans n3) (.cons (r1.nxt n1.w (n2.trans n3)) ra) (.cons (r2.nxt n2.w n3) rb)
def keysP : List (PV × PV) → Option (List Key)
  | [] => some []
  | p :: r => (keyP p.1).bind fun k => (keysP r).map (k :: ·)
/-- a display of pairs -/
def mkDct (ps : List (PV × PV)) : M PV := bnd (ofO (keysP ps)) fun ks => bnd (guard (ks.Nodup ∧ ks.length ≤ 15)) fun _ => ret (.dct ks (ps.map (·.2)))
theorem keysP_rep : ∀ {ps : List (PV × PV)} {ks : List Key} {vs : List (V × V)}, keysP ps = some ks → RepL Z F H (ps.map (·.1)) (vs.map (·.1)) → vs.map (·.1) = ks.map kV ∧ ks.length = ps.length
  | [], ks, [], h, _ => by cases h; exact ⟨rfl, rfl⟩
  | [], _, _ :: _, _, r => by cases r
  | _ :: _, _, [], _, r => by cases r
  | p :: ps, ks, v :: vs, h, .cons r t => by
    unfold keysP at h
    rw [Option.bind_eq_some_iff] at h
    obtain ⟨k, hk, h⟩ := h
    rw [Option.map_eq_some_iff] at h
    obtain ⟨ks', hk', rfl⟩ := h
    obtain ⟨e1, e2⟩ := keysP_rep hk' t
    have ek : v.1 = kV k := keyP_rep hk r
    exact ⟨by rw [List.map_cons, List.map_cons, e1, ek], by simp [e2]⟩
theorem zip_kV : ∀ {ks : List Key} {vs : List (V × V)}, vs.map (·.1) = ks.map kV → vs = (ks.zip (vs.map (·.2))).map fun kv => (kV kv.1, kv.2)
  | [], [], _ => rfl
  | k :: ks, v :: vs, h => by
    simp only [List.map_cons, List.cons.injEq] at h
    simp only [List.map_cons, List.zip_cons_cons, List.cons.injEq]
    exact ⟨by rw [← h.1], zip_kV h.2⟩
  | [], _ :: _, h => by simp at h
  | _ :: _, [], h => by simp at h
theorem s_dct {keys values : List Expr} {m : En → M (List (PV × PV))} {pos : Pos} (h : SD X Wx keys values m) (hl : keys.length = values.length) (h0 : keys ≠ []) (h15 : keys.length ≤ 15) :
    SE X Wx (.Dict (keys.map some) values pos) (fun env => bnd (m env) mkDct) := by
  obtain ⟨trs, h1, h2⟩ := h
  refine .mk fun pins s σ H F S env Q I er w q => (pe_disp (h1 pos) (by simp) (by simpa using hl) (by simpa using h0) (by simpa using h15)).run pins s σ H Q I fun D hD => ?_
  have n0 := lay_hidD w hD
  have hS0 := w.fresh_S hD
  have hF0 := w.fresh_F hD
  refine h2 (er.mono (n0.toSub w)) n0.w ((m env).mono (fun ps S' q F' H' vs n ra rb => ?_) (fun _ _ q => Pw.nxt n0 q) q)
  obtain ⟨ks, hk, q⟩ := ofO_some q
  obtain ⟨⟨nd, h15'⟩, q⟩ := q
  obtain ⟨e1, e2⟩ := keysP_rep hk ra
  have hlen : (vs.map (·.2)).length = ks.length := by rw [← rb.length, List.length_map, e2]
  have hz : ((ks.zip (vs.map (·.2))).map (·.1)) = ks := by rw [List.map_fst_zip]; omega
  obtain ⟨hD', n3, sb⟩ := adoptD (kvs := ks.zip (vs.map (·.2))) n0 hD hS0 hF0 n
  refine ⟨hD', ks.zip (vs.map (·.2)), zip_kV e1, by rw [List.length_zip]; omega, ?_⟩
  rw [mergeK_nil (by rw [hz]; exact nd)]
  exact q _ _ _ n3 (.dct (.inr rfl) upd_same (by rw [e2, List.length_map]) (rb.mono sb))
end
end Dp

namespace Dp
open PySem PySem.Spec L2
open PyProof.Rows hiding St

/-! ### a, b, *rest = t -/
theorem walksS_shift {prog : Program} {w : World} {A : Around} {I : Addr} {fp wr : List Addr} {G : Array GenState → Array GenState → Prop} {n : Nat} {P : Nat → Value → Prop} {St : Nat → Shared → Prop}
    (W : WalksS prog w A I fp wr G n P St) (i : Nat) (hi : i ≤ n) : WalksS prog w A I fp wr G (n - i) (fun j v => P (i + j) v) (fun j s => St (i + j) s) where
  sub := W.sub
  grefl := W.grefl
  gtrans := W.gtrans
  frame := fun j s h' tk st => W.frame (i + j) s h' tk st
  item := fun j s Q E hj st hQ => W.item (i + j) s Q E (by omega) st fun v s' hp hs hm => hQ v s' hp (by rw [show i + (j + 1) = i + j + 1 by omega]; exact hs) hm
  done := fun s Q E st hQ => W.done s Q E (by rw [show i + (n - i) = n by omega] at st; exact st) hQ
  self := fun j s Q E st hQ => W.self (i + j) s Q E st hQ
theorem unpackItems_star {prog : Program} {w : World} {A : Around} {E : Value → Shared → Prop} {s : Shared} {t : Addr} {items : Array Value} {i : Nat} {Q : List Value → Shared → Prop} (hh : A.handled = none) (ht : s.heap.IsTuple t items) (hi : i ≤ items.size) (hz : items.size ≤ sizeLine)
    (hQ : ∀ (h' : Heap) (tk : Tok), (∀ b o, s.heap.get? b = some o → h'.get? b = some o) →
      Q (items.toList.take i ++ [.ref h'.objs.size]) { s with heap := h'.push { cls := .type "list", data := .seq (items.toList.drop i).toArray }, toks := tk }) : wpAny (model prog w) A (unpackItems (.ref t) (i + 1) (some i)) Q E s := by
  have hlt : t ≠ s.heap.objs.size := by obtain ⟨o, ho, _⟩ := ht; exact Nat.ne_of_lt (Heap.lt_size ho)
  have htl : t < s.heap.objs.size := by obtain ⟨o, ho, _⟩ := ht; exact Heap.lt_size ho
  unfold unpackItems
  refine wpAny_bind ?_
  unfold notIterableAtAll
  refine wpAny_bind (wpAny_specialOf ht.typeIs F.slot_tuple_iter.lookup ?_)
  refine wpAny_pure ?_
  simp only [Bool.false_eq_true, if_false]
  refine wpAny_bind (wpAny_holding (wpAny_pyIter_tuple ht ?_))
  refine wpAny_bind (wpAny_holding (wpAny_draw_tuple hlt i 0 _ _ ⟨_, Heap.get?_push_size _ rfl, rfl, rfl⟩ (ht.push _) (by omega) fun h₁ hit₁ hs₁ => ?_))
  rw [List.drop_zero]
  have ht₁ : h₁.IsTuple t items := (ht.push _).extBut hs₁.extBut hlt
  rw [Nat.zero_add] at hit₁
  rw [if_neg (by simp; omega)]
  have W := walksS_shift (Walks.tuple (prog := prog) (w := w) (A := A.in1) hh s.heap.objs.size t hlt items).toS i hi
  have hsz : h₁.objs.size = s.heap.objs.size + 1 := by rw [hs₁.1, Heap.size_push]
  refine wpAny_bind (wpAny_holding (wpAny_collect_iter (.inr (.inr (.inr rfl))) W (fun _ _ st => let ⟨⟨o, ho, hc, _⟩, _⟩ := st; ⟨o, ho, hc⟩) (show _ ∧ _ from ⟨hit₁, ht₁⟩) (fun b hb => ?_) (by simp) (fun s' acc hm ha => ?_) (by omega)))
  · show b < h₁.objs.size
    rw [hsz]
    rcases List.mem_cons.mp hb with rfl | hb
    · exact Nat.lt_succ_self _
    · rw [List.mem_singleton.mp hb]; exact Nat.lt_succ_of_lt htl
  have hacc : acc.toList = items.toList.drop i := by
    apply List.ext_getElem?
    intro j
    rw [List.getElem?_drop]
    by_cases hj : j < acc.size
    · have h1 := ha.2 j acc[j] (by simp [hj])
      have h1 : items[i + j]? = some acc[j] := h1
      simp [hj, h1]
    · have := ha.1
      rw [List.getElem?_eq_none (by simpa using hj), List.getElem?_eq_none (by simp; omega)]
  have hkeep : ∀ b o, s.heap.get? b = some o → s'.heap.get? b = some o := fun b o e => by
    have hb : b ≠ s.heap.objs.size := Nat.ne_of_lt (Heap.lt_size e)
    exact hm.heap b o (by simp [hb]) (hs₁.extBut b o hb (Heap.get?_push_of_some _ e))
  have h2 : i + 1 - 1 - i = 0 := by omega
  simp only [h2, Nat.not_lt_zero, if_false, Nat.sub_zero, pure_bind]
  refine wpAny_bind (wpAny_newList ?_ ?_)
  · refine wpAny_pure ?_
    rw [hacc, List.take_of_length_le (Nat.le_refl _), List.drop_of_length_le (Nat.le_refl _), List.append_nil]
    have e := hQ s'.heap s'.toks hkeep
    obtain ⟨hp, g, d, tk, os⟩ := s'
    obtain rfl : g = s.gens := hm.gens
    obtain rfl : d = s.drawn := hm.drawn
    obtain rfl : os = s.os := hm.os
    exact e
  · rw [hacc]; simp; omega

def gTupS (K : PySem.W.Frag) (i : Nat) (t : TGs) : TG := fun v σ H Q => ∃ a xs, v = .ref a ∧ SqT K H a xs ∧ i ≤ xs.length ∧ ∀ p, H p = none → t (xs.take i ++ [.ref p]) σ (upd H p (.lst (xs.drop i))) Q
theorem pg_tupS {X : Cx} {es es' : List Expr} {k i : Nat} {pos : Pos} {t : TGs} (hc : X.calm = true) (h : PGs X es' t) (he : (assignEach es X.env).map (·.2) = (assignEach es' X.env).map (·.2)) (hn : (assignEach es X.env).length = i + 1) (hst : (assignEach es X.env).findIdx? (·.1) = some i) : PG X (.Tuple es k pos) (gTupS X.K i t) := by
  refine ⟨fun pins s σ H v u Q I r hw => ?_⟩
  obtain ⟨a, xs, e1, hq, hl, hw⟩ := hw
  subst e1
  cases r
  obtain ⟨its, rv, ht, hz⟩ := I.tuple hq
  have hlen := rv.length
  rw [PyProof.Rows.assign_Tuple]
  refine wpAny_bind (wpAny_standAt ?_)
  unfold unpack
  rw [hn, hst]
  refine wpAny_bind (wpAny_holding (unpackItems_star (I.ok.hd hc) ht (by simp; omega) (by simp; omega) fun h' tk hk => ?_))
  have I1 : Inv X pins σ H { s with heap := h', toks := tk } := I.kept hk
  have I2 : Inv X pins σ (upd H h'.objs.size (.lst (xs.drop i))) { s with heap := h'.push { cls := .type "list", data := .seq (its.drop i).toArray }, toks := tk } :=
    I1.laid (t' := tk) (o := .lst (xs.drop i)) (fun b ob q => Heap.get?_push_of_some _ q) (Nat.le_refl _) ⟨by simp; omega, its.drop i, 0, rv.drop i, Heap.get?_push_size _ rfl⟩
  rw [he]
  exact h.run pins _ σ _ (xs.take i ++ [.ref h'.objs.size]) _ Q I2 (by simpa using (rv.take i).append (.cons (show RelV (V.ref h'.objs.size) (Value.ref h'.objs.size) from rfl) .nil)) (hw _ (I1.hok.fresh (Nat.le_refl _)))
/-- the rest as a list -/
def setTupS (m : List PV → En → M En) (i : Nat) : PV → En → M En
  | .tup xs, env => bnd (guard (i ≤ xs.length)) fun _ => m (xs.take i ++ [.lst (xs.drop i)]) env
  | _, _ => stuck
theorem g_tupS {X : Cx} {Wx : WX} {L : List Nat} {es es' : List Expr} {k i : Nat} {pos : Pos} {m : List PV → En → M En} (hc : X.calm = true) (h : SGs X Wx L es' m) (he : (assignEach es X.env).map (·.2) = (assignEach es' X.env).map (·.2)) (hn : (assignEach es X.env).length = i + 1) (hst : (assignEach es X.env).findIdx? (·.1) = some i) :
    SG X Wx L (.Tuple es k pos) (setTupS m i) :=
  ⟨fun pins s σ H v u Q I r ⟨F, S, env, x, er, w, rp, q⟩ => by
    cases x with
    | tup xs =>
      obtain ⟨hl, q⟩ := q
      cases rp with
      | @tup a _ vs t rl =>
        refine (pg_tupS (pos := pos) (k := k) hc h he hn hst).run pins s σ H _ u Q I r ⟨a, vs, rfl, t.sq, by rw [← rl.length]; exact hl, fun p hp => ?_⟩
        have n := w.lay (o := .lst (vs.drop i)) hp True fun _ => rfl
        refine ⟨_, S, env, _, er.mono (n.toSub w), n.w, ((rl.take i).nxt w n).append (.cons (.lst ⟨.inr ⟨trivial, rfl⟩, upd_same⟩ ((rl.drop i).nxt w n)) .nil), (m _ env).mono (fun _ _ q => Pe.nxt n q) (fun _ _ q => Pw.nxt n q) q⟩
    | _ => exact q.elim⟩
end Dp

namespace Dp
open PySem PySem.Spec L2
open PyProof.Rows hiding St

/-! ### a lambda with parameters -/
section
variable {CX : CXT} {P : Program} {w : World} {K : PySem.W.Frag} {mg : Str → Option Value} {base : Heap} {N ps fr : List Str} {f c' : Addr} {k : Nat}
/-- what stands for the lambda among the nested functions (its body is not looked at) -/
abbrev lamF (q : Str) (params : Arguments) (scope : Scope) (cl : List (Str × Addr)) (c' : Addr) : NdefX.NF := ⟨"<lambda>", q, params, [], scope, cl, c'⟩
/-- the promise of the lambda at f -/
structure LOk (P : Program) (w : World) (K : PySem.W.Frag) (mg : Str → Option Value) (base : Heap) (CX : CXT) (k : Nat) (f : Addr) (q : Str) (params : Arguments) (body : Expr) (scope : Scope) (cl : List (Str × Addr)) (c' : Addr) (ps fr : List Str) (sp : List (Option V) → Sp) : Prop where
  run : ∀ (A : Around) (outer : List Env) (s : Shared) (H : Hp) (us : List Value) (vs : List V) (ws : List (Option V)) (pm ctv : Value) (Q : VK) (E : XK), Room k A → Env0 P w K mg base A outer s H → s.heap.get? f = some (PySem.W.kla_obj "<lambda>" q params body scope cl pm c' ctv) → H c' = some (LamX.CodeO c' q) →
    NdefX.CellsAt cl fr ws s.heap H → Vals vs us → sp ws vs H Q E → codeAny (model P w) A (.call (.ref f) ⟨us, []⟩) (CR CX outer P w H s Q E) s
theorem lok_of {q : Str} {params : Arguments} {body : Expr} {scope : Scope} {cl : List (Str × Addr)} {sp : List (Option V) → Sp} (S : NdefX.NScope N ps fr scope)
    (hb : ∀ (pm cv ctv : Value) (us : List Value), us.length = ps.length → bindArgs (PySem.W.kla_fn "<lambda>" q params body scope cl pm cv ctv) ⟨us, []⟩ = pure (ps.zip us)) (len : ∀ ws vs H Q E, sp ws vs H Q E → vs.length = ps.length)
    (hbody : ∀ (A : Around) (outer : List Env) (s : Shared) (H : Hp) (vs : List V) (ws : List (Option V)) (Q : VK) (E : XK), Room k (A.deeper (NdefX.envF (lamF q params scope cl c') f s.heap.objs.size)) → ws.length = fr.length → sp ws vs H Q E →
      ∃ t, PE (NdefX.ncx CX P w K mg base N (lamF q params scope cl c') f A outer s H E) body t ∧ t (NdefX.startF N vs ws) H Q) :
    LOk P w K mg base CX (k + 1) f q params body scope cl c' ps fr sp := by
  refine ⟨fun A outer s H us vs ws pm ctv Q E hr e0 ho hc C r hsp => ?_⟩
  have hl := len _ _ _ _ _ hsp
  have lim : s.heap.NoLimit := e0.mod.nolimit.keeps fun b o e => (e0.bs b o e).1
  refine PySem.W.kla_callFunE hr.depth ho rfl S.co S.gen rfl (NdefX.codeO_at e0.hok hc) ?_
  rw [hb pm (.ref c') ctv us (by rw [← r.length]; exact hl)]
  refine wpAny_pure (wpAny_newFunctionEnv S.nocell (fun ⟨n, _⟩ hy => S.par n (List.of_mem_zip hy).1) (fun h₁ hns hsb => ⟨lim.fresh _ hsb, ?_⟩) S.kind)
  show codeAny _ _ (.expr body (NdefX.envF (lamF q params scope cl c') f s.heap.objs.size)) _ _
  have kp : ∀ b o, s.heap.get? b = some o → h₁.get? b = some o := fun b o e => hsb.extBut b o (Nat.ne_of_lt (Heap.lt_size e)) (Heap.get?_push_of_some _ e)
  obtain ⟨t, ht, hq⟩ := hbody A outer s H vs ws Q E (hr.deeper _) C.len hsp
  have I : Inv (NdefX.ncx CX P w K mg base N (lamF q params scope cl c') f A outer s H E) [] (NdefX.startF N vs ws) H { s with heap := h₁, toks := s.toks + (ps.zip us).length } := NdefX.inv_startN S hr.hd e0 hl r C hns kp
  refine PySem.W.kla_codeExpr (wpAny_mono (ht.run [] _ _ H Q I hq) (fun v s' hq => ?_) fun e s' hs => hs)
  obtain ⟨w', H', J, rv, q⟩ := hq
  exact ⟨w', H', J.os, J.bare, J.base, J.hok, rv, q⟩
end
/-! ### its call, in the def that got it -/
/-- what the cells held when the running frame began they hold still -/
theorem cells_later {X : Cx} {pins : List (Addr × Obj)} {σ : St} {H : Hp} {s : Shared} {cl : List (Str × Addr)} {fr : List Str} {ws : List (Option V)} (C : NdefX.CellsAt cl fr ws X.s_0.heap X.H_0) (hx : X.ex = []) (I : Inv X pins σ H s) : NdefX.CellsAt cl fr ws s.heap H := by
  have nx : ∀ c, c ∉ X.ex := fun c => by rw [hx]; simp
  have kp : ∀ y c, cl.lookup y = some c → ∀ v, X.s_0.heap.IsCell c v → s.heap.IsCell c v := fun y c e v ⟨o, ho, hd⟩ => by
    obtain ⟨sl, q⟩ := I.base.any ho (C.all y c e).1 (nx c)
    exact ⟨_, q, hd⟩
  refine ⟨C.len, fun y c e => ?_, C.inj, fun i y e => ?_⟩
  · obtain ⟨n, v, z⟩ := C.all y c e
    have z2 := kp y c e v z
    obtain ⟨o, ho, _⟩ := z
    exact ⟨I.base.free c o ho n (nx c), v, z2⟩
  · obtain ⟨c, hc, hv⟩ := C.has i y e
    refine ⟨c, hc, fun v ev => ?_⟩
    obtain ⟨u, r, z⟩ := hv v ev
    exact ⟨u, r, kp y c hc _ z⟩
/-- what is known of the lambda when a frame begins -/
def LamF (P : Program) (w : World) (K : PySem.W.Frag) (mg : Str → Option Value) (base : Heap) (k : Nat) (s0 : Shared) (H0 : Hp) (fs : List Addr) (f c' : Addr) (q : Str) (cs : List PV) (vs : List V) (φ : List PV → M PV) : Prop :=
  ∃ (params : Arguments) (body : Expr) (scope : Scope) (cl : List (Str × Addr)) (pm ctv : Value) (ps fr : List Str) (ws : List (Option V)) (sp : List (Option V) → Sp),
    s0.heap.get? f = some (PySem.W.kla_obj "<lambda>" q params body scope cl pm c' ctv) ∧ H0 f = none ∧ f ∉ fs ∧
      NdefX.CellsAt cl fr ws s0.heap H0 ∧ LOk P w K mg base (L2.CX P w) k f q params body scope cl c' ps fr sp ∧
      ∀ (F : Addr → Prop) (S : Stt) (H : Hp) (pvs : List PV) (us : List V) (Q : VK), RepL ⟨K, mg, w⟩ F H pvs us → RepL ⟨K, mg, w⟩ F H cs vs → W ⟨K, mg, w⟩ F S H → (noexc (φ pvs)).run S (Pv ⟨K, mg, w⟩ F S H Q) (fun _ _ => False) → sp ws us H Q (fun _ _ _ => False)
structure LamIn (X : Cx) (k : Nat) (f c' : Addr) (q : Str) (cs : List PV) (vs : List V) (φ : List PV → M PV) : Prop where
  ex : X.ex = []
  f : LamF X.prog X.w X.K X.mg X.base k X.s_0 X.H_0 X.fs f c' q cs vs φ
section
variable {X : Cx} {Wx : WX} {k i : Nat} {f c' : Addr} {q : Str} {cs : List PV} {cvs : List V} {φ : List PV → M PV}
theorem run_lam (LI : LamIn X k f c' q cs cvs φ) (hr : Room k X.A) {pins : List (Addr × Obj)} {σ : St} {H : Hp} {s : Shared} {F : Addr → Prop} {S : Stt} {Q : VK} {us : List Value} {vs : List V} {pvs : List PV} (I : Inv X pins σ H s) (hc : H c' = some (LamX.CodeO c' q))
    (rc : RepL (zs X) F H cs cvs) (r : Vals vs us) (rp : RepL (zs X) F H pvs vs) (w : W (zs X) F S H) (h : (noexc (φ pvs)).run S (Pv (zs X) F S H Q) (fun _ _ => False)) :
    wpAny (model X.prog X.w) X.A (call (.ref f) us) (EP X pins σ Q) X.xe s := by
  obtain ⟨params, body, scope, cl, pm, ctv, ps, fr, ws, sp, h1, h2, h3, h5, h6, h7⟩ := LI.f
  have h4 := LI.ex
  have at_ : s.heap.get? f = some (PySem.W.kla_obj "<lambda>" q params body scope cl pm c' ctv) := I.base.keep f _ h1 h2 h3 (by rw [h4]; simp)
  have C := cells_later h5 h4 I
  refine wpAny_call (codeAny_mono (h6.run X.A X.stack s H us vs ws pm ctv Q (fun _ _ _ => False) hr I.env0 at_ hc C r (h7 F S H pvs vs Q rp rc w h)) fun r s' hq => ?_)
  cases r with
  | error e => exact (cx_no _ _ _ _ _ hq).elim
  | ok fl =>
    cases fl with
    | ret u => exact I.after hq
    | next => exact False.elim hq
    | brk => exact False.elim hq
    | cont => exact False.elim hq
theorem lam_fn (LI : LamIn X k f c' q cs cvs φ) {pins : List (Addr × Obj)} {σ : St} {H : Hp} {s : Shared} (I : Inv X pins σ H s) : ∃ od d dd sl, s.heap.get? f = some ⟨od, d, .func dd, sl⟩ := by
  obtain ⟨params, body, scope, cl, pm, ctv, ps, fr, ws, sp, h1, h2, h3, h5, h6, h7⟩ := LI.f
  exact ⟨_, _, _, _, I.base.keep f _ h1 h2 h3 (by rw [LI.ex]; simp)⟩
theorem s_callL {x : Str} {e : Expr} {es : List Expr} {ms : En → M (List PV)} {p1 p2 : Pos} (LI : LamIn X k f c' q cs cvs φ) (hr : Room k X.A) (hN : X.N[i]? = some x) (hv : Vis X.env.scope x) (hd : (x == ("__debug__" : Str)) = false) (hcd : (x == ("__classdict__" : Str)) = false) (ha : SA X Wx (e :: es) ms) (hst : noStars (e :: es) = true) :
    SE X Wx (.Call (.Name x p1) (e :: es) [] p2) (fun env => bnd (getv env i) fun v => bnd (guard (v = .clo f c' q cs cvs)) fun _ => bnd (ms env) fun xs => noexc (φ xs)) := .mk fun pins s σ H F S env Q I er w q0 => by
  have h' : notStar e = true ∧ noStars es = true := by simpa [noStars] using hst
  refine wpAny_Call_Name_kw ((s_var (Wx := Wx) (pos := p1) hN hv hd hcd).go I er w q0 fun v s1 x1 px F1 S1 H1 I1 r1 n1 rp1 q1 => ?_)
  obtain ⟨hv, q1⟩ := q1
  subst hv
  cases rp1 with
  | clo hF hc rc =>
    obtain rfl : v = Value.ref f := r1
    refine PySem.W.callWith_F (first := []) (lam_fn LI I1) (ha.go p2 I1 (er.mono (n1.toSub w)) n1.w ((ms env).mono (fun _ _ q => q) (fun _ _ q => Pw.nxt n1 q) q1) fun us s2 vs pvs F2 S2 H2 I2 r2 n2 rp2 q2 => ⟨lam_fn LI I2, ?_⟩) (starEach_not h'.1) (stars_none h'.2)
    have rc' := (Rep.clo (Z := zs X) (f := f) hF hc rc).nxt n1.w n2
    cases rc' with
    | clo hF hc rc =>
      have n12 := n1.trans n2
      exact run_lam LI hr I2 hc rc r2 rp2 n2.w ((noexc (φ pvs)).mono (fun _ _ q => Pv.nxt n12 q) (fun _ _ z => z) q2)
end
/-! ### a def that takes a lambda -/
structure LFn where
  nm : Str
  ps : List Str
  m : PV → (List PV → M PV) → List PV → M PV
structure LamDef (P : Program) (w : World) (K : PySem.W.Frag) (mg : Str → Option Value) (base : Heap) (k : Nat) (f : Str) (ps : List Str) (m : PV → (List PV → M PV) → List PV → M PV) : Prop where
  ex : ∃ (a : Addr) (fd : FuncData), mg f = some (.ref a) ∧ PySem.W.keepIn K (.ref a) = true ∧ (∀ (s : Shared) (us : List Value), K.In s.heap → us.length = ps.length → BindsTo s fd ⟨us, []⟩ (ps.zip us)) ∧
    ∀ (A : Around) (outer : List Env) (s : Shared) (H : Hp) (us : List Value) (vs : List V) (Q : VK) (E : XK) (F : Addr → Prop) (S : Stt) (args : List PV) (l c' : Addr) (q : Str) (cs : List PV) (cvs : List V) (φ : List PV → M PV) (kl : Nat),
      Room k A → kl + 1 ≤ k → Env0 P w K mg base A outer s H → Vals vs us → vs.length = ps.length → RepL ⟨K, mg, w⟩ F H args vs → W ⟨K, mg, w⟩ F S H → LamF P w K mg base kl s H (frs outer) l c' q cs cvs φ →
      (m (.clo l c' q cs cvs) φ args).run S (Pv ⟨K, mg, w⟩ F S H Q) (Px ⟨K, mg, w⟩ F S H E) → codeAny (model P w) A (.call (.ref a) ⟨us, []⟩) (CR (L2.CX P w) outer P w H s Q E) s
/-- with a lambda as the last argument -/
def lamP (m : PV → (List PV → M PV) → List PV → M PV) (φ : List PV → M PV) (xs cs : List PV) : M PV :=
  ⟨fun S Q E => ∀ f c q vs, (m (.clo f c q cs vs) φ (xs ++ [.clo f c q cs vs])).run S Q E, fun h g q => fun f c qq vs => (m _ φ _).mono h g (q f c qq vs)⟩
def capsOf (env : En) : List Nat → Option (List PV)
  | [] => some []
  | j :: js => match env[j]? with
    | some (some v) => (capsOf env js).map (v :: ·)
    | _ => none
theorem caps_rep {Z F H} {env : En} {σ : St} (er : EnvR Z F H env σ) : ∀ {js : List Nat} {cs : List PV}, capsOf env js = some cs → ∃ vs, RepL Z F H cs vs ∧ js.map (NdefX.slotAt σ) = vs.map some
  | [], cs, h => by cases h; exact ⟨[], .nil, rfl⟩
  | j :: js, cs, h => by
    unfold capsOf at h
    split at h
    · rename_i v hv
      rw [Option.map_eq_some_iff] at h
      obtain ⟨cs', h1, rfl⟩ := h
      obtain ⟨vs, r, e⟩ := caps_rep er h1
      obtain ⟨u, hu, ru⟩ := er.2 j v hv
      exact ⟨u :: vs, .cons ru r, by rw [List.map_cons, List.map_cons, e, NdefX.slotAt_of hu]⟩
    · cases h
/-- what stands for the making of lambdas in the running def -/
structure LamMk (X : Cx) : Prop where
  ex : ∃ c P : Addr, X.env.code = .ref c ∧ LamX.TabB X.base X.mg c P ∧ (P, X.env.qual ++ "<lambda>") ∈ tabsOf (zs X) ∧ ∀ p ∈ tabsOf (zs X), p.1 = P → p.2 = X.env.qual ++ "<lambda>"
theorem ExtN_sub {F : Addr → Prop} {H H1 : Hp} (e : LamX.ExtN H H1) : Sub F H F H1 := ⟨fun _ h => h, fun a o _ h nt => e a o h nt⟩
/-- the lambda is made: the world behind it -/
theorem W.lamMade {Z : Zs} {F : Addr → Prop} {S : Stt} {H H1 : Hp} (w : W Z F S H) (e : LamX.ExtN H H1) (t : LamX.Tabs (tabsOf Z) H1) {c' : Addr} {q : Str} (hc : H1 c' = some (LamX.CodeO c' q)) : Nxt Z F S H (fun a => F a ∨ a = c') S H1 := by
  have sb : Sub F H (fun a => F a ∨ a = c') H1 := ⟨fun a q => .inl q, fun a o _ h nt => e a o h nt⟩
  have hS : S c' = none := by
    cases es : S c' with
    | none => rfl
    | some d =>
      have := w.cell c' d es
      cases d with
      | lst xs =>
        obtain ⟨vs, h, _⟩ := this
        have := e _ _ h (fun ps z => nomatch z)
        rw [hc] at this
        unfold LamX.CodeO at this
        cases this
      | ins C fs =>
        obtain ⟨Ca, dx, vs, _, h, _⟩ := this
        have := e _ _ h (fun ps z => nomatch z)
        rw [hc] at this
        unfold LamX.CodeO at this
        cases this
  refine ⟨fun a q => .inl q, fun b o h _ nt => e b o h nt, fun b o h s nt => s, fun b o h hh s nf q => ?_, ⟨fun a q => ?_, fun a q => ?_, fun a c h => ?_, t⟩⟩
  · rcases q with q | q
    · exact nf q
    · subst q
      have := e _ _ h (hid_nt hh)
      rw [hc] at this
      cases this
      unfold LamX.CodeO at hh
      cases hh
  · rcases q with q | q
    · exact w.dis a q
    · rw [q]; exact hS
  · rcases q with q | q
    · obtain ⟨o, h, ht⟩ := w.ff a q
      exact ⟨o, e a o h (fun ps z => by subst z; cases ht), ht⟩
    · rw [q]; exact ⟨_, hc, by unfold LamX.CodeO; rfl⟩
  · have hcell := w.cell a c h
    cases c with
    | lst xs => obtain ⟨vs, h1, r⟩ := hcell; exact ⟨vs, e _ _ h1 (fun ps z => nomatch z), r.mono sb⟩
    | ins C fs => obtain ⟨Ca, dx, vs, m, h1, h2, r⟩ := hcell; exact ⟨Ca, dx, vs, m, e _ _ h1 (fun ps z => nomatch z), e _ _ h2 (fun ps z => nomatch z), r.mono sb⟩
section
variable {X : Cx} {Wx : WX} {k kl : Nat}
theorem startF_rep {Z : Zs} {F : Addr → Prop} {H : Hp} {N own : List Str} {ys cs : List PV} {us cvs : List V} (r : RepL Z F H ys us) (rc : RepL Z F H cs cvs) (hN : N.length = us.length + cvs.length + own.length) :
    EnvR Z F H (ys.map some ++ (cs.map some ++ List.replicate own.length none)) (NdefX.startF N us (cvs.map some)) := by
  have l1 := r.length
  have l2 := rc.length
  have e : NdefX.startF N us (cvs.map some) = us.map some ++ (cvs.map some ++ List.replicate own.length none) := by
    unfold NdefX.startF
    rw [show N.length - us.length - (cvs.map some).length = own.length by rw [List.length_map]; omega]
  rw [e]
  have one : ∀ {xs : List PV} {vs : List V} {R : En} {T : St}, RepL Z F H xs vs → EnvR Z F H R T → EnvR Z F H (xs.map some ++ R) (vs.map some ++ T) := by
    intro xs vs R T rx er
    refine ⟨by simp [rx.length, er.1], fun i x h => ?_⟩
    have hl := rx.length
    by_cases hi : i < xs.length
    · rw [List.getElem?_append_left (by simpa using hi), List.getElem?_map, Option.map_eq_some_iff] at h
      obtain ⟨y, hy, e⟩ := h
      cases e
      obtain ⟨v, hv, rv⟩ := rx.get hy
      exact ⟨v, by rw [List.getElem?_append_left (by rw [List.length_map, ← hl]; exact hi), List.getElem?_map, hv]; rfl, rv⟩
    · rw [List.getElem?_append_right (by simpa using hi), List.length_map] at h
      obtain ⟨v, hv, rv⟩ := er.2 _ x h
      exact ⟨v, by rw [List.getElem?_append_right (by rw [List.length_map, ← hl]; omega), List.length_map, ← hl]; exact hv, rv⟩
  refine one r (one rc ⟨by simp, fun i x h => ?_⟩)
  rw [List.getElem?_replicate] at h
  split at h <;> cases h
/-- g(a, b, d, lambda ps: body) -/
theorem s_callLam {lf : LFn} {a b d : Expr} {ma mb' md : En → M PV} {p lpos pos : Pos} {params : Arguments} {body : Expr} {scope : Scope} {ps fr own : List Str} {js : List Nat} {mb : En → M PV}
    (LD : LamDef X.prog X.w X.K X.mg X.base k lf.nm lf.ps lf.m) (MK : LamMk X) (hr : Room k X.A) (hkl : kl + 2 ≤ k) (tk : Takes X Wx) (hg : Gl X lf.nm) (hd : (lf.nm == ("__debug__" : Str)) = false) (ha : SE X Wx a ma) (hbb : SE X Wx b mb') (hdd : SE X Wx d md) (hst : noStars [a, b, d] = true) (hn : lf.ps.length = 4)
    (hS : NdefX.NScope (ps ++ fr ++ own) ps fr scope) (hb : ∀ (q : Str) (cl : List (Str × Addr)) (pm cv ctv : Value) (us : List Value), us.length = ps.length → bindArgs (PySem.W.kla_fn "<lambda>" q params body scope cl pm cv ctv) ⟨us, []⟩ = pure (ps.zip us)) (hdef : defaultsOf params X.env = ([], []))
    (hfree : ∀ y ∈ scope.names, y.2 = .free → X.env.scope.names.lookup y.1 = some .cell ∨ X.env.scope.names.lookup y.1 = some .free) (hfr : ∀ y ∈ fr, (y, NameKind.free) ∈ scope.names) (hjs : js.map (fun j => X.N[j]?) = fr.map some)
    (hbody : ∀ (A : Around) (outer : List Env) (s : Shared) (H : Hp) (f c' : Addr) (cl : List (Str × Addr)) (E : XK), Room kl (A.deeper (NdefX.envF (lamF (X.env.qual ++ "<lambda>") params scope cl c') f s.heap.objs.size)) →
      SE (NdefX.ncx (L2.CX X.prog X.w) X.prog X.w X.K X.mg X.base (ps ++ fr ++ own) (lamF (X.env.qual ++ "<lambda>") params scope cl c') f A outer s H E) wFalse body mb) :
    SE X Wx (.Call (.Name lf.nm p) [a, b, d, .Lambda params body scope lpos] [] pos) (fun env => bnd (ma env) fun x => bnd (mb' env) fun y => bnd (md env) fun z => bnd (ofO (capsOf env js)) fun cs => lamP lf.m (fun ys => bnd (guard (ys.length = ps.length)) fun _ => mb (ys.map some ++ (cs.map some ++ List.replicate own.length none))) [x, y, z] cs) := .mk fun pins s σ H F S env Q I er w q0 => by
  obtain ⟨g, fd, hm, hkp, hbd, hrun⟩ := LD.ex
  obtain ⟨c, P, hcode, TB, hmT, hu⟩ := MK.ex
  have h' : notStar a = true ∧ notStar b = true ∧ notStar d = true := by simpa [noStars] using hst
  refine wpAny_Call_Name_kw (ld_glob I hg hm ?_ hd)
  have hstar : starEach [a, b, d, .Lambda params body scope lpos] X.env = [(false, eval a X.env), (false, eval b X.env), (false, eval d X.env), (false, eval (.Lambda params body scope lpos) X.env)] := by
    rw [starEach_not h'.1, starEach_not h'.2.1, starEach_not h'.2.2]; rfl
  refine PySem.W.callWith_K (h₀ := X.base) I.ok.mod.kin hkp ?_ (by rw [starEach_not h'.1]) (by rw [starEach_not h'.2.1, starEach_not h'.2.2]; rfl)
  rw [hstar]
  show wpAny _ _ (spliced ((false, eval a X.env) :: (false, eval b X.env) :: (false, eval d X.env) :: [(false, eval (.Lambda params body scope lpos) X.env)])) _ _ s
  refine Calls.spliced_cons (ha.go I er w q0 fun v1 s1 x1 p1 F1 S1 H1 I1 r1 n1 rp1 q1 => ?_)
  refine Calls.spliced_cons (hbb.go I1 (er.mono (n1.toSub w)) n1.w ((mb' env).mono (fun _ _ q => q) (fun _ _ q => Pw.nxt n1 q) q1) fun v2 s2 x2 p2 F2 S2 H2 I2 r2 n2 rp2 q2 => ?_)
  have n12 := n1.trans n2
  refine Calls.spliced_cons (hdd.go I2 (er.mono (n12.toSub w)) n12.w ((md env).mono (fun _ _ q => q) (fun _ _ q => Pw.nxt n12 q) q2) fun v3 s3 x3 p3 F3 S3 H3 I3 r3 n3 rp3 q3 => ?_)
  have n13 := n12.trans n3
  have er3 := er.mono (n13.toSub w)
  obtain ⟨cs, hcs, q3⟩ := ofO_some q3
  obtain ⟨cvs, rc, hsl⟩ := caps_rep er3 hcs
  have hcell : ∀ y ∈ scope.names, y.2 = .free → ∃ c, X.env.cells.lookup y.1 = some c := fun y hy e => (hfree y hy e).elim (fun z => I.ok.has _ (.inl z)) fun z => I.ok.has _ (.inr z)
  refine Calls.spliced_cons (LamX.lam_make2 I3 TB hcode hmT hu n13.w.tabs hdef hcell fun f c' pm' ctv H4 s4 I4 eN T4 hf hfn hfr' hco => ?_)
  refine Calls.spliced_nil ⟨I4.kIn, ?_⟩
  have n4 := n13.w.lamMade eN T4 hco
  have C : NdefX.CellsAt (cloFrom X.env.cells scope.names []) fr (cvs.map some) s4.heap H4 := by
    have := NdefX.cells_of I4 (NdefX.Caps.made I4.ok hfree hfr hjs)
    rw [hsl] at this
    exact this
  have n14 := n13.trans n4
  have rcl : Rep (zs X) (fun a => F3 a ∨ a = c') H4 (.clo f c' (X.env.qual ++ "<lambda>") cs cvs) (.ref f) := .clo (.inr rfl) hco (rc.nxt n13.w n4)
  have hlc : cvs.length = fr.length := by have := C.len; simpa using this
  have hLOk : LOk X.prog X.w X.K X.mg X.base (L2.CX X.prog X.w) (kl + 1) f (X.env.qual ++ "<lambda>") params body scope (cloFrom X.env.cells scope.names []) c' ps fr
      (fun ws us H Q _ => us.length = ps.length ∧ ws = cvs.map some ∧ ∃ (F : Addr → Prop) (S : Stt) (pvs : List PV), RepL (zs X) F H pvs us ∧ RepL (zs X) F H cs cvs ∧ W (zs X) F S H ∧ (noexc (mb (pvs.map some ++ (cs.map some ++ List.replicate own.length none)))).run S (Pv (zs X) F S H Q) (fun _ _ => False)) := by
    refine lok_of hS (fun pm cv ctv us h => hb _ _ _ _ _ us h) (fun ws vs H Q E h => h.1) fun A outer s H vs ws Q E hr' hlw hsp => ?_
    obtain ⟨hl, rfl, F5, S5, pvs, rpv, rcv, w5, q5⟩ := hsp
    have hE := hbody A outer s H f c' (cloFrom X.env.cells scope.names []) E hr'
    have hlN : (ps ++ fr ++ own).length = vs.length + cvs.length + own.length := by rw [List.length_append, List.length_append, hl, hlc]
    exact ⟨_, hE, F5, S5, _, startF_rep rpv rcv hlN, w5, (mb _).mono (fun _ _ q => q) (fun _ _ z => z.elim) q5⟩
  have hLF : LamF X.prog X.w X.K X.mg X.base (kl + 1) s4 H4 (frs X.stack) f c' (X.env.qual ++ "<lambda>") cs cvs (fun ys => bnd (guard (ys.length = ps.length)) fun _ => mb (ys.map some ++ (cs.map some ++ List.replicate own.length none))) := by
    refine ⟨params, body, scope, _, pm', ctv, ps, fr, cvs.map some, _, hf, hfn, hfr', C, hLOk, fun F5 S5 H5 pvs us Q5 rpv rcv w5 q5 => ?_⟩
    obtain ⟨hl, q5⟩ := q5
    exact ⟨by rw [← rpv.length]; exact hl, rfl, F5, S5, pvs, rpv, rcv, w5, q5⟩
  have rargs : RepL (zs X) (fun a => F3 a ∨ a = c') H4 [p1, p2, p3, .clo f c' (X.env.qual ++ "<lambda>") cs cvs] [x1, x2, x3, .ref f] :=
    .cons (rp1.nxt n1.w ((n2.trans n3).trans n4)) (.cons (rp2.nxt n2.w (n3.trans n4)) (.cons (rp3.nxt n3.w n4) (.cons rcl .nil)))
  have rvals : Vals [x1, x2, x3, .ref f] [v1, v2, v3, .ref f] := .cons r1 (.cons r2 (.cons r3 (.cons (show RelV (V.ref f) (Value.ref f) from rfl) .nil)))
  have hq := q3 f c' (X.env.qual ++ "<lambda>") cvs
  refine wpAny_call (codeAny_mono (hrun X.A X.stack s4 H4 _ _ Q (fun c d H' => Wx c d σ H') _ _ _ f c' _ cs cvs _ (kl + 1) hr hkl I4.env0 rvals (by simp [hn]) rargs n14.w hLF ((lf.m _ _ _).mono (fun _ _ q => Pv.nxt n14 q) (fun e S' q F' H' c d nx ex => q F' H' c d σ (n14.trans nx) ex Out.refl) hq)) fun r s' hr5 => ?_)
  cases r with
  | error e => exact tk e s' (XE.of_call I4 (fun _ _ _ q => q) hr5)
  | ok fl =>
    cases fl with
    | ret u => exact I4.after hr5
    | next => exact False.elim hr5
    | brk => exact False.elim hr5
    | cont => exact False.elim hr5
end
end Dp

namespace Dp
open PySem PySem.Spec L2
open PyProof.Rows hiding St

/-! ### isinstance of an own class -/
def kTs : List String := ["NoneType", "bool", "int", "str", "tuple", "list"]
structure IsCls (K : PySem.W.Frag) (mg : Str → Option Value) (C : Str) (oth : List Str) : Prop where
  ex : ∃ Ca : Addr, mg C = some (.ref Ca) ∧ C8.InsC K Ca ∧ (∀ t ∈ kTs, PySem.W.kitOne K (.type t) (.ref Ca) = some false) ∧ ∀ D ∈ oth, ∃ Da : Addr, mg D = some (.ref Da) ∧ C8.InsC K Da ∧ PySem.W.kitOne K (.ref Da) (.ref Ca) = some false
def vIsC (C : Str) (oth : List Str) : PV → M PV
  | .ref a => ⟨fun S Q _ => (∃ xs, S a = some (.lst xs) ∧ Q (.bl false) S) ∨ (∃ fs, S a = some (.ins C fs) ∧ Q (.bl true) S) ∨ (∃ D fs, S a = some (.ins D fs) ∧ D ∈ oth ∧ Q (.bl false) S),
      fun h _ q => q.imp (fun ⟨xs, e, q⟩ => ⟨xs, e, h _ _ q⟩) (fun q => q.imp (fun ⟨fs, e, q⟩ => ⟨fs, e, h _ _ q⟩) fun ⟨D, fs, e, d, q⟩ => ⟨D, fs, e, d, h _ _ q⟩)⟩
  | x => match tyName x with
    | some _ => ret (.bl false)
    | none => stuck
section
variable {X : Cx} {Wx : WX} {C : Str} {oth : List Str}
theorem o_isC (IC : IsCls X.K X.mg C oth) {pins : List (Addr × Obj)} {s : Shared} {σ : St} {H : Hp} {x : V} {v : Value} {Ca : Addr} {Q : VK} {F : Addr → Prop} {S : Stt} {px : PV} {E : Exc → Stt → Prop} (I : Inv X pins σ H s) (rx : RelV x v) (w : W (zs X) F S H) (rp : Rep (zs X) F H px x) (hm : X.mg C = some (.ref Ca))
    (q : (vIsC C oth px).run S (Pv (zs X) F S H Q) E) : wpAny (model X.prog X.w) X.A (call (.builtin "isinstance") [v, .ref Ca]) (EP X pins σ Q) X.xe s := by
  obtain ⟨Ca', hm', ic, hk, ho⟩ := IC.ex
  rw [hm] at hm'; cases hm'
  have go : ∀ {t : Value} {b : Bool}, TyX X.K H x t → PySem.W.kitOne X.K t (.ref Ca) = some b → Q (.bl b) H → wpAny (model X.prog X.w) X.A (call (.builtin "isinstance") [v, .ref Ca]) (EP X pins σ Q) X.xe s := fun {t b} ty e q =>
    call_isi pins s σ H [x, .ref Ca] [v, .ref Ca] Q I (.cons rx (.cons (show RelV (V.ref Ca) (Value.ref Ca) from rfl) .nil)) ⟨x, .ref Ca, t, .ref Ca, b, rfl, .own Ca, ty, e, q⟩
  have base : ∀ {t : String}, tyName px = some t → RepD (zs X) F H px x → Q (.bl false) H → wpAny (model X.prog X.w) X.A (call (.builtin "isinstance") [v, .ref Ca]) (EP X pins σ Q) X.xe s := fun {t} e rd q =>
    go (TyX_of (px := px) w rd e) (hk t (tyName_mem e)) q
  cases px with
  | ref a =>
    cases rp
    rcases q with ⟨xs, e, q⟩ | ⟨fs, e, q⟩ | ⟨D, fs, e, hd, q⟩
    · obtain ⟨vs, h, _⟩ := w.cell a _ e
      exact go (.base (.lst h)) (hk "list" (by decide)) (q F H _ (Nxt.refl w) (.bl _))
    · obtain ⟨Da, dx, vs, hd, h, _⟩ := w.cell a _ e
      rw [show X.mg C = some (.ref Da) from hd] at hm; cases hm
      exact go (.base (.ins h ic.cl ic.ha ic.hn ic.htk ic.hm)) ic.me (q F H _ (Nxt.refl w) (.bl _))
    · obtain ⟨Da, dx, vs, hd', h, _⟩ := w.cell a _ e
      obtain ⟨Da', hm2, ic2, hk2⟩ := ho D hd
      rw [show X.mg D = some (.ref Da) from hd'] at hm2; cases hm2
      exact go (.base (.ins h ic2.cl ic2.ha ic2.hn ic2.htk ic2.hm)) hk2 (q F H _ (Nxt.refl w) (.bl _))
  | non => exact base rfl (.of rp) (q F H _ (Nxt.refl w) (.bl _))
  | bl b => exact base rfl (.of rp) (q F H _ (Nxt.refl w) (.bl _))
  | int b => exact base rfl (.of rp) (q F H _ (Nxt.refl w) (.bl _))
  | str b => exact base rfl (.of rp) (q F H _ (Nxt.refl w) (.bl _))
  | tup b => exact base rfl (.of rp) (q F H _ (Nxt.refl w) (.bl _))
  | loc b => exact base rfl (.of rp) (q F H _ (Nxt.refl w) (.bl _))
  | lst b => exact base rfl (.of rp) (q F H _ (Nxt.refl w) (.bl _))
  | fn _ => exact q.elim
  | ty _ => exact q.elim
  | clo _ _ _ _ _ => exact q.elim
  | dct _ _ => exact q.elim
  | kdc _ _ => exact q.elim
theorem SE.le {e : Expr} {m n : En → M PV} (h : SE X Wx e n) (hm : ∀ env S Q E, (m env).run S Q E → (n env).run S Q E) : SE X Wx e m := .mk fun pins s σ H F S env Q I er w q => h.run pins s σ H Q I ⟨F, S, env, er, w, hm env S _ _ q⟩
theorem s_isC (IC : IsCls X.K X.mg C oth) {e : Expr} {m : En → M PV} {p1 p2 p3 : Pos} (hg : Gl X "isinstance") (hm : X.mg "isinstance" = none) (hgC : Gl X C) (hd : (C == ("__debug__" : Str)) = false) (he : SE X Wx e m) (hs : notStar e = true) :
    SE X Wx (.Call (.Name "isinstance" p1) [e, .Name C p2] [] p3) (fun env => bnd (m env) (vIsC C oth)) := by
  obtain ⟨Ca, hmC, ic, hk, ho⟩ := IC.ex
  have hC : SE X Wx (.Name C p2) (fun _ => ret (.fn C)) := s_glob hgC hmC (show RelV (V.ref Ca) (Value.ref Ca) from rfl) (fun F H => .fn hmC) hd
  have hop : OpN X Wx (fun us => call (.builtin "isinstance") us) (fun ps => match ps with
      | [x, .fn D] => bnd (guard (D = C)) fun _ => vIsC C oth x
      | _ => stuck) := fun pins s σ H xs us Q F S ps I r w rp q => by
    match ps, xs, us, rp, r, q with
    | [px, .fn D], [x, _], [v, _], .cons r1 (.cons (.fn e) .nil), .cons rv (.cons rc .nil), ⟨hD, q⟩ =>
      subst hD
      rw [show X.mg D = some _ from e] at hmC
      cases hmC
      cases rc
      exact o_isC IC I rv w r1 e q
  refine (s_callB hop hg hm (by decide +kernel) (sa_cons he (sa_cons hC sa_nil rfl) hs) (by simp [noStars, hs]; rfl) (by decide +kernel) (by decide +kernel)).le fun env S Q E q => ?_
  exact (m env).mono (fun x S q => ⟨rfl, q⟩) (fun _ _ q => q) q
/-- a list some times over, owned -/
def vMulO : PV → PV → M PV
  | .lst xs, .int k => ⟨fun S Q _ => (-(2 ^ 63) ≤ k ∧ k < 2 ^ 63 ∧ xs.length * k.toNat ≤ sizeLine) ∧ ∀ p, S p = none → Q (.ref p) (put S p (.lst (List.replicate k.toNat xs).flatten)), fun h _ q => ⟨q.1, fun p e => h _ _ (q.2 p e)⟩⟩
  | _, _ => stuck
theorem o_mulO : Op2 X Wx (binaryOp .Mult) vMulO := .of op_rep fun x y H Q F S px py E w rx ry q => by
  unfold vMulO at q
  split at q
  · rename_i xs k
    cases ry
    obtain ⟨⟨h1, h2, h3⟩, q⟩ := q
    cases rx with
    | @lst l _ vs t r =>
      rw [r.length] at h3
      refine ⟨l, k, vs, rfl, rfl, t.2, h1, h2, h3, fun p hp => ?_⟩
      exact q p (w.fresh_S hp) F _ _ (w.layOwn hp (r.rep _)) (.ref p)
  · exact q.elim
/-- two lists' sum, owned -/
def vAddO : PV → PV → M PV := fun x y => bnd (deref x) fun x => bnd (deref y) fun y => match x, y with
  | .lst a, .lst b => ⟨fun S Q _ => a.length + b.length ≤ sizeLine ∧ ∀ p, S p = none → Q (.ref p) (put S p (.lst (a ++ b))), fun h _ q => ⟨q.1, fun p e => h _ _ (q.2 p e)⟩⟩
  | _, _ => stuck
theorem o_addO : Op2 X Wx (binaryOp .Add) vAddO := .of op_cat fun x y H Q F S px py E w rx ry q => by
  obtain ⟨px', r1, q⟩ := deref_ok w rx q
  obtain ⟨py', r2, q⟩ := deref_ok w ry q
  cases px' with
  | lst a =>
    cases py' with
    | lst b =>
      obtain ⟨hz, q⟩ := q
      obtain ⟨l, vs, rfl, h, r⟩ := r1.lst
      obtain ⟨l2, vs2, rfl, h2, r'⟩ := r2.lst
      rw [r.length, r'.length] at hz
      exact ⟨l, l2, vs, vs2, rfl, rfl, h, h2, hz, fun p hp => q p (w.fresh_S hp) F _ _ (w.layOwn hp (r.append r')) (.ref p)⟩
    | _ => exact q.elim
  | _ => exact q.elim
/-- list(..), owned -/
def vLstO : List PV → M PV
  | [x] => bnd (deref x) fun x => match x with
    | .tup xs => ownL xs
    | .lst xs => ownL xs
    | .loc xs => ownL xs
    | _ => stuck
  | _ => stuck
theorem o_lstO : OpN X Wx (fun us => call (.type "list") us) vLstO := .of call_list_of fun xs H Q F S ps E w r q => by
  match ps, xs, r with
  | [px], [x], .cons r1 .nil =>
    obtain ⟨py, rd, q⟩ := deref_ok w r1 q
    cases py with
    | tup ys =>
      cases rd.rep (fun xs e => nomatch e) with
      | @tup a _ vs t rl => exact ⟨_, _, rfl, .inr t.sq, fun p hp => q p (w.fresh_S hp) F _ _ (w.layOwn hp rl) (.ref p)⟩
    | lst ys =>
      obtain ⟨a, vs, rfl, h, rl⟩ := rd.lst
      exact ⟨_, _, rfl, .inl (.of h), fun p hp => q p (w.fresh_S hp) F _ _ (w.layOwn hp rl) (.ref p)⟩
    | loc ys =>
      cases rd.rep (fun xs e => nomatch e) with
      | @loc a _ vs t rl => exact ⟨_, _, rfl, .inl t.sq, fun p hp => q p (w.fresh_S hp) F _ _ (w.layOwn hp rl) (.ref p)⟩
    | _ => exact q.elim
  | [], _, _ => exact q.elim
  | _ :: _ :: _, _, _ => exact q.elim
end
end Dp

namespace Dp
open PySem PySem.Spec L2
open PyProof.Rows hiding St

/-! ### the core syntax -/
inductive Bop where
  | add | sub | mul | mod | fdiv | pow | mulO | addO
inductive Cop where
  | eq | ne | lt | le | gt | ge | isin | notin | isN | notN
inductive Bf where
  | isi | len | abs | max | min | sum | all | any | divmod | sorted
inductive Bt where
  | int | str | tup | lst | dict | lstO
inductive Mt where
  | append | extend | pop | index | split | join | get | tindex
mutual
inductive CE where
  | var (i : Nat) | int (i : Int) | str (x : Str) | bl (b : Bool) | non | glob (g : Nat) | bty (x n : String)
  | bin (op : Bop) (a b : CE) | neg (a : CE) | nt (a : CE) | cmp (op : Cop) (a b : CE) | chn (o1 o2 : Cop) (a b c : CE)
  | tv (a : CE) | b1 (a : CE) | and (a b : CE) | or (a b : CE) | ife (c a b : CE)
  | tup (es : CL) | lst (own : Bool) (es : CL) | ix (a i : CE) | sl (a : CE) (lo hi : CO)
  | fld (c : Nat) (a : CE) (f : Str) | prop (k : Nat) (a : CE) | mcall (k : Nat) (o : CE) (es : CL) | make (k : Nat) (sh : Shape) (es ks : CL)
  | isC (c : Nat) (a : CE) | dct (ps : CPs) | callL (i : Nat) (es : CL) | callLam (k kl : Nat) (a b d : CE) (ps fr own : List Str) (js : List Nat) (body : CE)
  | call (k : Nat) (sh : Shape) (es ks : CL) | callB (f : Bf) (es : CL) | callT (f : Bt) (es : CL) | meth (m : Mt) (o : CE) (es : CL)
  | comp (own : Bool) (L : List (Str × Nat)) (elt : CE) (tg : CT) (it : CI) (c : CO)
  | comp2 (own : Bool) (L : List (Str × Nat)) (L1 : List Nat) (elt : CE) (tg : CT) (it : CI) (c : CO) (tg1 : CT) (it1 : CI) (c1 : CO)
inductive CL where
  | nil | cons (e : CE) (es : CL) | star (e : CE) (es : CL)
inductive CPs where
  | nil | cons (k v : CE) (ps : CPs)
inductive CO where
  | none | some (e : CE)
inductive CT where
  | name (i : Nat) | tup (ts : CTs) | tupS (ts : CTs) | sub (o i : CE) | fld (c : Nat) (o : CE) (f : Str)
inductive CTs where
  | nil | cons (t : CT) (ts : CTs)
inductive CI where
  | val (e : CE) | rng (es : CL) | enum (es : CL) | zip (es : CL)
end
mutual
inductive CS where
  | expr (e : CE) | asg (t : CT) (e : CE) | setc (i : Nat) (e : CE) | par2 (i j : Nat) (es : CL) | par3 (i j k : Nat) (es : CL) | ret (e : CE) | retN
  | ifs (c : CE) (a b : CB) | loop (t : CT) (it : CI) (b : CB) | whl (c : CE) (b : CB) | pass | brk | cont | never | doc
inductive CB where
  | nil | cons (s : CS) (ss : CB) | frz (i : Nat) (ss : CB)
end

/-! ### what it means -/
def Bop.sem : Bop → PV → PV → M PV
  | .add => vAdd | .sub => vSub | .mul => vMul | .mod => vMod | .fdiv => vFDiv | .pow => vPow | .mulO => vMulO | .addO => vAddO
def vIsN (x _ : PV) : M PV := ret (.bl (isNon x))
def vNotN (x _ : PV) : M PV := ret (.bl (!isNon x))
def Cop.sem : Cop → PV → PV → M PV
  | .eq => vEq | .ne => vNe | .lt => vLt | .le => vLe | .gt => vGt | .ge => vGe | .isin => vIn false | .notin => vIn true | .isN => vIsN | .notN => vNotN
def Bf.sem : Bf → List PV → M PV
  | .isi => vIsi | .len => vLenL | .abs => vAbs | .max => vMax | .min => vMin | .sum => vSum | .all => vAll | .any => vAny | .divmod => vDivmod | .sorted => vSortT
def Bt.sem : Bt → List PV → M PV
  | .int => vIntT | .str => vStrT | .tup => vTupT | .lst => vLstT | .dict => vDictT | .lstO => vLstO
def Mt.sem : Mt → PV → List PV → M PV
  | .append => vAppend | .extend => vExtend | .pop => vPop | .index => vIndex | .split => vSplit | .join => vJoin | .get => vGet | .tindex => vIndexT
def Mt.T : Mt → String
  | .split => "str" | .join => "str" | .get => "dict" | .tindex => "tuple" | _ => "list"
def fnl (own : Bool) : List PV → M PV := if own then ownL else freezeL
def disp (own : Bool) : List PV → M PV := if own then mkOwn else mkLst
structure FnE extends Fn where
  nm : Str
/-- a class of the text: its name, its attributes -/
structure ClsE where
  nm : Str
  flds : List Str
  oth : List Str := []
  /-- whether isinstance asks it -/
  isi : Bool := false
inductive MK where
  | prop | meth | init
  deriving DecidableEq
/-- what a class defines: a property's getter, a method, __init__ -/
structure MtE where
  kind : MK
  cls : Str
  at_ : Str
  fn : Fn
/-- the text's functions with their levels, its constants -/
structure Sg where
  T : Nat → Option FnE
  lv : Nat → Nat
  G : Nat → Option (Str × PV)
  Cs : Nat → Option ClsE := fun _ => none
  Ms : Nat → Option MtE := fun _ => none
  lvM : Nat → Nat := fun _ => 0
  Ls : Nat → Option LFn := fun _ => none
  lvL : Nat → Nat := fun _ => 0
  lam : Option (PV × (List PV → M PV)) := none
mutual
def dE (g : Sg) : CE → En → M PV
  | .var i => fun env => getv env i
  | .int i => fun _ => ret (.int i)
  | .str x => fun _ => ret (.str x)
  | .bl b => fun _ => ret (.bl b)
  | .non => fun _ => ret .non
  | .glob k => fun _ => match g.G k with | some p => ret p.2 | none => stuck
  | .bty _ n => fun _ => ret (.ty n)
  | .bin op a b => fun env => bnd (dE g a env) fun x => bnd (dE g b env) fun y => op.sem x y
  | .neg a => fun env => bnd (dE g a env) vNeg
  | .nt a => fun env => bnd (dE g a env) vNot
  | .cmp op a b => fun env => bnd (dE g a env) fun x => bnd (dE g b env) fun y => op.sem x y
  | .chn o1 o2 a b c => fun env => bnd (dE g a env) fun x => bnd (dE g b env) fun y => chain2 o1.sem o2.sem x y (dE g c env)
  | .tv a => dE g a
  | .b1 a => dE g a
  | .and a b => fun env => bnd (dE g a env) fun x => vAnd x (dE g b env)
  | .or a b => fun env => bnd (dE g a env) fun x => vOr x (dE g b env)
  | .ife c a b => fun env => bnd (dT g c env) fun t => if t = true then dE g a env else dE g b env
  | .tup es => fun env => bnd (dL g es env) mkTup
  | .lst own es => fun env => bnd (dL g es env) (disp own)
  | .ix a i => fun env => bnd (dE g a env) fun x => bnd (dE g i env) fun y => vIdx x y
  | .sl a lo hi => fun env => bnd (dE g a env) fun x => bnd (dO g lo env) fun l => bnd (dO g hi env) fun h => vSlice l h x
  | .fld c a f => fun env => bnd (dE g a env) fun x => match g.Cs c with | some C => vFld C.nm f x | none => stuck
  | .prop k a => fun env => bnd (dE g a env) fun x => match g.Ms k with | some p => vProp p.cls p.fn.m x | none => stuck
  | .mcall k o es => fun env => bnd (dE g o env) fun x => match g.Ms k with | some p => bnd (isIns p.cls p.at_ x) fun _ => bnd (dL g es env) fun xs => bnd (guard ((x :: xs).length = p.fn.ps.length)) fun _ => p.fn.m (x :: xs) | none => stuck
  | .make k sh es ks => fun env => bnd (dL g es env) fun xs => bnd (dL g ks env) fun ys => match g.Ms k with | some p => makeP p.cls p.fn sh xs ys | none => stuck
  | .isC c a => fun env => bnd (dE g a env) fun x => match g.Cs c with | some C => vIsC C.nm C.oth x | none => stuck
  | .dct ps => fun env => bnd (dP g ps env) mkDct
  | .callL i es => fun env => match g.lam with | some l => bnd (getv env i) fun v => bnd (guard (v = l.1)) fun _ => bnd (dL g es env) fun xs => noexc (l.2 xs) | none => stuck
  | .callLam k _ a b d ps _ own js body => fun env => bnd (dE g a env) fun x => bnd (dE g b env) fun y => bnd (dE g d env) fun z => match g.Ls k with
    | some lf => bnd (ofO (capsOf env js)) fun cs => lamP lf.m (fun ys => bnd (guard (ys.length = ps.length)) fun _ => dE g body (ys.map some ++ (cs.map some ++ List.replicate own.length none))) [x, y, z] cs
    | none => stuck
  | .call k sh es ks => fun env => bnd (dL g es env) fun xs => bnd (dL g ks env) fun ys => match g.T k with | some fn => callFn fn.toFn sh xs ys | none => stuck
  | .callB f es => fun env => bnd (dL g es env) f.sem
  | .callT f es => fun env => bnd (dL g es env) f.sem
  | .meth m o es => fun env => bnd (dE g o env) fun x => bnd (isT m.T x) fun _ => bnd (dL g es env) fun xs => m.sem x xs
  | .comp own L elt tg it c => fun env => bnd (compB (L.map (·.2)) (dI g it) (dG g tg) (dC g c) (dE g elt) env) (fnl own)
  | .comp2 own L L1 elt tg it c tg1 it1 c1 => fun env => bnd (compB2 (L.map (·.2)) L1 (dI g it) (dG g tg) (dC g c) (dI g it1) (dG g tg1) (dC g c1) (dE g elt) env) (fnl own)
/-- as a test -/
def dT (g : Sg) : CE → En → M Bool
  | .nt a => fun env => bnd (dT g a env) fun t => ret (!t)
  | .b1 a => dT g a
  | .and a b => fun env => bnd (dT g a env) fun t => if t = true then dT g b env else ret false
  | .or a b => fun env => bnd (dT g a env) fun t => if t = true then ret true else dT g b env
  | .cmp op a b => fun env => bnd (dE g a env) fun x => bnd (dE g b env) fun y => bnd (op.sem x y) vTruth
  | .chn o1 o2 a b c => fun env => bnd (dE g a env) fun x => bnd (dE g b env) fun y => bnd (o1.sem x y) fun t => bnd (vTruth t) fun d => if d = true then bnd (dE g c env) fun z => bnd (o2.sem y z) vTruth else ret false
  | .tv a => fun env => bnd (dE g a env) vTruth
  | _ => fun _ => stuck
def dL (g : Sg) : CL → En → M (List PV)
  | .nil => fun _ => ret []
  | .cons e es => fun env => bnd (dE g e env) fun x => bnd (dL g es env) fun xs => ret (x :: xs)
  | .star e es => fun env => bnd (dE g e env) fun x => bnd (vItems x) fun ys => bnd (dL g es env) fun xs => ret (ys ++ xs)
def dP (g : Sg) : CPs → En → M (List (PV × PV))
  | .nil => fun _ => ret []
  | .cons k v r => fun env => bnd (dE g k env) fun x => bnd (dE g v env) fun y => bnd (dP g r env) fun r => ret ((x, y) :: r)
def dO (g : Sg) : CO → En → M (Option Int)
  | .none => fun _ => ret none
  | .some e => fun env => bnd (dE g e env) vPart
def dC (g : Sg) : CO → En → M Bool
  | .none => fun _ => ret true
  | .some e => dT g e
def dG (g : Sg) : CT → PV → En → M En
  | .name i => setv i
  | .tup ts => setTup (dGs g ts) (lenTs ts)
  | .tupS ts => setTupS (dGs g ts) (lenTs ts - 1)
  | .sub o i => fun v env => bnd (dE g o env) fun a => bnd (dE g i env) fun k => bnd (vSet a k v) fun _ => ret env
  | .fld c o f => fun v env => bnd (dE g o env) fun a => match g.Cs c with | some C => bnd (vPutF C.nm f v a) fun _ => ret env | none => stuck
def dGs (g : Sg) : CTs → List PV → En → M En
  | .nil => setNil
  | .cons t ts => setCons (dG g t) (dGs g ts)
def lenTs : CTs → Nat
  | .nil => 0
  | .cons _ ts => lenTs ts + 1
def lenL : CL → Nat
  | .nil => 0
  | .cons _ ts => lenL ts + 1
  | .star _ ts => lenL ts + 1
def dI (g : Sg) : CI → En → M (Src × List PV)
  | .val e => fun env => bnd (dE g e env) vSrc
  | .rng es => fun env => bnd (dL g es env) fun xs => bnd (guard (xs.length = lenL es)) fun _ => vRng xs
  | .enum es => fun env => bnd (dL g es env) vEnum
  | .zip es => fun env => bnd (dL g es env) vZip
end
mutual
def dS (g : Sg) : CS → En → M Res
  | .expr e => fun env => bnd (dE g e env) fun _ => ret (.nx env)
  | .asg t e => asgn (dE g e) (dG g t)
  | .setc i e => asgn (dE g e) (setv i)
  | .par2 i j es => asgn2 i j (dL g es)
  | .par3 i j k es => asgn3 i j k (dL g es)
  | .ret e => fun env => bnd (dE g e env) fun v => ret (.rt v)
  | .retN => fun _ => ret (.rt .non)
  | .ifs c a b => fun env => bnd (dT g c env) fun t => if t = true then dB g a env else dB g b env
  | .loop t it b => forB (dI g it) fun x env => bnd (dG g t x env) (dB g b)
  | .whl c b => whileM (dT g c) (dB g b)
  | .pass => fun env => ret (.nx env)
  | .brk => fun env => ret (.bk env)
  | .cont => fun env => ret (.ct env)
  | .never => fun _ => stuck
  | .doc => fun env => ret (.nx env)
def dB (g : Sg) : CB → En → M Res
  | .nil => fun env => ret (.nx env)
  | .cons s ss => fun env => bnd (dS g s env) fun r => seqR r (dB g ss)
  | .frz i ss => fun env => bnd (freezeV i env) (dB g ss)
end

/-! ### how it lies over the text -/
def Bop.op : Bop → Operator
  | .add => .Add | .sub => .Sub | .mul => .Mult | .mod => .Mod | .fdiv => .FloorDiv | .pow => .Pow | .mulO => .Mult | .addO => .Add
def Cop.op : Cop → CmpOp
  | .eq => .Eq | .ne => .NotEq | .lt => .Lt | .le => .LtE | .gt => .Gt | .ge => .GtE | .isin => .In | .notin => .NotIn | .isN => .Is | .notN => .IsNot
def Bf.nm : Bf → String
  | .isi => "isinstance" | .len => "len" | .abs => "abs" | .max => "max" | .min => "min" | .sum => "sum" | .all => "all" | .any => "any" | .divmod => "divmod" | .sorted => "sorted"
def Bt.nm : Bt → String
  | .int => "int" | .str => "str" | .tup => "tuple" | .lst => "list" | .dict => "dict" | .lstO => "list"
def Mt.nm : Mt → String
  | .append => "append" | .extend => "extend" | .pop => "pop" | .index => "index" | .split => "split" | .join => "join" | .get => "get" | .tindex => "index"
def visB (sc : Scope) (x : Str) : Bool := match sc.names.lookup x with
  | some .local => true | some .cell => true | some .free => true | _ => false
def glB (sc : Scope) (x : Str) : Bool := decide (sc.names.lookup x = some .globalImplicit)
def dbg (x : Str) : Bool := !(x == ("__debug__" : Str)) && !(x == ("__classdict__" : Str))
def notSet : Expr → Bool
  | .Set .. => false
  | _ => true
def plainT : Expr → Bool
  | .UnaryOp .Not _ _ => false | .BoolOp .. => false | .IfExp .. => false | .Compare .. => false | _ => true
def notComp : Expr → Bool
  | .ListComp .. => false | .SetComp .. => false | .DictComp .. => false | _ => true
def tupB : Expr → Bool
  | .Tuple .. => true | _ => false
def listB : Expr → Bool
  | .List .. => true | _ => false
def nameB : Expr → Bool
  | .Name .. => true | _ => false
structure Mc where
  g : Sg
  /-- the level of what may be called -/
  n : Nat
  N : List Str
  sc : Scope
  /-- names whose cells are its own -/
  fc : Str → Bool
  /-- the lambda that came may be called; lambdas may be made -/
  lamOk : Bool := false
  mkOk : Bool := false
/-- plain parameters alone -/
def plainPs (ps : List Str) : Arguments → Bool
  | ⟨[], [x, y], none, [], [], none, []⟩ => decide (ps = [x.arg, y.arg])
  | _ => false
def unstarL : List Expr → Option (List Expr)
  | [.Starred t _] => if notStar t then some [t] else none
  | x :: xs => if notStar x then (unstarL xs).map (x :: ·) else none
  | [] => none
def btys : List (String × String) := [("int", "int"), ("bool", "bool"), ("str", "str"), ("tuple", "tuple"), ("list", "list"), ("dict", "dict")]
/-- comparisons with None alone -/
def nonE : Expr → Bool
  | .Constant .none _ _ => true
  | _ => false
def copOk : Cop → Expr → Bool
  | .isN, e => nonE e
  | .notN, e => nonE e
  | _, _ => true
def copPl : Cop → Bool
  | .isN => false
  | .notN => false
  | _ => true
mutual
def mE (c : Mc) : CE → Expr → Bool
  | .var i => fun e => match e with | .Name x _ => decide (c.N[i]? = some x) && visB c.sc x && dbg x | _ => false
  | .int i => fun e => match e with | .Constant (.int j) _ _ => decide (i = j) | _ => false
  | .str x => fun e => match e with | .Constant (.str y) _ _ => decide (x = y) | _ => false
  | .bl b => fun e => match e with | .Constant (.bool d) _ _ => b == d | _ => false
  | .non => fun e => nonE e
  | .glob k => fun e => match e with | .Name x _ => (match c.g.G k with | some p => decide (p.1 = x) | none => false) && glB c.sc x && dbg x | _ => false
  | .bty y n => fun e => match e with | .Name x _ => decide (x = Str.ofString y) && btys.contains (y, n) && glB c.sc x | _ => false
  | .bin op a b => fun e => match e with | .BinOp e1 o e2 _ => decide (o = op.op) && mE c a e1 && mE c b e2 | _ => false
  | .neg a => fun e => match e with | .UnaryOp .USub e _ => mE c a e | _ => false
  | .nt a => fun e => match e with | .UnaryOp .Not e _ => mE c a e | _ => false
  | .cmp op a b => fun e => match e with | .Compare e1 [o] [e2] _ => decide (o = op.op) && copOk op e2 && !behindInMarks o e2 && mE c a e1 && mE c b e2 | _ => false
  | .chn o1 o2 a b d => fun e => match e with | .Compare e1 [p1, p2] [e2, e3] _ => decide (p1 = o1.op) && decide (p2 = o2.op) && copPl o1 && copPl o2 && !lastMarks [p1, p2] [e2, e3] && mE c a e1 && mE c b e2 && mE c d e3 | _ => false
  | .tv _ => fun _ => false
  | .b1 a => fun e => match e with | .BoolOp _ [e] _ => mE c a e | _ => false
  | .and a b => fun e => match e with | .BoolOp .And (e1 :: e2 :: r) pos => mE c a e1 && mE c b (.BoolOp .And (e2 :: r) pos) | _ => false
  | .or a b => fun e => match e with | .BoolOp .Or (e1 :: e2 :: r) pos => mE c a e1 && mE c b (.BoolOp .Or (e2 :: r) pos) | _ => false
  | .ife t a b => fun e => match e with | .IfExp e1 e2 e3 _ => mT c t e1 && mE c a e2 && mE c b e3 | _ => false
  | .tup es => fun e => match e with | .Tuple l _ _ => mL c es l | _ => false
  | .lst _ es => fun e => match e with | .List l _ => mL c es l | _ => false
  | .ix a i => fun e => match e with | .Subscript e1 e2 _ => notSlice e2 && mE c a e1 && mE c i e2 | _ => false
  | .sl a lo hi => fun e => match e with | .Subscript e1 (.Slice l h none _) _ => mE c a e1 && mO c lo l && mO c hi h | _ => false
  | .fld k a f => fun e => match e with | .Attribute e1 f1 _ => (match c.g.Cs k with | some C => decide (f = f1) && decide (f ∈ C.flds) | none => false) && plainBase e1 && mE c a e1 | _ => false
  | .prop k a => fun e => match e with | .Attribute e1 f1 _ => (match c.g.Ms k with | some p => decide (p.kind = .prop) && decide (p.at_ = f1) && decide (p.fn.ps.length = 1) | none => false) && decide (c.g.lvM k + 1 ≤ c.n) && plainBase e1 && mE c a e1 | _ => false
  | .mcall k o es => fun e => match e with | .Call (.Attribute eo nm ap) l [] cp => (match c.g.Ms k with | some p => decide (p.kind = .meth) && decide (p.at_ = nm) | none => false) && decide (c.g.lvM k ≤ c.n) && plainBase eo && (ap.endLine == cp.line) && noStars l && decide (l.length < 19) && mE c o eo && mL c es l | _ => false
  | .make k sh es ks => fun e => match e with
    | .Call (.Name f _) l kws _ => (match c.g.Ms k with | some p => decide (p.kind = .init) && decide (f = p.cls) && decide (sh ∈ p.fn.shapes) | none => false) && decide (c.g.lvM k + 1 ≤ c.n) && glB c.sc f && dbg f && noStars l && decide (kwNames kws = some sh.ks) && mL c es l && mK c ks kws
    | _ => false
  | .isC k a => fun e => match e with
    | .Call (.Name f _) [x, .Name C _] [] _ => (match c.g.Cs k with | some D => decide (C = D.nm) && D.isi | none => false) && decide (f = ("isinstance" : Str)) && glB c.sc f && glB c.sc C && dbg C && notStar x && mE c a x
    | _ => false
  | .dct ps => fun e => match e with
    | .Dict ks vs _ => mP c ps ks vs && !ks.isEmpty && decide (ks.length ≤ 15)
    | _ => false
  | .callL i es => fun e => match e with
    | .Call (.Name x _) l [] _ => c.lamOk && decide (c.N[i]? = some x) && visB c.sc x && dbg x && noStars l && !l.isEmpty && mL c es l
    | _ => false
  | .callLam k kl a b d ps fr own js body => fun e => match e with
    | .Call (.Name f _) [x, y, z, .Lambda params lb scope _] [] _ => (match c.g.Ls k with | some lf => decide (f = lf.nm) && decide (lf.ps.length = 4) | none => false) && c.mkOk && decide (c.g.lvL k ≤ c.n) && decide (kl + 2 ≤ c.g.lvL k) && glB c.sc f && dbg f && notStar x && notStar y && notStar z &&
        NdefX.nscB (ps ++ fr ++ own) ps fr scope && plainPs ps params && NdefX.ndefB c.sc scope fr && decide (js.map (fun j => c.N[j]?) = fr.map some) && mE c a x && mE c b y && mE c d z &&
        mE { c with n := kl, N := ps ++ fr ++ own, sc := scope, fc := fun _ => false, lamOk := false, mkOk := false } body lb
    | _ => false
  | .call k sh es ks => fun e => match e with
    | .Call (.Name f _) l kws _ => (match c.g.T k with | some fn => decide (f = fn.nm) && decide (sh ∈ fn.shapes) | none => false) && decide (c.g.lv k ≤ c.n) && glB c.sc f && dbg f && noStars l && decide (kwNames kws = some sh.ks) && mL c es l && mK c ks kws
    | _ => false
  | .callB b es => fun e => match e with | .Call (.Name f _) l [] _ => decide (f = Str.ofString b.nm) && glB c.sc f && noStars l && !l.isEmpty && mL c es l | _ => false
  | .callT b es => fun e => match e with | .Call (.Name f _) l [] _ => decide (f = Str.ofString b.nm) && glB c.sc f && noStars l && !l.isEmpty && mL c es l | _ => false
  | .meth m o es => fun e => match e with | .Call (.Attribute eo nm ap) l [] cp => decide (nm = Str.ofString m.nm) && plainBase eo && (ap.endLine == cp.line) && noStars l && decide (l.length < 20) && mE c o eo && mL c es l | _ => false
  | .comp _ L elt tg it d => fun e => match e with
    | .ListComp ee [⟨t, i, ifs, a⟩] scope _ => decide (a = 0) && blkC c.N c.sc scope L && notSet i && mI c it t i && mG { c with sc := relS scope c.sc, fc := fun x => scope.names.lookup x == some .cell, lamOk := false, mkOk := false } (L.map (·.2)) tg t &&
      mC { c with sc := relS scope c.sc, fc := fun x => scope.names.lookup x == some .cell, lamOk := false, mkOk := false } d ifs && mE { c with sc := relS scope c.sc, fc := fun x => scope.names.lookup x == some .cell, lamOk := false, mkOk := false } elt ee
    | _ => false
  | .comp2 _ L L1 elt tg it d tg1 it1 d1 => fun e => match e with
    | .ListComp ee [⟨t, i, ifs, a⟩, ⟨t1, i1, ifs1, a1⟩] scope _ => decide (a = 0) && decide (a1 = 0) && blkC c.N c.sc scope L && L1.all (fun i => (L.map (·.2)).contains i) && notSet i && notSet i1 && mI c it t i && mG { c with sc := relS scope c.sc, fc := fun x => scope.names.lookup x == some .cell, lamOk := false, mkOk := false } (L.map (·.2)) tg t &&
      mC { c with sc := relS scope c.sc, fc := fun x => scope.names.lookup x == some .cell, lamOk := false, mkOk := false } d ifs && mI { c with sc := relS scope c.sc, fc := fun x => scope.names.lookup x == some .cell, lamOk := false, mkOk := false } it1 t1 i1 && mG { c with sc := relS scope c.sc, fc := fun x => scope.names.lookup x == some .cell, lamOk := false, mkOk := false } L1 tg1 t1 &&
      mC { c with sc := relS scope c.sc, fc := fun x => scope.names.lookup x == some .cell, lamOk := false, mkOk := false } d1 ifs1 && mE { c with sc := relS scope c.sc, fc := fun x => scope.names.lookup x == some .cell, lamOk := false, mkOk := false } elt ee
    | _ => false
def mT (c : Mc) : CE → Expr → Bool
  | .nt a => fun e => match e with | .UnaryOp .Not e _ => mT c a e | _ => false
  | .b1 a => fun e => match e with | .BoolOp _ [e] _ => mT c a e | _ => false
  | .and a b => fun e => match e with | .BoolOp .And (e1 :: e2 :: r) pos => mT c a e1 && mT c b (.BoolOp .And (e2 :: r) pos) | _ => false
  | .or a b => fun e => match e with | .BoolOp .Or (e1 :: e2 :: r) pos => mT c a e1 && mT c b (.BoolOp .Or (e2 :: r) pos) | _ => false
  | .cmp op a b => fun e => match e with | .Compare e1 [o] [e2] _ => decide (o = op.op) && copOk op e2 && !behindInMarks o e2 && mE c a e1 && mE c b e2 | _ => false
  | .chn o1 o2 a b d => fun e => match e with | .Compare e1 [p1, p2] [e2, e3] _ => decide (p1 = o1.op) && decide (p2 = o2.op) && copPl o1 && copPl o2 && !lastMarks [p1, p2] [e2, e3] && mE c a e1 && mE c b e2 && mE c d e3 | _ => false
  | .tv a => fun e => plainT e && mE c a e
  | _ => fun _ => false
def mL (c : Mc) : CL → List Expr → Bool
  | .nil => fun l => l.isEmpty
  | .cons e es => fun l => match l with | x :: xs => notStar x && mE c e x && mL c es xs | _ => false
  | .star e es => fun l => match l with | .Starred x _ :: xs => mE c e x && mL c es xs | _ => false
def mP (c : Mc) : CPs → List (Option Expr) → List Expr → Bool
  | .nil => fun ks vs => ks.isEmpty && vs.isEmpty
  | .cons k v r => fun ks vs => match ks, vs with | some x :: ks, y :: vs => mE c k x && mE c v y && mP c r ks vs | _, _ => false
def mK (c : Mc) : CL → List Keyword → Bool
  | .nil => fun l => l.isEmpty
  | .cons e es => fun l => match l with | ⟨_, x, _⟩ :: xs => mE c e x && mK c es xs | _ => false
  | .star _ _ => fun _ => false
def mO (c : Mc) : CO → Option Expr → Bool
  | .none => fun o => o.isNone
  | .some e => fun o => match o with | some x => mE c e x | _ => false
def mC (c : Mc) : CO → List Expr → Bool
  | .none => fun o => o.isEmpty
  | .some e => fun o => match o with | [x] => mT c e x | _ => false
def mG (c : Mc) (L : List Nat) : CT → Expr → Bool
  | .name i => fun e => match e with | .Name x _ => decide (c.N[i]? = some x) && (decide (c.sc.names.lookup x = some .local) || (decide (c.sc.names.lookup x = some .cell) && c.fc x)) && L.contains i | _ => false
  | .tup ts => fun e => match e with | .Tuple l _ _ => mGs c L ts l | _ => false
  | .tupS ts => fun e => match e with | .Tuple l _ _ => (match unstarL l with | some l' => mGs c L ts l' | none => false) | _ => false
  | .sub o i => fun e => match e with | .Subscript e1 e2 _ => notSlice e2 && mE c o e1 && mE c i e2 | _ => false
  | .fld k o f => fun e => match e with | .Attribute e1 f1 _ => (match c.g.Cs k with | some C => decide (f = f1) && decide (f ∈ C.flds) | none => false) && mE c o e1 | _ => false
def mGs (c : Mc) (L : List Nat) : CTs → List Expr → Bool
  | .nil => fun l => l.isEmpty
  | .cons t ts => fun l => match l with | x :: xs => notStar x && mG c L t x && mGs c L ts xs | _ => false
def mI (c : Mc) : CI → Expr → Expr → Bool
  | .val e => fun _ x => mE c e x
  | .enum es => fun t x => match t, x with | .Tuple .., .Call (.Name f _) [y] [] _ => decide (f = ("enumerate" : Str)) && glB c.sc f && notStar y && mL c es [y] | _, _ => false
  | .zip es => fun t x => match t, x with | .Tuple .., .Call (.Name f _) [y, z] [] _ => decide (f = ("zip" : Str)) && glB c.sc f && notStar y && notStar z && mL c es [y, z] | _, _ => false
  | .rng es => fun _ x => match x with | .Call (.Name f _) l [] _ => decide (f = ("range" : Str)) && glB c.sc f && noStars l && (decide (l.length = 1) || decide (l.length = 2)) && mL c es l | _ => false
end
/-- what a pair of displays is stored by -/
def swNames (sc : Scope) (ts : List Expr) : List Str := ts.filterMap fun
      | .Name id pos => if sc.names.lookup id == some .local && pos.line == (ts.head?.map (·.pos.line)).getD 0 then some id else none
      | _ => none
def isStar (vs : List Expr) : Bool := vs.any fun | .Starred .. => true | _ => false
def sws (sc : Scope) (ts vs : List Expr) : Option (Option (List Str)) :=
  if (!(ts.length == 2 || ts.length == 3) || vs.length != ts.length) = true then some none
  else if isStar vs = true then some none
  else if ((swNames sc ts).length != ts.length || (swNames sc ts).eraseDups.length != (swNames sc ts).length) = true then some none
  else if vs.all (foldedForSure 8) = true then some none
  else if vs.all (constantsAlone 8) = true then none
  else some (some (swNames sc ts))
/-- whether a comprehension's list goes to the name at once -/
def swc (sc scope : Scope) (y : Str) (py pos : Pos) : Bool :=
  sc.names.lookup y == some .local && py.line == pos.line && !(scope.names.any fun (n, k) => n == y && (k == .local || k == .cell))
def asgOk (sc : Scope) : Expr → Expr → Bool
  | .Name y py, .ListComp _ _ scope pos => !swc sc scope y py pos
  | .Tuple ts _ _, .Tuple vs _ _ => decide (sws sc ts vs = some none)
  | t, e => notComp e && !(tupB t && tupB e) && !listB t
def compB1 : CE → Bool
  | .comp .. => true
  | .comp2 .. => true
  | _ => false
mutual
def mS (c : Mc) (L : List Nat) : CS → Stmt → Bool
  | .expr e => fun s => match s with | .Expr x _ => notComp x && mE c e x | _ => false
  | .asg t e => fun s => match s with | .Assign [tg] x _ => notStar tg && asgOk c.sc tg x && mG c L t tg && mE c e x | _ => false
  | .setc i e => fun s => match s with | .Assign [.Name y py] (.ListComp ee gs scope pos) sp => compB1 e && swc c.sc scope y py pos && decide (c.N[i]? = some y) && L.contains i && mE c e (.ListComp ee gs scope pos) | _ => false
  | .par2 i j es => fun s => match s with
    | .Assign [.Tuple [.Name x px, .Name y py] kt pt] (.Tuple [a, b] k2 pt2) _ => decide (c.N[i]? = some x) && decide (c.N[j]? = some y) && decide (i ≠ j) && decide (c.sc.names.lookup x = some .local) && decide (c.sc.names.lookup y = some .local) && decide (sws c.sc [.Name x px, .Name y py] [a, b] = some (some [x, y])) && L.contains i && L.contains j && mL c es [a, b]
    | _ => false
  | .par3 i j k es => fun s => match s with
    | .Assign [.Tuple [.Name x px, .Name y py, .Name z pz] kt pt] (.Tuple [a, b, d] k2 pt2) _ => decide (c.N[i]? = some x) && decide (c.N[j]? = some y) && decide (c.N[k]? = some z) && decide (i ≠ j) && decide (i ≠ k) && decide (j ≠ k) && decide (c.sc.names.lookup x = some .local) && decide (c.sc.names.lookup y = some .local) && decide (c.sc.names.lookup z = some .local) &&
        decide (sws c.sc [.Name x px, .Name y py, .Name z pz] [a, b, d] = some (some [x, y, z])) && L.contains i && L.contains j && L.contains k && mL c es [a, b, d]
    | _ => false
  | .ret e => fun s => match s with | .Return (some x) _ => mE c e x | _ => false
  | .retN => fun s => match s with | .Return none _ => true | _ => false
  | .ifs t a b => fun s => match s with | .If x sa sb _ => mT c t x && mB c L a sa && mB c L b sb | _ => false
  | .loop t it b => fun s => match s with | .For tg i body [] _ => notSet i && mI c it tg i && mG c L t tg && mB c L b body | _ => false
  | .whl t b => fun s => match s with | .While x body [] _ => mT c t x && mB c L b body | _ => false
  | .pass => fun s => match s with | .Pass _ => true | _ => false
  | .brk => fun s => match s with | .Break _ => true | _ => false
  | .cont => fun s => match s with | .Continue _ => true | _ => false
  | .never => fun _ => true
  | .doc => fun s => match s with | .Expr (.Constant (.str _) _ _) _ => true | _ => false
def mB (c : Mc) (L : List Nat) : CB → List Stmt → Bool
  | .nil => fun l => l.isEmpty
  | .cons s ss => fun l => match l with | x :: xs => mS c L s x && mB c L ss xs | _ => false
  | .frz _ ss => fun l => mB c L ss l
end
end Dp

namespace Dp
open PySem PySem.Spec L2
open PyProof.Rows hiding St

def bltNames : List String := ["isinstance", "len", "abs", "max", "min", "sum", "all", "any", "divmod", "int", "bool", "str", "tuple", "list", "dict", "range", "enumerate", "zip", "sorted"]
structure CtxOk (X : Cx) (Wx : WX) (c : Mc) : Prop where
  N : X.N = c.N
  sc : X.env.scope = c.sc
  kind : c.sc.kind = .function
  calm : X.calm = true
  nd : X.N.Nodup
  fc : ∀ x, c.fc x = true → X.fn x = true
  room : Room c.n X.A
  tk : Takes X Wx
  tab : ∀ k fn, c.g.T k = some fn → c.g.lv k ≤ c.n → FnAt X (c.g.lv k) fn.nm fn.toFn
  lamIn : c.lamOk = true → ∀ l, c.g.lam = some l → ∃ (k : Nat) (f c' : Addr) (q : Str) (cs : List PV) (vs : List V), l.1 = .clo f c' q cs vs ∧ k ≤ c.n ∧ LamIn X k f c' q cs vs l.2
  mkl : c.mkOk = true → LamMk X
  lamd : ∀ k lf, c.g.Ls k = some lf → c.g.lvL k ≤ c.n → LamDef X.prog X.w X.K X.mg X.base (c.g.lvL k) lf.nm lf.ps lf.m
  isc : ∀ i C, c.g.Cs i = some C → C.isi = true → IsCls X.K X.mg C.nm C.oth
  glo : ∀ i p, c.g.G i = some p → ∃ u w, X.mg p.1 = some u ∧ RelV w u ∧ Wr (zs X) p.2 w
  blt : ∀ x ∈ bltNames, X.mg (Str.ofString x) = none
  cls : ∀ i C, c.g.Cs i = some C → ClsAt X C.nm C.flds
  prp : ∀ k p, c.g.Ms k = some p → p.kind = .prop → c.g.lvM k ≤ c.n → PropAt X (c.g.lvM k) p.cls p.at_ p.fn
  met : ∀ k p, c.g.Ms k = some p → p.kind = .meth → c.g.lvM k ≤ c.n → MethAt X (c.g.lvM k) p.cls p.at_ p.fn
  ini : ∀ k p, c.g.Ms k = some p → p.kind = .init → c.g.lvM k ≤ c.n → MakeAt X (c.g.lvM k) p.cls p.fn
section
variable {X : Cx} {Wx : WX} {c : Mc}
theorem CtxOk.hu (k : CtxOk X Wx c) : X.A.units + 65 < cLine := by
  have := k.room.un
  omega
theorem CtxOk.gl (k : CtxOk X Wx c) {x : Str} (h : glB c.sc x = true) : Gl X x := by
  show X.env.scope.names.lookup x = some .globalImplicit
  rw [k.sc]
  exact of_decide_eq_true h
theorem CtxOk.vis (k : CtxOk X Wx c) {x : Str} (h : visB c.sc x = true) : Vis X.env.scope x := by
  unfold visB at h
  rw [k.sc]
  split at h
  · exact .inl (by assumption)
  · exact .inr (.inl (by assumption))
  · exact .inr (.inr (by assumption))
  · cases h
theorem dbg_1 {x : Str} (h : dbg x = true) : (x == ("__debug__" : Str)) = false := by
  unfold dbg at h
  rw [Bool.and_eq_true] at h
  simpa using h.1
theorem dbg_2 {x : Str} (h : dbg x = true) : (x == ("__classdict__" : Str)) = false := by
  unfold dbg at h
  rw [Bool.and_eq_true] at h
  simpa using h.2
theorem CtxOk.blk (k : CtxOk X Wx c) {scope : Scope} {L : List (Str × Nat)} (hb : BlkOk X.N X.env.scope scope L) (s : Shared) (H : Hp) (C : Addr) (cl : List (Str × Addr)) (fp : List Addr) :
    CtxOk (X.blk s H scope (compEnvC scope cl C X.env) fp) wFalse { c with sc := relS scope c.sc, fc := fun x => scope.names.lookup x == some .cell, lamOk := false, mkOk := false } where
  N := k.N
  sc := by
    show relS scope X.env.scope = relS scope c.sc
    rw [k.sc]
  kind := hb.kind
  calm := k.calm
  nd := k.nd
  fc := fun x h => h
  room := k.room
  tk := takes0
  tab := fun i fn h1 h2 => ⟨(k.tab i fn h1 h2).ex⟩
  lamIn := fun h => nomatch h
  mkl := fun h => nomatch h
  lamd := k.lamd
  isc := k.isc
  glo := k.glo
  blt := k.blt
  cls := fun i C h => ⟨(k.cls i C h).ex⟩
  prp := fun i p h1 h2 h3 => ⟨(k.prp i p h1 h2 h3).ex⟩
  met := fun i p h1 h2 h3 => ⟨(k.met i p h1 h2 h3).ex⟩
  ini := fun i p h1 h2 h3 => ⟨(k.ini i p h1 h2 h3).ex⟩

/-! ### the tables of operators -/
theorem op_ok (k : CtxOk X Wx c) (o : Bop) : Op2 X Wx (binaryOp o.op) o.sem := by
  cases o
  · exact o_add
  · exact o_sub
  · exact o_mul
  · exact o_mod
  · exact o_fdiv
  · exact o_pow
  · exact o_mulO
  · exact o_addO
theorem cop_ok (k : CtxOk X Wx c) (o : Cop) (ho : o ≠ .isN) (ho' : o ≠ .notN) : Op2 X Wx (compareOp o.op) o.sem := by
  have hu := k.hu
  cases o
  · exact o_eq (by omega)
  · exact o_ne (by omega)
  · exact o_lt
  · exact o_le
  · exact o_gt
  · exact o_ge
  · exact o_in hu
  · exact o_notIn hu
  · exact absurd rfl ho
  · exact absurd rfl ho'
def btn (f : Bf) : Prop := bootBuiltins (Str.ofString f.nm) = some (.builtin f.nm) ∧ Str.ofString f.nm ≠ "__name__" ∧ (Str.ofString f.nm == ("__debug__" : Str)) = false ∧ f.nm ∈ bltNames
theorem btn_ok (f : Bf) : btn f := by cases f <;> (unfold btn; decide +kernel)
theorem bf_ok (k : CtxOk X Wx c) (f : Bf) : OpN X Wx (fun us => call (.builtin f.nm) us) f.sem := by
  cases f
  · exact o_isi
  · exact o_len
  · exact o_abs
  · exact o_max k.calm
  · exact o_min k.calm
  · exact o_sum k.calm
  · exact o_all k.calm
  · exact o_any k.calm
  · exact o_divmod
  · exact o_sorted
def btt (f : Bt) : Prop := bootBuiltins (Str.ofString f.nm) = some (.type f.nm) ∧ Str.ofString f.nm ≠ "__name__" ∧ (Str.ofString f.nm == ("__debug__" : Str)) = false ∧ f.nm ∈ bltNames
theorem btt_ok (f : Bt) : btt f := by cases f <;> (unfold btt; decide +kernel)
theorem bt_ok (k : CtxOk X Wx c) (f : Bt) : OpN X Wx (fun us => call (.type f.nm) us) f.sem := by
  cases f
  · exact o_int
  · exact o_str
  · exact o_tup
  · exact o_lst
  · exact o_dict k.calm
  · exact o_lstO
def btyp (p : String × String) : Prop := bootBuiltins (Str.ofString p.1) = some (.type p.2) ∧ Str.ofString p.1 ≠ "__name__" ∧ (Str.ofString p.1 == ("__debug__" : Str)) = false ∧ p.1 ∈ bltNames
theorem btyp_ok : ∀ p ∈ btys, btyp p := by unfold btyp; decide +kernel
structure MtOk (m : Mt) (id : String) : Prop where
  pa : PlainAttrs m.T
  sl : Slot m.T (Str.ofString m.nm) id
  ty : typeOf (.builtin id) = pure (.type "method_descriptor")
theorem mt_ok (k : CtxOk X Wx c) (m : Mt) : ∃ id, MtOk m id ∧ OpM X Wx id m.sem := by
  cases m
  · exact ⟨_, ⟨F.plainAttrs_list, F.slot_list_append, F.type_list_append⟩, m_append⟩
  · exact ⟨_, ⟨F.plainAttrs_list, F.slot_list_extend, F.type_list_extend⟩, m_extend⟩
  · exact ⟨_, ⟨F.plainAttrs_list, F.slot_list_pop, F.type_list_pop⟩, m_pop⟩
  · exact ⟨_, ⟨F.plainAttrs_list, F.slot_list_index, F.type_list_index⟩, m_index k.hu⟩
  · exact ⟨_, ⟨F.plainAttrs_str, F.slot_str_split, F.type_str_split⟩, m_split⟩
  · exact ⟨_, ⟨F.plainAttrs_str, F.slot_str_join, F.type_str_join⟩, m_join⟩
  · exact ⟨_, ⟨F.plainAttrs_dict, F.slot_dict_get, F.type_dict_get⟩, m_get (by have := k.hu; omega)⟩
  · exact ⟨_, ⟨F.plainAttrs_tuple, F.slot_tuple_index, F.type_tuple_index⟩, m_indexT⟩
/-- is None -/
theorem nonE_some {e : Expr} (h : nonE e = true) : ∃ j p, e = .Constant .none j p := by
  unfold nonE at h
  split at h
  · exact ⟨_, _, rfl⟩
  · cases h
theorem isNon_ok {Z F H px x} (r : Rep Z F H px x) : decide (x = V.non) = isNon px := by
  cases r <;> rfl
theorem o_isN : ∀ (pins : List (Addr × Obj)) (s : Shared) (σ : St) (H : Hp) (x y : V) (v u : Value) (Q : VK) (F : Addr → Prop) (S : Stt) (px py : PV), Inv X pins σ H s → RelV x v → RelV y u → W (zs X) F S H → Rep (zs X) F H px x → Rep (zs X) F H py y → py = .non →
    (vIsN px py).run S (Pv (zs X) F S H Q) (Pw (zs X) F S H [] σ Wx) → wpAny (model X.prog X.w) X.A (compareOp .Is v u) (EP X pins σ Q) X.xe s := fun pins s σ H x y v u Q F S px py I rx ry w rpx rpy e q => by
  subst e
  cases rpy
  refine op_isN pins s σ H x .non v u Q I rx ry ⟨rfl, ?_⟩
  rw [isNon_ok rpx]
  exact q F H _ (Nxt.refl w) (.bl _)
theorem o_notN : ∀ (pins : List (Addr × Obj)) (s : Shared) (σ : St) (H : Hp) (x y : V) (v u : Value) (Q : VK) (F : Addr → Prop) (S : Stt) (px py : PV), Inv X pins σ H s → RelV x v → RelV y u → W (zs X) F S H → Rep (zs X) F H px x → Rep (zs X) F H py y → py = .non →
    (vNotN px py).run S (Pv (zs X) F S H Q) (Pw (zs X) F S H [] σ Wx) → wpAny (model X.prog X.w) X.A (compareOp .IsNot v u) (EP X pins σ Q) X.xe s := fun pins s σ H x y v u Q F S px py I rx ry w rpx rpy e q => by
  subst e
  cases rpy
  refine op_notN pins s σ H x .non v u Q I rx ry ⟨rfl, ?_⟩
  rw [isNon_ok rpx]
  exact q F H _ (Nxt.refl w) (.bl _)
end
end Dp

namespace Dp
open PySem PySem.Spec L2
open PyProof.Rows hiding St

theorem assignEach_not {e : Expr} {es : List Expr} {env : Env} (h : notStar e = true) : assignEach (e :: es) env = (false, assign e env) :: assignEach es env := by
  cases e <;> first | rfl | cases h
theorem fold_ok {iter : Expr} (h : notSet iter = true) (env : Env) (x : Value) : foldedSetIterable iter env x = pure x := by
  cases iter <;> first | rfl | cases h
theorem truth_ok {e : Expr} (h : plainT e = true) (env : Env) (whole : Sem Value) : isTrue e env whole = (do let v ← whole; standAt e.pos; holding [v] (truthy v)) := by
  cases e with
  | UnaryOp op x p => cases op <;> first | rfl | cases h
  | _ => first | rfl | cases h
theorem CtxOk.tblt {X Wx c} (k : CtxOk X Wx c) (f : Bt) : X.mg (Str.ofString f.nm) = none := k.blt _ (btt_ok f).2.2.2
theorem CtxOk.bblt {X Wx c} (k : CtxOk X Wx c) (f : Bf) : X.mg (Str.ofString f.nm) = none := k.blt _ (btn_ok f).2.2.2
theorem cmp_isN {X Wx} {a : Expr} {ma : En → M PV} {j : Nat} {p pos : Pos} (ha : SE X Wx a ma) : SE X Wx (.Compare a [.Is] [.Constant .none j p] pos) (fun env => bnd (ma env) fun x => vIsN x .non) :=
  .mk fun pins s σ H F S env Q I er w q => wpAny_Compare1 (two ha (s_non (Wx := Wx)) I er w (R := fun px py S2 => py = .non ∧ (vIsN px py).run S2 (Pv (zs X) F S H Q) (Pw (zs X) F S H [] σ Wx)) ((ma env).mono (fun _ _ q => ⟨rfl, q⟩) (fun _ _ q => q) q) fun v u s2 x y px py F2 S2 H2 I2 r1 r2 n rp1 rp2 q2 =>
    o_isN pins s2 σ H2 x y v u Q F2 S2 px py I2 r1 r2 n.w rp1 rp2 q2.1 ((vIsN px py).mono (fun _ _ q => Pv.nxt n q) (fun _ _ q => Pw.nxt n q) q2.2)) rfl
theorem cmp_notN {X Wx} {a : Expr} {ma : En → M PV} {j : Nat} {p pos : Pos} (ha : SE X Wx a ma) : SE X Wx (.Compare a [.IsNot] [.Constant .none j p] pos) (fun env => bnd (ma env) fun x => vNotN x .non) :=
  .mk fun pins s σ H F S env Q I er w q => wpAny_Compare1 (two ha (s_non (Wx := Wx)) I er w (R := fun px py S2 => py = .non ∧ (vNotN px py).run S2 (Pv (zs X) F S H Q) (Pw (zs X) F S H [] σ Wx)) ((ma env).mono (fun _ _ q => ⟨rfl, q⟩) (fun _ _ q => q) q) fun v u s2 x y px py F2 S2 H2 I2 r1 r2 n rp1 rp2 q2 =>
    o_notN pins s2 σ H2 x y v u Q F2 S2 px py I2 r1 r2 n.w rp1 rp2 q2.1 ((vNotN px py).mono (fun _ _ q => Pv.nxt n q) (fun _ _ q => Pw.nxt n q) q2.2)) rfl
theorem Compare_arm {left : Expr} {op : CmpOp} {e : Expr} {pos : Pos} (env : Env) : True := trivial
theorem tcmp_isN {X Wx} {a : Expr} {ma : En → M PV} {j : Nat} {p pos : Pos} (ha : SE X Wx a ma) : STe X Wx (.Compare a [.Is] [.Constant .none j p] pos) (fun env => bnd (ma env) fun x => bnd (vIsN x .non) vTruth) :=
  .mk fun pins s σ H F S env Q I er w q => by
    refine wpAny_isTrue_Compare1 (two ha (s_non (Wx := Wx)) I er w (R := fun px py S2 => py = .non ∧ Pb (zs X) F S H Q (isNon px) S2) ((ma env).mono (fun _ _ q => ⟨rfl, q⟩) (fun _ _ q => q) q) fun v u s2 x y px py F2 S2 H2 I2 r1 r2 n rp1 rp2 q2 => ?_) rfl
    refine thn (o_isN (Wx := Wx) pins s2 σ H2 x y v u (fun z H3 => z = .bl (isNon px) ∧ Q (isNon px) H3) F2 S2 px py I2 r1 r2 n.w rp1 rp2 q2.1 (fun F3 H3 z n3 r3 => ?_)) fun d s3 ⟨z, H3, I3, r3, e, q3⟩ => ?_
    · cases r3; exact ⟨rfl, q2.2 F3 H3 (n.trans n3)⟩
    · subst e; cases r3; exact wpAny_truthy_bool ⟨H3, I3, q3⟩
theorem tcmp_notN {X Wx} {a : Expr} {ma : En → M PV} {j : Nat} {p pos : Pos} (ha : SE X Wx a ma) : STe X Wx (.Compare a [.IsNot] [.Constant .none j p] pos) (fun env => bnd (ma env) fun x => bnd (vNotN x .non) vTruth) :=
  .mk fun pins s σ H F S env Q I er w q => by
    refine wpAny_isTrue_Compare1 (two ha (s_non (Wx := Wx)) I er w (R := fun px py S2 => py = .non ∧ Pb (zs X) F S H Q (!isNon px) S2) ((ma env).mono (fun _ _ q => ⟨rfl, q⟩) (fun _ _ q => q) q) fun v u s2 x y px py F2 S2 H2 I2 r1 r2 n rp1 rp2 q2 => ?_) rfl
    refine thn (o_notN (Wx := Wx) pins s2 σ H2 x y v u (fun z H3 => z = .bl (!isNon px) ∧ Q (!isNon px) H3) F2 S2 px py I2 r1 r2 n.w rp1 rp2 q2.1 (fun F3 H3 z n3 r3 => ?_)) fun d s3 ⟨z, H3, I3, r3, e, q3⟩ => ?_
    · cases r3; exact ⟨rfl, q2.2 F3 H3 (n.trans n3)⟩
    · subst e; cases r3; exact wpAny_truthy_bool ⟨H3, I3, q3⟩
theorem non_of {c : Mc} {b : CE} {j : Nat} {p : Pos} (h : mE c b (.Constant .none j p) = true) : b = .non := by
  cases b <;> first | rfl | (simp [mE] at h)
theorem copPl_ne {o : Cop} (h : copPl o = true) : o ≠ .isN ∧ o ≠ .notN := by cases o <;> simp [copPl] at h ⊢
theorem lenL_ok {c : Mc} : ∀ {es : CL} {l : List Expr}, mL c es l = true → lenL es = l.length
  | .nil, l, h => by
    simp only [mL] at h
    cases l with
    | nil => rfl
    | cons => simp at h
  | .cons e es, l, h => by
    simp only [mL] at h
    split at h
    · simp only [Bool.and_eq_true] at h
      simp only [lenL, List.length_cons, lenL_ok h.2]
    · cases h
  | .star e es, l, h => by
    simp only [mL] at h
    split at h
    · simp only [Bool.and_eq_true] at h
      simp only [lenL, List.length_cons, lenL_ok h.2]
    · cases h
theorem ts_ok {c : Mc} {L : List Nat} {env : Env} : ∀ {ts : CTs} {l : List Expr}, mGs c L ts l = true → (assignEach l env).length = lenTs ts ∧ (assignEach l env).findIdx? (·.1) = none
  | .nil, l, h => by
    simp only [mGs] at h
    cases l with
    | nil => exact ⟨rfl, rfl⟩
    | cons => cases h
  | .cons t ts, l, h => by
    simp only [mGs] at h; split at h
    · simp only [Bool.and_eq_true] at h
      obtain ⟨h1, h2⟩ := ts_ok (env := env) h.2
      rw [assignEach_not h.1.1]
      refine ⟨by simp only [List.length_cons, h1, lenTs], ?_⟩
      rw [List.findIdx?_cons]
      simp [h2]
    · cases h
theorem ends1 {X : Cx} (own : Bool) : Ends1 X (fnl own) := by
  cases own
  · exact e_frz
  · exact e_own
theorem snd_call {X : Cx} {Wx : WX} {c : Mc} {i : Nat} {sh : Shape} {es ks : CL} {e : Expr} (k : CtxOk X Wx c) (h : mE c (.call i sh es ks) e = true) (hL : ∀ l, mL c es l = true → SA X Wx l (dL c.g es)) (hK : ∀ l, mK c ks l = true → SK X Wx l (dL c.g ks)) : SE X Wx e (dE c.g (.call i sh es ks)) := by
  simp only [mE] at h; split at h
  · rename_i f p l kws pos
    simp only [Bool.and_eq_true, decide_eq_true_eq] at h
    obtain ⟨⟨⟨⟨⟨⟨⟨h1, h2⟩, h3⟩, h4⟩, h5⟩, h6⟩, h7⟩, h8⟩ := h
    cases e : c.g.T i with
    | none => rw [e] at h1; cases h1
    | some fn =>
      rw [e] at h1
      simp only [Bool.and_eq_true, decide_eq_true_eq] at h1
      obtain ⟨h1, h9⟩ := h1
      subst h1
      have hd : dE c.g (.call i sh es ks) = fun env => bnd (dL c.g es env) fun xs => bnd (dL c.g ks env) fun ys => callFn fn.toFn sh xs ys := by simp only [dE, e]
      rw [hd]
      have FA := k.tab i fn e h2
      have hr : Room (c.g.lv i) X.A := k.room.mono h2
      cases l with
      | nil =>
        cases es with
        | nil => exact s_call0 FA hr k.tk (k.gl h3) h9 (dbg_1 h4) (hK _ h8) h6
        | cons => simp [mL] at h7
        | star => simp [mL] at h7
      | cons x xs => exact s_call FA hr k.tk (k.gl h3) h9 (dbg_1 h4) (hL _ h7) h5 (hK _ h8) h6
  · cases h
theorem snd_fld {X : Cx} {Wx : WX} {c : Mc} {i : Nat} {a : CE} {f : Str} {e : Expr} (k : CtxOk X Wx c) (h : mE c (.fld i a f) e = true) (hE : ∀ l, mE c a l = true → SE X Wx l (dE c.g a)) : SE X Wx e (dE c.g (.fld i a f)) := by
  simp only [mE] at h; split at h
  · simp only [Bool.and_eq_true] at h
    obtain ⟨⟨h1, h2⟩, h3⟩ := h
    cases e : c.g.Cs i with
    | none => rw [e] at h1; cases h1
    | some C =>
      rw [e] at h1
      simp only [Bool.and_eq_true, decide_eq_true_eq] at h1
      obtain ⟨rfl, h5⟩ := h1
      have hd : dE c.g (.fld i a f) = fun env => bnd (dE c.g a env) (vFld C.nm f) := by simp only [dE, e]
      rw [hd]
      exact s_fld (k.cls i C e) h5 (hE _ h3) h2
  · cases h
theorem snd_prop {X : Cx} {Wx : WX} {c : Mc} {i : Nat} {a : CE} {e : Expr} (k : CtxOk X Wx c) (h : mE c (.prop i a) e = true) (hE : ∀ l, mE c a l = true → SE X Wx l (dE c.g a)) : SE X Wx e (dE c.g (.prop i a)) := by
  simp only [mE] at h; split at h
  · simp only [Bool.and_eq_true, decide_eq_true_eq] at h
    obtain ⟨⟨⟨h1, h2⟩, h3⟩, h4⟩ := h
    cases e : c.g.Ms i with
    | none => rw [e] at h1; cases h1
    | some p =>
      rw [e] at h1
      simp only [Bool.and_eq_true, decide_eq_true_eq] at h1
      obtain ⟨⟨h5, rfl⟩, h7⟩ := h1
      have hd : dE c.g (.prop i a) = fun env => bnd (dE c.g a env) (vProp p.cls p.fn.m) := by simp only [dE, e]
      rw [hd]
      exact s_prop (k.prp i p e h5 (by omega)) (k.room.mono h2) (hE _ h4) h3 h7
  · cases h
theorem snd_mcall {X : Cx} {Wx : WX} {c : Mc} {i : Nat} {o : CE} {es : CL} {e : Expr} (k : CtxOk X Wx c) (h : mE c (.mcall i o es) e = true) (hE : ∀ l, mE c o l = true → SE X Wx l (dE c.g o)) (hL : ∀ l, mL c es l = true → SA X Wx l (dL c.g es)) : SE X Wx e (dE c.g (.mcall i o es)) := by
  simp only [mE] at h; split at h
  · rename_i eo nm ap l cp
    simp only [Bool.and_eq_true, decide_eq_true_eq] at h
    obtain ⟨⟨⟨⟨⟨⟨⟨h1, h2⟩, h3⟩, h4⟩, h5⟩, h6⟩, h7⟩, h8⟩ := h
    cases e : c.g.Ms i with
    | none => rw [e] at h1; cases h1
    | some p =>
      rw [e] at h1
      simp only [Bool.and_eq_true, decide_eq_true_eq] at h1
      obtain ⟨h9, rfl⟩ := h1
      have hr : Room (c.g.lvM i) X.A := k.room.mono h2
      cases l with
      | nil =>
        cases es with
        | nil =>
          have hd : dE c.g (.mcall i o .nil) = fun env => bnd (dE c.g o env) fun x => bnd (isIns p.cls p.at_ x) fun _ => bnd (guard ([x].length = p.fn.ps.length)) fun _ => p.fn.m [x] := by simp only [dE, e, dL]; rfl
          rw [hd]
          exact s_mcall0 (k.met i p e h9 h2) hr k.tk (hE _ h7) h3 h4
        | cons => simp [mL] at h8
        | star => simp [mL] at h8
      | cons x xs =>
        have hd : dE c.g (.mcall i o es) = fun env => bnd (dE c.g o env) fun x => bnd (isIns p.cls p.at_ x) fun _ => bnd (dL c.g es env) fun xs => bnd (guard ((x :: xs).length = p.fn.ps.length)) fun _ => p.fn.m (x :: xs) := by simp only [dE, e]
        rw [hd]
        exact s_mcall (k.met i p e h9 h2) hr k.tk (hE _ h7) (hL _ h8) h3 h5 (by simp at h6; omega) h4
  · cases h
theorem snd_make {X : Cx} {Wx : WX} {c : Mc} {i : Nat} {sh : Shape} {es ks : CL} {e : Expr} (k : CtxOk X Wx c) (h : mE c (.make i sh es ks) e = true) (hL : ∀ l, mL c es l = true → SA X Wx l (dL c.g es)) (hK : ∀ l, mK c ks l = true → SK X Wx l (dL c.g ks)) : SE X Wx e (dE c.g (.make i sh es ks)) := by
  simp only [mE] at h; split at h
  · rename_i f p0 l kws pos
    simp only [Bool.and_eq_true, decide_eq_true_eq] at h
    obtain ⟨⟨⟨⟨⟨⟨⟨h1, h2⟩, h3⟩, h4⟩, h5⟩, h6⟩, h7⟩, h8⟩ := h
    cases e : c.g.Ms i with
    | none => rw [e] at h1; cases h1
    | some p =>
      rw [e] at h1
      simp only [Bool.and_eq_true, decide_eq_true_eq] at h1
      obtain ⟨⟨h9, rfl⟩, h10⟩ := h1
      have hd : dE c.g (.make i sh es ks) = fun env => bnd (dL c.g es env) fun xs => bnd (dL c.g ks env) fun ys => makeP p.cls p.fn sh xs ys := by simp only [dE, e]
      rw [hd]
      have MA := k.ini i p e h9 (by omega)
      cases l with
      | nil =>
        cases es with
        | nil => exact s_make0 MA (k.room.mono h2) k.tk (k.gl h3) h10 (dbg_1 h4) (hK _ h8) h6
        | cons => simp [mL] at h7
        | star => simp [mL] at h7
      | cons x xs => exact s_make MA (k.room.mono h2) k.tk (k.gl h3) h10 (dbg_1 h4) (hL _ h7) h5 (hK _ h8) h6
  · cases h
theorem snd_gfld {X : Cx} {Wx : WX} {c : Mc} {L : List Nat} {i : Nat} {o : CE} {f : Str} {e : Expr} (k : CtxOk X Wx c) (h : mG c L (.fld i o f) e = true) (hE : ∀ l, mE c o l = true → SE X Wx l (dE c.g o)) : SG X Wx L e (dG c.g (.fld i o f)) := by
  simp only [mG] at h; split at h
  · simp only [Bool.and_eq_true] at h
    obtain ⟨h1, h3⟩ := h
    cases e : c.g.Cs i with
    | none => rw [e] at h1; cases h1
    | some C =>
      rw [e] at h1
      simp only [Bool.and_eq_true, decide_eq_true_eq] at h1
      obtain ⟨rfl, h5⟩ := h1
      have hd : dG c.g (.fld i o f) = fun v env => bnd (dE c.g o env) fun a => bnd (vPutF C.nm f v a) fun _ => ret env := by simp only [dG, e]
      rw [hd]
      exact g_fld (k.cls i C e) h5 (hE _ h3)
  · cases h
theorem snd_callB {X : Cx} {Wx : WX} {c : Mc} {b : Bf} {es : CL} {e : Expr} (k : CtxOk X Wx c) (h : mE c (.callB b es) e = true) (hL : ∀ l, mL c es l = true → SA X Wx l (dL c.g es)) : SE X Wx e (dE c.g (.callB b es)) := by
  simp only [mE] at h; split at h
  · rename_i f p l pos
    simp only [Bool.and_eq_true, decide_eq_true_eq, Bool.not_eq_true'] at h
    obtain ⟨⟨⟨⟨h1, h2⟩, h3⟩, h4⟩, h5⟩ := h
    subst h1
    cases l with
    | nil => cases h4
    | cons x xs => exact s_callB (bf_ok k b) (k.gl h2) (k.bblt b) (btn_ok b).1 (hL _ h5) h3 (btn_ok b).2.1 (btn_ok b).2.2.1
  · cases h
theorem snd_isC {X : Cx} {Wx : WX} {c : Mc} {i : Nat} {a : CE} {e : Expr} (k : CtxOk X Wx c) (h : mE c (.isC i a) e = true) (hE : ∀ l, mE c a l = true → SE X Wx l (dE c.g a)) : SE X Wx e (dE c.g (.isC i a)) := by
  simp only [mE] at h; split at h
  · simp only [Bool.and_eq_true, decide_eq_true_eq] at h
    obtain ⟨⟨⟨⟨⟨⟨h1, h2⟩, h3⟩, h4⟩, h5⟩, h6⟩, h7⟩ := h
    cases e : c.g.Cs i with
    | none => rw [e] at h1; cases h1
    | some C =>
      rw [e] at h1
      simp only [Bool.and_eq_true, decide_eq_true_eq] at h1
      obtain ⟨rfl, h8⟩ := h1
      subst h2
      have hd : dE c.g (.isC i a) = fun env => bnd (dE c.g a env) (vIsC C.nm C.oth) := by simp only [dE, e]
      rw [hd]
      exact s_isC (k.isc i C e h8) (k.gl h3) (k.blt "isinstance" (by decide)) (k.gl h4) (dbg_1 h5) (hE _ h7) h6
  · cases h
theorem keys_some {ks : List (Option Expr)} (h : ks.all (·.isSome) = true) : ∃ l : List Expr, ks = l.map some := by
  induction ks with
  | nil => exact ⟨[], rfl⟩
  | cons x ks ih =>
    simp only [List.all_cons, Bool.and_eq_true] at h
    obtain ⟨l, rfl⟩ := ih h.2
    cases x with
    | none => simp at h
    | some e => exact ⟨e :: l, rfl⟩
theorem snd_dct {X : Cx} {Wx : WX} {c : Mc} {ps : CPs} {e : Expr} (k : CtxOk X Wx c) (h : mE c (.dct ps) e = true) (hP : ∀ ks vs, mP c ps ks vs = true → ∃ l : List Expr, ks = l.map some ∧ l.length = vs.length ∧ SD X Wx l vs (dP c.g ps)) : SE X Wx e (dE c.g (.dct ps)) := by
  simp only [mE] at h; split at h
  · simp only [Bool.and_eq_true, decide_eq_true_eq, Bool.not_eq_true'] at h
    obtain ⟨⟨h1, h2⟩, h3⟩ := h
    obtain ⟨l, rfl, hl, hs⟩ := hP _ _ h1
    have hd : dE c.g (.dct ps) = fun env => bnd (dP c.g ps env) mkDct := by simp only [dE]
    rw [hd]
    exact s_dct hs hl (by cases l <;> simp_all) (by simpa using h3)
  · cases h
theorem snd_callL {X : Cx} {Wx : WX} {c : Mc} {i : Nat} {es : CL} {e : Expr} (k : CtxOk X Wx c) (h : mE c (.callL i es) e = true) (hL : ∀ l, mL c es l = true → SA X Wx l (dL c.g es)) : SE X Wx e (dE c.g (.callL i es)) := by
  simp only [mE] at h; split at h
  · rename_i x p l pos
    simp only [Bool.and_eq_true, decide_eq_true_eq, Bool.not_eq_true'] at h
    obtain ⟨⟨⟨⟨⟨⟨h1, h2⟩, h3⟩, h4⟩, h5⟩, h6⟩, h7⟩ := h
    cases e : c.g.lam with
    | none =>
      have hd : dE c.g (.callL i es) = fun _ => stuck := by simp only [dE, e]
      rw [hd]
      exact .mk fun _ _ _ _ _ _ _ _ _ _ _ q => q.elim
    | some l' =>
      obtain ⟨kl, f, c', q, cs, vs, hl, hk, LI⟩ := k.lamIn h1 l' e
      have hd : dE c.g (.callL i es) = fun env => bnd (getv env i) fun v => bnd (guard (v = l'.1)) fun _ => bnd (dL c.g es env) fun xs => noexc (l'.2 xs) := by simp only [dE, e]
      rw [hd, hl]
      cases l with
      | nil => cases h6
      | cons y ys => exact s_callL LI (k.room.mono hk) (by rw [k.N]; exact h2) (k.vis h3) (dbg_1 h4) (dbg_2 h4) (hL _ h7) h5
  · cases h
theorem bind2 {x y : Arg} (hne : y.arg ≠ x.arg) (q : Str) (cl : List (Str × Addr)) (body : Expr) (scope : Scope) (pm cv ctv : Value) (a b : Value) :
   bindArgs (PySem.W.kla_fn "<lambda>" q ⟨[], [x, y], none, [], [], none, []⟩ body scope cl pm cv ctv) ⟨[a, b], []⟩ = pure [(x.arg, a), (y.arg, b)] := by
  unfold bindArgs PySem.W.kla_fn
  have e1 : List.lookup x.arg [(x.arg, a), (y.arg, b)] = some a := by simp [List.lookup]
  have e0 : (y.arg == x.arg) = false := by simpa using hne
  have e2 : List.lookup y.arg [(x.arg, a), (y.arg, b)] = some b := by
    simp [List.lookup, e0]
  have e4 : seqItems? Value.none = pure none := rfl
  simp [e4, e1, e2]
theorem plain_bind {ps : List Str} {params : Arguments} (nd : ps.Nodup) (h : plainPs ps params = true) : (∀ (q : Str) (cl : List (Str × Addr)) (body : Expr) (scope : Scope) (pm cv ctv : Value) (us : List Value), us.length = ps.length → bindArgs (PySem.W.kla_fn "<lambda>" q params body scope cl pm cv ctv) ⟨us, []⟩ = pure (ps.zip us)) ∧ ∀ env, defaultsOf params env = ([], []) := by
  unfold plainPs at h
  split at h
  · have := of_decide_eq_true h
    subst this
    refine ⟨fun q cl body scope pm cv ctv us hl => ?_, fun env => rfl⟩
    match us, hl with
    | [a, b], _ =>
      simp only [List.nodup_cons, List.mem_singleton] at nd
      exact bind2 (fun e => nd.1 e.symm) q cl body scope pm cv ctv a b
  · cases h
theorem snd_callLam {X : Cx} {Wx : WX} {c : Mc} {i kl : Nat} {a b d : CE} {ps fr own : List Str} {js : List Nat} {body : CE} {e : Expr} (k : CtxOk X Wx c) (h : mE c (.callLam i kl a b d ps fr own js body) e = true)
    (hA : ∀ l, mE c a l = true → SE X Wx l (dE c.g a)) (hB : ∀ l, mE c b l = true → SE X Wx l (dE c.g b)) (hD : ∀ l, mE c d l = true → SE X Wx l (dE c.g d)) (hBody : ∀ {X' : Cx} {Wx' : WX} {c' : Mc} (k' : CtxOk X' Wx' c') (l : Expr), mE c' body l = true → SE X' Wx' l (dE c'.g body)) : SE X Wx e (dE c.g (.callLam i kl a b d ps fr own js body)) := by
  simp only [mE] at h; split at h
  · rename_i f p x y z params lb scope lpos pos
    simp only [Bool.and_eq_true, decide_eq_true_eq] at h
    obtain ⟨⟨⟨⟨⟨⟨⟨⟨⟨⟨⟨⟨⟨⟨⟨⟨h1, h2⟩, h3⟩, h4⟩, h5⟩, h6⟩, h7⟩, h8⟩, h9⟩, h10⟩, h11⟩, h12⟩, h13⟩, h14⟩, h15⟩, h16⟩, h17⟩ := h
    cases e : c.g.Ls i with
    | none => rw [e] at h1; cases h1
    | some lf =>
      rw [e] at h1
      simp only [Bool.and_eq_true, decide_eq_true_eq] at h1
      obtain ⟨rfl, h18⟩ := h1
      have hd : dE c.g (.callLam i kl a b d ps fr own js body) = fun env => bnd (dE c.g a env) fun x => bnd (dE c.g b env) fun y => bnd (dE c.g d env) fun z => bnd (ofO (capsOf env js)) fun cs => lamP lf.m (fun ys => bnd (guard (ys.length = ps.length)) fun _ => dE c.g body (ys.map some ++ (cs.map some ++ List.replicate own.length none))) [x, y, z] cs := by simp only [dE, e]
      rw [hd]
      have hS := NdefX.nscope_by h10
      have hnd : ps.Nodup := by
        have := hS.nd
        rw [List.append_assoc, List.nodup_append] at this
        exact this.1
      obtain ⟨pb1, pb2⟩ := plain_bind hnd h11
      have hfree := NdefX.ndef_free h12
      refine s_callLam (k.lamd i lf e h3) (k.mkl h2) (k.room.mono h3) h4 k.tk (k.gl h5) (dbg_1 h6) (hA _ h14) (hB _ h15) (hD _ h16) (by simp [noStars, h7, h8, h9]) h18 hS (fun q cl pm cv ctv us hu => pb1 q cl lb scope pm cv ctv us hu) (pb2 _) (fun y hy e => by rw [k.sc]; exact hfree y hy e) (NdefX.ndef_fr h12) (by rw [k.N]; exact h13) fun A outer s H f c' cl E hr => ?_
      refine hBody (c' := { c with n := kl, N := ps ++ fr ++ own, sc := scope, fc := fun _ => false, lamOk := false, mkOk := false }) ?_ _ h17
      exact {
        N := rfl
        sc := rfl
        kind := hS.kind
        calm := rfl
        nd := hS.nd
        fc := fun x h => nomatch h
        room := hr
        tk := takes0
        tab := fun i fn h1 h2 => ⟨(k.tab i fn h1 (by have h2 : c.g.lv i ≤ kl := h2; omega)).ex⟩
        lamIn := fun h => nomatch h
        mkl := fun h => nomatch h
        lamd := fun i lf h1 h2 => k.lamd i lf h1 (by have h2 : c.g.lvL i ≤ kl := h2; omega)
        isc := k.isc
        glo := k.glo
        blt := k.blt
        cls := fun i C h => ⟨(k.cls i C h).ex⟩
        prp := fun i p h1 h2 h3 => ⟨(k.prp i p h1 h2 (by have h3 : c.g.lvM i ≤ kl := h3; omega)).ex⟩
        met := fun i p h1 h2 h3 => ⟨(k.met i p h1 h2 (by have h3 : c.g.lvM i ≤ kl := h3; omega)).ex⟩
        ini := fun i p h1 h2 h3 => ⟨(k.ini i p h1 h2 (by have h3 : c.g.lvM i ≤ kl := h3; omega)).ex⟩ }
  · cases h
theorem unstar_ok {env : Env} : ∀ {l l' : List Expr}, unstarL l = some l' → (assignEach l env).map (·.2) = (assignEach l' env).map (·.2) ∧ (assignEach l env).length = l'.length ∧ 0 < l'.length ∧ (assignEach l env).findIdx? (·.1) = some (l'.length - 1)
  | [], l', h => by simp [unstarL] at h
  | x :: xs, l', h => by
    unfold unstarL at h
    split at h
    · rename_i t p he
      cases he
      split at h
      · rename_i hs
        cases h
        exact ⟨by rw [assignEach_not hs]; rfl, rfl, by simp, rfl⟩
      · cases h
    · rename_i x' xs' hne he
      cases he
      split at h
      · rename_i hs
        rw [Option.map_eq_some_iff] at h
        obtain ⟨l2, h2, rfl⟩ := h
        obtain ⟨a1, a2, a3, a4⟩ := unstar_ok (env := env) h2
        rw [assignEach_not hs]
        refine ⟨?_, by simp [a2], by simp, ?_⟩
        · rw [assignEach_not hs, List.map_cons, List.map_cons, a1]
        · rw [List.findIdx?_cons, a4]
          simp
          omega
      · cases h
    · rename_i he; cases he
theorem lenTs_ok {c : Mc} {L : List Nat} : ∀ {ts : CTs} {l : List Expr}, mGs c L ts l = true → lenTs ts = l.length
  | .nil, l, h => by
    simp only [mGs] at h
    cases l with
    | nil => rfl
    | cons => cases h
  | .cons t ts, l, h => by
    simp only [mGs] at h; split at h
    · simp only [Bool.and_eq_true] at h
      simp only [lenTs, List.length_cons, lenTs_ok h.2]
    · cases h
mutual
theorem sndE : ∀ (a : CE) {X : Cx} {Wx : WX} {c : Mc} (k : CtxOk X Wx c) (e : Expr), mE c a e = true → SE X Wx e (dE c.g a)
  | .var i, X, Wx, c, k, e, h => by
    simp only [mE] at h; split at h
    · simp only [Bool.and_eq_true, decide_eq_true_eq] at h
      exact s_var (by rw [k.N]; exact h.1.1) (k.vis h.1.2) (dbg_1 h.2) (dbg_2 h.2)
    · cases h
  | .int i, X, Wx, c, k, e, h => by
    simp only [mE] at h; split at h
    · have := of_decide_eq_true h; subst this; exact s_int
    · cases h
  | .str x, X, Wx, c, k, e, h => by
    simp only [mE] at h; split at h
    · have := of_decide_eq_true h; subst this; exact s_str
    · cases h
  | .bl b, X, Wx, c, k, e, h => by
    simp only [mE] at h; split at h
    · have := eq_of_beq h; subst this; exact s_bl
    · cases h
  | .non, X, Wx, c, k, e, h => by
    simp only [mE] at h
    obtain ⟨j, p, rfl⟩ := nonE_some h
    exact s_non
  | .glob i, X, Wx, c, k, e, h => by
    simp only [mE] at h; split at h
    · rename_i x pos
      simp only [Bool.and_eq_true] at h
      obtain ⟨⟨h1, h2⟩, h3⟩ := h
      cases e : c.g.G i with
      | none => rw [e] at h1; cases h1
      | some p =>
        rw [e] at h1
        have := of_decide_eq_true h1; subst this
        obtain ⟨u, w, hm, hr, hw⟩ := k.glo i p e
        have : dE c.g (.glob i) = fun _ => ret p.2 := by simp only [dE, e]
        rw [this]
        exact s_glob (k.gl h2) hm hr hw (dbg_1 h3)
    · cases h
  | .bty y n, X, Wx, c, k, e, h => by
    simp only [mE] at h; split at h
    · simp only [Bool.and_eq_true, decide_eq_true_eq] at h
      obtain ⟨⟨h1, h2⟩, h3⟩ := h
      subst h1
      obtain ⟨b1, b2, b3, b4⟩ := btyp_ok (y, n) (by simpa using h2)
      exact s_bty (k.gl h3) (k.blt _ b4) b1 b2 b3
    · cases h
  | .bin op a b, X, Wx, c, k, e, h => by
    simp only [mE] at h; split at h
    · simp only [Bool.and_eq_true, decide_eq_true_eq] at h
      obtain ⟨⟨h1, h2⟩, h3⟩ := h
      subst h1
      exact s_bin (op_ok k op) (sndE a k _ h2) (sndE b k _ h3)
    · cases h
  | .neg a, X, Wx, c, k, e, h => by
    simp only [mE] at h; split at h
    · exact s_un o_neg (sndE a k _ h)
    · cases h
  | .nt a, X, Wx, c, k, e, h => by
    simp only [mE] at h; split at h
    · exact s_un o_not (sndE a k _ h)
    · cases h
  | .cmp op a b, X, Wx, c, k, e, h => by
    simp only [mE] at h; split at h
    · simp only [Bool.and_eq_true, decide_eq_true_eq, Bool.not_eq_true'] at h
      obtain ⟨⟨⟨⟨h1, h5⟩, h2⟩, h3⟩, h4⟩ := h
      subst h1
      by_cases e1 : op = .isN
      · subst e1
        obtain ⟨j, p, rfl⟩ := nonE_some h5
        have := non_of h4; subst this
        exact cmp_isN (sndE a k _ h3)
      · by_cases e2 : op = .notN
        · subst e2
          obtain ⟨j, p, rfl⟩ := nonE_some h5
          have := non_of h4; subst this
          exact cmp_notN (sndE a k _ h3)
        · exact s_cmp (cop_ok k op e1 e2) (sndE a k _ h3) (sndE b k _ h4) h2
    · cases h
  | .chn o1 o2 a b d, X, Wx, c, k, e, h => by
    simp only [mE] at h; split at h
    · simp only [Bool.and_eq_true, decide_eq_true_eq, Bool.not_eq_true'] at h
      obtain ⟨⟨⟨⟨⟨⟨⟨h1, h2⟩, h3⟩, h4⟩, h5⟩, h6⟩, h7⟩, h8⟩ := h
      subst h1; subst h2
      exact s_chain (cop_ok k o1 (copPl_ne h3).1 (copPl_ne h3).2) (cop_ok k o2 (copPl_ne h4).1 (copPl_ne h4).2) (sndE a k _ h6) (sndE b k _ h7) (sndE d k _ h8) h5
    · cases h
  | .tv _, _, _, _, _, _, h => by simp [mE] at h
  | .b1 a, X, Wx, c, k, e, h => by
    simp only [mE] at h; split at h
    · exact s_one (sndE a k _ h)
    · cases h
  | .and a b, X, Wx, c, k, e, h => by
    simp only [mE] at h; split at h
    · simp only [Bool.and_eq_true] at h
      exact s_and (sndE a k _ h.1) (sndE b k _ h.2)
    · cases h
  | .or a b, X, Wx, c, k, e, h => by
    simp only [mE] at h; split at h
    · simp only [Bool.and_eq_true] at h
      exact s_or (sndE a k _ h.1) (sndE b k _ h.2)
    · cases h
  | .ife t a b, X, Wx, c, k, e, h => by
    simp only [mE] at h; split at h
    · simp only [Bool.and_eq_true] at h
      exact s_ifExp (sndT t k _ h.1.1) (sndE a k _ h.1.2) (sndE b k _ h.2)
    · cases h
  | .tup es, X, Wx, c, k, e, h => by
    simp only [mE] at h; split at h
    · exact s_tup (sndL es k _ h)
    · cases h
  | .lst own es, X, Wx, c, k, e, h => by
    simp only [mE] at h; split at h
    · cases own
      · exact s_lst (sndL es k _ h)
      · exact s_own (sndL es k _ h)
    · cases h
  | .ix a i, X, Wx, c, k, e, h => by
    simp only [mE] at h; split at h
    · simp only [Bool.and_eq_true] at h
      exact s_ix (by have := k.hu; omega) (sndE a k _ h.1.2) (sndE i k _ h.2) (plainIx h.1.1)
    · cases h
  | .sl a lo hi, X, Wx, c, k, e, h => by
    simp only [mE] at h; split at h
    · simp only [Bool.and_eq_true] at h
      exact s_slice (sndE a k _ h.1.1) (sndO lo k _ h.1.2) (sndO hi k _ h.2)
    · cases h
  | .call i sh es ks, X, Wx, c, k, e, h => snd_call k h (fun l h => sndL es k l h) (fun l h => sndK ks k l h)
  | .fld i a f, X, Wx, c, k, e, h => snd_fld k h (fun l h => sndE a k l h)
  | .prop i a, X, Wx, c, k, e, h => snd_prop k h (fun l h => sndE a k l h)
  | .mcall i o es, X, Wx, c, k, e, h => snd_mcall k h (fun l h => sndE o k l h) (fun l h => sndL es k l h)
  | .make i sh es ks, X, Wx, c, k, e, h => snd_make k h (fun l h => sndL es k l h) (fun l h => sndK ks k l h)
  | .callB b es, X, Wx, c, k, e, h => snd_callB k h (fun l h => sndL es k l h)
  | .isC i a, X, Wx, c, k, e, h => snd_isC k h (fun l h => sndE a k l h)
  | .dct ps, X, Wx, c, k, e, h => snd_dct k h (fun ks vs h => sndP ps k ks vs h)
  | .callL i es, X, Wx, c, k, e, h => snd_callL k h (fun l h => sndL es k l h)
  | .callLam i kl a b d ps fr own js body, X, Wx, c, k, e, h => snd_callLam k h (fun l h => sndE a k l h) (fun l h => sndE b k l h) (fun l h => sndE d k l h) (fun k' l h => sndE body k' l h)
  | .callT b es, X, Wx, c, k, e, h => by
    simp only [mE] at h; split at h
    · rename_i f p l pos
      simp only [Bool.and_eq_true, decide_eq_true_eq, Bool.not_eq_true'] at h
      obtain ⟨⟨⟨⟨h1, h2⟩, h3⟩, h4⟩, h5⟩ := h
      subst h1
      cases l with
      | nil => cases h4
      | cons x xs => exact s_callT (bt_ok k b) (k.gl h2) (k.tblt b) (btt_ok b).1 (sndL es k _ h5) h3 (btt_ok b).2.1 (btt_ok b).2.2.1
    · cases h
  | .meth m o es, X, Wx, c, k, e, h => by
    simp only [mE] at h; split at h
    · rename_i eo nm ap l cp
      simp only [Bool.and_eq_true, decide_eq_true_eq] at h
      obtain ⟨⟨⟨⟨⟨⟨h1, h2⟩, h3⟩, h4⟩, h5⟩, h6⟩, h7⟩ := h
      subst h1
      obtain ⟨id, ⟨pa, sl, ty⟩, om⟩ := mt_ok k m
      cases l with
      | nil =>
        cases es with
        | nil => exact s_meth0 pa sl ty om (sndE o k _ h6) h2 h3
        | cons => simp [mL] at h7
        | star => simp [mL] at h7
      | cons x xs =>
        rw [List.length_cons] at h5
        exact s_meth pa sl ty om (sndE o k _ h6) (sndL es k _ h7) h2 h4 (by omega) h3
    · cases h
  | .comp own L elt tg it d, X, Wx, c, k, e, h => by
    simp only [mE] at h; split at h
    · rename_i ee t i ifs a scope pos
      simp only [Bool.and_eq_true, decide_eq_true_eq] at h
      obtain ⟨⟨⟨⟨⟨⟨h1, h2⟩, h3⟩, h4⟩, h5⟩, h6⟩, h7⟩ := h
      subst h1
      have hb : BlkOk X.N X.env.scope scope L := by rw [k.N, k.sc]; exact blkOk_by h2
      exact s_lc (ends1 own) k.calm k.nd (sndI it k _ _ h4) hb (fun s H C cl fp => sndG tg (k.blk hb s H C cl fp) _ _ h5) (fun s H C cl fp => sndC d (k.blk hb s H C cl fp) _ h6) (fun s H C cl fp => sndE elt (k.blk hb s H C cl fp) _ h7) (fold_ok h3 _)
    · cases h
  | .comp2 own L L1 elt tg it d tg1 it1 d1, X, Wx, c, k, e, h => by
    simp only [mE] at h; split at h
    · rename_i ee t i ifs a t1 i1 ifs1 a1 scope pos
      simp only [Bool.and_eq_true, decide_eq_true_eq] at h
      obtain ⟨⟨⟨⟨⟨⟨⟨⟨⟨⟨⟨⟨h1, h1'⟩, h2⟩, hL⟩, h3⟩, h3'⟩, h4⟩, h5⟩, h6⟩, h8⟩, h9⟩, h10⟩, h7⟩ := h
      subst h1; subst h1'
      have hb : BlkOk X.N X.env.scope scope L := by rw [k.N, k.sc]; exact blkOk_by h2
      exact s_lc2 (ends1 own) k.calm k.nd (sndI it k _ _ h4) hb (fun i hi => by have := (List.all_eq_true.mp hL) i hi; simpa using this)
        (fun s H C cl fp => sndG tg (k.blk hb s H C cl fp) _ _ h5) (fun s H C cl fp => sndC d (k.blk hb s H C cl fp) _ h6) (fun s H C cl fp => sndI it1 (k.blk hb s H C cl fp) _ _ h8) (fun s H C cl fp => sndG tg1 (k.blk hb s H C cl fp) _ _ h9)
        (fun s H C cl fp => sndC d1 (k.blk hb s H C cl fp) _ h10) (fun s H C cl fp => sndE elt (k.blk hb s H C cl fp) _ h7) (fold_ok h3 _) (fun env x => fold_ok h3' env x)
    · cases h
theorem sndT : ∀ (a : CE) {X : Cx} {Wx : WX} {c : Mc} (k : CtxOk X Wx c) (e : Expr), mT c a e = true → STe X Wx e (dT c.g a)
  | .nt a, X, Wx, c, k, e, h => by
    simp only [mT] at h; split at h
    · exact s_not (sndT a k _ h)
    · cases h
  | .b1 a, X, Wx, c, k, e, h => by
    simp only [mT] at h; split at h
    · rename_i op e pos
      cases op
      · exact (w_and1 (sndT a k _ h)).pt
      · exact (w_or1 (sndT a k _ h)).pt
    · cases h
  | .and a b, X, Wx, c, k, e, h => by
    simp only [mT] at h; split at h
    · simp only [Bool.and_eq_true] at h
      exact (w_and (sndT a k _ h.1) (sndW b k h.2)).pt
    · cases h
  | .or a b, X, Wx, c, k, e, h => by
    simp only [mT] at h; split at h
    · simp only [Bool.and_eq_true] at h
      exact (w_or (sndT a k _ h.1) (sndW b k h.2)).pt
    · cases h
  | .cmp op a b, X, Wx, c, k, e, h => by
    simp only [mT] at h; split at h
    · simp only [Bool.and_eq_true, decide_eq_true_eq, Bool.not_eq_true'] at h
      obtain ⟨⟨⟨⟨h1, h5⟩, h2⟩, h3⟩, h4⟩ := h
      subst h1
      by_cases e1 : op = .isN
      · subst e1
        obtain ⟨j, p, rfl⟩ := nonE_some h5
        have := non_of h4; subst this
        exact tcmp_isN (sndE a k _ h3)
      · by_cases e2 : op = .notN
        · subst e2
          obtain ⟨j, p, rfl⟩ := nonE_some h5
          have := non_of h4; subst this
          exact tcmp_notN (sndE a k _ h3)
        · exact s_tcmp (cop_ok k op e1 e2) (sndE a k _ h3) (sndE b k _ h4) h2
    · cases h
  | .chn o1 o2 a b d, X, Wx, c, k, e, h => by
    simp only [mT] at h; split at h
    · simp only [Bool.and_eq_true, decide_eq_true_eq, Bool.not_eq_true'] at h
      obtain ⟨⟨⟨⟨⟨⟨⟨h1, h2⟩, h3⟩, h4⟩, h5⟩, h6⟩, h7⟩, h8⟩ := h
      subst h1; subst h2
      exact s_tchain (cop_ok k o1 (copPl_ne h3).1 (copPl_ne h3).2) (cop_ok k o2 (copPl_ne h4).1 (copPl_ne h4).2) (sndE a k _ h6) (sndE b k _ h7) (sndE d k _ h8) h5
    · cases h
  | .tv a, X, Wx, c, k, e, h => by
    simp only [mT, Bool.and_eq_true] at h
    exact s_truth o_truth (sndE a k _ h.2) (truth_ok h.1 _)
  | .var _, _, _, _, _, _, h => by simp [mT] at h
  | .call _ _ _ _, _, _, _, _, _, h => by simp [mT] at h
  | .fld _ _ _, _, _, _, _, _, h => by simp [mT] at h
  | .prop _ _, _, _, _, _, _, h => by simp [mT] at h
  | .mcall _ _ _, _, _, _, _, _, h => by simp [mT] at h
  | .make _ _ _ _, _, _, _, _, _, h => by simp [mT] at h
  | .callB _ _, _, _, _, _, _, h => by simp [mT] at h
  | .isC .., _, _, _, _, _, h => by simp [mT] at h
  | .dct .., _, _, _, _, _, h => by simp [mT] at h
  | .callL .., _, _, _, _, _, h => by simp [mT] at h
  | .callLam .., _, _, _, _, _, h => by simp [mT] at h
  | .ix _ _, _, _, _, _, _, h => by simp [mT] at h
  | .bl _, _, _, _, _, _, h => by simp [mT] at h
  | .int _, _, _, _, _, _, h => by simp [mT] at h
  | .str _, _, _, _, _, _, h => by simp [mT] at h
  | .non, _, _, _, _, _, h => by simp [mT] at h
  | .glob _, _, _, _, _, _, h => by simp [mT] at h
  | .bty _ _, _, _, _, _, _, h => by simp [mT] at h
  | .bin _ _ _, _, _, _, _, _, h => by simp [mT] at h
  | .neg _, _, _, _, _, _, h => by simp [mT] at h
  | .ife _ _ _, _, _, _, _, _, h => by simp [mT] at h
  | .tup _, _, _, _, _, _, h => by simp [mT] at h
  | .lst _ _, _, _, _, _, _, h => by simp [mT] at h
  | .sl _ _ _, _, _, _, _, _, h => by simp [mT] at h
  | .callT _ _, _, _, _, _, _, h => by simp [mT] at h
  | .meth _ _ _, _, _, _, _, _, h => by simp [mT] at h
  | .comp .., _, _, _, _, _, h => by simp [mT] at h
  | .comp2 .., _, _, _, _, _, h => by simp [mT] at h
theorem sndW : ∀ (a : CE) {X : Cx} {Wx : WX} {c : Mc} (k : CtxOk X Wx c) {op : BoolOp} {l : List Expr} {pos : Pos}, mT c a (.BoolOp op l pos) = true → STw X Wx (.BoolOp op l pos) (dT c.g a)
  | .b1 a, X, Wx, c, k, op, l, pos, h => by
    simp only [mT] at h; split at h
    · rename_i op' e pos' he
      cases he
      cases op
      · exact w_and1 (sndT a k _ h)
      · exact w_or1 (sndT a k _ h)
    · cases h
  | .and a b, X, Wx, c, k, op, l, pos, h => by
    simp only [mT] at h; split at h
    · rename_i he
      cases he
      simp only [Bool.and_eq_true] at h
      exact w_and (sndT a k _ h.1) (sndW b k h.2)
    · cases h
  | .or a b, X, Wx, c, k, op, l, pos, h => by
    simp only [mT] at h; split at h
    · rename_i he
      cases he
      simp only [Bool.and_eq_true] at h
      exact w_or (sndT a k _ h.1) (sndW b k h.2)
    · cases h
  | .tv _, _, _, _, _, _, _, _, h => by simp [mT, plainT] at h
  | .nt _, _, _, _, _, _, _, _, h => by simp [mT] at h
  | .cmp _ _ _, _, _, _, _, _, _, _, h => by simp [mT] at h
  | .chn _ _ _ _ _, _, _, _, _, _, _, _, h => by simp [mT] at h
  | .var _, _, _, _, _, _, _, _, h => by simp [mT] at h
  | .call _ _ _ _, _, _, _, _, _, _, _, h => by simp [mT] at h
  | .fld _ _ _, _, _, _, _, _, _, _, h => by simp [mT] at h
  | .prop _ _, _, _, _, _, _, _, _, h => by simp [mT] at h
  | .mcall _ _ _, _, _, _, _, _, _, _, h => by simp [mT] at h
  | .make _ _ _ _, _, _, _, _, _, _, _, h => by simp [mT] at h
  | .callB _ _, _, _, _, _, _, _, _, h => by simp [mT] at h
  | .isC .., _, _, _, _, _, _, _, h => by simp [mT] at h
  | .dct .., _, _, _, _, _, _, _, h => by simp [mT] at h
  | .callL .., _, _, _, _, _, _, _, h => by simp [mT] at h
  | .callLam .., _, _, _, _, _, _, _, h => by simp [mT] at h
  | .ix _ _, _, _, _, _, _, _, _, h => by simp [mT] at h
  | .bl _, _, _, _, _, _, _, _, h => by simp [mT] at h
  | .int _, _, _, _, _, _, _, _, h => by simp [mT] at h
  | .str _, _, _, _, _, _, _, _, h => by simp [mT] at h
  | .non, _, _, _, _, _, _, _, h => by simp [mT] at h
  | .glob _, _, _, _, _, _, _, _, h => by simp [mT] at h
  | .bty _ _, _, _, _, _, _, _, _, h => by simp [mT] at h
  | .bin _ _ _, _, _, _, _, _, _, _, h => by simp [mT] at h
  | .neg _, _, _, _, _, _, _, _, h => by simp [mT] at h
  | .ife _ _ _, _, _, _, _, _, _, _, h => by simp [mT] at h
  | .tup _, _, _, _, _, _, _, _, h => by simp [mT] at h
  | .lst _ _, _, _, _, _, _, _, _, h => by simp [mT] at h
  | .sl _ _ _, _, _, _, _, _, _, _, h => by simp [mT] at h
  | .callT _ _, _, _, _, _, _, _, _, h => by simp [mT] at h
  | .meth _ _ _, _, _, _, _, _, _, _, h => by simp [mT] at h
  | .comp .., _, _, _, _, _, _, _, h => by simp [mT] at h
  | .comp2 .., _, _, _, _, _, _, _, h => by simp [mT] at h
theorem sndL : ∀ (a : CL) {X : Cx} {Wx : WX} {c : Mc} (k : CtxOk X Wx c) (e : List Expr), mL c a e = true → SA X Wx e (dL c.g a)
  | .nil, X, Wx, c, k, e, h => by
    simp only [mL] at h
    cases e with
    | nil => exact sa_nil
    | cons => cases h
  | .cons a es, X, Wx, c, k, e, h => by
    simp only [mL] at h; split at h
    · simp only [Bool.and_eq_true] at h
      exact sa_cons (sndE a k _ h.1.2) (sndL es k _ h.2) h.1.1
    · cases h
  | .star a es, X, Wx, c, k, e, h => by
    simp only [mL] at h; split at h
    · simp only [Bool.and_eq_true] at h
      exact sa_star (sndE a k _ h.1) (sndL es k _ h.2)
    · cases h
theorem sndP : ∀ (a : CPs) {X : Cx} {Wx : WX} {c : Mc} (k : CtxOk X Wx c) (ks : List (Option Expr)) (vs : List Expr), mP c a ks vs = true → ∃ l : List Expr, ks = l.map some ∧ l.length = vs.length ∧ SD X Wx l vs (dP c.g a)
  | .nil, X, Wx, c, k, ks, vs, h => by
    simp only [mP, Bool.and_eq_true, List.isEmpty_iff] at h
    obtain ⟨rfl, rfl⟩ := h
    exact ⟨[], rfl, rfl, sd_nil⟩
  | .cons a b r, X, Wx, c, k, ks, vs, h => by
    simp only [mP] at h; split at h
    · simp only [Bool.and_eq_true] at h
      obtain ⟨l, rfl, hl, hs⟩ := sndP r k _ _ h.2
      exact ⟨_ :: l, rfl, by simp [hl], sd_cons (sndE a k _ h.1.1) (sndE b k _ h.1.2) hs⟩
    · cases h
theorem sndK : ∀ (a : CL) {X : Cx} {Wx : WX} {c : Mc} (k : CtxOk X Wx c) (e : List Keyword), mK c a e = true → SK X Wx e (dL c.g a)
  | .nil, X, Wx, c, k, e, h => by
    simp only [mK] at h
    cases e with
    | nil => exact sk_nil
    | cons => cases h
  | .cons a es, X, Wx, c, k, e, h => by
    simp only [mK] at h; split at h
    · simp only [Bool.and_eq_true] at h
      exact sk_cons (sndE a k _ h.1) (sndK es k _ h.2)
    · cases h
  | .star a es, X, Wx, c, k, e, h => by simp [mK] at h
theorem sndO : ∀ (a : CO) {X : Cx} {Wx : WX} {c : Mc} (k : CtxOk X Wx c) (e : Option Expr), mO c a e = true → SOx X Wx e (dO c.g a)
  | .none, X, Wx, c, k, e, h => by
    simp only [mO] at h
    cases e with
    | none => exact so_none
    | some => cases h
  | .some a, X, Wx, c, k, e, h => by
    simp only [mO] at h; split at h
    · exact so_some (sndE a k _ h)
    · cases h
theorem sndC : ∀ (a : CO) {X : Cx} {Wx : WX} {c : Mc} (k : CtxOk X Wx c) (e : List Expr), mC c a e = true → SPT X Wx e (dC c.g a)
  | .none, X, Wx, c, k, e, h => by
    simp only [mC] at h
    cases e with
    | nil => exact spt_nil
    | cons => cases h
  | .some a, X, Wx, c, k, e, h => by
    simp only [mC] at h; split at h
    · exact spt_one (sndT a k _ h)
    · cases h
theorem sndG : ∀ (a : CT) {X : Cx} {Wx : WX} {c : Mc} (k : CtxOk X Wx c) (L : List Nat) (e : Expr), mG c L a e = true → SG X Wx L e (dG c.g a)
  | .name i, X, Wx, c, k, L, e, h => by
    simp only [mG] at h; split at h
    · simp only [Bool.and_eq_true, Bool.or_eq_true, decide_eq_true_eq] at h
      obtain ⟨⟨h1, h2⟩, h3⟩ := h
      refine g_name k.nd (by rw [k.N]; exact h1) ?_ ?_ (by simpa using h3)
      · rcases h2 with h2 | h2
        · exact .inl (by rw [k.sc]; exact h2)
        · exact .inr (by rw [k.sc]; exact h2.1)
      · rcases h2 with h2 | h2
        · exact .inr (by rw [k.sc]; exact h2)
        · exact .inl (k.fc _ h2.2)
    · cases h
  | .tup ts, X, Wx, c, k, L, e, h => by
    simp only [mG] at h; split at h
    · have hh := ts_ok (env := X.env) h
      exact g_tup k.calm (sndGs ts k L _ h) hh.1 hh.2
    · cases h
  | .tupS ts, X, Wx, c, k, L, e, h => by
    simp only [mG] at h; split at h
    · rename_i l kk pos
      cases eu : unstarL l with
      | none => rw [eu] at h; cases h
      | some l' =>
        rw [eu] at h
        obtain ⟨a1, a2, a3, a4⟩ := unstar_ok (env := X.env) eu
        have hl := lenTs_ok h
        simp only [dG]
        exact g_tupS k.calm (sndGs ts k L _ h) a1 (by rw [a2, hl]; omega) (by rw [a4, hl])
    · cases h
  | .sub o i, X, Wx, c, k, L, e, h => by
    simp only [mG] at h; split at h
    · simp only [Bool.and_eq_true] at h
      exact g_sub (sndE o k _ h.1.2) (sndE i k _ h.2) h.1.1
    · cases h
  | .fld i o f, X, Wx, c, k, L, e, h => snd_gfld k h (fun l h => sndE o k l h)
theorem sndGs : ∀ (a : CTs) {X : Cx} {Wx : WX} {c : Mc} (k : CtxOk X Wx c) (L : List Nat) (e : List Expr), mGs c L a e = true → SGs X Wx L e (dGs c.g a)
  | .nil, X, Wx, c, k, L, e, h => by
    simp only [mGs] at h
    cases e with
    | nil => exact gs_nil
    | cons => cases h
  | .cons t ts, X, Wx, c, k, L, e, h => by
    simp only [mGs] at h; split at h
    · simp only [Bool.and_eq_true] at h
      exact gs_cons (sndG t k L _ h.1.2) (sndGs ts k L _ h.2) (by rw [assignEach_not h.1.1]; rfl)
    · cases h
theorem sndI : ∀ (a : CI) {X : Cx} {Wx : WX} {c : Mc} (k : CtxOk X Wx c) (tg : Expr) (e : Expr), mI c a tg e = true → SI X Wx tg e (dI c.g a)
  | .val a, X, Wx, c, k, tg, e, h => by
    simp only [mI] at h
    exact i_val (sndE a k _ h)
  | .enum es, X, Wx, c, k, tg, e, h => by
    simp only [mI] at h; split at h
    · simp only [Bool.and_eq_true, decide_eq_true_eq] at h
      obtain ⟨⟨⟨h1, h2⟩, h3⟩, h4⟩ := h
      subst h1
      exact i_enum (k.gl h2) (k.blt "enumerate" (by decide)) (sndL es k _ h4) h3
    · cases h
  | .zip es, X, Wx, c, k, tg, e, h => by
    simp only [mI] at h; split at h
    · simp only [Bool.and_eq_true, decide_eq_true_eq] at h
      obtain ⟨⟨⟨⟨h1, h2⟩, h3⟩, h4⟩, h5⟩ := h
      subst h1
      exact i_zip (k.gl h2) (k.blt "zip" (by decide)) (sndL es k _ h5) h3 h4
    · cases h
  | .rng es, X, Wx, c, k, tg, e, h => by
    simp only [mI] at h; split at h
    · rename_i f p l pos
      simp only [Bool.and_eq_true, Bool.or_eq_true, decide_eq_true_eq] at h
      obtain ⟨⟨⟨⟨h1, h2⟩, h3⟩, h4⟩, h5⟩ := h
      subst h1
      have hl := lenL_ok h5
      have hg := k.gl h2
      have hm : X.mg "range" = none := k.blt "range" (by decide)
      have hsa := sndL es k _ h5
      simp only [dI, hl]
      rcases h4 with h4 | h4
      · match l, h4 with
        | [x], _ =>
          have h3' : notStar x = true ∧ noStars [] = true := by simpa [noStars] using h3
          exact i_rng1 hg hm hsa h3'.1
      · match l, h4 with
        | [x, y], _ => exact i_rng2 hg hm hsa h3
    · cases h
end
end Dp

namespace Dp
open PySem PySem.Spec L2
open PyProof.Rows hiding St

theorem sole_eq {t e : Expr} {l : Nat} {env : Env} : swapsWithSole [t] e l env = swapsWith e (some t) l env := by
  simp only [swapsWithSole]
theorem swaps_no {e : Expr} (h : notComp e = true) (t : Option Expr) (l : Nat) (env : Env) : swapsWith e t l env = pure false := by
  cases e <;> first | rfl | cases h
theorem block_fn {env : Env} (h : env.scope.kind = .function) : env.blockKind = .function := by
  unfold Env.blockKind; rw [h]; rfl
theorem swc_ok {env : Env} {elt : Expr} {gs : List Comprehension} {scope : Scope} {pos py : Pos} {y : Str} {l : Nat} (hk : env.scope.kind = .function) :
    swapsWith (.ListComp elt gs scope pos) (some (.Name y py)) l env = pure (swc env.scope scope y py pos) := by
  unfold swapsWith swc
  simp only [block_fn hk, Env.kindOf, Expr.pos]
  rfl
theorem sws_ok {env : Env} {ts vs : List Expr} {k k2 : Nat} {p p2 : Pos} {r : Option (List Str)} (hk : env.scope.kind = .function) (h : sws env.scope ts vs = some r) :
    swappedStores [.Tuple ts k p] (.Tuple vs k2 p2) env = pure r := by
  unfold sws at h
  unfold swappedStores
  simp only [block_fn hk, Env.kindOf]
  have e0 : ∀ b : Bool, (b || ScopeKind.function != ScopeKind.function) = b := by decide
  rw [e0]
  split at h
  · rename_i h1
    cases h
    exact if_pos h1
  · rename_i h1
    refine (if_neg h1).trans ?_
    split at h
    · rename_i h2
      cases h
      exact if_pos h2
    · rename_i h2
      refine (if_neg h2).trans ?_
      split at h
      · rename_i h3
        cases h
        exact if_pos h3
      · rename_i h3
        refine (if_neg h3).trans ?_
        split at h
        · rename_i h4
          cases h
          exact if_pos h4
        · rename_i h4
          refine (if_neg h4).trans ?_
          split at h
          · cases h
          · rename_i h5
            cases h
            exact if_neg h5
theorem stores_no {tg e : Expr} (env : Env) (h : (tupB tg && tupB e) = false) (hl : listB tg = false) : swappedStores [tg] e env = pure none := by
  cases tg <;> first | rfl | cases hl | skip
  cases e <;> first | rfl | cases h
section
variable {X : Cx} {Wx : WX} {c : Mc}
theorem asg_ok (k : CtxOk X Wx c) {tg e : Expr} {pos : Pos} (h : asgOk c.sc tg e = true) : swapsWithSole [tg] e pos.line X.env = pure false ∧ swappedStores [tg] e X.env = pure none := by
  have hk : X.env.scope.kind = .function := by rw [k.sc]; exact k.kind
  unfold asgOk at h
  split at h
  · rename_i y py elt gs scope pos'
    refine ⟨?_, rfl⟩
    rw [sole_eq, swc_ok hk, k.sc]
    have : swc c.sc scope y py pos' = false := by simpa using h
    rw [this]
  · refine ⟨rfl, sws_ok hk ?_⟩
    rw [k.sc]
    exact of_decide_eq_true h
  · simp only [Bool.and_eq_true, Bool.not_eq_true'] at h
    exact ⟨by rw [sole_eq]; exact swaps_no h.1.1 _ _ _, stores_no _ h.1.2 h.2⟩
theorem snd_setc (k : CtxOk X Wx c) {L : List Nat} {i : Nat} {y : Str} {py pos sp : Pos} {ee : Expr} {gs : List Comprehension} {scope : Scope} {own : Bool} {LL : List (Str × Nat)} {elt : CE} {tg : CT} {it : CI} {d : CO}
    (hs : swc c.sc scope y py pos = true) (hi : c.N[i]? = some y) (hL : i ∈ L) (h : mE c (.comp own LL elt tg it d) (.ListComp ee gs scope pos) = true) :
    SS X Wx L (.Assign [.Name y py] (.ListComp ee gs scope pos) sp) (asgn (dE c.g (.comp own LL elt tg it d)) (setv i)) := by
  have hk : X.env.scope.kind = .function := by rw [k.sc]; exact k.kind
  have hy : c.sc.names.lookup y = some .local := by
    unfold swc at hs
    simp only [Bool.and_eq_true] at hs
    exact eq_of_beq hs.1.1
  simp only [mE] at h; split at h
  · rename_i he
    cases he
    simp only [Bool.and_eq_true, decide_eq_true_eq] at h
    obtain ⟨⟨⟨⟨⟨⟨h1, h2⟩, h3⟩, h4⟩, h5⟩, h6⟩, h7⟩ := h
    subst h1
    have hb : BlkOk X.N X.env.scope scope LL := by rw [k.N, k.sc]; exact blkOk_by h2
    exact c_setLc (ends1 own) k.calm k.nd (by rw [k.N]; exact hi) (by rw [k.sc]; exact hy) hL (by rw [swc_ok hk, k.sc, hs]) (sndI it k _ _ h4) hb (fun s H C cl fp => sndG tg (k.blk hb s H C cl fp) _ _ h5) (fun s H C cl fp => sndC d (k.blk hb s H C cl fp) _ h6) (fun s H C cl fp => sndE elt (k.blk hb s H C cl fp) _ h7) (fold_ok h3 _)
  · cases h
theorem snd_setc2 (k : CtxOk X Wx c) {L : List Nat} {i : Nat} {y : Str} {py pos sp : Pos} {ee : Expr} {gs : List Comprehension} {scope : Scope} {own : Bool} {LL : List (Str × Nat)} {L1 : List Nat} {elt : CE} {tg tg1 : CT} {it it1 : CI} {d d1 : CO}
    (hs : swc c.sc scope y py pos = true) (hi : c.N[i]? = some y) (hL : i ∈ L) (h : mE c (.comp2 own LL L1 elt tg it d tg1 it1 d1) (.ListComp ee gs scope pos) = true) :
    SS X Wx L (.Assign [.Name y py] (.ListComp ee gs scope pos) sp) (asgn (dE c.g (.comp2 own LL L1 elt tg it d tg1 it1 d1)) (setv i)) := by
  have hk : X.env.scope.kind = .function := by rw [k.sc]; exact k.kind
  have hy : c.sc.names.lookup y = some .local := by
    unfold swc at hs
    simp only [Bool.and_eq_true] at hs
    exact eq_of_beq hs.1.1
  simp only [mE] at h; split at h
  · rename_i he
    cases he
    simp only [Bool.and_eq_true, decide_eq_true_eq] at h
    obtain ⟨⟨⟨⟨⟨⟨⟨⟨⟨⟨⟨⟨h1, h1'⟩, h2⟩, hL1⟩, h3⟩, h3'⟩, h4⟩, h5⟩, h6⟩, h8⟩, h9⟩, h10⟩, h7⟩ := h
    subst h1; subst h1'
    have hb : BlkOk X.N X.env.scope scope LL := by rw [k.N, k.sc]; exact blkOk_by h2
    exact c_setLc2 (ends1 own) k.calm k.nd (by rw [k.N]; exact hi) (by rw [k.sc]; exact hy) hL (by rw [swc_ok hk, k.sc, hs]) (sndI it k _ _ h4) hb (fun i hi => by have := (List.all_eq_true.mp hL1) i hi; simpa using this)
      (fun s H C cl fp => sndG tg (k.blk hb s H C cl fp) _ _ h5) (fun s H C cl fp => sndC d (k.blk hb s H C cl fp) _ h6) (fun s H C cl fp => sndI it1 (k.blk hb s H C cl fp) _ _ h8) (fun s H C cl fp => sndG tg1 (k.blk hb s H C cl fp) _ _ h9)
      (fun s H C cl fp => sndC d1 (k.blk hb s H C cl fp) _ h10) (fun s H C cl fp => sndE elt (k.blk hb s H C cl fp) _ h7) (fold_ok h3 _) (fun env x => fold_ok h3' env x)
  · cases h
end
mutual
theorem sndS : ∀ (a : CS) {X : Cx} {Wx : WX} {c : Mc} {L : List Nat} (k : CtxOk X Wx c) (hp : PassesOwn (model X.prog X.w) X.A X.env X.xe) (s : Stmt), mS c L a s = true → SS X Wx L s (dS c.g a)
  | .expr e, X, Wx, c, L, k, hp, s, h => by
    simp only [mS] at h; split at h
    · simp only [Bool.and_eq_true] at h
      exact c_expr (sndE e k _ h.2) (swaps_no h.1 _ _ _)
    · cases h
  | .asg t e, X, Wx, c, L, k, hp, s, h => by
    simp only [mS] at h; split at h
    · simp only [Bool.and_eq_true] at h
      obtain ⟨⟨⟨h1, h2⟩, h3⟩, h4⟩ := h
      obtain ⟨a1, a2⟩ := asg_ok k h2
      exact c_asg (sndE e k _ h4) (sndG t k L _ h3) a1 a2 (by rw [assignEach_not h1]; rfl)
    · cases h
  | .setc i e, X, Wx, c, L, k, hp, s, h => by
    simp only [mS] at h; split at h
    · simp only [Bool.and_eq_true, decide_eq_true_eq] at h
      obtain ⟨⟨⟨⟨h0, h1⟩, h2⟩, h3⟩, h4⟩ := h
      cases e with
      | comp own LL elt tg it d => exact snd_setc k h1 h2 (by simpa using h3) h4
      | comp2 own LL L1 elt tg it d tg1 it1 d1 => exact snd_setc2 k h1 h2 (by simpa using h3) h4
      | _ => cases h0
    · cases h
  | .par2 i j es, X, Wx, c, L, k, hp, s, h => by
    simp only [mS] at h; split at h
    · simp only [Bool.and_eq_true, decide_eq_true_eq] at h
      obtain ⟨⟨⟨⟨⟨⟨⟨⟨h1, h2⟩, h3⟩, h4⟩, h5⟩, h6⟩, h7⟩, h8⟩, h9⟩ := h
      exact c_par k.calm k.nd (by rw [k.N]; exact h1) (by rw [k.N]; exact h2) h3 (by rw [k.sc]; exact h4) (by rw [k.sc]; exact h5) (sndL es k _ h9) (sws_ok (by rw [k.sc]; exact k.kind) (by rw [k.sc]; exact h6)) rfl ⟨by simpa using h7, by simpa using h8⟩
    · cases h
  | .par3 i j l es, X, Wx, c, L, k, hp, s, h => by
    simp only [mS] at h; split at h
    · simp only [Bool.and_eq_true, decide_eq_true_eq] at h
      obtain ⟨⟨⟨⟨⟨⟨⟨⟨⟨⟨⟨⟨⟨h1, h2⟩, h3⟩, h4⟩, h5⟩, h6⟩, h7⟩, h8⟩, h9⟩, h10⟩, h11⟩, h12⟩, h13⟩, h14⟩ := h
      exact c_par3 k.calm k.nd (by rw [k.N]; exact h1) (by rw [k.N]; exact h2) (by rw [k.N]; exact h3) h4 h5 h6 (by rw [k.sc]; exact h7) (by rw [k.sc]; exact h8) (by rw [k.sc]; exact h9) (sndL es k _ h14) (sws_ok (by rw [k.sc]; exact k.kind) (by rw [k.sc]; exact h10)) rfl ⟨by simpa using h11, by simpa using h12, by simpa using h13⟩
    · cases h
  | .ret e, X, Wx, c, L, k, hp, s, h => by
    simp only [mS] at h; split at h
    · exact c_ret (sndE e k _ h)
    · cases h
  | .retN, X, Wx, c, L, k, hp, s, h => by
    simp only [mS] at h; split at h
    · exact c_retN
    · cases h
  | .ifs t a b, X, Wx, c, L, k, hp, s, h => by
    simp only [mS] at h; split at h
    · simp only [Bool.and_eq_true] at h
      exact c_if (sndT t k _ h.1.1) (sndB a k hp _ h.1.2) (sndB b k hp _ h.2)
    · cases h
  | .loop t it b, X, Wx, c, L, k, hp, s, h => by
    simp only [mS] at h; split at h
    · simp only [Bool.and_eq_true] at h
      obtain ⟨⟨⟨h1, h2⟩, h3⟩, h4⟩ := h
      exact c_for hp k.calm (sndI it k _ _ h2) (sndG t k L _ h3) (sndB b k hp _ h4) (fold_ok h1 _)
    · cases h
  | .whl t b, X, Wx, c, L, k, hp, s, h => by
    simp only [mS] at h; split at h
    · simp only [Bool.and_eq_true] at h
      exact c_while hp (sndT t k _ h.1) (sndB b k hp _ h.2)
    · cases h
  | .pass, X, Wx, c, L, k, hp, s, h => by
    simp only [mS] at h; split at h
    · exact c_pass
    · cases h
  | .brk, X, Wx, c, L, k, hp, s, h => by
    simp only [mS] at h; split at h
    · exact c_break
    · cases h
  | .cont, X, Wx, c, L, k, hp, s, h => by
    simp only [mS] at h; split at h
    · exact c_cont
    · cases h
  | .never, X, Wx, c, L, k, hp, s, h => .of ps_never fun D σ H F S env er w q => q.elim
  | .doc, X, Wx, c, L, k, hp, s, h => by
    simp only [mS] at h; split at h
    · exact c_doc
    · cases h
theorem sndB : ∀ (a : CB) {X : Cx} {Wx : WX} {c : Mc} {L : List Nat} (k : CtxOk X Wx c) (hp : PassesOwn (model X.prog X.w) X.A X.env X.xe) (s : List Stmt), mB c L a s = true → SSs X Wx L s (dB c.g a)
  | .nil, X, Wx, c, L, k, hp, s, h => by
    simp only [mB] at h
    cases s with
    | nil => exact b_nil
    | cons => cases h
  | .cons a b, X, Wx, c, L, k, hp, s, h => by
    simp only [mB] at h; split at h
    · simp only [Bool.and_eq_true] at h
      exact b_cons (sndS a k hp _ h.1) (sndB b k hp _ h.2)
    · cases h
  | .frz i b, X, Wx, c, L, k, hp, s, h => by
    simp only [mB] at h
    exact b_freeze (sndB b k hp _ h)
end

/-! ### a def -/
/-- the value of a body -/
def runB (m : M Res) : M PV := bnd m fun r => match r with
  | .rt v => ret v
  | .nx _ => ret .non
  | _ => stuck
def startE (N : Nat) (args : List PV) : En := args.map some ++ List.replicate (N - args.length) none
/-- stronger -/
def M.le {α : Type} (m n : M α) : Prop := ∀ S Q E, m.run S Q E → n.run S Q E
structure Df where
  /-- its statement, names by slot, how many are parameters, its body -/
  st : Stmt
  N : List Str
  np : Nat
  body : CB
  /-- it takes a lambda; it makes lambdas -/
  lam : Bool := false
  mkr : Bool := false
def Df.L (d : Df) : List Nat := List.range d.N.length
def Df.den (g : Sg) (d : Df) (args : List PV) : M PV := runB (dB g d.body (startE d.N.length args))
def okScope (N P : List Str) (sc : Scope) : Bool :=
  (match sc.kind with | .function => true | _ => false) && !sc.isCoroutine && !sc.isGenerator && decide N.Nodup && decide (N.take P.length = P) && P.all (fun x => decide (sc.names.lookup x = some .local) || decide (sc.names.lookup x = some .cell)) && sc.names.all (fun y => y.2 != .free)
theorem scope_ok {N P : List Str} {sc : Scope} (h : okScope N P sc = true) : FnScope N P sc := by
  unfold okScope at h
  simp only [Bool.and_eq_true, decide_eq_true_eq, Bool.not_eq_true', List.all_eq_true, Bool.or_eq_true] at h
  obtain ⟨⟨⟨⟨⟨⟨h1, h2⟩, h3⟩, h4⟩, h5⟩, h6⟩, h7⟩ := h
  refine ⟨?_, h2, h3, h4, h5, h6, fun y hy e => ?_⟩
  · split at h1
    · assumption
    · cases h1
  · have := h7 y hy
    rw [e] at this
    cases this
def mcOf (g : Sg) (n : Nat) (d : Df) : Mc := ⟨g, n, d.N, defScope d.st, fun _ => true, d.lam, d.mkr⟩
def chkDf (g : Sg) (n : Nat) (d : Df) : Bool := okScope d.N (d.N.take d.np) (defScope d.st) && decide (d.np ≤ d.N.length) && mB (mcOf g n d) d.L d.body (defBody d.st)
/-- what stands in the module -/
structure World1 (P : Program) (w : World) (K : PySem.W.Frag) (mg : Str → Option Value) (base : Heap) (g : Sg) : Prop where
  glo : ∀ i p, g.G i = some p → ∃ u v, mg p.1 = some u ∧ RelV v u ∧ Wr ⟨K, mg, w⟩ p.2 v
  blt : ∀ x ∈ bltNames, mg (Str.ofString x) = none
  cls : ∀ i C, g.Cs i = some C → ∃ Ca : Addr, mg C.nm = some (.ref Ca) ∧ Cls K Ca ∧ ∀ f ∈ C.flds, NoAttr K Ca f
  isc : ∀ i C, g.Cs i = some C → C.isi = true → IsCls K mg C.nm C.oth
  uni : ((tabsOf ⟨K, mg, w⟩).map (·.1)).Nodup
/-- what stands for a def that makes lambdas -/
structure MkAt (K : PySem.W.Frag) (mg : Str → Option Value) (w : World) (base : Heap) (x : Str) (fd : FuncData) : Prop where
  ex : ∃ c P : Addr, fd.code = .ref c ∧ LamX.TabB base mg c P ∧ (P, lamQ x) ∈ tabsOf ⟨K, mg, w⟩
/-- what a class defines, at its level -/
structure MtAt' (P : Program) (w : World) (K : PySem.W.Frag) (mg : Str → Option Value) (base : Heap) (k : Nat) (p : MtE) : Prop where
  prp : p.kind = .prop → ∃ (Ca q a : Addr) (fd : FuncData), mg p.cls = some (.ref Ca) ∧ Cls K Ca ∧ PropOf K Ca p.at_ q a ∧ FnOk P w K mg base (L2.CX P w) k a fd p.fn.ps (FnSp ⟨K, mg, w⟩ p.fn.ps.length p.fn.m) ∧ Binds K fd p.fn.ps []
  met : p.kind = .meth → ∃ (Ca a : Addr) (fd : FuncData), mg p.cls = some (.ref Ca) ∧ Cls K Ca ∧ Meth K Ca p.at_ a ∧ FnOk P w K mg base (L2.CX P w) k a fd p.fn.ps (FnSp ⟨K, mg, w⟩ p.fn.ps.length p.fn.m) ∧ Binds K fd p.fn.ps []
  ini : p.kind = .init → ∃ (Ca a : Addr) (fd : FuncData), mg p.cls = some (.ref Ca) ∧ Mk K Ca a ∧ FnOk P w K mg base (L2.CX P w) k a fd p.fn.ps (FnSp ⟨K, mg, w⟩ p.fn.ps.length p.fn.m) ∧
    ∀ sh ∈ p.fn.shapes, ∀ (s : Shared) (us ws : List Value), K.In s.heap → us.length = sh.n + 1 → ws.length = sh.ks.length → BindsTo s fd ⟨us, sh.ks.zip ws⟩ (p.fn.ps.zip (pick sh.ix (us ++ ws)))
structure FnAt' (P : Program) (w : World) (K : PySem.W.Frag) (mg : Str → Option Value) (base : Heap) (k : Nat) (f : Str) (fn : Fn) : Prop where
  ex : ∃ (a : Addr) (fd : FuncData), mg f = some (.ref a) ∧ PySem.W.keepIn K (.ref a) = true ∧ FnOk P w K mg base (L2.CX P w) k a fd fn.ps (FnSp ⟨K, mg, w⟩ fn.ps.length fn.m) ∧
    ∀ sh ∈ fn.shapes, ∀ (s : Shared) (us ws : List Value), K.In s.heap → us.length = sh.n → ws.length = sh.ks.length → BindsTo s fd ⟨us, sh.ks.zip ws⟩ (fn.ps.zip (pick sh.ix (us ++ ws)))
theorem startE_rep {Z F H} {N : List Str} {args : List PV} {vs : List V} (r : RepL Z F H args vs) : EnvR Z F H (startE N.length args) (L2.start N vs) := by
  have hl := r.length
  refine ⟨?_, fun i x h => ?_⟩
  · unfold startE L2.start
    simp [hl]
  · unfold startE at h
    unfold L2.start
    by_cases hi : i < args.length
    · rw [List.getElem?_append_left (by simpa using hi), List.getElem?_map] at h
      cases e : args[i]? with
      | none => rw [e] at h; cases h
      | some y =>
        rw [e] at h
        cases h
        obtain ⟨v, hv, rv⟩ := r.get e
        refine ⟨v, ?_, rv⟩
        rw [List.getElem?_append_left (by rw [List.length_map, ← hl]; exact hi), List.getElem?_map, hv]
        rfl
    · rw [List.getElem?_append_right (by simpa using hi), List.getElem?_replicate] at h
      split at h <;> cases h
theorem nodup_fst {α β : Type} : ∀ {l : List (α × β)} {a : α} {b c : β}, (l.map (·.1)).Nodup → (a, b) ∈ l → (a, c) ∈ l → b = c
  | x :: xs, a, b, c, h, h1, h2 => by
    rw [List.map_cons, List.nodup_cons] at h
    rcases List.mem_cons.mp h1 with e1 | m1 <;> rcases List.mem_cons.mp h2 with e2 | m2
    · rw [← e1] at e2; cases e2; rfl
    · exact (h.1 (by rw [← e1]; exact List.mem_map.mpr ⟨_, m2, rfl⟩)).elim
    · exact (h.1 (by rw [← e2]; exact List.mem_map.mpr ⟨_, m1, rfl⟩)).elim
    · exact nodup_fst h.2 m1 m2
/-- a def whose first arguments are bound: its code runs, at a given call -/
theorem fn_run {CX : CXT} {P : Program} {w : World} {K : PySem.W.Frag} {mg : Str → Option Value} {base : Heap} {k : Nat} {f : Addr} {name qual : Str} {params : Arguments} {body : List Stmt} {scope : Scope} {dV kV doc pm cdv ct oc : Value} {an od : Option Addr}
    {osl : Array (Option Value)} {N ps : List Str} (lk : K.lookup f = some ⟨oc, od, .func (PySem.W.fnOf name qual params body scope dV kV doc pm an cdv ct), osl⟩) (hcd : PySem.W.codeIn K cdv qual = true) (S : FnScope N ps scope)
    {A : Around} {outer : List Env} {s : Shared} {H : Hp} {args : Args} {us : List Value} {vs : List V} {Q : VK} {E : XK} (hr : Room (k + 1) A) (e0 : Env0 P w K mg base A outer s H) (hb : BindsTo s (PySem.W.fnOf name qual params body scope dV kV doc pm an cdv ct) args (ps.zip us)) (r : Vals vs us) (hl : vs.length = ps.length)
    (hbody : Room k (A.deeper (envOfC qual scope s.heap.objs.size f cdv)) → ∃ t, PSs (cxOf CX P w K mg base N qual scope f cdv A outer s H E) body t ∧ t { nx := fun _ H' => Q .non H', rt := Q } (L2.start N vs) H) :
    codeAny (model P w) A (.call (.ref f) args) (CR CX outer P w H s Q E) s := by
  have KX : K.In s.heap := e0.mod.kin.keeps fun b o e => (e0.bs b o e).1
  have lim : s.heap.NoLimit := e0.mod.nolimit.keeps fun b o e => (e0.bs b o e).1
  have hkind : ∀ y ∈ ps.zip us, scope.names.lookup y.1 = some .local ∨ (scope.names.lookup y.1 = some .cell ∧ ((cellsFrom (s.heap.objs.size + 1) scope.names []).lookup y.1).isSome = true) := fun ⟨n, v⟩ hy => by
    rcases S.par n (List.of_mem_zip hy).1 with q | q
    · exact .inl q
    · exact .inr ⟨q, PySem.W.cellsFrom_some _ _ _ (.inl q)⟩
  refine codeAny_call_function hr.depth (KX _ _ lk) rfl S.co S.gen rfl (PySem.W.codeRec_of KX hcd) (hb _ _ _ _ ?_)
  refine wpAny_newFunctionEnv_cells S.kind hkind fun env he s1 x => ?_
  subst he
  refine ⟨lim.keeps x.toInCall.keep, codeAny_func ?_⟩
  obtain ⟨t, ht, hq⟩ := hbody (hr.deeper _)
  have I : Inv (cxOf CX P w K mg base N qual scope f cdv A outer s H E) [] (L2.start N vs) H s1 := inv_start S hr.hd e0 hl r x
  refine wpAny_mono (ht.run [] s1 (L2.start N vs) H _ I hq) (fun fl s' hs => ?_) fun e s' hs => hs
  have fin : ∀ {σ' : St} {H' : Hp} {v : V} {u : Value}, Inv (cxOf CX P w K mg base N qual scope f cdv A outer s H E) [] σ' H' s' → RelV v u → Q v H' → L2.CE outer P w H s Q u s' :=
    fun {σ' H' v u} J rv q => ⟨v, H', J.os, J.bare, J.base, J.hok, rv, q⟩
  cases fl with
  | ret u =>
    obtain ⟨v, σ', H', J, rv, q⟩ := hs
    exact fin J rv q
  | next =>
    obtain ⟨σ', H', J, q⟩ := hs
    exact fin (v := V.non) (u := Value.none) J rfl q
  | brk =>
    obtain ⟨_, _, _, q⟩ := hs
    exact False.elim q
  | cont =>
    obtain ⟨_, _, _, q⟩ := hs
    exact False.elim q
/-- what may be called at level n -/
structure TabN (P : Program) (w : World) (K : PySem.W.Frag) (mg : Str → Option Value) (base : Heap) (g : Sg) (n : Nat) : Prop where
  fn : ∀ k fn, g.T k = some fn → g.lv k ≤ n → FnAt' P w K mg base (g.lv k) fn.nm fn.toFn
  mt : ∀ k p, g.Ms k = some p → g.lvM k ≤ n → MtAt' P w K mg base (g.lvM k) p
  lm : ∀ k lf, g.Ls k = some lf → g.lvL k ≤ n → LamDef P w K mg base (g.lvL k) lf.nm lf.ps lf.m
section
variable {P : Program} {w : World} {K : PySem.W.Frag} {mg : Str → Option Value} {base : Heap} {g : Sg} {d : Df} {x ql : Str} {f : Addr} {fd : FuncData} {n : Nat}
theorem ctx_ok {cdv : Value} {A : Around} {outer : List Env} {s : Shared} {H : Hp} {E : XK} {g' : Sg} (W1 : World1 P w K mg base g) (tab : TabN P w K mg base g n) (S : FnScope d.N (d.N.take d.np) (defScope d.st)) (hr : Room n (A.deeper (envOfC ql (defScope d.st) s.heap.objs.size f cdv)))
    (hmk : d.mkr = true → ql = x ∧ ∃ c P : Addr, cdv = .ref c ∧ LamX.TabB base mg c P ∧ (P, lamQ x) ∈ tabsOf ⟨K, mg, w⟩) (hg : g' = { g with lam := g'.lam })
    (hlam : d.lam = true → ∀ l, g'.lam = some l → ∃ (k : Nat) (f' c' : Addr) (q : Str) (cs : List PV) (vs : List V), l.1 = .clo f' c' q cs vs ∧ k ≤ n ∧ LamF P w K mg base k s H (frs outer) f' c' q cs vs l.2) :
    CtxOk (cxOf (L2.CX P w) P w K mg base d.N ql (defScope d.st) f cdv A outer s H E) (fun cls dd _ H' => E cls dd H') (mcOf g' n d) := by
  have tk : Takes (cxOf (L2.CX P w) P w K mg base d.N ql (defScope d.st) f cdv A outer s H E) (fun cls dd _ H' => E cls dd H') := takes_of rfl rfl rfl rfl
  have hT : g'.T = g.T := by rw [hg]
  have hlv : g'.lv = g.lv := by rw [hg]
  have hGG : g'.G = g.G := by rw [hg]
  have hC : g'.Cs = g.Cs := by rw [hg]
  have hM : g'.Ms = g.Ms := by rw [hg]
  have hlvM : g'.lvM = g.lvM := by rw [hg]
  have hL : g'.Ls = g.Ls := by rw [hg]
  have hlvL : g'.lvL = g.lvL := by rw [hg]
  refine
    { N := rfl
      sc := rfl
      kind := S.kind
      calm := rfl
      nd := S.nd
      fc := fun _ _ => rfl
      room := hr
      tk := tk
      tab := fun i fn a b => ?_
      lamIn := fun h l hl => ?_
      mkl := fun h => ?_
      lamd := fun k lf a b => ?_
      isc := fun i C a b => W1.isc i C (by rw [← hC]; exact a) b
      glo := fun i p a => W1.glo i p (by rw [← hGG]; exact a)
      blt := W1.blt
      cls := fun i C a => ⟨W1.cls i C (by rw [← hC]; exact a)⟩
      prp := fun i p a b c => ?_
      met := fun i p a b c => ?_
      ini := fun i p a b c => ?_ }
  · have a' : g.T i = some fn := by rw [← hT]; exact a
    have b' : g.lv i ≤ n := by rw [← hlv]; exact b
    show FnAt _ (g'.lv i) _ _
    rw [hlv]
    exact ⟨(tab.fn i fn a' b').ex⟩
  · obtain ⟨k, f', c', q, cs, vs, h1, h2, h3⟩ := hlam h l hl
    exact ⟨k, f', c', q, cs, vs, h1, h2, ⟨rfl, h3⟩⟩
  · obtain ⟨e1, c, P', e, TB, hm⟩ := hmk h
    subst e1
    exact ⟨c, P', e, TB, hm, fun p hp hpe => nodup_fst W1.uni (a := P') (by rw [← hpe]; exact hp) hm⟩
  · have a' : g.Ls k = some lf := by rw [← hL]; exact a
    have b' : g.lvL k ≤ n := by rw [← hlvL]; exact b
    show LamDef _ _ _ _ _ (g'.lvL k) _ _ _
    rw [hlvL]
    exact tab.lm k lf a' b'
  all_goals
    have a' : g.Ms i = some p := by rw [← hM]; exact a
    have c' : g.lvM i ≤ n := by rw [← hlvM]; exact c
    first
    | (show PropAt _ (g'.lvM i) _ _ _; rw [hlvM]; exact ⟨(tab.mt i p a' c').prp b⟩)
    | (show MethAt _ (g'.lvM i) _ _ _; rw [hlvM]; exact ⟨(tab.mt i p a' c').met b⟩)
    | (show MakeAt _ (g'.lvM i) _ _; rw [hlvM]; exact ⟨(tab.mt i p a' c').ini b⟩)
theorem def_ok {m : List PV → M PV} (F : L2.Fun K x ql d.st f fd) (W1 : World1 P w K mg base g) (tab : TabN P w K mg base g n) (hc : chkDf g n d = true) (hl0 : d.lam = false) (hmk : d.mkr = true → ql = x ∧ MkAt K mg w base x fd) (hm : ∀ args, args.length = d.np → M.le (m args) (d.den g args)) :
    FnOk P w K mg base (L2.CX P w) (n + 1) f fd (d.N.take d.np) (FnSp ⟨K, mg, w⟩ (d.N.take d.np).length m) := by
  unfold chkDf at hc
  simp only [Bool.and_eq_true, decide_eq_true_eq] at hc
  obtain ⟨⟨h1, h2⟩, h3⟩ := hc
  have S := scope_ok h1
  have hlen : (d.N.take d.np).length = d.np := by rw [List.length_take]; omega
  obtain ⟨oc, od, kV, doc, pm, an, cdv, ct, osl, rfl, lk, hcd⟩ := F.ex
  refine fn_of lk hcd S (fun vs H Q E h => h.1) fun A outer s H vs Q E hr hsp => ?_
  obtain ⟨hl, F0, S0, args, rp, w0, q⟩ := hsp
  let X := cxOf (L2.CX P w) P w K mg base d.N ql (defScope d.st) f cdv A outer s H E
  have k : CtxOk X (fun cls dd _ H' => E cls dd H') (mcOf g n d) := ctx_ok W1 tab S hr (fun h => ⟨(hmk h).1, (hmk h).2.ex⟩) rfl (fun h => by rw [hl0] at h; cases h)
  have hp : PassesOwn (model X.prog X.w) X.A X.env X.xe := passes_of rfl
  have hb := sndB d.body (L := d.L) k hp _ h3
  refine ⟨_, hb, F0, S0, startE d.N.length args, startE_rep rp, w0, ?_⟩
  have hargs : args.length = d.np := by rw [rp.length, hl, hlen]
  have q' := hm args hargs S0 _ _ q
  refine (dB g d.body _).mono (fun r S' q => ?_) (fun e S' q F' H' c' d' σ' n ex o => q F' H' c' d' n ex) q'
  cases r with
  | nx env => exact fun F' H' σ' n er o => q F' H' _ n .non
  | rt v => exact q
  | bk env => exact q.elim
  | ct env => exact q.elim
/-- a def that takes a lambda -/
theorem lam_ok {m : PV → (List PV → M PV) → List PV → M PV} (F : L2.Fun K x ql d.st f fd) (W1 : World1 P w K mg base g) (tab : TabN P w K mg base g n) (hc : ∀ v φ, chkDf { g with lam := some (v, φ) } n d = true) (hmk : d.mkr = false) (hg : mg x = some (.ref f))
    (hbd : ∀ (s : Shared) (us : List Value), K.In s.heap → us.length = (d.N.take d.np).length → BindsTo s fd ⟨us, []⟩ ((d.N.take d.np).zip us)) (hm : ∀ v φ args, args.length = d.np → M.le (m v φ args) (d.den { g with lam := some (v, φ) } args)) :
    LamDef P w K mg base (n + 1) x (d.N.take d.np) m := by
  refine ⟨f, fd, hg, F.kp, hbd, fun A outer s H us vs Q E F0 S0 args l c' q cs cvs φ kl hr hkl e0 rv hl rp w0 hLF hq => ?_⟩
  have hc' := hc (.clo l c' q cs cvs) φ
  unfold chkDf at hc'
  simp only [Bool.and_eq_true, decide_eq_true_eq] at hc'
  obtain ⟨⟨h1, h2⟩, h3⟩ := hc'
  have S := scope_ok h1
  have hlen : (d.N.take d.np).length = d.np := by rw [List.length_take]; omega
  have KX : K.In s.heap := e0.mod.kin.keeps fun b o e => (e0.bs b o e).1
  have hb0 := hbd s us KX (by rw [← rv.length]; exact hl)
  obtain ⟨oc, od, kV, doc, pm, an, cdv, ct, osl, rfl, lk, hcd⟩ := F.ex
  refine fn_run lk hcd S hr e0 hb0 rv hl fun hr => ?_
  let X := cxOf (L2.CX P w) P w K mg base d.N ql (defScope d.st) f cdv A outer s H E
  have k : CtxOk X (fun cls dd _ H' => E cls dd H') (mcOf { g with lam := some (.clo l c' q cs cvs, φ) } n d) := ctx_ok (x := x) W1 tab S hr (fun h => by rw [hmk] at h; cases h) rfl
    (fun h l' hl' => by cases hl'; exact ⟨kl, l, c', q, cs, cvs, rfl, by omega, hLF⟩)
  have hp : PassesOwn (model X.prog X.w) X.A X.env X.xe := passes_of rfl
  have hb := sndB d.body (L := d.L) k hp _ h3
  refine ⟨_, hb, F0, S0, startE d.N.length args, startE_rep rp, w0, ?_⟩
  have hargs : args.length = d.np := by rw [rp.length, hl, hlen]
  have q' := hm _ φ args hargs S0 _ _ hq
  refine (dB _ d.body _).mono (fun r S' q => ?_) (fun e S' q F' H' c' d' σ' n ex o => q F' H' c' d' n ex) q'
  cases r with
  | nx env => exact fun F' H' σ' n er o => q F' H' _ n .non
  | rt v => exact q
  | bk env => exact q.elim
  | ct env => exact q.elim
end
end Dp

namespace Dp
open PySem PySem.Spec L2
open PyProof.Rows hiding St

/-! ### reckoning with M -/
/-- any value that is so -/
def any {α : Type} (P : α → Prop) : M α := ⟨fun S Q _ => ∀ a, P a → Q a S, fun h _ q => fun a p => h _ _ (q a p)⟩
/-- an owned list's items -/
def getc (a : Addr) : M (List PV) := ⟨fun S Q _ => ∃ xs, S a = some (.lst xs) ∧ Q xs S, fun h _ ⟨xs, e, q⟩ => ⟨xs, e, h _ _ q⟩⟩
def putc (a : Addr) (xs : List PV) : M Unit := ⟨fun S Q _ => Q () (put S a (.lst xs)), fun h _ q => h _ _ q⟩
theorem M.le_refl {α : Type} {m : M α} : M.le m m := fun _ _ _ q => q
theorem M.le_of_eq {α : Type} {m n : M α} (h : m = n) : M.le m n := h ▸ M.le_refl
theorem le_guard {α : Type} {p : Prop} {f : Unit → M α} {n : M α} (h : p → M.le (f ()) n) : M.le (bnd (guard p) f) n := fun S Q E q => h q.1 S Q E q.2
theorem le_stuck {α : Type} {n : M α} : M.le stuck n := fun _ _ _ q => q.elim
theorem guard_ok {α : Type} {p : Prop} {f : Unit → M α} (h : p) : bnd (guard p) f = f () := guard_true h
theorem guard_no {α : Type} {p : Prop} {f : Unit → M α} (h : ¬ p) : bnd (guard p) f = stuck := M.ext fun S Q E => propext ⟨fun q => h q.1, fun q => q.elim⟩
theorem bnd_congr {α β : Type} {m : M α} {f g : α → M β} (h : ∀ a, f a = g a) : bnd m f = bnd m g := by rw [show f = g from funext h]
end Dp

namespace Dp
open PySem PySem.Spec L2
open PyProof.Rows hiding St
/-! ### symbolic runs -/
def setK {γ : Sort _} : En → Nat → Option PV → (En → γ) → γ
  | l, i, x, k => k (l.set i x)
def wipeK {γ : Sort _} (env : En) (vs : List Nat) (k : En → γ) : γ := k (wipeE env vs)
def appK {γ : Sort _} (l : List PV) (x : PV) (k : List PV → γ) : γ := k (l ++ [x])
def catK {γ : Sort _} (l m : List PV) (k : List PV → γ) : γ := k (l ++ m)
def endR : Res → M PV
  | .rt v => ret v
  | .nx _ => ret .non
  | _ => stuck
def forR (src : Src) (body : PV → En → M Res) (xs : List PV) : Res → M Res
  | .nx e => forM src body xs e
  | .ct e => forM src body xs e
  | .bk e => ret (.nx e)
  | .rt v => ret (.rt v)
section
variable {α β : Type} {S : Stt} {g : Sg} {env : En}
section
variable {Q : α → Stt → Prop} {E : Exc → Stt → Prop}
@[simp ↓] theorem r_ret {a : α} : (ret a).run S Q E = Q a S := rfl
theorem r_bnd {m : M β} {f : β → M α} : (bnd m f).run S Q E = m.run S (fun a S1 => (f a).run S1 Q E) E := rfl
@[simp ↓] theorem r_guard {p : Prop} {Q : Unit → Stt → Prop} : (guard p).run S Q E = (p ∧ Q () S) := rfl
theorem r_ite {c : Prop} [Decidable c] {m n : M α} : (if c then m else n).run S Q E = if c then m.run S Q E else n.run S Q E := by split <;> rfl
@[simp ↓] theorem r_ofO {a : α} : (ofO (some a)).run S Q E = Q a S := rfl
@[simp ↓] theorem r_noexc {m : M α} : (noexc m).run S Q E = m.run S Q (fun _ _ => False) := rfl
@[simp ↓] theorem r_any {P : α → Prop} : (any P).run S Q E = ∀ a, P a → Q a S := rfl
@[simp ↓] theorem k_set0 {γ : Sort _} {o x : Option PV} {l : En} {k : En → γ} : setK (o :: l) 0 x k = k (x :: l) := rfl
@[simp ↓] theorem k_setS {γ : Sort _} {o x : Option PV} {l : En} {n : Nat} {k : En → γ} : setK (o :: l) (n + 1) x k = setK l n x fun l => k (o :: l) := rfl
@[simp ↓] theorem k_wipe0 {γ : Sort _} {l : En} {k : En → γ} : wipeK l [] k = k l := rfl
@[simp ↓] theorem k_wipeS {γ : Sort _} {l : En} {v : Nat} {vs : List Nat} {k : En → γ} : wipeK l (v :: vs) k = wipeK l vs fun e => setK e v none k := rfl
@[simp ↓] theorem k_app0 {γ : Sort _} {x : PV} {k : List PV → γ} : appK [] x k = k [x] := rfl
@[simp ↓] theorem k_appS {γ : Sort _} {y x : PV} {l : List PV} {k : List PV → γ} : appK (y :: l) x k = appK l x fun l => k (y :: l) := rfl
@[simp ↓] theorem k_cat0 {γ : Sort _} {m : List PV} {k : List PV → γ} : catK [] m k = k m := rfl
@[simp ↓] theorem k_catS {γ : Sort _} {y : PV} {l m : List PV} {k : List PV → γ} : catK (y :: l) m k = catK l m fun l => k (y :: l) := rfl
end
section
variable {Q : PV → Stt → Prop} {E : Exc → Stt → Prop}
@[simp ↓] theorem r_get0 {x : PV} {l : En} : (getv (some x :: l) 0).run S Q E = Q x S := rfl
@[simp ↓] theorem r_getS {o : Option PV} {l : En} {n : Nat} : (getv (o :: l) (n + 1)).run S Q E = (getv l n).run S Q E := rfl
@[simp ↓] theorem r_var {i : Nat} : (dE g (.var i) env).run S Q E = (getv env i).run S Q E := rfl
@[simp ↓] theorem r_int {i : Int} : (dE g (.int i) env).run S Q E = Q (.int i) S := rfl
@[simp ↓] theorem r_str {i : Str} : (dE g (.str i) env).run S Q E = Q (.str i) S := rfl
@[simp ↓] theorem r_bl {i : Bool} : (dE g (.bl i) env).run S Q E = Q (.bl i) S := rfl
@[simp ↓] theorem r_non : (dE g .non env).run S Q E = Q .non S := rfl
@[simp ↓] theorem r_bty {x n : String} : (dE g (.bty x n) env).run S Q E = Q (.ty n) S := rfl
@[simp ↓] theorem r_bin {op : Bop} {a b : CE} : (dE g (.bin op a b) env).run S Q E = (dE g a env).run S (fun x S => (dE g b env).run S (fun y S => (op.sem x y).run S Q E) E) E := rfl
@[simp ↓] theorem r_neg {a : CE} : (dE g (.neg a) env).run S Q E = (dE g a env).run S (fun x S => (vNeg x).run S Q E) E := rfl
@[simp ↓] theorem r_nt {a : CE} : (dE g (.nt a) env).run S Q E = (dE g a env).run S (fun x S => (vNot x).run S Q E) E := rfl
@[simp ↓] theorem r_cmp {op : Cop} {a b : CE} : (dE g (.cmp op a b) env).run S Q E = (dE g a env).run S (fun x S => (dE g b env).run S (fun y S => (op.sem x y).run S Q E) E) E := rfl
@[simp ↓] theorem r_chn {o1 o2 : Cop} {a b c : CE} : (dE g (.chn o1 o2 a b c) env).run S Q E = (dE g a env).run S (fun x S => (dE g b env).run S (fun y S => (o1.sem x y).run S (fun t S => (vTruth t).run S (fun d S => if d = true then (dE g c env).run S (fun z S => (o2.sem y z).run S Q E) E else Q t S) E) E) E) E := by
  show (dE g a env).run S (fun x S => (dE g b env).run S (fun y S => (o1.sem x y).run S (fun t S => (vTruth t).run S (fun d S => (if d = true then bnd (dE g c env) fun z => o2.sem y z else ret t : M PV).run S Q E) E) E) E) E = _
  simp only [r_ite]; rfl
@[simp ↓] theorem r_tv {a : CE} : (dE g (.tv a) env).run S Q E = (dE g a env).run S Q E := rfl
@[simp ↓] theorem r_b1 {a : CE} : (dE g (.b1 a) env).run S Q E = (dE g a env).run S Q E := rfl
@[simp ↓] theorem r_and {a b : CE} : (dE g (.and a b) env).run S Q E = (dE g a env).run S (fun x S => (vTruth x).run S (fun t S => if t = true then (dE g b env).run S Q E else Q x S) E) E := by
  show (dE g a env).run S (fun x S => (vTruth x).run S (fun t S => (if t = true then dE g b env else ret x : M PV).run S Q E) E) E = _
  simp only [r_ite]; rfl
@[simp ↓] theorem r_or {a b : CE} : (dE g (.or a b) env).run S Q E = (dE g a env).run S (fun x S => (vTruth x).run S (fun t S => if t = true then Q x S else (dE g b env).run S Q E) E) E := by
  show (dE g a env).run S (fun x S => (vTruth x).run S (fun t S => (if t = true then ret x else dE g b env : M PV).run S Q E) E) E = _
  simp only [r_ite]; rfl
@[simp ↓] theorem r_ife {c a b : CE} : (dE g (.ife c a b) env).run S Q E = (dT g c env).run S (fun t S => if t = true then (dE g a env).run S Q E else (dE g b env).run S Q E) E := by
  show (dT g c env).run S (fun t S => (if t = true then dE g a env else dE g b env : M PV).run S Q E) E = _
  simp only [r_ite]
@[simp ↓] theorem r_tup {es : CL} : (dE g (.tup es) env).run S Q E = (dL g es env).run S (fun xs S => (xs.length ≤ sizeLine ∧ Q (.tup xs) S)) E := rfl
@[simp ↓] theorem r_lst {es : CL} : (dE g (.lst false es) env).run S Q E = (dL g es env).run S (fun xs S => (xs.length ≤ sizeLine ∧ Q (.lst xs) S)) E := rfl
@[simp ↓] theorem r_own {es : CL} : (dE g (.lst true es) env).run S Q E = (dL g es env).run S (fun xs S => (xs.length ≤ sizeLine ∧ ∀ p, S p = none → Q (.ref p) (put S p (.lst xs)))) E := rfl
@[simp ↓] theorem r_ix {a i : CE} : (dE g (.ix a i) env).run S Q E = (dE g a env).run S (fun x S => (dE g i env).run S (fun y S => (vIdx x y).run S Q E) E) E := rfl
@[simp ↓] theorem r_sl {a : CE} {lo hi : CO} : (dE g (.sl a lo hi) env).run S Q E = (dE g a env).run S (fun x S => (dO g lo env).run S (fun l S => (dO g hi env).run S (fun h S => (vSlice l h x).run S Q E) E) E) E := rfl
@[simp ↓] theorem r_callB {f : Bf} {es : CL} : (dE g (.callB f es) env).run S Q E = (dL g es env).run S (fun xs S => (f.sem xs).run S Q E) E := rfl
@[simp ↓] theorem r_callT {f : Bt} {es : CL} : (dE g (.callT f es) env).run S Q E = (dL g es env).run S (fun xs S => (f.sem xs).run S Q E) E := rfl
@[simp ↓] theorem r_meth {m : Mt} {o : CE} {es : CL} : (dE g (.meth m o es) env).run S Q E = (dE g o env).run S (fun x S => (isT m.T x).run S (fun _ S => (dL g es env).run S (fun xs S => (m.sem x xs).run S Q E) E) E) E := rfl
/-- the body of a comprehension, one clause -/
def compF (g : Sg) (elt : CE) (tg : CT) (c : CO) (w : En) (x : PV) (acc : List PV) : M (List PV) := noexc (bnd (dG g tg x w) fun env1 => bnd (dC g c env1) fun t => if t = true then bnd (dE g elt env1) fun y => app1 acc y else ret acc)
@[simp ↓] theorem r_comp {L : List (Str × Nat)} {elt : CE} {tg : CT} {it : CI} {c : CO} : (dE g (.comp false L elt tg it c) env).run S Q E = (dI g it env).run S (fun p S => wipeK env (L.map (·.2)) fun w => (compM p.1 (compF g elt tg c w) p.2 []).run S (fun xs S => Q (.lst xs) S) E) E := rfl
@[simp ↓] theorem r_compO {L : List (Str × Nat)} {elt : CE} {tg : CT} {it : CI} {c : CO} : (dE g (.comp true L elt tg it c) env).run S Q E = (dI g it env).run S (fun p S => wipeK env (L.map (·.2)) fun w => (compM p.1 (compF g elt tg c w) p.2 []).run S (fun xs S => ∀ p, S p = none → Q (.ref p) (put S p (.lst xs))) E) E := rfl
end
section
variable {Q : List PV → Stt → Prop} {E : Exc → Stt → Prop}
@[simp ↓] theorem r_compF {elt : CE} {tg : CT} {c : CO} {w : En} {x : PV} {acc : List PV} : (compF g elt tg c w x acc).run S Q E = (dG g tg x w).run S (fun env1 S => (dC g c env1).run S (fun t S => if t = true then (dE g elt env1).run S (fun y S => (acc.length < sizeLine ∧ appK acc y fun l => Q l S)) (fun _ _ => False) else Q acc S) (fun _ _ => False)) (fun _ _ => False) := by
  show (dG g tg x w).run S (fun env1 S => (dC g c env1).run S (fun t S => (if t = true then bnd (dE g elt env1) fun y => app1 acc y else ret acc : M (List PV)).run S Q (fun _ _ => False)) (fun _ _ => False)) (fun _ _ => False) = _
  simp only [r_ite]; rfl
@[simp ↓] theorem r_cm0 {body : PV → List PV → M (List PV)} {acc : List PV} : (compM .fix body [] acc).run S Q E = Q acc S := rfl
@[simp ↓] theorem r_cmS {body : PV → List PV → M (List PV)} {acc xs : List PV} {x : PV} : (compM .fix body (x :: xs) acc).run S Q E = (body x acc).run S (fun acc S => (compM .fix body xs acc).run S Q E) E := rfl
@[simp ↓] theorem r_l0 : (dL g .nil env).run S Q E = Q [] S := rfl
@[simp ↓] theorem r_lc {e : CE} {es : CL} : (dL g (.cons e es) env).run S Q E = (dE g e env).run S (fun x S => (dL g es env).run S (fun xs S => Q (x :: xs) S) E) E := rfl
@[simp ↓] theorem r_ls {e : CE} {es : CL} : (dL g (.star e es) env).run S Q E = (dE g e env).run S (fun x S => (vItems x).run S (fun ys S => (dL g es env).run S (fun xs S => catK ys xs fun l => Q l S) E) E) E := rfl
end
/-- two clauses: the inner body, the outer one -/
def compI (g : Sg) (elt : CE) (tg : CT) (c : CO) (w : En) (x : PV) (acc : List PV) : M (List PV) := bnd (dG g tg x w) fun env1 => bnd (dC g c env1) fun t => if t = true then bnd (dE g elt env1) fun y => app1 acc y else ret acc
def compF2 (g : Sg) (elt : CE) (tg : CT) (c : CO) (L1 : List Nat) (tg1 : CT) (it1 : CI) (c1 : CO) (w : En) (x : PV) (acc : List PV) : M (List PV) := noexc (bnd (dG g tg x w) fun env1 => bnd (dC g c env1) fun t => if t = true then bnd (dI g it1 env1) fun p1 => compM p1.1 (compI g elt tg1 c1 (wipeE env1 L1)) p1.2 acc else ret acc)
section
variable {Q : PV → Stt → Prop} {E : Exc → Stt → Prop}
@[simp ↓] theorem r_comp2 {L : List (Str × Nat)} {L1 : List Nat} {elt : CE} {tg : CT} {it : CI} {c : CO} {tg1 : CT} {it1 : CI} {c1 : CO} : (dE g (.comp2 false L L1 elt tg it c tg1 it1 c1) env).run S Q E = (dI g it env).run S (fun p S => wipeK env (L.map (·.2)) fun w => (compM p.1 (compF2 g elt tg c L1 tg1 it1 c1 w) p.2 []).run S (fun xs S => Q (.lst xs) S) E) E := rfl
end
section
variable {Q : List PV → Stt → Prop} {E : Exc → Stt → Prop}
@[simp ↓] theorem r_compI {elt : CE} {tg : CT} {c : CO} {w : En} {x : PV} {acc : List PV} : (compI g elt tg c w x acc).run S Q E = (dG g tg x w).run S (fun env1 S => (dC g c env1).run S (fun t S => if t = true then (dE g elt env1).run S (fun y S => (acc.length < sizeLine ∧ appK acc y fun l => Q l S)) E else Q acc S) E) E := by
  show (dG g tg x w).run S (fun env1 S => (dC g c env1).run S (fun t S => (if t = true then bnd (dE g elt env1) fun y => app1 acc y else ret acc : M (List PV)).run S Q E) E) E = _
  simp only [r_ite]; rfl
@[simp ↓] theorem r_compF2 {elt : CE} {tg : CT} {c : CO} {L1 : List Nat} {tg1 : CT} {it1 : CI} {c1 : CO} {w : En} {x : PV} {acc : List PV} : (compF2 g elt tg c L1 tg1 it1 c1 w x acc).run S Q E = (dG g tg x w).run S (fun env1 S => (dC g c env1).run S (fun t S => if t = true then (dI g it1 env1).run S (fun p1 S => wipeK env1 L1 fun w1 => (compM p1.1 (compI g elt tg1 c1 w1) p1.2 acc).run S Q (fun _ _ => False)) (fun _ _ => False) else Q acc S) (fun _ _ => False)) (fun _ _ => False) := by
  show (dG g tg x w).run S (fun env1 S => (dC g c env1).run S (fun t S => (if t = true then bnd (dI g it1 env1) fun p1 => compM p1.1 (compI g elt tg1 c1 (wipeE env1 L1)) p1.2 acc else ret acc : M (List PV)).run S Q (fun _ _ => False)) (fun _ _ => False)) (fun _ _ => False) = _
  simp only [r_ite]; rfl
end
section
variable {Q : Bool → Stt → Prop} {E : Exc → Stt → Prop}
@[simp ↓] theorem r_tnt {a : CE} : (dT g (.nt a) env).run S Q E = (dT g a env).run S (fun t S => Q (!t) S) E := rfl
@[simp ↓] theorem r_tb1 {a : CE} : (dT g (.b1 a) env).run S Q E = (dT g a env).run S Q E := rfl
@[simp ↓] theorem r_tand {a b : CE} : (dT g (.and a b) env).run S Q E = (dT g a env).run S (fun t S => if t = true then (dT g b env).run S Q E else Q false S) E := by
  show (dT g a env).run S (fun t S => (if t = true then dT g b env else ret false : M Bool).run S Q E) E = _
  simp only [r_ite]; rfl
@[simp ↓] theorem r_tor {a b : CE} : (dT g (.or a b) env).run S Q E = (dT g a env).run S (fun t S => if t = true then Q true S else (dT g b env).run S Q E) E := by
  show (dT g a env).run S (fun t S => (if t = true then ret true else dT g b env : M Bool).run S Q E) E = _
  simp only [r_ite]; rfl
@[simp ↓] theorem r_tcmp {op : Cop} {a b : CE} : (dT g (.cmp op a b) env).run S Q E = (dE g a env).run S (fun x S => (dE g b env).run S (fun y S => (op.sem x y).run S (fun v S => (vTruth v).run S Q E) E) E) E := rfl
@[simp ↓] theorem r_tchn {o1 o2 : Cop} {a b c : CE} : (dT g (.chn o1 o2 a b c) env).run S Q E = (dE g a env).run S (fun x S => (dE g b env).run S (fun y S => (o1.sem x y).run S (fun t S => (vTruth t).run S (fun d S => if d = true then (dE g c env).run S (fun z S => (o2.sem y z).run S (fun v S => (vTruth v).run S Q E) E) E else Q false S) E) E) E) E := by
  show (dE g a env).run S (fun x S => (dE g b env).run S (fun y S => (o1.sem x y).run S (fun t S => (vTruth t).run S (fun d S => (if d = true then bnd (dE g c env) fun z => bnd (o2.sem y z) vTruth else ret false : M Bool).run S Q E) E) E) E) E = _
  simp only [r_ite]; rfl
@[simp ↓] theorem r_ttv {a : CE} : (dT g (.tv a) env).run S Q E = (dE g a env).run S (fun v S => (vTruth v).run S Q E) E := rfl
@[simp ↓] theorem r_c0 : (dC g .none env).run S Q E = Q true S := rfl
@[simp ↓] theorem r_c1 {a : CE} : (dC g (.some a) env).run S Q E = (dT g a env).run S Q E := rfl
@[simp ↓] theorem r_trb {b : Bool} : (vTruth (.bl b)).run S Q E = Q b S := rfl
@[simp ↓] theorem r_trn : (vTruth .non).run S Q E = Q false S := rfl
@[simp ↓] theorem r_tri {i : Int} : (vTruth (.int i)).run S Q E = Q (i != 0) S := rfl
@[simp ↓] theorem r_trt {xs : List PV} : (vTruth (.tup xs)).run S Q E = Q (!xs.isEmpty) S := rfl
@[simp ↓] theorem r_trl {xs : List PV} : (vTruth (.lst xs)).run S Q E = Q (!xs.isEmpty) S := rfl
end
section
variable {Q : Option Int → Stt → Prop} {E : Exc → Stt → Prop}
@[simp ↓] theorem r_o0 : (dO g .none env).run S Q E = Q none S := rfl
@[simp ↓] theorem r_o1 {e : CE} : (dO g (.some e) env).run S Q E = (dE g e env).run S (fun x S => (vPart x).run S Q E) E := rfl
@[simp ↓] theorem r_prt {i : Int} : (vPart (.int i)).run S Q E = Q (some i) S := rfl
end
section
variable {Q : En → Stt → Prop} {E : Exc → Stt → Prop}
@[simp ↓] theorem r_gn {i : Nat} {x : PV} : (dG g (.name i) x env).run S Q E = setK env i (some x) fun e => Q e S := rfl
@[simp ↓] theorem r_gt {ts : CTs} {xs : List PV} : (dG g (.tup ts) (.tup xs) env).run S Q E = (xs.length = lenTs ts ∧ (dGs g ts xs env).run S Q E) := rfl
@[simp ↓] theorem r_gl {ts : CTs} {xs : List PV} : (dG g (.tup ts) (.lst xs) env).run S Q E = (xs.length = lenTs ts ∧ (dGs g ts xs env).run S Q E) := rfl
@[simp ↓] theorem r_gs {o i : CE} {v : PV} : (dG g (.sub o i) v env).run S Q E = (dE g o env).run S (fun a S => (dE g i env).run S (fun k S => (vSet a k v).run S (fun _ S => Q env S) E) E) E := rfl
@[simp ↓] theorem r_g0 : (dGs g .nil [] env).run S Q E = Q env S := rfl
@[simp ↓] theorem r_gc {t : CT} {ts : CTs} {x : PV} {xs : List PV} : (dGs g (.cons t ts) (x :: xs) env).run S Q E = (dG g t x env).run S (fun env S => (dGs g ts xs env).run S Q E) E := rfl
theorem r_frz {i : Nat} {xs : List PV} {a : Addr} : (freezeV i env).run S Q E = (freezeV i env).run S Q E := rfl
end
section
variable {Q : Src × List PV → Stt → Prop} {E : Exc → Stt → Prop}
@[simp ↓] theorem r_iv {e : CE} : (dI g (.val e) env).run S Q E = (dE g e env).run S (fun x S => (vSrc x).run S Q E) E := rfl
@[simp ↓] theorem r_ir {es : CL} : (dI g (.rng es) env).run S Q E = (dL g es env).run S (fun xs S => (xs.length = lenL es ∧ (vRng xs).run S Q E)) E := rfl
@[simp ↓] theorem r_srt {xs : List PV} : (vSrc (.tup xs)).run S Q E = Q (.fix, xs) S := rfl
@[simp ↓] theorem r_srl {xs : List PV} : (vSrc (.lst xs)).run S Q E = Q (.fix, xs) S := rfl
@[simp ↓] theorem r_src {xs : List PV} : (vSrc (.loc xs)).run S Q E = Q (.fix, xs) S := rfl
@[simp ↓] theorem r_rg1 {j : Int} : (vRng [.int j]).run S Q E = (inRng j ∧ Q (.fix, rngItems 0 j.toNat) S) := rfl
@[simp ↓] theorem r_rg2 {i j : Int} : (vRng [.int i, .int j]).run S Q E = ((inRng i ∧ inRng j) ∧ Q (.fix, rngItems i (j - i).toNat) S) := rfl
end
section
variable {Q : Res → Stt → Prop} {E : Exc → Stt → Prop}
@[simp ↓] theorem r_ex {e : CE} : (dS g (.expr e) env).run S Q E = (dE g e env).run S (fun _ S => Q (.nx env) S) E := rfl
@[simp ↓] theorem r_asg {t : CT} {e : CE} : (dS g (.asg t e) env).run S Q E = (dE g e env).run S (fun v S => (dG g t v env).run S (fun env S => Q (.nx env) S) E) E := rfl
@[simp ↓] theorem r_setc {i : Nat} {e : CE} : (dS g (.setc i e) env).run S Q E = (dE g e env).run S (fun v S => setK env i (some v) fun env => Q (.nx env) S) E := rfl
def asg2 (i j : Nat) (env : En) : List PV → M Res := fun vs => match vs with
  | [v, w] => ret (.nx ((env.set i (some v)).set j (some w)))
  | _ => stuck
@[simp ↓] theorem r_par2 {i j : Nat} {es : CL} : (dS g (.par2 i j es) env).run S Q E = (dL g es env).run S (fun vs S => (asg2 i j env vs).run S Q E) E := rfl
@[simp ↓] theorem r_asg2 {i j : Nat} {v w : PV} : (asg2 i j env [v, w]).run S Q E = setK env i (some v) fun env => setK env j (some w) fun env => Q (.nx env) S := rfl
def asg3 (i j l : Nat) (env : En) : List PV → M Res := fun vs => match vs with
  | [v, w, z] => ret (.nx (((env.set i (some v)).set j (some w)).set l (some z)))
  | _ => stuck
@[simp ↓] theorem r_par3 {i j l : Nat} {es : CL} : (dS g (.par3 i j l es) env).run S Q E = (dL g es env).run S (fun vs S => (asg3 i j l env vs).run S Q E) E := rfl
@[simp ↓] theorem r_asg3 {i j l : Nat} {v w z : PV} : (asg3 i j l env [v, w, z]).run S Q E = setK env i (some v) fun env => setK env j (some w) fun env => setK env l (some z) fun env => Q (.nx env) S := rfl
@[simp ↓] theorem r_rt {e : CE} : (dS g (.ret e) env).run S Q E = (dE g e env).run S (fun v S => Q (.rt v) S) E := rfl
@[simp ↓] theorem r_rtN : (dS g .retN env).run S Q E = Q (.rt .non) S := rfl
@[simp ↓] theorem r_if {c : CE} {a b : CB} : (dS g (.ifs c a b) env).run S Q E = (dT g c env).run S (fun t S => if t = true then (dB g a env).run S Q E else (dB g b env).run S Q E) E := by
  show (dT g c env).run S (fun t S => (if t = true then dB g a env else dB g b env : M Res).run S Q E) E = _
  simp only [r_ite]
/-- a turn of a loop -/
def turnF (g : Sg) (t : CT) (b : CB) (x : PV) (env : En) : M Res := bnd (dG g t x env) (dB g b)
@[simp ↓] theorem r_loop {t : CT} {it : CI} {b : CB} : (dS g (.loop t it b) env).run S Q E = (dI g it env).run S (fun p S => (forM p.1 (turnF g t b) p.2 env).run S Q E) E := rfl
@[simp ↓] theorem r_turn {t : CT} {b : CB} {x : PV} : (turnF g t b x env).run S Q E = (dG g t x env).run S (fun env S => (dB g b env).run S Q E) E := rfl
@[simp ↓] theorem r_for0 {body : PV → En → M Res} : (forM .fix body [] env).run S Q E = Q (.nx env) S := rfl
@[simp ↓] theorem r_forS {body : PV → En → M Res} {x : PV} {xs : List PV} : (forM .fix body (x :: xs) env).run S Q E = (body x env).run S (fun r S => (forR .fix body xs r).run S Q E) E := by
  show (body x env).run S _ E = _
  congr 1
@[simp ↓] theorem r_fnx {src : Src} {body : PV → En → M Res} {xs : List PV} : (forR src body xs (.nx env)).run S Q E = (forM src body xs env).run S Q E := rfl
@[simp ↓] theorem r_fct {src : Src} {body : PV → En → M Res} {xs : List PV} : (forR src body xs (.ct env)).run S Q E = (forM src body xs env).run S Q E := rfl
@[simp ↓] theorem r_fbk {src : Src} {body : PV → En → M Res} {xs : List PV} : (forR src body xs (.bk env)).run S Q E = Q (.nx env) S := rfl
@[simp ↓] theorem r_frt {src : Src} {body : PV → En → M Res} {xs : List PV} {v : PV} : (forR src body xs (.rt v)).run S Q E = Q (.rt v) S := rfl
@[simp ↓] theorem r_pass : (dS g .pass env).run S Q E = Q (.nx env) S := rfl
@[simp ↓] theorem r_brk : (dS g .brk env).run S Q E = Q (.bk env) S := rfl
@[simp ↓] theorem r_cont : (dS g .cont env).run S Q E = Q (.ct env) S := rfl
@[simp ↓] theorem r_doc : (dS g .doc env).run S Q E = Q (.nx env) S := rfl
@[simp ↓] theorem r_never : (dS g .never env).run S Q E = False := rfl
@[simp ↓] theorem r_b0 : (dB g .nil env).run S Q E = Q (.nx env) S := rfl
@[simp ↓] theorem r_bc {s : CS} {ss : CB} : (dB g (.cons s ss) env).run S Q E = (dS g s env).run S (fun r S => (seqR r (dB g ss)).run S Q E) E := rfl
@[simp ↓] theorem r_bf {i : Nat} {ss : CB} : (dB g (.frz i ss) env).run S Q E = (freezeV i env).run S (fun env S => (dB g ss env).run S Q E) E := rfl
@[simp ↓] theorem r_snx {k : En → M Res} {e : En} : (seqR (.nx e) k).run S Q E = (k e).run S Q E := rfl
@[simp ↓] theorem r_srr {k : En → M Res} {v : PV} : (seqR (.rt v) k).run S Q E = Q (.rt v) S := rfl
@[simp ↓] theorem r_sbk {k : En → M Res} {e : En} : (seqR (.bk e) k).run S Q E = Q (.bk e) S := rfl
@[simp ↓] theorem r_sct {k : En → M Res} {e : En} : (seqR (.ct e) k).run S Q E = Q (.ct e) S := rfl
end
section
variable {Q : PV → Stt → Prop} {E : Exc → Stt → Prop}
@[simp ↓] theorem r_runB {m : M Res} : (runB m).run S Q E = m.run S (fun r S => (endR r).run S Q E) E := by
  show m.run S _ E = _
  congr 1
@[simp ↓] theorem r_ert {v : PV} : (endR (.rt v)).run S Q E = Q v S := rfl
@[simp ↓] theorem r_enx : (endR (.nx env)).run S Q E = Q .non S := rfl
/-! operators -/
@[simp ↓] theorem r_add {a b : Int} : (Bop.add.sem (.int a) (.int b)).run S Q E = Q (.int (a + b)) S := rfl
@[simp ↓] theorem r_addT {a b : List PV} : (Bop.add.sem (.tup a) (.tup b)).run S Q E = (a.length + b.length ≤ sizeLine ∧ catK a b fun l => Q (.tup l) S) := rfl
@[simp ↓] theorem r_addL {a b : List PV} : (Bop.add.sem (.lst a) (.lst b)).run S Q E = (a.length + b.length ≤ sizeLine ∧ catK a b fun l => Q (.lst l) S) := rfl
@[simp ↓] theorem r_addS {a b : Str} : (Bop.add.sem (.str a) (.str b)).run S Q E = (a.length + b.length ≤ sizeLine ∧ Q (.str (a ++ b)) S) := rfl
@[simp ↓] theorem r_sub {a b : Int} : (Bop.sub.sem (.int a) (.int b)).run S Q E = Q (.int (a - b)) S := propext ⟨fun q => q.2, fun q => ⟨trivial, q⟩⟩
@[simp ↓] theorem r_mul {a b : Int} : (Bop.mul.sem (.int a) (.int b)).run S Q E = (CMulA a b ∧ Q (.int (a * b)) S) := rfl
@[simp ↓] theorem r_mod {a b : Int} : (Bop.mod.sem (.int a) (.int b)).run S Q E = (0 < b ∧ Q (.int (a % b)) S) := rfl
@[simp ↓] theorem r_fdiv {a b : Int} : (Bop.fdiv.sem (.int a) (.int b)).run S Q E = (CDivW a b ∧ Q (.int (a / b)) S) := rfl
@[simp ↓] theorem r_pow {a b : Int} : (Bop.pow.sem (.int a) (.int b)).run S Q E = (CPow a b ∧ Q (.int (a ^ b.toNat)) S) := rfl
@[simp ↓] theorem r_vneg {a : Int} : (vNeg (.int a)).run S Q E = Q (.int (-a)) S := rfl
@[simp ↓] theorem r_vnot {a : PV} : (vNot a).run S Q E = (vTruth a).run S (fun t S => Q (.bl !t) S) E := rfl
@[simp ↓] theorem r_lt {a b : Int} : (Cop.lt.sem (.int a) (.int b)).run S Q E = Q (.bl (decide (a < b))) S := propext ⟨fun q => q.2, fun q => ⟨trivial, q⟩⟩
@[simp ↓] theorem r_le {a b : Int} : (Cop.le.sem (.int a) (.int b)).run S Q E = Q (.bl (decide (a ≤ b))) S := propext ⟨fun q => q.2, fun q => ⟨trivial, q⟩⟩
@[simp ↓] theorem r_gt' {a b : Int} : (Cop.gt.sem (.int a) (.int b)).run S Q E = Q (.bl (decide (b < a))) S := propext ⟨fun q => q.2, fun q => ⟨trivial, q⟩⟩
@[simp ↓] theorem r_ge {a b : Int} : (Cop.ge.sem (.int a) (.int b)).run S Q E = Q (.bl (decide (b ≤ a))) S := propext ⟨fun q => q.2, fun q => ⟨trivial, q⟩⟩
@[simp ↓] theorem r_eqI {a b : Int} : (Cop.eq.sem (.int a) (.int b)).run S Q E = Q (.bl (decide (a = b))) S := by
  show (fine2 _ _ ∧ Q (.bl (PV.eqv (.int a) (.int b))) S) = _
  have h : PV.eqv (.int a) (.int b) = decide (a = b) := by simp only [PV.eqv]; rfl
  rw [h]
  exact propext ⟨fun q => q.2, fun q => ⟨by simp [fine2, PV.fine], q⟩⟩
@[simp ↓] theorem r_neI {a b : Int} : (Cop.ne.sem (.int a) (.int b)).run S Q E = Q (.bl (!decide (a = b))) S := by
  show (fine2 _ _ ∧ Q (.bl (!PV.eqv (.int a) (.int b))) S) = _
  have h : PV.eqv (.int a) (.int b) = decide (a = b) := by simp only [PV.eqv]; rfl
  rw [h]
  exact propext ⟨fun q => q.2, fun q => ⟨by simp [fine2, PV.fine], q⟩⟩
@[simp ↓] theorem r_eqB {a b : Bool} : (Cop.eq.sem (.bl a) (.bl b)).run S Q E = Q (.bl (a == b)) S := by
  show (fine2 _ _ ∧ Q (.bl (PV.eqv (.bl a) (.bl b))) S) = _
  have h : PV.eqv (.bl a) (.bl b) = (a == b) := by simp only [PV.eqv]
  rw [h]
  exact propext ⟨fun q => q.2, fun q => ⟨by simp [fine2, PV.fine], q⟩⟩
@[simp ↓] theorem r_neB {a b : Bool} : (Cop.ne.sem (.bl a) (.bl b)).run S Q E = Q (.bl (!(a == b))) S := by
  show (fine2 _ _ ∧ Q (.bl (!PV.eqv (.bl a) (.bl b))) S) = _
  have h : PV.eqv (.bl a) (.bl b) = (a == b) := by simp only [PV.eqv]
  rw [h]
  exact propext ⟨fun q => q.2, fun q => ⟨by simp [fine2, PV.fine], q⟩⟩
@[simp ↓] theorem r_eqL {a b : List PV} : (Cop.eq.sem (.lst a) (.lst b)).run S Q E = (fine2 (.lst a) (.lst b) ∧ Q (.bl (PV.eqv (.lst a) (.lst b))) S) := rfl
@[simp ↓] theorem r_eqT {a b : List PV} : (Cop.eq.sem (.tup a) (.tup b)).run S Q E = (fine2 (.tup a) (.tup b) ∧ Q (.bl (PV.eqv (.tup a) (.tup b))) S) := rfl
@[simp ↓] theorem r_eqS {a b : Str} : (Cop.eq.sem (.str a) (.str b)).run S Q E = (fine2 (.str a) (.str b) ∧ Q (.bl (a == b)) S) := by
  show (fine2 _ _ ∧ Q (.bl (PV.eqv (.str a) (.str b))) S) = _
  have h : PV.eqv (.str a) (.str b) = (a == b) := by simp only [PV.eqv]
  rw [h]
@[simp ↓] theorem r_inL {a : PV} {b : List PV} : (Cop.isin.sem a (.lst b)).run S Q E = (fine2 a (.lst b) ∧ Q (.bl (false ^^ b.any fun y => PV.eqv y a)) S) := rfl
@[simp ↓] theorem r_inT {a : PV} {b : List PV} : (Cop.isin.sem a (.tup b)).run S Q E = (fine2 a (.tup b) ∧ Q (.bl (false ^^ b.any fun y => PV.eqv y a)) S) := rfl
@[simp ↓] theorem r_isN {a b : PV} : (Cop.isN.sem a b).run S Q E = Q (.bl (isNon a)) S := rfl
@[simp ↓] theorem r_notN {a b : PV} : (Cop.notN.sem a b).run S Q E = Q (.bl (!isNon a)) S := rfl
/-! items -/
section
variable {x y z w v : PV} {l : List PV}
theorem at0 {α : Type} {x : α} {l : List α} : atI (x :: l) 0 = some x := by
  unfold atI ixN; simp [show (0 : Int) < (l.length : Int) + 1 by omega]
theorem at1 {α : Type} {x y : α} {l : List α} : atI (x :: y :: l) 1 = some y := by
  unfold atI ixN; simp [show (1 : Int) < (l.length : Int) + 1 + 1 by omega]
theorem at2 {α : Type} {x y z : α} {l : List α} : atI (x :: y :: z :: l) 2 = some z := by
  unfold atI ixN; simp [show (2 : Int) < (l.length : Int) + 1 + 1 + 1 by omega]
theorem at3 {α : Type} {x y z w : α} {l : List α} : atI (x :: y :: z :: w :: l) 3 = some w := by
  unfold atI ixN; simp [show (3 : Int) < (l.length : Int) + 1 + 1 + 1 + 1 by omega]
@[simp ↓] theorem r_ixT0 : (vIdx (.tup (x :: l)) (.int 0)).run S Q E = Q x S := by show (ofO (atI _ _)).run S Q E = _; rw [at0]; rfl
@[simp ↓] theorem r_ixL0 : (vIdx (.lst (x :: l)) (.int 0)).run S Q E = Q x S := by show (ofO (atI _ _)).run S Q E = _; rw [at0]; rfl
@[simp ↓] theorem r_ixT1 : (vIdx (.tup (x :: y :: l)) (.int 1)).run S Q E = Q y S := by show (ofO (atI _ _)).run S Q E = _; rw [at1]; rfl
@[simp ↓] theorem r_ixL1 : (vIdx (.lst (x :: y :: l)) (.int 1)).run S Q E = Q y S := by show (ofO (atI _ _)).run S Q E = _; rw [at1]; rfl
@[simp ↓] theorem r_ixT2 : (vIdx (.tup (x :: y :: z :: l)) (.int 2)).run S Q E = Q z S := by show (ofO (atI _ _)).run S Q E = _; rw [at2]; rfl
@[simp ↓] theorem r_ixL2 : (vIdx (.lst (x :: y :: z :: l)) (.int 2)).run S Q E = Q z S := by show (ofO (atI _ _)).run S Q E = _; rw [at2]; rfl
@[simp ↓] theorem r_ixT3 : (vIdx (.tup (x :: y :: z :: w :: l)) (.int 3)).run S Q E = Q w S := by show (ofO (atI _ _)).run S Q E = _; rw [at3]; rfl
@[simp ↓] theorem r_ixL3 : (vIdx (.lst (x :: y :: z :: w :: l)) (.int 3)).run S Q E = Q w S := by show (ofO (atI _ _)).run S Q E = _; rw [at3]; rfl
@[simp ↓] theorem r_ixT3m : (vIdx (.tup [x, y, z]) (.int (-1))).run S Q E = Q z S := rfl
theorem r_ixT {i : Int} : (vIdx (.tup l) (.int i)).run S Q E = (ofO (atI l i)).run S Q E := rfl
theorem r_ixL {i : Int} : (vIdx (.lst l) (.int i)).run S Q E = (ofO (atI l i)).run S Q E := rfl
@[simp ↓] theorem r_ixC {i : Int} : (vIdx (.loc l) (.int i)).run S Q E = (ofO (atI l i)).run S Q E := rfl
theorem r_at {i : Int} {j : Nat} {xs : List PV} (h : ixN xs.length i = some j) : (ofO (atI xs i)).run S Q E = (ofO xs[j]?).run S Q E := by
  unfold atI; rw [h]; rfl
@[simp ↓] theorem r_lenT : (Bf.len.sem [.tup l]).run S Q E = Q (.int l.length) S := rfl
@[simp ↓] theorem r_lenL : (Bf.len.sem [.lst l]).run S Q E = Q (.int l.length) S := rfl
@[simp ↓] theorem r_lenC : (Bf.len.sem [.loc l]).run S Q E = Q (.int l.length) S := rfl
@[simp ↓] theorem r_isiI {i : Int} {n : String} : (Bf.isi.sem [.int i, .ty n]).run S Q E = (n ∈ isiNames ∧ Q (.bl (isiB "int" n)) S) := rfl
@[simp ↓] theorem r_isiB {i : Bool} {n : String} : (Bf.isi.sem [.bl i, .ty n]).run S Q E = (n ∈ isiNames ∧ Q (.bl (isiB "bool" n)) S) := rfl
@[simp ↓] theorem r_isiN {n : String} : (Bf.isi.sem [.non, .ty n]).run S Q E = (n ∈ isiNames ∧ Q (.bl (isiB "NoneType" n)) S) := rfl
@[simp ↓] theorem r_isiS {i : Str} {n : String} : (Bf.isi.sem [.str i, .ty n]).run S Q E = (n ∈ isiNames ∧ Q (.bl (isiB "str" n)) S) := rfl
@[simp ↓] theorem r_isiT {n : String} : (Bf.isi.sem [.tup l, .ty n]).run S Q E = (n ∈ isiNames ∧ Q (.bl (isiB "tuple" n)) S) := rfl
@[simp ↓] theorem r_isiL {n : String} : (Bf.isi.sem [.lst l, .ty n]).run S Q E = (n ∈ isiNames ∧ Q (.bl (isiB "list" n)) S) := rfl
@[simp ↓] theorem r_abs {i : Int} : (Bf.abs.sem [.int i]).run S Q E = Q (.int (if i < 0 then -i else i)) S := rfl
@[simp ↓] theorem r_min2 {a b : Int} : (Bf.min.sem [.int a, .int b]).run S Q E = Q (.int (min a b)) S := rfl
@[simp ↓] theorem r_min3 {a b c : Int} : (Bf.min.sem [.int a, .int b, .int c]).run S Q E = Q (.int (min a (min b c))) S := rfl
@[simp ↓] theorem r_max2 {a b : Int} : (Bf.max.sem [.int a, .int b]).run S Q E = Q (.int (max a b)) S := rfl
@[simp ↓] theorem r_max3 {a b c : Int} : (Bf.max.sem [.int a, .int b, .int c]).run S Q E = Q (.int (max a (max b c))) S := rfl
@[simp ↓] theorem r_minL : (Bf.min.sem [.lst l]).run S Q E = (ofO (intsOf l)).run S (fun ns S => (0 < ns.length ∧ Q (.int (minL ns)) S)) E := rfl
@[simp ↓] theorem r_maxL : (Bf.max.sem [.lst l]).run S Q E = (ofO (intsOf l)).run S (fun ns S => (0 < ns.length ∧ Q (.int (maxL ns)) S)) E := rfl
@[simp ↓] theorem r_sumL : (Bf.sum.sem [.lst l]).run S Q E = (ofO (intsOf l)).run S (fun ns S => Q (.int ns.sum) S) E := rfl
@[simp ↓] theorem r_allL : (Bf.all.sem [.lst l]).run S Q E = (ofO (blsOf l)).run S (fun ns S => Q (.bl (ns.all id)) S) E := rfl
@[simp ↓] theorem r_anyL : (Bf.any.sem [.lst l]).run S Q E = (ofO (blsOf l)).run S (fun ns S => Q (.bl (ns.any id)) S) E := rfl
@[simp ↓] theorem r_divm {a b : Int} : (Bf.divmod.sem [.int a, .int b]).run S Q E = (CDivP a b ∧ Q (.tup [.int (a / b), .int (a % b)]) S) := rfl
@[simp ↓] theorem r_Tint {a : Int} : (Bt.int.sem [.int a]).run S Q E = Q (.int a) S := rfl
@[simp ↓] theorem r_Ttup : (Bt.tup.sem [.lst l]).run S Q E = Q (.tup l) S := rfl
@[simp ↓] theorem r_Ttup' : (Bt.tup.sem [.tup l]).run S Q E = Q (.tup l) S := rfl
@[simp ↓] theorem r_Tlst : (Bt.lst.sem [.lst l]).run S Q E = Q (.lst l) S := rfl
@[simp ↓] theorem r_Tlst' : (Bt.lst.sem [.tup l]).run S Q E = Q (.lst l) S := rfl
end
@[simp ↓] theorem r_slC {l : List PV} {lo hi : Option Int} : (vSlice lo hi (.loc l)).run S Q E = Q (.lst (cutL l lo hi)) S := rfl
@[simp ↓] theorem r_slL {l : List PV} {lo hi : Option Int} : (vSlice lo hi (.lst l)).run S Q E = Q (.lst (cutL l lo hi)) S := rfl
@[simp ↓] theorem r_slT {l : List PV} {lo hi : Option Int} : (vSlice lo hi (.tup l)).run S Q E = Q (.tup (cutL l lo hi)) S := rfl
end
section
variable {E : Exc → Stt → Prop}
@[simp ↓] theorem r_ints0 {Q : List Int → Stt → Prop} : (ofO (intsOf [])).run S Q E = Q [] S := rfl
@[simp ↓] theorem r_intsS {Q : List Int → Stt → Prop} {i : Int} {l : List PV} : (ofO (intsOf (.int i :: l))).run S Q E = (ofO (intsOf l)).run S (fun ns S => Q (i :: ns) S) E := by
  show (ofO ((intsOf l).map (i :: ·))).run S Q E = _
  cases intsOf l <;> rfl
@[simp ↓] theorem r_bls0 {Q : List Bool → Stt → Prop} : (ofO (blsOf [])).run S Q E = Q [] S := rfl
@[simp ↓] theorem r_blsS {Q : List Bool → Stt → Prop} {i : Bool} {l : List PV} : (ofO (blsOf (.bl i :: l))).run S Q E = (ofO (blsOf l)).run S (fun ns S => Q (i :: ns) S) E := by
  show (ofO ((blsOf l).map (i :: ·))).run S Q E = _
  cases blsOf l <;> rfl
theorem intsOf_map : ∀ {ns : List Int}, intsOf (ns.map .int) = some ns
  | [] => rfl
  | n :: ns => by simp [intsOf, intsOf_map (ns := ns)]
theorem blsOf_map : ∀ {ns : List Bool}, blsOf (ns.map .bl) = some ns
  | [] => rfl
  | n :: ns => by simp [blsOf, blsOf_map (ns := ns)]
/-! owned lists -/
theorem put_id {a : Addr} {c : Cell} (h : S a = some c) : put S a c = S := by
  funext b; unfold put; split <;> simp_all
@[simp ↓] theorem r_ixR {a : Addr} {l : List PV} {i : PV} {Q : PV → Stt → Prop} : (vIdx (.ref a) i).run (put S a (.lst l)) Q E = (vIdx (.lst l) i).run (put S a (.lst l)) Q E := by
  refine propext ⟨fun q => ?_, fun q => .inl ⟨l, put_same, q⟩⟩
  rcases q with ⟨xs, e, q⟩ | ⟨n, q⟩
  · rw [put_same] at e; cases e; exact q
  · exact absurd put_same (n l)
theorem r_setR {a : Addr} {l : List PV} {i : Int} {v : PV} {Q : Unit → Stt → Prop} {j : Nat} (h : ixN l.length i = some j) : (vSet (.ref a) (.int i) v).run (put S a (.lst l)) Q E = Q () (put S a (.lst (l.set j v))) := by
  refine propext ⟨fun ⟨xs, k, e, e2, q⟩ => ?_, fun q => ⟨l, j, put_same, h, by rw [put_put]; exact q⟩⟩
  rw [put_same] at e; cases e
  rw [h] at e2; cases e2
  rw [put_put] at q; exact q
@[simp ↓] theorem r_setR0 {a : Addr} {x v : PV} {l : List PV} {Q : Unit → Stt → Prop} : (vSet (.ref a) (.int 0) v).run (put S a (.lst (x :: l))) Q E = Q () (put S a (.lst (v :: l))) := r_setR (j := 0) (by unfold ixN; simp [show (0 : Int) < (l.length : Int) + 1 by omega])
@[simp ↓] theorem r_setR1 {a : Addr} {x y v : PV} {l : List PV} {Q : Unit → Stt → Prop} : (vSet (.ref a) (.int 1) v).run (put S a (.lst (x :: y :: l))) Q E = Q () (put S a (.lst (x :: v :: l))) := r_setR (j := 1) (by unfold ixN; simp [show (1 : Int) < (l.length : Int) + 1 + 1 by omega])
@[simp ↓] theorem r_setR2 {a : Addr} {x y z v : PV} {l : List PV} {Q : Unit → Stt → Prop} : (vSet (.ref a) (.int 2) v).run (put S a (.lst (x :: y :: z :: l))) Q E = Q () (put S a (.lst (x :: y :: v :: l))) := r_setR (j := 2) (by unfold ixN; simp [show (2 : Int) < (l.length : Int) + 1 + 1 + 1 by omega])
end
end
section
variable {S : Stt} {E : Exc → Stt → Prop}
theorem del_put1 {a : Addr} {c : Cell} : del (put S a c) a = del S a := by
  funext b; unfold del put; split <;> rfl
theorem del_id {a : Addr} (h : S a = none) : del S a = S := by
  funext b; unfold del; split <;> simp_all
@[simp ↓] theorem r_frz0 {a : Addr} {xs : List PV} {l : En} {Q : En → Stt → Prop} : (freezeV 0 (some (.ref a) :: l)).run (put S a (.lst xs)) Q E = Q (some (.lst xs) :: l) (del S a) := by
  refine propext ⟨fun ⟨ys, e, q⟩ => ?_, fun q => ⟨xs, put_same, ?_⟩⟩
  · rw [put_same] at e; cases e; rw [del_put1] at q; exact q
  · rw [del_put1]; exact q
@[simp ↓] theorem r_frzS {o : Option PV} {l : En} {n : Nat} {Q : En → Stt → Prop} : (freezeV (n + 1) (o :: l)).run S Q E = (freezeV n l).run S (fun l S => Q (o :: l) S) E := by
  unfold freezeV
  rw [List.getElem?_cons_succ]
  cases l[n]? with
  | none => rfl
  | some x =>
    cases x with
    | none => rfl
    | some v => cases v <;> rfl
@[simp ↓] theorem r_isTR_append {a : Addr} {xs : List PV} {Q : Unit → Stt → Prop} : (isT (Mt.T .append) (.ref a)).run (put S a (.lst xs)) Q E = Q () (put S a (.lst xs)) := by
  refine propext ⟨fun q => ?_, fun q => .inl ⟨xs, put_same, rfl, q⟩⟩
  rcases q with ⟨ys, e, q⟩ | ⟨n, q⟩
  · exact q.2
  · exact absurd put_same (n xs)
@[simp ↓] theorem r_isTR_extend {a : Addr} {xs : List PV} {Q : Unit → Stt → Prop} : (isT (Mt.T .extend) (.ref a)).run (put S a (.lst xs)) Q E = Q () (put S a (.lst xs)) := by
  refine propext ⟨fun q => ?_, fun q => .inl ⟨xs, put_same, rfl, q⟩⟩
  rcases q with ⟨ys, e, q⟩ | ⟨n, q⟩
  · exact q.2
  · exact absurd put_same (n xs)
@[simp ↓] theorem r_isTR_pop {a : Addr} {xs : List PV} {Q : Unit → Stt → Prop} : (isT (Mt.T .pop) (.ref a)).run (put S a (.lst xs)) Q E = Q () (put S a (.lst xs)) := by
  refine propext ⟨fun q => ?_, fun q => .inl ⟨xs, put_same, rfl, q⟩⟩
  rcases q with ⟨ys, e, q⟩ | ⟨n, q⟩
  · exact q.2
  · exact absurd put_same (n xs)
@[simp ↓] theorem r_isTR_index {a : Addr} {xs : List PV} {Q : Unit → Stt → Prop} : (isT (Mt.T .index) (.ref a)).run (put S a (.lst xs)) Q E = Q () (put S a (.lst xs)) := by
  refine propext ⟨fun q => ?_, fun q => .inl ⟨xs, put_same, rfl, q⟩⟩
  rcases q with ⟨ys, e, q⟩ | ⟨n, q⟩
  · exact q.2
  · exact absurd put_same (n xs)
section
variable {Q : Unit → Stt → Prop}
@[simp ↓] theorem r_isT_index {xs : List PV} : (isT (Mt.T .index) (.lst xs)).run S Q E = Q () S := propext ⟨fun q => q.2, fun q => ⟨rfl, q⟩⟩
@[simp ↓] theorem r_isT_tindex {xs : List PV} : (isT (Mt.T .tindex) (.tup xs)).run S Q E = Q () S := propext ⟨fun q => q.2, fun q => ⟨rfl, q⟩⟩
@[simp ↓] theorem r_isT_split {x : Str} : (isT (Mt.T .split) (.str x)).run S Q E = Q () S := propext ⟨fun q => q.2, fun q => ⟨rfl, q⟩⟩
@[simp ↓] theorem r_isT_join {x : Str} : (isT (Mt.T .join) (.str x)).run S Q E = Q () S := propext ⟨fun q => q.2, fun q => ⟨rfl, q⟩⟩
@[simp ↓] theorem r_isT_get {ks : List Key} {xs : List PV} : (isT (Mt.T .get) (.dct ks xs)).run S Q E = Q () S := propext ⟨fun q => q.2, fun q => ⟨rfl, q⟩⟩
end
section
variable {Q : PV → Stt → Prop}
@[simp ↓] theorem r_split {a b : Str} : (Mt.split.sem (.str a) [.str b]).run S Q E = (((b.length == 0) = false ∧ a.length + 2 ≤ sizeLine) ∧ Q (.lst ((Txt.split a b).map .str)) S) := rfl
@[simp ↓] theorem r_joinL {a : Str} {xs : List PV} : (Mt.join.sem (.str a) [.lst xs]).run S Q E = (ofO (strsOf xs)).run S (fun ys S => ((ys.map (·.length)).sum + ys.length * a.length ≤ 16777216) ∧ Q (.str (Txt.join a ys)) S) E := rfl
@[simp ↓] theorem r_tindex {xs : List PV} {z : Str} : (Mt.tindex.sem (.tup xs) [.str z]).run S Q E = (ofO (strsOf xs)).run S (fun ys S => z ∈ ys ∧ Q (.int (ys.idxOf z)) S) E := rfl
@[simp ↓] theorem r_indexL {xs : List PV} {y : PV} : (Mt.index.sem (.lst xs) [y]).run S Q E = (fine2 y (.lst xs) ∧ (ofO (findP y xs)).run S (fun (j : Nat) S => Q (.int j) S) E) := rfl
@[simp ↓] theorem r_get2 {ks : List Key} {xs : List PV} {k d : PV} : (Mt.get.sem (.dct ks xs) [k, d]).run S Q E = (ofO (keyP k)).run S (fun k S => Q ((dlook ks xs k).getD d) S) E := rfl
@[simp ↓] theorem r_ixD {ks : List Key} {xs : List PV} {k : PV} : (vIdx (.dct ks xs) k).run S Q E = (ofO (keyP k)).run S (fun k S => (ofO (dlook ks xs k)).run S Q E) E := rfl
@[simp ↓] theorem r_ixK {ks : List Key} {xs : List PV} {k : PV} : (vIdx (.kdc ks xs) k).run S Q E = (ofO (keyP k)).run S (fun k S => (ofO (dlook ks xs k)).run S Q E) E := rfl
@[simp ↓] theorem r_keyS {x : Str} {Q : Key → Stt → Prop} : (ofO (keyP (.str x))).run S Q E = Q (.inr x) S := rfl
@[simp ↓] theorem r_keyI {x : Int} {Q : Key → Stt → Prop} : (ofO (keyP (.int x))).run S Q E = Q (.inl x) S := rfl
@[simp ↓] theorem r_ixS {z : Str} {i : Int} : (vIdx (.str z) (.int i)).run S Q E = (z.length ≤ sizeLine ∧ (ofO (atI z.cps.toList i)).run S (fun c S => Q (.str ⟨#[c]⟩) S) E) := rfl
@[simp ↓] theorem r_slS {z : Str} {lo hi : Option Int} : (vSlice lo hi (.str z)).run S Q E = (z.length ≤ sizeLine ∧ Q (.str (cutS z lo hi)) S) := rfl
@[simp ↓] theorem r_lenS {z : Str} : (Bf.len.sem [.str z]).run S Q E = (z.length ≤ sizeLine ∧ Q (.int z.length) S) := rfl
@[simp ↓] theorem r_mulS {a : Str} {k : Int} : (Bop.mul.sem (.str a) (.int k)).run S Q E = ((2 ≤ k ∧ k ≤ 1000 ∧ a.length ≤ 1000 ∧ 1 ≤ a.length) ∧ Q (.str (repS a k.toNat)) S) := rfl
@[simp ↓] theorem r_neT {a b : List PV} : (Cop.ne.sem (.tup a) (.tup b)).run S Q E = (fine2 (.tup a) (.tup b) ∧ Q (.bl (!PV.eqv (.tup a) (.tup b))) S) := rfl
@[simp ↓] theorem r_neL {a b : List PV} : (Cop.ne.sem (.lst a) (.lst b)).run S Q E = (fine2 (.lst a) (.lst b) ∧ Q (.bl (!PV.eqv (.lst a) (.lst b))) S) := rfl
@[simp ↓] theorem r_neS {a b : Str} : (Cop.ne.sem (.str a) (.str b)).run S Q E = (fine2 (.str a) (.str b) ∧ Q (.bl (!(a == b))) S) := by
  show (fine2 _ _ ∧ Q (.bl (!PV.eqv (.str a) (.str b))) S) = _
  have h : PV.eqv (.str a) (.str b) = (a == b) := by simp only [PV.eqv]
  rw [h]
@[simp ↓] theorem r_ninL {a : PV} {b : List PV} : (Cop.notin.sem a (.lst b)).run S Q E = (fine2 a (.lst b) ∧ Q (.bl (true ^^ b.any fun y => PV.eqv y a)) S) := rfl
@[simp ↓] theorem r_ninT {a : PV} {b : List PV} : (Cop.notin.sem a (.tup b)).run S Q E = (fine2 a (.tup b) ∧ Q (.bl (true ^^ b.any fun y => PV.eqv y a)) S) := rfl
@[simp ↓] theorem r_inS {z c : Str} : (Cop.isin.sem (.str c) (.str z)).run S Q E = (c.cps.size = 1 ∧ Q (.bl (false ^^ decide (c.cps.getD 0 0 ∈ z.cps.toList))) S) := rfl
@[simp ↓] theorem r_dct {g : Sg} {env : En} {ps : CPs} : (dE g (.dct ps) env).run S Q E = (dP g ps env).run S (fun l S => (mkDct l).run S Q E) E := rfl
@[simp ↓] theorem r_p0 {g : Sg} {env : En} {Q : List (PV × PV) → Stt → Prop} : (dP g .nil env).run S Q E = Q [] S := rfl
@[simp ↓] theorem r_pc {g : Sg} {env : En} {Q : List (PV × PV) → Stt → Prop} {k v : CE} {r : CPs} : (dP g (.cons k v r) env).run S Q E = (dE g k env).run S (fun x S => (dE g v env).run S (fun y S => (dP g r env).run S (fun l S => Q ((x, y) :: l) S) E) E) E := rfl
@[simp ↓] theorem r_callL {g : Sg} {env : En} {v : PV} {φ : List PV → M PV} {i : Nat} {es : CL} : (dE { g with lam := some (v, φ) } (.callL i es) env).run S Q E = (getv env i).run S (fun u S => (u = v ∧ (dL { g with lam := some (v, φ) } es env).run S (fun xs S => (φ xs).run S Q (fun _ _ => False)) E)) E := rfl
@[simp ↓] theorem r_lamP {m : PV → (List PV → M PV) → List PV → M PV} {φ : List PV → M PV} {xs cs : List PV} : (lamP m φ xs cs).run S Q E = ∀ f c q vs, (m (.clo f c q cs vs) φ (xs ++ [.clo f c q cs vs])).run S Q E := rfl
@[simp ↓] theorem r_prop {C : Str} {m : List PV → M PV} {a : Addr} : (vProp C m (.ref a)).run S Q E = ((∃ fs, S a = some (.ins C fs)) ∧ (m [.ref a]).run S Q (fun _ _ => False)) := rfl
@[simp ↓] theorem r_isIns {C m : Str} {a : Addr} {Q : Unit → Stt → Prop} : (isIns C m (.ref a)).run S Q E = ((∃ fs, S a = some (.ins C fs) ∧ fs.lookup m = none) ∧ Q () S) := rfl
theorem r_fldA {C f : Str} {a : Addr} {fs : List (Str × PV)} {px : PV} (h : S a = some (.ins C fs)) (hl : fs.lookup f = some px) : (vFld C f (.ref a)).run S Q E = Q px S :=
  propext ⟨fun ⟨fs', px', e, l, q⟩ => by rw [h] at e; cases e; rw [hl] at l; cases l; exact q, fun q => ⟨fs, px, h, hl, q⟩⟩
theorem r_putA {C f : Str} {a : Addr} {fs : List (Str × PV)} {v : PV} {Q : Unit → Stt → Prop} (h : S a = some (.ins C fs)) : (vPutF C f v (.ref a)).run S Q E = (fs.length < 1000 ∧ Q () (put S a (.ins C (putP f v fs)))) :=
  propext ⟨fun ⟨fs', e, l, q⟩ => by rw [h] at e; cases e; exact ⟨l, q⟩, fun q => ⟨fs, h, q.1, q.2⟩⟩
theorem r_isCA {C : Str} {oth : List Str} {a : Addr} {fs : List (Str × PV)} (h : S a = some (.ins C fs)) (ho : C ∉ oth) : (vIsC C oth (.ref a)).run S Q E = Q (.bl true) S := by
  refine propext ⟨fun q => ?_, fun q => .inr (.inl ⟨fs, h, q⟩)⟩
  rcases q with ⟨xs, e, _⟩ | ⟨fs', e, q⟩ | ⟨D, fs', e, d, _⟩
  · rw [h] at e; cases e
  · exact q
  · rw [h] at e; cases e; exact absurd d ho
end
section
variable {Q : Src × List PV → Stt → Prop}
@[simp ↓] theorem r_ien {g : Sg} {env : En} {es : CL} : (dI g (.enum es) env).run S Q E = (dL g es env).run S (fun xs S => (vEnum xs).run S Q E) E := rfl
@[simp ↓] theorem r_izp {g : Sg} {env : En} {es : CL} : (dI g (.zip es) env).run S Q E = (dL g es env).run S (fun xs S => (vZip xs).run S Q E) E := rfl
@[simp ↓] theorem r_enT {xs : List PV} : (vEnum [.tup xs]).run S Q E = Q (.fix, enumP xs) S := rfl
@[simp ↓] theorem r_enL {xs : List PV} : (vEnum [.lst xs]).run S Q E = Q (.fix, enumP xs) S := rfl
@[simp ↓] theorem r_zpLL {xs ys : List PV} : (vZip [.lst xs, .lst ys]).run S Q E = Q (.fix, zipP xs ys) S := rfl
@[simp ↓] theorem r_zpTL {xs ys : List PV} : (vZip [.tup xs, .lst ys]).run S Q E = Q (.fix, zipP xs ys) S := rfl
@[simp ↓] theorem r_zpLT {xs ys : List PV} : (vZip [.lst xs, .tup ys]).run S Q E = Q (.fix, zipP xs ys) S := rfl
@[simp ↓] theorem r_zpTT {xs ys : List PV} : (vZip [.tup xs, .tup ys]).run S Q E = Q (.fix, zipP xs ys) S := rfl
@[simp ↓] theorem r_srS {z : Str} : (vSrc (.str z)).run S Q E = Q (.fix, strItems z) S := rfl
end
section
variable {Q : En → Stt → Prop}
@[simp ↓] theorem r_gS {g : Sg} {env : En} {ts : CTs} {xs : List PV} : (dG g (.tupS ts) (.tup xs) env).run S Q E = (lenTs ts - 1 ≤ xs.length ∧ (dGs g ts (xs.take (lenTs ts - 1) ++ [.lst (xs.drop (lenTs ts - 1))]) env).run S Q E) := rfl
end
section
variable {S : Stt} {E : Exc → Stt → Prop} {Q : PV → Stt → Prop}
@[simp ↓] theorem r_addO {a b : List PV} : (Bop.addO.sem (.lst a) (.lst b)).run S Q E = (a.length + b.length ≤ sizeLine ∧ catK a b fun l => ∀ p, S p = none → Q (.ref p) (put S p (.lst l))) := rfl
@[simp ↓] theorem r_lstO {a : List PV} : (Bt.lstO.sem [.lst a]).run S Q E = ∀ p, S p = none → Q (.ref p) (put S p (.lst a)) := rfl
end
/-- what a lambda's body runs as -/
def lamφ (g : Sg) (body : CE) (ps own : List Str) (cs : List PV) (ys : List PV) : M PV := bnd (guard (ys.length = ps.length)) fun _ => dE g body (ys.map some ++ (cs.map some ++ List.replicate own.length none))
section
variable {S : Stt} {E : Exc → Stt → Prop} {Q : PV → Stt → Prop}
@[simp ↓] theorem r_lamφ2 {g : Sg} {body : CE} {p1 p2 : Str} {own : List Str} {cs : List PV} {x y : PV} : (lamφ g body [p1, p2] own cs [x, y]).run S Q E = (dE g body (some x :: some y :: (cs.map some ++ List.replicate own.length none))).run S Q E := propext ⟨fun q => q.2, fun q => ⟨rfl, q⟩⟩
@[simp ↓] theorem r_caps0 {env : En} {Q : List PV → Stt → Prop} : (ofO (capsOf env [])).run S Q E = Q [] S := rfl
@[simp ↓] theorem r_capsS {env : En} {j : Nat} {js : List Nat} {Q : List PV → Stt → Prop} : (ofO (capsOf env (j :: js))).run S Q E = (getv env j).run S (fun v S => (ofO (capsOf env js)).run S (fun vs S => Q (v :: vs) S) E) E := by
  have e : capsOf env (j :: js) = (match env[j]? with | some (some v) => (capsOf env js).map (v :: ·) | _ => none) := rfl
  rw [e]
  generalize capsOf env js = o
  unfold getv
  cases env[j]? with
  | none => rfl
  | some u =>
    cases u with
    | none => rfl
    | some v =>
      show (ofO (o.map (v :: ·))).run S Q E = (ofO o).run S (fun vs S => Q (v :: vs) S) E
      cases o <;> rfl
end
section
variable {S : Stt} {E : Exc → Stt → Prop} {Q : List PV → Stt → Prop}
@[simp ↓] theorem r_itL {xs : List PV} : (vItems (.lst xs)).run S Q E = Q xs S := rfl
@[simp ↓] theorem r_itT {xs : List PV} : (vItems (.tup xs)).run S Q E = Q xs S := rfl
end
theorem any_str {ys : List Str} {x : Str} : ((ys.map PV.str).any fun y => PV.eqv y (.str x)) = decide (x ∈ ys) := by
  induction ys with
  | nil => rfl
  | cons y ys ih =>
    rw [List.map_cons, List.any_cons, ih]
    have h : PV.eqv (.str y) (.str x) = (y == x) := by simp only [PV.eqv]
    rw [h]
    by_cases e : y = x
    · subst e; simp
    · have : x ≠ y := fun z => e z.symm
      simp [e, this]
theorem fine2_strs {x : Str} {ys : List Str} (hx : PyData.strOk x = true) (hy : ∀ y ∈ ys, PyData.strOk y = true) : fine2 (.str x) (.lst (ys.map .str)) ∧ fine2 (.str x) (.tup (ys.map .str)) := by
  have : PV.fineL 29 (ys.map PV.str) = true := fineL_all.mpr fun z hz => by
    obtain ⟨y, h, rfl⟩ := List.mem_map.mp hz
    simpa [PV.fine] using hy y h
  exact ⟨⟨by simpa [PV.fine] using hx, by simpa [PV.fine] using this⟩, ⟨by simpa [PV.fine] using hx, by simpa [PV.fine] using this⟩⟩
theorem findP_str {ys : List Str} {x : Str} (h : x ∈ ys) : findP (.str x) (ys.map PV.str) = some (ys.idxOf x) := by
  induction ys with
  | nil => cases h
  | cons y ys ih =>
    rw [List.map_cons]
    unfold findP
    have e : PV.eqv (.str y) (.str x) = (y == x) := by simp only [PV.eqv]
    rw [e]
    by_cases hy : y = x
    · subst hy; simp
    · rw [if_neg (by simpa using hy), ih (by rcases List.mem_cons.mp h with z | z; exact absurd z.symm hy; exact z), List.idxOf_cons]
      rw [show (y == x) = false by simpa using hy]; rfl
theorem strsOf_map {ys : List Str} : strsOf (ys.map PV.str) = some ys := by
  induction ys with
  | nil => rfl
  | cons y ys ih => simp [strsOf, ih]
@[simp ↓] theorem r_appR {a : Addr} {xs : List PV} {v : PV} {Q : PV → Stt → Prop} : (Mt.append.sem (.ref a) [v]).run (put S a (.lst xs)) Q E = (xs.length < sizeLine ∧ appK xs v fun l => Q .non (put S a (.lst l))) := by
  refine propext ⟨fun ⟨ys, e, l, q⟩ => ?_, fun ⟨l, q⟩ => ⟨xs, put_same, l, by rw [put_put]; exact q⟩⟩
  rw [put_same] at e; cases e; rw [put_put] at q; exact ⟨l, q⟩
theorem rng1 : rngItems 0 1 = [.int 0] := rfl
theorem rng2 : rngItems 0 2 = [.int 0, .int 1] := rfl
theorem rng3 : rngItems 0 3 = [.int 0, .int 1, .int 2] := rfl
theorem rng4 : rngItems 0 4 = [.int 0, .int 1, .int 2, .int 3] := rfl
theorem rng5 : rngItems 0 5 = [.int 0, .int 1, .int 2, .int 3, .int 4] := rfl
theorem rng6 : rngItems 0 6 = [.int 0, .int 1, .int 2, .int 3, .int 4, .int 5] := rfl
end
theorem den_eq {g : Sg} {d : Df} {args : List PV} {env : En} {body : CB} (h1 : d.body = body) (h2 : startE d.N.length args = env) : d.den g args = runB (dB g body env) := by subst h1 h2; rfl
/-- a loop by an invariant -/
theorem forM_inv {ι : Type} {h : ι → PV} {body : PV → En → M Res} (P : En → Stt → Prop) : ∀ {ys : List ι}, (∀ y ∈ ys, ∀ env S Q E, P env S → (∀ env' S', P env' S' → Q (.nx env') S') → (body (h y) env).run S Q E) →
    ∀ {env S Q E}, P env S → (∀ env' S', P env' S' → Q (.nx env') S') → (forM .fix body (ys.map h) env).run S Q E
  | [], _, env, S, Q, E, p, q => q env S p
  | y :: ys, hb, env, S, Q, E, p, q => by
    rw [List.map_cons, r_forS]
    refine hb y (by simp) env S _ E p fun env' S' p' => ?_
    rw [r_fnx]
    exact forM_inv P (fun z hz => hb z (by simp [hz])) p' q
/-- a comprehension whose turns keep a word of the state -/
theorem compM_inv {ι : Type} {h : ι → PV} {body : PV → List PV → M (List PV)} (P : List PV → Stt → Prop) : ∀ {ys : List ι}, (∀ y ∈ ys, ∀ acc S Q E, P acc S → (∀ acc' S', P acc' S' → Q acc' S') → (body (h y) acc).run S Q E) →
    ∀ {acc S Q E}, P acc S → (∀ acc' S', P acc' S' → Q acc' S') → (compM .fix body (ys.map h) acc).run S Q E
  | [], _, acc, S, Q, E, p, q => q acc S p
  | y :: ys, hb, acc, S, Q, E, p, q => by
    rw [List.map_cons, r_cmS]
    refine hb y (by simp) acc S _ E p fun acc' S' p' => ?_
    exact compM_inv P (fun z hz => hb z (by simp [hz])) p' q
/-- a comprehension whose turns are plain -/
theorem compM_pure {ι : Type} {body : PV → List PV → M (List PV)} {h : ι → PV} {f : ι → List PV} : ∀ {ys : List ι}, (∀ y ∈ ys, ∀ acc, acc.length + (f y).length ≤ sizeLine → M.le (ret (acc ++ f y)) (body (h y) acc)) → ∀ {acc : List PV}, acc.length + (ys.flatMap f).length ≤ sizeLine → M.le (ret (acc ++ ys.flatMap f)) (compM .fix body (ys.map h) acc)
  | [], _, acc, _ => fun S Q E q => by
    have q : Q (acc ++ []) S := q
    rw [List.append_nil] at q
    exact q
  | y :: ys, hb, acc, hl => fun S Q E q => by
    rw [List.flatMap_cons, List.length_append] at hl
    refine hb y (by simp) acc (by omega) S _ E ?_
    refine compM_pure (ys := ys) (fun z hz => hb z (by simp [hz])) (acc := acc ++ f y) (by rw [List.length_append]; omega) S Q E ?_
    have q : Q (acc ++ (y :: ys).flatMap f) S := q
    rw [List.flatMap_cons, ← List.append_assoc] at q
    exact q
theorem flat_single {ι : Type} {f : ι → PV} : ∀ {ys : List ι}, ys.flatMap (fun y => [f y]) = ys.map f
  | [] => rfl
  | y :: ys => by simp [flat_single (ys := ys)]
end Dp

namespace Dp
open PySem PySem.Spec L2
open PyProof.Rows hiding St

/-! ### a text's entries, all its levels -/
structure FnX where
  fn : FnE
  lv : Nat
  d : Df
structure MtX where
  p : MtE
  lv : Nat
  d : Df
structure LmX where
  lf : LFn
  lv : Nat
  d : Df
structure Txt where
  fs : List FnX
  ms : List MtX := []
  ls : List LmX := []
  cs : List ClsE := []
  gs : List (Str × PV) := []
def Txt.g (t : Txt) : Sg where
  T := fun k => (t.fs[k]?).map (·.fn)
  lv := fun k => ((t.fs[k]?).map (·.lv)).getD 0
  G := fun k => t.gs[k]?
  Cs := fun k => t.cs[k]?
  Ms := fun k => (t.ms[k]?).map (·.p)
  lvM := fun k => ((t.ms[k]?).map (·.lv)).getD 0
  Ls := fun k => (t.ls[k]?).map (·.lf)
  lvL := fun k => ((t.ls[k]?).map (·.lv)).getD 0
abbrev fdOf (x ql : Str) (st : Stmt) (kV doc pm : Value) (an : Option Addr) (cdv ct : Value) : FuncData := PySem.W.fnOf x ql (defArgs st) (defBody st) (defScope st) .none kV doc pm an cdv ct
def MtE.ql (p : MtE) : Str := p.cls ++ "." ++ p.at_
structure FnX.Ok (g : Sg) (e : FnX) : Prop where
  ps : e.fn.ps = e.d.N.take e.d.np
  bd : ∀ (kV doc pm : Value) (an : Option Addr) (cdv ct : Value), ∀ sh ∈ e.fn.shapes, ∀ (s : Shared) (us ws : List Value), us.length = sh.n → ws.length = sh.ks.length → BindsTo s (fdOf e.fn.nm e.fn.nm e.d.st kV doc pm an cdv ct) ⟨us, sh.ks.zip ws⟩ (e.fn.ps.zip (pick sh.ix (us ++ ws)))
  go : (e.lv = 0 ∧ e.fn.m = fun _ => stuck) ∨ (0 < e.lv ∧ e.d.lam = false ∧ (e.d.mkr = true → e.fn.nm ∈ lamNames) ∧ chkDf g (e.lv - 1) e.d = true ∧ ∀ args, args.length = e.d.np → M.le (e.fn.m args) (e.d.den g args))
structure MtX.Ok (g : Sg) (e : MtX) : Prop where
  ps : e.p.fn.ps = e.d.N.take e.d.np
  bd : e.p.kind ≠ .init → ∀ (kV doc pm : Value) (an : Option Addr) (cdv ct : Value) (s : Shared) (us : List Value), us.length = e.p.fn.ps.length → BindsTo s (fdOf e.p.at_ e.p.ql e.d.st kV doc pm an cdv ct) ⟨us, []⟩ (e.p.fn.ps.zip us)
  bdi : e.p.kind = .init → ∀ (kV doc pm : Value) (an : Option Addr) (cdv ct : Value), ∀ sh ∈ e.p.fn.shapes, ∀ (s : Shared) (us ws : List Value), us.length = sh.n + 1 → ws.length = sh.ks.length → BindsTo s (fdOf e.p.at_ e.p.ql e.d.st kV doc pm an cdv ct) ⟨us, sh.ks.zip ws⟩ (e.p.fn.ps.zip (pick sh.ix (us ++ ws)))
  go : 0 < e.lv ∧ e.d.lam = false ∧ e.d.mkr = false ∧ chkDf g (e.lv - 1) e.d = true ∧ ∀ args, args.length = e.d.np → M.le (e.p.fn.m args) (e.d.den g args)
structure LmX.Ok (g : Sg) (e : LmX) : Prop where
  ps : e.lf.ps = e.d.N.take e.d.np
  bd : ∀ (kV doc pm : Value) (an : Option Addr) (cdv ct : Value) (s : Shared) (us : List Value), us.length = e.lf.ps.length → BindsTo s (fdOf e.lf.nm e.lf.nm e.d.st kV doc pm an cdv ct) ⟨us, []⟩ (e.lf.ps.zip us)
  go : 0 < e.lv ∧ e.d.mkr = false ∧ (∀ v φ, chkDf { g with lam := some (v, φ) } (e.lv - 1) e.d = true) ∧ ∀ v φ args, args.length = e.d.np → M.le (e.lf.m v φ args) (e.d.den { g with lam := some (v, φ) } args)
/-- how the text stands in the heap -/
structure Dyn (K : PySem.W.Frag) (mg : Str → Option Value) (w : World) (base : Heap) (t : Txt) : Prop where
  fn : ∀ e ∈ t.fs, ∃ a fd, mg e.fn.nm = some (.ref a) ∧ L2.Fun K e.fn.nm e.fn.nm e.d.st a fd ∧ (e.d.mkr = true → MkAt K mg w base e.fn.nm fd)
  mt : ∀ e ∈ t.ms, ∃ Ca a fd, mg e.p.cls = some (.ref Ca) ∧ Cls K Ca ∧ L2.Fun K e.p.at_ e.p.ql e.d.st a fd ∧ (e.p.kind = .prop → ∃ q, PropOf K Ca e.p.at_ q a) ∧ (e.p.kind = .meth → Meth K Ca e.p.at_ a) ∧ (e.p.kind = .init → Mk K Ca a)
  lm : ∀ e ∈ t.ls, ∃ a fd, mg e.lf.nm = some (.ref a) ∧ L2.Fun K e.lf.nm e.lf.nm e.d.st a fd
section
variable {P : Program} {w : World} {K : PySem.W.Frag} {mg : Str → Option Value} {base : Heap} {t : Txt}
theorem fnStuck {k : Nat} {f : Addr} {fd : FuncData} {ps : List Str} : FnOk P w K mg base (L2.CX P w) k f fd ps (FnSp ⟨K, mg, w⟩ ps.length fun _ => stuck) :=
  ⟨fun _ _ _ _ h => h.1, fun _ _ _ _ _ _ _ _ _ _ _ _ _ ⟨_, _, _, _, _, _, z⟩ => z.elim⟩
theorem get_map {α β : Type} {f : α → β} {l : List α} {k : Nat} {y : β} (h : (l[k]?).map f = some y) : ∃ x, l[k]? = some x ∧ f x = y ∧ x ∈ l := by
  rw [Option.map_eq_some_iff] at h
  obtain ⟨x, h1, h2⟩ := h
  exact ⟨x, h1, h2, List.mem_of_getElem? h1⟩
theorem tabN_all (W1 : World1 P w K mg base t.g) (D : Dyn K mg w base t) (hf : ∀ e ∈ t.fs, e.Ok t.g) (hm : ∀ e ∈ t.ms, e.Ok t.g) (hl : ∀ e ∈ t.ls, e.Ok t.g) : ∀ n, TabN P w K mg base t.g n := by
  have step : ∀ n, (∀ m, m < n → TabN P w K mg base t.g m) → TabN P w K mg base t.g n := by
    intro n IH
    refine ⟨fun k fn h h2 => ?_, fun k p h h2 => ?_, fun k lf h h2 => ?_⟩
    · obtain ⟨e, he, rfl, hmem⟩ := get_map h
      have hlv : t.g.lv k = e.lv := by show ((t.fs[k]?).map (·.lv)).getD 0 = _; rw [he]; rfl
      rw [hlv] at h2 ⊢
      obtain ⟨a, fd, ha, F, hmk⟩ := D.fn e hmem
      have O := hf e hmem
      refine ⟨a, fd, ha, F.kp, ?_, fun sh hsh s us ws _ h1 h2 => ?_⟩
      · rcases O.go with ⟨_, hs⟩ | ⟨hp, hlam, hmn, hc, hden⟩
        · rw [hs]; exact fnStuck
        · have := def_ok (n := e.lv - 1) F W1 (IH _ (by omega)) hc hlam (fun z => ⟨rfl, hmk z⟩) hden
          rw [Nat.sub_add_cancel hp] at this
          rw [O.ps]
          exact this
      · obtain ⟨oc, od, kV, doc, pm, an, cdv, ct, osl, rfl, _, _⟩ := F.ex
        exact O.bd kV doc pm an cdv ct sh hsh s us ws h1 h2
    · obtain ⟨e, he, rfl, hmem⟩ := get_map h
      have hlv : t.g.lvM k = e.lv := by show ((t.ms[k]?).map (·.lv)).getD 0 = _; rw [he]; rfl
      rw [hlv] at h2 ⊢
      obtain ⟨Ca, a, fd, hC, C, F, k1, k2, k3⟩ := D.mt e hmem
      have O := hm e hmem
      obtain ⟨hp, hlam, hmn, hc, hden⟩ := O.go
      have ok := def_ok (n := e.lv - 1) F W1 (IH _ (by omega)) hc hlam (fun z => by rw [hmn] at z; cases z) hden
      rw [Nat.sub_add_cancel hp, ← O.ps] at ok
      have bd : e.p.kind ≠ .init → Binds K fd e.p.fn.ps [] := fun hk s us _ hl => by
        rw [List.append_nil] at hl ⊢
        obtain ⟨oc, od, kV, doc, pm, an, cdv, ct, osl, rfl, _, _⟩ := F.ex
        exact O.bd hk kV doc pm an cdv ct s us hl
      refine ⟨fun hk => ?_, fun hk => ?_, fun hk => ?_⟩
      · obtain ⟨q, hq⟩ := k1 hk
        exact ⟨Ca, q, a, fd, hC, C, hq, ok, bd (by rw [hk]; decide)⟩
      · exact ⟨Ca, a, fd, hC, C, k2 hk, ok, bd (by rw [hk]; decide)⟩
      · refine ⟨Ca, a, fd, hC, k3 hk, ok, fun sh hsh s us ws _ h1 h2 => ?_⟩
        obtain ⟨oc, od, kV, doc, pm, an, cdv, ct, osl, rfl, _, _⟩ := F.ex
        exact O.bdi hk kV doc pm an cdv ct sh hsh s us ws h1 h2
    · obtain ⟨e, he, rfl, hmem⟩ := get_map h
      have hlv : t.g.lvL k = e.lv := by show ((t.ls[k]?).map (·.lv)).getD 0 = _; rw [he]; rfl
      rw [hlv] at h2 ⊢
      obtain ⟨a, fd, ha, F⟩ := D.lm e hmem
      have O := hl e hmem
      obtain ⟨hp, hmn, hc, hden⟩ := O.go
      have ok := lam_ok (n := e.lv - 1) F W1 (IH _ (by omega)) hc hmn ha (fun s us _ h => by
        obtain ⟨oc, od, kV, doc, pm, an, cdv, ct, osl, rfl, _, _⟩ := F.ex
        rw [← O.ps] at h ⊢
        exact O.bd kV doc pm an cdv ct s us h) hden
      rw [Nat.sub_add_cancel hp, ← O.ps] at ok
      exact ok
  intro n
  exact Nat.strongRecOn n step
/-- the law's own def -/
theorem law_ok {d : Df} {f : Addr} {fd : FuncData} {x ql : Str} {n : Nat} {m : List PV → M PV} (W1 : World1 P w K mg base t.g) (D : Dyn K mg w base t) (hf : ∀ e ∈ t.fs, e.Ok t.g) (hm : ∀ e ∈ t.ms, e.Ok t.g) (hl : ∀ e ∈ t.ls, e.Ok t.g)
    (F : L2.Fun K x ql d.st f fd) (hc : chkDf t.g n d = true) (h1 : d.lam = false) (h2 : d.mkr = false) (hden : ∀ args, args.length = d.np → M.le (m args) (d.den t.g args)) :
    FnOk P w K mg base (L2.CX P w) (n + 1) f fd (d.N.take d.np) (FnSp ⟨K, mg, w⟩ (d.N.take d.np).length m) :=
  def_ok F W1 (tabN_all W1 D hf hm hl n) hc h1 (fun z => by rw [h2] at z; cases z) hden
end
end Dp

namespace Dp
open PySem PySem.Spec L2
open PyProof.Rows hiding St
open He (ga ma Fa ba eqO eqO_ok dicW keysIn emptyTab codeOf)

/-! ### constants that are written -/
mutual
def wrB (K : PySem.W.Frag) : PV → Value → Bool
  | .non, u => (match u with | .none => true | _ => false)
  | .bl b, u => (match u with | .bool c => b == c | _ => false)
  | .int i, u => (match u with | .int j _ => decide (i = j) | _ => false)
  | .str x, u => (match u with | .str y _ => decide (x = y) | _ => false)
  | .ty n, u => (match u with | .type m => decide (n = m) | _ => false)
  | .tup xs, u => (match u with
    | .ref a => (match K.lookup a with
      | some ⟨.type c, none, .seq its _, _⟩ => decide (c = "tuple") && (decide (its.size ≤ sizeLine) && wrBs K xs its.toList)
      | _ => false)
    | _ => false)
  | _, _ => false
def wrBs (K : PySem.W.Frag) : List PV → List Value → Bool
  | [], us => us.isEmpty
  | x :: xs, us => (match us with | u :: us => wrB K x u && wrBs K xs us | [] => false)
end
section
variable {K : PySem.W.Frag} {mg : Str → Option Value} {w : World}
mutual
theorem wrB_ok : ∀ (x : PV) (u : Value), wrB K x u = true → ∃ v, RelV v u ∧ Wr ⟨K, mg, w⟩ x v
  | .non, u, h => by
    unfold wrB at h
    split at h
    · exact ⟨.non, rfl, fun F H => .non⟩
    · cases h
  | .bl b, u, h => by
    unfold wrB at h
    split at h
    · rw [eq_of_beq h]; exact ⟨.bl _, rfl, fun F H => .bl _⟩
    · cases h
  | .int i, u, h => by
    unfold wrB at h
    split at h
    · rename_i t; rw [of_decide_eq_true h]; exact ⟨.int _, ⟨t, rfl⟩, fun F H => .int _⟩
    · cases h
  | .str x, u, h => by
    unfold wrB at h
    split at h
    · rename_i t; rw [of_decide_eq_true h]; exact ⟨.str _, ⟨t, rfl⟩, fun F H => .str _⟩
    · cases h
  | .ty n, u, h => by
    unfold wrB at h
    split at h
    · rw [of_decide_eq_true h]; exact ⟨.ty _, rfl, fun F H => .ty _⟩
    · cases h
  | .tup xs, u, h => by
    unfold wrB at h
    split at h
    · rename_i a
      split at h
      · rename_i c its n sl e
        obtain ⟨h1, h⟩ := ba h
        obtain ⟨h2, h3⟩ := ba h
        obtain ⟨vs, rv, r⟩ := wrBs_ok xs its.toList h3
        exact ⟨.ref a, rfl, fun F H => .tup (.inr ⟨_, its, n, e, congrArg Value.type (of_decide_eq_true h1), rfl, rfl, of_decide_eq_true h2, rv⟩) (r F H)⟩
      · cases h
    · cases h
  | .lst xs, u, h => by unfold wrB at h; cases h
  | .loc xs, u, h => by unfold wrB at h; cases h
  | .ref a, u, h => by unfold wrB at h; cases h
  | .fn f, u, h => by unfold wrB at h; cases h
  | .clo f c q cs vs, u, h => by unfold wrB at h; cases h
  | .dct ks xs, u, h => by unfold wrB at h; cases h
  | .kdc ks xs, u, h => by unfold wrB at h; cases h
theorem wrBs_ok : ∀ (xs : List PV) (us : List Value), wrBs K xs us = true → ∃ vs, Vals vs us ∧ ∀ F H, RepL ⟨K, mg, w⟩ F H xs vs
  | [], us, h => by
    unfold wrBs at h
    cases us with
    | nil => exact ⟨[], .nil, fun F H => .nil⟩
    | cons u us => cases h
  | x :: xs, us, h => by
    unfold wrBs at h
    split at h
    · rename_i u us
      obtain ⟨h1, h2⟩ := ba h
      obtain ⟨v, rv, r⟩ := wrB_ok x u h1
      obtain ⟨vs, rvs, rs⟩ := wrBs_ok xs us h2
      exact ⟨v :: vs, .cons rv rvs, fun F H => .cons (r F H) (rs F H)⟩
    · cases h
end
def kdcB (K : PySem.W.Frag) (a : Addr) : List Key → List PV → Bool
  | [], xs => xs.isEmpty
  | .inl _ :: _, _ => false
  | .inr z :: ks, xs => (match xs with
    | x :: xs => (match PySem.W.nsIn K a z with | some (some u) => wrB K x u | _ => false) && kdcB K a ks xs
    | [] => false)
theorem kdcB_ok {a : Addr} : ∀ (ks : List Key) (xs : List PV), kdcB K a ks xs = true → ∃ vs, (∀ F H, RepL ⟨K, mg, w⟩ F H xs vs) ∧ ∀ k v, valV (ks.zip vs) k = some v → ∃ z u, k = .inr z ∧ PySem.W.nsIn K a z = some (some u) ∧ RelV v u
  | [], xs, h => by
    cases xs with
    | nil => exact ⟨[], fun F H => .nil, fun k v e => by cases e⟩
    | cons x xs => cases h
  | .inl _ :: _, _, h => by cases h
  | .inr z :: ks, [], h => by cases h
  | .inr z :: ks, x :: xs, h => by
    obtain ⟨h1, h2⟩ := ba (show ((match PySem.W.nsIn K a z with | some (some u) => wrB K x u | _ => false) && kdcB K a ks xs) = true from h)
    obtain ⟨vs, r, hk⟩ := kdcB_ok ks xs h2
    split at h1
    · rename_i u e
      obtain ⟨v, rv, rx⟩ := wrB_ok (mg := mg) (w := w) x u h1
      refine ⟨v :: vs, fun F H => .cons (rx F H) (r F H), fun k v' e' => ?_⟩
      unfold valV at e'
      rw [List.zip_cons_cons, List.find?_cons] at e'
      by_cases hz : (Sum.inr z : Key) = k
      · subst hz
        simp at e'
        subst e'
        exact ⟨z, u, rfl, e, rv⟩
      · rw [show decide ((Sum.inr z : Key) = k) = false by simpa using hz] at e'
        exact hk k v' e'
    · cases h1
/-- a name's constant -/
def cstB (K : PySem.W.Frag) (p : Str × PV) : Bool := match p.2 with
  | .kdc ks xs => eqO (PySem.W.nsIn K mainGlobals p.1) (some (some (.ref (ga K p.1)))) && kdcB K (ga K p.1) ks xs
  | x => (match PySem.W.nsIn K mainGlobals p.1 with | some (some u) => wrB K x u | _ => false)
end
def keyStr : Key → Option Str
  | .inr z => some z
  | .inl _ => none
def kdNames (gs : List (Str × PV)) : List (Str × List Str) := gs.filterMap fun p => match p.2 with
  | .kdc ks _ => some (p.1, ks.filterMap keyStr)
  | _ => none
section
variable {K : PySem.W.Frag} {mg : Str → Option Value} {w : World} {h : Heap}
theorem cst_ok (X : K.In h) (G : h.Ns mainGlobals mg) {gs : List (Str × PV)} (hk : (kdNames gs).map (fun p => dicW K (ga K p.1)) = (kdNames gs).map fun p => some (keysIn w.params p.2)) {p : Str × PV} (hp : p ∈ gs) (hc : cstB K p = true) : ∃ u v, mg p.1 = some u ∧ RelV v u ∧ Wr ⟨K, mg, w⟩ p.2 v := by
  obtain ⟨x, pv⟩ := p
  unfold cstB at hc
  split at hc
  · rename_i ks xs e
    have e : pv = .kdc ks xs := e
    subst e
    obtain ⟨h1, h2⟩ := ba hc
    obtain ⟨vs, r, hv⟩ := kdcB_ok (mg := mg) (w := w) ks xs h2
    have hm : (x, ks.filterMap keyStr) ∈ kdNames gs := List.mem_filterMap.mpr ⟨_, hp, rfl⟩
    have hd : dicW K (ga K x) = some (keysIn w.params (ks.filterMap keyStr)) := by
      obtain ⟨i, hi, e⟩ := List.mem_iff_getElem.mp hm
      have e2 := congrArg (fun l => l[i]?) hk
      simp only [List.getElem?_map, List.getElem?_eq_getElem hi, Option.map_some, e] at e2
      exact Option.some.inj e2
    obtain ⟨es, n, KD⟩ := He.dicW_ok hd
    exact ⟨_, .ref (ga K x), PySem.W.mg_of X G (eqO_ok h1), rfl, fun F H => .kdc ⟨⟨es, n, KD⟩, hv⟩ (r F H)⟩
  · split at hc
    · rename_i u e
      obtain ⟨v, rv, r⟩ := wrB_ok (mg := mg) (w := w) _ _ hc
      exact ⟨u, v, PySem.W.mg_of X G e, rv, r⟩
    · cases hc
end

/-! ### the tables of makers -/
def tabV (K : PySem.W.Frag) (x : Str) (mv : Option Value) : Option (Addr × Str) := match mv with
  | some (.ref f) => match K.lookup f with
    | some ⟨_, _, .func fd, _⟩ => match fd.code with
      | .ref c => match K.lookup c with
        | some ⟨_, _, .fields vs, _⟩ => match (vs[11]? : Option Value) with
          | some (.ref P) => some (P, lamQ x)
          | _ => none
        | _ => none
      | _ => none
    | _ => none
  | _ => none
def nsG (K : PySem.W.Frag) (x : Str) : Option Value := (PySem.W.nsIn K mainGlobals x).getD none
def tabsK (K : PySem.W.Frag) : List (Addr × Str) := lamNames.filterMap fun x => tabV K x (nsG K x)
def csK (K : PySem.W.Frag) : List (Addr × Addr) := lamNames.filterMap fun x => (tabV K x (nsG K x)).map fun p => (codeOf K (x, none), p.1)
def tabsOk (g : Addr → Option Obj) (K : PySem.W.Frag) : Bool := (lamNames.all fun x => (PySem.W.nsIn K mainGlobals x).isSome && (match tabV K x (nsG K x) with
  | none => true
  | some p => PySem.W.codeHdIn K (codeOf K (x, none)) p.1 && (match g p.1 with | some o => emptyTab o | none => false))) && decide ((tabsK K).map (·.1)).Nodup
section
variable {K : PySem.W.Frag} {mg : Str → Option Value} {w : World} {h : Heap}
theorem mg_nsG (X : K.In h) (G : h.Ns mainGlobals mg) {x : Str} (hs : (PySem.W.nsIn K mainGlobals x).isSome = true) : mg x = nsG K x := by
  unfold nsG
  cases e : PySem.W.nsIn K mainGlobals x with
  | none => rw [e] at hs; cases hs
  | some r =>
    cases r with
    | none => exact PySem.W.mg_none_of X G e
    | some v => exact PySem.W.mg_of X G e
theorem tabsOf_eq (X : K.In h) (G : h.Ns mainGlobals mg) (hs : ∀ x ∈ lamNames, (PySem.W.nsIn K mainGlobals x).isSome = true) : tabsOf ⟨K, mg, w⟩ = tabsK K := by
  unfold tabsOf tabsK
  have : ∀ l : List Str, (∀ x ∈ l, x ∈ lamNames) → l.filterMap (tabOf ⟨K, mg, w⟩) = l.filterMap fun x => tabV K x (nsG K x) := by
    intro l
    induction l with
    | nil => intro _; rfl
    | cons a l ih =>
      intro ha
      have e : tabOf ⟨K, mg, w⟩ a = tabV K a (nsG K a) := by
        rw [← mg_nsG X G (hs a (ha a List.mem_cons_self))]; rfl
      rw [List.filterMap_cons, List.filterMap_cons, e, ih fun x hx => ha x (List.mem_cons_of_mem _ hx)]
  exact this lamNames fun x hx => hx
end

/-! ### classes -/
def insB (K : PySem.W.Frag) (C : Addr) : Bool := (PySem.W.plainGet K C Str.empty && (PySem.W.hasDictIn K C && (PySem.W.plainOver K C && eqO (PySem.W.findIn K (.ref C) "__setattr__") (some (some (.builtin "object.__setattr__")))))) &&
  (eqO (PySem.W.findIn K (.ref C) "__class__") (some (some (.builtin "object.__class__"))) && (eqO (PySem.W.specialIn K (.builtin "object.__class__") "__get__") (some (some (.builtin "getset_descriptor.__get__"))) && (decide (PySem.W.takesIn K (.builtin "object.__class__") = some true) &&
    (decide (PySem.W.mroIn K C (.type "object") = some true) && decide (PySem.W.kitOne K (.ref C) (.ref C) = some true)))))
def iscB (K : PySem.W.Frag) (C : Str) (oth : List Str) : Bool := insB K (ga K C) && ((kTs.all fun t => decide (PySem.W.kitOne K (.type t) (.ref (ga K C)) = some false)) &&
  oth.all fun D => (Fa.glo D).ok K && (insB K (ga K D) && decide (PySem.W.kitOne K (.ref (ga K D)) (.ref (ga K C)) = some false)))
def clsB (K : PySem.W.Frag) (C : ClsE) : Bool := (Fa.glo C.nm).ok K && ((Fa.cls C.nm).ok K && ((C.flds.all fun f => (Fa.noat C.nm f).ok K) && (if C.isi = true then iscB K C.nm C.oth else true)))
def prpB (K : PySem.W.Frag) (C : Addr) (f : Str) : Bool := match PySem.W.findIn K (.ref C) f with
  | some (some (.ref p)) => eqO (PySem.W.specialIn K (.ref p) "__get__") (some (some (.builtin "property.__get__"))) && (decide (PySem.W.takesIn K (.ref p) = some true) && (match PySem.W.recIn K p "property" with | some (.ref _ :: _) => true | _ => false))
  | _ => false
def mtAd (p : MtE) (K : PySem.W.Frag) : Addr := if p.kind = .prop then He5.wf K (ga K p.cls) "property" p.at_ else ma K (ga K p.cls) p.at_
def mtB (K : PySem.W.Frag) (p : MtE) : Bool := (Fa.glo p.cls).ok K && ((Fa.cls p.cls).ok K && match p.kind with
  | .prop => prpB K (ga K p.cls) p.at_
  | .meth => (Fa.meth p.cls p.at_).ok K
  | .init => decide (p.at_ = "__init__") && (Fa.mkr p.cls).ok K)
section
variable {K : PySem.W.Frag} {mg : Str → Option Value} {w : World} {h : Heap}
theorem insB_ok {C : Addr} (c : insB K C = true) : C8.InsC K C := by
  obtain ⟨c0, c⟩ := ba c
  obtain ⟨k1, c0⟩ := ba c0
  obtain ⟨k2, c0⟩ := ba c0
  obtain ⟨k3, k4⟩ := ba c0
  obtain ⟨c1, c⟩ := ba c
  obtain ⟨c2, c⟩ := ba c
  obtain ⟨c3, c⟩ := ba c
  obtain ⟨c4, c5⟩ := ba c
  exact ⟨⟨k1, k2, k3, eqO_ok k4⟩, eqO_ok c1, eqO_ok c2, of_decide_eq_true c3, of_decide_eq_true c4, of_decide_eq_true c5⟩
theorem iscB_ok (X : K.In h) (G : h.Ns mainGlobals mg) {C : Str} {oth : List Str} (hC : mg C = some (.ref (ga K C))) (c : iscB K C oth = true) : IsCls K mg C oth := by
  obtain ⟨c1, c⟩ := ba c
  obtain ⟨c2, c3⟩ := ba c
  refine ⟨ga K C, hC, insB_ok c1, fun t ht => of_decide_eq_true (List.all_eq_true.mp c2 t ht), fun D hD => ?_⟩
  obtain ⟨d1, d⟩ := ba (List.all_eq_true.mp c3 D hD)
  obtain ⟨d2, d3⟩ := ba d
  exact ⟨ga K D, He.glo_ok X G d1, insB_ok d2, of_decide_eq_true d3⟩
theorem prpB_ok {C : Addr} {f : Str} (c : prpB K C f = true) : ∃ q, PropOf K C f q (He5.wf K C "property" f) := by
  unfold prpB at c
  split at c
  · rename_i p e
    obtain ⟨c1, c⟩ := ba c
    obtain ⟨c2, c3⟩ := ba c
    have hm : ma K C f = p := by unfold ma; rw [e]
    refine ⟨p, e, eqO_ok c1, of_decide_eq_true c2, ?_⟩
    unfold He5.wf
    rw [hm]
    split at c3
    · rename_i g r e3
      rw [e3]
      exact ⟨r, rfl⟩
    · cases c3
  · cases c
end

/-! ### the Hook -/
def dA (at_ : PySem.W.Frag → Addr) (x ql : Str) (st : Stmt) : He5.DefA := ⟨at_, x, ql, defArgs st, defBody st, defScope st, [], []⟩
def defsOf (t : Txt) (dl : Df) : List He5.DefA := (t.fs.map fun e => dA (fun K => ga K e.fn.nm) e.fn.nm e.fn.nm e.d.st) ++ (t.ms.map fun e => dA (mtAd e.p) e.p.at_ e.p.ql e.d.st) ++ (t.ls.map fun e => dA (fun K => ga K e.lf.nm) e.lf.nm e.lf.nm e.d.st) ++ [dA (fun K => ga K "law") "law" "law" dl.st]
def okB (t : Txt) (dl : Df) (K : PySem.W.Frag) : Bool := (t.fs.all fun e => (Fa.glo e.fn.nm).ok K && (if e.d.mkr = true then (tabV K e.fn.nm (nsG K e.fn.nm)).isSome else true)) && ((t.ms.all fun e => mtB K e.p) && ((t.ls.all fun e => (Fa.glo e.lf.nm).ok K) && ((t.cs.all fun C => clsB K C) && ((t.gs.all fun p => cstB K p) &&
  ((bltNames.all fun x => (Fa.free (Str.ofString x)).ok K) && ((Fa.glo "law").ok K && (defsOf t dl).all fun d => d.ok K))))))
abbrev AlP : Type := Bool × List He.FnW × List (Option (List (Option (Str × Int))))
def obsP (t : Txt) (dl : Df) (as : (Addr → Option Obj) → List Addr) (g : Addr → Option Obj) : AlP :=
  (okB t dl (He.frT g (as g)) && tabsOk g (He.frT g (as g)), (defsOf t dl).map (fun d => He5.fnA (He.frT g (as g)) (d.at_ (He.frT g (as g)))), (kdNames t.gs).map fun p => dicW (He.frT g (as g)) (ga (He.frT g (as g)) p.1))
def valP (t : Txt) (dl : Df) (w : World) : AlP := (true, (defsOf t dl).map He5.DefA.val, (kdNames t.gs).map fun p => some (keysIn w.params p.2))
structure SaysP (t : Txt) (dl : Df) (w : World) (h : Heap) (K : PySem.W.Frag) : Prop where
  ok : okB t dl K = true
  fns : (defsOf t dl).map (fun d => He5.fnA K (d.at_ K)) = (defsOf t dl).map He5.DefA.val
  kds : (kdNames t.gs).map (fun p => dicW K (ga K p.1)) = (kdNames t.gs).map fun p => some (keysIn w.params p.2)
  ns : ∀ x ∈ lamNames, (PySem.W.nsIn K mainGlobals x).isSome = true
  nd : ((tabsK K).map (·.1)).Nodup
  hd : ∀ p ∈ csK K, PySem.W.codeHdIn K p.1 p.2 = true
  out : ∀ p ∈ csK K, K.lookup p.2 = none
  empty : ∀ p ∈ csK K, h.get? p.2 = some { cls := .none, data := .fields #[] }
theorem saysP_of {t : Txt} {dl : Df} {as : (Addr → Option Obj) → List Addr} {w : World} {h : Heap} (e : obsP t dl as h.get? = valP t dl w) : SaysP t dl w h (He.frT h.get? (as h.get?)) := by
  have e1 : (okB t dl (He.frT h.get? (as h.get?)) && tabsOk h.get? (He.frT h.get? (as h.get?))) = true := congrArg (fun z : AlP => z.1) e
  have e2 : (defsOf t dl).map (fun d => He5.fnA (He.frT h.get? (as h.get?)) (d.at_ (He.frT h.get? (as h.get?)))) = (defsOf t dl).map He5.DefA.val := congrArg (fun z : AlP => z.2.1) e
  have e3 : (kdNames t.gs).map (fun p => dicW (He.frT h.get? (as h.get?)) (ga (He.frT h.get? (as h.get?)) p.1)) = (kdNames t.gs).map fun p => some (keysIn w.params p.2) := congrArg (fun z : AlP => z.2.2) e
  obtain ⟨h1, h2⟩ := ba e1
  obtain ⟨h3, h4⟩ := ba (show ((lamNames.all fun x => (PySem.W.nsIn (He.frT h.get? (as h.get?)) mainGlobals x).isSome && (match tabV (He.frT h.get? (as h.get?)) x (nsG (He.frT h.get? (as h.get?)) x) with
    | none => true
    | some p => PySem.W.codeHdIn (He.frT h.get? (as h.get?)) (codeOf (He.frT h.get? (as h.get?)) (x, none)) p.1 && (match h.get? p.1 with | some o => emptyTab o | none => false))) && decide ((tabsK (He.frT h.get? (as h.get?))).map (·.1)).Nodup) = true from h2)
  have key : ∀ p ∈ csK (He.frT h.get? (as h.get?)), PySem.W.codeHdIn (He.frT h.get? (as h.get?)) p.1 p.2 = true ∧ ∃ o, h.get? p.2 = some o ∧ emptyTab o = true := fun p hp => by
    obtain ⟨x, hx, hq⟩ := List.mem_filterMap.mp hp
    rw [Option.map_eq_some_iff] at hq
    obtain ⟨q, hq, rfl⟩ := hq
    obtain ⟨_, z⟩ := ba (List.all_eq_true.mp h3 x hx)
    rw [hq] at z
    obtain ⟨z1, z2⟩ := ba z
    refine ⟨z1, ?_⟩
    split at z2
    · rename_i o e; exact ⟨o, e, z2⟩
    · cases z2
  exact ⟨h1, e2, e3, fun x hx => (ba (List.all_eq_true.mp h3 x hx)).1, of_decide_eq_true h4, fun p hp => (key p hp).1, fun p hp => by
    obtain ⟨_, o, q, z⟩ := key p hp
    exact He.frT_none q z, fun p hp => by
    obtain ⟨_, o, q, z⟩ := key p hp
    rw [q, He.emptyTab_eq z]⟩
def hookP (t : Txt) (dl : Df) (as : (Addr → Option Obj) → List Addr) : PySem.W.Hook where
  α := AlP
  obs := fun s => obsP t dl as s.heap.get?
  val := fun w => valP t dl w
  says := fun w h => ∃ K : PySem.W.Frag, K.In h ∧ SaysP t dl w h K
  of := fun _ _ e => ⟨_, He.frT_in, saysP_of e⟩
  keeps := fun _ _ _ ⟨K, hK, c⟩ k => ⟨K, PySem.W.Frag.In.keeps hK k, ⟨c.ok, c.fns, c.kds, c.ns, c.nd, c.hd, c.out, fun p hp => k _ _ (c.empty p hp)⟩⟩
theorem obsP_eq {t : Txt} {dl : Df} {as : (Addr → Option Obj) → List Addr} {g : Addr → Option Obj} {s : Shared} (h : ∀ a, g a = s.heap.get? a) : obsP t dl as g = (hookP t dl as).obs s := by
  have e : g = s.heap.get? := funext h
  rw [e] <;> rfl

/-- the names that the text uses -/
def usedNames (t : Txt) : List Str := (t.fs.map (·.fn.nm)) ++ (t.ms.map (·.p.cls)) ++ (t.ls.map (·.lf.nm)) ++ (t.cs.flatMap fun C => C.nm :: C.oth) ++ (t.gs.map (·.1)) ++ (["law"] : List Str)
/-- what they reach in n steps -/
def asP (t : Txt) (n : Nat) (g : Addr → Option Obj) : List Addr := mainGlobals :: (cStatics :: go n ((usedNames t).map (ga (He.frG g [mainGlobals]))).eraseDups)
where
  go : Nat → List Addr → List Addr
    | 0, as => as
    | n + 1, as => go n (He.growD g as)
/-! ### what follows -/
section
variable {t : Txt} {dl : Df} {w : World} {h base : Heap} {K : PySem.W.Frag} {mg : Str → Option Value} {P : Program}
theorem SaysP.fun_ (c : SaysP t dl w h K) {d : He5.DefA} (hd : d ∈ defsOf t dl) {at_ : PySem.W.Frag → Addr} {x ql : Str} {st : Stmt} (e : d = dA at_ x ql st) : ∃ fd, L2.Fun K x ql st (at_ K) fd := by
  obtain ⟨_, c1⟩ := ba c.ok
  obtain ⟨_, c1⟩ := ba c1
  obtain ⟨_, c1⟩ := ba c1
  obtain ⟨_, c1⟩ := ba c1
  obtain ⟨_, c1⟩ := ba c1
  obtain ⟨_, c1⟩ := ba c1
  obtain ⟨_, c1⟩ := ba c1
  obtain ⟨i, hi, e0⟩ := List.mem_iff_getElem.mp hd
  have e2 := congrArg (fun l => l[i]?) c.fns
  simp only [List.getElem?_map, List.getElem?_eq_getElem hi, Option.map_some, e0] at e2
  obtain ⟨fd, F⟩ := He5.DefA.funD (Option.some.inj e2) (List.all_eq_true.mp c1 d hd)
  subst e
  exact ⟨fd, He5.fun_of F⟩
theorem SaysP.parts (c : SaysP t dl w h K) : (∀ e ∈ t.fs, (Fa.glo e.fn.nm).ok K = true ∧ (e.d.mkr = true → (tabV K e.fn.nm (nsG K e.fn.nm)).isSome = true)) ∧ (∀ e ∈ t.ms, mtB K e.p = true) ∧ (∀ e ∈ t.ls, (Fa.glo e.lf.nm).ok K = true) ∧ (∀ C ∈ t.cs, clsB K C = true) ∧ (∀ p ∈ t.gs, cstB K p = true) ∧ (∀ x ∈ bltNames, (Fa.free (Str.ofString x)).ok K = true) ∧ (Fa.glo "law").ok K = true := by
  obtain ⟨k1, c1⟩ := ba c.ok
  obtain ⟨k2, c1⟩ := ba c1
  obtain ⟨k3, c1⟩ := ba c1
  obtain ⟨k4, c1⟩ := ba c1
  obtain ⟨k5, c1⟩ := ba c1
  obtain ⟨k6, c1⟩ := ba c1
  obtain ⟨k7, c1⟩ := ba c1
  refine ⟨fun e he => ?_, List.all_eq_true.mp k2, List.all_eq_true.mp k3, List.all_eq_true.mp k4, List.all_eq_true.mp k5, List.all_eq_true.mp k6, k7⟩
  obtain ⟨z1, z2⟩ := ba (List.all_eq_true.mp k1 e he)
  exact ⟨z1, fun hm => by rw [if_pos hm] at z2; exact z2⟩
theorem SaysP.world (c : SaysP t dl w h K) (X : K.In h) (G : h.Ns mainGlobals mg) : World1 P w K mg base t.g := by
  obtain ⟨k1, k2, k3, k4, k5, k6, k7⟩ := c.parts
  refine ⟨fun i p hp => ?_, fun x hx => He.free_ok X G (k6 x hx), fun i C hC => ?_, fun i C hC hi => ?_, ?_⟩
  · exact cst_ok X G c.kds (List.mem_of_getElem? (show t.gs[i]? = some p from hp)) (k5 p (List.mem_of_getElem? (show t.gs[i]? = some p from hp)))
  · obtain ⟨z1, z⟩ := ba (k4 C (List.mem_of_getElem? (show t.cs[i]? = some C from hC)))
    obtain ⟨z2, z⟩ := ba z
    obtain ⟨z3, z4⟩ := ba z
    exact ⟨ga K C.nm, He.glo_ok X G z1, He.cls_ok z2, fun f hf => He.noat_ok (List.all_eq_true.mp z3 f hf)⟩
  · obtain ⟨z1, z⟩ := ba (k4 C (List.mem_of_getElem? (show t.cs[i]? = some C from hC)))
    obtain ⟨z2, z⟩ := ba z
    obtain ⟨z3, z4⟩ := ba z
    rw [if_pos hi] at z4
    exact iscB_ok X G (He.glo_ok X G z1) z4
  · rw [tabsOf_eq X G c.ns]; exact c.nd
theorem tabV_some {x : Str} {mv : Option Value} {p : Addr × Str} (e : tabV K x mv = some p) : p.2 = lamQ x := by
  unfold tabV at e
  split at e
  · split at e
    · split at e
      · split at e
        · split at e
          · cases e; rfl
          · cases e
        · cases e
      · cases e
    · cases e
  · cases e
theorem SaysP.dyn (c : SaysP t dl w h K) (X : K.In h) (G : h.Ns mainGlobals mg) (hmk : ∀ e ∈ t.fs, e.d.mkr = true → e.fn.nm ∈ lamNames) (hT : ∀ p ∈ csK K, LamX.TabB base mg p.1 p.2) : Dyn K mg w base t := by
  obtain ⟨k1, k2, k3, k4, k5, k6, k7⟩ := c.parts
  refine ⟨fun e he => ?_, fun e he => ?_, fun e he => ?_⟩
  · obtain ⟨fd, F⟩ := c.fun_ (d := dA (fun K => ga K e.fn.nm) e.fn.nm e.fn.nm e.d.st) (List.mem_append_left _ (List.mem_append_left _ (List.mem_append_left _ (List.mem_map.mpr ⟨e, he, rfl⟩)))) rfl
    refine ⟨_, fd, He.glo_ok X G (k1 e he).1, F, fun hm => ?_⟩
    have hx := hmk e he hm
    obtain ⟨p, hp⟩ := Option.isSome_iff_exists.mp ((k1 e he).2 hm)
    have hcs : (codeOf K (e.fn.nm, none), p.1) ∈ csK K := List.mem_filterMap.mpr ⟨_, hx, by rw [hp]; rfl⟩
    obtain ⟨oc, od, kV, doc, pm, an, cdv, ct, osl, rfl, lk, hcd⟩ := F.ex
    obtain ⟨cc, rfl⟩ := He.codeIn_ref hcd
    have hco : codeOf K (e.fn.nm, none) = cc := He.codeOf_eq (p := (e.fn.nm, none)) lk rfl
    refine ⟨cc, p.1, rfl, ?_, ?_⟩
    · have := hT _ hcs
      rw [hco] at this
      exact this
    · rw [tabsOf_eq X G c.ns]
      refine List.mem_filterMap.mpr ⟨_, hx, ?_⟩
      rw [hp, ← tabV_some hp]
  · obtain ⟨fd, F⟩ := c.fun_ (d := dA (mtAd e.p) e.p.at_ e.p.ql e.d.st) (List.mem_append_left _ (List.mem_append_left _ (List.mem_append_right _ (List.mem_map.mpr ⟨e, he, rfl⟩)))) rfl
    obtain ⟨z1, z⟩ := ba (show ((Fa.glo e.p.cls).ok K && ((Fa.cls e.p.cls).ok K && match e.p.kind with
      | .prop => prpB K (ga K e.p.cls) e.p.at_
      | .meth => (Fa.meth e.p.cls e.p.at_).ok K
      | .init => decide (e.p.at_ = "__init__") && (Fa.mkr e.p.cls).ok K)) = true from k2 e he)
    obtain ⟨z2, z3⟩ := ba z
    refine ⟨ga K e.p.cls, mtAd e.p K, fd, He.glo_ok X G z1, He.cls_ok z2, F, fun hk => ?_, fun hk => ?_, fun hk => ?_⟩
    · rw [hk] at z3
      unfold mtAd
      rw [if_pos hk]
      exact prpB_ok z3
    · rw [hk] at z3
      unfold mtAd
      rw [if_neg (by rw [hk]; decide)]
      exact He.meth_ok z3
    · rw [hk] at z3
      obtain ⟨y1, y2⟩ := ba z3
      unfold mtAd
      rw [if_neg (by rw [hk]; decide), of_decide_eq_true y1]
      exact He.mkr_ok y2
  · obtain ⟨fd, F⟩ := c.fun_ (d := dA (fun K => ga K e.lf.nm) e.lf.nm e.lf.nm e.d.st) (List.mem_append_left _ (List.mem_append_right _ (List.mem_map.mpr ⟨e, he, rfl⟩))) rfl
    exact ⟨_, fd, He.glo_ok X G (k3 e he), F⟩
/-! ### the end -/
/-- the law's promise: the script in, True out -/
def spLaw (n : Nat) (cs : List (Addr × Addr)) (K : PySem.W.Frag) : Sp := fun vs H Q _ => ∃ (a : Addr) (ns : List Int), vs = [.ref a] ∧ ns.length ≤ n ∧ (∀ z ∈ ns, Builtin.Int.intBits z ≤ 1048576) ∧ SqL K H a (ns.map V.int) ∧ (∀ p ∈ cs, H p.2 = some (.tbl #[])) ∧ ∀ H', Q (.bl true) H'
/-- any end -/
def endT : M PV := ⟨fun _ Q _ => ∀ S', Q (.bl true) S', fun h _ q S' => h _ _ (q S')⟩
theorem ints_rep {Z F H} : ∀ {ns : List Int}, RepL Z F H (ns.map PV.int) (ns.map V.int)
  | [] => .nil
  | n :: ns => .cons (.int n) ints_rep
theorem spLaw_fn {n : Nat} {m : List PV → M PV} {cs : List (Addr × Addr)} (hcs : ∀ p ∈ tabsOf ⟨K, mg, w⟩, ∃ c, (c, p.1) ∈ cs) (hm : ∀ ns : List Int, ns.length ≤ n → (∀ z ∈ ns, Builtin.Int.intBits z ≤ 1048576) → M.le endT (m [.loc (ns.map .int)])) : ∀ vs H Q E, spLaw n cs K vs H Q E → FnSp ⟨K, mg, w⟩ 1 m vs H Q E := by
  rintro vs H Q E ⟨a, ns, rfl, hn, hbits, hS, hT, q⟩
  have ht : LamX.Tabs (tabsOf ⟨K, mg, w⟩) H := fun p hp => by
    obtain ⟨c, hc⟩ := hcs p hp
    exact LamX.TabS.nil (hT _ hc)
  have fin : ∀ (F : Addr → Prop) (S : Stt), (m [.loc (ns.map .int)]).run S (Pv ⟨K, mg, w⟩ F S H Q) (Px ⟨K, mg, w⟩ F S H E) := fun F S => hm ns hn hbits S _ _ fun S' F' H' v _ r => by
    cases r; exact q H'
  rcases hS with h | h
  · refine ⟨rfl, fun b => b = a, fun _ => none, [.loc (ns.map .int)], .cons (.loc (.inl ⟨rfl, h⟩) ints_rep) .nil, ⟨fun _ _ => rfl, ?_, fun _ _ e => (by cases e), ht⟩, fin _ _⟩
    rintro b rfl
    rcases h with h | ⟨o, h⟩
    · exact ⟨_, h, rfl⟩
    · exact ⟨_, h, rfl⟩
  · exact ⟨rfl, fun _ => False, fun _ => none, [.loc (ns.map .int)], .cons (.loc (.inr h) ints_rep) .nil, ⟨fun _ z => z.elim, fun _ z => z.elim, fun _ _ e => (by cases e), ht⟩, fin _ _⟩
theorem noCX : ∀ (w : World) (H : Hp) (s : Shared) (e : Value) (s' : Shared), L2.CX P w [] H s (fun _ _ _ => False) e s' → False :=
  fun _ _ _ _ _ ⟨_, _, _, _, _, _, _, _, _, _, _, _, z⟩ => z
/-- the law, from its head's facts -/
theorem lawAt {l : PySem.W.OpenLaw} {fa : Addr} {n N : Nat} {m : List PV → M PV} (c : SaysP t dl w h K) (X : K.In h) (G : h.Ns mainGlobals mg) (hfa : mg "law" = some (.ref fa)) (hf : ∀ e ∈ t.fs, e.Ok t.g) (hm : ∀ e ∈ t.ms, e.Ok t.g) (hl : ∀ e ∈ t.ls, e.Ok t.g) (hmk : ∀ e ∈ t.fs, e.d.mkr = true → e.fn.nm ∈ lamNames)
    (hc : chkDf t.g n dl = true) (h1 : dl.lam = false) (h2 : dl.mkr = false) (hps : dl.N.take dl.np = (["script"] : List Str)) (hden : ∀ args, args.length = dl.np → M.le (m args) (dl.den t.g args))
    (hbd : ∀ (kV doc pm : Value) (an : Option Addr) (cdv ct : Value) (s : Shared) (u : Value), BindsTo s (fdOf "law" "law" dl.st kV doc pm an cdv ct) ⟨[u], []⟩ [("script", u)])
    (hend : ∀ ns : List Int, ns.length ≤ N → (∀ z ∈ ns, Builtin.Int.intBits z ≤ 1048576) → M.le endT (m [.loc (ns.map .int)])) :
    LamX.LawAtS l w K (L2.CX l.prog w) (n + 1) N "script" mg fa h := by
  obtain ⟨k1, k2, k3, k4, k5, k6, k7⟩ := c.parts
  obtain ⟨fd, F⟩ := c.fun_ (d := dA (fun K => ga K "law") "law" "law" dl.st) (List.mem_append_right _ List.mem_cons_self) rfl
  have e := hfa.symm.trans (He.glo_ok X G k7)
  cases e
  refine ⟨fd, csK K, spLaw N (csK K) K, c.empty, c.out, fun p hp => PySem.W.codeHd_of_K X (c.hd p hp), fun s u => ?_, fun H a ns hn hb hT hS => ⟨a, ns, rfl, hn, hb, hS, hT, fun _ => rfl⟩, fun base Xb Gb hT => ?_⟩
  · obtain ⟨oc, od, kV, doc, pm, an, cdv, ct, osl, rfl, _, _⟩ := F.ex
    exact hbd kV doc pm an cdv ct s u
  · have W1 : World1 l.prog w K mg base t.g := c.world X G
    have D := c.dyn X G hmk hT
    have ok := law_ok (n := n) W1 D hf hm hl F hc h1 h2 hden
    rw [hps] at ok
    refine ok.imp (spLaw_fn (fun p hp => ?_) hend)
    rw [tabsOf_eq X G c.ns] at hp
    obtain ⟨x, hx, hq⟩ := List.mem_filterMap.mp hp
    exact ⟨codeOf K (x, none), List.mem_filterMap.mpr ⟨x, hx, by rw [hq]; rfl⟩⟩
end
end Dp

/-! programs as data; contracts of the program's functions on words, looking -/
namespace Dp.L
open PySem PySem.Spec L2 Dp
open PyProof.Rows hiding St
inductive Wd where
  | num (i : Int) | pl (s : Str) | call (h n : Str)
def Wd.pv : Wd → PV
  | .num i => .int i
  | .pl s => .str s
  | .call h n => .tup [.str h, .str n]
abbrev Deed := Str × List Wd
def deedPV (d : Deed) : PV := .tup [.str d.1, .tup (d.2.map Wd.pv)]
structure Prg where
  w : Int
  h : Int
  ds : List Deed
def Prg.pv (P : Prg) : PV := .tup [.int P.w, .int P.h, .tup (P.ds.map deedPV)]
def plains : List Str := ["add", "sub", "mul", "dup", "drop", "swap", "ink", "shift", "turn", "flip", "box", "tri", "clip"]
def hows : List Str := ["do", "times", "if"]
def barred : List Str := (["add", "box", "clip", "drop", "dup", "end", "flip", "if", "ink", "mul"] : List Str) ++ (["page", "shift", "sub", "swap", "times", "to", "tri", "turn"] : List Str)
def lettersS : Str := "abcdefghijklmnopqrstuvwxyz"
def isLetter (c : Nat) : Bool := decide (c ∈ lettersS.cps.toList)
def goodName (s : Str) : Bool := decide (1 ≤ s.length) && decide (s.length ≤ 8) && s.cps.toList.all isLetter && decide (s ∉ barred)
def Wd.ok (names : List Str) : Wd → Prop
  | .num i => -99 ≤ i ∧ i ≤ 99
  | .pl s => s ∈ plains
  | .call h n => h ∈ hows ∧ n ∈ names
def nms (ds : List Deed) : List Str := ds.map (·.1)
structure DeedsOk (ds : List Deed) : Prop where
  len : 1 ≤ ds.length ∧ ds.length ≤ 12
  nd : (nms ds).Nodup
  each : ∀ (i : Nat) (d : Deed), ds[i]? = some d → goodName d.1 = true ∧ (1 ≤ d.2.length ∧ d.2.length ≤ 40) ∧ ∀ x ∈ d.2, x.ok (nms (ds.take i))
structure Prg.ok (P : Prg) : Prop where
  w : 1 ≤ P.w ∧ P.w ≤ 24
  h : 1 ≤ P.h ∧ P.h ≤ 24
  ds : DeedsOk P.ds
abbrev Eff := Option (Int × Int)
def effPV : Eff → PV
  | none => .non
  | some (a, b) => .tup [.int a, .int b]
def plE (s : Str) : Int × Int :=
  if s = "add" ∨ s = "sub" ∨ s = "mul" then (2, 1) else if s = "dup" then (1, 2) else if s = "drop" then (1, 0) else if s = "swap" then (2, 2) else if s = "ink" then (1, 0) else if s = "tri" then (4, 0) else if s = "turn" then (0, 0) else if s = "flip" then (0, 0) else (2, 0)
/-- what is told of the deed that a word calls -/
def calledE (names : List Str) (told : List Eff) (n : Str) : Eff := (told[names.idxOf n]?).join
inductive WE where
  | aside | uneven | eff (t l : Int)
/-- a word's effect -/
def wordE (names : List Str) (told : List Eff) : Wd → WE
  | .num _ => .eff 0 1
  | .pl s => .eff (plE s).1 (plE s).2
  | .call h n => match calledE names told n with
    | none => .aside
    | some (t, l) => if h = "do" then .eff t l else if t = l then .eff (t + 1) l else .uneven
def behindE (w : Int × Int) (t l : Int) : Int × Int := if t > w.2 then (w.1 + t - w.2, l) else (w.1, w.2 - t + l)
/-- word by word: the effect; where it is uneven -/
def scan (names : List Str) (told : List Eff) : List Wd → Nat → Int × Int → Eff × Option Nat
  | [], _, w => (some w, none)
  | x :: xs, k, w => match wordE names told x with
    | .aside => (none, none)
    | .uneven => (none, some k)
    | .eff t l => scan names told xs (k + 1) (behindE w t l)
/-- the words that are short, as the program tells them -/
def shorts (names : List Str) (told : List Eff) : List Wd → Nat → Int × Int → List Nat
  | [], _, _ => []
  | x :: xs, k, w => match wordE names told x with
    | .eff t l => (if w.1 = 0 ∧ t > w.2 then [k] else []) ++ shorts names told xs (k + 1) (behindE w t l)
    | _ => []
abbrev Fault := Nat × Nat × Bool
def faultPV (f : Fault) : PV := .tup [.int f.1, .int f.2.1, .str (if f.2.2 then "uneven" else "short")]
def faultsAt (names : List Str) (told : List Eff) (last : Bool) (i : Nat) (ws : List Wd) : List Fault :=
  (if last then (shorts names told ws 0 (0, 0)).map fun k => (i, k, false) else []) ++ (match (scan names told ws 0 (0, 0)).2 with | some k => [(i, k, true)] | none => [])
/-- all deeds: what is told, the faults -/
def lookGo (names : List Str) (n : Nat) : List Deed → Nat → List Eff → List Fault → List Eff × List Fault
  | [], _, told, fs => (told, fs)
  | d :: ds, i, told, fs => lookGo names n ds (i + 1) (told ++ [(scan names told d.2 0 (0, 0)).1]) (fs ++ faultsAt names told (decide (i + 1 = n)) i d.2)
def lookP (ds : List Deed) : List Eff × List Fault := lookGo (nms ds) ds.length ds 0 [] []
def lookPV (ds : List Deed) : PV := .tup [.lst ((lookP ds).1.map effPV), .lst ((lookP ds).2.map faultPV)]

/-! ### values as data -/
theorem Wd.pv_inj {a b : Wd} (h : a.pv = b.pv) : a = b := by
  cases a <;> cases b <;> simp [Wd.pv] at h <;> simp [h]
theorem map_inj {α β : Type} {f : α → β} (h : ∀ a b, f a = f b → a = b) : ∀ {l m : List α}, l.map f = m.map f → l = m
  | [], [], _ => rfl
  | [], _ :: _, e => by simp at e
  | _ :: _, [], e => by simp at e
  | a :: l, b :: m, e => by
    rw [List.map_cons, List.map_cons, List.cons.injEq] at e
    rw [h _ _ e.1, map_inj h e.2]
theorem wds_inj {a b : List Wd} (h : a.map Wd.pv = b.map Wd.pv) : a = b := map_inj (fun _ _ => Wd.pv_inj) h
theorem deedPV_inj {a b : Deed} (h : deedPV a = deedPV b) : a = b := by
  simp [deedPV] at h
  exact Prod.ext h.1 (wds_inj h.2)
theorem deeds_inj {a b : List Deed} (h : a.map deedPV = b.map deedPV) : a = b := map_inj (fun _ _ => deedPV_inj) h
theorem strs_inj {a b : List Str} (h : a.map PV.str = b.map PV.str) : a = b := map_inj (fun _ _ e => by cases e; rfl) h
theorem effPV_inj {a b : Eff} (h : effPV a = effPV b) : a = b := by
  cases a <;> cases b <;> simp [effPV] at h <;> simp
  exact Prod.ext h.1 h.2
theorem effs_inj {a b : List Eff} (h : a.map effPV = b.map effPV) : a = b := map_inj (fun _ _ => effPV_inj) h
/-- a list of texts -/
def onStrs (xs : List PV) (f : List Str → M PV) : M PV := ⟨fun S Q E => ∃ l : List Str, xs = l.map .str ∧ (∀ y ∈ l, PyData.strOk y = true) ∧ (f l).run S Q E, fun h g ⟨l, a, b, q⟩ => ⟨l, a, b, (f l).mono h g q⟩⟩
def onWds (xs : List PV) (names : List Str) (f : List Wd → M PV) : M PV := ⟨fun S Q E => ∃ l : List Wd, xs = l.map Wd.pv ∧ (∀ y ∈ l, y.ok names) ∧ (f l).run S Q E, fun h g ⟨l, a, b, q⟩ => ⟨l, a, b, (f l).mono h g q⟩⟩
def onDeeds (xs : List PV) (f : List Deed → M PV) : M PV := ⟨fun S Q E => ∃ l : List Deed, xs = l.map deedPV ∧ DeedsOk l ∧ (f l).run S Q E, fun h g ⟨l, a, b, q⟩ => ⟨l, a, b, (f l).mono h g q⟩⟩
/-- an owned list of effects -/
def onEffs (b : Addr) (f : List Eff → M PV) : M PV := ⟨fun S Q E => ∃ l : List Eff, S b = some (.lst (l.map effPV)) ∧ (f l).run S Q E, fun h g ⟨l, a, q⟩ => ⟨l, a, (f l).mono h g q⟩⟩
section
variable {S : Stt} {Q : PV → Stt → Prop} {E : Exc → Stt → Prop}
theorem x_onStrs {l : List Str} {f : List Str → M PV} (h : ∀ y ∈ l, PyData.strOk y = true) : (onStrs (l.map .str) f).run S Q E = (f l).run S Q E :=
  propext ⟨fun ⟨m, e, _, q⟩ => by rw [strs_inj e]; exact q, fun q => ⟨l, rfl, h, q⟩⟩
theorem x_onWds {l : List Wd} {names : List Str} {f : List Wd → M PV} (h : ∀ y ∈ l, y.ok names) : (onWds (l.map Wd.pv) names f).run S Q E = (f l).run S Q E :=
  propext ⟨fun ⟨m, e, _, q⟩ => by rw [wds_inj e]; exact q, fun q => ⟨l, rfl, h, q⟩⟩
theorem x_onDeeds {l : List Deed} {f : List Deed → M PV} (h : DeedsOk l) : (onDeeds (l.map deedPV) f).run S Q E = (f l).run S Q E :=
  propext ⟨fun ⟨m, e, _, q⟩ => by rw [deeds_inj e]; exact q, fun q => ⟨l, rfl, h, q⟩⟩
theorem x_onEffs {b : Addr} {l : List Eff} {f : List Eff → M PV} (h : S b = some (.lst (l.map effPV))) : (onEffs b f).run S Q E = (f l).run S Q E :=
  propext ⟨fun ⟨m, e, q⟩ => by
    rw [h] at e
    have : m = l := (effs_inj (by injection e with e; injection e)).symm
    rw [← this]; exact q, fun q => ⟨l, h, q⟩⟩
end

/-! ### contracts -/
def C_is_whole : List PV → M PV
  | [.int _] => ret (.bl true)
  | [.str _] => ret (.bl false)
  | [.tup _] => ret (.bl false)
  | _ => stuck
def C_is_between : List PV → M PV
  | [.int i, .int a, .int b] => ret (.bl (decide (a ≤ i) && decide (i ≤ b)))
  | [.str _, .int _, .int _] => ret (.bl false)
  | [.tup _, .int _, .int _] => ret (.bl false)
  | _ => stuck
def C_is_number : List PV → M PV
  | [.int i] => ret (.bl (decide (-99 ≤ i) && decide (i ≤ 99)))
  | [.str _] => ret (.bl false)
  | [.tup _] => ret (.bl false)
  | _ => stuck
def C_is_one_of : List PV → M PV
  | [.str s, .lst ys] => onStrs ys fun l => bnd (guard (PyData.strOk s = true)) fun _ => ret (.bl (decide (s ∈ l)))
  | [.tup _, .lst _] => ret (.bl false)
  | _ => stuck
def C_is_tuple_of : List PV → M PV
  | [.tup xs, .int n] => ret (.bl (decide ((xs.length : Int) = n)))
  | _ => stuck
def C_is_pair : List PV → M PV
  | [.tup xs] => ret (.bl (decide ((xs.length : Int) = 2)))
  | _ => stuck
def C_is_call : List PV → M PV
  | [.lst ns, .tup [.str h, .str n]] => onStrs ns fun l => bnd (guard (h ∈ hows ∧ n ∈ l)) fun _ => ret (.bl true)
  | _ => stuck
def C_is_word_by : List PV → M PV
  | [.lst ns, .int i] => bnd (guard (-99 ≤ i ∧ i ≤ 99)) fun _ => ret (.bl true)
  | [.lst ns, .str s] => bnd (guard (s ∈ plains)) fun _ => ret (.bl true)
  | [.lst ns, .tup [.str h, .str n]] => onStrs ns fun l => bnd (guard (h ∈ hows ∧ n ∈ l)) fun _ => ret (.bl true)
  | _ => stuck
def C_is_word : List PV → M PV
  | [.str s] => bnd (guard (goodName s = true)) fun _ => ret (.bl true)
  | _ => stuck
def C_is_name : List PV → M PV
  | [.str s] => bnd (guard (goodName s = true)) fun _ => ret (.bl true)
  | _ => stuck
/-- all are right -/
def C_wrong_in (v : PV) (φ : List PV → M PV) : List PV → M PV
  | [.tup xs, .int l, .int m, u] => ⟨fun S Q _ => (u = v ∧ l ≤ (xs.length : Int) ∧ (xs.length : Int) ≤ m ∧ xs.length ≤ 1000) ∧ (∀ i x, xs[i]? = some x → ∀ R : PV → Stt → Prop, R (.bl true) S → (φ [.tup (xs.take i), x]).run S R (fun _ _ => False)) ∧ Q (.lst []) S, fun h _ q => ⟨q.1, q.2.1, h _ _ q.2.2⟩⟩
  | _ => stuck
def C_is_deed : List PV → M PV
  | [.lst ns, .tup [.str n, .tup ws]] => onStrs ns fun l => onWds ws l fun wl => bnd (guard (goodName n = true ∧ n ∉ l ∧ 1 ≤ wl.length ∧ wl.length ≤ 40)) fun _ => ret (.bl true)
  | _ => stuck
def C_wrong_in_deeds : List PV → M PV
  | [.tup ds] => onDeeds ds fun _ => ret (.lst [])
  | _ => stuck
def C_check_number : List PV → M PV
  | [.int n, .int a, .int b] => bnd (guard (a ≤ n ∧ n ≤ b)) fun _ => ret .non
  | _ => stuck
/-- a program's fields -/
def fsP (P : Prg) (a b c : PV) : List (Str × PV) := [("all_told", P.pv), ("seen", a), ("ran", b), ("painted", c)]
def C_Program____init__ : List PV → M PV
  | [.ref p, .int w, .int h, .tup ds] => ⟨fun S Q E => S p = some (.ins "Program" []) ∧ (onDeeds ds fun l => bnd (guard ((1 ≤ w ∧ w ≤ 24) ∧ 1 ≤ h ∧ h ≤ 24)) fun _ => ⟨fun S Q _ => Q .non (put S p (.ins "Program" (fsP ⟨w, h, l⟩ (.tup []) (.tup []) (.tup [])))), fun h _ q => h _ _ q⟩).run S Q E, fun h g q => ⟨q.1, (onDeeds ds _).mono h g q.2⟩⟩
  | _ => stuck
/-- at a program -/
def onPrg (p : Addr) (f : Prg → PV → PV → PV → M PV) : M PV := ⟨fun S Q E => ∃ (P : Prg) (a b c : PV), P.ok ∧ S p = some (.ins "Program" (fsP P a b c)) ∧ (f P a b c).run S Q E, fun h g ⟨P, a, b, c, o, e, q⟩ => ⟨P, a, b, c, o, e, (f P a b c).mono h g q⟩⟩
def C_check_program : List PV → M PV
  | [.ref p] => onPrg p fun _ _ _ _ => ret .non
  | _ => stuck
def C_Program__deeds : List PV → M PV
  | [.ref p] => onPrg p fun P _ _ _ => ret (.tup (P.ds.map deedPV))
  | _ => stuck
def C_index_of : List PV → M PV
  | [.tup ds, .str n] => onDeeds ds fun l => bnd (guard (n ∈ nms l)) fun _ => ret (.int ((nms l).idxOf n))
  | _ => stuck
def C_called : List PV → M PV
  | [.tup ds, .ref b, .tup [.str h, .str n]] => onDeeds ds fun l => onEffs b fun told => bnd (guard (n ∈ nms l ∧ (nms l).idxOf n < told.length)) fun _ => ret (effPV (calledE (nms l) told n))
  | _ => stuck
/-- a word, of these names, those told -/
def onWord (ds : List PV) (b : Addr) (x : PV) (f : List Str → List Eff → Wd → M PV) : M PV := onDeeds ds fun l => onEffs b fun told => ⟨fun S Q E => ∃ w : Wd, w.pv = x ∧ w.ok ((nms l).take told.length) ∧ (f (nms l) told w).run S Q E, fun h g ⟨w, a, o, q⟩ => ⟨w, a, o, (f _ _ w).mono h g q⟩⟩
def C_is_aside : List PV → M PV
  | [.tup ds, .ref b, x] => onWord ds b x fun names told w => ret (.bl (match wordE names told w with | .aside => true | _ => false))
  | _ => stuck
def C_is_uneven : List PV → M PV
  | [.tup ds, .ref b, x] => onWord ds b x fun names told w => match wordE names told w with | .aside => stuck | .uneven => ret (.bl true) | .eff _ _ => ret (.bl false)
  | _ => stuck
def C_effect_of : List PV → M PV
  | [.tup ds, .ref b, x] => onWord ds b x fun names told w => match wordE names told w with | .eff t l => ret (.tup [.int t, .int l]) | _ => stuck
  | _ => stuck
def C_behind : List PV → M PV
  | [.tup [.int a, .int b], .tup [.int t, .int l]] => ret (.tup [.int (behindE (a, b) t l).1, .int (behindE (a, b) t l).2])
  | _ => stuck
def C_looked_at : List PV → M PV
  | [.tup ds, .ref b, .int i] => onDeeds ds fun l => onEffs b fun told => bnd (guard ((told.length : Int) = i)) fun _ => match l[told.length]? with
    | some d => ret (.tup [effPV (scan (nms l) told d.2 0 (0, 0)).1, .lst ((faultsAt (nms l) told (decide (told.length + 1 = l.length)) told.length d.2).map faultPV)])
    | none => stuck
  | _ => stuck
def C_looked : List PV → M PV
  | [.ref p] => onPrg p fun P _ _ _ => ret (lookPV P.ds)
  | _ => stuck
def C_Program__look_told : List PV → M PV
  | [.ref p] => onPrg p fun P a b c => bnd (guard (a = .tup [] ∨ a = lookPV P.ds)) fun _ => ⟨fun S Q _ => Q (lookPV P.ds) (put S p (.ins "Program" (fsP P (lookPV P.ds) b c))), fun h _ q => h _ _ q⟩
  | _ => stuck
def C_effects : List PV → M PV
  | [.ref p] => onPrg p fun P a b c => bnd (guard (a = .tup [] ∨ a = lookPV P.ds)) fun _ => ⟨fun S Q _ => Q (.tup ((lookP P.ds).1.map effPV)) (put S p (.ins "Program" (fsP P (lookPV P.ds) b c))), fun h _ q => h _ _ q⟩
  | _ => stuck
/-! the law's own -/
def isPool (xs : List PV) : Prop := ∃ a b c : Int, xs = [.int a, .int b, .int c]
/-- a draw: the pool at a is another one -/
def draw (a : Addr) : M Unit := bnd (getc a) fun xs => bnd (guard (isPool xs)) fun _ => bnd (any isPool) fun ys => putc a ys
abbrev plst (S : Stt) (a : Addr) (p q z : Int) : Stt := put S a (.lst [.int p, .int q, .int z])
def C__law_bowl : List PV → M PV
  | [.loc xs, .int lap] => bnd (guard ((∃ ns : List Int, xs = ns.map .int) ∧ 0 ≤ lap ∧ lap ≤ 10)) fun _ => bnd (any isPool) fun ys => ownL ys
  | _ => stuck
def C__law_draw : List PV → M PV
  | [.ref a, .int many] => bnd (guard (0 < many ∧ many < 1000000)) fun _ => bnd (draw a) fun _ => bnd (any fun v : Int => 0 ≤ v ∧ v < many) fun v => ret (.int v)
  | _ => stuck
def C__law_of : List PV → M PV
  | [.ref a, .tup xs] => bnd (guard (0 < xs.length ∧ xs.length < 100000)) fun _ => bnd (draw a) fun _ => any fun v => v ∈ xs
  | [.ref a, .lst xs] => bnd (guard (0 < xs.length ∧ xs.length < 100000)) fun _ => bnd (draw a) fun _ => any fun v => v ∈ xs
  | [.ref a, .ref b] => bnd (getc b) fun xs => bnd (guard (a ≠ b ∧ 0 < xs.length ∧ xs.length < 100000)) fun _ => bnd (draw a) fun _ => any fun v => v ∈ xs
  | _ => stuck
def ownNames : List Str := (["add", "box", "clip", "do", "drop", "dup", "flip", "if", "ink", "mul"] : List Str) ++ (["shift", "short", "sub", "swap", "times", "tri", "turn", "uneven"] : List Str)
def C__law_own : List PV → M PV
  | [] => ret (.lst (ownNames.map .str))
  | _ => stuck
def C__law_names : List PV → M PV
  | [.ref a, .int many] => bnd (guard (0 ≤ many ∧ many ≤ 8)) fun _ => bnd (draw a) fun _ => bnd (any fun l : List Str => (l.length : Int) = many ∧ l.Nodup ∧ ∀ y ∈ l, goodName y = true) fun l => ret (.tup (l.map .str))
  | _ => stuck
def C__law_plain_effect : List PV → M PV
  | [.int _] => ret (.tup [.int 0, .int 1])
  | [.str s] => bnd (guard (s ∈ plains)) fun _ => ret (.tup [.int (plE s).1, .int (plE s).2])
  | _ => stuck
def C__law_number : List PV → M PV
  | [.ref a] => bnd (draw a) fun _ => bnd (any fun v : Int => -99 ≤ v ∧ v ≤ 99) fun v => ret (.int v)
  | _ => stuck
/-- a word that the deed's words so far let -/
def Wd.fit (names : List Str) (known : List Eff) (w : Wd) : Prop := w.ok names ∧ ∃ t l, wordE names known w = .eff t l
def C__law_words : List PV → M PV
  | [.ref a, .tup ns, .ref k, .int height, .int many] => onStrs ns fun names => onEffs k fun known => bnd (guard (a ≠ k ∧ names.Nodup ∧ known.length = names.length ∧ (∀ e ∈ known, e ≠ none) ∧ 1 ≤ many ∧ many ≤ 30 ∧ names.length ≤ 20)) fun _ => bnd (draw a) fun _ =>
      bnd (any fun ws : List Wd => 1 ≤ ws.length ∧ ws.length ≤ 60 ∧ (ws.length : Int) ≤ many + 1 ∧ ∀ w ∈ ws, w.fit names known) fun ws => ret (.tup (ws.map Wd.pv))
  | _ => stuck
def atPV : Option Nat → PV
  | none => .non
  | some k => .int k
def lawEff (ws ns : List PV) (k : Addr) : M PV := onStrs ns fun names => onEffs k fun known => onWds ws names fun wl => bnd (guard (names.length ≤ known.length ∧ ws.length ≤ 1000 ∧ names.Nodup)) fun _ =>
  ret (.tup [effPV (scan names known wl 0 (0, 0)).1, atPV (scan names known wl 0 (0, 0)).2])
def C__law_effect : List PV → M PV
  | [.tup ws, .tup ns, .ref k] => lawEff ws ns k
  | _ => stuck
def C__law_effect_l : List PV → M PV
  | [.tup ws, .lst ns, .ref k] => lawEff ws ns k
  | _ => stuck
def isShort : Eff → Bool
  | some (t, _) => decide (0 < t)
  | none => false
def C__law_is_short : List PV → M PV
  | [.tup ws, .lst ns, .ref k] => onStrs ns fun names => onEffs k fun known => onWds ws names fun wl => bnd (guard (names.length ≤ known.length ∧ ws.length ≤ 1000 ∧ names.Nodup)) fun _ => ret (.bl (isShort (scan names known wl 0 (0, 0)).1))
  | _ => stuck
/-- a drawn program -/
def aPrg (a : Addr) : M PV := bnd (draw a) fun _ => bnd (any Prg.ok) fun P => ret P.pv
def C__law_program_0 : List PV → M PV
  | [.ref a, .int 1, .int 3] => aPrg a
  | _ => stuck
def C__law_program : List PV → M PV
  | [.ref a, .int d, .int m] => bnd (guard (1 ≤ d ∧ d ≤ 6 ∧ 1 ≤ m ∧ m ≤ 20)) fun _ => aPrg a
  | _ => stuck
def C__law_any_words : List PV → M PV
  | [.ref a, .tup ns, .int many] => onStrs ns fun names => bnd (guard (1 ≤ many ∧ many ≤ 30 ∧ names.length ≤ 20)) fun _ => bnd (draw a) fun _ => bnd (any fun ws : List Wd => (ws.length : Int) = many ∧ ∀ w ∈ ws, w.ok names) fun ws => ret (.tup (ws.map Wd.pv))
  | _ => stuck
def C__law_any_program : List PV → M PV
  | [.ref a, .int d, .int m] => bnd (guard (1 ≤ d ∧ d ≤ 6 ∧ 1 ≤ m ∧ m ≤ 20)) fun _ => aPrg a
  | _ => stuck
def C__law_made : List PV → M PV
  | [.tup [.int w, .int h, .tup ds]] => onDeeds ds fun l => bnd (guard ((1 ≤ w ∧ w ≤ 24) ∧ 1 ≤ h ∧ h ≤ 24)) fun _ => ⟨fun S Q _ => ∀ p, S p = none → Q (.ref p) (put S p (.ins "Program" (fsP ⟨w, h, l⟩ (.tup []) (.tup []) (.tup [])))), fun h _ q p e => h _ _ (q p e)⟩
  | _ => stuck
/-- the law's looking: the first fault -/
def firstFault (ds : List Deed) : Option Fault := (lookP ds).2.head?
def ffPV : Option Fault → PV
  | none => .non
  | some f => faultPV f
def C__law_looked : List PV → M PV
  | [.tup [.int w, .int h, .tup ds]] => onDeeds ds fun l => ret (.tup [.tup ((lookP l).1.map effPV), ffPV (firstFault l)])
  | _ => stuck
/-- plain data of nesting below n -/
def flat : Nat → PV → Bool
  | _, .non => true
  | _, .bl _ => true
  | _, .int _ => true
  | _, .str x => PyData.strOk x
  | n + 1, .tup xs => decide (xs.length ≤ 1000) && xs.all (flat n)
  | _, _ => false
def sameC (n : Nat) : List PV → M PV
  | [x, y] => bnd (guard (x = y ∧ flat n x = true)) fun _ => ret (.bl true)
  | _ => stuck
def C__law_same_0 : List PV → M PV := sameC 0
def C__law_same_1 : List PV → M PV := sameC 1
def C__law_same_2 : List PV → M PV := sameC 2
def C__law_same : List PV → M PV := sameC 3
/-- the end of a case: whatever is left -/
def C__law_right : List PV → M PV
  | [.ref a] => ⟨fun S Q _ => (∃ xs, S a = some (.lst xs) ∧ isPool xs) ∧ ∀ S', Q (.bl true) S', fun h _ q => ⟨q.1, fun S' => h _ _ (q.2 S')⟩⟩
  | _ => stuck
def C_law : List PV → M PV
  | [.loc xs] => ⟨fun _ Q _ => (∃ ns : List Int, xs = ns.map .int) ∧ ∀ S', Q (.bl true) S', fun h _ q => ⟨q.1, fun S' => h _ _ (q.2 S')⟩⟩
  | _ => stuck
end Dp.L

namespace Dp.L
open PySem PySem.Spec L2 Dp
open PyProof.Rows hiding St
def C_fault_by : List PV → M PV
  | [.ref p] => onPrg p fun P a b c => bnd (guard (a = .tup [] ∨ a = lookPV P.ds)) fun _ => ⟨fun S Q _ => Q (.lst (((lookP P.ds).2.take 1).map faultPV)) (put S p (.ins "Program" (fsP P (lookPV P.ds) b c))), fun h _ q => h _ _ q⟩
  | _ => stuck
def C_first_fault : List PV → M PV
  | [.ref p] => onPrg p fun P a b c => bnd (guard (a = .tup [] ∨ a = lookPV P.ds)) fun _ => ⟨fun S Q _ => Q (ffPV (firstFault P.ds)) (put S p (.ins "Program" (fsP P (lookPV P.ds) b c))), fun h _ q => h _ _ q⟩
  | _ => stuck
def C_is_let_by : List PV → M PV
  | [.ref p] => onPrg p fun P a b c => bnd (guard (a = .tup [] ∨ a = lookPV P.ds)) fun _ => ⟨fun S Q _ => Q (.bl (firstFault P.ds).isNone) (put S p (.ins "Program" (fsP P (lookPV P.ds) b c))), fun h _ q => h _ _ q⟩
  | _ => stuck
/-! what no fault means -/
theorem scan_some {names : List Str} {told : List Eff} (hn : ∀ e ∈ told, e ≠ none) : ∀ {ws : List Wd} {k : Nat} {w : Int × Int}, (∀ x ∈ ws, ∀ h n, x = .call h n → names.idxOf n < told.length) → (scan names told ws k w).2 = none → (scan names told ws k w).1 ≠ none
  | [], k, w, _, _ => by simp [scan]
  | x :: ws, k, w, h, hs => by
    cases e : wordE names told x with
    | aside =>
      exfalso
      cases x with
      | num i => cases e
      | pl s => cases e
      | call hh n =>
        have hi := h _ (by simp) hh n rfl
        have : calledE names told n ≠ none := by
          unfold calledE
          rw [List.getElem?_eq_getElem hi]
          exact hn _ (List.getElem_mem hi)
        cases ec : calledE names told n with
        | none => exact this ec
        | some p =>
          obtain ⟨t, l⟩ := p
          unfold wordE at e
          simp only [ec] at e
          split at e
          · cases e
          · split at e <;> cases e
    | uneven =>
      have e1 : scan names told (x :: ws) k w = (none, some k) := by unfold scan; rw [e]
      rw [e1] at hs; cases hs
    | eff t l =>
      have e1 : scan names told (x :: ws) k w = scan names told ws (k + 1) (behindE w t l) := by
        conv => lhs; unfold scan
        rw [e]
      rw [e1] at hs ⊢
      exact scan_some hn (fun y hy => h y (by simp [hy])) hs
theorem shorts_zero {names : List Str} {told : List Eff} : ∀ {ws : List Wd} {k : Nat} {w w' : Int × Int}, shorts names told ws k w = [] → w.1 = 0 → (scan names told ws k w).1 = some w' → w'.1 = 0
  | [], k, w, w', _, h0, hs => by
    have : w = w' := by simpa [scan] using hs
    rw [← this]; exact h0
  | x :: ws, k, w, w', hsh, h0, hs => by
    cases e : wordE names told x with
    | aside =>
      have e1 : scan names told (x :: ws) k w = (none, none) := by unfold scan; rw [e]
      rw [e1] at hs; cases hs
    | uneven =>
      have e1 : scan names told (x :: ws) k w = (none, some k) := by unfold scan; rw [e]
      rw [e1] at hs; cases hs
    | eff t l =>
      have e1 : scan names told (x :: ws) k w = scan names told ws (k + 1) (behindE w t l) := by
        conv => lhs; unfold scan
        rw [e]
      have e2 : shorts names told (x :: ws) k w = (if w.1 = 0 ∧ t > w.2 then [k] else []) ++ shorts names told ws (k + 1) (behindE w t l) := by
        conv => lhs; unfold shorts
        rw [e]
      rw [e1] at hs
      rw [e2, List.append_eq_nil_iff] at hsh
      have ht : ¬ t > w.2 := fun ht => by rw [if_pos ⟨h0, ht⟩] at hsh; cases hsh.1
      exact shorts_zero hsh.2 (by unfold behindE; rw [if_neg ht]; exact h0) hs
theorem lookGo_fs {names : List Str} {n : Nat} : ∀ {ds : List Deed} {i : Nat} {told : List Eff} {fs : List Fault}, (lookGo names n ds i told fs).2 = [] → fs = []
  | [], i, told, fs, h => h
  | d :: ds, i, told, fs, h => by
    unfold lookGo at h
    exact (List.append_eq_nil_iff.mp (lookGo_fs h)).1
/-- no fault: all effects are told, the last one needs nothing -/
theorem look_clean {l : List Deed} (hd : DeedsOk l) : ∀ {ds : List Deed} {i : Nat} {told : List Eff} {fs : List Fault}, l.drop i = ds → told.length = i → (∀ e ∈ told, e ≠ none) → (lookGo (nms l) l.length ds i told fs).2 = [] →
    (∀ e ∈ (lookGo (nms l) l.length ds i told fs).1, e ≠ none) ∧ (ds ≠ [] → ∃ w, (lookGo (nms l) l.length ds i told fs).1.getLast? = some (some (0, w)))
  | [], i, told, fs, _, _, hn, _ => ⟨hn, fun h => absurd rfl h⟩
  | d :: ds, i, told, fs, hr, hl, hn, h => by
    have ed : l[i]? = some d := by
      have := congrArg List.head? hr
      rw [List.head?_drop] at this
      exact this
    obtain ⟨k1, k2, k3⟩ := hd.each i d ed
    unfold lookGo at h ⊢
    have hf := (List.append_eq_nil_iff.mp (lookGo_fs h)).2
    unfold faultsAt at hf
    rw [List.append_eq_nil_iff] at hf
    have hs2 : (scan (nms l) told d.2 0 (0, 0)).2 = none := by
      cases e : (scan (nms l) told d.2 0 (0, 0)).2 with
      | none => rfl
      | some k => rw [e] at hf; cases hf.2
    have hidx : ∀ x ∈ d.2, ∀ hh n, x = .call hh n → (nms l).idxOf n < told.length := fun x hx hh n e => by
      have hm := (k3 x hx)
      subst e
      have hm : n ∈ nms (l.take i) := hm.2
      have e2 : nms (l.take i) = (nms l).take i := by unfold nms; rw [List.map_take]
      rw [e2] at hm
      have e3 : (nms l).idxOf n = ((nms l).take i).idxOf n := by
        conv => lhs; rw [← List.take_append_drop i (nms l)]
        rw [List.idxOf_append, if_pos hm]
      rw [e3]
      have := List.idxOf_lt_length_of_mem hm
      rw [List.length_take] at this
      omega
    have hs1 := scan_some hn hidx hs2
    have hn' : ∀ e ∈ told ++ [(scan (nms l) told d.2 0 (0, 0)).1], e ≠ none := fun e he => by
      rcases List.mem_append.mp he with he | he
      · exact hn e he
      · rw [List.mem_singleton] at he; subst he; exact hs1
    have hdn : l.drop (i + 1) = ds := by rw [← List.drop_drop, hr]; rfl
    obtain ⟨r1, r2⟩ := look_clean hd hdn (by simp [hl]) hn' h
    refine ⟨r1, fun _ => ?_⟩
    cases ds with
    | cons y ys => exact r2 (by simp)
    | nil =>
      have hi : i + 1 = l.length := by
        have := congrArg List.length hdn
        rw [List.length_drop] at this
        have h3 : i < l.length := by rw [List.getElem?_eq_some_iff] at ed; exact ed.1
        simp at this; omega
      rw [if_pos (decide_eq_true hi)] at hf
      have hsh : shorts (nms l) told d.2 0 (0, 0) = [] := by simpa using hf.1
      cases es : (scan (nms l) told d.2 0 (0, 0)).1 with
      | none => exact absurd es hs1
      | some w' =>
        have h0 := shorts_zero hsh rfl es
        refine ⟨w'.2, ?_⟩
        unfold lookGo
        rw [List.getLast?_append]
        simp
        exact Prod.ext h0 rfl
end Dp.L

namespace Dp.L
open PySem PySem.Spec L2 Dp
open PyProof.Rows hiding St
def topS (i : Nat) : Stmt := PySem.Challenge.pw_inkbands_k06_whole_first_faults.main.body.getD i (.Pass ⟨0, 0, 0, 0⟩)
def topM (i j : Nat) : Stmt := match topS i with
  | .ClassDef _ _ _ body _ _ _ _ _ _ _ => body.getD j (.Pass ⟨0, 0, 0, 0⟩)
  | s => s
abbrev i__law_right : Nat := 0
abbrev i_is_let_by : Nat := 1
abbrev i_fault_by : Nat := 2
abbrev i_looked : Nat := 3
abbrev i_looked_at : Nat := 4
abbrev i_is_uneven : Nat := 5
abbrev i_called : Nat := 6
abbrev i_index_of : Nat := 7
abbrev i_is_aside : Nat := 8
abbrev i_effect_of : Nat := 9
abbrev i_is_whole : Nat := 10
abbrev i_behind : Nat := 11
abbrev i_check_program : Nat := 12
abbrev i_first_fault : Nat := 13
abbrev i_effects : Nat := 14
abbrev i__law_same_b : Nat := 15
abbrev i__law_same_0 : Nat := 16
abbrev i__law_same_1 : Nat := 17
abbrev i__law_same_2 : Nat := 18
abbrev i__law_same : Nat := 19
abbrev i__law_program_b : Nat := 20
abbrev i__law_program_0 : Nat := 21
abbrev i__law_program : Nat := 22
abbrev i__law_words : Nat := 23
abbrev i__law_plain_effect : Nat := 24
abbrev i__law_of : Nat := 25
abbrev i__law_draw : Nat := 26
abbrev i__law_number : Nat := 27
abbrev i__law_names : Nat := 28
abbrev i__law_own : Nat := 29
abbrev i__law_effect : Nat := 30
abbrev i__law_effect_l : Nat := 31
abbrev i__law_made : Nat := 32
abbrev i_wrong_in_deeds : Nat := 33
abbrev i_is_deed : Nat := 34
abbrev i_is_word_by : Nat := 35
abbrev i_is_one_of : Nat := 36
abbrev i_is_number : Nat := 37
abbrev i_is_between : Nat := 38
abbrev i_is_call : Nat := 39
abbrev i_is_pair : Nat := 40
abbrev i_is_tuple_of : Nat := 41
abbrev i_is_name : Nat := 42
abbrev i_is_word : Nat := 43
abbrev i_check_number : Nat := 44
abbrev i__law_looked : Nat := 45
abbrev i__law_is_short : Nat := 46
abbrev i__law_any_program : Nat := 47
abbrev i__law_any_words : Nat := 48
abbrev i__law_bowl : Nat := 49
abbrev i_Program__look_told : Nat := 0
abbrev i_Program__deeds : Nat := 1
abbrev i_Program____init__ : Nat := 2
abbrev i_wrong_in_6 : Nat := 0
abbrev i_wrong_in_9 : Nat := 1
abbrev k_Program : Nat := 0
abbrev g_NOTHING : Nat := 0
abbrev g_UNEVEN : Nat := 1
abbrev g_SHORT : Nat := 2
abbrev g_DO : Nat := 3
abbrev g_NUMBER : Nat := 4
abbrev g_EFFECTS : Nat := 5
abbrev g_MOST_SIDE : Nat := 6
abbrev g_MOST_DEEDS : Nat := 7
abbrev g_MOST_WORDS : Nat := 8
abbrev g_PLAIN : Nat := 9
abbrev g_MOST_NUMBER : Nat := 10
abbrev g_HOWS : Nat := 11
abbrev g_MOST_LETTERS : Nat := 12
abbrev g_WORDS : Nat := 13
abbrev g_LETTERS : Nat := 14
def c_law : CB :=
  (.cons (.ret (.callB .all (.cons (.comp false [("lap", 1)] (.call i__law_right ⟨1, [], [0]⟩ (.cons (.call i__law_bowl ⟨2, [], [0, 1]⟩ (.cons (.var 0) (.cons (.var 1) .nil)) .nil) .nil) .nil) (.name 1) (.rng (.cons (.callB .max (.cons (.int 1) (.cons (.callB .min (.cons (.callB .len (.cons (.var 0) .nil)) (.cons (.int 3) .nil))) .nil))) .nil)) .none) .nil))) .nil)
def d_law : Df := ⟨topS 87, ["script", "lap"], 1, c_law, false, false⟩
def c__law_right : CB :=
  (.cons (.loop (.name 1) (.rng (.cons (.int 8) .nil)) (.cons (.asg (.name 2) (.ife (.cmp .lt (.var 1) (.int 2)) (.call i__law_program ⟨3, [], [0, 1, 2]⟩ (.cons (.var 0) (.cons (.int 4) (.cons (.int 12) .nil))) .nil) (.call i__law_any_program ⟨3, [], [0, 1, 2]⟩ (.cons (.var 0) (.cons (.int 4) (.cons (.int 6) .nil))) .nil))) (.cons (.asg (.name 3) (.ix (.ix (.ix (.var 2) (.int 2)) (.neg (.int 1))) (.int 1))) (.cons (.ifs (.and (.cmp .eq (.var 1) (.int 1)) (.b1 (.cmp .gt (.callB .len (.cons (.var 3) .nil)) (.int 1)))) (.cons (.asg (.name 4) (.call i__law_draw ⟨2, [], [0, 1]⟩ (.cons (.var 0) (.cons (.callB .len (.cons (.var 3) .nil)) .nil)) .nil)) (.cons (.asg (.name 2) (.bin .add (.sl (.var 2) .none (.some (.int 2))) (.tup (.cons (.bin .add (.sl (.ix (.var 2) (.int 2)) .none (.some (.neg (.int 1)))) (.tup (.cons (.tup (.cons (.ix (.ix (.ix (.var 2) (.int 2)) (.neg (.int 1))) (.int 0)) (.cons (.bin .add (.sl (.var 3) .none (.some (.var 4))) (.sl (.var 3) (.some (.bin .add (.var 4) (.int 1))) .none)) .nil))) .nil))) .nil)))) .nil)) .nil) (.cons (.par2 5 6 (.cons (.call i__law_made ⟨1, [], [0]⟩ (.cons (.var 2) .nil) .nil) (.cons (.ix (.call i__law_looked ⟨1, [], [0]⟩ (.cons (.var 2) .nil) .nil) (.int 1)) .nil))) (.cons (.ifs (.nt (.tv (.call i__law_same ⟨2, [], [0, 1]⟩ (.cons (.tup (.cons (.call i_first_fault ⟨1, [], [0]⟩ (.cons (.var 5) .nil) .nil) (.cons (.call i_first_fault ⟨0, ["program"], [0]⟩ .nil (.cons (.var 5) .nil)) (.cons (.call i_is_let_by ⟨1, [], [0]⟩ (.cons (.var 5) .nil) .nil) (.cons (.call i_is_let_by ⟨0, ["program"], [0]⟩ .nil (.cons (.var 5) .nil)) .nil))))) (.cons (.tup (.cons (.var 6) (.cons (.var 6) (.cons (.cmp .isN (.var 6) .non) (.cons (.cmp .isN (.var 6) .non) .nil))))) .nil)) .nil))) (.cons (.ret (.bl false)) .nil) .nil) (.cons (.ifs (.or (.and (.cmp .isN (.var 6) .non) (.b1 (.cmp .isin .non (.call i_effects ⟨1, [], [0]⟩ (.cons (.var 5) .nil) .nil)))) (.b1 (.and (.cmp .isN (.var 6) .non) (.b1 (.cmp .ne (.ix (.ix (.call i_effects ⟨1, [], [0]⟩ (.cons (.var 5) .nil) .nil) (.neg (.int 1))) (.int 0)) (.int 0)))))) (.cons (.ret (.bl false)) .nil) .nil) .nil))))))) (.cons (.ret (.bl true)) .nil))
def d__law_right : Df := ⟨topS 86, ["bowl", "lap", "program", "words", "at", "made", "due"], 1, c__law_right, false, false⟩
def c_is_let_by : CB :=
  (.cons (.expr (.call i_check_program ⟨1, [], [0]⟩ (.cons (.var 0) .nil) .nil)) (.cons (.ret (.cmp .eq (.call i_fault_by ⟨1, [], [0]⟩ (.cons (.var 0) .nil) .nil) (.lst false .nil))) .nil))
def d_is_let_by : Df := ⟨topS 68, ["program"], 1, c_is_let_by, false, false⟩
def c_fault_by : CB :=
  (.cons (.ret (.sl (.ix (.mcall i_Program__look_told (.var 0) .nil) (.int 1)) .none (.some (.int 1)))) .nil)
def d_fault_by : Df := ⟨topS 55, ["program"], 1, c_fault_by, false, false⟩
def c_Program__look_told : CB :=
  (.cons (.ifs (.cmp .eq (.fld k_Program (.var 0) "seen") (.tup .nil)) (.cons (.asg (.fld k_Program (.var 0) "seen") (.call i_looked ⟨1, [], [0]⟩ (.cons (.var 0) .nil) .nil)) .nil) .nil) (.cons (.ret (.fld k_Program (.var 0) "seen")) .nil))
def d_Program__look_told : Df := ⟨topM 62 6, ["self"], 1, c_Program__look_told, false, false⟩
def c_looked : CB :=
  (.cons (.par2 1 2 (.cons (.lst true .nil) (.cons (.lst true .nil) .nil))) (.cons (.loop (.name 3) (.rng (.cons (.callB .len (.cons (.prop i_Program__deeds (.var 0)) .nil)) .nil)) (.cons (.asg (.tup (.cons (.name 4) (.cons (.name 5) .nil))) (.call i_looked_at ⟨3, [], [0, 1, 2]⟩ (.cons (.prop i_Program__deeds (.var 0)) (.cons (.var 1) (.cons (.var 3) .nil))) .nil)) (.cons (.expr (.meth .append (.var 1) (.cons (.var 4) .nil))) (.cons (.expr (.meth .extend (.var 2) (.cons (.var 5) .nil))) .nil)))) (.frz 1 (.frz 2 (.cons (.ret (.tup (.cons (.var 1) (.cons (.var 2) .nil)))) .nil)))))
def d_looked : Df := ⟨topS 54, ["program", "told", "faults", "index", "effect", "found"], 1, c_looked, false, false⟩
def c_Program__deeds : CB :=
  (.cons (.ret (.ix (.fld k_Program (.var 0) "all_told") (.int 2))) .nil)
def d_Program__deeds : Df := ⟨topM 62 3, ["self"], 1, c_Program__deeds, false, false⟩
def c_looked_at : CB :=
  (.cons (.par2 3 4 (.cons (.glob g_NOTHING) (.cons (.lst true .nil) .nil))) (.cons (.loop (.tup (.cons (.name 5) (.cons (.name 6) .nil))) (.enum (.cons (.ix (.ix (.var 0) (.var 2)) (.int 1)) .nil)) (.cons (.ifs (.tv (.call i_is_aside ⟨3, [], [0, 1, 2]⟩ (.cons (.var 0) (.cons (.var 1) (.cons (.var 6) .nil))) .nil)) (.frz 4 (.cons (.ret (.tup (.cons .non (.cons (.var 4) .nil)))) .nil)) .nil) (.cons (.ifs (.tv (.call i_is_uneven ⟨3, [], [0, 1, 2]⟩ (.cons (.var 0) (.cons (.var 1) (.cons (.var 6) .nil))) .nil)) (.frz 4 (.cons (.ret (.tup (.cons .non (.cons (.lst false (.star (.var 4) (.cons (.tup (.cons (.var 2) (.cons (.var 5) (.cons (.glob g_UNEVEN) .nil)))) .nil))) .nil)))) .nil)) .nil) (.cons (.asg (.name 7) (.call i_effect_of ⟨3, [], [0, 1, 2]⟩ (.cons (.var 0) (.cons (.var 1) (.cons (.var 6) .nil))) .nil)) (.cons (.ifs (.and (.cmp .eq (.var 2) (.bin .sub (.callB .len (.cons (.var 0) .nil)) (.int 1))) (.and (.cmp .eq (.ix (.var 3) (.int 0)) (.int 0)) (.b1 (.cmp .gt (.ix (.var 7) (.int 0)) (.ix (.var 3) (.int 1)))))) (.cons (.expr (.meth .append (.var 4) (.cons (.tup (.cons (.var 2) (.cons (.var 5) (.cons (.glob g_SHORT) .nil)))) .nil))) .nil) .nil) (.cons (.asg (.name 3) (.call i_behind ⟨2, [], [0, 1]⟩ (.cons (.var 3) (.cons (.var 7) .nil)) .nil)) .nil)))))) (.frz 4 (.cons (.ret (.tup (.cons (.var 3) (.cons (.var 4) .nil)))) .nil))))
def d_looked_at : Df := ⟨topS 53, ["deeds", "told", "index", "whole", "faults", "at", "word", "own"], 3, c_looked_at, false, false⟩
def c_is_uneven : CB :=
  (.cons (.ifs (.or (.nt (.tv (.callB .isi (.cons (.var 2) (.cons (.bty "tuple" "tuple") .nil))))) (.b1 (.cmp .eq (.ix (.var 2) (.int 0)) (.glob g_DO)))) (.cons (.ret (.bl false)) .nil) .nil) (.cons (.asg (.tup (.cons (.name 3) (.cons (.name 4) .nil))) (.call i_called ⟨3, [], [0, 1, 2]⟩ (.cons (.var 0) (.cons (.var 1) (.cons (.var 2) .nil))) .nil)) (.cons (.ret (.cmp .ne (.var 3) (.var 4))) .nil)))
def d_is_uneven : Df := ⟨topS 51, ["deeds", "told", "word", "takes", "leaves"], 3, c_is_uneven, false, false⟩
def c_called : CB :=
  (.cons (.ret (.ix (.var 1) (.call i_index_of ⟨2, [], [0, 1]⟩ (.cons (.var 0) (.cons (.ix (.var 2) (.int 1)) .nil)) .nil))) .nil)
def d_called : Df := ⟨topS 49, ["deeds", "told", "word"], 3, c_called, false, false⟩
def c_index_of : CB :=
  (.cons (.ret (.meth .index (.comp false [("deed", 2)] (.ix (.var 2) (.int 0)) (.name 2) (.val (.var 0)) .none) (.cons (.var 1) .nil))) .nil)
def d_index_of : Df := ⟨topS 41, ["deeds", "name", "deed"], 2, c_index_of, false, false⟩
def c_is_aside : CB :=
  (.cons (.ret (.and (.callB .isi (.cons (.var 2) (.cons (.bty "tuple" "tuple") .nil))) (.b1 (.cmp .isN (.call i_called ⟨3, [], [0, 1, 2]⟩ (.cons (.var 0) (.cons (.var 1) (.cons (.var 2) .nil))) .nil) .non)))) .nil)
def d_is_aside : Df := ⟨topS 50, ["deeds", "told", "word"], 3, c_is_aside, false, false⟩
def c_effect_of : CB :=
  (.cons (.ifs (.tv (.call i_is_whole ⟨1, [], [0]⟩ (.cons (.var 2) .nil) .nil)) (.cons (.ret (.glob g_NUMBER)) .nil) .nil) (.cons (.ifs (.nt (.tv (.callB .isi (.cons (.var 2) (.cons (.bty "tuple" "tuple") .nil))))) (.cons (.ret (.ix (.glob g_EFFECTS) (.var 2))) .nil) .nil) (.cons (.asg (.tup (.cons (.name 3) (.cons (.name 4) .nil))) (.call i_called ⟨3, [], [0, 1, 2]⟩ (.cons (.var 0) (.cons (.var 1) (.cons (.var 2) .nil))) .nil)) (.cons (.ret (.ife (.cmp .eq (.ix (.var 2) (.int 0)) (.glob g_DO)) (.tup (.cons (.var 3) (.cons (.var 4) .nil))) (.tup (.cons (.bin .add (.var 3) (.int 1)) (.cons (.var 4) .nil))))) .nil))))
def d_effect_of : Df := ⟨topS 52, ["deeds", "told", "word", "takes", "leaves"], 3, c_effect_of, false, false⟩
def c_is_whole : CB :=
  (.cons (.ret (.and (.callB .isi (.cons (.var 0) (.cons (.bty "int" "int") .nil))) (.b1 (.nt (.callB .isi (.cons (.var 0) (.cons (.bty "bool" "bool") .nil))))))) .nil)
def d_is_whole : Df := ⟨topS 5, ["value"], 1, c_is_whole, false, false⟩
def c_behind : CB :=
  (.cons (.asg (.tup (.cons (.name 2) (.cons (.name 3) .nil))) (.var 0)) (.cons (.asg (.tup (.cons (.name 4) (.cons (.name 5) .nil))) (.var 1)) (.cons (.ret (.ife (.cmp .gt (.var 4) (.var 3)) (.tup (.cons (.bin .sub (.bin .add (.var 2) (.var 4)) (.var 3)) (.cons (.var 5) .nil))) (.tup (.cons (.var 2) (.cons (.bin .add (.bin .sub (.var 3) (.var 4)) (.var 5)) .nil))))) .nil)))
def d_behind : Df := ⟨topS 48, ["one", "two", "takes", "leaves", "more", "rest"], 2, c_behind, false, false⟩
def c_check_program : CB :=
  (.cons (.ifs (.nt (.tv (.isC k_Program (.var 0)))) (.cons .never .nil) .nil) .nil)
def d_check_program : Df := ⟨topS 64, ["program"], 1, c_check_program, false, false⟩
def c_first_fault : CB :=
  (.cons (.expr (.call i_check_program ⟨1, [], [0]⟩ (.cons (.var 0) .nil) .nil)) (.cons (.asg (.name 1) (.call i_fault_by ⟨1, [], [0]⟩ (.cons (.var 0) .nil) .nil)) (.cons (.ret (.ife (.cmp .ne (.var 1) (.lst false .nil)) (.ix (.var 1) (.int 0)) .non)) .nil)))
def d_first_fault : Df := ⟨topS 67, ["program", "found"], 1, c_first_fault, false, false⟩
def c_effects : CB :=
  (.cons (.expr (.call i_check_program ⟨1, [], [0]⟩ (.cons (.var 0) .nil) .nil)) (.cons (.ret (.callT .tup (.cons (.ix (.mcall i_Program__look_told (.var 0) .nil) (.int 0)) .nil))) .nil))
def d_effects : Df := ⟨topS 66, ["program"], 1, c_effects, false, false⟩
def c__law_same_0 : CB :=
  (.cons (.ifs (.tv (.callB .isi (.cons (.var 1) (.cons (.bty "tuple" "tuple") .nil)))) (.cons (.ifs (.or (.nt (.tv (.callB .isi (.cons (.var 0) (.cons (.bty "tuple" "tuple") .nil))))) (.b1 (.cmp .ne (.callB .len (.cons (.var 0) .nil)) (.callB .len (.cons (.var 1) .nil))))) (.cons (.ret (.bl false)) .nil) .nil) (.cons (.ret (.callB .all (.cons (.comp false [("k", 2)] (.call i__law_same_b ⟨2, [], [0, 1]⟩ (.cons (.ix (.var 0) (.var 2)) (.cons (.ix (.var 1) (.var 2)) .nil)) .nil) (.name 2) (.rng (.cons (.callB .len (.cons (.var 1) .nil)) .nil)) .none) .nil))) .nil)) .nil) (.cons (.ifs (.cmp .isN (.var 1) .non) (.cons (.ret (.cmp .isN (.var 0) .non)) .nil) .nil) (.cons (.ifs (.tv (.callB .isi (.cons (.var 1) (.cons (.bty "bool" "bool") .nil)))) (.cons (.ret (.and (.callB .isi (.cons (.var 0) (.cons (.bty "bool" "bool") .nil))) (.b1 (.cmp .eq (.var 0) (.var 1))))) .nil) .nil) (.cons (.ifs (.tv (.callB .isi (.cons (.var 1) (.cons (.bty "int" "int") .nil)))) (.cons (.ret (.and (.callB .isi (.cons (.var 0) (.cons (.bty "int" "int") .nil))) (.and (.nt (.callB .isi (.cons (.var 0) (.cons (.bty "bool" "bool") .nil)))) (.b1 (.cmp .eq (.var 0) (.var 1)))))) .nil) .nil) (.cons (.ifs (.tv (.callB .isi (.cons (.var 1) (.cons (.bty "str" "str") .nil)))) (.cons (.ret (.and (.callB .isi (.cons (.var 0) (.cons (.bty "str" "str") .nil))) (.b1 (.cmp .eq (.var 0) (.var 1))))) .nil) .nil) (.cons (.ret (.cmp .eq (.var 0) (.var 1))) .nil))))))
def d__law_same_0 : Df := ⟨topS 73, ["told", "due", "k"], 2, c__law_same_0, false, false⟩
def c__law_same_1 : CB :=
  (.cons (.ifs (.tv (.callB .isi (.cons (.var 1) (.cons (.bty "tuple" "tuple") .nil)))) (.cons (.ifs (.or (.nt (.tv (.callB .isi (.cons (.var 0) (.cons (.bty "tuple" "tuple") .nil))))) (.b1 (.cmp .ne (.callB .len (.cons (.var 0) .nil)) (.callB .len (.cons (.var 1) .nil))))) (.cons (.ret (.bl false)) .nil) .nil) (.cons (.ret (.callB .all (.cons (.comp false [("k", 2)] (.call i__law_same_0 ⟨2, [], [0, 1]⟩ (.cons (.ix (.var 0) (.var 2)) (.cons (.ix (.var 1) (.var 2)) .nil)) .nil) (.name 2) (.rng (.cons (.callB .len (.cons (.var 1) .nil)) .nil)) .none) .nil))) .nil)) .nil) (.cons (.ifs (.cmp .isN (.var 1) .non) (.cons (.ret (.cmp .isN (.var 0) .non)) .nil) .nil) (.cons (.ifs (.tv (.callB .isi (.cons (.var 1) (.cons (.bty "bool" "bool") .nil)))) (.cons (.ret (.and (.callB .isi (.cons (.var 0) (.cons (.bty "bool" "bool") .nil))) (.b1 (.cmp .eq (.var 0) (.var 1))))) .nil) .nil) (.cons (.ifs (.tv (.callB .isi (.cons (.var 1) (.cons (.bty "int" "int") .nil)))) (.cons (.ret (.and (.callB .isi (.cons (.var 0) (.cons (.bty "int" "int") .nil))) (.and (.nt (.callB .isi (.cons (.var 0) (.cons (.bty "bool" "bool") .nil)))) (.b1 (.cmp .eq (.var 0) (.var 1)))))) .nil) .nil) (.cons (.ifs (.tv (.callB .isi (.cons (.var 1) (.cons (.bty "str" "str") .nil)))) (.cons (.ret (.and (.callB .isi (.cons (.var 0) (.cons (.bty "str" "str") .nil))) (.b1 (.cmp .eq (.var 0) (.var 1))))) .nil) .nil) (.cons (.ret (.cmp .eq (.var 0) (.var 1))) .nil))))))
def d__law_same_1 : Df := ⟨topS 73, ["told", "due", "k"], 2, c__law_same_1, false, false⟩
def c__law_same_2 : CB :=
  (.cons (.ifs (.tv (.callB .isi (.cons (.var 1) (.cons (.bty "tuple" "tuple") .nil)))) (.cons (.ifs (.or (.nt (.tv (.callB .isi (.cons (.var 0) (.cons (.bty "tuple" "tuple") .nil))))) (.b1 (.cmp .ne (.callB .len (.cons (.var 0) .nil)) (.callB .len (.cons (.var 1) .nil))))) (.cons (.ret (.bl false)) .nil) .nil) (.cons (.ret (.callB .all (.cons (.comp false [("k", 2)] (.call i__law_same_1 ⟨2, [], [0, 1]⟩ (.cons (.ix (.var 0) (.var 2)) (.cons (.ix (.var 1) (.var 2)) .nil)) .nil) (.name 2) (.rng (.cons (.callB .len (.cons (.var 1) .nil)) .nil)) .none) .nil))) .nil)) .nil) (.cons (.ifs (.cmp .isN (.var 1) .non) (.cons (.ret (.cmp .isN (.var 0) .non)) .nil) .nil) (.cons (.ifs (.tv (.callB .isi (.cons (.var 1) (.cons (.bty "bool" "bool") .nil)))) (.cons (.ret (.and (.callB .isi (.cons (.var 0) (.cons (.bty "bool" "bool") .nil))) (.b1 (.cmp .eq (.var 0) (.var 1))))) .nil) .nil) (.cons (.ifs (.tv (.callB .isi (.cons (.var 1) (.cons (.bty "int" "int") .nil)))) (.cons (.ret (.and (.callB .isi (.cons (.var 0) (.cons (.bty "int" "int") .nil))) (.and (.nt (.callB .isi (.cons (.var 0) (.cons (.bty "bool" "bool") .nil)))) (.b1 (.cmp .eq (.var 0) (.var 1)))))) .nil) .nil) (.cons (.ifs (.tv (.callB .isi (.cons (.var 1) (.cons (.bty "str" "str") .nil)))) (.cons (.ret (.and (.callB .isi (.cons (.var 0) (.cons (.bty "str" "str") .nil))) (.b1 (.cmp .eq (.var 0) (.var 1))))) .nil) .nil) (.cons (.ret (.cmp .eq (.var 0) (.var 1))) .nil))))))
def d__law_same_2 : Df := ⟨topS 73, ["told", "due", "k"], 2, c__law_same_2, false, false⟩
def c__law_same : CB :=
  (.cons (.ifs (.tv (.callB .isi (.cons (.var 1) (.cons (.bty "tuple" "tuple") .nil)))) (.cons (.ifs (.or (.nt (.tv (.callB .isi (.cons (.var 0) (.cons (.bty "tuple" "tuple") .nil))))) (.b1 (.cmp .ne (.callB .len (.cons (.var 0) .nil)) (.callB .len (.cons (.var 1) .nil))))) (.cons (.ret (.bl false)) .nil) .nil) (.cons (.ret (.callB .all (.cons (.comp false [("k", 2)] (.call i__law_same_2 ⟨2, [], [0, 1]⟩ (.cons (.ix (.var 0) (.var 2)) (.cons (.ix (.var 1) (.var 2)) .nil)) .nil) (.name 2) (.rng (.cons (.callB .len (.cons (.var 1) .nil)) .nil)) .none) .nil))) .nil)) .nil) (.cons (.ifs (.cmp .isN (.var 1) .non) (.cons (.ret (.cmp .isN (.var 0) .non)) .nil) .nil) (.cons (.ifs (.tv (.callB .isi (.cons (.var 1) (.cons (.bty "bool" "bool") .nil)))) (.cons (.ret (.and (.callB .isi (.cons (.var 0) (.cons (.bty "bool" "bool") .nil))) (.b1 (.cmp .eq (.var 0) (.var 1))))) .nil) .nil) (.cons (.ifs (.tv (.callB .isi (.cons (.var 1) (.cons (.bty "int" "int") .nil)))) (.cons (.ret (.and (.callB .isi (.cons (.var 0) (.cons (.bty "int" "int") .nil))) (.and (.nt (.callB .isi (.cons (.var 0) (.cons (.bty "bool" "bool") .nil)))) (.b1 (.cmp .eq (.var 0) (.var 1)))))) .nil) .nil) (.cons (.ifs (.tv (.callB .isi (.cons (.var 1) (.cons (.bty "str" "str") .nil)))) (.cons (.ret (.and (.callB .isi (.cons (.var 0) (.cons (.bty "str" "str") .nil))) (.b1 (.cmp .eq (.var 0) (.var 1))))) .nil) .nil) (.cons (.ret (.cmp .eq (.var 0) (.var 1))) .nil))))))
def d__law_same : Df := ⟨topS 73, ["told", "due", "k"], 2, c__law_same, false, false⟩
def c__law_program_0 : CB :=
  (.cons (.par3 3 4 5 (.cons (.call i__law_names ⟨2, [], [0, 1]⟩ (.cons (.var 0) (.cons (.bin .add (.int 1) (.call i__law_draw ⟨2, [], [0, 1]⟩ (.cons (.var 0) (.cons (.var 1) .nil)) .nil)) .nil)) .nil) (.cons (.lst true .nil) (.cons (.lst true .nil) .nil)))) (.cons (.loop (.name 6) (.rng (.cons (.callB .len (.cons (.var 3) .nil)) .nil)) (.cons (.asg (.name 7) (.ife (.cmp .eq (.bin .add (.var 6) (.int 1)) (.callB .len (.cons (.var 3) .nil))) (.int 0) (.call i__law_of ⟨2, [], [0, 1]⟩ (.cons (.var 0) (.cons (.tup (.cons (.int 0) (.cons (.int 0) (.cons (.int 1) (.cons (.int 2) .nil))))) .nil)) .nil))) (.cons (.asg (.name 8) (.call i__law_words ⟨5, [], [0, 1, 2, 3, 4]⟩ (.cons (.var 0) (.cons (.sl (.var 3) .none (.some (.var 6))) (.cons (.var 4) (.cons (.var 7) (.cons (.bin .add (.int 1) (.call i__law_draw ⟨2, [], [0, 1]⟩ (.cons (.var 0) (.cons (.var 2) .nil)) .nil)) .nil))))) .nil)) (.cons (.expr (.meth .append (.var 4) (.cons (.ix (.call i__law_effect ⟨3, [], [0, 1, 2]⟩ (.cons (.var 8) (.cons (.sl (.var 3) .none (.some (.var 6))) (.cons (.var 4) .nil))) .nil) (.int 0)) .nil))) (.cons (.expr (.meth .append (.var 5) (.cons (.tup (.cons (.ix (.var 3) (.var 6)) (.cons (.sl (.var 8) .none (.some (.int 40))) .nil))) .nil))) .nil))))) (.cons (.ifs (.cmp .ne (.comp false [("name", 9), ("words", 8)] (.int 1) (.tup (.cons (.name 9) (.cons (.name 8) .nil))) (.val (.var 5)) (.some (.cmp .eq (.callB .len (.cons (.var 8) .nil)) (.int 40)))) (.lst false .nil)) (.frz 4 (.frz 5 (.cons (.ret (.call i__law_program_b ⟨3, [], [0, 1, 2]⟩ (.cons (.var 0) (.cons (.int 1) (.cons (.int 3) .nil))) .nil)) .nil))) .nil) (.frz 4 (.frz 5 (.cons (.ret (.tup (.cons (.bin .add (.int 1) (.call i__law_draw ⟨2, [], [0, 1]⟩ (.cons (.var 0) (.cons (.call i__law_of ⟨2, [], [0, 1]⟩ (.cons (.var 0) (.cons (.tup (.cons (.int 4) (.cons (.int 8) (.cons (.int 24) .nil)))) .nil)) .nil) .nil)) .nil)) (.cons (.bin .add (.int 1) (.call i__law_draw ⟨2, [], [0, 1]⟩ (.cons (.var 0) (.cons (.call i__law_of ⟨2, [], [0, 1]⟩ (.cons (.var 0) (.cons (.tup (.cons (.int 4) (.cons (.int 8) (.cons (.int 24) .nil)))) .nil)) .nil) .nil)) .nil)) (.cons (.callT .tup (.cons (.var 5) .nil)) .nil))))) .nil))))))
def d__law_program_0 : Df := ⟨topS 80, ["bowl", "deeds", "most", "names", "known", "found", "k", "height", "words", "name"], 3, c__law_program_0, false, false⟩
def c__law_program : CB :=
  (.cons (.par3 3 4 5 (.cons (.call i__law_names ⟨2, [], [0, 1]⟩ (.cons (.var 0) (.cons (.bin .add (.int 1) (.call i__law_draw ⟨2, [], [0, 1]⟩ (.cons (.var 0) (.cons (.var 1) .nil)) .nil)) .nil)) .nil) (.cons (.lst true .nil) (.cons (.lst true .nil) .nil)))) (.cons (.loop (.name 6) (.rng (.cons (.callB .len (.cons (.var 3) .nil)) .nil)) (.cons (.asg (.name 7) (.ife (.cmp .eq (.bin .add (.var 6) (.int 1)) (.callB .len (.cons (.var 3) .nil))) (.int 0) (.call i__law_of ⟨2, [], [0, 1]⟩ (.cons (.var 0) (.cons (.tup (.cons (.int 0) (.cons (.int 0) (.cons (.int 1) (.cons (.int 2) .nil))))) .nil)) .nil))) (.cons (.asg (.name 8) (.call i__law_words ⟨5, [], [0, 1, 2, 3, 4]⟩ (.cons (.var 0) (.cons (.sl (.var 3) .none (.some (.var 6))) (.cons (.var 4) (.cons (.var 7) (.cons (.bin .add (.int 1) (.call i__law_draw ⟨2, [], [0, 1]⟩ (.cons (.var 0) (.cons (.var 2) .nil)) .nil)) .nil))))) .nil)) (.cons (.expr (.meth .append (.var 4) (.cons (.ix (.call i__law_effect ⟨3, [], [0, 1, 2]⟩ (.cons (.var 8) (.cons (.sl (.var 3) .none (.some (.var 6))) (.cons (.var 4) .nil))) .nil) (.int 0)) .nil))) (.cons (.expr (.meth .append (.var 5) (.cons (.tup (.cons (.ix (.var 3) (.var 6)) (.cons (.sl (.var 8) .none (.some (.int 40))) .nil))) .nil))) .nil))))) (.cons (.ifs (.cmp .ne (.comp false [("name", 9), ("words", 8)] (.int 1) (.tup (.cons (.name 9) (.cons (.name 8) .nil))) (.val (.var 5)) (.some (.cmp .eq (.callB .len (.cons (.var 8) .nil)) (.int 40)))) (.lst false .nil)) (.frz 4 (.frz 5 (.cons (.ret (.call i__law_program_0 ⟨3, [], [0, 1, 2]⟩ (.cons (.var 0) (.cons (.int 1) (.cons (.int 3) .nil))) .nil)) .nil))) .nil) (.frz 4 (.frz 5 (.cons (.ret (.tup (.cons (.bin .add (.int 1) (.call i__law_draw ⟨2, [], [0, 1]⟩ (.cons (.var 0) (.cons (.call i__law_of ⟨2, [], [0, 1]⟩ (.cons (.var 0) (.cons (.tup (.cons (.int 4) (.cons (.int 8) (.cons (.int 24) .nil)))) .nil)) .nil) .nil)) .nil)) (.cons (.bin .add (.int 1) (.call i__law_draw ⟨2, [], [0, 1]⟩ (.cons (.var 0) (.cons (.call i__law_of ⟨2, [], [0, 1]⟩ (.cons (.var 0) (.cons (.tup (.cons (.int 4) (.cons (.int 8) (.cons (.int 24) .nil)))) .nil)) .nil) .nil)) .nil)) (.cons (.callT .tup (.cons (.var 5) .nil)) .nil))))) .nil))))))
def d__law_program : Df := ⟨topS 80, ["bowl", "deeds", "most", "names", "known", "found", "k", "height", "words", "name"], 3, c__law_program, false, false⟩
def c__law_words : CB :=
  (.cons (.asg (.name 5) (.lst false .nil)) (.cons (.whl (.cmp .lt (.callB .len (.cons (.var 5) .nil)) (.var 4)) (.cons (.asg (.name 6) (.lst false (.cons (.call i__law_number ⟨1, [], [0]⟩ (.cons (.var 0) .nil) .nil) (.cons (.call i__law_number ⟨1, [], [0]⟩ (.cons (.var 0) .nil) .nil) (.cons (.call i__law_number ⟨1, [], [0]⟩ (.cons (.var 0) .nil) .nil) (.cons (.str "turn") (.cons (.str "flip") .nil))))))) (.cons (.asg (.name 6) (.bin .add (.bin .add (.var 6) (.ife (.cmp .gt (.var 3) (.int 0)) (.lst false (.cons (.str "dup") (.cons (.str "drop") (.cons (.str "ink") .nil)))) (.lst false .nil))) (.ife (.cmp .gt (.var 3) (.int 3)) (.lst false (.cons (.str "tri") (.cons (.str "tri") (.cons (.str "tri") .nil)))) (.lst false .nil)))) (.cons (.asg (.name 6) (.bin .addO (.var 6) (.ife (.cmp .gt (.var 3) (.int 1)) (.lst false (.cons (.str "add") (.cons (.str "sub") (.cons (.str "mul") (.cons (.str "swap") (.cons (.str "shift") (.cons (.str "shift") (.cons (.str "box") (.cons (.str "box") (.cons (.str "box") (.cons (.str "clip") .nil))))))))))) (.lst false .nil)))) (.cons (.loop (.name 7) (.rng (.cons (.callB .len (.cons (.var 1) .nil)) .nil)) (.cons (.ifs (.cmp .le (.ix (.ix (.var 2) (.var 7)) (.int 0)) (.var 3)) (.cons (.expr (.meth .append (.var 6) (.cons (.tup (.cons (.str "do") (.cons (.ix (.var 1) (.var 7)) .nil))) .nil))) (.frz 6 (.cons (.asg (.name 6) (.bin .addO (.var 6) (.ife (.cmp .eq (.ix (.ix (.var 2) (.var 7)) (.int 0)) (.ix (.ix (.var 2) (.var 7)) (.int 1))) (.lst false (.cons (.tup (.cons (.str "if") (.cons (.ix (.var 1) (.var 7)) .nil))) (.cons (.tup (.cons (.str "times") (.cons (.ix (.var 1) (.var 7)) .nil))) .nil))) (.lst false .nil)))) .nil))) .nil) .nil)) (.cons (.asg (.name 8) (.call i__law_of ⟨2, [], [0, 1]⟩ (.cons (.var 0) (.cons (.var 6) .nil)) .nil)) (.frz 6 (.cons (.ifs (.and (.tv (.callB .isi (.cons (.var 8) (.cons (.bty "tuple" "tuple") .nil)))) (.b1 (.cmp .ne (.ix (.var 8) (.int 0)) (.str "do")))) (.cons (.asg (.name 5) (.bin .add (.var 5) (.lst false (.cons (.call i__law_of ⟨2, [], [0, 1]⟩ (.cons (.var 0) (.cons (.tup (.cons (.int 0) (.cons (.int 1) (.cons (.int 1) (.cons (.int 2) (.cons (.int 3) .nil)))))) .nil)) .nil) (.cons (.var 8) .nil))))) .nil) (.cons (.asg (.tup (.cons (.name 9) (.cons (.name 10) .nil))) (.ife (.nt (.tv (.callB .isi (.cons (.var 8) (.cons (.bty "tuple" "tuple") .nil))))) (.call i__law_plain_effect ⟨1, [], [0]⟩ (.cons (.var 8) .nil) .nil) (.ix (.var 2) (.meth .tindex (.var 1) (.cons (.ix (.var 8) (.int 1)) .nil))))) (.cons (.par2 5 3 (.cons (.bin .add (.var 5) (.lst false (.cons (.var 8) .nil))) (.cons (.bin .add (.bin .sub (.var 3) (.var 9)) (.var 10)) .nil))) .nil))) .nil)))))))) (.cons (.ret (.callT .tup (.cons (.var 5) .nil))) .nil)))
def d__law_words : Df := ⟨topS 78, ["bowl", "names", "known", "height", "many", "found", "some", "k", "word", "takes", "leaves"], 5, c__law_words, false, false⟩
def c__law_plain_effect : CB :=
  (.cons (.ifs (.nt (.tv (.callB .isi (.cons (.var 0) (.cons (.bty "str" "str") .nil))))) (.cons (.ret (.tup (.cons (.int 0) (.cons (.int 1) .nil)))) .nil) .nil) (.cons (.ret (.meth .get (.dct (.cons (.str "add") (.tup (.cons (.int 2) (.cons (.int 1) .nil))) (.cons (.str "sub") (.tup (.cons (.int 2) (.cons (.int 1) .nil))) (.cons (.str "mul") (.tup (.cons (.int 2) (.cons (.int 1) .nil))) (.cons (.str "dup") (.tup (.cons (.int 1) (.cons (.int 2) .nil))) (.cons (.str "drop") (.tup (.cons (.int 1) (.cons (.int 0) .nil))) (.cons (.str "swap") (.tup (.cons (.int 2) (.cons (.int 2) .nil))) (.cons (.str "ink") (.tup (.cons (.int 1) (.cons (.int 0) .nil))) (.cons (.str "tri") (.tup (.cons (.int 4) (.cons (.int 0) .nil))) (.cons (.str "turn") (.tup (.cons (.int 0) (.cons (.int 0) .nil))) (.cons (.str "flip") (.tup (.cons (.int 0) (.cons (.int 0) .nil))) .nil))))))))))) (.cons (.var 0) (.cons (.tup (.cons (.int 2) (.cons (.int 0) .nil))) .nil)))) .nil))
def d__law_plain_effect : Df := ⟨topS 76, ["word"], 1, c__law_plain_effect, false, false⟩
def c__law_of : CB :=
  (.cons (.ret (.ix (.var 1) (.call i__law_draw ⟨2, [], [0, 1]⟩ (.cons (.var 0) (.cons (.callB .len (.cons (.var 1) .nil)) .nil)) .nil))) .nil)
def d__law_of : Df := ⟨topS 72, ["bowl", "some"], 2, c__law_of, false, false⟩
def c__law_draw : CB :=
  (.cons (.ifs (.cmp .gt (.ix (.var 0) (.int 0)) (.int 0)) (.cons (.asg (.tup (.cons (.sub (.var 0) (.int 0)) (.cons (.name 2) .nil))) (.callB .divmod (.cons (.ix (.var 0) (.int 0)) (.cons (.var 1) .nil)))) (.cons (.ret (.var 2)) .nil)) .nil) (.cons (.asg (.sub (.var 0) (.int 2)) (.bin .add (.ix (.var 0) (.int 2)) (.int 1))) (.cons (.asg (.name 3) (.bin .mod (.callT .int (.cons (.bin .add (.bin .mul (.ix (.var 0) (.int 1)) (.int 39373)) (.bin .mul (.int 17011) (.ix (.var 0) (.int 2)))) .nil)) (.int 2147483563))) (.cons (.asg (.sub (.var 0) (.int 1)) (.bin .mod (.callT .int (.cons (.bin .add (.bin .mul (.var 3) (.bin .add (.bin .mod (.callT .int (.cons (.var 3) .nil)) (.int 4093)) (.int 30011))) (.bin .mul (.int 7) (.ix (.var 0) (.int 2)))) .nil)) (.int 2147483563))) (.cons (.ret (.bin .mod (.callT .int (.cons (.bin .fdiv (.ix (.var 0) (.int 1)) (.int 733)) .nil)) (.var 1))) .nil)))))
def d__law_draw : Df := ⟨topS 71, ["bowl", "many", "figure", "turn"], 2, c__law_draw, false, false⟩
def c__law_number : CB :=
  (.cons (.ret (.call i__law_of ⟨2, [], [0, 1]⟩ (.cons (.var 0) (.cons (.tup (.cons (.int 0) (.cons (.int 1) (.cons (.int 2) (.cons (.int 3) (.cons (.int 5) (.cons (.bin .sub (.int 0) (.int 1)) (.cons (.bin .sub (.int 0) (.int 2)) (.cons (.bin .sub (.call i__law_draw ⟨2, [], [0, 1]⟩ (.cons (.var 0) (.cons (.int 199) .nil)) .nil) (.int 99)) .nil))))))))) .nil)) .nil)) .nil)
def d__law_number : Df := ⟨topS 77, ["bowl"], 1, c__law_number, false, false⟩
def c__law_names : CB :=
  (.cons (.asg (.name 2) (.meth .split (.str "add box clip drop dup end flip if ink mul page shift sub swap times to tri turn") (.cons (.str " ") .nil))) (.cons (.asg (.name 3) (.lst true .nil)) (.cons (.loop (.name 4) (.rng (.cons (.var 1) .nil)) (.cons (.asg (.name 5) (.str "")) (.cons (.loop (.name 6) (.rng (.cons (.call i__law_of ⟨2, [], [0, 1]⟩ (.cons (.var 0) (.cons (.tup (.cons (.int 1) (.cons (.int 1) (.cons (.int 2) (.cons (.int 3) (.cons (.int 5) (.cons (.int 8) .nil))))))) .nil)) .nil) .nil)) (.cons (.asg (.name 5) (.bin .add (.var 5) (.ix (.str "abcdefghijklmnopqrstuvwxyz") (.call i__law_draw ⟨2, [], [0, 1]⟩ (.cons (.var 0) (.cons (.int 26) .nil)) .nil)))) .nil)) (.cons (.setc 7 (.comp false [("each", 8)] (.var 8) (.name 8) (.val (.bin .add (.lst false (.cons (.var 5) .nil)) (.comp false [("last", 9)] (.bin .add (.sl (.var 5) .none (.some (.int 7))) (.var 9)) (.name 9) (.val (.str "abcdefghijklmnopqrstuvwxyz")) .none))) (.some (.cmp .notin (.var 8) (.bin .add (.bin .add (.var 2) (.var 3)) (.call i__law_own ⟨0, [], []⟩ .nil .nil)))))) (.cons (.expr (.meth .append (.var 3) (.cons (.ix (.var 7) (.int 0)) .nil))) .nil))))) (.frz 3 (.cons (.ret (.callT .tup (.cons (.var 3) .nil))) .nil)))))
def d__law_names : Df := ⟨topS 75, ["bowl", "many", "barred", "found", "turn", "name", "k", "some", "each", "last"], 2, c__law_names, false, false⟩
def c__law_own : CB :=
  (.cons (.ret (.meth .split (.str "add box clip do drop dup flip if ink mul shift short sub swap times tri turn uneven") (.cons (.str " ") .nil))) .nil)
def d__law_own : Df := ⟨topS 74, [], 0, c__law_own, false, false⟩
def c__law_effect : CB :=
  (.cons (.asg (.tup (.cons (.name 3) (.cons (.name 4) .nil))) (.tup (.cons (.int 0) (.cons (.int 0) .nil)))) (.cons (.loop (.name 5) (.rng (.cons (.callB .len (.cons (.var 0) .nil)) .nil)) (.cons (.asg (.name 6) (.ix (.var 0) (.var 5))) (.cons (.ifs (.tv (.callB .isi (.cons (.var 6) (.cons (.bty "tuple" "tuple") .nil)))) (.cons (.asg (.name 7) (.ix (.var 2) (.meth .tindex (.var 1) (.cons (.ix (.var 6) (.int 1)) .nil)))) (.cons (.ifs (.or (.cmp .isN (.var 7) .non) (.b1 (.and (.cmp .ne (.ix (.var 6) (.int 0)) (.str "do")) (.b1 (.cmp .ne (.ix (.var 7) (.int 0)) (.ix (.var 7) (.int 1))))))) (.cons (.ret (.tup (.cons .non (.cons (.ife (.cmp .notN (.var 7) .non) (.var 5) .non) .nil)))) .nil) .nil) (.cons (.asg (.name 7) (.ife (.cmp .eq (.ix (.var 6) (.int 0)) (.str "do")) (.var 7) (.tup (.cons (.bin .add (.ix (.var 7) (.int 0)) (.int 1)) (.cons (.ix (.var 7) (.int 0)) .nil))))) .nil))) (.cons (.asg (.name 7) (.call i__law_plain_effect ⟨1, [], [0]⟩ (.cons (.var 6) .nil) .nil)) .nil)) (.cons (.asg (.tup (.cons (.name 3) (.cons (.name 4) .nil))) (.ife (.cmp .gt (.ix (.var 7) (.int 0)) (.var 4)) (.tup (.cons (.bin .sub (.bin .add (.var 3) (.ix (.var 7) (.int 0))) (.var 4)) (.cons (.ix (.var 7) (.int 1)) .nil))) (.tup (.cons (.var 3) (.cons (.bin .add (.bin .sub (.var 4) (.ix (.var 7) (.int 0))) (.ix (.var 7) (.int 1))) .nil))))) .nil)))) (.cons (.ret (.tup (.cons (.tup (.cons (.var 3) (.cons (.var 4) .nil))) (.cons .non .nil)))) .nil)))
def d__law_effect : Df := ⟨topS 79, ["words", "names", "known", "takes", "leaves", "k", "word", "own"], 3, c__law_effect, false, false⟩
def c__law_effect_l : CB :=
  (.cons (.asg (.tup (.cons (.name 3) (.cons (.name 4) .nil))) (.tup (.cons (.int 0) (.cons (.int 0) .nil)))) (.cons (.loop (.name 5) (.rng (.cons (.callB .len (.cons (.var 0) .nil)) .nil)) (.cons (.asg (.name 6) (.ix (.var 0) (.var 5))) (.cons (.ifs (.tv (.callB .isi (.cons (.var 6) (.cons (.bty "tuple" "tuple") .nil)))) (.cons (.asg (.name 7) (.ix (.var 2) (.meth .index (.var 1) (.cons (.ix (.var 6) (.int 1)) .nil)))) (.cons (.ifs (.or (.cmp .isN (.var 7) .non) (.b1 (.and (.cmp .ne (.ix (.var 6) (.int 0)) (.str "do")) (.b1 (.cmp .ne (.ix (.var 7) (.int 0)) (.ix (.var 7) (.int 1))))))) (.cons (.ret (.tup (.cons .non (.cons (.ife (.cmp .notN (.var 7) .non) (.var 5) .non) .nil)))) .nil) .nil) (.cons (.asg (.name 7) (.ife (.cmp .eq (.ix (.var 6) (.int 0)) (.str "do")) (.var 7) (.tup (.cons (.bin .add (.ix (.var 7) (.int 0)) (.int 1)) (.cons (.ix (.var 7) (.int 0)) .nil))))) .nil))) (.cons (.asg (.name 7) (.call i__law_plain_effect ⟨1, [], [0]⟩ (.cons (.var 6) .nil) .nil)) .nil)) (.cons (.asg (.tup (.cons (.name 3) (.cons (.name 4) .nil))) (.ife (.cmp .gt (.ix (.var 7) (.int 0)) (.var 4)) (.tup (.cons (.bin .sub (.bin .add (.var 3) (.ix (.var 7) (.int 0))) (.var 4)) (.cons (.ix (.var 7) (.int 1)) .nil))) (.tup (.cons (.var 3) (.cons (.bin .add (.bin .sub (.var 4) (.ix (.var 7) (.int 0))) (.ix (.var 7) (.int 1))) .nil))))) .nil)))) (.cons (.ret (.tup (.cons (.tup (.cons (.var 3) (.cons (.var 4) .nil))) (.cons .non .nil)))) .nil)))
def d__law_effect_l : Df := ⟨topS 79, ["words", "names", "known", "takes", "leaves", "k", "word", "own"], 3, c__law_effect_l, false, false⟩
def c__law_made : CB :=
  (.cons (.ret (.make i_Program____init__ ⟨3, [], [0, 1, 2, 3]⟩ (.cons (.ix (.var 0) (.int 0)) (.cons (.ix (.var 0) (.int 1)) (.cons (.ix (.var 0) (.int 2)) .nil))) .nil)) .nil)
def d__law_made : Df := ⟨topS 81, ["program"], 1, c__law_made, false, false⟩
def c_Program____init__ : CB :=
  (.cons (.expr (.call i_check_number ⟨3, [], [0, 1, 2]⟩ (.cons (.var 1) (.cons (.int 1) (.cons (.glob g_MOST_SIDE) .nil))) .nil)) (.cons (.expr (.call i_check_number ⟨3, [], [0, 1, 2]⟩ (.cons (.var 2) (.cons (.int 1) (.cons (.glob g_MOST_SIDE) .nil))) .nil)) (.cons (.loop (.name 4) (.val (.call i_wrong_in_deeds ⟨1, [], [0]⟩ (.cons (.var 3) .nil) .nil)) (.cons .never .nil)) (.cons (.asg (.fld k_Program (.var 0) "all_told") (.tup (.cons (.var 1) (.cons (.var 2) (.cons (.var 3) .nil))))) (.cons (.asg (.tup (.cons (.fld k_Program (.var 0) "seen") (.cons (.fld k_Program (.var 0) "ran") (.cons (.fld k_Program (.var 0) "painted") .nil)))) (.tup (.cons (.tup .nil) (.cons (.tup .nil) (.cons (.tup .nil) .nil))))) .nil)))))
def d_Program____init__ : Df := ⟨topM 62 0, ["self", "width", "height", "deeds", "index"], 4, c_Program____init__, false, false⟩
def c_wrong_in_deeds : CB :=
  (.cons (.ret (.callLam i_wrong_in_9 7 (.var 0) (.int 1) (.glob g_MOST_DEEDS) ["ahead", "each"] [] ["deed"] [] (.call i_is_deed ⟨2, [], [0, 1]⟩ (.cons (.comp false [("deed", 2)] (.ix (.var 2) (.int 0)) (.name 2) (.val (.var 0)) .none) (.cons (.var 1) .nil)) .nil))) .nil)
def d_wrong_in_deeds : Df := ⟨topS 40, ["value", "deed"], 1, c_wrong_in_deeds, false, true⟩
def c_is_deed : CB :=
  (.cons (.ifs (.or (.nt (.tv (.call i_is_pair ⟨1, [], [0]⟩ (.cons (.var 1) .nil) .nil))) (.or (.nt (.tv (.call i_is_name ⟨1, [], [0]⟩ (.cons (.ix (.var 1) (.int 0)) .nil) .nil))) (.b1 (.cmp .isin (.ix (.var 1) (.int 0)) (.var 0))))) (.cons (.ret (.bl false)) .nil) .nil) (.cons (.ret (.cmp .eq (.callLam i_wrong_in_6 4 (.ix (.var 1) (.int 1)) (.int 1) (.glob g_MOST_WORDS) ["ahead", "each"] ["names"] [] [0] (.call i_is_word_by ⟨2, [], [0, 1]⟩ (.cons (.var 2) (.cons (.var 1) .nil)) .nil)) (.lst false .nil))) .nil))
def d_is_deed : Df := ⟨topS 39, ["names", "value"], 2, c_is_deed, false, true⟩
def c_is_word_by : CB :=
  (.cons (.ret (.or (.call i_is_number ⟨1, [], [0]⟩ (.cons (.var 1) .nil) .nil) (.or (.call i_is_one_of ⟨2, [], [0, 1]⟩ (.cons (.var 1) (.cons (.callT .lst (.cons (.glob g_PLAIN) .nil)) .nil)) .nil) (.b1 (.call i_is_call ⟨2, [], [0, 1]⟩ (.cons (.var 0) (.cons (.var 1) .nil)) .nil))))) .nil)
def d_is_word_by : Df := ⟨topS 38, ["names", "value"], 2, c_is_word_by, false, false⟩
def c_is_one_of : CB :=
  (.cons (.ret (.and (.callB .isi (.cons (.var 0) (.cons (.bty "str" "str") .nil))) (.b1 (.cmp .isin (.var 0) (.var 1))))) .nil)
def d_is_one_of : Df := ⟨topS 7, ["value", "words"], 2, c_is_one_of, false, false⟩
def c_is_number : CB :=
  (.cons (.ret (.call i_is_between ⟨3, [], [0, 1, 2]⟩ (.cons (.var 0) (.cons (.neg (.glob g_MOST_NUMBER)) (.cons (.glob g_MOST_NUMBER) .nil))) .nil)) .nil)
def d_is_number : Df := ⟨topS 36, ["value"], 1, c_is_number, false, false⟩
def c_is_between : CB :=
  (.cons (.ret (.and (.call i_is_whole ⟨1, [], [0]⟩ (.cons (.var 0) .nil) .nil) (.b1 (.chn .le .le (.var 1) (.var 0) (.var 2))))) .nil)
def d_is_between : Df := ⟨topS 6, ["value", "least", "most"], 3, c_is_between, false, false⟩
def c_is_call : CB :=
  (.cons (.ret (.and (.call i_is_pair ⟨1, [], [0]⟩ (.cons (.var 1) .nil) .nil) (.and (.call i_is_one_of ⟨2, [], [0, 1]⟩ (.cons (.ix (.var 1) (.int 0)) (.cons (.callT .lst (.cons (.glob g_HOWS) .nil)) .nil)) .nil) (.b1 (.call i_is_one_of ⟨2, [], [0, 1]⟩ (.cons (.ix (.var 1) (.int 1)) (.cons (.var 0) .nil)) .nil))))) .nil)
def d_is_call : Df := ⟨topS 37, ["names", "value"], 2, c_is_call, false, false⟩
def c_is_pair : CB :=
  (.cons (.ret (.call i_is_tuple_of ⟨2, [], [0, 1]⟩ (.cons (.var 0) (.cons (.int 2) .nil)) .nil)) .nil)
def d_is_pair : Df := ⟨topS 11, ["value"], 1, c_is_pair, false, false⟩
def c_is_tuple_of : CB :=
  (.cons (.ret (.and (.callB .isi (.cons (.var 0) (.cons (.bty "tuple" "tuple") .nil))) (.b1 (.cmp .eq (.callB .len (.cons (.var 0) .nil)) (.var 1))))) .nil)
def d_is_tuple_of : Df := ⟨topS 10, ["value", "many"], 2, c_is_tuple_of, false, false⟩
def c_is_name : CB :=
  (.cons (.ret (.and (.call i_is_word ⟨1, [], [0]⟩ (.cons (.var 0) .nil) .nil) (.and (.cmp .le (.callB .len (.cons (.var 0) .nil)) (.glob g_MOST_LETTERS)) (.b1 (.cmp .notin (.var 0) (.glob g_WORDS)))))) .nil)
def d_is_name : Df := ⟨topS 9, ["value"], 1, c_is_name, false, false⟩
def c_is_word : CB :=
  (.cons (.ret (.and (.callB .isi (.cons (.var 0) (.cons (.bty "str" "str") .nil))) (.and (.cmp .ne (.var 0) (.str "")) (.b1 (.callB .all (.cons (.comp false [("sign", 1)] (.cmp .isin (.var 1) (.glob g_LETTERS)) (.name 1) (.val (.var 0)) .none) .nil)))))) .nil)
def d_is_word : Df := ⟨topS 8, ["value", "sign"], 1, c_is_word, false, false⟩
def c_check_number : CB :=
  (.cons (.ifs (.nt (.tv (.call i_is_between ⟨3, [], [0, 1, 2]⟩ (.cons (.var 0) (.cons (.var 1) (.cons (.var 2) .nil))) .nil))) (.cons .never .nil) .nil) .nil)
def d_check_number : Df := ⟨topS 63, ["number", "least", "most"], 3, c_check_number, false, false⟩
def c__law_looked : CB :=
  (.cons (.asg (.tup (.cons (.name 1) (.cons (.name 2) (.cons (.name 3) .nil)))) (.tup (.cons (.lst true .nil) (.cons (.comp false [("name", 10), ("words", 5)] (.var 10) (.tup (.cons (.name 10) (.cons (.name 5) .nil))) (.val (.ix (.var 0) (.int 2))) .none) (.cons .non .nil))))) (.cons (.loop (.name 4) (.rng (.cons (.callB .len (.cons (.var 2) .nil)) .nil)) (.cons (.asg (.tup (.cons (.name 5) (.cons (.name 6) .nil))) (.tup (.cons (.ix (.ix (.ix (.var 0) (.int 2)) (.var 4)) (.int 1)) (.cons (.cmp .eq (.bin .add (.var 4) (.int 1)) (.callB .len (.cons (.var 2) .nil))) .nil)))) (.cons (.asg (.tup (.cons (.name 7) (.cons (.name 8) .nil))) (.call i__law_effect_l ⟨3, [], [0, 1, 2]⟩ (.cons (.var 5) (.cons (.sl (.var 2) .none (.some (.var 4))) (.cons (.var 1) .nil))) .nil)) (.cons (.expr (.meth .append (.var 1) (.cons (.var 7) .nil))) (.cons (.ifs (.and (.tv (.var 6)) (.b1 (.cmp .isN (.var 3) .non))) (.cons (.setc 9 (.comp false [("k", 11)] (.var 11) (.name 11) (.rng (.cons (.callB .len (.cons (.var 5) .nil)) .nil)) (.some (.tv (.call i__law_is_short ⟨3, [], [0, 1, 2]⟩ (.cons (.sl (.var 5) .none (.some (.bin .add (.var 11) (.int 1)))) (.cons (.sl (.var 2) .none (.some (.var 4))) (.cons (.var 1) .nil))) .nil))))) (.cons (.asg (.name 3) (.ife (.cmp .ne (.var 9) (.lst false .nil)) (.tup (.cons (.var 4) (.cons (.ix (.var 9) (.int 0)) (.cons (.str "short") .nil)))) (.var 3))) .nil)) .nil) (.cons (.ifs (.and (.cmp .notN (.var 8) .non) (.b1 (.cmp .isN (.var 3) .non))) (.cons (.asg (.name 3) (.tup (.cons (.var 4) (.cons (.var 8) (.cons (.str "uneven") .nil))))) .nil) .nil) .nil)))))) (.frz 1 (.cons (.ret (.tup (.cons (.callT .tup (.cons (.var 1) .nil)) (.cons (.var 3) .nil)))) .nil))))
def d__law_looked : Df := ⟨topS 82, ["program", "known", "names", "fault", "d", "words", "is_main", "own", "at", "whole", "name", "k"], 1, c__law_looked, false, false⟩
def c__law_is_short : CB :=
  (.cons (.asg (.name 3) (.ix (.call i__law_effect_l ⟨3, [], [0, 1, 2]⟩ (.cons (.var 0) (.cons (.var 1) (.cons (.var 2) .nil))) .nil) (.int 0))) (.cons (.ret (.and (.cmp .notN (.var 3) .non) (.b1 (.cmp .gt (.ix (.var 3) (.int 0)) (.int 0))))) .nil))
def d__law_is_short : Df := ⟨topS 83, ["words", "names", "known", "own"], 3, c__law_is_short, false, false⟩
def c__law_any_program : CB :=
  (.cons (.par2 3 4 (.cons (.call i__law_names ⟨2, [], [0, 1]⟩ (.cons (.var 0) (.cons (.bin .add (.int 1) (.call i__law_draw ⟨2, [], [0, 1]⟩ (.cons (.var 0) (.cons (.var 1) .nil)) .nil)) .nil)) .nil) (.cons (.lst true .nil) .nil))) (.cons (.loop (.name 5) (.rng (.cons (.callB .len (.cons (.var 3) .nil)) .nil)) (.cons (.expr (.meth .append (.var 4) (.cons (.tup (.cons (.ix (.var 3) (.var 5)) (.cons (.call i__law_any_words ⟨3, [], [0, 1, 2]⟩ (.cons (.var 0) (.cons (.sl (.var 3) .none (.some (.var 5))) (.cons (.bin .add (.int 1) (.call i__law_draw ⟨2, [], [0, 1]⟩ (.cons (.var 0) (.cons (.var 2) .nil)) .nil)) .nil))) .nil) .nil))) .nil))) .nil)) (.frz 4 (.cons (.ret (.tup (.cons (.bin .add (.int 1) (.call i__law_draw ⟨2, [], [0, 1]⟩ (.cons (.var 0) (.cons (.int 8) .nil)) .nil)) (.cons (.bin .add (.int 1) (.call i__law_draw ⟨2, [], [0, 1]⟩ (.cons (.var 0) (.cons (.int 8) .nil)) .nil)) (.cons (.callT .tup (.cons (.var 4) .nil)) .nil))))) .nil))))
def d__law_any_program : Df := ⟨topS 85, ["bowl", "deeds", "most", "names", "found", "k"], 3, c__law_any_program, false, false⟩
def c__law_any_words : CB :=
  (.cons (.asg (.name 3) (.lst true .nil)) (.cons (.loop (.name 4) (.rng (.cons (.var 2) .nil)) (.cons (.asg (.name 5) (.lst false (.cons (.call i__law_number ⟨1, [], [0]⟩ (.cons (.var 0) .nil) .nil) (.cons (.call i__law_number ⟨1, [], [0]⟩ (.cons (.var 0) .nil) .nil) (.cons (.str "add") (.cons (.str "sub") (.cons (.str "dup") (.cons (.str "drop") (.cons (.str "swap") (.cons (.str "ink") (.cons (.str "shift") (.cons (.str "turn") (.cons (.str "box") (.cons (.str "tri") (.cons (.str "clip") .nil))))))))))))))) (.cons (.loop (.name 6) (.val (.var 1)) (.cons (.asg (.name 5) (.bin .add (.var 5) (.lst false (.cons (.tup (.cons (.str "do") (.cons (.var 6) .nil))) (.cons (.tup (.cons (.str "if") (.cons (.var 6) .nil))) (.cons (.tup (.cons (.str "times") (.cons (.var 6) .nil))) .nil)))))) .nil)) (.cons (.expr (.meth .append (.var 3) (.cons (.call i__law_of ⟨2, [], [0, 1]⟩ (.cons (.var 0) (.cons (.var 5) .nil)) .nil) .nil))) .nil)))) (.frz 3 (.cons (.ret (.callT .tup (.cons (.var 3) .nil))) .nil))))
def d__law_any_words : Df := ⟨topS 84, ["bowl", "names", "many", "found", "k", "some", "name"], 3, c__law_any_words, false, false⟩
def c__law_bowl : CB :=
  (.cons (.asg (.name 2) (.bin .add (.int 771041) (.bin .mul (.int 8819) (.var 1)))) (.cons (.loop (.name 3) (.val (.sl (.var 0) .none (.some (.int 9)))) (.cons (.asg (.name 2) (.bin .mod (.callT .int (.cons (.bin .add (.bin .add (.bin .mul (.var 2) (.int 48611)) (.bin .mul (.bin .mod (.callT .int (.cons (.var 3) .nil)) (.int 2147483053)) (.int 19))) (.int 41)) .nil)) (.int 2147483563))) .nil)) (.cons (.asg (.name 4) (.ife (.cmp .lt (.var 1) (.callB .len (.cons (.var 0) .nil))) (.callT .int (.cons (.ix (.var 0) (.var 1)) .nil)) (.int 0))) (.cons (.asg (.name 2) (.bin .mod (.callT .int (.cons (.bin .add (.bin .add (.bin .mul (.var 2) (.int 53)) (.bin .mul (.bin .mod (.var 4) (.int 2147483053)) (.int 27011))) (.int 11)) .nil)) (.int 2147483563))) (.cons (.ret (.lst true (.cons (.ife (.or (.cmp .lt (.var 4) (.int 0)) (.b1 (.cmp .ge (.var 4) (.bin .pow (.int 10) (.int 16))))) (.callB .abs (.cons (.var 4) .nil)) (.int 0)) (.cons (.var 2) (.cons (.int 0) .nil))))) .nil)))))
def d__law_bowl : Df := ⟨topS 70, ["script", "lap", "stir", "cell", "own"], 2, c__law_bowl, false, false⟩
def c_wrong_in : CB :=
  (.cons (.ifs (.or (.nt (.tv (.callB .isi (.cons (.var 0) (.cons (.bty "tuple" "tuple") .nil))))) (.b1 (.cmp .lt (.callB .len (.cons (.var 0) .nil)) (.var 1)))) (.cons (.ret (.lst false (.cons .non .nil))) .nil) .nil) (.cons (.loop (.tup (.cons (.name 4) (.cons (.name 5) .nil))) (.enum (.cons (.var 0) .nil)) (.cons (.ifs (.or (.cmp .eq (.var 4) (.var 2)) (.b1 (.nt (.tv (.callL 3 (.cons (.sl (.var 0) .none (.some (.var 4))) (.cons (.var 5) .nil))))))) (.cons (.ret (.lst false (.cons (.var 4) .nil))) .nil) .nil) .nil)) (.cons (.ret (.lst false .nil)) .nil)))
def d_wrong_in : Df := ⟨topS 12, ["value", "least", "most", "is_right", "index", "each"], 4, c_wrong_in, true, false⟩
def f__law_right : FnE := ⟨⟨["bowl"], [⟨1, [], [0]⟩], C__law_right⟩, "_law_right"⟩
def f_is_let_by : FnE := ⟨⟨["program"], [⟨0, ["program"], [0]⟩, ⟨1, [], [0]⟩], C_is_let_by⟩, "is_let_by"⟩
def f_fault_by : FnE := ⟨⟨["program"], [⟨1, [], [0]⟩], C_fault_by⟩, "fault_by"⟩
def f_looked : FnE := ⟨⟨["program"], [⟨1, [], [0]⟩], C_looked⟩, "looked"⟩
def f_looked_at : FnE := ⟨⟨["deeds", "told", "index"], [⟨3, [], [0, 1, 2]⟩], C_looked_at⟩, "looked_at"⟩
def f_is_uneven : FnE := ⟨⟨["deeds", "told", "word"], [⟨3, [], [0, 1, 2]⟩], C_is_uneven⟩, "is_uneven"⟩
def f_called : FnE := ⟨⟨["deeds", "told", "word"], [⟨3, [], [0, 1, 2]⟩], C_called⟩, "called"⟩
def f_index_of : FnE := ⟨⟨["deeds", "name"], [⟨2, [], [0, 1]⟩], C_index_of⟩, "index_of"⟩
def f_is_aside : FnE := ⟨⟨["deeds", "told", "word"], [⟨3, [], [0, 1, 2]⟩], C_is_aside⟩, "is_aside"⟩
def f_effect_of : FnE := ⟨⟨["deeds", "told", "word"], [⟨3, [], [0, 1, 2]⟩], C_effect_of⟩, "effect_of"⟩
def f_is_whole : FnE := ⟨⟨["value"], [⟨1, [], [0]⟩], C_is_whole⟩, "is_whole"⟩
def f_behind : FnE := ⟨⟨["one", "two"], [⟨2, [], [0, 1]⟩], C_behind⟩, "behind"⟩
def f_check_program : FnE := ⟨⟨["program"], [⟨1, [], [0]⟩], C_check_program⟩, "check_program"⟩
def f_first_fault : FnE := ⟨⟨["program"], [⟨0, ["program"], [0]⟩, ⟨1, [], [0]⟩], C_first_fault⟩, "first_fault"⟩
def f_effects : FnE := ⟨⟨["program"], [⟨1, [], [0]⟩], C_effects⟩, "effects"⟩
def f__law_same_b : FnE := ⟨⟨["told", "due"], [⟨2, [], [0, 1]⟩], fun _ => stuck⟩, "_law_same"⟩
def f__law_same_0 : FnE := ⟨⟨["told", "due"], [⟨2, [], [0, 1]⟩], C__law_same_0⟩, "_law_same"⟩
def f__law_same_1 : FnE := ⟨⟨["told", "due"], [⟨2, [], [0, 1]⟩], C__law_same_1⟩, "_law_same"⟩
def f__law_same_2 : FnE := ⟨⟨["told", "due"], [⟨2, [], [0, 1]⟩], C__law_same_2⟩, "_law_same"⟩
def f__law_same : FnE := ⟨⟨["told", "due"], [⟨2, [], [0, 1]⟩], C__law_same⟩, "_law_same"⟩
def f__law_program_b : FnE := ⟨⟨["bowl", "deeds", "most"], [⟨3, [], [0, 1, 2]⟩], fun _ => stuck⟩, "_law_program"⟩
def f__law_program_0 : FnE := ⟨⟨["bowl", "deeds", "most"], [⟨3, [], [0, 1, 2]⟩], C__law_program_0⟩, "_law_program"⟩
def f__law_program : FnE := ⟨⟨["bowl", "deeds", "most"], [⟨3, [], [0, 1, 2]⟩], C__law_program⟩, "_law_program"⟩
def f__law_words : FnE := ⟨⟨["bowl", "names", "known", "height", "many"], [⟨5, [], [0, 1, 2, 3, 4]⟩], C__law_words⟩, "_law_words"⟩
def f__law_plain_effect : FnE := ⟨⟨["word"], [⟨1, [], [0]⟩], C__law_plain_effect⟩, "_law_plain_effect"⟩
def f__law_of : FnE := ⟨⟨["bowl", "some"], [⟨2, [], [0, 1]⟩], C__law_of⟩, "_law_of"⟩
def f__law_draw : FnE := ⟨⟨["bowl", "many"], [⟨2, [], [0, 1]⟩], C__law_draw⟩, "_law_draw"⟩
def f__law_number : FnE := ⟨⟨["bowl"], [⟨1, [], [0]⟩], C__law_number⟩, "_law_number"⟩
def f__law_names : FnE := ⟨⟨["bowl", "many"], [⟨2, [], [0, 1]⟩], C__law_names⟩, "_law_names"⟩
def f__law_own : FnE := ⟨⟨[], [⟨0, [], []⟩], C__law_own⟩, "_law_own"⟩
def f__law_effect : FnE := ⟨⟨["words", "names", "known"], [⟨3, [], [0, 1, 2]⟩], C__law_effect⟩, "_law_effect"⟩
def f__law_effect_l : FnE := ⟨⟨["words", "names", "known"], [⟨3, [], [0, 1, 2]⟩], C__law_effect_l⟩, "_law_effect"⟩
def f__law_made : FnE := ⟨⟨["program"], [⟨1, [], [0]⟩], C__law_made⟩, "_law_made"⟩
def f_wrong_in_deeds : FnE := ⟨⟨["value"], [⟨1, [], [0]⟩], C_wrong_in_deeds⟩, "wrong_in_deeds"⟩
def f_is_deed : FnE := ⟨⟨["names", "value"], [⟨2, [], [0, 1]⟩], C_is_deed⟩, "is_deed"⟩
def f_is_word_by : FnE := ⟨⟨["names", "value"], [⟨2, [], [0, 1]⟩], C_is_word_by⟩, "is_word_by"⟩
def f_is_one_of : FnE := ⟨⟨["value", "words"], [⟨2, [], [0, 1]⟩], C_is_one_of⟩, "is_one_of"⟩
def f_is_number : FnE := ⟨⟨["value"], [⟨1, [], [0]⟩], C_is_number⟩, "is_number"⟩
def f_is_between : FnE := ⟨⟨["value", "least", "most"], [⟨3, [], [0, 1, 2]⟩], C_is_between⟩, "is_between"⟩
def f_is_call : FnE := ⟨⟨["names", "value"], [⟨2, [], [0, 1]⟩], C_is_call⟩, "is_call"⟩
def f_is_pair : FnE := ⟨⟨["value"], [⟨1, [], [0]⟩], C_is_pair⟩, "is_pair"⟩
def f_is_tuple_of : FnE := ⟨⟨["value", "many"], [⟨2, [], [0, 1]⟩], C_is_tuple_of⟩, "is_tuple_of"⟩
def f_is_name : FnE := ⟨⟨["value"], [⟨1, [], [0]⟩], C_is_name⟩, "is_name"⟩
def f_is_word : FnE := ⟨⟨["value"], [⟨1, [], [0]⟩], C_is_word⟩, "is_word"⟩
def f_check_number : FnE := ⟨⟨["number", "least", "most"], [⟨3, [], [0, 1, 2]⟩], C_check_number⟩, "check_number"⟩
def f__law_looked : FnE := ⟨⟨["program"], [⟨1, [], [0]⟩], C__law_looked⟩, "_law_looked"⟩
def f__law_is_short : FnE := ⟨⟨["words", "names", "known"], [⟨3, [], [0, 1, 2]⟩], C__law_is_short⟩, "_law_is_short"⟩
def f__law_any_program : FnE := ⟨⟨["bowl", "deeds", "most"], [⟨3, [], [0, 1, 2]⟩], C__law_any_program⟩, "_law_any_program"⟩
def f__law_any_words : FnE := ⟨⟨["bowl", "names", "many"], [⟨3, [], [0, 1, 2]⟩], C__law_any_words⟩, "_law_any_words"⟩
def f__law_bowl : FnE := ⟨⟨["script", "lap"], [⟨2, [], [0, 1]⟩], C__law_bowl⟩, "_law_bowl"⟩
def m_Program__look_told : MtE := ⟨.meth, "Program", "look_told", ⟨["self"], [], C_Program__look_told⟩⟩
def m_Program__deeds : MtE := ⟨.prop, "Program", "deeds", ⟨["self"], [], C_Program__deeds⟩⟩
def m_Program____init__ : MtE := ⟨.init, "Program", "__init__", ⟨["self", "width", "height", "deeds"], [⟨3, [], [0, 1, 2, 3]⟩], C_Program____init__⟩⟩
def l_wrong_in : LFn := ⟨"wrong_in", ["value", "least", "most", "is_right"], C_wrong_in⟩
def cl_Program : ClsE := ⟨"Program", ["seen", "all_told", "painted", "ran"], [], true⟩
def xf0 : List FnX := [⟨f__law_right, 14, d__law_right⟩, ⟨f_is_let_by, 8, d_is_let_by⟩, ⟨f_fault_by, 7, d_fault_by⟩, ⟨f_looked, 5, d_looked⟩, ⟨f_looked_at, 4, d_looked_at⟩, ⟨f_is_uneven, 3, d_is_uneven⟩, ⟨f_called, 2, d_called⟩, ⟨f_index_of, 1, d_index_of⟩, ⟨f_is_aside, 3, d_is_aside⟩, ⟨f_effect_of, 3, d_effect_of⟩, ⟨f_is_whole, 1, d_is_whole⟩, ⟨f_behind, 1, d_behind⟩]
def xf1 : List FnX := [⟨f_check_program, 1, d_check_program⟩, ⟨f_first_fault, 8, d_first_fault⟩, ⟨f_effects, 7, d_effects⟩, ⟨f__law_same_b, 0, d__law_same_0⟩, ⟨f__law_same_0, 1, d__law_same_0⟩, ⟨f__law_same_1, 2, d__law_same_1⟩, ⟨f__law_same_2, 3, d__law_same_2⟩, ⟨f__law_same, 4, d__law_same⟩, ⟨f__law_program_b, 0, d__law_program_0⟩, ⟨f__law_program_0, 5, d__law_program_0⟩, ⟨f__law_program, 6, d__law_program⟩, ⟨f__law_words, 4, d__law_words⟩]
def xf2 : List FnX := [⟨f__law_plain_effect, 1, d__law_plain_effect⟩, ⟨f__law_of, 2, d__law_of⟩, ⟨f__law_draw, 1, d__law_draw⟩, ⟨f__law_number, 3, d__law_number⟩, ⟨f__law_names, 3, d__law_names⟩, ⟨f__law_own, 1, d__law_own⟩, ⟨f__law_effect, 2, d__law_effect⟩, ⟨f__law_effect_l, 2, d__law_effect_l⟩, ⟨f__law_made, 13, d__law_made⟩, ⟨f_wrong_in_deeds, 10, d_wrong_in_deeds⟩, ⟨f_is_deed, 7, d_is_deed⟩, ⟨f_is_word_by, 4, d_is_word_by⟩]
def xf3 : List FnX := [⟨f_is_one_of, 1, d_is_one_of⟩, ⟨f_is_number, 3, d_is_number⟩, ⟨f_is_between, 2, d_is_between⟩, ⟨f_is_call, 3, d_is_call⟩, ⟨f_is_pair, 2, d_is_pair⟩, ⟨f_is_tuple_of, 1, d_is_tuple_of⟩, ⟨f_is_name, 2, d_is_name⟩, ⟨f_is_word, 1, d_is_word⟩, ⟨f_check_number, 3, d_check_number⟩, ⟨f__law_looked, 4, d__law_looked⟩, ⟨f__law_is_short, 3, d__law_is_short⟩, ⟨f__law_any_program, 5, d__law_any_program⟩]
def xf4 : List FnX := [⟨f__law_any_words, 4, d__law_any_words⟩, ⟨f__law_bowl, 1, d__law_bowl⟩]
def xm0 : List MtX := [⟨m_Program__look_told, 6, d_Program__look_told⟩, ⟨m_Program__deeds, 1, d_Program__deeds⟩, ⟨m_Program____init__, 11, d_Program____init__⟩]
def xl0 : List LmX := [⟨l_wrong_in, 6, d_wrong_in⟩, ⟨l_wrong_in, 9, d_wrong_in⟩]
def xc0 : List ClsE := [cl_Program]
def xg0 : List (Str × PV) := [("NOTHING", (.tup [(.int 0), (.int 0)])), ("UNEVEN", (.str "uneven")), ("SHORT", (.str "short")), ("DO", (.str "do")), ("NUMBER", (.tup [(.int 0), (.int 1)])), ("EFFECTS", (.kdc [.inr "add", .inr "sub", .inr "mul", .inr "dup", .inr "drop", .inr "swap", .inr "ink", .inr "shift", .inr "turn", .inr "flip", .inr "box", .inr "tri", .inr "clip"] [(.tup [(.int 2), (.int 1)]), (.tup [(.int 2), (.int 1)]), (.tup [(.int 2), (.int 1)]), (.tup [(.int 1), (.int 2)]), (.tup [(.int 1), (.int 0)]), (.tup [(.int 2), (.int 2)]), (.tup [(.int 1), (.int 0)]), (.tup [(.int 2), (.int 0)]), (.tup [(.int 0), (.int 0)]), (.tup [(.int 0), (.int 0)]), (.tup [(.int 2), (.int 0)]), (.tup [(.int 4), (.int 0)]), (.tup [(.int 2), (.int 0)])])), ("MOST_SIDE", (.int 24)), ("MOST_DEEDS", (.int 12)), ("MOST_WORDS", (.int 40)), ("PLAIN", (.tup [(.str "add"), (.str "sub"), (.str "mul"), (.str "dup"), (.str "drop"), (.str "swap"), (.str "ink"), (.str "shift"), (.str "turn"), (.str "flip"), (.str "box"), (.str "tri"), (.str "clip")])), ("MOST_NUMBER", (.int 99)), ("HOWS", (.tup [(.str "do"), (.str "times"), (.str "if")]))]
def xg1 : List (Str × PV) := [("MOST_LETTERS", (.int 8)), ("WORDS", (.tup [(.str "add"), (.str "box"), (.str "clip"), (.str "drop"), (.str "dup"), (.str "end"), (.str "flip"), (.str "if"), (.str "ink"), (.str "mul"), (.str "page"), (.str "shift"), (.str "sub"), (.str "swap"), (.str "times"), (.str "to"), (.str "tri"), (.str "turn")])), ("LETTERS", (.str "abcdefghijklmnopqrstuvwxyz"))]
def t : Txt := ⟨xf0 ++ xf1 ++ xf2 ++ xf3 ++ xf4, xm0, xl0, xc0, xg0 ++ xg1⟩
def g : Sg := t.g
section
variable {S : Stt} {env : En} {es ks : CL} {Q : PV → Stt → Prop} {E : Exc → Stt → Prop}
@[simp ↓] theorem x_glob_NOTHING : (dE g (.glob g_NOTHING) env).run S Q E = Q (.tup [(.int 0), (.int 0)]) S := rfl
@[simp ↓] theorem x_glob_UNEVEN : (dE g (.glob g_UNEVEN) env).run S Q E = Q (.str "uneven") S := rfl
@[simp ↓] theorem x_glob_SHORT : (dE g (.glob g_SHORT) env).run S Q E = Q (.str "short") S := rfl
@[simp ↓] theorem x_glob_DO : (dE g (.glob g_DO) env).run S Q E = Q (.str "do") S := rfl
@[simp ↓] theorem x_glob_NUMBER : (dE g (.glob g_NUMBER) env).run S Q E = Q (.tup [(.int 0), (.int 1)]) S := rfl
@[simp ↓] theorem x_glob_EFFECTS : (dE g (.glob g_EFFECTS) env).run S Q E = Q (.kdc [.inr "add", .inr "sub", .inr "mul", .inr "dup", .inr "drop", .inr "swap", .inr "ink", .inr "shift", .inr "turn", .inr "flip", .inr "box", .inr "tri", .inr "clip"] [(.tup [(.int 2), (.int 1)]), (.tup [(.int 2), (.int 1)]), (.tup [(.int 2), (.int 1)]), (.tup [(.int 1), (.int 2)]), (.tup [(.int 1), (.int 0)]), (.tup [(.int 2), (.int 2)]), (.tup [(.int 1), (.int 0)]), (.tup [(.int 2), (.int 0)]), (.tup [(.int 0), (.int 0)]), (.tup [(.int 0), (.int 0)]), (.tup [(.int 2), (.int 0)]), (.tup [(.int 4), (.int 0)]), (.tup [(.int 2), (.int 0)])]) S := rfl
@[simp ↓] theorem x_glob_MOST_SIDE : (dE g (.glob g_MOST_SIDE) env).run S Q E = Q (.int 24) S := rfl
@[simp ↓] theorem x_glob_MOST_DEEDS : (dE g (.glob g_MOST_DEEDS) env).run S Q E = Q (.int 12) S := rfl
@[simp ↓] theorem x_glob_MOST_WORDS : (dE g (.glob g_MOST_WORDS) env).run S Q E = Q (.int 40) S := rfl
@[simp ↓] theorem x_glob_PLAIN : (dE g (.glob g_PLAIN) env).run S Q E = Q (.tup [(.str "add"), (.str "sub"), (.str "mul"), (.str "dup"), (.str "drop"), (.str "swap"), (.str "ink"), (.str "shift"), (.str "turn"), (.str "flip"), (.str "box"), (.str "tri"), (.str "clip")]) S := rfl
@[simp ↓] theorem x_glob_MOST_NUMBER : (dE g (.glob g_MOST_NUMBER) env).run S Q E = Q (.int 99) S := rfl
@[simp ↓] theorem x_glob_HOWS : (dE g (.glob g_HOWS) env).run S Q E = Q (.tup [(.str "do"), (.str "times"), (.str "if")]) S := rfl
@[simp ↓] theorem x_glob_MOST_LETTERS : (dE g (.glob g_MOST_LETTERS) env).run S Q E = Q (.int 8) S := rfl
@[simp ↓] theorem x_glob_WORDS : (dE g (.glob g_WORDS) env).run S Q E = Q (.tup [(.str "add"), (.str "box"), (.str "clip"), (.str "drop"), (.str "dup"), (.str "end"), (.str "flip"), (.str "if"), (.str "ink"), (.str "mul"), (.str "page"), (.str "shift"), (.str "sub"), (.str "swap"), (.str "times"), (.str "to"), (.str "tri"), (.str "turn")]) S := rfl
@[simp ↓] theorem x_glob_LETTERS : (dE g (.glob g_LETTERS) env).run S Q E = Q (.str "abcdefghijklmnopqrstuvwxyz") S := rfl
@[simp ↓] theorem x_call__law_right_0 : (dE g (.call i__law_right ⟨1, [], [0]⟩ es ks) env).run S Q E = (dL g es env).run S (fun xs S => (dL g ks env).run S (fun ys S => (callFn f__law_right.toFn ⟨1, [], [0]⟩ xs ys).run S Q E) E) E := rfl
@[simp ↓] theorem x_cf__law_right_0 {x0 : PV} : (callFn f__law_right.toFn ⟨1, [], [0]⟩ [x0] []).run S Q E = (C__law_right [x0]).run S Q E := propext ⟨fun q => q.2, fun q => ⟨⟨rfl, rfl, rfl⟩, q⟩⟩
@[simp ↓] theorem x_call_is_let_by_0 : (dE g (.call i_is_let_by ⟨0, ["program"], [0]⟩ es ks) env).run S Q E = (dL g es env).run S (fun xs S => (dL g ks env).run S (fun ys S => (callFn f_is_let_by.toFn ⟨0, ["program"], [0]⟩ xs ys).run S Q E) E) E := rfl
@[simp ↓] theorem x_cf_is_let_by_0 {y0 : PV} : (callFn f_is_let_by.toFn ⟨0, ["program"], [0]⟩ [] [y0]).run S Q E = (C_is_let_by [y0]).run S Q E := propext ⟨fun q => q.2, fun q => ⟨⟨rfl, rfl, rfl⟩, q⟩⟩
@[simp ↓] theorem x_call_is_let_by_1 : (dE g (.call i_is_let_by ⟨1, [], [0]⟩ es ks) env).run S Q E = (dL g es env).run S (fun xs S => (dL g ks env).run S (fun ys S => (callFn f_is_let_by.toFn ⟨1, [], [0]⟩ xs ys).run S Q E) E) E := rfl
@[simp ↓] theorem x_cf_is_let_by_1 {x0 : PV} : (callFn f_is_let_by.toFn ⟨1, [], [0]⟩ [x0] []).run S Q E = (C_is_let_by [x0]).run S Q E := propext ⟨fun q => q.2, fun q => ⟨⟨rfl, rfl, rfl⟩, q⟩⟩
@[simp ↓] theorem x_call_fault_by_0 : (dE g (.call i_fault_by ⟨1, [], [0]⟩ es ks) env).run S Q E = (dL g es env).run S (fun xs S => (dL g ks env).run S (fun ys S => (callFn f_fault_by.toFn ⟨1, [], [0]⟩ xs ys).run S Q E) E) E := rfl
@[simp ↓] theorem x_cf_fault_by_0 {x0 : PV} : (callFn f_fault_by.toFn ⟨1, [], [0]⟩ [x0] []).run S Q E = (C_fault_by [x0]).run S Q E := propext ⟨fun q => q.2, fun q => ⟨⟨rfl, rfl, rfl⟩, q⟩⟩
@[simp ↓] theorem x_call_looked_0 : (dE g (.call i_looked ⟨1, [], [0]⟩ es ks) env).run S Q E = (dL g es env).run S (fun xs S => (dL g ks env).run S (fun ys S => (callFn f_looked.toFn ⟨1, [], [0]⟩ xs ys).run S Q E) E) E := rfl
@[simp ↓] theorem x_cf_looked_0 {x0 : PV} : (callFn f_looked.toFn ⟨1, [], [0]⟩ [x0] []).run S Q E = (C_looked [x0]).run S Q E := propext ⟨fun q => q.2, fun q => ⟨⟨rfl, rfl, rfl⟩, q⟩⟩
@[simp ↓] theorem x_call_looked_at_0 : (dE g (.call i_looked_at ⟨3, [], [0, 1, 2]⟩ es ks) env).run S Q E = (dL g es env).run S (fun xs S => (dL g ks env).run S (fun ys S => (callFn f_looked_at.toFn ⟨3, [], [0, 1, 2]⟩ xs ys).run S Q E) E) E := rfl
@[simp ↓] theorem x_cf_looked_at_0 {x0 x1 x2 : PV} : (callFn f_looked_at.toFn ⟨3, [], [0, 1, 2]⟩ [x0, x1, x2] []).run S Q E = (C_looked_at [x0, x1, x2]).run S Q E := propext ⟨fun q => q.2, fun q => ⟨⟨rfl, rfl, rfl⟩, q⟩⟩
@[simp ↓] theorem x_call_is_uneven_0 : (dE g (.call i_is_uneven ⟨3, [], [0, 1, 2]⟩ es ks) env).run S Q E = (dL g es env).run S (fun xs S => (dL g ks env).run S (fun ys S => (callFn f_is_uneven.toFn ⟨3, [], [0, 1, 2]⟩ xs ys).run S Q E) E) E := rfl
@[simp ↓] theorem x_cf_is_uneven_0 {x0 x1 x2 : PV} : (callFn f_is_uneven.toFn ⟨3, [], [0, 1, 2]⟩ [x0, x1, x2] []).run S Q E = (C_is_uneven [x0, x1, x2]).run S Q E := propext ⟨fun q => q.2, fun q => ⟨⟨rfl, rfl, rfl⟩, q⟩⟩
@[simp ↓] theorem x_call_called_0 : (dE g (.call i_called ⟨3, [], [0, 1, 2]⟩ es ks) env).run S Q E = (dL g es env).run S (fun xs S => (dL g ks env).run S (fun ys S => (callFn f_called.toFn ⟨3, [], [0, 1, 2]⟩ xs ys).run S Q E) E) E := rfl
@[simp ↓] theorem x_cf_called_0 {x0 x1 x2 : PV} : (callFn f_called.toFn ⟨3, [], [0, 1, 2]⟩ [x0, x1, x2] []).run S Q E = (C_called [x0, x1, x2]).run S Q E := propext ⟨fun q => q.2, fun q => ⟨⟨rfl, rfl, rfl⟩, q⟩⟩
@[simp ↓] theorem x_call_index_of_0 : (dE g (.call i_index_of ⟨2, [], [0, 1]⟩ es ks) env).run S Q E = (dL g es env).run S (fun xs S => (dL g ks env).run S (fun ys S => (callFn f_index_of.toFn ⟨2, [], [0, 1]⟩ xs ys).run S Q E) E) E := rfl
@[simp ↓] theorem x_cf_index_of_0 {x0 x1 : PV} : (callFn f_index_of.toFn ⟨2, [], [0, 1]⟩ [x0, x1] []).run S Q E = (C_index_of [x0, x1]).run S Q E := propext ⟨fun q => q.2, fun q => ⟨⟨rfl, rfl, rfl⟩, q⟩⟩
@[simp ↓] theorem x_call_is_aside_0 : (dE g (.call i_is_aside ⟨3, [], [0, 1, 2]⟩ es ks) env).run S Q E = (dL g es env).run S (fun xs S => (dL g ks env).run S (fun ys S => (callFn f_is_aside.toFn ⟨3, [], [0, 1, 2]⟩ xs ys).run S Q E) E) E := rfl
@[simp ↓] theorem x_cf_is_aside_0 {x0 x1 x2 : PV} : (callFn f_is_aside.toFn ⟨3, [], [0, 1, 2]⟩ [x0, x1, x2] []).run S Q E = (C_is_aside [x0, x1, x2]).run S Q E := propext ⟨fun q => q.2, fun q => ⟨⟨rfl, rfl, rfl⟩, q⟩⟩
@[simp ↓] theorem x_call_effect_of_0 : (dE g (.call i_effect_of ⟨3, [], [0, 1, 2]⟩ es ks) env).run S Q E = (dL g es env).run S (fun xs S => (dL g ks env).run S (fun ys S => (callFn f_effect_of.toFn ⟨3, [], [0, 1, 2]⟩ xs ys).run S Q E) E) E := rfl
@[simp ↓] theorem x_cf_effect_of_0 {x0 x1 x2 : PV} : (callFn f_effect_of.toFn ⟨3, [], [0, 1, 2]⟩ [x0, x1, x2] []).run S Q E = (C_effect_of [x0, x1, x2]).run S Q E := propext ⟨fun q => q.2, fun q => ⟨⟨rfl, rfl, rfl⟩, q⟩⟩
@[simp ↓] theorem x_call_is_whole_0 : (dE g (.call i_is_whole ⟨1, [], [0]⟩ es ks) env).run S Q E = (dL g es env).run S (fun xs S => (dL g ks env).run S (fun ys S => (callFn f_is_whole.toFn ⟨1, [], [0]⟩ xs ys).run S Q E) E) E := rfl
@[simp ↓] theorem x_cf_is_whole_0 {x0 : PV} : (callFn f_is_whole.toFn ⟨1, [], [0]⟩ [x0] []).run S Q E = (C_is_whole [x0]).run S Q E := propext ⟨fun q => q.2, fun q => ⟨⟨rfl, rfl, rfl⟩, q⟩⟩
@[simp ↓] theorem x_call_behind_0 : (dE g (.call i_behind ⟨2, [], [0, 1]⟩ es ks) env).run S Q E = (dL g es env).run S (fun xs S => (dL g ks env).run S (fun ys S => (callFn f_behind.toFn ⟨2, [], [0, 1]⟩ xs ys).run S Q E) E) E := rfl
@[simp ↓] theorem x_cf_behind_0 {x0 x1 : PV} : (callFn f_behind.toFn ⟨2, [], [0, 1]⟩ [x0, x1] []).run S Q E = (C_behind [x0, x1]).run S Q E := propext ⟨fun q => q.2, fun q => ⟨⟨rfl, rfl, rfl⟩, q⟩⟩
@[simp ↓] theorem x_call_check_program_0 : (dE g (.call i_check_program ⟨1, [], [0]⟩ es ks) env).run S Q E = (dL g es env).run S (fun xs S => (dL g ks env).run S (fun ys S => (callFn f_check_program.toFn ⟨1, [], [0]⟩ xs ys).run S Q E) E) E := rfl
@[simp ↓] theorem x_cf_check_program_0 {x0 : PV} : (callFn f_check_program.toFn ⟨1, [], [0]⟩ [x0] []).run S Q E = (C_check_program [x0]).run S Q E := propext ⟨fun q => q.2, fun q => ⟨⟨rfl, rfl, rfl⟩, q⟩⟩
@[simp ↓] theorem x_call_first_fault_0 : (dE g (.call i_first_fault ⟨0, ["program"], [0]⟩ es ks) env).run S Q E = (dL g es env).run S (fun xs S => (dL g ks env).run S (fun ys S => (callFn f_first_fault.toFn ⟨0, ["program"], [0]⟩ xs ys).run S Q E) E) E := rfl
@[simp ↓] theorem x_cf_first_fault_0 {y0 : PV} : (callFn f_first_fault.toFn ⟨0, ["program"], [0]⟩ [] [y0]).run S Q E = (C_first_fault [y0]).run S Q E := propext ⟨fun q => q.2, fun q => ⟨⟨rfl, rfl, rfl⟩, q⟩⟩
@[simp ↓] theorem x_call_first_fault_1 : (dE g (.call i_first_fault ⟨1, [], [0]⟩ es ks) env).run S Q E = (dL g es env).run S (fun xs S => (dL g ks env).run S (fun ys S => (callFn f_first_fault.toFn ⟨1, [], [0]⟩ xs ys).run S Q E) E) E := rfl
@[simp ↓] theorem x_cf_first_fault_1 {x0 : PV} : (callFn f_first_fault.toFn ⟨1, [], [0]⟩ [x0] []).run S Q E = (C_first_fault [x0]).run S Q E := propext ⟨fun q => q.2, fun q => ⟨⟨rfl, rfl, rfl⟩, q⟩⟩
@[simp ↓] theorem x_call_effects_0 : (dE g (.call i_effects ⟨1, [], [0]⟩ es ks) env).run S Q E = (dL g es env).run S (fun xs S => (dL g ks env).run S (fun ys S => (callFn f_effects.toFn ⟨1, [], [0]⟩ xs ys).run S Q E) E) E := rfl
@[simp ↓] theorem x_cf_effects_0 {x0 : PV} : (callFn f_effects.toFn ⟨1, [], [0]⟩ [x0] []).run S Q E = (C_effects [x0]).run S Q E := propext ⟨fun q => q.2, fun q => ⟨⟨rfl, rfl, rfl⟩, q⟩⟩
@[simp ↓] theorem x_call__law_same_0_0 : (dE g (.call i__law_same_0 ⟨2, [], [0, 1]⟩ es ks) env).run S Q E = (dL g es env).run S (fun xs S => (dL g ks env).run S (fun ys S => (callFn f__law_same_0.toFn ⟨2, [], [0, 1]⟩ xs ys).run S Q E) E) E := rfl
@[simp ↓] theorem x_cf__law_same_0_0 {x0 x1 : PV} : (callFn f__law_same_0.toFn ⟨2, [], [0, 1]⟩ [x0, x1] []).run S Q E = (C__law_same_0 [x0, x1]).run S Q E := propext ⟨fun q => q.2, fun q => ⟨⟨rfl, rfl, rfl⟩, q⟩⟩
@[simp ↓] theorem x_call__law_same_1_0 : (dE g (.call i__law_same_1 ⟨2, [], [0, 1]⟩ es ks) env).run S Q E = (dL g es env).run S (fun xs S => (dL g ks env).run S (fun ys S => (callFn f__law_same_1.toFn ⟨2, [], [0, 1]⟩ xs ys).run S Q E) E) E := rfl
@[simp ↓] theorem x_cf__law_same_1_0 {x0 x1 : PV} : (callFn f__law_same_1.toFn ⟨2, [], [0, 1]⟩ [x0, x1] []).run S Q E = (C__law_same_1 [x0, x1]).run S Q E := propext ⟨fun q => q.2, fun q => ⟨⟨rfl, rfl, rfl⟩, q⟩⟩
@[simp ↓] theorem x_call__law_same_2_0 : (dE g (.call i__law_same_2 ⟨2, [], [0, 1]⟩ es ks) env).run S Q E = (dL g es env).run S (fun xs S => (dL g ks env).run S (fun ys S => (callFn f__law_same_2.toFn ⟨2, [], [0, 1]⟩ xs ys).run S Q E) E) E := rfl
@[simp ↓] theorem x_cf__law_same_2_0 {x0 x1 : PV} : (callFn f__law_same_2.toFn ⟨2, [], [0, 1]⟩ [x0, x1] []).run S Q E = (C__law_same_2 [x0, x1]).run S Q E := propext ⟨fun q => q.2, fun q => ⟨⟨rfl, rfl, rfl⟩, q⟩⟩
@[simp ↓] theorem x_call__law_same_0 : (dE g (.call i__law_same ⟨2, [], [0, 1]⟩ es ks) env).run S Q E = (dL g es env).run S (fun xs S => (dL g ks env).run S (fun ys S => (callFn f__law_same.toFn ⟨2, [], [0, 1]⟩ xs ys).run S Q E) E) E := rfl
@[simp ↓] theorem x_cf__law_same_0 {x0 x1 : PV} : (callFn f__law_same.toFn ⟨2, [], [0, 1]⟩ [x0, x1] []).run S Q E = (C__law_same [x0, x1]).run S Q E := propext ⟨fun q => q.2, fun q => ⟨⟨rfl, rfl, rfl⟩, q⟩⟩
@[simp ↓] theorem x_call__law_program_0_0 : (dE g (.call i__law_program_0 ⟨3, [], [0, 1, 2]⟩ es ks) env).run S Q E = (dL g es env).run S (fun xs S => (dL g ks env).run S (fun ys S => (callFn f__law_program_0.toFn ⟨3, [], [0, 1, 2]⟩ xs ys).run S Q E) E) E := rfl
@[simp ↓] theorem x_cf__law_program_0_0 {x0 x1 x2 : PV} : (callFn f__law_program_0.toFn ⟨3, [], [0, 1, 2]⟩ [x0, x1, x2] []).run S Q E = (C__law_program_0 [x0, x1, x2]).run S Q E := propext ⟨fun q => q.2, fun q => ⟨⟨rfl, rfl, rfl⟩, q⟩⟩
@[simp ↓] theorem x_call__law_program_0 : (dE g (.call i__law_program ⟨3, [], [0, 1, 2]⟩ es ks) env).run S Q E = (dL g es env).run S (fun xs S => (dL g ks env).run S (fun ys S => (callFn f__law_program.toFn ⟨3, [], [0, 1, 2]⟩ xs ys).run S Q E) E) E := rfl
@[simp ↓] theorem x_cf__law_program_0 {x0 x1 x2 : PV} : (callFn f__law_program.toFn ⟨3, [], [0, 1, 2]⟩ [x0, x1, x2] []).run S Q E = (C__law_program [x0, x1, x2]).run S Q E := propext ⟨fun q => q.2, fun q => ⟨⟨rfl, rfl, rfl⟩, q⟩⟩
@[simp ↓] theorem x_call__law_words_0 : (dE g (.call i__law_words ⟨5, [], [0, 1, 2, 3, 4]⟩ es ks) env).run S Q E = (dL g es env).run S (fun xs S => (dL g ks env).run S (fun ys S => (callFn f__law_words.toFn ⟨5, [], [0, 1, 2, 3, 4]⟩ xs ys).run S Q E) E) E := rfl
@[simp ↓] theorem x_cf__law_words_0 {x0 x1 x2 x3 x4 : PV} : (callFn f__law_words.toFn ⟨5, [], [0, 1, 2, 3, 4]⟩ [x0, x1, x2, x3, x4] []).run S Q E = (C__law_words [x0, x1, x2, x3, x4]).run S Q E := propext ⟨fun q => q.2, fun q => ⟨⟨rfl, rfl, rfl⟩, q⟩⟩
@[simp ↓] theorem x_call__law_plain_effect_0 : (dE g (.call i__law_plain_effect ⟨1, [], [0]⟩ es ks) env).run S Q E = (dL g es env).run S (fun xs S => (dL g ks env).run S (fun ys S => (callFn f__law_plain_effect.toFn ⟨1, [], [0]⟩ xs ys).run S Q E) E) E := rfl
@[simp ↓] theorem x_cf__law_plain_effect_0 {x0 : PV} : (callFn f__law_plain_effect.toFn ⟨1, [], [0]⟩ [x0] []).run S Q E = (C__law_plain_effect [x0]).run S Q E := propext ⟨fun q => q.2, fun q => ⟨⟨rfl, rfl, rfl⟩, q⟩⟩
@[simp ↓] theorem x_call__law_of_0 : (dE g (.call i__law_of ⟨2, [], [0, 1]⟩ es ks) env).run S Q E = (dL g es env).run S (fun xs S => (dL g ks env).run S (fun ys S => (callFn f__law_of.toFn ⟨2, [], [0, 1]⟩ xs ys).run S Q E) E) E := rfl
@[simp ↓] theorem x_cf__law_of_0 {x0 x1 : PV} : (callFn f__law_of.toFn ⟨2, [], [0, 1]⟩ [x0, x1] []).run S Q E = (C__law_of [x0, x1]).run S Q E := propext ⟨fun q => q.2, fun q => ⟨⟨rfl, rfl, rfl⟩, q⟩⟩
@[simp ↓] theorem x_call__law_draw_0 : (dE g (.call i__law_draw ⟨2, [], [0, 1]⟩ es ks) env).run S Q E = (dL g es env).run S (fun xs S => (dL g ks env).run S (fun ys S => (callFn f__law_draw.toFn ⟨2, [], [0, 1]⟩ xs ys).run S Q E) E) E := rfl
@[simp ↓] theorem x_cf__law_draw_0 {x0 x1 : PV} : (callFn f__law_draw.toFn ⟨2, [], [0, 1]⟩ [x0, x1] []).run S Q E = (C__law_draw [x0, x1]).run S Q E := propext ⟨fun q => q.2, fun q => ⟨⟨rfl, rfl, rfl⟩, q⟩⟩
@[simp ↓] theorem x_call__law_number_0 : (dE g (.call i__law_number ⟨1, [], [0]⟩ es ks) env).run S Q E = (dL g es env).run S (fun xs S => (dL g ks env).run S (fun ys S => (callFn f__law_number.toFn ⟨1, [], [0]⟩ xs ys).run S Q E) E) E := rfl
@[simp ↓] theorem x_cf__law_number_0 {x0 : PV} : (callFn f__law_number.toFn ⟨1, [], [0]⟩ [x0] []).run S Q E = (C__law_number [x0]).run S Q E := propext ⟨fun q => q.2, fun q => ⟨⟨rfl, rfl, rfl⟩, q⟩⟩
@[simp ↓] theorem x_call__law_names_0 : (dE g (.call i__law_names ⟨2, [], [0, 1]⟩ es ks) env).run S Q E = (dL g es env).run S (fun xs S => (dL g ks env).run S (fun ys S => (callFn f__law_names.toFn ⟨2, [], [0, 1]⟩ xs ys).run S Q E) E) E := rfl
@[simp ↓] theorem x_cf__law_names_0 {x0 x1 : PV} : (callFn f__law_names.toFn ⟨2, [], [0, 1]⟩ [x0, x1] []).run S Q E = (C__law_names [x0, x1]).run S Q E := propext ⟨fun q => q.2, fun q => ⟨⟨rfl, rfl, rfl⟩, q⟩⟩
@[simp ↓] theorem x_call__law_own_0 : (dE g (.call i__law_own ⟨0, [], []⟩ es ks) env).run S Q E = (dL g es env).run S (fun xs S => (dL g ks env).run S (fun ys S => (callFn f__law_own.toFn ⟨0, [], []⟩ xs ys).run S Q E) E) E := rfl
@[simp ↓] theorem x_cf__law_own_0 : (callFn f__law_own.toFn ⟨0, [], []⟩ [] []).run S Q E = (C__law_own []).run S Q E := propext ⟨fun q => q.2, fun q => ⟨⟨rfl, rfl, rfl⟩, q⟩⟩
@[simp ↓] theorem x_call__law_effect_0 : (dE g (.call i__law_effect ⟨3, [], [0, 1, 2]⟩ es ks) env).run S Q E = (dL g es env).run S (fun xs S => (dL g ks env).run S (fun ys S => (callFn f__law_effect.toFn ⟨3, [], [0, 1, 2]⟩ xs ys).run S Q E) E) E := rfl
@[simp ↓] theorem x_cf__law_effect_0 {x0 x1 x2 : PV} : (callFn f__law_effect.toFn ⟨3, [], [0, 1, 2]⟩ [x0, x1, x2] []).run S Q E = (C__law_effect [x0, x1, x2]).run S Q E := propext ⟨fun q => q.2, fun q => ⟨⟨rfl, rfl, rfl⟩, q⟩⟩
@[simp ↓] theorem x_call__law_effect_l_0 : (dE g (.call i__law_effect_l ⟨3, [], [0, 1, 2]⟩ es ks) env).run S Q E = (dL g es env).run S (fun xs S => (dL g ks env).run S (fun ys S => (callFn f__law_effect_l.toFn ⟨3, [], [0, 1, 2]⟩ xs ys).run S Q E) E) E := rfl
@[simp ↓] theorem x_cf__law_effect_l_0 {x0 x1 x2 : PV} : (callFn f__law_effect_l.toFn ⟨3, [], [0, 1, 2]⟩ [x0, x1, x2] []).run S Q E = (C__law_effect_l [x0, x1, x2]).run S Q E := propext ⟨fun q => q.2, fun q => ⟨⟨rfl, rfl, rfl⟩, q⟩⟩
@[simp ↓] theorem x_call__law_made_0 : (dE g (.call i__law_made ⟨1, [], [0]⟩ es ks) env).run S Q E = (dL g es env).run S (fun xs S => (dL g ks env).run S (fun ys S => (callFn f__law_made.toFn ⟨1, [], [0]⟩ xs ys).run S Q E) E) E := rfl
@[simp ↓] theorem x_cf__law_made_0 {x0 : PV} : (callFn f__law_made.toFn ⟨1, [], [0]⟩ [x0] []).run S Q E = (C__law_made [x0]).run S Q E := propext ⟨fun q => q.2, fun q => ⟨⟨rfl, rfl, rfl⟩, q⟩⟩
@[simp ↓] theorem x_call_wrong_in_deeds_0 : (dE g (.call i_wrong_in_deeds ⟨1, [], [0]⟩ es ks) env).run S Q E = (dL g es env).run S (fun xs S => (dL g ks env).run S (fun ys S => (callFn f_wrong_in_deeds.toFn ⟨1, [], [0]⟩ xs ys).run S Q E) E) E := rfl
@[simp ↓] theorem x_cf_wrong_in_deeds_0 {x0 : PV} : (callFn f_wrong_in_deeds.toFn ⟨1, [], [0]⟩ [x0] []).run S Q E = (C_wrong_in_deeds [x0]).run S Q E := propext ⟨fun q => q.2, fun q => ⟨⟨rfl, rfl, rfl⟩, q⟩⟩
@[simp ↓] theorem x_call_is_deed_0 : (dE g (.call i_is_deed ⟨2, [], [0, 1]⟩ es ks) env).run S Q E = (dL g es env).run S (fun xs S => (dL g ks env).run S (fun ys S => (callFn f_is_deed.toFn ⟨2, [], [0, 1]⟩ xs ys).run S Q E) E) E := rfl
@[simp ↓] theorem x_cf_is_deed_0 {x0 x1 : PV} : (callFn f_is_deed.toFn ⟨2, [], [0, 1]⟩ [x0, x1] []).run S Q E = (C_is_deed [x0, x1]).run S Q E := propext ⟨fun q => q.2, fun q => ⟨⟨rfl, rfl, rfl⟩, q⟩⟩
@[simp ↓] theorem x_call_is_word_by_0 : (dE g (.call i_is_word_by ⟨2, [], [0, 1]⟩ es ks) env).run S Q E = (dL g es env).run S (fun xs S => (dL g ks env).run S (fun ys S => (callFn f_is_word_by.toFn ⟨2, [], [0, 1]⟩ xs ys).run S Q E) E) E := rfl
@[simp ↓] theorem x_cf_is_word_by_0 {x0 x1 : PV} : (callFn f_is_word_by.toFn ⟨2, [], [0, 1]⟩ [x0, x1] []).run S Q E = (C_is_word_by [x0, x1]).run S Q E := propext ⟨fun q => q.2, fun q => ⟨⟨rfl, rfl, rfl⟩, q⟩⟩
@[simp ↓] theorem x_call_is_one_of_0 : (dE g (.call i_is_one_of ⟨2, [], [0, 1]⟩ es ks) env).run S Q E = (dL g es env).run S (fun xs S => (dL g ks env).run S (fun ys S => (callFn f_is_one_of.toFn ⟨2, [], [0, 1]⟩ xs ys).run S Q E) E) E := rfl
@[simp ↓] theorem x_cf_is_one_of_0 {x0 x1 : PV} : (callFn f_is_one_of.toFn ⟨2, [], [0, 1]⟩ [x0, x1] []).run S Q E = (C_is_one_of [x0, x1]).run S Q E := propext ⟨fun q => q.2, fun q => ⟨⟨rfl, rfl, rfl⟩, q⟩⟩
@[simp ↓] theorem x_call_is_number_0 : (dE g (.call i_is_number ⟨1, [], [0]⟩ es ks) env).run S Q E = (dL g es env).run S (fun xs S => (dL g ks env).run S (fun ys S => (callFn f_is_number.toFn ⟨1, [], [0]⟩ xs ys).run S Q E) E) E := rfl
@[simp ↓] theorem x_cf_is_number_0 {x0 : PV} : (callFn f_is_number.toFn ⟨1, [], [0]⟩ [x0] []).run S Q E = (C_is_number [x0]).run S Q E := propext ⟨fun q => q.2, fun q => ⟨⟨rfl, rfl, rfl⟩, q⟩⟩
@[simp ↓] theorem x_call_is_between_0 : (dE g (.call i_is_between ⟨3, [], [0, 1, 2]⟩ es ks) env).run S Q E = (dL g es env).run S (fun xs S => (dL g ks env).run S (fun ys S => (callFn f_is_between.toFn ⟨3, [], [0, 1, 2]⟩ xs ys).run S Q E) E) E := rfl
@[simp ↓] theorem x_cf_is_between_0 {x0 x1 x2 : PV} : (callFn f_is_between.toFn ⟨3, [], [0, 1, 2]⟩ [x0, x1, x2] []).run S Q E = (C_is_between [x0, x1, x2]).run S Q E := propext ⟨fun q => q.2, fun q => ⟨⟨rfl, rfl, rfl⟩, q⟩⟩
@[simp ↓] theorem x_call_is_call_0 : (dE g (.call i_is_call ⟨2, [], [0, 1]⟩ es ks) env).run S Q E = (dL g es env).run S (fun xs S => (dL g ks env).run S (fun ys S => (callFn f_is_call.toFn ⟨2, [], [0, 1]⟩ xs ys).run S Q E) E) E := rfl
@[simp ↓] theorem x_cf_is_call_0 {x0 x1 : PV} : (callFn f_is_call.toFn ⟨2, [], [0, 1]⟩ [x0, x1] []).run S Q E = (C_is_call [x0, x1]).run S Q E := propext ⟨fun q => q.2, fun q => ⟨⟨rfl, rfl, rfl⟩, q⟩⟩
@[simp ↓] theorem x_call_is_pair_0 : (dE g (.call i_is_pair ⟨1, [], [0]⟩ es ks) env).run S Q E = (dL g es env).run S (fun xs S => (dL g ks env).run S (fun ys S => (callFn f_is_pair.toFn ⟨1, [], [0]⟩ xs ys).run S Q E) E) E := rfl
@[simp ↓] theorem x_cf_is_pair_0 {x0 : PV} : (callFn f_is_pair.toFn ⟨1, [], [0]⟩ [x0] []).run S Q E = (C_is_pair [x0]).run S Q E := propext ⟨fun q => q.2, fun q => ⟨⟨rfl, rfl, rfl⟩, q⟩⟩
@[simp ↓] theorem x_call_is_tuple_of_0 : (dE g (.call i_is_tuple_of ⟨2, [], [0, 1]⟩ es ks) env).run S Q E = (dL g es env).run S (fun xs S => (dL g ks env).run S (fun ys S => (callFn f_is_tuple_of.toFn ⟨2, [], [0, 1]⟩ xs ys).run S Q E) E) E := rfl
@[simp ↓] theorem x_cf_is_tuple_of_0 {x0 x1 : PV} : (callFn f_is_tuple_of.toFn ⟨2, [], [0, 1]⟩ [x0, x1] []).run S Q E = (C_is_tuple_of [x0, x1]).run S Q E := propext ⟨fun q => q.2, fun q => ⟨⟨rfl, rfl, rfl⟩, q⟩⟩
@[simp ↓] theorem x_call_is_name_0 : (dE g (.call i_is_name ⟨1, [], [0]⟩ es ks) env).run S Q E = (dL g es env).run S (fun xs S => (dL g ks env).run S (fun ys S => (callFn f_is_name.toFn ⟨1, [], [0]⟩ xs ys).run S Q E) E) E := rfl
@[simp ↓] theorem x_cf_is_name_0 {x0 : PV} : (callFn f_is_name.toFn ⟨1, [], [0]⟩ [x0] []).run S Q E = (C_is_name [x0]).run S Q E := propext ⟨fun q => q.2, fun q => ⟨⟨rfl, rfl, rfl⟩, q⟩⟩
@[simp ↓] theorem x_call_is_word_0 : (dE g (.call i_is_word ⟨1, [], [0]⟩ es ks) env).run S Q E = (dL g es env).run S (fun xs S => (dL g ks env).run S (fun ys S => (callFn f_is_word.toFn ⟨1, [], [0]⟩ xs ys).run S Q E) E) E := rfl
@[simp ↓] theorem x_cf_is_word_0 {x0 : PV} : (callFn f_is_word.toFn ⟨1, [], [0]⟩ [x0] []).run S Q E = (C_is_word [x0]).run S Q E := propext ⟨fun q => q.2, fun q => ⟨⟨rfl, rfl, rfl⟩, q⟩⟩
@[simp ↓] theorem x_call_check_number_0 : (dE g (.call i_check_number ⟨3, [], [0, 1, 2]⟩ es ks) env).run S Q E = (dL g es env).run S (fun xs S => (dL g ks env).run S (fun ys S => (callFn f_check_number.toFn ⟨3, [], [0, 1, 2]⟩ xs ys).run S Q E) E) E := rfl
@[simp ↓] theorem x_cf_check_number_0 {x0 x1 x2 : PV} : (callFn f_check_number.toFn ⟨3, [], [0, 1, 2]⟩ [x0, x1, x2] []).run S Q E = (C_check_number [x0, x1, x2]).run S Q E := propext ⟨fun q => q.2, fun q => ⟨⟨rfl, rfl, rfl⟩, q⟩⟩
@[simp ↓] theorem x_call__law_looked_0 : (dE g (.call i__law_looked ⟨1, [], [0]⟩ es ks) env).run S Q E = (dL g es env).run S (fun xs S => (dL g ks env).run S (fun ys S => (callFn f__law_looked.toFn ⟨1, [], [0]⟩ xs ys).run S Q E) E) E := rfl
@[simp ↓] theorem x_cf__law_looked_0 {x0 : PV} : (callFn f__law_looked.toFn ⟨1, [], [0]⟩ [x0] []).run S Q E = (C__law_looked [x0]).run S Q E := propext ⟨fun q => q.2, fun q => ⟨⟨rfl, rfl, rfl⟩, q⟩⟩
@[simp ↓] theorem x_call__law_is_short_0 : (dE g (.call i__law_is_short ⟨3, [], [0, 1, 2]⟩ es ks) env).run S Q E = (dL g es env).run S (fun xs S => (dL g ks env).run S (fun ys S => (callFn f__law_is_short.toFn ⟨3, [], [0, 1, 2]⟩ xs ys).run S Q E) E) E := rfl
@[simp ↓] theorem x_cf__law_is_short_0 {x0 x1 x2 : PV} : (callFn f__law_is_short.toFn ⟨3, [], [0, 1, 2]⟩ [x0, x1, x2] []).run S Q E = (C__law_is_short [x0, x1, x2]).run S Q E := propext ⟨fun q => q.2, fun q => ⟨⟨rfl, rfl, rfl⟩, q⟩⟩
@[simp ↓] theorem x_call__law_any_program_0 : (dE g (.call i__law_any_program ⟨3, [], [0, 1, 2]⟩ es ks) env).run S Q E = (dL g es env).run S (fun xs S => (dL g ks env).run S (fun ys S => (callFn f__law_any_program.toFn ⟨3, [], [0, 1, 2]⟩ xs ys).run S Q E) E) E := rfl
@[simp ↓] theorem x_cf__law_any_program_0 {x0 x1 x2 : PV} : (callFn f__law_any_program.toFn ⟨3, [], [0, 1, 2]⟩ [x0, x1, x2] []).run S Q E = (C__law_any_program [x0, x1, x2]).run S Q E := propext ⟨fun q => q.2, fun q => ⟨⟨rfl, rfl, rfl⟩, q⟩⟩
@[simp ↓] theorem x_call__law_any_words_0 : (dE g (.call i__law_any_words ⟨3, [], [0, 1, 2]⟩ es ks) env).run S Q E = (dL g es env).run S (fun xs S => (dL g ks env).run S (fun ys S => (callFn f__law_any_words.toFn ⟨3, [], [0, 1, 2]⟩ xs ys).run S Q E) E) E := rfl
@[simp ↓] theorem x_cf__law_any_words_0 {x0 x1 x2 : PV} : (callFn f__law_any_words.toFn ⟨3, [], [0, 1, 2]⟩ [x0, x1, x2] []).run S Q E = (C__law_any_words [x0, x1, x2]).run S Q E := propext ⟨fun q => q.2, fun q => ⟨⟨rfl, rfl, rfl⟩, q⟩⟩
@[simp ↓] theorem x_call__law_bowl_0 : (dE g (.call i__law_bowl ⟨2, [], [0, 1]⟩ es ks) env).run S Q E = (dL g es env).run S (fun xs S => (dL g ks env).run S (fun ys S => (callFn f__law_bowl.toFn ⟨2, [], [0, 1]⟩ xs ys).run S Q E) E) E := rfl
@[simp ↓] theorem x_cf__law_bowl_0 {x0 x1 : PV} : (callFn f__law_bowl.toFn ⟨2, [], [0, 1]⟩ [x0, x1] []).run S Q E = (C__law_bowl [x0, x1]).run S Q E := propext ⟨fun q => q.2, fun q => ⟨⟨rfl, rfl, rfl⟩, q⟩⟩
@[simp ↓] theorem x_mcall_Program__look_told {o : CE} : (dE g (.mcall i_Program__look_told o es) env).run S Q E = (dE g o env).run S (fun x S => (isIns "Program" "look_told" x).run S (fun _ S => (dL g es env).run S (fun xs S => ((x :: xs).length = 1 ∧ (C_Program__look_told (x :: xs)).run S Q E)) E) E) E := rfl
@[simp ↓] theorem x_prop_Program__deeds {a : CE} : (dE g (.prop i_Program__deeds a) env).run S Q E = (dE g a env).run S (fun x S => (vProp "Program" C_Program__deeds x).run S Q E) E := rfl
@[simp ↓] theorem x_make_Program____init___0 : (dE g (.make i_Program____init__ ⟨3, [], [0, 1, 2, 3]⟩ es ks) env).run S Q E = (dL g es env).run S (fun xs S => (dL g ks env).run S (fun ys S => (makeP "Program" m_Program____init__.fn ⟨3, [], [0, 1, 2, 3]⟩ xs ys).run S Q E) E) E := rfl
@[simp ↓] theorem x_mk_Program____init___0 {x0 x1 x2 : PV} : (makeP "Program" m_Program____init__.fn ⟨3, [], [0, 1, 2, 3]⟩ [x0, x1, x2] []).run S Q E = ∀ p, S p = none → (C_Program____init__ [(.ref p), x0, x1, x2]).run (put S p (.ins "Program" [])) (fun v S => v = .non ∧ Q (.ref p) S) E := propext ⟨fun q p h => (q.2 p h).2, fun q => ⟨⟨rfl, rfl⟩, fun p h => ⟨rfl, q p h⟩⟩⟩
@[simp ↓] theorem x_lam_wrong_in_6 {kl : Nat} {a b d body : CE} {ps fr own : List Str} {js : List Nat} : (dE g (.callLam i_wrong_in_6 kl a b d ps fr own js body) env).run S Q E = (dE g a env).run S (fun x S => (dE g b env).run S (fun y S => (dE g d env).run S (fun z S => (ofO (capsOf env js)).run S (fun cs S => ∀ f c q vs, (C_wrong_in (.clo f c q cs vs) (lamφ g body ps own cs) [x, y, z, .clo f c q cs vs]).run S Q E) E) E) E) E := rfl
@[simp ↓] theorem x_lam_wrong_in_9 {kl : Nat} {a b d body : CE} {ps fr own : List Str} {js : List Nat} : (dE g (.callLam i_wrong_in_9 kl a b d ps fr own js body) env).run S Q E = (dE g a env).run S (fun x S => (dE g b env).run S (fun y S => (dE g d env).run S (fun z S => (ofO (capsOf env js)).run S (fun cs S => ∀ f c q vs, (C_wrong_in (.clo f c q cs vs) (lamφ g body ps own cs) [x, y, z, .clo f c q cs vs]).run S Q E) E) E) E) E := rfl
@[simp ↓] theorem x_fld_Program {a : CE} {f : Str} : (dE g (.fld k_Program a f) env).run S Q E = (dE g a env).run S (fun x S => (vFld "Program" f x).run S Q E) E := rfl
@[simp ↓] theorem x_put_Program {o : CE} {f : Str} {v : PV} {Q : En → Stt → Prop} : (dG g (.fld k_Program o f) v env).run S Q E = (dE g o env).run S (fun a S => (vPutF "Program" f v a).run S (fun _ S => Q env S) E) E := rfl
@[simp ↓] theorem x_isC_Program {a : CE} : (dE g (.isC k_Program a) env).run S Q E = (dE g a env).run S (fun x S => (vIsC "Program" [] x).run S Q E) E := rfl
end
end Dp.L

namespace Dp.L
open PySem PySem.Spec L2 Dp
open PyProof.Rows hiding St
theorem chk_law : chkDf g 14 d_law = true := by kernel_rfl
theorem chk__law_right : chkDf g 13 d__law_right = true := by kernel_rfl
theorem chk_is_let_by : chkDf g 7 d_is_let_by = true := by kernel_rfl
theorem chk_fault_by : chkDf g 6 d_fault_by = true := by kernel_rfl
theorem chk_Program__look_told : chkDf g 5 d_Program__look_told = true := by kernel_rfl
theorem chk_looked : chkDf g 4 d_looked = true := by kernel_rfl
theorem chk_Program__deeds : chkDf g 0 d_Program__deeds = true := by kernel_rfl
theorem chk_looked_at : chkDf g 3 d_looked_at = true := by kernel_rfl
theorem chk_is_uneven : chkDf g 2 d_is_uneven = true := by kernel_rfl
theorem chk_called : chkDf g 1 d_called = true := by kernel_rfl
theorem chk_index_of : chkDf g 0 d_index_of = true := by kernel_rfl
theorem chk_is_aside : chkDf g 2 d_is_aside = true := by kernel_rfl
theorem chk_effect_of : chkDf g 2 d_effect_of = true := by kernel_rfl
theorem chk_is_whole : chkDf g 0 d_is_whole = true := by kernel_rfl
theorem chk_behind : chkDf g 0 d_behind = true := by kernel_rfl
theorem chk_check_program : chkDf g 0 d_check_program = true := by kernel_rfl
theorem chk_first_fault : chkDf g 7 d_first_fault = true := by kernel_rfl
theorem chk_effects : chkDf g 6 d_effects = true := by kernel_rfl
theorem chk__law_same_0 : chkDf g 0 d__law_same_0 = true := by kernel_rfl
theorem chk__law_same_1 : chkDf g 1 d__law_same_1 = true := by kernel_rfl
theorem chk__law_same_2 : chkDf g 2 d__law_same_2 = true := by kernel_rfl
theorem chk__law_same : chkDf g 3 d__law_same = true := by kernel_rfl
theorem chk__law_program_0 : chkDf g 4 d__law_program_0 = true := by kernel_rfl
theorem chk__law_program : chkDf g 5 d__law_program = true := by kernel_rfl
theorem chk__law_words : chkDf g 3 d__law_words = true := by kernel_rfl
theorem chk__law_plain_effect : chkDf g 0 d__law_plain_effect = true := by kernel_rfl
theorem chk__law_of : chkDf g 1 d__law_of = true := by kernel_rfl
theorem chk__law_draw : chkDf g 0 d__law_draw = true := by kernel_rfl
theorem chk__law_number : chkDf g 2 d__law_number = true := by kernel_rfl
theorem chk__law_names : chkDf g 2 d__law_names = true := by kernel_rfl
theorem chk__law_own : chkDf g 0 d__law_own = true := by kernel_rfl
theorem chk__law_effect : chkDf g 1 d__law_effect = true := by kernel_rfl
theorem chk__law_effect_l : chkDf g 1 d__law_effect_l = true := by kernel_rfl
theorem chk__law_made : chkDf g 12 d__law_made = true := by kernel_rfl
theorem chk_Program____init__ : chkDf g 10 d_Program____init__ = true := by kernel_rfl
theorem chk_wrong_in_deeds : chkDf g 9 d_wrong_in_deeds = true := by kernel_rfl
theorem chk_is_deed : chkDf g 6 d_is_deed = true := by kernel_rfl
theorem chk_is_word_by : chkDf g 3 d_is_word_by = true := by kernel_rfl
theorem chk_is_one_of : chkDf g 0 d_is_one_of = true := by kernel_rfl
theorem chk_is_number : chkDf g 2 d_is_number = true := by kernel_rfl
theorem chk_is_between : chkDf g 1 d_is_between = true := by kernel_rfl
theorem chk_is_call : chkDf g 2 d_is_call = true := by kernel_rfl
theorem chk_is_pair : chkDf g 1 d_is_pair = true := by kernel_rfl
theorem chk_is_tuple_of : chkDf g 0 d_is_tuple_of = true := by kernel_rfl
theorem chk_is_name : chkDf g 1 d_is_name = true := by kernel_rfl
theorem chk_is_word : chkDf g 0 d_is_word = true := by kernel_rfl
theorem chk_check_number : chkDf g 2 d_check_number = true := by kernel_rfl
theorem chk__law_looked : chkDf g 3 d__law_looked = true := by kernel_rfl
theorem chk__law_is_short : chkDf g 2 d__law_is_short = true := by kernel_rfl
theorem chk__law_any_program : chkDf g 4 d__law_any_program = true := by kernel_rfl
theorem chk__law_any_words : chkDf g 3 d__law_any_words = true := by kernel_rfl
theorem chk__law_bowl : chkDf g 0 d__law_bowl = true := by kernel_rfl
theorem chk_wrong_in_6 : ∀ v φ, chkDf { g with lam := some (v, φ) } 5 d_wrong_in = true := by intro v φ; kernel_rfl
theorem chk_wrong_in_9 : ∀ v φ, chkDf { g with lam := some (v, φ) } 8 d_wrong_in = true := by intro v φ; kernel_rfl
end Dp.L

namespace Dp.L
open PySem PySem.Spec L2 Dp
open PyProof.Rows hiding St
theorem mulA {i j : Int} (h : -10000000 ≤ i ∧ i ≤ 10000000) : CMulA i j := .inl (.inl ⟨by omega, by omega⟩)
theorem mulB {i j : Int} (h : -10000000 ≤ j ∧ j ≤ 10000000) : CMulA i j := .inl (.inr ⟨by omega, by omega⟩)
section
variable {S : Stt} {Q : PV → Stt → Prop} {E : Exc → Stt → Prop}
@[simp ↓ high] theorem x_inLs {s : Str} {l : List Str} : (Cop.isin.sem (.str s) (.lst (l.map .str))).run S Q E = (fine2 (.str s) (.lst (l.map .str)) ∧ Q (.bl (decide (s ∈ l))) S) := by rw [r_inL, any_str]; simp
@[simp ↓ high] theorem x_inTs {s : Str} {l : List Str} : (Cop.isin.sem (.str s) (.tup (l.map .str))).run S Q E = (fine2 (.str s) (.tup (l.map .str)) ∧ Q (.bl (decide (s ∈ l))) S) := by rw [r_inT, any_str]; simp
@[simp ↓ high] theorem x_ninLs {s : Str} {l : List Str} : (Cop.notin.sem (.str s) (.lst (l.map .str))).run S Q E = (fine2 (.str s) (.lst (l.map .str)) ∧ Q (.bl (decide (s ∉ l))) S) := by rw [r_ninL, any_str]; simp
@[simp ↓ high] theorem x_ninTs {s : Str} {l : List Str} : (Cop.notin.sem (.str s) (.tup (l.map .str))).run S Q E = (fine2 (.str s) (.tup (l.map .str)) ∧ Q (.bl (decide (s ∉ l))) S) := by rw [r_ninT, any_str]; simp
@[simp ↓] theorem x_is_wholeI {i : Int} : (C_is_whole [.int i]).run S Q E = Q (.bl true) S := rfl
@[simp ↓] theorem x_is_wholeS {i : Str} : (C_is_whole [.str i]).run S Q E = Q (.bl false) S := rfl
@[simp ↓] theorem x_is_wholeT {i : List PV} : (C_is_whole [.tup i]).run S Q E = Q (.bl false) S := rfl
@[simp ↓] theorem x_is_betweenI {i a b : Int} : (C_is_between [.int i, .int a, .int b]).run S Q E = Q (.bl (decide (a ≤ i) && decide (i ≤ b))) S := rfl
@[simp ↓] theorem x_is_betweenS {i : Str} {a b : Int} : (C_is_between [.str i, .int a, .int b]).run S Q E = Q (.bl false) S := rfl
@[simp ↓] theorem x_is_betweenT {i : List PV} {a b : Int} : (C_is_between [.tup i, .int a, .int b]).run S Q E = Q (.bl false) S := rfl
@[simp ↓] theorem x_is_numberI {i : Int} : (C_is_number [.int i]).run S Q E = Q (.bl (decide (-99 ≤ i) && decide (i ≤ 99))) S := rfl
@[simp ↓] theorem x_is_numberS {i : Str} : (C_is_number [.str i]).run S Q E = Q (.bl false) S := rfl
@[simp ↓] theorem x_is_numberT {i : List PV} : (C_is_number [.tup i]).run S Q E = Q (.bl false) S := rfl
theorem x_is_one_of {s : Str} {l : List Str} (h1 : ∀ y ∈ l, PyData.strOk y = true) (h2 : PyData.strOk s = true) : (C_is_one_of [.str s, .lst (l.map .str)]).run S Q E = Q (.bl (decide (s ∈ l))) S :=
  (x_onStrs h1).trans (propext ⟨fun q => q.2, fun q => ⟨h2, q⟩⟩)
@[simp ↓] theorem x_is_one_ofT {i l : List PV} : (C_is_one_of [.tup i, .lst l]).run S Q E = Q (.bl false) S := rfl
@[simp ↓] theorem x_is_tuple_of {xs : List PV} {n : Int} : (C_is_tuple_of [.tup xs, .int n]).run S Q E = Q (.bl (decide ((xs.length : Int) = n))) S := rfl
@[simp ↓] theorem x_is_pair {xs : List PV} : (C_is_pair [.tup xs]).run S Q E = Q (.bl (decide ((xs.length : Int) = 2))) S := rfl
theorem x_is_call {h n : Str} {l : List Str} (h1 : ∀ y ∈ l, PyData.strOk y = true) (h2 : h ∈ hows ∧ n ∈ l) : (C_is_call [.lst (l.map .str), .tup [.str h, .str n]]).run S Q E = Q (.bl true) S :=
  (x_onStrs h1).trans (propext ⟨fun q => q.2, fun q => ⟨h2, q⟩⟩)
@[simp ↓] theorem x_is_word {s : Str} : (C_is_word [.str s]).run S Q E = (goodName s = true ∧ Q (.bl true) S) := rfl
@[simp ↓] theorem x_is_name {s : Str} : (C_is_name [.str s]).run S Q E = (goodName s = true ∧ Q (.bl true) S) := rfl
@[simp ↓] theorem x_check_number {n a b : Int} : (C_check_number [.int n, .int a, .int b]).run S Q E = ((a ≤ n ∧ n ≤ b) ∧ Q .non S) := rfl
@[simp ↓] theorem x_behind {a b t l : Int} : (C_behind [.tup [.int a, .int b], .tup [.int t, .int l]]).run S Q E = Q (.tup [.int (behindE (a, b) t l).1, .int (behindE (a, b) t l).2]) S := rfl
end
/-- a comprehension, one value a turn -/
theorem compM_map {ι : Type} {h : ι → PV} {f : ι → PV} {body : PV → List PV → M (List PV)} : ∀ {ys : List ι} {acc : List PV} {S : Stt} {Q : List PV → Stt → Prop} {E : Exc → Stt → Prop},
    (∀ y ∈ ys, ∀ (acc : List PV) (Q : List PV → Stt → Prop) (E : Exc → Stt → Prop), acc.length < sizeLine → Q (acc ++ [f y]) S → (body (h y) acc).run S Q E) → acc.length + ys.length ≤ sizeLine → Q (acc ++ ys.map f) S → (compM .fix body (ys.map h) acc).run S Q E
  | [], acc, S, Q, E, _, _, q => by simpa using q
  | y :: ys, acc, S, Q, E, hb, hl, q => by
    rw [List.map_cons, r_cmS]
    simp only [List.length_cons] at hl
    refine hb y (by simp) acc _ _ (by omega) ?_
    exact compM_map (fun z hz => hb z (by simp [hz])) (by simp; omega) (by simpa using q)
/-- a comprehension with a test -/
theorem compM_filter {ι : Type} {h : ι → PV} {f : ι → PV} {p : ι → Bool} {body : PV → List PV → M (List PV)} : ∀ {ys : List ι} {acc : List PV} {S : Stt} {Q : List PV → Stt → Prop} {E : Exc → Stt → Prop},
    (∀ y ∈ ys, ∀ (acc : List PV) (Q : List PV → Stt → Prop) (E : Exc → Stt → Prop), acc.length < sizeLine → Q (if p y then acc ++ [f y] else acc) S → (body (h y) acc).run S Q E) → acc.length + ys.length ≤ sizeLine → Q (acc ++ (ys.filter p).map f) S → (compM .fix body (ys.map h) acc).run S Q E
  | [], acc, S, Q, E, _, _, q => by simpa using q
  | y :: ys, acc, S, Q, E, hb, hl, q => by
    rw [List.map_cons, r_cmS]
    simp only [List.length_cons] at hl
    refine hb y (by simp) acc _ _ (by omega) ?_
    by_cases hp : p y = true
    · rw [if_pos hp]
      exact compM_filter (fun z hz => hb z (by simp [hz])) (by simp; omega) (by simpa [List.filter_cons, hp] using q)
    · rw [if_neg hp]
      exact compM_filter (fun z hz => hb z (by simp [hz])) (by omega) (by simpa [List.filter_cons, hp] using q)
@[simp] theorem appK_eq {γ : Sort _} {l : List PV} {x : PV} {k : List PV → γ} : appK l x k = k (l ++ [x]) := rfl
@[simp] theorem catK_eq {γ : Sort _} {l m : List PV} {k : List PV → γ} : catK l m k = k (l ++ m) := rfl
theorem blsT {n : Nat} : blsOf (List.replicate n (PV.bl true)) = some (List.replicate n true) := by
  induction n with
  | zero => rfl
  | succ n ih => rw [List.replicate_succ, List.replicate_succ]; simp [blsOf, ih]
theorem plains_ok : ∀ y ∈ plains, PyData.strOk y = true := by decide +kernel
theorem hows_ok : ∀ y ∈ hows, PyData.strOk y = true := by decide +kernel
theorem letters_ok {c : Nat} (h : isLetter c = true) : c < 0x110000 := by
  unfold isLetter at h
  have : ∀ c ∈ lettersS.cps.toList, c < 0x110000 := by decide +kernel
  exact this c (of_decide_eq_true h)
structure GN (s : Str) : Prop where
  lo : 1 ≤ s.length
  hi : s.length ≤ 8
  lt : ∀ c ∈ s.cps.toList, isLetter c = true
  nb : s ∉ barred
theorem gn {s : Str} (h : goodName s = true) : GN s := by
  unfold goodName at h
  simp only [Bool.and_eq_true, decide_eq_true_eq, List.all_eq_true] at h
  exact ⟨h.1.1.1, h.1.1.2, h.1.2, h.2⟩
theorem gn_ok {s : Str} (h : goodName s = true) : PyData.strOk s = true := by
  have g := gn h
  show s.cps.all _ = true
  rw [← Array.all_toList, List.all_eq_true]
  intro c hc
  exact decide_eq_true (letters_ok (g.lt c hc))
theorem le_is_whole {i : Int} : M.le (C_is_whole [.int i]) (d_is_whole.den g [.int i]) := by
  intro S Q E q
  rw [den_eq (body := c_is_whole) (env := [some (.int i)]) rfl rfl]
  unfold c_is_whole
  simp [isiNames, isiB]
  exact q
theorem le_is_wholeS {i : Str} : M.le (C_is_whole [.str i]) (d_is_whole.den g [.str i]) := by
  intro S Q E q
  rw [den_eq (body := c_is_whole) (env := [some (.str i)]) rfl rfl]
  unfold c_is_whole
  simp [isiNames, isiB]
  exact q
theorem le_is_wholeT {i : List PV} : M.le (C_is_whole [.tup i]) (d_is_whole.den g [.tup i]) := by
  intro S Q E q
  rw [den_eq (body := c_is_whole) (env := [some (.tup i)]) rfl rfl]
  unfold c_is_whole
  simp [isiNames, isiB]
  exact q
theorem le_is_between {i a b : Int} : M.le (C_is_between [.int i, .int a, .int b]) (d_is_between.den g [.int i, .int a, .int b]) := by
  intro S Q E q
  rw [den_eq (body := c_is_between) (env := [some (.int i), some (.int a), some (.int b)]) rfl rfl]
  unfold c_is_between
  simp
  by_cases h : a ≤ i <;> by_cases h2 : i ≤ b <;> simp [h, h2] <;> simpa [h, h2] using q
theorem le_is_betweenS {i : Str} {a b : Int} : M.le (C_is_between [.str i, .int a, .int b]) (d_is_between.den g [.str i, .int a, .int b]) := by
  intro S Q E q
  rw [den_eq (body := c_is_between) (env := [some (.str i), some (.int a), some (.int b)]) rfl rfl]
  unfold c_is_between
  simp
  exact q
theorem le_is_betweenT {i : List PV} {a b : Int} : M.le (C_is_between [.tup i, .int a, .int b]) (d_is_between.den g [.tup i, .int a, .int b]) := by
  intro S Q E q
  rw [den_eq (body := c_is_between) (env := [some (.tup i), some (.int a), some (.int b)]) rfl rfl]
  unfold c_is_between
  simp
  exact q
theorem le_is_number {i : Int} : M.le (C_is_number [.int i]) (d_is_number.den g [.int i]) := by
  intro S Q E q
  rw [den_eq (body := c_is_number) (env := [some (.int i)]) rfl rfl]
  unfold c_is_number
  simp
  exact q
theorem le_is_numberS {i : Str} : M.le (C_is_number [.str i]) (d_is_number.den g [.str i]) := by
  intro S Q E q
  rw [den_eq (body := c_is_number) (env := [some (.str i)]) rfl rfl]
  unfold c_is_number
  simp
  exact q
theorem le_is_numberT {i : List PV} : M.le (C_is_number [.tup i]) (d_is_number.den g [.tup i]) := by
  intro S Q E q
  rw [den_eq (body := c_is_number) (env := [some (.tup i)]) rfl rfl]
  unfold c_is_number
  simp
  exact q
theorem le_is_one_ofS {s : Str} {ys : List PV} : M.le (C_is_one_of [.str s, .lst ys]) (d_is_one_of.den g [.str s, .lst ys]) := by
  rintro S Q E ⟨l, rfl, h1, h2, q⟩
  rw [den_eq (body := c_is_one_of) (env := [some (.str s), some (.lst (l.map .str))]) rfl rfl]
  unfold c_is_one_of
  simp [isiNames, isiB, (fine2_strs h2 h1).1, any_str]
  exact q
theorem le_is_one_ofT {i ys : List PV} : M.le (C_is_one_of [.tup i, .lst ys]) (d_is_one_of.den g [.tup i, .lst ys]) := by
  intro S Q E q
  rw [den_eq (body := c_is_one_of) (env := [some (.tup i), some (.lst ys)]) rfl rfl]
  unfold c_is_one_of
  simp [isiNames, isiB]
  exact q
theorem le_is_tuple_of {xs : List PV} {n : Int} : M.le (C_is_tuple_of [.tup xs, .int n]) (d_is_tuple_of.den g [.tup xs, .int n]) := by
  intro S Q E q
  rw [den_eq (body := c_is_tuple_of) (env := [some (.tup xs), some (.int n)]) rfl rfl]
  unfold c_is_tuple_of
  simp [isiNames, isiB]
  exact q
theorem le_is_pair {xs : List PV} : M.le (C_is_pair [.tup xs]) (d_is_pair.den g [.tup xs]) := by
  intro S Q E q
  rw [den_eq (body := c_is_pair) (env := [some (.tup xs)]) rfl rfl]
  unfold c_is_pair
  simp
  exact q
end Dp.L

namespace Dp.L
open PySem PySem.Spec L2 Dp
open PyProof.Rows hiding St
theorem strs_nil : ([] : List Str).map PV.str = [] := rfl
theorem le_is_call {ns : List PV} {h n : Str} : M.le (C_is_call [.lst ns, .tup [.str h, .str n]]) (d_is_call.den g [.lst ns, .tup [.str h, .str n]]) := by
  rintro S Q E ⟨l, rfl, h1, ⟨h2, h3⟩, q⟩
  rw [den_eq (body := c_is_call) (env := [some (.lst (l.map .str)), some (.tup [.str h, .str n])]) rfl rfl]
  unfold c_is_call
  have e1 : (PV.tup [PV.str "do", PV.str "times", PV.str "if"]) = .tup (hows.map .str) := rfl
  have e2 : ∀ {Q : PV → Stt → Prop}, (C_is_one_of [.str h, .lst [PV.str "do", PV.str "times", PV.str "if"]]).run S Q E = Q (.bl true) S := fun {Q} => by
    have := x_is_one_of (S := S) (Q := Q) (E := E) (s := h) (l := hows) hows_ok (hows_ok _ h2)
    rw [decide_eq_true h2] at this
    exact this
  simp [e2, x_is_one_of h1 (h1 _ h3), h3]
  exact q
theorem le_is_word_byI {ns : List PV} {i : Int} : M.le (C_is_word_by [.lst ns, .int i]) (d_is_word_by.den g [.lst ns, .int i]) := by
  rintro S Q E ⟨h, q⟩
  rw [den_eq (body := c_is_word_by) (env := [some (.lst ns), some (.int i)]) rfl rfl]
  unfold c_is_word_by
  simp [h]
  exact q
theorem e_plains {S : Stt} {Q : PV → Stt → Prop} {E : Exc → Stt → Prop} {s : Str} (h : s ∈ plains) : (C_is_one_of [.str s, .lst [PV.str "add", PV.str "sub", PV.str "mul", PV.str "dup", PV.str "drop", PV.str "swap", PV.str "ink", PV.str "shift", PV.str "turn", PV.str "flip", PV.str "box", PV.str "tri", PV.str "clip"]]).run S Q E = Q (.bl true) S := by
  have := x_is_one_of (S := S) (Q := Q) (E := E) (s := s) (l := plains) plains_ok (plains_ok _ h)
  rw [decide_eq_true h] at this
  exact this
theorem le_is_word_byS {ns : List PV} {i : Str} : M.le (C_is_word_by [.lst ns, .str i]) (d_is_word_by.den g [.lst ns, .str i]) := by
  rintro S Q E ⟨h, q⟩
  rw [den_eq (body := c_is_word_by) (env := [some (.lst ns), some (.str i)]) rfl rfl]
  unfold c_is_word_by
  simp [e_plains h]
  exact q
theorem le_is_word_byT {ns : List PV} {h n : Str} : M.le (C_is_word_by [.lst ns, .tup [.str h, .str n]]) (d_is_word_by.den g [.lst ns, .tup [.str h, .str n]]) := by
  rintro S Q E ⟨l, rfl, h1, h2, q⟩
  rw [den_eq (body := c_is_word_by) (env := [some (.lst (l.map .str)), some (.tup [.str h, .str n])]) rfl rfl]
  unfold c_is_word_by
  simp [x_is_call h1 h2]
  exact q
theorem le_check_number {n a b : Int} : M.le (C_check_number [.int n, .int a, .int b]) (d_check_number.den g [.int n, .int a, .int b]) := by
  rintro S Q E ⟨h, q⟩
  rw [den_eq (body := c_check_number) (env := [some (.int n), some (.int a), some (.int b)]) rfl rfl]
  unfold c_check_number
  simp [h]
  exact q
theorem le_behind {a b t l : Int} : M.le (C_behind [.tup [.int a, .int b], .tup [.int t, .int l]]) (d_behind.den g [.tup [.int a, .int b], .tup [.int t, .int l]]) := by
  intro S Q E q
  rw [den_eq (body := c_behind) (env := [some (.tup [.int a, .int b]), some (.tup [.int t, .int l]), none, none, none, none]) rfl rfl]
  unfold c_behind
  simp [lenTs, sizeLine]
  have q : Q (.tup [.int (behindE (a, b) t l).1, .int (behindE (a, b) t l).2]) S := q
  unfold behindE at q
  by_cases h : b < t
  · simpa [h] using q
  · simpa [h] using q
theorem strOk_lit {x : Str} (h : PyData.strOk x = true) : PV.fine 30 (.str x) = true := by simpa [PV.fine] using h
theorem chr_ok {c : Nat} (h : isLetter c = true) : PyData.strOk ⟨#[c]⟩ = true := by
  show (#[c] : Array Nat).all _ = true
  simp [letters_ok h]
theorem le_is_word {s : Str} : M.le (C_is_word [.str s]) (d_is_word.den g [.str s]) := by
  rintro S Q E ⟨h, q⟩
  rw [den_eq (body := c_is_word) (env := [some (.str s), none]) rfl rfl]
  unfold c_is_word
  have G := gn h
  have ok := gn_ok h
  have ne : ¬ (s = "") := fun e => by have := G.lo; rw [e] at this; exact absurd this (by decide +kernel)
  have f2 : fine2 (.str s) (.str "") := ⟨strOk_lit ok, by decide +kernel⟩
  simp [isiNames, isiB, f2, ne, lenTs, strItems]
  have hl := G.hi
  have hsz : s.length ≤ sizeLine := by unfold sizeLine; omega
  have hln : s.cps.toList.length = s.length := by simp [Str.length]
  refine compM_map (f := fun _ => PV.bl true) (fun c hc acc Q E ha q => ?_) (by simp [Str.length] at hl ⊢; unfold sizeLine; omega) ?_
  · have hm : c ∈ lettersS.cps.toList := by have := G.lt c hc; unfold isLetter at this; exact of_decide_eq_true this
    rw [r_compF]
    simp only [↓r_gn, ↓k_setS, ↓k_set0, ↓r_c0, ↓r_cmp, ↓r_var, ↓r_getS, ↓r_get0, ↓x_glob_LETTERS, ↓r_inS]
    rw [if_pos trivial]
    refine ⟨rfl, ha, ?_⟩
    have e : (false ^^ decide (#[c].getD 0 0 ∈ (Str.ofString "abcdefghijklmnopqrstuvwxyz").cps.toList)) = true := by
      show (false ^^ decide (c ∈ lettersS.cps.toList)) = true
      rw [decide_eq_true hm]; rfl
    rw [e, appK_eq]
    exact q
  · rw [List.nil_append, List.map_const', blsT]
    simpa using q
theorem le_is_name {s : Str} : M.le (C_is_name [.str s]) (d_is_name.den g [.str s]) := by
  rintro S Q E ⟨h, q⟩
  rw [den_eq (body := c_is_name) (env := [some (.str s)]) rfl rfl]
  unfold c_is_name
  have G := gn h
  have ok := gn_ok h
  have hl : s.length ≤ sizeLine := by have := G.hi; unfold sizeLine; omega
  have hi : (s.length : Int) ≤ 8 := by have := G.hi; omega
  have f2 := (fine2_strs (x := s) (ys := barred) ok (by decide +kernel)).2
  have f2' : fine2 (.str s) (.tup [PV.str "add", PV.str "box", PV.str "clip", PV.str "drop", PV.str "dup", PV.str "end", PV.str "flip", PV.str "if", PV.str "ink", PV.str "mul", PV.str "page", PV.str "shift", PV.str "sub", PV.str "swap", PV.str "times", PV.str "to", PV.str "tri", PV.str "turn"]) := f2
  have nb : (true ^^ ([PV.str "add", PV.str "box", PV.str "clip", PV.str "drop", PV.str "dup", PV.str "end", PV.str "flip", PV.str "if", PV.str "ink", PV.str "mul", PV.str "page", PV.str "shift", PV.str "sub", PV.str "swap", PV.str "times", PV.str "to", PV.str "tri", PV.str "turn"].any fun y => PV.eqv y (.str s))) = true := by
    have e := any_str (ys := barred) (x := s)
    rw [show barred.map PV.str = [PV.str "add", PV.str "box", PV.str "clip", PV.str "drop", PV.str "dup", PV.str "end", PV.str "flip", PV.str "if", PV.str "ink", PV.str "mul", PV.str "page", PV.str "shift", PV.str "sub", PV.str "swap", PV.str "times", PV.str "to", PV.str "tri", PV.str "turn"] from rfl] at e
    rw [e, decide_eq_false G.nb]; rfl
  simp only [↓r_runB, ↓r_bc, ↓r_rt, ↓r_and, ↓x_call_is_word_0, ↓r_lc, ↓r_l0, ↓r_var, ↓r_get0, ↓x_cf_is_word_0, ↓x_is_word, ↓r_trb, ↓r_cmp, ↓r_callB, ↓r_lenS, ↓x_glob_MOST_LETTERS, ↓x_glob_WORDS, ↓r_le, ↓r_b1, ↓r_ninT, h, hl, hi, f2', nb, decide_true, if_true, true_and, ↓r_srr, ↓r_ert]
  exact q
end Dp.L

namespace Dp.L
open PySem PySem.Spec L2 Dp
open PyProof.Rows hiding St
theorem cut_take {α : Type} {xs : List α} {i : Nat} (h : i ≤ xs.length) : cutL xs none (some (i : Int)) = xs.take i := by
  unfold cutL
  rw [HT.sIx_nat, HT.sIx_none, Nat.min_eq_left h]
  simp
theorem enumP_eq {xs : List PV} : enumP xs = xs.zipIdx.map fun p => .tup [.int (p.2 : Nat), p.1] := by
  unfold enumP
  rw [List.mapIdx_eq_zipIdx_map]
theorem zipIdx_get {α : Type} {xs : List α} {p : α × Nat} (h : p ∈ xs.zipIdx) : xs[p.2]? = some p.1 := by
  obtain ⟨x, i⟩ := p
  simpa [List.mem_zipIdx_iff_getElem?] using h
theorem le_wrong_in {v : PV} {φ : List PV → M PV} {xs : List PV} {l m : Int} {u : PV} : M.le (C_wrong_in v φ [.tup xs, .int l, .int m, u]) (d_wrong_in.den { g with lam := some (v, φ) } [.tup xs, .int l, .int m, u]) := by
  rintro S Q E ⟨⟨rfl, h1, h2, h3⟩, hφ, q⟩
  rw [den_eq (body := c_wrong_in) (env := [some (.tup xs), some (.int l), some (.int m), some (u), none, none]) rfl rfl]
  unfold c_wrong_in
  have h1' : ¬ ((xs.length : Int) < l) := by omega
  simp [isiNames, isiB, h1']
  rw [enumP_eq]
  refine forM_inv (fun env S' => (∃ e1 e2, env = [some (.tup xs), some (.int l), some (.int m), some u, e1, e2]) ∧ S' = S) (fun p hp env S' Q E h q => ?_) ⟨⟨_, _, rfl⟩, rfl⟩ ?_
  · obtain ⟨⟨e1, e2, rfl⟩, rfl⟩ := h
    have hx := zipIdx_get hp
    have hlt : p.2 < xs.length := by
      rw [List.getElem?_eq_some_iff] at hx
      exact hx.1
    have hne : ¬ ((p.2 : Int) = m) := by omega
    simp [lenTs, hne, cut_take (Nat.le_of_lt hlt)]
    refine hφ p.2 p.1 hx _ ?_
    simp
    exact q _ _ ⟨⟨_, _, rfl⟩, rfl⟩
  · rintro env S' ⟨⟨e1, e2, rfl⟩, rfl⟩
    simp [sizeLine]
    exact q
/-- what a lambda says, as the checker of a list wants it -/
theorem x_wrong_in {v : PV} {φ : List PV → M PV} {xs : List PV} {l m : Int} {S : Stt} {Q : PV → Stt → Prop} {E : Exc → Stt → Prop} (h : l ≤ (xs.length : Int) ∧ (xs.length : Int) ≤ m ∧ xs.length ≤ 1000) (hφ : ∀ (i : Nat) (x : PV), xs[i]? = some x → ∀ R : PV → Stt → Prop, R (.bl true) S → (φ [.tup (xs.take i), x]).run S R (fun _ _ => False)) (q : Q (.lst []) S) : (C_wrong_in v φ [.tup xs, .int l, .int m, v]).run S Q E :=
  ⟨⟨rfl, h⟩, hφ, q⟩
theorem x_is_word_by {w : Wd} {l : List Str} {S : Stt} {Q : PV → Stt → Prop} {E : Exc → Stt → Prop} (hl : ∀ y ∈ l, PyData.strOk y = true) (h : w.ok l) (q : Q (.bl true) S) : (C_is_word_by [.lst (l.map .str), w.pv]).run S Q E := by
  cases w with
  | num i => exact ⟨h, q⟩
  | pl s => exact ⟨h, q⟩
  | call hh n => exact ⟨l, rfl, hl, h, q⟩
theorem get_map' {α β : Type} {f : α → β} {l : List α} {i : Nat} {y : β} (h : (l.map f)[i]? = some y) : ∃ x, l[i]? = some x ∧ f x = y := by
  rw [List.getElem?_map, Option.map_eq_some_iff] at h
  exact h
theorem le_is_deed {ns ws : List PV} {n : Str} : M.le (C_is_deed [.lst ns, .tup [.str n, .tup ws]]) (d_is_deed.den g [.lst ns, .tup [.str n, .tup ws]]) := by
  rintro S Q E ⟨l, rfl, h1, wl, rfl, hw, ⟨h2, h3, h4⟩, q⟩
  rw [den_eq (body := c_is_deed) (env := [some (.lst (l.map .str)), some (.tup [.str n, .tup (wl.map Wd.pv)])]) rfl rfl]
  unfold c_is_deed
  have ok := gn_ok h2
  simp [h2, (fine2_strs ok h1).1, h3]
  intro f c' q' vs
  refine x_wrong_in (by simp; omega) (fun i x hx R hR => ?_) ?_
  · obtain ⟨w, hw1, rfl⟩ := get_map' hx
    simp
    exact x_is_word_by h1 (hw w (List.mem_of_getElem? hw1)) hR
  · simp [fine2, PV.fine, PV.fineL, PV.eqv, PV.eqvL, sizeLine]
    exact q
end Dp.L

namespace Dp.L
open PySem PySem.Spec L2 Dp
open PyProof.Rows hiding St
theorem nms_ok {ds : List Deed} (h : ∀ (i : Nat) (d : Deed), ds[i]? = some d → goodName d.1 = true) : ∀ y ∈ nms ds, PyData.strOk y = true := fun y hy => by
  obtain ⟨d, hd, rfl⟩ := List.mem_map.mp hy
  obtain ⟨i, hi, e⟩ := List.mem_iff_getElem.mp hd
  exact gn_ok (h i d (by rw [List.getElem?_eq_getElem hi, e]))
theorem DeedsOk.nms {ds : List Deed} (h : DeedsOk ds) : ∀ y ∈ nms ds, PyData.strOk y = true := nms_ok fun i d e => (h.each i d e).1
theorem nms_take {ds : List Deed} {i : Nat} : nms (ds.take i) = (nms ds).take i := by unfold nms; rw [List.map_take]
theorem take_ok {l : List Str} {i : Nat} (h : ∀ y ∈ l, PyData.strOk y = true) : ∀ y ∈ l.take i, PyData.strOk y = true := fun y hy => h y (List.take_sublist i l |>.subset hy)
/-- not named before -/
theorem not_before {ds : List Deed} (h : (nms ds).Nodup) {i : Nat} {d : Deed} (e : ds[i]? = some d) : d.1 ∉ nms (ds.take i) := by
  intro hm
  rw [nms_take] at hm
  obtain ⟨j, hj, e2⟩ := List.mem_iff_getElem.mp hm
  rw [List.length_take] at hj
  have hi : i < ds.length := by
    rw [List.getElem?_eq_some_iff] at e; exact e.1
  have e3 : (nms ds)[i]? = some d.1 := by unfold nms; rw [List.getElem?_map, e]; rfl
  have hjl : j < (nms ds).length := by omega
  have e4 : (nms ds)[j]? = some d.1 := by
    rw [List.getElem?_eq_getElem hjl]
    rw [List.getElem_take] at e2
    rw [e2]
  have hi' : i < (nms ds).length := by unfold nms; rw [List.length_map]; exact hi
  refine (List.pairwise_iff_getElem.mp h) j i hjl hi' (by omega) ?_
  rw [List.getElem?_eq_getElem hi'] at e3
  rw [List.getElem?_eq_getElem hjl] at e4
  rw [Option.some.inj e3, Option.some.inj e4]
theorem x_is_deed {l : List Str} {d : Deed} {S : Stt} {Q : PV → Stt → Prop} {E : Exc → Stt → Prop} (hl : ∀ y ∈ l, PyData.strOk y = true) (h : goodName d.1 = true) (h2 : 1 ≤ d.2.length ∧ d.2.length ≤ 40) (h3 : ∀ x ∈ d.2, x.ok l) (h4 : d.1 ∉ l) (q : Q (.bl true) S) : (C_is_deed [.lst (l.map .str), deedPV d]).run S Q E :=
  ⟨l, rfl, hl, d.2, rfl, h3, ⟨h, h4, h2.1, h2.2⟩, q⟩
theorem take_map {α β : Type} {f : α → β} {l : List α} {i : Nat} : (l.map f).take i = (l.take i).map f := by rw [List.map_take]
theorem le_wrong_in_deeds {ds : List PV} : M.le (C_wrong_in_deeds [.tup ds]) (d_wrong_in_deeds.den g [.tup ds]) := by
  rintro S Q E ⟨l, rfl, h, q⟩
  rw [den_eq (body := c_wrong_in_deeds) (env := [some (.tup (l.map deedPV)), none]) rfl rfl]
  unfold c_wrong_in_deeds
  simp
  intro f c' q' vs
  have hl := h.len
  refine x_wrong_in (by simp; omega) (fun i x hx R hR => ?_) ?_
  · obtain ⟨d, hd, rfl⟩ := get_map' hx
    obtain ⟨k1, k2, k3⟩ := h.each i d hd
    simp only [↓r_lamφ2, ↓x_call_is_deed_0, ↓r_lc, ↓r_l0, ↓r_comp, ↓r_iv, ↓r_var, ↓r_get0, ↓r_srt, List.map_cons, List.map_nil, List.nil_append, List.length_cons, List.length_nil, List.replicate, ↓k_wipeS, ↓k_wipe0, ↓k_setS, ↓k_set0]
    rw [take_map]
    refine compM_map (f := fun d : Deed => PV.str d.1) (fun d hd acc Q E ha q => ?_) (by simp; unfold sizeLine; omega) ?_
    · rw [r_compF]
      simp [deedPV, ha]
      exact q
    · rw [List.nil_append, show (List.take i l).map (fun d : Deed => PV.str d.1) = (nms (l.take i)).map .str by unfold nms; rw [List.map_map]; rfl, r_getS, r_get0, x_cf_is_deed_0]
      exact x_is_deed (nms_ok fun j d e => (h.each j d (by
        rw [List.getElem?_take] at e
        split at e
        · exact e
        · cases e)).1) k1 k2 k3 (not_before h.nd hd) hR
  · exact q
theorem map_fst {l : List Deed} : l.map (fun d : Deed => PV.str d.1) = (nms l).map .str := by unfold nms; rw [List.map_map]; rfl
theorem x_onPrg {p : Addr} {P : Prg} {a b c : PV} {f : Prg → PV → PV → PV → M PV} {S : Stt} {Q : PV → Stt → Prop} {E : Exc → Stt → Prop} (o : P.ok) (h : S p = some (.ins "Program" (fsP P a b c))) (q : (f P a b c).run S Q E) : (onPrg p f).run S Q E := ⟨P, a, b, c, o, h, q⟩
theorem le_check_program {p : Addr} : M.le (C_check_program [.ref p]) (d_check_program.den g [.ref p]) := by
  rintro S Q E ⟨P, a, b, c, o, h, q⟩
  rw [den_eq (body := c_check_program) (env := [some (.ref p)]) rfl rfl]
  unfold c_check_program
  simp [r_isCA h]
  exact q
theorem look_all {P : Prg} {a b c : PV} : (fsP P a b c).lookup ("all_told" : Str) = some P.pv := by
  unfold fsP; rw [List.lookup_cons]; rfl
theorem look_seen {P : Prg} {a b c : PV} : (fsP P a b c).lookup ("seen" : Str) = some a := by
  unfold fsP; rw [List.lookup_cons, show (("seen" : Str) == "all_told") = false by decide +kernel, List.lookup_cons]; rfl
theorem le_Program__deeds {p : Addr} : M.le (C_Program__deeds [.ref p]) (d_Program__deeds.den g [.ref p]) := by
  rintro S Q E ⟨P, a, b, c, o, h, q⟩
  rw [den_eq (body := c_Program__deeds) (env := [some (.ref p)]) rfl rfl]
  unfold c_Program__deeds
  simp [r_fldA h look_all, Prg.pv]
  exact q
@[simp ↓] theorem x_putP {C f : Str} {a : Addr} {fs : List (Str × PV)} {v : PV} {S : Stt} {Q : Unit → Stt → Prop} {E : Exc → Stt → Prop} : (vPutF C f v (.ref a)).run (put S a (.ins C fs)) Q E = (fs.length < 1000 ∧ Q () (put S a (.ins C (putP f v fs)))) := by rw [r_putA put_same, put_put]
theorem put1 {v : PV} : putP "all_told" v [] = ([("all_told", v)] : List (Str × PV)) := rfl
theorem put2 {v u : PV} : putP "seen" u ([("all_told", v)] : List (Str × PV)) = ([("all_told", v), ("seen", u)] : List (Str × PV)) := by
  simp only [putP, if_neg (show ¬ (("all_told" : Str) = "seen") by decide +kernel)]
theorem put3 {v u t : PV} : putP "ran" t ([("all_told", v), ("seen", u)] : List (Str × PV)) = ([("all_told", v), ("seen", u), ("ran", t)] : List (Str × PV)) := by
  simp only [putP, if_neg (show ¬ (("all_told" : Str) = "ran") by decide +kernel), if_neg (show ¬ (("seen" : Str) = "ran") by decide +kernel)]
theorem put4 {v u t z : PV} : putP "painted" z ([("all_told", v), ("seen", u), ("ran", t)] : List (Str × PV)) = ([("all_told", v), ("seen", u), ("ran", t), ("painted", z)] : List (Str × PV)) := by
  simp only [putP, if_neg (show ¬ (("all_told" : Str) = "painted") by decide +kernel), if_neg (show ¬ (("seen" : Str) = "painted") by decide +kernel), if_neg (show ¬ (("ran" : Str) = "painted") by decide +kernel)]
theorem putSeen {P : Prg} {a b c u : PV} : putP "seen" u (fsP P a b c) = fsP P u b c := by
  unfold fsP
  simp only [putP, if_neg (show ¬ (("all_told" : Str) = "seen") by decide +kernel), if_true]
theorem le_Program____init__ {p : Addr} {w h : Int} {ds : List PV} : M.le (C_Program____init__ [.ref p, .int w, .int h, .tup ds]) (d_Program____init__.den g [.ref p, .int w, .int h, .tup ds]) := by
  rintro S Q E ⟨hS, l, rfl, hd, ⟨h1, h2⟩, q⟩
  rw [den_eq (body := c_Program____init__) (env := [some (.ref p), some (.int w), some (.int h), some (.tup (l.map deedPV)), none]) rfl rfl]
  unfold c_Program____init__
  have cw : ∀ {Q : PV → Stt → Prop}, (C_wrong_in_deeds [.tup (l.map deedPV)]).run S Q E = Q (.lst []) S := fun {Q} => x_onDeeds hd
  simp [h1, h2, cw, sizeLine, lenTs, r_putA hS, put1, put2, put3, put4]
  exact q
theorem le__law_made {w h : Int} {ds : List PV} : M.le (C__law_made [.tup [.int w, .int h, .tup ds]]) (d__law_made.den g [.tup [.int w, .int h, .tup ds]]) := by
  rintro S Q E ⟨l, rfl, hd, ⟨h1, h2⟩, q⟩
  rw [den_eq (body := c__law_made) (env := [some (.tup [.int w, .int h, .tup (l.map deedPV)])]) rfl rfl]
  unfold c__law_made
  simp
  intro p hp
  refine ⟨put_same, l, rfl, hd, ⟨h1, h2⟩, ?_⟩
  show PV.non = PV.non ∧ Q (.ref p) (put (put S p _) p _)
  rw [put_put]
  exact ⟨rfl, q p hp⟩
theorem le_index_of {ds : List PV} {n : Str} : M.le (C_index_of [.tup ds, .str n]) (d_index_of.den g [.tup ds, .str n]) := by
  rintro S Q E ⟨l, rfl, h, hn, q⟩
  rw [den_eq (body := c_index_of) (env := [some (.tup (l.map deedPV)), some (.str n), none]) rfl rfl]
  unfold c_index_of
  simp only [↓r_runB, ↓r_bc, ↓r_rt, ↓r_meth, ↓r_comp, ↓r_iv, ↓r_var, ↓r_get0, ↓r_srt, List.map_cons, List.map_nil, ↓k_wipeS, ↓k_wipe0, ↓k_setS, ↓k_set0]
  have hl := h.len
  refine compM_map (f := fun d : Deed => PV.str d.1) (fun d hd acc Q E ha q => ?_) (by simp; unfold sizeLine; omega) ?_
  · rw [r_compF]
    simp [deedPV, ha]
    exact q
  · rw [List.nil_append, map_fst]
    have f2 := fine2_strs (h.nms n hn) h.nms
    simp [f2.1, findP_str hn]
    exact q
/-- at an owned list of effects -/
theorem x_onEffs' {b : Addr} {l : List Eff} {f : List Eff → M PV} {S : Stt} {Q : PV → Stt → Prop} {E : Exc → Stt → Prop} (h : S b = some (.lst (l.map effPV))) (q : (f l).run S Q E) : (onEffs b f).run S Q E := ⟨l, h, q⟩
theorem ixRef {b : Addr} {xs : List PV} {i : PV} {S : Stt} {Q : PV → Stt → Prop} {E : Exc → Stt → Prop} (h : S b = some (.lst xs)) : (vIdx (.ref b) i).run S Q E = (vIdx (.lst xs) i).run S Q E := by
  rw [← put_id h]; exact r_ixR
theorem atI_nat {α : Type} {l : List α} {i : Nat} (h : i < l.length) : atI l (i : Int) = l[i]? := by
  unfold atI ixN; simp [h]
theorem le_called {ds : List PV} {b : Addr} {h n : Str} : M.le (C_called [.tup ds, .ref b, .tup [.str h, .str n]]) (d_called.den g [.tup ds, .ref b, .tup [.str h, .str n]]) := by
  rintro S Q E ⟨l, rfl, hd, told, hb, ⟨h1, h2⟩, q⟩
  rw [den_eq (body := c_called) (env := [some (.tup (l.map deedPV)), some (.ref b), some (.tup [.str h, .str n])]) rfl rfl]
  unfold c_called
  have ci : ∀ {Q : PV → Stt → Prop}, (C_index_of [.tup (l.map deedPV), .str n]).run S Q E = Q (.int ((nms l).idxOf n)) S := fun {Q} => (x_onDeeds hd).trans (propext ⟨fun q => q.2, fun q => ⟨h1, q⟩⟩)
  simp [ci, ixRef hb]
  rw [r_ixL, atI_nat (by simpa using h2), List.getElem?_map, List.getElem?_eq_getElem h2]
  have e : calledE (nms l) told n = told[(nms l).idxOf n] := by unfold calledE; rw [List.getElem?_eq_getElem h2]; rfl
  rw [e] at q
  exact q
end Dp.L

namespace Dp.L
open PySem PySem.Spec L2 Dp
open PyProof.Rows hiding St
theorem idx_take {l : List Str} {k : Nat} {n : Str} (h : n ∈ l.take k) : n ∈ l ∧ l.idxOf n < k := by
  have hm : n ∈ l := List.take_sublist k l |>.subset h
  refine ⟨hm, ?_⟩
  have e : l.idxOf n = (l.take k).idxOf n := by
    conv => lhs; rw [← List.take_append_drop k l]
    rw [List.idxOf_append, if_pos h]
  rw [e]
  have := List.idxOf_lt_length_of_mem h
  rw [List.length_take] at this
  omega
section
variable {S : Stt} {Q : PV → Stt → Prop} {E : Exc → Stt → Prop} {l : List Deed} {b : Addr} {told : List Eff} {h n : Str}
theorem x_called (hd : DeedsOk l) (hb : S b = some (.lst (told.map effPV))) (hn : n ∈ (nms l).take told.length) : (C_called [.tup (l.map deedPV), .ref b, .tup [.str h, .str n]]).run S Q E = Q (effPV (calledE (nms l) told n)) S :=
  (x_onDeeds hd).trans ((x_onEffs hb).trans (propext ⟨fun q => q.2, fun q => ⟨idx_take hn, q⟩⟩))
theorem x_is_aside (hd : DeedsOk l) (hb : S b = some (.lst (told.map effPV))) {w : Wd} (hw : w.ok ((nms l).take told.length)) : (C_is_aside [.tup (l.map deedPV), .ref b, w.pv]).run S Q E = Q (.bl (match wordE (nms l) told w with | .aside => true | _ => false)) S :=
  (x_onDeeds hd).trans ((x_onEffs hb).trans (propext ⟨fun ⟨w', e, _, q⟩ => by rw [Wd.pv_inj e] at q; exact q, fun q => ⟨w, rfl, hw, q⟩⟩))
theorem x_is_uneven (hd : DeedsOk l) (hb : S b = some (.lst (told.map effPV))) {w : Wd} (hw : w.ok ((nms l).take told.length)) : (C_is_uneven [.tup (l.map deedPV), .ref b, w.pv]).run S Q E = (match wordE (nms l) told w with | .aside => stuck | .uneven => ret (.bl true) | .eff _ _ => ret (.bl false) : M PV).run S Q E :=
  (x_onDeeds hd).trans ((x_onEffs hb).trans (propext ⟨fun ⟨w', e, _, q⟩ => by rw [Wd.pv_inj e] at q; exact q, fun q => ⟨w, rfl, hw, q⟩⟩))
theorem x_effect_of (hd : DeedsOk l) (hb : S b = some (.lst (told.map effPV))) {w : Wd} (hw : w.ok ((nms l).take told.length)) : (C_effect_of [.tup (l.map deedPV), .ref b, w.pv]).run S Q E = (match wordE (nms l) told w with | .eff t l => ret (.tup [.int t, .int l]) | _ => stuck : M PV).run S Q E :=
  (x_onDeeds hd).trans ((x_onEffs hb).trans (propext ⟨fun ⟨w', e, _, q⟩ => by rw [Wd.pv_inj e] at q; exact q, fun q => ⟨w, rfl, hw, q⟩⟩))
end
section
variable {names : List Str} {told : List Eff} {h n : Str} {t l : Int}
theorem wE_none (e : calledE names told n = none) : wordE names told (.call h n) = .aside := by unfold wordE; simp [e]
theorem wE_do (e : calledE names told n = some (t, l)) (hh : h = "do") : wordE names told (.call h n) = .eff t l := by unfold wordE; simp [e, hh]
theorem wE_eq (e : calledE names told n = some (t, l)) (hh : ¬ h = "do") (he : t = l) : wordE names told (.call h n) = .eff (t + 1) l := by unfold wordE; simp [e, hh, he]
theorem wE_ne (e : calledE names told n = some (t, l)) (hh : ¬ h = "do") (he : ¬ t = l) : wordE names told (.call h n) = .uneven := by unfold wordE; simp [e, hh, he]
end
theorem isNon_eff {e : Eff} : isNon (effPV e) = e.isNone := by cases e <;> rfl
theorem le_is_aside {ds : List PV} {b : Addr} {x : PV} : M.le (C_is_aside [.tup ds, .ref b, x]) (d_is_aside.den g [.tup ds, .ref b, x]) := by
  rintro S Q E ⟨l, rfl, hd, told, hb, w, rfl, hw, q⟩
  rw [den_eq (body := c_is_aside) (env := [some (.tup (l.map deedPV)), some (.ref b), some (w.pv)]) rfl rfl]
  unfold c_is_aside
  cases w with
  | num i => simp [Wd.pv, isiNames, isiB]; exact q
  | pl s => simp [Wd.pv, isiNames, isiB]; exact q
  | call h n =>
    simp [Wd.pv, isiNames, isiB, x_called hd hb hw.2, isNon_eff]
    have q : Q (.bl (match wordE (nms l) told (.call h n) with | .aside => true | _ => false)) S := q
    cases e : calledE (nms l) told n with
    | none => rw [wE_none e] at q; exact q
    | some p =>
      obtain ⟨t, ll⟩ := p
      by_cases h1 : h = "do"
      · rw [wE_do e h1] at q; exact q
      · by_cases h2 : t = ll
        · rw [wE_eq e h1 h2] at q; exact q
        · rw [wE_ne e h1 h2] at q; exact q
theorem fine_do {h : Str} (hh : PyData.strOk h = true) : fine2 (.str h) (.str "do") := ⟨strOk_lit hh, by decide +kernel⟩
theorem fdo : fine2 (.str (Str.ofString "do")) (.str (Str.ofString "do")) := ⟨by decide +kernel, by decide +kernel⟩
theorem le_is_uneven {ds : List PV} {b : Addr} {x : PV} : M.le (C_is_uneven [.tup ds, .ref b, x]) (d_is_uneven.den g [.tup ds, .ref b, x]) := by
  rintro S Q E ⟨l, rfl, hd, told, hb, w, rfl, hw, q⟩
  rw [den_eq (body := c_is_uneven) (env := [some (.tup (l.map deedPV)), some (.ref b), some (w.pv), none, none]) rfl rfl]
  unfold c_is_uneven
  cases w with
  | num i => simp [Wd.pv, isiNames, isiB]; exact q
  | pl s => simp [Wd.pv, isiNames, isiB]; exact q
  | call h n =>
    have hf := fine_do (hows_ok h hw.1)
    have q : (match wordE (nms l) told (.call h n) with | .aside => stuck | .uneven => ret (.bl true) | .eff _ _ => ret (.bl false) : M PV).run S Q E := q
    cases e : calledE (nms l) told n with
    | none => rw [wE_none e] at q; exact q.elim
    | some p =>
      obtain ⟨t, ll⟩ := p
      by_cases h1 : h = "do"
      · rw [wE_do e h1] at q
        simp [Wd.pv, isiNames, isiB, fdo, h1]
        exact q
      · simp [Wd.pv, isiNames, isiB, hf, h1, x_called hd hb hw.2, e, effPV, lenTs]
        by_cases h2 : t = ll
        · rw [wE_eq e h1 h2] at q; simpa [h2] using q
        · rw [wE_ne e h1 h2] at q; simpa [h2] using q
theorem dl_eff {s : Str} (h : s ∈ plains) : dlook [Sum.inr "add", Sum.inr "sub", Sum.inr "mul", Sum.inr "dup", Sum.inr "drop", Sum.inr "swap", Sum.inr "ink", Sum.inr "shift", Sum.inr "turn", Sum.inr "flip", Sum.inr "box", Sum.inr "tri", Sum.inr "clip"] [PV.tup [PV.int 2, PV.int 1], PV.tup [PV.int 2, PV.int 1], PV.tup [PV.int 2, PV.int 1], PV.tup [PV.int 1, PV.int 2], PV.tup [PV.int 1, PV.int 0], PV.tup [PV.int 2, PV.int 2], PV.tup [PV.int 1, PV.int 0], PV.tup [PV.int 2, PV.int 0], PV.tup [PV.int 0, PV.int 0], PV.tup [PV.int 0, PV.int 0], PV.tup [PV.int 2, PV.int 0], PV.tup [PV.int 4, PV.int 0], PV.tup [PV.int 2, PV.int 0]] (.inr s) = some (.tup [.int (plE s).1, .int (plE s).2]) := by
  unfold plains at h
  simp only [List.mem_cons, List.not_mem_nil, or_false] at h
  rcases h with h | h | h | h | h | h | h | h | h | h | h | h | h <;> rw [h] <;> rfl
theorem le_effect_of {ds : List PV} {b : Addr} {x : PV} : M.le (C_effect_of [.tup ds, .ref b, x]) (d_effect_of.den g [.tup ds, .ref b, x]) := by
  rintro S Q E ⟨l, rfl, hd, told, hb, w, rfl, hw, q⟩
  rw [den_eq (body := c_effect_of) (env := [some (.tup (l.map deedPV)), some (.ref b), some (w.pv), none, none]) rfl rfl]
  unfold c_effect_of
  cases w with
  | num i => simp [Wd.pv]; exact q
  | pl s =>
    simp [Wd.pv, isiNames, isiB, dl_eff hw]
    exact q
  | call h n =>
    have hf := fine_do (hows_ok h hw.1)
    have q : (match wordE (nms l) told (.call h n) with | .eff t l => ret (.tup [.int t, .int l]) | _ => stuck : M PV).run S Q E := q
    cases e : calledE (nms l) told n with
    | none => rw [wE_none e] at q; exact q.elim
    | some p =>
      obtain ⟨t, ll⟩ := p
      by_cases h1 : h = "do"
      · rw [wE_do e h1] at q
        simp [Wd.pv, isiNames, isiB, fdo, h1, x_called hd hb hw.2, e, effPV, lenTs, sizeLine]
        exact q
      · by_cases h2 : t = ll
        · rw [wE_eq e h1 h2] at q
          simp [Wd.pv, isiNames, isiB, hf, h1, x_called hd hb hw.2, e, effPV, lenTs, sizeLine]
          exact q
        · rw [wE_ne e h1 h2] at q; exact q.elim
end Dp.L

namespace Dp.L
open PySem PySem.Spec L2 Dp
open PyProof.Rows hiding St
theorem frz_at {i : Nat} {env : En} {a : Addr} {xs : List PV} {S : Stt} {Q : En → Stt → Prop} {E : Exc → Stt → Prop} (he : env[i]? = some (some (.ref a))) (ha : S a = some (.lst xs)) (q : Q (env.set i (some (.lst xs))) (del S a)) : (freezeV i env).run S Q E := by
  unfold freezeV
  rw [he]
  exact ⟨xs, ha, q⟩
def sF (b : Bool) (i : Nat) (l : List Nat) : List Fault := if b then l.map fun k => (i, k, false) else []
theorem loop_la {l : List Deed} {b f : Addr} {told : List Eff} {i : Nat} {S : Stt} (hd : DeedsOk l) (hb : S b = some (.lst (told.map effPV))) (hf : S f = none) (hfb : f ≠ b) {Q : Res → Stt → Prop} {E : Exc → Stt → Prop} :
    ∀ (ws : List Wd) (k : Nat) (w : Int × Int) (fs : List Fault) (e5 e6 e7 : Option PV), (∀ x ∈ ws, x.ok ((nms l).take told.length)) → fs.length + ws.length ≤ 1000 →
    (∀ w' e5 e6 e7, (scan (nms l) told ws k w).1 = some w' → Q (.nx [some (.tup (l.map deedPV)), some (.ref b), some (.int i), some (.tup [.int w'.1, .int w'.2]), some (.ref f), e5, e6, e7]) (put S f (.lst ((fs ++ sF (decide ((i : Int) = (l.length : Int) - 1)) i (shorts (nms l) told ws k w)).map faultPV)))) →
    ((scan (nms l) told ws k w).1 = none → Q (.rt (.tup [.non, .lst ((fs ++ sF (decide ((i : Int) = (l.length : Int) - 1)) i (shorts (nms l) told ws k w) ++ (match (scan (nms l) told ws k w).2 with | some k => [(i, k, true)] | none => [])).map faultPV)])) S) →
    (forM .fix (turnF g (.tup (.cons (.name 5) (.cons (.name 6) .nil))) (.cons (.ifs (.tv (.call i_is_aside ⟨3, [], [0, 1, 2]⟩ (.cons (.var 0) (.cons (.var 1) (.cons (.var 6) .nil))) .nil)) (.frz 4 (.cons (.ret (.tup (.cons .non (.cons (.var 4) .nil)))) .nil)) .nil) (.cons (.ifs (.tv (.call i_is_uneven ⟨3, [], [0, 1, 2]⟩ (.cons (.var 0) (.cons (.var 1) (.cons (.var 6) .nil))) .nil)) (.frz 4 (.cons (.ret (.tup (.cons .non (.cons (.lst false (.star (.var 4) (.cons (.tup (.cons (.var 2) (.cons (.var 5) (.cons (.glob g_UNEVEN) .nil)))) .nil))) .nil)))) .nil)) .nil) (.cons (.asg (.name 7) (.call i_effect_of ⟨3, [], [0, 1, 2]⟩ (.cons (.var 0) (.cons (.var 1) (.cons (.var 6) .nil))) .nil)) (.cons (.ifs (.and (.cmp .eq (.var 2) (.bin .sub (.callB .len (.cons (.var 0) .nil)) (.int 1))) (.and (.cmp .eq (.ix (.var 3) (.int 0)) (.int 0)) (.b1 (.cmp .gt (.ix (.var 7) (.int 0)) (.ix (.var 3) (.int 1)))))) (.cons (.expr (.meth .append (.var 4) (.cons (.tup (.cons (.var 2) (.cons (.var 5) (.cons (.glob g_SHORT) .nil)))) .nil))) .nil) .nil) (.cons (.asg (.name 3) (.call i_behind ⟨2, [], [0, 1]⟩ (.cons (.var 3) (.cons (.var 7) .nil)) .nil)) .nil)))))) ((ws.zipIdx k).map fun p => .tup [.int (p.2 : Nat), p.1.pv]) [some (.tup (l.map deedPV)), some (.ref b), some (.int i), some (.tup [.int w.1, .int w.2]), some (.ref f), e5, e6, e7]).run (put S f (.lst (fs.map faultPV))) Q E
  | [], k, w, fs, e5, e6, e7, _, _, q1, _ => by
    have := q1 w e5 e6 e7 rfl
    simpa [shorts, sF, scan] using this
  | x :: ws, k, w, fs, e5, e6, e7, hw, hl, q1, q2 => by
    have hx := hw x (by simp)
    have hb' : ∀ {c : Cell}, put S f c b = some (.lst (told.map effPV)) := fun {c} => by rw [put_ne (Ne.symm hfb)]; exact hb
    simp only [List.length_cons] at hl
    rw [List.zipIdx_cons, List.map_cons, r_forS]
    simp only [↓r_turn, ↓r_gt, List.length_cons, List.length_nil, lenTs, ↓r_gc, ↓r_gn, ↓k_setS, ↓k_set0, ↓r_g0, ↓r_bc, ↓r_if, ↓r_ttv, ↓x_call_is_aside_0, ↓r_lc, ↓r_l0, ↓r_var, ↓r_getS, ↓r_get0, ↓x_cf_is_aside_0, x_is_aside hd hb' hx]
    refine ⟨trivial, ?_⟩
    cases e : wordE (nms l) told x with
    | aside =>
      have e1 : scan (nms l) told (x :: ws) k w = (none, none) := by unfold scan; rw [e]
      have e2 : shorts (nms l) told (x :: ws) k w = [] := by unfold shorts; rw [e]
      have := q2 (by rw [e1])
      rw [e1, e2] at this
      simp [sizeLine, frz_at, del_put1, del_id hf]
      simpa [sF] using this
    | uneven =>
      have e1 : scan (nms l) told (x :: ws) k w = (none, some k) := by unfold scan; rw [e]
      have e2 : shorts (nms l) told (x :: ws) k w = [] := by unfold shorts; rw [e]
      have := q2 (by rw [e1])
      rw [e1, e2] at this
      have hz : fs.length ≤ 16777215 := by omega
      simp [x_is_uneven hd hb' hx, e, del_put1, del_id hf, sizeLine, hz]
      simpa [sF, faultPV] using this
    | eff t ll =>
      have e1 : scan (nms l) told (x :: ws) k w = scan (nms l) told ws (k + 1) (behindE w t ll) := by
        conv => lhs; unfold scan
        rw [e]
      have e2 : shorts (nms l) told (x :: ws) k w = (if w.1 = 0 ∧ t > w.2 then [k] else []) ++ shorts (nms l) told ws (k + 1) (behindE w t ll) := by
        conv => lhs; unfold shorts
        rw [e]
      rw [e1, e2] at q1 q2
      have hw' : ∀ y ∈ ws, y.ok ((nms l).take told.length) := fun y hy => hw y (by simp [hy])
      simp [x_is_uneven hd hb' hx, x_effect_of hd hb' hx, e]
      have e3 : fs.map faultPV ++ [PV.tup [PV.int (i : Int), PV.int (k : Int), PV.str (Str.ofString "short")]] = (fs ++ [(i, k, false)]).map faultPV := by simp [faultPV]
      have go0 := loop_la (i := i) hd hb hf hfb ws (k + 1) (behindE w t ll) fs (some (.int k)) (some x.pv) (some (.tup [.int t, .int ll])) hw' (by omega) (Q := Q) (E := E)
      have go1 := loop_la (i := i) hd hb hf hfb ws (k + 1) (behindE w t ll) (fs ++ [(i, k, false)]) (some (.int k)) (some x.pv) (some (.tup [.int t, .int ll])) hw' (by simp; omega) (Q := Q) (E := E)
      by_cases h1 : (i : Int) = (l.length : Int) - 1
      · rw [if_pos h1]
        by_cases h2 : w.1 = 0
        · rw [if_pos h2]
          by_cases h3 : w.2 < t
          · rw [if_pos h3]
            refine ⟨by unfold sizeLine; omega, by unfold sizeLine; omega, ?_⟩
            rw [e3]
            rw [if_pos ⟨h2, h3⟩] at q1 q2
            exact go1 (fun w' a5 a6 a7 hs => by have := q1 w' a5 a6 a7 hs; simpa [sF, h1] using this) (fun hs => by have := q2 hs; simpa [sF, h1] using this)
          · rw [if_neg h3]
            rw [if_neg (by simp [h3])] at q1 q2
            exact go0 q1 q2
        · rw [if_neg h2]
          rw [if_neg (by simp [h2])] at q1 q2
          exact go0 q1 q2
      · rw [if_neg h1]
        refine go0 (fun w' a5 a6 a7 hs => ?_) fun hs => ?_
        · have := q1 w' a5 a6 a7 hs; simpa [sF, h1] using this
        · have := q2 hs; simpa [sF, h1] using this
theorem enum_wds {ws : List Wd} : enumP (ws.map Wd.pv) = (ws.zipIdx 0).map fun p => .tup [.int (p.2 : Nat), p.1.pv] := by
  rw [enumP_eq, List.zipIdx_map, List.map_map]; rfl
theorem scan_none {names : List Str} {told : List Eff} : ∀ {ws : List Wd} {k : Nat} {w w' : Int × Int}, (scan names told ws k w).1 = some w' → (scan names told ws k w).2 = none
  | [], k, w, w', h => rfl
  | x :: ws, k, w, w', h => by
    unfold scan at h ⊢
    split at h
    · cases h
    · cases h
    · exact scan_none h
theorem le_looked_at {ds : List PV} {b : Addr} {i : Int} : M.le (C_looked_at [.tup ds, .ref b, .int i]) (d_looked_at.den g [.tup ds, .ref b, .int i]) := by
  rintro S Q E ⟨l, rfl, hd, told, hb, hi, q⟩
  have hi : (told.length : Int) = i := hi
  subst hi
  have q : (match l[told.length]? with
    | some d => ret (.tup [effPV (scan (nms l) told d.2 0 (0, 0)).1, .lst ((faultsAt (nms l) told (decide (told.length + 1 = l.length)) told.length d.2).map faultPV)])
    | none => stuck : M PV).run S Q E := q
  cases ed : l[told.length]? with
  | none => rw [ed] at q; exact q.elim
  | some d =>
    rw [ed] at q
    have q : Q (.tup [effPV (scan (nms l) told d.2 0 (0, 0)).1, .lst ((faultsAt (nms l) told (decide (told.length + 1 = l.length)) told.length d.2).map faultPV)]) S := q
    rw [den_eq (body := c_looked_at) (env := [some (.tup (l.map deedPV)), some (.ref b), some (.int told.length), none, none, none, none, none]) rfl rfl]
    unfold c_looked_at
    obtain ⟨k1, k2, k3⟩ := hd.each _ d ed
    have hlt : told.length < l.length := by
      rw [List.getElem?_eq_some_iff] at ed; exact ed.1
    have hlast : decide ((told.length : Int) = (l.length : Int) - 1) = decide (told.length + 1 = l.length) := decide_eq_decide.mpr (by omega)
    have hix : ∀ {Q : PV → Stt → Prop} {S' : Stt}, (vIdx (.tup (l.map deedPV)) (.int told.length)).run S' Q E = Q (deedPV d) S' := fun {Q S'} => by
      rw [r_ixT, atI_nat (by simpa using hlt), List.getElem?_map, ed]; rfl
    simp only [↓r_runB, ↓r_bc, ↓r_par2, ↓r_lc, ↓r_l0, ↓x_glob_NOTHING, ↓r_own, ↓r_asg2, ↓k_setS, ↓k_set0]
    refine ⟨by simp [sizeLine], fun f hf => ?_⟩
    have hfb : f ≠ b := fun z => by rw [z, hb] at hf; cases hf
    simp only [↓r_snx, ↓r_bc, ↓r_loop, ↓r_ien, ↓r_lc, ↓r_l0, ↓r_ix, ↓r_var, ↓r_getS, ↓r_get0, hix, ↓r_int, deedPV, ↓r_ixT1, ↓r_enT]
    rw [enum_wds]
    refine loop_la hd hb hf hfb d.2 0 (0, 0) [] none none none (by rw [← nms_take]; exact k3) (by simp; omega) (fun w' e5 e6 e7 hs => ?_) fun hs => ?_
    · simp [del_put1, del_id hf, sizeLine]
      rw [hlast]
      unfold faultsAt at q
      rw [scan_none hs, hs] at q
      simpa [sF, effPV] using q
    · rw [hlast]
      unfold faultsAt at q
      rw [hs] at q
      cases e2 : (scan (nms l) told d.2 0 (0, 0)).2 with
      | none => rw [e2] at q; simpa [sF, effPV] using q
      | some k => rw [e2] at q; simpa [sF, effPV] using q
end Dp.L

namespace Dp.L
open PySem PySem.Spec L2 Dp
open PyProof.Rows hiding St
section
variable {S : Stt} {E : Exc → Stt → Prop} {a b : Addr} {xs : List PV}
theorem isT_ref {T : String} {Q : Unit → Stt → Prop} (h : S a = some (.lst xs)) (hT : T = "list") : (isT T (.ref a)).run S Q E = Q () S := by
  subst hT
  refine propext ⟨fun q => ?_, fun q => .inl ⟨xs, h, rfl, q⟩⟩
  rcases q with ⟨ys, e, q⟩ | ⟨n, q⟩
  · exact q.2
  · exact absurd h (n xs)
theorem app_ref {v : PV} {Q : PV → Stt → Prop} (h : S a = some (.lst xs)) : (Mt.append.sem (.ref a) [v]).run S Q E = (xs.length < sizeLine ∧ Q .non (put S a (.lst (xs ++ [v])))) := by
  refine propext ⟨fun ⟨ys, e, l, q⟩ => ?_, fun ⟨l, q⟩ => ⟨xs, h, l, q⟩⟩
  rw [h] at e; cases e; exact ⟨l, q⟩
theorem ext_ref {ys : List PV} {Q : PV → Stt → Prop} (h : S a = some (.lst xs)) : (Mt.extend.sem (.ref a) [.lst ys]).run S Q E = (xs.length + ys.length ≤ sizeLine ∧ Q .non (put S a (.lst (xs ++ ys)))) := by
  refine propext ⟨fun ⟨zs, e, l, q⟩ => ?_, fun ⟨l, q⟩ => ⟨xs, h, l, q⟩⟩
  rw [h] at e; cases e; exact ⟨l, q⟩
theorem put_comm {c d : Cell} (h : a ≠ b) : put (put S a c) b d = put (put S b d) a c := by
  funext x; unfold put
  by_cases h1 : x = b <;> by_cases h2 : x = a <;> simp [h1, h2, h, Ne.symm h]
theorem put3' {c d c' : Cell} (h : a ≠ b) : put (put (put S a c) b d) a c' = put (put S a c') b d := by
  rw [put_comm h, put_put, put_comm (Ne.symm h)]
end
theorem rng_cons {i : Int} {n : Nat} : rngItems i (n + 1) = .int i :: rngItems (i + 1) n := by
  unfold rngItems
  rw [List.range_succ_eq_map, List.map_cons, List.map_map]
  congr 1
  · simp
  · refine List.map_congr_left fun x _ => ?_
    simp
    omega
theorem lookGo_len {names : List Str} {n : Nat} : ∀ {ds : List Deed} {i : Nat} {told : List Eff} {fs : List Fault}, (lookGo names n ds i told fs).1.length = told.length + ds.length
  | [], i, told, fs => rfl
  | d :: ds, i, told, fs => by
    unfold lookGo
    rw [lookGo_len]
    simp; omega
theorem shorts_len {names : List Str} {told : List Eff} : ∀ {ws : List Wd} {k : Nat} {w : Int × Int}, (shorts names told ws k w).length ≤ ws.length
  | [], k, w => by simp [shorts]
  | x :: ws, k, w => by
    unfold shorts
    split
    · rename_i t l e
      have := shorts_len (names := names) (told := told) (ws := ws) (k := k + 1) (w := behindE w t l)
      simp only [List.length_append, List.length_cons]
      split <;> simp <;> omega
    · simp
theorem faultsAt_len {names : List Str} {told : List Eff} {b : Bool} {i : Nat} {ws : List Wd} : (faultsAt names told b i ws).length ≤ ws.length + 1 := by
  unfold faultsAt
  have := shorts_len (names := names) (told := told) (ws := ws) (k := 0) (w := (0, 0))
  cases hs : (scan names told ws 0 (0, 0)).2 <;> cases b <;> simp <;> omega
theorem x_looked_at {l : List Deed} {b : Addr} {told : List Eff} {i : Int} {d : Deed} {S : Stt} {Q : PV → Stt → Prop} {E : Exc → Stt → Prop} (hd : DeedsOk l) (hb : S b = some (.lst (told.map effPV))) (hi : (told.length : Int) = i) (ed : l[told.length]? = some d) : (C_looked_at [.tup (l.map deedPV), .ref b, .int i]).run S Q E =
    Q (.tup [effPV (scan (nms l) told d.2 0 (0, 0)).1, .lst ((faultsAt (nms l) told (decide (told.length + 1 = l.length)) told.length d.2).map faultPV)]) S :=
  (x_onDeeds hd).trans ((x_onEffs hb).trans (propext ⟨fun q => by have q := q.2; rw [ed] at q; exact q, fun q => ⟨hi, by show (match l[told.length]? with | some d => _ | none => _ : M PV).run S Q E; rw [ed]; exact q⟩⟩))
theorem loop_lk {P : Prg} {p b f : Addr} {S : Stt} {a' b' c' : PV} (o : P.ok) (hp : S p = some (.ins "Program" (fsP P a' b' c'))) (hb : S b = none) (hf : S f = none) (hbf : b ≠ f) {Q : Res → Stt → Prop} {E : Exc → Stt → Prop} :
    ∀ (ds : List Deed) (i : Nat) (told : List Eff) (fs : List Fault) (e3 e4 e5 : Option PV), P.ds.drop i = ds → told.length = i → fs.length + ds.length * 41 ≤ 1000 →
    (∀ e3 e4 e5, Q (.nx [some (.ref p), some (.ref b), some (.ref f), e3, e4, e5]) (put (put S b (.lst ((lookGo (nms P.ds) P.ds.length ds i told fs).1.map effPV))) f (.lst ((lookGo (nms P.ds) P.ds.length ds i told fs).2.map faultPV)))) →
    (forM .fix (turnF g (.name 3) (.cons (.asg (.tup (.cons (.name 4) (.cons (.name 5) .nil))) (.call i_looked_at ⟨3, [], [0, 1, 2]⟩ (.cons (.prop i_Program__deeds (.var 0)) (.cons (.var 1) (.cons (.var 3) .nil))) .nil)) (.cons (.expr (.meth .append (.var 1) (.cons (.var 4) .nil))) (.cons (.expr (.meth .extend (.var 2) (.cons (.var 5) .nil))) .nil)))) (rngItems i ds.length) [some (.ref p), some (.ref b), some (.ref f), e3, e4, e5]).run (put (put S b (.lst (told.map effPV))) f (.lst (fs.map faultPV))) Q E
  | [], i, told, fs, e3, e4, e5, _, _, _, q => q e3 e4 e5
  | d :: ds, i, told, fs, e3, e4, e5, hdr, hl, hz, q => by
    have ed : P.ds[told.length]? = some d := by
      rw [hl]
      have := congrArg List.head? hdr
      rw [List.head?_drop] at this
      exact this
    have hlt : i < P.ds.length := by
      rw [← hl]; rw [List.getElem?_eq_some_iff] at ed; exact ed.1
    have hpb : p ≠ b := fun z => by rw [z, hb] at hp; cases hp
    have hpf : p ≠ f := fun z => by rw [z, hf] at hp; cases hp
    have hp' : put (put S b (.lst (told.map effPV))) f (.lst (fs.map faultPV)) p = some (.ins "Program" (fsP P a' b' c')) := by rw [put_ne hpf, put_ne hpb]; exact hp
    have hb' : put (put S b (.lst (told.map effPV))) f (.lst (fs.map faultPV)) b = some (.lst (told.map effPV)) := by rw [put_ne hbf, put_same]
    have cd : ∀ {Q : PV → Stt → Prop} {E : Exc → Stt → Prop}, Q (.tup (P.ds.map deedPV)) (put (put S b (.lst (told.map effPV))) f (.lst (fs.map faultPV))) → (C_Program__deeds [.ref p]).run (put (put S b (.lst (told.map effPV))) f (.lst (fs.map faultPV))) Q E := fun q => x_onPrg o hp' q
    have hw := (o.ds.each _ d ed).2.1
    have hlen := o.ds.len
    simp only [List.length_cons] at hz
    rw [List.length_cons, rng_cons, r_forS]
    simp only [↓r_turn, ↓r_gn, ↓k_setS, ↓k_set0, ↓r_bc, ↓r_asg, ↓x_call_looked_at_0, ↓r_lc, ↓r_l0, ↓x_prop_Program__deeds, ↓r_var, ↓r_getS, ↓r_get0, ↓r_prop]
    refine ⟨⟨_, hp'⟩, cd ?_⟩
    simp only [↓x_cf_looked_at_0, x_looked_at o.ds hb' (by rw [hl]) ed, ↓r_gt, ↓r_gc, ↓r_g0, ↓r_gn, ↓k_setS, ↓k_set0, List.length_cons, List.length_nil, lenTs, ↓r_snx, ↓r_bc, ↓r_ex, ↓r_meth, ↓r_var, ↓r_getS, ↓r_get0, ↓r_lc, ↓r_l0]
    refine ⟨trivial, ?_⟩
    rw [isT_ref (T := Mt.T .append) hb' rfl, app_ref hb', put3' hbf]
    refine ⟨by simp [sizeLine]; omega, ?_⟩
    have hfl := faultsAt_len (names := nms P.ds) (told := told) (b := decide (told.length + 1 = P.ds.length)) (i := told.length) (ws := d.2)
    rw [isT_ref (T := Mt.T .extend) put_same rfl, ext_ref put_same, put_put]
    refine ⟨by simp [sizeLine]; omega, ?_⟩
    simp only [↓r_b0, ↓r_fnx, ↓r_snx]
    have e1 : told.map effPV ++ [effPV (scan (nms P.ds) told d.2 0 (0, 0)).1] = (told ++ [(scan (nms P.ds) told d.2 0 (0, 0)).1]).map effPV := by simp
    rw [e1, ← List.map_append]
    have := loop_lk o hp hb hf hbf ds (i + 1) (told ++ [(scan (nms P.ds) told d.2 0 (0, 0)).1]) (fs ++ faultsAt (nms P.ds) told (decide (told.length + 1 = P.ds.length)) told.length d.2) (some (.int i)) (some (effPV (scan (nms P.ds) told d.2 0 (0, 0)).1)) (some (.lst ((faultsAt (nms P.ds) told (decide (told.length + 1 = P.ds.length)) told.length d.2).map faultPV)))
      (by rw [← List.drop_drop, hdr]; rfl) (by simp [hl]) (by rw [List.length_append]; omega) (Q := Q) (E := E) (fun a3 a4 a5 => by
        have := q a3 a4 a5
        unfold lookGo at this
        rw [hl]
        exact this)
    exact this
end Dp.L

namespace Dp.L
open PySem PySem.Spec L2 Dp
open PyProof.Rows hiding St
theorem range_loc {l : List Deed} : inRng (l.length : Int) ↔ inRng (l.length : Int) := Iff.rfl
theorem le_looked {p : Addr} : M.le (C_looked [.ref p]) (d_looked.den g [.ref p]) := by
  rintro S Q E ⟨P, a', b', c', o, hp, q⟩
  rw [den_eq (body := c_looked) (env := [some (.ref p), none, none, none, none, none]) rfl rfl]
  unfold c_looked
  have cd : ∀ {S : Stt} {Q : PV → Stt → Prop} {E : Exc → Stt → Prop}, S p = some (.ins "Program" (fsP P a' b' c')) → Q (.tup (P.ds.map deedPV)) S → (C_Program__deeds [.ref p]).run S Q E := fun h q => x_onPrg o h q
  have hlen := o.ds.len
  simp only [↓r_runB, ↓r_bc, ↓r_par2, ↓r_lc, ↓r_l0, ↓r_own, ↓r_asg2, ↓k_setS, ↓k_set0]
  refine ⟨by simp [sizeLine], fun b hb => ⟨by simp [sizeLine], fun f hf => ?_⟩⟩
  have hbf : b ≠ f := fun z => by subst z; rw [put_same] at hf; cases hf
  have hf' : S f = none := by rw [put_ne (Ne.symm hbf)] at hf; exact hf
  have hpb : p ≠ b := fun z => by rw [z, hb] at hp; cases hp
  have hpf : p ≠ f := fun z => by rw [z, hf'] at hp; cases hp
  have hp' : put (put S b (.lst [])) f (.lst []) p = some (.ins "Program" (fsP P a' b' c')) := by rw [put_ne hpf, put_ne hpb]; exact hp
  simp only [↓r_snx, ↓r_bc, ↓r_loop, ↓r_ir, ↓r_lc, ↓r_l0, ↓r_callB, ↓x_prop_Program__deeds, ↓r_var, ↓r_get0, ↓r_prop]
  refine ⟨⟨_, hp'⟩, cd hp' ?_⟩
  simp only [↓r_lenT, ↓r_rg1, List.length_map, lenL, List.length_cons, List.length_nil]
  refine ⟨trivial, by unfold inRng; omega, ?_⟩
  rw [show ((P.ds.length : Int)).toNat = P.ds.length by simp]
  refine loop_lk o hp hb hf' hbf P.ds 0 [] [] none none none rfl rfl (by simp; omega) fun e3 e4 e5 => ?_
  simp only [↓r_snx, ↓r_bf, ↓r_frzS]
  refine frz_at (i := 0) (a := b) rfl (by rw [put_ne hbf, put_same]) ?_
  simp only [List.set_cons_zero, ↓r_bf, ↓r_frzS]
  refine frz_at (i := 0) (a := f) rfl (by unfold del; rw [if_neg (Ne.symm hbf), put_same]) ?_
  have hS : del (del (put (put S b (.lst ((lookGo (nms P.ds) P.ds.length P.ds 0 [] []).1.map effPV))) f (.lst ((lookGo (nms P.ds) P.ds.length P.ds 0 [] []).2.map faultPV))) b) f = S := by
    funext x
    unfold del put
    by_cases h1 : x = f
    · subst h1; simp [hf']
    · by_cases h2 : x = b
      · subst h2; simp [h1, hb]
      · simp [h1, h2]
  rw [hS]
  simp [sizeLine]
  exact q
theorem fine_eff {e : Eff} {n : Nat} : PV.fine (n + 1) (effPV e) = true := by
  cases e with
  | none => simp [effPV, PV.fine]
  | some p => simp [effPV, PV.fine, PV.fineL]
theorem fine_fault {f : Fault} {n : Nat} : PV.fine (n + 1) (faultPV f) = true := by
  obtain ⟨i, k, b⟩ := f
  cases b <;> simp [faultPV, PV.fine, PV.fineL] <;> decide +kernel
theorem fine_look {ds : List Deed} : fine2 (lookPV ds) (.tup []) := by
  refine ⟨?_, by simp [PV.fine, PV.fineL]⟩
  unfold lookPV
  simp only [PV.fine, PV.fineL, Bool.and_true, Bool.and_eq_true]
  refine ⟨fineL_all.mpr fun x hx => ?_, fineL_all.mpr fun x hx => ?_⟩
  · obtain ⟨e, _, rfl⟩ := List.mem_map.mp hx; exact fine_eff
  · obtain ⟨e, _, rfl⟩ := List.mem_map.mp hx; exact fine_fault
theorem le_Program__look_told {p : Addr} : M.le (C_Program__look_told [.ref p]) (d_Program__look_told.den g [.ref p]) := by
  rintro S Q E ⟨P, a', b', c', o, hp, ha, q⟩
  have q : Q (lookPV P.ds) (put S p (.ins "Program" (fsP P (lookPV P.ds) b' c'))) := q
  rw [den_eq (body := c_Program__look_told) (env := [some (.ref p)]) rfl rfl]
  unfold c_Program__look_told
  rcases ha with rfl | rfl
  · have cl : ∀ {Q : PV → Stt → Prop} {E : Exc → Stt → Prop}, Q (lookPV P.ds) S → (C_looked [.ref p]).run S Q E := fun q => x_onPrg o hp q
    have f2 : fine2 (.tup []) (.tup []) := ⟨by decide, by decide⟩
    have e2 : PV.eqv (.tup []) (.tup []) = true := by decide
    simp [r_fldA hp look_seen, f2, e2, sizeLine]
    refine cl ?_
    simp [r_putA hp, putSeen, r_fldA put_same look_seen]
    exact ⟨by simp [fsP], q⟩
  · have e2 : PV.eqv (lookPV P.ds) (.tup []) = false := by simp [lookPV, PV.eqv, PV.eqvL]
    have f2 : (Cop.eq.sem (lookPV P.ds) (.tup [])).run S = fun Q E => (fine2 (lookPV P.ds) (.tup []) ∧ Q (.bl (PV.eqv (lookPV P.ds) (.tup []))) S) := rfl
    simp [r_fldA hp look_seen, f2, e2, fine_look, sizeLine]
    have e : put S p (.ins "Program" (fsP P (lookPV P.ds) b' c')) = S := put_id hp
    rw [e] at q
    exact q
theorem look_lt {P : Prg} {a b c : PV} : (fsP P a b c).lookup ("look_told" : Str) = none := by
  unfold fsP
  rw [List.lookup_cons, show (("look_told" : Str) == "all_told") = false by decide +kernel, List.lookup_cons, show (("look_told" : Str) == "seen") = false by decide +kernel, List.lookup_cons, show (("look_told" : Str) == "ran") = false by decide +kernel, List.lookup_cons, show (("look_told" : Str) == "painted") = false by decide +kernel]
  rfl
theorem le_effects {p : Addr} : M.le (C_effects [.ref p]) (d_effects.den g [.ref p]) := by
  rintro S Q E ⟨P, a', b', c', o, hp, ha, q⟩
  rw [den_eq (body := c_effects) (env := [some (.ref p)]) rfl rfl]
  unfold c_effects
  simp
  refine x_onPrg o hp ?_
  simp
  refine ⟨⟨_, hp, ?_⟩, x_onPrg o hp ⟨ha, ?_⟩⟩
  · simpa using (look_lt (P := P) (a := a') (b := b') (c := c'))
  · simp [lookPV]
    exact q
end Dp.L

namespace Dp.L
open PySem PySem.Spec L2 Dp
open PyProof.Rows hiding St
section
variable {S : Stt} {Q : PV → Stt → Prop} {E : Exc → Stt → Prop}
theorem pool3 {p q z : Int} : isPool [.int p, .int q, .int z] := ⟨_, _, _, rfl⟩
@[simp ↓] theorem x__law_draw {a : Addr} {p q z many : Int} : (C__law_draw [.ref a, .int many]).run (plst S a p q z) Q E = ((0 < many ∧ many < 1000000) ∧ ∀ p q z v : Int, 0 ≤ v → v < many → Q (.int v) (plst S a p q z)) := by
  refine propext ⟨fun ⟨h, xs, e, _, q⟩ => ⟨h, fun p' q' z' v h1 h2 => ?_⟩, fun ⟨h, q⟩ => ⟨h, _, put_same, pool3, fun ys ⟨p', q', z', e⟩ v h1 => ?_⟩⟩
  · have := q _ (pool3 (p := p') (q := q') (z := z')) v ⟨h1, h2⟩
    have this : Q (.int v) (put (plst S a _ _ _) a _) := this
    rw [put_put] at this
    exact this
  · subst e
    show Q (.int v) (put (plst S a _ _ _) a _)
    rw [put_put]
    exact q _ _ _ v h1.1 h1.2
@[simp ↓] theorem x__law_ofT {a : Addr} {p q z : Int} {xs : List PV} : (C__law_of [.ref a, .tup xs]).run (plst S a p q z) Q E = ((0 < xs.length ∧ xs.length < 100000) ∧ ∀ p q z : Int, ∀ v ∈ xs, Q v (plst S a p q z)) := by
  refine propext ⟨fun ⟨h, ys, e, _, q⟩ => ⟨h, fun p' q' z' v hv => ?_⟩, fun ⟨h, q⟩ => ⟨h, _, put_same, pool3, fun ys ⟨p', q', z', e⟩ v hv => ?_⟩⟩
  · have this : Q v (put (plst S a _ _ _) a _) := q _ (pool3 (p := p') (q := q') (z := z')) v hv
    rw [put_put] at this
    exact this
  · subst e
    show Q v (put (plst S a _ _ _) a _)
    rw [put_put]
    exact q _ _ _ v hv
@[simp ↓] theorem x__law_ofL {a : Addr} {p q z : Int} {xs : List PV} : (C__law_of [.ref a, .lst xs]).run (plst S a p q z) Q E = ((0 < xs.length ∧ xs.length < 100000) ∧ ∀ p q z : Int, ∀ v ∈ xs, Q v (plst S a p q z)) := x__law_ofT
theorem x__law_ofR {a b : Addr} {p q z : Int} {xs : List PV} (hb : S b = some (.lst xs)) (hab : a ≠ b) : (C__law_of [.ref a, .ref b]).run (plst S a p q z) Q E = ((0 < xs.length ∧ xs.length < 100000) ∧ ∀ p q z : Int, ∀ v ∈ xs, Q v (plst S a p q z)) := by
  have hb' : plst S a p q z b = some (.lst xs) := by unfold plst; rw [put_ne (Ne.symm hab)]; exact hb
  refine propext ⟨fun ⟨xs', e', h, ys, e, _, q⟩ => ?_, fun ⟨h, q⟩ => ⟨xs, hb', ⟨hab, h⟩, _, put_same, pool3, fun ys ⟨p', q', z', e⟩ v hv => ?_⟩⟩
  · rw [hb'] at e'; cases e'
    refine ⟨h.2, fun p' q' z' v hv => ?_⟩
    have this : Q v (put (plst S a _ _ _) a _) := q _ (pool3 (p := p') (q := q') (z := z')) v hv
    rw [put_put] at this
    exact this
  · subst e
    show Q v (put (plst S a _ _ _) a _)
    rw [put_put]
    exact q _ _ _ v hv
@[simp ↓] theorem x__law_number {a : Addr} {p q z : Int} : (C__law_number [.ref a]).run (plst S a p q z) Q E = ∀ p q z v : Int, -99 ≤ v → v ≤ 99 → Q (.int v) (plst S a p q z) := by
  refine propext ⟨fun ⟨xs, e, _, q⟩ => fun p' q' z' v h1 h2 => ?_, fun q => ⟨_, put_same, pool3, fun ys ⟨p', q', z', e⟩ v h1 => ?_⟩⟩
  · have this : Q (.int v) (put (plst S a _ _ _) a _) := q _ (pool3 (p := p') (q := q') (z := z')) v ⟨h1, h2⟩
    rw [put_put] at this
    exact this
  · subst e
    show Q (.int v) (put (plst S a _ _ _) a _)
    rw [put_put]
    exact q _ _ _ v h1.1 h1.2
end
theorem divP {p many : Int} (h : 0 < many ∧ many < 1000000) : CDivP p many := ⟨h.1, PyProof.noPylong_of_log2 (by
    have : many.natAbs < 2 ^ 9000 := Nat.lt_trans (show many.natAbs < 2 ^ 20 by omega) (Nat.pow_lt_pow_right (by omega) (by omega))
    have := Nat.log2_lt (n := many.natAbs) (k := 9000)
    by_cases h0 : many.natAbs = 0
    · omega
    · exact (this h0).mpr (by assumption))⟩
theorem le__law_draw {a : Addr} {many : Int} : M.le (C__law_draw [.ref a, .int many]) (d__law_draw.den g [.ref a, .int many]) := by
  refine le_guard fun h S Q E q => ?_
  obtain ⟨xs, ha, ⟨⟨p, q0, z, e⟩, q⟩⟩ := q
  subst e
  have q : ∀ p' q' z' v : Int, 0 ≤ v → v < many → Q (.int v) (put S a (.lst [.int p', .int q', .int z'])) := fun p' q' z' v h1 h2 => q _ ⟨p', q', z', rfl⟩ v ⟨h1, h2⟩
  rw [den_eq (body := c__law_draw) (env := [some (.ref a), some (.int many), none, none]) rfl rfl]
  unfold c__law_draw
  rw [← put_id ha]
  have m1 : ∀ z, CMulA z 39373 := fun z => mulB (by omega)
  have m2 : ∀ z, CMulA 17011 z := fun z => mulA (by omega)
  have m3 : ∀ z w : Int, CMulA z (w % 4093 + 30011) := fun z w => mulB (by omega)
  have m4 : ∀ z, CMulA 7 z := fun z => mulA (by omega)
  have d1 : ∀ z, CDivW z 733 := fun z => ⟨by omega, by decide⟩
  simp [lenTs, divP h, m1, m2, m3, m4, d1, h.1, r_ixR, put_put]
  split
  · exact q _ _ _ _ (Int.emod_nonneg _ (by omega)) (Int.emod_lt_of_pos _ h.1)
  · exact q _ _ _ _ (Int.emod_nonneg _ (by omega)) (Int.emod_lt_of_pos _ h.1)
theorem atI_int {l : List PV} {v : Int} (h1 : 0 ≤ v) (h2 : v < l.length) : ∃ x ∈ l, ∀ (S : Stt) (Q : PV → Stt → Prop) (E : Exc → Stt → Prop), (ofO (atI l v)).run S Q E = Q x S := by
  have hi : ixN l.length v = some v.toNat := by unfold ixN; rw [if_pos h1, if_pos h2]
  have hl : v.toNat < l.length := by omega
  refine ⟨l[v.toNat], List.getElem_mem hl, fun S Q E => ?_⟩
  rw [r_at hi, List.getElem?_eq_getElem hl]
  rfl
theorem le__law_ofT {a : Addr} {xs : List PV} : M.le (C__law_of [.ref a, .tup xs]) (d__law_of.den g [.ref a, .tup xs]) := by
  refine le_guard fun h S Q E q => ?_
  obtain ⟨xs', ha, ⟨⟨p, q0, z, e⟩, q⟩⟩ := q
  subst e
  have q : ∀ p' q' z' : Int, ∀ v ∈ xs, Q v (put S a (.lst [.int p', .int q', .int z'])) := fun p' q' z' v h1 => q _ ⟨p', q', z', rfl⟩ v h1
  rw [den_eq (body := c__law_of) (env := [some (.ref a), some (.tup xs)]) rfl rfl]
  unfold c__law_of
  rw [← put_id ha]
  simp [r_ixT]
  refine ⟨by omega, fun p' q' z' v h1 h2 => ?_⟩
  obtain ⟨x, hx, e⟩ := atI_int h1 h2
  rw [e]
  exact q p' q' z' x hx
theorem le__law_ofL {a : Addr} {xs : List PV} : M.le (C__law_of [.ref a, .lst xs]) (d__law_of.den g [.ref a, .lst xs]) := by
  refine le_guard fun h S Q E q => ?_
  obtain ⟨xs', ha, ⟨⟨p, q0, z, e⟩, q⟩⟩ := q
  subst e
  have q : ∀ p' q' z' : Int, ∀ v ∈ xs, Q v (put S a (.lst [.int p', .int q', .int z'])) := fun p' q' z' v h1 => q _ ⟨p', q', z', rfl⟩ v h1
  rw [den_eq (body := c__law_of) (env := [some (.ref a), some (.lst xs)]) rfl rfl]
  unfold c__law_of
  rw [← put_id ha]
  simp [r_ixL]
  refine ⟨by omega, fun p' q' z' v h1 h2 => ?_⟩
  obtain ⟨x, hx, e⟩ := atI_int h1 h2
  rw [e]
  exact q p' q' z' x hx
theorem le__law_ofR {a b : Addr} : M.le (C__law_of [.ref a, .ref b]) (d__law_of.den g [.ref a, .ref b]) := by
  rintro S Q E ⟨xs, hb, ⟨hab, h⟩, xs', ha, ⟨p, q0, z, e⟩, q⟩
  subst e
  have q : ∀ p' q' z' : Int, ∀ v ∈ xs, Q v (put S a (.lst [.int p', .int q', .int z'])) := fun p' q' z' v h1 => q _ ⟨p', q', z', rfl⟩ v h1
  rw [den_eq (body := c__law_of) (env := [some (.ref a), some (.ref b)]) rfl rfl]
  unfold c__law_of
  have hb' : ∀ {p q z : Int}, plst S a p q z b = some (.lst xs) := fun {p q z} => by unfold plst; rw [put_ne (Ne.symm hab)]; exact hb
  rw [← put_id ha]
  have hlen : ∀ {Q : PV → Stt → Prop} {E : Exc → Stt → Prop} {p q z : Int}, (Bf.len.sem [.ref b]).run (plst S a p q z) Q E = Q (.int xs.length) (plst S a p q z) := fun {Q E p q z} => by
    refine propext ⟨fun qq => ?_, fun qq => .inl ⟨xs, hb', qq⟩⟩
    rcases qq with ⟨ys, e, qq⟩ | ⟨n, qq⟩
    · rw [hb'] at e; cases e; exact qq
    · exact absurd hb' (n xs)
  simp [hlen, ixRef hb', r_ixL]
  refine ⟨by omega, fun p' q' z' v h1 h2 => ?_⟩
  obtain ⟨x, hx, e⟩ := atI_int h1 h2
  rw [e]
  exact q p' q' z' x hx
theorem le__law_number {a : Addr} : M.le (C__law_number [.ref a]) (d__law_number.den g [.ref a]) := by
  rintro S Q E ⟨xs', ha, ⟨p, q0, z, e⟩, q⟩
  subst e
  have q : ∀ p' q' z' v : Int, -99 ≤ v → v ≤ 99 → Q (.int v) (put S a (.lst [.int p', .int q', .int z'])) := fun p' q' z' v h1 h2 => q _ ⟨p', q', z', rfl⟩ v ⟨h1, h2⟩
  rw [den_eq (body := c__law_number) (env := [some (.ref a)]) rfl rfl]
  unfold c__law_number
  rw [← put_id ha]
  simp [sizeLine]
  intro v h1 h2 p' q' z'
  refine ⟨?_, ?_, ?_, ?_, ?_, ?_, ?_, ?_⟩ <;> exact q _ _ _ _ (by omega) (by omega)
theorem split_own : Txt.split ("add box clip do drop dup flip if ink mul shift short sub swap times tri turn uneven" : Str) (" " : Str) = ownNames := by decide +kernel
theorem le__law_own : M.le (C__law_own []) (d__law_own.den g []) := by
  intro S Q E q
  rw [den_eq (body := c__law_own) (env := []) rfl rfl]
  unfold c__law_own
  simp
  rw [split_own]
  exact ⟨⟨by decide +kernel, by decide +kernel⟩, q⟩
theorem le__law_plain_effectI {i : Int} : M.le (C__law_plain_effect [.int i]) (d__law_plain_effect.den g [.int i]) := by
  intro S Q E q
  rw [den_eq (body := c__law_plain_effect) (env := [some (.int i)]) rfl rfl]
  unfold c__law_plain_effect
  simp [isiNames, isiB, sizeLine]
  exact q
theorem dl_plain {s : Str} (h : s ∈ plains) : (dlook [Sum.inr "add", Sum.inr "sub", Sum.inr "mul", Sum.inr "dup", Sum.inr "drop", Sum.inr "swap", Sum.inr "ink", Sum.inr "tri", Sum.inr "turn", Sum.inr "flip"] [PV.tup [PV.int 2, PV.int 1], PV.tup [PV.int 2, PV.int 1], PV.tup [PV.int 2, PV.int 1], PV.tup [PV.int 1, PV.int 2], PV.tup [PV.int 1, PV.int 0], PV.tup [PV.int 2, PV.int 2], PV.tup [PV.int 1, PV.int 0], PV.tup [PV.int 4, PV.int 0], PV.tup [PV.int 0, PV.int 0], PV.tup [PV.int 0, PV.int 0]] (.inr s)).getD (.tup [.int 2, .int 0]) = .tup [.int (plE s).1, .int (plE s).2] := by
  unfold plains at h
  simp only [List.mem_cons, List.not_mem_nil, or_false] at h
  rcases h with h | h | h | h | h | h | h | h | h | h | h | h | h <;> rw [h] <;> rfl
theorem x_dct10 {S : Stt} {Q : PV → Stt → Prop} {E : Exc → Stt → Prop} {v0 v1 v2 v3 v4 v5 v6 v7 v8 v9 : PV} : (mkDct [(.str "add", v0), (.str "sub", v1), (.str "mul", v2), (.str "dup", v3), (.str "drop", v4), (.str "swap", v5), (.str "ink", v6), (.str "tri", v7), (.str "turn", v8), (.str "flip", v9)]).run S Q E = Q (.dct [Sum.inr "add", Sum.inr "sub", Sum.inr "mul", Sum.inr "dup", Sum.inr "drop", Sum.inr "swap", Sum.inr "ink", Sum.inr "tri", Sum.inr "turn", Sum.inr "flip"] [v0, v1, v2, v3, v4, v5, v6, v7, v8, v9]) S := by
  refine propext ⟨fun q => q.2, fun q => ⟨⟨by decide +kernel, by decide⟩, q⟩⟩
theorem le__law_plain_effectS {s : Str} : M.le (C__law_plain_effect [.str s]) (d__law_plain_effect.den g [.str s]) := by
  rintro S Q E ⟨h, q⟩
  rw [den_eq (body := c__law_plain_effect) (env := [some (.str s)]) rfl rfl]
  unfold c__law_plain_effect
  simp [isiNames, isiB, sizeLine, x_dct10]
  rw [dl_plain h]
  exact q
end Dp.L

namespace Dp.L
open PySem PySem.Spec L2 Dp
open PyProof.Rows hiding St
theorem le__law_bowl {ns : List Int} {lap : Int} : M.le (C__law_bowl [.loc (ns.map .int), .int lap]) (d__law_bowl.den g [.loc (ns.map .int), .int lap]) := by
  rintro S Q E ⟨⟨_, h⟩, q⟩
  have q : ∀ p q z : Int, ∀ a, S a = none → Q (.ref a) (plst S a p q z) := fun p' q' z' a ha => q _ ⟨p', q', z', rfl⟩ a ha
  rw [den_eq (body := c__law_bowl) (env := [some (.loc (ns.map .int)), some (.int lap), none, none, none]) rfl rfl]
  unfold c__law_bowl
  have m1 : ∀ z, CMulA z 48611 := fun z => mulB (by omega)
  have m2 : ∀ z, CMulA z 19 := fun z => mulB (by omega)
  have m3 : ∀ z, CMulA 8819 z := fun z => mulA (by omega)
  have m4 : ∀ z, CMulA z 53 := fun z => mulB (by omega)
  have m5 : ∀ z, CMulA z 27011 := fun z => mulB (by omega)
  have cp : CPow 10 16 := ⟨by omega, by omega, by decide⟩
  have hcut : cutL (ns.map PV.int) none (some 9) = (cutL ns none (some 9)).map .int := by
    unfold cutL; rw [List.map_take, List.map_drop, List.length_map]
  simp [m3, hcut]
  refine forM_inv (fun env S' => S' = S ∧ ∃ st o, env = [some (.loc (ns.map .int)), some (.int lap), some (.int st), o, none]) (h := .int) (ys := cutL ns none (some 9)) ?_ ⟨rfl, _, _, rfl⟩ ?_
  · rintro y _ env S1 Q E ⟨rfl, st, o, rfl⟩ q
    simp [m1, m2]
    exact q _ _ ⟨rfl, _, _, rfl⟩
  · rintro env S1 ⟨rfl, st, o, rfl⟩
    have fin : ∀ own : Int, (runB (dB g (.cons (.asg (.name 2) (.bin .mod (.callT .int (.cons (.bin .add (.bin .add (.bin .mul (.var 2) (.int 53)) (.bin .mul (.bin .mod (.var 4) (.int 2147483053)) (.int 27011))) (.int 11)) .nil)) (.int 2147483563))) (.cons (.ret (.lst true (.cons (.ife (.or (.cmp .lt (.var 4) (.int 0)) (.b1 (.cmp .ge (.var 4) (.bin .pow (.int 10) (.int 16))))) (.callB .abs (.cons (.var 4) .nil)) (.int 0)) (.cons (.var 2) (.cons (.int 0) .nil))))) .nil))
        [some (.loc (ns.map .int)), some (.int lap), some (.int st), o, some (.int own)])).run S1 Q E := by
      intro own
      simp [m4, m5, cp, sizeLine]
      by_cases c1 : own < 0
      · simp [c1]; intro p hp; exact q _ _ _ p hp
      · by_cases c2 : (10000000000000000 : Int) ≤ own
        · simp [c1, c2]; intro p hp; exact q _ _ _ p hp
        · simp [c1, c2]; intro p hp; exact q _ _ _ p hp
    by_cases hl : lap < ns.length
    · obtain ⟨x, hx, e⟩ := atI_int (l := ns.map PV.int) h.1 (by simpa using hl)
      obtain ⟨y, _, rfl⟩ := List.mem_map.mp hx
      have := fin y
      rw [r_runB] at this
      simp only [↓r_snx, ↓r_bc, ↓r_asg, ↓r_ife, ↓r_tcmp, ↓r_var, ↓r_get0, ↓r_getS, ↓r_callB, ↓r_lc, ↓r_l0, ↓r_lenC, ↓r_lt, ↓r_trb, List.length_map]
      rw [if_pos (by simpa using hl)]
      simp only [↓r_callT, ↓r_lc, ↓r_l0, ↓r_ix, ↓r_var, ↓r_get0, ↓r_getS, ↓r_ixC, e, ↓r_Tint, ↓r_gn, ↓k_set0, ↓k_setS, ↓r_snx]
      exact this
    · have := fin 0
      rw [r_runB] at this
      simp only [↓r_snx, ↓r_bc, ↓r_asg, ↓r_ife, ↓r_tcmp, ↓r_var, ↓r_get0, ↓r_getS, ↓r_callB, ↓r_lc, ↓r_l0, ↓r_lenC, ↓r_lt, ↓r_trb, List.length_map]
      rw [if_neg (by simpa using hl)]
      simp only [↓r_int, ↓r_gn, ↓k_set0, ↓k_setS, ↓r_snx]
      exact this
theorem x_same {n : Nat} {x : PV} {S : Stt} {Q : PV → Stt → Prop} {E : Exc → Stt → Prop} (h : flat n x = true) : (sameC n [x, x]).run S Q E = Q (.bl true) S := propext ⟨fun q => q.2, fun q => ⟨⟨rfl, h⟩, q⟩⟩
theorem fine_flatS {x : Str} (h : PyData.strOk x = true) : fine2 (.str x) (.str x) := ⟨strOk_lit h, strOk_lit h⟩
theorem bls_true {xs : List PV} : blsOf (xs.map fun _ => PV.bl true) = some (xs.map fun _ => true) := by
  induction xs with
  | nil => rfl
  | cons x xs ih => simp [blsOf, ih]
theorem flat_lift {x : PV} : flat 0 x = true → ∀ {n}, flat n x = true := fun h n => by
  cases x <;> cases n <;> simp_all [flat]
end Dp.L

namespace Dp.L
open PySem PySem.Spec L2 Dp
open PyProof.Rows hiding St
theorem le__law_same_0 {x y : PV} : M.le (C__law_same_0 [x, y]) (d__law_same_0.den g [x, y]) := by
  rintro S Q E ⟨⟨rfl, h⟩, q⟩
  have q : Q (.bl true) S := q
  rw [den_eq (body := c__law_same_0) (env := [some (x), some (x), none]) rfl rfl]
  unfold c__law_same_0
  cases x with
  | non => simp [isiNames, isiB, isNon]; exact q
  | bl b => simp [isiNames, isiB, isNon]; exact q
  | int i => simp [isiNames, isiB, isNon]; exact q
  | str z =>
    have f2 := fine_flatS (show PyData.strOk z = true from by simpa [flat] using h)
    simp [isiNames, isiB, isNon, f2]; exact q
  | tup xs =>
    cases h
  | _ => cases h
theorem le__law_same_1 {x y : PV} : M.le (C__law_same_1 [x, y]) (d__law_same_1.den g [x, y]) := by
  rintro S Q E ⟨⟨rfl, h⟩, q⟩
  have q : Q (.bl true) S := q
  rw [den_eq (body := c__law_same_1) (env := [some (x), some (x), none]) rfl rfl]
  unfold c__law_same_1
  cases x with
  | non => simp [isiNames, isiB, isNon]; exact q
  | bl b => simp [isiNames, isiB, isNon]; exact q
  | int i => simp [isiNames, isiB, isNon]; exact q
  | str z =>
    have f2 := fine_flatS (show PyData.strOk z = true from by simpa [flat] using h)
    simp [isiNames, isiB, isNon, f2]; exact q
  | tup xs =>
    have h' : xs.length ≤ 1000 ∧ ∀ x ∈ xs, flat 0 x = true := by simpa [flat] using h
    have hr : inRng (xs.length : Int) := by unfold inRng; omega
    simp [isiNames, isiB, lenL, hr]
    have e : rngItems 0 xs.length = (List.range xs.length).map fun i : Nat => PV.int (0 + (i : Int)) := rfl
    rw [e]
    refine compM_map (f := fun _ => PV.bl true) (fun i hi acc Q E ha q => ?_) (by simp [sizeLine]; omega) ?_
    · have hi' : i < xs.length := by simpa using hi
      have e2 : ∀ {Q : PV → Stt → Prop}, (vIdx (.tup xs) (.int (0 + (i : Int)))).run S Q (fun _ _ => False) = Q xs[i] S := fun {Q} => by
        rw [r_ixT, Int.zero_add, atI_nat hi', List.getElem?_eq_getElem hi']; rfl
      rw [r_compF]
      simp only [↓r_gn, ↓k_setS, ↓k_set0, ↓r_c0, ↓x_call__law_same_0_0, ↓r_lc, ↓r_l0, ↓r_ix, ↓r_var, ↓r_getS, ↓r_get0, ↓e2, ↓x_cf__law_same_0_0]
      rw [if_pos trivial]
      refine ⟨⟨rfl, h'.2 _ (List.getElem_mem hi')⟩, ha, ?_⟩
      simpa using q
    · rw [List.nil_append, List.map_const', blsT]
      simpa using q
  | _ => cases h
theorem le__law_same_2 {x y : PV} : M.le (C__law_same_2 [x, y]) (d__law_same_2.den g [x, y]) := by
  rintro S Q E ⟨⟨rfl, h⟩, q⟩
  have q : Q (.bl true) S := q
  rw [den_eq (body := c__law_same_2) (env := [some (x), some (x), none]) rfl rfl]
  unfold c__law_same_2
  cases x with
  | non => simp [isiNames, isiB, isNon]; exact q
  | bl b => simp [isiNames, isiB, isNon]; exact q
  | int i => simp [isiNames, isiB, isNon]; exact q
  | str z =>
    have f2 := fine_flatS (show PyData.strOk z = true from by simpa [flat] using h)
    simp [isiNames, isiB, isNon, f2]; exact q
  | tup xs =>
    have h' : xs.length ≤ 1000 ∧ ∀ x ∈ xs, flat 1 x = true := by simpa [flat] using h
    have hr : inRng (xs.length : Int) := by unfold inRng; omega
    simp [isiNames, isiB, lenL, hr]
    have e : rngItems 0 xs.length = (List.range xs.length).map fun i : Nat => PV.int (0 + (i : Int)) := rfl
    rw [e]
    refine compM_map (f := fun _ => PV.bl true) (fun i hi acc Q E ha q => ?_) (by simp [sizeLine]; omega) ?_
    · have hi' : i < xs.length := by simpa using hi
      have e2 : ∀ {Q : PV → Stt → Prop}, (vIdx (.tup xs) (.int (0 + (i : Int)))).run S Q (fun _ _ => False) = Q xs[i] S := fun {Q} => by
        rw [r_ixT, Int.zero_add, atI_nat hi', List.getElem?_eq_getElem hi']; rfl
      rw [r_compF]
      simp only [↓r_gn, ↓k_setS, ↓k_set0, ↓r_c0, ↓x_call__law_same_1_0, ↓r_lc, ↓r_l0, ↓r_ix, ↓r_var, ↓r_getS, ↓r_get0, ↓e2, ↓x_cf__law_same_1_0]
      rw [if_pos trivial]
      refine ⟨⟨rfl, h'.2 _ (List.getElem_mem hi')⟩, ha, ?_⟩
      simpa using q
    · rw [List.nil_append, List.map_const', blsT]
      simpa using q
  | _ => cases h
theorem le__law_same {x y : PV} : M.le (C__law_same [x, y]) (d__law_same.den g [x, y]) := by
  rintro S Q E ⟨⟨rfl, h⟩, q⟩
  have q : Q (.bl true) S := q
  rw [den_eq (body := c__law_same) (env := [some (x), some (x), none]) rfl rfl]
  unfold c__law_same
  cases x with
  | non => simp [isiNames, isiB, isNon]; exact q
  | bl b => simp [isiNames, isiB, isNon]; exact q
  | int i => simp [isiNames, isiB, isNon]; exact q
  | str z =>
    have f2 := fine_flatS (show PyData.strOk z = true from by simpa [flat] using h)
    simp [isiNames, isiB, isNon, f2]; exact q
  | tup xs =>
    have h' : xs.length ≤ 1000 ∧ ∀ x ∈ xs, flat 2 x = true := by simpa [flat] using h
    have hr : inRng (xs.length : Int) := by unfold inRng; omega
    simp [isiNames, isiB, lenL, hr]
    have e : rngItems 0 xs.length = (List.range xs.length).map fun i : Nat => PV.int (0 + (i : Int)) := rfl
    rw [e]
    refine compM_map (f := fun _ => PV.bl true) (fun i hi acc Q E ha q => ?_) (by simp [sizeLine]; omega) ?_
    · have hi' : i < xs.length := by simpa using hi
      have e2 : ∀ {Q : PV → Stt → Prop}, (vIdx (.tup xs) (.int (0 + (i : Int)))).run S Q (fun _ _ => False) = Q xs[i] S := fun {Q} => by
        rw [r_ixT, Int.zero_add, atI_nat hi', List.getElem?_eq_getElem hi']; rfl
      rw [r_compF]
      simp only [↓r_gn, ↓k_setS, ↓k_set0, ↓r_c0, ↓x_call__law_same_2_0, ↓r_lc, ↓r_l0, ↓r_ix, ↓r_var, ↓r_getS, ↓r_get0, ↓e2, ↓x_cf__law_same_2_0]
      rw [if_pos trivial]
      refine ⟨⟨rfl, h'.2 _ (List.getElem_mem hi')⟩, ha, ?_⟩
      simpa using q
    · rw [List.nil_append, List.map_const', blsT]
      simpa using q
  | _ => cases h
end Dp.L

namespace Dp.L
open PySem PySem.Spec L2 Dp
open PyProof.Rows hiding St
section
variable {S : Stt} {Q : PV → Stt → Prop} {E : Exc → Stt → Prop}
@[simp ↓] theorem x_plainI {i : Int} : (C__law_plain_effect [.int i]).run S Q E = Q (.tup [.int 0, .int 1]) S := rfl
theorem x_plainS {s : Str} (h : s ∈ plains) : (C__law_plain_effect [.str s]).run S Q E = Q (.tup [.int (plE s).1, .int (plE s).2]) S := propext ⟨fun q => q.2, fun q => ⟨h, q⟩⟩
theorem ix_drop {α : Type} {f : α → PV} {wl ws : List α} {x : α} {i : Nat} (h : wl.drop i = x :: ws) : (vIdx (.tup (wl.map f)) (.int (i : Int))).run S Q E = Q (f x) S := by
  have e : wl[i]? = some x := by
    have := congrArg List.head? h
    rw [List.head?_drop] at this
    exact this
  have hi : i < wl.length := by rw [List.getElem?_eq_some_iff] at e; exact e.1
  rw [r_ixT, atI_nat (by simpa using hi), List.getElem?_map, e]; rfl
theorem ix_dropL {α : Type} {f : α → PV} {wl ws : List α} {x : α} {i : Nat} (h : wl.drop i = x :: ws) : (vIdx (.lst (wl.map f)) (.int (i : Int))).run S Q E = Q (f x) S := ix_drop h
end
theorem drop_next {α : Type} {wl ws : List α} {x : α} {i : Nat} (h : wl.drop i = x :: ws) : wl.drop (i + 1) = ws := by rw [← List.drop_drop, h]; rfl
theorem loop__law_effect {wl : List Wd} {names : List Str} {b : Addr} {known : List Eff} {S : Stt} (hn : ∀ y ∈ names, PyData.strOk y = true) (hb : S b = some (.lst (known.map effPV))) (hk : names.length ≤ known.length) {Q : Res → Stt → Prop} {E : Exc → Stt → Prop} :
    ∀ (ws : List Wd) (i : Nat) (w : Int × Int) (e5 e6 e7 : Option PV), wl.drop i = ws → (∀ x ∈ ws, x.ok names) →
    (∀ w' e5 e6 e7, (scan names known ws i w).1 = some w' → Q (.nx [some (.tup (wl.map Wd.pv)), some (.tup (names.map .str)), some (.ref b), some (.int w'.1), some (.int w'.2), e5, e6, e7]) S) →
    ((scan names known ws i w).1 = none → Q (.rt (.tup [.non, atPV (scan names known ws i w).2])) S) →
    (forM .fix (turnF g (.name 5) (.cons (.asg (.name 6) (.ix (.var 0) (.var 5))) (.cons (.ifs (.tv (.callB .isi (.cons (.var 6) (.cons (.bty "tuple" "tuple") .nil)))) (.cons (.asg (.name 7) (.ix (.var 2) (.meth .tindex (.var 1) (.cons (.ix (.var 6) (.int 1)) .nil)))) (.cons (.ifs (.or (.cmp .isN (.var 7) .non) (.b1 (.and (.cmp .ne (.ix (.var 6) (.int 0)) (.str "do")) (.b1 (.cmp .ne (.ix (.var 7) (.int 0)) (.ix (.var 7) (.int 1))))))) (.cons (.ret (.tup (.cons .non (.cons (.ife (.cmp .notN (.var 7) .non) (.var 5) .non) .nil)))) .nil) .nil) (.cons (.asg (.name 7) (.ife (.cmp .eq (.ix (.var 6) (.int 0)) (.str "do")) (.var 7) (.tup (.cons (.bin .add (.ix (.var 7) (.int 0)) (.int 1)) (.cons (.ix (.var 7) (.int 0)) .nil))))) .nil))) (.cons (.asg (.name 7) (.call i__law_plain_effect ⟨1, [], [0]⟩ (.cons (.var 6) .nil) .nil)) .nil)) (.cons (.asg (.tup (.cons (.name 3) (.cons (.name 4) .nil))) (.ife (.cmp .gt (.ix (.var 7) (.int 0)) (.var 4)) (.tup (.cons (.bin .sub (.bin .add (.var 3) (.ix (.var 7) (.int 0))) (.var 4)) (.cons (.ix (.var 7) (.int 1)) .nil))) (.tup (.cons (.var 3) (.cons (.bin .add (.bin .sub (.var 4) (.ix (.var 7) (.int 0))) (.ix (.var 7) (.int 1))) .nil))))) .nil)))) (rngItems i ws.length) [some (.tup (wl.map Wd.pv)), some (.tup (names.map .str)), some (.ref b), some (.int w.1), some (.int w.2), e5, e6, e7]).run S Q E
  | [], i, w, e5, e6, e7, _, _, q1, _ => q1 w e5 e6 e7 rfl
  | x :: ws, i, w, e5, e6, e7, hd, hw, q1, q2 => by
    have hx := hw x (by simp)
    have hw' : ∀ y ∈ ws, y.ok names := fun y hy => hw y (by simp [hy])
    have go := fun (t l : Int) (o : PV) => loop__law_effect (wl := wl) hn hb hk ws (i + 1) (behindE w t l) (some (.int i)) (some x.pv) (some o) (drop_next hd) hw' (Q := Q) (E := E)
    have ixw := fun {Q : PV → Stt → Prop} => ix_drop (S := S) (Q := Q) (E := E) (f := Wd.pv) hd
    have tail : ∀ (t l : Int), wordE names known x = .eff t l → (runStep : True) → ∀ o : PV, o = .tup [.int t, .int l] →
        (forM .fix (turnF g (.name 5) (.cons (.asg (.name 6) (.ix (.var 0) (.var 5))) (.cons (.ifs (.tv (.callB .isi (.cons (.var 6) (.cons (.bty "tuple" "tuple") .nil)))) (.cons (.asg (.name 7) (.ix (.var 2) (.meth .tindex (.var 1) (.cons (.ix (.var 6) (.int 1)) .nil)))) (.cons (.ifs (.or (.cmp .isN (.var 7) .non) (.b1 (.and (.cmp .ne (.ix (.var 6) (.int 0)) (.str "do")) (.b1 (.cmp .ne (.ix (.var 7) (.int 0)) (.ix (.var 7) (.int 1))))))) (.cons (.ret (.tup (.cons .non (.cons (.ife (.cmp .notN (.var 7) .non) (.var 5) .non) .nil)))) .nil) .nil) (.cons (.asg (.name 7) (.ife (.cmp .eq (.ix (.var 6) (.int 0)) (.str "do")) (.var 7) (.tup (.cons (.bin .add (.ix (.var 7) (.int 0)) (.int 1)) (.cons (.ix (.var 7) (.int 0)) .nil))))) .nil))) (.cons (.asg (.name 7) (.call i__law_plain_effect ⟨1, [], [0]⟩ (.cons (.var 6) .nil) .nil)) .nil)) (.cons (.asg (.tup (.cons (.name 3) (.cons (.name 4) .nil))) (.ife (.cmp .gt (.ix (.var 7) (.int 0)) (.var 4)) (.tup (.cons (.bin .sub (.bin .add (.var 3) (.ix (.var 7) (.int 0))) (.var 4)) (.cons (.ix (.var 7) (.int 1)) .nil))) (.tup (.cons (.var 3) (.cons (.bin .add (.bin .sub (.var 4) (.ix (.var 7) (.int 0))) (.ix (.var 7) (.int 1))) .nil))))) .nil)))) (rngItems (i + 1) ws.length) [some (.tup (wl.map Wd.pv)), some (.tup (names.map .str)), some (.ref b), some (.int (behindE w t l).1), some (.int (behindE w t l).2), some (.int i), some x.pv, some o]).run S Q E := by
      intro t l e _ o ho
      have e1 : scan names known (x :: ws) i w = scan names known ws (i + 1) (behindE w t l) := by
        conv => lhs; unfold scan
        rw [e]
      rw [e1] at q1 q2
      exact go t l o q1 q2
    rw [List.length_cons, rng_cons, r_forS]
    cases x with
    | num v =>
      have h := tail 0 1 rfl trivial _ rfl
      simp [ixw, Wd.pv, isiNames, isiB, sizeLine, lenTs] at h ⊢
      unfold behindE at h
      by_cases h1 : w.2 < 0
      · simp [h1] at h ⊢; exact h
      · simp [h1] at h ⊢; exact h
    | pl s =>
      have h := tail (plE s).1 (plE s).2 rfl trivial _ rfl
      have hp : s ∈ plains := hx
      simp [ixw, Wd.pv, isiNames, isiB, sizeLine, lenTs, x_plainS hp] at h ⊢
      unfold behindE at h
      by_cases h1 : w.2 < (plE s).1
      · simp [h1] at h ⊢; exact h
      · simp [h1] at h ⊢; exact h
    | call hh n =>
      have hm : n ∈ names := hx.2
      have hlt : names.idxOf n < known.length := Nat.lt_of_lt_of_le (List.idxOf_lt_length_of_mem hm) hk
      have f2 := True.intro
      have hf := fine_do (hows_ok hh hx.1)
      have ek : calledE names known n = known[names.idxOf n] := by unfold calledE; rw [List.getElem?_eq_getElem hlt]; rfl
      have ixk : ∀ {Q : PV → Stt → Prop}, (vIdx (.ref b) (.int (names.idxOf n : Nat))).run S Q E = Q (effPV (calledE names known n)) S := fun {Q} => by
        rw [ixRef hb, r_ixL, atI_nat (by simpa using hlt), List.getElem?_map, List.getElem?_eq_getElem hlt, ek]; rfl
      cases e : calledE names known n with
      | none =>
        have e0 := wE_none (h := hh) e
        have e1 : scan names known (.call hh n :: ws) i w = (none, none) := by unfold scan; rw [e0]
        have h := q2 (by rw [e1])
        rw [e1] at h
        simp [ixw, Wd.pv, isiNames, isiB, sizeLine, lenTs, strsOf_map, f2, hm, ixk, e, effPV, isNon]
        exact h
      | some p =>
        obtain ⟨t, l⟩ := p
        by_cases h1 : hh = "do"
        · have h := tail t l (wE_do e h1) trivial _ rfl
          subst h1
          simp [ixw, Wd.pv, isiNames, isiB, sizeLine, lenTs, strsOf_map, f2, hm, ixk, e, effPV, isNon, fdo] at h ⊢
          unfold behindE at h
          by_cases h3 : w.2 < t
          · simp [h3] at h ⊢; exact h
          · simp [h3] at h ⊢; exact h
        · by_cases h2 : t = l
          · have h := tail (t + 1) l (wE_eq e h1 h2) trivial _ rfl
            subst h2
            simp [ixw, Wd.pv, isiNames, isiB, sizeLine, lenTs, strsOf_map, f2, hm, ixk, e, effPV, isNon, hf, h1] at h ⊢
            unfold behindE at h
            by_cases h3 : w.2 < t + 1
            · simp [h3] at h ⊢; exact h
            · simp [h3] at h ⊢; exact h
          · have e0 := wE_ne e h1 h2
            have e1 : scan names known (.call hh n :: ws) i w = (none, some i) := by unfold scan; rw [e0]
            have h := q2 (by rw [e1])
            rw [e1] at h
            simp [ixw, Wd.pv, isiNames, isiB, sizeLine, lenTs, strsOf_map, f2, hm, ixk, e, effPV, isNon, hf, h1, h2]
            exact h
theorem le__law_effect {ws ns : List PV} {b : Addr} : M.le (C__law_effect [.tup ws, .tup ns, .ref b]) (d__law_effect.den g [.tup ws, .tup ns, .ref b]) := by
  rintro S Q E ⟨names, rfl, hn, known, hb, wl, rfl, hw, ⟨h1, h2, h3⟩, q⟩
  rw [den_eq (body := c__law_effect) (env := [some (.tup (wl.map Wd.pv)), some (.tup (names.map .str)), some (.ref b), none, none, none, none, none]) rfl rfl]
  unfold c__law_effect
  have hl : wl.length ≤ 1000 := by simpa using h2
  have hr : inRng (wl.length : Int) := by unfold inRng; omega
  simp [lenTs, sizeLine, lenL, hr]
  refine loop__law_effect hn hb h1 wl 0 (0, 0) none none none rfl hw (fun w' e5 e6 e7 hs => ?_) fun hs => ?_
  · simp [sizeLine]
    have q : Q (.tup [effPV (scan names known wl 0 (0, 0)).1, atPV (scan names known wl 0 (0, 0)).2]) S := q
    rw [scan_none hs, hs] at q
    exact q
  · simp
    have q : Q (.tup [effPV (scan names known wl 0 (0, 0)).1, atPV (scan names known wl 0 (0, 0)).2]) S := q
    rw [hs] at q
    exact q
theorem loop__law_effect_l {wl : List Wd} {names : List Str} {b : Addr} {known : List Eff} {S : Stt} (hn : ∀ y ∈ names, PyData.strOk y = true) (hb : S b = some (.lst (known.map effPV))) (hk : names.length ≤ known.length) {Q : Res → Stt → Prop} {E : Exc → Stt → Prop} :
    ∀ (ws : List Wd) (i : Nat) (w : Int × Int) (e5 e6 e7 : Option PV), wl.drop i = ws → (∀ x ∈ ws, x.ok names) →
    (∀ w' e5 e6 e7, (scan names known ws i w).1 = some w' → Q (.nx [some (.tup (wl.map Wd.pv)), some (.lst (names.map .str)), some (.ref b), some (.int w'.1), some (.int w'.2), e5, e6, e7]) S) →
    ((scan names known ws i w).1 = none → Q (.rt (.tup [.non, atPV (scan names known ws i w).2])) S) →
    (forM .fix (turnF g (.name 5) (.cons (.asg (.name 6) (.ix (.var 0) (.var 5))) (.cons (.ifs (.tv (.callB .isi (.cons (.var 6) (.cons (.bty "tuple" "tuple") .nil)))) (.cons (.asg (.name 7) (.ix (.var 2) (.meth .index (.var 1) (.cons (.ix (.var 6) (.int 1)) .nil)))) (.cons (.ifs (.or (.cmp .isN (.var 7) .non) (.b1 (.and (.cmp .ne (.ix (.var 6) (.int 0)) (.str "do")) (.b1 (.cmp .ne (.ix (.var 7) (.int 0)) (.ix (.var 7) (.int 1))))))) (.cons (.ret (.tup (.cons .non (.cons (.ife (.cmp .notN (.var 7) .non) (.var 5) .non) .nil)))) .nil) .nil) (.cons (.asg (.name 7) (.ife (.cmp .eq (.ix (.var 6) (.int 0)) (.str "do")) (.var 7) (.tup (.cons (.bin .add (.ix (.var 7) (.int 0)) (.int 1)) (.cons (.ix (.var 7) (.int 0)) .nil))))) .nil))) (.cons (.asg (.name 7) (.call i__law_plain_effect ⟨1, [], [0]⟩ (.cons (.var 6) .nil) .nil)) .nil)) (.cons (.asg (.tup (.cons (.name 3) (.cons (.name 4) .nil))) (.ife (.cmp .gt (.ix (.var 7) (.int 0)) (.var 4)) (.tup (.cons (.bin .sub (.bin .add (.var 3) (.ix (.var 7) (.int 0))) (.var 4)) (.cons (.ix (.var 7) (.int 1)) .nil))) (.tup (.cons (.var 3) (.cons (.bin .add (.bin .sub (.var 4) (.ix (.var 7) (.int 0))) (.ix (.var 7) (.int 1))) .nil))))) .nil)))) (rngItems i ws.length) [some (.tup (wl.map Wd.pv)), some (.lst (names.map .str)), some (.ref b), some (.int w.1), some (.int w.2), e5, e6, e7]).run S Q E
  | [], i, w, e5, e6, e7, _, _, q1, _ => q1 w e5 e6 e7 rfl
  | x :: ws, i, w, e5, e6, e7, hd, hw, q1, q2 => by
    have hx := hw x (by simp)
    have hw' : ∀ y ∈ ws, y.ok names := fun y hy => hw y (by simp [hy])
    have go := fun (t l : Int) (o : PV) => loop__law_effect_l (wl := wl) hn hb hk ws (i + 1) (behindE w t l) (some (.int i)) (some x.pv) (some o) (drop_next hd) hw' (Q := Q) (E := E)
    have ixw := fun {Q : PV → Stt → Prop} => ix_drop (S := S) (Q := Q) (E := E) (f := Wd.pv) hd
    have tail : ∀ (t l : Int), wordE names known x = .eff t l → (runStep : True) → ∀ o : PV, o = .tup [.int t, .int l] →
        (forM .fix (turnF g (.name 5) (.cons (.asg (.name 6) (.ix (.var 0) (.var 5))) (.cons (.ifs (.tv (.callB .isi (.cons (.var 6) (.cons (.bty "tuple" "tuple") .nil)))) (.cons (.asg (.name 7) (.ix (.var 2) (.meth .index (.var 1) (.cons (.ix (.var 6) (.int 1)) .nil)))) (.cons (.ifs (.or (.cmp .isN (.var 7) .non) (.b1 (.and (.cmp .ne (.ix (.var 6) (.int 0)) (.str "do")) (.b1 (.cmp .ne (.ix (.var 7) (.int 0)) (.ix (.var 7) (.int 1))))))) (.cons (.ret (.tup (.cons .non (.cons (.ife (.cmp .notN (.var 7) .non) (.var 5) .non) .nil)))) .nil) .nil) (.cons (.asg (.name 7) (.ife (.cmp .eq (.ix (.var 6) (.int 0)) (.str "do")) (.var 7) (.tup (.cons (.bin .add (.ix (.var 7) (.int 0)) (.int 1)) (.cons (.ix (.var 7) (.int 0)) .nil))))) .nil))) (.cons (.asg (.name 7) (.call i__law_plain_effect ⟨1, [], [0]⟩ (.cons (.var 6) .nil) .nil)) .nil)) (.cons (.asg (.tup (.cons (.name 3) (.cons (.name 4) .nil))) (.ife (.cmp .gt (.ix (.var 7) (.int 0)) (.var 4)) (.tup (.cons (.bin .sub (.bin .add (.var 3) (.ix (.var 7) (.int 0))) (.var 4)) (.cons (.ix (.var 7) (.int 1)) .nil))) (.tup (.cons (.var 3) (.cons (.bin .add (.bin .sub (.var 4) (.ix (.var 7) (.int 0))) (.ix (.var 7) (.int 1))) .nil))))) .nil)))) (rngItems (i + 1) ws.length) [some (.tup (wl.map Wd.pv)), some (.lst (names.map .str)), some (.ref b), some (.int (behindE w t l).1), some (.int (behindE w t l).2), some (.int i), some x.pv, some o]).run S Q E := by
      intro t l e _ o ho
      have e1 : scan names known (x :: ws) i w = scan names known ws (i + 1) (behindE w t l) := by
        conv => lhs; unfold scan
        rw [e]
      rw [e1] at q1 q2
      exact go t l o q1 q2
    rw [List.length_cons, rng_cons, r_forS]
    cases x with
    | num v =>
      have h := tail 0 1 rfl trivial _ rfl
      simp [ixw, Wd.pv, isiNames, isiB, sizeLine, lenTs] at h ⊢
      unfold behindE at h
      by_cases h1 : w.2 < 0
      · simp [h1] at h ⊢; exact h
      · simp [h1] at h ⊢; exact h
    | pl s =>
      have h := tail (plE s).1 (plE s).2 rfl trivial _ rfl
      have hp : s ∈ plains := hx
      simp [ixw, Wd.pv, isiNames, isiB, sizeLine, lenTs, x_plainS hp] at h ⊢
      unfold behindE at h
      by_cases h1 : w.2 < (plE s).1
      · simp [h1] at h ⊢; exact h
      · simp [h1] at h ⊢; exact h
    | call hh n =>
      have hm : n ∈ names := hx.2
      have hlt : names.idxOf n < known.length := Nat.lt_of_lt_of_le (List.idxOf_lt_length_of_mem hm) hk
      have f2 := (fine2_strs (hn n hm) hn).1
      have hf := fine_do (hows_ok hh hx.1)
      have ek : calledE names known n = known[names.idxOf n] := by unfold calledE; rw [List.getElem?_eq_getElem hlt]; rfl
      have ixk : ∀ {Q : PV → Stt → Prop}, (vIdx (.ref b) (.int (names.idxOf n : Nat))).run S Q E = Q (effPV (calledE names known n)) S := fun {Q} => by
        rw [ixRef hb, r_ixL, atI_nat (by simpa using hlt), List.getElem?_map, List.getElem?_eq_getElem hlt, ek]; rfl
      cases e : calledE names known n with
      | none =>
        have e0 := wE_none (h := hh) e
        have e1 : scan names known (.call hh n :: ws) i w = (none, none) := by unfold scan; rw [e0]
        have h := q2 (by rw [e1])
        rw [e1] at h
        simp [ixw, Wd.pv, isiNames, isiB, sizeLine, lenTs, findP_str hm, f2, hm, ixk, e, effPV, isNon]
        exact h
      | some p =>
        obtain ⟨t, l⟩ := p
        by_cases h1 : hh = "do"
        · have h := tail t l (wE_do e h1) trivial _ rfl
          subst h1
          simp [ixw, Wd.pv, isiNames, isiB, sizeLine, lenTs, findP_str hm, f2, hm, ixk, e, effPV, isNon, fdo] at h ⊢
          unfold behindE at h
          by_cases h3 : w.2 < t
          · simp [h3] at h ⊢; exact h
          · simp [h3] at h ⊢; exact h
        · by_cases h2 : t = l
          · have h := tail (t + 1) l (wE_eq e h1 h2) trivial _ rfl
            subst h2
            simp [ixw, Wd.pv, isiNames, isiB, sizeLine, lenTs, findP_str hm, f2, hm, ixk, e, effPV, isNon, hf, h1] at h ⊢
            unfold behindE at h
            by_cases h3 : w.2 < t + 1
            · simp [h3] at h ⊢; exact h
            · simp [h3] at h ⊢; exact h
          · have e0 := wE_ne e h1 h2
            have e1 : scan names known (.call hh n :: ws) i w = (none, some i) := by unfold scan; rw [e0]
            have h := q2 (by rw [e1])
            rw [e1] at h
            simp [ixw, Wd.pv, isiNames, isiB, sizeLine, lenTs, findP_str hm, f2, hm, ixk, e, effPV, isNon, hf, h1, h2]
            exact h
theorem le__law_effect_l {ws ns : List PV} {b : Addr} : M.le (C__law_effect_l [.tup ws, .lst ns, .ref b]) (d__law_effect_l.den g [.tup ws, .lst ns, .ref b]) := by
  rintro S Q E ⟨names, rfl, hn, known, hb, wl, rfl, hw, ⟨h1, h2, h3⟩, q⟩
  rw [den_eq (body := c__law_effect_l) (env := [some (.tup (wl.map Wd.pv)), some (.lst (names.map .str)), some (.ref b), none, none, none, none, none]) rfl rfl]
  unfold c__law_effect_l
  have hl : wl.length ≤ 1000 := by simpa using h2
  have hr : inRng (wl.length : Int) := by unfold inRng; omega
  simp [lenTs, sizeLine, lenL, hr]
  refine loop__law_effect_l hn hb h1 wl 0 (0, 0) none none none rfl hw (fun w' e5 e6 e7 hs => ?_) fun hs => ?_
  · simp [sizeLine]
    have q : Q (.tup [effPV (scan names known wl 0 (0, 0)).1, atPV (scan names known wl 0 (0, 0)).2]) S := q
    rw [scan_none hs, hs] at q
    exact q
  · simp
    have q : Q (.tup [effPV (scan names known wl 0 (0, 0)).1, atPV (scan names known wl 0 (0, 0)).2]) S := q
    rw [hs] at q
    exact q
end Dp.L

namespace Dp.L
open PySem PySem.Spec L2 Dp
open PyProof.Rows hiding St
section
variable {S : Stt} {Q : PV → Stt → Prop} {E : Exc → Stt → Prop} {wl : List Wd} {names : List Str} {b : Addr} {known : List Eff}
theorem x__law_effect_l (hn : ∀ y ∈ names, PyData.strOk y = true) (hb : S b = some (.lst (known.map effPV))) (hw : ∀ x ∈ wl, x.ok names) (h : names.length ≤ known.length ∧ wl.length ≤ 1000 ∧ names.Nodup) :
    (C__law_effect_l [.tup (wl.map Wd.pv), .lst (names.map .str), .ref b]).run S Q E = Q (.tup [effPV (scan names known wl 0 (0, 0)).1, atPV (scan names known wl 0 (0, 0)).2]) S :=
  (x_onStrs hn).trans ((x_onEffs hb).trans ((x_onWds hw).trans (propext ⟨fun q => q.2, fun q => ⟨by simpa using h, q⟩⟩)))
theorem x__law_effect (hn : ∀ y ∈ names, PyData.strOk y = true) (hb : S b = some (.lst (known.map effPV))) (hw : ∀ x ∈ wl, x.ok names) (h : names.length ≤ known.length ∧ wl.length ≤ 1000 ∧ names.Nodup) :
    (C__law_effect [.tup (wl.map Wd.pv), .tup (names.map .str), .ref b]).run S Q E = Q (.tup [effPV (scan names known wl 0 (0, 0)).1, atPV (scan names known wl 0 (0, 0)).2]) S :=
  (x_onStrs hn).trans ((x_onEffs hb).trans ((x_onWds hw).trans (propext ⟨fun q => q.2, fun q => ⟨by simpa using h, q⟩⟩)))
theorem x__law_is_short (hn : ∀ y ∈ names, PyData.strOk y = true) (hb : S b = some (.lst (known.map effPV))) (hw : ∀ x ∈ wl, x.ok names) (h : names.length ≤ known.length ∧ wl.length ≤ 1000 ∧ names.Nodup) :
    (C__law_is_short [.tup (wl.map Wd.pv), .lst (names.map .str), .ref b]).run S Q E = Q (.bl (isShort (scan names known wl 0 (0, 0)).1)) S :=
  (x_onStrs hn).trans ((x_onEffs hb).trans ((x_onWds hw).trans (propext ⟨fun q => q.2, fun q => ⟨by simpa using h, q⟩⟩)))
end
theorem le__law_is_short {ws ns : List PV} {b : Addr} : M.le (C__law_is_short [.tup ws, .lst ns, .ref b]) (d__law_is_short.den g [.tup ws, .lst ns, .ref b]) := by
  rintro S Q E ⟨names, rfl, hn, known, hb, wl, rfl, hw, ⟨h1, h2, h3⟩, q⟩
  rw [den_eq (body := c__law_is_short) (env := [some (.tup (wl.map Wd.pv)), some (.lst (names.map .str)), some (.ref b), none]) rfl rfl]
  unfold c__law_is_short
  have q : Q (.bl (isShort (scan names known wl 0 (0, 0)).1)) S := q
  simp [x__law_effect_l hn hb hw ⟨h1, by simpa using h2, h3⟩]
  cases e : (scan names known wl 0 (0, 0)).1 with
  | none => rw [e] at q; simpa [effPV, isNon, isShort] using q
  | some p => rw [e] at q; simpa [effPV, isNon, isShort] using q

/-! the first fault, two ways -/
theorem scan_idx {names : List Str} {told : List Eff} : ∀ {ws : List Wd} {k j : Nat} {w : Int × Int}, (scan names told ws k w).1 = (scan names told ws j w).1
  | [], k, j, w => rfl
  | x :: ws, k, j, w => by
    unfold scan
    split
    · rfl
    · rfl
    · exact scan_idx
theorem short_head {names : List Str} {told : List Eff} : ∀ {ws : List Wd} {j k0 : Nat} {w : Int × Int}, w.1 = 0 → (shorts names told ws k0 w).head? = ((List.range ws.length).find? fun k => isShort (scan names told (ws.take (k + 1)) j w).1).map (· + k0)
  | [], j, k0, w, _ => rfl
  | x :: ws, j, k0, w, h0 => by
    have hs : ∀ k, (x :: ws).take (k + 1) = x :: ws.take k := fun k => rfl
    rw [List.length_cons, List.range_succ_eq_map, List.find?_cons, List.find?_map]
    cases e : wordE names told x with
    | aside =>
      have e1 : ∀ k, (scan names told ((x :: ws).take (k + 1)) j w).1 = none := fun k => by rw [hs]; unfold scan; rw [e]
      have e2 : shorts names told (x :: ws) k0 w = [] := by unfold shorts; rw [e]
      rw [e2]
      simp only [e1, isShort, Function.comp_def]
      rw [List.find?_eq_none.mpr (by simp)]
      rfl
    | uneven =>
      have e1 : ∀ k, (scan names told ((x :: ws).take (k + 1)) j w).1 = none := fun k => by rw [hs]; unfold scan; rw [e]
      have e2 : shorts names told (x :: ws) k0 w = [] := by unfold shorts; rw [e]
      rw [e2]
      simp only [e1, isShort, Function.comp_def]
      rw [List.find?_eq_none.mpr (by simp)]
      rfl
    | eff t l =>
      have e1 : ∀ k, (scan names told ((x :: ws).take (k + 1)) j w).1 = (scan names told (ws.take k) (j + 1) (behindE w t l)).1 := fun k => by
        rw [hs]
        conv => lhs; unfold scan
        rw [e]
      have e2 : shorts names told (x :: ws) k0 w = (if w.1 = 0 ∧ t > w.2 then [k0] else []) ++ shorts names told ws (k0 + 1) (behindE w t l) := by
        conv => lhs; unfold shorts
        rw [e]
      rw [e2]
      simp only [e1, Function.comp_def]
      by_cases ht : t > w.2
      · have hb : behindE w t l = (w.1 + t - w.2, l) := by unfold behindE; rw [if_pos ht]
        have h1 : isShort (scan names told (ws.take 0) (j + 1) (behindE w t l)).1 = true := by
          rw [hb]
          show decide (0 < w.1 + t - w.2) = true
          exact decide_eq_true (by omega)
        rw [h1, if_pos ⟨h0, ht⟩]
        simp
      · have hb : (behindE w t l).1 = 0 := by unfold behindE; rw [if_neg ht]; exact h0
        have h1 : isShort (scan names told (ws.take 0) (j + 1) (behindE w t l)).1 = false := by
          show isShort (some (behindE w t l)) = false
          show decide (0 < (behindE w t l).1) = false
          exact decide_eq_false (by omega)
        rw [h1, if_neg (by simp [ht])]
        simp only [List.nil_append]
        rw [short_head (j := j + 1) hb, Option.map_map]
        congr 1
        funext k
        simp only [Function.comp_def]
        omega
theorem wordE_take {names : List Str} {d : Nat} {told more : List Eff} (hd : d ≤ told.length) {x : Wd} (hx : x.ok (names.take d)) : wordE (names.take d) (told ++ more) x = wordE names told x := by
  cases x with
  | num i => rfl
  | pl s => rfl
  | call h n =>
    have hm := hx.2
    have hi := idx_take hm
    have e : (names.take d).idxOf n = names.idxOf n := by
      conv => rhs; rw [← List.take_append_drop d names]
      rw [List.idxOf_append, if_pos hm]
    have : calledE (names.take d) (told ++ more) n = calledE names told n := by
      unfold calledE
      rw [e, List.getElem?_append_left (by omega)]
    cases e2 : calledE names told n with
    | none => rw [wE_none e2, wE_none (this.trans e2)]
    | some p =>
      obtain ⟨t, l⟩ := p
      by_cases h1 : h = "do"
      · rw [wE_do e2 h1, wE_do (this.trans e2) h1]
      · by_cases h2 : t = l
        · rw [wE_eq e2 h1 h2, wE_eq (this.trans e2) h1 h2]
        · rw [wE_ne e2 h1 h2, wE_ne (this.trans e2) h1 h2]
theorem scan_take {names : List Str} {d : Nat} {told more : List Eff} (hd : d ≤ told.length) : ∀ {ws : List Wd} {k : Nat} {w : Int × Int}, (∀ x ∈ ws, x.ok (names.take d)) → scan (names.take d) (told ++ more) ws k w = scan names told ws k w
  | [], k, w, _ => rfl
  | x :: ws, k, w, h => by
    unfold scan
    rw [wordE_take hd (h x (by simp))]
    split
    · rfl
    · rfl
    · exact scan_take hd fun y hy => h y (by simp [hy])
end Dp.L

namespace Dp.L
open PySem PySem.Spec L2 Dp
open PyProof.Rows hiding St
theorem faults_head {names : List Str} {told : List Eff} {b : Bool} {i : Nat} {ws : List Wd} : (faultsAt names told b i ws).head? = (if b = true then (shorts names told ws 0 (0, 0)).head?.map fun k => ((i, k, false) : Fault) else none).or ((scan names told ws 0 (0, 0)).2.map fun k => ((i, k, true) : Fault)) := by
  unfold faultsAt
  cases b <;> cases hs : (scan names told ws 0 (0, 0)).2 <;> cases hh : shorts names told ws 0 (0, 0) <;> simp
theorem fine_ints {xs : List Nat} : fine2 (.lst (xs.map fun k : Nat => PV.int (0 + (k : Int)))) (.lst []) := by
  refine ⟨?_, by simp [PV.fine, PV.fineL]⟩
  simp only [PV.fine]
  refine fineL_all.mpr fun x hx => ?_
  obtain ⟨k, _, rfl⟩ := List.mem_map.mp hx
  simp [PV.fine]
theorem x_getAt {e : Option Nat} : isNon (atPV e) = e.isNone := by cases e <;> rfl
theorem isNon_ff {e : Option Fault} : isNon (ffPV e) = e.isNone := by cases e <;> rfl
theorem loop_ll {l : List Deed} {b : Addr} {w h : Int} {S : Stt} (hd : DeedsOk l) (hb : S b = none) {Q : Res → Stt → Prop} {E : Exc → Stt → Prop} :
    ∀ (ds : List Deed) (i : Nat) (told : List Eff) (fs : List Fault) (e4 e5 e6 e7 e8 e9 e10 e11 : Option PV), l.drop i = ds → told.length = i →
    (∀ e4 e5 e6 e7 e8 e9 e10 e11, Q (.nx [some (.tup [.int w, .int h, .tup (l.map deedPV)]), some (.ref b), some (.lst ((nms l).map .str)), some (ffPV (lookGo (nms l) l.length ds i told fs).2.head?), e4, e5, e6, e7, e8, e9, e10, e11]) (put S b (.lst ((lookGo (nms l) l.length ds i told fs).1.map effPV)))) →
    (forM .fix (turnF g (.name 4) (.cons (.asg (.tup (.cons (.name 5) (.cons (.name 6) .nil))) (.tup (.cons (.ix (.ix (.ix (.var 0) (.int 2)) (.var 4)) (.int 1)) (.cons (.cmp .eq (.bin .add (.var 4) (.int 1)) (.callB .len (.cons (.var 2) .nil))) .nil)))) (.cons (.asg (.tup (.cons (.name 7) (.cons (.name 8) .nil))) (.call i__law_effect_l ⟨3, [], [0, 1, 2]⟩ (.cons (.var 5) (.cons (.sl (.var 2) .none (.some (.var 4))) (.cons (.var 1) .nil))) .nil)) (.cons (.expr (.meth .append (.var 1) (.cons (.var 7) .nil))) (.cons (.ifs (.and (.tv (.var 6)) (.b1 (.cmp .isN (.var 3) .non))) (.cons (.setc 9 (.comp false [("k", 11)] (.var 11) (.name 11) (.rng (.cons (.callB .len (.cons (.var 5) .nil)) .nil)) (.some (.tv (.call i__law_is_short ⟨3, [], [0, 1, 2]⟩ (.cons (.sl (.var 5) .none (.some (.bin .add (.var 11) (.int 1)))) (.cons (.sl (.var 2) .none (.some (.var 4))) (.cons (.var 1) .nil))) .nil))))) (.cons (.asg (.name 3) (.ife (.cmp .ne (.var 9) (.lst false .nil)) (.tup (.cons (.var 4) (.cons (.ix (.var 9) (.int 0)) (.cons (.str "short") .nil)))) (.var 3))) .nil)) .nil) (.cons (.ifs (.and (.cmp .notN (.var 8) .non) (.b1 (.cmp .isN (.var 3) .non))) (.cons (.asg (.name 3) (.tup (.cons (.var 4) (.cons (.var 8) (.cons (.str "uneven") .nil))))) .nil) .nil) .nil)))))) (rngItems i ds.length) [some (.tup [.int w, .int h, .tup (l.map deedPV)]), some (.ref b), some (.lst ((nms l).map .str)), some (ffPV fs.head?), e4, e5, e6, e7, e8, e9, e10, e11]).run (put S b (.lst (told.map effPV))) Q E
  | [], i, told, fs, e4, e5, e6, e7, e8, e9, e10, e11, _, _, q => q e4 e5 e6 e7 e8 e9 e10 e11
  | d :: ds, i, told, fs, e4, e5, e6, e7, e8, e9, e10, e11, hdr, hl, q => by
    have ixd := fun {S : Stt} {Q : PV → Stt → Prop} {E : Exc → Stt → Prop} => ix_drop (S := S) (Q := Q) (E := E) (f := deedPV) hdr
    have ed : l[i]? = some d := by
      have := congrArg List.head? hdr
      rw [List.head?_drop] at this
      exact this
    have hlt : i < l.length := by rw [List.getElem?_eq_some_iff] at ed; exact ed.1
    have hnl : (nms l).length = l.length := by unfold nms; simp
    obtain ⟨k1, k2, k3⟩ := hd.each i d ed
    rw [nms_take] at k3
    have hlen := hd.len
    have hn := take_ok (i := i) hd.nms
    have hnd : ((nms l).take i).Nodup := hd.nd.sublist (List.take_sublist _ _)
    have htl : ((nms l).take i).length ≤ told.length := by rw [List.length_take, hnl]; omega
    have cutn : cutL ((nms l).map PV.str) none (some (i : Int)) = ((nms l).take i).map .str := by rw [cut_take (by simp; omega), List.map_take]
    have cutw : ∀ k : Nat, k < d.2.length → cutL (d.2.map Wd.pv) none (some (0 + (k : Int) + 1)) = (d.2.take (k + 1)).map Wd.pv := fun k hk => by
      rw [show (0 + (k : Int) + 1) = ((k + 1 : Nat) : Int) by omega, cut_take (by simp; omega), List.map_take]
    have sc0 : scan ((nms l).take i) told d.2 0 (0, 0) = scan (nms l) told d.2 0 (0, 0) := by
      have := scan_take (names := nms l) (d := i) (told := told) (more := []) (by omega) (ws := d.2) (k := 0) (w := (0, 0)) k3
      rw [List.append_nil] at this
      exact this
    have hEff := fun {Q : PV → Stt → Prop} {E : Exc → Stt → Prop} => x__law_effect_l (S := put S b (.lst (told.map effPV))) (Q := Q) (E := E) hn put_same k3 ⟨htl, by omega, hnd⟩
    rw [sc0] at hEff
    have e1 : told.map effPV ++ [effPV (scan (nms l) told d.2 0 (0, 0)).1] = (told ++ [(scan (nms l) told d.2 0 (0, 0)).1]).map effPV := by simp
    have hSh := fun (k : Nat) {Q : PV → Stt → Prop} {E : Exc → Stt → Prop} => x__law_is_short (S := put S b (.lst ((told ++ [(scan (nms l) told d.2 0 (0, 0)).1]).map effPV))) (Q := Q) (E := E) (wl := d.2.take (k + 1)) hn put_same (fun x hx => k3 x (List.take_sublist _ _ |>.subset hx)) ⟨by simp at htl ⊢; omega, by rw [List.length_take]; omega, hnd⟩
    have sc1 : ∀ k, scan ((nms l).take i) (told ++ [(scan (nms l) told d.2 0 (0, 0)).1]) (d.2.take (k + 1)) 0 (0, 0) = scan (nms l) told (d.2.take (k + 1)) 0 (0, 0) := fun k => scan_take (by omega) fun x hx => k3 x (List.take_sublist _ _ |>.subset hx)
    simp only [sc1] at hSh
    obtain ⟨K, hK⟩ : ∃ K, K = (told ++ [(scan (nms l) told d.2 0 (0, 0)).1]).map effPV := ⟨_, rfl⟩
    rw [← hK] at e1
    simp only [← hK] at hSh
    -- the rest of the turn, by the fault that stands
    have next : ∀ (ff : Option Fault) (a9 a10 a11 : Option PV), ff = (fs ++ faultsAt (nms l) told (decide (i + 1 = l.length)) i d.2).head? →
        (forM .fix (turnF g (.name 4) (.cons (.asg (.tup (.cons (.name 5) (.cons (.name 6) .nil))) (.tup (.cons (.ix (.ix (.ix (.var 0) (.int 2)) (.var 4)) (.int 1)) (.cons (.cmp .eq (.bin .add (.var 4) (.int 1)) (.callB .len (.cons (.var 2) .nil))) .nil)))) (.cons (.asg (.tup (.cons (.name 7) (.cons (.name 8) .nil))) (.call i__law_effect_l ⟨3, [], [0, 1, 2]⟩ (.cons (.var 5) (.cons (.sl (.var 2) .none (.some (.var 4))) (.cons (.var 1) .nil))) .nil)) (.cons (.expr (.meth .append (.var 1) (.cons (.var 7) .nil))) (.cons (.ifs (.and (.tv (.var 6)) (.b1 (.cmp .isN (.var 3) .non))) (.cons (.setc 9 (.comp false [("k", 11)] (.var 11) (.name 11) (.rng (.cons (.callB .len (.cons (.var 5) .nil)) .nil)) (.some (.tv (.call i__law_is_short ⟨3, [], [0, 1, 2]⟩ (.cons (.sl (.var 5) .none (.some (.bin .add (.var 11) (.int 1)))) (.cons (.sl (.var 2) .none (.some (.var 4))) (.cons (.var 1) .nil))) .nil))))) (.cons (.asg (.name 3) (.ife (.cmp .ne (.var 9) (.lst false .nil)) (.tup (.cons (.var 4) (.cons (.ix (.var 9) (.int 0)) (.cons (.str "short") .nil)))) (.var 3))) .nil)) .nil) (.cons (.ifs (.and (.cmp .notN (.var 8) .non) (.b1 (.cmp .isN (.var 3) .non))) (.cons (.asg (.name 3) (.tup (.cons (.var 4) (.cons (.var 8) (.cons (.str "uneven") .nil))))) .nil) .nil) .nil)))))) (rngItems (i + 1) ds.length) [some (.tup [.int w, .int h, .tup (l.map deedPV)]), some (.ref b), some (.lst ((nms l).map .str)), some (ffPV ff), some (.int i), some (.tup (d.2.map Wd.pv)), some (.bl (decide (i + 1 = l.length))), some (effPV (scan (nms l) told d.2 0 (0, 0)).1), some (atPV (scan (nms l) told d.2 0 (0, 0)).2), a9, a10, a11]).run (put S b (.lst K)) Q E := by
      intro ff a9 a10 a11 hff
      subst hff
      rw [hK]
      refine loop_ll hd hb ds (i + 1) _ _ _ _ _ _ _ _ _ _ (drop_next hdr) (by simp [hl]) fun b4 b5 b6 b7 b8 b9 b10 b11 => ?_
      have := q b4 b5 b6 b7 b8 b9 b10 b11
      unfold lookGo at this
      exact this
    have tailB : ∀ (ff : Option Fault) (a9 a10 a11 : Option PV), ff.or ((scan (nms l) told d.2 0 (0, 0)).2.map fun k => ((i, k, true) : Fault)) = (fs ++ faultsAt (nms l) told (decide (i + 1 = l.length)) i d.2).head? →
        (dB g (.cons (.ifs (.and (.cmp .notN (.var 8) .non) (.b1 (.cmp .isN (.var 3) .non))) (.cons (.asg (.name 3) (.tup (.cons (.var 4) (.cons (.var 8) (.cons (.str "uneven") .nil))))) .nil) .nil) .nil) [some (.tup [.int w, .int h, .tup (l.map deedPV)]), some (.ref b), some (.lst ((nms l).map .str)), some (ffPV ff), some (.int i), some (.tup (d.2.map Wd.pv)), some (.bl (decide (i + 1 = l.length))), some (effPV (scan (nms l) told d.2 0 (0, 0)).1), some (atPV (scan (nms l) told d.2 0 (0, 0)).2), a9, a10, a11]).run (put S b (.lst K))
          (fun r S => (forR .fix (turnF g (.name 4) (.cons (.asg (.tup (.cons (.name 5) (.cons (.name 6) .nil))) (.tup (.cons (.ix (.ix (.ix (.var 0) (.int 2)) (.var 4)) (.int 1)) (.cons (.cmp .eq (.bin .add (.var 4) (.int 1)) (.callB .len (.cons (.var 2) .nil))) .nil)))) (.cons (.asg (.tup (.cons (.name 7) (.cons (.name 8) .nil))) (.call i__law_effect_l ⟨3, [], [0, 1, 2]⟩ (.cons (.var 5) (.cons (.sl (.var 2) .none (.some (.var 4))) (.cons (.var 1) .nil))) .nil)) (.cons (.expr (.meth .append (.var 1) (.cons (.var 7) .nil))) (.cons (.ifs (.and (.tv (.var 6)) (.b1 (.cmp .isN (.var 3) .non))) (.cons (.setc 9 (.comp false [("k", 11)] (.var 11) (.name 11) (.rng (.cons (.callB .len (.cons (.var 5) .nil)) .nil)) (.some (.tv (.call i__law_is_short ⟨3, [], [0, 1, 2]⟩ (.cons (.sl (.var 5) .none (.some (.bin .add (.var 11) (.int 1)))) (.cons (.sl (.var 2) .none (.some (.var 4))) (.cons (.var 1) .nil))) .nil))))) (.cons (.asg (.name 3) (.ife (.cmp .ne (.var 9) (.lst false .nil)) (.tup (.cons (.var 4) (.cons (.ix (.var 9) (.int 0)) (.cons (.str "short") .nil)))) (.var 3))) .nil)) .nil) (.cons (.ifs (.and (.cmp .notN (.var 8) .non) (.b1 (.cmp .isN (.var 3) .non))) (.cons (.asg (.name 3) (.tup (.cons (.var 4) (.cons (.var 8) (.cons (.str "uneven") .nil))))) .nil) .nil) .nil)))))) (rngItems (i + 1) ds.length) r).run S Q E) E := by
      intro ff a9 a10 a11 hff
      cases hs : (scan (nms l) told d.2 0 (0, 0)).2 with
      | none =>
        rw [hs] at hff next
        have := next ff a9 a10 a11 (by rw [← hff]; cases ff <;> rfl)
        simp [atPV, isNon]
        exact this
      | some k =>
        rw [hs] at hff next
        cases ff with
        | none =>
          have := next (some (i, k, true)) a9 a10 a11 (by rw [← hff]; rfl)
          simp [atPV, isNon, ffPV, sizeLine]
          exact this
        | some f =>
          have := next (some f) a9 a10 a11 (by rw [← hff]; rfl)
          simp [atPV, isNon, ffPV, faultPV]
          exact this
    rw [List.length_cons, rng_cons, r_forS]
    have hm : decide ((i : Int) + 1 = (l.length : Int)) = decide (i + 1 = l.length) := decide_eq_decide.mpr (by omega)
    have hm' : ((i : Int) + 1 = ((nms l).length : Int)) ↔ (i + 1 = l.length) := by rw [hnl]; omega
    have hs1 : told.length < sizeLine := by unfold sizeLine; omega
    simp only [↓r_turn, ↓r_gn, ↓k_setS, ↓k_set0, ↓r_bc, ↓r_asg, ↓r_tup, ↓r_lc, ↓r_l0, ↓r_ix, ↓r_var, ↓r_getS, ↓r_get0, ↓r_int, ↓r_ixT2, ixd, deedPV, ↓r_ixT1, ↓r_cmp, ↓r_bin, ↓r_add, ↓r_callB, ↓r_lenL, List.length_map, ↓r_eqI, ↓r_gt, List.length_cons, List.length_nil, lenTs, ↓r_gc, ↓r_g0, ↓r_snx, ↓x_call__law_effect_l_0, ↓r_sl, ↓r_o0, ↓r_o1, ↓r_prt, ↓r_slL, cutn, ↓x_cf__law_effect_l_0, hEff, hnl, hm, ↓r_ex, ↓r_meth, ↓r_isTR_append, ↓r_appR, appK_eq, e1, hs1, true_and]
    refine ⟨by unfold sizeLine; omega, ?_⟩
    have hh : (fs ++ faultsAt (nms l) told (decide (i + 1 = l.length)) i d.2).head? = fs.head?.or (faultsAt (nms l) told (decide (i + 1 = l.length)) i d.2).head? := List.head?_append
    rw [faults_head] at hh
    simp only [↓r_if, ↓r_tand, ↓r_ttv, ↓r_var, ↓r_getS, ↓r_get0, ↓r_trb, ↓r_tb1, ↓r_tcmp, ↓r_non, ↓r_isN, isNon_ff]
    by_cases main : i + 1 = l.length
    · rw [if_pos (decide_eq_true main)]
      cases hf : fs.head? with
      | some f =>
        rw [hf] at hh
        rw [show (some f : Option Fault).isNone = false from rfl]
        simp only [Bool.false_eq_true, if_false, ↓r_b0, ↓r_snx]
        exact tailB (some f) e9 e10 e11 (by rw [hh]; rfl)
      | none =>
        rw [hf, if_pos (decide_eq_true main)] at hh
        rw [show (none : Option Fault).isNone = true from rfl]
        have hsl : ∀ k : Nat, k < d.2.length → (0 : Int) + (k : Int) = (k : Int) := fun k _ => by omega
        simp only [if_true, ↓r_bc, ↓r_setc, ↓r_comp, ↓r_ir, ↓r_lc, ↓r_l0, ↓r_callB, ↓r_var, ↓r_getS, ↓r_get0, ↓r_lenT, List.length_map, lenL, List.length_cons, List.length_nil, ↓r_rg1, List.map_cons, List.map_nil, ↓k_wipeS, ↓k_wipe0, ↓k_setS, ↓k_set0]
        refine ⟨trivial, by unfold inRng; omega, ?_⟩
        have er : rngItems 0 ((d.2.length : Int)).toNat = (List.range d.2.length).map fun k : Nat => PV.int (0 + (k : Int)) := by simp [rngItems]
        rw [er]
        refine compM_filter (f := fun k : Nat => PV.int (0 + (k : Int))) (p := fun k => isShort (scan (nms l) told (d.2.take (k + 1)) 0 (0, 0)).1) (fun k hk acc Q E ha q => ?_) (by simp [sizeLine]; omega) ?_
        · have hk' : k < d.2.length := by simpa using hk
          rw [r_compF]
          simp only [↓r_gn, ↓k_setS, ↓k_set0, ↓r_c1, ↓r_ttv, ↓x_call__law_is_short_0, ↓r_lc, ↓r_l0, ↓r_sl, ↓r_o0, ↓r_o1, ↓r_bin, ↓r_var, ↓r_getS, ↓r_get0, ↓r_int, ↓r_add, ↓r_prt, ↓r_slT, ↓r_slL, cutw k hk', cutn, ↓x_cf__law_is_short_0, hSh, ↓r_trb, ha, true_and, appK_eq]
          split
          · rename_i c; rw [if_pos c] at q; exact q
          · rename_i c; rw [if_neg c] at q; exact q
        · rw [List.nil_append]
          have hW : ((List.range d.2.length).filter fun k => isShort (scan (nms l) told (d.2.take (k + 1)) 0 (0, 0)).1).head? = (shorts (nms l) told d.2 0 (0, 0)).head? := by
            rw [List.head?_filter, short_head (j := 0) rfl]
            cases (List.range d.2.length).find? fun k => isShort (scan (nms l) told (d.2.take (k + 1)) 0 (0, 0)).1 <;> rfl
          generalize ((List.range d.2.length).filter fun k => isShort (scan (nms l) told (d.2.take (k + 1)) 0 (0, 0)).1) = W at hW
          have fW := fine_ints (xs := W)
          rw [← hW] at hh
          cases W with
          | nil =>
            simp only [↓r_snx, ↓r_bc, ↓r_asg, ↓r_ife, ↓r_tcmp, ↓r_var, ↓r_getS, ↓r_get0, ↓k_setS, ↓k_set0, ↓r_lst, ↓r_l0, ↓r_neL, fW, true_and]
            refine ⟨by simp [sizeLine], ?_⟩
            have e : PV.eqv (.lst (([] : List Nat).map fun k : Nat => PV.int (0 + (k : Int)))) (.lst []) = true := by simp [PV.eqv, PV.eqvL]
            simp only [e, Bool.not_true, ↓r_trb, Bool.false_eq_true, if_false, ↓r_var, ↓r_getS, ↓r_get0, ↓r_gn, ↓k_setS, ↓k_set0, ↓r_snx, ↓r_b0]
            exact tailB none _ _ _ (by rw [hh]; rfl)
          | cons k W =>
            simp only [↓r_snx, ↓r_bc, ↓r_asg, ↓r_ife, ↓r_tcmp, ↓r_var, ↓r_getS, ↓r_get0, ↓k_setS, ↓k_set0, ↓r_lst, ↓r_l0, ↓r_neL, fW, true_and]
            refine ⟨by simp [sizeLine], ?_⟩
            have e : PV.eqv (.lst ((k :: W).map fun k : Nat => PV.int (0 + (k : Int)))) (.lst []) = false := by simp [PV.eqv, PV.eqvL]
            simp only [e, Bool.not_false, ↓r_trb, if_true, ↓r_tup, ↓r_lc, ↓r_l0, ↓r_ix, ↓r_int, ↓r_str, List.map_cons, ↓r_ixL0, ↓r_var, ↓r_getS, ↓r_get0, ↓r_gn, ↓k_setS, ↓k_set0, ↓r_snx, ↓r_b0]
            refine ⟨by simp [sizeLine], ?_⟩
            have := tailB (some (i, k, false)) (some (.lst ((k :: W).map fun k : Nat => PV.int (0 + (k : Int))))) e10 e11 (by rw [hh]; rfl)
            simp only [ffPV, faultPV, List.map_cons] at this
            rw [Int.zero_add] at *
            exact this
    · rw [if_neg (by simpa using main)]
      simp only [Bool.false_eq_true, if_false, ↓r_b0, ↓r_snx]
      exact tailB fs.head? e9 e10 e11 (by rw [hh, if_neg (by simpa using main)]; cases fs.head? <;> rfl)
theorem le__law_looked {w h : Int} {ds : List PV} : M.le (C__law_looked [.tup [.int w, .int h, .tup ds]]) (d__law_looked.den g [.tup [.int w, .int h, .tup ds]]) := by
  rintro S Q E ⟨l, rfl, hd, q⟩
  have q : Q (.tup [.tup ((lookP l).1.map effPV), ffPV (firstFault l)]) S := q
  rw [den_eq (body := c__law_looked) (env := [some (.tup [.int w, .int h, .tup (l.map deedPV)]), none, none, none, none, none, none, none, none, none, none, none]) rfl rfl]
  unfold c__law_looked
  have hlen := hd.len
  simp only [↓r_runB, ↓r_bc, ↓r_asg, ↓r_tup, ↓r_lc, ↓r_l0, ↓r_own]
  refine ⟨by simp [sizeLine], fun b hb => ?_⟩
  simp only [↓r_comp, ↓r_iv, ↓r_ix, ↓r_var, ↓r_getS, ↓r_get0, ↓r_int, ↓r_ixT2, ↓r_srt, List.map_cons, List.map_nil, ↓k_wipeS, ↓k_wipe0, ↓k_setS, ↓k_set0]
  refine compM_map (f := fun d : Deed => PV.str d.1) (fun d hd acc Q E ha q => ?_) (by simp [sizeLine]; omega) ?_
  · rw [r_compF]
    simp [deedPV, ha, lenTs]
    exact q
  · rw [List.nil_append, map_fst]
    simp only [↓r_non, List.length_cons, List.length_nil, ↓r_gt, lenTs, ↓r_gc, ↓r_g0, ↓r_gn, ↓k_setS, ↓k_set0, ↓r_snx, ↓r_bc, ↓r_loop, ↓r_ir, ↓r_lc, ↓r_l0, ↓r_callB, ↓r_var, ↓r_getS, ↓r_get0, ↓r_lenL, List.length_map, lenL, ↓r_rg1]
    have hnl : (nms l).length = l.length := by unfold nms; simp
    refine ⟨by simp [sizeLine], trivial, trivial, by unfold inRng; omega, ?_⟩
    rw [show (((nms l).length : Int)).toNat = l.length by rw [hnl]; simp]
    refine loop_ll hd hb l 0 [] [] _ _ _ _ _ _ _ _ rfl rfl fun e4 e5 e6 e7 e8 e9 e10 e11 => ?_
    simp only [↓r_snx, ↓r_bf, ↓r_frzS, ↓r_frz0, del_id hb, ↓r_bc, ↓r_rt, ↓r_tup, ↓r_lc, ↓r_l0, ↓r_callT, ↓r_var, ↓r_getS, ↓r_get0, ↓r_Ttup, ↓r_srr, ↓r_ert]
    refine ⟨by simp [sizeLine], ?_⟩
    exact q
end Dp.L

namespace Dp.L
open PySem PySem.Spec L2 Dp
open PyProof.Rows hiding St
/-! names -/
def chr (c : Nat) : Str := ⟨#[c]⟩
def tailC (nm : Str) (c : Nat) : Str := cutS nm none (some 7) ++ chr c
def cands (nm : Str) : List Str := nm :: lettersS.cps.toList.map (tailC nm)
theorem cut7 {nm : Str} : (cutS nm none (some 7)).cps.toList = nm.cps.toList.take 7 := by
  show (((nm.cps.toList.drop (HT.sIx nm.length 0 none)).take (HT.sIx nm.length nm.length (some ((7 : Nat) : Int)) - HT.sIx nm.length 0 none)).toArray).toList = _
  rw [HT.sIx_nat, HT.sIx_none, List.drop_zero, Nat.sub_zero]
  simp only [List.toList_toArray]
  rw [show nm.length = nm.cps.toList.length by simp [Str.length]]
  by_cases h : 7 ≤ nm.cps.toList.length
  · rw [Nat.min_eq_left h]
  · rw [Nat.min_eq_right (by omega), List.take_length, List.take_of_length_le (by omega)]
theorem app_cps {a b : Str} : (a ++ b).cps.toList = a.cps.toList ++ b.cps.toList := by
  show (a.cps ++ b.cps).toList = _
  simp
theorem tail_cps {nm : Str} {c : Nat} : (tailC nm c).cps.toList = nm.cps.toList.take 7 ++ [c] := by
  unfold tailC
  rw [app_cps, cut7]; rfl
theorem len_cps {s : Str} : s.length = s.cps.toList.length := by simp [Str.length]
def freeL : List Nat := ("acghjmqruvwyz" : Str).cps.toList
theorem freeL_lt : ∀ c ∈ freeL, c ∈ lettersS.cps.toList := by decide +kernel
theorem freeL_nd : freeL.Nodup := by decide +kernel
theorem last_barred : ∀ w ∈ barred ++ ownNames, ∀ c ∈ freeL, w.cps.toList.getLast? ≠ some c := by decide +kernel
theorem nodup_le {α : Type} [DecidableEq α] : ∀ {l m : List α}, l.Nodup → (∀ x ∈ l, x ∈ m) → l.length ≤ m.length
  | [], m, _, _ => by simp
  | x :: l, m, h, hs => by
    rw [List.nodup_cons] at h
    have := nodup_le (l := l) (m := m.erase x) h.2 fun y hy => (List.mem_erase_of_ne (by intro e; subst e; exact h.1 hy)).mpr (hs y (by simp [hy]))
    rw [List.length_erase_of_mem (hs x (by simp))] at this
    have hm : 0 < m.length := List.length_pos_of_mem (hs x (by simp))
    simp only [List.length_cons]
    omega
theorem cand_some {nm : Str} {found : List Str} (hf : found.length ≤ 8) : ∃ c ∈ cands nm, c ∉ barred ∧ c ∉ found ∧ c ∉ ownNames := by
  by_cases h : ∃ c ∈ freeL, tailC nm c ∉ found
  · obtain ⟨c, hc, hn⟩ := h
    have hl : (tailC nm c).cps.toList.getLast? = some c := by rw [tail_cps]; simp
    have nb : ∀ w ∈ barred ++ ownNames, tailC nm c ≠ w := fun w hw e => last_barred w hw c hc (by rw [← e]; exact hl)
    refine ⟨tailC nm c, List.mem_cons_of_mem _ (List.mem_map.mpr ⟨c, freeL_lt c hc, rfl⟩), fun z => nb _ (List.mem_append_left _ z) rfl, hn, fun z => nb _ (List.mem_append_right _ z) rfl⟩
  · exfalso
    have h' : ∀ x ∈ freeL.map (tailC nm), x ∈ found := fun x hx => by
      obtain ⟨c, hc, rfl⟩ := List.mem_map.mp hx
      exact Classical.byContradiction fun hn => h ⟨c, hc, hn⟩
    have nd : (freeL.map (tailC nm)).Nodup := by
      rw [List.nodup_iff_pairwise_ne, List.pairwise_map]
      refine freeL_nd.imp fun {a b} hab e => hab ?_
      have := congrArg (fun s : Str => s.cps.toList) e
      simp only [tail_cps] at this
      simpa using this
    have := nodup_le nd h'
    rw [List.length_map, show freeL.length = 13 by decide +kernel] at this
    omega
/-- what has letters alone -/
structure Lt (s : Str) (n : Nat) : Prop where
  len : s.length = n
  lt : ∀ c ∈ s.cps.toList, isLetter c = true
theorem cand_good {nm c : Str} {n : Nat} (h : Lt nm n) (h1 : 1 ≤ n) (h2 : n ≤ 8) (hc : c ∈ cands nm) (hb : c ∉ barred) : goodName c = true := by
  have key : 1 ≤ c.length ∧ c.length ≤ 8 ∧ ∀ x ∈ c.cps.toList, isLetter x = true := by
    rcases List.mem_cons.mp hc with rfl | hc
    · exact ⟨by rw [h.len]; exact h1, by rw [h.len]; exact h2, h.lt⟩
    · obtain ⟨x, hx, rfl⟩ := List.mem_map.mp hc
      refine ⟨?_, ?_, fun y hy => ?_⟩
      · rw [len_cps, tail_cps]; simp
      · rw [len_cps, tail_cps]; simp; omega
      · rw [tail_cps] at hy
        rcases List.mem_append.mp hy with hy | hy
        · exact h.lt y (List.take_sublist _ _ |>.subset hy)
        · rw [List.mem_singleton] at hy
          subst hy
          unfold isLetter; exact decide_eq_true hx
  unfold goodName
  simp only [Bool.and_eq_true, decide_eq_true_eq, List.all_eq_true]
  exact ⟨⟨⟨key.1, key.2.1⟩, key.2.2⟩, hb⟩
theorem cand_ok {nm c : Str} {n : Nat} (h : Lt nm n) (hc : c ∈ cands nm) : PyData.strOk c = true := by
  show c.cps.all _ = true
  rw [← Array.all_toList, List.all_eq_true]
  intro x hx
  refine decide_eq_true (letters_ok ?_)
  rcases List.mem_cons.mp hc with rfl | hc
  · exact h.lt x hx
  · obtain ⟨y, hy, rfl⟩ := List.mem_map.mp hc
    rw [tail_cps] at hx
    rcases List.mem_append.mp hx with hx | hx
    · exact h.lt x (List.take_sublist _ _ |>.subset hx)
    · rw [List.mem_singleton] at hx
      subst hx
      unfold isLetter; exact decide_eq_true hy
theorem letters_str : ∀ c ∈ lettersS.cps.toList, PyData.strOk (chr c) = true := by decide +kernel
theorem lt_nil : Lt "" 0 := ⟨by decide +kernel, by decide +kernel⟩
theorem lt_app {nm : Str} {n c : Nat} (h : Lt nm n) (hc : c ∈ lettersS.cps.toList) : Lt (nm ++ chr c) (n + 1) := by
  refine ⟨?_, fun x hx => ?_⟩
  · rw [len_cps, app_cps, List.length_append, ← len_cps, h.len]; rfl
  · rw [app_cps] at hx
    rcases List.mem_append.mp hx with hx | hx
    · exact h.lt x hx
    · have : x = c := by simpa [chr] using hx
      rw [this]; unfold isLetter; exact decide_eq_true hc
/-- a letter drawn -/
theorem ix_letter {v : Int} (h1 : 0 ≤ v) (h2 : v < 26) : ∃ c ∈ lettersS.cps.toList, ∀ (S : Stt) (Q : PV → Stt → Prop) (E : Exc → Stt → Prop), (vIdx (.str lettersS) (.int v)).run S Q E = Q (.str (chr c)) S := by
  have hl : lettersS.cps.toList.length = 26 := by decide +kernel
  have hi : ixN lettersS.cps.toList.length v = some v.toNat := by unfold ixN; rw [if_pos h1, if_pos (by rw [hl]; exact h2)]
  have hlt : v.toNat < lettersS.cps.toList.length := by omega
  refine ⟨lettersS.cps.toList[v.toNat], List.getElem_mem hlt, fun S Q E => ?_⟩
  rw [r_ixS]
  have : atI lettersS.cps.toList v = some lettersS.cps.toList[v.toNat] := by unfold atI; rw [hi]; exact List.getElem?_eq_getElem hlt
  rw [this]
  exact propext ⟨fun q => q.2, fun q => ⟨by decide +kernel, q⟩⟩
/-- the inner loop: a name grows -/
theorem loop_nm {a : Addr} {many : Int} {B f : PV} {S : Stt} {Q : Res → Stt → Prop} {E : Exc → Stt → Prop} {e4 e7 e8 e9 : Option PV} : ∀ (m j : Nat) (nm : Str) (p q z : Int) (e6 : Option PV), Lt nm j → j + m ≤ 8 →
    (∀ nm' p q z e6, Lt nm' (j + m) → Q (.nx [some (.ref a), some (.int many), some B, some f, e4, some (.str nm'), e6, e7, e8, e9]) (plst S a p q z)) →
    (forM .fix (turnF g (.name 6) (.cons (.asg (.name 5) (.bin .add (.var 5) (.ix (.str "abcdefghijklmnopqrstuvwxyz") (.call i__law_draw ⟨2, [], [0, 1]⟩ (.cons (.var 0) (.cons (.int 26) .nil)) .nil)))) .nil)) (rngItems j m) [some (.ref a), some (.int many), some B, some f, e4, some (.str nm), e6, e7, e8, e9]).run (plst S a p q z) Q E
  | 0, j, nm, p, q, z, e6, h, _, k => k nm p q z e6 h
  | m + 1, j, nm, p, q, z, e6, h, hl, k => by
    rw [rng_cons, r_forS]
    simp only [↓r_turn, ↓r_gn, ↓k_setS, ↓k_set0, ↓r_bc, ↓r_asg, ↓r_bin, ↓r_var, ↓r_getS, ↓r_get0, ↓r_ix, ↓r_str, ↓x_call__law_draw_0, ↓r_lc, ↓r_l0, ↓r_int, ↓x_cf__law_draw_0, ↓x__law_draw]
    refine ⟨⟨by omega, by omega⟩, fun p' q' z' v h1 h2 => ?_⟩
    obtain ⟨c, hc, e⟩ := ix_letter h1 h2
    have e' := e (plst S a p' q' z')
    unfold lettersS at e'
    rw [e', r_addS]
    refine ⟨by have := h.len; simp [sizeLine, chr, Str.length] at this ⊢; omega, ?_⟩
    simp only [↓r_gn, ↓k_setS, ↓k_set0, ↓r_snx, ↓r_b0, ↓r_fnx]
    exact loop_nm m (j + 1) (nm ++ chr c) p' q' z' _ (lt_app h hc) (by omega) fun nm' p q z e6 hh => k nm' p q z e6 (by rw [show j + (m + 1) = j + 1 + m by omega]; exact hh)
end Dp.L

namespace Dp.L
open PySem PySem.Spec L2 Dp
open PyProof.Rows hiding St
theorem addLR {x : List PV} {ys : List PV} {f : Addr} {S : Stt} {Q : PV → Stt → Prop} {E : Exc → Stt → Prop} (h : S f = some (.lst ys)) : (Bop.add.sem (.lst x) (.ref f)).run S Q E = (x.length + ys.length ≤ sizeLine ∧ Q (.lst (x ++ ys)) S) := by
  refine propext ⟨fun qq => ?_, fun qq => .inl ⟨ys, h, qq⟩⟩
  rcases qq with ⟨zs, e, qq⟩ | ⟨n, qq⟩
  · rw [h] at e; cases e; exact qq
  · exact absurd h (n ys)
@[simp ↓] theorem x__law_own {S : Stt} {Q : PV → Stt → Prop} {E : Exc → Stt → Prop} : (C__law_own []).run S Q E = Q (.lst (ownNames.map .str)) S := rfl
theorem split_barred : Txt.split ("add box clip drop dup end flip if ink mul page shift sub swap times to tri turn" : Str) (" " : Str) = barred := by decide +kernel
theorem barred_ok : ∀ y ∈ barred, PyData.strOk y = true := by decide +kernel
theorem own_ok : ∀ y ∈ ownNames, PyData.strOk y = true := by decide +kernel
theorem loop_nms {a f : Addr} {many : Int} {S : Stt} (hf : S f = none) (haf : f ≠ a) {Q : Res → Stt → Prop} {E : Exc → Stt → Prop} : ∀ (n i : Nat) (l : List Str) (p q z : Int) (e4 e5 e6 e7 e8 e9 : Option PV), l.length = i → i + n ≤ 8 → l.Nodup → (∀ y ∈ l, goodName y = true) →
    (∀ (l' : List Str) (p q z : Int) (e4 e5 e6 e7 e8 e9 : Option PV), l'.length = i + n → l'.Nodup → (∀ y ∈ l', goodName y = true) → Q (.nx [some (.ref a), some (.int many), some (.lst (barred.map .str)), some (.ref f), e4, e5, e6, e7, e8, e9]) (plst (put S f (.lst (l'.map .str))) a p q z)) →
    (forM .fix (turnF g (.name 4) (.cons (.asg (.name 5) (.str "")) (.cons (.loop (.name 6) (.rng (.cons (.call i__law_of ⟨2, [], [0, 1]⟩ (.cons (.var 0) (.cons (.tup (.cons (.int 1) (.cons (.int 1) (.cons (.int 2) (.cons (.int 3) (.cons (.int 5) (.cons (.int 8) .nil))))))) .nil)) .nil) .nil)) (.cons (.asg (.name 5) (.bin .add (.var 5) (.ix (.str "abcdefghijklmnopqrstuvwxyz") (.call i__law_draw ⟨2, [], [0, 1]⟩ (.cons (.var 0) (.cons (.int 26) .nil)) .nil)))) .nil)) (.cons (.setc 7 (.comp false [("each", 8)] (.var 8) (.name 8) (.val (.bin .add (.lst false (.cons (.var 5) .nil)) (.comp false [("last", 9)] (.bin .add (.sl (.var 5) .none (.some (.int 7))) (.var 9)) (.name 9) (.val (.str "abcdefghijklmnopqrstuvwxyz")) .none))) (.some (.cmp .notin (.var 8) (.bin .add (.bin .add (.var 2) (.var 3)) (.call i__law_own ⟨0, [], []⟩ .nil .nil)))))) (.cons (.expr (.meth .append (.var 3) (.cons (.ix (.var 7) (.int 0)) .nil))) .nil))))) (rngItems i n) [some (.ref a), some (.int many), some (.lst (barred.map .str)), some (.ref f), e4, e5, e6, e7, e8, e9]).run (plst (put S f (.lst (l.map .str))) a p q z) Q E
  | 0, i, l, p, q, z, e4, e5, e6, e7, e8, e9, hl, _, nd, hg, k => k l p q z e4 e5 e6 e7 e8 e9 hl nd hg
  | n + 1, i, l, p, q, z, e4, e5, e6, e7, e8, e9, hl, hz, nd, hg, k => by
    rw [rng_cons, r_forS]
    simp only [↓r_turn, ↓r_gn, ↓k_setS, ↓k_set0, ↓r_bc, ↓r_asg, ↓r_str, ↓r_snx, ↓r_loop, ↓r_ir, ↓r_lc, ↓r_l0, ↓x_call__law_of_0, ↓r_var, ↓r_getS, ↓r_get0, ↓r_tup, ↓r_int, ↓x_cf__law_of_0, ↓x__law_ofT]
    refine ⟨by simp [sizeLine], ⟨by simp, by simp⟩, fun p' q' z' v hv => ?_⟩
    obtain ⟨m, rfl, hm1, hm2⟩ : ∃ m : Nat, v = .int m ∧ 1 ≤ m ∧ m ≤ 8 := by
      simp only [List.mem_cons, List.not_mem_nil, or_false] at hv
      rcases hv with h | h | h | h | h | h <;> subst h
      · exact ⟨1, rfl, by omega, by omega⟩
      · exact ⟨1, rfl, by omega, by omega⟩
      · exact ⟨2, rfl, by omega, by omega⟩
      · exact ⟨3, rfl, by omega, by omega⟩
      · exact ⟨5, rfl, by omega, by omega⟩
      · exact ⟨8, rfl, by omega, by omega⟩
    simp only [↓r_rg1, lenL, List.length_cons, List.length_nil]
    refine ⟨trivial, by unfold inRng; omega, ?_⟩
    rw [show ((m : Int)).toNat = m by simp]
    refine loop_nm m 0 "" p' q' z' e6 lt_nil (by omega) fun nm p q z e6 hnm => ?_
    rw [Nat.zero_add] at hnm
    have hf' : plst (put S f (.lst (l.map .str))) a p q z f = some (.lst (l.map .str)) := by unfold plst; rw [put_ne haf, put_same]
    have hnl : nm.length ≤ sizeLine := by rw [hnm.len]; unfold sizeLine; omega
    simp only [↓r_snx, ↓r_bc, ↓r_setc, ↓r_comp, ↓r_iv, ↓r_bin, ↓r_lst, ↓r_lc, ↓r_l0, ↓r_var, ↓r_getS, ↓r_get0, ↓r_str, ↓r_srS, List.map_cons, List.map_nil, ↓k_wipeS, ↓k_wipe0, ↓k_setS, ↓k_set0]
    refine ⟨by simp [sizeLine], ?_⟩
    refine compM_map (ys := lettersS.cps.toList) (h := fun c => PV.str ⟨#[c]⟩) (f := fun c => PV.str (tailC nm c)) (fun c hc acc Q E ha q => ?_) (by rw [show lettersS.cps.toList.length = 26 by decide +kernel]; simp [sizeLine]) ?_
    · rw [r_compF]
      simp only [↓r_gn, ↓k_setS, ↓k_set0, ↓r_c0, ↓r_bin, ↓r_sl, ↓r_o0, ↓r_o1, ↓r_int, ↓r_prt, ↓r_var, ↓r_getS, ↓r_get0, ↓r_slS, hnl, true_and, ↓r_addS]
      rw [if_pos trivial]
      refine ⟨by have := cutS_length nm none (some 7); rw [hnm.len] at this; simp [sizeLine, Str.length] at this ⊢; omega, ha, ?_⟩
      exact q
    · rw [List.nil_append]
      have hcl : (cands nm).length = 27 := by simp [cands]; decide +kernel
      simp only [↓r_addL, catK_eq, List.cons_append, List.nil_append]
      refine ⟨by simp [sizeLine]; decide +kernel, ?_⟩
      rw [show (PV.str nm :: lettersS.cps.toList.map fun c => PV.str (tailC nm c)) = (cands nm).map .str by unfold cands; rw [List.map_cons, List.map_map]; rfl]
      simp only [↓r_srl]
      have okB : ∀ y ∈ barred ++ l ++ ownNames, PyData.strOk y = true := fun y hy => by
        rcases List.mem_append.mp hy with hy | hy
        · rcases List.mem_append.mp hy with hy | hy
          · exact barred_ok y hy
          · exact gn_ok (hg y hy)
        · exact own_ok y hy
      refine compM_filter (f := fun c : Str => PV.str c) (p := fun c => decide (c ∉ barred ++ l ++ ownNames)) (fun c hc acc Q E ha q => ?_) (by rw [hcl]; simp [sizeLine]) ?_
      · rw [r_compF]
        simp only [↓r_gn, ↓k_setS, ↓k_set0, ↓r_c1, ↓r_tcmp, ↓r_bin, ↓r_var, ↓r_getS, ↓r_get0, addLR hf']
        refine ⟨by simp [barred, sizeLine]; omega, ?_⟩
        simp only [↓x_call__law_own_0, ↓r_l0, ↓x_cf__law_own_0, ↓x__law_own, ↓r_addL, catK_eq]
        refine ⟨by simp [barred, ownNames, sizeLine]; omega, ?_⟩
        rw [← List.map_append, ← List.map_append, x_ninLs]
        refine ⟨(fine2_strs (cand_ok hnm hc) okB).1, ?_⟩
        simp only [↓r_trb, ha, true_and, appK_eq, ↓r_var, ↓r_getS, ↓r_get0]
        split
        · rename_i c; rw [if_pos c] at q; exact q
        · rename_i c; rw [if_neg c] at q; exact q
      · rw [List.nil_append]
        obtain ⟨c0, hc0, n1, n2, n3⟩ := cand_some (nm := nm) (found := l) (by omega)
        have hmem : c0 ∈ (cands nm).filter fun c => decide (c ∉ barred ++ l ++ ownNames) := List.mem_filter.mpr ⟨hc0, decide_eq_true (by simp [n1, n2, n3])⟩
        generalize hW : ((cands nm).filter fun c => decide (c ∉ barred ++ l ++ ownNames)) = W at hmem
        cases W with
        | nil => cases hmem
        | cons c W =>
          have hcm : c ∈ (cands nm).filter fun c => decide (c ∉ barred ++ l ++ ownNames) := by rw [hW]; simp
          obtain ⟨hc1, hc2⟩ := List.mem_filter.mp hcm
          have hc2 : c ∉ barred ∧ c ∉ l ∧ c ∉ ownNames := by simpa [not_or, and_assoc] using hc2
          simp only [↓r_snx, ↓r_bc, ↓r_ex, ↓r_meth, ↓r_var, ↓r_getS, ↓r_get0, isT_ref (T := Mt.T .append) hf' rfl, ↓r_lc, ↓r_l0, ↓r_ix, ↓r_int, List.map_cons, ↓r_ixL0, app_ref hf']
          refine ⟨by simp [sizeLine]; omega, ?_⟩
          unfold plst
          rw [put3' haf]
          simp only [↓r_b0, ↓r_snx, ↓r_fnx]
          rw [show l.map PV.str ++ [PV.str c] = (l ++ [c]).map .str by simp]
          refine loop_nms hf haf n (i + 1) (l ++ [c]) p q z _ _ _ _ _ _ (by simp [hl]) (by omega) (List.nodup_append.mpr ⟨nd, by simp, by intro x hx y hy; rw [List.mem_singleton] at hy; subst hy; intro e; subst e; exact hc2.2.1 hx⟩) (fun y hy => ?_) fun l' p q z e4 e5 e6 e7 e8 e9 h1 h2 h3 => k l' p q z e4 e5 e6 e7 e8 e9 (by omega) h2 h3
          rcases List.mem_append.mp hy with hy | hy
          · exact hg y hy
          · rw [List.mem_singleton] at hy; subst hy
            exact cand_good hnm hm1 hm2 hc1 hc2.1
end Dp.L

namespace Dp.L
open PySem PySem.Spec L2 Dp
open PyProof.Rows hiding St
theorem del_plst {a f : Addr} {c : Cell} {p q z : Int} {S : Stt} (hf : S f = none) (haf : f ≠ a) : del (plst (put S f c) a p q z) f = plst S a p q z := by
  funext x
  unfold del plst put
  by_cases h1 : x = f
  · subst h1; simp [hf, haf]
  · simp [h1]
theorem le__law_names {a : Addr} {many : Int} : M.le (C__law_names [.ref a, .int many]) (d__law_names.den g [.ref a, .int many]) := by
  rintro S Q E ⟨hm, xs, ha, ⟨p, q0, z, e⟩, q⟩
  subst e
  have q : ∀ p' q' z' : Int, ∀ l : List Str, (l.length : Int) = many → l.Nodup → (∀ y ∈ l, goodName y = true) → Q (.tup (l.map .str)) (put S a (.lst [.int p', .int q', .int z'])) := fun p' q' z' l h1 h2 h3 => q _ ⟨p', q', z', rfl⟩ l ⟨h1, h2, h3⟩
  rw [den_eq (body := c__law_names) (env := [some (.ref a), some (.int many), none, none, none, none, none, none, none, none]) rfl rfl]
  unfold c__law_names
  simp only [↓r_runB, ↓r_bc, ↓r_asg, ↓r_meth, ↓r_str, ↓r_isT_split, ↓r_lc, ↓r_l0, ↓r_split, split_barred, ↓r_gn, ↓k_setS, ↓k_set0, ↓r_snx, ↓r_own]
  refine ⟨⟨by decide +kernel, by decide +kernel⟩, by simp [sizeLine], fun f hf => ?_⟩
  have haf : f ≠ a := fun z => by rw [z, ha] at hf; cases hf
  simp only [↓r_gn, ↓k_setS, ↓k_set0, ↓r_snx, ↓r_bc, ↓r_loop, ↓r_ir, ↓r_lc, ↓r_l0, ↓r_var, ↓r_getS, ↓r_get0, ↓r_rg1, lenL, List.length_cons, List.length_nil]
  refine ⟨trivial, by unfold inRng; omega, ?_⟩
  have hS : put S f (.lst []) = plst (put S f (.lst (([] : List Str).map .str))) a p q0 z := by
    unfold plst
    funext x
    unfold put
    by_cases h1 : x = a
    · subst h1; simp [Ne.symm haf, ha]
    · simp [h1]
  rw [hS]
  refine loop_nms hf haf many.toNat 0 [] p q0 z _ _ _ _ _ _ rfl (by omega) (by simp) (by simp) fun l p q' z e4 e5 e6 e7 e8 e9 h1 h2 h3 => ?_
  simp only [↓r_snx, ↓r_bf, ↓r_frzS]
  refine frz_at (i := 0) (a := f) rfl (by unfold plst; rw [put_ne haf, put_same]) ?_
  rw [del_plst hf haf]
  simp only [List.set_cons_zero, ↓r_bc, ↓r_rt, ↓r_callT, ↓r_lc, ↓r_l0, ↓r_var, ↓r_getS, ↓r_get0, ↓r_Ttup, ↓r_srr, ↓r_ert]
  exact q p q' z l (by rw [h1]; omega) h2 h3
section
variable {S : Stt} {Q : PV → Stt → Prop} {E : Exc → Stt → Prop}
theorem x__law_names {a : Addr} {p q z many : Int} (hm : 0 ≤ many ∧ many ≤ 8) (k : ∀ (p q z : Int) (l : List Str), (l.length : Int) = many → l.Nodup → (∀ y ∈ l, goodName y = true) → Q (.tup (l.map .str)) (plst S a p q z)) : (C__law_names [.ref a, .int many]).run (plst S a p q z) Q E := by
  refine ⟨hm, _, put_same, pool3, fun ys ⟨p', q', z', e⟩ l hl => ?_⟩
  subst e
  show Q _ (put (plst S a _ _ _) a _)
  rw [put_put]
  exact k _ _ _ l hl.1 hl.2.1 hl.2.2
end
end Dp.L

namespace Dp.L
open PySem PySem.Spec L2 Dp
open PyProof.Rows hiding St
theorem loop_an {names : List Str} {a0 a1 a2 a3 a4 : Option PV} {S : Stt} {Q : Res → Stt → Prop} {E : Exc → Stt → Prop} : ∀ (rest : List Str) (ws : List Wd) (e6 : Option PV), (∀ y ∈ rest, y ∈ names) → (∀ w ∈ ws, w.ok names) → 1 ≤ ws.length → ws.length + 3 * rest.length ≤ 1000 →
    (∀ (ws' : List Wd) (e6 : Option PV), (∀ w ∈ ws', w.ok names) → 1 ≤ ws'.length → ws'.length ≤ 1000 → Q (.nx [a0, a1, a2, a3, a4, some (.lst (ws'.map Wd.pv)), e6]) S) →
    (forM .fix (turnF g (.name 6) (.cons (.asg (.name 5) (.bin .add (.var 5) (.lst false (.cons (.tup (.cons (.str "do") (.cons (.var 6) .nil))) (.cons (.tup (.cons (.str "if") (.cons (.var 6) .nil))) (.cons (.tup (.cons (.str "times") (.cons (.var 6) .nil))) .nil)))))) .nil)) (rest.map .str) [a0, a1, a2, a3, a4, some (.lst (ws.map Wd.pv)), e6]).run S Q E
  | [], ws, e6, _, hw, h1, h2, k => k ws e6 hw h1 (by simpa using h2)
  | y :: rest, ws, e6, hy, hw, h1, h2, k => by
    have hm := hy y (by simp)
    simp only [List.length_cons] at h2
    rw [List.map_cons, r_forS]
    simp only [↓r_turn, ↓r_gn, ↓k_setS, ↓k_set0, ↓r_bc, ↓r_asg, ↓r_bin, ↓r_var, ↓r_getS, ↓r_get0, ↓r_lst, ↓r_lc, ↓r_l0, ↓r_tup, ↓r_str, ↓r_addL, catK_eq, List.length_cons, List.length_nil, List.length_map, ↓r_snx, ↓r_b0, ↓r_fnx]
    refine ⟨by simp [sizeLine], by simp [sizeLine], by simp [sizeLine], by simp [sizeLine], by simp [sizeLine]; omega, ?_⟩
    have e : ws.map Wd.pv ++ [PV.tup [PV.str "do", PV.str y], PV.tup [PV.str "if", PV.str y], PV.tup [PV.str "times", PV.str y]] = (ws ++ ([.call "do" y, .call "if" y, .call "times" y] : List Wd)).map Wd.pv := by simp [Wd.pv]
    rw [e]
    refine loop_an rest _ _ (fun z hz => hy z (by simp [hz])) (fun w hw' => ?_) (by simp) (by simp; omega) k
    rcases List.mem_append.mp hw' with hw' | hw'
    · exact hw w hw'
    · simp only [List.mem_cons, List.not_mem_nil, or_false] at hw'
      rcases hw' with rfl | rfl | rfl
      · exact ⟨by decide +kernel, hm⟩
      · exact ⟨by decide +kernel, hm⟩
      · exact ⟨by decide +kernel, hm⟩
theorem loop_aw {a f : Addr} {many : Int} {names : List Str} {S : Stt} (hf : S f = none) (haf : f ≠ a) (hnl : names.length ≤ 20) {Q : Res → Stt → Prop} {E : Exc → Stt → Prop} : ∀ (n i : Nat) (ws : List Wd) (p q z : Int) (e4 e5 e6 : Option PV), ws.length = i → i + n ≤ 100 → (∀ w ∈ ws, w.ok names) →
    (∀ (ws' : List Wd) (p q z : Int) (e4 e5 e6 : Option PV), ws'.length = i + n → (∀ w ∈ ws', w.ok names) → Q (.nx [some (.ref a), some (.tup (names.map .str)), some (.int many), some (.ref f), e4, e5, e6]) (plst (put S f (.lst (ws'.map Wd.pv))) a p q z)) →
    (forM .fix (turnF g (.name 4) (.cons (.asg (.name 5) (.lst false (.cons (.call i__law_number ⟨1, [], [0]⟩ (.cons (.var 0) .nil) .nil) (.cons (.call i__law_number ⟨1, [], [0]⟩ (.cons (.var 0) .nil) .nil) (.cons (.str "add") (.cons (.str "sub") (.cons (.str "dup") (.cons (.str "drop") (.cons (.str "swap") (.cons (.str "ink") (.cons (.str "shift") (.cons (.str "turn") (.cons (.str "box") (.cons (.str "tri") (.cons (.str "clip") .nil))))))))))))))) (.cons (.loop (.name 6) (.val (.var 1)) (.cons (.asg (.name 5) (.bin .add (.var 5) (.lst false (.cons (.tup (.cons (.str "do") (.cons (.var 6) .nil))) (.cons (.tup (.cons (.str "if") (.cons (.var 6) .nil))) (.cons (.tup (.cons (.str "times") (.cons (.var 6) .nil))) .nil)))))) .nil)) (.cons (.expr (.meth .append (.var 3) (.cons (.call i__law_of ⟨2, [], [0, 1]⟩ (.cons (.var 0) (.cons (.var 5) .nil)) .nil) .nil))) .nil)))) (rngItems i n) [some (.ref a), some (.tup (names.map .str)), some (.int many), some (.ref f), e4, e5, e6]).run (plst (put S f (.lst (ws.map Wd.pv))) a p q z) Q E
  | 0, i, ws, p, q, z, e4, e5, e6, hl, _, hw, k => k ws p q z e4 e5 e6 hl hw
  | n + 1, i, ws, p, q, z, e4, e5, e6, hl, hz, hw, k => by
    rw [rng_cons, r_forS]
    simp only [↓r_turn, ↓r_gn, ↓k_setS, ↓k_set0, ↓r_bc, ↓r_asg, ↓r_lst, ↓r_lc, ↓r_l0, ↓x_call__law_number_0, ↓r_var, ↓r_getS, ↓r_get0, ↓x_cf__law_number_0, ↓x__law_number, ↓r_str]
    intro p1 q1 z1 v1 hv1 hv1' p2 q2 z2 v2 hv2 hv2'
    refine ⟨by simp [sizeLine], ?_⟩
    simp only [↓r_snx, ↓r_bc, ↓r_loop, ↓r_iv, ↓r_var, ↓r_getS, ↓r_get0, ↓r_srt]
    have e : [PV.int v1, PV.int v2, PV.str "add", PV.str "sub", PV.str "dup", PV.str "drop", PV.str "swap", PV.str "ink", PV.str "shift", PV.str "turn", PV.str "box", PV.str "tri", PV.str "clip"] = (([.num v1, .num v2, .pl "add", .pl "sub", .pl "dup", .pl "drop", .pl "swap", .pl "ink", .pl "shift", .pl "turn"] : List Wd) ++ ([.pl "box", .pl "tri", .pl "clip"] : List Wd)).map Wd.pv := rfl
    rw [e]
    refine loop_an names _ _ (fun y hy => hy) (fun w hw => ?_) (by simp) (by simp; omega) fun ws' e6 hw' h1 h2 => ?_
    · simp only [List.mem_append, List.mem_cons, List.not_mem_nil, or_false] at hw
      rcases hw with (rfl | rfl | rfl | rfl | rfl | rfl | rfl | rfl | rfl | rfl) | rfl | rfl | rfl
      · exact ⟨hv1, hv1'⟩
      · exact ⟨hv2, hv2'⟩
      all_goals (show _ ∈ plains; decide +kernel)
    · have hf' : ∀ p q z, plst (put S f (.lst (ws.map Wd.pv))) a p q z f = some (.lst (ws.map Wd.pv)) := fun p q z => by unfold plst; rw [put_ne haf, put_same]
      simp only [↓r_snx, ↓r_bc, ↓r_ex, ↓r_meth, ↓r_var, ↓r_getS, ↓r_get0, isT_ref (T := Mt.T .append) (hf' _ _ _) rfl, ↓r_lc, ↓r_l0, ↓x_call__law_of_0, ↓x_cf__law_of_0, ↓x__law_ofL]
      refine ⟨⟨by simp; omega, by simp; omega⟩, fun p3 q3 z3 v hv => ?_⟩
      obtain ⟨w, hwm, rfl⟩ := List.mem_map.mp hv
      rw [app_ref (hf' _ _ _)]
      refine ⟨by simp [sizeLine]; omega, ?_⟩
      unfold plst
      rw [put3' haf]
      simp only [↓r_b0, ↓r_snx, ↓r_fnx]
      rw [show ws.map Wd.pv ++ [w.pv] = (ws ++ [w]).map Wd.pv by simp]
      refine loop_aw hf haf hnl n (i + 1) (ws ++ [w]) _ _ _ _ _ _ (by simp [hl]) (by omega) (fun x hx => ?_) fun ws' p q z e4 e5 e6 h1 h2 => k ws' p q z e4 e5 e6 (by omega) h2
      rcases List.mem_append.mp hx with hx | hx
      · exact hw x hx
      · rw [List.mem_singleton] at hx; subst hx; exact hw' x hwm
theorem put_plst {a f : Addr} {p q z : Int} {c : Cell} {S : Stt} (ha : S a = some (.lst [.int p, .int q, .int z])) (haf : f ≠ a) : put S f c = plst (put S f c) a p q z := by
  unfold plst
  funext x
  unfold put
  by_cases h1 : x = a
  · subst h1; simp [Ne.symm haf, ha]
  · simp [h1]
theorem le__law_any_words {a : Addr} {ns : List PV} {many : Int} : M.le (C__law_any_words [.ref a, .tup ns, .int many]) (d__law_any_words.den g [.ref a, .tup ns, .int many]) := by
  rintro S Q E ⟨names, rfl, hn, ⟨hm, hm2, hnl⟩, xs, ha, ⟨p, q0, z, e⟩, q⟩
  subst e
  have q : ∀ p' q' z' : Int, ∀ ws : List Wd, (ws.length : Int) = many → (∀ w ∈ ws, w.ok names) → Q (.tup (ws.map Wd.pv)) (put S a (.lst [.int p', .int q', .int z'])) := fun p' q' z' l h1 h2 => q _ ⟨p', q', z', rfl⟩ l ⟨h1, h2⟩
  rw [den_eq (body := c__law_any_words) (env := [some (.ref a), some (.tup (names.map .str)), some (.int many), none, none, none, none]) rfl rfl]
  unfold c__law_any_words
  simp only [↓r_runB, ↓r_bc, ↓r_asg, ↓r_own, ↓r_l0]
  refine ⟨by simp [sizeLine], fun f hf => ?_⟩
  have haf : f ≠ a := fun z => by rw [z, ha] at hf; cases hf
  simp only [↓r_gn, ↓k_setS, ↓k_set0, ↓r_snx, ↓r_bc, ↓r_loop, ↓r_ir, ↓r_lc, ↓r_l0, ↓r_var, ↓r_getS, ↓r_get0, ↓r_rg1, lenL, List.length_cons, List.length_nil]
  refine ⟨trivial, by unfold inRng; omega, ?_⟩
  rw [put_plst ha haf]
  refine loop_aw hf haf hnl many.toNat 0 [] p q0 z _ _ _ rfl (by omega) (by simp) fun ws p q' z e4 e5 e6 h1 h2 => ?_
  simp only [↓r_snx, ↓r_bf, ↓r_frzS]
  refine frz_at (i := 0) (a := f) rfl (by unfold plst; rw [put_ne haf, put_same]) ?_
  rw [del_plst hf haf]
  simp only [List.set_cons_zero, ↓r_bc, ↓r_rt, ↓r_callT, ↓r_lc, ↓r_l0, ↓r_var, ↓r_getS, ↓r_get0, ↓r_Ttup, ↓r_srr, ↓r_ert]
  exact q p q' z ws (by rw [h1]; omega) h2
theorem x__law_any_words {S : Stt} {Q : PV → Stt → Prop} {E : Exc → Stt → Prop} {a : Addr} {p q z many : Int} {names : List Str} (hn : ∀ y ∈ names, PyData.strOk y = true) (hm : 1 ≤ many ∧ many ≤ 30 ∧ names.length ≤ 20) (k : ∀ (p q z : Int) (ws : List Wd), (ws.length : Int) = many → (∀ w ∈ ws, w.ok names) → Q (.tup (ws.map Wd.pv)) (plst S a p q z)) : (C__law_any_words [.ref a, .tup (names.map .str), .int many]).run (plst S a p q z) Q E := by
  refine ⟨names, rfl, hn, hm, _, put_same, pool3, fun ys ⟨p', q', z', e⟩ l hl => ?_⟩
  subst e
  show Q _ (put (plst S a _ _ _) a _)
  rw [put_put]
  exact k _ _ _ l hl.1 hl.2
end Dp.L

namespace Dp.L
open PySem PySem.Spec L2 Dp
open PyProof.Rows hiding St
/-- deeds in the making -/
structure Bd (names : List Str) (ds : List Deed) : Prop where
  nm : nms ds = names.take ds.length
  le : ds.length ≤ names.length
  each : ∀ (i : Nat) (d : Deed), ds[i]? = some d → (1 ≤ d.2.length ∧ d.2.length ≤ 40) ∧ ∀ x ∈ d.2, x.ok (names.take i)
theorem bd_nil {names : List Str} : Bd names [] := ⟨rfl, by simp, fun i d h => by simp at h⟩
theorem bd_add {names : List Str} {ds : List Deed} (b : Bd names ds) {y : Str} (hy : names[ds.length]? = some y) {ws : List Wd} (h1 : 1 ≤ ws.length ∧ ws.length ≤ 40) (h2 : ∀ x ∈ ws, x.ok (names.take ds.length)) : Bd names (ds ++ [(y, ws)]) := by
  have hlt : ds.length < names.length := by rw [List.getElem?_eq_some_iff] at hy; exact hy.1
  refine ⟨?_, by simp; omega, fun i d h => ?_⟩
  · unfold nms
    rw [List.map_append, List.length_append, show ds.map (·.1) = nms ds from rfl, b.nm]
    simp only [List.map_cons, List.map_nil, List.length_cons, List.length_nil, Nat.zero_add]
    rw [List.take_succ, hy]
    rfl
  · by_cases hi : i < ds.length
    · rw [List.getElem?_append_left hi] at h
      exact b.each i d h
    · rw [List.getElem?_append_right (by omega)] at h
      have : i = ds.length := by
        by_cases e : i - ds.length = 0
        · omega
        · rw [List.getElem?_eq_none (by simp; omega)] at h; cases h
      subst this
      rw [Nat.sub_self] at h
      cases h
      exact ⟨h1, h2⟩
theorem bd_ok {names : List Str} {ds : List Deed} (b : Bd names ds) (hl : ds.length = names.length) (h0 : 1 ≤ names.length ∧ names.length ≤ 12) (nd : names.Nodup) (hg : ∀ y ∈ names, goodName y = true) : DeedsOk ds := by
  have e : nms ds = names := by rw [b.nm, hl, List.take_length]
  refine ⟨by omega, by rw [e]; exact nd, fun i d h => ?_⟩
  obtain ⟨h1, h2⟩ := b.each i d h
  refine ⟨hg _ (by rw [← e]; exact List.mem_map.mpr ⟨d, List.mem_of_getElem? h, rfl⟩), h1, ?_⟩
  rw [nms_take, e]
  exact h2
theorem loop_ap {a f : Addr} {d m : Int} {names : List Str} {S : Stt} (hf : S f = none) (haf : f ≠ a) (hn : ∀ y ∈ names, PyData.strOk y = true) (hnl : names.length ≤ 12) (hm : 1 ≤ m ∧ m ≤ 20) {Q : Res → Stt → Prop} {E : Exc → Stt → Prop} : ∀ (rest : List Str) (i : Nat) (ds : List Deed) (p q z : Int) (e5 : Option PV), names.drop i = rest → ds.length = i → Bd names ds →
    (∀ (ds' : List Deed) (p q z : Int) (e5 : Option PV), ds'.length = names.length → Bd names ds' → Q (.nx [some (.ref a), some (.int d), some (.int m), some (.tup (names.map .str)), some (.ref f), e5]) (plst (put S f (.lst (ds'.map deedPV))) a p q z)) →
    (forM .fix (turnF g (.name 5) (.cons (.expr (.meth .append (.var 4) (.cons (.tup (.cons (.ix (.var 3) (.var 5)) (.cons (.call i__law_any_words ⟨3, [], [0, 1, 2]⟩ (.cons (.var 0) (.cons (.sl (.var 3) .none (.some (.var 5))) (.cons (.bin .add (.int 1) (.call i__law_draw ⟨2, [], [0, 1]⟩ (.cons (.var 0) (.cons (.var 2) .nil)) .nil)) .nil))) .nil) .nil))) .nil))) .nil)) (rngItems i rest.length) [some (.ref a), some (.int d), some (.int m), some (.tup (names.map .str)), some (.ref f), e5]).run (plst (put S f (.lst (ds.map deedPV))) a p q z) Q E
  | [], i, ds, p, q, z, e5, hr, hl, hb, k => k ds p q z e5 (by have := congrArg List.length hr; rw [List.length_drop] at this; have := hb.le; simp at *; omega) hb
  | y :: rest, i, ds, p, q, z, e5, hr, hl, hb, k => by
    have ixn := fun {S : Stt} {Q : PV → Stt → Prop} {E : Exc → Stt → Prop} => ix_drop (S := S) (Q := Q) (E := E) (f := PV.str) hr
    have hy : names[ds.length]? = some y := by
      rw [hl]
      have := congrArg List.head? hr
      rw [List.head?_drop] at this
      exact this
    have hlt : i < names.length := by rw [hl, List.getElem?_eq_some_iff] at hy; exact hy.1
    have hf' : ∀ p q z, plst (put S f (.lst (ds.map deedPV))) a p q z f = some (.lst (ds.map deedPV)) := fun p q z => by unfold plst; rw [put_ne haf, put_same]
    have cutn : cutL (names.map PV.str) none (some (i : Int)) = (names.take i).map .str := by rw [cut_take (by simp; omega), List.map_take]
    rw [List.length_cons, rng_cons, r_forS]
    simp only [↓r_turn, ↓r_gn, ↓k_setS, ↓k_set0, ↓r_bc, ↓r_ex, ↓r_meth, ↓r_var, ↓r_getS, ↓r_get0, isT_ref (T := Mt.T .append) (hf' _ _ _) rfl, ↓r_lc, ↓r_l0, ↓r_tup, ↓r_ix, ixn, ↓x_call__law_any_words_0, ↓r_sl, ↓r_o0, ↓r_o1, ↓r_prt, ↓r_slT, cutn, ↓r_bin, ↓r_int, ↓x_call__law_draw_0, ↓x_cf__law_draw_0, ↓x__law_draw]
    refine ⟨⟨by omega, by omega⟩, fun p1 q1 z1 v h1 h2 => ?_⟩
    simp only [↓r_add, ↓x_cf__law_any_words_0]
    refine x__law_any_words (take_ok hn) ⟨by omega, by omega, by rw [List.length_take]; omega⟩ fun p2 q2 z2 ws hws hok => ?_
    simp only [List.length_cons, List.length_nil, app_ref (hf' _ _ _)]
    refine ⟨by simp [sizeLine], by simp [sizeLine]; omega, ?_⟩
    unfold plst
    rw [put3' haf]
    simp only [↓r_b0, ↓r_snx, ↓r_fnx]
    rw [show ds.map deedPV ++ [PV.tup [PV.str y, PV.tup (ws.map Wd.pv)]] = (ds ++ [(y, ws)]).map deedPV by simp [deedPV]]
    exact loop_ap hf haf hn hnl hm rest (i + 1) (ds ++ [(y, ws)]) _ _ _ _ (drop_next hr) (by simp [hl]) (bd_add hb hy ⟨by omega, by omega⟩ (by rw [hl]; exact hok)) k
theorem le__law_any_program {a : Addr} {d m : Int} : M.le (C__law_any_program [.ref a, .int d, .int m]) (d__law_any_program.den g [.ref a, .int d, .int m]) := by
  rintro S Q E ⟨⟨hd, hd2, hm⟩, xs, ha, ⟨p, q0, z, e⟩, q⟩
  subst e
  have q : ∀ p' q' z' : Int, ∀ P : Prg, P.ok → Q P.pv (put S a (.lst [.int p', .int q', .int z'])) := fun p' q' z' P h1 => q _ ⟨p', q', z', rfl⟩ P h1
  rw [den_eq (body := c__law_any_program) (env := [some (.ref a), some (.int d), some (.int m), none, none, none]) rfl rfl]
  unfold c__law_any_program
  rw [← put_id ha]
  simp only [↓r_runB, ↓r_bc, ↓r_par2, ↓r_lc, ↓r_l0, ↓x_call__law_names_0, ↓r_var, ↓r_getS, ↓r_get0, ↓r_bin, ↓r_int, ↓x_call__law_draw_0, ↓x_cf__law_draw_0, ↓x__law_draw]
  refine ⟨⟨by omega, by omega⟩, fun p1 q1 z1 v h1 h2 => ?_⟩
  simp only [↓r_add, ↓x_cf__law_names_0]
  refine x__law_names ⟨by omega, by omega⟩ fun p2 q2 z2 names hl nd hg => ?_
  simp only [↓r_own, ↓r_l0]
  refine ⟨by simp [sizeLine], fun f hf => ?_⟩
  have haf : f ≠ a := fun z => by rw [z] at hf; unfold plst at hf; rw [put_same] at hf; cases hf
  have hf0 : S f = none := by unfold plst at hf; rw [put_ne haf] at hf; exact hf
  simp only [↓r_asg2, ↓k_setS, ↓k_set0, ↓r_snx, ↓r_bc, ↓r_loop, ↓r_ir, ↓r_lc, ↓r_l0, ↓r_callB, ↓r_var, ↓r_getS, ↓r_get0, ↓r_lenT, List.length_map, ↓r_rg1, lenL, List.length_cons, List.length_nil]
  refine ⟨trivial, by unfold inRng; omega, ?_⟩
  rw [show ((names.length : Int)).toNat = names.length by simp]
  have hS : put (plst S a p2 q2 z2) f (.lst []) = plst (put S f (.lst (([] : List Deed).map deedPV))) a p2 q2 z2 := put_comm (Ne.symm haf)
  rw [hS]
  refine loop_ap hf0 haf (fun y hy => gn_ok (hg y hy)) (by omega) hm names 0 [] p2 q2 z2 _ rfl rfl bd_nil fun ds p3 q3 z3 e5 hl2 hb => ?_
  simp only [↓r_snx, ↓r_bf, ↓r_frzS]
  refine frz_at (i := 0) (a := f) rfl (by unfold plst; rw [put_ne haf, put_same]) ?_
  rw [del_plst hf0 haf]
  simp only [List.set_cons_zero, ↓r_bc, ↓r_rt, ↓r_tup, ↓r_lc, ↓r_l0, ↓r_bin, ↓r_int, ↓x_call__law_draw_0, ↓r_var, ↓r_getS, ↓r_get0, ↓x_cf__law_draw_0, ↓x__law_draw]
  refine ⟨⟨by omega, by omega⟩, fun p4 q4 z4 v4 h4 h4' => ?_⟩
  simp only [↓r_add, ↓x__law_draw]
  refine ⟨⟨by omega, by omega⟩, fun p5 q5 z5 v5 h5 h5' => ?_⟩
  simp only [↓r_add, ↓r_callT, ↓r_lc, ↓r_l0, ↓r_var, ↓r_getS, ↓r_get0, ↓r_Ttup, ↓r_srr, ↓r_ert]
  refine ⟨by simp [sizeLine], ?_⟩
  exact q p5 q5 z5 ⟨1 + v4, 1 + v5, ds⟩ ⟨⟨by show 1 ≤ 1 + v4; omega, by show 1 + v4 ≤ 24; omega⟩, ⟨by show 1 ≤ 1 + v5; omega, by show 1 + v5 ≤ 24; omega⟩, bd_ok hb hl2 ⟨by omega, by omega⟩ nd hg⟩
end Dp.L

namespace Dp.L
open PySem PySem.Spec L2 Dp
open PyProof.Rows hiding St
theorem r_whl {g : Sg} {c : CE} {b : CB} {env : En} {S : Stt} {Q : Res → Stt → Prop} {E : Exc → Stt → Prop} : (dS g (.whl c b) env).run S Q E = ∃ n, (wh (dT g c) (dB g b) n env).run S Q E := rfl
/-- behind a turn -/
def whR (mt : En → M Bool) (mb : En → M Res) (n : Nat) : Res → M Res
  | .nx e => wh mt mb n e
  | .ct e => wh mt mb n e
  | .bk e => ret (.nx e)
  | .rt v => ret (.rt v)
theorem r_wh {mt : En → M Bool} {mb : En → M Res} {n : Nat} {env : En} {S : Stt} {Q : Res → Stt → Prop} {E : Exc → Stt → Prop} : (wh mt mb (n + 1) env).run S Q E = (mt env).run S (fun t S => if t = true then (mb env).run S (fun r S => (whR mt mb n r).run S Q E) E else Q (.nx env) S) E := by
  show (bnd (mt env) fun t => _).run S Q E = _
  show (mt env).run S _ E = _
  congr 1
  funext t S1
  cases t with
  | false => rfl
  | true => first | rfl | (show (mb env).run S1 _ E = (mb env).run S1 _ E; congr 1; funext r S2; cases r <;> rfl)
@[simp ↓] theorem r_whnx {mt : En → M Bool} {mb : En → M Res} {n : Nat} {e : En} {S : Stt} {Q : Res → Stt → Prop} {E : Exc → Stt → Prop} : (whR mt mb n (.nx e)).run S Q E = (wh mt mb n e).run S Q E := rfl
theorem idx_get {l : List Str} (nd : l.Nodup) {i : Nat} {y : Str} (h : l[i]? = some y) : l.idxOf y = i := by
  have hi : i < l.length := by rw [List.getElem?_eq_some_iff] at h; exact h.1
  rw [List.getElem?_eq_getElem hi] at h
  have hy := Option.some.inj h
  have hm : y ∈ l := by rw [← hy]; exact List.getElem_mem hi
  have hj := List.idxOf_lt_length_of_mem hm
  have e : l[l.idxOf y] = y := by simp
  by_cases hlt : l.idxOf y < i
  · exact absurd (by rw [e, hy]) ((List.pairwise_iff_getElem.mp nd) _ _ hj hi hlt)
  · by_cases hgt : i < l.idxOf y
    · exact absurd (by rw [e, hy]) ((List.pairwise_iff_getElem.mp nd) _ _ hi hj hgt)
    · omega
theorem fit_num {names : List Str} {known : List Eff} {v : Int} (h : -99 ≤ v ∧ v ≤ 99) : (Wd.num v).fit names known := ⟨h, _, _, rfl⟩
theorem fit_pl {names : List Str} {known : List Eff} {s : Str} (h : s ∈ plains) : (Wd.pl s).fit names known := ⟨h, _, _, rfl⟩
/-- the deeds' words to be drawn -/
theorem loop_k {a k : Addr} {names : List Str} {known : List Eff} {height many : Int} {B : PV} {S : Stt} (hk : S k = some (.lst (known.map effPV))) (hak : a ≠ k) (nd : names.Nodup) (hl : known.length = names.length) (hnn : ∀ e ∈ known, e ≠ none) {e8 e9 e10 : Option PV} {Q : Res → Stt → Prop} {E : Exc → Stt → Prop} :
    ∀ (rest : List Str) (i : Nat) (ws : List Wd) (f : Addr) (p q z : Int) (e7 : Option PV), names.drop i = rest → S f = none → f ≠ a → (∀ w ∈ ws, w.fit names known) → 1 ≤ ws.length → ws.length + 3 * rest.length ≤ 1000 →
    (∀ (ws' : List Wd) (f : Addr) (e7 : Option PV), S f = none → f ≠ a → (∀ w ∈ ws', w.fit names known) → 1 ≤ ws'.length → ws'.length ≤ 1000 → Q (.nx [some (.ref a), some (.tup (names.map .str)), some (.ref k), some (.int height), some (.int many), some B, some (.ref f), e7, e8, e9, e10]) (plst (put S f (.lst (ws'.map Wd.pv))) a p q z)) →
    (forM .fix (turnF g (.name 7) (.cons (.ifs (.cmp .le (.ix (.ix (.var 2) (.var 7)) (.int 0)) (.var 3)) (.cons (.expr (.meth .append (.var 6) (.cons (.tup (.cons (.str "do") (.cons (.ix (.var 1) (.var 7)) .nil))) .nil))) (.frz 6 (.cons (.asg (.name 6) (.bin .addO (.var 6) (.ife (.cmp .eq (.ix (.ix (.var 2) (.var 7)) (.int 0)) (.ix (.ix (.var 2) (.var 7)) (.int 1))) (.lst false (.cons (.tup (.cons (.str "if") (.cons (.ix (.var 1) (.var 7)) .nil))) (.cons (.tup (.cons (.str "times") (.cons (.ix (.var 1) (.var 7)) .nil))) .nil))) (.lst false .nil)))) .nil))) .nil) .nil)) (rngItems i rest.length) [some (.ref a), some (.tup (names.map .str)), some (.ref k), some (.int height), some (.int many), some B, some (.ref f), e7, e8, e9, e10]).run (plst (put S f (.lst (ws.map Wd.pv))) a p q z) Q E
  | [], i, ws, f, p, q, z, e7, hr, hf, haf, hw, h1, h2, kk => kk ws f e7 hf haf hw h1 (by simpa using h2)
  | y :: rest, i, ws, f, p, q, z, e7, hr, hf, haf, hw, h1, h2, kk => by
    have hfk : f ≠ k := fun z => by rw [z, hk] at hf; cases hf
    have hy : names[i]? = some y := by
      have := congrArg List.head? hr
      rw [List.head?_drop] at this
      exact this
    have hlt : i < names.length := by rw [List.getElem?_eq_some_iff] at hy; exact hy.1
    have hym : y ∈ names := List.mem_of_getElem? hy
    have hkl : i < known.length := by omega
    obtain ⟨t, l, he⟩ : ∃ t l, known[i] = some (t, l) := by
      cases e : known[i] with
      | none => exact absurd e (hnn _ (List.getElem_mem hkl))
      | some p => exact ⟨p.1, p.2, rfl⟩
    have hce : calledE names known y = some (t, l) := by
      unfold calledE
      rw [idx_get nd hy, List.getElem?_eq_getElem hkl, he]; rfl
    have hk' : ∀ {c p q z}, plst (put S f c) a p q z k = some (.lst (known.map effPV)) := fun {c p q z} => by unfold plst; rw [put_ne (Ne.symm hak), put_ne (Ne.symm hfk)]; exact hk
    have hk2 : ∀ {p q z}, plst S a p q z k = some (.lst (known.map effPV)) := fun {p q z} => by unfold plst; rw [put_ne (Ne.symm hak)]; exact hk
    have hf' : ∀ {c p q z}, plst (put S f c) a p q z f = some c := fun {c p q z} => by unfold plst; rw [put_ne haf, put_same]
    have ixk : ∀ {S' : Stt} {Q : PV → Stt → Prop}, S' k = some (.lst (known.map effPV)) → (vIdx (.ref k) (.int (i : Int))).run S' Q E = Q (.tup [.int t, .int l]) S' := fun {S' Q} h => by
      rw [ixRef h, r_ixL, atI_nat (by simpa using hkl), List.getElem?_map, List.getElem?_eq_getElem hkl, he]; rfl
    have ixn := fun {S : Stt} {Q : PV → Stt → Prop} => ix_drop (S := S) (Q := Q) (E := E) (f := PV.str) hr
    have fdo' : (Wd.call "do" y).fit names known := ⟨⟨by decide +kernel, hym⟩, t, l, wE_do hce rfl⟩
    have fif : t = l → ∀ h : Str, h ∈ hows → h ≠ "do" → (Wd.call h y).fit names known := fun e h hh hn => ⟨⟨hh, hym⟩, _, _, wE_eq hce hn e⟩
    simp only [List.length_cons] at h2
    rw [List.length_cons, rng_cons, r_forS]
    simp only [↓r_turn, ↓r_gn, ↓k_setS, ↓k_set0, ↓r_bc, ↓r_if, ↓r_tcmp, ↓r_ix, ↓r_var, ↓r_getS, ↓r_get0, ixk hk', ↓r_int, ↓r_ixT0, ↓r_le, ↓r_trb]
    by_cases c1 : t ≤ height
    · rw [if_pos (decide_eq_true c1)]
      simp only [↓r_bc, ↓r_ex, ↓r_meth, ↓r_var, ↓r_getS, ↓r_get0, isT_ref (T := Mt.T .append) hf' rfl, ↓r_lc, ↓r_l0, ↓r_tup, ↓r_str, ↓r_ix, ixn, app_ref hf']
      refine ⟨by simp [sizeLine], by simp [sizeLine]; omega, ?_⟩
      unfold plst
      rw [put3' haf]
      have hf2 := @hf'
      have hk3 := @hk'
      unfold plst at hf2 hk3
      simp only [↓r_snx, ↓r_bf, ↓r_frzS]
      refine frz_at (i := 0) (a := f) rfl hf2 ?_
      have hdel := del_plst (c := .lst (ws.map Wd.pv ++ [PV.tup [PV.str "do", PV.str y]])) (p := p) (q := q) (z := z) hf haf
      unfold plst at hdel
      rw [hdel]
      have ee : ws.map Wd.pv ++ [PV.tup [PV.str "do", PV.str y]] = (ws ++ ([.call "do" y] : List Wd)).map Wd.pv := by simp [Wd.pv]
      have hk4 := @hk2
      unfold plst at hk4
      simp only [List.set_cons_zero, ↓r_bc, ↓r_asg, ↓r_bin, ↓r_var, ↓r_getS, ↓r_get0, ↓r_ife, ↓r_tcmp, ↓r_ix, ixk hk4, ↓r_int, ↓r_ixT0, ↓r_ixT1, ↓r_eqI, ↓r_trb]
      by_cases c2 : t = l
      · rw [if_pos (decide_eq_true c2)]
        simp only [↓r_lst, ↓r_lc, ↓r_l0, ↓r_tup, ↓r_str, ↓r_ix, ↓r_var, ↓r_getS, ↓r_get0, ixn, ↓r_addO, catK_eq]
        refine ⟨by simp [sizeLine], by simp [sizeLine], by simp [sizeLine], by simp [sizeLine]; omega, fun f' hf'' => ?_⟩
        have haf' : f' ≠ a := fun z => by rw [z, put_same] at hf''; cases hf''
        have hf0 : S f' = none := by rw [put_ne haf'] at hf''; exact hf''
        simp only [↓r_gn, ↓k_setS, ↓k_set0, ↓r_snx, ↓r_b0, ↓r_fnx]
        rw [put_comm (Ne.symm haf')]
        have e3 : ws.map Wd.pv ++ [PV.tup [PV.str "do", PV.str y]] ++ [PV.tup [PV.str "if", PV.str y], PV.tup [PV.str "times", PV.str y]] = (ws ++ ([.call "do" y, .call "if" y, .call "times" y] : List Wd)).map Wd.pv := by simp [Wd.pv]
        rw [e3]
        refine loop_k hk hak nd hl hnn rest (i + 1) _ f' p q z _ (drop_next hr) hf0 haf' (fun w hw' => ?_) (by simp) (by simp; omega) kk
        rcases List.mem_append.mp hw' with hw' | hw'
        · exact hw w hw'
        · simp only [List.mem_cons, List.not_mem_nil, or_false] at hw'
          rcases hw' with rfl | rfl | rfl
          · exact fdo'
          · exact fif c2 "if" (by decide +kernel) (by decide +kernel)
          · exact fif c2 "times" (by decide +kernel) (by decide +kernel)
      · rw [if_neg (by simpa using c2)]
        simp only [↓r_lst, ↓r_l0, ↓r_addO, catK_eq, List.append_nil]
        refine ⟨by simp [sizeLine], by simp [sizeLine]; omega, fun f' hf'' => ?_⟩
        have haf' : f' ≠ a := fun z => by rw [z, put_same] at hf''; cases hf''
        have hf0 : S f' = none := by rw [put_ne haf'] at hf''; exact hf''
        simp only [↓r_gn, ↓k_setS, ↓k_set0, ↓r_snx, ↓r_b0, ↓r_fnx]
        rw [put_comm (Ne.symm haf'), ee]
        refine loop_k hk hak nd hl hnn rest (i + 1) _ f' p q z _ (drop_next hr) hf0 haf' (fun w hw' => ?_) (by simp) (by simp; omega) kk
        rcases List.mem_append.mp hw' with hw' | hw'
        · exact hw w hw'
        · simp only [List.mem_cons, List.not_mem_nil, or_false] at hw'
          subst hw'
          exact fdo'
    · rw [if_neg (by simpa using c1)]
      simp only [↓r_b0, ↓r_snx, ↓r_fnx]
      exact loop_k hk hak nd hl hnn rest (i + 1) ws f p q z _ (drop_next hr) hf haf hw h1 (by omega) kk
end Dp.L

namespace Dp.L
open PySem PySem.Spec L2 Dp
open PyProof.Rows hiding St
theorem plsT (l : List Wd) : l.map Wd.pv = l.map Wd.pv := rfl
/-- the words that may be drawn at a height, those without a deed -/
theorem some_ok {names : List Str} {known : List Eff} {v1 v2 v3 : Int} {A B C : List PV} (h1 : -99 ≤ v1 ∧ v1 ≤ 99) (h2 : -99 ≤ v2 ∧ v2 ≤ 99) (h3 : -99 ≤ v3 ∧ v3 ≤ 99)
    (hA : ∃ l : List Str, A = l.map PV.str ∧ (∀ s ∈ l, s ∈ plains) ∧ l.length ≤ 10) (hB : ∃ l : List Str, B = l.map PV.str ∧ (∀ s ∈ l, s ∈ plains) ∧ l.length ≤ 10) (hC : ∃ l : List Str, C = l.map PV.str ∧ (∀ s ∈ l, s ∈ plains) ∧ l.length ≤ 10) :
    ∃ ws : List Wd, [PV.int v1, PV.int v2, PV.int v3, PV.str "turn", PV.str "flip"] ++ A ++ B ++ C = ws.map Wd.pv ∧ (∀ w ∈ ws, w.fit names known) ∧ 1 ≤ ws.length ∧ ws.length ≤ 35 := by
  obtain ⟨la, rfl, ha, ha'⟩ := hA
  obtain ⟨lb, rfl, hb, hb'⟩ := hB
  obtain ⟨lc, rfl, hc, hc'⟩ := hC
  refine ⟨([.num v1, .num v2, .num v3, .pl "turn", .pl "flip"] : List Wd) ++ la.map Wd.pl ++ lb.map Wd.pl ++ lc.map Wd.pl, ?_, fun w hw => ?_, by simp, by simp; omega⟩
  · simp [Wd.pv]
    rfl
  · simp only [List.mem_append, List.mem_cons, List.not_mem_nil, or_false, List.mem_map] at hw
    rcases hw with (((rfl | rfl | rfl | rfl | rfl) | ⟨s, hs, rfl⟩) | ⟨s, hs, rfl⟩) | ⟨s, hs, rfl⟩
    · exact fit_num h1
    · exact fit_num h2
    · exact fit_num h3
    · exact fit_pl (by decide +kernel)
    · exact fit_pl (by decide +kernel)
    · exact fit_pl (ha s hs)
    · exact fit_pl (hb s hs)
    · exact fit_pl (hc s hs)
theorem loop_w {a k : Addr} {names : List Str} {known : List Eff} {many : Int} {S : Stt} (hk : S k = some (.lst (known.map effPV))) (hak : a ≠ k) (hn : ∀ y ∈ names, PyData.strOk y = true) (nd : names.Nodup) (hl : known.length = names.length) (hnn : ∀ e ∈ known, e ≠ none) (hnl : names.length ≤ 20) (hmany : many ≤ 30) {Q : Res → Stt → Prop} {E : Exc → Stt → Prop} :
    ∀ (n : Nat) (ws : List Wd) (height : Int) (p q z : Int) (e6 e7 e8 e9 e10 : Option PV), 1 ≤ n → many < (ws.length : Int) + n → (ws.length : Int) ≤ many + 1 → (∀ w ∈ ws, w.fit names known) →
    (∀ (ws' : List Wd) (height p q z : Int) (e6 e7 e8 e9 e10 : Option PV), many ≤ (ws'.length : Int) → (ws'.length : Int) ≤ many + 1 → (∀ w ∈ ws', w.fit names known) → Q (.nx [some (.ref a), some (.tup (names.map .str)), some (.ref k), some (.int height), some (.int many), some (.lst (ws'.map Wd.pv)), e6, e7, e8, e9, e10]) (plst S a p q z)) →
    (wh (dT g (.cmp .lt (.callB .len (.cons (.var 5) .nil)) (.var 4))) (dB g (.cons (.asg (.name 6) (.lst false (.cons (.call i__law_number ⟨1, [], [0]⟩ (.cons (.var 0) .nil) .nil) (.cons (.call i__law_number ⟨1, [], [0]⟩ (.cons (.var 0) .nil) .nil) (.cons (.call i__law_number ⟨1, [], [0]⟩ (.cons (.var 0) .nil) .nil) (.cons (.str "turn") (.cons (.str "flip") .nil))))))) (.cons (.asg (.name 6) (.bin .add (.bin .add (.var 6) (.ife (.cmp .gt (.var 3) (.int 0)) (.lst false (.cons (.str "dup") (.cons (.str "drop") (.cons (.str "ink") .nil)))) (.lst false .nil))) (.ife (.cmp .gt (.var 3) (.int 3)) (.lst false (.cons (.str "tri") (.cons (.str "tri") (.cons (.str "tri") .nil)))) (.lst false .nil)))) (.cons (.asg (.name 6) (.bin .addO (.var 6) (.ife (.cmp .gt (.var 3) (.int 1)) (.lst false (.cons (.str "add") (.cons (.str "sub") (.cons (.str "mul") (.cons (.str "swap") (.cons (.str "shift") (.cons (.str "shift") (.cons (.str "box") (.cons (.str "box") (.cons (.str "box") (.cons (.str "clip") .nil))))))))))) (.lst false .nil)))) (.cons (.loop (.name 7) (.rng (.cons (.callB .len (.cons (.var 1) .nil)) .nil)) (.cons (.ifs (.cmp .le (.ix (.ix (.var 2) (.var 7)) (.int 0)) (.var 3)) (.cons (.expr (.meth .append (.var 6) (.cons (.tup (.cons (.str "do") (.cons (.ix (.var 1) (.var 7)) .nil))) .nil))) (.frz 6 (.cons (.asg (.name 6) (.bin .addO (.var 6) (.ife (.cmp .eq (.ix (.ix (.var 2) (.var 7)) (.int 0)) (.ix (.ix (.var 2) (.var 7)) (.int 1))) (.lst false (.cons (.tup (.cons (.str "if") (.cons (.ix (.var 1) (.var 7)) .nil))) (.cons (.tup (.cons (.str "times") (.cons (.ix (.var 1) (.var 7)) .nil))) .nil))) (.lst false .nil)))) .nil))) .nil) .nil)) (.cons (.asg (.name 8) (.call i__law_of ⟨2, [], [0, 1]⟩ (.cons (.var 0) (.cons (.var 6) .nil)) .nil)) (.frz 6 (.cons (.ifs (.and (.tv (.callB .isi (.cons (.var 8) (.cons (.bty "tuple" "tuple") .nil)))) (.b1 (.cmp .ne (.ix (.var 8) (.int 0)) (.str "do")))) (.cons (.asg (.name 5) (.bin .add (.var 5) (.lst false (.cons (.call i__law_of ⟨2, [], [0, 1]⟩ (.cons (.var 0) (.cons (.tup (.cons (.int 0) (.cons (.int 1) (.cons (.int 1) (.cons (.int 2) (.cons (.int 3) .nil)))))) .nil)) .nil) (.cons (.var 8) .nil))))) .nil) (.cons (.asg (.tup (.cons (.name 9) (.cons (.name 10) .nil))) (.ife (.nt (.tv (.callB .isi (.cons (.var 8) (.cons (.bty "tuple" "tuple") .nil))))) (.call i__law_plain_effect ⟨1, [], [0]⟩ (.cons (.var 8) .nil) .nil) (.ix (.var 2) (.meth .tindex (.var 1) (.cons (.ix (.var 8) (.int 1)) .nil))))) (.cons (.par2 5 3 (.cons (.bin .add (.var 5) (.lst false (.cons (.var 8) .nil))) (.cons (.bin .add (.bin .sub (.var 3) (.var 9)) (.var 10)) .nil))) .nil))) .nil)))))))) n [some (.ref a), some (.tup (names.map .str)), some (.ref k), some (.int height), some (.int many), some (.lst (ws.map Wd.pv)), e6, e7, e8, e9, e10]).run (plst S a p q z) Q E
  | 0, ws, height, p, q, z, e6, e7, e8, e9, e10, h0, h1, h2, hw, kk => by omega
  | n + 1, ws, height, p, q, z, e6, e7, e8, e9, e10, h0, h1, h2, hw, kk => by
    rw [r_wh]
    simp only [↓r_tcmp, ↓r_callB, ↓r_lc, ↓r_l0, ↓r_var, ↓r_getS, ↓r_get0, ↓r_lenL, List.length_map, ↓r_lt, ↓r_trb]
    by_cases c : (ws.length : Int) < many
    · rw [if_pos (decide_eq_true c)]
      have hk2 : ∀ {p q z}, plst S a p q z k = some (.lst (known.map effPV)) := fun {p q z} => by unfold plst; rw [put_ne (Ne.symm hak)]; exact hk
      have tailW : ∀ (L : List PV), (∃ xs : List Wd, L = xs.map Wd.pv ∧ (∀ w ∈ xs, w.fit names known) ∧ 1 ≤ xs.length ∧ xs.length ≤ 35) → ∀ (f : Addr) (p q z : Int), S f = none → f ≠ a →
          ((dB g (.cons (.loop (.name 7) (.rng (.cons (.callB .len (.cons (.var 1) .nil)) .nil)) (.cons (.ifs (.cmp .le (.ix (.ix (.var 2) (.var 7)) (.int 0)) (.var 3)) (.cons (.expr (.meth .append (.var 6) (.cons (.tup (.cons (.str "do") (.cons (.ix (.var 1) (.var 7)) .nil))) .nil))) (.frz 6 (.cons (.asg (.name 6) (.bin .addO (.var 6) (.ife (.cmp .eq (.ix (.ix (.var 2) (.var 7)) (.int 0)) (.ix (.ix (.var 2) (.var 7)) (.int 1))) (.lst false (.cons (.tup (.cons (.str "if") (.cons (.ix (.var 1) (.var 7)) .nil))) (.cons (.tup (.cons (.str "times") (.cons (.ix (.var 1) (.var 7)) .nil))) .nil))) (.lst false .nil)))) .nil))) .nil) .nil)) (.cons (.asg (.name 8) (.call i__law_of ⟨2, [], [0, 1]⟩ (.cons (.var 0) (.cons (.var 6) .nil)) .nil)) (.frz 6 (.cons (.ifs (.and (.tv (.callB .isi (.cons (.var 8) (.cons (.bty "tuple" "tuple") .nil)))) (.b1 (.cmp .ne (.ix (.var 8) (.int 0)) (.str "do")))) (.cons (.asg (.name 5) (.bin .add (.var 5) (.lst false (.cons (.call i__law_of ⟨2, [], [0, 1]⟩ (.cons (.var 0) (.cons (.tup (.cons (.int 0) (.cons (.int 1) (.cons (.int 1) (.cons (.int 2) (.cons (.int 3) .nil)))))) .nil)) .nil) (.cons (.var 8) .nil))))) .nil) (.cons (.asg (.tup (.cons (.name 9) (.cons (.name 10) .nil))) (.ife (.nt (.tv (.callB .isi (.cons (.var 8) (.cons (.bty "tuple" "tuple") .nil))))) (.call i__law_plain_effect ⟨1, [], [0]⟩ (.cons (.var 8) .nil) .nil) (.ix (.var 2) (.meth .tindex (.var 1) (.cons (.ix (.var 8) (.int 1)) .nil))))) (.cons (.par2 5 3 (.cons (.bin .add (.var 5) (.lst false (.cons (.var 8) .nil))) (.cons (.bin .add (.bin .sub (.var 3) (.var 9)) (.var 10)) .nil))) .nil))) .nil))))) [some (.ref a), some (.tup (names.map .str)), some (.ref k), some (.int height), some (.int many), some (.lst (ws.map Wd.pv)), some (.ref f), e7, e8, e9, e10]).run (plst (put S f (.lst L)) a p q z) (fun r S => (whR (dT g (.cmp .lt (.callB .len (.cons (.var 5) .nil)) (.var 4))) (dB g (.cons (.asg (.name 6) (.lst false (.cons (.call i__law_number ⟨1, [], [0]⟩ (.cons (.var 0) .nil) .nil) (.cons (.call i__law_number ⟨1, [], [0]⟩ (.cons (.var 0) .nil) .nil) (.cons (.call i__law_number ⟨1, [], [0]⟩ (.cons (.var 0) .nil) .nil) (.cons (.str "turn") (.cons (.str "flip") .nil))))))) (.cons (.asg (.name 6) (.bin .add (.bin .add (.var 6) (.ife (.cmp .gt (.var 3) (.int 0)) (.lst false (.cons (.str "dup") (.cons (.str "drop") (.cons (.str "ink") .nil)))) (.lst false .nil))) (.ife (.cmp .gt (.var 3) (.int 3)) (.lst false (.cons (.str "tri") (.cons (.str "tri") (.cons (.str "tri") .nil)))) (.lst false .nil)))) (.cons (.asg (.name 6) (.bin .addO (.var 6) (.ife (.cmp .gt (.var 3) (.int 1)) (.lst false (.cons (.str "add") (.cons (.str "sub") (.cons (.str "mul") (.cons (.str "swap") (.cons (.str "shift") (.cons (.str "shift") (.cons (.str "box") (.cons (.str "box") (.cons (.str "box") (.cons (.str "clip") .nil))))))))))) (.lst false .nil)))) (.cons (.loop (.name 7) (.rng (.cons (.callB .len (.cons (.var 1) .nil)) .nil)) (.cons (.ifs (.cmp .le (.ix (.ix (.var 2) (.var 7)) (.int 0)) (.var 3)) (.cons (.expr (.meth .append (.var 6) (.cons (.tup (.cons (.str "do") (.cons (.ix (.var 1) (.var 7)) .nil))) .nil))) (.frz 6 (.cons (.asg (.name 6) (.bin .addO (.var 6) (.ife (.cmp .eq (.ix (.ix (.var 2) (.var 7)) (.int 0)) (.ix (.ix (.var 2) (.var 7)) (.int 1))) (.lst false (.cons (.tup (.cons (.str "if") (.cons (.ix (.var 1) (.var 7)) .nil))) (.cons (.tup (.cons (.str "times") (.cons (.ix (.var 1) (.var 7)) .nil))) .nil))) (.lst false .nil)))) .nil))) .nil) .nil)) (.cons (.asg (.name 8) (.call i__law_of ⟨2, [], [0, 1]⟩ (.cons (.var 0) (.cons (.var 6) .nil)) .nil)) (.frz 6 (.cons (.ifs (.and (.tv (.callB .isi (.cons (.var 8) (.cons (.bty "tuple" "tuple") .nil)))) (.b1 (.cmp .ne (.ix (.var 8) (.int 0)) (.str "do")))) (.cons (.asg (.name 5) (.bin .add (.var 5) (.lst false (.cons (.call i__law_of ⟨2, [], [0, 1]⟩ (.cons (.var 0) (.cons (.tup (.cons (.int 0) (.cons (.int 1) (.cons (.int 1) (.cons (.int 2) (.cons (.int 3) .nil)))))) .nil)) .nil) (.cons (.var 8) .nil))))) .nil) (.cons (.asg (.tup (.cons (.name 9) (.cons (.name 10) .nil))) (.ife (.nt (.tv (.callB .isi (.cons (.var 8) (.cons (.bty "tuple" "tuple") .nil))))) (.call i__law_plain_effect ⟨1, [], [0]⟩ (.cons (.var 8) .nil) .nil) (.ix (.var 2) (.meth .tindex (.var 1) (.cons (.ix (.var 8) (.int 1)) .nil))))) (.cons (.par2 5 3 (.cons (.bin .add (.var 5) (.lst false (.cons (.var 8) .nil))) (.cons (.bin .add (.bin .sub (.var 3) (.var 9)) (.var 10)) .nil))) .nil))) .nil)))))))) n r).run S Q E) E := by
        rintro L ⟨xs, rfl, hx1, hx2, hx3⟩ f p q z hf haf
        simp only [↓r_bc, ↓r_loop, ↓r_ir, ↓r_lc, ↓r_l0, ↓r_callB, ↓r_var, ↓r_getS, ↓r_get0, ↓r_lenT, List.length_map, lenL, List.length_cons, List.length_nil, ↓r_rg1]
        refine ⟨trivial, by unfold inRng; omega, ?_⟩
        rw [show ((names.length : Int)).toNat = names.length by simp]
        refine loop_k hk hak nd hl hnn names 0 xs f p q z _ rfl hf haf hx1 hx2 (by omega) fun xs f e7 hf haf hx1 hx2 hx3 => ?_
        have hfS : ∀ p q z, plst (put S f (.lst (xs.map Wd.pv))) a p q z f = some (.lst (xs.map Wd.pv)) := fun p q z => by unfold plst; rw [put_ne haf, put_same]
        simp only [↓r_snx, ↓r_bc, ↓r_asg, ↓x_call__law_of_0, ↓r_lc, ↓r_l0, ↓r_var, ↓r_getS, ↓r_get0, ↓x_cf__law_of_0]
        rw [x__law_ofR (xs := xs.map Wd.pv) (by rw [put_same]) (Ne.symm haf)]
        refine ⟨⟨by simp; omega, by simp; omega⟩, fun p1 q1 z1 v hv => ?_⟩
        obtain ⟨w, hwm, rfl⟩ := List.mem_map.mp hv
        have hfit := hx1 w hwm
        simp only [↓r_gn, ↓k_setS, ↓k_set0, ↓r_snx, ↓r_bf, ↓r_frzS]
        refine frz_at (i := 0) (a := f) rfl (hfS _ _ _) ?_
        rw [del_plst hf haf]
        have fin1 : ∀ (ws1 : List Wd) (h1' : Int) (p q z : Int) (b6 b7 b8 b9 b10 : Option PV), (ws.length + 1 ≤ ws1.length ∧ ws1.length ≤ ws.length + 2) → (∀ w ∈ ws1, w.fit names known) →
            (wh (dT g (.cmp .lt (.callB .len (.cons (.var 5) .nil)) (.var 4))) (dB g (.cons (.asg (.name 6) (.lst false (.cons (.call i__law_number ⟨1, [], [0]⟩ (.cons (.var 0) .nil) .nil) (.cons (.call i__law_number ⟨1, [], [0]⟩ (.cons (.var 0) .nil) .nil) (.cons (.call i__law_number ⟨1, [], [0]⟩ (.cons (.var 0) .nil) .nil) (.cons (.str "turn") (.cons (.str "flip") .nil))))))) (.cons (.asg (.name 6) (.bin .add (.bin .add (.var 6) (.ife (.cmp .gt (.var 3) (.int 0)) (.lst false (.cons (.str "dup") (.cons (.str "drop") (.cons (.str "ink") .nil)))) (.lst false .nil))) (.ife (.cmp .gt (.var 3) (.int 3)) (.lst false (.cons (.str "tri") (.cons (.str "tri") (.cons (.str "tri") .nil)))) (.lst false .nil)))) (.cons (.asg (.name 6) (.bin .addO (.var 6) (.ife (.cmp .gt (.var 3) (.int 1)) (.lst false (.cons (.str "add") (.cons (.str "sub") (.cons (.str "mul") (.cons (.str "swap") (.cons (.str "shift") (.cons (.str "shift") (.cons (.str "box") (.cons (.str "box") (.cons (.str "box") (.cons (.str "clip") .nil))))))))))) (.lst false .nil)))) (.cons (.loop (.name 7) (.rng (.cons (.callB .len (.cons (.var 1) .nil)) .nil)) (.cons (.ifs (.cmp .le (.ix (.ix (.var 2) (.var 7)) (.int 0)) (.var 3)) (.cons (.expr (.meth .append (.var 6) (.cons (.tup (.cons (.str "do") (.cons (.ix (.var 1) (.var 7)) .nil))) .nil))) (.frz 6 (.cons (.asg (.name 6) (.bin .addO (.var 6) (.ife (.cmp .eq (.ix (.ix (.var 2) (.var 7)) (.int 0)) (.ix (.ix (.var 2) (.var 7)) (.int 1))) (.lst false (.cons (.tup (.cons (.str "if") (.cons (.ix (.var 1) (.var 7)) .nil))) (.cons (.tup (.cons (.str "times") (.cons (.ix (.var 1) (.var 7)) .nil))) .nil))) (.lst false .nil)))) .nil))) .nil) .nil)) (.cons (.asg (.name 8) (.call i__law_of ⟨2, [], [0, 1]⟩ (.cons (.var 0) (.cons (.var 6) .nil)) .nil)) (.frz 6 (.cons (.ifs (.and (.tv (.callB .isi (.cons (.var 8) (.cons (.bty "tuple" "tuple") .nil)))) (.b1 (.cmp .ne (.ix (.var 8) (.int 0)) (.str "do")))) (.cons (.asg (.name 5) (.bin .add (.var 5) (.lst false (.cons (.call i__law_of ⟨2, [], [0, 1]⟩ (.cons (.var 0) (.cons (.tup (.cons (.int 0) (.cons (.int 1) (.cons (.int 1) (.cons (.int 2) (.cons (.int 3) .nil)))))) .nil)) .nil) (.cons (.var 8) .nil))))) .nil) (.cons (.asg (.tup (.cons (.name 9) (.cons (.name 10) .nil))) (.ife (.nt (.tv (.callB .isi (.cons (.var 8) (.cons (.bty "tuple" "tuple") .nil))))) (.call i__law_plain_effect ⟨1, [], [0]⟩ (.cons (.var 8) .nil) .nil) (.ix (.var 2) (.meth .tindex (.var 1) (.cons (.ix (.var 8) (.int 1)) .nil))))) (.cons (.par2 5 3 (.cons (.bin .add (.var 5) (.lst false (.cons (.var 8) .nil))) (.cons (.bin .add (.bin .sub (.var 3) (.var 9)) (.var 10)) .nil))) .nil))) .nil)))))))) n [some (.ref a), some (.tup (names.map .str)), some (.ref k), some (.int h1'), some (.int many), some (.lst (ws1.map Wd.pv)), b6, b7, b8, b9, b10]).run (plst S a p q z) Q E :=
          fun ws1 h1' p q z b6 b7 b8 b9 b10 hh hf1 => loop_w hk hak hn nd hl hnn hnl hmany n ws1 h1' p q z b6 b7 b8 b9 b10 (by omega) (by omega) (by omega) hf1 kk
        have hz : ws.length < 1000 := by omega
        have app1 : ∀ x : Wd, x.fit names known → ∀ y ∈ ws ++ [x], y.fit names known := fun x hx y hy => by
          rcases List.mem_append.mp hy with hy | hy
          · exact hw y hy
          · rw [List.mem_singleton] at hy; subst hy; exact hx
        have e1 : ∀ x : Wd, ws.map Wd.pv ++ [x.pv] = (ws ++ [x]).map Wd.pv := fun x => by simp
        cases w with
        | num v =>
          have := fin1 (ws ++ [.num v]) (height - 0 + 1) p1 q1 z1 (some (.lst (xs.map Wd.pv))) e7 (some (.int v)) (some (.int 0)) (some (.int 1)) (by simp) (app1 _ hfit)
          rw [← e1] at this
          simp [isiNames, isiB, Wd.pv, lenTs, sizeLine] at this ⊢
          exact ⟨by omega, this⟩
        | pl s =>
          have hp : s ∈ plains := hfit.1
          have := fin1 (ws ++ [.pl s]) (height - (plE s).1 + (plE s).2) p1 q1 z1 (some (.lst (xs.map Wd.pv))) e7 (some (.str s)) (some (.int (plE s).1)) (some (.int (plE s).2)) (by simp) (app1 _ hfit)
          rw [← e1] at this
          simp [isiNames, isiB, Wd.pv, lenTs, sizeLine, x_plainS hp] at this ⊢
          exact ⟨by omega, this⟩
        | call h nn =>
          have hm : nn ∈ names := hfit.1.2
          have hfd := fine_do (hows_ok h hfit.1.1)
          have hlt : names.idxOf nn < known.length := by rw [hl]; exact List.idxOf_lt_length_of_mem hm
          by_cases hd : h = "do"
          · obtain ⟨t, l, he⟩ : ∃ t l, known[names.idxOf nn] = some (t, l) := by
              cases e : known[names.idxOf nn] with
              | none => exact absurd e (hnn _ (List.getElem_mem hlt))
              | some p => exact ⟨p.1, p.2, rfl⟩
            have ixk : ∀ {Q : PV → Stt → Prop}, (vIdx (.ref k) (.int (names.idxOf nn : Nat))).run (plst S a p1 q1 z1) Q E = Q (.tup [.int t, .int l]) (plst S a p1 q1 z1) := fun {Q} => by
              rw [ixRef hk2, r_ixL, atI_nat (by simpa using hlt), List.getElem?_map, List.getElem?_eq_getElem hlt, he]; rfl
            have := fin1 (ws ++ [.call h nn]) (height - t + l) p1 q1 z1 (some (.lst (xs.map Wd.pv))) e7 (some (Wd.call h nn).pv) (some (.int t)) (some (.int l)) (by simp) (app1 _ hfit)
            rw [← e1] at this
            subst hd
            simp [isiNames, isiB, Wd.pv, lenTs, sizeLine, fdo, strsOf_map, hm, ixk] at this ⊢
            exact ⟨by omega, this⟩
          · have key : ∀ c : Int, 0 ≤ c → c ≤ 3 → ∀ p2 q2 z2 : Int, (wh (dT g (.cmp .lt (.callB .len (.cons (.var 5) .nil)) (.var 4))) (dB g (.cons (.asg (.name 6) (.lst false (.cons (.call i__law_number ⟨1, [], [0]⟩ (.cons (.var 0) .nil) .nil) (.cons (.call i__law_number ⟨1, [], [0]⟩ (.cons (.var 0) .nil) .nil) (.cons (.call i__law_number ⟨1, [], [0]⟩ (.cons (.var 0) .nil) .nil) (.cons (.str "turn") (.cons (.str "flip") .nil))))))) (.cons (.asg (.name 6) (.bin .add (.bin .add (.var 6) (.ife (.cmp .gt (.var 3) (.int 0)) (.lst false (.cons (.str "dup") (.cons (.str "drop") (.cons (.str "ink") .nil)))) (.lst false .nil))) (.ife (.cmp .gt (.var 3) (.int 3)) (.lst false (.cons (.str "tri") (.cons (.str "tri") (.cons (.str "tri") .nil)))) (.lst false .nil)))) (.cons (.asg (.name 6) (.bin .addO (.var 6) (.ife (.cmp .gt (.var 3) (.int 1)) (.lst false (.cons (.str "add") (.cons (.str "sub") (.cons (.str "mul") (.cons (.str "swap") (.cons (.str "shift") (.cons (.str "shift") (.cons (.str "box") (.cons (.str "box") (.cons (.str "box") (.cons (.str "clip") .nil))))))))))) (.lst false .nil)))) (.cons (.loop (.name 7) (.rng (.cons (.callB .len (.cons (.var 1) .nil)) .nil)) (.cons (.ifs (.cmp .le (.ix (.ix (.var 2) (.var 7)) (.int 0)) (.var 3)) (.cons (.expr (.meth .append (.var 6) (.cons (.tup (.cons (.str "do") (.cons (.ix (.var 1) (.var 7)) .nil))) .nil))) (.frz 6 (.cons (.asg (.name 6) (.bin .addO (.var 6) (.ife (.cmp .eq (.ix (.ix (.var 2) (.var 7)) (.int 0)) (.ix (.ix (.var 2) (.var 7)) (.int 1))) (.lst false (.cons (.tup (.cons (.str "if") (.cons (.ix (.var 1) (.var 7)) .nil))) (.cons (.tup (.cons (.str "times") (.cons (.ix (.var 1) (.var 7)) .nil))) .nil))) (.lst false .nil)))) .nil))) .nil) .nil)) (.cons (.asg (.name 8) (.call i__law_of ⟨2, [], [0, 1]⟩ (.cons (.var 0) (.cons (.var 6) .nil)) .nil)) (.frz 6 (.cons (.ifs (.and (.tv (.callB .isi (.cons (.var 8) (.cons (.bty "tuple" "tuple") .nil)))) (.b1 (.cmp .ne (.ix (.var 8) (.int 0)) (.str "do")))) (.cons (.asg (.name 5) (.bin .add (.var 5) (.lst false (.cons (.call i__law_of ⟨2, [], [0, 1]⟩ (.cons (.var 0) (.cons (.tup (.cons (.int 0) (.cons (.int 1) (.cons (.int 1) (.cons (.int 2) (.cons (.int 3) .nil)))))) .nil)) .nil) (.cons (.var 8) .nil))))) .nil) (.cons (.asg (.tup (.cons (.name 9) (.cons (.name 10) .nil))) (.ife (.nt (.tv (.callB .isi (.cons (.var 8) (.cons (.bty "tuple" "tuple") .nil))))) (.call i__law_plain_effect ⟨1, [], [0]⟩ (.cons (.var 8) .nil) .nil) (.ix (.var 2) (.meth .tindex (.var 1) (.cons (.ix (.var 8) (.int 1)) .nil))))) (.cons (.par2 5 3 (.cons (.bin .add (.var 5) (.lst false (.cons (.var 8) .nil))) (.cons (.bin .add (.bin .sub (.var 3) (.var 9)) (.var 10)) .nil))) .nil))) .nil)))))))) n [some (.ref a), some (.tup (names.map .str)), some (.ref k), some (.int height), some (.int many), some (.lst (ws.map Wd.pv ++ [PV.int c, (Wd.call h nn).pv])), some (.lst (xs.map Wd.pv)), e7, some (Wd.call h nn).pv, e9, e10]).run (plst S a p2 q2 z2) Q E := by
              intro c hc hc' p2 q2 z2
              have := fin1 (ws ++ [.num c, .call h nn]) height p2 q2 z2 (some (.lst (xs.map Wd.pv))) e7 (some (Wd.call h nn).pv) e9 e10 (by simp) (fun y hy => by
                rcases List.mem_append.mp hy with hy | hy
                · exact hw y hy
                · simp only [List.mem_cons, List.not_mem_nil, or_false] at hy
                  rcases hy with rfl | rfl
                  · exact fit_num (by omega)
                  · exact hfit)
              rw [List.map_append] at this
              exact this
            simp [isiNames, isiB, Wd.pv, lenTs, sizeLine, hfd, hd] at key ⊢
            intro p2 q2 z2
            refine ⟨⟨by omega, ?_⟩, ⟨by omega, ?_⟩, ⟨by omega, ?_⟩, ⟨by omega, ?_⟩⟩ <;> exact key _ (by omega) (by omega) _ _ _
      simp only [↓r_bc, ↓r_asg, ↓r_lst, ↓r_lc, ↓r_l0, ↓x_call__law_number_0, ↓r_var, ↓r_getS, ↓r_get0, ↓x_cf__law_number_0, ↓x__law_number, ↓r_str]
      intro p1 q1 z1 v1 hv1 hv1' p2 q2 z2 v2 hv2 hv2' p3 q3 z3 v3 hv3 hv3'
      refine ⟨by simp [sizeLine], ?_⟩
      by_cases c0 : 0 < height <;> by_cases c3 : 3 < height <;> by_cases c1 : 1 < height
      all_goals
        simp only [↓r_gn, ↓k_setS, ↓k_set0, ↓r_snx, ↓r_bc, ↓r_asg, ↓r_bin, ↓r_var, ↓r_getS, ↓r_get0, ↓r_ife, ↓r_tcmp, ↓r_int, ↓r_gt', ↓r_trb, c0, c3, c1, decide_true, decide_false, if_true, if_false, Bool.false_eq_true, ↓r_lst, ↓r_lc, ↓r_l0, ↓r_str, ↓r_addL, ↓r_addO, catK_eq]
        refine ⟨by simp [sizeLine], by simp [sizeLine], by simp [sizeLine], by simp [sizeLine], by simp [sizeLine], by simp [sizeLine], fun f hf => ?_⟩
        have haf : f ≠ a := fun z => by rw [z] at hf; unfold plst at hf; rw [put_same] at hf; cases hf
        have hf0 : S f = none := by unfold plst at hf; rw [put_ne haf] at hf; exact hf
        unfold plst
        rw [put_comm (Ne.symm haf)]
        refine tailW _ (some_ok ⟨hv1, hv1'⟩ ⟨hv2, hv2'⟩ ⟨hv3, hv3'⟩ ?_ ?_ ?_) f p3 q3 z3 hf0 haf
        all_goals first
          | exact ⟨[], rfl, by simp, by simp⟩
          | exact ⟨["dup", "drop", "ink"], rfl, by decide +kernel, by simp⟩
          | exact ⟨["tri", "tri", "tri"], rfl, by decide +kernel, by simp⟩
          | exact ⟨["add", "sub", "mul", "swap", "shift", "shift", "box", "box", "box", "clip"], rfl, by decide +kernel, by simp⟩
    · rw [if_neg (by simpa using c)]
      exact kk ws height p q z e6 e7 e8 e9 e10 (by omega) h2 hw
end Dp.L

namespace Dp.L
open PySem PySem.Spec L2 Dp
open PyProof.Rows hiding St
theorem le__law_words {a k : Addr} {ns : List PV} {height many : Int} : M.le (C__law_words [.ref a, .tup ns, .ref k, .int height, .int many]) (d__law_words.den g [.ref a, .tup ns, .ref k, .int height, .int many]) := by
  rintro S Q E ⟨names, rfl, hn, known, hk, ⟨hak, nd, hl, hnn, hm1, hm2, hnl⟩, xs, ha, ⟨p, q0, z, e⟩, q⟩
  subst e
  have q : ∀ p' q' z' : Int, ∀ ws : List Wd, (1 ≤ ws.length ∧ ws.length ≤ 60 ∧ (ws.length : Int) ≤ many + 1 ∧ ∀ w ∈ ws, w.fit names known) → Q (.tup (ws.map Wd.pv)) (put S a (.lst [.int p', .int q', .int z'])) := fun p' q' z' l h1 => q _ ⟨p', q', z', rfl⟩ l h1
  rw [den_eq (body := c__law_words) (env := [some (.ref a), some (.tup (names.map .str)), some (.ref k), some (.int height), some (.int many), none, none, none, none, none, none]) rfl rfl]
  unfold c__law_words
  rw [← put_id ha]
  simp only [↓r_runB, ↓r_bc, ↓r_asg, ↓r_lst, ↓r_l0, ↓r_gn, ↓k_setS, ↓k_set0, ↓r_snx, r_whl]
  refine ⟨by simp [sizeLine], many.toNat + 1, ?_⟩
  refine loop_w hk hak hn nd hl hnn hnl hm2 (many.toNat + 1) [] height p q0 z _ _ _ _ _ (by omega) (by simp; omega) (by simp; omega) (by simp) fun ws h' p1 q1 z1 e6 e7 e8 e9 e10 h1 h2 h3 => ?_
  simp only [↓r_snx, ↓r_bc, ↓r_rt, ↓r_callT, ↓r_lc, ↓r_l0, ↓r_var, ↓r_getS, ↓r_get0, ↓r_Ttup, ↓r_srr, ↓r_ert]
  exact q p1 q1 z1 ws ⟨by omega, by omega, h2, h3⟩
theorem x__law_words {S : Stt} {Q : PV → Stt → Prop} {E : Exc → Stt → Prop} {a k : Addr} {p q z height many : Int} {names : List Str} {known : List Eff} (hn : ∀ y ∈ names, PyData.strOk y = true) (hk : S k = some (.lst (known.map effPV))) (hg : a ≠ k ∧ names.Nodup ∧ known.length = names.length ∧ (∀ e ∈ known, e ≠ none) ∧ 1 ≤ many ∧ many ≤ 30 ∧ names.length ≤ 20)
    (kk : ∀ (p q z : Int) (ws : List Wd), 1 ≤ ws.length ∧ ws.length ≤ 60 ∧ (ws.length : Int) ≤ many + 1 → (∀ w ∈ ws, w.fit names known) → Q (.tup (ws.map Wd.pv)) (plst S a p q z)) : (C__law_words [.ref a, .tup (names.map .str), .ref k, .int height, .int many]).run (plst S a p q z) Q E := by
  refine ⟨names, rfl, hn, known, by unfold plst; rw [put_ne (Ne.symm hg.1)]; exact hk, hg, _, put_same, pool3, fun ys ⟨p', q', z', e⟩ l hl => ?_⟩
  subst e
  show Q _ (put (plst S a _ _ _) a _)
  rw [put_put]
  exact kk _ _ _ l ⟨hl.1, hl.2.1, hl.2.2.1⟩ hl.2.2.2
/-- fitting words have an effect -/
theorem scan_fit {names : List Str} {known : List Eff} : ∀ {ws : List Wd} {k : Nat} {w : Int × Int}, (∀ x ∈ ws, x.fit names known) → (scan names known ws k w).1 ≠ none
  | [], k, w, _ => by simp [scan]
  | x :: ws, k, w, h => by
    obtain ⟨_, t, l, e⟩ := h x (by simp)
    have e1 : scan names known (x :: ws) k w = scan names known ws (k + 1) (behindE w t l) := by
      conv => lhs; unfold scan
      rw [e]
    rw [e1]
    exact scan_fit fun y hy => h y (by simp [hy])
end Dp.L

namespace Dp.L
open PySem PySem.Spec L2 Dp
open PyProof.Rows hiding St
/-- a comprehension over an owned list, with a test -/
theorem compM_filterO {ι : Type} {h : ι → PV} {f : ι → PV} {p : ι → Bool} {body : PV → List PV → M (List PV)} {b : Addr} {xs : List PV} : ∀ {ys : List ι} {acc : List PV} {S : Stt} {Q : List PV → Stt → Prop} {E : Exc → Stt → Prop}, S b = some (.lst xs) →
    (∀ y ∈ ys, ∀ (acc : List PV) (Q : List PV → Stt → Prop) (E : Exc → Stt → Prop), acc.length < sizeLine → Q (if p y then acc ++ [f y] else acc) S → (body (h y) acc).run S Q E) → acc.length + ys.length ≤ sizeLine → Q (acc ++ (ys.filter p).map f) S → (compM (.own b xs) body (ys.map h) acc).run S Q E
  | [], acc, S, Q, E, hS, _, _, q => ⟨hS, by simpa using q⟩
  | y :: ys, acc, S, Q, E, hS, hb, hl, q => by
    rw [List.map_cons]
    refine ⟨hS, ?_⟩
    simp only [List.length_cons] at hl
    refine hb y (by simp) acc _ _ (by omega) ?_
    by_cases hp : p y = true
    · rw [if_pos hp]
      exact compM_filterO hS (fun z hz => hb z (by simp [hz])) (by simp; omega) (by simpa [List.filter_cons, hp] using q)
    · rw [if_neg hp]
      exact compM_filterO hS (fun z hz => hb z (by simp [hz])) (by omega) (by simpa [List.filter_cons, hp] using q)
theorem r_srR {a : Addr} {xs : List PV} {S : Stt} {Q : Src × List PV → Stt → Prop} {E : Exc → Stt → Prop} (h : S a = some (.lst xs)) : (vSrc (.ref a)).run S Q E = Q (.own a xs, xs) S :=
  propext ⟨fun ⟨ys, e, q⟩ => by rw [h] at e; cases e; exact q, fun q => ⟨xs, h, q⟩⟩
theorem put_4 {S : Stt} {k f a : Addr} {K F P K' : Cell} (h1 : k ≠ f) (h2 : k ≠ a) : put (put (put (put S k K) f F) a P) k K' = put (put (put S k K') f F) a P := by
  rw [put_comm (a := a) (b := k) (Ne.symm h2), put3' h1]
theorem put_4' {S : Stt} {k f a : Addr} {K F P F' : Cell} (h3 : f ≠ a) : put (put (put (put S k K) f F) a P) f F' = put (put (put S k K) f F') a P := put3' h3
theorem loop_pr {a kk f : Addr} {d m : Int} {names : List Str} {S : Stt} (hk : S kk = none) (hf : S f = none) (hka : kk ≠ a) (hfa : f ≠ a) (hkf : kk ≠ f) (hn : ∀ y ∈ names, PyData.strOk y = true) (nd : names.Nodup) (hnl : names.length ≤ 12) (hm : 1 ≤ m ∧ m ≤ 20) {Q : Res → Stt → Prop} {E : Exc → Stt → Prop} :
    ∀ (rest : List Str) (i : Nat) (ds : List Deed) (known : List Eff) (p q z : Int) (e6 e7 e8 e9 : Option PV), names.drop i = rest → ds.length = i → known.length = i → Bd names ds → (∀ e ∈ known, e ≠ none) → (∀ x ∈ ds, (x.2.length : Int) ≤ m + 1) →
    (∀ (ds' : List Deed) (known' : List Eff) (p q z : Int) (e6 e7 e8 e9 : Option PV), ds'.length = names.length → Bd names ds' → (∀ x ∈ ds', (x.2.length : Int) ≤ m + 1) →
      Q (.nx [some (.ref a), some (.int d), some (.int m), some (.tup (names.map .str)), some (.ref kk), some (.ref f), e6, e7, e8, e9]) (plst (put (put S kk (.lst (known'.map effPV))) f (.lst (ds'.map deedPV))) a p q z)) →
    (forM .fix (turnF g (.name 6) (.cons (.asg (.name 7) (.ife (.cmp .eq (.bin .add (.var 6) (.int 1)) (.callB .len (.cons (.var 3) .nil))) (.int 0) (.call i__law_of ⟨2, [], [0, 1]⟩ (.cons (.var 0) (.cons (.tup (.cons (.int 0) (.cons (.int 0) (.cons (.int 1) (.cons (.int 2) .nil))))) .nil)) .nil))) (.cons (.asg (.name 8) (.call i__law_words ⟨5, [], [0, 1, 2, 3, 4]⟩ (.cons (.var 0) (.cons (.sl (.var 3) .none (.some (.var 6))) (.cons (.var 4) (.cons (.var 7) (.cons (.bin .add (.int 1) (.call i__law_draw ⟨2, [], [0, 1]⟩ (.cons (.var 0) (.cons (.var 2) .nil)) .nil)) .nil))))) .nil)) (.cons (.expr (.meth .append (.var 4) (.cons (.ix (.call i__law_effect ⟨3, [], [0, 1, 2]⟩ (.cons (.var 8) (.cons (.sl (.var 3) .none (.some (.var 6))) (.cons (.var 4) .nil))) .nil) (.int 0)) .nil))) (.cons (.expr (.meth .append (.var 5) (.cons (.tup (.cons (.ix (.var 3) (.var 6)) (.cons (.sl (.var 8) .none (.some (.int 40))) .nil))) .nil))) .nil))))) (rngItems i rest.length) [some (.ref a), some (.int d), some (.int m), some (.tup (names.map .str)), some (.ref kk), some (.ref f), e6, e7, e8, e9]).run (plst (put (put S kk (.lst (known.map effPV))) f (.lst (ds.map deedPV))) a p q z) Q E
  | [], i, ds, known, p, q, z, e6, e7, e8, e9, hr, hl, hl2, hb, hnn, hbd, k => k ds known p q z e6 e7 e8 e9 (by have := congrArg List.length hr; rw [List.length_drop] at this; have := hb.le; simp at *; omega) hb hbd
  | y :: rest, i, ds, known, p, q, z, e6, e7, e8, e9, hr, hl, hl2, hb, hnn, hbd, k => by
    have ixn := fun {S : Stt} {Q : PV → Stt → Prop} {E : Exc → Stt → Prop} => ix_drop (S := S) (Q := Q) (E := E) (f := PV.str) hr
    have hy : names[ds.length]? = some y := by
      rw [hl]
      have := congrArg List.head? hr
      rw [List.head?_drop] at this
      exact this
    have hlt : i < names.length := by rw [hl, List.getElem?_eq_some_iff] at hy; exact hy.1
    have cutn : cutL (names.map PV.str) none (some (i : Int)) = (names.take i).map .str := by rw [cut_take (by simp; omega), List.map_take]
    have hndt : (names.take i).Nodup := nd.sublist (List.take_sublist _ _)
    have htl : (names.take i).length = i := by rw [List.length_take]; omega
    have hkS : ∀ {K F : Cell} {p q z : Int}, plst (put (put S kk K) f F) a p q z kk = some K := fun {K F p q z} => by unfold plst; rw [put_ne hka, put_ne hkf, put_same]
    have hfS : ∀ {K F : Cell} {p q z : Int}, plst (put (put S kk K) f F) a p q z f = some F := fun {K F p q z} => by unfold plst; rw [put_ne hfa, put_same]
    have main : ∀ (height : Int) (p q z : Int), (dB g (.cons (.asg (.name 8) (.call i__law_words ⟨5, [], [0, 1, 2, 3, 4]⟩ (.cons (.var 0) (.cons (.sl (.var 3) .none (.some (.var 6))) (.cons (.var 4) (.cons (.var 7) (.cons (.bin .add (.int 1) (.call i__law_draw ⟨2, [], [0, 1]⟩ (.cons (.var 0) (.cons (.var 2) .nil)) .nil)) .nil))))) .nil)) (.cons (.expr (.meth .append (.var 4) (.cons (.ix (.call i__law_effect ⟨3, [], [0, 1, 2]⟩ (.cons (.var 8) (.cons (.sl (.var 3) .none (.some (.var 6))) (.cons (.var 4) .nil))) .nil) (.int 0)) .nil))) (.cons (.expr (.meth .append (.var 5) (.cons (.tup (.cons (.ix (.var 3) (.var 6)) (.cons (.sl (.var 8) .none (.some (.int 40))) .nil))) .nil))) .nil))) [some (.ref a), some (.int d), some (.int m), some (.tup (names.map .str)), some (.ref kk), some (.ref f), some (.int (i : Int)), some (.int height), e8, e9]).run (plst (put (put S kk (.lst (known.map effPV))) f (.lst (ds.map deedPV))) a p q z)
        (fun r S => (forR .fix (turnF g (.name 6) (.cons (.asg (.name 7) (.ife (.cmp .eq (.bin .add (.var 6) (.int 1)) (.callB .len (.cons (.var 3) .nil))) (.int 0) (.call i__law_of ⟨2, [], [0, 1]⟩ (.cons (.var 0) (.cons (.tup (.cons (.int 0) (.cons (.int 0) (.cons (.int 1) (.cons (.int 2) .nil))))) .nil)) .nil))) (.cons (.asg (.name 8) (.call i__law_words ⟨5, [], [0, 1, 2, 3, 4]⟩ (.cons (.var 0) (.cons (.sl (.var 3) .none (.some (.var 6))) (.cons (.var 4) (.cons (.var 7) (.cons (.bin .add (.int 1) (.call i__law_draw ⟨2, [], [0, 1]⟩ (.cons (.var 0) (.cons (.var 2) .nil)) .nil)) .nil))))) .nil)) (.cons (.expr (.meth .append (.var 4) (.cons (.ix (.call i__law_effect ⟨3, [], [0, 1, 2]⟩ (.cons (.var 8) (.cons (.sl (.var 3) .none (.some (.var 6))) (.cons (.var 4) .nil))) .nil) (.int 0)) .nil))) (.cons (.expr (.meth .append (.var 5) (.cons (.tup (.cons (.ix (.var 3) (.var 6)) (.cons (.sl (.var 8) .none (.some (.int 40))) .nil))) .nil))) .nil))))) (rngItems (i + 1) rest.length) r).run S Q E) E := by
      intro height p q z
      simp only [↓r_bc, ↓r_asg, ↓x_call__law_words_0, ↓r_lc, ↓r_l0, ↓r_var, ↓r_getS, ↓r_get0, ↓r_sl, ↓r_o0, ↓r_o1, ↓r_prt, ↓r_slT, cutn, ↓r_bin, ↓r_int, ↓x_call__law_draw_0, ↓x_cf__law_draw_0, ↓x__law_draw]
      refine ⟨⟨by omega, by omega⟩, fun p1 q1 z1 v h1 h2 => ?_⟩
      simp only [↓r_add, ↓x_cf__law_words_0]
      refine x__law_words (known := known) (take_ok hn) (by rw [put_ne hkf, put_same]) ⟨Ne.symm hka, hndt, by omega, hnn, by omega, by omega, by omega⟩ fun p2 q2 z2 ws hws hfit => ?_
      have hok : ∀ x ∈ ws, x.ok (names.take i) := fun x hx => (hfit x hx).1
      have hcut : cutL (ws.map Wd.pv) none (some 40) = (ws.take 40).map Wd.pv := by
        by_cases h40 : 40 ≤ ws.length
        · rw [show (40 : Int) = ((40 : Nat) : Int) by rfl, cut_take (by simpa using h40), List.map_take]
        · rw [List.take_of_length_le (by omega)]
          unfold cutL
          rw [show (40 : Int) = ((40 : Nat) : Int) by rfl, HT.sIx_nat, HT.sIx_none, Nat.min_eq_right (by simp; omega)]
          simp
          rw [List.take_of_length_le (by simp)]
      simp only [↓r_gn, ↓k_setS, ↓k_set0, ↓r_snx, ↓r_bc, ↓r_ex, ↓r_meth, ↓r_var, ↓r_getS, ↓r_get0, isT_ref (T := Mt.T .append) hkS rfl, ↓r_lc, ↓r_l0, ↓r_ix, ↓x_call__law_effect_0, ↓r_sl, ↓r_o0, ↓r_o1, ↓r_prt, ↓r_slT, cutn, ↓x_cf__law_effect_0, x__law_effect (wl := ws) (known := known) (take_ok hn) hkS hok ⟨by omega, by omega, hndt⟩, ↓r_int, ↓r_ixT0, app_ref hkS]
      refine ⟨by simp [sizeLine]; omega, ?_⟩
      unfold plst
      rw [put_4 hkf hka]
      have hfS' := @hfS
      unfold plst at hfS'
      simp only [isT_ref (T := Mt.T .append) hfS' rfl, ↓r_tup, ↓r_lc, ↓r_l0, ↓r_ix, ↓r_var, ↓r_getS, ↓r_get0, ixn, ↓r_sl, ↓r_o0, ↓r_o1, ↓r_int, ↓r_prt, ↓r_slT, hcut, app_ref hfS']
      refine ⟨by simp [sizeLine], by simp [sizeLine]; omega, ?_⟩
      rw [put_4' hfa]
      simp only [↓r_b0, ↓r_snx, ↓r_fnx]
      rw [show ds.map deedPV ++ [PV.tup [PV.str y, PV.tup ((ws.take 40).map Wd.pv)]] = (ds ++ [(y, ws.take 40)]).map deedPV by simp [deedPV],
        show known.map effPV ++ [effPV (scan (names.take i) known ws 0 (0, 0)).1] = (known ++ [(scan (names.take i) known ws 0 (0, 0)).1]).map effPV by simp]
      refine loop_pr hk hf hka hfa hkf hn nd hnl hm rest (i + 1) (ds ++ [(y, ws.take 40)]) (known ++ [(scan (names.take i) known ws 0 (0, 0)).1]) _ _ _ _ _ _ _ (drop_next hr) (by simp [hl]) (by simp [hl2]) (bd_add hb hy ⟨by rw [List.length_take]; omega, by rw [List.length_take]; omega⟩ (by rw [hl]; exact fun x hx => hok x (List.take_sublist _ _ |>.subset hx))) (fun e he => ?_) (fun x hx => ?_) k
      · rcases List.mem_append.mp he with he | he
        · exact hnn e he
        · rw [List.mem_singleton] at he; subst he; exact scan_fit hfit
      · rcases List.mem_append.mp hx with hx | hx
        · exact hbd x hx
        · rw [List.mem_singleton] at hx; subst hx
          show ((ws.take 40).length : Int) ≤ m + 1
          rw [List.length_take]; omega
    rw [List.length_cons, rng_cons, r_forS]
    rw [r_turn, r_gn]
    simp only [↓k_setS, ↓k_set0, ↓r_bc, ↓r_asg, ↓r_ife, ↓r_tcmp, ↓r_bin, ↓r_var, ↓r_getS, ↓r_get0, ↓r_int, ↓r_add, ↓r_callB, ↓r_lc, ↓r_l0, ↓r_lenT, List.length_map, ↓r_eqI, ↓r_trb]
    by_cases c : (i : Int) + 1 = (names.length : Int)
    · rw [if_pos (decide_eq_true c)]
      simp only [↓r_int, ↓r_gn, ↓k_setS, ↓k_set0, ↓r_snx]
      exact main 0 p q z
    · rw [if_neg (by simpa using c)]
      simp only [↓x_call__law_of_0, ↓r_lc, ↓r_l0, ↓r_var, ↓r_getS, ↓r_get0, ↓r_tup, ↓r_int, ↓x_cf__law_of_0, ↓x__law_ofT]
      refine ⟨by simp [sizeLine], ⟨by simp, by simp⟩, fun p1 q1 z1 v hv => ?_⟩
      obtain ⟨h, rfl⟩ : ∃ h : Int, v = .int h := by
        simp only [List.mem_cons, List.not_mem_nil, or_false] at hv
        rcases hv with h | h | h | h <;> exact ⟨_, h⟩
      simp only [↓r_gn, ↓k_setS, ↓k_set0, ↓r_snx]
      exact main h p1 q1 z1
end Dp.L

namespace Dp.L
open PySem PySem.Spec L2 Dp
open PyProof.Rows hiding St
theorem fine_ones {xs : List Deed} : fine2 (.lst (xs.map fun _ => PV.int 1)) (.lst []) := by
  refine ⟨?_, by simp [PV.fine, PV.fineL]⟩
  simp only [PV.fine]
  refine fineL_all.mpr fun x hx => ?_
  obtain ⟨k, _, rfl⟩ := List.mem_map.mp hx
  simp [PV.fine]
theorem del_two {S : Stt} {kk f a : Addr} {K F P : Cell} (hk : S kk = none) (hf : S f = none) (hka : kk ≠ a) (hfa : f ≠ a) : del (del (put (put (put S kk K) f F) a P) kk) f = put S a P := by
  funext x
  unfold del put
  by_cases h1 : x = f
  · subst h1; simp [hf, hfa]
  · by_cases h2 : x = kk
    · subst h2; simp [h1, hk, hka]
    · simp [h1, h2]
theorem x_prg {S : Stt} {Q : PV → Stt → Prop} {E : Exc → Stt → Prop} {a : Addr} {p q z : Int} (k : ∀ (p q z : Int) (P : Prg), P.ok → Q P.pv (plst S a p q z)) : (aPrg a).run (plst S a p q z) Q E := by
  refine ⟨_, put_same, pool3, fun ys ⟨p', q', z', e⟩ P hP => ?_⟩
  subst e
  show Q _ (put (plst S a _ _ _) a _)
  rw [put_put]
  exact k _ _ _ P hP
theorem le__law_program_0 {a : Addr} : M.le (C__law_program_0 [.ref a, .int 1, .int 3]) (d__law_program_0.den g [.ref a, .int 1, .int 3]) := by
  rintro S Q E ⟨xs, ha, ⟨p, q0, z, e⟩, q⟩
  subst e
  have q : ∀ p' q' z' : Int, ∀ P : Prg, P.ok → Q P.pv (put S a (.lst [.int p', .int q', .int z'])) := fun p' q' z' P h1 => q _ ⟨p', q', z', rfl⟩ P h1
  rw [den_eq (body := c__law_program_0) (env := [some (.ref a), some (.int 1), some (.int 3), none, none, none, none, none, none, none]) rfl rfl]
  unfold c__law_program_0
  rw [← put_id ha]
  simp only [↓r_runB, ↓r_bc, ↓r_par3, ↓r_lc, ↓r_l0, ↓x_call__law_names_0, ↓r_var, ↓r_getS, ↓r_get0, ↓r_bin, ↓r_int, ↓x_call__law_draw_0, ↓x_cf__law_draw_0, ↓x__law_draw]
  refine ⟨⟨by omega, by omega⟩, fun p1 q1 z1 v h1 h2 => ?_⟩
  simp only [↓r_add, ↓x_cf__law_names_0]
  refine x__law_names ⟨by omega, by omega⟩ fun p2 q2 z2 names hl nd hg => ?_
  simp only [↓r_own, ↓r_l0]
  refine ⟨by simp [sizeLine], fun kk hk => ?_⟩
  have hka : kk ≠ a := fun z => by rw [z] at hk; unfold plst at hk; rw [put_same] at hk; cases hk
  have hk0 : S kk = none := by unfold plst at hk; rw [put_ne hka] at hk; exact hk
  refine ⟨by simp [sizeLine], fun f hf => ?_⟩
  have hkf : kk ≠ f := fun z => by subst z; rw [put_same] at hf; cases hf
  have hfa : f ≠ a := fun z => by rw [z, put_ne (Ne.symm hka)] at hf; unfold plst at hf; rw [put_same] at hf; cases hf
  have hf0 : S f = none := by rw [put_ne (Ne.symm hkf)] at hf; unfold plst at hf; rw [put_ne hfa] at hf; exact hf
  simp only [↓r_asg3, ↓k_setS, ↓k_set0, ↓r_snx, ↓r_bc, ↓r_loop, ↓r_ir, ↓r_lc, ↓r_l0, ↓r_callB, ↓r_var, ↓r_getS, ↓r_get0, ↓r_lenT, List.length_map, ↓r_rg1, lenL, List.length_cons, List.length_nil]
  refine ⟨trivial, by unfold inRng; omega, ?_⟩
  rw [show ((names.length : Int)).toNat = names.length by simp]
  have hS : put (put (plst S a p2 q2 z2) kk (.lst [])) f (.lst []) = plst (put (put S kk (.lst (([] : List Eff).map effPV))) f (.lst (([] : List Deed).map deedPV))) a p2 q2 z2 := by
    unfold plst
    rw [put_comm (Ne.symm hka), put_comm (Ne.symm hfa)]
    rfl
  rw [hS]
  refine loop_pr (d := 1) (m := 3) hk0 hf0 hka hfa hkf (fun y hy => gn_ok (hg y hy)) nd (by omega) ⟨by omega, by omega⟩ names 0 [] [] p2 q2 z2 _ _ _ _ rfl rfl rfl bd_nil (by simp) (by simp) fun ds known p3 q3 z3 e6 e7 e8 e9 hl2 hb hbd => ?_
  have hfS : ∀ {p q z}, plst (put (put S kk (.lst (known.map effPV))) f (.lst (ds.map deedPV))) a p q z f = some (.lst (ds.map deedPV)) := fun {p q z} => by unfold plst; rw [put_ne hfa, put_same]
  have hkS : ∀ {p q z}, plst (put (put S kk (.lst (known.map effPV))) f (.lst (ds.map deedPV))) a p q z kk = some (.lst (known.map effPV)) := fun {p q z} => by unfold plst; rw [put_ne hka, put_ne hkf, put_same]
  have hk1 : ∀ {p q z}, del (plst (put (put S kk (.lst (known.map effPV))) f (.lst (ds.map deedPV))) a p q z) kk f = some (.lst (ds.map deedPV)) := fun {p q z} => by rw [del_ne (Ne.symm hkf)]; exact hfS
  simp only [↓r_snx, ↓r_bc, ↓r_if, ↓r_tcmp, ↓r_comp, ↓r_iv, ↓r_var, ↓r_getS, ↓r_get0, r_srR hfS, List.map_cons, List.map_nil, ↓k_wipeS, ↓k_wipe0, ↓k_setS, ↓k_set0]
  refine compM_filterO (f := fun _ => PV.int 1) (p := fun d : Deed => decide (d.2.length = 40)) hfS (fun d hd acc Q E ha q => ?_) (by simp [sizeLine]; omega) ?_
  · rw [r_compF]
    have hdl : d.2.length ≤ 1000 := by
      obtain ⟨i, hi, e⟩ := List.mem_iff_getElem.mp hd
      have := (hb.each i d (by rw [List.getElem?_eq_getElem hi, e])).1
      omega
    have e40 : decide ((d.2.length : Int) = 40) = decide (d.2.length = 40) := decide_eq_decide.mpr (by omega)
    simp only [deedPV, ↓r_gt, List.length_cons, List.length_nil, lenTs, ↓r_gc, ↓r_g0, ↓r_gn, ↓k_setS, ↓k_set0, ↓r_c1, ↓r_tcmp, ↓r_callB, ↓r_lc, ↓r_l0, ↓r_var, ↓r_getS, ↓r_get0, ↓r_lenT, List.length_map, ↓r_int, ↓r_eqI, ↓r_trb, e40, ha, true_and, appK_eq]
    split
    · rename_i c; rw [if_pos c] at q; exact q
    · rename_i c; rw [if_neg c] at q; exact q
  · rw [List.nil_append]
    generalize hW : (ds.filter fun d => decide (d.2.length = 40)) = W
    have fW := fine_ones (xs := W)
    simp only [↓r_lst, ↓r_l0, ↓r_neL, fW, true_and]
    refine ⟨by simp [sizeLine], ?_⟩
    cases W with
    | nil =>
      have e : PV.eqv (.lst (([] : List Deed).map fun _ => PV.int 1)) (.lst []) = true := by simp [PV.eqv, PV.eqvL]
      simp only [e, Bool.not_true, ↓r_trb, Bool.false_eq_true, if_false, ↓r_b0, ↓r_snx, ↓r_bf, ↓r_frzS]
      refine frz_at (i := 0) (a := kk) rfl hkS ?_
      simp only [List.set_cons_zero, ↓r_bf, ↓r_frzS]
      refine frz_at (i := 0) (a := f) rfl hk1 ?_
      unfold plst
      rw [del_two hk0 hf0 hka hfa]
      simp only [List.set_cons_zero, ↓r_bc, ↓r_rt, ↓r_tup, ↓r_lc, ↓r_l0, ↓r_bin, ↓r_int, ↓x_call__law_draw_0, ↓x_call__law_of_0, ↓r_var, ↓r_getS, ↓r_get0, ↓x_cf__law_of_0, ↓x__law_ofT]
      refine ⟨by simp [sizeLine], ⟨by simp, by simp⟩, fun p4 q4 z4 v4 hv4 => ?_⟩
      obtain ⟨w, rfl, hw1, hw2⟩ : ∃ w : Int, v4 = .int w ∧ 1 ≤ w ∧ w ≤ 24 := by
        simp only [List.mem_cons, List.not_mem_nil, or_false] at hv4
        rcases hv4 with h | h | h <;> exact ⟨_, h, by omega, by omega⟩
      simp only [↓x_cf__law_draw_0, ↓x__law_draw]
      refine ⟨⟨by omega, by omega⟩, fun p5 q5 z5 v5 h5 h5' => ?_⟩
      simp only [↓r_add, ↓x__law_ofT]
      refine ⟨by simp [sizeLine], ⟨by simp, by simp⟩, fun p6 q6 z6 v6 hv6 => ?_⟩
      obtain ⟨w', rfl, hw1', hw2'⟩ : ∃ w : Int, v6 = .int w ∧ 1 ≤ w ∧ w ≤ 24 := by
        simp only [List.mem_cons, List.not_mem_nil, or_false] at hv6
        rcases hv6 with h | h | h <;> exact ⟨_, h, by omega, by omega⟩
      simp only [↓x_cf__law_draw_0, ↓x__law_draw]
      refine ⟨⟨by omega, by omega⟩, fun p7 q7 z7 v7 h7 h7' => ?_⟩
      simp only [↓r_add, ↓r_callT, ↓r_lc, ↓r_l0, ↓r_var, ↓r_getS, ↓r_get0, ↓r_Ttup, ↓r_srr, ↓r_ert]
      refine ⟨by simp [sizeLine], ?_⟩
      exact q p7 q7 z7 ⟨1 + v5, 1 + v7, ds⟩ ⟨⟨by show 1 ≤ 1 + v5; omega, by show 1 + v5 ≤ 24; omega⟩, ⟨by show 1 ≤ 1 + v7; omega, by show 1 + v7 ≤ 24; omega⟩, bd_ok hb hl2 ⟨by omega, by omega⟩ nd hg⟩
    | cons x W =>
      exfalso
      have hx : x ∈ ds.filter fun d => decide (d.2.length = 40) := by rw [hW]; simp
      obtain ⟨hx1, hx2⟩ := List.mem_filter.mp hx
      have := hbd x hx1
      have : x.2.length = 40 := of_decide_eq_true hx2
      omega
theorem le__law_program {a : Addr} {d m : Int} : M.le (C__law_program [.ref a, .int d, .int m]) (d__law_program.den g [.ref a, .int d, .int m]) := by
  rintro S Q E ⟨⟨hd, hd2, hm⟩, xs, ha, ⟨p, q0, z, e⟩, q⟩
  subst e
  have q : ∀ p' q' z' : Int, ∀ P : Prg, P.ok → Q P.pv (put S a (.lst [.int p', .int q', .int z'])) := fun p' q' z' P h1 => q _ ⟨p', q', z', rfl⟩ P h1
  rw [den_eq (body := c__law_program) (env := [some (.ref a), some (.int d), some (.int m), none, none, none, none, none, none, none]) rfl rfl]
  unfold c__law_program
  rw [← put_id ha]
  simp only [↓r_runB, ↓r_bc, ↓r_par3, ↓r_lc, ↓r_l0, ↓x_call__law_names_0, ↓r_var, ↓r_getS, ↓r_get0, ↓r_bin, ↓r_int, ↓x_call__law_draw_0, ↓x_cf__law_draw_0, ↓x__law_draw]
  refine ⟨⟨by omega, by omega⟩, fun p1 q1 z1 v h1 h2 => ?_⟩
  simp only [↓r_add, ↓x_cf__law_names_0]
  refine x__law_names ⟨by omega, by omega⟩ fun p2 q2 z2 names hl nd hg => ?_
  simp only [↓r_own, ↓r_l0]
  refine ⟨by simp [sizeLine], fun kk hk => ?_⟩
  have hka : kk ≠ a := fun z => by rw [z] at hk; unfold plst at hk; rw [put_same] at hk; cases hk
  have hk0 : S kk = none := by unfold plst at hk; rw [put_ne hka] at hk; exact hk
  refine ⟨by simp [sizeLine], fun f hf => ?_⟩
  have hkf : kk ≠ f := fun z => by subst z; rw [put_same] at hf; cases hf
  have hfa : f ≠ a := fun z => by rw [z, put_ne (Ne.symm hka)] at hf; unfold plst at hf; rw [put_same] at hf; cases hf
  have hf0 : S f = none := by rw [put_ne (Ne.symm hkf)] at hf; unfold plst at hf; rw [put_ne hfa] at hf; exact hf
  simp only [↓r_asg3, ↓k_setS, ↓k_set0, ↓r_snx, ↓r_bc, ↓r_loop, ↓r_ir, ↓r_lc, ↓r_l0, ↓r_callB, ↓r_var, ↓r_getS, ↓r_get0, ↓r_lenT, List.length_map, ↓r_rg1, lenL, List.length_cons, List.length_nil]
  refine ⟨trivial, by unfold inRng; omega, ?_⟩
  rw [show ((names.length : Int)).toNat = names.length by simp]
  have hS : put (put (plst S a p2 q2 z2) kk (.lst [])) f (.lst []) = plst (put (put S kk (.lst (([] : List Eff).map effPV))) f (.lst (([] : List Deed).map deedPV))) a p2 q2 z2 := by
    unfold plst
    rw [put_comm (Ne.symm hka), put_comm (Ne.symm hfa)]
    rfl
  rw [hS]
  refine loop_pr (d := d) (m := m) hk0 hf0 hka hfa hkf (fun y hy => gn_ok (hg y hy)) nd (by omega) hm names 0 [] [] p2 q2 z2 _ _ _ _ rfl rfl rfl bd_nil (by simp) (by simp) fun ds known p3 q3 z3 e6 e7 e8 e9 hl2 hb hbd => ?_
  have hfS : ∀ {p q z}, plst (put (put S kk (.lst (known.map effPV))) f (.lst (ds.map deedPV))) a p q z f = some (.lst (ds.map deedPV)) := fun {p q z} => by unfold plst; rw [put_ne hfa, put_same]
  have hkS : ∀ {p q z}, plst (put (put S kk (.lst (known.map effPV))) f (.lst (ds.map deedPV))) a p q z kk = some (.lst (known.map effPV)) := fun {p q z} => by unfold plst; rw [put_ne hka, put_ne hkf, put_same]
  have hk1 : ∀ {p q z}, del (plst (put (put S kk (.lst (known.map effPV))) f (.lst (ds.map deedPV))) a p q z) kk f = some (.lst (ds.map deedPV)) := fun {p q z} => by rw [del_ne (Ne.symm hkf)]; exact hfS
  simp only [↓r_snx, ↓r_bc, ↓r_if, ↓r_tcmp, ↓r_comp, ↓r_iv, ↓r_var, ↓r_getS, ↓r_get0, r_srR hfS, List.map_cons, List.map_nil, ↓k_wipeS, ↓k_wipe0, ↓k_setS, ↓k_set0]
  refine compM_filterO (f := fun _ => PV.int 1) (p := fun d : Deed => decide (d.2.length = 40)) hfS (fun d hd acc Q E ha q => ?_) (by simp [sizeLine]; omega) ?_
  · rw [r_compF]
    have hdl : d.2.length ≤ 1000 := by
      obtain ⟨i, hi, e⟩ := List.mem_iff_getElem.mp hd
      have := (hb.each i d (by rw [List.getElem?_eq_getElem hi, e])).1
      omega
    have e40 : decide ((d.2.length : Int) = 40) = decide (d.2.length = 40) := decide_eq_decide.mpr (by omega)
    simp only [deedPV, ↓r_gt, List.length_cons, List.length_nil, lenTs, ↓r_gc, ↓r_g0, ↓r_gn, ↓k_setS, ↓k_set0, ↓r_c1, ↓r_tcmp, ↓r_callB, ↓r_lc, ↓r_l0, ↓r_var, ↓r_getS, ↓r_get0, ↓r_lenT, List.length_map, ↓r_int, ↓r_eqI, ↓r_trb, e40, ha, true_and, appK_eq]
    split
    · rename_i c; rw [if_pos c] at q; exact q
    · rename_i c; rw [if_neg c] at q; exact q
  · rw [List.nil_append]
    generalize hW : (ds.filter fun d => decide (d.2.length = 40)) = W
    have fW := fine_ones (xs := W)
    simp only [↓r_lst, ↓r_l0, ↓r_neL, fW, true_and]
    refine ⟨by simp [sizeLine], ?_⟩
    cases W with
    | nil =>
      have e : PV.eqv (.lst (([] : List Deed).map fun _ => PV.int 1)) (.lst []) = true := by simp [PV.eqv, PV.eqvL]
      simp only [e, Bool.not_true, ↓r_trb, Bool.false_eq_true, if_false, ↓r_b0, ↓r_snx, ↓r_bf, ↓r_frzS]
      refine frz_at (i := 0) (a := kk) rfl hkS ?_
      simp only [List.set_cons_zero, ↓r_bf, ↓r_frzS]
      refine frz_at (i := 0) (a := f) rfl hk1 ?_
      unfold plst
      rw [del_two hk0 hf0 hka hfa]
      simp only [List.set_cons_zero, ↓r_bc, ↓r_rt, ↓r_tup, ↓r_lc, ↓r_l0, ↓r_bin, ↓r_int, ↓x_call__law_draw_0, ↓x_call__law_of_0, ↓r_var, ↓r_getS, ↓r_get0, ↓x_cf__law_of_0, ↓x__law_ofT]
      refine ⟨by simp [sizeLine], ⟨by simp, by simp⟩, fun p4 q4 z4 v4 hv4 => ?_⟩
      obtain ⟨w, rfl, hw1, hw2⟩ : ∃ w : Int, v4 = .int w ∧ 1 ≤ w ∧ w ≤ 24 := by
        simp only [List.mem_cons, List.not_mem_nil, or_false] at hv4
        rcases hv4 with h | h | h <;> exact ⟨_, h, by omega, by omega⟩
      simp only [↓x_cf__law_draw_0, ↓x__law_draw]
      refine ⟨⟨by omega, by omega⟩, fun p5 q5 z5 v5 h5 h5' => ?_⟩
      simp only [↓r_add, ↓x__law_ofT]
      refine ⟨by simp [sizeLine], ⟨by simp, by simp⟩, fun p6 q6 z6 v6 hv6 => ?_⟩
      obtain ⟨w', rfl, hw1', hw2'⟩ : ∃ w : Int, v6 = .int w ∧ 1 ≤ w ∧ w ≤ 24 := by
        simp only [List.mem_cons, List.not_mem_nil, or_false] at hv6
        rcases hv6 with h | h | h <;> exact ⟨_, h, by omega, by omega⟩
      simp only [↓x_cf__law_draw_0, ↓x__law_draw]
      refine ⟨⟨by omega, by omega⟩, fun p7 q7 z7 v7 h7 h7' => ?_⟩
      simp only [↓r_add, ↓r_callT, ↓r_lc, ↓r_l0, ↓r_var, ↓r_getS, ↓r_get0, ↓r_Ttup, ↓r_srr, ↓r_ert]
      refine ⟨by simp [sizeLine], ?_⟩
      exact q p7 q7 z7 ⟨1 + v5, 1 + v7, ds⟩ ⟨⟨by show 1 ≤ 1 + v5; omega, by show 1 + v5 ≤ 24; omega⟩, ⟨by show 1 ≤ 1 + v7; omega, by show 1 + v7 ≤ 24; omega⟩, bd_ok hb hl2 ⟨by omega, by omega⟩ nd hg⟩
    | cons x W =>
      have e : PV.eqv (.lst ((x :: W).map fun _ => PV.int 1)) (.lst []) = false := by simp [PV.eqv, PV.eqvL]
      simp only [e, Bool.not_false, ↓r_trb, if_true, ↓r_bf, ↓r_frzS]
      refine frz_at (i := 0) (a := kk) rfl hkS ?_
      simp only [List.set_cons_zero, ↓r_bf, ↓r_frzS]
      refine frz_at (i := 0) (a := f) rfl hk1 ?_
      unfold plst
      rw [del_two hk0 hf0 hka hfa]
      simp only [List.set_cons_zero, ↓r_bc, ↓r_rt, ↓x_call__law_program_0_0, ↓r_lc, ↓r_l0, ↓r_var, ↓r_getS, ↓r_get0, ↓r_int, ↓x_cf__law_program_0_0]
      refine x_prg (S := S) (a := a) fun p4 q4 z4 P hP => ?_
      simp only [↓r_srr, ↓r_ert]
      exact q p4 q4 z4 P hP
end Dp.L

namespace Dp.L
open PySem PySem.Spec L2 Dp
open PyProof.Rows hiding St
theorem cut_any {α : Type} {xs : List α} {i : Nat} : cutL xs none (some (i : Int)) = xs.take i := by
  unfold cutL
  rw [HT.sIx_nat, HT.sIx_none, Nat.sub_zero, List.drop_zero]
  by_cases h : i ≤ xs.length
  · rw [Nat.min_eq_left h]
  · rw [Nat.min_eq_right (by omega), List.take_of_length_le (by omega), List.take_of_length_le (by omega)]
theorem cut_from {α : Type} {xs : List α} {i : Nat} : cutL xs (some (i : Int)) none = xs.drop i := by
  unfold cutL
  rw [HT.sIx_nat, HT.sIx_none]
  by_cases h : i ≤ xs.length
  · rw [Nat.min_eq_left h, List.take_of_length_le (by simp)]
  · rw [Nat.min_eq_right (by omega)]
    simp
    omega
theorem cut_last {α : Type} {init : List α} {d : α} : cutL (init ++ [d]) none (some (-1)) = init := by
  have e : ∀ d', HT.sIx (init ++ [d]).length d' (some (-1)) = init.length := fun d' => by
    show (if (-1 : Int) < 0 then ((-1 : Int) + ((init ++ [d]).length : Int)).toNat else min ((-1 : Int).toNat) (init ++ [d]).length) = init.length
    rw [if_pos (by omega), List.length_append, List.length_cons, List.length_nil]
    omega
  unfold cutL
  rw [e, HT.sIx_none, List.drop_zero, Nat.sub_zero]
  simp
theorem ix_last {α : Type} {f : α → PV} {init : List α} {d : α} {S : Stt} {Q : PV → Stt → Prop} {E : Exc → Stt → Prop} : (vIdx (.tup ((init ++ [d]).map f)) (.int (-1))).run S Q E = Q (f d) S := by
  rw [r_ixT]
  have hi : ixN ((init ++ [d]).map f).length (-1) = some init.length := by
    unfold ixN
    simp
    omega
  rw [r_at hi]
  simp
theorem look_parts {P : Prg} : lookPV P.ds = .tup [.lst ((lookP P.ds).1.map effPV), .lst ((lookP P.ds).2.map faultPV)] := rfl
theorem fine_faults {l : List Fault} : fine2 (.lst (l.map faultPV)) (.lst []) := by
  refine ⟨?_, by simp [PV.fine, PV.fineL]⟩
  simp only [PV.fine]
  refine fineL_all.mpr fun x hx => ?_
  obtain ⟨k, _, rfl⟩ := List.mem_map.mp hx
  exact fine_fault
theorem le_fault_by {p : Addr} : M.le (C_fault_by [.ref p]) (d_fault_by.den g [.ref p]) := by
  rintro S Q E ⟨P, a', b', c', o, hp, ha, q⟩
  rw [den_eq (body := c_fault_by) (env := [some (.ref p)]) rfl rfl]
  unfold c_fault_by
  simp
  refine ⟨⟨_, hp, ?_⟩, x_onPrg o hp ⟨ha, ?_⟩⟩
  · simpa using (look_lt (P := P) (a := a') (b := b') (c := c'))
  · simp [lookPV]
    rw [show (1 : Int) = ((1 : Nat) : Int) by rfl, cut_any, ← List.map_take]
    exact q
theorem take1 {l : List Fault} : l.take 1 = match l.head? with | some f => [f] | none => [] := by cases l <;> rfl
theorem x_fault_by {b : Addr} {P : Prg} {a' b' c' : PV} {S : Stt} {Q : PV → Stt → Prop} {E : Exc → Stt → Prop} (o : P.ok) (h : S b = some (.ins "Program" (fsP P a' b' c'))) (ha : a' = .tup [] ∨ a' = lookPV P.ds) (q : Q (.lst (((lookP P.ds).2.take 1).map faultPV)) (put S b (.ins "Program" (fsP P (lookPV P.ds) b' c')))) : (C_fault_by [.ref b]).run S Q E := x_onPrg o h ⟨ha, q⟩
theorem le_first_fault {p : Addr} : M.le (C_first_fault [.ref p]) (d_first_fault.den g [.ref p]) := by
  rintro S Q E ⟨P, a', b', c', o, hp, ha, q⟩
  have q : Q (ffPV (firstFault P.ds)) (put S p (.ins "Program" (fsP P (lookPV P.ds) b' c'))) := q
  rw [den_eq (body := c_first_fault) (env := [some (.ref p), none]) rfl rfl]
  unfold c_first_fault
  simp only [↓r_runB, ↓r_bc, ↓r_ex, ↓x_call_check_program_0, ↓r_lc, ↓r_l0, ↓r_var, ↓r_get0, ↓x_cf_check_program_0]
  refine x_onPrg o hp ?_
  simp only [↓r_ret, ↓r_snx, ↓r_bc, ↓r_asg, ↓x_call_fault_by_0, ↓r_lc, ↓r_l0, ↓r_var, ↓r_get0, ↓x_cf_fault_by_0]
  refine x_fault_by o hp ha ?_
  have f2 := fine_faults (l := (lookP P.ds).2.take 1)
  unfold firstFault at q
  rw [take1] at f2 ⊢
  cases e : (lookP P.ds).2.head? with
  | none =>
    rw [e] at q f2
    have e1 : PV.eqv (.lst (([] : List Fault).map faultPV)) (.lst []) = true := by simp [PV.eqv, PV.eqvL]
    simp only [↓r_gn, ↓k_setS, ↓k_set0, ↓r_snx, ↓r_bc, ↓r_rt, ↓r_ife, ↓r_tcmp, ↓r_var, ↓r_getS, ↓r_get0, ↓r_lst, ↓r_l0, ↓r_neL, f2, true_and, e1, Bool.not_true, ↓r_trb, Bool.false_eq_true, if_false, ↓r_non, ↓r_srr, ↓r_ert]
    exact ⟨by simp [sizeLine], q⟩
  | some f =>
    rw [e] at q f2
    have e1 : PV.eqv (.lst [faultPV f]) (.lst []) = false := by simp [PV.eqv, PV.eqvL]
    have f2 : fine2 (.lst [faultPV f]) (.lst []) := f2
    simp only [↓r_gn, ↓k_setS, ↓k_set0, ↓r_snx, ↓r_bc, ↓r_rt, ↓r_ife, ↓r_tcmp, ↓r_var, ↓r_getS, ↓r_get0, ↓r_lst, ↓r_l0, ↓r_neL, f2, true_and, e1, Bool.not_false, ↓r_trb, if_true, ↓r_ix, ↓r_int, List.map_cons, List.map_nil, ↓r_ixL0, ↓r_srr, ↓r_ert]
    exact ⟨by simp [sizeLine], q⟩
theorem le_is_let_by {p : Addr} : M.le (C_is_let_by [.ref p]) (d_is_let_by.den g [.ref p]) := by
  rintro S Q E ⟨P, a', b', c', o, hp, ha, q⟩
  have q : Q (.bl (firstFault P.ds).isNone) (put S p (.ins "Program" (fsP P (lookPV P.ds) b' c'))) := q
  rw [den_eq (body := c_is_let_by) (env := [some (.ref p)]) rfl rfl]
  unfold c_is_let_by
  simp only [↓r_runB, ↓r_bc, ↓r_ex, ↓x_call_check_program_0, ↓r_lc, ↓r_l0, ↓r_var, ↓r_get0, ↓x_cf_check_program_0]
  refine x_onPrg o hp ?_
  simp only [↓r_ret, ↓r_snx, ↓r_bc, ↓r_rt, ↓r_cmp, ↓x_call_fault_by_0, ↓r_lc, ↓r_l0, ↓r_var, ↓r_get0, ↓x_cf_fault_by_0]
  refine x_fault_by o hp ha ?_
  have f2 := fine_faults (l := (lookP P.ds).2.take 1)
  unfold firstFault at q
  rw [take1] at f2 ⊢
  cases e : (lookP P.ds).2.head? with
  | none =>
    rw [e] at q f2
    have e1 : PV.eqv (.lst (([] : List Fault).map faultPV)) (.lst []) = true := by simp [PV.eqv, PV.eqvL]
    simp only [↓r_lst, ↓r_l0, ↓r_eqL, f2, true_and, e1, ↓r_srr, ↓r_ert]
    exact ⟨by simp [sizeLine], q⟩
  | some f =>
    rw [e] at q f2
    have e1 : PV.eqv (.lst ([f].map faultPV)) (.lst []) = false := by simp [PV.eqv, PV.eqvL]
    simp only [↓r_lst, ↓r_l0, ↓r_eqL, f2, true_and, e1, ↓r_srr, ↓r_ert]
    exact ⟨by simp [sizeLine], q⟩
/-- a program with a word of its main deed taken out -/
theorem del_word {init : List Deed} {d : Deed} {ws : List Wd} (h : DeedsOk (init ++ [d])) (h1 : 1 ≤ ws.length ∧ ws.length ≤ 40) (h2 : ∀ x ∈ ws, x ∈ d.2) : DeedsOk (init ++ [(d.1, ws)]) := by
  have e : nms (init ++ [(d.1, ws)]) = nms (init ++ [d]) := by unfold nms; simp
  have hl := h.len
  refine ⟨by simpa using hl, by rw [e]; exact h.nd, fun i x hx => ?_⟩
  have et : nms ((init ++ [(d.1, ws)]).take i) = nms ((init ++ [d]).take i) := by rw [nms_take, nms_take, e]
  rw [et]
  by_cases hi : i < init.length
  · rw [List.getElem?_append_left hi] at hx
    exact h.each i x (by rw [List.getElem?_append_left hi]; exact hx)
  · rw [List.getElem?_append_right (by omega)] at hx
    have e0 : i - init.length = 0 := by
      by_cases e : i - init.length = 0
      · exact e
      · rw [List.getElem?_eq_none (by simp; omega)] at hx; cases hx
    rw [e0] at hx
    cases hx
    obtain ⟨k1, k2, k3⟩ := h.each i d (by rw [List.getElem?_append_right (by omega), e0]; rfl)
    exact ⟨k1, h1, fun y hy => k3 y (h2 y hy)⟩
section
variable {S : Stt} {Q : PV → Stt → Prop} {E : Exc → Stt → Prop}
theorem x__law_program {a : Addr} {p q z d m : Int} (h : 1 ≤ d ∧ d ≤ 6 ∧ 1 ≤ m ∧ m ≤ 20) (k : ∀ (p q z : Int) (P : Prg), P.ok → Q P.pv (plst S a p q z)) : (C__law_program [.ref a, .int d, .int m]).run (plst S a p q z) Q E := ⟨h, x_prg k⟩
theorem x__law_any_program {a : Addr} {p q z d m : Int} (h : 1 ≤ d ∧ d ≤ 6 ∧ 1 ≤ m ∧ m ≤ 20) (k : ∀ (p q z : Int) (P : Prg), P.ok → Q P.pv (plst S a p q z)) : (C__law_any_program [.ref a, .int d, .int m]).run (plst S a p q z) Q E := ⟨h, x_prg k⟩
theorem x__law_made {P : Prg} (o : P.ok) (k : ∀ b, S b = none → Q (.ref b) (put S b (.ins "Program" (fsP P (.tup []) (.tup []) (.tup []))))) : (C__law_made [P.pv]).run S Q E := ⟨P.ds, rfl, o.ds, ⟨o.w, o.h⟩, k⟩
theorem x__law_looked {P : Prg} (o : P.ok) : (C__law_looked [P.pv]).run S Q E = Q (.tup [.tup ((lookP P.ds).1.map effPV), ffPV (firstFault P.ds)]) S := x_onDeeds o.ds
theorem x_effects {b : Addr} {P : Prg} {a' b' c' : PV} (o : P.ok) (h : S b = some (.ins "Program" (fsP P a' b' c'))) (ha : a' = .tup [] ∨ a' = lookPV P.ds) (q : Q (.tup ((lookP P.ds).1.map effPV)) (put S b (.ins "Program" (fsP P (lookPV P.ds) b' c')))) : (C_effects [.ref b]).run S Q E := x_onPrg o h ⟨ha, q⟩
theorem x_first_fault {b : Addr} {P : Prg} {a' b' c' : PV} (o : P.ok) (h : S b = some (.ins "Program" (fsP P a' b' c'))) (ha : a' = .tup [] ∨ a' = lookPV P.ds) (q : Q (ffPV (firstFault P.ds)) (put S b (.ins "Program" (fsP P (lookPV P.ds) b' c')))) : (C_first_fault [.ref b]).run S Q E := x_onPrg o h ⟨ha, q⟩
theorem x_is_let_by {b : Addr} {P : Prg} {a' b' c' : PV} (o : P.ok) (h : S b = some (.ins "Program" (fsP P a' b' c'))) (ha : a' = .tup [] ∨ a' = lookPV P.ds) (q : Q (.bl (firstFault P.ds).isNone) (put S b (.ins "Program" (fsP P (lookPV P.ds) b' c')))) : (C_is_let_by [.ref b]).run S Q E := x_onPrg o h ⟨ha, q⟩
end
theorem flat_ff {f : Option Fault} {n : Nat} : flat (n + 1) (ffPV f) = true := by
  cases f with
  | none => simp [ffPV, flat]
  | some f =>
    obtain ⟨i, k, b⟩ := f
    cases b <;> simp [ffPV, faultPV, flat] <;> decide +kernel
theorem none_in {l : List Eff} (h : ∀ e ∈ l, e ≠ none) : ((l.map effPV).any fun y => PV.eqv y .non) = false := by
  rw [List.any_eq_false]
  intro x hx
  obtain ⟨e, he, rfl⟩ := List.mem_map.mp hx
  cases e with
  | none => exact absurd rfl (h _ he)
  | some p => simp [effPV, PV.eqv]
theorem fine_none {l : List Eff} : fine2 .non (.tup (l.map effPV)) := by
  refine ⟨by simp [PV.fine], ?_⟩
  simp only [PV.fine]
  refine fineL_all.mpr fun x hx => ?_
  obtain ⟨k, _, rfl⟩ := List.mem_map.mp hx
  exact fine_eff
theorem le__law_right {a : Addr} : M.le (C__law_right [.ref a]) (d__law_right.den g [.ref a]) := by
  rintro S Q E ⟨⟨xs, ha, ⟨p, q0, z, e⟩⟩, q⟩
  subst e
  rw [den_eq (body := c__law_right) (env := [some (.ref a), none, none, none, none, none, none]) rfl rfl]
  unfold c__law_right
  rw [← put_id ha]
  simp only [↓r_runB, ↓r_bc, ↓r_loop, ↓r_ir, ↓r_lc, ↓r_l0, ↓r_int, ↓r_rg1, lenL, List.length_cons, List.length_nil]
  refine ⟨trivial, by unfold inRng; omega, ?_⟩
  refine forM_inv (fun env S' => ∃ e1 e2 e3 e4 e5 e6 T p q z, env = [some (.ref a), e1, e2, e3, e4, e5, e6] ∧ S' = plst T a p q z) (h := fun i : Nat => PV.int (0 + (i : Int))) (ys := List.range (8 : Int).toNat) ?_ ⟨_, _, _, _, _, _, _, _, _, _, rfl, rfl⟩ ?_
  · rintro lap _ env S1 Q E ⟨e1, e2, e3, e4, e5, e6, T, p, q, z, rfl, rfl⟩ k
    have rest : ∀ (p q z : Int) (P : Prg) (e3 e4 : Option PV), P.ok → (dB g (.cons (.par2 5 6 (.cons (.call i__law_made ⟨1, [], [0]⟩ (.cons (.var 2) .nil) .nil) (.cons (.ix (.call i__law_looked ⟨1, [], [0]⟩ (.cons (.var 2) .nil) .nil) (.int 1)) .nil))) (.cons (.ifs (.nt (.tv (.call i__law_same ⟨2, [], [0, 1]⟩ (.cons (.tup (.cons (.call i_first_fault ⟨1, [], [0]⟩ (.cons (.var 5) .nil) .nil) (.cons (.call i_first_fault ⟨0, ["program"], [0]⟩ .nil (.cons (.var 5) .nil)) (.cons (.call i_is_let_by ⟨1, [], [0]⟩ (.cons (.var 5) .nil) .nil) (.cons (.call i_is_let_by ⟨0, ["program"], [0]⟩ .nil (.cons (.var 5) .nil)) .nil))))) (.cons (.tup (.cons (.var 6) (.cons (.var 6) (.cons (.cmp .isN (.var 6) .non) (.cons (.cmp .isN (.var 6) .non) .nil))))) .nil)) .nil))) (.cons (.ret (.bl false)) .nil) .nil) (.cons (.ifs (.or (.and (.cmp .isN (.var 6) .non) (.b1 (.cmp .isin .non (.call i_effects ⟨1, [], [0]⟩ (.cons (.var 5) .nil) .nil)))) (.b1 (.and (.cmp .isN (.var 6) .non) (.b1 (.cmp .ne (.ix (.ix (.call i_effects ⟨1, [], [0]⟩ (.cons (.var 5) .nil) .nil) (.neg (.int 1))) (.int 0)) (.int 0)))))) (.cons (.ret (.bl false)) .nil) .nil) .nil))) [some (.ref a), some (.int (0 + (lap : Int))), some P.pv, e3, e4, e5, e6]).run (plst T a p q z) (fun r S => Q r S) E := by
      intro p q z P e3 e4 o
      have hlen := o.ds.len
      simp only [↓r_bc, ↓r_par2, ↓r_lc, ↓r_l0, ↓x_call__law_made_0, ↓r_var, ↓r_getS, ↓r_get0, ↓x_cf__law_made_0]
      refine x__law_made o fun b hb => ?_
      have hba : b ≠ a := fun z => by rw [z] at hb; unfold plst at hb; rw [put_same] at hb; cases hb
      simp only [↓r_ix, ↓x_call__law_looked_0, ↓r_lc, ↓r_l0, ↓r_var, ↓r_getS, ↓r_get0, ↓x_cf__law_looked_0, x__law_looked o, ↓r_int, ↓r_ixT1, ↓r_asg2, ↓k_setS, ↓k_set0, ↓r_snx, ↓r_bc, ↓r_if, ↓r_tnt, ↓r_ttv, ↓x_call__law_same_0, ↓r_tup, ↓x_call_first_fault_0, ↓x_cf_first_fault_0, ↓x_call_first_fault_1, ↓x_cf_first_fault_1, ↓r_lc, ↓r_l0, ↓r_var, ↓r_getS, ↓r_get0]
      refine x_first_fault o put_same (.inl rfl) ?_
      rw [put_put]
      try simp only [↓x_call_first_fault_0, ↓x_cf_first_fault_0, ↓x_call_first_fault_1, ↓r_l0, ↓r_lc, ↓r_var, ↓r_getS, ↓r_get0, ↓x_cf_first_fault_1]
      refine x_first_fault o put_same (.inr rfl) ?_
      rw [put_put]
      try simp only [↓x_call_is_let_by_0, ↓x_call_is_let_by_1, ↓r_l0, ↓r_lc, ↓r_var, ↓r_getS, ↓r_get0, ↓x_cf_is_let_by_0, ↓x_cf_is_let_by_1]
      refine x_is_let_by o put_same (.inr rfl) ?_
      rw [put_put]
      try simp only [↓x_call_is_let_by_0, ↓x_call_is_let_by_1, ↓r_l0, ↓r_lc, ↓r_var, ↓r_getS, ↓r_get0, ↓x_cf_is_let_by_0, ↓x_cf_is_let_by_1]
      refine x_is_let_by o put_same (.inr rfl) ?_
      rw [put_put]
      simp only [List.length_cons, List.length_nil, ↓r_cmp, ↓r_var, ↓r_getS, ↓r_get0, ↓r_non, ↓r_isN, isNon_ff]
      refine ⟨by simp [sizeLine], by simp [sizeLine], ?_⟩
      simp only [↓x_cf__law_same_0]
      have fin : ∀ (S' : Stt), S' = put (plst T a p q z) b (.ins "Program" (fsP P (lookPV P.ds) (.tup []) (.tup []))) → Q (.nx [some (.ref a), some (.int (0 + (lap : Int))), some P.pv, e3, e4, some (.ref b), some (ffPV (firstFault P.ds))]) S' := fun S' hS' => by
        subst hS'
        refine k _ _ ⟨_, _, _, _, _, _, put T b (.ins "Program" (fsP P (lookPV P.ds) (.tup []) (.tup []))), p, q, z, rfl, ?_⟩
        exact put_comm (Ne.symm hba)
      refine ⟨⟨rfl, ?_⟩, ?_⟩
      · have h1 := flat_ff (f := firstFault P.ds) (n := 1)
        simp only [flat, List.length_cons, List.length_nil, List.all_cons, List.all_nil, Bool.and_true, Bool.and_eq_true, decide_eq_true_eq, h1]
        omega
      · simp only [↓r_trb, Bool.not_true, Bool.false_eq_true, if_false, ↓r_b0, ↓r_snx, ↓r_bc, ↓r_if, ↓r_tor, ↓r_tand, ↓r_tb1, ↓r_tcmp, ↓r_var, ↓r_getS, ↓r_get0, ↓r_non, ↓r_isN, isNon_ff]
        cases hff : firstFault P.ds with
        | some f =>
          rw [hff] at fin
          simp only [Option.isNone_some, Bool.false_eq_true, if_false, ↓r_b0, ↓r_snx]
          exact fin _ rfl
        | none =>
          rw [hff] at fin
          have hnil : (lookP P.ds).2 = [] := by
            unfold firstFault at hff
            cases e : (lookP P.ds).2 with
            | nil => rfl
            | cons x y => rw [e] at hff; cases hff
          obtain ⟨c1, c2⟩ := look_clean o.ds (ds := P.ds) (i := 0) (told := []) (fs := []) rfl rfl (by simp) hnil
          obtain ⟨w, hw⟩ := c2 (fun e => by rw [e] at hlen; simp at hlen)
          have c1 : ∀ e ∈ (lookP P.ds).1, e ≠ none := c1
          have hw : (lookP P.ds).1.getLast? = some (some (0, w)) := hw
          obtain ⟨init, hi⟩ : ∃ init, (lookP P.ds).1 = init ++ [some (0, w)] := List.getLast?_eq_some_iff.mp hw
          simp only [Option.isNone_none, if_true, ↓x_call_effects_0, ↓r_lc, ↓r_l0, ↓r_var, ↓r_getS, ↓r_get0, ↓x_cf_effects_0]
          refine x_effects o put_same (.inr rfl) ?_
          rw [put_put]
          simp only [↓r_inT, none_in c1, Bool.false_xor, ↓r_trb, Bool.false_eq_true, if_false, if_true]
          refine ⟨fine_none, ?_⟩
          simp only [↓r_trb, Bool.false_eq_true, if_false, if_true, ↓r_ix, ↓x_call_effects_0, ↓r_lc, ↓r_l0, ↓r_var, ↓r_getS, ↓r_get0, ↓x_cf_effects_0]
          refine x_effects o put_same (.inr rfl) ?_
          rw [put_put]
          simp only [↓r_neg, ↓r_int, ↓r_vneg, hi, ix_last, effPV, ↓r_ixT0, ↓r_neI, decide_true, Bool.not_true, ↓r_trb, Bool.false_eq_true, if_false, ↓r_b0, ↓r_snx]
          exact fin _ rfl
    have mid : ∀ (p q z : Int) (P : Prg), P.ok → (dB g (.cons (.asg (.name 3) (.ix (.ix (.ix (.var 2) (.int 2)) (.neg (.int 1))) (.int 1))) (.cons (.ifs (.and (.cmp .eq (.var 1) (.int 1)) (.b1 (.cmp .gt (.callB .len (.cons (.var 3) .nil)) (.int 1)))) (.cons (.asg (.name 4) (.call i__law_draw ⟨2, [], [0, 1]⟩ (.cons (.var 0) (.cons (.callB .len (.cons (.var 3) .nil)) .nil)) .nil)) (.cons (.asg (.name 2) (.bin .add (.sl (.var 2) .none (.some (.int 2))) (.tup (.cons (.bin .add (.sl (.ix (.var 2) (.int 2)) .none (.some (.neg (.int 1)))) (.tup (.cons (.tup (.cons (.ix (.ix (.ix (.var 2) (.int 2)) (.neg (.int 1))) (.int 0)) (.cons (.bin .add (.sl (.var 3) .none (.some (.var 4))) (.sl (.var 3) (.some (.bin .add (.var 4) (.int 1))) .none)) .nil))) .nil))) .nil)))) .nil)) .nil) (.cons (.par2 5 6 (.cons (.call i__law_made ⟨1, [], [0]⟩ (.cons (.var 2) .nil) .nil) (.cons (.ix (.call i__law_looked ⟨1, [], [0]⟩ (.cons (.var 2) .nil) .nil) (.int 1)) .nil))) (.cons (.ifs (.nt (.tv (.call i__law_same ⟨2, [], [0, 1]⟩ (.cons (.tup (.cons (.call i_first_fault ⟨1, [], [0]⟩ (.cons (.var 5) .nil) .nil) (.cons (.call i_first_fault ⟨0, ["program"], [0]⟩ .nil (.cons (.var 5) .nil)) (.cons (.call i_is_let_by ⟨1, [], [0]⟩ (.cons (.var 5) .nil) .nil) (.cons (.call i_is_let_by ⟨0, ["program"], [0]⟩ .nil (.cons (.var 5) .nil)) .nil))))) (.cons (.tup (.cons (.var 6) (.cons (.var 6) (.cons (.cmp .isN (.var 6) .non) (.cons (.cmp .isN (.var 6) .non) .nil))))) .nil)) .nil))) (.cons (.ret (.bl false)) .nil) .nil) (.cons (.ifs (.or (.and (.cmp .isN (.var 6) .non) (.b1 (.cmp .isin .non (.call i_effects ⟨1, [], [0]⟩ (.cons (.var 5) .nil) .nil)))) (.b1 (.and (.cmp .isN (.var 6) .non) (.b1 (.cmp .ne (.ix (.ix (.call i_effects ⟨1, [], [0]⟩ (.cons (.var 5) .nil) .nil) (.neg (.int 1))) (.int 0)) (.int 0)))))) (.cons (.ret (.bl false)) .nil) .nil) .nil))))) [some (.ref a), some (.int (0 + (lap : Int))), some P.pv, e3, e4, e5, e6]).run (plst T a p q z) (fun r S => Q r S) E := by
      intro p q z P o
      have hlen := o.ds.len
      obtain ⟨init, d, hds⟩ : ∃ init d, P.ds = init ++ [d] := by
        rcases List.eq_nil_or_concat P.ds with h | ⟨i, d, h⟩
        · rw [h] at hlen; simp at hlen
        · exact ⟨i, d, by rw [h, List.concat_eq_append]⟩
      have hpv : P.pv = .tup [.int P.w, .int P.h, .tup ((init ++ [d]).map deedPV)] := by unfold Prg.pv; rw [hds]
      rw [hds] at hlen
      have hd := o.ds
      rw [hds] at hd
      obtain ⟨k1, k2, k3⟩ := hd.each init.length d (by simp)
      simp only [↓r_bc, ↓r_asg, ↓r_ix, ↓r_var, ↓r_getS, ↓r_get0, hpv, ↓r_int, ↓r_ixT2, ↓r_neg, ↓r_vneg, ix_last, deedPV, ↓r_ixT1, ↓r_gn, ↓k_setS, ↓k_set0, ↓r_snx, ↓r_if, ↓r_tand, ↓r_tb1, ↓r_tcmp, ↓r_eqI, ↓r_trb, ↓r_callB, ↓r_lc, ↓r_l0, ↓r_lenT, List.length_map, ↓r_gt']
      split
      · split
        · rename_i c1 c2
          have hl2 : 1 < d.2.length := by have := of_decide_eq_true c2; omega
          simp only [↓r_bc, ↓r_asg, ↓x_call__law_draw_0, ↓r_lc, ↓r_l0, ↓r_var, ↓r_getS, ↓r_get0, ↓r_callB, ↓r_lenT, List.length_map, ↓x_cf__law_draw_0, ↓x__law_draw]
          refine ⟨⟨by omega, by omega⟩, fun p1 q1 z1 v h1 h2 => ?_⟩
          obtain ⟨n, rfl⟩ : ∃ n : Nat, v = (n : Int) := ⟨v.toNat, by omega⟩
          have cut2 : cutL [PV.int P.w, PV.int P.h, PV.tup ((init ++ [d]).map deedPV)] none (some 2) = [PV.int P.w, PV.int P.h] := rfl
          have cutL1 : cutL ((init ++ [d]).map deedPV) none (some (-1)) = init.map deedPV := by rw [List.map_append]; exact cut_last
          have cuta : cutL (d.2.map Wd.pv) none (some (n : Int)) = (d.2.take n).map Wd.pv := by rw [cut_any, List.map_take]
          have cutb : cutL (d.2.map Wd.pv) (some ((n : Int) + 1)) none = (d.2.drop (n + 1)).map Wd.pv := by rw [show ((n : Int) + 1) = ((n + 1 : Nat) : Int) by omega, cut_from, List.map_drop]
          simp only [↓r_gn, ↓k_setS, ↓k_set0, ↓r_snx, ↓r_bc, ↓r_asg, ↓r_bin, ↓r_sl, ↓r_o0, ↓r_o1, ↓r_var, ↓r_getS, ↓r_get0, ↓r_int, ↓r_prt, ↓r_slT, cut2, ↓r_tup, ↓r_lc, ↓r_l0, ↓r_ix, ↓r_ixT2, ↓r_neg, ↓r_vneg, cutL1, ix_last, deedPV, ↓r_ixT0, cuta, ↓r_add, cutb, ↓r_addT, catK_eq]
          have hlen' : init.length ≤ 12 := by simp at hlen; omega
          refine ⟨by simp [sizeLine]; omega, by simp [sizeLine], by simp [sizeLine], by simp [sizeLine]; omega, by simp [sizeLine], by simp [sizeLine], ?_⟩
          simp only [↓r_gn, ↓k_setS, ↓k_set0, ↓r_snx, ↓r_b0]
          have o' : (⟨P.w, P.h, init ++ [(d.1, d.2.take n ++ d.2.drop (n + 1))]⟩ : Prg).ok := ⟨o.w, o.h, del_word hd ⟨by simp; omega, by simp; omega⟩ fun x hx => by
            rcases List.mem_append.mp hx with hx | hx
            · exact List.take_sublist _ _ |>.subset hx
            · exact List.drop_sublist _ _ |>.subset hx⟩
          have := rest p1 q1 z1 _ (some (.tup (d.2.map Wd.pv))) (some (.int n)) o'
          have e : (⟨P.w, P.h, init ++ [(d.1, d.2.take n ++ d.2.drop (n + 1))]⟩ : Prg).pv = .tup ([.int P.w, .int P.h] ++ [.tup (init.map deedPV ++ [.tup [.str d.1, .tup ((d.2.take n).map Wd.pv ++ (d.2.drop (n + 1)).map Wd.pv)]])]) := by simp [Prg.pv, deedPV]
          rw [e] at this
          exact this
        · simp only [↓r_b0, ↓r_snx]
          have := rest p q z P (some (.tup (d.2.map Wd.pv))) e4 o
          rw [hpv] at this
          exact this
      · simp only [↓r_b0, ↓r_snx]
        have := rest p q z P (some (.tup (d.2.map Wd.pv))) e4 o
        rw [hpv] at this
        exact this
    rw [r_turn, r_gn]
    simp only [↓k_setS, ↓k_set0, ↓r_bc, ↓r_asg, ↓r_ife, ↓r_tcmp, ↓r_var, ↓r_getS, ↓r_get0, ↓r_int, ↓r_lt, ↓r_trb]
    split
    · simp only [↓x_call__law_program_0, ↓r_lc, ↓r_l0, ↓r_var, ↓r_getS, ↓r_get0, ↓r_int, ↓x_cf__law_program_0]
      refine x__law_program ⟨by omega, by omega, by omega, by omega⟩ fun p q z P o => ?_
      simp only [↓r_gn, ↓k_setS, ↓k_set0, ↓r_snx]
      exact mid p q z P o
    · simp only [↓x_call__law_any_program_0, ↓r_lc, ↓r_l0, ↓r_var, ↓r_getS, ↓r_get0, ↓r_int, ↓x_cf__law_any_program_0]
      refine x__law_any_program ⟨by omega, by omega, by omega, by omega⟩ fun p q z P o => ?_
      simp only [↓r_gn, ↓k_setS, ↓k_set0, ↓r_snx]
      exact mid p q z P o
  · rintro env S1 ⟨e1, e2, e3, e4, e5, e6, T, p, q', z, rfl, rfl⟩
    simp only [↓r_snx, ↓r_bc, ↓r_rt, ↓r_bl, ↓r_srr, ↓r_ert]
    exact q _
theorem le_law {ns : List Int} : M.le (C_law [.loc (ns.map .int)]) (d_law.den g [.loc (ns.map .int)]) := by
  rintro S Q E ⟨_, q⟩
  rw [den_eq (body := c_law) (env := [some (.loc (ns.map .int)), none]) rfl rfl]
  unfold c_law
  simp only [↓r_runB, ↓r_bc, ↓r_rt, ↓r_callB, ↓r_lc, ↓r_l0, ↓r_comp, ↓r_ir, ↓r_int, ↓r_var, ↓r_get0, ↓r_getS, ↓r_lenC, List.length_map, ↓r_min2, ↓r_max2, ↓r_rg1, lenL, List.length_cons, List.length_nil, List.map_cons, List.map_nil, ↓k_wipeS, ↓k_wipe0, ↓k_setS, ↓k_set0]
  refine ⟨trivial, by unfold inRng; omega, ?_⟩
  generalize hN : (max (1 : Int) (min (ns.length : Int) 3)).toNat = N
  have hN3 : N ≤ 3 := by omega
  have e : rngItems 0 N = (List.range N).map fun i : Nat => PV.int (0 + (i : Int)) := rfl
  rw [e]
  have key : ∀ (ys : List Nat) (acc : List PV) (S : Stt) (Q : List PV → Stt → Prop) (E : Exc → Stt → Prop), (∀ y ∈ ys, y < 3) → acc.length + ys.length ≤ 10 → (∀ S', Q (acc ++ ys.map fun _ => PV.bl true) S') →
      (compM .fix ((compF g (.call i__law_right ⟨1, [], [0]⟩ (.cons (.call i__law_bowl ⟨2, [], [0, 1]⟩ (.cons (.var 0) (.cons (.var 1) .nil)) .nil) .nil) .nil) (.name 1) .none) [some (.loc (ns.map .int)), none]) (ys.map fun i : Nat => PV.int (0 + (i : Int))) acc).run S Q E := by
    intro ys
    induction ys with
    | nil => intro acc S Q E _ _ k; simpa using k S
    | cons y ys ih =>
      intro acc S Q E hy hl k
      simp only [List.length_cons] at hl
      have hy3 := hy y (by simp)
      rw [List.map_cons, r_cmS, r_compF]
      simp only [↓r_gn, ↓k_setS, ↓k_set0, ↓r_c0, ↓x_call__law_right_0, ↓r_lc, ↓r_l0, ↓x_call__law_bowl_0, ↓r_var, ↓r_getS, ↓r_get0, ↓x_cf__law_bowl_0]
      rw [if_pos trivial]
      refine ⟨⟨⟨ns, rfl⟩, by omega, by omega⟩, fun ys' hp b hb => ?_⟩
      simp only [↓x_cf__law_right_0]
      refine ⟨⟨ys', put_same, hp⟩, fun S' => ⟨by unfold sizeLine; omega, ?_⟩⟩
      rw [appK_eq]
      exact ih _ S' Q E (fun z hz => hy z (by simp [hz])) (by simp; omega) fun S'' => by simpa using k S''
  refine key (List.range N) [] S _ _ (fun y hy => by have := List.mem_range.mp hy; omega) (by simp; omega) fun S' => ?_
  rw [List.nil_append, List.map_const', r_allL, blsT]
  simpa using q S'
end Dp.L

namespace Dp.L
open PySem PySem.Spec L2 Dp
open PyProof.Rows hiding St
theorem hm_law : ∀ args, args.length = d_law.np → M.le (C_law args) (d_law.den g args) := fun args _ => by
  unfold C_law; split
  · intro S Q E q
    obtain ⟨⟨ns, rfl⟩, q⟩ := q
    exact le_law S Q E ⟨⟨ns, rfl⟩, q⟩
  · exact le_stuck
theorem law_end : ∀ ns : List Int, ns.length ≤ 63 → (∀ z ∈ ns, Builtin.Int.intBits z ≤ 1048576) → M.le endT (C_law [.loc (ns.map .int)]) := fun ns _ _ S Q E q => ⟨⟨ns, rfl⟩, q⟩
theorem hm__law_right : ∀ args, args.length = d__law_right.np → M.le (C__law_right args) (d__law_right.den g args) := fun args _ => by
  unfold C__law_right; split
  · exact le__law_right
  · exact le_stuck
theorem hm_is_let_by : ∀ args, args.length = d_is_let_by.np → M.le (C_is_let_by args) (d_is_let_by.den g args) := fun args _ => by
  unfold C_is_let_by; split
  · exact le_is_let_by
  · exact le_stuck
theorem hm_fault_by : ∀ args, args.length = d_fault_by.np → M.le (C_fault_by args) (d_fault_by.den g args) := fun args _ => by
  unfold C_fault_by; split
  · exact le_fault_by
  · exact le_stuck
theorem hm_Program__look_told : ∀ args, args.length = d_Program__look_told.np → M.le (C_Program__look_told args) (d_Program__look_told.den g args) := fun args _ => by
  unfold C_Program__look_told; split
  · exact le_Program__look_told
  · exact le_stuck
theorem hm_looked : ∀ args, args.length = d_looked.np → M.le (C_looked args) (d_looked.den g args) := fun args _ => by
  unfold C_looked; split
  · exact le_looked
  · exact le_stuck
theorem hm_Program__deeds : ∀ args, args.length = d_Program__deeds.np → M.le (C_Program__deeds args) (d_Program__deeds.den g args) := fun args _ => by
  unfold C_Program__deeds; split
  · exact le_Program__deeds
  · exact le_stuck
theorem hm_looked_at : ∀ args, args.length = d_looked_at.np → M.le (C_looked_at args) (d_looked_at.den g args) := fun args _ => by
  unfold C_looked_at; split
  · exact le_looked_at
  · exact le_stuck
theorem hm_is_uneven : ∀ args, args.length = d_is_uneven.np → M.le (C_is_uneven args) (d_is_uneven.den g args) := fun args _ => by
  unfold C_is_uneven; split
  · exact le_is_uneven
  · exact le_stuck
theorem hm_called : ∀ args, args.length = d_called.np → M.le (C_called args) (d_called.den g args) := fun args _ => by
  unfold C_called; split
  · exact le_called
  · exact le_stuck
theorem hm_index_of : ∀ args, args.length = d_index_of.np → M.le (C_index_of args) (d_index_of.den g args) := fun args _ => by
  unfold C_index_of; split
  · exact le_index_of
  · exact le_stuck
theorem hm_is_aside : ∀ args, args.length = d_is_aside.np → M.le (C_is_aside args) (d_is_aside.den g args) := fun args _ => by
  unfold C_is_aside; split
  · exact le_is_aside
  · exact le_stuck
theorem hm_effect_of : ∀ args, args.length = d_effect_of.np → M.le (C_effect_of args) (d_effect_of.den g args) := fun args _ => by
  unfold C_effect_of; split
  · exact le_effect_of
  · exact le_stuck
theorem hm_is_whole : ∀ args, args.length = d_is_whole.np → M.le (C_is_whole args) (d_is_whole.den g args) := fun args _ => by
  unfold C_is_whole; split
  · exact le_is_whole
  · exact le_is_wholeS
  · exact le_is_wholeT
  · exact le_stuck
theorem hm_behind : ∀ args, args.length = d_behind.np → M.le (C_behind args) (d_behind.den g args) := fun args _ => by
  unfold C_behind; split
  · exact le_behind
  · exact le_stuck
theorem hm_check_program : ∀ args, args.length = d_check_program.np → M.le (C_check_program args) (d_check_program.den g args) := fun args _ => by
  unfold C_check_program; split
  · exact le_check_program
  · exact le_stuck
theorem hm_first_fault : ∀ args, args.length = d_first_fault.np → M.le (C_first_fault args) (d_first_fault.den g args) := fun args _ => by
  unfold C_first_fault; split
  · exact le_first_fault
  · exact le_stuck
theorem hm_effects : ∀ args, args.length = d_effects.np → M.le (C_effects args) (d_effects.den g args) := fun args _ => by
  unfold C_effects; split
  · exact le_effects
  · exact le_stuck
theorem hm__law_same_0 : ∀ args, args.length = d__law_same_0.np → M.le (C__law_same_0 args) (d__law_same_0.den g args) := fun args _ => by
  unfold C__law_same_0 sameC; split
  all_goals first | exact le__law_same_0 | exact le_stuck
theorem hm__law_same_1 : ∀ args, args.length = d__law_same_1.np → M.le (C__law_same_1 args) (d__law_same_1.den g args) := fun args _ => by
  unfold C__law_same_1 sameC; split
  all_goals first | exact le__law_same_1 | exact le_stuck
theorem hm__law_same_2 : ∀ args, args.length = d__law_same_2.np → M.le (C__law_same_2 args) (d__law_same_2.den g args) := fun args _ => by
  unfold C__law_same_2 sameC; split
  all_goals first | exact le__law_same_2 | exact le_stuck
theorem hm__law_same : ∀ args, args.length = d__law_same.np → M.le (C__law_same args) (d__law_same.den g args) := fun args _ => by
  unfold C__law_same sameC; split
  all_goals first | exact le__law_same | exact le_stuck
theorem hm__law_program_0 : ∀ args, args.length = d__law_program_0.np → M.le (C__law_program_0 args) (d__law_program_0.den g args) := fun args _ => by
  unfold C__law_program_0; split
  · exact le__law_program_0
  · exact le_stuck
theorem hm__law_program : ∀ args, args.length = d__law_program.np → M.le (C__law_program args) (d__law_program.den g args) := fun args _ => by
  unfold C__law_program; split
  · exact le__law_program
  · exact le_stuck
theorem hm__law_words : ∀ args, args.length = d__law_words.np → M.le (C__law_words args) (d__law_words.den g args) := fun args _ => by
  unfold C__law_words; split
  · exact le__law_words
  · exact le_stuck
theorem hm__law_plain_effect : ∀ args, args.length = d__law_plain_effect.np → M.le (C__law_plain_effect args) (d__law_plain_effect.den g args) := fun args _ => by
  unfold C__law_plain_effect; split
  · exact le__law_plain_effectI
  · exact le__law_plain_effectS
  · exact le_stuck
theorem hm__law_of : ∀ args, args.length = d__law_of.np → M.le (C__law_of args) (d__law_of.den g args) := fun args _ => by
  unfold C__law_of; split
  · exact le__law_ofT
  · exact le__law_ofL
  · exact le__law_ofR
  · exact le_stuck
theorem hm__law_draw : ∀ args, args.length = d__law_draw.np → M.le (C__law_draw args) (d__law_draw.den g args) := fun args _ => by
  unfold C__law_draw; split
  · exact le__law_draw
  · exact le_stuck
theorem hm__law_number : ∀ args, args.length = d__law_number.np → M.le (C__law_number args) (d__law_number.den g args) := fun args _ => by
  unfold C__law_number; split
  · exact le__law_number
  · exact le_stuck
theorem hm__law_names : ∀ args, args.length = d__law_names.np → M.le (C__law_names args) (d__law_names.den g args) := fun args _ => by
  unfold C__law_names; split
  · exact le__law_names
  · exact le_stuck
theorem hm__law_own : ∀ args, args.length = d__law_own.np → M.le (C__law_own args) (d__law_own.den g args) := fun args _ => by
  unfold C__law_own; split
  · exact le__law_own
  · exact le_stuck
theorem hm__law_effect : ∀ args, args.length = d__law_effect.np → M.le (C__law_effect args) (d__law_effect.den g args) := fun args _ => by
  unfold C__law_effect; split
  · exact le__law_effect
  · exact le_stuck
theorem hm__law_effect_l : ∀ args, args.length = d__law_effect_l.np → M.le (C__law_effect_l args) (d__law_effect_l.den g args) := fun args _ => by
  unfold C__law_effect_l; split
  · exact le__law_effect_l
  · exact le_stuck
theorem hm__law_made : ∀ args, args.length = d__law_made.np → M.le (C__law_made args) (d__law_made.den g args) := fun args _ => by
  unfold C__law_made; split
  · exact le__law_made
  · exact le_stuck
theorem hm_Program____init__ : ∀ args, args.length = d_Program____init__.np → M.le (C_Program____init__ args) (d_Program____init__.den g args) := fun args _ => by
  unfold C_Program____init__; split
  · exact le_Program____init__
  · exact le_stuck
theorem hm_wrong_in_deeds : ∀ args, args.length = d_wrong_in_deeds.np → M.le (C_wrong_in_deeds args) (d_wrong_in_deeds.den g args) := fun args _ => by
  unfold C_wrong_in_deeds; split
  · exact le_wrong_in_deeds
  · exact le_stuck
theorem hm_is_deed : ∀ args, args.length = d_is_deed.np → M.le (C_is_deed args) (d_is_deed.den g args) := fun args _ => by
  unfold C_is_deed; split
  · exact le_is_deed
  · exact le_stuck
theorem hm_is_word_by : ∀ args, args.length = d_is_word_by.np → M.le (C_is_word_by args) (d_is_word_by.den g args) := fun args _ => by
  unfold C_is_word_by; split
  · exact le_is_word_byI
  · exact le_is_word_byS
  · exact le_is_word_byT
  · exact le_stuck
theorem hm_is_one_of : ∀ args, args.length = d_is_one_of.np → M.le (C_is_one_of args) (d_is_one_of.den g args) := fun args _ => by
  unfold C_is_one_of; split
  · exact le_is_one_ofS
  · exact le_is_one_ofT
  · exact le_stuck
theorem hm_is_number : ∀ args, args.length = d_is_number.np → M.le (C_is_number args) (d_is_number.den g args) := fun args _ => by
  unfold C_is_number; split
  · exact le_is_number
  · exact le_is_numberS
  · exact le_is_numberT
  · exact le_stuck
theorem hm_is_between : ∀ args, args.length = d_is_between.np → M.le (C_is_between args) (d_is_between.den g args) := fun args _ => by
  unfold C_is_between; split
  · exact le_is_between
  · exact le_is_betweenS
  · exact le_is_betweenT
  · exact le_stuck
theorem hm_is_call : ∀ args, args.length = d_is_call.np → M.le (C_is_call args) (d_is_call.den g args) := fun args _ => by
  unfold C_is_call; split
  · exact le_is_call
  · exact le_stuck
theorem hm_is_pair : ∀ args, args.length = d_is_pair.np → M.le (C_is_pair args) (d_is_pair.den g args) := fun args _ => by
  unfold C_is_pair; split
  · exact le_is_pair
  · exact le_stuck
theorem hm_is_tuple_of : ∀ args, args.length = d_is_tuple_of.np → M.le (C_is_tuple_of args) (d_is_tuple_of.den g args) := fun args _ => by
  unfold C_is_tuple_of; split
  · exact le_is_tuple_of
  · exact le_stuck
theorem hm_is_name : ∀ args, args.length = d_is_name.np → M.le (C_is_name args) (d_is_name.den g args) := fun args _ => by
  unfold C_is_name; split
  · exact le_is_name
  · exact le_stuck
theorem hm_is_word : ∀ args, args.length = d_is_word.np → M.le (C_is_word args) (d_is_word.den g args) := fun args _ => by
  unfold C_is_word; split
  · exact le_is_word
  · exact le_stuck
theorem hm_check_number : ∀ args, args.length = d_check_number.np → M.le (C_check_number args) (d_check_number.den g args) := fun args _ => by
  unfold C_check_number; split
  · exact le_check_number
  · exact le_stuck
theorem hm__law_looked : ∀ args, args.length = d__law_looked.np → M.le (C__law_looked args) (d__law_looked.den g args) := fun args _ => by
  unfold C__law_looked; split
  · exact le__law_looked
  · exact le_stuck
theorem hm__law_is_short : ∀ args, args.length = d__law_is_short.np → M.le (C__law_is_short args) (d__law_is_short.den g args) := fun args _ => by
  unfold C__law_is_short; split
  · exact le__law_is_short
  · exact le_stuck
theorem hm__law_any_program : ∀ args, args.length = d__law_any_program.np → M.le (C__law_any_program args) (d__law_any_program.den g args) := fun args _ => by
  unfold C__law_any_program; split
  · exact le__law_any_program
  · exact le_stuck
theorem hm__law_any_words : ∀ args, args.length = d__law_any_words.np → M.le (C__law_any_words args) (d__law_any_words.den g args) := fun args _ => by
  unfold C__law_any_words; split
  · exact le__law_any_words
  · exact le_stuck
theorem hm__law_bowl : ∀ args, args.length = d__law_bowl.np → M.le (C__law_bowl args) (d__law_bowl.den g args) := fun args _ => by
  unfold C__law_bowl; split
  · intro S Q E q
    obtain ⟨⟨⟨ns, rfl⟩, h⟩, q⟩ := q
    exact le__law_bowl S Q E ⟨⟨⟨ns, rfl⟩, h⟩, q⟩
  · exact le_stuck
theorem hm_wrong_in : ∀ v φ args, args.length = d_wrong_in.np → M.le (C_wrong_in v φ args) (d_wrong_in.den { g with lam := some (v, φ) } args) := fun v φ args _ => by
  unfold C_wrong_in; split
  all_goals first | exact le_wrong_in | exact le_stuck
theorem bd__law_right (kV doc pm : Value) (an : Option Addr) (cdv ct : Value) : ∀ sh ∈ ([⟨1, [], [0]⟩] : List Shape), ∀ (s : Shared) (us ws : List Value), us.length = sh.n → ws.length = sh.ks.length → BindsTo s (fdOf "_law_right" "_law_right" (topS 86) kV doc pm an cdv ct) ⟨us, sh.ks.zip ws⟩ ((["bowl"] : List Str).zip (pick sh.ix (us ++ ws))) := by
  intro sh hsh
  rcases List.mem_singleton.mp hsh with rfl
  exact (fun s us ws h1 h2 => match us, ws, h1, h2 with | [x0], [], _, _ => .of_eq rfl)
theorem bd_is_let_by (kV doc pm : Value) (an : Option Addr) (cdv ct : Value) : ∀ sh ∈ ([⟨0, ["program"], [0]⟩, ⟨1, [], [0]⟩] : List Shape), ∀ (s : Shared) (us ws : List Value), us.length = sh.n → ws.length = sh.ks.length → BindsTo s (fdOf "is_let_by" "is_let_by" (topS 68) kV doc pm an cdv ct) ⟨us, sh.ks.zip ws⟩ ((["program"] : List Str).zip (pick sh.ix (us ++ ws))) := by
  intro sh hsh
  rcases List.mem_cons.mp hsh with rfl | hsh
  · exact (fun s us ws h1 h2 => match us, ws, h1, h2 with | [], [y0], _, _ => .of_eq rfl)
  rcases List.mem_singleton.mp hsh with rfl
  exact (fun s us ws h1 h2 => match us, ws, h1, h2 with | [x0], [], _, _ => .of_eq rfl)
theorem bd_fault_by (kV doc pm : Value) (an : Option Addr) (cdv ct : Value) : ∀ sh ∈ ([⟨1, [], [0]⟩] : List Shape), ∀ (s : Shared) (us ws : List Value), us.length = sh.n → ws.length = sh.ks.length → BindsTo s (fdOf "fault_by" "fault_by" (topS 55) kV doc pm an cdv ct) ⟨us, sh.ks.zip ws⟩ ((["program"] : List Str).zip (pick sh.ix (us ++ ws))) := by
  intro sh hsh
  rcases List.mem_singleton.mp hsh with rfl
  exact (fun s us ws h1 h2 => match us, ws, h1, h2 with | [x0], [], _, _ => .of_eq rfl)
theorem bd_looked (kV doc pm : Value) (an : Option Addr) (cdv ct : Value) : ∀ sh ∈ ([⟨1, [], [0]⟩] : List Shape), ∀ (s : Shared) (us ws : List Value), us.length = sh.n → ws.length = sh.ks.length → BindsTo s (fdOf "looked" "looked" (topS 54) kV doc pm an cdv ct) ⟨us, sh.ks.zip ws⟩ ((["program"] : List Str).zip (pick sh.ix (us ++ ws))) := by
  intro sh hsh
  rcases List.mem_singleton.mp hsh with rfl
  exact (fun s us ws h1 h2 => match us, ws, h1, h2 with | [x0], [], _, _ => .of_eq rfl)
theorem bd_looked_at (kV doc pm : Value) (an : Option Addr) (cdv ct : Value) : ∀ sh ∈ ([⟨3, [], [0, 1, 2]⟩] : List Shape), ∀ (s : Shared) (us ws : List Value), us.length = sh.n → ws.length = sh.ks.length → BindsTo s (fdOf "looked_at" "looked_at" (topS 53) kV doc pm an cdv ct) ⟨us, sh.ks.zip ws⟩ ((["deeds", "told", "index"] : List Str).zip (pick sh.ix (us ++ ws))) := by
  intro sh hsh
  rcases List.mem_singleton.mp hsh with rfl
  exact (fun s us ws h1 h2 => match us, ws, h1, h2 with | [x0, x1, x2], [], _, _ => .of_eq rfl)
theorem bd_is_uneven (kV doc pm : Value) (an : Option Addr) (cdv ct : Value) : ∀ sh ∈ ([⟨3, [], [0, 1, 2]⟩] : List Shape), ∀ (s : Shared) (us ws : List Value), us.length = sh.n → ws.length = sh.ks.length → BindsTo s (fdOf "is_uneven" "is_uneven" (topS 51) kV doc pm an cdv ct) ⟨us, sh.ks.zip ws⟩ ((["deeds", "told", "word"] : List Str).zip (pick sh.ix (us ++ ws))) := by
  intro sh hsh
  rcases List.mem_singleton.mp hsh with rfl
  exact (fun s us ws h1 h2 => match us, ws, h1, h2 with | [x0, x1, x2], [], _, _ => .of_eq rfl)
theorem bd_called (kV doc pm : Value) (an : Option Addr) (cdv ct : Value) : ∀ sh ∈ ([⟨3, [], [0, 1, 2]⟩] : List Shape), ∀ (s : Shared) (us ws : List Value), us.length = sh.n → ws.length = sh.ks.length → BindsTo s (fdOf "called" "called" (topS 49) kV doc pm an cdv ct) ⟨us, sh.ks.zip ws⟩ ((["deeds", "told", "word"] : List Str).zip (pick sh.ix (us ++ ws))) := by
  intro sh hsh
  rcases List.mem_singleton.mp hsh with rfl
  exact (fun s us ws h1 h2 => match us, ws, h1, h2 with | [x0, x1, x2], [], _, _ => .of_eq rfl)
theorem bd_index_of (kV doc pm : Value) (an : Option Addr) (cdv ct : Value) : ∀ sh ∈ ([⟨2, [], [0, 1]⟩] : List Shape), ∀ (s : Shared) (us ws : List Value), us.length = sh.n → ws.length = sh.ks.length → BindsTo s (fdOf "index_of" "index_of" (topS 41) kV doc pm an cdv ct) ⟨us, sh.ks.zip ws⟩ ((["deeds", "name"] : List Str).zip (pick sh.ix (us ++ ws))) := by
  intro sh hsh
  rcases List.mem_singleton.mp hsh with rfl
  exact (fun s us ws h1 h2 => match us, ws, h1, h2 with | [x0, x1], [], _, _ => .of_eq rfl)
theorem bd_is_aside (kV doc pm : Value) (an : Option Addr) (cdv ct : Value) : ∀ sh ∈ ([⟨3, [], [0, 1, 2]⟩] : List Shape), ∀ (s : Shared) (us ws : List Value), us.length = sh.n → ws.length = sh.ks.length → BindsTo s (fdOf "is_aside" "is_aside" (topS 50) kV doc pm an cdv ct) ⟨us, sh.ks.zip ws⟩ ((["deeds", "told", "word"] : List Str).zip (pick sh.ix (us ++ ws))) := by
  intro sh hsh
  rcases List.mem_singleton.mp hsh with rfl
  exact (fun s us ws h1 h2 => match us, ws, h1, h2 with | [x0, x1, x2], [], _, _ => .of_eq rfl)
theorem bd_effect_of (kV doc pm : Value) (an : Option Addr) (cdv ct : Value) : ∀ sh ∈ ([⟨3, [], [0, 1, 2]⟩] : List Shape), ∀ (s : Shared) (us ws : List Value), us.length = sh.n → ws.length = sh.ks.length → BindsTo s (fdOf "effect_of" "effect_of" (topS 52) kV doc pm an cdv ct) ⟨us, sh.ks.zip ws⟩ ((["deeds", "told", "word"] : List Str).zip (pick sh.ix (us ++ ws))) := by
  intro sh hsh
  rcases List.mem_singleton.mp hsh with rfl
  exact (fun s us ws h1 h2 => match us, ws, h1, h2 with | [x0, x1, x2], [], _, _ => .of_eq rfl)
theorem bd_is_whole (kV doc pm : Value) (an : Option Addr) (cdv ct : Value) : ∀ sh ∈ ([⟨1, [], [0]⟩] : List Shape), ∀ (s : Shared) (us ws : List Value), us.length = sh.n → ws.length = sh.ks.length → BindsTo s (fdOf "is_whole" "is_whole" (topS 5) kV doc pm an cdv ct) ⟨us, sh.ks.zip ws⟩ ((["value"] : List Str).zip (pick sh.ix (us ++ ws))) := by
  intro sh hsh
  rcases List.mem_singleton.mp hsh with rfl
  exact (fun s us ws h1 h2 => match us, ws, h1, h2 with | [x0], [], _, _ => .of_eq rfl)
theorem bd_behind (kV doc pm : Value) (an : Option Addr) (cdv ct : Value) : ∀ sh ∈ ([⟨2, [], [0, 1]⟩] : List Shape), ∀ (s : Shared) (us ws : List Value), us.length = sh.n → ws.length = sh.ks.length → BindsTo s (fdOf "behind" "behind" (topS 48) kV doc pm an cdv ct) ⟨us, sh.ks.zip ws⟩ ((["one", "two"] : List Str).zip (pick sh.ix (us ++ ws))) := by
  intro sh hsh
  rcases List.mem_singleton.mp hsh with rfl
  exact (fun s us ws h1 h2 => match us, ws, h1, h2 with | [x0, x1], [], _, _ => .of_eq rfl)
theorem bd_check_program (kV doc pm : Value) (an : Option Addr) (cdv ct : Value) : ∀ sh ∈ ([⟨1, [], [0]⟩] : List Shape), ∀ (s : Shared) (us ws : List Value), us.length = sh.n → ws.length = sh.ks.length → BindsTo s (fdOf "check_program" "check_program" (topS 64) kV doc pm an cdv ct) ⟨us, sh.ks.zip ws⟩ ((["program"] : List Str).zip (pick sh.ix (us ++ ws))) := by
  intro sh hsh
  rcases List.mem_singleton.mp hsh with rfl
  exact (fun s us ws h1 h2 => match us, ws, h1, h2 with | [x0], [], _, _ => .of_eq rfl)
theorem bd_first_fault (kV doc pm : Value) (an : Option Addr) (cdv ct : Value) : ∀ sh ∈ ([⟨0, ["program"], [0]⟩, ⟨1, [], [0]⟩] : List Shape), ∀ (s : Shared) (us ws : List Value), us.length = sh.n → ws.length = sh.ks.length → BindsTo s (fdOf "first_fault" "first_fault" (topS 67) kV doc pm an cdv ct) ⟨us, sh.ks.zip ws⟩ ((["program"] : List Str).zip (pick sh.ix (us ++ ws))) := by
  intro sh hsh
  rcases List.mem_cons.mp hsh with rfl | hsh
  · exact (fun s us ws h1 h2 => match us, ws, h1, h2 with | [], [y0], _, _ => .of_eq rfl)
  rcases List.mem_singleton.mp hsh with rfl
  exact (fun s us ws h1 h2 => match us, ws, h1, h2 with | [x0], [], _, _ => .of_eq rfl)
theorem bd_effects (kV doc pm : Value) (an : Option Addr) (cdv ct : Value) : ∀ sh ∈ ([⟨1, [], [0]⟩] : List Shape), ∀ (s : Shared) (us ws : List Value), us.length = sh.n → ws.length = sh.ks.length → BindsTo s (fdOf "effects" "effects" (topS 66) kV doc pm an cdv ct) ⟨us, sh.ks.zip ws⟩ ((["program"] : List Str).zip (pick sh.ix (us ++ ws))) := by
  intro sh hsh
  rcases List.mem_singleton.mp hsh with rfl
  exact (fun s us ws h1 h2 => match us, ws, h1, h2 with | [x0], [], _, _ => .of_eq rfl)
theorem bd__law_same (kV doc pm : Value) (an : Option Addr) (cdv ct : Value) : ∀ sh ∈ ([⟨2, [], [0, 1]⟩] : List Shape), ∀ (s : Shared) (us ws : List Value), us.length = sh.n → ws.length = sh.ks.length → BindsTo s (fdOf "_law_same" "_law_same" (topS 73) kV doc pm an cdv ct) ⟨us, sh.ks.zip ws⟩ ((["told", "due"] : List Str).zip (pick sh.ix (us ++ ws))) := by
  intro sh hsh
  rcases List.mem_singleton.mp hsh with rfl
  exact (fun s us ws h1 h2 => match us, ws, h1, h2 with | [x0, x1], [], _, _ => .of_eq rfl)
theorem bd__law_program (kV doc pm : Value) (an : Option Addr) (cdv ct : Value) : ∀ sh ∈ ([⟨3, [], [0, 1, 2]⟩] : List Shape), ∀ (s : Shared) (us ws : List Value), us.length = sh.n → ws.length = sh.ks.length → BindsTo s (fdOf "_law_program" "_law_program" (topS 80) kV doc pm an cdv ct) ⟨us, sh.ks.zip ws⟩ ((["bowl", "deeds", "most"] : List Str).zip (pick sh.ix (us ++ ws))) := by
  intro sh hsh
  rcases List.mem_singleton.mp hsh with rfl
  exact (fun s us ws h1 h2 => match us, ws, h1, h2 with | [x0, x1, x2], [], _, _ => .of_eq rfl)
theorem bd__law_words (kV doc pm : Value) (an : Option Addr) (cdv ct : Value) : ∀ sh ∈ ([⟨5, [], [0, 1, 2, 3, 4]⟩] : List Shape), ∀ (s : Shared) (us ws : List Value), us.length = sh.n → ws.length = sh.ks.length → BindsTo s (fdOf "_law_words" "_law_words" (topS 78) kV doc pm an cdv ct) ⟨us, sh.ks.zip ws⟩ ((["bowl", "names", "known", "height", "many"] : List Str).zip (pick sh.ix (us ++ ws))) := by
  intro sh hsh
  rcases List.mem_singleton.mp hsh with rfl
  exact (fun s us ws h1 h2 => match us, ws, h1, h2 with | [x0, x1, x2, x3, x4], [], _, _ => .of_eq rfl)
theorem bd__law_plain_effect (kV doc pm : Value) (an : Option Addr) (cdv ct : Value) : ∀ sh ∈ ([⟨1, [], [0]⟩] : List Shape), ∀ (s : Shared) (us ws : List Value), us.length = sh.n → ws.length = sh.ks.length → BindsTo s (fdOf "_law_plain_effect" "_law_plain_effect" (topS 76) kV doc pm an cdv ct) ⟨us, sh.ks.zip ws⟩ ((["word"] : List Str).zip (pick sh.ix (us ++ ws))) := by
  intro sh hsh
  rcases List.mem_singleton.mp hsh with rfl
  exact (fun s us ws h1 h2 => match us, ws, h1, h2 with | [x0], [], _, _ => .of_eq rfl)
theorem bd__law_of (kV doc pm : Value) (an : Option Addr) (cdv ct : Value) : ∀ sh ∈ ([⟨2, [], [0, 1]⟩] : List Shape), ∀ (s : Shared) (us ws : List Value), us.length = sh.n → ws.length = sh.ks.length → BindsTo s (fdOf "_law_of" "_law_of" (topS 72) kV doc pm an cdv ct) ⟨us, sh.ks.zip ws⟩ ((["bowl", "some"] : List Str).zip (pick sh.ix (us ++ ws))) := by
  intro sh hsh
  rcases List.mem_singleton.mp hsh with rfl
  exact (fun s us ws h1 h2 => match us, ws, h1, h2 with | [x0, x1], [], _, _ => .of_eq rfl)
theorem bd__law_draw (kV doc pm : Value) (an : Option Addr) (cdv ct : Value) : ∀ sh ∈ ([⟨2, [], [0, 1]⟩] : List Shape), ∀ (s : Shared) (us ws : List Value), us.length = sh.n → ws.length = sh.ks.length → BindsTo s (fdOf "_law_draw" "_law_draw" (topS 71) kV doc pm an cdv ct) ⟨us, sh.ks.zip ws⟩ ((["bowl", "many"] : List Str).zip (pick sh.ix (us ++ ws))) := by
  intro sh hsh
  rcases List.mem_singleton.mp hsh with rfl
  exact (fun s us ws h1 h2 => match us, ws, h1, h2 with | [x0, x1], [], _, _ => .of_eq rfl)
theorem bd__law_number (kV doc pm : Value) (an : Option Addr) (cdv ct : Value) : ∀ sh ∈ ([⟨1, [], [0]⟩] : List Shape), ∀ (s : Shared) (us ws : List Value), us.length = sh.n → ws.length = sh.ks.length → BindsTo s (fdOf "_law_number" "_law_number" (topS 77) kV doc pm an cdv ct) ⟨us, sh.ks.zip ws⟩ ((["bowl"] : List Str).zip (pick sh.ix (us ++ ws))) := by
  intro sh hsh
  rcases List.mem_singleton.mp hsh with rfl
  exact (fun s us ws h1 h2 => match us, ws, h1, h2 with | [x0], [], _, _ => .of_eq rfl)
theorem bd__law_names (kV doc pm : Value) (an : Option Addr) (cdv ct : Value) : ∀ sh ∈ ([⟨2, [], [0, 1]⟩] : List Shape), ∀ (s : Shared) (us ws : List Value), us.length = sh.n → ws.length = sh.ks.length → BindsTo s (fdOf "_law_names" "_law_names" (topS 75) kV doc pm an cdv ct) ⟨us, sh.ks.zip ws⟩ ((["bowl", "many"] : List Str).zip (pick sh.ix (us ++ ws))) := by
  intro sh hsh
  rcases List.mem_singleton.mp hsh with rfl
  exact (fun s us ws h1 h2 => match us, ws, h1, h2 with | [x0, x1], [], _, _ => .of_eq rfl)
theorem bd__law_own (kV doc pm : Value) (an : Option Addr) (cdv ct : Value) : ∀ sh ∈ ([⟨0, [], []⟩] : List Shape), ∀ (s : Shared) (us ws : List Value), us.length = sh.n → ws.length = sh.ks.length → BindsTo s (fdOf "_law_own" "_law_own" (topS 74) kV doc pm an cdv ct) ⟨us, sh.ks.zip ws⟩ (([] : List Str).zip (pick sh.ix (us ++ ws))) := by
  intro sh hsh
  rcases List.mem_singleton.mp hsh with rfl
  exact (fun s us ws h1 h2 => match us, ws, h1, h2 with | [], [], _, _ => .of_eq rfl)
theorem bd__law_effect (kV doc pm : Value) (an : Option Addr) (cdv ct : Value) : ∀ sh ∈ ([⟨3, [], [0, 1, 2]⟩] : List Shape), ∀ (s : Shared) (us ws : List Value), us.length = sh.n → ws.length = sh.ks.length → BindsTo s (fdOf "_law_effect" "_law_effect" (topS 79) kV doc pm an cdv ct) ⟨us, sh.ks.zip ws⟩ ((["words", "names", "known"] : List Str).zip (pick sh.ix (us ++ ws))) := by
  intro sh hsh
  rcases List.mem_singleton.mp hsh with rfl
  exact (fun s us ws h1 h2 => match us, ws, h1, h2 with | [x0, x1, x2], [], _, _ => .of_eq rfl)
theorem bd__law_made (kV doc pm : Value) (an : Option Addr) (cdv ct : Value) : ∀ sh ∈ ([⟨1, [], [0]⟩] : List Shape), ∀ (s : Shared) (us ws : List Value), us.length = sh.n → ws.length = sh.ks.length → BindsTo s (fdOf "_law_made" "_law_made" (topS 81) kV doc pm an cdv ct) ⟨us, sh.ks.zip ws⟩ ((["program"] : List Str).zip (pick sh.ix (us ++ ws))) := by
  intro sh hsh
  rcases List.mem_singleton.mp hsh with rfl
  exact (fun s us ws h1 h2 => match us, ws, h1, h2 with | [x0], [], _, _ => .of_eq rfl)
theorem bd_wrong_in_deeds (kV doc pm : Value) (an : Option Addr) (cdv ct : Value) : ∀ sh ∈ ([⟨1, [], [0]⟩] : List Shape), ∀ (s : Shared) (us ws : List Value), us.length = sh.n → ws.length = sh.ks.length → BindsTo s (fdOf "wrong_in_deeds" "wrong_in_deeds" (topS 40) kV doc pm an cdv ct) ⟨us, sh.ks.zip ws⟩ ((["value"] : List Str).zip (pick sh.ix (us ++ ws))) := by
  intro sh hsh
  rcases List.mem_singleton.mp hsh with rfl
  exact (fun s us ws h1 h2 => match us, ws, h1, h2 with | [x0], [], _, _ => .of_eq rfl)
theorem bd_is_deed (kV doc pm : Value) (an : Option Addr) (cdv ct : Value) : ∀ sh ∈ ([⟨2, [], [0, 1]⟩] : List Shape), ∀ (s : Shared) (us ws : List Value), us.length = sh.n → ws.length = sh.ks.length → BindsTo s (fdOf "is_deed" "is_deed" (topS 39) kV doc pm an cdv ct) ⟨us, sh.ks.zip ws⟩ ((["names", "value"] : List Str).zip (pick sh.ix (us ++ ws))) := by
  intro sh hsh
  rcases List.mem_singleton.mp hsh with rfl
  exact (fun s us ws h1 h2 => match us, ws, h1, h2 with | [x0, x1], [], _, _ => .of_eq rfl)
theorem bd_is_word_by (kV doc pm : Value) (an : Option Addr) (cdv ct : Value) : ∀ sh ∈ ([⟨2, [], [0, 1]⟩] : List Shape), ∀ (s : Shared) (us ws : List Value), us.length = sh.n → ws.length = sh.ks.length → BindsTo s (fdOf "is_word_by" "is_word_by" (topS 38) kV doc pm an cdv ct) ⟨us, sh.ks.zip ws⟩ ((["names", "value"] : List Str).zip (pick sh.ix (us ++ ws))) := by
  intro sh hsh
  rcases List.mem_singleton.mp hsh with rfl
  exact (fun s us ws h1 h2 => match us, ws, h1, h2 with | [x0, x1], [], _, _ => .of_eq rfl)
theorem bd_is_one_of (kV doc pm : Value) (an : Option Addr) (cdv ct : Value) : ∀ sh ∈ ([⟨2, [], [0, 1]⟩] : List Shape), ∀ (s : Shared) (us ws : List Value), us.length = sh.n → ws.length = sh.ks.length → BindsTo s (fdOf "is_one_of" "is_one_of" (topS 7) kV doc pm an cdv ct) ⟨us, sh.ks.zip ws⟩ ((["value", "words"] : List Str).zip (pick sh.ix (us ++ ws))) := by
  intro sh hsh
  rcases List.mem_singleton.mp hsh with rfl
  exact (fun s us ws h1 h2 => match us, ws, h1, h2 with | [x0, x1], [], _, _ => .of_eq rfl)
theorem bd_is_number (kV doc pm : Value) (an : Option Addr) (cdv ct : Value) : ∀ sh ∈ ([⟨1, [], [0]⟩] : List Shape), ∀ (s : Shared) (us ws : List Value), us.length = sh.n → ws.length = sh.ks.length → BindsTo s (fdOf "is_number" "is_number" (topS 36) kV doc pm an cdv ct) ⟨us, sh.ks.zip ws⟩ ((["value"] : List Str).zip (pick sh.ix (us ++ ws))) := by
  intro sh hsh
  rcases List.mem_singleton.mp hsh with rfl
  exact (fun s us ws h1 h2 => match us, ws, h1, h2 with | [x0], [], _, _ => .of_eq rfl)
theorem bd_is_between (kV doc pm : Value) (an : Option Addr) (cdv ct : Value) : ∀ sh ∈ ([⟨3, [], [0, 1, 2]⟩] : List Shape), ∀ (s : Shared) (us ws : List Value), us.length = sh.n → ws.length = sh.ks.length → BindsTo s (fdOf "is_between" "is_between" (topS 6) kV doc pm an cdv ct) ⟨us, sh.ks.zip ws⟩ ((["value", "least", "most"] : List Str).zip (pick sh.ix (us ++ ws))) := by
  intro sh hsh
  rcases List.mem_singleton.mp hsh with rfl
  exact (fun s us ws h1 h2 => match us, ws, h1, h2 with | [x0, x1, x2], [], _, _ => .of_eq rfl)
theorem bd_is_call (kV doc pm : Value) (an : Option Addr) (cdv ct : Value) : ∀ sh ∈ ([⟨2, [], [0, 1]⟩] : List Shape), ∀ (s : Shared) (us ws : List Value), us.length = sh.n → ws.length = sh.ks.length → BindsTo s (fdOf "is_call" "is_call" (topS 37) kV doc pm an cdv ct) ⟨us, sh.ks.zip ws⟩ ((["names", "value"] : List Str).zip (pick sh.ix (us ++ ws))) := by
  intro sh hsh
  rcases List.mem_singleton.mp hsh with rfl
  exact (fun s us ws h1 h2 => match us, ws, h1, h2 with | [x0, x1], [], _, _ => .of_eq rfl)
theorem bd_is_pair (kV doc pm : Value) (an : Option Addr) (cdv ct : Value) : ∀ sh ∈ ([⟨1, [], [0]⟩] : List Shape), ∀ (s : Shared) (us ws : List Value), us.length = sh.n → ws.length = sh.ks.length → BindsTo s (fdOf "is_pair" "is_pair" (topS 11) kV doc pm an cdv ct) ⟨us, sh.ks.zip ws⟩ ((["value"] : List Str).zip (pick sh.ix (us ++ ws))) := by
  intro sh hsh
  rcases List.mem_singleton.mp hsh with rfl
  exact (fun s us ws h1 h2 => match us, ws, h1, h2 with | [x0], [], _, _ => .of_eq rfl)
theorem bd_is_tuple_of (kV doc pm : Value) (an : Option Addr) (cdv ct : Value) : ∀ sh ∈ ([⟨2, [], [0, 1]⟩] : List Shape), ∀ (s : Shared) (us ws : List Value), us.length = sh.n → ws.length = sh.ks.length → BindsTo s (fdOf "is_tuple_of" "is_tuple_of" (topS 10) kV doc pm an cdv ct) ⟨us, sh.ks.zip ws⟩ ((["value", "many"] : List Str).zip (pick sh.ix (us ++ ws))) := by
  intro sh hsh
  rcases List.mem_singleton.mp hsh with rfl
  exact (fun s us ws h1 h2 => match us, ws, h1, h2 with | [x0, x1], [], _, _ => .of_eq rfl)
theorem bd_is_name (kV doc pm : Value) (an : Option Addr) (cdv ct : Value) : ∀ sh ∈ ([⟨1, [], [0]⟩] : List Shape), ∀ (s : Shared) (us ws : List Value), us.length = sh.n → ws.length = sh.ks.length → BindsTo s (fdOf "is_name" "is_name" (topS 9) kV doc pm an cdv ct) ⟨us, sh.ks.zip ws⟩ ((["value"] : List Str).zip (pick sh.ix (us ++ ws))) := by
  intro sh hsh
  rcases List.mem_singleton.mp hsh with rfl
  exact (fun s us ws h1 h2 => match us, ws, h1, h2 with | [x0], [], _, _ => .of_eq rfl)
theorem bd_is_word (kV doc pm : Value) (an : Option Addr) (cdv ct : Value) : ∀ sh ∈ ([⟨1, [], [0]⟩] : List Shape), ∀ (s : Shared) (us ws : List Value), us.length = sh.n → ws.length = sh.ks.length → BindsTo s (fdOf "is_word" "is_word" (topS 8) kV doc pm an cdv ct) ⟨us, sh.ks.zip ws⟩ ((["value"] : List Str).zip (pick sh.ix (us ++ ws))) := by
  intro sh hsh
  rcases List.mem_singleton.mp hsh with rfl
  exact (fun s us ws h1 h2 => match us, ws, h1, h2 with | [x0], [], _, _ => .of_eq rfl)
theorem bd_check_number (kV doc pm : Value) (an : Option Addr) (cdv ct : Value) : ∀ sh ∈ ([⟨3, [], [0, 1, 2]⟩] : List Shape), ∀ (s : Shared) (us ws : List Value), us.length = sh.n → ws.length = sh.ks.length → BindsTo s (fdOf "check_number" "check_number" (topS 63) kV doc pm an cdv ct) ⟨us, sh.ks.zip ws⟩ ((["number", "least", "most"] : List Str).zip (pick sh.ix (us ++ ws))) := by
  intro sh hsh
  rcases List.mem_singleton.mp hsh with rfl
  exact (fun s us ws h1 h2 => match us, ws, h1, h2 with | [x0, x1, x2], [], _, _ => .of_eq rfl)
theorem bd__law_looked (kV doc pm : Value) (an : Option Addr) (cdv ct : Value) : ∀ sh ∈ ([⟨1, [], [0]⟩] : List Shape), ∀ (s : Shared) (us ws : List Value), us.length = sh.n → ws.length = sh.ks.length → BindsTo s (fdOf "_law_looked" "_law_looked" (topS 82) kV doc pm an cdv ct) ⟨us, sh.ks.zip ws⟩ ((["program"] : List Str).zip (pick sh.ix (us ++ ws))) := by
  intro sh hsh
  rcases List.mem_singleton.mp hsh with rfl
  exact (fun s us ws h1 h2 => match us, ws, h1, h2 with | [x0], [], _, _ => .of_eq rfl)
theorem bd__law_is_short (kV doc pm : Value) (an : Option Addr) (cdv ct : Value) : ∀ sh ∈ ([⟨3, [], [0, 1, 2]⟩] : List Shape), ∀ (s : Shared) (us ws : List Value), us.length = sh.n → ws.length = sh.ks.length → BindsTo s (fdOf "_law_is_short" "_law_is_short" (topS 83) kV doc pm an cdv ct) ⟨us, sh.ks.zip ws⟩ ((["words", "names", "known"] : List Str).zip (pick sh.ix (us ++ ws))) := by
  intro sh hsh
  rcases List.mem_singleton.mp hsh with rfl
  exact (fun s us ws h1 h2 => match us, ws, h1, h2 with | [x0, x1, x2], [], _, _ => .of_eq rfl)
theorem bd__law_any_program (kV doc pm : Value) (an : Option Addr) (cdv ct : Value) : ∀ sh ∈ ([⟨3, [], [0, 1, 2]⟩] : List Shape), ∀ (s : Shared) (us ws : List Value), us.length = sh.n → ws.length = sh.ks.length → BindsTo s (fdOf "_law_any_program" "_law_any_program" (topS 85) kV doc pm an cdv ct) ⟨us, sh.ks.zip ws⟩ ((["bowl", "deeds", "most"] : List Str).zip (pick sh.ix (us ++ ws))) := by
  intro sh hsh
  rcases List.mem_singleton.mp hsh with rfl
  exact (fun s us ws h1 h2 => match us, ws, h1, h2 with | [x0, x1, x2], [], _, _ => .of_eq rfl)
theorem bd__law_any_words (kV doc pm : Value) (an : Option Addr) (cdv ct : Value) : ∀ sh ∈ ([⟨3, [], [0, 1, 2]⟩] : List Shape), ∀ (s : Shared) (us ws : List Value), us.length = sh.n → ws.length = sh.ks.length → BindsTo s (fdOf "_law_any_words" "_law_any_words" (topS 84) kV doc pm an cdv ct) ⟨us, sh.ks.zip ws⟩ ((["bowl", "names", "many"] : List Str).zip (pick sh.ix (us ++ ws))) := by
  intro sh hsh
  rcases List.mem_singleton.mp hsh with rfl
  exact (fun s us ws h1 h2 => match us, ws, h1, h2 with | [x0, x1, x2], [], _, _ => .of_eq rfl)
theorem bd__law_bowl (kV doc pm : Value) (an : Option Addr) (cdv ct : Value) : ∀ sh ∈ ([⟨2, [], [0, 1]⟩] : List Shape), ∀ (s : Shared) (us ws : List Value), us.length = sh.n → ws.length = sh.ks.length → BindsTo s (fdOf "_law_bowl" "_law_bowl" (topS 70) kV doc pm an cdv ct) ⟨us, sh.ks.zip ws⟩ ((["script", "lap"] : List Str).zip (pick sh.ix (us ++ ws))) := by
  intro sh hsh
  rcases List.mem_singleton.mp hsh with rfl
  exact (fun s us ws h1 h2 => match us, ws, h1, h2 with | [x0, x1], [], _, _ => .of_eq rfl)
theorem ok__law_right : FnX.Ok g ⟨f__law_right, 14, d__law_right⟩ := ⟨rfl, bd__law_right, .inr ⟨by decide, rfl, (fun h => by cases h), chk__law_right, hm__law_right⟩⟩
theorem ok_is_let_by : FnX.Ok g ⟨f_is_let_by, 8, d_is_let_by⟩ := ⟨rfl, bd_is_let_by, .inr ⟨by decide, rfl, (fun h => by cases h), chk_is_let_by, hm_is_let_by⟩⟩
theorem ok_fault_by : FnX.Ok g ⟨f_fault_by, 7, d_fault_by⟩ := ⟨rfl, bd_fault_by, .inr ⟨by decide, rfl, (fun h => by cases h), chk_fault_by, hm_fault_by⟩⟩
theorem ok_looked : FnX.Ok g ⟨f_looked, 5, d_looked⟩ := ⟨rfl, bd_looked, .inr ⟨by decide, rfl, (fun h => by cases h), chk_looked, hm_looked⟩⟩
theorem ok_looked_at : FnX.Ok g ⟨f_looked_at, 4, d_looked_at⟩ := ⟨rfl, bd_looked_at, .inr ⟨by decide, rfl, (fun h => by cases h), chk_looked_at, hm_looked_at⟩⟩
theorem ok_is_uneven : FnX.Ok g ⟨f_is_uneven, 3, d_is_uneven⟩ := ⟨rfl, bd_is_uneven, .inr ⟨by decide, rfl, (fun h => by cases h), chk_is_uneven, hm_is_uneven⟩⟩
theorem ok_called : FnX.Ok g ⟨f_called, 2, d_called⟩ := ⟨rfl, bd_called, .inr ⟨by decide, rfl, (fun h => by cases h), chk_called, hm_called⟩⟩
theorem ok_index_of : FnX.Ok g ⟨f_index_of, 1, d_index_of⟩ := ⟨rfl, bd_index_of, .inr ⟨by decide, rfl, (fun h => by cases h), chk_index_of, hm_index_of⟩⟩
theorem ok_is_aside : FnX.Ok g ⟨f_is_aside, 3, d_is_aside⟩ := ⟨rfl, bd_is_aside, .inr ⟨by decide, rfl, (fun h => by cases h), chk_is_aside, hm_is_aside⟩⟩
theorem ok_effect_of : FnX.Ok g ⟨f_effect_of, 3, d_effect_of⟩ := ⟨rfl, bd_effect_of, .inr ⟨by decide, rfl, (fun h => by cases h), chk_effect_of, hm_effect_of⟩⟩
theorem ok_is_whole : FnX.Ok g ⟨f_is_whole, 1, d_is_whole⟩ := ⟨rfl, bd_is_whole, .inr ⟨by decide, rfl, (fun h => by cases h), chk_is_whole, hm_is_whole⟩⟩
theorem ok_behind : FnX.Ok g ⟨f_behind, 1, d_behind⟩ := ⟨rfl, bd_behind, .inr ⟨by decide, rfl, (fun h => by cases h), chk_behind, hm_behind⟩⟩
theorem ok_check_program : FnX.Ok g ⟨f_check_program, 1, d_check_program⟩ := ⟨rfl, bd_check_program, .inr ⟨by decide, rfl, (fun h => by cases h), chk_check_program, hm_check_program⟩⟩
theorem ok_first_fault : FnX.Ok g ⟨f_first_fault, 8, d_first_fault⟩ := ⟨rfl, bd_first_fault, .inr ⟨by decide, rfl, (fun h => by cases h), chk_first_fault, hm_first_fault⟩⟩
theorem ok_effects : FnX.Ok g ⟨f_effects, 7, d_effects⟩ := ⟨rfl, bd_effects, .inr ⟨by decide, rfl, (fun h => by cases h), chk_effects, hm_effects⟩⟩
theorem ok__law_same_b : FnX.Ok g ⟨f__law_same_b, 0, d__law_same_0⟩ := ⟨rfl, bd__law_same, .inl ⟨rfl, rfl⟩⟩
theorem ok__law_same_0 : FnX.Ok g ⟨f__law_same_0, 1, d__law_same_0⟩ := ⟨rfl, bd__law_same, .inr ⟨by decide, rfl, (fun h => by cases h), chk__law_same_0, hm__law_same_0⟩⟩
theorem ok__law_same_1 : FnX.Ok g ⟨f__law_same_1, 2, d__law_same_1⟩ := ⟨rfl, bd__law_same, .inr ⟨by decide, rfl, (fun h => by cases h), chk__law_same_1, hm__law_same_1⟩⟩
theorem ok__law_same_2 : FnX.Ok g ⟨f__law_same_2, 3, d__law_same_2⟩ := ⟨rfl, bd__law_same, .inr ⟨by decide, rfl, (fun h => by cases h), chk__law_same_2, hm__law_same_2⟩⟩
theorem ok__law_same : FnX.Ok g ⟨f__law_same, 4, d__law_same⟩ := ⟨rfl, bd__law_same, .inr ⟨by decide, rfl, (fun h => by cases h), chk__law_same, hm__law_same⟩⟩
theorem ok__law_program_b : FnX.Ok g ⟨f__law_program_b, 0, d__law_program_0⟩ := ⟨rfl, bd__law_program, .inl ⟨rfl, rfl⟩⟩
theorem ok__law_program_0 : FnX.Ok g ⟨f__law_program_0, 5, d__law_program_0⟩ := ⟨rfl, bd__law_program, .inr ⟨by decide, rfl, (fun h => by cases h), chk__law_program_0, hm__law_program_0⟩⟩
theorem ok__law_program : FnX.Ok g ⟨f__law_program, 6, d__law_program⟩ := ⟨rfl, bd__law_program, .inr ⟨by decide, rfl, (fun h => by cases h), chk__law_program, hm__law_program⟩⟩
theorem ok__law_words : FnX.Ok g ⟨f__law_words, 4, d__law_words⟩ := ⟨rfl, bd__law_words, .inr ⟨by decide, rfl, (fun h => by cases h), chk__law_words, hm__law_words⟩⟩
theorem ok__law_plain_effect : FnX.Ok g ⟨f__law_plain_effect, 1, d__law_plain_effect⟩ := ⟨rfl, bd__law_plain_effect, .inr ⟨by decide, rfl, (fun h => by cases h), chk__law_plain_effect, hm__law_plain_effect⟩⟩
theorem ok__law_of : FnX.Ok g ⟨f__law_of, 2, d__law_of⟩ := ⟨rfl, bd__law_of, .inr ⟨by decide, rfl, (fun h => by cases h), chk__law_of, hm__law_of⟩⟩
theorem ok__law_draw : FnX.Ok g ⟨f__law_draw, 1, d__law_draw⟩ := ⟨rfl, bd__law_draw, .inr ⟨by decide, rfl, (fun h => by cases h), chk__law_draw, hm__law_draw⟩⟩
theorem ok__law_number : FnX.Ok g ⟨f__law_number, 3, d__law_number⟩ := ⟨rfl, bd__law_number, .inr ⟨by decide, rfl, (fun h => by cases h), chk__law_number, hm__law_number⟩⟩
theorem ok__law_names : FnX.Ok g ⟨f__law_names, 3, d__law_names⟩ := ⟨rfl, bd__law_names, .inr ⟨by decide, rfl, (fun h => by cases h), chk__law_names, hm__law_names⟩⟩
theorem ok__law_own : FnX.Ok g ⟨f__law_own, 1, d__law_own⟩ := ⟨rfl, bd__law_own, .inr ⟨by decide, rfl, (fun h => by cases h), chk__law_own, hm__law_own⟩⟩
theorem ok__law_effect : FnX.Ok g ⟨f__law_effect, 2, d__law_effect⟩ := ⟨rfl, bd__law_effect, .inr ⟨by decide, rfl, (fun h => by cases h), chk__law_effect, hm__law_effect⟩⟩
theorem ok__law_effect_l : FnX.Ok g ⟨f__law_effect_l, 2, d__law_effect_l⟩ := ⟨rfl, bd__law_effect, .inr ⟨by decide, rfl, (fun h => by cases h), chk__law_effect_l, hm__law_effect_l⟩⟩
theorem ok__law_made : FnX.Ok g ⟨f__law_made, 13, d__law_made⟩ := ⟨rfl, bd__law_made, .inr ⟨by decide, rfl, (fun h => by cases h), chk__law_made, hm__law_made⟩⟩
theorem ok_wrong_in_deeds : FnX.Ok g ⟨f_wrong_in_deeds, 10, d_wrong_in_deeds⟩ := ⟨rfl, bd_wrong_in_deeds, .inr ⟨by decide, rfl, fun _ => by decide +kernel, chk_wrong_in_deeds, hm_wrong_in_deeds⟩⟩
theorem ok_is_deed : FnX.Ok g ⟨f_is_deed, 7, d_is_deed⟩ := ⟨rfl, bd_is_deed, .inr ⟨by decide, rfl, fun _ => by decide +kernel, chk_is_deed, hm_is_deed⟩⟩
theorem ok_is_word_by : FnX.Ok g ⟨f_is_word_by, 4, d_is_word_by⟩ := ⟨rfl, bd_is_word_by, .inr ⟨by decide, rfl, (fun h => by cases h), chk_is_word_by, hm_is_word_by⟩⟩
theorem ok_is_one_of : FnX.Ok g ⟨f_is_one_of, 1, d_is_one_of⟩ := ⟨rfl, bd_is_one_of, .inr ⟨by decide, rfl, (fun h => by cases h), chk_is_one_of, hm_is_one_of⟩⟩
theorem ok_is_number : FnX.Ok g ⟨f_is_number, 3, d_is_number⟩ := ⟨rfl, bd_is_number, .inr ⟨by decide, rfl, (fun h => by cases h), chk_is_number, hm_is_number⟩⟩
theorem ok_is_between : FnX.Ok g ⟨f_is_between, 2, d_is_between⟩ := ⟨rfl, bd_is_between, .inr ⟨by decide, rfl, (fun h => by cases h), chk_is_between, hm_is_between⟩⟩
theorem ok_is_call : FnX.Ok g ⟨f_is_call, 3, d_is_call⟩ := ⟨rfl, bd_is_call, .inr ⟨by decide, rfl, (fun h => by cases h), chk_is_call, hm_is_call⟩⟩
theorem ok_is_pair : FnX.Ok g ⟨f_is_pair, 2, d_is_pair⟩ := ⟨rfl, bd_is_pair, .inr ⟨by decide, rfl, (fun h => by cases h), chk_is_pair, hm_is_pair⟩⟩
theorem ok_is_tuple_of : FnX.Ok g ⟨f_is_tuple_of, 1, d_is_tuple_of⟩ := ⟨rfl, bd_is_tuple_of, .inr ⟨by decide, rfl, (fun h => by cases h), chk_is_tuple_of, hm_is_tuple_of⟩⟩
theorem ok_is_name : FnX.Ok g ⟨f_is_name, 2, d_is_name⟩ := ⟨rfl, bd_is_name, .inr ⟨by decide, rfl, (fun h => by cases h), chk_is_name, hm_is_name⟩⟩
theorem ok_is_word : FnX.Ok g ⟨f_is_word, 1, d_is_word⟩ := ⟨rfl, bd_is_word, .inr ⟨by decide, rfl, (fun h => by cases h), chk_is_word, hm_is_word⟩⟩
theorem ok_check_number : FnX.Ok g ⟨f_check_number, 3, d_check_number⟩ := ⟨rfl, bd_check_number, .inr ⟨by decide, rfl, (fun h => by cases h), chk_check_number, hm_check_number⟩⟩
theorem ok__law_looked : FnX.Ok g ⟨f__law_looked, 4, d__law_looked⟩ := ⟨rfl, bd__law_looked, .inr ⟨by decide, rfl, (fun h => by cases h), chk__law_looked, hm__law_looked⟩⟩
theorem ok__law_is_short : FnX.Ok g ⟨f__law_is_short, 3, d__law_is_short⟩ := ⟨rfl, bd__law_is_short, .inr ⟨by decide, rfl, (fun h => by cases h), chk__law_is_short, hm__law_is_short⟩⟩
theorem ok__law_any_program : FnX.Ok g ⟨f__law_any_program, 5, d__law_any_program⟩ := ⟨rfl, bd__law_any_program, .inr ⟨by decide, rfl, (fun h => by cases h), chk__law_any_program, hm__law_any_program⟩⟩
theorem ok__law_any_words : FnX.Ok g ⟨f__law_any_words, 4, d__law_any_words⟩ := ⟨rfl, bd__law_any_words, .inr ⟨by decide, rfl, (fun h => by cases h), chk__law_any_words, hm__law_any_words⟩⟩
theorem ok__law_bowl : FnX.Ok g ⟨f__law_bowl, 1, d__law_bowl⟩ := ⟨rfl, bd__law_bowl, .inr ⟨by decide, rfl, (fun h => by cases h), chk__law_bowl, hm__law_bowl⟩⟩
theorem ok_Program__look_told : MtX.Ok g ⟨m_Program__look_told, 6, d_Program__look_told⟩ := ⟨rfl, fun _ kV doc pm an cdv ct s us h => match us, h with | [x0], _ => .of_eq rfl, (fun h => by cases h), by decide, rfl, rfl, chk_Program__look_told, hm_Program__look_told⟩
theorem ok_Program__deeds : MtX.Ok g ⟨m_Program__deeds, 1, d_Program__deeds⟩ := ⟨rfl, fun _ kV doc pm an cdv ct s us h => match us, h with | [x0], _ => .of_eq rfl, (fun h => by cases h), by decide, rfl, rfl, chk_Program__deeds, hm_Program__deeds⟩
theorem bd_Program____init__ (kV doc pm : Value) (an : Option Addr) (cdv ct : Value) : ∀ sh ∈ ([⟨3, [], [0, 1, 2, 3]⟩] : List Shape), ∀ (s : Shared) (us ws : List Value), us.length = sh.n + 1 → ws.length = sh.ks.length → BindsTo s (fdOf "__init__" (MtE.ql m_Program____init__) (topM 62 0) kV doc pm an cdv ct) ⟨us, sh.ks.zip ws⟩ ((["self", "width", "height", "deeds"] : List Str).zip (pick sh.ix (us ++ ws))) := by
  intro sh hsh
  rcases List.mem_singleton.mp hsh with rfl
  exact (fun s us ws h1 h2 => match us, ws, h1, h2 with | [x0, x1, x2, x3], [], _, _ => .of_eq rfl)
theorem ok_Program____init__ : MtX.Ok g ⟨m_Program____init__, 11, d_Program____init__⟩ := ⟨rfl, (fun h => absurd rfl h), fun _ => bd_Program____init__, by decide, rfl, rfl, chk_Program____init__, hm_Program____init__⟩
theorem ok_wrong_in_6 : LmX.Ok g ⟨l_wrong_in, 6, d_wrong_in⟩ := ⟨rfl, fun kV doc pm an cdv ct s us h => match us, h with | [x0, x1, x2, x3], _ => .of_eq rfl, by decide, rfl, chk_wrong_in_6, hm_wrong_in⟩
theorem ok_wrong_in_9 : LmX.Ok g ⟨l_wrong_in, 9, d_wrong_in⟩ := ⟨rfl, fun kV doc pm an cdv ct s us h => match us, h with | [x0, x1, x2, x3], _ => .of_eq rfl, by decide, rfl, chk_wrong_in_9, hm_wrong_in⟩
theorem all_xf0 : ∀ e ∈ xf0, FnX.Ok g e := by
  intro e he
  simp only [xf0, List.mem_cons, List.not_mem_nil, or_false] at he
  rcases he with rfl | rfl | rfl | rfl | rfl | rfl | rfl | rfl | rfl | rfl | rfl | rfl
  · exact ok__law_right
  · exact ok_is_let_by
  · exact ok_fault_by
  · exact ok_looked
  · exact ok_looked_at
  · exact ok_is_uneven
  · exact ok_called
  · exact ok_index_of
  · exact ok_is_aside
  · exact ok_effect_of
  · exact ok_is_whole
  · exact ok_behind
theorem all_xf1 : ∀ e ∈ xf1, FnX.Ok g e := by
  intro e he
  simp only [xf1, List.mem_cons, List.not_mem_nil, or_false] at he
  rcases he with rfl | rfl | rfl | rfl | rfl | rfl | rfl | rfl | rfl | rfl | rfl | rfl
  · exact ok_check_program
  · exact ok_first_fault
  · exact ok_effects
  · exact ok__law_same_b
  · exact ok__law_same_0
  · exact ok__law_same_1
  · exact ok__law_same_2
  · exact ok__law_same
  · exact ok__law_program_b
  · exact ok__law_program_0
  · exact ok__law_program
  · exact ok__law_words
theorem all_xf2 : ∀ e ∈ xf2, FnX.Ok g e := by
  intro e he
  simp only [xf2, List.mem_cons, List.not_mem_nil, or_false] at he
  rcases he with rfl | rfl | rfl | rfl | rfl | rfl | rfl | rfl | rfl | rfl | rfl | rfl
  · exact ok__law_plain_effect
  · exact ok__law_of
  · exact ok__law_draw
  · exact ok__law_number
  · exact ok__law_names
  · exact ok__law_own
  · exact ok__law_effect
  · exact ok__law_effect_l
  · exact ok__law_made
  · exact ok_wrong_in_deeds
  · exact ok_is_deed
  · exact ok_is_word_by
theorem all_xf3 : ∀ e ∈ xf3, FnX.Ok g e := by
  intro e he
  simp only [xf3, List.mem_cons, List.not_mem_nil, or_false] at he
  rcases he with rfl | rfl | rfl | rfl | rfl | rfl | rfl | rfl | rfl | rfl | rfl | rfl
  · exact ok_is_one_of
  · exact ok_is_number
  · exact ok_is_between
  · exact ok_is_call
  · exact ok_is_pair
  · exact ok_is_tuple_of
  · exact ok_is_name
  · exact ok_is_word
  · exact ok_check_number
  · exact ok__law_looked
  · exact ok__law_is_short
  · exact ok__law_any_program
theorem all_xf4 : ∀ e ∈ xf4, FnX.Ok g e := by
  intro e he
  simp only [xf4, List.mem_cons, List.not_mem_nil, or_false] at he
  rcases he with rfl | rfl
  · exact ok__law_any_words
  · exact ok__law_bowl
theorem all_xf : ∀ e ∈ t.fs, FnX.Ok g e := by
  intro e he
  have he : e ∈ xf0 ++ xf1 ++ xf2 ++ xf3 ++ xf4 := he
  rcases List.mem_append.mp he with he | he2
  case inr => exact all_xf4 e he2
  rcases List.mem_append.mp he with he | he2
  case inr => exact all_xf3 e he2
  rcases List.mem_append.mp he with he | he2
  case inr => exact all_xf2 e he2
  rcases List.mem_append.mp he with he | he2
  case inr => exact all_xf1 e he2
  exact all_xf0 e he
theorem all_xm0 : ∀ e ∈ xm0, MtX.Ok g e := by
  intro e he
  simp only [xm0, List.mem_cons, List.not_mem_nil, or_false] at he
  rcases he with rfl | rfl | rfl
  · exact ok_Program__look_told
  · exact ok_Program__deeds
  · exact ok_Program____init__
theorem all_xm : ∀ e ∈ t.ms, MtX.Ok g e := by
  intro e he
  have he : e ∈ xm0 := he
  exact all_xm0 e he
theorem all_xl0 : ∀ e ∈ xl0, LmX.Ok g e := by
  intro e he
  simp only [xl0, List.mem_cons, List.not_mem_nil, or_false] at he
  rcases he with rfl | rfl
  · exact ok_wrong_in_6
  · exact ok_wrong_in_9
theorem all_xl : ∀ e ∈ t.ls, LmX.Ok g e := by
  intro e he
  have he : e ∈ xl0 := he
  exact all_xl0 e he
theorem all_mk : ∀ e ∈ t.fs, e.d.mkr = true → e.fn.nm ∈ lamNames := by decide +kernel
theorem bd_law (kV doc pm : Value) (an : Option Addr) (cdv ct : Value) (s : Shared) (u : Value) : BindsTo s (fdOf "law" "law" d_law.st kV doc pm an cdv ct) ⟨[u], []⟩ [("script", u)] := .of_eq rfl
theorem law_at {l : PySem.W.OpenLaw} {w : World} {h : Heap} {K : PySem.W.Frag} {mg : Str → Option Value} {fa : Addr} (c : SaysP t d_law w h K) (X : K.In h) (G : h.Ns mainGlobals mg) (hfa : mg "law" = some (.ref fa)) : LamX.LawAtS l w K (L2.CX l.prog w) 15 63 "script" mg fa h :=
  lawAt (n := 14) (m := C_law) c X G hfa all_xf all_xm all_xl all_mk chk_law rfl rfl rfl hm_law bd_law law_end
end Dp.L

namespace Dp.L
open PySem PySem.Spec L2 Dp
open PyProof.Rows hiding St
open PySem.W PySem.Calls
abbrev R : PySem.W.OpenRow := PySem.W.OpenLaw.row PySem.Challenge.rw_inkbands_k06_whole_first_faults
abbrev qv : Program := PySem.W.view R.prog [87]
def names : List PySem.Str := (["_wall", "LETTERS", "MOST_LETTERS", "WORDS", "is_whole", "is_between", "is_one_of", "is_word", "is_name", "is_tuple_of", "is_pair", "wrong_in", "MOST_SIDE", "MOST_DEEDS", "MOST_WORDS", "MOST_NUMBER"] : List PySem.Str) ++ (["ADD", "SUB", "MUL", "DUP", "DROP", "SWAP", "INK", "SHIFT", "TURN", "FLIP", "BOX", "TRI", "CLIP", "PLAIN", "DO", "TIMES"] : List PySem.Str) ++ (["IF", "HOWS", "is_number", "is_call", "is_word_by", "is_deed", "wrong_in_deeds", "index_of", "NUMBER", "NOTHING", "EFFECTS", "UNEVEN", "SHORT", "behind", "called", "is_aside"] : List PySem.Str) ++ (["is_uneven", "effect_of", "looked_at", "looked", "fault_by", "InkError", "InvalidNumber", "NotAProgram", "InvalidDeeds", "Program", "check_number", "check_program", "effects", "first_fault", "is_let_by", "_law_bowl"] : List PySem.Str) ++ (["_law_draw", "_law_of", "_law_same", "_law_own", "_law_names", "_law_plain_effect", "_law_number", "_law_words", "_law_effect", "_law_program", "_law_made", "_law_looked", "_law_is_short", "_law_any_words", "_law_any_program", "_law_right"] : List PySem.Str)
def asN (g : Addr → Option Obj) : List Addr := Dp.asP t 5 g
noncomputable def ob (s : PySem.W.SharedT) : (Dp.hookP t d_law asN).α := Dp.obsP t d_law asN (HandSHeadRun.getT s)
theorem run_a (w : World) : HandSHeadRun.RunEq R qv (Dp.hookP t d_law asN) ob 20000 names (w.withFollow "special-get-raises" false) := by
  intro os; kernel_rfl
theorem run_b (w : World) : HandSHeadRun.RunEq R qv (Dp.hookP t d_law asN) ob 20000 names (w.withFollow "special-get-raises" true) := by
  intro os; kernel_rfl
theorem run (w : World) : HandSHeadRun.RunEq R qv (Dp.hookP t d_law asN) ob 20000 names w := PySem.W.byRow2 "special-get-raises" (P := fun w => HandSHeadRun.RunEq R qv (Dp.hookP t d_law asN) ob 20000 names w) run_a run_b w
end Dp.L

open PySem PySem.W PySem.Calls PyProof.Rows
set_option maxHeartbeats 0 in
theorem PySem.Challenge.cw_inkbands_k06_whole_first_faults_holds : PySem.Challenge.rw_inkbands_k06_whole_first_faults.Holds := by
  w_on; o_law
  refine HandSHeadRun.head_any (r := OpenLaw.row PySem.Challenge.rw_inkbands_k06_whole_first_faults) (q := Dp.L.qv) (H := Dp.hookP Dp.L.t Dp.L.d_law Dp.L.asN) (ob := Dp.L.ob) (M := 20000) (loose := Dp.L.names) (d := HandSHeadRun.topDef (OpenLaw.row PySem.Challenge.rw_inkbands_k06_whole_first_faults).prog 87) (kwd := []) (fun s => Dp.obsP_eq (HandSHeadRun.getT_eq s))
    (by kernel_rfl) (fun s => by kernel_rfl) Dp.L.run (by kernel_rfl) (by kernel_rfl) (by kernel_rfl) (by rfl) (by first | assumption | decide +kernel) (by decide +kernel) ⟨rfl, rfl, rfl, rfl, rfl, by decide +kernel⟩ ?hw ?hc
  case hw => w_witness2
  case hc =>
    refine LamX.walk_ofTsE (l := PySem.Challenge.rw_inkbands_k06_whole_first_faults) (n := 63) (k := 15) (x := "script") (CX := L2.CX PySem.Challenge.pw_inkbands_k06_whole_first_faults) rfl (by decide) (by kernel_rfl) ⟨rfl, by decide, by decide⟩ ?F Dp.noCX
    intro w mg fa h Y G hmg0
    obtain ⟨K, KX, c⟩ := Y
    have hmg : mg ("law" : PySem.Str) = some (.ref fa) := by
      have e : (HandSHeadRun.topDef (OpenLaw.row PySem.Challenge.rw_inkbands_k06_whole_first_faults).prog 87).name = ("law" : PySem.Str) := by kernel_rfl
      rw [← e]
      exact hmg0
    exact ⟨K, KX, Dp.L.law_at c KX G hmg⟩

