import PyProof.Rows.All
import Wide.All
import OpenK.AllK
import Wide.FinOn
import HandS.ForMost
import HandS.TupAny
import HandS.IsInst
import HandS.Exc
import HandS.HeadHook2
import KE.DataEq
import KE.SortData
import PyProof.ReprReads
import KE.DataFind
import KE.DataMinMax
import KE.DataCmp
import HandS.Style
import HandS.TupMul
import HandS.Conv
import PyProof.SeqIndex
import KE.KRevSl
import HandS.Comp
import HandS.Star
import HandS.CallSlots
import HandS.ExcOwn
import HandS.EndBits
import HandS.Strs
import HandS.SetFor
import HandS.Walk
import HandS.TryOnly
import KE.GoesMore
import KE.GoesEnum
import HandS.Iter
import HandS.More
import HandS.Head0
import HandS.Head1
import HandS.Head2
import HandS.HeadEnd
import HandS.HeadHook1
import HandS.HeadHook3
import HandS.HeadHook4
import HandS.Ends
import PySem.Challenge.RW_endorders_k74_whole_agreements_certified
set_option Elab.async false
set_option linter.all false
set_option maxRecDepth 100000
set_option maxHeartbeats 1000000
/-! PyA: values as trees, boxes, worlds; how they stand in HandS' abstract heap. -/
namespace Py
open PySem L2
inductive PV where
  | non | bl (b : Bool) | int (i : Int) | str (x : Str) | tup (xs : List PV) | lst (xs : List PV)
  | dct (ks : List Key) (vs : List PV) | box (k : Nat) | scr (xs : List PV)
deriving Inhabited
inductive PO where
  | lst (xs : List PV)
  | ins (C : Str) (fs : List (Str × PV))
deriving Inhabited
abbrev PH := List PO
structure PEx where
  cls : Str
  fs : List (Str × PV)
inductive Out (α : Type) where
  | ok (a : α) (ph : PH) | exc (e : PEx) (ph : PH) | stuck
abbrev PM (α : Type) := PH → Out α
def PM.bind {α β : Type} (m : PM α) (f : α → PM β) : PM β := fun ph => match m ph with
  | .ok a ph' => f a ph'
  | .exc e ph' => .exc e ph'
  | .stuck => .stuck
def PM.pure {α : Type} (a : α) : PM α := fun ph => .ok a ph
def PM.stuck {α : Type} : PM α := fun _ => .stuck
def PM.ofO {α : Type} : Option α → PM α
  | some a => PM.pure a
  | none => PM.stuck
instance : Monad PM where
  pure := PM.pure
  bind := PM.bind
def Sat {α : Type} (o : Out α) (Q : α → PH → Prop) (E : PEx → PH → Prop) : Prop := match o with
  | .ok a ph => Q a ph
  | .exc e ph => E e ph
  | .stuck => False
theorem sat_bind {α β : Type} {m : PM α} {f : α → PM β} {ph : PH} {Q : β → PH → Prop} {E : PEx → PH → Prop} :
    Sat ((m >>= f) ph) Q E ↔ Sat (m ph) (fun a ph' => Sat (f a ph') Q E) E := by
  show Sat (PM.bind m f ph) Q E ↔ _
  unfold PM.bind
  cases m ph <;> exact Iff.rfl
theorem sat_bind' {α β : Type} {m : PM α} {f : α → PM β} {ph : PH} {Q : β → PH → Prop} {E : PEx → PH → Prop} :
    Sat (PM.bind m f ph) Q E ↔ Sat (m ph) (fun a ph' => Sat (f a ph') Q E) E := sat_bind
theorem sat_pure {α : Type} {a : α} {ph : PH} {Q : α → PH → Prop} {E : PEx → PH → Prop} : Sat ((pure a : PM α) ph) Q E ↔ Q a ph := Iff.rfl
theorem sat_stuck {α : Type} {ph : PH} {Q : α → PH → Prop} {E : PEx → PH → Prop} : Sat ((PM.stuck : PM α) ph) Q E ↔ False := Iff.rfl
theorem sat_ofO {α : Type} {o : Option α} {ph : PH} {Q : α → PH → Prop} {E : PEx → PH → Prop} : Sat (PM.ofO o ph) Q E ↔ ∃ a, o = some a ∧ Q a ph := by
  cases o with
  | none => exact ⟨False.elim, fun ⟨_, h, _⟩ => nomatch h⟩
  | some a => exact ⟨fun h => ⟨a, rfl, h⟩, fun ⟨_, e, h⟩ => by cases e; exact h⟩
theorem Sat.mono {α : Type} {o : Out α} {Q Q' : α → PH → Prop} {E E' : PEx → PH → Prop} (h : Sat o Q E) (hq : ∀ a p, Q a p → Q' a p) (he : ∀ a p, E a p → E' a p) : Sat o Q' E' := by
  cases o with
  | ok a p => exact hq a p h
  | exc e p => exact he e p h
  | stuck => exact h

/-! ### worlds -/
structure Ws where
  ρ : List Addr
  S : Addr → Prop
  H : Hp
/-- a tuple of the written part -/
def KTup (K : PySem.W.Frag) (a : Addr) (xs : List V) : Prop :=
  ∃ (o : Obj) (its : Array Value) (n : Nat), K.lookup a = some o ∧ o.cls = .type "tuple" ∧ o.data = .seq its n ∧ its.size ≤ sizeLine ∧ Vals xs its.toList ∧ o.dict = none
/-- a tuple that the program made: its very object is known to have no dict -/
def TupD (H : Hp) (a : Addr) (xs : List V) : Prop := ∃ o : Obj, H a = some (.frz o (.tup xs)) ∧ o.dict = none
theorem TupD.rd {H : Hp} {a : Addr} {xs : List V} (h : TupD H a xs) : Rd H a (.tup xs) := let ⟨o, h, _⟩ := h; .inr ⟨o, h⟩
/-- a list of the written part -/
def KLst (K : PySem.W.Frag) (a : Addr) (xs : List V) : Prop :=
  ∃ (o : Obj) (its : Array Value) (n : Nat), K.lookup a = some o ∧ o.cls = .type "list" ∧ o.dict = none ∧ o.data = .seq its n ∧ its.size ≤ sizeLine ∧ Vals xs its.toList
mutual
def Rel (K : PySem.W.Frag) (w : Ws) : PV → V → Prop
  | .non, v => v = .non
  | .bl b, v => v = .bl b
  | .int i, v => v = .int i
  | .str x, v => v = .str x
  | .tup xs, v => ∃ a vs, v = .ref a ∧ ((w.S a ∧ TupD w.H a vs) ∨ KTup K a vs) ∧ Rels K w xs vs
  | .lst xs, v => ∃ a vs, v = .ref a ∧ (w.S a ∧ Rd w.H a (.lst vs)) ∧ Rels K w xs vs
  | .dct ks xs, v => ∃ a vs, v = .ref a ∧ (w.S a ∧ Rd w.H a (.dK (ks.zip vs))) ∧ ks.length = vs.length ∧ Rels K w xs vs
  | .box k, v => ∃ a, v = .ref a ∧ w.ρ[k]? = some a
  | .scr xs, v => ∃ a vs, v = .ref a ∧ ((w.S a ∧ Rd w.H a (.lst vs)) ∨ KLst K a vs) ∧ Rels K w xs vs
def Rels (K : PySem.W.Frag) (w : Ws) : List PV → List V → Prop
  | [], [] => True
  | x :: xs, v :: vs => Rel K w x v ∧ Rels K w xs vs
  | _, _ => False
end
/-- what is frozen stays -/
structure Sle (a b : Ws) : Prop where
  pre : ∃ t, b.ρ = a.ρ ++ t
  S1 : ∀ x, a.S x → b.S x
  keep : ∀ x o, a.S x → a.H x = some o → b.H x = some o
theorem Sle.refl (a : Ws) : Sle a a := ⟨⟨[], by simp⟩, fun _ h => h, fun _ _ _ h => h⟩
theorem Sle.trans {a b c : Ws} (h : Sle a b) (g : Sle b c) : Sle a c := by
  obtain ⟨t, e⟩ := h.pre
  obtain ⟨u, e'⟩ := g.pre
  exact ⟨⟨t ++ u, by rw [e', e, List.append_assoc]⟩, fun x s => g.S1 x (h.S1 x s), fun x o s q => g.keep x o (h.S1 x s) (h.keep x o s q)⟩
theorem Sle.rd {a b : Ws} (h : Sle a b) {x : Addr} {u : HO} (s : a.S x) (r : Rd a.H x u) : Rd b.H x u := by
  rcases r with r | ⟨o, r⟩
  · exact .inl (h.keep _ _ s r)
  · exact .inr ⟨o, h.keep _ _ s r⟩
mutual
theorem Rel.mono {K : PySem.W.Frag} {a b : Ws} (h : Sle a b) : ∀ (p : PV) (v : V), Rel K a p v → Rel K b p v
  | .non, v, r => r
  | .bl _, v, r => r
  | .int _, v, r => r
  | .str _, v, r => r
  | .tup xs, v, r => by
    rw [Rel] at r ⊢
    obtain ⟨x, vs, e, s, q⟩ := r
    refine ⟨x, vs, e, ?_, Rels.mono h xs vs q⟩
    rcases s with ⟨s, o, z, d⟩ | s
    · exact .inl ⟨h.S1 _ s, o, h.keep _ _ s z, d⟩
    · exact .inr s
  | .lst xs, v, r => by
    rw [Rel] at r ⊢
    obtain ⟨x, vs, e, ⟨s, z⟩, q⟩ := r
    exact ⟨x, vs, e, ⟨h.S1 _ s, h.rd s z⟩, Rels.mono h xs vs q⟩
  | .dct ks xs, v, r => by
    rw [Rel] at r ⊢
    obtain ⟨x, vs, e, ⟨s, z⟩, l, q⟩ := r
    exact ⟨x, vs, e, ⟨h.S1 _ s, h.rd s z⟩, l, Rels.mono h xs vs q⟩
  | .box k, v, r => by
    rw [Rel] at r ⊢
    obtain ⟨x, e, q⟩ := r
    obtain ⟨t, et⟩ := h.pre
    refine ⟨x, e, ?_⟩
    rw [et, List.getElem?_append_left (List.getElem?_eq_some_iff.mp q).1]
    exact q
  | .scr xs, v, r => by
    rw [Rel] at r ⊢
    obtain ⟨x, vs, e, s, q⟩ := r
    refine ⟨x, vs, e, ?_, Rels.mono h xs vs q⟩
    rcases s with ⟨s, z⟩ | s
    · exact .inl ⟨h.S1 _ s, h.rd s z⟩
    · exact .inr s
theorem Rels.mono {K : PySem.W.Frag} {a b : Ws} (h : Sle a b) : ∀ (ps : List PV) (vs : List V), Rels K a ps vs → Rels K b ps vs
  | [], [], r => r
  | x :: xs, v :: vs, r => by
    rw [Rels] at r ⊢
    exact ⟨Rel.mono h x v r.1, Rels.mono h xs vs r.2⟩
  | [], _ :: _, r => by simp [Rels] at r
  | _ :: _, [], r => by simp [Rels] at r
end
section
variable {K : PySem.W.Frag} {w : Ws}
theorem Rels.length : ∀ {xs : List PV} {vs : List V}, Rels K w xs vs → xs.length = vs.length
  | [], [], _ => rfl
  | x :: xs, v :: vs, r => by rw [Rels] at r; simp [Rels.length r.2]
  | [], _ :: _, r => by simp [Rels] at r
  | _ :: _, [], r => by simp [Rels] at r
theorem Rels.get : ∀ {xs : List PV} {vs : List V} {i : Nat} {x : PV}, Rels K w xs vs → xs[i]? = some x → ∃ v, vs[i]? = some v ∧ Rel K w x v
  | [], [], _, _, _, h => by simp at h
  | x :: xs, v :: vs, 0, y, r, h => by
    rw [Rels] at r
    simp at h
    subst h
    exact ⟨v, rfl, r.1⟩
  | x :: xs, v :: vs, i + 1, y, r, h => by
    rw [Rels] at r
    obtain ⟨u, h1, h2⟩ := Rels.get (i := i) (x := y) r.2 (by simpa using h)
    exact ⟨u, by simpa using h1, h2⟩
  | [], _ :: _, _, _, r, _ => by simp [Rels] at r
  | _ :: _, [], _, _, r, _ => by simp [Rels] at r
theorem Rels.getV : ∀ {xs : List PV} {vs : List V} {i : Nat} {v : V}, Rels K w xs vs → vs[i]? = some v → ∃ x, xs[i]? = some x ∧ Rel K w x v := fun {xs vs i v} r h => by
  have hl := r.length
  have hi : i < xs.length := by rw [hl]; exact (List.getElem?_eq_some_iff.mp h).1
  obtain ⟨u, h1, h2⟩ := r.get (List.getElem?_eq_getElem hi)
  rw [h] at h1
  cases h1
  exact ⟨_, List.getElem?_eq_getElem hi, h2⟩
theorem Rels.append : ∀ {xs ys : List PV} {vs us : List V}, Rels K w xs vs → Rels K w ys us → Rels K w (xs ++ ys) (vs ++ us)
  | [], _, [], _, _, s => s
  | x :: xs, _, v :: vs, _, r, s => by
    rw [Rels] at r
    show Rels K w (x :: (xs ++ _)) (v :: (vs ++ _))
    rw [Rels]
    exact ⟨r.1, Rels.append r.2 s⟩
  | [], _, _ :: _, _, r, _ => by simp [Rels] at r
  | _ :: _, _, [], _, r, _ => by simp [Rels] at r
theorem Rels.take : ∀ {xs : List PV} {vs : List V} (n : Nat), Rels K w xs vs → Rels K w (xs.take n) (vs.take n)
  | _, _, 0, _ => by simp [Rels]
  | [], [], _ + 1, r => by simp [Rels]
  | x :: xs, v :: vs, n + 1, r => by
    rw [Rels] at r
    simp only [List.take_succ_cons]
    rw [Rels]
    exact ⟨r.1, Rels.take n r.2⟩
  | [], _ :: _, _ + 1, r => by simp [Rels] at r
  | _ :: _, [], _ + 1, r => by simp [Rels] at r
theorem Rels.drop : ∀ {xs : List PV} {vs : List V} (n : Nat), Rels K w xs vs → Rels K w (xs.drop n) (vs.drop n)
  | _, _, 0, r => r
  | [], [], _ + 1, r => by simp [Rels]
  | x :: xs, v :: vs, n + 1, r => by
    rw [Rels] at r
    exact Rels.drop n r.2
  | [], _ :: _, _ + 1, r => by simp [Rels] at r
  | _ :: _, [], _ + 1, r => by simp [Rels] at r
theorem Rels.set : ∀ {xs : List PV} {vs : List V} (i : Nat) {x : PV} {v : V}, Rels K w xs vs → Rel K w x v → Rels K w (xs.set i x) (vs.set i v)
  | [], [], _, _, _, r, _ => by simp [Rels]
  | x :: xs, v :: vs, 0, _, _, r, q => by
    rw [Rels] at r
    show Rels K w (_ :: xs) (_ :: vs)
    rw [Rels]
    exact ⟨q, r.2⟩
  | x :: xs, v :: vs, n + 1, _, _, r, q => by
    rw [Rels] at r
    show Rels K w (x :: xs.set n _) (v :: vs.set n _)
    rw [Rels]
    exact ⟨r.1, Rels.set n r.2 q⟩
  | [], _ :: _, _, _, _, r, _ => by simp [Rels] at r
  | _ :: _, [], _, _, _, r, _ => by simp [Rels] at r
theorem Rels.reverse {xs : List PV} {vs : List V} (r : Rels K w xs vs) : Rels K w xs.reverse vs.reverse := by
  induction xs generalizing vs with
  | nil => cases vs with
    | nil => simpa using r
    | cons _ _ => simp [Rels] at r
  | cons x xs ih => cases vs with
    | nil => simp [Rels] at r
    | cons v vs =>
      rw [Rels] at r
      simp only [List.reverse_cons]
      exact (ih r.2).append (by simp [Rels]; exact r.1)
theorem Rels.nil : Rels K w [] [] := by simp [Rels]
theorem Rels.cons {x : PV} {v : V} {xs : List PV} {vs : List V} (a : Rel K w x v) (b : Rels K w xs vs) : Rels K w (x :: xs) (v :: vs) := by
  rw [Rels]
  exact ⟨a, b⟩
theorem Rels.one {x : PV} {v : V} (a : Rel K w x v) : Rels K w [x] [v] := .cons a .nil
theorem KTup.sq {a : Addr} {vs : List V} (h : KTup K a vs) (H : Hp) : SqT K H a vs := let ⟨o, its, n, h1, h2, h3, h4, h5, _⟩ := h; .inr ⟨o, its, n, h1, h2, h3, h4, h5⟩
theorem sqT_of {a : Addr} {vs : List V} (h : (w.S a ∧ TupD w.H a vs) ∨ KTup K a vs) : SqT K w.H a vs := by
  rcases h with ⟨_, h⟩ | h
  · exact .inl h.rd
  · exact h.sq _
end

/-- what an expression, a call may do: boxes change, all else stays; what is new may be frozen -/
structure Ev (a b : Ws) : Prop where
  pre : ∃ t, b.ρ = a.ρ ++ t ∧ ∀ x ∈ t, a.H x = none
  S1 : ∀ x, a.S x → b.S x
  S2 : ∀ x, b.S x → a.S x ∨ a.H x = none
  keep : ∀ x o, a.H x = some o → x ∉ a.ρ → b.H x = some o
  trk : ∀ x, a.H x ≠ none → b.H x ≠ none
theorem Ev.refl (a : Ws) : Ev a a := ⟨⟨[], by simp⟩, fun _ h => h, fun _ h => .inl h, fun _ _ h _ => h, fun _ h => h⟩
theorem Ev.trans {a b c : Ws} (h : Ev a b) (g : Ev b c) : Ev a c := by
  obtain ⟨t, e, n⟩ := h.pre
  obtain ⟨u, e', n'⟩ := g.pre
  have back : ∀ x, b.H x = none → a.H x = none := fun x z => by
    cases q : a.H x with
    | none => rfl
    | some o => exact absurd z (h.trk x (by rw [q]; simp))
  refine ⟨⟨t ++ u, by rw [e', e, List.append_assoc], fun x hx => ?_⟩, fun x s => g.S1 x (h.S1 x s), fun x s => ?_, fun x o q hx => ?_, fun x q => g.trk x (h.trk x q)⟩
  · rcases List.mem_append.mp hx with z | z
    · exact n x z
    · exact back x (n' x z)
  · rcases g.S2 x s with z | z
    · exact h.S2 x z
    · exact .inr (back x z)
  · refine g.keep x o (h.keep x o q hx) fun z => ?_
    rw [e] at z
    rcases List.mem_append.mp z with z | z
    · exact hx z
    · rw [n x z] at q
      cases q
/-- an object of a world -/
def RelO (K : PySem.W.Frag) (w : Ws) : PO → Option HO → Prop
  | .lst xs, ho => ∃ vs, ho = some (.lst vs) ∧ Rels K w xs vs
  | .ins C fs, ho => ∃ dx us, ho = some (.ins (He.ga K C) dx ((fs.map Prod.fst).zip us)) ∧ Rels K w (fs.map Prod.snd) us
theorem RelO.mono {K : PySem.W.Frag} {a b : Ws} (h : Sle a b) {o : PO} {u : Option HO} (r : RelO K a o u) : RelO K b o u := by
  cases o with
  | lst xs =>
    obtain ⟨vs, e, q⟩ := r
    exact ⟨vs, e, Rels.mono h _ _ q⟩
  | ins C fs =>
    obtain ⟨dx, us, e, q⟩ := r
    exact ⟨dx, us, e, Rels.mono h _ _ q⟩
structure Wf (K : PySem.W.Frag) (w : Ws) (ph : PH) : Prop where
  Sin : ∀ x, w.S x → w.H x ≠ none
  Sρ : ∀ x ∈ w.ρ, ¬ w.S x
  ρin : ∀ x ∈ w.ρ, w.H x ≠ none
  nd : w.ρ.Nodup
  len : w.ρ.length = ph.length
  box : ∀ (k : Nat) (o : PO) (x : Addr), ph[k]? = some o → w.ρ[k]? = some x → RelO K w o (w.H x)
theorem Ev.sle {K : PySem.W.Frag} {a b : Ws} {ph : PH} (h : Ev a b) (f : Wf K a ph) : Sle a b := by
  obtain ⟨t, e, n⟩ := h.pre
  exact ⟨⟨t, e⟩, h.S1, fun x o s q => h.keep x o q fun z => f.Sρ x z s⟩

/-! ### new objects -/
section
variable {K : PySem.W.Frag} {w : Ws} {ph : PH}
/-- a new object p, not frozen -/
def Ws.lay (w : Ws) (p : Addr) (o : HO) : Ws := { w with H := upd w.H p o }
/-- a new object p, frozen -/
def Ws.layF (w : Ws) (p : Addr) (o : HO) : Ws := { w with H := upd w.H p o, S := fun x => w.S x ∨ x = p }
/-- p is frozen now -/
def Ws.frz (w : Ws) (p : Addr) : Ws := { w with S := fun x => w.S x ∨ x = p }
theorem upd_none {H : Hp} {p x : Addr} {o : HO} (h : H x ≠ none) : upd H p o x ≠ none := by
  by_cases e : x = p
  · rw [e, upd_same]; simp
  · rw [upd_ne e]; exact h
theorem ev_lay {p : Addr} {o : HO} (hp : w.H p = none) : Ev w (w.lay p o) :=
  ⟨⟨[], by simp [Ws.lay]⟩, fun _ h => h, fun _ h => .inl h, fun x u q _ => by
    show upd w.H p o x = some u
    rw [upd_ne (ne_of_none q hp)]; exact q, fun x h => upd_none h⟩
theorem ev_layF {p : Addr} {o : HO} (hp : w.H p = none) : Ev w (w.layF p o) :=
  ⟨⟨[], by simp [Ws.layF]⟩, fun _ h => .inl h, fun x h => by
    rcases h with h | h
    · exact .inl h
    · rw [h]; exact .inr hp, fun x u q _ => by
    show upd w.H p o x = some u
    rw [upd_ne (ne_of_none q hp)]; exact q, fun x h => upd_none h⟩
theorem wf_lay {p : Addr} {o : HO} (f : Wf K w ph) (hp : w.H p = none) : Wf K (w.lay p o) ph := by
  have sl := (ev_lay (w := w) (o := o) hp).sle f
  refine ⟨fun x h => upd_none (f.Sin x h), f.Sρ, fun x h => upd_none (f.ρin x h), f.nd, f.len, fun k u x e h => ?_⟩
  have hx : x ∈ w.ρ := List.mem_of_getElem? h
  have z : (w.lay p o).H x = w.H x := upd_ne fun q => f.ρin x hx (q ▸ hp)
  rw [z]
  exact (f.box k u x e h).mono sl
theorem wf_layF {p : Addr} {o : HO} (f : Wf K w ph) (hp : w.H p = none) : Wf K (w.layF p o) ph := by
  have sl := (ev_layF (w := w) (o := o) hp).sle f
  refine ⟨fun x h => ?_, fun x hx h => ?_, fun x h => upd_none (f.ρin x h), f.nd, f.len, fun k u x e h => ?_⟩
  · rcases h with h | h
    · exact upd_none (f.Sin x h)
    · show upd w.H p o x ≠ none
      rw [h, upd_same]; simp
  · rcases h with h | h
    · exact f.Sρ x hx h
    · exact f.ρin x hx (h ▸ hp)
  · have hx : x ∈ w.ρ := List.mem_of_getElem? h
    have z : (w.layF p o).H x = w.H x := upd_ne fun q => f.ρin x hx (q ▸ hp)
    rw [z]
    exact (f.box k u x e h).mono sl
end

/-- a value as it is handed on: frozen, or (fr) a list that is new since w0 and that nothing else names -/
def RelF (K : PySem.W.Frag) (w0 w : Ws) : PV × Bool → V → Prop
  | (p, false), v => Rel K w p v
  | (p, true), v => ∃ a xs vs, p = .lst xs ∧ v = .ref a ∧ w.H a = some (.lst vs) ∧ ¬ w.S a ∧ w0.H a = none ∧ a ∉ w.ρ ∧ Rels K w xs vs
/-- a value to be looked at: its top may be a list that is not frozen -/
def RelB (K : PySem.W.Frag) (w : Ws) : PV → V → Prop
  | .lst xs, v => ∃ a vs, v = .ref a ∧ Rd w.H a (.lst vs) ∧ a ∉ w.ρ ∧ Rels K w xs vs
  | p, v => Rel K w p v
section
variable {K : PySem.W.Frag} {w w' w0 : Ws} {ph : PH}
theorem RelB.of {p : PV} {v : V} (f : Wf K w ph) (r : Rel K w p v) : RelB K w p v := by
  cases p with
  | lst xs =>
    rw [Rel] at r
    obtain ⟨a, vs, e, ⟨s, z⟩, q⟩ := r
    exact ⟨a, vs, e, z, fun h => f.Sρ a h s, q⟩
  | _ => exact r
theorem RelF.b {r : PV × Bool} {v : V} (f : Wf K w ph) (h : RelF K w0 w r v) : RelB K w r.1 v := by
  obtain ⟨p, b⟩ := r
  cases b with
  | false => exact RelB.of f h
  | true =>
    obtain ⟨a, xs, vs, rfl, e, z, _, _, n, q⟩ := h
    exact ⟨a, vs, e, .inl z, n, q⟩
theorem RelB.mono {p : PV} {v : V} (f : Wf K w ph) (h : Ev w w') (r : RelB K w p v) : RelB K w' p v := by
  have sl := h.sle f
  cases p with
  | lst xs =>
    obtain ⟨a, vs, e, z, n, q⟩ := r
    obtain ⟨t, et, nt⟩ := h.pre
    refine ⟨a, vs, e, ?_, fun hz => ?_, Rels.mono sl _ _ q⟩
    · rcases z with z | ⟨o, z⟩
      · exact .inl (h.keep _ _ z n)
      · exact .inr ⟨o, h.keep _ _ z n⟩
    · rw [et] at hz
      rcases List.mem_append.mp hz with hz | hz
      · exact n hz
      · have := nt a hz
        rcases z with z | ⟨o, z⟩ <;> (rw [this] at z; cases z)
  | _ => exact Rel.mono sl _ _ r
theorem RelF.mono {r : PV × Bool} {v : V} (f : Wf K w ph) (h : Ev w w') (q : RelF K w0 w r v) : RelF K w0 w' r v := by
  have sl := h.sle f
  obtain ⟨p, b⟩ := r
  cases b with
  | false => exact Rel.mono sl _ _ q
  | true =>
    obtain ⟨a, xs, vs, e1, e2, z, ns, n0, n, q⟩ := q
    obtain ⟨t, et, nt⟩ := h.pre
    refine ⟨a, xs, vs, e1, e2, h.keep _ _ z n, fun s => ?_, n0, fun hz => ?_, Rels.mono sl _ _ q⟩
    · rcases h.S2 a s with s | s
      · exact ns s
      · rw [s] at z; cases z
    · rw [et] at hz
      rcases List.mem_append.mp hz with hz | hz
      · exact n hz
      · rw [nt a hz] at z; cases z
theorem RelF.weak {w1 : Ws} {r : PV × Bool} {v : V} (h : ∀ x, w0.H x = none → w1.H x = none) (q : RelF K w0 w r v) : RelF K w1 w r v := by
  obtain ⟨p, b⟩ := r
  cases b with
  | false => exact q
  | true =>
    obtain ⟨a, xs, vs, e1, e2, z, ns, n0, n, q⟩ := q
    exact ⟨a, xs, vs, e1, e2, z, ns, h a n0, n, q⟩
/-- freezing -/
theorem sle_frz {p : Addr} : Sle w (w.frz p) := ⟨⟨[], by simp [Ws.frz]⟩, fun _ h => .inl h, fun _ _ _ h => h⟩
theorem wf_frz {p : Addr} (f : Wf K w ph) (hp : w.H p ≠ none) (hn : p ∉ w.ρ) : Wf K (w.frz p) ph := by
  refine ⟨fun x h => ?_, fun x hx h => ?_, f.ρin, f.nd, f.len, fun k u x e h => (f.box k u x e h).mono sle_frz⟩
  · rcases h with h | h
    · exact f.Sin x h
    · rw [h]; exact hp
  · rcases h with h | h
    · exact f.Sρ x hx h
    · exact hn (h ▸ hx)
/-- what is handed on may be frozen -/
theorem RelF.freeze {r : PV × Bool} {v : V} (f : Wf K w ph) (e : Ev w0 w) (q : RelF K w0 w r v) : ∃ w', Ev w0 w' ∧ Sle w w' ∧ w'.H = w.H ∧ w'.ρ = w.ρ ∧ Wf K w' ph ∧ Rel K w' r.1 v ∧ (∀ x, w'.S x → w.S x ∨ w0.H x = none) ∧ (∀ x, w'.S x → w.S x ∨ v = .ref x) := by
  obtain ⟨p, b⟩ := r
  cases b with
  | false => exact ⟨w, e, Sle.refl w, rfl, rfl, f, q, fun _ h => .inl h, fun _ h => .inl h⟩
  | true =>
    obtain ⟨a, xs, vs, e1, e2, z, ns, n0, n, q⟩ := q
    have f' := wf_frz (p := a) f (by rw [z]; simp) n
    refine ⟨w.frz a, ⟨e.pre, fun x h => .inl (e.S1 x h), fun x h => ?_, e.keep, e.trk⟩, sle_frz, rfl, rfl, f', ?_, fun x h => ?_, fun x h => ?_⟩
    · rcases h with h | h
      · exact e.S2 x h
      · exact .inr (h ▸ n0)
    · show Rel K _ p v
      rw [e1, Rel]
      exact ⟨a, vs, e2, ⟨.inr rfl, .inl z⟩, Rels.mono sle_frz _ _ q⟩
    · rcases h with h | h
      · exact .inl h
      · exact .inr (h ▸ n0)
    · rcases h with h | h
      · exact .inl h
      · exact .inr (by rw [e2, h])
end

/-! ### slots -/
abbrev PEnv := List (Option (PV × Bool))
/-- the slots: w0 is the def's entry -/
structure EnvR (K : PySem.W.Frag) (w0 w : Ws) (env : PEnv) (σ : St) : Prop where
  len : env.length = σ.length
  val : ∀ (i : Nat) v, env[i]? = some (some (v, false)) → ∃ x, σ[i]? = some (some x) ∧ Rel K w v x
  own : ∀ (i : Nat) v, env[i]? = some (some (v, true)) → ∃ a xs vs, v = .lst xs ∧ σ[i]? = some (some (.ref a)) ∧ w.H a = some (.lst vs) ∧ ¬ w.S a ∧ w0.H a = none ∧ a ∉ w.ρ ∧ Rels K w xs vs
  dis : ∀ (i j : Nat) v u a, i ≠ j → env[i]? = some (some (v, true)) → env[j]? = some (some (u, true)) → σ[i]? = some (some (.ref a)) → σ[j]? = some (some (.ref a)) → False
section
variable {K : PySem.W.Frag} {w w' w0 : Ws} {ph : PH} {env : PEnv} {σ : St}
theorem EnvR.mono (f : Wf K w ph) (h : Ev w w') (r : EnvR K w0 w env σ) : EnvR K w0 w' env σ := by
  have sl := h.sle f
  refine ⟨r.len, fun i v e => ?_, fun i v e => ?_, r.dis⟩
  · obtain ⟨x, e1, q⟩ := r.val i v e
    exact ⟨x, e1, Rel.mono sl _ _ q⟩
  · obtain ⟨a, xs, vs, e1, e2, z, ns, n0, n, q⟩ := r.own i v e
    have := RelF.mono (r := (v, true)) f h ⟨a, xs, vs, e1, rfl, z, ns, n0, n, q⟩
    obtain ⟨a', xs', vs', e1', e2', q'⟩ := this
    cases e2'
    exact ⟨a, xs', vs', e1', e2, q'⟩
/-- a new frozen address that no owned slot has -/
theorem EnvR.frz {p : Addr} (r : EnvR K w0 w env σ) (h : ∀ (i : Nat) v, env[i]? = some (some (v, true)) → σ[i]? ≠ some (some (.ref p))) : EnvR K w0 (w.frz p) env σ := by
  refine ⟨r.len, fun i v e => ?_, fun i v e => ?_, r.dis⟩
  · obtain ⟨x, e1, q⟩ := r.val i v e
    exact ⟨x, e1, Rel.mono sle_frz _ _ q⟩
  · obtain ⟨a, xs, vs, e1, e2, z, ns, n0, n, q⟩ := r.own i v e
    refine ⟨a, xs, vs, e1, e2, z, fun s => ?_, n0, n, Rels.mono sle_frz _ _ q⟩
    rcases s with s | s
    · exact ns s
    · exact h i v e (s ▸ e2)
/-- a slot gets a value that is not owned -/
theorem EnvR.setV {i : Nat} {v : PV} {x : V} (r : EnvR K w0 w env σ) (q : Rel K w v x) : EnvR K w0 w (env.set i (some (v, false))) (σ.set i (some x)) := by
  have lk : ∀ {α : Type} {l : List (Option α)} {y : α} {z : Option α} {j : Nat}, j ≠ i → (l.set i (some y))[j]? = some z → l[j]? = some z := fun {α l y z j} hj e => by
    rw [List.getElem?_set_ne (Ne.symm hj)] at e; exact e
  have hl := r.len
  refine ⟨by simp [hl], fun j u e => ?_, fun j u e => ?_, fun j k u t a hjk e1 e2 e3 e4 => ?_⟩
  · by_cases hj : j = i
    · subst hj
      have hlt : j < env.length := by
        have := (List.getElem?_eq_some_iff.mp e).1
        simpa using this
      rw [List.getElem?_set_self hlt] at e
      cases e
      exact ⟨x, by rw [List.getElem?_set_self (by omega)], q⟩
    · obtain ⟨y, e1, q1⟩ := r.val j u (lk hj e)
      exact ⟨y, by rw [List.getElem?_set_ne (Ne.symm hj)]; exact e1, q1⟩
  · by_cases hj : j = i
    · subst hj
      have hlt : j < env.length := by
        have := (List.getElem?_eq_some_iff.mp e).1
        simpa using this
      rw [List.getElem?_set_self hlt] at e
      cases e
    · obtain ⟨a, xs, vs, h1, h2, h3⟩ := r.own j u (lk hj e)
      exact ⟨a, xs, vs, h1, by rw [List.getElem?_set_ne (Ne.symm hj)]; exact h2, h3⟩
  · have nj : ∀ {j : Nat} {u : PV}, (env.set i (some (v, false)))[j]? = some (some (u, true)) → j ≠ i := fun {j u} e hj => by
      subst hj
      have hlt : j < env.length := by
        have := (List.getElem?_eq_some_iff.mp e).1
        simpa using this
      rw [List.getElem?_set_self hlt] at e
      cases e
    exact r.dis j k u t a hjk (lk (nj e1) e1) (lk (nj e2) e2) (lk (nj e1) e3) (lk (nj e2) e4)
/-- a slot gets an owned list -/
theorem EnvR.setO {i : Nat} {a : Addr} {xs : List PV} {vs : List V} (r : EnvR K w0 w env σ) (z : w.H a = some (.lst vs)) (ns : ¬ w.S a) (n0 : w0.H a = none) (n : a ∉ w.ρ) (q : Rels K w xs vs)
    (hd : ∀ (j : Nat) u, j ≠ i → env[j]? = some (some (u, true)) → σ[j]? ≠ some (some (.ref a))) : EnvR K w0 w (env.set i (some (.lst xs, true))) (σ.set i (some (.ref a))) := by
  have lk : ∀ {α : Type} {l : List (Option α)} {y : α} {z : Option α} {j : Nat}, j ≠ i → (l.set i (some y))[j]? = some z → l[j]? = some z := fun {α l y z j} hj e => by
    rw [List.getElem?_set_ne (Ne.symm hj)] at e; exact e
  have hl := r.len
  refine ⟨by simp [hl], fun j u e => ?_, fun j u e => ?_, fun j k u t b hjk e1 e2 e3 e4 => ?_⟩
  · by_cases hj : j = i
    · subst hj
      have hlt : j < env.length := by
        have := (List.getElem?_eq_some_iff.mp e).1
        simpa using this
      rw [List.getElem?_set_self hlt] at e
      cases e
    · obtain ⟨y, e1, q1⟩ := r.val j u (lk hj e)
      exact ⟨y, by rw [List.getElem?_set_ne (Ne.symm hj)]; exact e1, q1⟩
  · by_cases hj : j = i
    · subst hj
      have hlt : j < env.length := by
        have := (List.getElem?_eq_some_iff.mp e).1
        simpa using this
      rw [List.getElem?_set_self hlt] at e
      cases e
      exact ⟨a, xs, vs, rfl, by rw [List.getElem?_set_self (by omega)], z, ns, n0, n, q⟩
    · obtain ⟨b, ys, us, h1, h2, h3⟩ := r.own j u (lk hj e)
      exact ⟨b, ys, us, h1, by rw [List.getElem?_set_ne (Ne.symm hj)]; exact h2, h3⟩
  · have at_ : ∀ {j : Nat} {b : Addr}, j = i → (σ.set i (some (V.ref a)))[j]? = some (some (V.ref b)) → b = a := fun {j b} hj e => by
      subst hj
      have hlt : j < σ.length := by
        have := (List.getElem?_eq_some_iff.mp e).1
        simpa using this
      rw [List.getElem?_set_self hlt] at e
      cases e
      rfl
    by_cases hj : j = i
    · have hk : k ≠ i := fun h => hjk (hj.trans h.symm)
      obtain rfl := at_ hj e3
      exact hd k t hk (lk hk e2) (lk hk e4)
    · by_cases hk : k = i
      · obtain rfl := at_ hk e4
        exact hd j u hj (lk hj e1) (lk hj e3)
      · exact r.dis j k u t b hjk (lk hj e1) (lk hk e2) (lk hj e3) (lk hk e4)
theorem wipe_get {i : Nat} : ∀ {vs : List Nat} {l : List (Option V)}, (wipe l vs)[i]? = if i ∈ vs ∧ i < l.length then some none else l[i]? := by
  intro vs
  induction vs with
  | nil => intro l; simp [wipe]
  | cons v vs ih =>
    intro l
    unfold wipe
    by_cases hv : i = v
    · subst hv
      by_cases hl : i < l.length
      · rw [List.getElem?_set_self (by rw [wipe_length]; exact hl)]
        simp [hl]
      · rw [List.getElem?_eq_none (by simp [wipe_length]; omega)]
        simp [hl]
    · rw [List.getElem?_set_ne (Ne.symm hv), ih]
      simp [hv]
def wipeE (l : PEnv) (vs : List Nat) : PEnv := match vs with
  | [] => l
  | v :: vs => (wipeE l vs).set v none
theorem wipeE_length (l : PEnv) : ∀ vs : List Nat, (wipeE l vs).length = l.length
  | [] => rfl
  | v :: vs => by unfold wipeE; rw [List.length_set, wipeE_length l vs]
theorem wipeE_get {i : Nat} : ∀ {vs : List Nat} {l : PEnv}, (wipeE l vs)[i]? = if i ∈ vs ∧ i < l.length then some none else l[i]? := by
  intro vs
  induction vs with
  | nil => intro l; simp [wipeE]
  | cons v vs ih =>
    intro l
    unfold wipeE
    by_cases hv : i = v
    · subst hv
      by_cases hl : i < l.length
      · rw [List.getElem?_set_self (by rw [wipeE_length]; exact hl)]
        simp [hl]
      · rw [List.getElem?_eq_none (by simp [wipeE_length]; omega)]
        simp [hl]
    · rw [List.getElem?_set_ne (Ne.symm hv), ih]
      simp [hv]
theorem EnvR.wipe (vs : List Nat) (r : EnvR K w0 w env σ) : EnvR K w0 w (wipeE env vs) (L2.wipe σ vs) := by
  have hl := r.len
  have no : ∀ {i : Nat} {x : PV × Bool}, (wipeE env vs)[i]? = some (some x) → ¬ (i ∈ vs ∧ i < env.length) ∧ env[i]? = some (some x) := fun {i x} e => by
    rw [wipeE_get] at e
    split at e
    · cases e
    · rename_i h
      exact ⟨h, e⟩
  have nσ : ∀ {i : Nat} {x : V}, ¬ (i ∈ vs ∧ i < env.length) → (L2.wipe σ vs)[i]? = σ[i]? := fun {i x} h => by
    rw [wipe_get, if_neg (by rw [← hl]; exact h)]
  have σn : ∀ {i : Nat} {x : V}, (L2.wipe σ vs)[i]? = some (some x) → σ[i]? = some (some x) := fun {i x} e => by
    rw [wipe_get] at e
    split at e
    · cases e
    · exact e
  refine ⟨by rw [wipeE_length, wipe_length, hl], fun i v e => ?_, fun i v e => ?_, fun i j v u a hij e1 e2 e3 e4 => ?_⟩
  · obtain ⟨h, e⟩ := no e
    obtain ⟨x, e1, q⟩ := r.val i v e
    exact ⟨x, by rw [nσ (x := x) h]; exact e1, q⟩
  · obtain ⟨h, e⟩ := no e
    obtain ⟨a, xs, us, h1, h2, h3⟩ := r.own i v e
    exact ⟨a, xs, us, h1, by rw [nσ (x := V.ref a) h]; exact h2, h3⟩
  · exact r.dis i j v u a hij (no e1).2 (no e2).2 (σn e3) (σn e4)
end
end Py

set_option Elab.async false
set_option linter.all false
set_option maxRecDepth 100000
set_option maxHeartbeats 1000000
/-! PyB: the interpreter: data, expressions, statements. -/
namespace Py
open PySem L2
/-! ### data -/
mutual
def PV.toD : PV → PyData
  | .non => .none
  | .bl b => .bool b
  | .int i => .int i
  | .str x => .str x
  | .tup xs => .tuple (PV.toDs xs)
  | .lst xs => .list (PV.toDs xs)
  | .dct _ _ => .none
  | .box _ => .none
  | .scr _ => .none
def PV.toDs : List PV → List PyData
  | [] => []
  | x :: xs => PV.toD x :: PV.toDs xs
end
mutual
/-- data without dicts and boxes, of a depth of at most n -/
def PV.dat : Nat → PV → Bool
  | _, .non => true
  | _, .bl _ => true
  | _, .int _ => true
  | _, .str _ => true
  | 0, .tup _ => false
  | 0, .lst _ => false
  | n + 1, .tup xs => PV.dats n xs
  | n + 1, .lst xs => PV.dats n xs
  | _, .dct _ _ => false
  | _, .box _ => false
  | _, .scr _ => false
def PV.dats : Nat → List PV → Bool
  | _, [] => true
  | n, x :: xs => PV.dat n x && PV.dats n xs
end
def b2i (b : Bool) : Int := if b then 1 else 0
mutual
def PV.eqv : PV → PV → Bool
  | .non, .non => true
  | .bl a, .bl b => a == b
  | .bl a, .int j => b2i a == j
  | .int i, .bl b => i == b2i b
  | .int i, .int j => i == j
  | .str x, .str y => x == y
  | .lst xs, .lst ys => PV.eqvs xs ys
  | .tup xs, .tup ys => PV.eqvs xs ys
  | _, _ => false
def PV.eqvs : List PV → List PV → Bool
  | [], [] => true
  | x :: xs, y :: ys => PV.eqv x y && PV.eqvs xs ys
  | _, _ => false
end
mutual
def PV.alike : PV → PV → Bool
  | .non, .non => true
  | .bl _, .bl _ => true
  | .int _, .int _ => true
  | .str _, .str _ => true
  | .lst xs, .lst ys => PV.alikes xs ys
  | .tup xs, .tup ys => PV.alikes xs ys
  | _, _ => false
def PV.alikes : List PV → List PV → Bool
  | x :: xs, y :: ys => PV.alike x y && PV.alikes xs ys
  | [], _ => true
  | _ :: _, [] => true
end
mutual
def PV.lt : PV → PV → Bool
  | .bl a, .bl b => !a && b
  | .int i, .int j => decide (i < j)
  | .str x, .str y => decide (x.cps.toList < y.cps.toList)
  | .lst xs, .lst ys => PV.lts xs ys
  | .tup xs, .tup ys => PV.lts xs ys
  | _, _ => false
def PV.lts : List PV → List PV → Bool
  | x :: xs, y :: ys => if PV.eqv x y then PV.lts xs ys else PV.lt x y
  | [], _ :: _ => true
  | _, [] => false
end
/-- how deep data may be that are compared -/
def deep : Nat := 40
def peq (x y : PV) : Option Bool := if x.dat deep && y.dat deep then some (x.eqv y) else none
def pin (x : PV) : PV → Option Bool
  | .lst ys => if x.dat deep && PV.dats deep ys then some (ys.any fun y => y.eqv x) else none
  | .tup ys => if x.dat deep && PV.dats deep ys then some (ys.any fun y => y.eqv x) else none
  | _ => none
def PV.isTup : PV → Bool
  | .tup (_ :: _) => true
  | _ => false
def PV.notTup : PV → Bool
  | .tup _ => false
  | .non => false
  | .dct _ _ => false
  | .box _ => false
  | .scr _ => false
  | _ => true
def insertP (x : PV) : List PV → List PV
  | [] => [x]
  | y :: ys => if y.lt x then y :: insertP x ys else x :: y :: ys
def isortP : List PV → List PV
  | [] => []
  | x :: xs => insertP x (isortP xs)
def sortable (xs : List PV) : Bool := PV.dats deep xs && (xs.all fun x => xs.all fun y => x.alike y) && (xs.all PV.isTup || xs.all PV.notTup)
def psort (xs : List PV) : Option (List PV) := if sortable xs && decide (xs.length ≤ sizeLine) then some (isortP xs) else none
def pints : List PV → Option (List Int)
  | [] => some []
  | .int i :: xs => (pints xs).map (i :: ·)
  | _ :: _ => none
def pbls : List PV → Option (List Bool)
  | [] => some []
  | .bl i :: xs => (pbls xs).map (i :: ·)
  | _ :: _ => none
/-- x[i] -/
def pat (xs : List PV) (i : Int) : Option PV := atI xs i
def pcut (xs : List PV) (lo hi : Option Int) : List PV := (xs.drop (HT.sIx xs.length 0 lo)).take (HT.sIx xs.length xs.length hi - HT.sIx xs.length 0 lo)
def smallI (i : Int) : Bool := decide (-(2 ^ 64) < i) && decide (i < 2 ^ 64)
def pbin : Operator → PV → PV → Option (PV × Bool)
  | .Add, .int i, .int j => some (.int (i + j), false)
  | .Add, .str x, .str y => if x.length + y.length ≤ sizeLine then some (.str (x ++ y), false) else none
  | .Add, .lst xs, .lst ys => if xs.length + ys.length ≤ sizeLine then some (.lst (xs ++ ys), true) else none
  | .Add, .tup xs, .tup ys => if xs.length + ys.length ≤ sizeLine then some (.tup (xs ++ ys), false) else none
  | .Sub, .int i, .int j => some (.int (i - j), false)
  | .Mult, .int i, .int j => if smallI i || smallI j then some (.int (i * j), false) else none
  | .Mult, .lst xs, .int k => if decide (-(2 ^ 62) ≤ k) && decide (k < 2 ^ 62) && decide (xs.length * k.toNat ≤ sizeLine) then some (.lst (List.replicate k.toNat xs).flatten, true) else none
  | .Mult, .tup xs, .int k => if decide (-(2 ^ 62) ≤ k) && decide (k ≤ 1000) && decide (xs.length ≤ 1000) then some (.tup (List.replicate k.toNat xs).flatten, false) else none
  | .FloorDiv, .int i, .int j => if decide (0 < j) && decide (j < 1073741824) then some (.int (i / j), false) else none
  | .Mod, .int i, .int j => if 0 < j then some (.int (i % j), false) else none
  | .Pow, .int i, .int j => if decide (0 ≤ j) && decide (j ≤ 1000) && smallI i then some (.int (i ^ j.toNat), false) else none
  | _, _, _ => none
def PV.isNon : PV → Bool
  | .non => true
  | _ => false
def pcmp : CmpOp → PV → PV → Option Bool
  | .Eq, x, y => peq x y
  | .NotEq, x, y => (peq x y).map not
  | .Lt, .int i, .int j => some (decide (i < j))
  | .LtE, .int i, .int j => some (decide (i ≤ j))
  | .Gt, .int i, .int j => some (decide (j < i))
  | .GtE, .int i, .int j => some (decide (j ≤ i))
  | .In, x, y => pin x y
  | .NotIn, x, y => (pin x y).map not
  | .Is, x, .non => some x.isNon
  | .IsNot, x, .non => some (!x.isNon)
  | .Is, .bl a, .bl b => some (a == b)
  | .IsNot, .bl a, .bl b => some (!(a == b))
  | _, _, _ => none
inductive BI where
  | len | abs | min | max | sum | all | any | sorted | list | tuple | int | divmod | repr
def minI : Int → List Int → Int
  | m, [] => m
  | m, x :: xs => minI (if x < m then x else m) xs
def maxI : Int → List Int → Int
  | m, [] => m
  | m, x :: xs => maxI (if m < x then x else m) xs
/-- repr(x), x plain data -/
def prepr (x : PV) : Option PV := if x.dat deep && x.toD.showable && decide (x.toD.shown.length ≤ sizeLine) then some (.str x.toD.shown) else none
def pbi : BI → List PV → Option (PV × Bool)
  | .len, [.lst xs] => some (.int xs.length, false)
  | .len, [.tup xs] => some (.int xs.length, false)
  | .len, [.scr xs] => some (.int xs.length, false)
  | .len, [.str x] => if x.length ≤ sizeLine then some (.int x.length, false) else none
  | .abs, [.int i] => some (.int (if i < 0 then -i else i), false)
  | .min, [.int i, .int j] => some (.int (if j < i then j else i), false)
  | .max, [.int i, .int j] => some (.int (if j > i then j else i), false)
  | .min, [.lst xs] => match pints xs with
    | some (i :: is) => some (.int (minI i is), false)
    | _ => none
  | .min, [.tup xs] => match pints xs with
    | some (i :: is) => some (.int (minI i is), false)
    | _ => none
  | .max, [.lst xs] => match pints xs with
    | some (i :: is) => some (.int (maxI i is), false)
    | _ => none
  | .max, [.tup xs] => match pints xs with
    | some (i :: is) => some (.int (maxI i is), false)
    | _ => none
  | .sum, [.lst xs] => match pints xs with
    | some is => some (.int is.sum, false)
    | _ => none
  | .all, [.lst xs] => match pbls xs with
    | some bs => some (.bl (bs.all id), false)
    | _ => none
  | .any, [.lst xs] => match pbls xs with
    | some bs => some (.bl (bs.any id), false)
    | _ => none
  | .sorted, [.lst xs] => (psort xs).map fun ys => (.lst ys, true)
  | .sorted, [.tup xs] => (psort xs).map fun ys => (.lst ys, true)
  | .list, [.lst xs] => some (.lst xs, true)
  | .list, [.tup xs] => some (.lst xs, true)
  | .tuple, [.lst xs] => some (.tup xs, false)
  | .tuple, [.tup xs] => some (.tup xs, false)
  | .int, [.int i] => some (.int i, false)
  | .int, [.bl b] => some (.int (if b then 1 else 0), false)
  | .repr, [x] => (prepr x).map fun t => (t, false)
  | .divmod, [.int i, .int j] => if decide (0 < j) && decide (j < 1073741824) then some (.tup [.int (i / j), .int (i % j)], false) else none
  | _, _ => none
def PV.isSq : PV → Bool
  | .lst _ => true
  | .tup _ => true
  | _ => false
inductive MI where
  | index | count
/-- the first place of an equal one -/
def pfind (d : PV) : List PV → Option Nat
  | [] => none
  | y :: ys => if y.eqv d then some 0 else (pfind d ys).map (· + 1)
def pmt : MI → PV → List PV → Option (PV × Bool)
  | .index, .lst xs, [d] => if d.dat deep && PV.dats deep xs && decide (xs.length ≤ sizeLine) then (pfind d xs).map fun j => (.int (j : Nat), false) else none
  | .index, .tup xs, [d] => if d.dat deep && PV.dats deep xs && decide (xs.length ≤ sizeLine) then (pfind d xs).map fun j => (.int (j : Nat), false) else none
  | .count, .lst xs, [d] => if d.dat deep && PV.dats deep xs then some (.int ((xs.countP fun y => y.eqv d : Nat) : Int), false) else none
  | .count, .tup xs, [d] => if d.dat deep && PV.dats deep xs then some (.int ((xs.countP fun y => y.eqv d : Nat) : Int), false) else none
  | _, _, _ => none
inductive TyN where
  | int | bool | str | tuple | list
deriving DecidableEq
def pisi : PV → TyN → Option Bool
  | .non, _ => some false
  | .bl _, t => some (decide (t = .bool) || decide (t = .int))
  | .int _, t => some (decide (t = .int))
  | .str _, t => some (decide (t = .str))
  | .tup _, t => some (decide (t = .tuple))
  | .lst _, t => some (decide (t = .list))
  | .dct _ _, _ => some false
  | .box _, _ => none
  | .scr _, _ => none
def pkey : PV → Option Key
  | .int i => some (.inl i)
  | .str x => some (.inr x)
  | _ => none
/-- the pairs of a display, later ones win -/
def dput (k : Key) (v : PV) : List Key → List PV → List Key × List PV
  | k' :: ks, v' :: vs => if k = k' then (k' :: ks, v :: vs) else ((k' :: (dput k v ks vs).1), (v' :: (dput k v ks vs).2))
  | _, _ => ([k], [v])
def dget (k : Key) : List Key → List PV → Option PV
  | k' :: ks, v' :: vs => if k = k' then some v' else dget k ks vs
  | _, _ => none
def pix : PV → PV → Option PV
  | .lst xs, .int i => pat xs i
  | .tup xs, .int i => pat xs i
  | .scr xs, .int i => pat xs i
  | .dct ks vs, .str x => dget (.inr x) ks vs
  | .dct ks vs, .int x => dget (.inl x) ks vs
  | .str z, .int i => if z.length ≤ sizeLine then (atI z.cps.toList i).map fun c => .str ⟨#[c]⟩ else none
  | _, _ => none
/-- x[y], boxes too -/
def pixB (ph : PH) : PV → PV → Option PV
  | .box k, .int i => match ph[k]? with
    | some (.lst xs) => pat xs i
    | _ => none
  | x, y => pix x y
/-- sorted(set(..)) of ints -/
def insU (x : Int) : List Int → List Int
  | [] => [x]
  | y :: ys => if x < y then x :: y :: ys else if x = y then y :: ys else y :: insU x ys
def usort : List Int → List Int
  | [] => []
  | x :: xs => insU x (usort xs)
def psst : PV → Option (PV × Bool)
  | .tup xs => match pints xs with
    | some is => if is.length ≤ 60 then some (.lst ((usort is).map .int), true) else none
    | none => none
  | _ => none
def poi : PV → Option Int
  | .int i => some i
  | _ => none
def psl (v : PV) (lo hi : Option Int) : Option (PV × Bool) := match v with
  | .lst xs => some (.lst (pcut xs lo hi), true)
  | .tup xs => some (.tup (pcut xs lo hi), false)
  | .scr xs => some (.lst (pcut xs lo hi), true)
  | .str x => if x.length ≤ sizeLine then some (.str (cutS x lo hi), false) else none
  | _ => none
def prev : PV → Option (PV × Bool)
  | .lst xs => some (.lst xs.reverse, true)
  | .tup xs => some (.tup xs.reverse, false)
  | _ => none

/-! ### the tree that runs -/
inductive Tg where
  | nm (i : Nat) | tup (is : List Nat)
mutual
inductive IE where
  | var (i : Nat) | bvar (i : Nat)
  | non | bl (b : Bool) | int (i : Int) | str (x : Str)
  | gv (k : Nat)
  | bin (op : Operator) (a b : IE) | neg (a : IE)
  | cmp (op : CmpOp) (a b : IE) | cmp2 (o1 o2 : CmpOp) (a b c : IE)
  | and (a b : IE) | or (a b : IE) | not (a : IE) | ite (t a b : IE)
  | tup (es : IL) | lst (es : IL) | box (es : IL) | dct (es : IL)
  | idx (a i : IE) | slc (a : IE) (lo hi : IL) | rev (a : IE)
  | call (f : Nat) (es : IL) | callK (f : Nat) (q : Nat) (es ks : IL)
  | blt (b : BI) (es : IL) | mth (m : MI) (a : IE) (es : IL) | isi (a : IE) (t : TyN)
  | kget (k : Nat) (a d : IE)
  | lrng (es : IL) | trng (es : IL) | sst (a : IE)
  | att (a : IE) (x : Str) | isC (a : IE) (c : Nat)
  | lc (own : List Nat) (tg : Tg) (it : II) (cond : IL) (elt : IE)
inductive IL where
  | nil | cons (e : IE) (es : IL) | star (e : IE) (es : IL)
inductive II where
  | seq (e : IE) | rng1 (e : IE) | rng2 (a b : IE) | enum (e : IE) | zip (a b : IE)
end
mutual
inductive IS where
  | asg (i : Nat) (e : IE) | asgT (is : List Nat) (e : IE) | par (is : List Nat) (es : IL)
  | setL (i : Nat) (ix e : IE) | setB (o ix e : IE)
  | jug (o ix : IE) (i : Nat) (e : IE)
  | swap (i : Nat) (ix jx e : IE)
  | app (i : Nat) (e : IE) | expr (e : IE)
  | ret (e : IE) | retv (i : Nat) | retN
  | ife (t : IE) (a b : IB) | forS (tg : Tg) (it : II) (body : IB) | whl (t : IE) (body : IB)
  | brk | cnt | pass
  | setA (o : IE) (x : Str) (e : IE) | asgA (ts : List (Nat × Str)) (e : IE) | bad
inductive IB where
  | nil | cons (s : IS) (b : IB) | frz (i : Nat) (b : IB)
end
structure FnI where
  name : Str
  names : List Str
  params : List Str
  /-- the calls by keywords: how many positional values, the keywords' names, for each parameter which value it is -/
  kws : List (Nat × List Str × List Nat)
  body : IB
/-- what is known of the program: the defs, the module's values, its written dicts -/
structure ClsI where
  name : Str
  /-- the def of __init__, its place among the defs -/
  init : Nat
  /-- the names of attributes -/
  attrs : List Str
  /-- the other methods -/
  mets : List (Str × Nat)
structure PProg where
  fns : List FnI
  gvs : List (Str × PV)
  kds : List (Str × List (Str × PV))
  cls : List ClsI

/-! ### the run -/
abbrev Calls := Nat → List PV → PM (PV × Bool)
def getV (env : PEnv) (i : Nat) : Option (PV × Bool) := match env[i]? with
  | some (some r) => some r
  | _ => none
def lcLoop (f : PV → PM (Option PV)) : List PV → PM (List PV)
  | [] => PM.pure []
  | x :: xs => PM.bind (f x) fun r => PM.bind (lcLoop f xs) fun ys => PM.pure (match r with | some y => y :: ys | none => ys)
def rngP (lo : Int) : Nat → List PV
  | 0 => []
  | n + 1 => .int lo :: rngP (lo + 1) n
def enumP (k : Nat) : List PV → List PV
  | [] => []
  | x :: xs => .tup [.int k, x] :: enumP (k + 1) xs
def zipP : List PV → List PV → List PV
  | x :: xs, y :: ys => .tup [x, y] :: zipP xs ys
  | _, _ => []
def smallR (i : Int) : Bool := decide (-(2 ^ 62) ≤ i) && decide (i < 2 ^ 62)
def setAll : List Nat → List PV → PEnv → PEnv
  | i :: is, v :: vs, env => setAll is vs (env.set i (some (v, false)))
  | _, _, env => env
def bindTg : Tg → PV → PEnv → Option PEnv
  | .nm i, v, env => some (env.set i (some (v, false)))
  | .tup is, .tup vs, env => if is.length = vs.length then some (setAll is vs env) else none
  | .tup is, .lst vs, env => if is.length = vs.length then some (setAll is vs env) else none
  | _, _, _ => none
def dispD : List PV → List Key → List PV → Option (List Key × List PV)
  | k :: v :: vs, ks0, vs0 => (pkey k).bind fun k' => dispD vs (dput k' v ks0 vs0).1 (dput k' v ks0 vs0).2
  | [], ks0, vs0 => some (ks0, vs0)
  | _, _, _ => none
/-- the arguments by keywords: the q-th of f's ways -/
def kwArgs (pg : PProg) (f q : Nat) (vs us : List PV) : Option (List PV) := match pg.fns[f]? with
  | none => none
  | some fi => match fi.kws[q]? with
    | none => none
    | some k => if vs.length = k.1 ∧ us.length = k.2.1.length then k.2.2.mapM fun i => (vs ++ us)[i]? else none
def mkBool (b : Bool) : PV × Bool := (.bl b, false)
def evalV (m : PM (PV × Bool)) : PM PV := PM.bind m fun r => PM.pure r.1
def evVar (env : PEnv) (i : Nat) : PM (PV × Bool) := match getV env i with
  | some (v, false) => PM.pure (v, false)
  | _ => PM.stuck
def evBvar (env : PEnv) (i : Nat) : PM (PV × Bool) := match getV env i with
  | some (v, _) => PM.pure (v, false)
  | none => PM.stuck
def evGv (pg : PProg) (k : Nat) : PM (PV × Bool) := match pg.gvs[k]? with
  | some (_, v) => PM.pure (v, false)
  | none => PM.stuck
def kNeg (x : PV) : PM (PV × Bool) := match x with
  | .int i => PM.pure (.int (-i), false)
  | _ => PM.stuck
def kAnd (m : PM (PV × Bool)) (x : PV) : PM (PV × Bool) := match x with
  | .bl true => m
  | .bl false => PM.pure (mkBool false)
  | _ => PM.stuck
def kOr (m : PM (PV × Bool)) (x : PV) : PM (PV × Bool) := match x with
  | .bl true => PM.pure (mkBool true)
  | .bl false => m
  | _ => PM.stuck
def kNot (x : PV) : PM (PV × Bool) := match x with
  | .bl b => PM.pure (mkBool (!b))
  | _ => PM.stuck
def kIte (m n : PM (PV × Bool)) (x : PV) : PM (PV × Bool) := match x with
  | .bl true => m
  | .bl false => n
  | _ => PM.stuck
def kCmp2 (m : PM (PV × Bool)) (r : Bool) : PM (PV × Bool) := match r with
  | true => m
  | false => PM.pure (mkBool false)
/-- a comprehension's own exceptions are not told -/
def PM.calm {α : Type} (m : PM α) : PM α := fun ph => match m ph with
  | .exc _ _ => .stuck
  | r => r
def kIf {α : Type} (m n : PM α) (b : Bool) : PM α := match b with
  | true => m
  | false => n
def kInt (x : PV) : PM (Option Int) := match x with
  | .int i => PM.pure (some i)
  | _ => PM.stuck
def kBl (x : PV) : PM Bool := match x with
  | .bl b => PM.pure b
  | _ => PM.stuck
def kSeq (x : PV) : PM (List PV) := match x with
  | .lst xs => PM.pure xs
  | .tup xs => PM.pure xs
  | .scr xs => PM.pure xs
  | _ => PM.stuck
def kLst (x : PV) : PM (List PV) := match x with
  | .lst xs => PM.pure xs
  | _ => PM.stuck
def kLT (x : PV) : PM (List PV) := match x with
  | .lst xs => PM.pure xs
  | .tup xs => PM.pure xs
  | _ => PM.stuck
def kRng1 (x : PV) : PM (List PV) := match x with
  | .int n => if smallR n then PM.pure (rngP 0 n.toNat) else PM.stuck
  | _ => PM.stuck
def kRng2 (x y : PV) : PM (List PV) := match x, y with
  | .int i, .int j => if smallR i && smallR j then PM.pure (rngP i (j - i).toNat) else PM.stuck
  | _, _ => PM.stuck
def kZip (x y : PV) : PM (List PV) := match x, y with
  | .lst xs, .lst ys => PM.pure (zipP xs ys)
  | .tup xs, .tup ys => PM.pure (zipP xs ys)
  | _, _ => PM.stuck
/-- D.get(x, y), D a written dict -/
def kGet (pg : PProg) (k : Nat) (x y : PV) : Option PV := match x with
  | .str z => (pg.kds[k]?).map fun d => (d.2.lookup z).getD y
  | _ => none
/-- the ends of a range as a value -/
def rgEnds : List PV → Option (Int × Int)
  | [.int n] => if smallR n && decide (n ≤ 1000000) then some (0, n) else none
  | [.int a, .int b] => if smallR a && smallR b && decide (b - a ≤ 1000000) then some (a, b) else none
  | _ => none
/-- one turn of a comprehension -/
def lcTurn (t : PEnv → PM Bool) (f : PEnv → PM (PV × Bool)) (o : Option PEnv) : PM (Option PV) := match o with
  | none => PM.stuck
  | some env' => PM.bind (t env') (kIf (PM.bind (f env') fun r => PM.pure (some r.1)) (PM.pure none))
/-- the program's classes -/
def attrOk (pg : PProg) (C x : Str) : Bool := pg.cls.any fun c => decide (c.name = C) && c.attrs.contains x
def pAtt (pg : PProg) (ph : PH) (v : PV) (x : Str) : Option PV := match v with
  | .box k => (match ph[k]? with
    | some (.ins C fs) => if attrOk pg C x then fs.lookup x else none
    | _ => none)
  | _ => none
def pIsC (pg : PProg) (ph : PH) (v : PV) (c : Nat) : Option Bool := match pg.cls[c]? with
  | none => none
  | some cl => (match v with
    | .box k => (match ph[k]? with
      | some (.ins C _) => if C = cl.name then some true else none
      | _ => none)
    | .non => some false
    | .bl _ => some false
    | .int _ => some false
    | .str _ => some false
    | .tup _ => some false
    | .lst _ => some false
    | _ => none)
def putP (x : Str) (v : PV) : List (Str × PV) → List (Str × PV)
  | [] => [(x, v)]
  | (g, u) :: r => if g = x then (g, v) :: r else (g, u) :: putP x v r
def setAt (pg : PProg) (ph : PH) (v : PV) (x : Str) (u : PV) : Option PH := match v with
  | .box k => (match ph[k]? with
    | some (.ins C fs) => if attrOk pg C x && decide (fs.length < 1000) then some (ph.set k (.ins C (putP x u fs))) else none
    | _ => none)
  | _ => none
def setAts (pg : PProg) (env : PEnv) : List (Nat × Str) → List PV → PH → Option PH
  | [], [], ph => some ph
  | (i, x) :: ts, v :: vs, ph => (match getV env i with
    | some (b, false) => (match setAt pg ph b x v with
      | some ph' => setAts pg env ts vs ph'
      | none => none)
    | _ => none)
  | _, _, _ => none
def mkRun (C : Str) (m : List PV → PM (PV × Bool)) (args : List PV) : PM (PV × Bool) := fun ph => match m (.box ph.length :: args) (ph ++ [.ins C []]) with
  | .ok (.non, _) ph' => .ok (.box ph.length, false) ph'
  | .ok _ _ => .stuck
  | .exc e ph' => .exc e ph'
  | .stuck => .stuck
section
variable (pg : PProg) (call : Calls)
mutual
def evalE : IE → PEnv → PM (PV × Bool)
  | .var i, env => evVar env i
  | .bvar i, env => evBvar env i
  | .non, _ => PM.pure (.non, false)
  | .bl b, _ => PM.pure (.bl b, false)
  | .int i, _ => PM.pure (.int i, false)
  | .str x, _ => PM.pure (.str x, false)
  | .gv k, _ => evGv pg k
  | .bin op a b, env => PM.bind (evalV (evalE a env)) fun x => PM.bind (evalV (evalE b env)) fun y => PM.ofO (pbin op x y)
  | .neg a, env => PM.bind (evalV (evalE a env)) kNeg
  | .cmp op a b, env => PM.bind (evalV (evalE a env)) fun x => PM.bind (evalV (evalE b env)) fun y => PM.ofO ((pcmp op x y).map mkBool)
  | .cmp2 o1 o2 a b c, env => PM.bind (evalV (evalE a env)) fun x => PM.bind (evalV (evalE b env)) fun y => PM.bind (PM.ofO (pcmp o1 x y)) (kCmp2 (PM.bind (evalV (evalE c env)) fun z => PM.ofO ((pcmp o2 y z).map mkBool)))
  | .and a b, env => PM.bind (evalV (evalE a env)) (kAnd (evalE b env))
  | .or a b, env => PM.bind (evalV (evalE a env)) (kOr (evalE b env))
  | .not a, env => PM.bind (evalV (evalE a env)) kNot
  | .ite t a b, env => PM.bind (evalV (evalE t env)) (kIte (evalE a env) (evalE b env))
  | .tup es, env => PM.bind (evalL es env) fun vs => if vs.length ≤ sizeLine then PM.pure (.tup vs, false) else PM.stuck
  | .lst es, env => PM.bind (evalL es env) fun vs => if vs.length ≤ sizeLine then PM.pure (.lst vs, true) else PM.stuck
  | .box es, env => PM.bind (evalL es env) fun vs ph => if vs.length ≤ sizeLine then .ok (.box ph.length, false) (ph ++ [.lst vs]) else .stuck
  | .dct es, env => PM.bind (evalL es env) fun vs => PM.ofO ((dispD vs [] []).map fun r => (.dct r.1 r.2, false))
  | .idx a i, env => PM.bind (evalV (evalE a env)) fun x => PM.bind (evalV (evalE i env)) fun y ph => PM.ofO ((pixB ph x y).map fun v => (v, false)) ph
  | .slc a lo hi, env => PM.bind (evalV (evalE a env)) fun x => PM.bind (evalP lo env) fun l => PM.bind (evalP hi env) fun h => PM.ofO (psl x l h)
  | .rev a, env => PM.bind (evalV (evalE a env)) fun x => PM.ofO (prev x)
  | .call f es, env => PM.bind (evalL es env) fun vs => call f vs
  | .callK f q es ks, env => PM.bind (evalL es env) fun vs => PM.bind (evalL ks env) fun us => PM.bind (PM.ofO (kwArgs pg f q vs us)) fun r => call f r
  | .blt b es, env => PM.bind (evalL es env) fun vs => PM.ofO (pbi b vs)
  | .mth m a es, env => PM.bind (evalV (evalE a env)) fun x => if x.isSq = true then PM.bind (evalL es env) fun vs => PM.ofO (pmt m x vs) else PM.stuck
  | .isi a t, env => PM.bind (evalV (evalE a env)) fun x => PM.ofO ((pisi x t).map mkBool)
  | .kget k a d, env => PM.bind (evalV (evalE a env)) fun x => PM.bind (evalE d env) fun y => PM.ofO ((kGet pg k x y.1).map fun v => (v, false))
  | .lrng es, env => PM.bind (evalL es env) fun vs => PM.ofO ((rgEnds vs).map fun r => (.lst (rngP r.1 (r.2 - r.1).toNat), true))
  | .trng es, env => PM.bind (evalL es env) fun vs => PM.ofO ((rgEnds vs).map fun r => (.tup (rngP r.1 (r.2 - r.1).toNat), false))
  | .sst a, env => PM.bind (evalV (evalE a env)) fun x => PM.ofO (psst x)
  | .att a x, env => PM.bind (evalV (evalE a env)) fun v ph => PM.ofO ((pAtt pg ph v x).map fun u => (u, false)) ph
  | .isC a c, env => PM.bind (evalV (evalE a env)) fun v ph => PM.ofO ((pIsC pg ph v c).map mkBool) ph
  | .lc own tg it cond elt, env => PM.bind (evalI it env) fun xs => PM.bind (PM.calm (lcLoop (fun x => lcTurn (fun e => evalT cond e) (fun e => evalE elt e) (bindTg tg x (wipeE env own))) xs)) fun ys => if ys.length < sizeLine then PM.pure (.lst ys, true) else PM.stuck
/-- to be kept -/
def evalL : IL → PEnv → PM (List PV)
  | .nil, _ => PM.pure []
  | .cons e es, env => PM.bind (evalE e env) fun r => PM.bind (evalL es env) fun rs => PM.pure (r.1 :: rs)
  | .star e es, env => PM.bind (evalE e env) fun r => PM.bind (kSeq r.1) fun xs => PM.bind (evalL es env) fun ys => PM.pure (xs ++ ys)
/-- an end of a slice -/
def evalP : IL → PEnv → PM (Option Int)
  | .nil, _ => PM.pure none
  | .cons e .nil, env => PM.bind (evalV (evalE e env)) kInt
  | _, _ => PM.stuck
/-- the tests of a comprehension: none or one -/
def evalT : IL → PEnv → PM Bool
  | .nil, _ => PM.pure true
  | .cons e .nil, env => PM.bind (evalV (evalE e env)) kBl
  | _, _ => PM.stuck
/-- what is walked -/
def evalI : II → PEnv → PM (List PV)
  | .seq e, env => PM.bind (evalE e env) fun r => kSeq r.1
  | .rng1 e, env => PM.bind (evalV (evalE e env)) kRng1
  | .rng2 a b, env => PM.bind (evalV (evalE a env)) fun x => PM.bind (evalV (evalE b env)) fun y => kRng2 x y
  | .enum e, env => PM.bind (evalE e env) fun r => PM.bind (kLT r.1) fun xs => PM.pure (enumP 0 xs)
  | .zip a b, env => PM.bind (evalE a env) fun x => PM.bind (evalE b env) fun y => kZip x.1 y.1
end
end
/-! ### statements -/
inductive Fl where
  | nx (env : PEnv) | bk (env : PEnv) | ct (env : PEnv) | rt (r : PV × Bool)
def kSetA (pg : PProg) (x : Str) (v : PV) (env : PEnv) (b : PV) : PM Fl := fun ph => match setAt pg ph b x v with
  | some ph' => .ok (.nx env) ph'
  | none => .stuck
def kSetAs (pg : PProg) (env : PEnv) (ts : List (Nat × Str)) (v : PV) : PM Fl := fun ph => match v with
  | .tup vs => (match setAts pg env ts vs ph with
    | some ph' => .ok (.nx env) ph'
    | none => .stuck)
  | _ => .stuck
def kFor (k : PEnv → PM Fl) (r : Fl) : PM Fl := match r with
  | .nx e => k e
  | .ct e => k e
  | .bk e => PM.pure (.nx e)
  | .rt v => PM.pure (.rt v)
def forLoop (f : PV → PEnv → PM Fl) : List PV → PEnv → PM Fl
  | [], env => PM.pure (.nx env)
  | x :: xs, env => PM.bind (f x env) (kFor fun e => forLoop f xs e)
def whileLoop (t : PEnv → PM Bool) (f : PEnv → PM Fl) : Nat → PEnv → PM Fl
  | 0, _ => PM.stuck
  | n + 1, env => PM.bind (t env) (kIf (PM.bind (f env) (kFor fun e => whileLoop t f n e)) (PM.pure (.nx env)))
def kNx (f : PEnv → PM Fl) (r : Fl) : PM Fl := match r with
  | .nx e => f e
  | r => PM.pure r
def kTg (tg : Tg) (env : PEnv) (v : PV) : PM Fl := match bindTg tg v env with
  | some env' => PM.pure (.nx env')
  | none => PM.stuck
def kOwn {α : Type} (o : Option (List PV)) (f : List PV → PM α) : PM α := match o with
  | some xs => f xs
  | none => PM.stuck
def kIx (n : Nat) (f : Nat → PM Fl) (j : PV) : PM Fl := match j with
  | .int k => (match ixN n k with
    | some m => f m
    | none => PM.stuck)
  | _ => PM.stuck
/-- how many turns a while may take -/
def whFuel : Nat := 5000
def setAllF : List Nat → List (PV × Bool) → PEnv → PEnv
  | i :: is, v :: vs, env => setAllF is vs (env.set i (some v))
  | _, _, env => env
def frzE (env : PEnv) (i : Nat) : PEnv := match env[i]? with
  | some (some (v, true)) => env.set i (some (v, false))
  | _ => env
/-- an owned list -/
def getO (env : PEnv) (i : Nat) : Option (List PV) := match env[i]? with
  | some (some (.lst xs, true)) => some xs
  | _ => none
/-- the box at k, a list -/
def boxL (ph : PH) : PV → Option (Nat × List PV)
  | .box k => match ph[k]? with
    | some (.lst xs) => some (k, xs)
    | _ => none
  | _ => none
/-- b, a box -/
def kBox (f : Nat → List PV → PM Fl) (b : PV) : PM Fl := fun ph => match boxL ph b with
  | some (k, xs) => f k xs ph
  | none => .stuck
/-- b[j] = v, b a box -/
def kSetB (env : PEnv) (v b j : PV) : PM Fl := kBox (fun k xs => kIx xs.length (fun n ph => .ok (.nx env) (ph.set k (.lst (xs.set n v)))) j) b
def kRetv (o : Option (PV × Bool)) : PM Fl := match o with
  | some r => PM.pure (.rt r)
  | none => PM.stuck
def kPair (f : PV → PV → PM Fl) (v : PV) : PM Fl := match v with
  | .tup [a, c] => f a c
  | _ => PM.stuck
def kBind (f : PEnv → PM Fl) (o : Option PEnv) : PM Fl := match o with
  | some e => f e
  | none => PM.stuck
section
variable (pg : PProg) (call : Calls)
def evalLF : IL → PEnv → PM (List (PV × Bool))
  | .nil, _ => PM.pure []
  | .cons e es, env => PM.bind (evalE pg call e env) fun r => PM.bind (evalLF es env) fun rs => PM.pure (r :: rs)
  | .star _ _, _ => PM.stuck
def evalBl (e : IE) (env : PEnv) : PM Bool := PM.bind (evalV (evalE pg call e env)) kBl
mutual
def execS : IS → PEnv → PM Fl
  | .asg i e, env => PM.bind (evalE pg call e env) fun r => PM.pure (.nx (env.set i (some r)))
  | .asgT is e, env => PM.bind (evalE pg call e env) fun r => kTg (.tup is) env r.1
  | .par is es, env => PM.bind (evalLF pg call es env) fun rs => if is.length = rs.length then PM.pure (.nx (setAllF is rs env)) else PM.stuck
  | .setL i ix e, env => PM.bind (evalE pg call e env) fun v => kOwn (getO env i) fun xs => PM.bind (evalV (evalE pg call ix env)) (kIx xs.length fun n => PM.pure (.nx (env.set i (some (.lst (xs.set n v.1), true)))))
  | .setB o ix e, env => PM.bind (evalE pg call e env) fun v => PM.bind (evalV (evalE pg call o env)) fun b => PM.bind (evalV (evalE pg call ix env)) fun j => kSetB env v.1 b j
  | .jug o ix i e, env => PM.bind (evalE pg call e env) fun r => kPair (fun a c => PM.bind (evalV (evalE pg call o env)) fun b => PM.bind (evalV (evalE pg call ix env)) fun j => kSetB (env.set i (some (c, false))) a b j) r.1
  | .swap i ix jx e, env => PM.bind (evalE pg call e env) fun r => kPair (fun a c => kOwn (getO env i) fun xs => PM.bind (evalV (evalE pg call ix env)) (kIx xs.length fun n =>
      PM.bind (evalV (evalE pg call jx (env.set i (some (.lst (xs.set n a), true))))) (kIx xs.length fun m => PM.pure (.nx ((env.set i (some (.lst (xs.set n a), true))).set i (some (.lst ((xs.set n a).set m c), true))))))) r.1
  | .app i e, env => kOwn (getO env i) fun xs => PM.bind (evalE pg call e env) fun v => if xs.length < sizeLine then PM.pure (.nx (env.set i (some (.lst (xs ++ [v.1]), true)))) else PM.stuck
  | .expr e, env => PM.bind (evalE pg call e env) fun _ => PM.pure (.nx env)
  | .ret e, env => PM.bind (evalE pg call e env) fun r => PM.pure (.rt r)
  | .retv i, env => kRetv (getV env i)
  | .retN, _ => PM.pure (.rt (.non, false))
  | .ife t a b, env => PM.bind (evalBl pg call t env) (kIf (execB a env) (execB b env))
  | .forS tg it body, env => PM.bind (evalI pg call it env) fun xs => forLoop (fun x e => kBind (fun e' => execB body e') (bindTg tg x e)) xs env
  | .whl t body, env => whileLoop (fun e => evalBl pg call t e) (fun e => execB body e) whFuel env
  | .brk, env => PM.pure (.bk env)
  | .cnt, env => PM.pure (.ct env)
  | .pass, env => PM.pure (.nx env)
  | .setA o x e, env => PM.bind (evalE pg call e env) fun v => PM.bind (evalV (evalE pg call o env)) (kSetA pg x v.1 env)
  | .asgA ts e, env => PM.bind (evalE pg call e env) fun v => kSetAs pg env ts v.1
  | .bad, _ => PM.stuck
def execB : IB → PEnv → PM Fl
  | .nil, env => PM.pure (.nx env)
  | .cons s b, env => PM.bind (execS s env) (kNx fun e => execB b e)
  | .frz i b, env => execB b (frzE env i)
end
end
def kEnd (r : Fl) : PM (PV × Bool) := match r with
  | .rt v => PM.pure v
  | .nx _ => PM.pure (.non, false)
  | _ => PM.stuck
def startE (n : Nat) (args : List PV) : PEnv := args.map (fun v => some (v, false)) ++ List.replicate (n - args.length) none
def callN (pg : PProg) : Nat → Calls
  | 0 => fun _ _ => PM.stuck
  | n + 1 => fun f args => match pg.fns[f]? with
    | some fi => if args.length = fi.params.length then PM.bind (execB pg (callN pg n) fi.body (startE fi.names.length args)) kEnd
      else PM.stuck
    | none => match pg.cls[f - pg.fns.length]? with
      | some c => mkRun c.name (callN pg n c.init) args
      | none => PM.stuck
example : (match evalE ⟨[], [], [], []⟩ (fun _ _ => PM.stuck) (.lc [0] (.nm 0) (.rng1 (.int 3)) .nil (.bin .Mult (.var 0) (.int 2))) [none] [] with | .ok (v, _) _ => v.eqv (.lst [.int 0, .int 2, .int 4]) | _ => false) = true := by decide +kernel
end Py

set_option Elab.async false
set_option linter.all false
set_option maxRecDepth 100000
set_option maxHeartbeats 1000000
/-! PyC: the interpreter's data against the library's. -/
namespace Py
open PySem L2
mutual
theorem toD_plain : ∀ (n : Nat) (x : PV), x.dat n = true → x.toD.plain = true
  | _, .non, _ => by simp [PV.toD, PyData.plain]
  | _, .bl _, _ => by simp [PV.toD, PyData.plain]
  | _, .int _, _ => by simp [PV.toD, PyData.plain]
  | _, .str _, _ => by simp [PV.toD, PyData.plain]
  | 0, .tup _, h => by simp [PV.dat] at h
  | 0, .lst _, h => by simp [PV.dat] at h
  | n + 1, .tup xs, h => by simp only [PV.dat] at h; simp only [PV.toD, PyData.plain]; exact toDs_plain n xs h
  | n + 1, .lst xs, h => by simp only [PV.dat] at h; simp only [PV.toD, PyData.plain]; exact toDs_plain n xs h
  | n, .dct _ _, h => by cases n <;> simp [PV.dat] at h
  | n, .box _, h => by cases n <;> simp [PV.dat] at h
  | n, .scr _, h => by cases n <;> simp [PV.dat] at h
theorem toDs_plain : ∀ (n : Nat) (xs : List PV), PV.dats n xs = true → PyData.plainAll (PV.toDs xs) = true
  | _, [], _ => by simp [PV.toDs, PyData.plainAll]
  | n, x :: xs, h => by
    simp only [PV.dats, Bool.and_eq_true] at h
    simp only [PV.toDs, PyData.plainAll, Bool.and_eq_true]
    exact ⟨toD_plain n x h.1, toDs_plain n xs h.2⟩
end
mutual
theorem toD_depth : ∀ (n : Nat) (x : PV), x.dat n = true → x.toD.depth ≤ n
  | _, .non, _ => by simp [PV.toD, PyData.depth]
  | _, .bl _, _ => by simp [PV.toD, PyData.depth]
  | _, .int _, _ => by simp [PV.toD, PyData.depth]
  | _, .str _, _ => by simp [PV.toD, PyData.depth]
  | 0, .tup _, h => by simp [PV.dat] at h
  | 0, .lst _, h => by simp [PV.dat] at h
  | n + 1, .tup xs, h => by
    simp only [PV.dat] at h
    have := toDs_depth n xs h
    simp only [PV.toD, PyData.depth]
    omega
  | n + 1, .lst xs, h => by
    simp only [PV.dat] at h
    have := toDs_depth n xs h
    simp only [PV.toD, PyData.depth]
    omega
  | n, .dct _ _, h => by cases n <;> simp [PV.dat] at h
  | n, .box _, h => by cases n <;> simp [PV.dat] at h
  | n, .scr _, h => by cases n <;> simp [PV.dat] at h
theorem toDs_depth : ∀ (n : Nat) (xs : List PV), PV.dats n xs = true → PyData.depthAll (PV.toDs xs) ≤ n
  | _, [], _ => by simp [PV.toDs, PyData.depthAll]
  | n, x :: xs, h => by
    simp only [PV.dats, Bool.and_eq_true] at h
    have h1 := toD_depth n x h.1
    have h2 := toDs_depth n xs h.2
    simp only [PV.toDs, PyData.depthAll]
    omega
end
theorem toDs_map : ∀ xs : List PV, PV.toDs xs = xs.map PV.toD
  | [] => rfl
  | x :: xs => by simp [PV.toDs, toDs_map xs]
theorem dats_iff {n : Nat} : ∀ {xs : List PV}, PV.dats n xs = true ↔ ∀ x ∈ xs, x.dat n = true
  | [] => by simp [PV.dats]
  | x :: xs => by simp [PV.dats, dats_iff (xs := xs)]
mutual
theorem eqv_toD : ∀ (n m : Nat) (x y : PV), x.dat n = true → y.dat m = true → PV.eqv x y = PyData.eqv x.toD y.toD := by
  intro n m x y hx hy
  cases x with
  | non => cases y <;> first | rfl | (simp [PV.eqv, PV.toD, PyData.eqv]; done) | (cases m <;> simp [PV.dat] at hy; done)
  | bl a => cases y <;> first | rfl | (simp [PV.eqv, PV.toD, PyData.eqv, b2i]; done) | (cases m <;> simp [PV.dat] at hy; done)
  | int a => cases y <;> first | rfl | (simp [PV.eqv, PV.toD, PyData.eqv, b2i]; done) | (cases m <;> simp [PV.dat] at hy; done)
  | str a => cases y <;> first | rfl | (simp [PV.eqv, PV.toD, PyData.eqv]; done) | (cases m <;> simp [PV.dat] at hy; done)
  | dct _ _ => cases n <;> simp [PV.dat] at hx
  | box _ => cases n <;> simp [PV.dat] at hx
  | scr _ => cases n <;> simp [PV.dat] at hx
  | tup xs =>
    cases n with
    | zero => simp [PV.dat] at hx
    | succ n =>
      simp only [PV.dat] at hx
      cases y with
      | tup ys =>
        cases m with
        | zero => simp [PV.dat] at hy
        | succ m =>
          simp only [PV.dat] at hy
          simp only [PV.eqv, PV.toD, PyData.eqv]
          exact eqvs_toD n m xs ys hx hy
      | _ => first | (simp [PV.eqv, PV.toD, PyData.eqv]; done) | (cases m <;> simp [PV.dat] at hy; done)
  | lst xs =>
    cases n with
    | zero => simp [PV.dat] at hx
    | succ n =>
      simp only [PV.dat] at hx
      cases y with
      | lst ys =>
        cases m with
        | zero => simp [PV.dat] at hy
        | succ m =>
          simp only [PV.dat] at hy
          simp only [PV.eqv, PV.toD, PyData.eqv]
          exact eqvs_toD n m xs ys hx hy
      | _ => first | (simp [PV.eqv, PV.toD, PyData.eqv]; done) | (cases m <;> simp [PV.dat] at hy; done)
theorem eqvs_toD : ∀ (n m : Nat) (xs ys : List PV), PV.dats n xs = true → PV.dats m ys = true → PV.eqvs xs ys = PyData.eqvAll (PV.toDs xs) (PV.toDs ys) := by
  intro n m xs ys hx hy
  cases xs with
  | nil => cases ys <;> simp [PV.eqvs, PV.toDs, PyData.eqvAll]
  | cons x xs =>
    cases ys with
    | nil => simp [PV.eqvs, PV.toDs, PyData.eqvAll]
    | cons y ys =>
      simp only [PV.dats, Bool.and_eq_true] at hx hy
      simp only [PV.eqvs, PV.toDs, PyData.eqvAll]
      rw [eqv_toD n m x y hx.1 hy.1, eqvs_toD n m xs ys hx.2 hy.2]
end
mutual
theorem alike_toD : ∀ (n m : Nat) (x y : PV), x.dat n = true → y.dat m = true → PV.alike x y = PySem.W.alike x.toD y.toD := by
  intro n m x y hx hy
  cases x with
  | non => cases y <;> first | rfl | (simp [PV.alike, PV.toD, PySem.W.alike]; done) | (cases m <;> simp [PV.dat] at hy; done)
  | bl a => cases y <;> first | rfl | (simp [PV.alike, PV.toD, PySem.W.alike]; done) | (cases m <;> simp [PV.dat] at hy; done)
  | int a => cases y <;> first | rfl | (simp [PV.alike, PV.toD, PySem.W.alike]; done) | (cases m <;> simp [PV.dat] at hy; done)
  | str a => cases y <;> first | rfl | (simp [PV.alike, PV.toD, PySem.W.alike]; done) | (cases m <;> simp [PV.dat] at hy; done)
  | dct _ _ => cases n <;> simp [PV.dat] at hx
  | box _ => cases n <;> simp [PV.dat] at hx
  | scr _ => cases n <;> simp [PV.dat] at hx
  | tup xs =>
    cases n with
    | zero => simp [PV.dat] at hx
    | succ n =>
      simp only [PV.dat] at hx
      cases y with
      | tup ys =>
        cases m with
        | zero => simp [PV.dat] at hy
        | succ m =>
          simp only [PV.dat] at hy
          simp only [PV.alike, PV.toD, PySem.W.alike]
          exact alikes_toD n m xs ys hx hy
      | _ => first | (simp [PV.alike, PV.toD, PySem.W.alike]; done) | (cases m <;> simp [PV.dat] at hy; done)
  | lst xs =>
    cases n with
    | zero => simp [PV.dat] at hx
    | succ n =>
      simp only [PV.dat] at hx
      cases y with
      | lst ys =>
        cases m with
        | zero => simp [PV.dat] at hy
        | succ m =>
          simp only [PV.dat] at hy
          simp only [PV.alike, PV.toD, PySem.W.alike]
          exact alikes_toD n m xs ys hx hy
      | _ => first | (simp [PV.alike, PV.toD, PySem.W.alike]; done) | (cases m <;> simp [PV.dat] at hy; done)
theorem alikes_toD : ∀ (n m : Nat) (xs ys : List PV), PV.dats n xs = true → PV.dats m ys = true → PV.alikes xs ys = PySem.W.alikeAll (PV.toDs xs) (PV.toDs ys) := by
  intro n m xs ys hx hy
  cases xs with
  | nil => cases ys <;> simp [PV.alikes, PV.toDs, PySem.W.alikeAll]
  | cons x xs =>
    cases ys with
    | nil => simp [PV.alikes, PV.toDs, PySem.W.alikeAll]
    | cons y ys =>
      simp only [PV.dats, Bool.and_eq_true] at hx hy
      simp only [PV.alikes, PV.toDs, PySem.W.alikeAll]
      rw [alike_toD n m x y hx.1 hy.1, alikes_toD n m xs ys hx.2 hy.2]
end
mutual
theorem lt_toD : ∀ (n m : Nat) (x y : PV), x.dat n = true → y.dat m = true → x.alike y = true → PV.lt x y = PySem.W.dataLt x.toD y.toD := by
  intro n m x y hx hy ha
  cases x with
  | non => cases y <;> first | (simp [PV.alike] at ha; done) | (simp only [PV.lt, PV.toD]; decide +kernel)
  | bl a => cases y <;> first | (simp [PV.alike] at ha; done) | (rename_i b; simp only [PV.lt, PV.toD]; rw [PySem.W.dataLt_bool]; cases a <;> cases b <;> decide +kernel)
  | int a => cases y <;> first | (simp [PV.alike] at ha; done) | (simp only [PV.lt, PV.toD]; rw [PySem.W.dataLt_int])
  | str a => cases y <;> first | (simp [PV.alike] at ha; done) | (simp only [PV.lt, PV.toD]; rw [PySem.W.dataLt_str])
  | dct _ _ => cases n <;> simp [PV.dat] at hx
  | box _ => cases n <;> simp [PV.dat] at hx
  | scr _ => cases n <;> simp [PV.dat] at hx
  | tup xs =>
    cases n with
    | zero => simp [PV.dat] at hx
    | succ n =>
      simp only [PV.dat] at hx
      cases y with
      | tup ys =>
        cases m with
        | zero => simp [PV.dat] at hy
        | succ m =>
          simp only [PV.dat] at hy
          simp only [PV.alike] at ha
          simp only [PV.lt, PV.toD]
          rw [PySem.W.dataLt_tuple]
          exact lts_toD n m xs ys hx hy ha
      | _ => simp [PV.alike] at ha
  | lst xs =>
    cases n with
    | zero => simp [PV.dat] at hx
    | succ n =>
      simp only [PV.dat] at hx
      cases y with
      | lst ys =>
        cases m with
        | zero => simp [PV.dat] at hy
        | succ m =>
          simp only [PV.dat] at hy
          simp only [PV.alike] at ha
          simp only [PV.lt, PV.toD]
          rw [PySem.W.dataLt_list]
          exact lts_toD n m xs ys hx hy ha
      | _ => simp [PV.alike] at ha
theorem lts_toD : ∀ (n m : Nat) (xs ys : List PV), PV.dats n xs = true → PV.dats m ys = true → PV.alikes xs ys = true →
    PV.lts xs ys = PyProof.Rows.lexLt PyProof.Rows.itemOrd (PySem.W.keyToksAll (PV.toDs xs)) (PySem.W.keyToksAll (PV.toDs ys)) := by
  intro n m xs ys hx hy ha
  cases xs with
  | nil =>
    cases ys with
    | nil => simp only [PV.lts, PV.toDs]; decide +kernel
    | cons y ys =>
      simp only [PV.lts, PV.toDs]
      rw [PySem.W.toks_all_cons]
      simp only [PySem.W.keyToksAll]
      rw [PyProof.Rows.lex_diff (O := PyProof.Rows.itemOrd) (x := (Sum.inl 0 : Int ⊕ List Nat)) (y := (Sum.inl 1 : Int ⊕ List Nat)) (by decide)]
      rfl
  | cons x xs =>
    cases ys with
    | nil =>
      simp only [PV.lts, PV.toDs]
      rw [PySem.W.toks_all_cons]
      simp only [PySem.W.keyToksAll]
      rw [PyProof.Rows.lex_diff (O := PyProof.Rows.itemOrd) (x := (Sum.inl 1 : Int ⊕ List Nat)) (y := (Sum.inl 0 : Int ⊕ List Nat)) (by decide)]
      rfl
    | cons y ys =>
      simp only [PV.dats, Bool.and_eq_true] at hx hy
      simp only [PV.alikes, Bool.and_eq_true] at ha
      simp only [PV.lts, PV.toDs]
      have h1 : PySem.W.alike x.toD y.toD = true := by rw [← alike_toD n m x y hx.1 hy.1]; exact ha.1
      rw [PySem.W.dataLt_cons h1, eqv_toD n m x y hx.1 hy.1, lts_toD n m xs ys hx.2 hy.2 ha.2, lt_toD n m x y hx.1 hy.1 ha.1]
end

/-! ### the sort -/
section
variable {α : Type} {le : α → α → Bool}
def insG (le : α → α → Bool) (x : α) : List α → List α
  | [] => [x]
  | y :: ys => if le x y then x :: y :: ys else y :: insG le x ys
def isortG (le : α → α → Bool) : List α → List α
  | [] => []
  | x :: xs => insG le x (isortG le xs)
theorem insG_mem {x z : α} : ∀ {l : List α}, z ∈ insG le x l → z = x ∨ z ∈ l
  | [], h => by simp [insG] at h; exact .inl h
  | y :: ys, h => by
    unfold insG at h
    split at h
    · rcases List.mem_cons.mp h with e | h
      · exact .inl e
      · exact .inr h
    · rcases List.mem_cons.mp h with e | h
      · exact .inr (e ▸ List.mem_cons_self)
      · rcases insG_mem h with e | h
        · exact .inl e
        · exact .inr (List.mem_cons_of_mem _ h)
theorem isortG_mem {z : α} : ∀ {l : List α}, z ∈ isortG le l → z ∈ l
  | [], h => h
  | x :: xs, h => by
    rcases insG_mem h with e | h
    · exact e ▸ List.mem_cons_self
    · exact List.mem_cons_of_mem _ (isortG_mem h)
theorem insG_srt (T : PySem.W.TotalLe le) {x : α} : ∀ {l : List α}, l.Pairwise (fun a b => le a b = true) → (insG le x l).Pairwise (fun a b => le a b = true)
  | [], _ => by simp [insG]
  | y :: ys, h => by
    unfold insG
    have hy := List.pairwise_cons.mp h
    split
    · rename_i hxy
      refine List.pairwise_cons.mpr ⟨fun z hz => ?_, h⟩
      rcases List.mem_cons.mp hz with e | hz
      · rw [e]; exact hxy
      · exact T.trans _ _ _ hxy (hy.1 z hz)
    · rename_i hxy
      refine List.pairwise_cons.mpr ⟨fun z hz => ?_, insG_srt T hy.2⟩
      rcases insG_mem hz with e | hz
      · rw [e]
        exact (T.total x y).resolve_left hxy
      · exact hy.1 z hz
theorem isortG_srt (T : PySem.W.TotalLe le) : ∀ l : List α, (isortG le l).Pairwise (fun a b => le a b = true)
  | [] => .nil
  | x :: xs => insG_srt T (isortG_srt T xs)
theorem insG_flt (T : PySem.W.TotalLe le) {x c : α} : ∀ {l : List α}, l.Pairwise (fun a b => le a b = true) → (insG le x l).filter (PySem.W.sameRank le c) = (x :: l).filter (PySem.W.sameRank le c)
  | [], _ => rfl
  | y :: ys, h => by
    unfold insG
    have hy := List.pairwise_cons.mp h
    split
    · rfl
    · rename_i hxy
      have ih := insG_flt T (x := x) (c := c) hy.2
      rw [List.filter_cons, ih]
      by_cases hx : PySem.W.sameRank le c x = true
      · have hcx := Bool.and_eq_true_iff.mp hx
        have ny : ¬ PySem.W.sameRank le c y = true := fun q => hxy (T.trans _ _ _ hcx.2 (Bool.and_eq_true_iff.mp q).1)
        rw [if_neg ny, List.filter_cons_of_pos hx, List.filter_cons_of_pos hx, List.filter_cons_of_neg ny]
      · rw [List.filter_cons_of_neg hx, List.filter_cons_of_neg hx, List.filter_cons]
theorem isortG_flt (T : PySem.W.TotalLe le) {c : α} : ∀ l : List α, (isortG le l).filter (PySem.W.sameRank le c) = l.filter (PySem.W.sameRank le c)
  | [] => rfl
  | x :: xs => by
    show (insG le x (isortG le xs)).filter _ = _
    rw [insG_flt T (isortG_srt T xs), List.filter_cons, List.filter_cons, isortG_flt T xs]
theorem isortG_merge (T : PySem.W.TotalLe le) (l : List α) : isortG le l = l.mergeSort le := PySem.W.sort_unique T (isortG_srt T l) fun c => isortG_flt T l
end
theorem isortP_eq {le : PV → PV → Bool} : ∀ {l : List PV}, (∀ a ∈ l, ∀ b ∈ l, PV.lt a b = !le b a) → isortP l = isortG le l
  | [], _ => rfl
  | x :: xs, h => by
    have ih := isortP_eq (l := xs) fun a ha b hb => h a (List.mem_cons_of_mem _ ha) b (List.mem_cons_of_mem _ hb)
    show insertP x (isortP xs) = insG le x (isortG le xs)
    rw [ih]
    have ins : ∀ {l : List PV}, (∀ z ∈ l, z ∈ x :: xs) → insertP x l = insG le x l := fun {l} hm => by
      induction l with
      | nil => rfl
      | cons y ys ihy =>
        unfold insertP insG
        rw [h y (hm y List.mem_cons_self) x List.mem_cons_self, ihy fun z hz => hm z (List.mem_cons_of_mem _ hz)]
        cases le x y <;> rfl
    exact ins fun z hz => List.mem_cons_of_mem _ (isortG_mem hz)
theorem isortP_merge {l : List PV} (h : sortable l = true) : isortP l = l.mergeSort (PySem.W.dataLe false PV.toD) := by
  unfold sortable at h
  simp only [Bool.and_eq_true, List.all_eq_true] at h
  obtain ⟨⟨h1, h2⟩, h3⟩ := h
  rw [← isortG_merge (le := PySem.W.dataLe false PV.toD) (PySem.W.sortLe_total _ _ _)]
  refine isortP_eq fun a ha b hb => ?_
  rw [lt_toD deep deep a b (dats_iff.mp h1 a ha) (dats_iff.mp h1 b hb) (h2 a ha b hb)]
  show PySem.W.dataLt a.toD b.toD = !(!PySem.W.dataLt a.toD b.toD)
  rw [Bool.not_not]
theorem alike_all {l : List PV} (h : sortable l = true) : PySem.W.AllAlike (l.map PV.toD) := by
  unfold sortable at h
  simp only [Bool.and_eq_true, List.all_eq_true] at h
  obtain ⟨⟨h1, h2⟩, h3⟩ := h
  intro a ha b hb
  obtain ⟨x, hx, rfl⟩ := List.mem_map.mp ha
  obtain ⟨y, hy, rfl⟩ := List.mem_map.mp hb
  rw [← alike_toD deep deep x y (dats_iff.mp h1 x hx) (dats_iff.mp h1 y hy)]
  exact h2 x hx y hy
theorem sortable_D {l : List PV} (h : sortable l = true) : PySem.W.Sortable (l.map PV.toD) := by
  unfold sortable at h
  simp only [Bool.and_eq_true, Bool.or_eq_true, List.all_eq_true] at h
  obtain ⟨_, h3⟩ := h
  rcases h3 with h3 | h3
  · refine .inl fun d hd => ?_
    obtain ⟨x, hx, rfl⟩ := List.mem_map.mp hd
    have := h3 x hx
    cases x with
    | tup xs =>
      cases xs with
      | nil => simp [PV.isTup] at this
      | cons y ys => exact ⟨y.toD, PV.toDs ys, rfl⟩
    | _ => simp [PV.isTup] at this
  · refine .inr fun d hd => ?_
    obtain ⟨x, hx, rfl⟩ := List.mem_map.mp hd
    have := h3 x hx
    cases x with
    | tup xs => simp [PV.notTup] at this
    | non => simp [PV.notTup] at this
    | dct _ _ => simp [PV.notTup] at this
    | box _ => simp [PV.notTup] at this
    | scr _ => simp [PV.notTup] at this
    | _ => first | exact ⟨fun q => (by simp [PV.toD] at q), fun xs q => (by simp [PV.toD] at q)⟩ | skip
end Py

set_option Elab.async false
set_option linter.all false
set_option maxRecDepth 100000
set_option maxHeartbeats 1000000
/-! PyS: what it means that the interpreter tells what the model does; operators, comparisons, built-ins by value. -/
namespace Py
open PySem L2

/-! ### the weakest readings -/
def wk (X : Cx) (e : Expr) : TE := fun σ H Q => ∀ (pins : List (Addr × Obj)) (s : Shared), Inv X pins σ H s → wpAny (model X.prog X.w) X.A (eval e X.env) (EP X pins σ Q) X.xe s
theorem pe_wk {X : Cx} {e : Expr} : PE X e (wk X e) := ⟨fun pins s σ H Q I h => h pins s I⟩
theorem wk_of {X : Cx} {e : Expr} {t : TE} (h : PE X e t) {σ : St} {H : Hp} {Q : VK} (q : t σ H Q) : wk X e σ H Q := fun pins s I => h.run pins s σ H Q I q
theorem wk_mono {X : Cx} {e : Expr} {σ : St} {H : Hp} {Q Q' : VK} (h : wk X e σ H Q) (hq : ∀ v H', Q v H' → Q' v H') : wk X e σ H Q' := fun pins s I =>
  thn (h pins s I) fun u s' ⟨v, H', I', r, q⟩ => ⟨v, H', I', r, hq v H' q⟩
def wkA (X : Cx) (es : List Expr) : TA := fun σ H Q => ∀ (pos : Pos) (pins : List (Addr × Obj)) (s : Shared), Inv X pins σ H s → wpAny (model X.prog X.w) X.A (spliced (backTo pos (starEach es X.env))) (AP X pins σ Q) X.xe s
theorem pa_wk {X : Cx} {es : List Expr} : PA X es (wkA X es) := ⟨fun pos pins s σ H Q I h => h pos pins s I⟩
theorem wkA_of {X : Cx} {es : List Expr} {t : TA} (h : PA X es t) {σ : St} {H : Hp} {Q : List V → Hp → Prop} (q : t σ H Q) : wkA X es σ H Q := fun pos pins s I => h.run pos pins s σ H Q I q
def wkT (X : Cx) (e : Expr) : TT := fun σ H Q => ∀ (pins : List (Addr × Obj)) (s : Shared), Inv X pins σ H s → wpAny (model X.prog X.w) X.A (isTrue e X.env (eval e X.env)) (TP X pins σ Q) X.xe s
theorem pt_wk {X : Cx} {e : Expr} : PT X e (wkT X e) := ⟨fun pins s σ H Q I h => h pins s I⟩
theorem wkT_of {X : Cx} {e : Expr} {t : TT} (h : PT X e t) {σ : St} {H : Hp} {Q : Bool → Hp → Prop} (q : t σ H Q) : wkT X e σ H Q := fun pins s I => h.run pins s σ H Q I q

/-! ### exceptions of the interpreter -/
def ExR (K : PySem.W.Frag) (w : Ws) (e : PEx) (cls : Value) (d : Option Addr) : Prop :=
  cls = .ref (He.ga K e.cls) ∧ match d with
    | none => e.fs = []
    | some a => ∃ us, w.H a = some (.xd ((e.fs.map Prod.fst).zip us)) ∧ Rels K w (e.fs.map Prod.snd) us
def exV (K : PySem.W.Frag) (w : Ws) (W : WX) (σ : St) (e : PEx) (ph : PH) : Prop := ∀ cls d w', Ev w w' → Wf K w' ph → ExR K w' e cls d → W cls d σ w'.H
theorem exV.mono {K : PySem.W.Frag} {w w1 : Ws} {W : WX} {σ : St} {e : PEx} {ph : PH} (h : exV K w W σ e ph) (g : Ev w w1) : exV K w1 W σ e ph := fun cls d w' e' f r => h cls d w' (g.trans e') f r

/-! ### expressions -/
def okV (K : PySem.W.Frag) (w : Ws) (Q : VK) (B : Bool) (r : PV × Bool) (ph : PH) : Prop := ∀ v w', Ev w w' → Wf K w' ph → (if B = true then RelB K w' r.1 v else RelF K w w' r v) → Q v w'.H
/-- at e the interpreter's m tells what happens; B: a value to be looked at -/
def SE (X : Cx) (env : PEnv) (e : Expr) (m : PM (PV × Bool)) (B : Bool) : Prop :=
  ∀ (σ : St) (w0 w : Ws) (ph : PH) (Q : VK) (W : WX), Takes X W → Wf X.K w ph → EnvR X.K w0 w env σ → Sat (m ph) (okV X.K w Q B) (exV X.K w W σ) → wk X e σ w.H Q
theorem ev_back {w w' : Ws} (e : Ev w w') {x : Addr} (h : w'.H x = none) : w.H x = none := by
  cases q : w.H x with
  | none => rfl
  | some o => exact absurd h (e.trk x (by rw [q]; simp))
section
variable {X : Cx} {env : PEnv} {e : Expr} {m : PM (PV × Bool)} {σ : St} {w0 w : Ws} {ph : PH} {Q : VK} {W : WX}
theorem SE.look {B : Bool} (h : SE X env e m B) (tk : Takes X W) (f : Wf X.K w ph) (r : EnvR X.K w0 w env σ)
    (q : Sat (evalV m ph) (fun p ph1 => ∀ v w1, Ev w w1 → Wf X.K w1 ph1 → EnvR X.K w0 w1 env σ → RelB X.K w1 p v → Q v w1.H) (exV X.K w W σ)) : wk X e σ w.H Q := by
  refine h σ w0 w ph Q W tk f r ?_
  unfold evalV at q
  rw [sat_bind'] at q
  refine q.mono (fun a p hq v w1 e1 f1 rel => ?_) fun _ _ z => z
  have hq' : ∀ v w1, Ev w w1 → Wf X.K w1 p → EnvR X.K w0 w1 env σ → RelB X.K w1 a.1 v → Q v w1.H := hq
  refine hq' v w1 e1 f1 (r.mono f e1) ?_
  cases B with
  | true => exact rel
  | false => exact RelF.b f1 rel
theorem SE.keep (h : SE X env e m false) (tk : Takes X W) (f : Wf X.K w ph) (r : EnvR X.K w0 w env σ)
    (q : Sat (m ph) (fun p ph1 => ∀ v w1, Ev w w1 → Wf X.K w1 ph1 → EnvR X.K w0 w1 env σ → Rel X.K w1 p.1 v → Q v w1.H) (exV X.K w W σ)) : wk X e σ w.H Q := by
  refine h σ w0 w ph Q W tk f r (q.mono (fun a p hq v w1 e1 f1 rel => ?_) fun _ _ z => z)
  obtain ⟨w2, e2, sl, hH, hρ, f2, rel2, hS, hS2⟩ := RelF.freeze f1 e1 rel
  rw [← hH]
  refine hq v w2 e2 f2 ?_ rel2
  have r1 := r.mono f e1
  refine ⟨r1.len, fun i v e => ?_, fun i v e => ?_, r1.dis⟩
  · obtain ⟨x, h1, h2⟩ := r1.val i v e
    exact ⟨x, h1, Rel.mono sl _ _ h2⟩
  · obtain ⟨a', xs, vs, h1, h2, h3, h4, h5, h6, h7⟩ := r1.own i v e
    obtain ⟨a2, xs2, vs2, g1, g2, g3, _⟩ := r.own i v e
    rw [h2] at g2
    cases g2
    refine ⟨a', xs, vs, h1, h2, by rw [hH]; exact h3, fun s => ?_, h5, by rw [hρ]; exact h6, Rels.mono sl _ _ h7⟩
    rcases hS a' s with s | s
    · exact h4 s
    · rw [g3] at s; cases s
end
/-- a new list -/
theorem fin_lst {K : PySem.W.Frag} {w w2 : Ws} {ph : PH} {p : Addr} {xs : List PV} {vs : List V} (f : Wf K w2 ph) (e : Ev w w2) (hp : w2.H p = none) (r : Rels K w2 xs vs) :
    Ev w (w2.lay p (.lst vs)) ∧ Wf K (w2.lay p (.lst vs)) ph ∧ RelF K w (w2.lay p (.lst vs)) (.lst xs, true) (.ref p) := by
  have e2 := ev_lay (w := w2) (o := HO.lst vs) hp
  refine ⟨e.trans e2, wf_lay f hp, p, xs, vs, rfl, rfl, upd_same, fun s => f.Sin p s hp, ev_back e hp, fun s => f.ρin p s hp, Rels.mono (e2.sle f) _ _ r⟩
/-- a new tuple -/
theorem fin_tup {K : PySem.W.Frag} {w w2 : Ws} {ph : PH} {p : Addr} {xs : List PV} {vs : List V} {o : Obj} (f : Wf K w2 ph) (e : Ev w w2) (hp : w2.H p = none) (r : Rels K w2 xs vs) (hd : o.dict = none) :
    Ev w (w2.layF p (.frz o (.tup vs))) ∧ Wf K (w2.layF p (.frz o (.tup vs))) ph ∧ RelF K w (w2.layF p (.frz o (.tup vs))) (.tup xs, false) (.ref p) := by
  have e2 := ev_layF (w := w2) (o := HO.frz o (.tup vs)) hp
  refine ⟨e.trans e2, wf_layF f hp, ?_⟩
  show Rel K _ (.tup xs) _
  rw [Rel]
  exact ⟨p, vs, rfl, .inl ⟨.inr rfl, o, upd_same, hd⟩, Rels.mono (e2.sle f) _ _ r⟩
/-- the values of a list of arguments -/
def RelBs (K : PySem.W.Frag) (w : Ws) : List PV → List V → Prop
  | [], [] => True
  | x :: xs, v :: vs => RelB K w x v ∧ RelBs K w xs vs
  | _, _ => False
theorem RelBs.mono {K : PySem.W.Frag} {w w' : Ws} {ph : PH} (f : Wf K w ph) (h : Ev w w') : ∀ {xs : List PV} {vs : List V}, RelBs K w xs vs → RelBs K w' xs vs
  | [], [], _ => trivial
  | x :: xs, v :: vs, r => ⟨RelB.mono f h r.1, RelBs.mono f h r.2⟩
  | [], _ :: _, r => r.elim
  | _ :: _, [], r => r.elim

/-! ### data -/
section
variable {K : PySem.W.Frag} {w : Ws}
mutual
theorem rel_dp : ∀ (n : Nat) (p : PV) (v : V), p.dat n = true → Rel K w p v → Dp K w.H v p.toD
  | _, .non, v, _, r => by rw [Rel] at r; subst r; exact .non
  | _, .bl b, v, _, r => by rw [Rel] at r; subst r; exact .bl b
  | _, .int i, v, _, r => by rw [Rel] at r; subst r; exact .int i
  | _, .str x, v, _, r => by rw [Rel] at r; subst r; exact .str x
  | 0, .tup _, _, h, _ => by simp [PV.dat] at h
  | 0, .lst _, _, h, _ => by simp [PV.dat] at h
  | n + 1, .tup xs, v, h, r => by
    simp only [PV.dat] at h
    rw [Rel] at r
    obtain ⟨a, vs, rfl, z, q⟩ := r
    exact .tup (sqT_of z) (rels_dp n xs vs h q)
  | n + 1, .lst xs, v, h, r => by
    simp only [PV.dat] at h
    rw [Rel] at r
    obtain ⟨a, vs, rfl, ⟨_, z⟩, q⟩ := r
    exact .lst (.inl z) (rels_dp n xs vs h q)
  | n, .dct _ _, _, h, _ => by cases n <;> simp [PV.dat] at h
  | n, .box _, _, h, _ => by cases n <;> simp [PV.dat] at h
  | n, .scr _, _, h, _ => by cases n <;> simp [PV.dat] at h
theorem rels_dp : ∀ (n : Nat) (ps : List PV) (vs : List V), PV.dats n ps = true → Rels K w ps vs → DpAll K w.H vs (PV.toDs ps)
  | _, [], [], _, _ => .nil
  | n, p :: ps, v :: vs, h, r => by
    simp only [PV.dats, Bool.and_eq_true] at h
    rw [Rels] at r
    exact .cons (rel_dp n p v h.1 r.1) (rels_dp n ps vs h.2 r.2)
  | _, [], _ :: _, _, r => by simp [Rels] at r
  | _, _ :: _, [], _, r => by simp [Rels] at r
end
theorem relB_dp {n : Nat} {p : PV} {v : V} (h : p.dat n = true) (r : RelB K w p v) : Dp K w.H v p.toD := by
  cases p with
  | lst xs =>
    obtain ⟨a, vs, rfl, z, _, q⟩ := r
    cases n with
    | zero => simp [PV.dat] at h
    | succ n =>
      simp only [PV.dat] at h
      exact .lst (.inl z) (rels_dp n xs vs h q)
  | _ => exact rel_dp n _ v h r
end
/-- what a value to be looked at is, read as data -/
theorem relB_reads {X : Cx} {pins : List (Addr × Obj)} {σ : St} {w : Ws} {s : Shared} {n : Nat} {p : PV} {v : V} {u : Value} (I : Inv X pins σ w.H s) (h : p.dat n = true) (r : RelB X.K w p v) (q : RelV v u) :
    ∃ as, PySem.Reads s.heap u p.toD as := Dp.reads I p.toD v u (relB_dp h r) q
/-- its items, where it is a list -/
theorem relB_list {X : Cx} {pins : List (Addr × Obj)} {σ : St} {w : Ws} {s : Shared} {xs : List PV} {v : V} (r : RelB X.K w (.lst xs) v) : ∃ a vs, v = .ref a ∧ SqL X.K w.H a vs ∧ Rels X.K w xs vs := by
  obtain ⟨a, vs, e, z, _, q⟩ := r
  exact ⟨a, vs, e, .inl z, q⟩
theorem relB_tup {K : PySem.W.Frag} {w : Ws} {xs : List PV} {v : V} (r : RelB K w (.tup xs) v) : ∃ a vs, v = .ref a ∧ SqT K w.H a vs ∧ Rels K w xs vs := by
  have r' : Rel K w (.tup xs) v := r
  rw [Rel] at r'
  obtain ⟨a, vs, e, z, q⟩ := r'
  exact ⟨a, vs, e, sqT_of z, q⟩
theorem relB_int {K : PySem.W.Frag} {w : Ws} {i : Int} {v : V} (r : RelB K w (.int i) v) : v = .int i := by
  have r' : Rel K w (.int i) v := r
  rw [Rel] at r'
  exact r'
theorem relB_bl {K : PySem.W.Frag} {w : Ws} {i : Bool} {v : V} (r : RelB K w (.bl i) v) : v = .bl i := by
  have r' : Rel K w (.bl i) v := r
  rw [Rel] at r'
  exact r'
theorem relB_str {K : PySem.W.Frag} {w : Ws} {i : Str} {v : V} (r : RelB K w (.str i) v) : v = .str i := by
  have r' : Rel K w (.str i) v := r
  rw [Rel] at r'
  exact r'
theorem relB_non {K : PySem.W.Frag} {w : Ws} {v : V} (r : RelB K w .non v) : v = .non := by
  have r' : Rel K w .non v := r
  rw [Rel] at r'
  exact r'
theorem rel_bl {K : PySem.W.Frag} {w : Ws} {i : Bool} : Rel K w (.bl i) (.bl i) := by rw [Rel]
theorem rel_int {K : PySem.W.Frag} {w : Ws} {i : Int} : Rel K w (.int i) (.int i) := by rw [Rel]
theorem rel_str {K : PySem.W.Frag} {w : Ws} {i : Str} : Rel K w (.str i) (.str i) := by rw [Rel]
theorem rel_non {K : PySem.W.Frag} {w : Ws} : Rel K w .non .non := by rw [Rel]
/-- a value is None exactly if its tree is -/
theorem relB_isNon {K : PySem.W.Frag} {w : Ws} {p : PV} {v : V} (r : RelB K w p v) : decide (v = .non) = p.isNon := by
  cases p with
  | non => have e := relB_non r; subst e; rfl
  | bl b => have e := relB_bl r; subst e; rfl
  | int b => have e := relB_int r; subst e; rfl
  | str b => have e := relB_str r; subst e; rfl
  | tup xs => obtain ⟨a, vs, rfl, _⟩ := relB_tup r; rfl
  | lst xs => obtain ⟨a, vs, rfl, _⟩ := r; rfl
  | dct ks xs =>
    have r' : Rel K w (.dct ks xs) v := r
    rw [Rel] at r'
    obtain ⟨a, vs, rfl, _⟩ := r'
    rfl
  | box k =>
    have r' : Rel K w (.box k) v := r
    rw [Rel] at r'
    obtain ⟨a, rfl, _⟩ := r'
    rfl
  | scr xs =>
    have r' : Rel K w (.scr xs) v := r
    rw [Rel] at r'
    obtain ⟨a, vs, rfl, _⟩ := r'
    rfl
/-- the script -/
theorem relB_scr {K : PySem.W.Frag} {w : Ws} {xs : List PV} {v : V} (r : RelB K w (.scr xs) v) : ∃ a vs, v = .ref a ∧ SqL K w.H a vs ∧ Rels K w xs vs := by
  have r' : Rel K w (.scr xs) v := r
  rw [Rel] at r'
  obtain ⟨a, vs, e, z, q⟩ := r'
  refine ⟨a, vs, e, ?_, q⟩
  rcases z with ⟨_, z⟩ | z
  · exact .inl z
  · exact .inr z

/-! ### comparisons -/
/-- what a comparison asks -/
def rCmp (K : PySem.W.Frag) (op : CmpOp) : R2 := fun x y H Q => ∃ (p q : PV) (b : Bool) (w : Ws), w.H = H ∧ RelB K w p x ∧ RelB K w q y ∧ pcmp op p q = some b ∧ Q (.bl b) H
theorem peq_some {p q : PV} {b : Bool} (h : peq p q = some b) : p.dat deep = true ∧ q.dat deep = true ∧ b = p.eqv q := by
  unfold peq at h
  split at h
  · rename_i hc
    cases h
    exact ⟨(Bool.and_eq_true_iff.mp hc).1, (Bool.and_eq_true_iff.mp hc).2, rfl⟩
  · cases h
theorem any_toD {d : PV} (hd : d.dat deep = true) : ∀ {ys : List PV}, PV.dats deep ys = true → (ys.any fun y => y.eqv d) = (PV.toDs ys).any fun y => PyData.eqv y d.toD
  | [], _ => rfl
  | y :: ys, h => by
    simp only [PV.dats, Bool.and_eq_true] at h
    simp only [PV.toDs, List.any_cons]
    rw [eqv_toD deep deep y d h.1 hd, any_toD hd h.2]
theorem pin_some {p q : PV} {b : Bool} (h : pin p q = some b) : p.dat deep = true ∧ ((∃ ys, q = .lst ys ∧ PV.dats deep ys = true ∧ b = ys.any fun y => y.eqv p) ∨ ∃ ys, q = .tup ys ∧ PV.dats deep ys = true ∧ b = ys.any fun y => y.eqv p) := by
  unfold pin at h
  split at h
  · split at h
    · rename_i hc
      cases h
      exact ⟨(Bool.and_eq_true_iff.mp hc).1, .inl ⟨_, rfl, (Bool.and_eq_true_iff.mp hc).2, rfl⟩⟩
    · cases h
  · split at h
    · rename_i hc
      cases h
      exact ⟨(Bool.and_eq_true_iff.mp hc).1, .inr ⟨_, rfl, (Bool.and_eq_true_iff.mp hc).2, rfl⟩⟩
    · cases h
  · cases h
section
variable {X : Cx}
theorem room_deep {n m : Nat} (hu : X.A.units + 64 < cLine) (h : n ≤ deep + 1) : X.A.units + 1 + min n m < cLine := by
  have h1 : min n m ≤ n := Nat.min_le_left _ _
  unfold deep at h
  omega
theorem op_pcmp (op : CmpOp) (hu : X.A.units + 64 < cLine) : OpR X (compareOp op) (rCmp X.K op) := by
  intro pins s σ H x y v u Q I rx ry h
  obtain ⟨p, q, b, w, rfl, r1, r2, hb, hQ⟩ := h
  have fin : ∀ b : Bool, b = b → EP X pins σ (fun z H' => z = .bl b ∧ H' = w.H) (Value.bool b) s := fun b _ => ⟨.bl b, w.H, I, rfl, rfl, rfl⟩
  have done : EP X pins σ Q (Value.bool b) s := ⟨.bl b, w.H, I, rfl, hQ⟩
  have ii : ∀ {i j : Int}, p = .int i → q = .int j → (∃ t, v = Value.int i t) ∧ ∃ t, u = Value.int j t := fun {i j} e1 e2 => by
    subst e1 e2
    have a1 := relB_int r1
    have a2 := relB_int r2
    subst a1 a2
    exact ⟨rx, ry⟩
  cases op with
  | Eq =>
    obtain ⟨d1, d2, rfl⟩ := peq_some hb
    obtain ⟨as, ra⟩ := relB_reads I d1 r1 rx
    obtain ⟨bs, rb⟩ := relB_reads I d2 r2 ry
    rw [eqv_toD _ _ _ _ d1 d2] at done
    refine PySem.SeqAt.eq_plain ra rb (toD_plain _ _ d1) (toD_plain _ _ d2) ?_ done
    have h1 := toD_depth _ _ d1
    have h2 : min p.toD.depth q.toD.depth ≤ p.toD.depth := Nat.min_le_left _ _
    unfold deep at h1
    omega
  | NotEq =>
    have hb' : (peq p q).map not = some b := hb
    cases e : peq p q with
    | none => rw [e] at hb'; cases hb'
    | some c =>
      rw [e] at hb'
      cases hb'
      obtain ⟨d1, d2, rfl⟩ := peq_some e
      obtain ⟨as, ra⟩ := relB_reads I d1 r1 rx
      obtain ⟨bs, rb⟩ := relB_reads I d2 r2 ry
      rw [eqv_toD _ _ _ _ d1 d2] at done
      refine PySem.SeqAt.ne_plain ra rb (toD_plain _ _ d1) (toD_plain _ _ d2) ?_ done
      have h1 := toD_depth _ _ d1
      have h2 : min p.toD.depth q.toD.depth ≤ p.toD.depth := Nat.min_le_left _ _
      unfold deep at h1
      omega
  | Lt =>
    cases p <;> cases q <;> first | (cases hb; done) | skip
    obtain ⟨⟨t, rfl⟩, t', rfl⟩ := ii rfl rfl
    cases hb
    exact PyProof.Rows.lt_int done
  | LtE =>
    cases p <;> cases q <;> first | (cases hb; done) | skip
    obtain ⟨⟨t, rfl⟩, t', rfl⟩ := ii rfl rfl
    cases hb
    exact PyProof.Rows.le_int done
  | Gt =>
    cases p <;> cases q <;> first | (cases hb; done) | skip
    obtain ⟨⟨t, rfl⟩, t', rfl⟩ := ii rfl rfl
    cases hb
    exact PyProof.Rows.gt_int done
  | GtE =>
    cases p <;> cases q <;> first | (cases hb; done) | skip
    obtain ⟨⟨t, rfl⟩, t', rfl⟩ := ii rfl rfl
    cases hb
    exact PyProof.Rows.ge_int done
  | In =>
    obtain ⟨d1, h⟩ := pin_some (show pin p q = some b from hb)
    obtain ⟨as, ra⟩ := relB_reads I d1 r1 rx
    rcases h with ⟨ys, rfl, dy, rfl⟩ | ⟨ys, rfl, dy, rfl⟩
    · obtain ⟨bs, rb⟩ := relB_reads (n := deep + 1) I (by simp only [PV.dat]; exact dy) r2 ry
      rw [any_toD d1 dy] at done
      exact PySem.SeqAt.in_list_data rb ra (toDs_plain _ _ dy) (toD_plain _ _ d1) (room_deep hu (Nat.le_succ_of_le (toDs_depth _ _ dy))) done
    · obtain ⟨bs, rb⟩ := relB_reads (n := deep + 1) I (by simp only [PV.dat]; exact dy) r2 ry
      rw [any_toD d1 dy] at done
      exact PySem.SeqAt.in_tuple_data rb ra (toDs_plain _ _ dy) (toD_plain _ _ d1) (room_deep hu (Nat.le_succ_of_le (toDs_depth _ _ dy))) done
  | NotIn =>
    have hb' : (pin p q).map not = some b := hb
    cases e : pin p q with
    | none => rw [e] at hb'; cases hb'
    | some c =>
      rw [e] at hb'
      cases hb'
      obtain ⟨d1, h⟩ := pin_some e
      obtain ⟨as, ra⟩ := relB_reads I d1 r1 rx
      rcases h with ⟨ys, rfl, dy, rfl⟩ | ⟨ys, rfl, dy, rfl⟩
      · obtain ⟨bs, rb⟩ := relB_reads (n := deep + 1) I (by simp only [PV.dat]; exact dy) r2 ry
        rw [any_toD d1 dy] at done
        exact PySem.SeqAt.notIn_list_data rb ra (toDs_plain _ _ dy) (toD_plain _ _ d1) (room_deep hu (Nat.le_succ_of_le (toDs_depth _ _ dy))) done
      · obtain ⟨bs, rb⟩ := relB_reads (n := deep + 1) I (by simp only [PV.dat]; exact dy) r2 ry
        rw [any_toD d1 dy] at done
        exact PySem.SeqAt.notIn_tuple_data rb ra (toDs_plain _ _ dy) (toD_plain _ _ d1) (room_deep hu (Nat.le_succ_of_le (toDs_depth _ _ dy))) done
  | Is =>
    cases q with
    | non =>
      have e := relB_non r2
      subst e
      have hb' : b = p.isNon := by
        cases p <;> (cases hb; rfl)
      refine op_isN pins s σ w.H x .non v u Q I rx ry ⟨rfl, ?_⟩
      rw [relB_isNon r1, ← hb']
      exact hQ
    | bl c =>
      cases p with
      | bl d =>
        have e1 := relB_bl r1
        have e2 := relB_bl r2
        subst e1 e2
        cases hb
        refine op_isBl pins s σ w.H _ _ v u Q I rx ry ⟨d, c, rfl, rfl, ?_⟩
        rw [← Bool.beq_eq_decide_eq]
        exact hQ
      | _ => cases hb
    | _ => cases p <;> cases hb
  | IsNot =>
    cases q with
    | non =>
      have e := relB_non r2
      subst e
      have hb' : b = !p.isNon := by
        cases p <;> (cases hb; rfl)
      refine op_notN pins s σ w.H x .non v u Q I rx ry ⟨rfl, ?_⟩
      rw [relB_isNon r1, ← hb']
      exact hQ
    | bl c =>
      cases p with
      | bl d =>
        have e1 := relB_bl r1
        have e2 := relB_bl r2
        subst e1 e2
        cases hb
        refine op_notBl pins s σ w.H _ _ v u Q I rx ry ⟨d, c, rfl, rfl, ?_⟩
        rw [← Bool.beq_eq_decide_eq]
        exact hQ
      | _ => cases hb
    | _ => cases p <;> cases hb
end
end Py

set_option Elab.async false
set_option linter.all false
set_option maxRecDepth 100000
set_option maxHeartbeats 4000000
/-! PyT: a tuple times a whole number, the ends: none, once, an empty one. -/
namespace Py
open PySem L2
open PyProof.Rows hiding St
theorem tup_mul1 (l : Addr) (its : Array Value) (n : Nat) (dd : Option Addr) (sl : Array (Option Value)) (x : Int) (u : Tok) (b0 : (decide (x < -(2 ^ 63)) || decide (x ≥ 2 ^ 63)) = false) (b1 : (its.isEmpty || x == 1) = true) :
    Meets (Builtin.«tuple.__mul__» ⟨[.ref l, .int x u], []⟩) (fun _ R s => s.heap.get? l = some { cls := .type "tuple", dict := dd, data := .seq its n, slots := sl } ∧ R (.ok (.ret (.ref l))) s) :=
  .of_wp fun prog w A R s h => by
    obtain ⟨hp, g, d, tk, os⟩ := s
    obtain ⟨hl, h⟩ := h
    have f1 := AutoSeq1.idx_int
    wp_walk using wpAny_loadPart' hl
    refine wpAny_ite_false (decide_eq_false (by rw [b0]; exact Bool.false_ne_true)) ?_
    wp_walk using wpAny_loadPart' hl
    exact ⟨_, rfl, h⟩
theorem tup_mul0 (l : Addr) (its : Array Value) (n : Nat) (dd : Option Addr) (sl : Array (Option Value)) (x : Int) (u : Tok) (b0 : (decide (x < -(2 ^ 63)) || decide (x ≥ 2 ^ 63)) = false) (b1 : (its.isEmpty || x == 1) = false) (b2 : (decide (x ≤ 0) || its.isEmpty) = true) :
    Meets (Builtin.«tuple.__mul__» ⟨[.ref l, .int x u], []⟩) (fun _ R s => s.heap.get? l = some { cls := .type "tuple", dict := dd, data := .seq its n, slots := sl } ∧
      R (.ok (.ret (Value.ref s.heap.objs.size))) { s with heap := s.heap.push { cls := Value.type "tuple", data := Data.seq #[] }, toks := s.toks }) :=
  .of_wp fun prog w A R s h => by
    obtain ⟨hp, g, d, tk, os⟩ := s
    obtain ⟨hl, h⟩ := h
    have f1 := AutoSeq1.idx_int
    wp_walk using wpAny_loadPart' hl
    repeat (first
      | (refine wpAny_ite_false (decide_eq_false (by rw [b0]; exact Bool.false_ne_true)) ?_; wp_walk using wpAny_loadPart' hl)
      | (refine wpAny_ite_false (decide_eq_false (by rw [b1]; exact Bool.false_ne_true)) ?_; wp_walk using wpAny_loadPart' hl)
      | (refine wpAny_ite_true (decide_eq_true b2) ?_; wp_walk using wpAny_loadPart' hl))
    exact ⟨_, rfl, h⟩
def rRepT1 (K : PySem.W.Frag) : R2 := fun x y H Q => ∃ l k xs, x = .ref l ∧ y = .int k ∧ SqT K H l xs ∧ (xs = [] ∨ k = 1) ∧ -(2 ^ 62) ≤ k ∧ k < 2 ^ 62 ∧ Q (.ref l) H
def rRepT0 (K : PySem.W.Frag) : R2 := fun x y H Q => ∃ l k xs, x = .ref l ∧ y = .int k ∧ SqT K H l xs ∧ xs ≠ [] ∧ -(2 ^ 62) ≤ k ∧ k ≤ 0 ∧ ∀ (p : Addr) (o : Obj), H p = none → o.dict = none → Q (.ref p) (upd H p (.frz o (.tup [])))
section
variable {X : Cx}
theorem op_repT1 : OpR X (binaryOp .Mult) (rRepT1 X.K) := by
  intro pins s σ H x y v u Q I rx ry h
  obtain ⟨l, k, xs, rfl, rfl, hT, hc1, h1, h2, q⟩ := h
  cases rx
  obtain ⟨t, rfl⟩ := ry
  obtain ⟨its, r, ⟨⟨cls, dd, data, sl⟩, ho, hc, n, hd⟩, hs⟩ := I.tuple hT
  simp only at hc hd
  subst hc hd
  have b0 : (decide (k < -(2 ^ 63)) || decide (k ≥ 2 ^ 63)) = false := by
    rw [decide_eq_false (by omega), decide_eq_false (by omega)] <;> rfl
  have b1 : (its.toArray.isEmpty || k == 1) = true := by
    rcases hc1 with e | e
    · subst e; cases r; rfl
    · subst e; simp
  exact wpAny_binaryOp_repeat_ref (T := "tuple") (U := "int") (by decide) ⟨_, ho, rfl⟩ (fun s' => typeIs_int s' k t) noFill_tuple_mul F.fills_int_mul F.slot_int_rmul repeat_tuple F.slot_int_index.lookup
    (call_meets F.slot_int_rmul (typeIs_int s k t) F.entry_int_rmul (F.args_int_rmul_2 _ _) (int_rmul_tuple k t l its.toArray n dd sl)
      ⟨ho, rfl, ⟨_, ho, rfl⟩, call_meets F.slot_tuple_mul ⟨_, ho, rfl⟩ F.entry_tuple_mul (F.args_tuple_mul_2 _ _) (tup_mul1 l its.toArray n dd sl k t b0 b1) ⟨ho, ⟨.ref l, H, I, rfl, q⟩⟩⟩)
theorem op_repT0 : OpR X (binaryOp .Mult) (rRepT0 X.K) := by
  intro pins s σ H x y v u Q I rx ry h
  obtain ⟨l, k, xs, rfl, rfl, hT, hne, h1, h2, q⟩ := h
  cases rx
  obtain ⟨t, rfl⟩ := ry
  obtain ⟨its, r, ⟨⟨cls, dd, data, sl⟩, ho, hc, n, hd⟩, hs⟩ := I.tuple hT
  simp only at hc hd
  subst hc hd
  have hi : its.toArray.isEmpty = false := by
    cases its with
    | nil => cases r; exact absurd rfl hne
    | cons a b => rfl
  have b0 : (decide (k < -(2 ^ 63)) || decide (k ≥ 2 ^ 63)) = false := by
    rw [decide_eq_false (by omega), decide_eq_false (by omega)] <;> rfl
  have b1 : (its.toArray.isEmpty || k == 1) = false := by
    rw [hi, Bool.false_or]
    exact beq_eq_false_iff_ne.mpr (by omega)
  have b2 : (decide (k ≤ 0) || its.toArray.isEmpty) = true := by rw [decide_eq_true h2, Bool.true_or]
  refine wpAny_binaryOp_repeat_ref (T := "tuple") (U := "int") (by decide) ⟨_, ho, rfl⟩ (fun s' => typeIs_int s' k t) noFill_tuple_mul F.fills_int_mul F.slot_int_rmul repeat_tuple F.slot_int_index.lookup
    (call_meets F.slot_int_rmul (typeIs_int s k t) F.entry_int_rmul (F.args_int_rmul_2 _ _) (int_rmul_tuple k t l its.toArray n dd sl)
      ⟨ho, rfl, ⟨_, ho, rfl⟩, call_meets F.slot_tuple_mul ⟨_, ho, rfl⟩ F.entry_tuple_mul (F.args_tuple_mul_2 _ _) (tup_mul0 l its.toArray n dd sl k t b0 b1 b2) ⟨ho, ?_⟩⟩)
  refine ⟨.ref s.heap.objs.size, _, I.laid (t' := s.toks) (o := .frz { cls := .type "tuple", data := .seq #[] } (.tup [])) (fun b ob q => Heap.get?_push_of_some _ q) (Nat.le_refl _) ?_, rfl, q _ _ (I.hok.fresh (Nat.le_refl _)) rfl⟩
  refine ⟨?_, by decide, _, .nil, ?_⟩
  · exact Heap.get?_push_size (o := { cls := .type "tuple", data := .seq #[] }) _ rfl
  · exact IsTup.new _ _
def rRepT2 (K : PySem.W.Frag) : R2 := fun x y H Q => ∃ l k xs, x = .ref l ∧ y = .int k ∧ SqT K H l xs ∧ xs ≠ [] ∧ 2 ≤ k ∧ k ≤ 1000 ∧ xs.length ≤ 1000 ∧ ∀ (p : Addr) (o : Obj), H p = none → o.dict = none → Q (.ref p) (upd H p (.frz o (.tup (List.replicate k.toNat xs).flatten)))
theorem op_repT2 : OpR X (binaryOp .Mult) (rRepT2 X.K) := by
  intro pins s σ H x y v u Q I rx ry h
  obtain ⟨l, k, xs, rfl, rfl, hT, hne, h1, h2, hz, q⟩ := h
  cases rx
  obtain ⟨t, rfl⟩ := ry
  obtain ⟨its, r, ⟨⟨cls, dd, data, sl⟩, ho, hc, n, hd⟩, hs⟩ := I.tuple hT
  simp only at hc hd
  subst hc hd
  have hle : its.length = xs.length := r.length.symm
  have hn : its ≠ [] := fun e => hne (by subst e; exact List.eq_nil_of_length_eq_zero hle.symm)
  have hi : its.toArray.isEmpty = false := by
    cases its with
    | nil => exact absurd rfl hn
    | cons a b => rfl
  have hsz0 : its.toArray.size = xs.length := by rw [List.size_toArray, hle]
  have hm : ((its.toArray.size : Nat) : Int) * k ≤ 1000000 := by
    rw [hsz0]
    have := Int.mul_le_mul_of_nonneg_right (a := ((xs.length : Nat) : Int)) (b := 1000) (c := k) (by omega) (by omega)
    omega
  have flen : (List.replicate k.toNat its).flatten.length ≤ sizeLine := by
    rw [PyProof.Rows.lm_len_rep_flat, hle, sizeLine_eq]
    have : k.toNat * xs.length ≤ 1000 * 1000 := Nat.mul_le_mul (by omega) hz
    omega
  have b0 : (decide (k < -(2 ^ 63)) || decide (k ≥ 2 ^ 63)) = false := by
    rw [decide_eq_false (by omega), decide_eq_false (by omega)] <;> rfl
  have b1 : (its.toArray.isEmpty || k == 1) = false := by
    rw [hi, Bool.false_or]
    exact beq_eq_false_iff_ne.mpr (by omega)
  have b2 : (decide (k ≤ 0) || its.toArray.isEmpty) = false := by
    rw [hi, Bool.or_false]
    exact decide_eq_false (by omega)
  have b4 : Builtin.Tuple.tupleTooMany (((its.toArray.size : Nat) : Int) * k) = false := by
    unfold Builtin.Tuple.tupleTooMany
    rw [sizeLine_eq]
    exact decide_eq_false (by omega)
  refine wpAny_binaryOp_repeat_ref (T := "tuple") (U := "int") (by decide) ⟨_, ho, rfl⟩ (fun s' => typeIs_int s' k t) noFill_tuple_mul F.fills_int_mul F.slot_int_rmul repeat_tuple F.slot_int_index.lookup
    (call_meets F.slot_int_rmul (typeIs_int s k t) F.entry_int_rmul (F.args_int_rmul_2 _ _) (int_rmul_tuple k t l its.toArray n dd sl)
      ⟨ho, rfl, ⟨_, ho, rfl⟩, call_meets F.slot_tuple_mul ⟨_, ho, rfl⟩ F.entry_tuple_mul (F.args_tuple_mul_2 _ _) (tuple_mulW l its.toArray n dd sl k t b0 b1 b2 (by omega) b4 (by rw [size_rep, List.size_toArray]; exact flen)) ⟨ho, ?_⟩⟩)
  rw [size_rep]
  refine ⟨.ref s.heap.objs.size, _, I.laid (t' := s.toks) (o := .frz { cls := .type "tuple", data := .seq (List.replicate k.toNat its).flatten.toArray } (.tup (List.replicate k.toNat xs).flatten)) (fun b ob q => Heap.get?_push_of_some _ q) (Nat.le_refl _) ?_, rfl, q _ _ (I.hok.fresh (Nat.le_refl _)) rfl⟩
  refine ⟨?_, by rw [PyProof.Rows.lm_len_rep_flat, sizeLine_eq]; have : k.toNat * xs.length ≤ 1000 * 1000 := Nat.mul_le_mul (by omega) hz; omega, _, r.rep k.toNat, ?_⟩
  · exact Heap.get?_push_size (o := { cls := .type "tuple", data := .seq (List.replicate k.toNat its).flatten.toArray }) _ rfl
  · exact IsTup.new _ _
end
end Py

set_option Elab.async false
set_option linter.all false
set_option maxRecDepth 100000
set_option maxHeartbeats 1000000
/-! PyV: operators and built-ins by value. -/
namespace Py
open PySem L2
open PyProof.Rows hiding St
/-- what is wanted of a value that is handed on -/
def RV (K : PySem.W.Frag) (w : Ws) (ph : PH) (r : PV × Bool) (Q : VK) : Prop := ∀ v w', Ev w w' → Wf K w' ph → RelF K w w' r v → Q v w'.H
section
variable {K : PySem.W.Frag} {w : Ws} {ph : PH} {Q : VK} {p : PV}
theorem RV.flat {v : V} (h : RV K w ph (p, false) Q) (f : Wf K w ph) (r : Rel K w p v) : Q v w.H := h v w (Ev.refl w) f r
theorem RV.lst {a : Addr} {xs : List PV} {vs : List V} (h : RV K w ph (.lst xs, true) Q) (f : Wf K w ph) (ha : w.H a = none) (r : Rels K w xs vs) : Q (.ref a) (upd w.H a (.lst vs)) :=
  let ⟨e, f', q⟩ := fin_lst f (Ev.refl w) ha r
  h _ _ e f' q
theorem RV.tup {a : Addr} {xs : List PV} {vs : List V} {o : Obj} (h : RV K w ph (.tup xs, false) Q) (f : Wf K w ph) (ha : w.H a = none) (r : Rels K w xs vs) (hd : o.dict = none) : Q (.ref a) (upd w.H a (.frz o (.tup vs))) :=
  let ⟨e, f', q⟩ := fin_tup f (Ev.refl w) ha r hd
  h _ _ e f' q
end
/-- a readable list's object -/
theorem rd_lst {X : Cx} {pins : List (Addr × Obj)} {σ : St} {H : Hp} {s : Shared} {l : Addr} {xs : List V} (I : Inv X pins σ H s) (hH : Rd H l (.lst xs)) :
    xs.length ≤ sizeLine ∧ ∃ (its : List Value) (n : Nat), Vals xs its ∧ xs.length = its.length ∧ s.heap.get? l = some { cls := .type "list", data := .seq its.toArray n } := by
  obtain ⟨z, its, n, r, e⟩ := hH.ok I.hok
  exact ⟨z, its, n, r, r.length, e⟩
theorem relB_rd {K : PySem.W.Frag} {w : Ws} {xs : List PV} {v : V} (r : RelB K w (.lst xs) v) : ∃ a vs, v = .ref a ∧ Rd w.H a (.lst vs) ∧ Rels K w xs vs := by
  obtain ⟨a, vs, e, z, _, q⟩ := r
  exact ⟨a, vs, e, z, q⟩
theorem relB_tupR {K : PySem.W.Frag} {w : Ws} {xs : List PV} {v : V} (r : RelB K w (.tup xs) v) : Rel K w (.tup xs) v := r
/-! ### operators -/
def rBin (K : PySem.W.Frag) (op : Operator) : R2 := fun x y H Q => ∃ (p q : PV) (r : PV × Bool) (w : Ws) (ph : PH), w.H = H ∧ Wf K w ph ∧ RelB K w p x ∧ RelB K w q y ∧ pbin op p q = some r ∧ RV K w ph r Q
section
variable {X : Cx}
theorem smallI_ok {i : Int} (h : smallI i = true) : -(2 ^ 64) < i ∧ i < 2 ^ 64 := by
  unfold smallI at h
  simp only [Bool.and_eq_true, decide_eq_true_eq] at h
  exact h
theorem rels_repl {K : PySem.W.Frag} {w : Ws} {xs : List PV} {vs : List V} (r : Rels K w xs vs) : ∀ n : Nat, Rels K w (List.replicate n xs).flatten (List.replicate n vs).flatten
  | 0 => by simp [Rels]
  | n + 1 => by
    simp only [List.replicate_succ, List.flatten_cons]
    exact r.append (rels_repl r n)
def rRepR : R2 := fun x y H Q => ∃ l k xs, x = .ref l ∧ y = .int k ∧ Rd H l (.lst xs) ∧ -(2 ^ 63) ≤ k ∧ k < 2 ^ 63 ∧ xs.length * k.toNat ≤ sizeLine ∧
  ∀ p, H p = none → Q (.ref p) (upd H p (.lst (List.replicate k.toNat xs).flatten))
theorem op_repR : OpR X (binaryOp .Mult) rRepR := by
  intro pins s σ H x y v u Q I rx ry h
  obtain ⟨l, k, xs, rfl, rfl, hH, h1, h2, hz, q⟩ := h
  cases rx
  obtain ⟨t, rfl⟩ := ry
  obtain ⟨z, its, n, r, hl, e⟩ := rd_lst I hH
  have hlen : its.toArray.size * k.toNat ≤ sizeLine := by rw [List.size_toArray, ← hl]; exact hz
  have hcap : ¬ its.toArray.size * k.toNat > (2 ^ 63 - 1) / 8 := by
    have : (sizeLine : Nat) ≤ (2 ^ 63 - 1) / 8 := by decide
    omega
  have hfit : ¬ (!Builtin.List.listFitsIndex k) = true := by
    rw [fitsIndex_both h1 h2]
    exact Bool.false_ne_true
  have hlong : ¬ Builtin.List.listTooLong (its.toArray.size * k.toNat) = true := by
    rw [notLongL hlen]
    exact Bool.false_ne_true
  have hnew : List.foldl (fun x1 x2 => x1 ++ x2) #[] (List.replicate (if its.toArray.isEmpty = true then 0 else k.toNat) its.toArray) = (List.replicate k.toNat its).flatten.toArray := by
    have f0 : ∀ m : Nat, List.foldl (fun x1 x2 => x1 ++ x2) #[] (List.replicate m its.toArray) = (List.replicate m its).flatten.toArray := fun m => by
      have := foldl_rep its m []
      rw [List.nil_append] at this
      exact this
    rw [f0]
    cases its with
    | nil => simp
    | cons a r' => rw [if_neg (by simp)]
  refine wpAny_binaryOp_repeat_ref (T := "list") (U := "int") (by decide) ⟨_, e, rfl⟩ (fun s' => typeIs_int s' k t) noFill_list_mul F.fills_int_mul F.slot_int_rmul repeat_list F.slot_int_index.lookup
    (call_meets F.slot_int_rmul (typeIs_int s k t) F.entry_int_rmul (F.args_int_rmul_2 _ _) (int___rmul___int_list k t l its.toArray n)
      ⟨e, rfl, ⟨_, e, rfl⟩, call_meets F.slot_list_mul ⟨_, e, rfl⟩ F.entry_list_mul (F.args_list_mul_2 _ _) (AutoListH.list___mul___list_int_3 l its.toArray n k t hfit hcap hlong) ⟨e, ?_⟩⟩)
  rw [hnew]
  exact ⟨.ref _, _, I.lnew (t' := s.toks) (r.rep k.toNat) (by rw [PyProof.Rows.lm_len_rep_flat, Nat.mul_comm]; exact hz), rfl, q _ I.fresh⟩
theorem op_pbin (op : Operator) : OpR X (binaryOp op) (rBin X.K op) := by
  intro pins s σ H x y v u Q I rx ry h
  obtain ⟨p, q, r, w, ph, rfl, f, r1, r2, hb, hQ⟩ := h
  cases op with
  | Add =>
    cases p with
    | int i =>
      cases q with
      | int j =>
        have e1 := relB_int r1
        have e2 := relB_int r2
        subst e1 e2
        cases hb
        exact op_add pins s σ w.H _ _ v u Q I rx ry ⟨i, j, rfl, rfl, hQ.flat f rel_int⟩
      | _ => cases hb
    | str i =>
      cases q with
      | str j =>
        have e1 := relB_str r1
        have e2 := relB_str r2
        subst e1 e2
        have hb' : (if i.length + j.length ≤ sizeLine then some ((PV.str (i ++ j), false) : PV × Bool) else none) = some r := hb
        split at hb'
        · rename_i hz
          cases hb'
          exact op_add_str pins s σ w.H _ _ v u Q I rx ry ⟨i, j, rfl, rfl, hz, hQ.flat f rel_str⟩
        · cases hb'
      | _ => cases hb
    | lst xs =>
      cases q with
      | lst ys =>
        obtain ⟨a, vs, rfl, ha, ra⟩ := relB_rd r1
        obtain ⟨b, us, rfl, hb2, rb⟩ := relB_rd r2
        have hb' : (if xs.length + ys.length ≤ sizeLine then some ((PV.lst (xs ++ ys), true) : PV × Bool) else none) = some r := hb
        split at hb'
        · rename_i hz
          cases hb'
          cases rx
          cases ry
          obtain ⟨z, its, n, rr, hl, e⟩ := rd_lst I ha
          obtain ⟨z2, its2, n2, rr2, hl2, e2⟩ := rd_lst I hb2
          have h1 := ra.length
          have h2 := rb.length
          refine PySem.P.add_list e e2 ?_ (by rw [List.size_toArray, List.size_toArray]; omega)
          have ea : its.toArray ++ its2.toArray = (its ++ its2).toArray := by simp
          rw [ea]
          refine ⟨.ref s.heap.objs.size, _, I.laid (a := s.heap.objs.size) (o := .lst (vs ++ us)) (t' := s.toks) (fun b ob q => Heap.get?_push_of_some _ q) (Nat.le_refl _) ⟨by rw [List.length_append]; omega, _, 0, rr.append rr2, Heap.get?_push_size _ rfl⟩, rfl, ?_⟩
          exact hQ.lst f (I.hok.fresh (Nat.le_refl _)) (ra.append rb)
        · cases hb'
      | _ => cases hb
    | tup xs =>
      cases q with
      | tup ys =>
        have t1 := relB_tupR r1
        have t2 := relB_tupR r2
        obtain ⟨a, vs, rfl, ha, ra⟩ := relB_tup r1
        obtain ⟨b, us, rfl, hb2, rb⟩ := relB_tup r2
        have hb' : (if xs.length + ys.length ≤ sizeLine then some ((PV.tup (xs ++ ys), false) : PV × Bool) else none) = some r := hb
        split at hb'
        · rename_i hz
          cases hb'
          have h1 := ra.length
          have h2 := rb.length
          cases rx
          cases ry
          obtain ⟨its, rv1, p1, _⟩ := I.tuple ha
          obtain ⟨its2, rv2, p2, _⟩ := I.tuple hb2
          by_cases hx : xs = []
          · subst hx
            have ev : vs = [] := List.eq_nil_of_length_eq_zero (by rw [← h1]; rfl)
            subst ev
            cases rv1
            exact cat_tup0 p1 p2 ⟨.ref b, w.H, I, rfl, hQ.flat f t2⟩
          · have hv : vs ≠ [] := fun e => hx (List.eq_nil_of_length_eq_zero (by rw [h1, e]; rfl))
            refine HT.cat_tup p1 p2 (fun z => hv (rv1.nil_iff.mp z)) (fun z => ?_) (fun z => ?_) (by rw [← rv1.length, ← rv2.length]; omega)
            · have : ys = [] := List.eq_nil_of_length_eq_zero (by rw [h2, rv2.nil_iff.mp z]; rfl)
              subst this
              rw [List.append_nil] at hQ
              exact ⟨.ref a, w.H, I, rfl, hQ.flat f t1⟩
            · refine ⟨.ref s.heap.objs.size, _, I.laid (t' := s.toks) (o := .frz { cls := .type "tuple", data := .seq (its ++ its2).toArray } (.tup (vs ++ us))) (fun b ob q => Heap.get?_push_of_some _ q) (Nat.le_refl _) ?_, rfl, hQ.tup f (I.hok.fresh (Nat.le_refl _)) (ra.append rb) rfl⟩
              refine ⟨?_, by rw [List.length_append]; omega, _, rv1.append rv2, ?_⟩
              · exact Heap.get?_push_size (o := { cls := .type "tuple", data := .seq (its ++ its2).toArray }) _ rfl
              · exact IsTup.new _ _
        · cases hb'
      | _ => cases hb
    | _ => cases q <;> cases hb
  | Sub =>
    cases p with
    | int i =>
      cases q with
      | int j =>
        have e1 := relB_int r1
        have e2 := relB_int r2
        subst e1 e2
        cases hb
        exact op_sub pins s σ w.H _ _ v u Q I rx ry ⟨i, j, rfl, rfl, hQ.flat f rel_int⟩
      | _ => cases hb
    | _ => cases q <;> cases hb
  | Mult =>
    cases p with
    | int i =>
      cases q with
      | int j =>
        have e1 := relB_int r1
        have e2 := relB_int r2
        subst e1 e2
        have hb' : (if (smallI i || smallI j) = true then some ((PV.int (i * j), false) : PV × Bool) else none) = some r := hb
        split at hb'
        · rename_i hz
          cases hb'
          refine op_mul pins s σ w.H _ _ v u Q I rx ry ⟨i, j, rfl, rfl, ?_, hQ.flat f rel_int⟩
          rcases Bool.or_eq_true_iff.mp hz with hz | hz
          · exact .inl (smallI_ok hz)
          · exact .inr (smallI_ok hz)
        · cases hb'
      | _ => cases hb
    | lst xs =>
      cases q with
      | int k =>
        obtain ⟨a, vs, rfl, ha, ra⟩ := relB_rd r1
        have e2 := relB_int r2
        subst e2
        have hb' : (if (decide (-(2 ^ 62) ≤ k) && decide (k < 2 ^ 62) && decide (xs.length * k.toNat ≤ sizeLine)) = true then some ((PV.lst (List.replicate k.toNat xs).flatten, true) : PV × Bool) else none) = some r := hb
        split at hb'
        · rename_i hz
          cases hb'
          simp only [Bool.and_eq_true, decide_eq_true_eq] at hz
          have h1 := ra.length
          refine op_repR pins s σ w.H _ _ v u Q I rx ry ⟨a, k, vs, rfl, rfl, ha, by omega, by omega, by rw [← h1]; exact hz.2, fun p hp => ?_⟩
          exact hQ.lst f hp (rels_repl ra _)
        · cases hb'
      | _ => cases hb
    | tup xs =>
      cases q with
      | int k =>
        have t1 := relB_tupR r1
        obtain ⟨a, vs, rfl, ha, ra⟩ := relB_tup r1
        have e2 := relB_int r2
        subst e2
        have hb' : (if (decide (-(2 ^ 62) ≤ k) && decide (k ≤ 1000) && decide (xs.length ≤ 1000)) = true then some ((PV.tup (List.replicate k.toNat xs).flatten, false) : PV × Bool) else none) = some r := hb
        split at hb'
        · rename_i hz
          cases hb'
          simp only [Bool.and_eq_true, decide_eq_true_eq] at hz
          have h1 := ra.length
          by_cases hx : vs = []
          · subst hx
            have ex : xs = [] := List.eq_nil_of_length_eq_zero (by rw [h1]; rfl)
            subst ex
            have ef : (List.replicate k.toNat ([] : List PV)).flatten = [] := by simp
            rw [ef] at hQ
            exact op_repT1 pins s σ w.H _ _ v u Q I rx ry ⟨a, k, [], rfl, rfl, ha, .inl rfl, by omega, by omega, hQ.flat f t1⟩
          · by_cases hk : k = 1
            · subst hk
              have ef : (List.replicate (1 : Int).toNat xs).flatten = xs := by show (List.replicate 1 xs).flatten = xs; simp
              rw [ef] at hQ
              exact op_repT1 pins s σ w.H _ _ v u Q I rx ry ⟨a, 1, vs, rfl, rfl, ha, .inr rfl, by omega, by omega, hQ.flat f t1⟩
            · by_cases h0 : k ≤ 0
              · have ef : (List.replicate k.toNat xs).flatten = [] := by rw [Int.toNat_of_nonpos h0]; rfl
                rw [ef] at hQ
                exact op_repT0 pins s σ w.H _ _ v u Q I rx ry ⟨a, k, vs, rfl, rfl, ha, hx, by omega, h0, fun p o hp ho => hQ.tup f hp (by simp [Rels]) ho⟩
              · exact op_repT2 pins s σ w.H _ _ v u Q I rx ry ⟨a, k, vs, rfl, rfl, ha, hx, by omega, by omega, by omega, fun p o hp ho => hQ.tup f hp (rels_repl ra _) ho⟩
        · cases hb'
      | _ => cases hb
    | _ => cases q <;> cases hb
  | FloorDiv =>
    cases p with
    | int i =>
      cases q with
      | int j =>
        have e1 := relB_int r1
        have e2 := relB_int r2
        subst e1 e2
        have hb' : (if (decide (0 < j) && decide (j < 1073741824)) = true then some ((PV.int (i / j), false) : PV × Bool) else none) = some r := hb
        split at hb'
        · rename_i hz
          cases hb'
          simp only [Bool.and_eq_true, decide_eq_true_eq] at hz
          exact op_fdiv pins s σ w.H _ _ v u Q I rx ry ⟨i, j, rfl, rfl, hz, hQ.flat f rel_int⟩
        · cases hb'
      | _ => cases hb
    | _ => cases q <;> cases hb
  | Mod =>
    cases p with
    | int i =>
      cases q with
      | int j =>
        have e1 := relB_int r1
        have e2 := relB_int r2
        subst e1 e2
        have hb' : (if 0 < j then some ((PV.int (i % j), false) : PV × Bool) else none) = some r := hb
        split at hb'
        · rename_i hz
          cases hb'
          exact op_mod pins s σ w.H _ _ v u Q I rx ry ⟨i, j, rfl, rfl, hz, hQ.flat f rel_int⟩
        · cases hb'
      | _ => cases hb
    | _ => cases q <;> cases hb
  | Pow =>
    cases p with
    | int i =>
      cases q with
      | int j =>
        have e1 := relB_int r1
        have e2 := relB_int r2
        subst e1 e2
        have hb' : (if (decide (0 ≤ j) && decide (j ≤ 1000) && smallI i) = true then some ((PV.int (i ^ j.toNat), false) : PV × Bool) else none) = some r := hb
        split at hb'
        · rename_i hz
          cases hb'
          simp only [Bool.and_eq_true, decide_eq_true_eq] at hz
          have hs := smallI_ok hz.2
          refine op_pow pins s σ w.H _ _ v u Q I rx ry ⟨i, j, rfl, rfl, ⟨hz.1.1, by omega, by omega⟩, hQ.flat f rel_int⟩
        · cases hb'
      | _ => cases hb
    | _ => cases q <;> cases hb
  | _ => cases p <;> cases q <;> cases hb
end
end Py

set_option Elab.async false
set_option linter.all false
set_option maxRecDepth 100000
set_option maxHeartbeats 1000000
/-! PyW: built-in functions and methods by value. -/
namespace Py
open PySem L2
open PyProof.Rows hiding St
def rBI (K : PySem.W.Frag) (b : BI) : List V → Hp → VK → Prop := fun vs H Q => ∃ (ps : List PV) (r : PV × Bool) (w : Ws) (ph : PH), w.H = H ∧ Wf K w ph ∧ RelBs K w ps vs ∧ pbi b ps = some r ∧ RV K w ph r Q
theorem relBs1 {K : PySem.W.Frag} {w : Ws} {p : PV} {vs : List V} (r : RelBs K w [p] vs) : ∃ v, vs = [v] ∧ RelB K w p v := by
  cases vs with
  | nil => exact r.elim
  | cons v vs =>
    cases vs with
    | nil => exact ⟨v, rfl, r.1⟩
    | cons _ _ => exact r.2.elim
theorem relBs2 {K : PySem.W.Frag} {w : Ws} {p q : PV} {vs : List V} (r : RelBs K w [p, q] vs) : ∃ v u, vs = [v, u] ∧ RelB K w p v ∧ RelB K w q u := by
  cases vs with
  | nil => exact r.elim
  | cons v vs =>
    obtain ⟨u, rfl, h⟩ := relBs1 (show RelBs K w [q] vs from r.2)
    exact ⟨v, u, rfl, r.1, h⟩
theorem pints_some : ∀ {xs : List PV} {is : List Int}, pints xs = some is → xs = is.map PV.int
  | [], is, h => by cases h; rfl
  | x :: xs, is, h => by
    cases x with
    | int i =>
      have h' : (pints xs).map (i :: ·) = some is := h
      cases e : pints xs with
      | none => rw [e] at h'; cases h'
      | some js =>
        rw [e] at h'
        cases h'
        rw [pints_some e]
        rfl
    | _ => cases h
theorem pbls_some : ∀ {xs : List PV} {is : List Bool}, pbls xs = some is → xs = is.map PV.bl
  | [], is, h => by cases h; rfl
  | x :: xs, is, h => by
    cases x with
    | bl i =>
      have h' : (pbls xs).map (i :: ·) = some is := h
      cases e : pbls xs with
      | none => rw [e] at h'; cases h'
      | some js =>
        rw [e] at h'
        cases h'
        rw [pbls_some e]
        rfl
    | _ => cases h
theorem rels_ints {K : PySem.W.Frag} {w : Ws} : ∀ {is : List Int} {vs : List V}, Rels K w (is.map PV.int) vs → vs = is.map V.int
  | [], vs, r => by cases vs with
    | nil => rfl
    | cons _ _ => simp [Rels] at r
  | i :: is, vs, r => by cases vs with
    | nil => simp [Rels] at r
    | cons v vs =>
      simp only [List.map_cons] at r
      rw [Rels, Rel] at r
      rw [r.1, rels_ints r.2]
      rfl
theorem rels_bls {K : PySem.W.Frag} {w : Ws} : ∀ {is : List Bool} {vs : List V}, Rels K w (is.map PV.bl) vs → vs = is.map V.bl
  | [], vs, r => by cases vs with
    | nil => rfl
    | cons _ _ => simp [Rels] at r
  | i :: is, vs, r => by cases vs with
    | nil => simp [Rels] at r
    | cons v vs =>
      simp only [List.map_cons] at r
      rw [Rels, Rel] at r
      rw [r.1, rels_bls r.2]
      rfl
theorem minI_spec : ∀ (is : List Int) (m : Int), minI m is ∈ m :: is ∧ ∀ y ∈ m :: is, minI m is ≤ y
  | [], m => by simp [minI]
  | x :: xs, m => by
    have h := minI_spec xs (if x < m then x else m)
    show minI (if x < m then x else m) xs ∈ m :: x :: xs ∧ ∀ y ∈ m :: x :: xs, minI (if x < m then x else m) xs ≤ y
    by_cases c : x < m
    · rw [if_pos c] at h ⊢
      have h0 := h.2 x List.mem_cons_self
      refine ⟨List.mem_cons_of_mem _ h.1, fun y hy => ?_⟩
      rcases List.mem_cons.mp hy with e | hy
      · omega
      · exact h.2 y hy
    · rw [if_neg c] at h ⊢
      have h0 := h.2 m List.mem_cons_self
      refine ⟨?_, fun y hy => ?_⟩
      · rcases List.mem_cons.mp h.1 with e | e
        · rw [e]; simp
        · simp [e]
      · rcases List.mem_cons.mp hy with e | hy
        · rw [e]; exact h0
        · rcases List.mem_cons.mp hy with e | hy
          · omega
          · exact h.2 y (List.mem_cons_of_mem _ hy)
theorem maxI_spec : ∀ (is : List Int) (m : Int), maxI m is ∈ m :: is ∧ ∀ y ∈ m :: is, y ≤ maxI m is
  | [], m => by simp [maxI]
  | x :: xs, m => by
    have h := maxI_spec xs (if m < x then x else m)
    show maxI (if m < x then x else m) xs ∈ m :: x :: xs ∧ ∀ y ∈ m :: x :: xs, y ≤ maxI (if m < x then x else m) xs
    by_cases c : m < x
    · rw [if_pos c] at h ⊢
      have h0 := h.2 x List.mem_cons_self
      refine ⟨List.mem_cons_of_mem _ h.1, fun y hy => ?_⟩
      rcases List.mem_cons.mp hy with e | hy
      · omega
      · exact h.2 y hy
    · rw [if_neg c] at h ⊢
      have h0 := h.2 m List.mem_cons_self
      refine ⟨?_, fun y hy => ?_⟩
      · rcases List.mem_cons.mp h.1 with e | e
        · rw [e]; simp
        · simp [e]
      · rcases List.mem_cons.mp hy with e | hy
        · rw [e]; exact h0
        · rcases List.mem_cons.mp hy with e | hy
          · omega
          · exact h.2 y (List.mem_cons_of_mem _ hy)
/-! ### sorted of a tuple -/
section
variable {prog : Program} {w : World} {A : Around} {E : Value → Shared → Prop} {s : Shared}
theorem collect_tup {l : Addr} {vs : List Value} {Q : List Value → Shared → Prop} (hl : s.heap.IsTuple l vs.toArray)
    (h : Q vs { s with heap := (s.heap.push (seqObj "list" #[] 0)).update s.heap.objs.size (Obj.mapSeq (· ++ vs.toArray)) }) (hsz : vs.length ≤ sizeLine) :
    wpAny (model prog w) A (collect (.ref l)) Q E s := by
  obtain ⟨o, ho, hc, n, hd⟩ := id hl
  unfold collect
  refine wpAny_bind (wpAny_runValue (codeAny_builtin entry_proto_collect' ?_))
  show wpAny _ _ (do again (.builtin "list.__iadd__" ⟨[← newList [], .ref l], []⟩)) _ _ s
  refine wpAny_bind (wpAny_newList (wpAny_pure ⟨Code.quiet_builtin _ (by decide +kernel), codeAny_builtin entry_list_iadd' ?_⟩))
  show wpAny _ _ (Builtin.List.listExtendWith (.ref s.heap.objs.size) (.ref l) (.ref s.heap.objs.size)) _ _ { s with heap := s.heap.push (seqObj "list" #[] 0) }
  unfold Builtin.List.listExtendWith
  have ho' : (s.heap.push (seqObj "list" #[] 0)).get? l = some o := Heap.get?_push_of_some _ ho
  refine wpAny_bind (wpAny_typeOf (T := "tuple") ⟨o, ho', hc⟩ ?_)
  have ht : (Value.type "tuple" == Value.type "tuple") = true := by rfl
  rw [if_pos (by rw [ht]; simp)]
  refine wpAny_bind (listItems_at ho' hd ?_)
  refine wpAny_bind (listItems_at (xs := #[]) (n := 0) (Heap.get?_push_size _ rfl) rfl ?_)
  rw [if_neg (by simp)]
  refine wpAny_bind (listUpdate_at (xs := #[]) (n := 0) (Heap.get?_push_size _ rfl) rfl ?_ (Nat.zero_le _) (by show (#[] ++ vs.toArray).size ≤ sizeLine + 1; simp only [Array.size_append, List.size_toArray, List.length_nil]; omega))
  refine wpAny_pure ?_
  show wpAny (model prog w) A (do
      let o ← load s.heap.objs.size
      match o.data with
      | .seq xs _ => pure xs.toList
      | _ => unsupported "internal:collect") Q E { s with heap := (s.heap.push (seqObj "list" #[] 0)).update s.heap.objs.size (Obj.mapSeq (· ++ vs.toArray)) }
  refine wpAny_bind (wpAny_load (get?_update_seq (Heap.get?_push_size _ rfl) _) ?_)
  show wpAny _ _ (pure ((#[] : Array Value) ++ vs.toArray).toList) Q E _
  rw [show ((#[] : Array Value) ++ vs.toArray).toList = vs by simp]
  exact wpAny_pure h
theorem sorted_of_sortT {l : Addr} {vs : List Value} {Q : Value → Shared → Prop} (hl : s.heap.IsTuple l vs.toArray) (hL : vs.length ≤ sizeLine)
    (body : ∀ E' : Value → Shared → Prop, wpAny (model prog w) A.in1.in1 (Builtin.«list.sort» ⟨[.ref (s.heap.objs.size + 1)], []⟩) (fun f s' => f = .done (.ret .none) ∧ Q (.ref (s.heap.objs.size + 1)) s') E' { s with heap := PySem.W.copyHeap s.heap vs }) :
    wpAny (model prog w) A (call (.builtin "sorted") [.ref l]) Q E s := by
  refine PySem.Calls.call_function_entry kind_sorted plain_sorted entry_sorted (args_sorted1 _) ?_
  unfold Builtin.«sorted»
  refine wpAny_bind (m := checkCount "sorted" 1 1 _) (wpAny_pure ?_)
  refine wpAny_bind (collect_tup hl ?_ hL)
  refine wpAny_bind (wpAny_newList ?_ hL)
  have hsz : ((s.heap.push (seqObj "list" #[] 0)).update s.heap.objs.size (Obj.mapSeq (· ++ vs.toArray))).objs.size = s.heap.objs.size + 1 := by
    rw [Heap.size_update, size_push']
  show wpAny _ _ _ _ _ { s with heap := PySem.W.copyHeap s.heap vs }
  rw [hsz]
  refine wpAny_bind (wpAny_holding (wpAny_call_entry slot_list_sort ⟨_, PySem.W.copyHeap_at s.heap vs, rfl⟩ entry_list_sort ?body (args_list_sort _)))
  case body =>
    show wpAny (model prog w) A.in1.in1 (Builtin.«list.sort» ⟨[.ref (s.heap.objs.size + 1)], []⟩) _ _ _
    refine wpAny_mono (body _) (fun f s' hf => ?_) fun _ _ e => e
    obtain ⟨rfl, hq⟩ := hf
    exact ⟨_, rfl, wpAny_pure ⟨_, rfl, hq⟩⟩
open PySem.W in
theorem sorted_dataT {β : Type} {vs : List Value} {bs : List β} {enc : β → PyData} {R : Value → β → Prop} {l : Addr} {Q : Value → Shared → Prop} (hl : s.heap.IsTuple l vs.toArray) (e : EachIs R vs bs) (er : EachIs (fun v b => ∃ as, Reads s.heap v (enc b) as) vs bs) (hal : AllAlike (bs.map enc)) (hk : Sortable (bs.map enc)) (hL : bs.length ≤ sizeLine)
    (hu : ∀ b, b ∈ bs → A.units + 2 + (enc b).depth < cLine) (h : ∀ out, out.length = bs.length → EachIs R out (bs.mergeSort (dataLe false enc)) → Q (.ref (s.heap.objs.size + 1)) { s with heap := sortedAll s.heap vs (List.toArray out) }) :
    wpAny (model prog w) A (call (.builtin "sorted") [.ref l]) Q E s := by
  have er' : EachIs (fun v b => ∃ as, Reads (sortingHeap (copyHeap s.heap vs) (s.heap.objs.size + 1) vs) v (enc b) as) vs bs := er.mono fun _ _ ⟨as, r⟩ => ⟨as, PyProof.Rows.Reads.keeps (fun _ _ => sorting_copy_old) r⟩
  have S := SortsAt.data (prog := prog) (w := w) (A := A.in1.in1) (s := { s with heap := sortingHeap (copyHeap s.heap vs) (s.heap.objs.size + 1) vs }) (each_map (R := fun v d => ∃ as, Reads (sortingHeap (copyHeap s.heap vs) (s.heap.objs.size + 1) vs) v d as) enc er') hal hk (bound_map (A := A.in1.in1) hu)
  refine sorted_of_sortT hl (by rw [e.length]; exact hL) fun _ => list_sort_vals (s := { s with heap := copyHeap s.heap vs }) (copyHeap_at s.heap vs) S (by rw [e.length]; exact hL) ⟨rfl, ?_⟩
  exact h _ (by rw [sortVals_length false rfl]; exact e.length) (sortVals_data false e er' hal)
end

/-! ### min, max of a tuple of ints -/
section
variable {prog : Program} {w : World} {A : Around} {E : Value → Shared → Prop} {s : Shared}
theorem reads_ints {h : Heap} : ∀ {its : List Value} {ns : List Int}, IntsAre its ns → ∃ as, PySem.ReadsAll h its (ns.map PyData.int) as
  | _, _, .nil => ⟨[], .nil⟩
  | _, _, .cons n t r => by
    obtain ⟨as, q⟩ := reads_ints (h := h) r
    exact ⟨_, .cons (.int n t) q⟩
theorem depth_ints : ∀ ns : List Int, PyData.depthAll (ns.map PyData.int) = 0
  | [] => rfl
  | n :: ns => by
    show max (PyData.depth (.int n)) (PyData.depthAll (ns.map PyData.int)) = 0
    rw [depth_ints ns]
    rfl
theorem alike_ints (ns : List Int) : PySem.W.AlikeAll (ns.map PyData.int) := by
  refine ⟨fun x hx y hy => ?_, fun x hx e => ?_⟩
  · obtain ⟨i, _, rfl⟩ := List.mem_map.mp hx
    obtain ⟨j, _, rfl⟩ := List.mem_map.mp hy
    rfl
  · obtain ⟨i, _, rfl⟩ := List.mem_map.mp hx
    cases e
theorem foldl_min_spec : ∀ (r : List Int) (n : Int), r.foldl min n ∈ n :: r ∧ ∀ y ∈ n :: r, r.foldl min n ≤ y
  | [], n => by simp
  | x :: xs, n => by
    have h := foldl_min_spec xs (min n x)
    show xs.foldl min (min n x) ∈ n :: x :: xs ∧ ∀ y ∈ n :: x :: xs, xs.foldl min (min n x) ≤ y
    have h0 := h.2 (min n x) List.mem_cons_self
    have h1 : min n x ≤ n := Int.min_le_left _ _
    have h2 : min n x ≤ x := Int.min_le_right _ _
    have h3 : min n x = n ∨ min n x = x := by rw [Int.min_def]; split <;> simp
    refine ⟨?_, fun y hy => ?_⟩
    · rcases List.mem_cons.mp h.1 with e | e
      · rw [e]; rcases h3 with h3 | h3 <;> rw [h3] <;> simp
      · simp [e]
    · rcases List.mem_cons.mp hy with e | hy
      · omega
      · rcases List.mem_cons.mp hy with e | hy
        · omega
        · exact h.2 y (List.mem_cons_of_mem _ hy)
theorem foldl_max_spec : ∀ (r : List Int) (n : Int), r.foldl max n ∈ n :: r ∧ ∀ y ∈ n :: r, y ≤ r.foldl max n
  | [], n => by simp
  | x :: xs, n => by
    have h := foldl_max_spec xs (max n x)
    show xs.foldl max (max n x) ∈ n :: x :: xs ∧ ∀ y ∈ n :: x :: xs, y ≤ xs.foldl max (max n x)
    have h0 := h.2 (max n x) List.mem_cons_self
    have h1 : n ≤ max n x := Int.le_max_left _ _
    have h2 : x ≤ max n x := Int.le_max_right _ _
    have h3 : max n x = n ∨ max n x = x := by rw [Int.max_def]; split <;> simp
    refine ⟨?_, fun y hy => ?_⟩
    · rcases List.mem_cons.mp h.1 with e | e
      · rw [e]; rcases h3 with h3 | h3 <;> rw [h3] <;> simp
      · simp [e]
    · rcases List.mem_cons.mp hy with e | hy
      · omega
      · rcases List.mem_cons.mp hy with e | hy
        · omega
        · exact h.2 y (List.mem_cons_of_mem _ hy)
theorem min_raw_tup {l : Addr} {its : List Value} {ns : List Int} {Q : Value → Shared → Prop} (hh : A.handled = none) (hu : A.units + 64 < cLine) (hl : s.heap.IsTuple l its.toArray) (hi : IntsAre its ns) (hne : 0 < ns.length)
    (h : ∀ h' tk M t', (∀ b o, s.heap.get? b = some o → h'.get? b = some o) → M ∈ ns → (∀ a, a ∈ ns → M ≤ a) → Q (.int M t') { s with heap := h', toks := tk }) : wpAny (model prog w) A (call (.builtin "min") [.ref l]) Q E s := by
  cases ns with
  | nil => simp at hne
  | cons n r =>
    obtain ⟨as, q⟩ := reads_ints (h := s.heap) hi
    obtain ⟨h1, h2⟩ := foldl_min_spec r n
    refine PySem.W.min_tuple_data (x := .int n) (xs := r.map .int) (as := as) hh hl q (alike_ints (n :: r)) (by rw [show PyData.int n :: r.map PyData.int = (n :: r).map PyData.int from rfl, depth_ints]; omega) fun i v h' tk bs _ rd hk => ?_
    rw [PySem.W.minD_ints] at rd
    cases rd
    exact h h' tk _ _ hk h1 h2
theorem max_raw_tup {l : Addr} {its : List Value} {ns : List Int} {Q : Value → Shared → Prop} (hh : A.handled = none) (hu : A.units + 64 < cLine) (hl : s.heap.IsTuple l its.toArray) (hi : IntsAre its ns) (hne : 0 < ns.length)
    (h : ∀ h' tk M t', (∀ b o, s.heap.get? b = some o → h'.get? b = some o) → M ∈ ns → (∀ a, a ∈ ns → a ≤ M) → Q (.int M t') { s with heap := h', toks := tk }) : wpAny (model prog w) A (call (.builtin "max") [.ref l]) Q E s := by
  cases ns with
  | nil => simp at hne
  | cons n r =>
    obtain ⟨as, q⟩ := reads_ints (h := s.heap) hi
    obtain ⟨h1, h2⟩ := foldl_max_spec r n
    refine PySem.W.max_tuple_data (x := .int n) (xs := r.map .int) (as := as) hh hl q (alike_ints (n :: r)) (by rw [show PyData.int n :: r.map PyData.int = (n :: r).map PyData.int from rfl, depth_ints]; omega) fun i v h' tk bs _ rd hk => ?_
    rw [PySem.W.maxD_ints] at rd
    cases rd
    exact h h' tk _ _ hk h1 h2
end
/-! ### built-in functions -/
def biV : BI → Value
  | .len => .builtin "len" | .abs => .builtin "abs" | .min => .builtin "min" | .max => .builtin "max" | .sum => .builtin "sum" | .all => .builtin "all" | .any => .builtin "any"
  | .sorted => .builtin "sorted" | .list => .type "list" | .tuple => .type "tuple" | .int => .type "int" | .divmod => .builtin "divmod" | .repr => .builtin "repr"
theorem each_of {K : PySem.W.Frag} {w : Ws} : ∀ {xs : List PV} {vs : List V} {its : List Value}, Rels K w xs vs → Vals vs its → PySem.W.EachIs (fun u p => ∃ v, RelV v u ∧ Rel K w p v) its xs
  | [], [], _, _, .nil => .nil
  | x :: xs, v :: vs, _, r, .cons h t => by
    rw [Rels] at r
    exact .cons ⟨v, h, r.1⟩ (each_of r.2 t)
  | [], _ :: _, _, r, _ => by simp [Rels] at r
  | _ :: _, [], _, r, _ => by simp [Rels] at r
theorem each_back {K : PySem.W.Frag} {w : Ws} : ∀ {xs : List PV} {its : List Value}, PySem.W.EachIs (fun u p => ∃ v, RelV v u ∧ Rel K w p v) its xs → ∃ vs, Vals vs its ∧ Rels K w xs vs
  | _, _, .nil => ⟨[], .nil, .nil⟩
  | _, _, .cons ⟨v, h, r⟩ t => by
    obtain ⟨vs, q1, q2⟩ := each_back t
    exact ⟨v :: vs, .cons h q1, .cons r q2⟩
theorem each_reads {X : Cx} {pins : List (Addr × Obj)} {σ : St} {w : Ws} {s : Shared} (I : Inv X pins σ w.H s) : ∀ {xs : List PV} {its : List Value}, PV.dats deep xs = true →
    PySem.W.EachIs (fun u p => ∃ v, RelV v u ∧ Rel X.K w p v) its xs → PySem.W.EachIs (fun u p => ∃ as, PySem.Reads s.heap u (PV.toD p) as) its xs
  | _, _, _, .nil => .nil
  | x :: xs, _, d, .cons ⟨v, h, r⟩ t => by
    simp only [PV.dats, Bool.and_eq_true] at d
    exact .cons (Dp.reads I x.toD v _ (rel_dp _ x v d.1 r) h) (each_reads I d.2 t)
theorem sortable_dats {xs : List PV} (h : sortable xs = true) : PV.dats deep xs = true := by
  unfold sortable at h
  simp only [Bool.and_eq_true] at h
  exact h.1.1
theorem psort_some {xs ys : List PV} (h : psort xs = some ys) : sortable xs = true ∧ xs.length ≤ sizeLine ∧ ys = isortP xs := by
  unfold psort at h
  split at h
  · rename_i hc
    cases h
    simp only [Bool.and_eq_true, decide_eq_true_eq] at hc
    exact ⟨hc.1, hc.2, rfl⟩
  · cases h
section
variable {X : Cx}
theorem sorted_fin {pins : List (Addr × Obj)} {σ : St} {w : Ws} {ph : PH} {s : Shared} {Q : VK} {xs ys : List PV} {its out : List Value} (I : Inv X pins σ w.H s) (f : Wf X.K w ph)
    (hs : sortable xs = true) (hz : xs.length ≤ sizeLine) (hy : ys = isortP xs) (hQ : RV X.K w ph (.lst ys, true) Q) (hlen : out.length = xs.length)
    (eo : PySem.W.EachIs (fun u p => ∃ v, RelV v u ∧ Rel X.K w p v) out (xs.mergeSort (PySem.W.dataLe false PV.toD))) :
    EP X pins σ Q (.ref (s.heap.objs.size + 1)) { s with heap := sortedAll s.heap its (List.toArray out) } := by
  rw [← isortP_merge hs, ← hy] at eo
  obtain ⟨us, q1, q2⟩ := each_back eo
  obtain ⟨ep, he'⟩ := PyProof.Rows.sortedAll_at s.heap its out.toArray
  have hl2 := q1.length
  exact ⟨.ref _, upd w.H (s.heap.objs.size + 1) (.lst us), I.laid (t' := s.toks) (fun _ _ => PyProof.Rows.sortedAll_old) (Nat.le_succ _) ⟨by omega, out, ep, q1, he'⟩, rfl, hQ.lst f (I.hok.fresh (Nat.le_succ _)) q2⟩
/-- no repr is under way -/
def NoG (A : Around) : Prop := A.guards = some []
theorem noDict : ∀ (n : Nat) (x : PV), x.dat n = true → x.toD.hasDict = false
  | _, .non, _ => rfl
  | _, .bl _, _ => rfl
  | _, .int _, _ => rfl
  | _, .str _, _ => rfl
  | 0, .tup _, h => by simp [PV.dat] at h
  | 0, .lst _, h => by simp [PV.dat] at h
  | n + 1, .tup xs, h => by
    simp only [PV.dat] at h
    exact noDicts n xs h
  | n + 1, .lst xs, h => by
    simp only [PV.dat] at h
    exact noDicts n xs h
  | 0, .dct _ _, h => by simp [PV.dat] at h
  | n + 1, .dct _ _, h => by simp [PV.dat] at h
  | 0, .box _, h => by simp [PV.dat] at h
  | n + 1, .box _, h => by simp [PV.dat] at h
  | 0, .scr _, h => by simp [PV.dat] at h
  | n + 1, .scr _, h => by simp [PV.dat] at h
where noDicts : ∀ (n : Nat) (xs : List PV), PV.dats n xs = true → PyData.hasDictAll (PV.toDs xs) = false
  | _, [], _ => rfl
  | n, x :: xs, h => by
    simp only [PV.dats, Bool.and_eq_true] at h
    show (x.toD.hasDict || PyData.hasDictAll (PV.toDs xs)) = false
    rw [noDict n x h.1, noDicts n xs h.2]
    rfl
theorem repr_rd {P : Program} {w : World} {A : Around} {E : Value → Shared → Prop} {s : Shared} {Q : Value → Shared → Prop} {u : Value} {d : PyData} {as : List Addr} (rd : PySem.Reads s.heap u d as) (hs : d.showable = true) (hn : d.hasDict = true → sysModules ∉ as) (hz : d.shown.length ≤ sizeLine)
    (ng : NoG A) (hu : A.units + (d.depth + 1) < cLine) (fin : ∀ (h' : Heap) (t tk : Tok), (∀ b o, s.heap.get? b = some o → h'.get? b = some o) → Q (.str d.shown t) { s with heap := h', toks := tk }) :
    wpAny (model P w) A (PySem.call (.builtin "repr") [u]) Q E s := by
  have rd' := rd
  cases rd with
  | none => exact PySem.P.repr_of_none (fin s.heap _ _ fun _ _ e => e)
  | bool b => exact PySem.P.repr_of_bool (fin s.heap _ _ fun _ _ e => e)
  | int i t => exact PySem.P.repr_of_int (by simpa [PyData.showable] using hs) (fin s.heap _ _ fun _ _ e => e)
  | str x t => exact PySem.P.repr_of_str (fin s.heap _ _ fun _ _ e => e) hz
  | list h1 h2 h3 h4 => exact repr_of_reads' rd' hs hn ng hu (fun _ _ e => e) (fun h' u tk hk => fin h' u tk hk) hz
  | tuple h1 h2 h3 h4 => exact repr_of_reads' rd' hs hn ng hu (fun _ _ e => e) (fun h' u tk hk => fin h' u tk hk) hz
  | dict h1 h2 h3 h4 h5 => exact repr_of_reads' rd' hs hn ng hu (fun _ _ e => e) (fun h' u tk hk => fin h' u tk hk) hz
theorem cr_pbi (b : BI) (hc : X.calm = true) (ng : NoG X.A) (hu : X.A.units + 64 < cLine) : CallR X (biV b) (rBI X.K b) := by
  intro pins s σ H vs us Q I rv h
  obtain ⟨ps, r, w, ph, rfl, f, rs, hb, hQ⟩ := h
  have one : ∀ {p : PV}, ps = [p] → ∃ v, vs = [v] ∧ RelB X.K w p v := fun {p} e => by subst e; exact relBs1 rs
  have two : ∀ {p q : PV}, ps = [p, q] → ∃ v u, vs = [v, u] ∧ RelB X.K w p v ∧ RelB X.K w q u := fun {p q} e => by subst e; exact relBs2 rs
  cases b with
  | len =>
    match ps, hb with
    | [.lst xs], hb =>
      cases hb
      obtain ⟨v, rfl, r1⟩ := one rfl
      obtain ⟨a, vs, rfl, ha, ra⟩ := relB_rd r1
      have hl := ra.length
      exact call_len_seq pins s σ w.H _ us Q I rv ⟨a, vs, rfl, .inl (.inl ha), hl ▸ hQ.flat f rel_int⟩
    | [.tup xs], hb =>
      cases hb
      obtain ⟨v, rfl, r1⟩ := one rfl
      obtain ⟨a, vs, rfl, ha, ra⟩ := relB_tup r1
      have hl := ra.length
      exact call_len_seq pins s σ w.H _ us Q I rv ⟨a, vs, rfl, .inr ha, hl ▸ hQ.flat f rel_int⟩
    | [.scr xs], hb =>
      cases hb
      obtain ⟨v, rfl, r1⟩ := one rfl
      obtain ⟨a, vs, rfl, ha, ra⟩ := relB_scr r1
      have hl := ra.length
      exact call_len_seq pins s σ w.H _ us Q I rv ⟨a, vs, rfl, .inl ha, hl ▸ hQ.flat f rel_int⟩
    | [.str x], hb =>
      obtain ⟨v, rfl, r1⟩ := one rfl
      have e := relB_str r1
      subst e
      have hb' : (if x.length ≤ sizeLine then some ((PV.int x.length, false) : PV × Bool) else none) = some r := hb
      split at hb'
      · rename_i hz
        cases hb'
        exact call_len_str pins s σ w.H _ us Q I rv ⟨x, rfl, hz, hQ.flat f rel_int⟩
      · cases hb'
  | abs =>
    match ps, hb with
    | [.int i], hb =>
      cases hb
      obtain ⟨v, rfl, r1⟩ := one rfl
      have e := relB_int r1
      subst e
      exact call_abs pins s σ w.H _ us Q I rv ⟨i, rfl, hQ.flat f rel_int⟩
  | min =>
    match ps, hb with
    | [.int i, .int j], hb =>
      cases hb
      obtain ⟨v, u, rfl, r1, r2⟩ := two rfl
      have e := relB_int r1
      have e2 := relB_int r2
      subst e e2
      exact call_min2 hc pins s σ w.H _ us Q I rv ⟨i, j, rfl, hQ.flat f rel_int⟩
    | [.lst xs], hb =>
      obtain ⟨v, rfl, r1⟩ := one rfl
      obtain ⟨a, vs, rfl, ha, ra⟩ := relB_rd r1
      simp only [pbi] at hb
      split at hb
      · rename_i i is hp
        cases hb
        have e := pints_some hp
        subst e
        have e := rels_ints ra
        subst e
        refine cr_min hc pins s σ w.H _ us Q I rv ⟨a, i :: is, rfl, .inl ha, by simp, fun m hm hy => ?_⟩
        obtain ⟨h1, h2⟩ := minI_spec is i
        have : minI i is = m := Int.le_antisymm (h2 m hm) (hy _ h1)
        exact this ▸ hQ.flat f rel_int
      · cases hb
    | [.tup xs], hb =>
      obtain ⟨v, rfl, r1⟩ := one rfl
      obtain ⟨a, vs, rfl, ha, ra⟩ := relB_tup r1
      simp only [pbi] at hb
      split at hb
      · rename_i i is hp
        cases hb
        have e := pints_some hp
        subst e
        have e := rels_ints ra
        subst e
        obtain ⟨its, rr, hl, _⟩ := I.tuple ha
        rw [Vals.ref1 rv]
        refine min_raw_tup (I.ok.hd hc) hu hl rr.ints (by simp) fun h' tk M t' hk h1 h2 => ⟨.int M, w.H, I.kept hk, ⟨_, rfl⟩, ?_⟩
        obtain ⟨g1, g2⟩ := minI_spec is i
        have : minI i is = M := Int.le_antisymm (g2 M h1) (h2 _ g1)
        exact this ▸ hQ.flat f rel_int
      · cases hb
  | max =>
    match ps, hb with
    | [.int i, .int j], hb =>
      cases hb
      obtain ⟨v, u, rfl, r1, r2⟩ := two rfl
      have e := relB_int r1
      have e2 := relB_int r2
      subst e e2
      exact call_max2 hc pins s σ w.H _ us Q I rv ⟨i, j, rfl, hQ.flat f rel_int⟩
    | [.lst xs], hb =>
      obtain ⟨v, rfl, r1⟩ := one rfl
      obtain ⟨a, vs, rfl, ha, ra⟩ := relB_rd r1
      simp only [pbi] at hb
      split at hb
      · rename_i i is hp
        cases hb
        have e := pints_some hp
        subst e
        have e := rels_ints ra
        subst e
        refine cr_max hc pins s σ w.H _ us Q I rv ⟨a, i :: is, rfl, .inl ha, by simp, fun m hm hy => ?_⟩
        obtain ⟨h1, h2⟩ := maxI_spec is i
        have : maxI i is = m := Int.le_antisymm (hy _ h1) (h2 m hm)
        exact this ▸ hQ.flat f rel_int
      · cases hb
    | [.tup xs], hb =>
      obtain ⟨v, rfl, r1⟩ := one rfl
      obtain ⟨a, vs, rfl, ha, ra⟩ := relB_tup r1
      simp only [pbi] at hb
      split at hb
      · rename_i i is hp
        cases hb
        have e := pints_some hp
        subst e
        have e := rels_ints ra
        subst e
        obtain ⟨its, rr, hl, _⟩ := I.tuple ha
        rw [Vals.ref1 rv]
        refine max_raw_tup (I.ok.hd hc) hu hl rr.ints (by simp) fun h' tk M t' hk h1 h2 => ⟨.int M, w.H, I.kept hk, ⟨_, rfl⟩, ?_⟩
        obtain ⟨g1, g2⟩ := maxI_spec is i
        have : maxI i is = M := Int.le_antisymm (h2 _ g1) (g2 M h1)
        exact this ▸ hQ.flat f rel_int
      · cases hb
  | sum =>
    match ps, hb with
    | [.lst xs], hb =>
      obtain ⟨v, rfl, r1⟩ := one rfl
      obtain ⟨a, vs, rfl, ha, ra⟩ := relB_rd r1
      simp only [pbi] at hb
      split at hb
      · rename_i is hp
        cases hb
        have e := pints_some hp
        subst e
        have e := rels_ints ra
        subst e
        exact cr_sum hc pins s σ w.H _ us Q I rv ⟨a, is, rfl, .inl ha, hQ.flat f rel_int⟩
      · cases hb
  | all =>
    match ps, hb with
    | [.lst xs], hb =>
      obtain ⟨v, rfl, r1⟩ := one rfl
      obtain ⟨a, vs, rfl, ha, ra⟩ := relB_rd r1
      simp only [pbi] at hb
      split at hb
      · rename_i is hp
        cases hb
        have e := pbls_some hp
        subst e
        have e := rels_bls ra
        subst e
        exact cr_all hc pins s σ w.H _ us Q I rv ⟨a, is, rfl, .inl ha, hQ.flat f rel_bl⟩
      · cases hb
  | any =>
    match ps, hb with
    | [.lst xs], hb =>
      obtain ⟨v, rfl, r1⟩ := one rfl
      obtain ⟨a, vs, rfl, ha, ra⟩ := relB_rd r1
      simp only [pbi] at hb
      split at hb
      · rename_i is hp
        cases hb
        have e := pbls_some hp
        subst e
        have e := rels_bls ra
        subst e
        exact cr_any hc pins s σ w.H _ us Q I rv ⟨a, is, rfl, .inl ha, hQ.flat f rel_bl⟩
      · cases hb
  | sorted =>
    match ps, hb with
    | [.lst xs], hb =>
      obtain ⟨v, rfl, r1⟩ := one rfl
      obtain ⟨a, vs, rfl, ha, ra⟩ := relB_rd r1
      have hb' : ((psort xs).map fun ys => ((PV.lst ys, true) : PV × Bool)) = some r := hb
      obtain ⟨ys, hy, e⟩ := Option.map_eq_some_iff.mp hb'
      subst e
      obtain ⟨hs, hz, hy⟩ := psort_some hy
      obtain ⟨z, its, n, rr, hl, e⟩ := rd_lst I ha
      rw [Vals.ref1 rv]
      have ee := each_of ra rr
      refine PySem.W.sorted_data (vs := its) (bs := xs) (enc := PV.toD) (R := fun u p => ∃ v, RelV v u ∧ Rel X.K w p v) ⟨_, e, rfl, n, rfl⟩ ee (each_reads I (sortable_dats hs) ee) (alike_all hs) (sortable_D hs) hz
        (fun p hp => ?_) fun out ho eo => sorted_fin I f hs hz hy hQ ho eo
      have := toD_depth _ _ (dats_iff.mp (sortable_dats hs) p hp)
      unfold deep at this
      omega
    | [.tup xs], hb =>
      obtain ⟨v, rfl, r1⟩ := one rfl
      obtain ⟨a, vs, rfl, ha, ra⟩ := relB_tup r1
      have hb' : ((psort xs).map fun ys => ((PV.lst ys, true) : PV × Bool)) = some r := hb
      obtain ⟨ys, hy, e⟩ := Option.map_eq_some_iff.mp hb'
      subst e
      obtain ⟨hs, hz, hy⟩ := psort_some hy
      obtain ⟨its, rr, hl, _⟩ := I.tuple ha
      rw [Vals.ref1 rv]
      have ee := each_of ra rr
      refine sorted_dataT (vs := its) (bs := xs) (enc := PV.toD) (R := fun u p => ∃ v, RelV v u ∧ Rel X.K w p v) hl ee (each_reads I (sortable_dats hs) ee) (alike_all hs) (sortable_D hs) hz
        (fun p hp => ?_) fun out ho eo => sorted_fin I f hs hz hy hQ ho eo
      have := toD_depth _ _ (dats_iff.mp (sortable_dats hs) p hp)
      unfold deep at this
      omega
  | list =>
    match ps, hb with
    | [.lst xs], hb =>
      cases hb
      obtain ⟨v, rfl, r1⟩ := one rfl
      obtain ⟨a, vs, rfl, ha, ra⟩ := relB_rd r1
      exact call_list_of pins s σ w.H _ us Q I rv ⟨a, vs, rfl, .inl (.inl ha), fun l hl => hQ.lst f hl ra⟩
    | [.tup xs], hb =>
      cases hb
      obtain ⟨v, rfl, r1⟩ := one rfl
      obtain ⟨a, vs, rfl, ha, ra⟩ := relB_tup r1
      exact call_list_of pins s σ w.H _ us Q I rv ⟨a, vs, rfl, .inr ha, fun l hl => hQ.lst f hl ra⟩
  | tuple =>
    match ps, hb with
    | [.lst xs], hb =>
      cases hb
      obtain ⟨v, rfl, r1⟩ := one rfl
      obtain ⟨a, vs, rfl, ha, ra⟩ := relB_rd r1
      obtain ⟨its, r', pl, hz⟩ := I.list (.inl ha)
      rw [Vals.ref1 rv]
      refine call_tuple_list pl.isList (fun h' kp => ?_) (by simp only [List.size_toArray]; have := r'.length; omega)
      have I1 : Inv X pins σ w.H { s with heap := h' } := I.kept (t' := s.toks) kp
      have I2 : Inv X pins σ (upd w.H h'.objs.size (.frz { cls := .type "tuple", data := .seq its.toArray } (.tup vs))) { s with heap := h'.push { cls := .type "tuple", data := .seq its.toArray } } :=
        I1.laid (t' := s.toks) (fun b o e => Heap.get?_push_of_some _ e) (Nat.le_refl _) (show ObjOk X.prog X.w _ _ _ (.frz _ (.tup vs)) from ⟨Heap.get?_push_size _ rfl, hz, its, r', IsTup.new _ _⟩)
      exact ⟨.ref h'.objs.size, _, I2, rfl, hQ.tup f (I1.hok.fresh (Nat.le_refl _)) ra rfl⟩
    | [.tup xs], hb =>
      cases hb
      obtain ⟨v, rfl, r1⟩ := one rfl
      have r2 := relB_tupR r1
      obtain ⟨a, vs, rfl, ha, ra⟩ := relB_tup r1
      exact call_tuple_of pins s σ w.H _ us Q I rv ⟨a, vs, rfl, .inr ⟨ha, hQ.flat f r2⟩⟩
  | int =>
    match ps, hb with
    | [.int i], hb =>
      cases hb
      obtain ⟨v, rfl, r1⟩ := one rfl
      have e := relB_int r1
      subst e
      exact call_int1 pins s σ w.H _ us Q I rv (.inl ⟨i, rfl, hQ.flat f rel_int⟩)
    | [.bl i], hb =>
      cases hb
      obtain ⟨v, rfl, r1⟩ := one rfl
      have e := relB_bl r1
      subst e
      exact call_int1 pins s σ w.H _ us Q I rv (.inr ⟨i, rfl, hQ.flat f rel_int⟩)
  | repr =>
    match ps, hb with
    | [x], hb =>
      obtain ⟨v, rfl, r1⟩ := one rfl
      obtain ⟨t, ht, rfl⟩ := Option.map_eq_some_iff.mp (show (prepr x).map (fun t => (t, false)) = some r from hb)
      unfold prepr at ht
      split at ht
      · rename_i c
        simp only [Bool.and_eq_true, decide_eq_true_eq] at c
        obtain ⟨⟨c1, c2⟩, c3⟩ := c
        cases ht
        obtain ⟨u, rfl, ru⟩ := vals1 rv
        obtain ⟨as, rd⟩ := relB_reads I c1 r1 ru
        have hnd := PyData.noDict_hsm (as := as) (noDict _ x c1)
        have hdp := toD_depth _ x c1
        have fin : ∀ (h' : Heap) (t tk : Tok), (∀ b o, s.heap.get? b = some o → h'.get? b = some o) → EP X pins σ Q (.str x.toD.shown t) { s with heap := h', toks := tk } := fun h' t tk hk => ⟨.str x.toD.shown, w.H, I.kept hk, ⟨t, rfl⟩, hQ.flat f rel_str⟩
        exact repr_rd rd c2 hnd c3 ng (by have : deep = 40 := rfl; omega) fin
      · cases ht
    | [], hb => cases hb
    | _ :: _ :: _, hb => cases hb
  | divmod =>
    match ps, hb with
    | [.int i, .int j], hb =>
      obtain ⟨v, u, rfl, r1, r2⟩ := two rfl
      have e := relB_int r1
      have e2 := relB_int r2
      subst e e2
      have hb' : (if (decide (0 < j) && decide (j < 1073741824)) = true then some ((PV.tup [.int (i / j), .int (i % j)], false) : PV × Bool) else none) = some r := hb
      split at hb'
      · rename_i hz
        cases hb'
        simp only [Bool.and_eq_true, decide_eq_true_eq] at hz
        obtain ⟨u, w', rfl, ⟨t, rfl⟩, ⟨t', rfl⟩⟩ := vals2 rv
        refine divmod_int (by omega) ?_ (.inl (PyProof.noPylong_small (by omega)))
        rw [Int.fdiv_eq_ediv_of_nonneg i (by omega), Int.fmod_eq_emod_of_nonneg i (by omega)]
        have hn : w.H s.heap.objs.size = none := I.hok.fresh (Nat.le_refl _)
        refine ⟨.ref s.heap.objs.size, _, ?_, rfl, hQ.tup (o := { cls := .type "tuple", data := .seq #[.int (i / j) s.toks, .int (i % j) (s.toks + 1)] }) f hn (.cons rel_int (.cons rel_int .nil)) rfl⟩
        refine I.laid (fun b o e => Heap.get?_push_of_some _ e) (Nat.le_refl _) ⟨Heap.get?_push_size _ rfl, by simp only [List.length_cons, List.length_nil]; rw [sizeLine_eq]; decide, [.int (i / j) s.toks, .int (i % j) (s.toks + 1)], .cons ⟨_, rfl⟩ (.cons ⟨_, rfl⟩ .nil), ?_⟩
        exact ⟨_, Heap.get?_push_size s.heap rfl, rfl, 0, rfl⟩
      · cases hb'
end
end Py

set_option Elab.async false
set_option linter.all false
set_option maxRecDepth 100000
set_option maxHeartbeats 1000000
/-! PyX: subscripts, slices, methods, isinstance by value. -/
namespace Py
open PySem L2
open PyProof.Rows hiding St
section
variable {X : Cx}
theorem rels_ixN {K : PySem.W.Frag} {w : Ws} {xs : List PV} {vs : List V} {i : Int} {p : PV} (r : Rels K w xs vs) (h : atI xs i = some p) : ∃ v, atI vs i = some v ∧ Rel K w p v := by
  unfold atI at h ⊢
  rw [← r.length]
  cases e : ixN xs.length i with
  | none => rw [e] at h; cases h
  | some j =>
    rw [e] at h
    obtain ⟨v, h1, h2⟩ := r.get (show xs[j]? = some p from h)
    exact ⟨v, h1, h2⟩
theorem dget_val {K : PySem.W.Frag} {w : Ws} {k : Key} {p : PV} : ∀ {ks : List Key} {xs : List PV} {vs : List V}, ks.length = vs.length → Rels K w xs vs → dget k ks xs = some p → ∃ v, valV (ks.zip vs) k = some v ∧ Rel K w p v
  | [], [], [], _, _, h => by cases h
  | k' :: ks, x :: xs, v :: vs, hl, r, h => by
    rw [Rels] at r
    unfold dget at h
    by_cases e : k = k'
    · rw [if_pos e] at h
      cases h
      exact ⟨v, by simp [valV, e], r.1⟩
    · rw [if_neg e] at h
      obtain ⟨u, h1, h2⟩ := dget_val (by simpa using hl) r.2 h
      refine ⟨u, ?_, h2⟩
      unfold valV at h1 ⊢
      rw [List.zip_cons_cons, List.find?_cons_of_neg (by simpa using Ne.symm e)]
      exact h1
  | [], _ :: _, _, _, _, h => by cases h
  | [], [], _ :: _, hl, _, _ => by simp at hl
  | _ :: _, [], _, _, _, h => by cases h
  | _ :: _, _ :: _, [], hl, _, _ => by simp at hl
def rIx (K : PySem.W.Frag) : R2 := fun x y H Q => ∃ (p q r : PV) (w : Ws) (ph : PH), w.H = H ∧ Wf K w ph ∧ RelB K w p x ∧ RelB K w q y ∧ pixB ph p q = some r ∧ ∀ v, Rel K w r v → Q v H
theorem ix_pix (hu : X.A.units + 64 < cLine) : IxR X (rIx X.K) := by
  intro value slice pins s σ H x y v u Q I rx ry h hs
  obtain ⟨p, q, r, w, ph, rfl, f, r1, r2, hb, hQ⟩ := h
  have lst : ∀ {xs : List PV} {a : Addr} {vs : List V} {i : Int}, q = .int i → Rd w.H a (.lst vs) → Rels X.K w xs vs → x = .ref a → atI xs i = some r →
      wpAny (model X.prog X.w) X.A (subscriptTail value slice v u) (EP X pins σ Q) X.xe s := fun {xs a vs i} e ha ra ex h => by
    subst e ex
    have e := relB_int r2
    subst e
    obtain ⟨z, h1, h2⟩ := rels_ixN ra h
    exact ix_list value slice pins s σ w.H _ _ v u Q I rx ry ⟨a, vs, i, z, rfl, rfl, .inl ha, h1, hQ z h2⟩ hs
  have dct : ∀ {ks : List Key} {xs : List PV} {k : Key}, p = .dct ks xs → y = kV k → dget k ks xs = some r → wpAny (model X.prog X.w) X.A (subscriptTail value slice v u) (EP X pins σ Q) X.xe s := fun {ks xs k} e ey h => by
    subst e ey
    have r1' : Rel X.K w (.dct ks xs) x := r1
    rw [Rel] at r1'
    obtain ⟨a, vs, rfl, ⟨_, ha⟩, hl, ra⟩ := r1'
    cases rx
    obtain ⟨z, h1, h2⟩ := dget_val hl ra h
    have g : DGet w.H a (kV k) (some z) := .inl ⟨_, k, ha, rfl, h1.symm⟩
    exact PyProof.Rows.tail_any (dict_typeIs I g) PySem.F.slot_dict_getitem.lookup (d_getItem (by omega) I g ry fun w' s' I' rw' => ⟨z, w.H, I', rw', hQ z h2⟩) hs
  cases p with
  | lst xs =>
    cases q with
    | int i =>
      obtain ⟨a, vs, rfl, ha, ra⟩ := relB_rd r1
      exact lst rfl ha ra rfl hb
    | _ => cases hb
  | tup xs =>
    cases q with
    | int i =>
      obtain ⟨a, vs, rfl, ha, ra⟩ := relB_tup r1
      have e := relB_int r2
      subst e
      obtain ⟨z, h1, h2⟩ := rels_ixN ra (show atI xs i = some r from hb)
      exact ix_tup value slice pins s σ w.H _ _ v u Q I rx ry ⟨a, vs, i, z, rfl, rfl, ha, h1, hQ z h2⟩ hs
    | _ => cases hb
  | scr xs =>
    cases q with
    | int i =>
      obtain ⟨a, vs, rfl, ha, ra⟩ := relB_scr r1
      have e := relB_int r2
      subst e
      obtain ⟨z, h1, h2⟩ := rels_ixN ra (show atI xs i = some r from hb)
      exact ix_list value slice pins s σ w.H _ _ v u Q I rx ry ⟨a, vs, i, z, rfl, rfl, ha, h1, hQ z h2⟩ hs
    | _ => cases hb
  | str z =>
    cases q with
    | int i =>
      have e1 := relB_str r1
      have e2 := relB_int r2
      subst e1 e2
      have hb' : (if z.length ≤ sizeLine then (atI z.cps.toList i).map fun c => (PV.str ⟨#[c]⟩) else none) = some r := hb
      split at hb'
      · rename_i hz
        obtain ⟨c, h1, h2⟩ := Option.map_eq_some_iff.mp hb'
        subst h2
        exact ix_str value slice pins s σ w.H _ _ v u Q I rx ry ⟨z, i, c, rfl, rfl, hz, h1, hQ _ rel_str⟩ hs
      · cases hb'
    | _ => cases hb
  | dct ks xs =>
    cases q with
    | int i => exact dct (k := .inl i) rfl (relB_int r2) hb
    | str i => exact dct (k := .inr i) rfl (relB_str r2) hb
    | _ => cases hb
  | box k =>
    cases q with
    | int i =>
      have r1' : Rel X.K w (.box k) x := r1
      rw [Rel] at r1'
      obtain ⟨a, rfl, ha⟩ := r1'
      simp only [pixB] at hb
      split at hb
      · rename_i xs hk
        obtain ⟨vs, h1, h2⟩ := f.box k _ a hk ha
        exact lst rfl (.inl h1) h2 rfl hb
      · cases hb
    | _ => cases hb
  | _ => cases q <;> cases hb
/-! ### slices -/
theorem pcut_rels {K : PySem.W.Frag} {w : Ws} {xs : List PV} {vs : List V} {lo hi : Option Int} (r : Rels K w xs vs) : Rels K w (pcut xs lo hi) (cutV vs lo hi) := by
  unfold pcut cutV
  rw [r.length]
  exact (r.drop _).take _
def rSl (K : PySem.W.Frag) : V → Option Int → Option Int → Hp → VK → Prop := fun x lo hi H Q => ∃ (p : PV) (r : PV × Bool) (w : Ws) (ph : PH), w.H = H ∧ Wf K w ph ∧ RelB K w p x ∧ psl p lo hi = some r ∧ RV K w ph r Q
theorem sl_psl : SlR X (rSl X.K) := by
  intro pins s σ H x v vl vu lo hi sl Q I rx hs pl pu h
  obtain ⟨p, r, w, ph, rfl, f, r1, hb, hQ⟩ := h
  cases p with
  | lst xs =>
    cases hb
    obtain ⟨a, vs, rfl, ha, ra⟩ := relB_rd r1
    exact sl_list pins s σ w.H _ v vl vu lo hi sl Q I rx hs pl pu ⟨a, vs, rfl, .inl ha, fun q hq => hQ.lst f hq (pcut_rels ra)⟩
  | tup xs =>
    cases hb
    have t := relB_tupR r1
    obtain ⟨a, vs, rfl, ha, ra⟩ := relB_tup r1
    cases rx
    obtain ⟨its, r, ht, hz⟩ := I.tuple ha
    have hlen : its.toArray.size = vs.length := by rw [List.size_toArray]; exact r.length.symm
    refine ⟨"tuple", _, PyProof.Rows.slot_tuple_getitem.lookup, ht.typeIs, ?_⟩
    by_cases hw : HT.sIx vs.length 0 lo = 0 ∧ HT.sIx vs.length vs.length hi = vs.length
    · have e : pcut xs lo hi = xs := by
        unfold pcut
        rw [ra.length, hw.1, hw.2, ← ra.length]
        simp
      rw [e] at hQ
      exact getItem_tuple_whole ht hs pl pu (by rw [hlen]; exact hw) ⟨.ref a, w.H, I, rfl, hQ.flat f t⟩
    · refine HT.getItem_tuple_cut ht hs pl pu (by rw [hlen]; exact hw) ?_ (by rw [hlen]; exact hz)
      rw [hlen]
      exact ⟨.ref s.heap.objs.size, _, I.laid (t' := s.toks) (o := .frz { cls := .type "tuple", data := .seq _ } (.tup (cutV vs lo hi))) (fun b ob q => Heap.get?_push_of_some _ q) (Nat.le_refl _)
        ⟨Heap.get?_push_size _ rfl, Nat.le_trans (cutV_length vs lo hi) hz, _, (r.drop (HT.sIx vs.length 0 lo)).take (HT.sIx vs.length vs.length hi - HT.sIx vs.length 0 lo), IsTup.new _ _⟩, rfl, hQ.tup f (I.hok.fresh (Nat.le_refl _)) (pcut_rels ra) rfl⟩
  | scr xs =>
    cases hb
    obtain ⟨a, vs, rfl, ha, ra⟩ := relB_scr r1
    exact sl_list pins s σ w.H _ v vl vu lo hi sl Q I rx hs pl pu ⟨a, vs, rfl, ha, fun q hq => hQ.lst f hq (pcut_rels ra)⟩
  | str z =>
    have e := relB_str r1
    subst e
    have hb' : (if z.length ≤ sizeLine then some ((PV.str (cutS z lo hi), false) : PV × Bool) else none) = some r := hb
    split at hb'
    · rename_i hz
      cases hb'
      exact sl_str pins s σ w.H _ v vl vu lo hi sl Q I rx hs pl pu ⟨z, rfl, hz, hQ.flat f rel_str⟩
    · cases hb'
  | _ => cases hb
/-! ### isinstance -/
def tyS : TyN → String
  | .int => "int" | .bool => "bool" | .str => "str" | .tuple => "tuple" | .list => "list"
def rIsiP (K : PySem.W.Frag) (t : TyN) : List V → Hp → VK → Prop := fun vs H Q => ∃ (x : V) (p : PV) (b : Bool) (w : Ws), vs = [x, .ty (tyS t)] ∧ w.H = H ∧ RelB K w p x ∧ pisi p t = some b ∧ Q (.bl b) H
theorem kb (a b : String) {r : Bool} (h : kitB a b = some r) {K : PySem.W.Frag} : PySem.W.kitOne K (.type a) (.type b) = some r := kit_ty h
theorem call_isiP (t : TyN) : CallR X (.builtin "isinstance") (rIsiP X.K t) := by
  intro pins s σ H xs us Q I rv h
  obtain ⟨x, p, b, w, rfl, rfl, r1, hb, hQ⟩ := h
  have fin : ∀ {c : Value}, TyX X.K w.H x c → PySem.W.kitOne X.K c (.type (tyS t)) = some b → wpAny (model X.prog X.w) X.A (call (.builtin "isinstance") us) (EP X pins σ Q) X.xe s := fun {c} ty e =>
    call_isi pins s σ w.H _ us Q I rv ⟨x, _, c, _, b, rfl, .ty _, ty, e, hQ⟩
  cases p with
  | non =>
    have e := relB_non r1
    subst e
    cases hb
    refine fin (.base .non) (kb _ _ ?_)
    cases t <;> decide +kernel
  | bl v =>
    have e := relB_bl r1
    subst e
    cases hb
    refine fin (.base (.bl v)) (kb _ _ ?_)
    cases t <;> decide +kernel
  | int v =>
    have e := relB_int r1
    subst e
    cases hb
    refine fin (.base (.int v)) (kb _ _ ?_)
    cases t <;> decide +kernel
  | str v =>
    have e := relB_str r1
    subst e
    cases hb
    refine fin (.base (.str v)) (kb _ _ ?_)
    cases t <;> decide +kernel
  | tup v =>
    obtain ⟨a, vs, rfl, ha, ra⟩ := relB_tup r1
    have ty : TyX X.K w.H (.ref a) (.type "tuple") := by
      rcases ha with (ha | ⟨o, ha⟩) | ⟨o, its, n, h1, h2, _⟩
      · exact .base (.tup ha)
      · exact .fTuple ha
      · exact .kTuple h1 h2
    cases hb
    refine fin ty (kb _ _ ?_)
    cases t <;> decide +kernel
  | lst v =>
    obtain ⟨a, vs, rfl, ha, ra⟩ := relB_rd r1
    have ty : TyX X.K w.H (.ref a) (.type "list") := by
      rcases ha with ha | ⟨o, ha⟩
      · exact .base (.lst ha)
      · exact .base (.frz ha)
    cases hb
    refine fin ty (kb _ _ ?_)
    cases t <;> decide +kernel
  | dct ks v =>
    have r1' : Rel X.K w (.dct ks v) x := r1
    rw [Rel] at r1'
    obtain ⟨a, vs, rfl, ⟨_, ha⟩, hl, ra⟩ := r1'
    have ty : TyX X.K w.H (.ref a) (.type "dict") := by
      rcases ha with ha | ⟨o, ha⟩
      · exact .base (.dK ha)
      · exact .fDict ha
    cases hb
    refine fin ty (kb _ _ ?_)
    cases t <;> decide +kernel
  | box k => cases hb
  | scr k => cases hb
/-! ### index, count -/
theorem pfind_some {d : PV} : ∀ {xs : List PV} {j : Nat}, pfind d xs = some j → (∃ y, xs[j]? = some y ∧ y.eqv d = true) ∧ ∀ m z, m < j → xs[m]? = some z → z.eqv d = false
  | [], _, h => by cases h
  | y :: ys, j, h => by
    unfold pfind at h
    by_cases e : y.eqv d = true
    · rw [if_pos e] at h
      cases h
      exact ⟨⟨y, rfl, e⟩, fun m z hm => absurd hm (Nat.not_lt_zero _)⟩
    · rw [if_neg e] at h
      obtain ⟨i, hi, rfl⟩ := Option.map_eq_some_iff.mp h
      obtain ⟨⟨z, h1, h2⟩, h3⟩ := pfind_some hi
      refine ⟨⟨z, by simpa using h1, h2⟩, fun m u hm hu => ?_⟩
      cases m with
      | zero =>
        simp at hu
        subst hu
        simpa using e
      | succ m => exact h3 m u (by omega) (by simpa using hu)
theorem toDs_get {xs : List PV} {j : Nat} {y : PV} (h : xs[j]? = some y) : (PV.toDs xs)[j]? = some y.toD := by
  rw [toDs_map, List.getElem?_map, h]
  rfl
theorem toDs_len (xs : List PV) : (PV.toDs xs).length = xs.length := by rw [toDs_map, List.length_map]
theorem count_toD {d : PV} (hd : d.dat deep = true) : ∀ {xs : List PV}, PV.dats deep xs = true → (xs.countP fun y => y.eqv d) = (PV.toDs xs).countP fun y => PyData.eqv y d.toD
  | [], _ => rfl
  | y :: ys, h => by
    simp only [PV.dats, Bool.and_eq_true] at h
    simp only [PV.toDs, List.countP_cons]
    rw [eqv_toD deep deep y d h.1 hd, count_toD hd h.2]
def rMt (K : PySem.W.Frag) (m : MI) (T : TyN) : V → List V → Hp → VK → Prop := fun x vs H Q => ∃ (p : PV) (ps : List PV) (r : PV × Bool) (w : Ws) (ph : PH), w.H = H ∧ Wf K w ph ∧ RelB K w p x ∧ RelBs K w ps vs ∧ pmt m p ps = some r ∧ pisi p T = some true ∧ RV K w ph r Q
def miS : MI → TyN → String
  | .index, .list => "list.index" | .index, .tuple => "tuple.index" | .count, .list => "list.count" | .count, .tuple => "tuple.count" | _, _ => ""
/-- the items of a list or a tuple as data -/
theorem read_items {pins : List (Addr × Obj)} {σ : St} {w : Ws} {s : Shared} (I : Inv X pins σ w.H s) {xs : List PV} {vs : List V} {its : List Value} (hd : PV.dats deep xs = true) (r : Rels X.K w xs vs) (rv : Vals vs its) :
    ∃ as, PySem.ReadsAll s.heap its (PV.toDs xs) as := Dp.readsAll I _ vs its (rels_dp deep xs vs hd r) rv
/-- what index asks -/
theorem index_kit (hu : X.A.units + 64 < cLine) {pins : List (Addr × Obj)} {σ : St} {w : Ws} {s : Shared} (I : Inv X pins σ w.H s) {ys : List PV} {vs : List V} {its : List Value} {d : PV} {y : V} {u : Value} {j : Nat}
    (d1 : d.dat deep = true) (d2 : PV.dats deep ys = true) (r2 : RelB X.K w d y) (ru : RelV y u) (ra : Rels X.K w ys vs) (rv : Vals vs its) (hj : pfind d ys = some j) :
    ∃ e : Nat → Bool, j < its.toArray.size ∧ e j = true ∧ (∀ m (hm : m < its.toArray.size), 0 ≤ m → m < j → e m = false) ∧ ∀ m (hm : m < its.toArray.size), PySem.SeqAt.EqAt X.A.in1 s its.toArray[m] u (e m) := by
  obtain ⟨⟨z, h1, h2⟩, h3⟩ := pfind_some hj
  obtain ⟨bs, rd⟩ := relB_reads I d1 r2 ru
  obtain ⟨as, rds⟩ := read_items I d2 ra rv
  have hlen := ra.length
  have hl := rv.length
  have hj1 : j < ys.length := (List.getElem?_eq_some_iff.mp h1).1
  have hpl := toDs_plain _ _ d2
  have hdl := toDs_depth _ _ d2
  have at_ : ∀ (m : Nat) (hm : m < its.toArray.size) (q : PV), ys[m]? = some q → PySem.SeqAt.readOf s.heap its.toArray[m] = q.toD := fun m hm q hq => by
    obtain ⟨g1, g2⟩ := PySem.SeqAt.readOf_at (vs := its.toArray) (by simpa using rds) hpl m hm
    rw [g2]
    have := toDs_get hq
    rw [List.getElem?_eq_getElem g1] at this
    exact Option.some.inj this
  have hit : ∀ m (hm : m < its.toArray.size), PySem.SeqAt.EqAt X.A.in1 s its.toArray[m] u (PyData.eqv (PySem.SeqAt.readOf s.heap its.toArray[m]) d.toD) := fun m hm =>
    PySem.SeqAt.items_plain (vs := its.toArray) (by simpa using rds) rd hpl (toD_plain _ _ d1) (room_deep hu (Nat.le_succ_of_le hdl)) _ (Array.getElem_mem hm)
  have hj2 : j < its.toArray.size := by rw [List.size_toArray]; omega
  refine ⟨fun m => if hm : m < its.toArray.size then PyData.eqv (PySem.SeqAt.readOf s.heap its.toArray[m]) d.toD else false, hj2, ?_, ?_, ?_⟩
  · show (if hm : j < its.toArray.size then PyData.eqv (PySem.SeqAt.readOf s.heap its.toArray[j]) d.toD else false) = true
    rw [dif_pos hj2, at_ j hj2 z h1, ← eqv_toD deep deep z d (dats_iff.mp d2 z (List.mem_of_getElem? h1)) d1, h2]
  · intro m hm _ hmj
    show (if hm : m < its.toArray.size then PyData.eqv (PySem.SeqAt.readOf s.heap its.toArray[m]) d.toD else false) = false
    have hml : m < ys.length := by omega
    have hq := List.getElem?_eq_getElem hml
    rw [dif_pos hm, at_ m hm _ hq, ← eqv_toD deep deep _ d (dats_iff.mp d2 _ (List.mem_of_getElem? hq)) d1, h3 m _ hmj hq]
  · intro m hm
    show PySem.SeqAt.EqAt X.A.in1 s its.toArray[m] u (if hm : m < its.toArray.size then PyData.eqv (PySem.SeqAt.readOf s.heap its.toArray[m]) d.toD else false)
    rw [dif_pos hm]
    exact hit m hm
theorem idx_some {d : PV} {ys : List PV} {r : PV × Bool} (h : (if (d.dat deep && PV.dats deep ys && decide (ys.length ≤ sizeLine)) = true then (pfind d ys).map fun j => ((PV.int (j : Nat), false) : PV × Bool) else none) = some r) :
    d.dat deep = true ∧ PV.dats deep ys = true ∧ ys.length ≤ sizeLine ∧ ∃ j, pfind d ys = some j ∧ r = (PV.int (j : Nat), false) := by
  split at h
  · rename_i hc
    simp only [Bool.and_eq_true, decide_eq_true_eq] at hc
    obtain ⟨j, hj, e⟩ := Option.map_eq_some_iff.mp h
    exact ⟨hc.1.1, hc.1.2, hc.2, j, hj, e.symm⟩
  · cases h
theorem cnt_some {d : PV} {ys : List PV} {r : PV × Bool} (h : (if (d.dat deep && PV.dats deep ys) = true then some ((PV.int ((ys.countP fun y => y.eqv d : Nat) : Int), false) : PV × Bool) else none) = some r) :
    d.dat deep = true ∧ PV.dats deep ys = true ∧ r = (PV.int ((ys.countP fun y => y.eqv d : Nat) : Int), false) := by
  split at h
  · rename_i hc
    simp only [Bool.and_eq_true] at hc
    cases h
    exact ⟨hc.1, hc.2, rfl⟩
  · cases h
theorem mt_pmt (hu : X.A.units + 64 < cLine) (m : MI) (T : TyN) (hT : miS m T ≠ "") : MtR X (miS m T) (rMt X.K m T) := by
  intro pins s σ H x xs v us Q I rx rxs h
  obtain ⟨p, ps, r, w, ph, rfl, f, r1, rs, hb, ht, hQ⟩ := h
  have szl := sizeLine_eq
  cases p with
  | lst ys =>
    have eT : T = .list := by cases T <;> first | rfl | cases ht
    subst eT
    obtain ⟨a, vs, rfl, ha, ra⟩ := relB_rd r1
    obtain ⟨z0, its, n, rv, hl, e⟩ := rd_lst I ha
    have hlen := ra.length
    cases rx
    cases m with
    | index =>
      match ps, hb with
      | [d], hb =>
        obtain ⟨y, rfl, r2⟩ := relBs1 rs
        obtain ⟨d1, d2, hz, j, hj, rfl⟩ := idx_some hb
        match us, rxs with
        | [u], .cons ru .nil =>
          obtain ⟨ee, g1, g2, g3, g4⟩ := index_kit hu I d1 d2 r2 ru ra rv hj
          exact call_meets PySem.F.slot_list_index ⟨_, e, rfl⟩ PySem.F.entry_list_index (PySem.F.args_list_index_2 _ _)
            (PySem.SeqAt.list_index2_found a its.toArray n none #[] u ee j g1 (Nat.zero_le _) (by rw [List.size_toArray] at g1; omega) g2 g3) ⟨e, g4, ⟨.int (j : Nat), w.H, I.tok _, ⟨_, rfl⟩, hQ.flat f rel_int⟩⟩
    | count =>
      match ps, hb with
      | [d], hb =>
        obtain ⟨y, rfl, r2⟩ := relBs1 rs
        obtain ⟨d1, d2, rfl⟩ := cnt_some hb
        match us, rxs with
        | [u], .cons ru .nil =>
          obtain ⟨bs, rd⟩ := relB_reads I d1 r2 ru
          obtain ⟨as, rds⟩ := read_items I d2 ra rv
          rw [count_toD d1 d2] at hQ
          exact PySem.SeqAt.count_list_data (vs := its.toArray) ⟨_, e, rfl, n, rfl⟩ (by simpa using rds) rd (toDs_plain _ _ d2) (toD_plain _ _ d1) (room_deep hu (Nat.le_succ_of_le (toDs_depth _ _ d2)))
            ⟨.int ((PV.toDs ys).countP fun y => PyData.eqv y d.toD : Nat), w.H, I.tok _, ⟨_, rfl⟩, hQ.flat f rel_int⟩
  | tup ys =>
    have eT : T = .tuple := by cases T <;> first | rfl | cases ht
    subst eT
    obtain ⟨a, vs, rfl, ha, ra⟩ := relB_tup r1
    obtain ⟨its, rv, hl, hz0⟩ := I.tuple ha
    have hlen := ra.length
    cases rx
    cases m with
    | index =>
      match ps, hb with
      | [d], hb =>
        obtain ⟨y, rfl, r2⟩ := relBs1 rs
        obtain ⟨d1, d2, hz, j, hj, rfl⟩ := idx_some hb
        match us, rxs with
        | [u], .cons ru .nil =>
          obtain ⟨ee, g1, g2, g3, g4⟩ := index_kit hu I d1 d2 r2 ru ra rv hj
          obtain ⟨⟨cls, dd, data, sl⟩, ho, hc, n, hd⟩ := id hl
          simp only at hc hd
          subst hc hd
          exact call_meets PySem.F.slot_tuple_index ⟨_, ho, rfl⟩ PySem.F.entry_tuple_index (PySem.F.args_tuple_index_2 _ _)
            (PySem.SeqAt.tuple_index2_found a its.toArray n dd sl u ee j g1 (Nat.zero_le _) g1 g2 g3) ⟨ho, g4, ⟨.int (j : Nat), w.H, I.tok _, ⟨_, rfl⟩, hQ.flat f rel_int⟩⟩
    | count =>
      match ps, hb with
      | [d], hb =>
        obtain ⟨y, rfl, r2⟩ := relBs1 rs
        obtain ⟨d1, d2, rfl⟩ := cnt_some hb
        match us, rxs with
        | [u], .cons ru .nil =>
          obtain ⟨bs, rd⟩ := relB_reads I d1 r2 ru
          obtain ⟨as, rds⟩ := read_items I d2 ra rv
          rw [count_toD d1 d2] at hQ
          exact PySem.SeqAt.count_tuple_data (vs := its.toArray) hl (by simpa using rds) rd (toDs_plain _ _ d2) (toD_plain _ _ d1) (room_deep hu (Nat.le_succ_of_le (toDs_depth _ _ d2)))
            ⟨.int ((PV.toDs ys).countP fun y => PyData.eqv y d.toD : Nat), w.H, I.tok _, ⟨_, rfl⟩, hQ.flat f rel_int⟩
  | _ => cases m <;> cases hb
end
end Py

set_option Elab.async false
set_option linter.all false
set_option maxRecDepth 100000
set_option maxHeartbeats 1000000
/-! PyE: expressions, form by form: the interpreter's value is the model's. -/
namespace Py
open PySem L2
open PyProof.Rows hiding St
section
variable {X : Cx} {env : PEnv} {e : Expr} {m : PM (PV × Bool)} {σ : St} {w0 w wb : Ws} {ph : PH} {Q : VK} {W : WX} {B : Bool}
theorem SE.lk {β : Type} {k : PV → PM β} {R : β → PH → Prop} {T : VK} (h : SE X env e m B) (tk : Takes X W) (f : Wf X.K w ph) (r : EnvR X.K w0 w env σ) (g : Ev wb w)
    (q : Sat (PM.bind (evalV m) k ph) R (exV X.K wb W σ))
    (n : ∀ p ph1 v w1, Ev w w1 → Wf X.K w1 ph1 → EnvR X.K w0 w1 env σ → RelB X.K w1 p v → Sat (k p ph1) R (exV X.K wb W σ) → T v w1.H) : wk X e σ w.H T :=
  h.look tk f r ((sat_bind'.mp q).mono (fun p ph1 hk v w1 e1 f1 r1 rel => n p ph1 v w1 e1 f1 r1 rel hk) fun _ _ z => z.mono g)
theorem SE.kp {β : Type} {k : PV × Bool → PM β} {R : β → PH → Prop} {T : VK} (h : SE X env e m false) (tk : Takes X W) (f : Wf X.K w ph) (r : EnvR X.K w0 w env σ) (g : Ev wb w)
    (q : Sat (PM.bind m k ph) R (exV X.K wb W σ))
    (n : ∀ p ph1 v w1, Ev w w1 → Wf X.K w1 ph1 → EnvR X.K w0 w1 env σ → Rel X.K w1 p.1 v → Sat (k p ph1) R (exV X.K wb W σ) → T v w1.H) : wk X e σ w.H T :=
  h.keep tk f r ((sat_bind'.mp q).mono (fun p ph1 hk v w1 e1 f1 r1 rel => n p ph1 v w1 e1 f1 r1 rel hk) fun _ _ z => z.mono g)
/-- as it is handed on: a new list may be owned -/
theorem SE.ow {β : Type} {k : PV × Bool → PM β} {R : β → PH → Prop} {T : VK} (h : SE X env e m false) (tk : Takes X W) (f : Wf X.K w ph) (r : EnvR X.K w0 w env σ) (g : Ev wb w)
    (q : Sat (PM.bind m k ph) R (exV X.K wb W σ))
    (n : ∀ p ph1 v w1, Ev w w1 → Wf X.K w1 ph1 → EnvR X.K w0 w1 env σ → RelF X.K w w1 p v → Sat (k p ph1) R (exV X.K wb W σ) → T v w1.H) : wk X e σ w.H T :=
  h σ w0 w ph T W tk f r ((sat_bind'.mp q).mono (fun p ph1 hk v w1 e1 f1 rel => n p ph1 v w1 e1 f1 (r.mono f e1) rel hk) fun _ _ z => z.mono g)
theorem okV_weak (g : Ev wb w) {r : PV × Bool} {ph1 : PH} (h : okV X.K wb Q B r ph1) : okV X.K w Q B r ph1 := fun v w' e f rel => h v w' (g.trans e) f (by
  cases B with
  | true => exact rel
  | false =>
    have rel : RelF X.K w w' r v := rel
    exact RelF.weak (fun x hx => ev_back g hx) rel)
theorem SE.fin (h : SE X env e m B) (tk : Takes X W) (f : Wf X.K w ph) (r : EnvR X.K w0 w env σ) (g : Ev wb w) (q : Sat (m ph) (okV X.K wb Q B) (exV X.K wb W σ)) : wk X e σ w.H Q :=
  h σ w0 w ph Q W tk f r (q.mono (fun _ _ z => okV_weak g z) fun _ _ z => z.mono g)
theorem okV_rv (g : Ev wb w) {r : PV × Bool} {ph1 : PH} (h : okV X.K wb Q false r ph1) : RV X.K w ph1 r Q := fun v w' e f rel => h v w' (g.trans e) f (RelF.weak (fun x hx => ev_back g hx) rel)
theorem okV_flat (g : Ev wb w) {p : PV} {ph1 : PH} (f : Wf X.K w ph1) {v : V} (h : okV X.K wb Q false (p, false) ph1) (r : Rel X.K w p v) : Q v w.H := h v w g f r
/-- a value that is looked at may be one that is handed on -/
theorem SE.weak (h : SE X env e m false) : SE X env e m B := by
  cases B with
  | false => exact h
  | true =>
    intro σ w0 w ph Q W tk f r q
    exact h σ w0 w ph Q W tk f r (q.mono (fun p ph1 hk v w' e1 f1 rel => hk v w' e1 f1 (RelF.b f1 rel)) fun _ _ z => z)
theorem SE.of_false {b : Bool} (h : SE X env e m false) : SE X env e m b := h.weak
/-! ### leaves -/
theorem getV_some {i : Nat} {r : PV × Bool} (h : getV env i = some r) : env[i]? = some (some r) := by
  unfold getV at h
  split at h
  · rename_i r' he
    cases h
    exact he
  · cases h
theorem se_var {i : Nat} {x : Str} {pos : Pos} (hN : X.N[i]? = some x) (hv : Vis X.env.scope x) (hd : (x == ("__debug__" : Str)) = false) (hcd : (x == ("__classdict__" : Str)) = false) : SE X env (.Name x pos) (evVar env i) false := by
  intro σ w0 w ph Q W tk f r q
  refine wk_of (pe_var hN hv hd hcd) ?_
  unfold evVar at q
  cases hg : getV env i with
  | none => rw [hg] at q; exact (show False from q).elim
  | some p =>
    obtain ⟨v, b⟩ := p
    rw [hg] at q
    cases b with
    | true => exact (show False from q).elim
    | false =>
      obtain ⟨u, h1, h2⟩ := r.val i v (getV_some hg)
      exact ⟨u, h1, okV_flat (Ev.refl w) f (sat_pure.mp q) h2⟩
theorem se_bvar {i : Nat} {x : Str} {pos : Pos} (hN : X.N[i]? = some x) (hv : Vis X.env.scope x) (hd : (x == ("__debug__" : Str)) = false) (hcd : (x == ("__classdict__" : Str)) = false) : SE X env (.Name x pos) (evBvar env i) true := by
  intro σ w0 w ph Q W tk f r q
  refine wk_of (pe_var hN hv hd hcd) ?_
  unfold evBvar at q
  cases hg : getV env i with
  | none => rw [hg] at q; exact (show False from q).elim
  | some p =>
    obtain ⟨v, b⟩ := p
    rw [hg] at q
    have q' : okV X.K w Q true (v, false) ph := q
    have hg := getV_some hg
    cases b with
    | false =>
      obtain ⟨u, h1, h2⟩ := r.val i v hg
      exact ⟨u, h1, q' u w (Ev.refl w) f (RelB.of f h2)⟩
    | true =>
      obtain ⟨a, xs, vs, rfl, h1, h2, _, _, h5, h6⟩ := r.own i v hg
      exact ⟨.ref a, h1, q' (.ref a) w (Ev.refl w) f ⟨a, vs, rfl, .inl h2, h5, h6⟩⟩
theorem se_const {v : V} {p : PV} (h : PE X e (tC v)) (hr : ∀ w : Ws, Rel X.K w p v) : SE X env e (PM.pure (p, false)) false := by
  intro σ w0 w ph Q W tk f r q
  refine wk_of h ?_
  exact okV_flat (Ev.refl w) f (sat_pure.mp q) (hr w)
/-! ### operators -/
variable {ea eb ec : Expr} {ma mb mc : PM (PV × Bool)} {Ba Bb Bc : Bool} {pos : Pos}
theorem se_bin {op : Operator} (ha : SE X env ea ma Ba) (hb : SE X env eb mb Bb) : SE X env (.BinOp ea op eb pos) (PM.bind (evalV ma) fun x => PM.bind (evalV mb) fun y => PM.ofO (pbin op x y)) false := by
  intro σ w0 w ph Q W tk f r q
  refine wk_of (pe_op (op_pbin op) pe_wk pe_wk) ?_
  refine ha.lk tk f r (Ev.refl w) q fun p ph1 x w1 e1 f1 r1 a1 q1 => ?_
  refine hb.lk tk f1 r1 e1 q1 fun p2 ph2 y w2 e2 f2 r2 a2 q2 => ?_
  obtain ⟨a, ea, q2⟩ := sat_ofO.mp q2
  exact ⟨p, p2, a, w2, ph2, rfl, f2, a1.mono f1 e2, a2, ea, okV_rv (e1.trans e2) q2⟩
theorem se_neg (ha : SE X env ea ma Ba) : SE X env (.UnaryOp .USub ea pos) (PM.bind (evalV ma) kNeg) false := by
  intro σ w0 w ph Q W tk f r q
  refine wk_of (pe_un un_neg pe_wk) ?_
  refine ha.lk tk f r (Ev.refl w) q fun p ph1 x w1 e1 f1 r1 a1 q1 => ?_
  cases p with
  | int i =>
    have e := relB_int a1
    subst e
    exact ⟨i, rfl, okV_flat e1 f1 (sat_pure.mp q1) rel_int⟩
  | _ => exact (show False from q1).elim
theorem se_cmp {op : CmpOp} (hu : X.A.units + 64 < cLine) (hm : behindInMarks op eb = false) (ha : SE X env ea ma Ba) (hb : SE X env eb mb Bb) :
    SE X env (.Compare ea [op] [eb] pos) (PM.bind (evalV ma) fun x => PM.bind (evalV mb) fun y => PM.ofO ((pcmp op x y).map mkBool)) false := by
  intro σ w0 w ph Q W tk f r q
  refine wk_of (pe_cmpR (op_pcmp op hu) pe_wk pe_wk hm) ?_
  refine ha.lk tk f r (Ev.refl w) q fun p ph1 x w1 e1 f1 r1 a1 q1 => ?_
  refine hb.lk tk f1 r1 e1 q1 fun p2 ph2 y w2 e2 f2 r2 a2 q2 => ?_
  obtain ⟨a, ea, q2⟩ := sat_ofO.mp q2
  obtain ⟨b, hb, rfl⟩ := Option.map_eq_some_iff.mp ea
  exact ⟨p, p2, b, w2, rfl, a1.mono f1 e2, a2, hb, okV_flat (e1.trans e2) f2 q2 rel_bl⟩
theorem se_cmp2 {o1 o2 : CmpOp} (hu : X.A.units + 64 < cLine) (hm : lastMarks [o1, o2] [eb, ec] = false) (ha : SE X env ea ma Ba) (hb : SE X env eb mb Bb) (hc : SE X env ec mc Bc) :
    SE X env (.Compare ea [o1, o2] [eb, ec] pos) (PM.bind (evalV ma) fun x => PM.bind (evalV mb) fun y => PM.bind (PM.ofO (pcmp o1 x y)) (kCmp2 (PM.bind (evalV mc) fun z => PM.ofO ((pcmp o2 y z).map mkBool)))) false := by
  intro σ w0 w ph Q W tk f r q
  refine wk_of (pe_chain (op_pcmp o1 hu) (op_pcmp o2 hu) pe_wk pe_wk pe_wk hm) ?_
  refine ha.lk tk f r (Ev.refl w) q fun p ph1 x w1 e1 f1 r1 a1 q1 => ?_
  refine hb.lk tk f1 r1 e1 q1 fun p2 ph2 y w2 e2 f2 r2 a2 q2 => ?_
  rw [sat_bind'] at q2
  obtain ⟨b, hb, q2⟩ := sat_ofO.mp q2
  refine ⟨p, p2, b, w2, rfl, a1.mono f1 e2, a2, hb, b, rfl, ?_⟩
  cases b with
  | false => exact okV_flat (e1.trans e2) f2 (sat_pure.mp q2) rel_bl
  | true =>
    refine hc.lk tk f2 r2 (e1.trans e2) q2 fun p3 ph3 z w3 e3 f3 r3 a3 q3 => ?_
    obtain ⟨a, ea, q3⟩ := sat_ofO.mp q3
    obtain ⟨c, hc, rfl⟩ := Option.map_eq_some_iff.mp ea
    exact ⟨p2, p3, c, w3, rfl, a2.mono f2 e3, a3, hc, okV_flat ((e1.trans e2).trans e3) f3 q3 rel_bl⟩
/-! ### and, or, not, if -/
theorem se_and {rest : List Expr} (ha : SE X env ea ma Ba) (hb : SE X env (.BoolOp .And (eb :: rest) pos) mb false) : SE X env (.BoolOp .And (ea :: eb :: rest) pos) (PM.bind (evalV ma) (kAnd mb)) false := by
  intro σ w0 w ph Q W tk f r q
  refine wk_of (pe_and pe_wk pe_wk) ?_
  refine ha.lk tk f r (Ev.refl w) q fun p ph1 x w1 e1 f1 r1 a1 q1 => ?_
  cases p with
  | bl b =>
    have e := relB_bl a1
    subst e
    refine ⟨b, rfl, ?_⟩
    cases b with
    | true => exact hb.fin tk f1 r1 e1 q1
    | false => exact okV_flat e1 f1 (sat_pure.mp q1) rel_bl
  | _ => exact (show False from q1).elim
theorem se_or {rest : List Expr} (ha : SE X env ea ma Ba) (hb : SE X env (.BoolOp .Or (eb :: rest) pos) mb false) : SE X env (.BoolOp .Or (ea :: eb :: rest) pos) (PM.bind (evalV ma) (kOr mb)) false := by
  intro σ w0 w ph Q W tk f r q
  refine wk_of (pe_or pe_wk pe_wk) ?_
  refine ha.lk tk f r (Ev.refl w) q fun p ph1 x w1 e1 f1 r1 a1 q1 => ?_
  cases p with
  | bl b =>
    have e := relB_bl a1
    subst e
    refine ⟨b, rfl, ?_⟩
    cases b with
    | false => exact hb.fin tk f1 r1 e1 q1
    | true => exact okV_flat e1 f1 (sat_pure.mp q1) rel_bl
  | _ => exact (show False from q1).elim
theorem se_one {op : BoolOp} (ha : SE X env ea ma B) : SE X env (.BoolOp op [ea] pos) ma B := by
  intro σ w0 w ph Q W tk f r q
  exact wk_of (pe_one pe_wk) (ha σ w0 w ph Q W tk f r q)
theorem se_not (ha : SE X env ea ma Ba) : SE X env (.UnaryOp .Not ea pos) (PM.bind (evalV ma) kNot) false := by
  intro σ w0 w ph Q W tk f r q
  refine wk_of (pe_not pe_wk) ?_
  refine ha.lk tk f r (Ev.refl w) q fun p ph1 x w1 e1 f1 r1 a1 q1 => ?_
  cases p with
  | bl b =>
    have e := relB_bl a1
    subst e
    exact ⟨b, rfl, okV_flat e1 f1 (sat_pure.mp q1) rel_bl⟩
  | _ => exact (show False from q1).elim
/-! ### tests -/
/-- at e as a test the interpreter's m tells what happens -/
def ST (X : Cx) (env : PEnv) (e : Expr) (m : PM (PV × Bool)) : Prop :=
  ∀ (σ : St) (w0 w : Ws) (ph : PH) (Q : Bool → Hp → Prop) (W : WX), Takes X W → Wf X.K w ph → EnvR X.K w0 w env σ →
    Sat (m ph) (fun r ph1 => ∃ b, r.1 = .bl b ∧ ∀ w', Ev w w' → Wf X.K w' ph1 → Q b w'.H) (exV X.K w W σ) → wkT X e σ w.H Q
theorem ST.lk {R : PV × Bool → PH → Prop} {k : Bool → PM (PV × Bool)} {T : Bool → Hp → Prop} (h : ST X env e m) (tk : Takes X W) (f : Wf X.K w ph) (r : EnvR X.K w0 w env σ) (g : Ev wb w)
    (q : Sat (m ph) (fun r ph1 => ∃ b, r.1 = .bl b ∧ Sat (k b ph1) R (exV X.K wb W σ)) (exV X.K wb W σ))
    (n : ∀ b ph1 w1, Ev w w1 → Wf X.K w1 ph1 → EnvR X.K w0 w1 env σ → Sat (k b ph1) R (exV X.K wb W σ) → T b w1.H) : wkT X e σ w.H T :=
  h σ w0 w ph T W tk f r (q.mono (fun p ph1 ⟨b, e, hk⟩ => ⟨b, e, fun w1 e1 f1 => n b ph1 w1 e1 f1 (r.mono f e1) hk⟩) fun _ _ z => z.mono g)
theorem ST.fin {T : Bool → Hp → Prop} (h : ST X env e m) (tk : Takes X W) (f : Wf X.K w ph) (r : EnvR X.K w0 w env σ) (g : Ev wb w)
    (q : Sat (m ph) (fun r ph1 => ∃ b, r.1 = .bl b ∧ ∀ w', Ev wb w' → Wf X.K w' ph1 → T b w'.H) (exV X.K wb W σ)) : wkT X e σ w.H T :=
  h σ w0 w ph T W tk f r (q.mono (fun p ph1 ⟨b, e, hk⟩ => ⟨b, e, fun w1 e1 f1 => hk w1 (g.trans e1) f1⟩) fun _ _ z => z.mono g)
/-- an expression whose truth is its value's -/
theorem st_val (h : SE X env e m B) (he : ∀ whole, isTrue e X.env whole = (do let v ← whole; standAt e.pos; holding [v] (truthy v))) : ST X env e m := by
  intro σ w0 w ph Q W tk f r q
  refine wkT_of (pt_val pe_wk he) ?_
  refine h σ w0 w ph _ W tk f r (q.mono (fun p ph1 ⟨b, eb, hk⟩ v w1 e1 f1 rel => ?_) fun _ _ z => z)
  have rb : RelB X.K w1 p.1 v := by
    cases B with
    | true => exact rel
    | false => exact RelF.b f1 rel
  rw [eb] at rb
  exact ⟨b, relB_bl rb, hk w1 e1 f1⟩
theorem st_cmp {op : CmpOp} (hu : X.A.units + 64 < cLine) (hm : behindInMarks op eb = false) (ha : SE X env ea ma Ba) (hb : SE X env eb mb Bb) :
    ST X env (.Compare ea [op] [eb] pos) (PM.bind (evalV ma) fun x => PM.bind (evalV mb) fun y => PM.ofO ((pcmp op x y).map mkBool)) := by
  intro σ w0 w ph Q W tk f r q
  refine wkT_of (pt_cmpR (op_pcmp op hu) pe_wk pe_wk hm) ?_
  refine ha.lk tk f r (Ev.refl w) q fun p ph1 x w1 e1 f1 r1 a1 q1 => ?_
  refine hb.lk tk f1 r1 e1 q1 fun p2 ph2 y w2 e2 f2 r2 a2 q2 => ?_
  obtain ⟨a, ea, q2⟩ := sat_ofO.mp q2
  obtain ⟨b, hb, rfl⟩ := Option.map_eq_some_iff.mp ea
  obtain ⟨b', eb', hk⟩ := q2
  cases eb'
  exact ⟨p, p2, b, w2, rfl, a1.mono f1 e2, a2, hb, b, rfl, hk w2 (e1.trans e2) f2⟩
theorem st_cmp2 {o1 o2 : CmpOp} (hu : X.A.units + 64 < cLine) (hm : lastMarks [o1, o2] [eb, ec] = false) (ha : SE X env ea ma Ba) (hb : SE X env eb mb Bb) (hc : SE X env ec mc Bc) :
    ST X env (.Compare ea [o1, o2] [eb, ec] pos) (PM.bind (evalV ma) fun x => PM.bind (evalV mb) fun y => PM.bind (PM.ofO (pcmp o1 x y)) (kCmp2 (PM.bind (evalV mc) fun z => PM.ofO ((pcmp o2 y z).map mkBool)))) := by
  intro σ w0 w ph Q W tk f r q
  refine wkT_of (pt_chain (op_pcmp o1 hu) (op_pcmp o2 hu) pe_wk pe_wk pe_wk hm) ?_
  refine ha.lk tk f r (Ev.refl w) q fun p ph1 x w1 e1 f1 r1 a1 q1 => ?_
  refine hb.lk tk f1 r1 e1 q1 fun p2 ph2 y w2 e2 f2 r2 a2 q2 => ?_
  rw [sat_bind'] at q2
  obtain ⟨b, hb, q2⟩ := sat_ofO.mp q2
  refine ⟨p, p2, b, w2, rfl, a1.mono f1 e2, a2, hb, b, rfl, ?_⟩
  cases b with
  | false =>
    obtain ⟨b', eb', hk⟩ := sat_pure.mp q2
    cases eb'
    exact ⟨false, rfl, hk w2 (e1.trans e2) f2⟩
  | true =>
    refine hc.lk tk f2 r2 (e1.trans e2) q2 fun p3 ph3 z w3 e3 f3 r3 a3 q3 => ?_
    obtain ⟨a, ea, q3⟩ := sat_ofO.mp q3
    obtain ⟨c, hc, rfl⟩ := Option.map_eq_some_iff.mp ea
    obtain ⟨b', eb', hk⟩ := q3
    cases eb'
    exact ⟨p2, p3, c, w3, rfl, a2.mono f2 e3, a3, hc, c, rfl, hk w3 ((e1.trans e2).trans e3) f3⟩
theorem pw_of {op : BoolOp} {es : List Expr} {t : TT} (h : PT X (.BoolOp op es pos) t) : PW X (.BoolOp op es pos) t := ⟨fun _ pins s σ H Q I q => h.run pins s σ H Q I q⟩
theorem pt_of {op : BoolOp} {es : List Expr} {t : TT} (h : PW X (.BoolOp op es pos) t) : PT X (.BoolOp op es pos) t := ⟨fun pins s σ H Q I q => h.run _ pins s σ H Q I q⟩
theorem st_one_and (ha : ST X env ea ma) : ST X env (.BoolOp .And [ea] pos) ma := fun σ w0 w ph Q W tk f r q => wkT_of (pt_of (pw_and1 pt_wk)) (ha σ w0 w ph Q W tk f r q)
theorem st_one_or (ha : ST X env ea ma) : ST X env (.BoolOp .Or [ea] pos) ma := fun σ w0 w ph Q W tk f r q => wkT_of (pt_of (pw_or1 pt_wk)) (ha σ w0 w ph Q W tk f r q)
/-- looked at as a bool -/
theorem sat_bool {k : PV → PM (PV × Bool)} {kb : Bool → PM (PV × Bool)} {R : PV × Bool → PH → Prop} {E : PEx → PH → Prop} (hk : ∀ b, k (.bl b) = kb b) (hs : ∀ p, (∀ b, p ≠ .bl b) → k p = PM.stuck) (q : Sat (PM.bind (evalV m) k ph) R E) :
    Sat (m ph) (fun r ph1 => ∃ b, r.1 = .bl b ∧ Sat (kb b ph1) R E) E := by
  rw [sat_bind'] at q
  unfold evalV at q
  rw [sat_bind'] at q
  refine q.mono (fun p ph1 h => ?_) fun _ _ z => z
  have h : Sat (k p.1 ph1) R E := h
  by_cases c : ∃ b, p.1 = .bl b
  · obtain ⟨b, eb⟩ := c
    rw [eb, hk] at h
    exact ⟨b, eb, h⟩
  · rw [hs p.1 (fun b eb => c ⟨b, eb⟩)] at h
    exact (sat_stuck.mp h).elim
theorem kAnd_bl {n : PM (PV × Bool)} (b : Bool) : kAnd n (.bl b) = if b = true then n else PM.pure (mkBool false) := by cases b <;> rfl
theorem kOr_bl {n : PM (PV × Bool)} (b : Bool) : kOr n (.bl b) = if b = true then PM.pure (mkBool true) else n := by cases b <;> rfl
theorem kIte_bl {n n' : PM (PV × Bool)} (b : Bool) : kIte n n' (.bl b) = if b = true then n else n' := by cases b <;> rfl
theorem kAnd_no {n : PM (PV × Bool)} (p : PV) (h : ∀ b, p ≠ .bl b) : kAnd n p = PM.stuck := by cases p <;> first | rfl | exact absurd rfl (h _)
theorem kOr_no {n : PM (PV × Bool)} (p : PV) (h : ∀ b, p ≠ .bl b) : kOr n p = PM.stuck := by cases p <;> first | rfl | exact absurd rfl (h _)
theorem kIte_no {n n' : PM (PV × Bool)} (p : PV) (h : ∀ b, p ≠ .bl b) : kIte n n' p = PM.stuck := by cases p <;> first | rfl | exact absurd rfl (h _)
theorem kNot_no (p : PV) (h : ∀ b, p ≠ .bl b) : kNot p = PM.stuck := by cases p <;> first | rfl | exact absurd rfl (h _)
theorem st_and {rest : List Expr} (ha : ST X env ea ma) (hb : ST X env (.BoolOp .And (eb :: rest) pos) mb) : ST X env (.BoolOp .And (ea :: eb :: rest) pos) (PM.bind (evalV ma) (kAnd mb)) := by
  intro σ w0 w ph Q W tk f r q
  refine wkT_of (pt_of (pw_and pt_wk (pw_of pt_wk))) ?_
  refine ha.lk tk f r (Ev.refl w) (sat_bool (kb := fun b => if b = true then mb else PM.pure (mkBool false)) kAnd_bl kAnd_no q) fun b ph1 w1 e1 f1 r1 q1 => ?_
  cases b with
  | true => exact hb.fin tk f1 r1 e1 q1
  | false =>
    obtain ⟨b', eb', hk⟩ := sat_pure.mp q1
    cases eb'
    exact hk w1 e1 f1
theorem st_or {rest : List Expr} (ha : ST X env ea ma) (hb : ST X env (.BoolOp .Or (eb :: rest) pos) mb) : ST X env (.BoolOp .Or (ea :: eb :: rest) pos) (PM.bind (evalV ma) (kOr mb)) := by
  intro σ w0 w ph Q W tk f r q
  refine wkT_of (pt_of (pw_or pt_wk (pw_of pt_wk))) ?_
  refine ha.lk tk f r (Ev.refl w) (sat_bool (kb := fun b => if b = true then PM.pure (mkBool true) else mb) kOr_bl kOr_no q) fun b ph1 w1 e1 f1 r1 q1 => ?_
  cases b with
  | false => exact hb.fin tk f1 r1 e1 q1
  | true =>
    obtain ⟨b', eb', hk⟩ := sat_pure.mp q1
    cases eb'
    exact hk w1 e1 f1
theorem st_not (ha : ST X env ea ma) : ST X env (.UnaryOp .Not ea pos) (PM.bind (evalV ma) kNot) := by
  intro σ w0 w ph Q W tk f r q
  refine wkT_of (pt_not pt_wk) ?_
  refine ha.lk tk f r (Ev.refl w) (sat_bool (kb := fun b => PM.pure (mkBool (!b))) (fun _ => rfl) kNot_no q) fun b ph1 w1 e1 f1 r1 q1 => ?_
  obtain ⟨b', eb', hk⟩ := sat_pure.mp q1
  cases eb'
  exact hk w1 e1 f1
theorem se_ite {et : Expr} {mt : PM (PV × Bool)} (ht : ST X env et mt) (ha : SE X env ea ma false) (hb : SE X env eb mb false) : SE X env (.IfExp et ea eb pos) (PM.bind (evalV mt) (kIte ma mb)) false := by
  intro σ w0 w ph Q W tk f r q
  refine wk_of (pe_ifExp pt_wk pe_wk pe_wk) ?_
  refine ht.lk tk f r (Ev.refl w) (sat_bool (kb := fun b => if b = true then ma else mb) kIte_bl kIte_no q) fun b ph1 w1 e1 f1 r1 q1 => ?_
  cases b with
  | true => exact ha.fin tk f1 r1 e1 q1
  | false => exact hb.fin tk f1 r1 e1 q1
end
end Py

set_option Elab.async false
set_option linter.all false
set_option maxRecDepth 100000
set_option maxHeartbeats 1000000
/-! PyRv: x[::-1] of tracked tuples and lists. -/
namespace Py
open PySem PySem.Spec L2 HT PySem.SeqAt
open PyProof.Rows hiding St
theorem rv_places (n : Nat) : Builtin.Slice.slicePlaces ((n : Int) - 1) (-1) (-1) = n := by
  unfold Builtin.Slice.slicePlaces
  have h1 : ¬ ((-1 : Int) > 0) := by decide
  simp only [h1, if_false]
  by_cases h : (n : Int) - 1 > -1
  · rw [if_pos h, show (- -1 : Int) = 1 by decide, Int.ediv_one]
    omega
  · rw [if_neg h]
    omega
theorem rv_adjust (n : Nat) : Builtin.Slice.sliceAdjust none none (-1) (n : Int) = ((n : Int) - 1, -1) := by
  unfold Builtin.Slice.sliceAdjust
  have h1 : ((-1 : Int) < 0) := by decide
  simp only [h1, if_true]
theorem rv_pick {xs : Array Value} : ((List.range xs.size).filterMap fun (k : Nat) => xs[(((xs.size : Int) - 1) + (k : Int) * (-1)).toNat]?).toArray = xs.toList.reverse.toArray := by
  have key : ∀ l : List Nat, (∀ k ∈ l, k < xs.size) → (l.filterMap fun (k : Nat) => xs[(((xs.size : Int) - 1) + (k : Int) * (-1)).toNat]?) = (l.map fun k => xs.size - 1 - k).filterMap (xs[·]?) := by
    intro l
    induction l with
    | nil => intro _; rfl
    | cons k l ih =>
      intro h
      have hk := h k (List.mem_cons_self ..)
      have e : (((xs.size : Int) - 1) + (k : Int) * (-1)).toNat = xs.size - 1 - k := by omega
      rw [List.map_cons, List.filterMap_cons, List.filterMap_cons, e, ih fun j hj => h j (List.mem_cons_of_mem _ hj)]
  have e := key (List.range xs.size) fun k hk => List.mem_range.mp hk
  rw [e, PySem.W.krv_range, List.filterMap_reverse, PySem.W.krv_all]
section
variable {prog : Program} {w : World} {A : Around} {E : Value → Shared → Prop} {s : Shared}
theorem rv_applied {sl : Addr} {vl vu vs : Value} {n : Nat} {Q : Int × Int × Nat → Shared → Prop} (hs : s.heap.IsSliceOf sl vl vu vs) (pl : IsPart vl none) (pu : IsPart vu none) (ps : IsPart vs (some (-1)))
    (h : Q ((n : Int) - 1, -1, n) s) : wpAny (model prog w) A (Builtin.Slice.sliceApplied (.ref sl) (pure (n : Int))) Q E s := by
  obtain ⟨os, hos, hcs, hds⟩ := id hs
  unfold Builtin.Slice.sliceApplied Builtin.Slice.sliceFields
  refine wpAny_bind (wpAny_bind (wpAny_field hos hds (x := vl) rfl (wpAny_bind (wpAny_field hos hds (x := vu) rfl (wpAny_bind (wpAny_field hos hds (x := vs) rfl (wpAny_pure ?_)))))))
  refine wpAny_bind (slicePart_ ps ?_)
  show wpAny _ _ (if ((-1 : Int) == 0) = true then _ else _) _ _ s
  rw [if_neg (by decide)]
  refine wpAny_bind (slicePart_ pl (wpAny_bind (slicePart_ pu (wpAny_bind (wpAny_pure ?_)))))
  show wpAny _ _ (match Builtin.Slice.sliceAdjust none none (-1) (n : Int) with | (lo, hi) => pure (lo, (-1 : Int), Builtin.Slice.slicePlaces lo hi (-1))) _ _ s
  rw [rv_adjust n]
  show wpAny _ _ (pure ((n : Int) - 1, (-1 : Int), Builtin.Slice.slicePlaces ((n : Int) - 1) (-1) (-1))) _ _ s
  rw [rv_places]
  exact wpAny_pure h
theorem rv_getItem {t sl : Addr} {items : Array Value} {vl vu vs : Value} {Q : Value → Shared → Prop} (ht : IsTup s.heap t items) (hs : s.heap.IsSliceOf sl vl vu vs) (pl : IsPart vl none) (pu : IsPart vu none) (ps : IsPart vs (some (-1)))
    (h : Q (.ref s.heap.objs.size) { s with heap := s.heap.push { cls := .type "tuple", data := .seq items.toList.reverse.toArray } }) (hsz : items.size ≤ sizeLine) : wpAny (model prog w) A (getItem (.ref t) (.ref sl)) Q E s := by
  have htake : sizeOk (.seq items.toList.reverse.toArray) := by
    show items.toList.reverse.toArray.size ≤ sizeLine
    rw [List.size_toArray, List.length_reverse, Array.length_toList]
    exact hsz
  obtain ⟨os, hos, hcs, hds⟩ := id hs
  have hTs : s.TypeIs (.ref sl) "slice" := ⟨os, hos, hcs⟩
  unfold getItem
  try with_reducible refine wpAny_holding ?_
  first | refine wpAny_bind (wpAny_pure ?_) | skip
  refine wpAny_bind (wpAny_sequenceKey ht.typeIs (by decide) ?_)
  refine wpAny_bind (wpAny_callSpecial?_slot (name := Str.ofString "__getitem__") ht.typeIs PyProof.Rows.slot_tuple_getitem
    (wpAny_call_entry PyProof.Rows.slot_tuple_getitem ht.typeIs entry_tuple_getitem ?_ (args_tuple_getitem _ _)))
  show wpAny _ _ (Builtin.Tuple.tupleItemsOf (.ref t) >>= _) _ _ s
  refine wpAny_bind (tupleItemsOf_ ht ?_)
  refine wpAny_bind (wpAny_typeOf hTs ?_)
  rw [if_pos (by decide)]
  refine wpAny_bind (rv_applied hs pl pu ps ?_)
  have hno : ¬ ((((items.size : Int) - 1) == 0 && (-1 : Int) == 1 && items.size == items.size) = true) := by
    intro q
    rw [Bool.and_eq_true, Bool.and_eq_true] at q
    exact absurd q.1.2 (by decide)
  show wpAny _ _ (if (((items.size : Int) - 1) == 0 && (-1 : Int) == 1 && items.size == items.size) = true then _ else _) _ _ s
  rw [if_neg hno, rv_pick]
  first
    | exact wpAny_bind (m := Builtin.Tuple.tupleExact _) (wpAny_newObj_type (wpAny_pure ⟨_, rfl, wpAny_pure h⟩) htake)
    | exact wpAny_bind (m := Builtin.Tuple.tupleExact _) (wpAny_newObj_type (wpAny_bind (wpAny_pure (wpAny_pure ⟨_, rfl, wpAny_pure h⟩))) htake)
    | exact wpAny_bind (wpAny_bind (m := Builtin.Tuple.tupleExact _) (wpAny_newObj_type (wpAny_pure (wpAny_pure ⟨_, rfl, wpAny_pure h⟩)) htake))
    | exact wpAny_bind (wpAny_bind (m := Builtin.Tuple.tupleExact _) (wpAny_newObj_type (wpAny_pure ⟨_, rfl, wpAny_pure h⟩) htake))
end
def tRevT (K : PySem.W.Frag) (te : TE) : TE := fun σ H Q => te σ H fun x H1 => ∃ (p : PV) (r : PV × Bool) (w : Ws) (ph : PH), w.H = H1 ∧ Wf K w ph ∧ RelB K w p x ∧ prev p = some r ∧ RV K w ph r Q
theorem pe_revT {X : Cx} {e : Expr} {te : TE} {k : Nat} {p1 p2 p3 pos : Pos} (he : PE X e te) : PE X (.Subscript e (.Slice none none (some (.UnaryOp .USub (.Constant (.int 1) k p1) p2)) p3) pos) (tRevT X.K te) := by
  refine ⟨fun pins s σ H Q I h => ?_⟩
  refine Subscript_ (thn (he.run pins s σ H _ I h) fun v s1 ⟨x, H1, I1, r1, q1⟩ => ?_)
  obtain ⟨p, r, ws, ph, rfl, f, rb, hb, hQ⟩ := q1
  have hst : L2.PO X (some (.UnaryOp .USub (.Constant (.int 1) k p1) p2)) (tPart (tUn (rU fun i => .int (-i)) (tC (.int 1)))) := L2.po_some (L2.pe_un L2.un_neg L2.pe_int)
  refine wpAny_Slice (thn (L2.po_none.run pins s1 σ ws.H (fun o H2 => o = none ∧ H2 = ws.H) I1 ⟨rfl, rfl⟩) fun vl s2 ⟨l, H2, I2, pl, el, e2⟩ => ?_)
  subst el e2
  refine thn (L2.po_none.run pins s2 σ ws.H (fun o H3 => o = none ∧ H3 = ws.H) I2 ⟨rfl, rfl⟩) fun vu s3 ⟨u, H3, I3, pu, eu, e3⟩ => ?_
  subst eu e3
  refine thn (hst.run pins s3 σ ws.H (fun o H4 => o = some (-1) ∧ H4 = ws.H) I3 ⟨1, rfl, -1, rfl, rfl, rfl⟩) fun vs s4 ⟨o, H4, I4, ps, eo, e4⟩ => ?_
  subst eo e4
  have I5 : Inv X pins σ ws.H { s4 with heap := s4.heap.push { cls := .type "slice", data := .fields #[vl, vu, vs] } } := I4.kept (t' := s4.toks) fun b ob q => Heap.get?_push_of_some _ q
  cases p with
  | lst xs =>
    cases hb
    obtain ⟨a, ys, rfl, ha, ra⟩ := relB_rd rb
    cases r1
    obtain ⟨its, r, ht, hz⟩ := I5.list (.inl ha)
    have hlen := r.length
    refine tail_any (ops := [.ref a, .ref s4.heap.objs.size]) ht.isList.typeIs (PySem.slot_list_getitem.lookup) ?_ (by with_unfolding_all rfl)
    refine wpAny_getItem_list_slice ht.isList (Heap.IsSliceOf.new _ vl vu vs) pl pu ps (by decide) ?_ (by rw [List.size_toArray]; omega)
    rw [PySem.W.krv_pick]
    refine ⟨.ref _, _, I5.laid (t' := s4.toks) (o := .lst ys.reverse) (fun b ob q => Heap.get?_push_of_some _ q) (Nat.le_refl _) ?_, rfl, hQ.lst f (I5.hok.fresh (Nat.le_refl _)) ra.reverse⟩
    exact ⟨by rw [List.length_reverse]; exact hz, _, 0, r.reverse, Heap.get?_push_size _ rfl⟩
  | tup xs =>
    cases hb
    have t := relB_tupR rb
    obtain ⟨a, ys, rfl, ha, ra⟩ := relB_tup rb
    cases r1
    obtain ⟨its, r, ht, hz⟩ := I5.tuple ha
    have hlen : its.toArray.size = ys.length := by rw [List.size_toArray]; exact r.length.symm
    refine tail_any (ops := [.ref a, .ref s4.heap.objs.size]) ht.typeIs (PyProof.Rows.slot_tuple_getitem.lookup) ?_ (by with_unfolding_all rfl)
    refine rv_getItem ht (Heap.IsSliceOf.new _ vl vu vs) pl pu ps ?_ (by rw [hlen]; exact hz)
    refine ⟨.ref _, _, I5.laid (t' := s4.toks) (o := .frz { cls := .type "tuple", data := .seq its.toArray.toList.reverse.toArray } (.tup ys.reverse)) (fun b ob q => Heap.get?_push_of_some _ q) (Nat.le_refl _) ?_, rfl, hQ.tup f (I5.hok.fresh (Nat.le_refl _)) ra.reverse rfl⟩
    exact ⟨Heap.get?_push_size _ rfl, by rw [List.length_reverse]; exact hz, _, r.reverse, IsTup.new _ _⟩
  | _ => cases hb
end Py

set_option Elab.async false
set_option linter.all false
set_option maxRecDepth 100000
set_option maxHeartbeats 1000000
/-! PyF: arguments, displays, subscripts, calls. -/
namespace Py
open PySem L2
open PyProof.Rows hiding St
/-! ### the shape of an expression -/
def notStar : Expr → Bool
  | .Starred _ _ => false
  | _ => true
theorem star_cons {e : Expr} {es : List Expr} {env : Env} (h : notStar e = true) : starEach (e :: es) env = (false, eval e env) :: starEach es env := by
  cases e <;> first | rfl | cases h
theorem star_all {es : List Expr} {env : Env} (h : es.all notStar = true) : (starEach es env).all (fun x => !x.1) = true := by
  induction es with
  | nil => rfl
  | cons e es ih =>
    simp only [List.all_cons, Bool.and_eq_true] at h
    rw [star_cons h.1]
    simp only [List.all_cons, Bool.not_false, Bool.true_and]
    exact ih h.2
theorem back_all {pos : Pos} {l : List (Bool × Sem Value)} : (backTo pos l).all (fun x => !x.1) = l.all (fun x => !x.1) := by
  cases l with
  | nil => rfl
  | cons a l => simp [backTo, List.all_map]; rfl
theorem back_any {pos : Pos} {l : List (Bool × Sem Value)} (h : l.all (fun x => !x.1) = true) : (backTo pos l).any (·.1) = false := by
  rw [← back_all (pos := pos)] at h
  rw [List.any_eq_false]
  intro x hx
  have := List.all_eq_true.mp h x hx
  simpa using this
theorem star_any {es : List Expr} {env : Env} {pos : Pos} (h : es.all notStar = true) : (backTo pos (starEach es env)).any (·.1) = false := back_any (star_all h)
def notSuper : Expr → Bool
  | .Call _ _ _ _ => false
  | _ => true
theorem attr_base {o : Expr} {nm : Str} {env : Env} {wh : Sem Value} (h : notSuper o = true) : attributeBase o nm env wh = wh := by
  cases o <;> first | rfl | cases h
def plainTest : Expr → Bool
  | .UnaryOp .Not _ _ => false
  | .BoolOp _ _ _ => false
  | .IfExp _ _ _ _ => false
  | .Compare _ _ _ _ => false
  | _ => true
theorem test_plain {e : Expr} {env : Env} (h : plainTest e = true) (wh : Sem Value) : isTrue e env wh = (do let v ← wh; standAt e.pos; holding [v] (truthy v)) := by
  cases e with
  | UnaryOp op x p => cases op <;> first | rfl | cases h
  | _ => first | rfl | cases h
def plainIx : Expr → Bool
  | .Slice _ _ _ _ => false
  | _ => true
theorem plain_ix {e : Expr} (h : plainIx e = true) : PlainIx e := by
  intro o i
  cases e <;> first | rfl | cases h
def notSetD : Expr → Bool
  | .Set _ _ _ => false
  | _ => true
theorem folded_no {e : Expr} {env : Env} (h : notSetD e = true) (x : Value) : foldedSetIterable e env x = pure x := by
  cases e <;> first | rfl | cases h
/-! ### arguments -/
section
variable {X : Cx} {env : PEnv} {e : Expr} {es : List Expr} {m : PM (PV × Bool)} {ml : PM (List PV)} {σ : St} {w0 w wb : Ws} {ph : PH} {Q : VK} {W : WX} {B : Bool}
def RelsF (K : PySem.W.Frag) (w : Ws) (B : Bool) (ps : List PV) (vs : List V) : Prop := if B = true then RelBs K w ps vs else Rels K w ps vs
theorem RelsF.mono {K : PySem.W.Frag} {w w' : Ws} {ph : PH} {ps : List PV} {vs : List V} (f : Wf K w ph) (g : Ev w w') (r : RelsF K w B ps vs) : RelsF K w' B ps vs := by
  cases B with
  | true => exact RelBs.mono f g r
  | false => exact Rels.mono (g.sle f) _ _ r
theorem rels_bs {K : PySem.W.Frag} {w : Ws} {ph : PH} (f : Wf K w ph) : ∀ {ps : List PV} {vs : List V}, Rels K w ps vs → RelBs K w ps vs
  | [], [], _ => trivial
  | p :: ps, v :: vs, r => by
    rw [Rels] at r
    exact ⟨RelB.of f r.1, rels_bs f r.2⟩
  | [], _ :: _, r => by simp [Rels] at r
  | _ :: _, [], r => by simp [Rels] at r
theorem RelsF.b {K : PySem.W.Frag} {w : Ws} {ph : PH} {ps : List PV} {vs : List V} (f : Wf K w ph) (r : RelsF K w B ps vs) : RelBs K w ps vs := by
  cases B with
  | true => exact r
  | false => exact rels_bs f r
/-- at the arguments es the interpreter's ml tells what happens -/
def SA (X : Cx) (env : PEnv) (es : List Expr) (ml : PM (List PV)) (B : Bool) : Prop :=
  ∀ (σ : St) (w0 w : Ws) (ph : PH) (T : List V → Hp → Prop) (W : WX), Takes X W → Wf X.K w ph → EnvR X.K w0 w env σ →
    Sat (ml ph) (fun ps ph1 => ∀ vs w1, Ev w w1 → Wf X.K w1 ph1 → EnvR X.K w0 w1 env σ → RelsF X.K w1 B ps vs → T vs w1.H) (exV X.K w W σ) → wkA X es σ w.H T
theorem SA.lk {β : Type} {k : List PV → PM β} {R : β → PH → Prop} {T : List V → Hp → Prop} (h : SA X env es ml B) (tk : Takes X W) (f : Wf X.K w ph) (r : EnvR X.K w0 w env σ) (g : Ev wb w)
    (q : Sat (PM.bind ml k ph) R (exV X.K wb W σ))
    (n : ∀ ps ph1 vs w1, Ev w w1 → Wf X.K w1 ph1 → EnvR X.K w0 w1 env σ → RelsF X.K w1 B ps vs → Sat (k ps ph1) R (exV X.K wb W σ) → T vs w1.H) : wkA X es σ w.H T :=
  h σ w0 w ph T W tk f r ((sat_bind'.mp q).mono (fun ps ph1 hk vs w1 e1 f1 r1 rel => n ps ph1 vs w1 e1 f1 r1 rel hk) fun _ _ z => z.mono g)
theorem sa_nil : SA X env [] (PM.pure []) B := by
  intro σ w0 w ph T W tk f r q
  exact wkA_of pa_nil ((sat_pure.mp q) [] w (Ev.refl w) f r (by cases B <;> simp [RelsF, RelBs, Rels]))
theorem sa_cons (hs : notStar e = true) (h : SE X env e m B) (ht : SA X env es ml B) : SA X env (e :: es) (PM.bind m fun r => PM.bind ml fun rs => PM.pure (r.1 :: rs)) B := by
  intro σ w0 w ph T W tk f r q
  refine wkA_of (pa_cons pe_wk pa_wk (star_cons hs)) ?_
  have fin : ∀ (p : PV × Bool) (ph1 : PH) (v : V) (w1 : Ws), Ev w w1 → Wf X.K w1 ph1 → EnvR X.K w0 w1 env σ → (if B = true then RelB X.K w1 p.1 v else Rel X.K w1 p.1 v) →
      Sat ((PM.bind ml fun rs => PM.pure (p.1 :: rs)) ph1) (fun ps ph1 => ∀ vs w1, Ev w w1 → Wf X.K w1 ph1 → EnvR X.K w0 w1 env σ → RelsF X.K w1 B ps vs → T vs w1.H) (exV X.K w W σ) →
      wkA X es σ w1.H (fun xs H2 => T (v :: xs) H2) := fun p ph1 v w1 e1 f1 r1 a1 q1 => by
    refine ht.lk tk f1 r1 e1 q1 fun ps ph2 vs w2 e2 f2 r2 a2 q2 => ?_
    refine (sat_pure.mp q2) (v :: vs) w2 (e1.trans e2) f2 r2 ?_
    cases B with
    | true => exact ⟨RelB.mono f1 e2 a1, a2⟩
    | false => exact Rels.cons (Rel.mono (e2.sle f1) _ _ a1) a2
  cases B with
  | true =>
    have q' : Sat (PM.bind (evalV m) (fun p => PM.bind ml fun rs => PM.pure (p :: rs)) ph) (fun ps ph1 => ∀ vs w1, Ev w w1 → Wf X.K w1 ph1 → EnvR X.K w0 w1 env σ → RelsF X.K w1 true ps vs → T vs w1.H) (exV X.K w W σ) := by
      rw [sat_bind'] at q ⊢
      unfold evalV
      rw [sat_bind']
      exact q
    exact h.lk tk f r (Ev.refl w) q' fun p ph1 v w1 e1 f1 r1 a1 q1 => fin (p, false) ph1 v w1 e1 f1 r1 a1 q1
  | false => exact h.kp tk f r (Ev.refl w) q fun p ph1 v w1 e1 f1 r1 a1 q1 => fin p ph1 v w1 e1 f1 r1 a1 q1
/-! ### displays -/
variable {pos : Pos}
def tTupD (t : TA) : TE := fun σ H Q => t σ H fun xs H1 => xs.length ≤ sizeLine ∧ ∀ p (o : Obj), H1 p = none → o.dict = none → Q (.ref p) (upd H1 p (.frz o (.tup xs)))
theorem pe_tupD {t : TA} {x1} (h : PA X es t) : PE X (.Tuple es x1 pos) (tTupD t) := by
  refine ⟨fun pins s σ H Q I hq => ?_⟩
  refine wpAny_Tuple_spliced (thn (h.run pos pins s σ H _ I hq) fun us s1 ⟨xs, H1, I1, r, z, q⟩ => ⟨by rw [← r.length]; exact z, ?_⟩)
  have hf : H1 s1.heap.objs.size = none := I1.hok.fresh (Nat.le_refl _)
  refine ⟨.ref s1.heap.objs.size, upd H1 s1.heap.objs.size (.frz { cls := .type "tuple", data := .seq us.toArray } (.tup xs)), I1.laid (t' := s1.toks) (fun b u e => Heap.get?_push_of_some _ e) (Nat.le_refl _) ?_, rfl, q _ _ hf rfl⟩
  exact ⟨Heap.get?_push_size _ rfl, z, us, r, ⟨_, Heap.get?_push_size _ rfl, rfl, _, rfl⟩⟩
/-- *e among the items -/
theorem sa_star {p : Pos} (h : SE X env e m false) (ht : SA X env es ml false) : SA X env (.Starred e p :: es) (PM.bind m fun r => PM.bind (kSeq r.1) fun xs => PM.bind ml fun ys => PM.pure (xs ++ ys)) false := by
  intro σ w0 w ph T W tk f r q
  refine wkA_of (StX.pa_star pe_wk pa_wk) ?_
  refine h.kp tk f r (Ev.refl w) q fun pv ph1 v w1 e1 f1 r1 a1 q1 => ?_
  have fin : ∀ (xs : List PV) (a : Addr) (vs : List V), v = .ref a → (SqT X.K w1.H a vs ∨ SqL X.K w1.H a vs) → Rels X.K w1 xs vs → Sat ((PM.bind ml fun ys => PM.pure (xs ++ ys)) ph1) (fun ps ph1 => ∀ vs w1, Ev w w1 → Wf X.K w1 ph1 → EnvR X.K w0 w1 env σ → RelsF X.K w1 false ps vs → T vs w1.H) (exV X.K w W σ) →
      ∃ a vs, v = .ref a ∧ (SqT X.K w1.H a vs ∨ SqL X.K w1.H a vs) ∧ wkA X es σ w1.H fun ys H2 => T (vs ++ ys) H2 := fun xs a vs ev hs rr q2 => by
    refine ⟨a, vs, ev, hs, ?_⟩
    refine ht.lk tk f1 r1 e1 q2 fun ps ph2 us w2 e2 f2 r2 a2 q3 => ?_
    have a2 : Rels X.K w2 ps us := a2
    exact (sat_pure.mp q3) (vs ++ us) w2 (e1.trans e2) f2 r2 (show Rels X.K w2 _ _ from (Rels.mono (e2.sle f1) _ _ rr).append a2)
  obtain ⟨x, b⟩ := pv
  cases x with
  | tup xs =>
    have a1 : Rel X.K w1 (.tup xs) v := a1
    rw [Rel] at a1
    obtain ⟨a, vs, ev, z, rr⟩ := a1
    exact fin xs a vs ev (.inl (sqT_of z)) rr q1
  | lst xs =>
    have a1 : Rel X.K w1 (.lst xs) v := a1
    rw [Rel] at a1
    obtain ⟨a, vs, ev, z, rr⟩ := a1
    exact fin xs a vs ev (.inr (.inl z.2)) rr q1
  | scr xs =>
    have a1 : Rel X.K w1 (.scr xs) v := a1
    rw [Rel] at a1
    obtain ⟨a, vs, ev, z, rr⟩ := a1
    refine fin xs a vs ev (.inr ?_) rr q1
    rcases z with z | ⟨o, its, n, h1, h2, h3, h4, h5, h6⟩
    · exact .inl z.2
    · exact .inr ⟨o, its, n, h1, h2, h3, h4, h5, h6⟩
  | _ => exact (show False from q1).elim
theorem se_tup {x1 : Nat} (h : SA X env es ml false) : SE X env (.Tuple es x1 pos) (PM.bind ml fun vs => if vs.length ≤ sizeLine then PM.pure (.tup vs, false) else PM.stuck) false := by
  intro σ w0 w ph Q W tk f r q
  refine wk_of (pe_tupD pa_wk) ?_
  refine h.lk tk f r (Ev.refl w) q fun ps ph1 vs w1 e1 f1 r1 a1 q1 => ?_
  have a1 : Rels X.K w1 ps vs := a1
  by_cases c : ps.length ≤ sizeLine
  · rw [if_pos c] at q1
    exact ⟨by rw [← a1.length]; exact c, fun p o hp hd => (okV_rv e1 (sat_pure.mp q1)).tup f1 hp a1 hd⟩
  · rw [if_neg c] at q1
    exact (sat_stuck.mp q1).elim
theorem se_lst (h : SA X env es ml false) : SE X env (.List es pos) (PM.bind ml fun vs => if vs.length ≤ sizeLine then PM.pure (.lst vs, true) else PM.stuck) false := by
  intro σ w0 w ph Q W tk f r q
  refine wk_of (pe_lst pa_wk) ?_
  refine h.lk tk f r (Ev.refl w) q fun ps ph1 vs w1 e1 f1 r1 a1 q1 => ?_
  have a1 : Rels X.K w1 ps vs := a1
  by_cases c : ps.length ≤ sizeLine
  · rw [if_pos c] at q1
    exact ⟨by rw [← a1.length]; exact c, fun p hp => (okV_rv e1 (sat_pure.mp q1)).lst f1 hp a1⟩
  · rw [if_neg c] at q1
    exact (sat_stuck.mp q1).elim
/-- a new box -/
theorem fin_box {K : PySem.W.Frag} {w : Ws} {ph : PH} {p : Addr} {xs : List PV} {vs : List V} (f : Wf K w ph) (hp : w.H p = none) (r : Rels K w xs vs) :
    Ev w { w with ρ := w.ρ ++ [p], H := upd w.H p (.lst vs) } ∧ Wf K { w with ρ := w.ρ ++ [p], H := upd w.H p (.lst vs) } (ph ++ [.lst xs]) ∧ Rel K { w with ρ := w.ρ ++ [p], H := upd w.H p (.lst vs) } (.box ph.length) (.ref p) := by
  have e : Ev w { w with ρ := w.ρ ++ [p], H := upd w.H p (.lst vs) } := by
    refine ⟨⟨[p], rfl, fun x hx => ?_⟩, fun _ h => h, fun _ h => .inl h, fun x u q _ => ?_, fun x h => upd_none h⟩
    · have : x = p := by simpa using hx
      rw [this]; exact hp
    · show upd w.H p _ x = some u
      rw [upd_ne (ne_of_none q hp)]; exact q
  have sl := e.sle f
  refine ⟨e, ⟨fun x h => upd_none (f.Sin x h), fun x hx h => ?_, fun x hx => ?_, ?_, ?_, fun k o x h1 h2 => ?_⟩, ?_⟩
  · rcases List.mem_append.mp hx with hx | hx
    · exact f.Sρ x hx h
    · have : x = p := by simpa using hx
      exact f.Sin x h (this ▸ hp)
  · rcases List.mem_append.mp hx with hx | hx
    · exact upd_none (f.ρin x hx)
    · have : x = p := by simpa using hx
      show upd w.H p _ x ≠ none
      rw [this, upd_same]; simp
  · show (w.ρ ++ [p]).Nodup
    rw [List.nodup_append]
    refine ⟨f.nd, by simp, fun a ha b hb => ?_⟩
    have : b = p := by simpa using hb
    rw [this]
    intro e
    exact f.ρin a ha (e ▸ hp)
  · show (w.ρ ++ [p]).length = (ph ++ [_]).length
    rw [List.length_append, List.length_append, f.len]; rfl
  · have h2 : (w.ρ ++ [p])[k]? = some x := h2
    by_cases c : k < ph.length
    · rw [List.getElem?_append_left c] at h1
      rw [List.getElem?_append_left (by rw [f.len]; exact c)] at h2
      have hx : x ∈ w.ρ := List.mem_of_getElem? h2
      show RelO K _ o (upd w.H p _ x)
      rw [upd_ne (fun q : x = p => f.ρin x hx (by rw [q]; exact hp))]
      exact (f.box k o x h1 h2).mono sl
    · rw [List.getElem?_append_right (by omega)] at h1
      rw [List.getElem?_append_right (by rw [f.len]; omega), f.len] at h2
      have hk : k - ph.length = 0 := by
        have := (List.getElem?_eq_some_iff.mp h1).1
        simp at this
        omega
      rw [hk] at h1 h2
      cases h1
      cases h2
      exact ⟨vs, by show upd w.H p _ p = _; rw [upd_same], Rels.mono sl _ _ r⟩
  · rw [Rel]
    refine ⟨p, rfl, ?_⟩
    show (w.ρ ++ [p])[ph.length]? = some p
    rw [← f.len]
    simp
theorem se_box (h : SA X env es ml false) : SE X env (.List es pos) (PM.bind ml fun vs ph => if vs.length ≤ sizeLine then .ok (.box ph.length, false) (ph ++ [.lst vs]) else .stuck) false := by
  intro σ w0 w ph Q W tk f r q
  refine wk_of (pe_lst pa_wk) ?_
  refine h.lk tk f r (Ev.refl w) q fun ps ph1 vs w1 e1 f1 r1 a1 q1 => ?_
  have a1 : Rels X.K w1 ps vs := a1
  have q1 : Sat (if ps.length ≤ sizeLine then Out.ok ((PV.box ph1.length, false) : PV × Bool) (ph1 ++ [.lst ps]) else .stuck) (okV X.K w Q false) (exV X.K w W σ) := q1
  by_cases c : ps.length ≤ sizeLine
  · rw [if_pos c] at q1
    refine ⟨by rw [← a1.length]; exact c, fun p hp => ?_⟩
    obtain ⟨e2, f2, r2⟩ := fin_box (p := p) f1 hp a1
    exact q1 _ _ (e1.trans e2) f2 r2
  · rw [if_neg c] at q1
    exact (show False from q1).elim
/-! ### subscripts -/
variable {ea ei : Expr} {ma mi : PM (PV × Bool)} {Ba Bi : Bool}
theorem se_idx (hu : X.A.units + 64 < cLine) (hx : plainIx ei = true) (ha : SE X env ea ma Ba) (hi : SE X env ei mi Bi) :
    SE X env (.Subscript ea ei pos) (PM.bind (evalV ma) fun x => PM.bind (evalV mi) fun y ph => PM.ofO ((pixB ph x y).map fun v => (v, false)) ph) false := by
  intro σ w0 w ph Q W tk f r q
  refine wk_of (pe_ix (ix_pix hu) pe_wk pe_wk (plain_ix hx)) ?_
  refine ha.lk tk f r (Ev.refl w) q fun p ph1 x w1 e1 f1 r1 a1 q1 => ?_
  refine hi.lk tk f1 r1 e1 q1 fun p2 ph2 y w2 e2 f2 r2 a2 q2 => ?_
  obtain ⟨a, ea, q2⟩ := sat_ofO.mp q2
  obtain ⟨b, hb, rfl⟩ := Option.map_eq_some_iff.mp ea
  exact ⟨p, p2, b, w2, ph2, rfl, f2, a1.mono f1 e2, a2, hb, fun v rv => okV_flat (e1.trans e2) f2 q2 rv⟩
/-- at a part of a slice -/
def SO (X : Cx) (env : PEnv) (o : Option Expr) (m : PM (Option Int)) : Prop := ∃ t : TO, L2.PO X o t ∧
  ∀ (σ : St) (w0 w : Ws) (ph : PH) (T : Option Int → Hp → Prop) (W : WX), Takes X W → Wf X.K w ph → EnvR X.K w0 w env σ →
    Sat (m ph) (fun i ph1 => ∀ w1, Ev w w1 → Wf X.K w1 ph1 → EnvR X.K w0 w1 env σ → T i w1.H) (exV X.K w W σ) → t σ w.H T
theorem so_none : SO X env none (PM.pure none) := ⟨_, po_none, fun σ w0 w ph T W tk f r q => (sat_pure.mp q) w (Ev.refl w) f r⟩
theorem so_some (ha : SE X env ea ma Ba) : SO X env (some ea) (PM.bind (evalV ma) kInt) := by
  refine ⟨_, po_some pe_wk, fun σ w0 w ph T W tk f r q => ?_⟩
  refine ha.lk tk f r (Ev.refl w) q fun p ph1 x w1 e1 f1 r1 a1 q1 => ?_
  cases p with
  | int i =>
    have e := relB_int a1
    subst e
    exact ⟨i, rfl, (sat_pure.mp q1) w1 e1 f1 r1⟩
  | _ => exact (show False from q1).elim
theorem se_slc {lo hi : Option Expr} {ml mh : PM (Option Int)} {p2 : Pos} (ha : SE X env ea ma Ba) (hl : SO X env lo ml) (hh : SO X env hi mh) :
    SE X env (.Subscript ea (.Slice lo hi none p2) pos) (PM.bind (evalV ma) fun x => PM.bind ml fun l => PM.bind mh fun h => PM.ofO (psl x l h)) false := by
  intro σ w0 w ph Q W tk f r q
  obtain ⟨tl, pl, hl⟩ := hl
  obtain ⟨th, pth, hh⟩ := hh
  refine wk_of (pe_slice sl_psl pe_wk pl pth) ?_
  refine ha.lk tk f r (Ev.refl w) q fun p ph1 x w1 e1 f1 r1 a1 q1 => ?_
  refine hl σ w0 w1 ph1 _ W tk f1 r1 ((sat_bind'.mp q1).mono (fun l ph2 q2 w2 e2 f2 r2 => ?_) fun _ _ z => z.mono e1)
  refine hh σ w0 w2 ph2 _ W tk f2 r2 ((sat_bind'.mp q2).mono (fun h ph3 q3 w3 e3 f3 r3 => ?_) fun _ _ z => z.mono (e1.trans e2))
  obtain ⟨a, ea, q3⟩ := sat_ofO.mp q3
  exact ⟨p, a, w3, ph3, rfl, f3, (a1.mono f1 e2).mono f2 e3, ea, okV_rv ((e1.trans e2).trans e3) q3⟩
theorem se_revL {k : Nat} {p1 p2 p3 : Pos} (ha : SE X env ea ma Ba) : SE X env (.Subscript ea (.Slice none none (some (.UnaryOp .USub (.Constant (.int 1) k p1) p2)) p3) pos) (PM.bind (evalV ma) fun x => PM.ofO (prev x)) false := by
  intro σ w0 w ph Q W tk f r q
  refine wk_of (pe_revT pe_wk) ?_
  refine ha.lk tk f r (Ev.refl w) q fun p ph1 x w1 e1 f1 r1 a1 q1 => ?_
  obtain ⟨a, ea, q1⟩ := sat_ofO.mp q1
  exact ⟨p, a, w1, ph1, rfl, f1, a1, ea, okV_rv e1 q1⟩
end
end Py

set_option Elab.async false
set_option linter.all false
set_option maxRecDepth 100000
set_option maxHeartbeats 4000000
/-! PyU: what a def promises where nothing is being shown: no repr is under way. -/
namespace Py
open PySem L2
open PyProof.Rows hiding St
theorem noG_deeper {A : Around} {env : Env} (h : NoG A) : NoG (A.deeper env) := by
  have : (A.deeper env).guards = A.guards := rfl
  unfold NoG
  rw [this]
  exact h
theorem noG_caller : NoG callerA := rfl
structure FnG (P : Program) (w : World) (K : PySem.W.Frag) (mg : Str → Option Value) (bs : Heap) (cx : CXT) (lv : Nat) (f : Addr) (fd : FuncData) (ps : List Str) (sp : Sp) : Prop where
  len : ∀ vs H Q E, sp vs H Q E → vs.length = ps.length
  run : ∀ (A : Around) (out : List Env) (s : Shared) (H : Hp) (args : Args) (us : List Value) (vs : List V) (Q : VK) (E : XK), Room lv A → NoG A → Env0 P w K mg bs A out s H → BindsTo s fd args (ps.zip us) → Vals vs us →
    sp vs H Q E → codeAny (model P w) A (.call (.ref f) args) (CR cx out P w H s Q E) s
theorem fn_ofG {cx : CXT} {P : Program} {w : World} {K : PySem.W.Frag} {mg : Str → Option Value} {bs : Heap} {lv : Nat} {f : Addr} {nm qual : Str} {params : Arguments} {body : List Stmt} {scope : Scope} {dvs : List V} {kws : List (Str × V)} {fd : FuncData}
    {N ps : List Str} {sp : Sp} (F : FunD K nm qual params body scope dvs kws f fd) (S : FnScope N ps scope) (len : ∀ vs H Q E, sp vs H Q E → vs.length = ps.length)
    (hbody : ∀ (cdv : Value) (A : Around) (out : List Env) (s : Shared) (H : Hp) (vs : List V) (Q : VK) (E : XK), Room lv (A.deeper (envOfC qual scope s.heap.objs.size f cdv)) → NoG (A.deeper (envOfC qual scope s.heap.objs.size f cdv)) → sp vs H Q E →
      ∃ t, PSs (cxOf cx P w K mg bs N qual scope f cdv A out s H E) body t ∧ t { nx := fun _ H' => Q .non H', rt := Q } (start N vs) H) :
    FnG P w K mg bs cx (lv + 1) f fd ps sp := by
  obtain ⟨oc, od, dV, kV, doc, pm, an, cdv, ct, osl, rfl, lk, hcd, _, _⟩ := F.ex
  refine ⟨len, fun A out s H args us vs Q E hr hG e0 hb rv hsp => ?_⟩
  have hl := len _ _ _ _ hsp
  have kin : K.In s.heap := e0.mod.kin.keeps fun b o e => (e0.bs b o e).1
  have lim : s.heap.NoLimit := e0.mod.nolimit.keeps fun b o e => (e0.bs b o e).1
  have hkd : ∀ y ∈ ps.zip us, scope.names.lookup y.1 = some .local ∨ (scope.names.lookup y.1 = some .cell ∧ ((cellsFrom (s.heap.objs.size + 1) scope.names []).lookup y.1).isSome = true) := by
    rintro ⟨n, v⟩ hy
    rcases S.par n (List.of_mem_zip hy).1 with z | z
    · exact .inl z
    · exact .inr ⟨z, PySem.W.cellsFrom_some _ _ _ (.inl z)⟩
  refine codeAny_call_function hr.depth (kin _ _ lk) rfl S.co S.gen rfl (PySem.W.codeRec_of kin hcd) (hb _ _ _ _ ?_)
  refine wpAny_newFunctionEnv_cells S.kind hkd fun env he s1 x => ?_
  subst he
  refine ⟨lim.keeps x.toInCall.keep, codeAny_func ?_⟩
  obtain ⟨t, ht, hq⟩ := hbody cdv A out s H vs Q E (hr.deeper _) (noG_deeper hG) hsp
  have I := inv_start (CX := cx) (E := E) (cd := cdv) (f := f) (qual := qual) S hr.hd e0 hl rv x
  have done : ∀ {σ' : St} {H' : Hp} {v : V} {u : Value} {s' : Shared}, Inv (cxOf cx P w K mg bs N qual scope f cdv A out s H E) [] σ' H' s' → RelV v u → Q v H' → CE out P w H s Q u s' := fun J r q => ⟨_, _, J.os, J.bare, J.base, J.hok, r, q⟩
  refine wpAny_mono (ht.run [] s1 (start N vs) H _ I hq) (fun fl s' hs => ?_) fun e s' hs => hs
  match fl, hs with
  | .ret u, ⟨v, σ', H', J, r, q⟩ => exact done J r q
  | .next, ⟨σ', H', J, q⟩ => exact done (v := .non) (u := .none) J rfl q
  | .brk, ⟨_, _, _, q⟩ => exact q.elim
  | .cont, ⟨_, _, _, q⟩ => exact q.elim
section
variable {X : Cx} {pins : List (Addr × Obj)} {σ : St} {H : Hp} {s : Shared} {Q : VK}
/-- a call of such a def -/
theorem run_G {cx : CXT} {lv : Nat} {a : Addr} {fd : FuncData} {ps : List Str} {sp : Sp} {E : St → XK} {args : Args} {us : List Value} {vs : List V} (F : FnG X.prog X.w X.K X.mg X.base cx lv a fd ps sp) (hr : Room lv X.A) (hG : NoG X.A) (hx : PassesAt cx X σ (E σ))
    (I : Inv X pins σ H s) (hb : BindsTo s fd args (ps.zip us)) (r : Vals vs us) (h : sp vs H Q (E σ)) : wpAny (model X.prog X.w) X.A (PySem.call (.ref a) args.pos args.kw) (EP X pins σ Q) X.xe s := by
  refine wpAny_call (codeAny_mono (F.run X.A X.stack s H args us vs Q (E σ) hr hG I.env0 hb r h) fun r s' hq => ?_)
  match r, hq with
  | .error e, hq => exact hx pins H s e s' I hq
  | .ok (.ret u), hq => exact I.after hq
  | .ok .next, hq => exact hq.elim
  | .ok .brk, hq => exact hq.elim
  | .ok .cont, hq => exact hq.elim
theorem pe_callG {cx : CXT} {lv : Nat} {f : Addr} {fd : FuncData} {ps : List Str} {sp : Sp} {E : St → XK} {e : Expr} {es : List Expr} {t : TA} {x : Str} {p pos : Pos} (F : FnG X.prog X.w X.K X.mg X.base cx lv f fd ps sp) (hr : Room lv X.A) (hG : NoG X.A) (hg : Gl X x) (hm : X.mg x = some (.ref f)) (hk : PySem.W.keepIn X.K (.ref f) = true)
    (hb : Binds X.K fd ps []) (hx : ∀ σ, PassesAt cx X σ (E σ)) (ha : PA X (e :: es) t) (hdb : (x == ("__debug__" : Str)) = false) (he : starEach (e :: es) X.env = (false, eval e X.env) :: starEach es X.env) (hpl : (backTo pos (starEach es X.env)).any (·.1) = false) :
    PE X (.Call (.Name x p) (e :: es) [] pos) (tCallSD sp [] E t) := by
  refine ⟨fun pins s σ H Q I h => ?_⟩
  refine wpAny_Call_Name_kw (ld_glob I hg hm ?_ hdb)
  refine PySem.W.callWith_K (h₀ := X.base) I.ok.mod.kin hk (thn (ha.run pos pins s σ H _ I h) fun us s1 ⟨vs, H1, I1, r, q⟩ => ⟨I1.kIn, ?_⟩) he hpl
  have q : sp (vs ++ []) H1 Q (E σ) := q
  rw [List.append_nil] at q
  have bb := hb s1 us I1.kIn (by rw [List.append_nil, ← r.length]; exact F.len _ _ _ _ q)
  rw [List.append_nil] at bb
  exact run_G F hr hG (hx σ) I1 bb r q
end
/-- the law's call, from the caller -/
theorem law_callG {P : Program} {w : World} {K : PySem.W.Frag} {mg mb : Str → Option Value} {cx : CXT} {lv : Nat} {fa a : Addr} {fd : FuncData} {x : Str} {sp : Sp} {s₁ : Shared} {vs : List Value} {ns : List Int}
    (kin : K.In s₁.heap) (hns : s₁.heap.Ns mainGlobals mg) (hb : s₁.heap.Ns builtinsNs mb) (hbb : ∀ x : Str, x ≠ "__name__" → mb x = bootBuiltins x) (hlim : s₁.heap.NoLimit) (hg : s₁.gens = #[])
    (ha : s₁.heap.get? a = some { cls := .type "list", data := .seq vs.toArray }) (hi : IntsAre vs ns) (hl : ns.length ≤ sizeLine) (hr : Room lv callerA)
    (F : ∀ base : Heap, K.In base → base.Ns mainGlobals mg → FnG P w K mg base cx lv fa fd [x] sp) (hbind : ∀ (s : Shared) (u : Value), BindsTo s fd ⟨[u], []⟩ [(x, u)])
    (hsp : ∀ H : Hp, Only H → SqL K H a (ns.map V.int) → sp [.ref a] H (fun v _ => v = .bl true) fun _ _ _ => False) (hCX : ∀ H e s', cx [] H s₁ (fun _ _ _ => False) e s' → False) :
    codeAny (model P w) callerA (.call (.ref fa) ⟨[.ref a], []⟩) (fun r s' => r = .ok (.ret (.bool true)) ∧ OldK s₁.heap s'.heap ∧ s'.os = s₁.os ∧ AllBare s'.gens) s₁ := by
  have rv := vals_ints hi
  have core : ∀ H : Hp, Only H → SqL K H a (ns.map V.int) → HOk P w H s₁.heap → (∀ b, H b ≠ none → b = a) → (H a ≠ none → K.lookup a = none) →
      codeAny (model P w) callerA (.call (.ref fa) ⟨[.ref a], []⟩) (fun r s' => r = .ok (.ret (.bool true)) ∧ OldK s₁.heap s'.heap ∧ s'.os = s₁.os ∧ AllBare s'.gens) s₁ := by
    intro H hO hS hok hA hK
    have none_of : ∀ {b : Addr}, (b = a → False) → H b = none := fun {b} h => by
      cases q : H b with
      | none => rfl
      | some u => exact (h (hA b (by rw [q]; simp))).elim
    have dic : ∀ {b : Addr} {m : Str → Option Value}, s₁.heap.Ns b m → (hidT s₁.heap H).Ns b m := fun {b m} ⟨o, es, ep, e, d, r⟩ => ⟨o, es, ep, hidT_get e (none_of fun z => by
      subst z
      rw [ha] at e
      cases e
      exact (show Data.seq vs.toArray _ = Data.dict es ep → False from nofun) d), d, r⟩
    have kb : K.In (hidT s₁.heap H) := fun b o e => hidT_get (kin b o e) (by
      cases q : H b with
      | none => rfl
      | some u =>
        have z := hA b (by rw [q]; simp)
        subst z
        rw [hK (by rw [q]; simp)] at e
        cases e)
    have e0 : Env0 P w K mg (hidT s₁.heap H) callerA [] s₁ H := ⟨rfl, ⟨kb, dic hns, ⟨mb, dic hb, hbb⟩, let ⟨mc, h1, h2⟩ := hlim; ⟨mc, dic h1, h2⟩⟩, fun b o e => of_hidT e, Nat.le_of_eq (hidT_size _ _), trivial, fun b hb => absurd (show b ∈ ([] : List Addr) from hb) (by simp), hok, .of_eq hg⟩
    refine codeAny_mono ((F _ kb (dic hns)).run callerA [] s₁ H ⟨[.ref a], []⟩ [.ref a] [.ref a] _ _ hr noG_caller e0 (hbind s₁ (.ref a)) (.cons rfl .nil) (hsp H hO hS)) fun r s' h => ?_
    match r, h with
    | .error e, h => exact (hCX H e s' h).elim
    | .ok .next, h => exact h.elim
    | .ok .brk, h => exact h.elim
    | .ok .cont, h => exact h.elim
    | .ok (.ret u), ⟨v, H', os, bare, un, hok', r', q⟩ =>
      have q : v = .bl true := q
      subst q
      have r' : u = Value.bool true := r'
      subst r'
      refine ⟨rfl, OldK.of_keep fun b o e => ?_, os, bare⟩
      rcases hO b with z | ⟨ob, xs, z⟩
      · exact un.keep b o e z (by intro z; exact absurd (show b ∈ ([] : List Addr) from z) (by simp)) (by simp)
      · have e1 := (hok b _ z).1
        have e2 := (hok' b _ (un.frzs b ob _ z)).1
        rw [e] at e1
        cases e1
        exact e2
  cases hk : K.lookup a with
  | some o =>
    have e := kin a o hk
    rw [ha] at e
    cases e
    exact core (fun _ => none) (fun _ => .inl rfl) (.inr ⟨_, vs.toArray, _, hk, rfl, rfl, rfl, by rw [List.size_toArray, hi.length]; exact hl, by simpa using rv⟩) (fun b u z => by cases (show (none : Option HO) = some u from z)) (fun b z => absurd rfl z) fun z => absurd rfl z
  | none =>
    refine core (fun b => if b = a then some (.frz { cls := .type "list", data := .seq vs.toArray } (.lst (ns.map V.int))) else none) (fun b => ?_) (.inl (.inr ⟨{ cls := .type "list", data := .seq vs.toArray }, if_pos rfl⟩)) (fun b u z => ?_) (fun b z => ?_) fun _ => hk
    · by_cases c : b = a
      · exact .inr ⟨_, _, if_pos c⟩
      · exact .inl (if_neg c)
    · by_cases c : b = a
      · have z' := (if_pos c).symm.trans z
        cases z'
        subst c
        exact ⟨ha, by rw [List.length_map]; exact hl, vs, _, rv, ha⟩
      · cases (if_neg c).symm.trans z
    · by_cases c : b = a
      · exact c
      · exact absurd (if_neg c) z
end Py

set_option Elab.async false
set_option linter.all false
set_option maxRecDepth 100000
set_option maxHeartbeats 4000000
/-! PyCl: instances of the program's classes: attributes, isinstance, new ones. -/
namespace Py
open PySem L2
open PyProof.Rows hiding St
/-- what is known of a class -/
structure CFact (K : PySem.W.Frag) (c : ClsI) : Prop where
  cl : Cls K (He.ga K c.name)
  at_ : ∀ x ∈ c.attrs, NoAttr K (He.ga K c.name) x
  ha : PySem.W.findIn K (.ref (He.ga K c.name)) "__class__" = some (some (.builtin "object.__class__"))
  hn : PySem.W.specialIn K (.builtin "object.__class__") "__get__" = some (some (.builtin "getset_descriptor.__get__"))
  htk : PySem.W.takesIn K (.builtin "object.__class__") = some true
  hm : PySem.W.mroIn K (He.ga K c.name) (.type "object") = some true
  kit : PySem.W.kitOne K (.ref (He.ga K c.name)) (.ref (He.ga K c.name)) = some true
  kitN : ∀ n ∈ ["NoneType", "bool", "int", "str", "tuple", "list"], PySem.W.kitOne K (.type n) (.ref (He.ga K c.name)) = some false
theorem attrOk_some {pg : PProg} {C x : Str} (h : attrOk pg C x = true) : ∃ c ∈ pg.cls, c.name = C ∧ x ∈ c.attrs := by
  unfold attrOk at h
  obtain ⟨c, hc, h⟩ := List.any_eq_true.mp h
  rw [Bool.and_eq_true, decide_eq_true_iff] at h
  exact ⟨c, hc, h.1, by simpa using h.2⟩
section
variable {K : PySem.W.Frag} {w : Ws} {ph : PH}
/-- an instance in a box -/
theorem box_ins {k : Nat} {v : V} {C : Str} {fs : List (Str × PV)} (f : Wf K w ph) (r : Rel K w (.box k) v) (h : ph[k]? = some (.ins C fs)) :
    ∃ a dx us, v = .ref a ∧ w.ρ[k]? = some a ∧ w.H a = some (.ins (He.ga K C) dx ((fs.map Prod.fst).zip us)) ∧ Rels K w (fs.map Prod.snd) us := by
  rw [Rel] at r
  obtain ⟨a, rfl, ha⟩ := r
  obtain ⟨dx, us, h1, h2⟩ := f.box k _ a h ha
  exact ⟨a, dx, us, rfl, ha, h1, h2⟩
theorem lookup_rel {x : Str} {u : PV} : ∀ {fs : List (Str × PV)} {us : List V}, Rels K w (fs.map Prod.snd) us → fs.lookup x = some u → ∃ z, ((fs.map Prod.fst).zip us).lookup x = some z ∧ Rel K w u z
  | [], _, _, h => by cases h
  | (g, y) :: fs, [], r, _ => by simp [Rels] at r
  | (g, y) :: fs, z :: us, r, h => by
    rw [List.map_cons, Rels] at r
    rw [List.lookup_cons] at h
    show ∃ q, List.lookup x ((g, z) :: ((fs.map Prod.fst).zip us)) = some q ∧ _
    rw [List.lookup_cons]
    by_cases c : (x == g) = true
    · rw [c] at h ⊢
      cases h
      exact ⟨z, rfl, r.1⟩
    · have c : (x == g) = false := by simpa using c
      rw [c] at h ⊢
      exact lookup_rel r.2 h
theorem put_rel {x : Str} {u : PV} {z : V} (hz : Rel K w u z) : ∀ {fs : List (Str × PV)} {us : List V}, Rels K w (fs.map Prod.snd) us → ∃ us', putF x z ((fs.map Prod.fst).zip us) = ((putP x u fs).map Prod.fst).zip us' ∧ Rels K w ((putP x u fs).map Prod.snd) us'
  | [], us, r => by
    cases us with
    | nil => exact ⟨[z], rfl, .one hz⟩
    | cons _ _ => simp [Rels] at r
  | (g, y) :: fs, [], r => by simp [Rels] at r
  | (g, y) :: fs, q :: us, r => by
    rw [List.map_cons, Rels] at r
    show ∃ us', (if g = x then (g, z) :: (fs.map Prod.fst).zip us else (g, q) :: putF x z ((fs.map Prod.fst).zip us)) = _ ∧ _
    unfold putP
    by_cases c : g = x
    · rw [if_pos c, if_pos c]
      exact ⟨z :: us, rfl, .cons hz r.2⟩
    · rw [if_neg c, if_neg c]
      obtain ⟨us', e1, e2⟩ := put_rel (x := x) hz r.2
      exact ⟨q :: us', by rw [e1]; rfl, .cons r.1 e2⟩
/-- a box is written: an instance -/
theorem wr_ins {k : Nat} {a dx : Addr} {C : Str} {fs : List (Str × PV)} {us : List V} {x : Str} {u : PV} {z : V} (f : Wf K w ph) (ha : w.ρ[k]? = some a) (hk : ph[k]? = some (.ins C fs)) (rr : Rels K w (fs.map Prod.snd) us) (hz : Rel K w u z) :
    Ev w (w.lay a (.ins (He.ga K C) dx (putF x z ((fs.map Prod.fst).zip us)))) ∧ Wf K (w.lay a (.ins (He.ga K C) dx (putF x z ((fs.map Prod.fst).zip us)))) (ph.set k (.ins C (putP x u fs))) := by
  have am : a ∈ w.ρ := List.mem_of_getElem? ha
  have e : Ev w (w.lay a (.ins (He.ga K C) dx (putF x z ((fs.map Prod.fst).zip us)))) := ⟨⟨[], by simp [Ws.lay]⟩, fun _ h => h, fun _ h => .inl h, fun y o q hn => by
    show upd w.H a _ y = some o
    rw [upd_ne (fun z : y = a => hn (by rw [z]; exact am))]; exact q, fun y h => upd_none h⟩
  have sl := e.sle f
  refine ⟨e, ⟨fun y h => upd_none (f.Sin y h), f.Sρ, fun y h => upd_none (f.ρin y h), f.nd, by rw [List.length_set]; exact f.len, fun j o y h1 h2 => ?_⟩⟩
  have h2 : w.ρ[j]? = some y := h2
  by_cases c : j = k
  · subst c
    rw [ha] at h2
    cases h2
    rw [List.getElem?_set_self (List.getElem?_eq_some_iff.mp hk).1] at h1
    cases h1
    obtain ⟨us', e1, e2⟩ := put_rel (x := x) hz rr
    refine ⟨dx, us', ?_, Rels.mono sl _ _ e2⟩
    show upd w.H a _ a = _
    rw [upd_same, e1]
  · rw [List.getElem?_set_ne (fun q => c q.symm)] at h1
    have ne : y ≠ a := fun q => by
      subst q
      exact c ((List.getElem?_inj (l := w.ρ) (List.getElem?_eq_some_iff.mp h2).1 f.nd).mp (h2.trans ha.symm))
    show RelO K _ o (upd w.H a _ y)
    rw [upd_ne ne]
    exact (f.box j o y h1 h2).mono sl
/-- a new instance -/
theorem fin_ins {x dx : Addr} {C : Str} (f : Wf K w ph) (hx : w.H x = none) (hd : w.H dx = none) (ne : dx ≠ x) :
    Ev w { w with ρ := w.ρ ++ [x], H := upd (upd w.H dx (.own x)) x (.ins (He.ga K C) dx []) } ∧ Wf K { w with ρ := w.ρ ++ [x], H := upd (upd w.H dx (.own x)) x (.ins (He.ga K C) dx []) } (ph ++ [.ins C []]) ∧
      Rel K { w with ρ := w.ρ ++ [x], H := upd (upd w.H dx (.own x)) x (.ins (He.ga K C) dx []) } (.box ph.length) (.ref x) := by
  have e : Ev w { w with ρ := w.ρ ++ [x], H := upd (upd w.H dx (.own x)) x (.ins (He.ga K C) dx []) } := by
    refine ⟨⟨[x], rfl, fun y hy => ?_⟩, fun _ h => h, fun _ h => .inl h, fun y u q _ => ?_, fun y h => upd_none (upd_none h)⟩
    · have : y = x := by simpa using hy
      rw [this]; exact hx
    · show upd (upd w.H dx _) x _ y = some u
      rw [upd_ne (ne_of_none q hx), upd_ne (ne_of_none q hd)]; exact q
  have sl := e.sle f
  refine ⟨e, ⟨fun y h => upd_none (upd_none (f.Sin y h)), fun y hy h => ?_, fun y hy => ?_, ?_, ?_, fun k o y h1 h2 => ?_⟩, ?_⟩
  · rcases List.mem_append.mp hy with hy | hy
    · exact f.Sρ y hy h
    · have : y = x := by simpa using hy
      exact f.Sin y h (this ▸ hx)
  · rcases List.mem_append.mp hy with hy | hy
    · exact upd_none (upd_none (f.ρin y hy))
    · have : y = x := by simpa using hy
      show upd (upd w.H dx _) x _ y ≠ none
      rw [this, upd_same]; simp
  · show (w.ρ ++ [x]).Nodup
    rw [List.nodup_append]
    refine ⟨f.nd, by simp, fun a ha b hb => ?_⟩
    have : b = x := by simpa using hb
    rw [this]
    intro e
    exact f.ρin a ha (e ▸ hx)
  · show (w.ρ ++ [x]).length = (ph ++ [_]).length
    rw [List.length_append, List.length_append, f.len]; rfl
  · have h2 : (w.ρ ++ [x])[k]? = some y := h2
    by_cases c : k < ph.length
    · rw [List.getElem?_append_left c] at h1
      rw [List.getElem?_append_left (by rw [f.len]; exact c)] at h2
      have hy : y ∈ w.ρ := List.mem_of_getElem? h2
      show RelO K _ o (upd (upd w.H dx _) x _ y)
      rw [upd_ne (fun q : y = x => f.ρin y hy (by rw [q]; exact hx)), upd_ne (fun q : y = dx => f.ρin y hy (by rw [q]; exact hd))]
      exact (f.box k o y h1 h2).mono sl
    · rw [List.getElem?_append_right (by omega)] at h1
      rw [List.getElem?_append_right (by rw [f.len]; omega), f.len] at h2
      have hk : k - ph.length = 0 := by
        have := (List.getElem?_eq_some_iff.mp h1).1
        simp at this
        omega
      rw [hk] at h1 h2
      cases h1
      cases h2
      exact ⟨dx, [], by show upd (upd w.H dx _) x _ x = _; rw [upd_same]; rfl, .nil⟩
  · rw [Rel]
    refine ⟨x, rfl, ?_⟩
    show (w.ρ ++ [x])[ph.length]? = some x
    rw [← f.len]
    simp
end
section
variable {X : Cx} {env : PEnv} {pg : PProg} {ea : Expr} {ma : PM (PV × Bool)} {Ba : Bool} {pos : Pos}
theorem pAtt_some {ph : PH} {v u : PV} {x : Str} (h : pAtt pg ph v x = some u) : ∃ k C fs, v = .box k ∧ ph[k]? = some (.ins C fs) ∧ attrOk pg C x = true ∧ fs.lookup x = some u := by
  unfold pAtt at h
  split at h
  · rename_i k
    split at h
    · rename_i C fs hk
      split at h
      · rename_i ok
        exact ⟨k, C, fs, rfl, hk, ok, h⟩
      · cases h
    · cases h
  · cases h
/-- e.x -/
theorem se_att {x : Str} (hc : ∀ c ∈ pg.cls, CFact X.K c) (hb : notSuper ea = true) (ha : SE X env ea ma Ba) : SE X env (.Attribute ea x pos) (PM.bind (evalV ma) fun v ph => PM.ofO ((pAtt pg ph v x).map fun u => (u, false)) ph) false := by
  intro σ w0 w ph Q W tk f r q
  refine wk_of (pe_fld pe_wk (attr_base hb)) ?_
  refine ha.lk tk f r (Ev.refl w) q fun p ph1 v w1 e1 f1 r1 a1 q1 => ?_
  obtain ⟨a, ea, q2⟩ := sat_ofO.mp q1
  obtain ⟨u, hu, rfl⟩ := Option.map_eq_some_iff.mp ea
  obtain ⟨k, C, fs, rfl, hk, ok, hl⟩ := pAtt_some hu
  have a1 : Rel X.K w1 (.box k) v := a1
  obtain ⟨adr, dx, us, rfl, hr, hH, rr⟩ := box_ins f1 a1 hk
  obtain ⟨c, hcm, rfl, hx⟩ := attrOk_some ok
  obtain ⟨z, hz, rz⟩ := lookup_rel rr hl
  exact ⟨adr, _, dx, _, z, rfl, hH, (hc c hcm).cl, (hc c hcm).at_ x hx, hz, okV_flat e1 f1 q2 rz⟩
theorem pIsC_some {ph : PH} {v : PV} {c : Nat} {b : Bool} (h : pIsC pg ph v c = some b) : ∃ cl, pg.cls[c]? = some cl ∧ ((∃ k fs, v = .box k ∧ ph[k]? = some (.ins cl.name fs) ∧ b = true) ∨ (b = false ∧ ((v = .non) ∨ (∃ q, v = .bl q) ∨ (∃ q, v = .int q) ∨ (∃ q, v = .str q) ∨ (∃ q, v = .tup q) ∨ ∃ q, v = .lst q))) := by
  unfold pIsC at h
  cases hc : pg.cls[c]? with
  | none => rw [hc] at h; cases h
  | some cl =>
    rw [hc] at h
    refine ⟨cl, rfl, ?_⟩
    cases v with
    | box k =>
      simp only at h
      split at h
      · rename_i C fs hk
        split at h
        · rename_i e
          subst e
          cases h
          exact .inl ⟨k, fs, rfl, hk, rfl⟩
        · cases h
      · cases h
    | non => cases h; exact .inr ⟨rfl, .inl rfl⟩
    | bl q => cases h; exact .inr ⟨rfl, .inr (.inl ⟨q, rfl⟩)⟩
    | int q => cases h; exact .inr ⟨rfl, .inr (.inr (.inl ⟨q, rfl⟩))⟩
    | str q => cases h; exact .inr ⟨rfl, .inr (.inr (.inr (.inl ⟨q, rfl⟩)))⟩
    | tup q => cases h; exact .inr ⟨rfl, .inr (.inr (.inr (.inr (.inl ⟨q, rfl⟩))))⟩
    | lst q => cases h; exact .inr ⟨rfl, .inr (.inr (.inr (.inr (.inr ⟨q, rfl⟩))))⟩
    | _ => cases h
def rIsC (K : PySem.W.Frag) (pg : PProg) (c : Nat) (C : Addr) : List V → Hp → VK → Prop := fun vs H Q => ∃ (x : V) (p : PV) (b : Bool) (w : Ws) (ph : PH), vs = [x, .ref C] ∧ w.H = H ∧ Wf K w ph ∧ RelB K w p x ∧ pIsC pg ph p c = some b ∧ Q (.bl b) H
theorem call_isC {c : Nat} {cl : ClsI} (hcl : pg.cls[c]? = some cl) (F : CFact X.K cl) : CallR X (.builtin "isinstance") (rIsC X.K pg c (He.ga X.K cl.name)) := by
  intro pins s σ H xs us Q I rv h
  obtain ⟨x, p, b, w, ph, rfl, rfl, f, r1, hb, hQ⟩ := h
  have fin : ∀ {t : Value}, TyX X.K w.H x t → PySem.W.kitOne X.K t (.ref (He.ga X.K cl.name)) = some b → wpAny (model X.prog X.w) X.A (call (.builtin "isinstance") us) (EP X pins σ Q) X.xe s := fun {t} ty e =>
    call_isi pins s σ w.H _ us Q I rv ⟨x, _, t, _, b, rfl, .own _, ty, e, hQ⟩
  obtain ⟨cl', hcl', h⟩ := pIsC_some hb
  rw [hcl] at hcl'
  cases hcl'
  rcases h with ⟨k, fs, rfl, hk, rfl⟩ | ⟨rfl, h⟩
  · have r1 : Rel X.K w (.box k) x := r1
    obtain ⟨adr, dx, us', rfl, hr, hH, rr⟩ := box_ins f r1 hk
    exact fin (.base (.ins hH F.cl F.ha F.hn F.htk F.hm)) F.kit
  · rcases h with rfl | ⟨q, rfl⟩ | ⟨q, rfl⟩ | ⟨q, rfl⟩ | ⟨q, rfl⟩ | ⟨q, rfl⟩
    · have e := relB_non r1
      subst e
      exact fin (.base .non) (F.kitN _ (by simp))
    · have e := relB_bl r1
      subst e
      exact fin (.base (.bl q)) (F.kitN _ (by simp))
    · have e := relB_int r1
      subst e
      exact fin (.base (.int q)) (F.kitN _ (by simp))
    · have e := relB_str r1
      subst e
      exact fin (.base (.str q)) (F.kitN _ (by simp))
    · obtain ⟨a, vs, rfl, ha, ra⟩ := relB_tup r1
      have ty : TyX X.K w.H (.ref a) (.type "tuple") := by
        rcases ha with (ha | ⟨o, ha⟩) | ⟨o, its, n, h1, h2, _⟩
        · exact .base (.tup ha)
        · exact .fTuple ha
        · exact .kTuple h1 h2
      exact fin ty (F.kitN _ (by simp))
    · obtain ⟨a, vs, rfl, ha, ra⟩ := relB_rd r1
      have ty : TyX X.K w.H (.ref a) (.type "list") := by
        rcases ha with ha | ⟨o, ha⟩
        · exact .base (.lst ha)
        · exact .base (.frz ha)
      exact fin ty (F.kitN _ (by simp))
end
/-! ### new ones -/
theorem noG_make {A : Around} {C : Addr} {us : List Value} {kw : List (Str × Value)} (h : NoG A) : NoG (A.under (.builtin "type.__call__" ⟨.ref C :: us, kw⟩)) := h
section
variable {X : Cx} {pins : List (Addr × Obj)} {σ : St} {H : Hp} {s : Shared} {Q : VK}
theorem run_makeG {cx : CXT} {lv : Nat} {f C : Addr} {fd : FuncData} {ps : List Str} {sp : Sp} {E : St → XK} {us : List Value} {vs : List V} (M : Mk X.K C f) (F : FnG X.prog X.w X.K X.mg X.base cx lv f fd ps sp) (hr : Room (lv + 1) X.A) (hG : NoG X.A) (hx : PassesAt cx X σ (E σ)) (hb : Binds X.K fd ps [])
    (I : Inv X pins σ H s) (r : Vals vs us)
    (h : ∀ x dx, H x = none → H dx = none → dx ≠ x → sp (.ref x :: vs) (upd (upd H dx (.own x)) x (.ins C dx [])) (fun v H2 => v = .non ∧ Q (.ref x) H2) (E σ)) :
    wpAny (model X.prog X.w) X.A (PySem.call (.ref C) us) (EP X pins σ Q) X.xe s := by
  have hq := h (s.heap.objs.size + 1) s.heap.objs.size (I.hok.fresh (Nat.le_succ _)) (I.hok.fresh (Nat.le_refl _)) (Nat.ne_of_lt (Nat.lt_succ_self _))
  have I2 := Inv.made (C := C) I
  have r2 : Vals (V.ref (s.heap.objs.size + 1) :: vs) (Value.ref (s.heap.objs.size + 1) :: us) := .cons rfl r
  have bb := hb _ (Value.ref (s.heap.objs.size + 1) :: us) I2.kIn (by rw [List.append_nil, ← r2.length]; exact F.len _ _ _ _ hq)
  rw [List.append_nil] at bb
  refine wpAny_call (make_map (f := f) I.kIn M.makes M.init (beq_iff_eq.mp M.fn) (codeAny_mono (F.run _ X.stack _ _ ⟨Value.ref (s.heap.objs.size + 1) :: us, []⟩ (Value.ref (s.heap.objs.size + 1) :: us) _ _ (E σ) (hr.make C us []) (noG_make hG)
    (I2.env0.make C us []) bb r2 hq) fun r s' hq' => ?_))
  match r, hq' with
  | .error e, hq' => exact hx pins _ _ e s' I2 hq'
  | .ok (.ret u), hq' =>
    obtain ⟨v, H', I3, rv, ev, q3⟩ := I2.after hq'
    subst ev
    exact ⟨rv, ⟨V.ref (s.heap.objs.size + 1), H', I3, rfl, q3⟩⟩
  | .ok .next, hq' => exact hq'.elim
  | .ok .brk, hq' => exact hq'.elim
  | .ok .cont, hq' => exact hq'.elim
end
end Py

set_option Elab.async false
set_option linter.all false
set_option maxRecDepth 100000
set_option maxHeartbeats 1000000
/-! PyG: calls, built-ins, methods, ranges. -/
namespace Py
open PySem L2
open PyProof.Rows hiding St
/-! ### what a def promises -/
def spF (K : PySem.W.Frag) (m : List PV → PM (PV × Bool)) (n : Nat) : Sp := fun vs H Q E => ∃ (ps : List PV) (w : Ws) (ph : PH), w.H = H ∧ vs.length = n ∧ Wf K w ph ∧ Rels K w ps vs ∧
  Sat (m ps ph) (fun r ph1 => ∀ v w1, Ev w w1 → Wf K w1 ph1 → RelF K w w1 r v → Q v w1.H) (fun e ph1 => ∀ cls d w1, Ev w w1 → Wf K w1 ph1 → ExR K w1 e cls d → E cls d w1.H)
def permV {α : Type} (p : List Nat) (vs : List α) : List α := p.filterMap fun i => vs[i]?
/-- how a call by keywords binds -/
def BindK (K : PySem.W.Frag) (fd : FuncData) (ps : List Str) (q : Nat × List Str × List Nat) : Prop :=
  ∀ (s : Shared) (us ws : List Value), K.In s.heap → us.length = q.1 → ws.length = q.2.1.length → BindsTo s fd ⟨us, q.2.1.zip ws⟩ (ps.zip (permV q.2.2 (us ++ ws)))
structure CallOk (X : Cx) (call : Calls) (f : Nat) (fi : FnI) (glo : Bool) : Prop where
  ex : ∃ (a : Addr) (fd : FuncData) (k : Nat), FnG X.prog X.w X.K X.mg X.base (L2.CX X.prog X.w) k a fd fi.params (spF X.K (call f) fi.params.length) ∧ Room k X.A ∧ NoG X.A ∧ (glo = true → X.mg fi.name = some (.ref a)) ∧
    PySem.W.keepIn X.K (.ref a) = true ∧ L2.Binds X.K fd fi.params [] ∧ ∀ q ∈ fi.kws, BindK X.K fd fi.params q
  len : ∀ ps ph, ps.length ≠ fi.params.length → call f ps ph = .stuck
section
variable {X : Cx} {env : PEnv} {e : Expr} {es : List Expr} {m : PM (PV × Bool)} {ml : PM (List PV)} {σ : St} {w0 w wb : Ws} {ph : PH} {Q : VK} {W : WX} {B : Bool} {pos p : Pos} {x : Str} {call : Calls} {f : Nat} {fi : FnI}
theorem call_fin {n : Nat} {ps : List PV} {vs : List V} {w1 : Ws} {ph1 : PH} (hlen : ∀ ps ph, ps.length ≠ n → call f ps ph = .stuck) (e1 : Ev w w1) (f1 : Wf X.K w1 ph1) (a1 : Rels X.K w1 ps vs)
    (q1 : Sat (call f ps ph1) (okV X.K w Q false) (exV X.K w W σ)) : spF X.K (call f) n vs w1.H Q (WE W σ) := by
  by_cases c : ps.length = n
  · exact ⟨ps, w1, ph1, rfl, by rw [← a1.length]; exact c, f1, a1, q1.mono (fun r ph2 hk v w2 e2 f2 rel => okV_rv e1 hk v w2 e2 f2 rel) fun ex ph2 hk cls d w2 e2 f2 rel => hk cls d w2 (e1.trans e2) f2 rel⟩
  · rw [hlen ps ph1 c] at q1
    exact (show False from q1).elim
theorem se_call (C : CallOk X call f fi true) (hx : fi.name = x) (hg : Gl X x) (hd : (x == ("__debug__" : Str)) = false) (hs : (e :: es).all notStar = true) (h : SA X env (e :: es) ml false) :
    SE X env (.Call (.Name x p) (e :: es) [] pos) (PM.bind ml fun vs => call f vs) false := by
  intro σ w0 w ph Q W tk f0 r q
  obtain ⟨a, fd, k, F, rm, ng, hm, hk, hb, _⟩ := C.ex
  have hm := hm rfl
  rw [hx] at hm
  simp only [List.all_cons, Bool.and_eq_true] at hs
  refine wk_of (pe_callG (E := WE W) F rm ng hg hm hk hb (fun σ' => passAt tk σ') pa_wk hd (star_cons hs.1) (star_any hs.2)) ?_
  refine h.lk tk f0 r (Ev.refl w) q fun ps ph1 vs w1 e1 f1 r1 a1 q1 => ?_
  rw [List.append_nil]
  exact call_fin C.len e1 f1 a1 q1
theorem se_call0 (C : CallOk X call f fi true) (hx : fi.name = x) (hg : Gl X x) (hd : (x == ("__debug__" : Str)) = false) : SE X env (.Call (.Name x p) [] [] pos) (PM.bind (PM.pure []) fun vs => call f vs) false := by
  intro σ w0 w ph Q W tk f0 r q pins s I
  obtain ⟨a, fd, k, F, rm, ng, hm, hk, hb, _⟩ := C.ex
  have hm := hm rfl
  rw [hx] at hm
  have q1 : Sat (call f [] ph) (okV X.K w Q false) (exV X.K w W σ) := sat_pure.mp (sat_bind'.mp q)
  refine wpAny_Call_Name_kw (ld_glob I hg hm ?_ hd)
  refine PySem.W.callWith_K0 I.kIn hk ?_
  have sp := call_fin C.len (Ev.refl w) f0 .nil q1
  have bb := hb s [] I.kIn (by rw [← F.len _ _ _ _ sp]; rfl)
  exact run_G (args := ⟨[], []⟩) F rm ng (passAt tk σ) I bb .nil sp
/-! ### a class is called -/
structure MkOk (X : Cx) (call : Calls) (f : Nat) (c : ClsI) : Prop where
  mg : X.mg c.name = some (.ref (He.ga X.K c.name))
  ex : ∃ a, Mk X.K (He.ga X.K c.name) a ∧ ((∀ ps ph, call f ps ph = .stuck) ∨ ∃ (fd : FuncData) (k : Nat) (qs : List Str) (m : List PV → PM (PV × Bool)), FnG X.prog X.w X.K X.mg X.base (L2.CX X.prog X.w) k a fd qs (spF X.K m qs.length) ∧ Room (k + 1) X.A ∧ NoG X.A ∧ L2.Binds X.K fd qs [] ∧
    (∀ ps ph, ps.length ≠ qs.length → m ps ph = .stuck) ∧ ∀ ps, call f ps = mkRun c.name m ps)
theorem mk_fin {n : Nat} {m : List PV → PM (PV × Bool)} {C : Str} {ps : List PV} {vs : List V} {w1 : Ws} {ph1 : PH} {y dx : Addr} (hlen : ∀ ps ph, ps.length ≠ n → m ps ph = .stuck) (e1 : Ev w w1) (f1 : Wf X.K w1 ph1) (a1 : Rels X.K w1 ps vs)
    (q1 : Sat (mkRun C m ps ph1) (okV X.K w Q false) (exV X.K w W σ)) (hy : w1.H y = none) (hd : w1.H dx = none) (ne : dx ≠ y) :
    spF X.K m n (.ref y :: vs) (upd (upd w1.H dx (.own y)) y (.ins (He.ga X.K C) dx [])) (fun v H2 => v = .non ∧ Q (.ref y) H2) (WE W σ) := by
  obtain ⟨e2, f2, r2⟩ := fin_ins (C := C) f1 hy hd ne
  have sl := e2.sle f1
  have a2 := Rels.cons r2 (Rels.mono sl _ _ a1)
  unfold mkRun at q1
  by_cases c : (PV.box ph1.length :: ps).length = n
  · refine ⟨.box ph1.length :: ps, _, ph1 ++ [.ins C []], rfl, by rw [← a2.length]; exact c, f2, a2, ?_⟩
    generalize hm : m (PV.box ph1.length :: ps) (ph1 ++ [.ins C []]) = o at q1 ⊢
    cases o with
    | stuck => exact (show False from q1).elim
    | exc e ph2 =>
      have q1 : exV X.K w W σ e ph2 := q1
      exact fun cls d w3 e3 f3 rel => q1 cls d w3 ((e1.trans e2).trans e3) f3 rel
    | ok r ph2 =>
      obtain ⟨pv, b⟩ := r
      cases pv with
      | non =>
        have q1 : okV X.K w Q false (.box ph1.length, false) ph2 := q1
        refine fun v w3 e3 f3 rel => ⟨?_, q1 (.ref y) w3 ((e1.trans e2).trans e3) f3 (show Rel X.K w3 (.box ph1.length) (.ref y) from Rel.mono (e3.sle f2) _ _ r2)⟩
        cases b with
        | false =>
          have rel : Rel X.K w3 .non v := rel
          rw [Rel] at rel
          exact rel
        | true =>
          obtain ⟨a, xs, us, h, _⟩ := rel
          cases h
      | _ => exact (show False from q1).elim
  · rw [hlen _ _ c] at q1
    exact (show False from q1).elim
theorem se_mk {c : ClsI} (C : MkOk X call f c) (hx : c.name = x) (hg : Gl X x) (hd : (x == ("__debug__" : Str)) = false) (hs : (e :: es).all notStar = true) (h : SA X env (e :: es) ml false) :
    SE X env (.Call (.Name x p) (e :: es) [] pos) (PM.bind ml fun vs => call f vs) false := by
  intro σ w0 w ph Q W tk f0 r q pins s I
  obtain ⟨a, M, hc⟩ := C.ex
  have hm := C.mg
  rw [hx] at hm
  have hs' := hs
  simp only [List.all_cons, Bool.and_eq_true] at hs
  refine wpAny_Call_Name_kw (ld_glob I hg hm ?_ hd)
  have hs2 : (backTo pos (starEach es X.env)).any (·.1) = false := star_any hs.2
  refine PySem.W.callWith_K (h₀ := X.base) I.ok.mod.kin (by rw [← hx]; exact M.kp) (thn (h σ w0 w ph (fun vs H1 => ∃ ps w1 ph1, w1.H = H1 ∧ Ev w w1 ∧ Wf X.K w1 ph1 ∧ Rels X.K w1 ps vs ∧ Sat (call f ps ph1) (okV X.K w Q false) (exV X.K w W σ)) W tk f0 r
    ((sat_bind'.mp q).mono (fun ps ph1 q1 vs w1 e1 f1 r1 a1 => ⟨ps, w1, ph1, rfl, e1, f1, a1, q1⟩) fun _ _ z => z) pos pins s I) fun us s1 ⟨vs, H1, I1, rv, ps, w1, ph1, eH, e1, f1, a1, q1⟩ => ⟨I1.kIn, ?_⟩) (star_cons hs.1) hs2
  subst eH
  rcases hc with hc | ⟨fd, k, qs, m, F, rm, ng, hb, hlen, hcall⟩
  · rw [hc] at q1
    exact (show False from q1).elim
  · rw [hcall] at q1
    rw [← hx]
    exact run_makeG (E := WE W) M F rm ng (passAt tk σ) hb I1 rv fun y dx hy hd ne => mk_fin hlen e1 f1 a1 q1 hy hd ne
theorem se_mk0 {c : ClsI} (C : MkOk X call f c) (hx : c.name = x) (hg : Gl X x) (hd : (x == ("__debug__" : Str)) = false) : SE X env (.Call (.Name x p) [] [] pos) (PM.bind (PM.pure []) fun vs => call f vs) false := by
  intro σ w0 w ph Q W tk f0 r q pins s I
  obtain ⟨a, M, hc⟩ := C.ex
  have hm := C.mg
  rw [hx] at hm
  have q1 : Sat (call f [] ph) (okV X.K w Q false) (exV X.K w W σ) := sat_pure.mp (sat_bind'.mp q)
  refine wpAny_Call_Name_kw (ld_glob I hg hm ?_ hd)
  refine PySem.W.callWith_K0 I.kIn (by rw [← hx]; exact M.kp) ?_
  rcases hc with hc | ⟨fd, k, qs, m, F, rm, ng, hb, hlen, hcall⟩
  · rw [hc] at q1
    exact (show False from q1).elim
  · rw [hcall] at q1
    rw [← hx]
    exact run_makeG (us := []) (E := WE W) M F rm ng (passAt tk σ) hb I .nil fun y dx hy hd ne => mk_fin hlen (Ev.refl w) f0 .nil q1 hy hd ne
/-- isinstance(e, C) -/
theorem se_isC {pg : PProg} {c : Nat} {cl : ClsI} {y : Str} {p2 : Pos} (hcl : pg.cls[c]? = some cl) (F : CFact X.K cl) (hmy : X.mg cl.name = some (.ref (He.ga X.K cl.name))) (hy : cl.name = y) (hx : x = "isinstance") (hg : Gl X x) (hm : X.mg x = none) (hgy : Gl X y) (hdy : (y == ("__debug__" : Str)) = false) (hs : notStar e = true) (h : SE X env e m B) :
    SE X env (.Call (.Name x p) [e, .Name y p2] [] pos) (PM.bind (evalV m) fun v ph => PM.ofO ((pIsC pg ph v c).map mkBool) ph) false := by
  intro σ w0 w ph Q W tk f r q
  subst hy hx
  have pt : PE X (.Name cl.name p2) (tC (.ref (He.ga X.K cl.name))) := pe_glob hgy hmy rfl hdy
  refine wk_of (pe_callB (call_isC hcl F) hg hm (show bootBuiltins "isinstance" = some (.builtin "isinstance") by decide +kernel) (pa_cons pe_wk (pa_cons pt pa_nil rfl) (star_cons hs)) (by decide) (by decide) (star_cons hs) rfl) ?_
  refine h.lk tk f r (Ev.refl w) q fun p ph1 v w1 e1 f1 r1 a1 q1 => ?_
  obtain ⟨a, ea, q2⟩ := sat_ofO.mp q1
  obtain ⟨b, hb, rfl⟩ := Option.map_eq_some_iff.mp ea
  exact ⟨v, p, b, w1, ph1, rfl, rfl, f1, a1, hb, okV_flat e1 f1 q2 rel_bl⟩
/-! ### by keywords -/
def kwOk (kws : List Keyword) (ks : List Str) : Bool := decide (kws.map (·.arg) = ks.map some)
theorem kw_all {kws : List Keyword} {ks : List Str} {ev : Env} (h : kws.map (·.arg) = ks.map some) : (backToKw pos (keywordEach kws ev)).all (·.1.isSome) = true ∧ (backToKw pos (keywordEach kws ev)).filterMap (·.1) = ks ∧ (backToKw pos (keywordEach kws ev)).any (·.1.isNone) = false := by
  induction kws generalizing ks with
  | nil =>
    cases ks with
    | nil => exact ⟨rfl, rfl, rfl⟩
    | cons _ _ => simp at h
  | cons k kws ih =>
    cases ks with
    | nil => simp at h
    | cons y ks =>
      simp only [List.map_cons, List.cons.injEq] at h
      obtain ⟨h1, h2, h3⟩ := ih h.2
      obtain ⟨nm, v, kp⟩ := k
      have e : backToKw pos (keywordEach (⟨nm, v, kp⟩ :: kws) ev) = (nm, do let u ← eval v ev; standAt pos; pure u) :: backToKw pos (keywordEach kws ev) := rfl
      have hn : nm = some y := h.1
      subst hn
      rw [e]
      refine ⟨?_, ?_, ?_⟩
      · simp only [List.all_cons, Option.isSome_some, Bool.true_and]; exact h1
      · simp only [List.filterMap_cons, h2]
      · simp only [List.any_cons, Option.isNone_some, Bool.false_or]; exact h3
/-- at the keywords' values -/
def SK (X : Cx) (env : PEnv) (kws : List Keyword) (ml : PM (List PV)) : Prop := ∃ t : TA, PK X kws t ∧
  ∀ (σ : St) (w0 w : Ws) (ph : PH) (T : List V → Hp → Prop) (W : WX), Takes X W → Wf X.K w ph → EnvR X.K w0 w env σ →
    Sat (ml ph) (fun ps ph1 => ∀ vs w1, Ev w w1 → Wf X.K w1 ph1 → EnvR X.K w0 w1 env σ → Rels X.K w1 ps vs → T vs w1.H) (exV X.K w W σ) → t σ w.H T
theorem sk_nil : SK X env [] (PM.pure []) := ⟨_, pk_nil, fun σ w0 w ph T W tk f r q => (sat_pure.mp q) [] w (Ev.refl w) f r .nil⟩
theorem sk_cons {kws : List Keyword} {nm : Option Str} {kp : Pos} (h : SE X env e m false) (ht : SK X env kws ml) : SK X env (⟨nm, e, kp⟩ :: kws) (PM.bind m fun r => PM.bind ml fun rs => PM.pure (r.1 :: rs)) := by
  obtain ⟨t, pk, ht⟩ := ht
  refine ⟨_, pk_cons pe_wk pk, fun σ w0 w ph T W tk f r q => ?_⟩
  refine h.kp tk f r (Ev.refl w) q fun p ph1 v w1 e1 f1 r1 a1 q1 => ?_
  refine ht σ w0 w1 ph1 _ W tk f1 r1 ((sat_bind'.mp q1).mono (fun ps ph2 q2 vs w2 e2 f2 r2 a2 => ?_) fun _ _ z => z.mono e1)
  exact (sat_pure.mp q2) (v :: vs) w2 (e1.trans e2) f2 r2 (Rels.cons (Rel.mono (e2.sle f1) _ _ a1) a2)
theorem perm_rels {K : PySem.W.Frag} {ps : List PV} {vs : List V} (r : Rels K w ps vs) : ∀ {q : List Nat} {rs : List PV}, q.mapM (fun i => ps[i]?) = some rs → Rels K w rs (permV q vs)
  | [], rs, h => by
    simp at h
    subst h
    exact .nil
  | i :: q, rs, h => by
    rw [List.mapM_cons] at h
    cases e1 : ps[i]? with
    | none => rw [e1] at h; cases h
    | some y =>
      rw [e1] at h
      cases e2 : q.mapM (fun i => ps[i]?) with
      | none =>
        rw [e2] at h
        cases h
      | some ys =>
        rw [e2] at h
        cases h
        obtain ⟨v, h1, h2⟩ := r.get e1
        have ih := perm_rels r e2
        show Rels K w (y :: ys) ((i :: q).filterMap fun i => vs[i]?)
        rw [List.filterMap_cons, h1]
        exact .cons h2 ih
theorem perm_vals {vs : List V} {us : List Value} (r : Vals vs us) : ∀ q : List Nat, Vals (permV q vs) (permV q us)
  | [] => .nil
  | i :: q => by
    have ih := perm_vals r q
    show Vals ((i :: q).filterMap fun i => vs[i]?) ((i :: q).filterMap fun i => us[i]?)
    rw [List.filterMap_cons, List.filterMap_cons]
    have hl := r.length
    cases e1 : vs[i]? with
    | none =>
      have : us[i]? = none := by
        rw [List.getElem?_eq_none_iff] at e1 ⊢
        omega
      rw [this]
      exact ih
    | some v =>
      obtain ⟨u, h1, h2⟩ := r.get e1
      rw [h1]
      exact .cons h2 ih
theorem run_kw {pins : List (Addr × Obj)} {H : Hp} {s : Shared} {us ws : List Value} {vs zs : List V} {a : Addr} {fd : FuncData} {k : Nat} {ps : List Str} {sp : Sp} {q : Nat × List Str × List Nat} {E : St → XK} {CX : CXT} (F : FnG X.prog X.w X.K X.mg X.base CX k a fd ps sp) (hr : Room k X.A) (ng : NoG X.A) (hb : BindK X.K fd ps q) (hx : PassesAt CX X σ (E σ))
    (I : Inv X pins σ H s) (r : Vals vs us) (rz : Vals zs ws) (l1 : us.length = q.1) (l2 : ws.length = q.2.1.length) (h : sp (permV q.2.2 (vs ++ zs)) H Q (E σ)) : wpAny (model X.prog X.w) X.A (PySem.call (.ref a) us (q.2.1.zip ws)) (EP X pins σ Q) X.xe s :=
  run_G (args := ⟨us, q.2.1.zip ws⟩) F hr ng hx I (hb s us ws I.kIn l1 l2) (perm_vals (r.append rz) q.2.2) h
theorem kwArgs_some {pg : PProg} {f j : Nat} {vs us rs : List PV} {fi : FnI} {k : Nat × List Str × List Nat} (hf : pg.fns[f]? = some fi) (hk : fi.kws[j]? = some k) (h : kwArgs pg f j vs us = some rs) :
    vs.length = k.1 ∧ us.length = k.2.1.length ∧ k.2.2.mapM (fun i => (vs ++ us)[i]?) = some rs := by
  unfold kwArgs at h
  rw [hf] at h
  simp only [hk] at h
  split at h
  · rename_i c
    exact ⟨c.1, c.2, h⟩
  · cases h
theorem kw_body {pg : PProg} {j : Nat} {k : Nat × List Str × List Nat} {kws : List Keyword} {mk : PM (List PV)} {a : Addr} {fd : FuncData} {n : Nat} (F : FnG X.prog X.w X.K X.mg X.base (L2.CX X.prog X.w) n a fd fi.params (spF X.K (call f) fi.params.length)) (rm : Room n X.A) (ng : NoG X.A)
    (hks : BindK X.K fd fi.params k) (hlen : ∀ ps ph, ps.length ≠ fi.params.length → call f ps ph = .stuck) (hf : pg.fns[f]? = some fi) (hj : fi.kws[j]? = some k) (tk : Takes X W)
    (hk : kws.map (·.arg) = k.2.1.map some) (hw : SK X env kws mk) {pins : List (Addr × Obj)} {ps : List PV} {ph1 : PH} {us : List Value} {vs : List V} {s1 : Shared} {w1 : Ws} (I1 : Inv X pins σ w1.H s1) (rv : Vals vs us) (e1 : Ev w w1) (f1 : Wf X.K w1 ph1) (r1 : EnvR X.K w0 w1 env σ) (a1 : Rels X.K w1 ps vs)
    (q1 : Sat ((PM.bind mk fun us => PM.bind (PM.ofO (kwArgs pg f j ps us)) fun r => call f r) ph1) (okV X.K w Q false) (exV X.K w W σ)) :
    wpAny (model X.prog X.w) X.A (evalAll ((backToKw pos (keywordEach kws X.env)).map (·.2))) (fun ks s₂ => X.K.In s₂.heap ∧ wpAny (model X.prog X.w) X.A (PySem.call (.ref a) us (((backToKw pos (keywordEach kws X.env)).filterMap (·.1)).zip ks)) (EP X pins σ Q) X.xe s₂) X.xe s1 := by
  obtain ⟨t, pk, hw⟩ := hw
  obtain ⟨k1, k2, k3⟩ := kw_all (pos := pos) (ev := X.env) hk
  refine thn (pk.run pos pins s1 σ w1.H _ I1 (hw σ w0 w1 ph1 (fun zs H2 => ∃ us2 w2 ph2, w2.H = H2 ∧ Ev w1 w2 ∧ Wf X.K w2 ph2 ∧ Rels X.K w2 us2 zs ∧ Sat ((PM.bind (PM.ofO (kwArgs pg f j ps us2)) fun r => call f r) ph2) (okV X.K w Q false) (exV X.K w W σ)) W tk f1 r1
    ((sat_bind'.mp q1).mono (fun us2 ph2 q2 zs w2 e2 f2 r2 a2 => ⟨us2, w2, ph2, rfl, e2, f2, a2, q2⟩) fun _ _ z => z.mono e1))) fun ws s2 ⟨zs, H2, I2, rz, us2, w2, ph2, eH, e2, f2, a2, q2⟩ => ?_
  subst eH
  rw [sat_bind'] at q2
  obtain ⟨rs, hrs, q2⟩ := sat_ofO.mp q2
  obtain ⟨l1, l2, hp⟩ := kwArgs_some hf hj hrs
  refine ⟨I2.kIn, ?_⟩
  rw [k2]
  refine run_kw (q := k) (E := WE W) F rm ng hks (passAt tk σ) I2 rv rz ?_ ?_ (call_fin hlen (e1.trans e2) f2 (perm_rels ((Rels.mono (e2.sle f1) _ _ a1).append a2) hp) q2)
  · rw [← rv.length, ← a1.length, l1]
  · rw [← rz.length, ← a2.length, l2]
theorem se_callK {pg : PProg} {j : Nat} {k : Nat × List Str × List Nat} {kws : List Keyword} {mk : PM (List PV)} (C : CallOk X call f fi true) (hf : pg.fns[f]? = some fi) (hj : fi.kws[j]? = some k) (hx : fi.name = x) (hg : Gl X x) (hd : (x == ("__debug__" : Str)) = false)
    (hs : (e :: es).all notStar = true) (hk : kws.map (·.arg) = k.2.1.map some) (h : SA X env (e :: es) ml false) (hw : SK X env kws mk) :
    SE X env (.Call (.Name x p) (e :: es) kws pos) (PM.bind ml fun vs => PM.bind mk fun us => PM.bind (PM.ofO (kwArgs pg f j vs us)) fun r => call f r) false := by
  intro σ w0 w ph Q W tk f0 r q pins s I
  obtain ⟨a, fd, n, F, rm, ng, hm, hkp, hb, hks⟩ := C.ex
  have hm := hm rfl
  rw [hx] at hm
  obtain ⟨k1, k2, k3⟩ := kw_all (pos := pos) (ev := X.env) hk
  refine wpAny_Call_Name_kw (ld_glob I hg hm ?_ hd)
  have hs' := hs
  simp only [List.all_cons, Bool.and_eq_true] at hs
  refine PySem.W.callWith_KW (h₀ := X.base) I.ok.mod.kin hkp k1 ?_ (by rw [star_any hs', k3]; rfl) (star_cons hs.1)
  refine thn (h σ w0 w ph (fun vs H1 => ∃ ps w1 ph1, w1.H = H1 ∧ Ev w w1 ∧ Wf X.K w1 ph1 ∧ EnvR X.K w0 w1 env σ ∧ Rels X.K w1 ps vs ∧ Sat ((PM.bind mk fun us => PM.bind (PM.ofO (kwArgs pg f j ps us)) fun r => call f r) ph1) (okV X.K w Q false) (exV X.K w W σ)) W tk f0 r
    ((sat_bind'.mp q).mono (fun ps ph1 q1 vs w1 e1 f1 r1 a1 => ⟨ps, w1, ph1, rfl, e1, f1, r1, a1, q1⟩) fun _ _ z => z) pos pins s I) fun us s1 ⟨vs, H1, I1, rv, ps, w1, ph1, eH, e1, f1, r1, a1, q1⟩ => ?_
  subst eH
  exact kw_body F rm ng (hks k (List.mem_of_getElem? hj)) C.len hf hj tk hk hw I1 rv e1 f1 r1 a1 q1
theorem se_callK0 {pg : PProg} {j : Nat} {k : Nat × List Str × List Nat} {kws : List Keyword} {mk : PM (List PV)} (C : CallOk X call f fi true) (hf : pg.fns[f]? = some fi) (hj : fi.kws[j]? = some k) (hx : fi.name = x) (hg : Gl X x) (hd : (x == ("__debug__" : Str)) = false)
    (hk : kws.map (·.arg) = k.2.1.map some) (hw : SK X env kws mk) :
    SE X env (.Call (.Name x p) [] kws pos) (PM.bind (PM.pure []) fun vs => PM.bind mk fun us => PM.bind (PM.ofO (kwArgs pg f j vs us)) fun r => call f r) false := by
  intro σ w0 w ph Q W tk f0 r q pins s I
  obtain ⟨a, fd, n, F, rm, ng, hm, hkp, hb, hks⟩ := C.ex
  have hm := hm rfl
  rw [hx] at hm
  obtain ⟨k1, k2, k3⟩ := kw_all (pos := pos) (ev := X.env) hk
  have q1 := sat_pure.mp (sat_bind'.mp q)
  refine wpAny_Call_Name_kw (ld_glob I hg hm ?_ hd)
  exact PySem.W.callWith_KW0 (h₀ := X.base) I.ok.mod.kin hkp k1 (kw_body F rm ng (hks k (List.mem_of_getElem? hj)) C.len hf hj tk hk hw I .nil (Ev.refl w) f0 r .nil q1) (by rw [k3]; rfl)
/-! ### built-ins -/
def biN : BI → Str
  | .len => "len" | .abs => "abs" | .min => "min" | .max => "max" | .sum => "sum" | .all => "all" | .any => "any"
  | .sorted => "sorted" | .list => "list" | .tuple => "tuple" | .int => "int" | .divmod => "divmod" | .repr => "repr"
theorem bi_boot (b : BI) : bootBuiltins (biN b) = some (biV b) := by cases b <;> decide +kernel
theorem bi_n (b : BI) : biN b ≠ "__name__" := by cases b <;> decide +kernel
theorem bi_d (b : BI) : (biN b == ("__debug__" : Str)) = false := by cases b <;> decide +kernel
theorem se_blt {b : BI} (hc : X.calm = true) (ng : NoG X.A) (hu : X.A.units + 64 < cLine) (hx : x = biN b) (hg : Gl X x) (hm : X.mg x = none) (hs : (e :: es).all notStar = true) (h : SA X env (e :: es) ml B) :
    SE X env (.Call (.Name x p) (e :: es) [] pos) (PM.bind ml fun vs => PM.ofO (pbi b vs)) false := by
  intro σ w0 w ph Q W tk f0 r q
  subst hx
  simp only [List.all_cons, Bool.and_eq_true] at hs
  have fin : ∀ {t : TE}, PE X (.Call (.Name (biN b) p) (e :: es) [] pos) t → t = tCB (rBI X.K b) (wkA X (e :: es)) → wk X (.Call (.Name (biN b) p) (e :: es) [] pos) σ w.H Q := fun {t} ht et => by
    subst et
    refine wk_of ht ?_
    refine h.lk tk f0 r (Ev.refl w) q fun ps ph1 vs w1 e1 f1 r1 a1 q1 => ?_
    obtain ⟨a, ea, q1⟩ := sat_ofO.mp q1
    exact ⟨ps, a, w1, ph1, rfl, f1, a1.b f1, ea, okV_rv e1 q1⟩
  have cr := cr_pbi (X := X) b hc ng hu
  have bb := bi_boot b
  have bn := bi_n b
  have bd := bi_d b
  have s1 := star_cons (es := es) (env := X.env) hs.1
  have s2 := star_any (env := X.env) (pos := pos) hs.2
  cases b with
  | list => exact fin (pe_callTy cr hg hm bb pa_wk bn bd s1 s2) rfl
  | tuple => exact fin (pe_callTy cr hg hm bb pa_wk bn bd s1 s2) rfl
  | int => exact fin (pe_callTy cr hg hm bb pa_wk bn bd s1 s2) rfl
  | _ => exact fin (pe_callB cr hg hm bb pa_wk bn bd s1 s2) rfl
def tyN : TyN → Str
  | .int => "int" | .bool => "bool" | .str => "str" | .tuple => "tuple" | .list => "list"
theorem ty_boot (t : TyN) : bootBuiltins (tyN t) = some (.type (tyS t)) := by cases t <;> decide +kernel
theorem ty_n (t : TyN) : tyN t ≠ "__name__" := by cases t <;> decide +kernel
theorem ty_d (t : TyN) : (tyN t == ("__debug__" : Str)) = false := by cases t <;> decide +kernel
theorem isi_boot : bootBuiltins "isinstance" = some (.builtin "isinstance") := by decide +kernel
theorem se_isi {t : TyN} {y : Str} {p2 : Pos} (hy : y = tyN t) (hx : x = "isinstance") (hg : Gl X x) (hm : X.mg x = none) (hgy : Gl X y) (hmy : X.mg y = none) (hs : notStar e = true) (h : SE X env e m B) :
    SE X env (.Call (.Name x p) [e, .Name y p2] [] pos) (PM.bind (evalV m) fun x => PM.ofO ((pisi x t).map mkBool)) false := by
  intro σ w0 w ph Q W tk f0 r q
  subst hy hx
  have pt : PE X (.Name (tyN t) p2) (tC (.ty (tyS t))) := pe_bltn hgy hmy (ty_boot t) rfl (ty_n t) (ty_d t)
  refine wk_of (pe_callB (call_isiP t) hg hm isi_boot (pa_cons pe_wk (pa_cons pt pa_nil rfl) (star_cons hs)) (by decide) (by decide) (star_cons hs) rfl) ?_
  refine h.lk tk f0 r (Ev.refl w) q fun p ph1 v w1 e1 f1 r1 a1 q1 => ?_
  obtain ⟨a, ea, q1⟩ := sat_ofO.mp q1
  obtain ⟨b, hb, rfl⟩ := Option.map_eq_some_iff.mp ea
  exact ⟨v, p, b, w1, rfl, rfl, a1, hb, okV_flat e1 f1 q1 rel_bl⟩
/-! ### index, count -/
theorem lst_ty {pins : List (Addr × Obj)} {s : Shared} {xs : List PV} {v : V} {u : Value} (I : Inv X pins σ w.H s) (r : RelB X.K w (.lst xs) v) (rv : RelV v u) : s.TypeIs u "list" ∧ ∀ a, u = .ref a → ∃ ob, s.heap.get? a = some ob ∧ ob.dict = none := by
  obtain ⟨a, vs, rfl, ha, ra⟩ := relB_rd r
  cases rv
  obtain ⟨z0, its, n, rv, hl, e⟩ := rd_lst I ha
  exact ⟨⟨_, e, rfl⟩, fun b hb => by cases hb; exact ⟨_, e, rfl⟩⟩
theorem tup_ty {pins : List (Addr × Obj)} {s : Shared} {xs : List PV} {v : V} {u : Value} (I : Inv X pins σ w.H s) (r : RelB X.K w (.tup xs) v) (rv : RelV v u) : s.TypeIs u "tuple" ∧ ∀ a, u = .ref a → ∃ ob, s.heap.get? a = some ob ∧ ob.dict = none := by
  have r' : Rel X.K w (.tup xs) v := r
  rw [Rel] at r'
  obtain ⟨a, vs, rfl, z, q⟩ := r'
  cases rv
  rcases z with ⟨_, o, ho, hd⟩ | ⟨o, its, n, h1, h2, _, _, _, hd⟩
  · obtain ⟨h1, _, its, rv, ob, h2, h3, _⟩ := (show ObjOk X.prog X.w w.H s.heap a (.frz o (.tup vs)) from I.hok a _ ho)
    have : ob = o := by rw [h2] at h1; exact Option.some.inj h1
    subst this
    exact ⟨⟨_, h2, h3⟩, fun b hb => by cases hb; exact ⟨_, h2, hd⟩⟩
  · exact ⟨⟨_, I.kIn a o h1, h2⟩, fun b hb => by cases hb; exact ⟨_, I.kIn a o h1, hd⟩⟩
def miN : MI → Str
  | .index => "index" | .count => "count"
def fewOk (es : List Expr) : Bool := decide (es.length < 30)
theorem few_hyp {cpos : Pos} {ev : Env} (hs : es.all notStar = true) (hf : fewOk es = true) : ((backTo cpos (starEach es ev)).all (fun x => !x.1) && (backToKw cpos (keywordEach [] ev)).all (fun x => x.1.isSome)
      && decide (es.length + ([] : List Keyword).length + (if ([] : List Keyword).isEmpty then 0 else 1) < 30)) = true := by
  unfold fewOk at hf
  have hf : es.length < 30 := by simpa using hf
  have h1 : (backTo cpos (starEach es ev)).all (fun x => !x.1) = true := by rw [back_all]; exact star_all hs
  have h2 : (backToKw cpos (keywordEach [] ev)).all (fun x => x.1.isSome) = true := rfl
  rw [h1, h2]
  simp only [Bool.true_and, List.length_nil, Nat.add_zero, List.isEmpty_nil, if_true, decide_eq_true_eq]
  exact hf
theorem se_mth {mi : MI} {eo : Expr} {mo : PM (PV × Bool)} {Bo : Bool} {nm : Str} {apos cpos : Pos} (hu : X.A.units + 64 < cLine) (hn : nm = miN mi) (hb : notSuper eo = true) (hs : (e :: es).all notStar = true) (hf : fewOk (e :: es) = true) (hline : (apos.endLine == cpos.line) = true)
    (ho : SE X env eo mo Bo) (h : SA X env (e :: es) ml B) : SE X env (.Call (.Attribute eo nm apos) (e :: es) [] cpos) (PM.bind (evalV mo) fun x => if x.isSq = true then PM.bind ml fun vs => PM.ofO (pmt mi x vs) else PM.stuck) false := by
  intro σ w0 w ph Q W tk f0 r q pins s I
  subst hn
  have hs' := hs
  simp only [List.all_cons, Bool.and_eq_true] at hs'
  refine wpAny_Call_method_late (attr_base hb) (few_hyp hs hf) hline rfl (thn (ho.lk (T := fun v H1 => ∃ p w1 ph1, w1.H = H1 ∧ Ev w w1 ∧ Wf X.K w1 ph1 ∧ EnvR X.K w0 w1 env σ ∧ RelB X.K w1 p v ∧ Sat ((if p.isSq = true then PM.bind ml fun vs => PM.ofO (pmt mi p vs) else PM.stuck) ph1) (okV X.K w Q false) (exV X.K w W σ)) tk f0 r (Ev.refl w) q
    (fun p ph1 x w1 e1 f1 r1 a1 q1 => ⟨p, w1, ph1, rfl, e1, f1, r1, a1, q1⟩) pins s I) fun v s1 ⟨x, H1, I1, rx, p, w1, ph1, eH, e1, f1, r1, a1, q1⟩ => ?_)
  subst eH
  -- by the receiver's type
  have go : ∀ (T : TyN), p.isSq = true → pisi p T = some true → PlainAttrs (tyS T) → Slot (tyS T) (miN mi) (miS mi T) → typeOf (.builtin (miS mi T)) = pure (.type "method_descriptor") → miS mi T ≠ "" → s1.TypeIs v (tyS T) → (∀ a, v = .ref a → ∃ ob, s1.heap.get? a = some ob ∧ ob.dict = none) →
      MethodOn X.prog X.w X.A (miN mi) cpos v (backTo cpos (starEach (e :: es) X.env)) (EP X pins σ Q) X.xe s1 := by
    intro T hq hT pa slot hty hne h1 h2
    rw [if_pos hq] at q1
    refine ⟨_, _, pa, slot, hty, h1, h2, ?_⟩
    have hA := h.lk (T := fun xs H2 => ∃ ps w2 ph2, w2.H = H2 ∧ Ev w1 w2 ∧ Wf X.K w2 ph2 ∧ RelBs X.K w2 ps xs ∧ Sat (PM.ofO (pmt mi p ps) ph2) (okV X.K w Q false) (exV X.K w W σ)) tk f1 r1 e1 q1
      (fun ps ph2 vs w2 e2 f2 r2 a2 q2 => ⟨ps, w2, ph2, rfl, e2, f2, a2.b f2, q2⟩) cpos pins s1 I1
    have h1s := star_cons (es := es) (env := X.env) hs'.1
    have h2s := star_any (env := X.env) (pos := cpos) hs'.2
    rw [h1s] at hA ⊢
    refine Calls.callWith_builtin (by show (false || (backTo cpos (starEach es X.env)).any (·.1)) = false; rw [h2s]; rfl) (Calls.evalArgs_plain ?_)
    refine thn hA fun us s2 ⟨vs, H2, I2, r2, ps, w2, ph2, eH, e2, f2, a2, q2⟩ => ?_
    subst eH
    obtain ⟨a, ea, q2⟩ := sat_ofO.mp q2
    exact mt_pmt hu mi T hne pins s2 σ w2.H x vs v us Q I2 rx r2 ⟨p, ps, a, w2, ph2, rfl, f2, a1.mono f1 e2, a2, ea, hT, okV_rv (e1.trans e2) q2⟩
  cases p with
  | lst xs =>
    obtain ⟨t1, t2⟩ := lst_ty I1 a1 rx
    cases mi with
    | index => exact go .list rfl rfl PySem.F.plainAttrs_list PySem.F.slot_list_index PySem.F.type_list_index (by decide) t1 t2
    | count => exact go .list rfl rfl PySem.F.plainAttrs_list PySem.F.slot_list_count PySem.F.type_list_count (by decide) t1 t2
  | tup xs =>
    obtain ⟨t1, t2⟩ := tup_ty I1 a1 rx
    cases mi with
    | index => exact go .tuple rfl rfl PySem.F.plainAttrs_tuple PySem.F.slot_tuple_index PySem.F.type_tuple_index (by decide) t1 t2
    | count => exact go .tuple rfl rfl PySem.F.plainAttrs_tuple PySem.F.slot_tuple_count PySem.F.type_tuple_count (by decide) t1 t2
  | _ => exact (show False from q1).elim
/-! ### ranges as values -/
theorem rgEnds1 {vs : List PV} {r : Int × Int} (h : rgEnds vs = some r) : (∃ n, vs = [.int n] ∧ r = (0, n)) ∨ ∃ a b, vs = [.int a, .int b] ∧ r = (a, b) := by
  unfold rgEnds at h
  split at h
  · split at h
    · cases h; exact .inl ⟨_, rfl, rfl⟩
    · cases h
  · split at h
    · cases h; exact .inr ⟨_, _, rfl, rfl⟩
    · cases h
  · cases h
theorem smallR_ok {i : Int} (h : smallR i = true) : -(2 ^ 62) ≤ i ∧ i < 2 ^ 62 := by
  unfold smallR at h
  simpa [Bool.and_eq_true] using h
theorem rgOk {vs : List PV} {r : Int × Int} (h : rgEnds vs = some r) : RgOk r.1 r.2 := by
  unfold rgEnds at h
  split at h
  · split at h
    · rename_i c
      cases h
      simp only [Bool.and_eq_true, decide_eq_true_eq] at c
      obtain ⟨c1, c2⟩ := smallR_ok c.1
      exact ⟨by show -(2 ^ 62 : Int) ≤ 0; omega, by show (0 : Int) < 2 ^ 62; omega, c1, c2, by show ((_ : Int) - 0).toNat ≤ 2 ^ 24; omega⟩
    · cases h
  · split at h
    · rename_i c
      cases h
      simp only [Bool.and_eq_true, decide_eq_true_eq] at c
      obtain ⟨c1, c2⟩ := smallR_ok c.1.1
      obtain ⟨c3, c4⟩ := smallR_ok c.1.2
      exact ⟨c1, c2, c3, c4, by show ((_ : Int) - _).toNat ≤ 2 ^ 24; omega⟩
    · cases h
  · cases h
theorem rngP_rels {K : PySem.W.Frag} {w : Ws} (a b : Int) : Rels K w (rngP a (b - a).toNat) (rgV a b) := by
  unfold rgV
  generalize (b - a).toNat = n
  have key : ∀ (n : Nat) (lo : Int), Rels K w (rngP lo n) ((List.range n).map fun i => V.int (lo + (i : Nat))) := by
    intro n
    induction n with
    | zero => intro lo; simp [rngP, Rels]
    | succ n ih =>
      intro lo
      rw [List.range_succ_eq_map, List.map_cons, List.map_map]
      show Rels K w (.int lo :: rngP (lo + 1) n) _
      refine .cons (by rw [Rel]; simp) ?_
      have := ih (lo + 1)
      have e : ((fun i : Nat => V.int (lo + (i : Nat))) ∘ Nat.succ) = fun i : Nat => V.int (lo + 1 + (i : Nat)) := by
        funext i
        show V.int (lo + ((i + 1 : Nat) : Int)) = _
        congr 1
        omega
      rw [e]
      exact this
  exact key n a
/-- at the range that is written: its ends -/
def SR (X : Cx) (env : PEnv) (e : Expr) (ml : PM (List PV)) : Prop := ∃ t, PRg X e t ∧
  ∀ (σ : St) (w0 w : Ws) (ph : PH) (T : Int → Int → Hp → Prop) (W : WX), Takes X W → Wf X.K w ph → EnvR X.K w0 w env σ →
    Sat (ml ph) (fun vs ph1 => ∃ r, rgEnds vs = some r ∧ ∀ w1, Ev w w1 → Wf X.K w1 ph1 → T r.1 r.2 w1.H) (exV X.K w W σ) → t σ w.H T
theorem sr_one {p2 pos2 : Pos} (hg : Gl X "range") (hm : X.mg "range" = none) (hs : notStar e = true) (h : SE X env e m false) : SR X env (.Call (.Name "range" p2) [e] [] pos2) (PM.bind m fun r => PM.bind (PM.pure []) fun rs => PM.pure (r.1 :: rs)) := by
  refine ⟨_, prg_1 hg hm pe_wk (star_cons hs), fun σ w0 w ph T W tk f r q => ?_⟩
  refine h.kp tk f r (Ev.refl w) q fun p ph1 v w1 e1 f1 r1 a1 q1 => ?_
  obtain ⟨rr, hr, q2⟩ := (show ∃ r, rgEnds [p.1] = some r ∧ ∀ w1, Ev w w1 → Wf X.K w1 ph1 → T r.1 r.2 w1.H from q1)
  rcases rgEnds1 hr with ⟨n, en, rfl⟩ | ⟨a, b, en, _⟩
  · have en' : p.1 = .int n := (List.cons.inj en).1
    rw [en', Rel] at a1
    exact ⟨n, a1, q2 w1 e1 f1⟩
  · have := congrArg List.length en
    simp at this
theorem sr_two {e' : Expr} {m' : PM (PV × Bool)} {p2 pos2 : Pos} (hg : Gl X "range") (hm : X.mg "range" = none) (hs : notStar e = true) (hs' : notStar e' = true) (h : SE X env e m false) (h' : SE X env e' m' false) :
    SR X env (.Call (.Name "range" p2) [e, e'] [] pos2) (PM.bind m fun r => PM.bind (PM.bind m' fun r => PM.bind (PM.pure []) fun rs => PM.pure (r.1 :: rs)) fun rs => PM.pure (r.1 :: rs)) := by
  refine ⟨_, prg_2 hg hm pe_wk pe_wk (star_cons hs) (star_cons hs') (star_any (by simp [hs'])), fun σ w0 w ph T W tk f r q => ?_⟩
  refine h.kp tk f r (Ev.refl w) q fun p ph1 v w1 e1 f1 r1 a1 q1 => ?_
  rw [sat_bind', sat_bind'] at q1
  have q1' : Sat (PM.bind m' (fun r => PM.bind (PM.pure []) fun rs => PM.pure (p.1 :: r.1 :: rs)) ph1) (fun vs ph1 => ∃ r, rgEnds vs = some r ∧ ∀ w1, Ev w w1 → Wf X.K w1 ph1 → T r.1 r.2 w1.H) (exV X.K w W σ) := by
    rw [sat_bind']
    exact q1
  refine h'.kp tk f1 r1 e1 q1' fun p' ph2 v' w2 e2 f2 r2 a2 q2 => ?_
  obtain ⟨rr, hr, q2⟩ := (show ∃ r, rgEnds [p.1, p'.1] = some r ∧ ∀ w1, Ev w w1 → Wf X.K w1 ph2 → T r.1 r.2 w1.H from q2)
  rcases rgEnds1 hr with ⟨n, en, _⟩ | ⟨a, b, en, rfl⟩
  · have := congrArg List.length en
    simp at this
  · have en1 : p.1 = .int a := (List.cons.inj en).1
    have en2 : p'.1 = .int b := (List.cons.inj (List.cons.inj en).2).1
    rw [en1, Rel] at a1
    rw [en2, Rel] at a2
    have a1' : v = .int a := a1
    exact ⟨a, b, a1', a2, q2 w2 (e1.trans e2) f2⟩
theorem se_lrng (hc : X.calm = true) (hg : Gl X "list") (hm : X.mg "list" = none) (hs : notStar e = true) (h : SR X env e ml) :
    SE X env (.Call (.Name "list" p) [e] [] pos) (PM.bind ml fun vs => PM.ofO ((rgEnds vs).map fun r => (.lst (rngP r.1 (r.2 - r.1).toNat), true))) false := by
  intro σ w0 w ph Q W tk f r q
  obtain ⟨t, pr, h⟩ := h
  refine wk_of (pe_listRg hc hg hm pr (star_cons hs)) ?_
  refine h σ w0 w ph _ W tk f r ((sat_bind'.mp q).mono (fun vs ph1 q1 => ?_) fun _ _ z => z)
  obtain ⟨a, ea, q1⟩ := sat_ofO.mp q1
  obtain ⟨rr, hr, rfl⟩ := Option.map_eq_some_iff.mp ea
  exact ⟨rr, hr, fun w1 e1 f1 => ⟨rgOk hr, fun p hp => (okV_rv e1 q1).lst f1 hp (rngP_rels _ _)⟩⟩
def tTupRgD (te : St → Hp → (Int → Int → Hp → Prop) → Prop) : TE := fun σ H Q => te σ H fun a b H1 => RgOk a b ∧ ∀ q (o : Obj), H1 q = none → o.dict = none → Q (.ref q) (upd H1 q (.frz o (.tup (rgV a b))))
theorem pe_tupRgD {te : St → Hp → (Int → Int → Hp → Prop) → Prop} (hc : X.calm = true) (hg : Gl X "tuple") (hm : X.mg "tuple" = none) (he : PRg X e te) (na : starEach [e] X.env = (false, eval e X.env) :: starEach [] X.env) : PE X (.Call (.Name "tuple" p) [e] [] pos) (tTupRgD te) := by
  refine ⟨fun pins s σ H Q I h => ?_⟩
  refine Call_ (ld_blt I hg hm (show bootBuiltins "tuple" = some (.type "tuple") by decide +kernel) (PyProof.Rows.callWith_type1 (args_cons (thn (he pins s σ H _ I h) fun x s1 ⟨r, a, b, t, u, v, H1, ex, hr, I1, ok, q⟩ => args_nil ?_) na) na))
  subst ex
  obtain ⟨b1, b2, b3, b4, b5⟩ := ok
  refine call_tuple_range (n := (b - a).toNat) (I1.ok.hd hc) hr (small_one b1 b2 b3 b4) (rangeSize_nat a b) b5 fun h' tk acc hk hi => ?_
  have I2 : Inv X pins σ H1 { s1 with heap := h', toks := tk } := I1.kept hk
  refine ⟨.ref h'.objs.size, upd H1 h'.objs.size (.frz { cls := .type "tuple", data := .seq acc } (.tup (rgV a b))), I2.laid (t' := tk) (fun c o e => Heap.get?_push_of_some _ e) (Nat.le_refl _) (show ObjOk X.prog X.w _ _ _ (.frz _ (.tup (rgV a b))) from ⟨Heap.get?_push_size _ rfl, ?_, acc.toList, vals_rg hi, ?_⟩), rfl, q _ _ (I2.hok.fresh (Nat.le_refl _)) rfl⟩
  · rw [rgV_length, sizeLine_eq]; omega
  · rw [Array.toArray_toList]; exact IsTup.new _ _
theorem se_trng (hc : X.calm = true) (hg : Gl X "tuple") (hm : X.mg "tuple" = none) (hs : notStar e = true) (h : SR X env e ml) :
    SE X env (.Call (.Name "tuple" p) [e] [] pos) (PM.bind ml fun vs => PM.ofO ((rgEnds vs).map fun r => (.tup (rngP r.1 (r.2 - r.1).toNat), false))) false := by
  intro σ w0 w ph Q W tk f r q
  obtain ⟨t, pr, h⟩ := h
  refine wk_of (pe_tupRgD hc hg hm pr (star_cons hs)) ?_
  refine h σ w0 w ph _ W tk f r ((sat_bind'.mp q).mono (fun vs ph1 q1 => ?_) fun _ _ z => z)
  obtain ⟨a, ea, q1⟩ := sat_ofO.mp q1
  obtain ⟨rr, hr, rfl⟩ := Option.map_eq_some_iff.mp ea
  exact ⟨rr, hr, fun w1 e1 f1 => ⟨rgOk hr, fun p o hp hd => (okV_rv e1 q1).tup f1 hp (rngP_rels _ _) hd⟩⟩
end
end Py

set_option Elab.async false
set_option linter.all false
set_option maxRecDepth 100000
set_option maxHeartbeats 1000000
/-! PySt: sorted(set(..)) of a tuple of ints. -/
namespace Py
open PySem L2
open PyProof.Rows hiding St
theorem insU_mem {x z : Int} : ∀ {l : List Int}, z ∈ insU x l ↔ z = x ∨ z ∈ l
  | [] => by simp [insU]
  | y :: ys => by
    unfold insU
    split
    · simp
    · split
      · rename_i e
        subst e
        simp
      · simp only [List.mem_cons, insU_mem (l := ys)]
        constructor
        · rintro (h | h | h) <;> simp [h]
        · rintro (h | h | h) <;> simp [h]
theorem usort_mem {z : Int} : ∀ {l : List Int}, z ∈ usort l ↔ z ∈ l
  | [] => by simp [usort]
  | x :: xs => by
    unfold usort
    rw [insU_mem, usort_mem (l := xs)]
    simp
theorem insU_srt {x : Int} : ∀ {l : List Int}, l.Pairwise (· < ·) → (insU x l).Pairwise (· < ·)
  | [], _ => by simp [insU]
  | y :: ys, h => by
    have h0 := List.pairwise_cons.mp h
    unfold insU
    split
    · rename_i c
      refine List.pairwise_cons.mpr ⟨fun z hz => ?_, h⟩
      rcases List.mem_cons.mp hz with e | hz
      · rw [e]; exact c
      · exact Int.lt_trans c (h0.1 z hz)
    · split
      · exact h
      · rename_i c1 c2
        refine List.pairwise_cons.mpr ⟨fun z hz => ?_, insU_srt h0.2⟩
        rcases insU_mem.mp hz with e | hz
        · rw [e]; omega
        · exact h0.1 z hz
theorem usort_srt : ∀ l : List Int, (usort l).Pairwise (· < ·)
  | [] => by simp [usort]
  | x :: xs => insU_srt (usort_srt xs)
/-- strictly sorted lists with the same members are the same -/
theorem srt_uniq : ∀ {l m : List Int}, l.Pairwise (· < ·) → m.Pairwise (· < ·) → (∀ z, z ∈ l ↔ z ∈ m) → l = m
  | [], [], _, _, _ => rfl
  | [], y :: ys, _, _, h => by have := (h y).mpr (List.mem_cons_self ..); cases this
  | x :: xs, [], _, _, h => by have := (h x).mp (List.mem_cons_self ..); cases this
  | x :: xs, y :: ys, hl, hm, h => by
    have l0 := List.pairwise_cons.mp hl
    have m0 := List.pairwise_cons.mp hm
    have exy : x = y := by
      rcases List.mem_cons.mp ((h x).mp (List.mem_cons_self ..)) with e | e
      · exact e
      · rcases List.mem_cons.mp ((h y).mpr (List.mem_cons_self ..)) with e2 | e2
        · exact e2.symm
        · have := m0.1 x e; have := l0.1 y e2; omega
    subst exy
    congr 1
    refine srt_uniq l0.2 m0.2 fun z => ⟨fun hz => ?_, fun hz => ?_⟩
    · rcases List.mem_cons.mp ((h z).mp (List.mem_cons_of_mem _ hz)) with e | e
      · have := l0.1 z hz; omega
      · exact e
    · rcases List.mem_cons.mp ((h z).mpr (List.mem_cons_of_mem _ hz)) with e | e
      · have := m0.1 z hz; omega
      · exact e
theorem pints_map : ∀ {xs : List PV} {is : List Int}, pints xs = some is → xs = is.map .int
  | [], is, h => by cases h; rfl
  | x :: xs, is, h => by
    cases x with
    | int i =>
      obtain ⟨js, h1, rfl⟩ := Option.map_eq_some_iff.mp (show (pints xs).map (i :: ·) = some is from h)
      rw [pints_map h1]
      rfl
    | _ => cases h
theorem rels_of_ints {K : PySem.W.Frag} {w : Ws} : ∀ {is : List Int}, Rels K w (is.map .int) (is.map V.int)
  | [] => .nil
  | i :: is => .cons rel_int rels_of_ints
section
variable {X : Cx} {env : PEnv} {e : Expr} {m : PM (PV × Bool)} {B : Bool} {pos p p2 pos2 : Pos}
def rSetT (K : PySem.W.Frag) (wd : World) : List V → Hp → VK → Prop := fun xs H Q => ∃ (l : Addr) (ns : List Int), xs = [.ref l] ∧ SqT K H l (ns.map V.int) ∧ ns.length ≤ 60 ∧
  ∀ (p : Addr) (c : Nat), H p = none → c ≤ ns.length → Q (.ref p) (upd H p (SetO wd p (fun j => decide (j ∈ ns)) c))
theorem cr_setT (hc : X.calm = true) : CallR X (.type "set") (rSetT X.K X.w) := by
  intro pins s σ H xs us Q I r h
  obtain ⟨l, ns, rfl, hq, hl, q⟩ := h
  rw [Vals.ref1 r]
  obtain ⟨its, rv, pt, hz⟩ := I.tuple hq
  refine call_set_tupI ns (I.ok.hd hc) (show s.heap.IsTuple l its.toArray from pt) (ints_of_vals rv) (by unfold scanBound; omega) fun h' tk c R1 hcn k => ?_
  exact ⟨.ref _, upd H s.heap.objs.size (SetO X.w s.heap.objs.size (fun j => decide (j ∈ ns)) c), I.laid (t' := tk) k (Nat.le_refl _) (setO_new R1), rfl, q _ c (I.hok.fresh (Nat.le_refl _)) hcn⟩
theorem se_sst {x y : Str} (hc : X.calm = true) (hx : x = "sorted") (hg : Gl X x) (hm : X.mg x = none) (hy : y = "set") (hgy : Gl X y) (hmy : X.mg y = none) (hs : notStar e = true) (h : SE X env e m B) :
    SE X env (.Call (.Name x p) [.Call (.Name y p2) [e] [] pos2] [] pos) (PM.bind (evalV m) fun x => PM.ofO (psst x)) false := by
  intro σ w0 w ph Q W tk f0 r q
  subst hx hy
  have h1 : [e].all notStar = true := by simp [hs]
  have s1 := star_cons (es := []) (env := X.env) hs
  have s2 : (backTo pos2 (starEach [] X.env)).any (·.1) = false := rfl
  have bs : bootBuiltins "set" = some (.type "set") := PyProof.Rows.boot_set
  have bt : bootBuiltins "sorted" = some (.builtin "sorted") := by decide +kernel
  refine wk_of (pe_callB (cr_sortedSet hc) hg hm bt (pa_cons (pe_callTy (cr_setT hc) hgy hmy bs (pa_cons pe_wk pa_nil s1) (by decide) (by decide) s1 s2) pa_nil rfl) (by decide) (by decide) rfl rfl) ?_
  refine h.lk tk f0 r (Ev.refl w) q fun pv ph1 v w1 e1 f1 r1 a1 q1 => ?_
  obtain ⟨a, ea, q2⟩ := sat_ofO.mp q1
  match pv, ea, a1 with
  | .tup xs, ea, a1 =>
    obtain ⟨l, vs, rfl, hq, ra⟩ := relB_tup a1
    have ea : (match pints xs with
      | some is => if is.length ≤ 60 then some ((PV.lst ((usort is).map .int), true) : PV × Bool) else none
      | none => none) = some a := ea
    cases hp : pints xs with
    | none => rw [hp] at ea; cases ea
    | some is =>
      rw [hp] at ea
      have ea : (if is.length ≤ 60 then some ((PV.lst ((usort is).map .int), true) : PV × Bool) else none) = some a := ea
      split at ea
      · rename_i hle
        cases ea
        have exs := pints_map hp
        subst exs
        have evs := rels_ints ra
        subst evs
        refine ⟨l, is, rfl, hq, hle, fun p c hp0 hcn => ?_⟩
        refine ⟨p, _, c, rfl, upd_same, by omega, fun ns p1 hsr hmem hlen hp1 => ?_⟩
        have hns : ns = usort is := srt_uniq hsr (usort_srt is) fun z => by rw [hmem, usort_mem, decide_eq_true_eq]
        subst hns
        have e2 := ev_lay (w := w1) (o := SetO X.w p (fun j => decide (j ∈ is)) c) hp0
        have f2 := wf_lay (o := SetO X.w p (fun j => decide (j ∈ is)) c) f1 hp0
        exact (okV_rv (w := w1.lay p _) (e1.trans e2) q2).lst f2 hp1 rels_of_ints
      · cases ea
  | .non, ea, _ => cases ea
  | .bl _, ea, _ => cases ea
  | .int _, ea, _ => cases ea
  | .str _, ea, _ => cases ea
  | .lst _, ea, _ => cases ea
  | .dct _ _, ea, _ => cases ea
  | .box _, ea, _ => cases ea
  | .scr _, ea, _ => cases ea
end
end Py

set_option Elab.async false
set_option linter.all false
set_option maxRecDepth 100000
set_option maxHeartbeats 1000000
/-! PyH: what is walked, targets, comprehensions. -/
namespace Py
open PySem L2
open PyProof.Rows hiding St
theorem sat_ok {α : Type} {o : Out α} {Q : α → PH → Prop} (h : Sat o Q fun _ _ => False) : ∃ a p, o = .ok a p ∧ Q a p := by
  cases o with
  | ok a p => exact ⟨a, p, rfl, h⟩
  | exc e p => exact h.elim
  | stuck => exact h.elim
theorem sat_calm {α : Type} {m : PM α} {ph : PH} {Q : α → PH → Prop} {E : PEx → PH → Prop} (h : Sat (PM.calm m ph) Q E) : Sat (m ph) Q fun _ _ => False := by
  unfold PM.calm at h
  cases e : m ph with
  | ok a p => rw [e] at h; exact h
  | exc x p => rw [e] at h; exact (show False from h).elim
  | stuck => rw [e] at h; exact (show False from h).elim
theorem takes_false {X : Cx} : Takes X fun _ _ _ _ => False := fun u s' ⟨a, B, sI, pins, σ, H, cls, d, e, I, nb, up, sky, na, os, ag, w⟩ => w.elim
/-! ### what is walked -/
/-- the i-th thing walked -/
def Item (K : PySem.W.Frag) (w1 : Ws) (ps : List PV) (pr : Bool) (i : Nat) (H : Hp) (x : V) (H' : Hp) : Prop := match pr with
  | false => H' = H ∧ ∃ p, ps[i]? = some p ∧ Rel K w1 p x
  | true => ∃ T a b p q, x = .ref T ∧ H T = none ∧ H' = upd H T (.tup [a, b]) ∧ ps[i]? = some (.tup [p, q]) ∧ Rel K w1 p a ∧ Rel K w1 q b
/-- at what is walked -/
def SI (X : Cx) (env : PEnv) (tg e : Expr) (mi : PM (List PV)) (pr : Bool) : Prop := ∃ wi : TI, PI X tg e wi ∧
  ∀ (σ : St) (w0 w : Ws) (ph : PH) (R : It → Hp → Prop) (W : WX), Takes X W → Wf X.K w ph → EnvR X.K w0 w env σ →
    Sat (mi ph) (fun ps ph1 => ∀ J w1 G Y, Ev w w1 → Wf X.K w1 ph1 → EnvR X.K w0 w1 env σ → Walk J ps.length G Y → (∀ w2, Sle w1 w2 → G w2.H) → (∀ i H x H', Y i H x H' → Item X.K w1 ps pr i H x H') → R J w1.H) (exV X.K w W σ) → wi σ w.H R
section
variable {X : Cx} {env : PEnv} {e tg : Expr} {m m' : PM (PV × Bool)} {σ : St} {w0 w wb : Ws} {ph : PH} {Q : VK} {W : WX} {B : Bool} {pos p : Pos}
def iSeq (K : PySem.W.Frag) (t : TE) : TI := fun σ H R => t σ H fun x H1 => ∃ a xs, x = .ref a ∧ ((SqL K H1 a xs ∧ R (Itl K a) H1) ∨ (SqT K H1 a xs ∧ R (Itt K a) H1))
theorem pi_seq {t : TE} (h : PE X e t) : PI X tg e (iSeq X.K t) := by
  refine ⟨fun pins s σ H R I q => ?_⟩
  refine thn (h.run pins s σ H _ I q) fun v s1 ⟨x, H1, I1, r1, a, xs, ex, hq⟩ => ?_
  subst ex
  rcases hq with ⟨hq, q⟩ | ⟨hq, q⟩
  · have base : PI (tg := tg) X e (iList X.K (tC (V.ref a))) → True := fun _ => trivial
    cases r1
    obtain ⟨its, rv, p, hz⟩ := I1.list hq
    refine wpAny_pyIter_list p.isList ?_
    refine ⟨s1.heap.objs.size, [s1.heap.objs.size], _, _, H1, rfl, I1.kept (t' := s1.toks) fun b o e => Heap.get?_push_of_some _ e, turn_list a _, ⟨_, Heap.get?_push_size _ rfl, rfl, rfl⟩, fun b hb => ?_, q⟩
    have e' : b = s1.heap.objs.size := by simpa using hb
    exact I1.fpOk (Nat.le_of_eq e'.symm) (I1.hok.fresh (Nat.le_of_eq e'.symm))
  · cases r1
    obtain ⟨its, rv, p, hz⟩ := I1.tuple hq
    refine iter_tuple p ?_
    refine ⟨s1.heap.objs.size, [s1.heap.objs.size], _, _, H1, rfl, I1.kept (t' := s1.toks) fun b o e => Heap.get?_push_of_some _ e, turn_tuple a _, ⟨_, Heap.get?_push_size _ rfl, rfl, rfl⟩, fun b hb => ?_, q⟩
    have e' : b = s1.heap.objs.size := by simpa using hb
    exact I1.fpOk (Nat.le_of_eq e'.symm) (I1.hok.fresh (Nat.le_of_eq e'.symm))
theorem kSeq_some {p : PV} {R : List PV → PH → Prop} {E : PEx → PH → Prop} (q : Sat (kSeq p ph) R E) : ∃ ps, R ps ph ∧ (p = .lst ps ∨ p = .tup ps ∨ p = .scr ps) := by
  cases p with
  | lst ys => exact ⟨ys, q, .inl rfl⟩
  | tup ys => exact ⟨ys, q, .inr (.inl rfl)⟩
  | scr ys => exact ⟨ys, q, .inr (.inr rfl)⟩
  | _ => exact (show False from q).elim
theorem si_seq (h : SE X env e m false) : SI X env tg e (PM.bind m fun r => kSeq r.1) false := by
  refine ⟨_, pi_seq pe_wk, fun σ w0 w ph R W tk f r q => ?_⟩
  refine h.kp tk f r (Ev.refl w) q fun p ph1 v w1 e1 f1 r1 a1 q1 => ?_
  obtain ⟨ps, hk, ep⟩ := kSeq_some q1
  rcases ep with ep | ep | ep
  · rw [ep, Rel] at a1
    obtain ⟨a, vs, rfl, ⟨z1, z2⟩, ra⟩ := a1
    refine ⟨a, vs, rfl, .inl ⟨.inl z2, ?_⟩⟩
    have hl := ra.length
    refine hk _ w1 (fun H => SqL X.K H a vs) (YAt vs) e1 f1 r1 (hl ▸ walk_list) (fun w2 sl => .inl (sl.rd z1 z2)) fun i H x H' y => ⟨y.1, ?_⟩
    obtain ⟨p, h1, h2⟩ := ra.getV y.2
    exact ⟨p, h1, h2⟩
  · rw [ep, Rel] at a1
    obtain ⟨a, vs, rfl, z, ra⟩ := a1
    refine ⟨a, vs, rfl, .inr ⟨sqT_of z, ?_⟩⟩
    have hl := ra.length
    refine hk _ w1 (fun H => SqT X.K H a vs) (YAt vs) e1 f1 r1 (hl ▸ walk_tup) (fun w2 sl => ?_) fun i H x H' y => ⟨y.1, ?_⟩
    · rcases z with ⟨z1, o, z2, z3⟩ | z
      · exact .inl (.inr ⟨o, sl.keep _ _ z1 z2⟩)
      · exact z.sq _
    · obtain ⟨p, h1, h2⟩ := ra.getV y.2
      exact ⟨p, h1, h2⟩
  · rw [ep, Rel] at a1
    obtain ⟨a, vs, rfl, z, ra⟩ := a1
    have hs : ∀ w2, Sle w1 w2 → SqL X.K w2.H a vs := fun w2 sl => by
      rcases z with ⟨z1, z2⟩ | z
      · exact .inl (sl.rd z1 z2)
      · exact .inr z
    refine ⟨a, vs, rfl, .inl ⟨hs w1 (Sle.refl w1), ?_⟩⟩
    have hl := ra.length
    refine hk _ w1 (fun H => SqL X.K H a vs) (YAt vs) e1 f1 r1 (hl ▸ walk_list) hs fun i H x H' y => ⟨y.1, ?_⟩
    obtain ⟨p, h1, h2⟩ := ra.getV y.2
    exact ⟨p, h1, h2⟩
theorem rngP_get {lo : Int} : ∀ {n i : Nat}, i < n → (rngP lo n)[i]? = some (.int (lo + i)) := by
  intro n
  induction n generalizing lo with
  | zero => intro i h; omega
  | succ n ih =>
    intro i h
    cases i with
    | zero => show some (PV.int lo) = _; simp
    | succ i =>
      show (rngP (lo + 1) n)[i]? = _
      rw [ih (by omega)]
      congr 2
      omega
theorem rngP_len {lo : Int} : ∀ n : Nat, (rngP lo n).length = n := by
  intro n
  induction n generalizing lo with
  | zero => rfl
  | succ n ih => show (rngP (lo + 1) n).length + 1 = n + 1; rw [ih]
theorem rng_item {K : PySem.W.Frag} {w1 : Ws} {lo : Int} {n : Nat} : Walk (Itr lo n) (rngP lo n).length (fun _ => True) (fun i H x H' => i < n ∧ H' = H ∧ x = .int (lo + i)) ∧
    ∀ i H x H', (i < n ∧ H' = H ∧ x = .int (lo + i)) → Item K w1 (rngP lo n) false i H x H' := by
  rw [rngP_len]
  refine ⟨⟨fun i H hi _ => hi, fun _ _ => Nat.le_refl _, fun i H x H' hi _ y => ⟨hi, y.1, y.2⟩⟩, fun i H x H' ⟨h1, h2, h3⟩ => ⟨h2, _, rngP_get h1, ?_⟩⟩
  rw [Rel, h3]
theorem si_rng1 {p2 pos2 : Pos} (hg : Gl X "range") (hm : X.mg "range" = none) (hs : notStar e = true) (h : SE X env e m B) : SI X env tg (.Call (.Name "range" p2) [e] [] pos2) (PM.bind (evalV m) kRng1) false := by
  refine ⟨_, pi_range1 hg hm (pa_cons pe_wk pa_nil (star_cons hs)) (star_cons hs), fun σ w0 w ph R W tk f r q => ?_⟩
  refine h.lk tk f r (Ev.refl w) q fun p ph1 v w1 e1 f1 r1 a1 q1 => ?_
  cases p with
  | int n =>
    have ev := relB_int a1
    subst ev
    have q1 : Sat ((if smallR n = true then PM.pure (rngP 0 n.toNat) else PM.stuck) ph1) (fun ps ph1 => ∀ J w1 G Y, Ev w w1 → Wf X.K w1 ph1 → EnvR X.K w0 w1 env σ → Walk J ps.length G Y → (∀ w2, Sle w1 w2 → G w2.H) → (∀ i H x H', Y i H x H' → Item X.K w1 ps false i H x H') → R J w1.H) (exV X.K w W σ) := q1
    by_cases c : smallR n = true
    · rw [if_pos c] at q1
      obtain ⟨c1, c2⟩ := smallR_ok c
      obtain ⟨k1, k2⟩ := rng_item (K := X.K) (w1 := w1) (lo := 0) (n := n.toNat)
      exact ⟨n, rfl, c1, c2, (sat_pure.mp q1) _ w1 _ _ e1 f1 r1 k1 (fun _ _ => trivial) k2⟩
    · rw [if_neg c] at q1
      exact (show False from q1).elim
  | _ => exact (show False from q1).elim
theorem si_rng2 {e' : Expr} {B' : Bool} {p2 pos2 : Pos} (hg : Gl X "range") (hm : X.mg "range" = none) (hs : notStar e = true) (hs' : notStar e' = true) (h : SE X env e m B) (h' : SE X env e' m' B') :
    SI X env tg (.Call (.Name "range" p2) [e, e'] [] pos2) (PM.bind (evalV m) fun x => PM.bind (evalV m') fun y => kRng2 x y) false := by
  refine ⟨_, pi_range2 hg hm (pa_cons pe_wk (pa_cons pe_wk pa_nil (star_cons hs')) (star_cons hs)) (by rw [star_cons hs, star_cons hs']; rfl) (star_cons hs'), fun σ w0 w ph R W tk f r q => ?_⟩
  refine h.lk tk f r (Ev.refl w) q fun p ph1 v w1 e1 f1 r1 a1 q1 => ?_
  refine h'.lk tk f1 r1 e1 q1 fun p' ph2 v' w2 e2 f2 r2 a2 q2 => ?_
  cases p with
  | int n =>
    cases p' with
    | int j =>
      have ev := relB_int a1
      have ev' := relB_int a2
      subst ev ev'
      have q2 : Sat ((if (smallR n && smallR j) = true then PM.pure (rngP n (j - n).toNat) else PM.stuck) ph2) (fun ps ph1 => ∀ J w1 G Y, Ev w w1 → Wf X.K w1 ph1 → EnvR X.K w0 w1 env σ → Walk J ps.length G Y → (∀ w2, Sle w1 w2 → G w2.H) → (∀ i H x H', Y i H x H' → Item X.K w1 ps false i H x H') → R J w1.H) (exV X.K w W σ) := q2
      by_cases c : (smallR n && smallR j) = true
      · rw [if_pos c] at q2
        simp only [Bool.and_eq_true] at c
        obtain ⟨c1, c2⟩ := smallR_ok c.1
        obtain ⟨c3, c4⟩ := smallR_ok c.2
        obtain ⟨k1, k2⟩ := rng_item (K := X.K) (w1 := w2) (lo := n) (n := (j - n).toNat)
        exact ⟨n, j, rfl, ⟨c1, c2, c3, c4⟩, (sat_pure.mp q2) _ w2 _ _ (e1.trans e2) f2 r2 k1 (fun _ _ => trivial) k2⟩
      · rw [if_neg c] at q2
        exact (show False from q2).elim
    | _ => exact (show False from q2).elim
  | _ => exact (show False from q2).elim
theorem enumP_get : ∀ {xs : List PV} {k i : Nat} {p : PV}, xs[i]? = some p → (enumP k xs)[i]? = some (.tup [.int ((k + i : Nat) : Int), p])
  | [], _, _, _, h => by simp at h
  | x :: xs, k, 0, p, h => by
    simp at h
    subst h
    rfl
  | x :: xs, k, i + 1, p, h => by
    show (enumP (k + 1) xs)[i]? = _
    rw [enumP_get (by simpa using h)]
    rw [show k + 1 + i = k + (i + 1) by omega]
theorem enumP_len : ∀ (xs : List PV) (k : Nat), (enumP k xs).length = xs.length
  | [], _ => rfl
  | x :: xs, k => by show (enumP (k + 1) xs).length + 1 = _; rw [enumP_len]; rfl
/-! ### targets -/
theorem wipe_idem {vs : List Nat} {σ σ2 : St} (hl : σ2.length = σ.length) (h : ∀ i, i ∉ vs → σ2[i]? = (L2.wipe σ vs)[i]?) : L2.wipe σ2 vs = L2.wipe σ vs := by
  apply List.ext_getElem?
  intro i
  rw [wipe_get, wipe_get, hl]
  by_cases c : i ∈ vs ∧ i < σ.length
  · rw [if_pos c, if_pos c]
  · rw [if_neg c, if_neg c]
    by_cases ci : i ∈ vs
    · have : ¬ i < σ.length := fun h => c ⟨ci, h⟩
      rw [List.getElem?_eq_none (by omega), List.getElem?_eq_none (by omega)]
    · rw [h i ci, wipe_get, if_neg (fun z => ci z.1)]
/-- the slots behind a target's store -/
def tgSet : Tg → List Nat
  | .nm i => [i]
  | .tup is => is
/-- at a target: what is bound there -/
def SG (K : PySem.W.Frag) (g : TG) (tg : Tg) (pr : Bool) : Prop :=
  ∀ (w0 w w1 : Ws) (ph : PH) (env env' : PEnv) (σ : St) (ps : List PV) (i : Nat) (x : V) (H' : Hp) (p : PV) (T : St → Hp → Prop), Wf K w ph → EnvR K w0 w env σ → Sle w1 w → Item K w1 ps pr i w.H x H' → ps[i]? = some p → bindTg tg p env = some env' →
    (∀ σ2 w2, w2.H = H' → Ev w w2 → w2.ρ = w.ρ → w2.S = w.S → Wf K w2 ph → EnvR K w0 w2 env' σ2 → σ2.length = σ.length → (∀ j, j ∉ tgSet tg → σ2[j]? = σ[j]?) → T σ2 w2.H) → g x σ H' T
theorem item_world {K : PySem.W.Frag} {w w1 : Ws} {ph : PH} {env : PEnv} {ps : List PV} {pr : Bool} {i : Nat} {x : V} {H' : Hp} (f : Wf K w ph) (r : EnvR K w0 w env σ) (sl : Sle w1 w) (it : Item K w1 ps pr i w.H x H') :
    ∃ w2 : Ws, w2.H = H' ∧ Ev w w2 ∧ w2.ρ = w.ρ ∧ w2.S = w.S ∧ Wf K w2 ph ∧ EnvR K w0 w2 env σ ∧ Sle w1 w2 := by
  cases pr with
  | false => exact ⟨w, it.1.symm, Ev.refl w, rfl, rfl, f, r, sl⟩
  | true =>
    obtain ⟨T, a, b, p, q, _, h2, h3, _⟩ := it
    exact ⟨w.lay T (.tup [a, b]), h3.symm, ev_lay h2, rfl, rfl, wf_lay f h2, r.mono f (ev_lay h2), sl.trans ((ev_lay h2).sle f)⟩
theorem sg_name {K : PySem.W.Frag} (i : Nat) : SG K (gName i) (.nm i) false := by
  intro w0 w w1 ph env env' σ ps j x H' p T f r sl it hp hb n
  cases hb
  obtain ⟨e, q, hq, rq⟩ := it
  rw [hp] at hq
  cases hq
  subst e
  exact n _ w rfl (Ev.refl w) rfl rfl f (r.setV (Rel.mono sl _ _ rq)) (by simp) fun k hk => by
    have : i ≠ k := fun h => hk (by simp [tgSet, h])
    rw [List.getElem?_set_ne this]
def gNames : List Nat → TGs
  | [] => gNil
  | i :: is => gCons (gName i) (gNames is)
def setAllS : List Nat → List V → St → St
  | i :: is, v :: vs, σ => setAllS is vs (σ.set i (some v))
  | _, _, σ => σ
theorem gNames_of : ∀ {is : List Nat} {vs : List V} {σ : St} {H : Hp} {T : St → Hp → Prop}, is.length = vs.length → T (setAllS is vs σ) H → gNames is vs σ H T
  | [], [], _, _, _, _, h => ⟨rfl, h⟩
  | i :: is, v :: vs, σ, H, T, hl, h => ⟨v, vs, rfl, gNames_of (by simpa using hl) h⟩
  | [], _ :: _, _, _, _, hl, _ => by simp at hl
  | _ :: _, [], _, _, _, hl, _ => by simp at hl
theorem setAllS_len : ∀ {is : List Nat} {vs : List V} {σ : St}, (setAllS is vs σ).length = σ.length
  | [], _, _ => rfl
  | i :: is, [], _ => rfl
  | i :: is, v :: vs, σ => by unfold setAllS; rw [setAllS_len]; simp
theorem setAllS_get : ∀ {is : List Nat} {vs : List V} {σ : St} {j : Nat}, j ∉ is → (setAllS is vs σ)[j]? = σ[j]?
  | [], _, _, _, _ => rfl
  | i :: is, [], _, _, _ => rfl
  | i :: is, v :: vs, σ, j, h => by
    unfold setAllS
    simp only [List.mem_cons, not_or] at h
    rw [setAllS_get h.2, List.getElem?_set_ne (Ne.symm h.1)]
theorem setAll_env {K : PySem.W.Frag} : ∀ {is : List Nat} {ps : List PV} {vs : List V} {env : PEnv} {σ : St}, EnvR K w0 w env σ → Rels K w ps vs → EnvR K w0 w (setAll is ps env) (setAllS is vs σ)
  | [], _, _, _, _, r, _ => by simpa [setAll, setAllS] using r
  | i :: is, [], [], _, _, r, _ => r
  | i :: is, p :: ps, v :: vs, env, σ, r, a => by
    rw [Rels] at a
    unfold setAll setAllS
    exact setAll_env (r.setV a.1) a.2
  | i :: is, [], _ :: _, _, _, _, a => by simp [Rels] at a
  | i :: is, _ :: _, [], _, _, _, a => by simp [Rels] at a
/-- a tuple of names: the value a tuple or a list -/
def gSeqT (K : PySem.W.Frag) (n : Nat) (t : TGs) : TG := fun v σ H Q => gTup K n t v σ H Q ∨ gLst K n t v σ H Q
theorem pg_seqT {es : List Expr} {k : Nat} {t : TGs} {n : Nat} (hc : X.calm = true) (h : PGs X es t) (hn : (assignEach es X.env).length = n) (hst : (assignEach es X.env).findIdx? (·.1) = none) : PG X (.Tuple es k pos) (gSeqT X.K n t) :=
  ⟨fun pins s σ H v u Q I r hq => by
    rcases hq with hq | hq
    · exact (pg_tup hc h hn hst).run pins s σ H v u Q I r hq
    · exact (pg_lst hc h hn hst).run pins s σ H v u Q I r hq⟩
theorem bindTup {is : List Nat} {p : PV} {env env' : PEnv} (hb : bindTg (.tup is) p env = some env') : ∃ qs, (p = .tup qs ∨ p = .lst qs) ∧ is.length = qs.length ∧ env' = setAll is qs env := by
  cases p with
  | tup qs =>
    have hb' : (if is.length = qs.length then some (setAll is qs env) else none) = some env' := hb
    by_cases c : is.length = qs.length
    · rw [if_pos c] at hb'
      cases hb'
      exact ⟨qs, .inl rfl, c, rfl⟩
    · rw [if_neg c] at hb'; cases hb'
  | lst qs =>
    have hb' : (if is.length = qs.length then some (setAll is qs env) else none) = some env' := hb
    by_cases c : is.length = qs.length
    · rw [if_pos c] at hb'
      cases hb'
      exact ⟨qs, .inr rfl, c, rfl⟩
    · rw [if_neg c] at hb'; cases hb'
  | _ => cases hb
/-- the store of a frozen tuple or list -/
theorem gSeq_of {K : PySem.W.Frag} {env : PEnv} {σ : St} {is : List Nat} {p : PV} {env' : PEnv} {x : V} {T : St → Hp → Prop} (r : EnvR K w0 w env σ) (rp : Rel K w p x) (hb : bindTg (.tup is) p env = some env')
    (n : ∀ σ2, EnvR K w0 w env' σ2 → σ2.length = σ.length → (∀ j, j ∉ is → σ2[j]? = σ[j]?) → T σ2 w.H) : gSeqT K is.length (gNames is) x σ w.H T := by
  obtain ⟨qs, ep, hl, rfl⟩ := bindTup hb
  rcases ep with rfl | rfl
  · rw [Rel] at rp
    obtain ⟨a, vs, ex, z, rr⟩ := rp
    have hv := rr.length
    exact .inl ⟨a, vs, ex, sqT_of z, by omega, gNames_of (by omega) (n _ (setAll_env r rr) setAllS_len fun k hk => setAllS_get hk)⟩
  · rw [Rel] at rp
    obtain ⟨a, vs, ex, ⟨_, z⟩, rr⟩ := rp
    have hv := rr.length
    exact .inr ⟨a, vs, ex, .inl z, by omega, gNames_of (by omega) (n _ (setAll_env r rr) setAllS_len fun k hk => setAllS_get hk)⟩
theorem sg_tup {K : PySem.W.Frag} {pr : Bool} (is : List Nat) : SG K (gSeqT K is.length (gNames is)) (.tup is) pr := by
  intro w0 w w1 ph env env' σ ps j x H' p T f r sl it hp hb n
  obtain ⟨w2, eH, e2, h1, h2, f2, r2, sl2⟩ := item_world f r sl it
  cases pr with
  | false =>
    obtain ⟨e, q, hq, rq⟩ := it
    rw [hp] at hq
    cases hq
    rw [← eH]
    exact gSeq_of r2 (Rel.mono sl2 _ _ rq) hb fun σ2 r3 l3 g3 => n σ2 w2 eH e2 h1 h2 f2 r3 l3 g3
  | true =>
    obtain ⟨T', a, b, q, q', e1, h2', h3, hq, ra, rb⟩ := it
    rw [hp] at hq
    cases hq
    obtain ⟨qs, ep, hl, rfl⟩ := bindTup hb
    rcases ep with ep | ep
    · cases ep
      have rr : Rels K w2 [q, q'] [a, b] := .cons (Rel.mono sl2 _ _ ra) (.cons (Rel.mono sl2 _ _ rb) .nil)
      refine .inl ⟨T', [a, b], e1, .inl (.inl ?_), by simpa using hl.symm, gNames_of (by simpa using hl) ?_⟩
      · rw [h3, upd_same]
      · have := n (setAllS is [a, b] σ) w2 eH e2 h1 h2 f2 (setAll_env r2 rr) setAllS_len fun k hk => setAllS_get hk
        rw [eH] at this
        exact this
    · cases ep
end
end Py

set_option Elab.async false
set_option linter.all false
set_option maxRecDepth 100000
set_option maxHeartbeats 4000000
/-! PyTe: enumerate of a tuple. -/
namespace Py
open PySem PySem.Spec L2 PySem.W
open PyProof.Rows hiding St
theorem meets_enum1 {v : Value} {o : Obj} {H : Heap → Prop} (B : PySem.Begins v o H) :
    Meets (Builtin.«enumerate.__new__» ⟨[.type "enumerate", v], []⟩) (fun _ R s => H s.heap ∧
      R (.ok (.ret (.ref (s.heap.push o).objs.size))) { s with heap := (s.heap.push o).push { cls := .type "enumerate", data := .fields #[.none, .bool false, .ref s.heap.objs.size, rawInt 0, .none, .none] } }) :=
  .of_wp fun prog w A R s h => by
    obtain ⟨hp, g, d, tk, os⟩ := s; obtain ⟨h1, h⟩ := h
    have hsub := sub_enumerate
    have q1 : ∀ {A' : Around} {E : Value → Shared → Prop} {Q : Value → Shared → Prop}, Q (.ref hp.objs.size) ⟨hp.push o, g, d, tk, os⟩ → wpAny (model prog w) A' (pyIter v) Q E ⟨hp, g, d, tk, os⟩ :=
      fun q => B.iter prog w _ _ ⟨hp, g, d, tk, os⟩ _ h1 q
    wp_walk using q1
    refine wpAny_stack_any fun st => wpAny_pure ?_
    split
    · rename_i c _ _ _ _ _
      cases (c == Value.type "enumerate")
      · wp_walk using q1
        exact ⟨_, rfl, h⟩
      · wp_walk using q1
        exact ⟨_, rfl, h⟩
    · wp_walk using q1
      exact ⟨_, rfl, h⟩
section
variable {prog : Program} {w : World} {A : Around} {E : Value → Shared → Prop} {s : Shared}
theorem enum_begins1 {v : Value} {o : Obj} {H : Heap → Prop} {Q : Value → Shared → Prop} (B : PySem.Begins v o H) (h1 : H s.heap)
    (h : ∀ h', IsEnum h' (s.heap.objs.size + 1) s.heap.objs.size 0 .none → h'.get? s.heap.objs.size = some o → h'.objs.size = s.heap.objs.size + 2 →
      (∀ b o, s.heap.get? b = some o → h'.get? b = some o) → Q (.ref (s.heap.objs.size + 1)) { s with heap := h' }) :
    wpAny (model prog w) A (call (.type "enumerate") [v]) Q E s := by
  refine callType_new F.called_enumerate (by decide) (F.typeCall_enumerate_1 _) (F.newCall_enumerate_1 _) (fun obj => F.args_object_init_2 obj _) F.entry_enumerate_new
    (meets_enum1 B) ⟨h1, ?_⟩
  have hz : (s.heap.push o).objs.size = s.heap.objs.size + 1 := Heap.size_push ..
  show _ ∧ _
  rw [hz]
  have he : IsEnum ((s.heap.push o).push { cls := .type "enumerate", data := .fields #[.none, .bool false, .ref s.heap.objs.size, rawInt 0, .none, .none] }) (s.heap.objs.size + 1) s.heap.objs.size 0 .none := by
    have := Heap.get?_push_size (s.heap.push o) (o := { cls := .type "enumerate", data := .fields #[.none, .bool false, .ref s.heap.objs.size, rawInt 0, .none, .none] }) rfl
    rw [hz] at this; exact this
  refine ⟨⟨_, he, rfl⟩, h _ he (Heap.get?_push_of_some _ (Heap.get?_push_size _ B.free)) (by rw [Heap.size_push, hz]) fun b o x => Heap.get?_push_of_some _ (Heap.get?_push_of_some _ x)⟩
end
theorem pyNext_enum_endT {prog : Program} {w : World} {A : Around} {E : Value → Shared → Prop} {s : Shared} {e it l : Addr} {i : Nat} {items : Array Value} {old : Value} {Q : Option Value → Shared → Prop} (hh : A.handled = none)
    (he : IsEnum s.heap e it i old) (hit : s.heap.IsTupleIter it l i) (hl : s.heap.IsTuple l items) (hx : items[i]? = none)
    (hQ : ∀ h', Heap.ExtBut it s.heap h' → Q none { s with heap := h' }) : wpAny (model prog w) A (pyNext (.ref e)) Q E s := by
  have hT : s.TypeIs (.ref e) "enumerate" := ⟨_, he, rfl⟩
  unfold pyNext
  refine wpAny_bind (wpAny_attempt (wpAny_callSpecial?_slot (name := Str.ofString "__next__") hT F.slot_enumerate_next
    (wpAny_call_entry F.slot_enumerate_next hT F.entry_enumerate_next ?_ (F.args_enumerate_next_1 _))))
  show wpAny _ _ (field (.ref e) 2 >>= _) _ _ _
  refine wpAny_bind (wpAny_field he rfl (x := .ref it) rfl ?_)
  refine wpAny_bind (PySem.wpAny_nextOf_tuple_end hh hit hl hx fun h' x he' hx' => ?_)
  obtain ⟨o, ho, hc⟩ := hx'
  refine wpAny_bind (wpAny_isInstance (T := "StopIteration") (b := true) ⟨o, ho, hc⟩ isSubtype_stop ?_)
  exact wpAny_pure (hQ _ he')
/-- the tuple at a, each item in a new pair -/
def IteT (K : PySem.W.Frag) (a : Addr) : It :=
  ⟨fun i H => ∃ (xs : List V) (x : V), SqT K H a xs ∧ xs[i]? = some x, fun i H v H' => ∃ T x, v = .ref T ∧ H T = none ∧ H' = upd H T (.tup [.int (i : Nat), x]) ∧ ∀ xs, SqT K H a xs → xs[i]? = some x, fun i H => ∃ xs : List V, SqT K H a xs ∧ xs.length ≤ i⟩
theorem turn_enumT {P : Program} {w : World} {K : PySem.W.Frag} {elts : List Expr} {kk : Nat} {tpos : Pos} (a e it : Addr) (hea : e ≠ a) (hta : a ≠ it) :
    Turn P w K (.Tuple elts kk tpos) (IteT K a) [e, it] e (fun i h => (∃ old, IsEnum h e it ((i : Nat) : Int) old) ∧ h.IsTupleIter it a i ∧ e ≠ it) where
  mem := by simp
  obj := fun i h st b hb => by
    obtain ⟨⟨old, he⟩, ⟨o, ho, hc, hd⟩, _⟩ := st
    have e' : b = e ∨ b = it := by simpa using hb
    rcases e' with z | z
    · rw [z]; exact ⟨_, he, fun v q => nomatch q⟩
    · rw [z]; exact ⟨o, ho, fun v q => by rw [hd] at q; cases q⟩
  keep := fun i h h' st k => let ⟨⟨old, he⟩, hi, hne⟩ := st; ⟨⟨old, k e (by simp) _ he⟩, hi.at fun o q => k it (by simp) o q, hne⟩
  item := by
    intro X hP hw hK hc i pins s σ H E I hf st hg
    subst hP hw hK
    obtain ⟨⟨old, he⟩, hit, hne⟩ := st
    obtain ⟨xs, x, hq, hx⟩ := hg
    obtain ⟨its, rv, p, hz⟩ := I.tuple hq
    obtain ⟨u, hu, ru⟩ := rv.get hx
    have hel : e < s.heap.objs.size := Heap.lt_size he
    have hil : it < s.heap.objs.size := by obtain ⟨_, q, _⟩ := hit; exact Heap.lt_size q
    have hD := PySem.Draws.tuple (prog := X.prog) (w := X.w) (A := X.A.in1) (I.ok.hd hc) it a hta its.toArray
    have hi : i < its.toArray.size := by
      have := (List.getElem?_eq_some_iff.mp hu).1
      simpa using this
    refine wpAny_pyNext_enum_itemD hD he ⟨hit, p⟩ hi hne (by simp; exact ⟨hne, hea⟩) fun x' h' tk hPx ho hst' hT hsz hk => ?_
    have hx' : x' = u := by
      have e1 : its.toArray[i]? = some x' := hPx
      have e2 : its.toArray[i]? = some u := by simpa using hu
      rw [e1] at e2
      exact Option.some.inj e2
    subst hx'
    refine ⟨_, rfl, wpAny_letOwnedTupleGo_enum (s := { s with heap := h', toks := tk + 1 }) ho fun h'' he' sb => ?_⟩
    have hT2 : h''.get? s.heap.objs.size = some { cls := .type "tuple", data := .seq #[.int i tk, x'] } := (sb.2 _ (Nat.ne_of_gt hel)).trans hT
    have new : ObjOk X.prog X.w (upd H s.heap.objs.size (.tup [.int (i : Nat), x])) h'' s.heap.objs.size (.tup [.int (i : Nat), x]) :=
      ⟨by show 2 ≤ sizeLine; decide, [.int i tk, x'], .cons ⟨_, rfl⟩ (.cons ru .nil), ⟨_, hT2, rfl, _, rfl⟩⟩
    have I1 : Inv X pins σ (upd H s.heap.objs.size (.tup [.int (i : Nat), x])) { s with heap := h'', toks := tk + 1 } :=
      I.turnedNew (ch := [e, it]) (fun b ob hb q => (sb.2 b (fun z => hb (by simp [z]))).trans (hk b ob (fun z => hb (by simp [z])) (fun z => hb (by simp [z])) q)) hf (Nat.le_refl _) new
    refine ⟨.ref s.heap.objs.size, _, I1, rfl, ⟨_, x, rfl, I.hok.fresh (Nat.le_refl _), rfl, fun ys hy => ?_⟩, ⟨⟨x', ?_⟩, hst'.1.at fun o q => (sb.2 it (Ne.symm hne)).trans q, hne⟩, fun b hb => ?_⟩
    · rw [I.tuple_inj hy hq]; exact hx
    · have e1 : ((i + 1 : Nat) : Int) = (i : Int) + 1 := by omega
      rw [e1]; exact he'
    · have hb' : b < s.heap.objs.size := by
        have e' : b = e ∨ b = it := by simpa using hb
        rcases e' with z | z
        · rw [z]; exact hel
        · rw [z]; exact hil
      rw [upd_ne (Nat.ne_of_lt hb')]
      exact (hf b hb).1
  done := by
    intro X hP hw hK hc i pins s σ H E I hf st hg
    subst hP hw hK
    obtain ⟨⟨old, he⟩, hit, hne⟩ := st
    obtain ⟨xs, hq, hx⟩ := hg
    obtain ⟨its, rv, p, hz⟩ := I.tuple hq
    obtain ⟨f0, f1, f2, f3, f4, f5⟩ := hf it (by simp)
    have hl := rv.length
    exact pyNext_enum_endT (I.ok.hd hc) he hit p (by simp; omega) fun h' eb => ⟨rfl, I.turned (t' := s.toks) (fun b o hb q => eb b o hb q) f0 f1 f3 f4 f5⟩
  self := fun A i s Q E st h => let ⟨⟨_, he⟩, _⟩ := st; wpAny_pyIter_enum he h
section
variable {K : PySem.W.Frag} {a : Addr} {xs : List V}
theorem walk_enumT : Walk (IteT K a) xs.length (fun H => SqT K H a xs) (YPair (fun i => some (.int (i : Nat))) (fun i => xs[i]?)) := by
  refine ⟨fun i _ hi q => ⟨xs, xs[i], q, by simp [hi]⟩, fun _ q => ⟨xs, q, Nat.le_refl _⟩, fun i H v H' _ q y => ?_⟩
  obtain ⟨T, x, h1, h2, h3, h4⟩ := y
  exact ⟨T, .int (i : Nat), x, h1, h2, h3, rfl, h4 xs q⟩
end
def iEnumB (K : PySem.W.Frag) (ta : TA) : TI := fun σ H R => ta σ H fun vs H1 => ∃ a xs, vs = [.ref a] ∧ ((SqL K H1 a xs ∧ R (Ite K a) H1) ∨ (SqT K H1 a xs ∧ R (IteT K a) H1))
theorem pi_enumB {X : Cx} {e : Expr} {ta : TA} {p pos tpos : Pos} {elts : List Expr} {kk : Nat} (hg : Gl X "enumerate") (hm : X.mg "enumerate" = none) (ha : PA X [e] ta) (hs : starEach [e] X.env = [(false, eval e X.env)]) :
    PI X (.Tuple elts kk tpos) (.Call (.Name "enumerate" p) [e] [] pos) (iEnumB X.K ta) := by
  refine ⟨fun pins s σ H R I h => ?_⟩
  refine Call_ (ld_blt I hg hm boot_enumerate (PyProof.Rows.callWith_type1 (thn (ha.run pos pins s σ H _ I h) fun us s1 ⟨vs, H1, I1, r1, q1⟩ => ?_) hs rfl))
  obtain ⟨a, xs, ex, hq⟩ := q1
  subst ex
  cases r1 with
  | cons r rr =>
    cases rr
    cases r
    rcases hq with ⟨hq, q⟩ | ⟨hq, q⟩
    · obtain ⟨its, rv, p', hz⟩ := I1.list hq
      refine call_enumerate_list p'.isList fun h' he hit hsz hk => wpAny_pyIter_enum he ?_
      have I2 : Inv X pins σ H1 { s1 with heap := h' } := I1.kept (t' := s1.toks) hk
      refine ⟨s1.heap.objs.size + 1, [s1.heap.objs.size + 1, s1.heap.objs.size], _, _, H1, rfl, I2, turn_enum a (s1.heap.objs.size + 1) s1.heap.objs.size, ⟨⟨.none, he⟩, hit, Nat.succ_ne_self _⟩, fun b hb => ?_, q⟩
      have e' : b = s1.heap.objs.size + 1 ∨ b = s1.heap.objs.size := by simpa using hb
      have hle : s1.heap.objs.size ≤ b := by
        rcases e' with z | z
        · rw [z]; exact Nat.le_add_right _ _
        · rw [z]; exact Nat.le_refl _
      exact I1.fpOk hle (I1.hok.fresh hle)
    · obtain ⟨its, rv, p', hz⟩ := I1.tuple hq
      have al : a < s1.heap.objs.size := by obtain ⟨_, q, _⟩ := p'; exact Heap.lt_size q
      refine enum_begins1 (PySem.begins_tuple a its.toArray) p' fun h' he hit hsz hk => wpAny_pyIter_enum he ?_
      have I2 : Inv X pins σ H1 { s1 with heap := h' } := I1.kept (t' := s1.toks) hk
      refine ⟨s1.heap.objs.size + 1, [s1.heap.objs.size + 1, s1.heap.objs.size], _, _, H1, rfl, I2, turn_enumT a (s1.heap.objs.size + 1) s1.heap.objs.size (Nat.ne_of_gt (Nat.lt_succ_of_lt al)) (Nat.ne_of_lt al), ⟨⟨.none, he⟩, ⟨_, hit, rfl, rfl⟩, Nat.succ_ne_self _⟩, fun b hb => ?_, q⟩
      have e' : b = s1.heap.objs.size + 1 ∨ b = s1.heap.objs.size := by simpa using hb
      have hle : s1.heap.objs.size ≤ b := by
        rcases e' with z | z
        · rw [z]; exact Nat.le_add_right _ _
        · rw [z]; exact Nat.le_refl _
      exact I1.fpOk hle (I1.hok.fresh hle)
section
variable {X : Cx} {env : PEnv} {e : Expr} {m : PM (PV × Bool)}
/-- enumerate of a list, a tuple, the target a tuple of names -/
theorem si_enum {elts : List Expr} {kk : Nat} {tpos p2 pos2 : Pos} (hg : Gl X "enumerate") (hm : X.mg "enumerate" = none) (hs : notStar e = true) (h : SE X env e m false) :
    SI X env (.Tuple elts kk tpos) (.Call (.Name "enumerate" p2) [e] [] pos2) (PM.bind m fun r => PM.bind (kLT r.1) fun xs => PM.pure (enumP 0 xs)) true := by
  refine ⟨_, pi_enumB hg hm (pa_cons pe_wk pa_nil (star_cons hs)) (star_cons hs), fun σ w0 w ph R W tk f r q => ?_⟩
  refine h.kp tk f r (Ev.refl w) q fun p ph1 v w1 e1 f1 r1 a1 q1 => ?_
  rw [sat_bind'] at q1
  cases ep : p.1 with
  | lst xs =>
    rw [ep] at q1 a1
    have hk : ∀ J w1 G Y, Ev w w1 → Wf X.K w1 ph1 → EnvR X.K w0 w1 env σ → Walk J (enumP 0 xs).length G Y → (∀ w2, Sle w1 w2 → G w2.H) → (∀ i H x H', Y i H x H' → Item X.K w1 (enumP 0 xs) true i H x H') → R J w1.H := q1
    rw [Rel] at a1
    obtain ⟨a, vs, rfl, ⟨z1, z2⟩, ra⟩ := a1
    refine ⟨a, vs, rfl, .inl ⟨.inl z2, ?_⟩⟩
    have hl := ra.length
    refine hk _ w1 (fun H => SqL X.K H a vs) (YPair (fun i => some (.int (i : Nat))) (fun i => vs[i]?)) e1 f1 r1 (by rw [enumP_len, hl]; exact walk_enum) (fun w2 sl => .inl (sl.rd z1 z2)) fun i H x H' ⟨T, y1, y2, h1, h2, h3, h4, h5⟩ => ?_
    obtain ⟨p, g1, g2⟩ := ra.getV h5
    cases h4
    refine ⟨T, _, y2, .int ((0 + i : Nat) : Int), p, h1, h2, h3, enumP_get g1, ?_, g2⟩
    rw [Rel]
    simp
  | tup xs =>
    rw [ep] at q1 a1
    have hk : ∀ J w1 G Y, Ev w w1 → Wf X.K w1 ph1 → EnvR X.K w0 w1 env σ → Walk J (enumP 0 xs).length G Y → (∀ w2, Sle w1 w2 → G w2.H) → (∀ i H x H', Y i H x H' → Item X.K w1 (enumP 0 xs) true i H x H') → R J w1.H := q1
    rw [Rel] at a1
    obtain ⟨a, vs, rfl, z, ra⟩ := a1
    refine ⟨a, vs, rfl, .inr ⟨sqT_of z, ?_⟩⟩
    have hl := ra.length
    refine hk _ w1 (fun H => SqT X.K H a vs) (YPair (fun i => some (.int (i : Nat))) (fun i => vs[i]?)) e1 f1 r1 (by rw [enumP_len, hl]; exact walk_enumT) (fun w2 sl => ?_) fun i H x H' ⟨T, y1, y2, h1, h2, h3, h4, h5⟩ => ?_
    · rcases z with ⟨z, o, z1, z2⟩ | z
      · exact .inl (sl.rd z (.inr ⟨o, z1⟩))
      · exact z.sq _
    · obtain ⟨p, g1, g2⟩ := ra.getV h5
      cases h4
      refine ⟨T, _, y2, .int ((0 + i : Nat) : Int), p, h1, h2, h3, enumP_get g1, ?_, g2⟩
      rw [Rel]
      simp
  | _ => rw [ep] at q1; exact (show False from q1).elim
end
end Py

set_option Elab.async false
set_option linter.all false
set_option maxRecDepth 100000
set_option maxHeartbeats 1000000
/-! PyI: list comprehensions; displays of dicts. -/
namespace Py
open PySem L2
open PyProof.Rows hiding St
section
variable {K : PySem.W.Frag} {w w1 w2 : Ws} {ph : PH} {p : Addr} {o : HO}
theorem ev_wr (e : Ev w1 w) (h : w1.H p = none) : Ev w1 (w.lay p o) :=
  ⟨e.pre, e.S1, e.S2, fun x u q hx => by
    show upd w.H p o x = some u
    rw [upd_ne (ne_of_none q h)]
    exact e.keep x u q hx, fun x q => upd_none (e.trk x q)⟩
theorem sle_wr (h : ¬ w.S p) : Sle w (w.lay p o) := ⟨⟨[], by simp [Ws.lay]⟩, fun _ h => h, fun x u s q => by
  show upd w.H p o x = some u
  rw [upd_ne (fun e : x = p => h (e ▸ s))]
  exact q⟩
theorem wf_wr (f : Wf K w ph) (hn : p ∉ w.ρ) (hs : ¬ w.S p) : Wf K (w.lay p o) ph := by
  refine ⟨fun x h => upd_none (f.Sin x h), f.Sρ, fun x h => upd_none (f.ρin x h), f.nd, f.len, fun k u x e h => ?_⟩
  have hx : x ∈ w.ρ := List.mem_of_getElem? h
  show RelO K _ u (upd w.H p o x)
  rw [upd_ne (fun q : x = p => hn (q ▸ hx))]
  exact (f.box k u x e h).mono (sle_wr hs)
/-- an object that is neither frozen nor a box, behind an evolution -/
theorem Ev.at (e : Ev w w1) (h : w.H p = some o) (hn : p ∉ w.ρ) (hs : ¬ w.S p) : w1.H p = some o ∧ p ∉ w1.ρ ∧ ¬ w1.S p := by
  obtain ⟨t, et, nt⟩ := e.pre
  refine ⟨e.keep p o h hn, fun hz => ?_, fun hz => ?_⟩
  · rw [et] at hz
    rcases List.mem_append.mp hz with hz | hz
    · exact hn hz
    · rw [nt p hz] at h; cases h
  · rcases e.S2 p hz with hz | hz
    · exact hs hz
    · rw [hz] at h; cases h
end
def wkTs (X : Cx) (ifs : List Expr) : TT := fun σ H Q => ∀ (pins : List (Addr × Obj)) (s : Shared), Inv X pins σ H s →
    wpAny (model X.prog X.w) X.A (forIn ifs true fun c r => if r = true then do let ok ← isTrue c X.env (eval c X.env); pure (ForInStep.yield ok) else pure (ForInStep.yield r)) (TP X pins σ Q) X.xe s
def STs (X : Cx) (env : PEnv) (ifs : List Expr) (m : PM Bool) : Prop :=
  ∀ (σ : St) (w0 w : Ws) (ph : PH) (Q : Bool → Hp → Prop) (W : WX), Takes X W → Wf X.K w ph → EnvR X.K w0 w env σ →
    Sat (m ph) (fun b ph1 => ∀ w', Ev w w' → Wf X.K w' ph1 → Q b w'.H) (exV X.K w W σ) → wkTs X ifs σ w.H Q
section
variable {X : Cx} {env : PEnv} {e : Expr} {m : PM (PV × Bool)} {σ : St} {w0 w wb : Ws} {ph : PH} {Q : VK} {W : WX} {B : Bool} {pos p : Pos}
theorem sts_nil : STs X env [] (PM.pure true) := fun σ w0 w ph Q W tk f r q pins s I => pts_nil.run pins s σ w.H Q I ((sat_pure.mp q) w (Ev.refl w) f)
theorem sts_one (h : ST X env e m) : STs X env [e] (PM.bind (evalV m) kBl) := fun σ w0 w ph Q W tk f r q pins s I => by
  refine (pts_one pt_wk).run pins s σ w.H Q I ?_
  refine h σ w0 w ph Q W tk f r ?_
  rw [sat_bind'] at q
  unfold evalV at q
  rw [sat_bind'] at q
  refine q.mono (fun p ph1 h => ?_) fun _ _ z => z
  have h : Sat (kBl p.1 ph1) (fun b ph1 => ∀ w', Ev w w' → Wf X.K w' ph1 → Q b w'.H) (exV X.K w W σ) := h
  cases ep : p.1 with
  | bl b => rw [ep] at h; exact ⟨b, rfl, h⟩
  | _ => rw [ep] at h; exact (show False from h).elim
theorem SE.kpE {β : Type} {k : PV × Bool → PM β} {R : β → PH → Prop} {E : PEx → PH → Prop} {T : VK} (h : SE X env e m false) (tk : Takes X W) (f : Wf X.K w ph) (r : EnvR X.K w0 w env σ)
    (q : Sat (PM.bind m k ph) R E) (hE : ∀ x p, E x p → exV X.K w W σ x p)
    (n : ∀ p ph1 v w1, Ev w w1 → Wf X.K w1 ph1 → EnvR X.K w0 w1 env σ → Rel X.K w1 p.1 v → Sat (k p ph1) R E → T v w1.H) : wk X e σ w.H T :=
  h.keep tk f r ((sat_bind'.mp q).mono (fun p ph1 hk v w1 e1 f1 r1 rel => n p ph1 v w1 e1 f1 r1 rel hk) hE)
theorem lcLoop_cons {F : PV → PM (Option PV)} {x : PV} {xs : List PV} : lcLoop F (x :: xs) = PM.bind (F x) fun r => PM.bind (lcLoop F xs) fun ys => PM.pure (match r with | some y => y :: ys | none => ys) := rfl
/-- what a comprehension needs -/
structure LcOk (X : Cx) (env : PEnv) (etg eit elt : Expr) (ifs : List Expr) (scope : Scope) (own : List (Str × Nat)) (mi : PM (List PV)) (mt : PEnv → PM Bool) (me : PEnv → PM (PV × Bool)) (tg : Tg) (pr : Bool) (g : TG) : Prop where
  hc : X.calm = true
  hN : X.N.Nodup
  ok : BlkOk X.N X.env.scope scope own
  hs : notSetD eit = true
  hi : SI X env etg eit mi pr
  hg : ∀ (s : Shared) (H : Hp) (C : Addr) (cl : List (Str × Addr)) (fp : List Addr), PG (X.blk s H scope (compEnvC scope cl C X.env) fp) etg g
  sg : SG X.K g tg pr
  hsub : ∀ i ∈ tgSet tg, i ∈ own.map (·.2)
  ht : ∀ (s : Shared) (H : Hp) (C : Addr) (cl : List (Str × Addr)) (fp : List Addr) (env' : PEnv), STs (X.blk s H scope (compEnvC scope cl C X.env) fp) env' ifs (mt env')
  he : ∀ (s : Shared) (H : Hp) (C : Addr) (cl : List (Str × Addr)) (fp : List Addr) (env' : PEnv), SE (X.blk s H scope (compEnvC scope cl C X.env) fp) env' elt (me env') false
variable {own : List (Str × Nat)} {scope : Scope} {etg eit elt : Expr} {ifs : List Expr} {mi : PM (List PV)} {mt : PEnv → PM Bool} {me : PEnv → PM (PV × Bool)} {tg : Tg} {pr : Bool} {g : TG}
def ttB (X : Cx) (scope : Scope) (ifs : List Expr) : TT := fun σ H Q => ∀ (s : Shared) (H0 : Hp) (C : Addr) (cl : List (Str × Addr)) (fp : List Addr), wkTs (X.blk s H0 scope (compEnvC scope cl C X.env) fp) ifs σ H Q
def teB (X : Cx) (scope : Scope) (elt : Expr) : TE := fun σ H Q => ∀ (s : Shared) (H0 : Hp) (C : Addr) (cl : List (Str × Addr)) (fp : List Addr), wk (X.blk s H0 scope (compEnvC scope cl C X.env) fp) elt σ H Q
def lcM (env : PEnv) (own : List Nat) (mi : PM (List PV)) (mt : PEnv → PM Bool) (me : PEnv → PM (PV × Bool)) (tg : Tg) : PM (PV × Bool) :=
  PM.bind mi fun xs => PM.bind (PM.calm (lcLoop (fun x => lcTurn mt me (bindTg tg x (wipeE env own))) xs)) fun ys => if ys.length < sizeLine then PM.pure (.lst ys, true) else PM.stuck
theorem LcOk.tlc (L : LcOk X env etg eit elt ifs scope own mi mt me tg pr g) : ∃ wi, PI X etg eit wi ∧ ∀ (σ : St) (w0 w : Ws) (ph : PH) (Q : VK) (W : WX), Takes X W → Wf X.K w ph → EnvR X.K w0 w env σ → Sat (lcM env (own.map (·.2)) mi mt me tg ph) (okV X.K w Q false) (exV X.K w W σ) →
    tLc wi g (ttB X scope ifs) (teB X scope elt) (own.map (·.2)) σ w.H Q := by
  obtain ⟨hc, hN, ok, hs, hi, hg, sg, hsub, ht, he⟩ := L
  obtain ⟨wi, pi, hi⟩ := hi
  refine ⟨wi, pi, fun σ w0 w ph Q W tk f r q => ?_⟩
  refine hi σ w0 w ph _ W tk f r ((sat_bind'.mp q).mono (fun xs ph1 q1 J w1 G Y e1 f1 r1 wlk hG hY => ?_) fun _ _ z => z)
  intro D hD
  have q2 := sat_calm (sat_bind'.mp q1)
  refine lc_it (g := g) (tt := ttB X scope ifs)
    (te := teB X scope elt) (vs := own.map (·.2)) (σ := σ) (H1 := w1.H) (D := D) (Qd := fun H => Q (.ref D) H) wlk (fun i H => ∃ wi phi ps acc, wi.H = H ∧ Ev w1 wi ∧ Wf X.K wi phi ∧ H D = some (.lst acc) ∧ D ∉ wi.ρ ∧ ¬ wi.S D ∧ Rels X.K wi ps acc ∧
    Sat (lcLoop (fun x => lcTurn mt me (bindTg tg x (wipeE env (own.map (·.2))))) (xs.drop i) phi) (fun ys ph2 => Sat ((if (ps ++ ys).length < sizeLine then PM.pure (.lst (ps ++ ys), true) else PM.stuck : PM (PV × Bool)) ph2) (okV X.K w Q false) (exV X.K w W σ)) (fun _ _ => False)) ?_ ?_ ?_ ?_
  · exact ⟨w1.lay D (.lst []), ph1, [], [], rfl, ev_lay hD, wf_lay f1 hD, upd_same, fun h => f1.ρin D h hD, fun h => f1.Sin D h hD, .nil, q2⟩
  · rintro i H hi' ⟨wi, phi, ps, acc, rfl, ei, _⟩
    exact hG wi (ei.sle f1)
  · rintro i x H H' hi' ⟨wi, phi, ps, acc, rfl, ei, fi, hDi, nρ, nS, ra, qi⟩ y
    have it := hY i wi.H x H' y
    have hp : xs[i]? = some xs[i] := List.getElem?_eq_getElem hi'
    rw [List.drop_eq_getElem_cons hi', lcLoop_cons, sat_bind'] at qi
    cases hb : bindTg tg xs[i] (wipeE env (own.map (·.2))) with
    | none =>
      rw [hb] at qi
      exact (show False from qi).elim
    | some env' =>
      rw [hb] at qi
      refine sg w0 wi w1 phi _ env' (L2.wipe σ (own.map (·.2))) xs i x H' _ _ fi ((r1.mono f1 ei).wipe _) (ei.sle f1) it hp hb fun σ2 w2 eH e2 hρ hS f2 r2 hl hj => ?_
      refine ⟨wipe_idem (by rw [hl, wipe_length]) fun j hjn => hj j fun h => hjn (hsub j h), ?_⟩
      intro s H0 C cl fp
      have qi' := sat_bind'.mp qi
      refine ht s H0 C cl fp env' σ2 w0 w2 phi _ (fun _ _ _ _ => False) takes_false f2 r2 (qi'.mono (fun b ph2 qb w3 e3 f3 => ?_) fun _ _ z => z.elim)
      have e23 := e2.trans e3
      obtain ⟨hD3, nρ3, nS3⟩ := e23.at hDi nρ nS
      cases b with
      | false =>
        rw [if_neg (by decide)]
        exact ⟨w3, ph2, ps, acc, rfl, ei.trans e23, f3, hD3, nρ3, nS3, Rels.mono (e23.sle fi) _ _ ra, sat_bind'.mp (sat_pure.mp qb)⟩
      | true =>
        rw [if_pos rfl]
        intro s H0 C cl fp
        have qb' : Sat (PM.bind (me env') (fun r => PM.bind (lcLoop (fun x => lcTurn mt me (bindTg tg x (wipeE env (own.map (·.2))))) (xs.drop (i + 1))) fun ys => PM.pure (r.1 :: ys)) ph2)
            (fun ys ph2 => Sat ((if (ps ++ ys).length < sizeLine then PM.pure (.lst (ps ++ ys), true) else PM.stuck : PM (PV × Bool)) ph2) (okV X.K w Q false) (exV X.K w W σ)) (fun _ _ => False) := by
          rw [sat_bind']
          have := sat_bind'.mp (show Sat (PM.bind (me env') (fun r => PM.pure (some r.1)) ph2) _ _ from qb)
          exact this.mono (fun _ _ z => z) fun _ _ z => z
        refine (he s H0 C cl fp env').kpE takes_false f3 (r2.mono f2 e3) qb' (fun _ _ z => z.elim) fun pv ph4 v w4 e4 f4 r4 a4 q4 => ?_
        obtain ⟨hD4, nρ4, nS4⟩ := e4.at hD3 nρ3 nS3
        have e24 := e23.trans e4
        have ra4 := Rels.mono (e24.sle fi) _ _ ra
        have q5 := sat_bind'.mp q4
        have q6 : Sat (lcLoop (fun x => lcTurn mt me (bindTg tg x (wipeE env (own.map (·.2))))) (xs.drop (i + 1)) ph4) (fun ys ph2 => Sat ((if ((ps ++ [pv.1]) ++ ys).length < sizeLine then PM.pure (.lst ((ps ++ [pv.1]) ++ ys), true) else PM.stuck : PM (PV × Bool)) ph2) (okV X.K w Q false) (exV X.K w W σ)) (fun _ _ => False) :=
          q5.mono (fun ys ph5 z => by rw [List.append_assoc]; exact sat_pure.mp z) fun _ _ z => z
        obtain ⟨ys, ph5, _, hk⟩ := sat_ok q6
        have hlt : ps.length < sizeLine := by
          by_cases c : ((ps ++ [pv.1]) ++ ys).length < sizeLine
          · simp only [List.length_append] at c
            omega
          · rw [if_neg c] at hk
            exact (show False from hk).elim
        refine ⟨acc, hD4, by rw [← ra4.length]; exact hlt, w4.lay D (.lst (acc ++ [v])), ph4, ps ++ [pv.1], acc ++ [v], rfl, ev_wr (ei.trans e24) hD, wf_wr f4 nρ4 nS4, upd_same, nρ4, nS4, ?_, q6⟩
        exact Rels.mono (sle_wr nS4) _ _ (ra4.append (.one a4))
  · rintro H ⟨wi, phi, ps, acc, rfl, ei, fi, hDi, nρ, nS, ra, qi⟩
    rw [List.drop_length] at qi
    have qi := sat_pure.mp qi
    rw [List.append_nil] at qi
    by_cases c : ps.length < sizeLine
    · rw [if_pos c] at qi
      exact (sat_pure.mp qi) (.ref D) wi (e1.trans ei) fi ⟨D, ps, acc, rfl, rfl, hDi, nS, ev_back e1 hD, nρ, ra⟩
    · rw [if_neg c] at qi
      exact (show False from qi).elim
theorem ttB_ok (s : Shared) (H : Hp) (C : Addr) (cl : List (Str × Addr)) (fp : List Addr) : PTs (X.blk s H scope (compEnvC scope cl C X.env) fp) ifs (ttB X scope ifs) := ⟨fun pins s' σ' H' Q' I h => h s H C cl fp pins s' I⟩
theorem teB_ok (s : Shared) (H : Hp) (C : Addr) (cl : List (Str × Addr)) (fp : List Addr) : PE (X.blk s H scope (compEnvC scope cl C X.env) fp) elt (teB X scope elt) := ⟨fun pins s' σ' H' Q' I h => h s H C cl fp pins s' I⟩
theorem se_lc (L : LcOk X env etg eit elt ifs scope own mi mt me tg pr g) : SE X env (.ListComp elt [⟨etg, eit, ifs, 0⟩] scope pos) (lcM env (own.map (·.2)) mi mt me tg) false := by
  intro σ w0 w ph Q W tk f r q
  obtain ⟨wi, pi, h⟩ := L.tlc
  exact wk_of (pe_lc L.hc L.hN pi L.ok L.hg ttB_ok teB_ok (folded_no L.hs)) (h σ w0 w ph Q W tk f r q)
end
end Py

set_option Elab.async false
set_option linter.all false
set_option maxRecDepth 100000
set_option maxHeartbeats 1000000
/-! PyJ: displays of dicts, written dicts. -/
namespace Py
open PySem L2
open PyProof.Rows hiding St
/-! ### dict displays -/
def flatP : List (V × V) → List V
  | [] => []
  | (x, y) :: r => x :: y :: flatP r
theorem pkey_some {K : PySem.W.Frag} {w : Ws} {p : PV} {k : Key} {v : V} (h : pkey p = some k) (r : Rel K w p v) : v = kV k := by
  cases p with
  | int i => cases h; rw [Rel] at r; exact r
  | str i => cases h; rw [Rel] at r; exact r
  | _ => cases h
theorem dput_put {K : PySem.W.Frag} {w : Ws} {k : Key} {p : PV} {v : V} (rv : Rel K w p v) : ∀ {ks : List Key} {xs : List PV} {vs : List V}, ks.length = vs.length → ks.Nodup → Rels K w xs vs →
    ∃ vs', (dput k p ks xs).1.zip vs' = putK (ks.zip vs) k v ∧ (dput k p ks xs).1.length = vs'.length ∧ Rels K w (dput k p ks xs).2 vs' ∧ (dput k p ks xs).1.Nodup ∧ ∀ y, y ∈ (dput k p ks xs).1 → y ∈ ks ∨ y = k
  | [], [], [], _, _, _ => ⟨[v], by simp [dput, putK], by simp [dput], .one rv, by simp [dput], by simp [dput]⟩
  | k' :: ks, x :: xs, u :: vs, hl, hn, r => by
    rw [Rels] at r
    simp only [List.nodup_cons] at hn
    unfold dput
    by_cases e : k = k'
    · subst e
      rw [if_pos rfl]
      refine ⟨v :: vs, ?_, by simpa using hl, .cons rv r.2, by simp [hn.1, hn.2], fun y hy => .inl hy⟩
      unfold putK
      rw [if_pos (by simp)]
      show (k, v) :: ks.zip vs = List.map _ ((k, u) :: ks.zip vs)
      rw [List.map_cons, if_pos rfl]
      congr 1
      have : ∀ q ∈ ks.zip vs, (if q.1 = k then (q.1, v) else q) = q := fun q hq => by
        rw [if_neg]
        intro e
        exact hn.1 (e ▸ (List.of_mem_zip hq).1)
      rw [List.map_congr_left this, List.map_id']
    · rw [if_neg e]
      obtain ⟨vs', h1, h2, h3, h4, h5⟩ := dput_put (k := k) rv (by simpa using hl) hn.2 r.2
      refine ⟨u :: vs', ?_, by simpa using h2, .cons r.1 h3, ?_, fun y hy => ?_⟩
      · show (k', u) :: (dput k p ks xs).1.zip vs' = putK ((k', u) :: ks.zip vs) k v
        rw [h1]
        unfold putK
        have e' : ¬ k' = k := fun h => e h.symm
        simp only [List.any_cons, decide_eq_false e', Bool.false_or]
        split
        · rw [List.map_cons, if_neg e']
        · rfl
      · simp only [List.nodup_cons]
        refine ⟨fun hm => ?_, h4⟩
        rcases h5 _ hm with h | h
        · exact hn.1 h
        · exact e h.symm
      · rcases List.mem_cons.mp hy with h | h
        · exact .inl (by simp [h])
        · rcases h5 _ h with h | h
          · exact .inl (by simp [h])
          · exact .inr h
  | [], [], _ :: _, hl, _, _ => by simp at hl
  | _ :: _, [], [], hl, _, _ => by simp at hl
  | _ :: _, _ :: _, [], hl, _, _ => by simp at hl
  | [], _ :: _, [], _, _, r => by simp [Rels] at r
  | _ :: _, [], _ :: _, _, _, r => by simp [Rels] at r
  | [], _ :: _, _ :: _, hl, _, _ => by simp at hl
theorem dispD_merge {K : PySem.W.Frag} {w : Ws} : ∀ {ps : List PV} {prs : List (V × V)} {ks0 : List Key} {xs0 : List PV} {vs0 : List V} {r : List Key × List PV}, Rels K w ps (flatP prs) → ks0.length = vs0.length → ks0.Nodup → Rels K w xs0 vs0 → dispD ps ks0 xs0 = some r →
    ∃ (kvs : List (Key × V)) (vs : List V), prs = kvs.map (fun kv => (kV kv.1, kv.2)) ∧ r.1.zip vs = mergeK (ks0.zip vs0) kvs ∧ r.1.length = vs.length ∧ Rels K w r.2 vs
  | [], [], ks0, xs0, vs0, r, _, hl, _, h0, h => by
    cases h
    exact ⟨[], vs0, rfl, rfl, hl, h0⟩
  | a :: b :: ps, (x, y) :: prs, ks0, xs0, vs0, r, hr, hl, hn, h0, h => by
    unfold flatP at hr
    rw [Rels, Rels] at hr
    unfold dispD at h
    cases e : pkey a with
    | none => rw [e] at h; cases h
    | some k =>
      rw [e] at h
      have ex := pkey_some e hr.1
      subst ex
      obtain ⟨vs', h1, h2, h3, h4, _⟩ := dput_put (k := k) hr.2.1 hl hn h0
      obtain ⟨kvs, vs, g1, g2, g3, g4⟩ := dispD_merge hr.2.2 h2 h4 h3 h
      refine ⟨(k, y) :: kvs, vs, by rw [g1]; rfl, ?_, g3, g4⟩
      rw [g2, h1]
      rfl
  | [], (_, _) :: _, _, _, _, _, hr, _, _, _, _ => by simp [flatP, Rels] at hr
  | [_], [], _, _, _, _, hr, _, _, _, _ => by simp [flatP, Rels] at hr
  | [_], (_, _) :: _, _, _, _, _, hr, _, _, _, _ => by simp [flatP, Rels] at hr
  | _ :: _ :: _, [], _, _, _, _, hr, _, _, _, _ => by simp [flatP, Rels] at hr
section
variable {X : Cx} {env : PEnv} {e ek ev : Expr} {m mk mv : PM (PV × Bool)} {ml : PM (List PV)} {σ : St} {w0 w wb : Ws} {ph : PH} {Q : VK} {W : WX} {B : Bool} {pos p : Pos}
/-- at the pairs of a display -/
def SD (X : Cx) (env : PEnv) (pos : Pos) (keys : List (Option Expr)) (values : List Expr) (ml : PM (List PV)) : Prop := ∃ trs, PPs X pos keys values trs ∧
  ∀ (σ : St) (w0 w : Ws) (ph : PH) (T : List (V × V) → Hp → Prop) (W : WX), Takes X W → Wf X.K w ph → EnvR X.K w0 w env σ →
    Sat (ml ph) (fun ps ph1 => ∀ prs w1, prs.length = keys.length → Ev w w1 → Wf X.K w1 ph1 → EnvR X.K w0 w1 env σ → Rels X.K w1 ps (flatP prs) → T prs w1.H) (exV X.K w W σ) → tPairs trs σ w.H T
theorem sd_nil : SD X env pos [] [] (PM.pure []) := ⟨[], pps_nil, fun σ w0 w ph T W tk f r q => (sat_pure.mp q) [] w rfl (Ev.refl w) f r .nil⟩
theorem sd_cons {ks : List (Option Expr)} {vs : List Expr} (hk : SE X env ek mk false) (hv : SE X env ev mv false) (ht : SD X env pos ks vs ml) :
    SD X env pos (some ek :: ks) (ev :: vs) (PM.bind mk fun r => PM.bind (PM.bind mv fun r => PM.bind ml fun rs => PM.pure (r.1 :: rs)) fun rs => PM.pure (r.1 :: rs)) := by
  obtain ⟨trs, pp, ht⟩ := ht
  refine ⟨_, pps_cons pe_wk pe_wk pp, fun σ w0 w ph T W tk f r q => ?_⟩
  refine hk.kp tk f r (Ev.refl w) q fun p ph1 x w1 e1 f1 r1 a1 q1 => ?_
  have q1' : Sat (PM.bind mv (fun r => PM.bind ml fun rs => PM.pure (p.1 :: r.1 :: rs)) ph1) (fun ps ph1 => ∀ prs w1, prs.length = (some ek :: ks).length → Ev w w1 → Wf X.K w1 ph1 → EnvR X.K w0 w1 env σ → Rels X.K w1 ps (flatP prs) → T prs w1.H) (exV X.K w W σ) := by
    rw [sat_bind', sat_bind'] at q1
    rw [sat_bind']
    refine q1.mono (fun a p h => ?_) fun _ _ z => z
    rw [sat_bind'] at h ⊢
    exact h
  refine hv.kp tk f1 r1 e1 q1' fun p2 ph2 y w2 e2 f2 r2 a2 q2 => ?_
  refine ht σ w0 w2 ph2 _ W tk f2 r2 ((sat_bind'.mp q2).mono (fun ps ph3 q3 prs w3 hn e3 f3 r3 a3 => ?_) fun _ _ z => z.mono (e1.trans e2))
  exact (sat_pure.mp q3) ((x, y) :: prs) w3 (by simp [hn]) ((e1.trans e2).trans e3) f3 r3 (.cons (Rel.mono ((e2.trans e3).sle f1) _ _ a1) (.cons (Rel.mono (e3.sle f2) _ _ a2) a3))
theorem se_dct {keys : List (Option Expr)} {values : List Expr} (hall : keys.all (·.isSome) = true) (hl : keys.length = values.length) (h0 : keys ≠ []) (h15 : keys.length ≤ 15) (h : SD X env pos keys values ml) :
    SE X env (.Dict keys values pos) (PM.bind ml fun vs => PM.ofO ((dispD vs [] []).map fun r => (.dct r.1 r.2, false))) false := by
  intro σ w0 w ph Q W tk f r q
  obtain ⟨trs, pp, h⟩ := h
  refine wk_of (pe_disp pp hall hl h0 h15) ?_
  intro a ha
  have e0 := ev_lay (w := w) (o := HO.dK []) ha
  have f0 := wf_lay (o := HO.dK []) f ha
  refine h σ w0 (w.lay a (.dK [])) ph _ W tk f0 (r.mono f e0) ((sat_bind'.mp q).mono (fun ps ph1 q1 prs w1 hn e1 f1 r1 a1 => ?_) fun _ _ z => z.mono e0)
  obtain ⟨b, eb, q1⟩ := sat_ofO.mp q1
  obtain ⟨rr, hr, rfl⟩ := Option.map_eq_some_iff.mp eb
  obtain ⟨kvs, vs, g1, g2, g3, g4⟩ := dispD_merge a1 rfl List.nodup_nil .nil hr
  obtain ⟨hA, nρ, nS⟩ := e1.at (p := a) (o := .dK []) upd_same (fun h => f.ρin a h ha) (fun h => f.Sin a h ha)
  refine ⟨hA, kvs, g1, ?_, ?_⟩
  · have : kvs.length = prs.length := by rw [g1, List.length_map]
    omega
  · have eg : mergeK [] kvs = rr.1.zip vs := g2.symm
    rw [eg]
    have e2 : Ev w (w1.lay a (.dK (rr.1.zip vs))) := ev_wr (e0.trans e1) ha
    have f2 : Wf X.K (w1.lay a (.dK (rr.1.zip vs))) ph1 := wf_wr f1 nρ nS
    have sl2 : Sle w1 (w1.lay a (.dK (rr.1.zip vs))) := sle_wr nS
    have e3 : Ev w ((w1.lay a (.dK (rr.1.zip vs))).frz a) := ⟨e2.pre, fun x h => .inl (e2.S1 x h), fun x h => by
      rcases h with h | h
      · exact e2.S2 x h
      · exact .inr (h ▸ ha), e2.keep, e2.trk⟩
    have f3 : Wf X.K ((w1.lay a (.dK (rr.1.zip vs))).frz a) ph1 := wf_frz f2 (by show upd _ _ _ _ ≠ none; rw [upd_same]; simp) nρ
    refine q1 (.ref a) _ e3 f3 ?_
    show Rel X.K _ (.dct rr.1 rr.2) _
    rw [Rel]
    exact ⟨a, vs, rfl, ⟨.inr rfl, .inl upd_same⟩, g3, Rels.mono (sl2.trans sle_frz) _ _ g4⟩
/-- {} -/
theorem se_dct0 : SE X env (.Dict [] [] pos) (PM.pure (.dct [] [], false)) false := by
  intro σ w0 w ph Q W tk f r q
  refine wk_of pe_dnewK ?_
  intro a ha
  refine okV_flat (ev_layF (w := w) (o := HO.dK []) ha) (wf_layF (o := HO.dK []) f ha) (sat_pure.mp q) ?_
  rw [Rel]
  exact ⟨a, [], rfl, ⟨.inr rfl, .inl upd_same⟩, rfl, .nil⟩
/-! ### written dicts -/
structure KdOk (X : Cx) (d : Str × List (Str × PV)) : Prop where
  ex : ∃ (a : Addr) (es : Array DictEntry) (n : Nat), X.mg d.1 = some (.ref a) ∧ (a == sysModules) = false ∧ X.K.lookup a = some ⟨.type "dict", none, .dict es n, #[]⟩ ∧ PySem.W.KeysLit X.w.params es.toList ∧
    ∀ z, match d.2.lookup z with
      | some p => ∃ u v, PySem.W.nsIn X.K a z = some (some u) ∧ RelV v u ∧ ∀ w : Ws, Rel X.K w p v
      | none => PySem.W.nsIn X.K a z = some none
theorem se_kget {pg : PProg} {k : Nat} {d : Str × List (Str × PV)} {x : Str} {p1 apos cpos : Pos} {ea ed : Expr} {ma md : PM (PV × Bool)} {Ba : Bool} (D : KdOk X d) (hk : pg.kds[k]? = some d) (hx : d.1 = x) (hg : Gl X x) (hd : (x == ("__debug__" : Str)) = false)
    (hs1 : notStar ea = true) (hs2 : notStar ed = true) (hline : (apos.endLine == cpos.line) = true) (ha : SE X env ea ma Ba) (hdf : SE X env ed md false) :
    SE X env (.Call (.Attribute (.Name x p1) "get" apos) [ea, ed] [] cpos) (PM.bind (evalV ma) fun x => PM.bind md fun y => PM.ofO ((kGet pg k x y.1).map fun v => (v, false))) false := by
  intro σ w0 w ph Q W tk f0 r q pins s I
  obtain ⟨a, es, n, hm, hsys, hl, hkl, hv⟩ := D.ex
  rw [hx] at hm
  have hs : [ea, ed].all notStar = true := by simp [hs1, hs2]
  refine wpAny_Call_method_late (attr_base rfl) (few_hyp hs rfl) hline rfl (ld_glob I hg hm ?_ hd)
  have hmap : ∀ {s' : Shared}, X.K.In s'.heap → s'.heap.MapOf (strKind X.prog X.w) a (fun k => findBy Value.isStrOf es k) := fun X' => PySem.W.mapOf_K X' hl hkl
  have hm0 := hmap I.kIn
  refine ⟨"dict", "dict.get", PySem.F.plainAttrs_dict, PySem.F.slot_dict_get, PySem.F.type_dict_get, hm0.typeIs, hm0.noDict, ?_⟩
  have pa : PA X [ea, ed] (tCons (wk X ea) (tCons (wk X ed) tNil)) := pa_cons pe_wk (pa_cons pe_wk pa_nil (star_cons hs2)) (star_cons hs1)
  have hA := pa.run cpos pins s σ w.H (fun vs H2 => ∃ p u p2 ph2 w2, w2.H = H2 ∧ vs = [p, u] ∧ ∃ q1 q2, Ev w w2 ∧ Wf X.K w2 ph2 ∧ RelB X.K w2 q1 p ∧ Rel X.K w2 q2 u ∧ Sat ((PM.ofO ((kGet pg k q1 q2).map fun v => (v, false)) : PM (PV × Bool)) ph2) (okV X.K w Q false) (exV X.K w W σ)) I
    (ha.lk tk f0 r (Ev.refl w) q fun p ph1 x w1 e1 f1 r1 a1 q1 => hdf.kp tk f1 r1 e1 q1 fun p2 ph2 y w2 e2 f2 r2 a2 q2 =>
      ⟨x, y, p2, ph2, w2, rfl, rfl, p, p2.1, e1.trans e2, f2, a1.mono f1 e2, a2, q2⟩)
  rw [star_cons hs1] at hA ⊢
  refine Calls.callWith_builtin (by show (false || (backTo cpos (starEach [ed] X.env)).any (·.1)) = false; rw [star_any (by simp [hs2])]; rfl) (Calls.evalArgs_plain ?_)
  refine thn hA fun us s2 ⟨vs, H2, I2, rv, p, u, _, ph2, w2, eH, ev, q1, q2, e2, f2, a1, a2, q3⟩ => ?_
  subst eH ev
  obtain ⟨u1, u2, rfl, ru1, ru2⟩ := vals2 rv
  obtain ⟨b, eb, q3⟩ := sat_ofO.mp q3
  obtain ⟨c, hc, rfl⟩ := Option.map_eq_some_iff.mp eb
  cases q1 with
  | str z =>
    have ep := relB_str a1
    subst ep
    obtain ⟨t, rfl⟩ := ru1
    have hc' : (pg.kds[k]?).map (fun d => (d.2.lookup z).getD q2) = some c := hc
    rw [hk] at hc'
    have hc'' : (d.2.lookup z).getD q2 = c := Option.some.inj hc'
    have hz := hv z
    have hm2 := hmap I2.kIn
    refine call_meetsIn PySem.F.slot_dict_get hm2.typeIs PySem.F.entry_dict_get (PySem.F.args_dict_get_3 _ _ _) (meets_dict_get_default (strKind X.prog X.w) a (strKind_is X.prog X.w z t) hsys u2) ⟨_, hm2, ?_⟩
    cases hlk : d.2.lookup z with
    | none =>
      rw [hlk] at hz hc''
      rw [PySem.W.find_K hl hz]
      have : q2 = c := hc''
      subst this
      exact ⟨u, w2.H, I2.tok _, ru2, okV_flat e2 f2 q3 a2⟩
    | some p =>
      rw [hlk] at hz hc''
      obtain ⟨u0, v0, h1, h2, h3⟩ := hz
      rw [PySem.W.find_K hl h1]
      have : p = c := hc''
      subst this
      exact ⟨v0, w2.H, I2.tok _, h2, okV_flat e2 f2 q3 (h3 w2)⟩
  | _ => cases hc
end
end Py

set_option Elab.async false
set_option linter.all false
set_option maxRecDepth 100000
set_option maxHeartbeats 4000000
/-! PyK: the tree that runs is the written one: a check, and what it tells. -/
namespace Py
open PySem L2
open PyProof.Rows hiding St
inductive Md where
  | keep | look | test
def visB (sc : Scope) (x : Str) : Bool := match sc.names.lookup x with
  | some .local => true
  | some .cell => true
  | some .free => true
  | _ => false
def gloB (sc : Scope) (x : Str) : Bool := match sc.names.lookup x with
  | some .globalImplicit => true
  | _ => false
def okB (x : Str) : Bool := !(x == ("__debug__" : Str)) && !(x == ("__classdict__" : Str))
def storB (sc osc : Scope) (x : Str) : Bool := match sc.names.lookup x with
  | some .local => true
  | some .cell => (match osc.names.lookup x with
    | some .cell => true
    | _ => false)
  | _ => false
def tp (md : Md) (e : Expr) : Bool := match md with
  | .test => plainTest e
  | _ => true
def nkp (md : Md) : Bool := match md with
  | .keep => false
  | _ => true
def ntst (md : Md) : Bool := match md with
  | .test => false
  | _ => true
def mdA (md : Md) : Md := match md with
  | .test => .test
  | _ => .look
def mdB (md : Md) : Md := match md with
  | .test => .test
  | _ => .keep
def prB : II → Bool
  | .enum _ => true
  | .zip _ _ => true
  | _ => false
def trG (N : List Str) (sc osc : Scope) : Tg → Expr → Bool
  | .nm i, .Name x _ => decide (N[i]? = some x) && storB sc osc x
  | .tup is, .Tuple es _ _ => decide (es.length = is.length) && (is.zip es).all fun q => match q.2 with
    | .Name x _ => decide (N[q.1]? = some x) && storB sc osc x
    | _ => false
  | _, _ => false
def isTupE : Expr → Bool
  | .Tuple _ _ _ => true
  | _ => false
def isNm : Tg → Bool
  | .nm _ => true
  | _ => false
def ownN (N : List Str) (own : List Nat) : List (Str × Nat) := own.map fun i => (N.getD i default, i)
def dctE : IL → List (Option Expr) → List Expr → Bool
  | .nil, [], [] => true
  | _, _, _ => false
/-- no starred item -/
def noSt : IL → Bool
  | .nil => true
  | .cons _ es => noSt es
  | .star _ _ => false
/-- a def of the module, no method -/
def gloF (pg : PProg) (f : Nat) : Bool := !(pg.cls.any fun c => c.init == f || c.mets.any fun q => q.2 == f)
def nameOf (pg : PProg) (f : Nat) : Option Str := match pg.fns[f]? with
  | some fi => if gloF pg f then some fi.name else none
  | none => (pg.cls[f - pg.fns.length]?).map (·.name)
section
variable (pg : PProg) (N : List Str)
mutual
def trE : IE → Scope → Scope → Md → Expr → Bool
  | .var i, sc, _, md, e => tp md e && match e with
    | .Name x _ => visB sc x && decide (N[i]? = some x) && okB x
    | _ => false
  | .bvar i, sc, _, md, e => nkp md && tp md e && match e with
    | .Name x _ => visB sc x && decide (N[i]? = some x) && okB x
    | _ => false
  | .non, _, _, md, e => tp md e && match e with
    | .Constant .none _ _ => true
    | _ => false
  | .bl b, _, _, md, e => tp md e && match e with
    | .Constant (.bool c) _ _ => b == c
    | _ => false
  | .int i, _, _, md, e => tp md e && match e with
    | .Constant (.int c) _ _ => decide (c = i)
    | _ => false
  | .str i, _, _, md, e => tp md e && match e with
    | .Constant (.str c) _ _ => decide (c = i)
    | _ => false
  | .gv k, sc, _, md, e => tp md e && match e with
    | .Name x _ => gloB sc x && okB x && decide ((pg.gvs[k]?).map (·.1) = some x)
    | _ => false
  | .bin op a b, sc, osc, md, e => tp md e && match e with
    | .BinOp ea o eb _ => decide (o = op) && trE a sc osc .look ea && trE b sc osc .look eb
    | _ => false
  | .neg a, sc, osc, md, e => tp md e && match e with
    | .UnaryOp .USub ea _ => trE a sc osc .look ea
    | _ => false
  | .cmp op a b, sc, osc, md, e => match e with
    | .Compare ea [o] [eb] _ => decide (o = op) && trE a sc osc .look ea && trE b sc osc .look eb && !behindInMarks op eb
    | _ => false
  | .cmp2 o1 o2 a b c, sc, osc, md, e => match e with
    | .Compare ea [p1, p2] [eb, ec] _ => decide (p1 = o1) && decide (p2 = o2) && trE a sc osc .look ea && trE b sc osc .look eb && trE c sc osc .look ec && !lastMarks [o1, o2] [eb, ec]
    | _ => false
  | .and a b, sc, osc, md, e => match e with
    | .BoolOp .And [ea, eb] _ => trE a sc osc (mdA md) ea && trE b sc osc (mdB md) eb
    | .BoolOp .And (ea :: eb :: ec :: rest) pos => trE a sc osc (mdA md) ea && trE b sc osc (mdB md) (.BoolOp .And (eb :: ec :: rest) pos)
    | _ => false
  | .or a b, sc, osc, md, e => match e with
    | .BoolOp .Or [ea, eb] _ => trE a sc osc (mdA md) ea && trE b sc osc (mdB md) eb
    | .BoolOp .Or (ea :: eb :: ec :: rest) pos => trE a sc osc (mdA md) ea && trE b sc osc (mdB md) (.BoolOp .Or (eb :: ec :: rest) pos)
    | _ => false
  | .not a, sc, osc, md, e => match e with
    | .UnaryOp .Not ea _ => trE a sc osc (mdA md) ea
    | _ => false
  | .ite t a b, sc, osc, md, e => ntst md && match e with
    | .IfExp et ea eb _ => trE t sc osc .test et && trE a sc osc .keep ea && trE b sc osc .keep eb
    | _ => false
  | .tup es, sc, osc, md, e => tp md e && match e with
    | .Tuple ees _ _ => trL es sc osc .keep ees
    | _ => false
  | .lst es, sc, osc, md, e => tp md e && match e with
    | .List ees _ => trL es sc osc .keep ees
    | _ => false
  | .box es, sc, osc, md, e => tp md e && match e with
    | .List ees _ => trL es sc osc .keep ees
    | _ => false
  | .dct es, sc, osc, md, e => tp md e && match e with
    | .Dict keys values _ => dctE es keys values || keys.all (·.isSome) && decide (keys.length = values.length) && !keys.isEmpty && decide (keys.length ≤ 15) && trD es sc osc keys values
    | _ => false
  | .idx a i, sc, osc, md, e => tp md e && match e with
    | .Subscript ea ei _ => trE a sc osc .look ea && trE i sc osc .look ei && plainIx ei
    | _ => false
  | .slc a lo hi, sc, osc, md, e => tp md e && match e with
    | .Subscript ea (.Slice l h none _) _ => trE a sc osc .look ea && trO lo sc osc l && trO hi sc osc h
    | _ => false
  | .rev a, sc, osc, md, e => tp md e && match e with
    | .Subscript ea (.Slice none none (some (.UnaryOp .USub (.Constant (.int c) _ _) _)) _) _ => decide (c = 1) && trE a sc osc .look ea
    | _ => false
  | .call f es, sc, osc, md, e => tp md e && match e with
    | .Call (.Name x _) args [] _ => gloB sc x && okB x && decide (nameOf pg f = some x) && (noSt es && trL es sc osc .keep args)
    | _ => false
  | .callK f q es ks, sc, osc, md, e => tp md e && match e with
    | .Call (.Name x _) args kws _ => gloB sc x && okB x && (match pg.fns[f]? with
      | some fi => gloF pg f && decide (fi.name = x) && (match fi.kws[q]? with
        | some k => kwOk kws k.2.1
        | none => false)
      | none => false) && (noSt es && trL es sc osc .keep args) && trK ks sc osc kws
    | _ => false
  | .blt b es, sc, osc, md, e => tp md e && match e with
    | .Call (.Name x _) args [] _ => gloB sc x && decide (x = biN b) && !args.isEmpty && (noSt es && trL es sc osc .look args)
    | _ => false
  | .mth m a es, sc, osc, md, e => tp md e && match e with
    | .Call (.Attribute eo nm apos) args [] cpos => decide (nm = miN m) && notSuper eo && fewOk args && !args.isEmpty && (apos.endLine == cpos.line) && trE a sc osc .look eo && (noSt es && trL es sc osc .look args)
    | _ => false
  | .isi a t, sc, osc, md, e => tp md e && match e with
    | .Call (.Name x _) [ea, .Name y _] [] _ => gloB sc x && decide (x = "isinstance") && gloB sc y && decide (y = tyN t) && notStar ea && trE a sc osc .look ea
    | _ => false
  | .kget k a d, sc, osc, md, e => tp md e && match e with
    | .Call (.Attribute (.Name x _) nm apos) [ea, ed] [] cpos => decide (nm = "get") && gloB sc x && okB x && decide ((pg.kds[k]?).map (·.1) = some x) && notStar ea && notStar ed && (apos.endLine == cpos.line) && trE a sc osc .look ea && trE d sc osc .keep ed
    | _ => false
  | .lrng es, sc, osc, md, e => tp md e && match e with
    | .Call (.Name x _) [.Call (.Name y _) args [] _] [] _ => gloB sc x && decide (x = "list") && gloB sc y && decide (y = "range") && (decide (args.length = 1) || decide (args.length = 2)) && (noSt es && trL es sc osc .keep args)
    | _ => false
  | .trng es, sc, osc, md, e => tp md e && match e with
    | .Call (.Name x _) [.Call (.Name y _) args [] _] [] _ => gloB sc x && decide (x = "tuple") && gloB sc y && decide (y = "range") && (decide (args.length = 1) || decide (args.length = 2)) && (noSt es && trL es sc osc .keep args)
    | _ => false
  | .sst a, sc, osc, md, e => tp md e && match e with
    | .Call (.Name x _) [.Call (.Name y _) [ea] [] _] [] _ => gloB sc x && decide (x = "sorted") && gloB sc y && decide (y = "set") && notStar ea && trE a sc osc .look ea
    | _ => false
  | .att a x, sc, osc, md, e => tp md e && match e with
    | .Attribute ea y _ => decide (y = x) && notSuper ea && trE a sc osc .look ea
    | _ => false
  | .isC a c, sc, osc, md, e => tp md e && match e with
    | .Call (.Name x _) [ea, .Name y _] [] _ => gloB sc x && decide (x = "isinstance") && gloB sc y && okB y && decide ((pg.cls[c]?).map (·.name) = some y) && notStar ea && trE a sc osc .look ea
    | _ => false
  | .lc own tg it cond elt, sc, osc, md, e => tp md e && match e with
    | .ListComp eelt [⟨etg, eit, ifs, z⟩] scope _ => decide (z = 0) && blkC N sc scope (ownN N own) && notSetD eit && trG N (relS scope sc) scope tg etg && ((tgSet tg).all fun i => decide (i ∈ own)) && (!(prB it && isNm tg)) && trI it sc osc etg eit &&
      trC cond (relS scope sc) scope ifs && trE elt (relS scope sc) scope .keep eelt
    | _ => false
def trL : IL → Scope → Scope → Md → List Expr → Bool
  | .nil, _, _, _, es => match es with
    | [] => true
    | _ => false
  | .cons e es, sc, osc, md, ees => match ees with
    | ee :: ees => notStar ee && ntst md && trE e sc osc md ee && trL es sc osc md ees
    | _ => false
  | .star e es, sc, osc, md, ees => match ees with
    | .Starred ee _ :: ees => !(nkp md) && trE e sc osc .keep ee && trL es sc osc md ees
    | _ => false
def trO : IL → Scope → Scope → Option Expr → Bool
  | .nil, _, _, o => match o with
    | none => true
    | _ => false
  | .cons e es, sc, osc, o => match es, o with
    | .nil, some x => trE e sc osc .look x
    | _, _ => false
  | .star _ _, _, _, _ => false
def trC : IL → Scope → Scope → List Expr → Bool
  | .nil, _, _, es => match es with
    | [] => true
    | _ => false
  | .cons e es, sc, osc, ees => match es, ees with
    | .nil, [x] => trE e sc osc .test x
    | _, _ => false
  | .star _ _, _, _, _ => false
def trK : IL → Scope → Scope → List Keyword → Bool
  | .nil, _, _, es => match es with
    | [] => true
    | _ => false
  | .cons e es, sc, osc, kws => match kws with
    | ⟨_, x, _⟩ :: kws => trE e sc osc .keep x && trK es sc osc kws
    | _ => false
  | .star _ _, _, _, _ => false
def trD : IL → Scope → Scope → List (Option Expr) → List Expr → Bool
  | .nil, _, _, ks, vs => match ks, vs with
    | [], [] => true
    | _, _ => false
  | .cons e es, sc, osc, ks, vs => match ks with
    | some k :: ks => trE e sc osc .keep k && trD2 es sc osc ks vs
    | _ => false
  | .star _ _, _, _, _, _ => false
def trD2 : IL → Scope → Scope → List (Option Expr) → List Expr → Bool
  | .nil, _, _, _, _ => false
  | .cons e es, sc, osc, ks, vs => match vs with
    | v :: vs => trE e sc osc .keep v && trD es sc osc ks vs
    | _ => false
  | .star _ _, _, _, _, _ => false
def trI : II → Scope → Scope → Expr → Expr → Bool
  | .seq e, sc, osc, _, ee => trE e sc osc .keep ee
  | .rng1 e, sc, osc, _, ee => match ee with
    | .Call (.Name x _) [a] [] _ => gloB sc x && decide (x = "range") && notStar a && trE e sc osc .look a
    | _ => false
  | .rng2 a b, sc, osc, _, ee => match ee with
    | .Call (.Name x _) [ea, eb] [] _ => gloB sc x && decide (x = "range") && notStar ea && notStar eb && trE a sc osc .look ea && trE b sc osc .look eb
    | _ => false
  | .enum e, sc, osc, tg, ee => match ee with
    | .Call (.Name x _) [a] [] _ => isTupE tg && gloB sc x && decide (x = "enumerate") && notStar a && trE e sc osc .keep a
    | _ => false
  | .zip _ _, _, _, _, _ => false
end
end
example : trE ⟨[], [], [], []⟩ ["x"] (.bin .Add (.var 0) (.int 1)) { kind := .function, names := [("x", .local)], isGenerator := false, isCoroutine := false } { kind := .function, names := [("x", .local)], isGenerator := false, isCoroutine := false } .keep (.BinOp (.Name "x" default) .Add (.Constant (.int 1) 0 default) default) = true := by decide +kernel
end Py

set_option Elab.async false
set_option linter.all false
set_option maxRecDepth 100000
set_option maxHeartbeats 4000000
/-! PyL: what the check tells: the interpreter's value is the model's, at every expression. -/
namespace Py
open PySem L2
open PyProof.Rows hiding St
/-- the names of built-ins that no def of the program hides -/
def blN : List Str := ["len", "abs", "min", "max", "sum", "all", "any", "sorted", "list", "tuple", "int", "divmod", "isinstance", "range", "enumerate", "zip", "bool", "str", "repr", "set"]
structure GvOk (X : Cx) (g : Str × PV) : Prop where
  ex : ∃ u v, X.mg g.1 = some u ∧ RelV v u ∧ ∀ w : Ws, Rel X.K w g.2 v
/-- what is known of a context -/
structure Goo (pg : PProg) (call : Calls) (N : List Str) (sc osc : Scope) (X : Cx) : Prop where
  hN : X.N = N
  nd : N.Nodup
  hsc : X.env.scope = sc
  calm : X.calm = true
  ng : NoG X.A
  units : X.A.units + 64 < cLine
  fnk : ∀ x, osc.names.lookup x = some .cell → X.fn x = true
  fns : ∀ (f : Nat) fi, pg.fns[f]? = some fi → CallOk X call f fi (gloF pg f)
  mks : ∀ (f : Nat) c, pg.fns[f]? = none → pg.cls[f - pg.fns.length]? = some c → MkOk X call f c
  cls : ∀ c ∈ pg.cls, CFact X.K c ∧ X.mg c.name = some (.ref (He.ga X.K c.name))
  gvs : ∀ (k : Nat) g, pg.gvs[k]? = some g → GvOk X g
  kds : ∀ (k : Nat) d, pg.kds[k]? = some d → KdOk X d
  bl : ∀ x ∈ blN, X.mg x = none
def SM (X : Cx) (env : PEnv) (e : Expr) (m : PM (PV × Bool)) : Md → Prop
  | .keep => SE X env e m false
  | .look => SE X env e m true
  | .test => ST X env e m
section
variable {pg : PProg} {call : Calls} {N : List Str} {sc osc : Scope} {X : Cx} {env : PEnv} {e : Expr} {m : PM (PV × Bool)} {md : Md}
theorem sm_of (h : SE X env e m false) (hp : tp md e = true) : SM X env e m md := by
  cases md with
  | keep => exact h
  | look => exact h.weak
  | test => exact st_val h (test_plain hp)
theorem sm_ofB (h : SE X env e m true) (hk : nkp md = true) (hp : tp md e = true) : SM X env e m md := by
  cases md with
  | keep => cases hk
  | look => exact h
  | test => exact st_val h (test_plain hp)
theorem vis_of {x : Str} (h : visB sc x = true) : Vis sc x := by
  unfold visB at h
  split at h
  · exact .inl (by assumption)
  · exact .inr (.inl (by assumption))
  · exact .inr (.inr (by assumption))
  · cases h
theorem glo_of {x : Str} (h : gloB sc x = true) (G : Goo pg call N sc osc X) : Gl X x := by
  unfold gloB at h
  split at h
  · rename_i he
    unfold Gl Env.kindOf
    rw [G.hsc]
    exact he
  · cases h
theorem ok_of {x : Str} (h : okB x = true) : (x == ("__debug__" : Str)) = false ∧ (x == ("__classdict__" : Str)) = false := by
  unfold okB at h
  simpa [Bool.and_eq_true] using h
theorem Goo.blk (G : Goo pg call N sc osc X) (scope : Scope) (s : Shared) (H : Hp) (C : Addr) (cl : List (Str × Addr)) (fp : List Addr) : Goo pg call N (relS scope sc) scope (X.blk s H scope (compEnvC scope cl C X.env) fp) where
  hN := G.hN
  nd := G.nd
  hsc := by
    have := G.hsc
    subst this
    rfl
  calm := G.calm
  ng := G.ng
  units := G.units
  fnk := fun x hx => by
    show (scope.names.lookup x == some NameKind.cell) = true
    rw [hx]
    rfl
  fns := fun f fi h => ⟨(G.fns f fi h).ex, (G.fns f fi h).len⟩
  mks := fun f c h g => ⟨(G.mks f c h g).mg, (G.mks f c h g).ex⟩
  cls := G.cls
  gvs := fun k g h => ⟨(G.gvs k g h).ex⟩
  kds := fun k d h => ⟨(G.kds k d h).ex⟩
  bl := G.bl
theorem stor_of {x : Str} (h : storB sc osc x = true) (G : Goo pg call N sc osc X) : Loc X.env.scope x ∧ (X.fn x = true ∨ X.env.scope.names.lookup x = some .local) := by
  rw [G.hsc]
  unfold storB at h
  split at h
  · rename_i he
    exact ⟨.inl he, .inr he⟩
  · rename_i he
    split at h
    · rename_i he2
      exact ⟨.inr he, .inl (G.fnk x he2)⟩
    · cases h
  · cases h
theorem pg_nm {i : Nat} {x : Str} {pos : Pos} (G : Goo pg call N sc osc X) (h : (decide (N[i]? = some x) && storB sc osc x) = true) : PG X (.Name x pos) (gName i) := by
  simp only [Bool.and_eq_true, decide_eq_true_eq] at h
  obtain ⟨h1, h2⟩ := stor_of h.2 G
  exact pg_name (by rw [G.hN]; exact G.nd) (by rw [G.hN]; exact h.1) h1 h2
def trGn (N : List Str) (sc osc : Scope) (q : Nat × Expr) : Bool := match q.2 with
    | .Name x _ => decide (N[q.1]? = some x) && storB sc osc x
    | _ => false
theorem pgs_nms (G : Goo pg call N sc osc X) : ∀ {is : List Nat} {es : List Expr}, es.length = is.length → ((is.zip es).all (trGn N sc osc)) = true → PGs X es (gNames is) ∧ (assignEach es X.env).length = is.length ∧ (assignEach es X.env).findIdx? (·.1) = none
  | [], [], _, _ => ⟨pgs_nil, rfl, rfl⟩
  | i :: is, e :: es, hl, h => by
    simp only [List.zip_cons_cons, List.all_cons, Bool.and_eq_true] at h
    obtain ⟨h1, h2, h3⟩ := pgs_nms G (is := is) (es := es) (by simpa using hl) h.2
    cases e with
    | Name x p =>
      refine ⟨pgs_cons (pg_nm G h.1) h1 rfl, ?_, ?_⟩
      · show (assignEach es X.env).length + 1 = is.length + 1
        rw [h2]
      · show List.findIdx? (·.1) ((false, assign (.Name x p) X.env) :: assignEach es X.env) = none
        rw [List.findIdx?_cons]
        simp only [Bool.false_eq_true, if_false, h3]
        rfl
    | _ => exact absurd h.1 Bool.false_ne_true
  | [], _ :: _, hl, _ => by simp at hl
  | _ :: _, [], hl, _ => by simp at hl
/-- a target's store -/
def gOf (K : PySem.W.Frag) : Tg → TG
  | .nm i => gName i
  | .tup is => gSeqT K is.length (gNames is)
theorem trG_ok {tg : Tg} (G : Goo pg call N sc osc X) (h : trG N sc osc tg e = true) : PG X e (gOf X.K tg) := by
  cases tg with
  | nm i =>
    cases e with
    | Name x p => exact pg_nm G h
    | _ => exact absurd h Bool.false_ne_true
  | tup is =>
    cases e with
    | Tuple es k p =>
      have h' : (decide (es.length = is.length) && (is.zip es).all (trGn N sc osc)) = true := h
      simp only [Bool.and_eq_true, decide_eq_true_eq] at h'
      obtain ⟨h1, h2, h3⟩ := pgs_nms G h'.1 h'.2
      exact pg_seqT G.calm h1 h2 h3
    | _ => exact absurd h Bool.false_ne_true
theorem sgOf {K : PySem.W.Frag} {tg : Tg} {pr : Bool} (h : (!(pr && isNm tg)) = true) : SG K (gOf K tg) tg pr := by
  cases tg with
  | nm i =>
    cases pr with
    | false => exact sg_name i
    | true => cases h
  | tup is => exact sg_tup is
end
section
theorem map_some_of {α β : Type} {o : Option α} {f : α → β} {y : β} (h : o.map f = some y) : ∃ x, o = some x ∧ f x = y := Option.map_eq_some_iff.mp h
theorem lcOk_of {pg : PProg} {call : Calls} {N : List Str} {sc osc : Scope} {X : Cx} {env : PEnv} {own : List Nat} {tg : Tg} {it : II} {cond : IL} {elt : IE} {etg eit eelt : Expr} {ifs : List Expr} {scope : Scope}
    (h3 : blkC N sc scope (ownN N own) = true) (h4 : notSetD eit = true) (h5 : trG N (relS scope sc) scope tg etg = true) (h6 : ∀ i ∈ tgSet tg, i ∈ own) (h7 : (!(prB it && isNm tg)) = true) (G : Goo pg call N sc osc X)
    (hi : SI X env etg eit (evalI pg call it env) (prB it))
    (ht : ∀ X' env', Goo pg call N (relS scope sc) scope X' → STs X' env' ifs (evalT pg call cond env')) (he : ∀ X' env', Goo pg call N (relS scope sc) scope X' → SE X' env' eelt (evalE pg call elt env') false) :
    LcOk X env etg eit eelt ifs scope (ownN N own) (evalI pg call it env) (fun e => evalT pg call cond e) (fun e => evalE pg call elt e) tg (prB it) (gOf X.K tg) where
  hc := G.calm
  hN := by rw [G.hN]; exact G.nd
  ok := by rw [G.hN, G.hsc]; exact blkOk_by h3
  hs := h4
  hi := hi
  hg := fun s H C cl fp => trG_ok (G.blk scope s H C cl fp) h5
  sg := sgOf h7
  hsub := by
    have hown : (ownN N own).map (·.2) = own := by
      unfold ownN
      rw [List.map_map]
      exact List.map_id' own
    rw [hown]; exact h6
  ht := fun s H C cl fp env' => ht _ env' (G.blk scope s H C cl fp)
  he := fun s H C cl fp env' => he _ env' (G.blk scope s H C cl fp)
variable (pg : PProg) (call : Calls) (N : List Str)
mutual
theorem soundE : ∀ (ie : IE) (e : Expr) (sc osc : Scope) (md : Md) (X : Cx) (env : PEnv), trE pg N ie sc osc md e = true → Goo pg call N sc osc X → SM X env e (evalE pg call ie env) md
  | .var i, e, sc, osc, md, X, env, h, G => by
    cases e with
    | Name x p =>
      simp only [trE, Bool.and_eq_true, decide_eq_true_eq] at h
      obtain ⟨h1, ⟨h2, h3⟩, h4⟩ := h
      obtain ⟨h5, h6⟩ := ok_of h4
      exact sm_of (se_var (by rw [G.hN]; exact h3) (by rw [G.hsc]; exact vis_of h2) h5 h6) h1
    | _ => simp [trE] at h
  | .bvar i, e, sc, osc, md, X, env, h, G => by
    cases e with
    | Name x p =>
      simp only [trE, Bool.and_eq_true, decide_eq_true_eq] at h
      obtain ⟨⟨h0, h1⟩, ⟨h2, h3⟩, h4⟩ := h
      obtain ⟨h5, h6⟩ := ok_of h4
      exact sm_ofB (se_bvar (by rw [G.hN]; exact h3) (by rw [G.hsc]; exact vis_of h2) h5 h6) h0 h1
    | _ => simp [trE] at h
  | .non, e, sc, osc, md, X, env, h, G => by
    cases e with
    | Constant c k p =>
      cases c with
      | none =>
        simp only [trE, Bool.and_eq_true] at h
        exact sm_of (se_const pe_non fun _ => rel_non) h.1
      | _ => simp [trE] at h
    | _ => simp [trE] at h
  | .bl b, e, sc, osc, md, X, env, h, G => by
    cases e with
    | Constant c k p =>
      cases c with
      | bool c =>
        simp only [trE, Bool.and_eq_true, beq_iff_eq] at h
        obtain ⟨h1, h2⟩ := h
        subst h2
        exact sm_of (se_const pe_bl fun _ => rel_bl) h1
      | _ => simp [trE] at h
    | _ => simp [trE] at h
  | .int i, e, sc, osc, md, X, env, h, G => by
    cases e with
    | Constant c k p =>
      cases c with
      | int c =>
        simp only [trE, Bool.and_eq_true, decide_eq_true_eq] at h
        obtain ⟨h1, h2⟩ := h
        subst h2
        exact sm_of (se_const pe_int fun _ => rel_int) h1
      | _ => simp [trE] at h
    | _ => simp [trE] at h
  | .str i, e, sc, osc, md, X, env, h, G => by
    cases e with
    | Constant c k p =>
      cases c with
      | str c =>
        simp only [trE, Bool.and_eq_true, decide_eq_true_eq] at h
        obtain ⟨h1, h2⟩ := h
        subst h2
        exact sm_of (se_const pe_str fun _ => rel_str) h1
      | _ => simp [trE] at h
    | _ => simp [trE] at h
  | .gv k, e, sc, osc, md, X, env, h, G => by
    cases e with
    | Name x p =>
      simp only [trE, Bool.and_eq_true, decide_eq_true_eq] at h
      obtain ⟨h1, ⟨h2, h3⟩, h4⟩ := h
      obtain ⟨g, hg, hx⟩ := map_some_of h4
      obtain ⟨u, v, g1, g2, g3⟩ := (G.gvs k g hg).ex
      have ev : evalE pg call (.gv k) env = PM.pure (g.2, false) := by
        show evGv pg k = _
        unfold evGv
        rw [hg]
      rw [ev]
      refine sm_of (se_const (pe_glob (glo_of h2 G) (by rw [← hx]; exact g1) g2 (ok_of h3).1) g3) h1
    | _ => simp [trE] at h
  | .bin op a b, e, sc, osc, md, X, env, h, G => by
    cases e with
    | BinOp ea o eb p =>
      simp only [trE, Bool.and_eq_true, decide_eq_true_eq] at h
      obtain ⟨h1, ⟨h2, h3⟩, h4⟩ := h
      subst h2
      exact sm_of (se_bin (Ba := true) (Bb := true) (soundE a ea sc osc .look X env h3 G) (soundE b eb sc osc .look X env h4 G)) h1
    | _ => simp [trE] at h
  | .neg a, e, sc, osc, md, X, env, h, G => by
    cases e with
    | UnaryOp op ea p =>
      cases op with
      | USub =>
        simp only [trE, Bool.and_eq_true] at h
        exact sm_of (se_neg (Ba := true) (soundE a ea sc osc .look X env h.2 G)) h.1
      | _ => simp [trE] at h
    | _ => simp [trE] at h
  | .cmp op a b, e, sc, osc, md, X, env, h, G => by
    cases e with
    | Compare ea os es p =>
      match os, es, h with
      | [o], [eb], h =>
        simp only [trE, Bool.and_eq_true, decide_eq_true_eq, Bool.not_eq_true'] at h
        obtain ⟨⟨⟨h2, h3⟩, h4⟩, h5⟩ := h
        subst h2
        have sa : SE X env ea (evalE pg call a env) true := soundE a ea sc osc .look X env h3 G
        have sb : SE X env eb (evalE pg call b env) true := soundE b eb sc osc .look X env h4 G
        cases md with
        | keep => exact se_cmp G.units h5 sa sb
        | look => exact SE.weak (se_cmp G.units h5 sa sb)
        | test => exact st_cmp G.units h5 sa sb
      | [], _, h => simp [trE] at h
      | _ :: _ :: _, _, h => simp [trE] at h
      | [_], [], h => simp [trE] at h
      | [_], _ :: _ :: _, h => simp [trE] at h
    | _ => simp [trE] at h
  | .cmp2 o1 o2 a b c, e, sc, osc, md, X, env, h, G => by
    cases e with
    | Compare ea os es p =>
      match os, es, h with
      | [p1, p2], [eb, ec], h =>
        simp only [trE, Bool.and_eq_true, decide_eq_true_eq, Bool.not_eq_true'] at h
        obtain ⟨⟨⟨⟨⟨h1, h2⟩, h3⟩, h4⟩, h5⟩, h6⟩ := h
        subst h1 h2
        have sa : SE X env ea (evalE pg call a env) true := soundE a ea sc osc .look X env h3 G
        have sb : SE X env eb (evalE pg call b env) true := soundE b eb sc osc .look X env h4 G
        have sc' : SE X env ec (evalE pg call c env) true := soundE c ec sc osc .look X env h5 G
        cases md with
        | keep => exact se_cmp2 G.units h6 sa sb sc'
        | look => exact SE.weak (se_cmp2 G.units h6 sa sb sc')
        | test => exact st_cmp2 G.units h6 sa sb sc'
      | [], _, h => simp [trE] at h
      | [_], _, h => simp [trE] at h
      | _ :: _ :: _ :: _, _, h => simp [trE] at h
      | [_, _], [], h => simp [trE] at h
      | [_, _], [_], h => simp [trE] at h
      | [_, _], _ :: _ :: _ :: _, h => simp [trE] at h
    | _ => simp [trE] at h
  | .and a b, e, sc, osc, md, X, env, h, G => by
    cases e with
    | BoolOp op es p =>
      cases op with
      | Or => simp [trE] at h
      | And =>
        match es, h with
        | [], h => simp [trE] at h
        | [_], h => simp [trE] at h
        | [ea, eb], h =>
          simp only [trE, Bool.and_eq_true] at h
          have sa := soundE a ea sc osc (mdA md) X env h.1 G
          have sb := soundE b eb sc osc (mdB md) X env h.2 G
          cases md with
          | keep => exact se_and (Ba := true) sa (se_one sb)
          | look => exact SE.weak (se_and (Ba := true) sa (se_one sb))
          | test => exact st_and sa (st_one_and sb)
        | ea :: eb :: ec :: rest, h =>
          simp only [trE, Bool.and_eq_true] at h
          have sa := soundE a ea sc osc (mdA md) X env h.1 G
          have sb := soundE b _ sc osc (mdB md) X env h.2 G
          cases md with
          | keep => exact se_and (Ba := true) sa sb
          | look => exact SE.weak (se_and (Ba := true) sa sb)
          | test => exact st_and sa sb
    | _ => simp [trE] at h
  | .or a b, e, sc, osc, md, X, env, h, G => by
    cases e with
    | BoolOp op es p =>
      cases op with
      | And => simp [trE] at h
      | Or =>
        match es, h with
        | [], h => simp [trE] at h
        | [_], h => simp [trE] at h
        | [ea, eb], h =>
          simp only [trE, Bool.and_eq_true] at h
          have sa := soundE a ea sc osc (mdA md) X env h.1 G
          have sb := soundE b eb sc osc (mdB md) X env h.2 G
          cases md with
          | keep => exact se_or (Ba := true) sa (se_one sb)
          | look => exact SE.weak (se_or (Ba := true) sa (se_one sb))
          | test => exact st_or sa (st_one_or sb)
        | ea :: eb :: ec :: rest, h =>
          simp only [trE, Bool.and_eq_true] at h
          have sa := soundE a ea sc osc (mdA md) X env h.1 G
          have sb := soundE b _ sc osc (mdB md) X env h.2 G
          cases md with
          | keep => exact se_or (Ba := true) sa sb
          | look => exact SE.weak (se_or (Ba := true) sa sb)
          | test => exact st_or sa sb
    | _ => simp [trE] at h
  | .not a, e, sc, osc, md, X, env, h, G => by
    cases e with
    | UnaryOp op ea p =>
      cases op with
      | Not =>
        simp only [trE] at h
        have sa := soundE a ea sc osc (mdA md) X env h G
        cases md with
        | keep => exact se_not (Ba := true) sa
        | look => exact SE.weak (se_not (Ba := true) sa)
        | test => exact st_not sa
      | _ => simp [trE] at h
    | _ => simp [trE] at h
  | .ite t a b, e, sc, osc, md, X, env, h, G => by
    cases e with
    | IfExp et ea eb p =>
      simp only [trE, Bool.and_eq_true] at h
      obtain ⟨h1, ⟨h2, h3⟩, h4⟩ := h
      have s := se_ite (pos := p) (soundE t et sc osc .test X env h2 G) (soundE a ea sc osc .keep X env h3 G) (soundE b eb sc osc .keep X env h4 G)
      cases md with
      | keep => exact s
      | look => exact s.weak
      | test => cases h1
    | _ => simp [trE] at h
  | .tup es, e, sc, osc, md, X, env, h, G => by
    cases e with
    | Tuple ees k p =>
      simp only [trE, Bool.and_eq_true] at h
      exact sm_of (se_tup (soundL es ees sc osc .keep X env h.2 G).2) h.1
    | _ => simp [trE] at h
  | .lst es, e, sc, osc, md, X, env, h, G => by
    cases e with
    | List ees p =>
      simp only [trE, Bool.and_eq_true] at h
      exact sm_of (se_lst (soundL es ees sc osc .keep X env h.2 G).2) h.1
    | _ => simp [trE] at h
  | .box es, e, sc, osc, md, X, env, h, G => by
    cases e with
    | List ees p =>
      simp only [trE, Bool.and_eq_true] at h
      exact sm_of (se_box (soundL es ees sc osc .keep X env h.2 G).2) h.1
    | _ => simp [trE] at h
  | .dct es, e, sc, osc, md, X, env, h, G => by
    cases e with
    | Dict keys values p =>
      simp only [trE, Bool.and_eq_true, Bool.or_eq_true, decide_eq_true_eq, Bool.not_eq_true'] at h
      obtain ⟨h1, h⟩ := h
      rcases h with h | h
      · match es, keys, values, h with
        | .nil, [], [], _ => exact sm_of se_dct0 h1
        | .nil, _ :: _, _, h => cases h
        | .nil, [], _ :: _, h => cases h
        | .cons _ _, _, _, h => cases h
      · obtain ⟨⟨⟨⟨h2, h3⟩, h4⟩, h5⟩, h6⟩ := h
        exact sm_of (se_dct h2 h3 (by intro e; subst e; cases h4) h5 (soundD es keys values sc osc X env p h6 G)) h1
    | _ => simp [trE] at h
  | .idx a i, e, sc, osc, md, X, env, h, G => by
    cases e with
    | Subscript ea ei p =>
      simp only [trE, Bool.and_eq_true] at h
      obtain ⟨h1, ⟨h2, h3⟩, h4⟩ := h
      exact sm_of (se_idx (Ba := true) (Bi := true) G.units h4 (soundE a ea sc osc .look X env h2 G) (soundE i ei sc osc .look X env h3 G)) h1
    | _ => simp [trE] at h
  | .slc a lo hi, e, sc, osc, md, X, env, h, G => by
    cases e with
    | Subscript ea ei p =>
      cases ei with
      | Slice l hh st p2 =>
        cases st with
        | none =>
          simp only [trE, Bool.and_eq_true] at h
          obtain ⟨h1, ⟨h2, h3⟩, h4⟩ := h
          exact sm_of (se_slc (Ba := true) (soundE a ea sc osc .look X env h2 G) (soundO lo l sc osc X env h3 G) (soundO hi hh sc osc X env h4 G)) h1
        | some _ => simp [trE] at h
      | _ => simp [trE] at h
    | _ => simp [trE] at h
  | .rev a, e, sc, osc, md, X, env, h, G => by
    unfold trE at h
    rw [Bool.and_eq_true] at h
    obtain ⟨h1, h⟩ := h
    split at h
    · simp only [Bool.and_eq_true, decide_eq_true_eq] at h
      obtain ⟨h2, h3⟩ := h
      subst h2
      exact sm_of (se_revL (Ba := true) (soundE a _ sc osc .look X env h3 G)) h1
    · cases h
  | .call f es, e, sc, osc, md, X, env, h, G => by
    unfold trE at h
    rw [Bool.and_eq_true] at h
    obtain ⟨h1, h⟩ := h
    split at h
    · rename_i x p args p2
      simp only [Bool.and_eq_true, decide_eq_true_eq] at h
      obtain ⟨⟨⟨h2, h3⟩, h4⟩, h5, h6⟩ := h
      have sl := soundL es args sc osc .keep X env h6 G
      refine sm_of ?_ h1
      unfold nameOf at h4
      cases hf : pg.fns[f]? with
      | some fi =>
        rw [hf] at h4
        simp only at h4
        cases hgl : gloF pg f with
        | false => rw [hgl] at h4; cases h4
        | true =>
          rw [hgl] at h4
          have hx : fi.name = x := Option.some.inj h4
          have C := G.fns f fi hf
          rw [hgl] at C
          cases args with
          | nil =>
            cases es with
            | nil => exact se_call0 C hx (glo_of h2 G) (ok_of h3).1
            | cons _ _ => simp [trL] at h6
            | star _ _ => cases h5
          | cons a args => exact se_call C hx (glo_of h2 G) (ok_of h3).1 (sl.1 h5) sl.2
      | none =>
        rw [hf] at h4
        obtain ⟨c, hc, hx⟩ := map_some_of h4
        have C := G.mks f c hf hc
        cases args with
        | nil =>
          cases es with
          | nil => exact se_mk0 C hx (glo_of h2 G) (ok_of h3).1
          | cons _ _ => simp [trL] at h6
          | star _ _ => cases h5
        | cons a args => exact se_mk C hx (glo_of h2 G) (ok_of h3).1 (sl.1 h5) sl.2
    · cases h
  | .callK f q es ks, e, sc, osc, md, X, env, h, G => by
    unfold trE at h
    rw [Bool.and_eq_true] at h
    obtain ⟨h1, h⟩ := h
    split at h
    · rename_i x p args kws p2
      simp only [Bool.and_eq_true] at h
      obtain ⟨⟨⟨⟨h2, h3⟩, h4⟩, h50, h5⟩, h6⟩ := h
      cases hf : pg.fns[f]? with
      | none => rw [hf] at h4; cases h4
      | some fi =>
        rw [hf] at h4
        simp only [Bool.and_eq_true, decide_eq_true_eq] at h4
        obtain ⟨⟨hgl, hx⟩, h4⟩ := h4
        cases hq : fi.kws[q]? with
        | none => rw [hq] at h4; cases h4
        | some k =>
          rw [hq] at h4
          have hk : kws.map (·.arg) = k.2.1.map some := by
            unfold kwOk at h4
            exact of_decide_eq_true h4
          have C := G.fns f fi hf
          rw [hgl] at C
          have sl := soundL es args sc osc .keep X env h5 G
          have sk := soundK ks kws sc osc X env h6 G
          refine sm_of ?_ h1
          cases args with
          | nil =>
            cases es with
            | nil => exact se_callK0 C hf hq hx (glo_of h2 G) (ok_of h3).1 hk sk
            | cons _ _ => simp [trL] at h5
            | star _ _ => cases h50
          | cons a args => exact se_callK C hf hq hx (glo_of h2 G) (ok_of h3).1 (sl.1 h50) hk sl.2 sk
    · cases h
  | .blt b es, e, sc, osc, md, X, env, h, G => by
    unfold trE at h
    rw [Bool.and_eq_true] at h
    obtain ⟨h1, h⟩ := h
    split at h
    · rename_i x p args p2
      simp only [Bool.and_eq_true, decide_eq_true_eq, Bool.not_eq_true'] at h
      obtain ⟨⟨⟨h2, h3⟩, h4⟩, h50, h5⟩ := h
      have sl := soundL es args sc osc .look X env h5 G
      refine sm_of ?_ h1
      cases args with
      | nil => cases h4
      | cons a args => exact se_blt (B := true) G.calm G.ng G.units h3 (glo_of h2 G) (by rw [h3]; exact G.bl _ (by cases b <;> decide +kernel)) (sl.1 h50) sl.2
    · cases h
  | .mth m a es, e, sc, osc, md, X, env, h, G => by
    unfold trE at h
    rw [Bool.and_eq_true] at h
    obtain ⟨h1, h⟩ := h
    split at h
    · rename_i eo nm apos args cpos
      simp only [Bool.and_eq_true, decide_eq_true_eq, Bool.not_eq_true'] at h
      obtain ⟨⟨⟨⟨⟨⟨h2, h3⟩, h4⟩, h5⟩, h6⟩, h7⟩, h80, h8⟩ := h
      have sl := soundL es args sc osc .look X env h8 G
      refine sm_of ?_ h1
      cases args with
      | nil => cases h5
      | cons x args => exact se_mth (B := true) (Bo := true) G.units h2 h3 (sl.1 h80) h4 h6 (soundE a eo sc osc .look X env h7 G) sl.2
    · cases h
  | .isi a t, e, sc, osc, md, X, env, h, G => by
    unfold trE at h
    rw [Bool.and_eq_true] at h
    obtain ⟨h1, h⟩ := h
    split at h
    · rename_i x p ea y p2 p3
      simp only [Bool.and_eq_true, decide_eq_true_eq] at h
      obtain ⟨⟨⟨⟨⟨h2, h3⟩, h4⟩, h5⟩, h6⟩, h7⟩ := h
      refine sm_of ?_ h1
      exact se_isi (B := true) h5 h3 (glo_of h2 G) (by rw [h3]; exact G.bl _ (by decide +kernel)) (glo_of h4 G) (by rw [h5]; exact G.bl _ (by cases t <;> decide +kernel)) h6 (soundE a ea sc osc .look X env h7 G)
    · cases h
  | .kget k a d, e, sc, osc, md, X, env, h, G => by
    unfold trE at h
    rw [Bool.and_eq_true] at h
    obtain ⟨h1, h⟩ := h
    split at h
    · rename_i x p1 nm apos ea ed cpos
      simp only [Bool.and_eq_true, decide_eq_true_eq] at h
      obtain ⟨⟨⟨⟨⟨⟨⟨⟨h2, h3⟩, h4⟩, h5⟩, h6⟩, h7⟩, h8⟩, h9⟩, h10⟩ := h
      subst h2
      obtain ⟨dd, hd, hx⟩ := map_some_of h5
      refine sm_of ?_ h1
      exact se_kget (Ba := true) (G.kds k dd hd) hd hx (glo_of h3 G) (ok_of h4).1 h6 h7 h8 (soundE a ea sc osc .look X env h9 G) (soundE d ed sc osc .keep X env h10 G)
    · cases h
  | .lrng es, e, sc, osc, md, X, env, h, G => by
    unfold trE at h
    rw [Bool.and_eq_true] at h
    obtain ⟨h1, h⟩ := h
    split at h
    · rename_i x p1 y p2 args p3 p4
      simp only [Bool.and_eq_true, decide_eq_true_eq, Bool.or_eq_true] at h
      obtain ⟨⟨⟨⟨⟨h2, h3⟩, h4⟩, h5⟩, h6⟩, h70, h7⟩ := h
      subst h3 h5
      refine sm_of ?_ h1
      exact se_lrng G.calm (glo_of h2 G) (G.bl _ (by decide +kernel)) rfl (soundR es args sc osc X env _ _ h70 h7 h6 h4 G)
    · cases h
  | .trng es, e, sc, osc, md, X, env, h, G => by
    unfold trE at h
    rw [Bool.and_eq_true] at h
    obtain ⟨h1, h⟩ := h
    split at h
    · rename_i x p1 y p2 args p3 p4
      simp only [Bool.and_eq_true, decide_eq_true_eq, Bool.or_eq_true] at h
      obtain ⟨⟨⟨⟨⟨h2, h3⟩, h4⟩, h5⟩, h6⟩, h70, h7⟩ := h
      subst h3 h5
      refine sm_of ?_ h1
      exact se_trng G.calm (glo_of h2 G) (G.bl _ (by decide +kernel)) rfl (soundR es args sc osc X env _ _ h70 h7 h6 h4 G)
    · cases h
  | .sst a, e, sc, osc, md, X, env, h, G => by
    unfold trE at h
    rw [Bool.and_eq_true] at h
    obtain ⟨h1, h⟩ := h
    split at h
    · rename_i x p1 y p2 ea p3 p4
      simp only [Bool.and_eq_true, decide_eq_true_eq] at h
      obtain ⟨⟨⟨⟨⟨h2, h3⟩, h4⟩, h5⟩, h6⟩, h7⟩ := h
      refine sm_of ?_ h1
      exact se_sst (B := true) G.calm h3 (glo_of h2 G) (by rw [h3]; exact G.bl _ (by decide +kernel)) h5 (glo_of h4 G) (by rw [h5]; exact G.bl _ (by decide +kernel)) h6 (soundE a ea sc osc .look X env h7 G)
    · cases h
  | .att a x, e, sc, osc, md, X, env, h, G => by
    cases e with
    | Attribute ea y p =>
      simp only [trE, Bool.and_eq_true, decide_eq_true_eq] at h
      obtain ⟨h1, ⟨h2, h3⟩, h4⟩ := h
      subst h2
      exact sm_of (se_att (Ba := true) (fun c hc => (G.cls c hc).1) h3 (soundE a ea sc osc .look X env h4 G)) h1
    | _ => simp [trE] at h
  | .isC a c, e, sc, osc, md, X, env, h, G => by
    unfold trE at h
    rw [Bool.and_eq_true] at h
    obtain ⟨h1, h⟩ := h
    split at h
    · rename_i x p ea y p2 p3
      simp only [Bool.and_eq_true, decide_eq_true_eq] at h
      obtain ⟨⟨⟨⟨⟨⟨h2, h3⟩, h4⟩, h40⟩, h5⟩, h6⟩, h7⟩ := h
      obtain ⟨cl, hcl, hy⟩ := map_some_of h5
      obtain ⟨F, hm⟩ := G.cls cl (List.mem_of_getElem? hcl)
      refine sm_of ?_ h1
      exact se_isC (B := true) hcl F hm hy h3 (glo_of h2 G) (by rw [h3]; exact G.bl _ (by decide +kernel)) (glo_of h4 G) (ok_of h40).1 h6 (soundE a ea sc osc .look X env h7 G)
    · cases h
  | .lc own tg it cond elt, e, sc, osc, md, X, env, h, G => by
    unfold trE at h
    rw [Bool.and_eq_true] at h
    obtain ⟨h1, h⟩ := h
    split at h
    · rename_i eelt etg eit ifs z scope p
      simp only [Bool.and_eq_true, decide_eq_true_eq, List.all_eq_true] at h
      obtain ⟨⟨⟨⟨⟨⟨⟨⟨h2, h3⟩, h4⟩, h5⟩, h6⟩, h7⟩, h8⟩, h9⟩, h10⟩ := h
      subst h2
      refine sm_of ?_ h1
      have hown : (ownN N own).map (·.2) = own := by
        unfold ownN
        rw [List.map_map]
        exact List.map_id' own
      have key := se_lc (pos := p) (lcOk_of (pg := pg) (call := call) (own := own) (tg := tg) (it := it) (cond := cond) (elt := elt) (X := X) (env := env) h3 h4 h5 h6 h7 G (soundI it etg eit sc osc X env h8 G)
        (fun X' env' G' => soundC cond ifs (relS scope sc) scope X' env' h9 G') (fun X' env' G' => soundE elt eelt (relS scope sc) scope .keep X' env' h10 G'))
      rw [hown] at key
      exact key
    · cases h
theorem soundL : ∀ (es : IL) (ees : List Expr) (sc osc : Scope) (md : Md) (X : Cx) (env : PEnv), trL pg N es sc osc md ees = true → Goo pg call N sc osc X → (noSt es = true → ees.all notStar = true) ∧ SA X env ees (evalL pg call es env) (nkp md)
  | .nil, ees, sc, osc, md, X, env, h, G => by
    cases ees with
    | nil => exact ⟨fun _ => rfl, sa_nil⟩
    | cons _ _ => simp [trL] at h
  | .cons e es, ees, sc, osc, md, X, env, h, G => by
    cases ees with
    | nil => simp [trL] at h
    | cons ee ees =>
      simp only [trL, Bool.and_eq_true] at h
      obtain ⟨⟨⟨h1, h2⟩, h3⟩, h4⟩ := h
      obtain ⟨s1, s2⟩ := soundL es ees sc osc md X env h4 G
      have s0 := soundE e ee sc osc md X env h3 G
      refine ⟨fun hn => by simp [h1, s1 hn], ?_⟩
      cases md with
      | keep => exact sa_cons h1 s0 s2
      | look => exact sa_cons h1 s0 s2
      | test => cases h2
  | .star e es, ees, sc, osc, md, X, env, h, G => by
    match ees, h with
    | [], h => simp [trL] at h
    | x :: ees, h =>
      cases x with
      | Starred ee p =>
        simp only [trL, Bool.and_eq_true, Bool.not_eq_true'] at h
        obtain ⟨⟨h1, h2⟩, h3⟩ := h
        obtain ⟨_, s2⟩ := soundL es ees sc osc md X env h3 G
        have s0 := soundE e ee sc osc .keep X env h2 G
        refine ⟨fun hn => (by cases hn), ?_⟩
        cases md with
        | keep => exact sa_star s0 s2
        | look => cases h1
        | test => cases h1
      | _ => simp [trL] at h
theorem soundO : ∀ (es : IL) (o : Option Expr) (sc osc : Scope) (X : Cx) (env : PEnv), trO pg N es sc osc o = true → Goo pg call N sc osc X → SO X env o (evalP pg call es env)
  | .nil, o, sc, osc, X, env, h, G => by
    cases o with
    | none => exact so_none
    | some _ => simp [trO] at h
  | .cons e es, o, sc, osc, X, env, h, G => by
    cases es with
    | nil =>
      cases o with
      | none => simp [trO] at h
      | some x =>
        simp only [trO] at h
        exact so_some (Ba := true) (soundE e x sc osc .look X env h G)
    | cons _ _ => simp [trO] at h
    | star _ _ => simp [trO] at h
  | .star _ _, o, sc, osc, X, env, h, G => by simp [trO] at h
theorem soundC : ∀ (es : IL) (ees : List Expr) (sc osc : Scope) (X : Cx) (env : PEnv), trC pg N es sc osc ees = true → Goo pg call N sc osc X → STs X env ees (evalT pg call es env)
  | .nil, ees, sc, osc, X, env, h, G => by
    cases ees with
    | nil => exact sts_nil
    | cons _ _ => simp [trC] at h
  | .cons e es, ees, sc, osc, X, env, h, G => by
    cases es with
    | nil =>
      match ees, h with
      | [x], h =>
        simp only [trC] at h
        exact sts_one (soundE e x sc osc .test X env h G)
      | [], h => simp [trC] at h
      | _ :: _ :: _, h => simp [trC] at h
    | cons _ _ => simp [trC] at h
    | star _ _ => simp [trC] at h
  | .star _ _, ees, sc, osc, X, env, h, G => by simp [trC] at h
theorem soundK : ∀ (es : IL) (kws : List Keyword) (sc osc : Scope) (X : Cx) (env : PEnv), trK pg N es sc osc kws = true → Goo pg call N sc osc X → SK X env kws (evalL pg call es env)
  | .nil, kws, sc, osc, X, env, h, G => by
    cases kws with
    | nil => exact sk_nil
    | cons _ _ => simp [trK] at h
  | .cons e es, kws, sc, osc, X, env, h, G => by
    cases kws with
    | nil => simp [trK] at h
    | cons k kws =>
      obtain ⟨nm, x, kp⟩ := k
      simp only [trK, Bool.and_eq_true] at h
      exact sk_cons (soundE e x sc osc .keep X env h.1 G) (soundK es kws sc osc X env h.2 G)
  | .star _ _, kws, sc, osc, X, env, h, G => by simp [trK] at h
theorem soundD : ∀ (es : IL) (ks : List (Option Expr)) (vs : List Expr) (sc osc : Scope) (X : Cx) (env : PEnv) (pos : Pos), trD pg N es sc osc ks vs = true → Goo pg call N sc osc X → SD X env pos ks vs (evalL pg call es env)
  | .nil, ks, vs, sc, osc, X, env, pos, h, G => by
    match ks, vs, h with
    | [], [], _ => exact sd_nil
    | [], _ :: _, h => simp [trD] at h
    | _ :: _, _, h => simp [trD] at h
  | .cons e (.cons e2 es), ks, vs, sc, osc, X, env, pos, h, G => by
    match ks, vs, h with
    | some k :: ks, v :: vs, h =>
      simp only [trD, trD2, Bool.and_eq_true] at h
      exact sd_cons (soundE e k sc osc .keep X env h.1 G) (soundE e2 v sc osc .keep X env h.2.1 G) (soundD es ks vs sc osc X env pos h.2.2 G)
    | [], _, h => simp [trD] at h
    | none :: _, _, h => simp [trD] at h
    | some _ :: _, [], h => simp [trD, trD2] at h
  | .cons e .nil, ks, vs, sc, osc, X, env, pos, h, G => by
    match ks, h with
    | some k :: ks, h => simp [trD, trD2] at h
    | [], h => simp [trD] at h
    | none :: _, h => simp [trD] at h
  | .star _ _, ks, vs, sc, osc, X, env, pos, h, G => by simp [trD] at h
  | .cons e (.star _ _), ks, vs, sc, osc, X, env, pos, h, G => by
    match ks, h with
    | some k :: ks, h => simp [trD, trD2] at h
    | [], h => simp [trD] at h
    | none :: _, h => simp [trD] at h
theorem soundR : ∀ (es : IL) (args : List Expr) (sc osc : Scope) (X : Cx) (env : PEnv) (p2 pos2 : Pos), noSt es = true → trL pg N es sc osc .keep args = true → (args.length = 1 ∨ args.length = 2) → gloB sc "range" = true → Goo pg call N sc osc X → SR X env (.Call (.Name "range" p2) args [] pos2) (evalL pg call es env)
  | .nil, args, sc, osc, X, env, p2, pos2, hn, h, hl, hg, G => by
    cases args with
    | nil => simp at hl
    | cons _ _ => simp [trL] at h
  | .cons e .nil, args, sc, osc, X, env, p2, pos2, hn, h, hl, hg, G => by
    match args, h with
    | [a], h =>
      simp only [trL, Bool.and_eq_true] at h
      exact sr_one (glo_of hg G) (G.bl _ (by decide +kernel)) h.1.1.1 (soundE e a sc osc .keep X env h.1.2 G)
    | [], h => simp [trL] at h
    | _ :: _ :: _, h => simp [trL] at h
  | .cons e (.cons e2 .nil), args, sc, osc, X, env, p2, pos2, hn, h, hl, hg, G => by
    match args, h with
    | [a, b], h =>
      simp only [trL, Bool.and_eq_true] at h
      exact sr_two (glo_of hg G) (G.bl _ (by decide +kernel)) h.1.1.1 h.2.1.1.1 (soundE e a sc osc .keep X env h.1.2 G) (soundE e2 b sc osc .keep X env h.2.1.2 G)
    | [], h => simp [trL] at h
    | [_], h => simp [trL] at h
    | _ :: _ :: _ :: _, h => simp [trL] at h
  | .cons e (.cons e2 (.cons e3 es)), args, sc, osc, X, env, p2, pos2, hn, h, hl, hg, G => by
    match args, h with
    | [], h => simp [trL] at h
    | [_], h => simp [trL] at h
    | [_, _], h => simp [trL] at h
    | _ :: _ :: _ :: _, h => simp at hl
  | .star _ _, args, sc, osc, X, env, p2, pos2, hn, h, hl, hg, G => by cases hn
  | .cons _ (.star _ _), args, sc, osc, X, env, p2, pos2, hn, h, hl, hg, G => by cases hn
  | .cons _ (.cons _ (.star _ _)), args, sc, osc, X, env, p2, pos2, hn, h, hl, hg, G => by cases hn
theorem soundI : ∀ (it : II) (etg ee : Expr) (sc osc : Scope) (X : Cx) (env : PEnv), trI pg N it sc osc etg ee = true → Goo pg call N sc osc X → SI X env etg ee (evalI pg call it env) (prB it)
  | .seq e, etg, ee, sc, osc, X, env, h, G => by
    simp only [trI] at h
    exact si_seq (soundE e ee sc osc .keep X env h G)
  | .rng1 e, etg, ee, sc, osc, X, env, h, G => by
    unfold trI at h
    split at h
    · simp only [Bool.and_eq_true, decide_eq_true_eq] at h
      obtain ⟨⟨⟨h1, h2⟩, h3⟩, h4⟩ := h
      subst h2
      exact si_rng1 (B := true) (glo_of h1 G) (G.bl _ (by decide +kernel)) h3 (soundE e _ sc osc .look X env h4 G)
    · cases h
  | .rng2 a b, etg, ee, sc, osc, X, env, h, G => by
    unfold trI at h
    split at h
    · simp only [Bool.and_eq_true, decide_eq_true_eq] at h
      obtain ⟨⟨⟨⟨⟨h1, h2⟩, h3⟩, h4⟩, h5⟩, h6⟩ := h
      subst h2
      exact si_rng2 (B := true) (B' := true) (glo_of h1 G) (G.bl _ (by decide +kernel)) h3 h4 (soundE a _ sc osc .look X env h5 G) (soundE b _ sc osc .look X env h6 G)
    · cases h
  | .enum e, etg, ee, sc, osc, X, env, h, G => by
    unfold trI at h
    split at h
    · simp only [Bool.and_eq_true, decide_eq_true_eq] at h
      obtain ⟨⟨⟨⟨h0, h1⟩, h2⟩, h3⟩, h4⟩ := h
      subst h2
      cases etg with
      | Tuple elts kk tpos => exact si_enum (glo_of h1 G) (G.bl _ (by decide +kernel)) h3 (soundE e _ sc osc .keep X env h4 G)
      | _ => cases h0
    · cases h
  | .zip _ _, _, _, _, _, _, _, h, _ => by simp [trI] at h
end
end
end Py

set_option Elab.async false
set_option linter.all false
set_option maxRecDepth 100000
set_option maxHeartbeats 1000000
/-! PyM: statements, form by form. -/
namespace Py
open PySem L2
open PyProof.Rows hiding St
def wkS (X : Cx) (st : Stmt) : TS := fun D σ H => ∀ (pins : List (Addr × Obj)) (s : Shared), Inv X pins σ H s → wpAny (model X.prog X.w) X.A (exec st X.env) (SP X pins D) X.xe s
theorem ps_wk {X : Cx} {st : Stmt} : PS X st (wkS X st) := ⟨fun pins s σ H D I h => h pins s I⟩
theorem wkS_of {X : Cx} {st : Stmt} {t : TS} (h : PS X st t) {D : Ends} {σ : St} {H : Hp} (q : t D σ H) : wkS X st D σ H := fun pins s I => h.run pins s σ H D I q
def wkB (X : Cx) (st : List Stmt) : TS := fun D σ H => ∀ (pins : List (Addr × Obj)) (s : Shared), Inv X pins σ H s → wpAny (model X.prog X.w) X.A (execs st X.env) (SP X pins D) X.xe s
theorem pss_wk {X : Cx} {st : List Stmt} : PSs X st (wkB X st) := ⟨fun pins s σ H D I h => h pins s I⟩
theorem wkB_of {X : Cx} {st : List Stmt} {t : TS} (h : PSs X st t) {D : Ends} {σ : St} {H : Hp} (q : t D σ H) : wkB X st D σ H := fun pins s I => h.run pins s σ H D I q
/-- behind a statement -/
def FlQ (K : PySem.W.Frag) (w0 w : Ws) (D : Ends) : Fl → PH → Prop
  | .nx env', ph1 => ∀ σ' w', Ev w0 w' → Sle w w' → Wf K w' ph1 → EnvR K w0 w' env' σ' → D.nx σ' w'.H
  | .bk env', ph1 => ∀ σ' w', Ev w0 w' → Sle w w' → Wf K w' ph1 → EnvR K w0 w' env' σ' → D.bk σ' w'.H
  | .ct env', ph1 => ∀ σ' w', Ev w0 w' → Sle w w' → Wf K w' ph1 → EnvR K w0 w' env' σ' → D.ct σ' w'.H
  | .rt r, ph1 => ∀ v w', Ev w0 w' → Wf K w' ph1 → RelF K w0 w' r v → D.rt v w'.H
def exS (K : PySem.W.Frag) (w0 : Ws) (W : WX) (e : PEx) (ph : PH) : Prop := ∀ cls d σ' w', Ev w0 w' → Wf K w' ph → ExR K w' e cls d → W cls d σ' w'.H
theorem exS_V {K : PySem.W.Frag} {w0 w : Ws} {W : WX} {σ : St} {e : PEx} {ph : PH} (g : Ev w0 w) (h : exS K w0 W e ph) : exV K w W σ e ph := fun cls d w' e' f r => h cls d σ w' (g.trans e') f r
theorem FlQ.mono {K : PySem.W.Frag} {w0 w w1 : Ws} {D : Ends} {fl : Fl} {ph : PH} (sl : Sle w w1) (h : FlQ K w0 w D fl ph) : FlQ K w0 w1 D fl ph := by
  cases fl with
  | nx env' => exact fun σ' w' e s f r => h σ' w' e (sl.trans s) f r
  | bk env' => exact fun σ' w' e s f r => h σ' w' e (sl.trans s) f r
  | ct env' => exact fun σ' w' e s f r => h σ' w' e (sl.trans s) f r
  | rt r => exact h
/-- at a statement -/
def SS (X : Cx) (st : Stmt) (m : PEnv → PM Fl) : Prop :=
  ∀ (σ : St) (w0 w : Ws) (ph : PH) (env : PEnv) (D : Ends) (W : WX), Takes X W → Ev w0 w → Wf X.K w ph → EnvR X.K w0 w env σ → Sat (m env ph) (FlQ X.K w0 w D) (exS X.K w0 W) → wkS X st D σ w.H
def SB (X : Cx) (st : List Stmt) (m : PEnv → PM Fl) : Prop :=
  ∀ (σ : St) (w0 w : Ws) (ph : PH) (env : PEnv) (D : Ends) (W : WX), Takes X W → Ev w0 w → Wf X.K w ph → EnvR X.K w0 w env σ → Sat (m env ph) (FlQ X.K w0 w D) (exS X.K w0 W) → wkB X st D σ w.H
section
variable {K : PySem.W.Frag} {X : Cx} {env : PEnv} {e : Expr} {m : PEnv → PM (PV × Bool)} {σ : St} {w0 w w1 wb : Ws} {ph : PH} {Q : VK} {W : WX} {B : Bool} {pos p : Pos} {st : Stmt} {sts : List Stmt} {ms mb : PEnv → PM Fl}
/-! ### a value stored -/
theorem set_any {i : Nat} {r : PV × Bool} {v : V} (g : Ev w0 w) (f : Wf K w ph) (e1 : Ev w w1) (rr : EnvR K w0 w env σ) (rel : RelF K w w1 r v) : EnvR K w0 w1 (env.set i (some r)) (σ.set i (some v)) := by
  obtain ⟨p, b⟩ := r
  cases b with
  | false => exact (rr.mono f e1).setV rel
  | true =>
    obtain ⟨a, xs, vs, rfl, rfl, z, ns, n0, nρ, ra⟩ := rel
    refine (rr.mono f e1).setO z ns (ev_back g n0) nρ ra fun j u hj hu hσ => ?_
    obtain ⟨a', xs', vs', _, h2, h3, _⟩ := rr.own j u hu
    rw [hσ] at h2
    cases h2
    rw [n0] at h3
    cases h3
/-- a slot's list is handed over to the frozen ones -/
theorem env_frz (i : Nat) (g : Ev w0 w) (f : Wf K w ph) (r : EnvR K w0 w env σ) : ∃ w', w'.H = w.H ∧ Ev w0 w' ∧ Sle w w' ∧ Wf K w' ph ∧ EnvR K w0 w' (frzE env i) σ := by
  unfold frzE
  split
  · rename_i v hi
    obtain ⟨a, xs, vs, h1, h2, h3, h4, h5, h6, h7⟩ := r.own i v hi
    have hlt : i < env.length := (List.getElem?_eq_some_iff.mp hi).1
    have hin : ∀ {j : Nat} {u : PV} {b : Bool}, j ≠ i → (env.set i (some (v, false)))[j]? = some (some (u, b)) → env[j]? = some (some (u, b)) := fun {j u b} hj e => by
      rw [List.getElem?_set_ne (Ne.symm hj)] at e; exact e
    have hno : ∀ {j : Nat} {u : PV}, (env.set i (some (v, false)))[j]? = some (some (u, true)) → j ≠ i := fun {j u} e hj => by
      subst hj
      rw [List.getElem?_set_self hlt] at e
      cases e
    refine ⟨w.frz a, rfl, ⟨g.pre, fun x h => .inl (g.S1 x h), fun x h => ?_, g.keep, g.trk⟩, sle_frz, wf_frz f (by rw [h3]; simp) h6, ⟨by rw [List.length_set, r.len], fun j u e => ?_, fun j u e => ?_, fun j k u t b hjk e1 e2 e3 e4 => ?_⟩⟩
    · rcases h with h | h
      · exact g.S2 x h
      · exact .inr (h ▸ h5)
    · by_cases hj : j = i
      · subst hj
        rw [List.getElem?_set_self hlt] at e
        cases e
        refine ⟨.ref a, h2, ?_⟩
        rw [h1, Rel]
        exact ⟨a, vs, rfl, ⟨.inr rfl, .inl h3⟩, Rels.mono sle_frz _ _ h7⟩
      · obtain ⟨x, g1, g2⟩ := r.val j u (hin hj e)
        exact ⟨x, g1, Rel.mono sle_frz _ _ g2⟩
    · have hj := hno e
      obtain ⟨a', xs', vs', k1, k2, k3, k4, k5, k6, k7⟩ := r.own j u (hin hj e)
      refine ⟨a', xs', vs', k1, k2, k3, fun s => ?_, k5, k6, Rels.mono sle_frz _ _ k7⟩
      rcases s with s | s
      · exact k4 s
      · exact r.dis j i u v a hj (hin hj e) hi (s ▸ k2) h2
    · exact r.dis j k u t b hjk (hin (hno e1) e1) (hin (hno e2) e2) e3 e4
  · exact ⟨w, rfl, g, Sle.refl w, f, r⟩
theorem getO_some {i : Nat} {xs : List PV} (h : getO env i = some xs) : env[i]? = some (some (.lst xs, true)) := by
  unfold getO at h
  split at h
  · rename_i ys he
    cases h
    exact he
  · cases h
/-- an owned list, written -/
theorem own_wr {i : Nat} {xs : List PV} (g : Ev w0 w) (f : Wf K w ph) (r : EnvR K w0 w env σ) (hi : env[i]? = some (some (.lst xs, true))) : ∃ a vs, σ[i]? = some (some (.ref a)) ∧ w.H a = some (.lst vs) ∧ Rels K w xs vs ∧
    ∀ xs' vs', Rels K w xs' vs' → Ev w0 (w.lay a (.lst vs')) ∧ Sle w (w.lay a (.lst vs')) ∧ Wf K (w.lay a (.lst vs')) ph ∧ EnvR K w0 (w.lay a (.lst vs')) (env.set i (some (.lst xs', true))) σ := by
  obtain ⟨a, ys, vs, h1, h2, h3, h4, h5, h6, h7⟩ := r.own i _ hi
  cases h1
  refine ⟨a, vs, h2, h3, h7, fun xs' vs' rr => ⟨ev_wr g h5, sle_wr h4, wf_wr f h6 h4, ?_⟩⟩
  have sl : Sle w (w.lay a (.lst vs')) := sle_wr h4
  have hlt : i < env.length := (List.getElem?_eq_some_iff.mp hi).1
  have hin : ∀ {j : Nat} {u : PV} {b : Bool}, j ≠ i → (env.set i (some (.lst xs', true)))[j]? = some (some (u, b)) → env[j]? = some (some (u, b)) := fun {j u b} hj e => by
    rw [List.getElem?_set_ne (Ne.symm hj)] at e; exact e
  have hfull : ∀ {j : Nat} {u : PV}, (env.set i (some (.lst xs', true)))[j]? = some (some (u, true)) → ∃ u', env[j]? = some (some (u', true)) := fun {j u} e => by
    by_cases hj : j = i
    · exact ⟨_, hj ▸ hi⟩
    · exact ⟨u, hin hj e⟩
  refine ⟨by rw [List.length_set, r.len], fun j u e => ?_, fun j u e => ?_, fun j k u t b hjk e1 e2 e3 e4 => ?_⟩
  · have hj : j ≠ i := fun hj => by
      subst hj
      rw [List.getElem?_set_self hlt] at e
      cases e
    obtain ⟨x, g1, g2⟩ := r.val j u (hin hj e)
    exact ⟨x, g1, Rel.mono sl _ _ g2⟩
  · by_cases hj : j = i
    · subst hj
      rw [List.getElem?_set_self hlt] at e
      cases e
      exact ⟨a, xs', vs', rfl, h2, upd_same, h4, h5, h6, Rels.mono sl _ _ rr⟩
    · obtain ⟨a', xs2, vs2, k1, k2, k3, k4, k5, k6, k7⟩ := r.own j u (hin hj e)
      have hne : a' ≠ a := fun z => r.dis j i u _ a hj (hin hj e) hi (z ▸ k2) h2
      exact ⟨a', xs2, vs2, k1, k2, by show upd w.H a _ a' = _; rw [upd_ne hne]; exact k3, k4, k5, k6, Rels.mono sl _ _ k7⟩
  · obtain ⟨u', k1⟩ := hfull e1
    obtain ⟨t', k2⟩ := hfull e2
    exact r.dis j k u' t' b hjk k1 k2 e3 e4
/-- a box, written -/
theorem wr_box {k : Nat} {a : Addr} {xs xs' : List PV} {vs' : List V} (f : Wf K w ph) (ha : w.ρ[k]? = some a) (hk : ph[k]? = some (.lst xs)) (rr : Rels K w xs' vs') : Ev w (w.lay a (.lst vs')) ∧ Wf K (w.lay a (.lst vs')) (ph.set k (.lst xs')) := by
  have hm : a ∈ w.ρ := List.mem_of_getElem? ha
  have e : Ev w (w.lay a (.lst vs')) := ⟨⟨[], by simp [Ws.lay]⟩, fun _ h => h, fun _ h => .inl h, fun x u q hx => by
    show upd w.H a _ x = some u
    rw [upd_ne (fun z : x = a => hx (z ▸ hm))]
    exact q, fun x h => upd_none h⟩
  have sl := e.sle f
  refine ⟨e, fun x h => upd_none (f.Sin x h), f.Sρ, fun x h => upd_none (f.ρin x h), f.nd, by rw [List.length_set]; exact f.len, fun j o x h1 h2 => ?_⟩
  have h2 : w.ρ[j]? = some x := h2
  by_cases hj : j = k
  · subst hj
    rw [List.getElem?_set_self (List.getElem?_eq_some_iff.mp hk).1] at h1
    cases h1
    rw [ha] at h2
    cases h2
    exact ⟨vs', upd_same, Rels.mono sl _ _ rr⟩
  · rw [List.getElem?_set_ne (Ne.symm hj)] at h1
    have hne : x ≠ a := fun z => by
      subst z
      obtain ⟨l1, g1⟩ := List.getElem?_eq_some_iff.mp h2
      obtain ⟨l2, g2⟩ := List.getElem?_eq_some_iff.mp ha
      exact hj ((List.getElem_inj f.nd).mp (g1.trans g2.symm))
    show RelO K _ o (upd w.H a _ x)
    rw [upd_ne hne]
    exact (f.box j o x h1 h2).mono sl
/-! ### suites -/
theorem sb_nil : SB X [] (fun env => PM.pure (.nx env)) := fun σ w0 w ph env D W tk g f r q => wkB_of pss_nil ((sat_pure.mp q) σ w g (Sle.refl w) f r)
theorem sb_cons (hs : SS X st ms) (hb : SB X sts mb) : SB X (st :: sts) (fun env => PM.bind (ms env) (kNx mb)) := by
  intro σ w0 w ph env D W tk g f r q
  refine wkB_of (pss_cons ps_wk pss_wk) ?_
  refine hs σ w0 w ph env { D with nx := wkB X sts D } W tk g f r ((sat_bind'.mp q).mono (fun fl ph1 h => ?_) fun _ _ z => z)
  cases fl with
  | nx env' => exact fun σ' w' e sl f' r' => hb σ' w0 w' ph1 env' D W tk e f' r' (Sat.mono (show Sat (mb env' ph1) (FlQ X.K w0 w D) (exS X.K w0 W) from h) (fun _ _ z => z.mono sl) fun _ _ z => z)
  | bk env' => exact h
  | ct env' => exact h
  | rt r => exact h
theorem sb_frz (i : Nat) (hb : SB X sts mb) : SB X sts (fun env => mb (frzE env i)) := by
  intro σ w0 w ph env D W tk g f r q
  obtain ⟨w', eH, e, sl, f', r'⟩ := env_frz i g f r
  rw [← eH]
  exact hb σ w0 w' ph _ D W tk e f' r' (q.mono (fun _ _ z => z.mono sl) fun _ _ z => z)
/-! ### simple statements -/
theorem ss_pass : SS X (.Pass pos) (fun env => PM.pure (.nx env)) := fun σ w0 w ph env D W tk g f r q => wkS_of ps_pass ((sat_pure.mp q) σ w g (Sle.refl w) f r)
theorem ss_brk : SS X (.Break pos) (fun env => PM.pure (.bk env)) := fun σ w0 w ph env D W tk g f r q => wkS_of ps_break ((sat_pure.mp q) σ w g (Sle.refl w) f r)
theorem ss_cnt : SS X (.Continue pos) (fun env => PM.pure (.ct env)) := fun σ w0 w ph env D W tk g f r q => wkS_of ps_continue ((sat_pure.mp q) σ w g (Sle.refl w) f r)
theorem ss_retN : SS X (.Return none pos) (fun _ => PM.pure (.rt (.non, false))) := fun σ w0 w ph env D W tk g f r q => wkS_of ps_retN ((sat_pure.mp q) .non w g f (show Rel X.K w .non .non from rel_non))
theorem ss_ret (h : ∀ env, SE X env e (m env) false) : SS X (.Return (some e) pos) (fun env => PM.bind (m env) fun r => PM.pure (.rt r)) := by
  intro σ w0 w ph env D W tk g f r q
  refine wkS_of (ps_ret pe_wk) ?_
  exact h env σ w0 w ph _ W tk f r ((sat_bind'.mp q).mono (fun rr ph1 hk v w1 e1 f1 rel => (sat_pure.mp hk) v w1 (g.trans e1) f1 (RelF.weak (fun x hx => ev_back g hx) rel)) fun _ _ z => exS_V g z)
theorem ss_retv {i : Nat} {x : Str} (hN : X.N[i]? = some x) (hv : Vis X.env.scope x) (hd : (x == ("__debug__" : Str)) = false) (hcd : (x == ("__classdict__" : Str)) = false) : SS X (.Return (some (.Name x p)) pos) (fun env => kRetv (getV env i)) := by
  intro σ w0 w ph env D W tk g f r q
  refine wkS_of (ps_ret (pe_var hN hv hd hcd)) ?_
  have q : Sat (kRetv (getV env i) ph) (FlQ X.K w0 w D) (exS X.K w0 W) := q
  cases hg : getV env i with
  | none => rw [hg] at q; exact (show False from q).elim
  | some rr =>
    rw [hg] at q
    obtain ⟨v, b⟩ := rr
    have hi := getV_some hg
    have q' : FlQ X.K w0 w D (.rt (v, b)) ph := q
    cases b with
    | false =>
      obtain ⟨u, h1, h2⟩ := r.val i v hi
      exact ⟨u, h1, q' u w g f h2⟩
    | true =>
      obtain ⟨a, xs, vs, h1, h2, h3, h4, h5, h6, h7⟩ := r.own i v hi
      exact ⟨.ref a, h2, q' (.ref a) w g f ⟨a, xs, vs, h1, rfl, h3, h4, h5, h6, h7⟩⟩
theorem ss_expr (hs : swapsWith e none pos.line X.env = pure false) (h : ∀ env, SE X env e (m env) false) : SS X (.Expr e pos) (fun env => PM.bind (m env) fun _ => PM.pure (.nx env)) := by
  intro σ w0 w ph env D W tk g f r q
  refine wkS_of (ps_expr pe_wk hs) ?_
  exact h env σ w0 w ph _ W tk f r ((sat_bind'.mp q).mono (fun rr ph1 hk v w1 e1 f1 rel => (sat_pure.mp hk) σ w1 (g.trans e1) (e1.sle f) f1 (r.mono f e1)) fun _ _ z => exS_V g z)
theorem sat_bl {α : Type} {m : PM (PV × Bool)} {k : Bool → PM α} {R : α → PH → Prop} {E : PEx → PH → Prop} (q : Sat (PM.bind (PM.bind (evalV m) kBl) k ph) R E) : Sat (m ph) (fun r ph1 => ∃ b, r.1 = .bl b ∧ Sat (k b ph1) R E) E := by
  rw [sat_bind', sat_bind'] at q
  unfold evalV at q
  rw [sat_bind'] at q
  refine q.mono (fun p ph1 h => ?_) fun _ _ z => z
  have h : Sat (kBl p.1 ph1) (fun b ph1 => Sat (k b ph1) R E) E := h
  cases ep : p.1 with
  | bl b => rw [ep] at h; exact ⟨b, rfl, h⟩
  | _ => rw [ep] at h; exact (show False from h).elim
theorem ss_ife {a b : List Stmt} {ma mb' : PEnv → PM Fl} (ht : ∀ env, ST X env e (m env)) (ha : SB X a ma) (hb : SB X b mb') : SS X (.If e a b pos) (fun env => PM.bind (PM.bind (evalV (m env)) kBl) (kIf (ma env) (mb' env))) := by
  intro σ w0 w ph env D W tk g f r q
  refine wkS_of (ps_if pt_wk pss_wk pss_wk) ?_
  refine ht env σ w0 w ph _ W tk f r ((sat_bl q).mono (fun rr ph1 ⟨c, ec, hk⟩ => ⟨c, ec, fun w1 e1 f1 => ?_⟩) fun _ _ z => exS_V g z)
  have sl := e1.sle f
  cases c with
  | true => exact ha σ w0 w1 ph1 env D W tk (g.trans e1) f1 (r.mono f e1) (Sat.mono (show Sat (ma env ph1) _ _ from hk) (fun _ _ z => z.mono sl) fun _ _ z => z)
  | false => exact hb σ w0 w1 ph1 env D W tk (g.trans e1) f1 (r.mono f e1) (Sat.mono (show Sat (mb' env ph1) _ _ from hk) (fun _ _ z => z.mono sl) fun _ _ z => z)
/-! ### stores -/
theorem ss_set {i : Nat} {x : Str} (hN : X.N.Nodup) (hi : X.N[i]? = some x) (hx : Loc X.env.scope x) (hf : X.fn x = true ∨ X.env.scope.names.lookup x = some .local) (hs : swapsWith e (some (.Name x p)) pos.line X.env = pure false) (h : ∀ env, SE X env e (m env) false) :
    SS X (.Assign [.Name x p] e pos) (fun env => PM.bind (m env) fun r => PM.pure (.nx (env.set i (some r)))) := by
  intro σ w0 w ph env D W tk g f r q
  refine wkS_of (ps_set hN hi hx pe_wk hs hf) ?_
  exact h env σ w0 w ph _ W tk f r ((sat_bind'.mp q).mono (fun rr ph1 hk v w1 e1 f1 rel => (sat_pure.mp hk) (σ.set i (some v)) w1 (g.trans e1) (e1.sle f) f1 (set_any g f e1 r rel)) fun _ _ z => exS_V g z)
theorem ss_setLc {i : Nat} {x : Str} {own : List (Str × Nat)} {scope : Scope} {etg eit elt : Expr} {ifs : List Expr} {mi : PEnv → PM (List PV)} {mt : PEnv → PM Bool} {me : PEnv → PM (PV × Bool)} {tg : Tg} {pr : Bool} {g : TG} {p2 : Pos} (hi : X.N[i]? = some x) (hyl : X.env.scope.names.lookup x = some .local)
    (hs : swapsWith (.ListComp elt [⟨etg, eit, ifs, 0⟩] scope p2) (some (.Name x p)) pos.line X.env = pure true) (L : ∀ env, LcOk X env etg eit elt ifs scope own (mi env) mt me tg pr g) :
    SS X (.Assign [.Name x p] (.ListComp elt [⟨etg, eit, ifs, 0⟩] scope p2) pos) (fun env => PM.bind (lcM env (own.map (·.2)) (mi env) mt me tg) fun r => PM.pure (.nx (env.set i (some r)))) := by
  intro σ w0 w ph env D W tk g' f r q
  obtain ⟨wi, pi, h⟩ := (L env).tlc
  refine wkS_of (ps_setLc (L env).hc (L env).hN hi hyl hs pi (L env).ok (L env).hg ttB_ok teB_ok (folded_no (L env).hs)) ?_
  exact h σ w0 w ph _ W tk f r ((sat_bind'.mp q).mono (fun rr ph1 hk v w1 e1 f1 rel => (sat_pure.mp hk) (σ.set i (some v)) w1 (g'.trans e1) (e1.sle f) f1 (set_any g' f e1 r rel)) fun _ _ z => exS_V g' z)
theorem ss_asgT {is : List Nat} {ts : List Expr} {k : Nat} {tpos : Pos} (hg : PG X (.Tuple ts k tpos) (gSeqT X.K is.length (gNames is))) (hs : swapsWithSole [.Tuple ts k tpos] e pos.line X.env = pure false) (hw : swappedStores [.Tuple ts k tpos] e X.env = pure none) (h : ∀ env, SE X env e (m env) false) :
    SS X (.Assign [.Tuple ts k tpos] e pos) (fun env => PM.bind (m env) fun r => kTg (.tup is) env r.1) := by
  intro σ w0 w ph env D W tk g f r q
  refine wkS_of (ps_asg pe_wk hg hs hw rfl) ?_
  refine (h env).kpE tk f r q (fun _ _ z => exS_V g z) fun rr ph1 v w1 e1 f1 r1 a1 q1 => ?_
  unfold kTg at q1
  cases hb : bindTg (.tup is) rr.1 env with
  | none => rw [hb] at q1; exact (show False from q1).elim
  | some env' =>
    rw [hb] at q1
    exact gSeq_of r1 a1 hb fun σ2 r2 _ _ => (sat_pure.mp q1) σ2 w1 (g.trans e1) (e1.sle f) f1 r2
theorem ss_par2 {i j : Nat} {x y : Str} {a b : Expr} {ma mb' : PEnv → PM (PV × Bool)} {px py pt pt2 : Pos} {kt k2 : Nat} (hc : X.calm = true) (hN : X.N.Nodup) (hi : X.N[i]? = some x) (hj : X.N[j]? = some y) (hij : i ≠ j) (hx : X.env.scope.names.lookup x = some .local) (hy : X.env.scope.names.lookup y = some .local)
    (hs1 : notStar a = true) (hs2 : notStar b = true) (hw : swappedStores [.Tuple [.Name x px, .Name y py] kt pt] (.Tuple [a, b] k2 pt2) X.env = pure (some [x, y])) (ha : ∀ env, SE X env a (ma env) false) (hb : ∀ env, SE X env b (mb' env) false) :
    SS X (.Assign [.Tuple [.Name x px, .Name y py] kt pt] (.Tuple [a, b] k2 pt2) pos) (fun env => PM.bind (PM.bind (ma env) fun r => PM.bind (PM.bind (mb' env) fun r => PM.bind (PM.pure []) fun rs => PM.pure (r :: rs)) fun rs => PM.pure (r :: rs)) fun rs => if [i, j].length = rs.length then PM.pure (.nx (setAllF [i, j] rs env)) else PM.stuck) := by
  intro σ w0 w ph env D W tk g f r q
  refine wkS_of (ps_par hc hN hi hj hij hx hy (pa_cons pe_wk (pa_cons pe_wk pa_nil (star_cons hs2)) (star_cons hs1)) hw rfl) ?_
  refine ha env σ w0 w ph _ W tk f r ((sat_bind'.mp (sat_bind'.mp q)).mono (fun r1 ph1 hk v1 w1 e1 f1 rel1 => ?_) fun _ _ z => exS_V g z)
  refine hb env σ w0 w1 ph1 _ W tk f1 (r.mono f e1) ((sat_bind'.mp (sat_bind'.mp hk)).mono (fun r2 ph2 hk2 v2 w2 e2 f2 rel2 => ?_) fun _ _ z => exS_V (g.trans e1) z)
  have q2 : FlQ X.K w0 w D (.nx ((env.set i (some r1)).set j (some r2))) ph2 := hk2
  have s1 : EnvR X.K w0 w1 (env.set i (some r1)) (σ.set i (some v1)) := set_any g f e1 r rel1
  exact ⟨v1, v2, rfl, q2 _ w2 ((g.trans e1).trans e2) ((e1.trans e2).sle f) f2 (set_any (g.trans e1) f1 e2 s1 rel2)⟩
theorem ss_par3 {i j l : Nat} {x y z : Str} {a b c : Expr} {ma mb' mc : PEnv → PM (PV × Bool)} {px py pz pt pt2 : Pos} {kt k2 : Nat} (hc : X.calm = true) (hN : X.N.Nodup) (hi : X.N[i]? = some x) (hj : X.N[j]? = some y) (hl : X.N[l]? = some z) (hij : i ≠ j) (hil : i ≠ l) (hjl : j ≠ l)
    (hx : X.env.scope.names.lookup x = some .local) (hy : X.env.scope.names.lookup y = some .local) (hz : X.env.scope.names.lookup z = some .local)
    (hs1 : notStar a = true) (hs2 : notStar b = true) (hs3 : notStar c = true) (hw : swappedStores [.Tuple [.Name x px, .Name y py, .Name z pz] kt pt] (.Tuple [a, b, c] k2 pt2) X.env = pure (some [x, y, z])) (ha : ∀ env, SE X env a (ma env) false) (hb : ∀ env, SE X env b (mb' env) false) (hcc : ∀ env, SE X env c (mc env) false) :
    SS X (.Assign [.Tuple [.Name x px, .Name y py, .Name z pz] kt pt] (.Tuple [a, b, c] k2 pt2) pos) (fun env => PM.bind (PM.bind (ma env) fun r => PM.bind (PM.bind (mb' env) fun r => PM.bind (PM.bind (mc env) fun r => PM.bind (PM.pure []) fun rs => PM.pure (r :: rs)) fun rs => PM.pure (r :: rs)) fun rs => PM.pure (r :: rs)) fun rs => if [i, j, l].length = rs.length then PM.pure (.nx (setAllF [i, j, l] rs env)) else PM.stuck) := by
  intro σ w0 w ph env D W tk g f r q
  refine wkS_of (ps_par3 hc hN hi hj hl hij hil hjl hx hy hz (pa_cons pe_wk (pa_cons pe_wk (pa_cons pe_wk pa_nil (star_cons hs3)) (star_cons hs2)) (star_cons hs1)) hw rfl) ?_
  refine ha env σ w0 w ph _ W tk f r ((sat_bind'.mp (sat_bind'.mp q)).mono (fun r1 ph1 hk v1 w1 e1 f1 rel1 => ?_) fun _ _ z => exS_V g z)
  refine hb env σ w0 w1 ph1 _ W tk f1 (r.mono f e1) ((sat_bind'.mp (sat_bind'.mp hk)).mono (fun r2 ph2 hk2 v2 w2 e2 f2 rel2 => ?_) fun _ _ z => exS_V (g.trans e1) z)
  refine hcc env σ w0 w2 ph2 _ W tk f2 ((r.mono f e1).mono f1 e2) ((sat_bind'.mp (sat_bind'.mp hk2)).mono (fun r3 ph3 hk3 v3 w3 e3 f3 rel3 => ?_) fun _ _ z => exS_V ((g.trans e1).trans e2) z)
  have q3 : FlQ X.K w0 w D (.nx (((env.set i (some r1)).set j (some r2)).set l (some r3))) ph3 := hk3
  have s1 : EnvR X.K w0 w1 (env.set i (some r1)) (σ.set i (some v1)) := set_any g f e1 r rel1
  have s2 : EnvR X.K w0 w2 ((env.set i (some r1)).set j (some r2)) ((σ.set i (some v1)).set j (some v2)) := set_any (g.trans e1) f1 e2 s1 rel2
  exact ⟨v1, v2, v3, rfl, q3 _ w3 (((g.trans e1).trans e2).trans e3) (((e1.trans e2).trans e3).sle f) f3 (set_any ((g.trans e1).trans e2) f2 e3 s2 rel3)⟩
theorem sat_evalV {α : Type} {m : PM (PV × Bool)} {k : PV → PM α} {R : α → PH → Prop} {E : PEx → PH → Prop} (q : Sat (PM.bind (evalV m) k ph) R E) : Sat (m ph) (fun p ph1 => Sat (k p.1 ph1) R E) E := by
  rw [sat_bind'] at q
  unfold evalV at q
  rw [sat_bind'] at q
  exact q
theorem assign_sub {o i : Expr} {ev : Env} (h : plainIx i = true) : ∀ v, assign (.Subscript o i pos) ev v = (do
      let ov ← holding [v] (eval o ev)
      let iv ← holding [v, ov] (eval i ev)
      standAt pos
      holding [v, ov, iv] (setItem ov iv v)
      release [v, ov, iv] []) := by
  intro v
  cases i <;> first | rfl | cases h
theorem kIx_some {n : Nat} {f : Nat → PM Fl} {j : PV} {R : Fl → PH → Prop} {E : PEx → PH → Prop} (q : Sat (kIx n f j ph) R E) : ∃ k m, j = .int k ∧ ixN n k = some m ∧ Sat (f m ph) R E := by
  cases j with
  | int k =>
    have q : Sat ((match ixN n k with | some m => f m | none => PM.stuck) ph) R E := q
    cases hn : ixN n k with
    | none => rw [hn] at q; exact (show False from q).elim
    | some m => rw [hn] at q; exact ⟨k, m, rfl, hn, q⟩
  | _ => exact (show False from q).elim
theorem kOwn_some {α : Type} {o : Option (List PV)} {f : List PV → PM α} {R : α → PH → Prop} {E : PEx → PH → Prop} (q : Sat (kOwn o f ph) R E) : ∃ xs, o = some xs ∧ Sat (f xs ph) R E := by
  cases o with
  | none => exact (show False from q).elim
  | some xs => exact ⟨xs, rfl, q⟩
theorem kBox_some {f : Nat → List PV → PM Fl} {b : PV} {R : Fl → PH → Prop} {E : PEx → PH → Prop} (q : Sat (kBox f b ph) R E) : ∃ k xs, b = .box k ∧ ph[k]? = some (.lst xs) ∧ Sat (f k xs ph) R E := by
  have q : Sat (match boxL ph b with | some (k, xs) => f k xs ph | none => .stuck) R E := q
  cases b with
  | box k =>
    cases hk : ph[k]? with
    | none =>
      have : boxL ph (.box k) = none := by simp only [boxL, hk]
      rw [this] at q
      exact (show False from q).elim
    | some o =>
      cases o with
      | lst xs =>
        have : boxL ph (.box k) = some (k, xs) := by simp only [boxL, hk]
        rw [this] at q
        exact ⟨k, xs, rfl, hk, q⟩
      | ins C fs =>
        have : boxL ph (.box k) = none := by simp only [boxL, hk]
        rw [this] at q
        exact (show False from q).elim
  | _ => exact (show False from q).elim
theorem ixN_lt {n m : Nat} {k : Int} (h : ixN n k = some m) : m < n := (ixN_seq h).2.1
theorem ss_setL {i : Nat} {x : Str} {eix : Expr} {mix : PEnv → PM (PV × Bool)} {p2 : Pos} (hN : X.N[i]? = some x) (hv : Vis X.env.scope x) (hd : (x == ("__debug__" : Str)) = false) (hcd : (x == ("__classdict__" : Str)) = false) (hp : plainIx eix = true)
    (hs : swapsWithSole [.Subscript (.Name x p) eix p2] e pos.line X.env = pure false) (hw : swappedStores [.Subscript (.Name x p) eix p2] e X.env = pure none)
    (h : ∀ env, SE X env e (m env) false) (hix : ∀ env, SE X env eix (mix env) true) :
    SS X (.Assign [.Subscript (.Name x p) eix p2] e pos) (fun env => PM.bind (m env) fun v => kOwn (getO env i) fun xs => PM.bind (evalV (mix env)) (kIx xs.length fun n => PM.pure (.nx (env.set i (some (.lst (xs.set n v.1), true)))))) := by
  intro σ w0 w ph env D W tk g f r q
  refine wkS_of (ps_asg pe_wk (pg_sub (pe_var hN hv hd hcd) pe_wk set_list (assign_sub hp)) hs hw rfl) ?_
  refine (h env).kpE tk f r q (fun _ _ z => exS_V g z) fun rr ph1 v w1 e1 f1 r1 a1 q1 => ?_
  have g1 := g.trans e1
  obtain ⟨xs, ho, q1⟩ := kOwn_some q1
  obtain ⟨a, vs, h1, h2, h3, _⟩ := own_wr g1 f1 r1 (getO_some ho)
  refine ⟨_, h1, ?_⟩
  refine hix env σ w0 w1 ph1 _ W tk f1 r1 ((sat_evalV q1).mono (fun jr ph2 q2 jv w2 e2 f2 rel2 => ?_) fun _ _ z => exS_V g1 z)
  obtain ⟨k, n, ek, hn, q2⟩ := kIx_some (show Sat (kIx xs.length _ jr.1 ph2) _ _ from q2)
  have g2 := g1.trans e2
  have r2 := r1.mono f1 e2
  obtain ⟨a', vs', h1', h2', h3', h4'⟩ := own_wr g2 f2 r2 (getO_some ho)
  rw [h1] at h1'
  cases h1'
  have hj := relB_int (show RelB X.K w2 (.int k) jv by rw [← ek]; exact rel2)
  obtain ⟨k1, k2, k3, k4⟩ := h4' (xs.set n rr.1) (vs'.set n v) (h3'.set n (Rel.mono (e2.sle f1) _ _ a1))
  refine ⟨a, vs', k, n, rfl, hj, h2', by rw [← h3'.length]; exact hn, ?_⟩
  exact (sat_pure.mp q2) σ (w2.lay a (.lst (vs'.set n v))) k1 (((e1.trans e2).sle f).trans k2) k3 k4
theorem ss_setB {eo eix : Expr} {mo mix : PEnv → PM (PV × Bool)} {p2 : Pos} (hp : plainIx eix = true)
    (hs : swapsWithSole [.Subscript eo eix p2] e pos.line X.env = pure false) (hw : swappedStores [.Subscript eo eix p2] e X.env = pure none)
    (h : ∀ env, SE X env e (m env) false) (ho : ∀ env, SE X env eo (mo env) true) (hix : ∀ env, SE X env eix (mix env) true) :
    SS X (.Assign [.Subscript eo eix p2] e pos) (fun env => PM.bind (m env) fun v => PM.bind (evalV (mo env)) fun b => PM.bind (evalV (mix env)) fun j => kSetB env v.1 b j) := by
  intro σ w0 w ph env D W tk g f r q
  refine wkS_of (ps_asg pe_wk (pg_sub pe_wk pe_wk set_list (assign_sub hp)) hs hw rfl) ?_
  refine (h env).kpE tk f r q (fun _ _ z => exS_V g z) fun rr ph1 v w1 e1 f1 r1 a1 q1 => ?_
  refine ho env σ w0 w1 ph1 _ W tk f1 r1 ((sat_evalV q1).mono (fun br ph2 q2 bv w2 e2 f2 rel2 => ?_) fun _ _ z => exS_V (g.trans e1) z)
  have q2 : Sat (PM.bind (evalV (mix env)) (fun j => kSetB env rr.1 br.1 j) ph2) (FlQ X.K w0 w D) (exS X.K w0 W) := q2
  refine hix env σ w0 w2 ph2 _ W tk f2 (r1.mono f1 e2) ((sat_evalV q2).mono (fun jr ph3 q3 jv w3 e3 f3 rel3 => ?_) fun _ _ z => exS_V ((g.trans e1).trans e2) z)
  obtain ⟨k, xs, eb, hk, q3⟩ := kBox_some (show Sat (kSetB env rr.1 br.1 jr.1 ph3) _ _ from q3)
  obtain ⟨z, n, ez, hn, q3⟩ := kIx_some q3
  have rel2 : RelB X.K w2 br.1 bv := rel2
  have rb := rel2.mono f2 e3
  rw [eb] at rb
  have rb' : Rel X.K w3 (.box k) bv := rb
  rw [Rel] at rb'
  obtain ⟨a, rfl, ha⟩ := rb'
  obtain ⟨vs, hv, ra⟩ := f3.box k _ a hk ha
  have hj := relB_int (show RelB X.K w3 (.int z) jv by rw [← ez]; exact rel3)
  have e23 := e2.trans e3
  obtain ⟨k1, k2⟩ := wr_box f3 ha hk (ra.set n (Rel.mono (e23.sle f1) _ _ a1))
  refine ⟨a, vs, z, n, rfl, hj, hv, by rw [← ra.length]; exact hn, ?_⟩
  have r3 := (r1.mono f1 e23).mono f3 k1
  exact (show FlQ X.K w0 w D (.nx env) (ph3.set k (.lst (xs.set n rr.1))) from q3) σ (w3.lay a (.lst (vs.set n v))) (((g.trans e1).trans e23).trans k1) (((e1.trans e23).trans k1).sle f) k2 r3
theorem kPair_some {h : PV → PV → PM Fl} {v : PV} {R : Fl → PH → Prop} {E : PEx → PH → Prop} (q : Sat (kPair h v ph) R E) : ∃ a c, v = .tup [a, c] ∧ Sat (h a c ph) R E := by
  match v, q with
  | .tup [a, c], q => exact ⟨a, c, rfl, q⟩
  | .tup [], q => exact (show False from q).elim
  | .tup [_], q => exact (show False from q).elim
  | .tup (_ :: _ :: _ :: _), q => exact (show False from q).elim
  | .non, q => exact (show False from q).elim
  | .bl _, q => exact (show False from q).elim
  | .int _, q => exact (show False from q).elim
  | .str _, q => exact (show False from q).elim
  | .lst _, q => exact (show False from q).elim
  | .dct _ _, q => exact (show False from q).elim
  | .box _, q => exact (show False from q).elim
theorem ss_jug {i : Nat} {x : Str} {eo eix : Expr} {mo mix : PEnv → PM (PV × Bool)} {p2 p3 : Pos} {kt : Nat} (hc : X.calm = true) (hp : plainIx eix = true) (hgn : PG X (.Name x p3) (gName i))
    (hs : swapsWithSole [.Tuple [.Subscript eo eix p2, .Name x p3] kt p] e pos.line X.env = pure false) (hw : swappedStores [.Tuple [.Subscript eo eix p2, .Name x p3] kt p] e X.env = pure none)
    (h : ∀ env, SE X env e (m env) false) (ho : ∀ env, SE X env eo (mo env) true) (hix : ∀ env, SE X env eix (mix env) true) :
    SS X (.Assign [.Tuple [.Subscript eo eix p2, .Name x p3] kt p] e pos) (fun env => PM.bind (m env) fun r => kPair (fun a c => PM.bind (evalV (mo env)) fun b => PM.bind (evalV (mix env)) fun j => kSetB (env.set i (some (c, false))) a b j) r.1) := by
  intro σ w0 w ph env D W tk g f r q
  refine wkS_of (ps_asg pe_wk (pg_tup hc (pgs_cons (pg_sub pe_wk pe_wk set_list (assign_sub hp)) (pgs_cons hgn pgs_nil rfl) rfl) (n := 2) rfl rfl) hs hw rfl) ?_
  refine (h env).kpE tk f r q (fun _ _ z => exS_V g z) fun rr ph1 v w1 e1 f1 r1 a1 q1 => ?_
  obtain ⟨a, c, ea, q1⟩ := kPair_some q1
  show gTup X.K 2 (gCons (gSub (wk X eo) (wk X eix) rSetL) (gCons (gName i) gNil)) v σ w1.H D.nx
  have a1' := a1
  rw [ea, Rel] at a1'
  obtain ⟨b0, vs0, rfl, z0, rr0⟩ := a1'
  match vs0, rr0 with
  | [va, vc], rr0 =>
    rw [Rels, Rels] at rr0
    refine ⟨b0, [va, vc], rfl, sqT_of z0, rfl, va, [vc], rfl, ?_⟩
    refine ho env σ w0 w1 ph1 _ W tk f1 r1 ((sat_evalV q1).mono (fun br ph2 q2 bv w2 e2 f2 rel2 => ?_) fun _ _ z => exS_V (g.trans e1) z)
    have q2 : Sat (PM.bind (evalV (mix env)) (fun j => kSetB (env.set i (some (c, false))) a br.1 j) ph2) (FlQ X.K w0 w D) (exS X.K w0 W) := q2
    refine hix env σ w0 w2 ph2 _ W tk f2 (r1.mono f1 e2) ((sat_evalV q2).mono (fun jr ph3 q3 jv w3 e3 f3 rel3 => ?_) fun _ _ z => exS_V ((g.trans e1).trans e2) z)
    obtain ⟨k, xs, eb, hk, q3⟩ := kBox_some (show Sat (kSetB (env.set i (some (c, false))) a br.1 jr.1 ph3) _ _ from q3)
    obtain ⟨z, n, ez, hn, q3⟩ := kIx_some q3
    have rel2 : RelB X.K w2 br.1 bv := rel2
    have rb := rel2.mono f2 e3
    rw [eb] at rb
    have rb' : Rel X.K w3 (.box k) bv := rb
    rw [Rel] at rb'
    obtain ⟨ad, rfl, ha⟩ := rb'
    obtain ⟨vs, hv, ra⟩ := f3.box k _ ad hk ha
    have hj := relB_int (show RelB X.K w3 (.int z) jv by rw [← ez]; exact rel3)
    have e23 := e2.trans e3
    obtain ⟨k1, k2⟩ := wr_box f3 ha hk (ra.set n (Rel.mono (e23.sle f1) _ _ rr0.1))
    refine ⟨ad, vs, z, n, rfl, hj, hv, by rw [← ra.length]; exact hn, ?_⟩
    have r3 := (r1.mono f1 e23).mono f3 k1
    refine ⟨vc, [], rfl, rfl, ?_⟩
    exact (show FlQ X.K w0 w D (.nx (env.set i (some (c, false)))) (ph3.set k (.lst (xs.set n a))) from q3) (σ.set i (some vc)) (w3.lay ad (.lst (vs.set n va))) (((g.trans e1).trans e23).trans k1) (((e1.trans e23).trans k1).sle f) k2
      (r3.setV (Rel.mono (k1.sle f3) _ _ (Rel.mono (e23.sle f1) _ _ rr0.2.1)))
  | [], rr0 => simp [Rels] at rr0
  | [_], rr0 => simp [Rels] at rr0
  | _ :: _ :: _ :: _, rr0 => simp [Rels] at rr0
theorem ss_swap {i : Nat} {x : Str} {eix ejx : Expr} {mix mjx : PEnv → PM (PV × Bool)} {p2 p3 p4 : Pos} {kt : Nat} (hc : X.calm = true) (hN : X.N[i]? = some x) (hv : Vis X.env.scope x) (hd : (x == ("__debug__" : Str)) = false) (hcd : (x == ("__classdict__" : Str)) = false) (hpi : plainIx eix = true) (hpj : plainIx ejx = true)
    (hs : swapsWithSole [.Tuple [.Subscript (.Name x p) eix p2, .Subscript (.Name x p4) ejx p3] kt pos] e pos.line X.env = pure false) (hw : swappedStores [.Tuple [.Subscript (.Name x p) eix p2, .Subscript (.Name x p4) ejx p3] kt pos] e X.env = pure none) {pos2 : Pos} (hs2 : swapsWithSole [.Tuple [.Subscript (.Name x p) eix p2, .Subscript (.Name x p4) ejx p3] kt pos] e pos2.line X.env = pure false)
    (h : ∀ env, SE X env e (m env) false) (hix : ∀ env, SE X env eix (mix env) true) (hjx : ∀ env, SE X env ejx (mjx env) true) :
    SS X (.Assign [.Tuple [.Subscript (.Name x p) eix p2, .Subscript (.Name x p4) ejx p3] kt pos] e pos2) (fun env => PM.bind (m env) fun r => kPair (fun a c => kOwn (getO env i) fun xs => PM.bind (evalV (mix env)) (kIx xs.length fun n =>
      PM.bind (evalV (mjx (env.set i (some (.lst (xs.set n a), true))))) (kIx xs.length fun m => PM.pure (.nx ((env.set i (some (.lst (xs.set n a), true))).set i (some (.lst ((xs.set n a).set m c), true))))))) r.1) := by
  intro σ w0 w ph env D W tk g f r q
  refine wkS_of (ps_asg pe_wk (pg_tup hc (pgs_cons (pg_sub (pe_var hN hv hd hcd) pe_wk set_list (assign_sub hpi)) (pgs_cons (pg_sub (pe_var hN hv hd hcd) pe_wk set_list (assign_sub hpj)) pgs_nil rfl) rfl) (n := 2) rfl rfl) hs2 hw rfl) ?_
  refine (h env).kpE tk f r q (fun _ _ z => exS_V g z) fun rr ph1 v w1 e1 f1 r1 a1 q1 => ?_
  obtain ⟨a, c, ea, q1⟩ := kPair_some q1
  show gTup X.K 2 (gCons (gSub (tVar i) (wk X eix) rSetL) (gCons (gSub (tVar i) (wk X ejx) rSetL) gNil)) v σ w1.H D.nx
  have a1' := a1
  rw [ea, Rel] at a1'
  obtain ⟨b0, vs0, rfl, z0, rr0⟩ := a1'
  match vs0, rr0 with
  | [va, vc], rr0 =>
    rw [Rels, Rels] at rr0
    refine ⟨b0, [va, vc], rfl, sqT_of z0, rfl, va, [vc], rfl, ?_⟩
    have g1 := g.trans e1
    obtain ⟨xs, ho, q1⟩ := kOwn_some q1
    obtain ⟨ad, vs, h1, h2, h3, _⟩ := own_wr g1 f1 r1 (getO_some ho)
    refine ⟨_, h1, ?_⟩
    refine hix env σ w0 w1 ph1 _ W tk f1 r1 ((sat_evalV q1).mono (fun jr ph2 q2 jv w2 e2 f2 rel2 => ?_) fun _ _ z => exS_V g1 z)
    obtain ⟨k, n, ek, hn, q2⟩ := kIx_some (show Sat (kIx xs.length _ jr.1 ph2) _ _ from q2)
    have g2 := g1.trans e2
    have r2 := r1.mono f1 e2
    obtain ⟨ad', vs', h1', h2', h3', h4'⟩ := own_wr g2 f2 r2 (getO_some ho)
    rw [h1] at h1'
    cases h1'
    have hj := relB_int (show RelB X.K w2 (.int k) jv by rw [← ek]; exact rel2)
    obtain ⟨k1, k2, k3, k4⟩ := h4' (xs.set n a) (vs'.set n va) (h3'.set n (Rel.mono (e2.sle f1) _ _ rr0.1))
    refine ⟨ad, vs', k, n, rfl, hj, h2', by rw [← h3'.length]; exact hn, ?_⟩
    have hi := getO_some ho
    have hlt : i < env.length := (List.getElem?_eq_some_iff.mp hi).1
    have ho2 : getO (env.set i (some (.lst (xs.set n a), true))) i = some (xs.set n a) := by
      unfold getO
      rw [List.getElem?_set_self hlt]
    refine ⟨vc, [], rfl, ?_⟩
    refine ⟨_, h1, ?_⟩
    refine hjx _ σ w0 (w2.lay ad (.lst (vs'.set n va))) ph2 _ W tk k3 k4 ((sat_evalV q2).mono (fun ir ph3 q3 iv w3 e3 f3 rel3 => ?_) fun _ _ z => exS_V k1 z)
    obtain ⟨k', n', ek', hn', q3⟩ := kIx_some (show Sat (kIx xs.length _ ir.1 ph3) _ _ from q3)
    have g3 := k1.trans e3
    have r3 := k4.mono k3 e3
    obtain ⟨ad2, vs2, h12, h22, h32, h42⟩ := own_wr g3 f3 r3 (getO_some ho2)
    rw [h1] at h12
    cases h12
    have hj2 := relB_int (show RelB X.K w3 (.int k') iv by rw [← ek']; exact rel3)
    have sl13 := (e2.sle f1).trans (k2.trans (e3.sle k3))
    obtain ⟨l1, l2, l3, l4⟩ := h42 ((xs.set n a).set n' c) (vs2.set n' vc) (h32.set n' (Rel.mono sl13 _ _ rr0.2.1))
    refine ⟨ad, vs2, k', n', rfl, hj2, h22, by rw [← h32.length, List.length_set]; exact hn', ?_⟩
    refine ⟨rfl, ?_⟩
    exact (show FlQ X.K w0 w D (.nx ((env.set i (some (.lst (xs.set n a), true))).set i (some (.lst ((xs.set n a).set n' c), true)))) ph3 from q3) σ (w3.lay ad (.lst (vs2.set n' vc))) l1 (((e1.sle f).trans sl13).trans l2) l3 l4
  | [], rr0 => simp [Rels] at rr0
  | [_], rr0 => simp [Rels] at rr0
  | _ :: _ :: _ :: _, rr0 => simp [Rels] at rr0
/-! ### loops -/
theorem ss_for {etg eit : Expr} {body : List Stmt} {mi : PEnv → PM (List PV)} {tg : Tg} {pr : Bool} {gg : TG} (hp : PassesOwn (model X.prog X.w) X.A X.env X.xe) (hc : X.calm = true) (hs : notSetD eit = true) (hi : ∀ env, SI X env etg eit (mi env) pr) (hg : PG X etg gg) (sg : SG X.K gg tg pr) (hb : SB X body mb) :
    SS X (.For etg eit body [] pos) (fun env => PM.bind (mi env) fun xs => forLoop (fun x e => kBind mb (bindTg tg x e)) xs env) := by
  intro σ w0 w ph env D W tk g f r q
  obtain ⟨wi, pi, h⟩ := hi env
  refine wkS_of (ps_for hp hc pi hg pss_wk (folded_no hs)) ?_
  refine h σ w0 w ph _ W tk f r ((sat_bind'.mp q).mono (fun xs ph1 q1 J w1 G Y e1 f1 r1 wlk hG hY => ?_) fun _ _ z => exS_V g z)
  have sl01 := e1.sle f
  refine for_it (g := gg) (tb := wkB X body) wlk (fun i σi H => ∃ wi phi envi, wi.H = H ∧ Ev w0 wi ∧ Sle w1 wi ∧ Wf X.K wi phi ∧ EnvR X.K w0 wi envi σi ∧ Sat (forLoop (fun x e => kBind mb (bindTg tg x e)) (xs.drop i) envi phi) (FlQ X.K w0 w D) (exS X.K w0 W)) ?_ ?_ ?_ ?_
  · exact ⟨w1, ph1, env, rfl, g.trans e1, Sle.refl w1, f1, r1, q1⟩
  · rintro i σi H hi' ⟨wi, phi, envi, rfl, ei, sl, _⟩
    exact hG wi sl
  · rintro i x σi H H' hi' ⟨wi, phi, envi, rfl, ei, sl, fi, ri, qi⟩ y
    have it := hY i wi.H x H' y
    have hpx : xs[i]? = some xs[i] := List.getElem?_eq_getElem hi'
    rw [List.drop_eq_getElem_cons hi'] at qi
    have qi := sat_bind'.mp qi
    have qi : Sat (kBind mb (bindTg tg xs[i] envi) phi) (fun a ph' => Sat (kFor (fun e => forLoop (fun x e => kBind mb (bindTg tg x e)) (xs.drop (i + 1)) e) a ph') (FlQ X.K w0 w D) (exS X.K w0 W)) (exS X.K w0 W) := qi
    cases hbd : bindTg tg xs[i] envi with
    | none =>
      rw [hbd] at qi
      exact (show False from qi).elim
    | some env' =>
      rw [hbd] at qi
      refine sg w0 wi w1 phi envi env' σi xs i x H' _ _ fi ri sl it hpx hbd fun σ2 w2 eH e2 hρ hS f2 r2 hl hj => ?_
      refine hb σ2 w0 w2 phi env' _ W tk (ei.trans e2) f2 r2 (Sat.mono (show Sat (mb env' phi) _ _ from qi) (fun fl ph2 hk => ?_) fun _ _ z => z)
      have sl2 := sl.trans (e2.sle fi)
      cases fl with
      | nx e => exact fun σ' w' ev sl' f' r' => ⟨w', ph2, e, rfl, ev, sl2.trans sl', f', r', hk⟩
      | ct e => exact fun σ' w' ev sl' f' r' => ⟨w', ph2, e, rfl, ev, sl2.trans sl', f', r', hk⟩
      | bk e => exact fun σ' w' ev sl' f' r' => (show FlQ X.K w0 w D (.nx e) ph2 from hk) σ' w' ev (sl01.trans (sl2.trans sl')) f' r'
      | rt v => exact (show FlQ X.K w0 w D (.rt v) ph2 from hk)
  · rintro σi H ⟨wi, phi, envi, rfl, ei, sl, fi, ri, qi⟩
    rw [List.drop_length] at qi
    exact (show FlQ X.K w0 w D (.nx envi) phi from qi) σi wi ei (sl01.trans sl) fi ri
theorem ss_whl {body : List Stmt} {n : Nat} (hp : PassesOwn (model X.prog X.w) X.A X.env X.xe) (ht : ∀ env, ST X env e (m env)) (hb : SB X body mb) :
    SS X (.While e body [] pos) (fun env => whileLoop (fun env => PM.bind (evalV (m env)) kBl) mb n env) := by
  intro σ w0 w ph env D W tk g f r q
  refine wkS_of (ps_while hp pt_wk pss_wk) ?_
  refine ⟨fun k σi H => ∃ wi phi envi, wi.H = H ∧ Ev w0 wi ∧ Sle w wi ∧ Wf X.K wi phi ∧ EnvR X.K w0 wi envi σi ∧ Sat (whileLoop (fun env => PM.bind (evalV (m env)) kBl) mb k envi phi) (FlQ X.K w0 w D) (exS X.K w0 W), ⟨n, w, ph, env, rfl, g, Sle.refl w, f, r, q⟩, ?_⟩
  rintro k σi H ⟨wi, phi, envi, rfl, ei, sl, fi, ri, qi⟩
  cases k with
  | zero => exact (show False from qi).elim
  | succ k =>
    refine ht envi σi w0 wi phi _ W tk fi ri ((sat_bl qi).mono (fun rr ph1 ⟨c, ec, hk⟩ => ⟨c, ec, fun w1 e1 f1 => ?_⟩) fun _ _ z => exS_V ei z)
    have sl1 := sl.trans (e1.sle fi)
    cases c with
    | false => exact (show FlQ X.K w0 w D (.nx envi) ph1 from hk) σi w1 (ei.trans e1) sl1 f1 (ri.mono fi e1)
    | true =>
      refine ⟨fun σ' H' => ∃ wi phi envi, wi.H = H' ∧ Ev w0 wi ∧ Sle w wi ∧ Wf X.K wi phi ∧ EnvR X.K w0 wi envi σ' ∧ Sat (whileLoop (fun env => PM.bind (evalV (m env)) kBl) mb k envi phi) (FlQ X.K w0 w D) (exS X.K w0 W), fun σ' H' z => ⟨k, Nat.lt_succ_self k, z⟩, ?_⟩
      have hk := sat_bind'.mp (show Sat (PM.bind (mb envi) (kFor fun e => whileLoop (fun env => PM.bind (evalV (m env)) kBl) mb k e) ph1) _ _ from hk)
      refine hb σi w0 w1 ph1 envi _ W tk (ei.trans e1) f1 (ri.mono fi e1) (hk.mono (fun fl ph2 hk2 => ?_) fun _ _ z => z)
      cases fl with
      | nx e => exact fun σ' w' ev sl' f' r' => ⟨w', ph2, e, rfl, ev, sl1.trans sl', f', r', hk2⟩
      | ct e => exact fun σ' w' ev sl' f' r' => ⟨w', ph2, e, rfl, ev, sl1.trans sl', f', r', hk2⟩
      | bk e => exact fun σ' w' ev sl' f' r' => (show FlQ X.K w0 w D (.nx e) ph2 from hk2) σ' w' ev (sl1.trans sl') f' r'
      | rt v => exact (show FlQ X.K w0 w D (.rt v) ph2 from hk2)
/-! ### append -/
theorem ss_app {i : Nat} {x nm : Str} {ea : Expr} {ma : PEnv → PM (PV × Bool)} {apos cpos : Pos} (hN : X.N[i]? = some x) (hv : Vis X.env.scope x) (hd : (x == ("__debug__" : Str)) = false) (hcd : (x == ("__classdict__" : Str)) = false) (hnm : nm = "append") (hs : notStar ea = true) (hline : (apos.endLine == cpos.line) = true)
    (h : ∀ env, SE X env ea (ma env) false) :
    SS X (.Expr (.Call (.Attribute (.Name x p) nm apos) [ea] [] cpos) pos) (fun env => kOwn (getO env i) fun xs => PM.bind (ma env) fun v => if xs.length < sizeLine then PM.pure (.nx (env.set i (some (.lst (xs ++ [v.1]), true)))) else PM.stuck) := by
  intro σ w0 w ph env D W tk g f r q
  subst hnm
  have hl : [ea].all notStar = true := by simp [hs]
  refine wkS_of (ps_expr (pe_bm PySem.F.plainAttrs_list PySem.F.slot_list_append PySem.F.type_list_append mt_append (pe_var hN hv hd hcd) (pa_cons pe_wk pa_nil (star_cons hs)) (attr_base rfl) (few_hyp hl rfl) hline (star_cons hs) (star_any rfl)) rfl) ?_
  obtain ⟨xs, ho, q1⟩ := kOwn_some q
  obtain ⟨a, vs, h1, h2, h3, _⟩ := own_wr g f r (getO_some ho)
  refine ⟨_, h1, .inl ⟨rfl, vs, .inl (.inl h2)⟩, ?_⟩
  refine (h env).kpE tk f r q1 (fun _ _ z => exS_V g z) fun rr ph1 v w1 e1 f1 r1 a1 q2 => ?_
  have g1 := g.trans e1
  obtain ⟨a', vs', h1', h2', h3', h4'⟩ := own_wr g1 f1 r1 (getO_some ho)
  rw [h1] at h1'
  cases h1'
  obtain ⟨k1, k2, k3, k4⟩ := h4' (xs ++ [rr.1]) (vs' ++ [v]) (h3'.append (.one a1))
  by_cases c : xs.length < sizeLine
  · rw [if_pos c] at q2
    exact ⟨a, vs', v, rfl, rfl, h2', by rw [← h3'.length]; exact c, (sat_pure.mp q2) σ (w1.lay a (.lst (vs' ++ [v]))) k1 ((e1.sle f).trans k2) k3 k4⟩
  · rw [if_neg c] at q2
    exact (show False from q2).elim
end
end Py

set_option Elab.async false
set_option linter.all false
set_option maxRecDepth 100000
set_option maxHeartbeats 1000000
/-! PyCs: attributes stored. -/
namespace Py
open PySem L2
open PyProof.Rows hiding St
def gAtt (K : PySem.W.Frag) (to : TE) (x : Str) : TG := fun v σ H Q => to σ H fun o H1 => ∃ a C dx fs, o = .ref a ∧ H1 a = some (.ins C dx fs) ∧ Cls K C ∧ NoAttr K C x ∧ fs.length < 1000 ∧ Q σ (upd H1 a (.ins C dx (putF x v fs)))
theorem pg_att {X : Cx} {o : Expr} {to : TE} {x : Str} {pos : Pos} (ho : PE X o to) : PG X (.Attribute o x pos) (gAtt X.K to x) := by
  refine ⟨fun pins s σ H v u Q I r h => ?_⟩
  rw [PySem.assign_Attribute]
  refine wpAny_bind (wpAny_holding (thn (ho.run pins s σ H _ I h) fun ov s1 ⟨y, H1, I1, r1, a, C, dx, fs, ey, ea, c, n, l, q⟩ => ?_))
  subst ey
  obtain rfl : ov = Value.ref a := r1
  refine wpAny_bind (wpAny_standAt (wpAny_bind (wpAny_holding (setattr_ok I1 ea c n l r fun s2 I2 => ?_))))
  exact wpAny_release ⟨σ, _, I2, q⟩
section
variable {pg : PProg} {X : Cx} {env : PEnv} {e : Expr} {m : PEnv → PM (PV × Bool)} {pos p : Pos}
theorem setAt_some {ph ph' : PH} {v u : PV} {x : Str} (h : setAt pg ph v x u = some ph') : ∃ k C fs, v = .box k ∧ ph[k]? = some (.ins C fs) ∧ attrOk pg C x = true ∧ fs.length < 1000 ∧ ph' = ph.set k (.ins C (putP x u fs)) := by
  unfold setAt at h
  split at h
  · rename_i k
    split at h
    · rename_i C fs hk
      split at h
      · rename_i ok
        rw [Bool.and_eq_true, decide_eq_true_iff] at ok
        cases h
        exact ⟨k, C, fs, rfl, hk, ok.1, ok.2, rfl⟩
      · cases h
    · cases h
  · cases h
/-- the store, in the world -/
theorem att_step {w : Ws} {ph ph' : PH} {v u : PV} {x : Str} {bv z : V} (hc : ∀ c ∈ pg.cls, CFact X.K c) (f : Wf X.K w ph) (h : setAt pg ph v x u = some ph') (rb : Rel X.K w v bv) (rz : Rel X.K w u z) :
    ∃ a C dx fs, bv = .ref a ∧ w.H a = some (.ins C dx fs) ∧ Cls X.K C ∧ NoAttr X.K C x ∧ fs.length < 1000 ∧ Ev w (w.lay a (.ins C dx (putF x z fs))) ∧ Wf X.K (w.lay a (.ins C dx (putF x z fs))) ph' := by
  obtain ⟨k, C, fs, rfl, hk, ok, hl, rfl⟩ := setAt_some h
  obtain ⟨a, dx, us, rfl, hr, hH, rr⟩ := box_ins f rb hk
  obtain ⟨c, hcm, rfl, hx⟩ := attrOk_some ok
  obtain ⟨k1, k2⟩ := wr_ins (dx := dx) (x := x) f hr hk rr rz
  refine ⟨a, _, dx, _, rfl, hH, (hc c hcm).cl, (hc c hcm).at_ x hx, ?_, k1, k2⟩
  have := rr.length
  rw [List.length_map] at this
  rw [List.length_zip, List.length_map]
  omega
theorem ss_setA {eo : Expr} {x : Str} {mo : PEnv → PM (PV × Bool)} {p2 : Pos} (hc : ∀ c ∈ pg.cls, CFact X.K c)
    (hs : swapsWithSole [.Attribute eo x p2] e pos.line X.env = pure false) (hw : swappedStores [.Attribute eo x p2] e X.env = pure none)
    (h : ∀ env, SE X env e (m env) false) (ho : ∀ env, SE X env eo (mo env) true) :
    SS X (.Assign [.Attribute eo x p2] e pos) (fun env => PM.bind (m env) fun v => PM.bind (evalV (mo env)) (kSetA pg x v.1 env)) := by
  intro σ w0 w ph env D W tk g f r q
  refine wkS_of (ps_asg pe_wk (pg_att pe_wk) hs hw rfl) ?_
  refine (h env).kpE tk f r q (fun _ _ z => exS_V g z) fun rr ph1 v w1 e1 f1 r1 a1 q1 => ?_
  refine ho env σ w0 w1 ph1 _ W tk f1 r1 ((sat_evalV q1).mono (fun br ph2 q2 bv w2 e2 f2 rel2 => ?_) fun _ _ z => exS_V (g.trans e1) z)
  have q2 : Sat (kSetA pg x rr.1 env br.1 ph2) (FlQ X.K w0 w D) (exS X.K w0 W) := q2
  unfold kSetA at q2
  cases hb : setAt pg ph2 br.1 x rr.1 with
  | none => rw [hb] at q2; exact (show False from q2).elim
  | some ph' =>
    rw [hb] at q2
    have rel2 : RelB X.K w2 br.1 bv := rel2
    obtain ⟨k, C, fs, eb, hk, ok, hl, ep⟩ := setAt_some hb
    have rb : Rel X.K w2 br.1 bv := by
      rw [eb] at rel2 ⊢
      exact rel2
    obtain ⟨a, C', dx, fs', rfl, hH, c1, c2, c3, k1, k2⟩ := att_step hc f2 hb rb (Rel.mono (e2.sle f1) _ _ a1)
    refine ⟨a, C', dx, fs', rfl, hH, c1, c2, c3, ?_⟩
    have r3 := (r1.mono f1 e2).mono f2 k1
    exact (show FlQ X.K w0 w D (.nx env) ph' from q2) σ _ (((g.trans e1).trans e2).trans k1) (((e1.trans e2).trans k1).sle f) k2 r3
/-- the targets o.x, p.y, .. -/
def attsB (N : List Str) (sc : Scope) : List (Nat × Str) → List Expr → Bool
  | [], [] => true
  | (i, x) :: ts, .Attribute (.Name y _) z _ :: es => decide (z = x) && (visB sc y && decide (N[i]? = some y) && okB y) && attsB N sc ts es
  | _, _ => false
def gAE (X : Cx) : List Expr → TGs
  | [] => gNil
  | .Attribute o x _ :: r => gCons (gAtt X.K (wk X o) x) (gAE X r)
  | _ => fun _ _ _ _ => False
theorem pgs_AE {N : List Str} {sc : Scope} : ∀ {ts : List (Nat × Str)} {es : List Expr}, attsB N sc ts es = true → PGs X es (gAE X es) ∧ (assignEach es X.env).length = ts.length ∧ (assignEach es X.env).findIdx? (·.1) = none
  | [], [], _ => ⟨pgs_nil, rfl, rfl⟩
  | (i, x) :: ts, [], h => by cases h
  | [], _ :: _, h => by cases h
  | (i, x) :: ts, e :: es, h => by
    cases e with
    | Attribute o z p =>
      cases o with
      | Name y p2 =>
        unfold attsB at h
        rw [Bool.and_eq_true] at h
        obtain ⟨h1, h2, h3⟩ := pgs_AE h.2
        refine ⟨pgs_cons (pg_att pe_wk) h1 rfl, ?_, ?_⟩
        · show (assignEach es X.env).length + 1 = ts.length + 1
          rw [h2]
        · show ((false, assign (.Attribute (.Name y p2) z p) X.env) :: assignEach es X.env).findIdx? (·.1) = none
          rw [List.findIdx?_cons]
          simp [h3]
      | _ => cases h
    | _ => cases h
theorem atts_go {N : List Str} {sc : Scope} {W : WX} {σ : St} {w0 : Ws} (hc : ∀ c ∈ pg.cls, CFact X.K c) (tk : Takes X W) (hN : X.N = N) (hsc : X.env.scope = sc) : ∀ {ts : List (Nat × Str)} {es : List Expr} {vs : List PV} {us : List V} {w : Ws} {ph ph' : PH} {R : St → Hp → Prop}, attsB N sc ts es = true → Wf X.K w ph → EnvR X.K w0 w env σ → Rels X.K w vs us →
    setAts pg env ts vs ph = some ph' → (∀ w', Ev w w' → Wf X.K w' ph' → EnvR X.K w0 w' env σ → R σ w'.H) → gAE X es us σ w.H R
  | [], [], [], us, w, ph, ph', R, _, f, r, rr, hs, k => by
    cases us with
    | nil =>
      cases hs
      exact ⟨rfl, k w (Ev.refl w) f r⟩
    | cons _ _ => simp [Rels] at rr
  | [], _, _ :: _, _, _, _, _, _, _, _, _, _, hs, _ => by cases hs
  | [], _ :: _, [], _, _, _, _, _, h, _, _, _, _, _ => by cases h
  | (i, x) :: ts, _, [], _, _, _, _, _, _, _, _, _, hs, _ => by cases hs
  | (i, x) :: ts, [], _ :: _, _, _, _, _, _, h, _, _, _, _, _ => by cases h
  | (i, x) :: ts, e :: es, v :: vs, us, w, ph, ph', R, h, f, r, rr, hs, k => by
    cases us with
    | nil => simp [Rels] at rr
    | cons z us =>
    rw [Rels] at rr
    cases e with
    | Attribute o y p =>
      cases o with
      | Name n p2 =>
        unfold attsB at h
        simp only [Bool.and_eq_true, decide_eq_true_eq] at h
        obtain ⟨⟨h1, ⟨h2, h3⟩, h4⟩, h5⟩ := h
        subst h1
        have h4' : (n == ("__debug__" : Str)) = false ∧ (n == ("__classdict__" : Str)) = false := ok_of h4
        unfold setAts at hs
        cases hg : getV env i with
        | none => rw [hg] at hs; cases hs
        | some bb =>
          obtain ⟨b, fl⟩ := bb
          rw [hg] at hs
          cases fl with
          | true => cases hs
          | false =>
            simp only at hs
            cases hb : setAt pg ph b y v with
            | none => rw [hb] at hs; cases hs
            | some ph1 =>
              rw [hb] at hs
              have sv := se_var (X := X) (env := env) (i := i) (pos := p2) (by rw [hN]; exact h3) (by rw [hsc]; exact vis_of h2) h4'.1 h4'.2
              refine ⟨z, us, rfl, ?_⟩
              show wk X (.Name n p2) σ w.H _
              refine sv.kp (k := fun r => PM.pure r) (R := fun r ph2 => r = (b, false) ∧ ph2 = ph) (W := W) tk f r (Ev.refl w) ?_ fun pv ph2 bv w1 e1 f1 r1 a1 q1 => ?_
              · show Sat (PM.bind (evVar env i) (fun r => PM.pure r) ph) _ _
                have : evVar env i = PM.pure (b, false) := by unfold evVar; rw [hg]
                rw [this]
                exact ⟨rfl, rfl⟩
              · obtain ⟨q2, q3⟩ := (sat_pure.mp q1 : pv = (b, false) ∧ ph2 = ph)
                subst q2 q3
                obtain ⟨a, C, dx, fs, rfl, hH, c1, c2, c3, k1, k2⟩ := att_step hc f1 hb a1 (Rel.mono (e1.sle f) _ _ rr.1)
                refine ⟨a, C, dx, fs, rfl, hH, c1, c2, c3, ?_⟩
                exact atts_go hc tk hN hsc (w := w1.lay a (.ins C dx (putF y z fs))) h5 k2 (r1.mono f1 k1) (Rels.mono (k1.sle f1) _ _ (Rels.mono (e1.sle f) _ _ rr.2)) hs fun w' e' f' r' => k w' ((e1.trans k1).trans e') f' r'
      | _ => cases h
    | _ => cases h
theorem setAts_len {pg : PProg} {env : PEnv} : ∀ {ts : List (Nat × Str)} {vs : List PV} {ph ph' : PH}, setAts pg env ts vs ph = some ph' → vs.length = ts.length
  | [], [], _, _, _ => rfl
  | [], _ :: _, _, _, h => by cases h
  | (i, x) :: ts, [], _, _, h => by cases h
  | (i, x) :: ts, v :: vs, ph, ph', h => by
    unfold setAts at h
    split at h
    · split at h
      · have := setAts_len h
        simp only [List.length_cons, this]
      · cases h
    · cases h
theorem ss_asgA {N : List Str} {sc : Scope} {ts : List (Nat × Str)} {es : List Expr} {k : Nat} {tpos : Pos} (hc : ∀ c ∈ pg.cls, CFact X.K c) (hcalm : X.calm = true) (hN : X.N = N) (hsc : X.env.scope = sc) (ht : attsB N sc ts es = true)
    (hs : swapsWithSole [.Tuple es k tpos] e pos.line X.env = pure false) (hw : swappedStores [.Tuple es k tpos] e X.env = pure none) (h : ∀ env, SE X env e (m env) false) :
    SS X (.Assign [.Tuple es k tpos] e pos) (fun env => PM.bind (m env) fun v => kSetAs pg env ts v.1) := by
  intro σ w0 w ph env D W tk g f r q
  obtain ⟨h1, h2, h3⟩ := pgs_AE (X := X) ht
  refine wkS_of (ps_asg pe_wk (pg_tup hcalm h1 h2 h3) hs hw rfl) ?_
  refine (h env).kpE tk f r q (fun _ _ z => exS_V g z) fun rr ph1 v w1 e1 f1 r1 a1 q1 => ?_
  have q1 : Sat (kSetAs pg env ts rr.1 ph1) (FlQ X.K w0 w D) (exS X.K w0 W) := q1
  obtain ⟨pv, b⟩ := rr
  unfold kSetAs at q1
  cases pv with
  | tup vs =>
    simp only at q1
    cases hb : setAts pg env ts vs ph1 with
    | none => rw [hb] at q1; exact (show False from q1).elim
    | some ph' =>
      rw [hb] at q1
      have a1' : Rel X.K w1 (.tup vs) v := a1
      rw [Rel] at a1'
      obtain ⟨b0, us, rfl, z0, rr0⟩ := a1'
      refine ⟨b0, us, rfl, sqT_of z0, by rw [← rr0.length, setAts_len hb], ?_⟩
      exact atts_go hc tk hN hsc ht f1 r1 rr0 hb fun w' e' f' r' => (show FlQ X.K w0 w D (.nx env) ph' from q1) σ w' ((g.trans e1).trans e') ((e1.trans e').sle f) f' r'
  | _ => exact (show False from q1).elim
theorem ss_bad {st : Stmt} : SS X st (fun _ => PM.stuck) := fun σ w0 w ph env D W tk g f r q => (show False from q).elim
end
end Py

set_option Elab.async false
set_option linter.all false
set_option maxRecDepth 100000
set_option maxHeartbeats 4000000
/-! PyN: statements: the check, and what it tells. -/
namespace Py
open PySem L2
open PyProof.Rows hiding St
def isStarE : Expr → Bool
  | .Starred .. => true
  | _ => false
def nameAt (sc : Scope) (line : Nat) : Expr → Option Str
  | .Name id pos => if (sc.names.lookup id == some .local && pos.line == line) = true then some id else none
  | _ => none
def swapP (sc : Scope) (ts vs : List Expr) : Option (Option (List Str)) :=
  if (!(ts.length == 2 || ts.length == 3) || vs.length != ts.length) = true then some none
  else if vs.any isStarE = true then some none
  else if ((ts.filterMap (nameAt sc ((ts.head?.map (·.pos.line)).getD 0))).length != ts.length || (ts.filterMap (nameAt sc ((ts.head?.map (·.pos.line)).getD 0))).eraseDups.length != (ts.filterMap (nameAt sc ((ts.head?.map (·.pos.line)).getD 0))).length) = true then some none
  else if vs.all (foldedForSure 8) = true then some none
  else if vs.all (constantsAlone 8) = true then none
  else some (some (ts.filterMap (nameAt sc ((ts.head?.map (·.pos.line)).getD 0))))
theorem bk_fn {env : Env} (h : env.scope.kind = .function) : env.blockKind = .function := by
  unfold Env.blockKind
  rw [h]
  rfl
theorem swap_ok {env : Env} {sc : Scope} {ts vs : List Expr} {k k2 : Nat} {p p2 : Pos} {r : Option (List Str)} (hk : env.scope.kind = .function) (hsc : env.scope = sc) (h : swapP sc ts vs = some r) :
    swappedStores [.Tuple ts k p] (.Tuple vs k2 p2) env = pure r := by
  have hb := bk_fn hk
  subst hsc
  have key : swappedStores [.Tuple ts k p] (.Tuple vs k2 p2) env = (if (!(ts.length == 2 || ts.length == 3) || vs.length != ts.length || env.blockKind != .function) = true then pure none
      else if vs.any isStarE = true then pure none
      else if ((ts.filterMap (nameAt env.scope ((ts.head?.map (·.pos.line)).getD 0))).length != ts.length || (ts.filterMap (nameAt env.scope ((ts.head?.map (·.pos.line)).getD 0))).eraseDups.length != (ts.filterMap (nameAt env.scope ((ts.head?.map (·.pos.line)).getD 0))).length) = true then pure none
      else if vs.all (foldedForSure 8) = true then pure none
      else if vs.all (constantsAlone 8) = true then (do let _ ← (unsupported "assign.tuple-of-constant-expressions:order-of-the-stores" : Sem PUnit); return some (ts.filterMap (nameAt env.scope ((ts.head?.map (·.pos.line)).getD 0))))
      else pure (some (ts.filterMap (nameAt env.scope ((ts.head?.map (·.pos.line)).getD 0))))) := rfl
  rw [key, hb]
  unfold swapP at h
  rw [show ((!(ts.length == 2 || ts.length == 3) || vs.length != ts.length || (ScopeKind.function != ScopeKind.function)) = (!(ts.length == 2 || ts.length == 3) || vs.length != ts.length)) by rw [show (ScopeKind.function != ScopeKind.function) = false by rfl, Bool.or_false]]
  split at h
  · rename_i c
    cases h
    rw [if_pos c]
  · rename_i c
    rw [if_neg c]
    split at h
    · rename_i c2
      cases h
      rw [if_pos c2]
    · rename_i c2
      rw [if_neg c2]
      split at h
      · rename_i c3
        cases h
        rw [if_pos c3]
      · rename_i c3
        rw [if_neg c3]
        split at h
        · rename_i c4
          cases h
          rw [if_pos c4]
        · rename_i c4
          rw [if_neg c4]
          split at h
          · cases h
          · rename_i c5
            cases h
            rw [if_neg c5]
def notTupE : Expr → Bool
  | .Tuple _ _ _ => false
  | _ => true
theorem swap_no {ts : List Expr} {k : Nat} {p : Pos} {e : Expr} {env : Env} (h : notTupE e = true) : swappedStores [.Tuple ts k p] e env = pure none := by
  cases e <;> first | rfl | cases h
theorem swap_att {o : Expr} {x : Str} {p : Pos} {e : Expr} {env : Env} : swappedStores [.Attribute o x p] e env = pure none := by
  cases e <;> rfl
theorem sole_att {o : Expr} {x : Str} {p : Pos} {e : Expr} {line : Nat} {env : Env} : swapsWithSole [.Attribute o x p] e line env = pure false := by
  cases e <;> rfl
theorem swap_sub {o i : Expr} {p : Pos} {e : Expr} {env : Env} : swappedStores [.Subscript o i p] e env = pure none := by
  cases e <;> rfl
theorem sole_tup {ts : List Expr} {k : Nat} {p : Pos} {e : Expr} {line : Nat} {env : Env} : swapsWithSole [.Tuple ts k p] e line env = pure false := by
  cases e <;> rfl
theorem sole_sub {o i : Expr} {p : Pos} {e : Expr} {line : Nat} {env : Env} : swapsWithSole [.Subscript o i p] e line env = pure false := by
  cases e <;> rfl
def notComp : Expr → Bool
  | .ListComp .. => false
  | .SetComp .. => false
  | .DictComp .. => false
  | _ => true
theorem with_no {e : Expr} {t : Option Expr} {line : Nat} {env : Env} (h : notComp e = true) : swapsWith e t line env = pure false := by
  cases e <;> first | rfl | cases h
def swB (sc scope : Scope) (t : Str) (p p2 : Pos) : Bool := sc.names.lookup t == some .local && p.line == p2.line && !(scope.names.any fun (n, k) => n == t && (k == .local || k == .cell))
theorem with_lc {elt : Expr} {gens : List Comprehension} {scope sc : Scope} {p p2 : Pos} {t : Str} {line : Nat} {env : Env} (hk : env.scope.kind = .function) (hsc : env.scope = sc) :
    swapsWith (.ListComp elt gens scope p2) (some (.Name t p)) line env = pure (swB sc scope t p p2) := by
  subst hsc
  have hb := bk_fn hk
  show (pure (env.blockKind == .function && env.kindOf t == some .local && p.line == p2.line && !(scope.names.any fun (n, k) => n == t && (k == .local || k == .cell))) : Sem Bool) = _
  rw [hb]
  rfl
section
variable (pg : PProg) (N : List Str)
def locB (sc : Scope) (x : Str) : Bool := decide (sc.names.lookup x = some .local)
mutual
def trS : IS → Scope → Stmt → Bool
  | .asg i e, sc, st => match st with
    | .Assign [.Name x _] v _ => decide (N[i]? = some x) && storB sc sc x && trE pg N e sc sc .keep v
    | _ => false
  | .asgT is e, sc, st => match st with
    | .Assign [.Tuple ts k p] v _ => trG N sc sc (.tup is) (.Tuple ts k p) && trE pg N e sc sc .keep v && (match v with
      | .Tuple vs _ _ => decide (swapP sc ts vs = some none)
      | _ => true)
    | _ => false
  | .par is es, sc, st => match st, is, es with
    | .Assign [.Tuple [.Name x px, .Name y py] k p] (.Tuple [ea, eb] k2 p2) _, [i, j], .cons a (.cons b .nil) =>
      decide (N[i]? = some x) && decide (N[j]? = some y) && decide (i ≠ j) && locB sc x && locB sc y && notStar ea && notStar eb && decide (swapP sc [.Name x px, .Name y py] [ea, eb] = some (some [x, y])) && trE pg N a sc sc .keep ea && trE pg N b sc sc .keep eb
    | .Assign [.Tuple [.Name x px, .Name y py, .Name z pz] k p] (.Tuple [ea, eb, ec] k2 p2) _, [i, j, l], .cons a (.cons b (.cons c .nil)) =>
      decide (N[i]? = some x) && decide (N[j]? = some y) && decide (N[l]? = some z) && decide (i ≠ j) && decide (i ≠ l) && decide (j ≠ l) && locB sc x && locB sc y && locB sc z && notStar ea && notStar eb && notStar ec && decide (swapP sc [.Name x px, .Name y py, .Name z pz] [ea, eb, ec] = some (some [x, y, z])) &&
        trE pg N a sc sc .keep ea && trE pg N b sc sc .keep eb && trE pg N c sc sc .keep ec
    | _, _, _ => false
  | .setL i ix e, sc, st => match st with
    | .Assign [.Subscript (.Name x _) eix _] v _ => visB sc x && decide (N[i]? = some x) && okB x && plainIx eix && trE pg N ix sc sc .look eix && trE pg N e sc sc .keep v
    | _ => false
  | .setB o ix e, sc, st => match st with
    | .Assign [.Subscript eo eix _] v _ => plainIx eix && trE pg N o sc sc .look eo && trE pg N ix sc sc .look eix && trE pg N e sc sc .keep v
    | _ => false
  | .jug o ix i e, sc, st => match st with
    | .Assign [.Tuple [.Subscript eo eix _, .Name x _] _ _] v _ => plainIx eix && decide (N[i]? = some x) && storB sc sc x && notTupE v && trE pg N o sc sc .look eo && trE pg N ix sc sc .look eix && trE pg N e sc sc .keep v
    | _ => false
  | .swap i ix jx e, sc, st => match st with
    | .Assign [.Tuple [.Subscript (.Name x px) eix p2, .Subscript (.Name y py) ejx p3] k p] v _ => decide (y = x) && visB sc x && decide (N[i]? = some x) && okB x && plainIx eix && plainIx ejx && trE pg N ix sc sc .look eix && trE pg N jx sc sc .look ejx && trE pg N e sc sc .keep v && (match v with
      | .Tuple vs _ _ => decide (swapP sc [.Subscript (.Name x px) eix p2, .Subscript (.Name y py) ejx p3] vs = some none)
      | _ => true)
    | _ => false
  | .app i e, sc, st => match st with
    | .Expr (.Call (.Attribute (.Name x _) nm apos) [ea] [] cpos) _ => visB sc x && decide (N[i]? = some x) && okB x && decide (nm = "append") && notStar ea && (apos.endLine == cpos.line) && trE pg N e sc sc .keep ea
    | _ => false
  | .expr e, sc, st => match st with
    | .Expr ee _ => notComp ee && trE pg N e sc sc .keep ee
    | _ => false
  | .ret e, sc, st => match st with
    | .Return (some ee) _ => trE pg N e sc sc .keep ee
    | _ => false
  | .retv i, sc, st => match st with
    | .Return (some (.Name x _)) _ => visB sc x && decide (N[i]? = some x) && okB x
    | _ => false
  | .retN, _, st => match st with
    | .Return none _ => true
    | _ => false
  | .ife t a b, sc, st => match st with
    | .If et ea eb _ => trE pg N t sc sc .test et && trB a sc ea && trB b sc eb
    | _ => false
  | .forS tg it body, sc, st => match st with
    | .For etg eit eb [] _ => trG N sc sc tg etg && (!(prB it && isNm tg)) && notSetD eit && trI pg N it sc sc etg eit && trB body sc eb
    | _ => false
  | .whl t body, sc, st => match st with
    | .While et eb [] _ => trE pg N t sc sc .test et && trB body sc eb
    | _ => false
  | .brk, _, st => match st with
    | .Break _ => true
    | _ => false
  | .cnt, _, st => match st with
    | .Continue _ => true
    | _ => false
  | .pass, _, st => match st with
    | .Pass _ => true
    | _ => false
  | .setA o x e, sc, st => match st with
    | .Assign [.Attribute eo y _] v _ => decide (y = x) && trE pg N o sc sc .look eo && trE pg N e sc sc .keep v
    | _ => false
  | .asgA ts e, sc, st => match st with
    | .Assign [.Tuple es k p] v _ => attsB N sc ts es && trE pg N e sc sc .keep v && (match v with
      | .Tuple vs _ _ => decide (swapP sc es vs = some none)
      | _ => true)
    | _ => false
  | .bad, _, _ => true
def trB : IB → Scope → List Stmt → Bool
  | .nil, _, sts => match sts with
    | [] => true
    | _ => false
  | .cons s b, sc, sts => match sts with
    | st :: sts => trS s sc st && trB b sc sts
    | _ => false
  | .frz _ b, sc, sts => trB b sc sts
end
end
/-- what is known of a def's own context -/
structure GoS (pg : PProg) (call : Calls) (N : List Str) (sc : Scope) (X : Cx) : Prop where
  G : Goo pg call N sc sc X
  po : PassesOwn (model X.prog X.w) X.A X.env X.xe
  kind : X.env.scope.kind = .function
section
variable (pg : PProg) (call : Calls) (N : List Str)
theorem GoS.vis {pg : PProg} {call : Calls} {N : List Str} {sc : Scope} {X : Cx} (G : GoS pg call N sc X) {x : Str} (h : visB sc x = true) : Vis X.env.scope x := by rw [G.G.hsc]; exact vis_of h
theorem GoS.nm {pg : PProg} {call : Calls} {N : List Str} {sc : Scope} {X : Cx} (G : GoS pg call N sc X) {i : Nat} {x : Str} (h : N[i]? = some x) : X.N[i]? = some x := by rw [G.G.hN]; exact h
theorem GoS.nd {pg : PProg} {call : Calls} {N : List Str} {sc : Scope} {X : Cx} (G : GoS pg call N sc X) : X.N.Nodup := by rw [G.G.hN]; exact G.G.nd
theorem GoS.loc {pg : PProg} {call : Calls} {N : List Str} {sc : Scope} {X : Cx} (G : GoS pg call N sc X) {x : Str} (h : locB sc x = true) : X.env.scope.names.lookup x = some .local := by rw [G.G.hsc]; exact of_decide_eq_true h
theorem sound_asg (i : Nat) (e : IE) (st : Stmt) (sc : Scope) (X : Cx) (h : trS pg N (.asg i e) sc st = true) (G : GoS pg call N sc X) : SS X st (fun env => execS pg call (.asg i e) env) := by
  unfold trS at h
  split at h
  · rename_i x p v pos
    simp only [Bool.and_eq_true, decide_eq_true_eq] at h
    obtain ⟨⟨h1, h2⟩, h3⟩ := h
    obtain ⟨l1, l2⟩ := stor_of h2 G.G
    have sv : ∀ env, SE X env v (evalE pg call e env) false := fun env => soundE pg call N e v sc sc .keep X env h3 G.G
    cases v with
    | ListComp elt gens scope p2 =>
      have hw := with_lc (elt := elt) (gens := gens) (scope := scope) (p := p) (p2 := p2) (t := x) (line := pos.line) G.kind G.G.hsc
      cases hb : swB sc scope x p p2 with
      | false =>
        rw [hb] at hw
        exact ss_set G.nd (G.nm h1) l1 l2 hw sv
      | true =>
        rw [hb] at hw
        have hyl : locB sc x = true := by
          unfold swB at hb
          simp only [Bool.and_eq_true, beq_iff_eq] at hb
          exact decide_eq_true hb.1.1
        cases e with
        | lc own tg it cond el =>
          match gens, h3, hw with
          | [⟨etg, eit, ifs, z⟩], h3, hw =>
            simp only [trE, Bool.and_eq_true, decide_eq_true_eq, List.all_eq_true] at h3
            obtain ⟨_, ⟨⟨⟨⟨⟨⟨⟨⟨h2, h3⟩, h4⟩, h5⟩, h6⟩, h7⟩, h8⟩, h9⟩, h10⟩⟩ := h3
            subst h2
            have hown : (ownN N own).map (·.2) = own := by
              unfold ownN
              rw [List.map_map]
              exact List.map_id' own
            have key := ss_setLc (mi := fun env => evalI pg call it env) (G.nm h1) (G.loc hyl) hw fun env => lcOk_of (pg := pg) (call := call) (own := own) (tg := tg) (it := it) (cond := cond) (elt := el) (X := X) (env := env) h3 h4 h5 h6 h7 G.G (soundI pg call N it etg eit sc sc X env h8 G.G)
              (fun X' env' G' => soundC pg call N cond ifs (relS scope sc) scope X' env' h9 G') (fun X' env' G' => soundE pg call N el elt (relS scope sc) scope .keep X' env' h10 G')
            rw [hown] at key
            exact key
          | [], h3, _ => simp [trE] at h3
          | _ :: _ :: _, h3, _ => simp [trE] at h3
        | _ => simp [trE] at h3
    | SetComp _ _ _ _ => exfalso; cases e <;> simp [trE] at h3
    | DictComp _ _ _ _ _ => exfalso; cases e <;> simp [trE] at h3
    | _ => exact ss_set G.nd (G.nm h1) l1 l2 (with_no rfl) sv
  · cases h
end
end Py

set_option Elab.async false
set_option linter.all false
set_option maxRecDepth 100000
set_option maxHeartbeats 4000000
/-! PyO: statements are sound; defs. -/
namespace Py
open PySem L2
open PyProof.Rows hiding St
section
variable (pg : PProg) (call : Calls) (N : List Str)
mutual
theorem soundS : ∀ (s : IS) (st : Stmt) (sc : Scope) (X : Cx), trS pg N s sc st = true → GoS pg call N sc X → SS X st (fun env => execS pg call s env)
  | .asg i e, st, sc, X, h, G => sound_asg pg call N i e st sc X h G
  | .asgT is e, st, sc, X, h, G => by
    unfold trS at h
    split at h
    · rename_i ts k p v pos
      simp only [Bool.and_eq_true] at h
      obtain ⟨⟨h1, h2⟩, h3⟩ := h
      have sv : ∀ env, SE X env v (evalE pg call e env) false := fun env => soundE pg call N e v sc sc .keep X env h2 G.G
      have hw : swappedStores [.Tuple ts k p] v X.env = pure none := by
        cases v with
        | Tuple vs k2 p2 => exact swap_ok G.kind G.G.hsc (of_decide_eq_true h3)
        | _ => exact swap_no rfl
      exact ss_asgT (trG_ok (tg := .tup is) G.G h1) sole_tup hw sv
    · cases h
  | .par is es, st, sc, X, h, G => by
    unfold trS at h
    split at h
    · rename_i x px y py k p ea eb k2 p2 pos i j a b
      simp only [Bool.and_eq_true, decide_eq_true_eq] at h
      obtain ⟨⟨⟨⟨⟨⟨⟨⟨⟨h1, h2⟩, h3⟩, h4⟩, h5⟩, h6⟩, h7⟩, h8⟩, h9⟩, h10⟩ := h
      exact ss_par2 G.G.calm G.nd (G.nm h1) (G.nm h2) h3 (G.loc h4) (G.loc h5) h6 h7 (swap_ok G.kind G.G.hsc h8) (fun env => soundE pg call N a ea sc sc .keep X env h9 G.G) (fun env => soundE pg call N b eb sc sc .keep X env h10 G.G)
    · rename_i x px y py z pz k p ea eb ec k2 p2 pos i j l a b c
      simp only [Bool.and_eq_true, decide_eq_true_eq] at h
      obtain ⟨⟨⟨⟨⟨⟨⟨⟨⟨⟨⟨⟨⟨⟨⟨h1, h2⟩, h3⟩, h4⟩, h5⟩, h6⟩, h7⟩, h8⟩, h9⟩, h10⟩, h11⟩, h12⟩, h13⟩, h14⟩, h15⟩, h16⟩ := h
      exact ss_par3 G.G.calm G.nd (G.nm h1) (G.nm h2) (G.nm h3) h4 h5 h6 (G.loc h7) (G.loc h8) (G.loc h9) h10 h11 h12 (swap_ok G.kind G.G.hsc h13) (fun env => soundE pg call N a ea sc sc .keep X env h14 G.G) (fun env => soundE pg call N b eb sc sc .keep X env h15 G.G) (fun env => soundE pg call N c ec sc sc .keep X env h16 G.G)
    · cases h
  | .setL i ix e, st, sc, X, h, G => by
    unfold trS at h
    split at h
    · simp only [Bool.and_eq_true, decide_eq_true_eq] at h
      obtain ⟨⟨⟨⟨⟨h1, h2⟩, h3⟩, h4⟩, h5⟩, h6⟩ := h
      exact ss_setL (G.nm h2) (G.vis h1) (ok_of h3).1 (ok_of h3).2 h4 sole_sub swap_sub (fun env => soundE pg call N e _ sc sc .keep X env h6 G.G) (fun env => soundE pg call N ix _ sc sc .look X env h5 G.G)
    · cases h
  | .setB o ix e, st, sc, X, h, G => by
    unfold trS at h
    split at h
    · simp only [Bool.and_eq_true] at h
      obtain ⟨⟨⟨h1, h2⟩, h3⟩, h4⟩ := h
      exact ss_setB h1 sole_sub swap_sub (fun env => soundE pg call N e _ sc sc .keep X env h4 G.G) (fun env => soundE pg call N o _ sc sc .look X env h2 G.G) (fun env => soundE pg call N ix _ sc sc .look X env h3 G.G)
    · cases h
  | .jug o ix i e, st, sc, X, h, G => by
    unfold trS at h
    split at h
    · simp only [Bool.and_eq_true] at h
      obtain ⟨⟨⟨⟨⟨⟨h1, h2⟩, h3⟩, h4⟩, h5⟩, h6⟩, h7⟩ := h
      exact ss_jug G.G.calm h1 (pg_nm G.G (by rw [Bool.and_eq_true]; exact ⟨h2, h3⟩)) sole_tup (swap_no h4) (fun env => soundE pg call N e _ sc sc .keep X env h7 G.G) (fun env => soundE pg call N o _ sc sc .look X env h5 G.G) (fun env => soundE pg call N ix _ sc sc .look X env h6 G.G)
    · cases h
  | .swap i ix jx e, st, sc, X, h, G => by
    unfold trS at h
    split at h
    · rename_i x px eix p2 y py ejx p3 k p v pos
      simp only [Bool.and_eq_true, decide_eq_true_eq] at h
      obtain ⟨⟨⟨⟨⟨⟨⟨⟨⟨h0, h1⟩, h2⟩, h3⟩, h4⟩, h5⟩, h6⟩, h7⟩, h8⟩, h9⟩ := h
      subst h0
      have hw : swappedStores [.Tuple [.Subscript (.Name y px) eix p2, .Subscript (.Name y py) ejx p3] k p] v X.env = pure none := by
        cases v with
        | Tuple vs k2 p2 => exact swap_ok G.kind G.G.hsc (of_decide_eq_true h9)
        | _ => exact swap_no rfl
      exact ss_swap G.G.calm (G.nm h2) (G.vis h1) (ok_of h3).1 (ok_of h3).2 h4 h5 sole_tup hw sole_tup (fun env => soundE pg call N e v sc sc .keep X env h8 G.G) (fun env => soundE pg call N ix eix sc sc .look X env h6 G.G) (fun env => soundE pg call N jx ejx sc sc .look X env h7 G.G)
    · cases h
  | .app i e, st, sc, X, h, G => by
    unfold trS at h
    split at h
    · simp only [Bool.and_eq_true, decide_eq_true_eq] at h
      obtain ⟨⟨⟨⟨⟨⟨h1, h2⟩, h3⟩, h4⟩, h5⟩, h6⟩, h7⟩ := h
      exact ss_app (G.nm h2) (G.vis h1) (ok_of h3).1 (ok_of h3).2 h4 h5 h6 (fun env => soundE pg call N e _ sc sc .keep X env h7 G.G)
    · cases h
  | .expr e, st, sc, X, h, G => by
    unfold trS at h
    split at h
    · simp only [Bool.and_eq_true] at h
      exact ss_expr (with_no h.1) (fun env => soundE pg call N e _ sc sc .keep X env h.2 G.G)
    · cases h
  | .ret e, st, sc, X, h, G => by
    unfold trS at h
    split at h
    · exact ss_ret (fun env => soundE pg call N e _ sc sc .keep X env h G.G)
    · cases h
  | .retv i, st, sc, X, h, G => by
    unfold trS at h
    split at h
    · simp only [Bool.and_eq_true, decide_eq_true_eq] at h
      obtain ⟨⟨h1, h2⟩, h3⟩ := h
      exact ss_retv (G.nm h2) (G.vis h1) (ok_of h3).1 (ok_of h3).2
    · cases h
  | .retN, st, sc, X, h, G => by
    unfold trS at h
    split at h
    · exact ss_retN
    · cases h
  | .ife t a b, st, sc, X, h, G => by
    unfold trS at h
    split at h
    · simp only [Bool.and_eq_true] at h
      obtain ⟨⟨h1, h2⟩, h3⟩ := h
      exact ss_ife (fun env => soundE pg call N t _ sc sc .test X env h1 G.G) (soundB a _ sc X h2 G) (soundB b _ sc X h3 G)
    · cases h
  | .forS tg it body, st, sc, X, h, G => by
    unfold trS at h
    split at h
    · simp only [Bool.and_eq_true] at h
      obtain ⟨⟨⟨⟨h1, h2⟩, h3⟩, h4⟩, h5⟩ := h
      exact ss_for (pr := prB it) (gg := gOf X.K tg) G.po G.G.calm h3 (fun env => soundI pg call N it _ _ sc sc X env h4 G.G) (trG_ok G.G h1) (sgOf h2) (soundB body _ sc X h5 G)
    · cases h
  | .whl t body, st, sc, X, h, G => by
    unfold trS at h
    split at h
    · simp only [Bool.and_eq_true] at h
      exact ss_whl (n := whFuel) G.po (fun env => soundE pg call N t _ sc sc .test X env h.1 G.G) (soundB body _ sc X h.2 G)
    · cases h
  | .brk, st, sc, X, h, G => by
    unfold trS at h
    split at h
    · exact ss_brk
    · cases h
  | .cnt, st, sc, X, h, G => by
    unfold trS at h
    split at h
    · exact ss_cnt
    · cases h
  | .pass, st, sc, X, h, G => by
    unfold trS at h
    split at h
    · exact ss_pass
    · cases h
  | .setA o x e, st, sc, X, h, G => by
    unfold trS at h
    split at h
    · rename_i eo y p2 v pos
      simp only [Bool.and_eq_true, decide_eq_true_eq] at h
      obtain ⟨⟨h1, h2⟩, h3⟩ := h
      subst h1
      exact ss_setA (fun c hc => (G.G.cls c hc).1) sole_att swap_att (fun env => soundE pg call N e v sc sc .keep X env h3 G.G) (fun env => soundE pg call N o eo sc sc .look X env h2 G.G)
    · cases h
  | .asgA ts e, st, sc, X, h, G => by
    unfold trS at h
    split at h
    · rename_i es k p v pos
      simp only [Bool.and_eq_true] at h
      obtain ⟨⟨h1, h2⟩, h3⟩ := h
      have hw : swappedStores [.Tuple es k p] v X.env = pure none := by
        cases v with
        | Tuple vs k2 p2 => exact swap_ok G.kind G.G.hsc (of_decide_eq_true h3)
        | _ => exact swap_no rfl
      exact ss_asgA (fun c hc => (G.G.cls c hc).1) G.G.calm G.G.hN G.G.hsc h1 sole_tup hw (fun env => soundE pg call N e v sc sc .keep X env h2 G.G)
    · cases h
  | .bad, st, sc, X, h, G => ss_bad
theorem soundB : ∀ (b : IB) (sts : List Stmt) (sc : Scope) (X : Cx), trB pg N b sc sts = true → GoS pg call N sc X → SB X sts (fun env => execB pg call b env)
  | .nil, sts, sc, X, h, G => by
    cases sts with
    | nil => exact sb_nil
    | cons _ _ => simp [trB] at h
  | .cons s b, sts, sc, X, h, G => by
    cases sts with
    | nil => simp [trB] at h
    | cons st sts =>
      simp only [trB, Bool.and_eq_true] at h
      exact sb_cons (soundS s st sc X h.1 G) (soundB b sts sc X h.2 G)
  | .frz i b, sts, sc, X, h, G => by
    simp only [trB] at h
    exact sb_frz i (soundB b sts sc X h G)
end
end
end Py

set_option Elab.async false
set_option linter.all false
set_option maxRecDepth 100000
set_option maxHeartbeats 4000000
/-! PyP: defs keep what the interpreter tells. -/
namespace Py
open PySem L2
open PyProof.Rows hiding St
/-- what is known of a def -/
structure FnF (pg : PProg) (K : PySem.W.Frag) (mg : Str → Option Value) (fi : FnI) (a : Addr) (fd : FuncData) (glo : Bool) : Prop where
  ex : ∃ nm qual params body scope, FunD K nm qual params body scope [] [] a fd ∧ FnScope fi.names fi.params scope ∧ trB pg fi.names fi.body scope body = true
  mg : glo = true → mg fi.name = some (.ref a)
  kp : PySem.W.keepIn K (.ref a) = true
  bd : L2.Binds K fd fi.params []
  kw : ∀ q ∈ fi.kws, BindK K fd fi.params q
/-- what is known of the program -/
structure PgOk (pg : PProg) (w : World) (K : PySem.W.Frag) (mg : Str → Option Value) : Prop where
  fns : ∀ (f : Nat) fi, pg.fns[f]? = some fi → ∃ a fd, FnF pg K mg fi a fd (gloF pg f)
  cls : ∀ c ∈ pg.cls, CFact K c ∧ mg c.name = some (.ref (He.ga K c.name)) ∧ ∃ fi a fd, pg.fns[c.init]? = some fi ∧ FnF pg K mg fi a fd (gloF pg c.init) ∧ Mk K (He.ga K c.name) a
  gvs : ∀ (k : Nat) g, pg.gvs[k]? = some g → ∃ u v, mg g.1 = some u ∧ RelV v u ∧ ∀ w : Ws, Rel K w g.2 v
  kds : ∀ (k : Nat) d, pg.kds[k]? = some d → ∃ (a : Addr) (es : Array DictEntry) (n : Nat), mg d.1 = some (.ref a) ∧ (a == sysModules) = false ∧ K.lookup a = some ⟨.type "dict", none, .dict es n, #[]⟩ ∧ PySem.W.KeysLit w.params es.toList ∧
    ∀ z, match d.2.lookup z with
      | some p => ∃ u v, PySem.W.nsIn K a z = some (some u) ∧ RelV v u ∧ ∀ w : Ws, Rel K w p v
      | none => PySem.W.nsIn K a z = some none
  bl : ∀ x ∈ blN, mg x = none
theorem callN_len {pg : PProg} {n : Nat} {f : Nat} {fi : FnI} (hf : pg.fns[f]? = some fi) (ps : List PV) (ph : PH) (h : ps.length ≠ fi.params.length) : callN pg n f ps ph = .stuck := by
  cases n with
  | zero => rfl
  | succ n =>
    unfold callN
    simp only [hf]
    rw [if_neg h]
    rfl
theorem start_env {K : PySem.W.Frag} {w : Ws} : ∀ {ps : List PV} {vs : List V} {k : Nat}, Rels K w ps vs → EnvR K w w (ps.map (fun v => some (v, false)) ++ List.replicate k none) (vs.map some ++ List.replicate k none) := by
  intro ps vs k r
  have hl := r.length
  have key : ∀ (i : Nat) (x : PV × Bool), (ps.map (fun v => (some (v, false) : Option (PV × Bool))) ++ List.replicate k none)[i]? = some (some x) → ∃ p, ps[i]? = some p ∧ x = (p, false) := fun i x h => by
    by_cases c : i < ps.length
    · rw [List.getElem?_append_left (by simpa using c), List.getElem?_map, List.getElem?_eq_getElem c] at h
      cases h
      exact ⟨_, List.getElem?_eq_getElem c, rfl⟩
    · rw [List.getElem?_append_right (by simpa using c)] at h
      have := List.mem_of_getElem? h
      simp at this
  refine ⟨by simp [hl], fun i v h => ?_, fun i v h => ?_, fun i j v u a hij h1 h2 h3 h4 => ?_⟩
  · obtain ⟨p, h1, h2⟩ := key i _ h
    cases h2
    obtain ⟨x, g1, g2⟩ := r.get h1
    refine ⟨x, ?_, g2⟩
    rw [List.getElem?_append_left (by rw [List.length_map]; exact (List.getElem?_eq_some_iff.mp g1).1), List.getElem?_map, g1]
    rfl
  · obtain ⟨p, h1, h2⟩ := key i _ h
    cases h2
  · obtain ⟨p, h1, h2⟩ := key i _ h1
    cases h2
section
variable {pg : PProg} {P : Program} {w : World} {K : PySem.W.Frag} {mg : Str → Option Value} {base : Heap}
theorem spF_len {m : List PV → PM (PV × Bool)} {n : Nat} (vs : List V) (H : Hp) (Q : VK) (E : XK) (h : spF K m n vs H Q E) : vs.length = n := by
  obtain ⟨ps, w, ph, _, hn, _⟩ := h
  exact hn
theorem fn_level (PG : PgOk pg w K mg) : ∀ (n : Nat) (f : Nat) (fi : FnI) (a : Addr) (fd : FuncData), pg.fns[f]? = some fi → FnF pg K mg fi a fd (gloF pg f) → FnG P w K mg base (L2.CX P w) n a fd fi.params (spF K (callN pg n f) fi.params.length)
  | 0, f, fi, a, fd, hf, F => ⟨fun vs H Q E h => spF_len vs H Q E h, fun A outer s H args us vs Q E hr _ e0 hb hv hs => by
    obtain ⟨ps, w1, ph, _, _, _, _, hs⟩ := hs
    exact (show False from hs).elim⟩
  | n + 1, f, fi, a, fd, hf, F => by
    obtain ⟨nm, qual, params, body, scope, D, S, ht⟩ := F.ex
    refine fn_ofG D S (fun vs H Q E h => spF_len vs H Q E h) fun cdv A outer s H vs Q E hr ng hsp => ?_
    obtain ⟨ps, w1, ph, rfl, hlen, f1, rr, hs⟩ := hsp
    have hpl : ps.length = fi.params.length := by rw [rr.length]; exact hlen
    have hs : Sat (PM.bind (execB pg (callN pg n) fi.body (startE fi.names.length ps)) kEnd ph) (fun r ph1 => ∀ v w2, Ev w1 w2 → Wf K w2 ph1 → RelF K w1 w2 r v → Q v w2.H) (fun e ph1 => ∀ cls d w2, Ev w1 w2 → Wf K w2 ph1 → ExR K w2 e cls d → E cls d w2.H) := by
      have e : callN pg (n + 1) f ps = PM.bind (execB pg (callN pg n) fi.body (startE fi.names.length ps)) kEnd := by
        show callN pg (n + 1) f ps = _
        conv => lhs; unfold callN
        simp only [hf]
        exact if_pos hpl
      rw [← e]
      exact hs
    have tk : Takes (cxOf (L2.CX P w) P w K mg base fi.names qual scope a cdv A outer s w1.H E) (fun cls d _ H => E cls d H) := takes_of rfl rfl rfl rfl
    have po : PassesOwn (model P w) (A.deeper (envOfC qual scope s.heap.objs.size a cdv)) (envOfC qual scope s.heap.objs.size a cdv) (cxOf (L2.CX P w) P w K mg base fi.names qual scope a cdv A outer s w1.H E).xe := passes_of (X := cxOf (L2.CX P w) P w K mg base fi.names qual scope a cdv A outer s w1.H E) rfl
    have G : GoS pg (callN pg n) fi.names scope (cxOf (L2.CX P w) P w K mg base fi.names qual scope a cdv A outer s w1.H E) := by
      refine ⟨⟨rfl, S.nd, rfl, rfl, ng, hr.units, fun _ _ => rfl, fun f' fi' hf' => ?_, fun f' c hf' hc' => ?_, fun c hcm => ⟨(PG.cls c hcm).1, (PG.cls c hcm).2.1⟩, fun k g hg => ⟨PG.gvs k g hg⟩, fun k d hd => ⟨PG.kds k d hd⟩, PG.bl⟩, po, S.kind⟩
      · obtain ⟨a', fd', F'⟩ := PG.fns f' fi' hf'
        exact ⟨⟨a', fd', n, fn_level PG n f' fi' a' fd' hf' F', hr, ng, F'.mg, F'.kp, F'.bd, F'.kw⟩, fun ps ph h => callN_len hf' ps ph h⟩
      · obtain ⟨_, hm, fi2, a2, fd2, hf2, F2, M⟩ := PG.cls c (List.mem_of_getElem? hc')
        refine ⟨hm, a2, M, ?_⟩
        cases n with
        | zero => exact .inl fun ps ph => rfl
        | succ m =>
          refine .inr ⟨fd2, m, fi2.params, callN pg m c.init, fn_level PG m c.init fi2 a2 fd2 hf2 F2, hr, ng, F2.bd, fun ps ph h => callN_len hf2 ps ph h, fun ps => ?_⟩
          show callN pg (m + 1) f' ps = _
          conv => lhs; unfold callN
          simp only [hf', hc']
    refine ⟨_, pss_wk, ?_⟩
    have he : EnvR K w1 w1 (startE fi.names.length ps) (L2.start fi.names vs) := by
      unfold startE L2.start
      rw [← rr.length]
      exact start_env rr
    refine soundB pg (callN pg n) fi.names fi.body body scope _ ht G (L2.start fi.names vs) w1 w1 ph (startE fi.names.length ps) _ _ tk (Ev.refl w1) f1 he ((sat_bind'.mp hs).mono (fun fl ph1 hk => ?_) fun ex ph1 hk cls d σ' w2 e2 f2 r2 => hk cls d w2 e2 f2 r2)
    cases fl with
    | nx env' => exact fun σ' w2 e2 sl f2 r2 => (show ∀ v w2, Ev w1 w2 → Wf K w2 ph1 → RelF K w1 w2 (.non, false) v → Q v w2.H from hk) .non w2 e2 f2 (show Rel K w2 .non .non from rel_non)
    | rt r => exact fun v w2 e2 f2 rel => (show ∀ v w2, Ev w1 w2 → Wf K w2 ph1 → RelF K w1 w2 r v → Q v w2.H from hk) v w2 e2 f2 rel
    | bk _ => exact (show False from hk).elim
    | ct _ => exact (show False from hk).elim
end
end Py

set_option Elab.async false
set_option linter.all false
set_option maxRecDepth 100000
set_option maxHeartbeats 4000000
/-! PyQ: from what the head tells to what is known of the program. -/
namespace Py
open PySem L2
open PyProof.Rows hiding St
/-! ### the module's values -/
mutual
def gvB (K : PySem.W.Frag) : PV → Value → Bool
  | .non, u => match u with
    | .none => true
    | _ => false
  | .bl b, u => match u with
    | .bool c => b == c
    | _ => false
  | .int i, u => match u with
    | .int j _ => decide (j = i)
    | _ => false
  | .str x, u => match u with
    | .str y _ => decide (y = x)
    | _ => false
  | .tup xs, u => match u with
    | .ref a => (match K.lookup a with
      | some ⟨.type c, none, .seq its _, _⟩ => decide (c = "tuple") && decide (its.size ≤ sizeLine) && gvsB K xs its.toList
      | _ => false)
    | _ => false
  | _, _ => false
def gvsB (K : PySem.W.Frag) : List PV → List Value → Bool
  | [], us => us.isEmpty
  | x :: xs, us => match us with
    | u :: us => gvB K x u && gvsB K xs us
    | [] => false
end
mutual
theorem gvB_ok {K : PySem.W.Frag} : ∀ (p : PV) (u : Value), gvB K p u = true → ∃ v, RelV v u ∧ ∀ w : Ws, Rel K w p v
  | .non, u, h => by
    cases u with
    | none => exact ⟨.non, rfl, fun _ => rel_non⟩
    | _ => simp [gvB] at h
  | .bl b, u, h => by
    cases u with
    | bool c =>
      simp only [gvB, beq_iff_eq] at h
      subst h
      exact ⟨.bl b, rfl, fun _ => rel_bl⟩
    | _ => simp [gvB] at h
  | .int i, u, h => by
    cases u with
    | int j t =>
      simp only [gvB, decide_eq_true_eq] at h
      subst h
      exact ⟨.int j, ⟨t, rfl⟩, fun _ => rel_int⟩
    | _ => simp [gvB] at h
  | .str x, u, h => by
    cases u with
    | str y t =>
      simp only [gvB, decide_eq_true_eq] at h
      subst h
      exact ⟨.str y, ⟨t, rfl⟩, fun _ => rel_str⟩
    | _ => simp [gvB] at h
  | .tup xs, u, h => by
    cases u with
    | ref a =>
      simp only [gvB] at h
      split at h
      · rename_i c its n sl hl
        simp only [Bool.and_eq_true, decide_eq_true_eq] at h
        obtain ⟨⟨h1, h2⟩, h3⟩ := h
        subst h1
        obtain ⟨vs, g1, g2⟩ := gvsB_ok xs its.toList h3
        refine ⟨.ref a, rfl, fun w => ?_⟩
        rw [Rel]
        exact ⟨a, vs, rfl, .inr ⟨_, its, n, hl, rfl, rfl, h2, g1, rfl⟩, g2 w⟩
      · cases h
    | _ => simp [gvB] at h
  | .lst _, _, h => by simp [gvB] at h
  | .dct _ _, _, h => by simp [gvB] at h
  | .box _, _, h => by simp [gvB] at h
  | .scr _, _, h => by simp [gvB] at h
theorem gvsB_ok {K : PySem.W.Frag} : ∀ (ps : List PV) (us : List Value), gvsB K ps us = true → ∃ vs, Vals vs us ∧ ∀ w : Ws, Rels K w ps vs
  | [], us, h => by
    cases us with
    | nil => exact ⟨[], .nil, fun _ => .nil⟩
    | cons _ _ => simp [gvsB] at h
  | p :: ps, us, h => by
    cases us with
    | nil => simp [gvsB] at h
    | cons u us =>
      simp only [gvsB, Bool.and_eq_true] at h
      obtain ⟨v, g1, g2⟩ := gvB_ok p u h.1
      obtain ⟨vs, g3, g4⟩ := gvsB_ok ps us h.2
      exact ⟨v :: vs, .cons g1 g3, fun w => .cons (g2 w) (g4 w)⟩
end
def gxB (K : PySem.W.Frag) (g : Str × PV) : Bool := match PySem.W.nsIn K mainGlobals g.1 with
  | some (some u) => gvB K g.2 u
  | _ => false
theorem gxB_ok {K : PySem.W.Frag} {h : Heap} {mg : Str → Option Value} (X : K.In h) (G : h.Ns mainGlobals mg) {g : Str × PV} (e : gxB K g = true) : ∃ u v, mg g.1 = some u ∧ RelV v u ∧ ∀ w : Ws, Rel K w g.2 v := by
  unfold gxB at e
  split at e
  · rename_i u hu
    obtain ⟨v, h1, h2⟩ := gvB_ok _ _ e
    exact ⟨u, v, PySem.W.mg_of X G hu, h1, h2⟩
  · cases e
/-! ### written dicts -/
/-- the values of a written dict, by key -/
def kdB (K : PySem.W.Frag) (d : Str × List (Str × PV)) : Bool := eqO (PySem.W.nsIn K mainGlobals d.1) (some (some (.ref (He.ga K d.1)))) && d.2.all fun q => match PySem.W.nsIn K (He.ga K d.1) q.1 with
    | some (some u) => gvB K q.2 u
    | _ => false
where eqO (a b : Option (Option Value)) : Bool := decide (a = b)
theorem keys_none {P : Params} {z : Str} : ∀ {l : List DictEntry} {ks : List Str}, l.map He.keyOf = He.keysIn P ks → z ∉ ks → (l.find? (·.key.isStr z)) = none ∧ l.any (·.refKey) = false
  | [], _, _, _ => ⟨rfl, rfl⟩
  | e :: r, [], h, _ => by cases h
  | e :: r, k :: ks, h, hz => by
    have h1 : He.keyOf e :: r.map He.keyOf = some (k, PyData.keyHash P k) :: He.keysIn P ks := h
    injection h1 with h2 h3
    simp only [List.mem_cons, not_or] at hz
    obtain ⟨g1, g2⟩ := keys_none h3 hz.2
    unfold He.keyOf at h2
    split at h2
    · rename_i x t hk
      have h4 := Option.some.inj h2
      have h5 : x = k := (Prod.mk.inj h4).1
      subst h5
      have n1 : e.key.isStr z = false := by
        rw [hk]
        show (x == z) = false
        simpa using fun e : x = z => hz.1 e.symm
      have n2 : e.refKey = false := by
        unfold DictEntry.refKey
        rw [hk]
      exact ⟨by rw [List.find?_cons_of_neg (by rw [n1]; simp)]; exact g1, by simp only [List.any_cons, n2, Bool.false_or]; exact g2⟩
    · cases h2
theorem kd_ok {K : PySem.W.Frag} {w : World} {h : Heap} {mg : Str → Option Value} (X : K.In h) (G : h.Ns mainGlobals mg) {d : Str × List (Str × PV)} (e : kdB K d = true) (t : He.dicW K (He.ga K d.1) = some (He.keysIn w.params (d.2.map (·.1)))) :
    ∃ (a : Addr) (es : Array DictEntry) (n : Nat), mg d.1 = some (.ref a) ∧ (a == sysModules) = false ∧ K.lookup a = some ⟨.type "dict", none, .dict es n, #[]⟩ ∧ PySem.W.KeysLit w.params es.toList ∧
    ∀ z, match d.2.lookup z with
      | some p => ∃ u v, PySem.W.nsIn K a z = some (some u) ∧ RelV v u ∧ ∀ w : Ws, Rel K w p v
      | none => PySem.W.nsIn K a z = some none := by
  unfold kdB at e
  simp only [Bool.and_eq_true, List.all_eq_true] at e
  obtain ⟨e1, e2⟩ := e
  obtain ⟨es, n, q, kl, low⟩ := He.dicW_ok t
  refine ⟨He.ga K d.1, es, n, PySem.W.mg_of X G (of_decide_eq_true e1), low, q, kl, fun z => ?_⟩
  cases hz : d.2.lookup z with
  | some p =>
    have hm : (z, p) ∈ d.2 := PySem.mem_of_lookup hz
    have e3 := e2 _ hm
    show ∃ u v, PySem.W.nsIn K (He.ga K d.1) z = some (some u) ∧ RelV v u ∧ ∀ w : Ws, Rel K w p v
    cases hu : PySem.W.nsIn K (He.ga K d.1) z with
    | none => rw [hu] at e3; cases e3
    | some r =>
      cases r with
      | none => rw [hu] at e3; cases e3
      | some u =>
        rw [hu] at e3
        obtain ⟨v, g1, g2⟩ := gvB_ok p u e3
        exact ⟨u, v, rfl, g1, g2⟩
  | none =>
    have hn : z ∉ d.2.map (·.1) := fun hm => by
      obtain ⟨q, hq, rfl⟩ := List.mem_map.mp hm
      have : ∃ p, d.2.lookup q.1 = some p := by
        clear e2 t hz
        generalize d.2 = l at hq
        induction l with
        | nil => cases hq
        | cons a l ih =>
          obtain ⟨k, p⟩ := a
          by_cases c : q.1 = k
          · exact ⟨p, by rw [List.lookup_cons, c]; simp⟩
          · rcases List.mem_cons.mp hq with h | h
            · exact absurd (by rw [h]) c
            · obtain ⟨p', h'⟩ := ih h
              refine ⟨p', ?_⟩
              rw [List.lookup_cons]
              have : (q.1 == k) = false := by simpa using c
              rw [this]
              exact h'
      obtain ⟨p, hp⟩ := this
      rw [hz] at hp
      cases hp
    show PySem.W.nsIn K (He.ga K d.1) z = some none
    have ht : es.toList.map He.keyOf = He.keysIn w.params (d.2.map (·.1)) := by
      unfold He.dicW at t
      rw [q] at t
      have t' : (match decide (("dict" : String) = "dict") && ((#[] : Array (Option Value)).isEmpty && !(He.ga K d.1 == sysModules)) with
        | true => some (es.toList.map He.keyOf)
        | false => none) = some (He.keysIn w.params (d.2.map (·.1))) := t
      rw [low] at t'
      exact Option.some.inj t'
    obtain ⟨g1, g2⟩ := keys_none ht hn
    unfold PySem.W.nsIn
    rw [q]
    show (match es.toList.find? (·.key.isStr z) with
      | some e => some (some e.val)
      | none => if es.toList.any (·.refKey) then none else some none) = some none
    rw [g1, g2]
    rfl
end Py

set_option Elab.async false
set_option linter.all false
set_option maxRecDepth 100000
set_option maxHeartbeats 4000000
/-! PyR: the join of a law's head, its tree and its plain truth. -/
namespace Py
open PySem L2
open PyProof.Rows hiding St
theorem FunD.bindK {K : PySem.W.Frag} {x qual : Str} {params : Arguments} {body : List Stmt} {scope : Scope} {f : Addr} {fd : FuncData} {ps : List Str} {q : Nat × List Str × List Nat} (F : FunD K x qual params body scope [] [] f fd)
    (h : ∀ (kV doc pm : Value) (an : Option Addr) (cdv ct : Value) (us ws : List Value), us.length = q.1 → ws.length = q.2.1.length → bindArgs (PySem.W.fnOf x qual params body scope .none kV doc pm an cdv ct) ⟨us, q.2.1.zip ws⟩ = pure (ps.zip (permV q.2.2 (us ++ ws)))) : BindK K fd ps q := by
  obtain ⟨oc, od, dV, kV, doc, pm, an, cdv, ct, osl, rfl, lk, hcd, hD, hK⟩ := F.ex
  rcases hD with ⟨_, rfl⟩ | ⟨e, _⟩
  · exact fun s us ws X l1 l2 => .of_eq (h kV doc pm an cdv ct us ws l1 l2)
  · exact absurd rfl e
/-- a def of the text and its tree -/
structure DefG (pg : PProg) (fi : FnI) (d : He.DefD) (p : Str × Option Str) : Prop where
  at_ : d.at_ = p
  dfl : d.dfl = []
  kwd : d.kwd = []
  sc : FnScope fi.names fi.params d.scope
  tr : trB pg fi.names fi.body d.scope d.body = true
  bd : ∀ (K : PySem.W.Frag) (a : Addr) (fd : FuncData), FunD K d.name d.qual d.params d.body d.scope [] [] a fd → (∀ (s : Shared) (us : List Value), us.length = fi.params.length → BindsTo s fd ⟨us, []⟩ (fi.params.zip us)) ∧ ∀ q ∈ fi.kws, BindK K fd fi.params q
/-- where a def stands: in the module, in a class -/
def atOf (pg : PProg) (f : Nat) (fi : FnI) : Str × Option Str := match pg.cls.find? fun c => c.init == f with
  | some c => (c.name, some ("__init__" : Str))
  | none => match pg.cls.findSome? fun c => (c.mets.find? fun q => q.2 == f).map fun q => (c.name, q.1) with
    | some q => (q.1, some q.2)
    | none => (fi.name, none)
theorem atOf_glo {pg : PProg} {f : Nat} {fi : FnI} (h : gloF pg f = true) : atOf pg f fi = (fi.name, none) := by
  unfold gloF at h
  rw [Bool.not_eq_true', List.any_eq_false] at h
  have h1 : (pg.cls.find? fun c => c.init == f) = none := List.find?_eq_none.mpr fun c hc hb => h c hc (by rw [hb]; rfl)
  have h2 : (pg.cls.findSome? fun c => (c.mets.find? fun q => q.2 == f).map fun q => (c.name, q.1)) = none := List.findSome?_eq_none_iff.mpr fun c hc => by
    rw [Option.map_eq_none_iff, List.find?_eq_none]
    intro q hq hb
    exact h c hc (by rw [show (c.mets.any fun q => q.2 == f) = true from List.any_eq_true.mpr ⟨q, hq, hb⟩, Bool.or_true])
  unfold atOf
  rw [h1, h2]
def faOf (pg : PProg) : List He.Fa := (pg.fns.zipIdx.filterMap fun q => if gloF pg q.2 = true then some (.glo q.1.name) else none) ++ (blN.map .free ++ pg.cls.flatMap fun c => .glo c.name :: .cls c.name :: .mkr c.name :: c.attrs.map (.noat c.name))
def tsOf (pg : PProg) : List He.Tab := pg.kds.map fun d => (fun K => He.ga K d.1, d.2.map (·.1))
/-- what more is asked of a class -/
def clsB (K : PySem.W.Frag) (c : ClsI) : Bool := He.eqO (PySem.W.findIn K (.ref (He.ga K c.name)) "__class__") (some (some (.builtin "object.__class__"))) && He.eqO (PySem.W.specialIn K (.builtin "object.__class__") "__get__") (some (some (.builtin "getset_descriptor.__get__"))) &&
  decide (PySem.W.takesIn K (.builtin "object.__class__") = some true) && decide (PySem.W.mroIn K (He.ga K c.name) (.type "object") = some true) && decide (PySem.W.kitOne K (.ref (He.ga K c.name)) (.ref (He.ga K c.name)) = some true) &&
  (["NoneType", "bool", "int", "str", "tuple", "list"].all fun n => decide (PySem.W.kitOne K (.type n) (.ref (He.ga K c.name)) = some false))
def exOf (pg : PProg) (K : PySem.W.Frag) : Bool := pg.gvs.all (gxB K) && pg.kds.all (kdB K) && pg.cls.all (clsB K)
/-- each class has its __init__ -/
def initB (pg : PProg) : Bool := pg.cls.all fun c => match pg.fns[c.init]? with
  | some fi => decide (atOf pg c.init fi = (c.name, some ("__init__" : Str)))
  | none => false
section
variable {pg : PProg} {fn : List He.DefD} {w : World} {h : Heap} {K : PySem.W.Frag} {mg : Str → Option Value}
theorem def_fact (c : He.SaysT (faOf pg) fn (tsOf pg) w K) (X : K.In h) (G : h.Ns mainGlobals mg) {f : Nat} {fi : FnI} (hf : pg.fns[f]? = some fi) {d : He.DefD} (hd : fn[f]? = some d) (D : DefG pg fi d (atOf pg f fi)) :
    ∃ fd, FnF pg K mg fi (He.fAd K (atOf pg f fi)) fd (gloF pg f) ∧ ∀ (s : Shared) (us : List Value), us.length = fi.params.length → BindsTo s fd ⟨us, []⟩ (fi.params.zip us) := by
  obtain ⟨fd, F⟩ := c.d.def_ f hd
  have e1 : d.dvs K = [] := by unfold He.DefD.dvs; rw [D.dfl]; rfl
  have e2 : d.kws K = [] := by unfold He.DefD.kws; rw [D.kwd]; rfl
  have e3 : He.fAd K d.at_ = He.fAd K (atOf pg f fi) := by rw [D.at_]
  rw [e1, e2, e3] at F
  obtain ⟨b1, b2⟩ := D.bd K _ fd F
  refine ⟨fd, ⟨⟨_, _, _, _, _, F, D.sc, D.tr⟩, fun hgl => ?_, F.kp, fun s us _ hl => ?_, b2⟩, b1⟩
  · rw [atOf_glo hgl]
    refine He.glo_ok X G (c.d.facts (f := .glo fi.name) (List.mem_append_left _ (List.mem_filterMap.mpr ⟨(fi, f), ?_, ?_⟩)))
    · exact List.mk_mem_zipIdx_iff_getElem?.mpr hf
    · exact if_pos hgl
  · rw [List.append_nil] at hl ⊢
    exact b1 s us hl
theorem cls_fact (c : He.SaysT (faOf pg) fn (tsOf pg) w K) (X : K.In h) (G : h.Ns mainGlobals mg) {cl : ClsI} (hc : cl ∈ pg.cls) (hb : clsB K cl = true) : CFact K cl ∧ mg cl.name = some (.ref (He.ga K cl.name)) ∧ Mk K (He.ga K cl.name) (He.ma K (He.ga K cl.name) "__init__") := by
  have mem : ∀ {fa : He.Fa}, fa ∈ (He.Fa.glo cl.name :: .cls cl.name :: .mkr cl.name :: cl.attrs.map (.noat cl.name)) → fa ∈ faOf pg := fun {fa} hm => List.mem_append_right _ (List.mem_append_right _ (List.mem_flatMap.mpr ⟨cl, hc, hm⟩))
  unfold clsB at hb
  simp only [Bool.and_eq_true, List.all_eq_true, decide_eq_true_eq] at hb
  obtain ⟨⟨⟨⟨⟨b1, b2⟩, b3⟩, b4⟩, b5⟩, b6⟩ := hb
  refine ⟨⟨He.cls_ok (c.d.facts (f := .cls cl.name) (mem (by simp))), fun x hx => He.noat_ok (c.d.facts (f := .noat cl.name x) (mem ?_)), He.eqO_ok b1, He.eqO_ok b2, b3, b4, b5, b6⟩, He.glo_ok X G (c.d.facts (f := .glo cl.name) (mem (by simp))), He.mkr_ok (c.d.facts (f := .mkr cl.name) (mem (by simp)))⟩
  exact List.mem_cons_of_mem _ (List.mem_cons_of_mem _ (List.mem_cons_of_mem _ (List.mem_map.mpr ⟨x, hx, rfl⟩)))
theorem pg_ok (c : He.SaysT (faOf pg) fn (tsOf pg) w K) (ex : exOf pg K = true) (hI : initB pg = true) (X : K.In h) (G : h.Ns mainGlobals mg) (hD : ∀ (f : Nat) fi, pg.fns[f]? = some fi → ∃ d, fn[f]? = some d ∧ DefG pg fi d (atOf pg f fi)) : PgOk pg w K mg := by
  unfold exOf at ex
  simp only [Bool.and_eq_true, List.all_eq_true] at ex
  refine ⟨fun f fi hf => ?_, fun cl hcl => ?_, fun k g hg => gxB_ok X G (ex.1.1 g (List.mem_of_getElem? hg)), fun k d hd => ?_, fun x hx => ?_⟩
  · obtain ⟨d, hd, D⟩ := hD f fi hf
    obtain ⟨fd, F, _⟩ := def_fact c X G hf hd D
    exact ⟨_, fd, F⟩
  · obtain ⟨h1, h2, h3⟩ := cls_fact c X G hcl (ex.2 cl hcl)
    refine ⟨h1, h2, ?_⟩
    have z := List.all_eq_true.mp hI cl hcl
    cases hf : pg.fns[cl.init]? with
    | none => rw [hf] at z; cases z
    | some fi =>
      rw [hf] at z
      have z : atOf pg cl.init fi = (cl.name, some ("__init__" : Str)) := of_decide_eq_true z
      obtain ⟨d, hd, D⟩ := hD cl.init fi hf
      obtain ⟨fd, F, _⟩ := def_fact c X G hf hd D
      rw [z] at F
      exact ⟨fi, _, fd, rfl, F, h3⟩
  · have e : (tsOf pg).map (fun t => He.dicW K (t.1 K)) = (tsOf pg).map fun t => some (He.keysIn w.params t.2) := congrArg (fun z : He.AlT => z.2) c
    have e2 : ((tsOf pg).map fun t => He.dicW K (t.1 K))[k]? = ((tsOf pg).map fun t => some (He.keysIn w.params t.2))[k]? := by rw [e]
    have e3 : (tsOf pg)[k]? = some (fun K => He.ga K d.1, d.2.map (·.1)) := by
      unfold tsOf
      rw [List.getElem?_map, hd]
      rfl
    rw [List.getElem?_map, List.getElem?_map, e3] at e2
    exact kd_ok X G (ex.1.2 d (List.mem_of_getElem? hd)) (Option.some.inj e2)
  · exact He.free_ok X G (c.d.facts (f := .free x) (List.mem_append_right _ (List.mem_append_left _ (List.mem_map.mpr ⟨x, hx, rfl⟩))))
end
/-- the law's plain truth, as the walk asks it -/
theorem law_sp {K : PySem.W.Frag} {m : List PV → PM (PV × Bool)} {H : Hp} {a : Addr} {ns : List Int} (hS : SqL K H a (ns.map V.int)) (ht : ∃ ph, m [.scr (ns.map .int)] [] = .ok (.bl true, false) ph) :
    spF K m 1 [.ref a] H (fun v _ => v = .bl true) fun _ _ _ => False := by
  have rr : ∀ w : Ws, ∀ ns : List Int, Rels K w (ns.map PV.int) (ns.map V.int) := fun w ns => by
    induction ns with
    | nil => exact .nil
    | cons n ns ih => exact .cons rel_int ih
  refine ⟨[.scr (ns.map .int)], ⟨[], fun x => x = a ∧ H a ≠ none, H⟩, [], rfl, rfl, ⟨fun x h => by rw [h.1]; exact h.2, by simp, by simp, List.nodup_nil, rfl, by simp⟩, .one ?_, ?_⟩
  · rw [Rel]
    refine ⟨a, _, rfl, ?_, rr _ ns⟩
    rcases hS with hS | hS
    · refine .inl ⟨⟨rfl, ?_⟩, hS⟩
      rcases hS with h | ⟨o, h⟩ <;> rw [h] <;> simp
    · exact .inr hS
  · obtain ⟨ph, e⟩ := ht
    rw [e]
    exact fun v w1 _ _ rel => by
      have rel : Rel K w1 (.bl true) v := rel
      rw [Rel] at rel
      exact rel
theorem cx_false {P : Program} {w : World} {H : Hp} {s : Shared} {e : Value} {s' : Shared} (h : L2.CX P w [] H s (fun _ _ _ => False) e s') : False := by
  obtain ⟨a, B, H', cls, d, _, _, _, _, _, _, _, z⟩ := h
  exact z
/-- the law, joined -/
theorem law_walk {pg : PProg} {fn : List He.DefD} {l : PySem.W.OpenLaw} {n k li : Nat} {q : Program} {loose : List Str} {XP : (Str → Option Value) → Heap → Prop} {YP : World → Heap → Prop} {K : Params → PySem.W.Frag} {d : DefRec} {fi : FnI} {x : Str}
    (hn : l.most = some n) (hn2 : n ≤ sizeLine) (hdf : d.params.defaults = []) (hr : Room k callerA) (hD : ∀ (f : Nat) fi, pg.fns[f]? = some fi → ∃ d, fn[f]? = some d ∧ DefG pg fi d (atOf pg f fi)) (hI : initB pg = true) (hgl : gloF pg li = true)
    (hl : pg.fns[li]? = some fi) (hname : d.name = fi.name) (hps : fi.params = [x]) (truth : ∀ ns : List Int, ns.length ≤ n → ∃ ph, callN pg k li [.scr (ns.map .int)] [] = .ok (.bl true, false) ph)
    (hY : ∀ (w : World) (h : Heap), YP w h → (K w.params).In h) (hc : ∀ w : World, He.SaysT (faOf pg) fn (tsOf pg) w (K w.params)) (hex : ∀ w : World, exOf pg (K w.params) = true) :
    PySem.W.WalkO q loose XP YP l.row.toRowW d [] (fun f vs => PySem.call f vs) := by
  refine Att.attach_callB hn hdf fun w s₀ s₁ mg mb fa o pm cd doc a vs ns G Y ho hd hcd hmg hobj hints hlen hbits hg => ?_
  have KX := hY w _ Y
  have c := hc w
  have ex := hex w
  generalize K w.params = K at KX c ex
  obtain ⟨dl, hdl, D⟩ := hD li fi hl
  obtain ⟨fd, F, hb⟩ := def_fact c KX G.T.g hl hdl D
  rw [atOf_glo hgl] at F
  have hfa : fa = He.ga K fi.name := by
    have := F.mg hgl
    rw [show He.fAd K (fi.name, none) = He.ga K fi.name from rfl] at this
    rw [← hname, hmg] at this
    cases this
    rw [hname]
  subst hfa
  have hF : ∀ base : Heap, K.In base → base.Ns mainGlobals mg → FnG l.prog w K mg base (L2.CX l.prog w) k (He.ga K fi.name) fd [x] (spF K (callN pg k li) 1) := fun base _ _ => by
    have z := fn_level (P := l.prog) (w := w) (base := base) (pg_ok c ex hI KX G.T.g hD) k li fi _ fd hl F
    rw [hps] at z
    exact z
  exact law_callG (cx := L2.CX l.prog w) KX G.T.g G.T.b G.T.builtins G.T.nolimit hg hobj hints (Nat.le_trans hlen hn2) hr hF (fun s u => by
    have z := hb s [u] (by rw [hps]; rfl)
    rw [hps] at z
    exact z) (fun H hO hS => law_sp hS (truth ns hlen)) fun H e s' => cx_false
end Py

set_option Elab.async false
set_option linter.all false
set_option maxRecDepth 100000
set_option maxHeartbeats 4000000
/-! PZ: the interpreter, one turn at a time, without functions in its terms: a set of rewritings for plain truths. -/
namespace Py
open PySem
abbrev OV := Out (PV × Bool)
def Out.bnd {α β : Type} (o : Out α) (f : α → PH → Out β) : Out β := match o with
  | .ok a ph => f a ph
  | .exc e ph => .exc e ph
  | .stuck => .stuck
theorem bnd_congr {α β : Type} {o : Out α} {f g : α → PH → Out β} (h : ∀ a ph, f a ph = g a ph) : o.bnd f = o.bnd g := by
  cases o with
  | ok a ph => exact h a ph
  | _ => rfl
theorem bv {β : Type} {m : PM (PV × Bool)} {f : PV → PM β} {ph : PH} : PM.bind (evalV m) f ph = (m ph).bnd fun r ph1 => f r.1 ph1 := by
  unfold evalV PM.bind Out.bnd
  cases m ph <;> rfl
theorem bm {α β : Type} {m : PM α} {f : α → PM β} {ph : PH} : PM.bind m f ph = (m ph).bnd fun r ph1 => f r ph1 := by
  unfold PM.bind Out.bnd
  cases m ph <;> rfl
def rO (o : Option (PV × Bool)) (ph : PH) : OV := PM.ofO o ph
@[simp] theorem rO_some {r : PV × Bool} {ph : PH} : rO (some r) ph = .ok r ph := Eq.trans rfl rfl
/-- a loop's name -/
def forL (pg : PProg) (cl : Calls) (tg : Tg) (body : IB) (xs : List PV) (env : PEnv) (ph : PH) : Out Fl := forLoop (fun x e => kBind (fun e' => execB pg cl body e') (bindTg tg x e)) xs env ph
def whlL (pg : PProg) (cl : Calls) (t : IE) (body : IB) (n : Nat) (env : PEnv) (ph : PH) : Out Fl := whileLoop (fun e => evalBl pg cl t e) (fun e => execB pg cl body e) n env ph
def lcT (pg : PProg) (cl : Calls) (own : List Nat) (tg : Tg) (cond : IL) (elt : IE) (env : PEnv) (x : PV) (ph : PH) : Out (Option PV) := lcTurn (fun e => evalT pg cl cond e) (fun e => evalE pg cl elt e) (bindTg tg x (wipeE env own)) ph
def lcL (pg : PProg) (cl : Calls) (own : List Nat) (tg : Tg) (cond : IL) (elt : IE) (xs : List PV) (env : PEnv) (ph : PH) : Out (List PV) := PM.calm (lcLoop (fun x => lcTurn (fun e => evalT pg cl cond e) (fun e => evalE pg cl elt e) (bindTg tg x (wipeE env own))) xs) ph
section
variable {pg : PProg} {cl : Calls} {env : PEnv} {ph : PH} {x y z : PV} {c : Bool}
/-! expressions -/
def cVar (o : Option (PV × Bool)) (ph : PH) : OV := match o with
  | some (v, false) => .ok (v, false) ph
  | _ => .stuck
@[simp] theorem cVar_ok {v : PV} : cVar (some (v, false)) ph = .ok (v, false) ph := Eq.trans rfl rfl
@[simp] theorem e_var {i : Nat} : evalE pg cl (.var i) env ph = cVar (getV env i) ph := by
  show evVar env i ph = _
  unfold evVar cVar
  cases getV env i with
  | none => rfl
  | some r => obtain ⟨v, b⟩ := r; cases b <;> rfl
def cBvar (o : Option (PV × Bool)) (ph : PH) : OV := match o with
  | some (v, _) => .ok (v, false) ph
  | _ => .stuck
@[simp] theorem cBvar_ok {v : PV} : cBvar (some (v, c)) ph = .ok (v, false) ph := Eq.trans rfl rfl
@[simp] theorem e_bvar {i : Nat} : evalE pg cl (.bvar i) env ph = cBvar (getV env i) ph := by
  show evBvar env i ph = _
  unfold evBvar cBvar
  cases getV env i with
  | none => rfl
  | some r => obtain ⟨v, b⟩ := r; rfl
@[simp] theorem getV_0 {r : PV × Bool} {l : PEnv} : getV (some r :: l) 0 = some r := Eq.trans rfl rfl
@[simp] theorem getV_n0 {l : PEnv} : getV (none :: l) 0 = none := Eq.trans rfl rfl
@[simp] theorem getV_s {r : Option (PV × Bool)} {l : PEnv} {i : Nat} : getV (r :: l) (i + 1) = getV l i := Eq.trans rfl rfl
@[simp] theorem e_non : evalE pg cl .non env ph = .ok (.non, false) ph := Eq.trans rfl rfl
@[simp] theorem e_bl {b : Bool} : evalE pg cl (.bl b) env ph = .ok (.bl b, false) ph := Eq.trans rfl rfl
@[simp] theorem e_int {i : Int} : evalE pg cl (.int i) env ph = .ok (.int i, false) ph := Eq.trans rfl rfl
@[simp] theorem e_str {i : Str} : evalE pg cl (.str i) env ph = .ok (.str i, false) ph := Eq.trans rfl rfl
def cGv (o : Option (Str × PV)) (ph : PH) : OV := match o with
  | some (_, v) => .ok (v, false) ph
  | none => .stuck
@[simp] theorem cGv_ok {n : Str} {v : PV} : cGv (some (n, v)) ph = .ok (v, false) ph := Eq.trans rfl rfl
@[simp] theorem e_gv {k : Nat} : evalE pg cl (.gv k) env ph = cGv (pg.gvs[k]?) ph := by
  show evGv pg k ph = _
  unfold evGv cGv
  cases pg.gvs[k]? with
  | none => rfl
  | some r => rfl
def cBin2 (op : Operator) (x : PV) (o : OV) : OV := o.bnd fun r ph => rO (pbin op x r.1) ph
@[simp] theorem cBin2_ok {op : Operator} : cBin2 op x (.ok (y, c) ph) = rO (pbin op x y) ph := Eq.trans rfl rfl
def cBin1 (pg : PProg) (cl : Calls) (op : Operator) (b : IE) (env : PEnv) (o : OV) : OV := o.bnd fun r ph => cBin2 op r.1 (evalE pg cl b env ph)
@[simp] theorem cBin1_ok {op : Operator} {b : IE} : cBin1 pg cl op b env (.ok (x, c) ph) = cBin2 op x (evalE pg cl b env ph) := Eq.trans rfl rfl
@[simp] theorem e_bin {op : Operator} {a b : IE} : evalE pg cl (.bin op a b) env ph = cBin1 pg cl op b env (evalE pg cl a env ph) := by
  rw [evalE]
  exact bv.trans (bnd_congr fun _ _ => bv)
def cNeg (o : OV) : OV := o.bnd fun r ph => kNeg r.1 ph
@[simp] theorem cNeg_ok {i : Int} : cNeg (.ok (.int i, c) ph) = .ok (.int (-i), false) ph := Eq.trans rfl rfl
@[simp] theorem e_neg {a : IE} : evalE pg cl (.neg a) env ph = cNeg (evalE pg cl a env ph) := by
  rw [evalE]
  exact bv
def rB (o : Option Bool) (ph : PH) : OV := PM.ofO (o.map mkBool) ph
@[simp] theorem rB_some {b : Bool} : rB (some b) ph = .ok (.bl b, false) ph := Eq.trans rfl rfl
@[simp] theorem cmp_lt {i j : Int} : pcmp .Lt (.int i) (.int j) = some (decide (i < j)) := Eq.trans rfl rfl
@[simp] theorem cmp_le {i j : Int} : pcmp .LtE (.int i) (.int j) = some (decide (i ≤ j)) := Eq.trans rfl rfl
@[simp] theorem cmp_gt {i j : Int} : pcmp .Gt (.int i) (.int j) = some (decide (j < i)) := Eq.trans rfl rfl
@[simp] theorem cmp_ge {i j : Int} : pcmp .GtE (.int i) (.int j) = some (decide (j ≤ i)) := Eq.trans rfl rfl
@[simp] theorem cmp_is {x : PV} : pcmp .Is x .non = some x.isNon := by cases x <;> rfl
@[simp] theorem cmp_isn {x : PV} : pcmp .IsNot x .non = some (!x.isNon) := by cases x <;> rfl
@[simp] theorem cmp_isb {a b : Bool} : pcmp .Is (.bl a) (.bl b) = some (a == b) := Eq.trans rfl rfl
@[simp] theorem cmp_isnb {a b : Bool} : pcmp .IsNot (.bl a) (.bl b) = some (!(a == b)) := Eq.trans rfl rfl
@[simp] theorem cmp_eqi {i j : Int} : pcmp .Eq (.int i) (.int j) = some (decide (i = j)) := by
  show some ((i == j)) = _
  by_cases h : i = j <;> simp [h]
@[simp] theorem cmp_nei {i j : Int} : pcmp .NotEq (.int i) (.int j) = some (!decide (i = j)) := by
  show some (!(i == j)) = _
  by_cases h : i = j <;> simp [h]
def cCmp2 (op : CmpOp) (x : PV) (o : OV) : OV := o.bnd fun r ph => rB (pcmp op x r.1) ph
@[simp] theorem cCmp2_ok {op : CmpOp} : cCmp2 op x (.ok (y, c) ph) = rB (pcmp op x y) ph := Eq.trans rfl rfl
def cCmp1 (pg : PProg) (cl : Calls) (op : CmpOp) (b : IE) (env : PEnv) (o : OV) : OV := o.bnd fun r ph => cCmp2 op r.1 (evalE pg cl b env ph)
@[simp] theorem cCmp1_ok {op : CmpOp} {b : IE} : cCmp1 pg cl op b env (.ok (x, c) ph) = cCmp2 op x (evalE pg cl b env ph) := Eq.trans rfl rfl
@[simp] theorem e_cmp {op : CmpOp} {a b : IE} : evalE pg cl (.cmp op a b) env ph = cCmp1 pg cl op b env (evalE pg cl a env ph) := by
  rw [evalE]
  exact bv.trans (bnd_congr fun _ _ => bv)
def cDbl3 (pg : PProg) (cl : Calls) (op : CmpOp) (y : PV) (b : IE) (env : PEnv) (o : Option Bool) (ph : PH) : OV := PM.bind (PM.ofO o) (kCmp2 fun ph => cCmp2 op y (evalE pg cl b env ph)) ph
@[simp] theorem cDbl3_t {op : CmpOp} {b : IE} {p : Bool} : cDbl3 pg cl op y b env (some p) ph = if p = true then cCmp2 op y (evalE pg cl b env ph) else .ok (.bl false, false) ph := by cases p <;> rfl
def cDbl2 (pg : PProg) (cl : Calls) (o1 o2 : CmpOp) (x : PV) (b : IE) (env : PEnv) (o : OV) : OV := o.bnd fun r ph => cDbl3 pg cl o2 r.1 b env (pcmp o1 x r.1) ph
@[simp] theorem cDbl2_ok {o1 o2 : CmpOp} {b : IE} : cDbl2 pg cl o1 o2 x b env (.ok (y, c) ph) = cDbl3 pg cl o2 y b env (pcmp o1 x y) ph := Eq.trans rfl rfl
def cDbl1 (pg : PProg) (cl : Calls) (o1 o2 : CmpOp) (b d : IE) (env : PEnv) (o : OV) : OV := o.bnd fun r ph => cDbl2 pg cl o1 o2 r.1 d env (evalE pg cl b env ph)
@[simp] theorem cDbl1_ok {o1 o2 : CmpOp} {b d : IE} : cDbl1 pg cl o1 o2 b d env (.ok (x, c) ph) = cDbl2 pg cl o1 o2 x d env (evalE pg cl b env ph) := Eq.trans rfl rfl
@[simp] theorem e_cmp2 {o1 o2 : CmpOp} {a b d : IE} : evalE pg cl (.cmp2 o1 o2 a b d) env ph = cDbl1 pg cl o1 o2 b d env (evalE pg cl a env ph) := by
  rw [evalE]
  refine bv.trans (bnd_congr fun _ _ => bv.trans (bnd_congr fun _ _ => ?_))
  show _ = PM.bind _ _ _
  congr 1
  congr 1
  funext ph
  exact bv
def cAnd (pg : PProg) (cl : Calls) (b : IE) (env : PEnv) (o : OV) : OV := o.bnd fun r ph => kAnd (evalE pg cl b env) r.1 ph
@[simp] theorem cAnd_ok {b : IE} {p : Bool} : cAnd pg cl b env (.ok (.bl p, c) ph) = if p = true then evalE pg cl b env ph else .ok (.bl false, false) ph := by cases p <;> rfl
@[simp] theorem e_and {a b : IE} : evalE pg cl (.and a b) env ph = cAnd pg cl b env (evalE pg cl a env ph) := by
  rw [evalE]
  exact bv
def cOr (pg : PProg) (cl : Calls) (b : IE) (env : PEnv) (o : OV) : OV := o.bnd fun r ph => kOr (evalE pg cl b env) r.1 ph
@[simp] theorem cOr_ok {b : IE} {p : Bool} : cOr pg cl b env (.ok (.bl p, c) ph) = if p = true then .ok (.bl true, false) ph else evalE pg cl b env ph := by cases p <;> rfl
@[simp] theorem e_or {a b : IE} : evalE pg cl (.or a b) env ph = cOr pg cl b env (evalE pg cl a env ph) := by
  rw [evalE]
  exact bv
def cNot (o : OV) : OV := o.bnd fun r ph => kNot r.1 ph
@[simp] theorem cNot_ok {p : Bool} : cNot (.ok (.bl p, c) ph) = .ok (.bl (!p), false) ph := Eq.trans rfl rfl
@[simp] theorem e_not {a : IE} : evalE pg cl (.not a) env ph = cNot (evalE pg cl a env ph) := by
  rw [evalE]
  exact bv
def cIte (pg : PProg) (cl : Calls) (a b : IE) (env : PEnv) (o : OV) : OV := o.bnd fun r ph => kIte (evalE pg cl a env) (evalE pg cl b env) r.1 ph
@[simp] theorem cIte_ok {a b : IE} {p : Bool} : cIte pg cl a b env (.ok (.bl p, c) ph) = if p = true then evalE pg cl a env ph else evalE pg cl b env ph := by cases p <;> rfl
@[simp] theorem e_ite {t a b : IE} : evalE pg cl (.ite t a b) env ph = cIte pg cl a b env (evalE pg cl t env ph) := by
  rw [evalE]
  exact bv
/-! a truth that was asked twice -/
@[simp] theorem if_bl {p : Prop} [Decidable p] {q : Bool} : (if p then (Out.ok (PV.bl q, false) ph : OV) else .ok (.bl false, false) ph) = .ok (.bl (decide p && q), false) ph := by by_cases h : p <;> simp [h]
@[simp] theorem if_bl2 {p : Prop} [Decidable p] {q : Bool} : (if p then (Out.ok (PV.bl true, false) ph : OV) else .ok (.bl q, false) ph) = .ok (.bl (decide p || q), false) ph := by by_cases h : p <;> simp [h]
def cTup (o : Out (List PV)) : OV := o.bnd fun vs ph => if vs.length ≤ sizeLine then .ok (.tup vs, false) ph else .stuck
@[simp] theorem cTup_ok {vs : List PV} : cTup (.ok vs ph) = if vs.length ≤ sizeLine then .ok (.tup vs, false) ph else .stuck := Eq.trans rfl rfl
theorem ite_at {α : Type} {p : Prop} [Decidable p] {m n : PM α} : (if p then m else n) ph = if p then m ph else n ph := by split <;> rfl
@[simp] theorem e_tup {es : IL} : evalE pg cl (.tup es) env ph = cTup (evalL pg cl es env ph) := by
  rw [evalE]
  exact bm.trans (bnd_congr fun _ _ => ite_at)
def cLst (o : Out (List PV)) : OV := o.bnd fun vs ph => if vs.length ≤ sizeLine then .ok (.lst vs, true) ph else .stuck
@[simp] theorem cLst_ok {vs : List PV} : cLst (.ok vs ph) = if vs.length ≤ sizeLine then .ok (.lst vs, true) ph else .stuck := Eq.trans rfl rfl
@[simp] theorem e_lst {es : IL} : evalE pg cl (.lst es) env ph = cLst (evalL pg cl es env ph) := by
  rw [evalE]
  exact bm.trans (bnd_congr fun _ _ => ite_at)
def cBox (o : Out (List PV)) : OV := o.bnd fun vs ph => if vs.length ≤ sizeLine then .ok (.box ph.length, false) (ph ++ [.lst vs]) else .stuck
@[simp] theorem cBox_ok {vs : List PV} : cBox (.ok vs ph) = if vs.length ≤ sizeLine then .ok (.box ph.length, false) (ph ++ [.lst vs]) else .stuck := Eq.trans rfl rfl
@[simp] theorem e_box {es : IL} : evalE pg cl (.box es) env ph = cBox (evalL pg cl es env ph) := by
  rw [evalE]
  exact bm
def cDct (o : Out (List PV)) : OV := o.bnd fun vs ph => rO ((dispD vs [] []).map fun r => (.dct r.1 r.2, false)) ph
@[simp] theorem cDct_ok {vs : List PV} : cDct (.ok vs ph) = rO ((dispD vs [] []).map fun r => (.dct r.1 r.2, false)) ph := Eq.trans rfl rfl
@[simp] theorem e_dct {es : IL} : evalE pg cl (.dct es) env ph = cDct (evalL pg cl es env ph) := by
  rw [evalE]
  exact bm
def rV (o : Option PV) (ph : PH) : OV := PM.ofO (o.map fun v => (v, false)) ph
@[simp] theorem rV_some {v : PV} : rV (some v) ph = .ok (v, false) ph := Eq.trans rfl rfl
def cIdx2 (x : PV) (o : OV) : OV := o.bnd fun r ph => rV (pixB ph x r.1) ph
@[simp] theorem cIdx2_ok : cIdx2 x (.ok (y, c) ph) = rV (pixB ph x y) ph := Eq.trans rfl rfl
def cIdx1 (pg : PProg) (cl : Calls) (b : IE) (env : PEnv) (o : OV) : OV := o.bnd fun r ph => cIdx2 r.1 (evalE pg cl b env ph)
@[simp] theorem cIdx1_ok {b : IE} : cIdx1 pg cl b env (.ok (x, c) ph) = cIdx2 x (evalE pg cl b env ph) := Eq.trans rfl rfl
@[simp] theorem e_idx {a b : IE} : evalE pg cl (.idx a b) env ph = cIdx1 pg cl b env (evalE pg cl a env ph) := by
  rw [evalE]
  exact bv.trans (bnd_congr fun _ _ => bv)
def cSlc3 (x : PV) (l : Option Int) (o : Out (Option Int)) : OV := o.bnd fun r ph => rO (psl x l r) ph
@[simp] theorem cSlc3_ok {l h : Option Int} : cSlc3 x l (.ok h ph) = rO (psl x l h) ph := Eq.trans rfl rfl
def cSlc2 (pg : PProg) (cl : Calls) (x : PV) (hi : IL) (env : PEnv) (o : Out (Option Int)) : OV := o.bnd fun r ph => cSlc3 x r (evalP pg cl hi env ph)
@[simp] theorem cSlc2_ok {l : Option Int} {hi : IL} : cSlc2 pg cl x hi env (.ok l ph) = cSlc3 x l (evalP pg cl hi env ph) := Eq.trans rfl rfl
def cSlc1 (pg : PProg) (cl : Calls) (lo hi : IL) (env : PEnv) (o : OV) : OV := o.bnd fun r ph => cSlc2 pg cl r.1 hi env (evalP pg cl lo env ph)
@[simp] theorem cSlc1_ok {lo hi : IL} : cSlc1 pg cl lo hi env (.ok (x, c) ph) = cSlc2 pg cl x hi env (evalP pg cl lo env ph) := Eq.trans rfl rfl
@[simp] theorem e_slc {a : IE} {lo hi : IL} : evalE pg cl (.slc a lo hi) env ph = cSlc1 pg cl lo hi env (evalE pg cl a env ph) := by
  rw [evalE]
  exact bv.trans (bnd_congr fun _ _ => bm.trans (bnd_congr fun _ _ => bm))
def cRev (o : OV) : OV := o.bnd fun r ph => rO (prev r.1) ph
@[simp] theorem cRev_ok : cRev (.ok (x, c) ph) = rO (prev x) ph := Eq.trans rfl rfl
@[simp] theorem e_rev {a : IE} : evalE pg cl (.rev a) env ph = cRev (evalE pg cl a env ph) := by
  rw [evalE]
  exact bv
def cCall (cl : Calls) (f : Nat) (o : Out (List PV)) : OV := o.bnd fun vs ph => cl f vs ph
@[simp] theorem cCall_ok {f : Nat} {vs : List PV} : cCall cl f (.ok vs ph) = cl f vs ph := Eq.trans rfl rfl
@[simp] theorem e_call {f : Nat} {es : IL} : evalE pg cl (.call f es) env ph = cCall cl f (evalL pg cl es env ph) := by
  rw [evalE]
  exact bm
def cKw3 (cl : Calls) (f : Nat) (o : Option (List PV)) (ph : PH) : OV := PM.bind (PM.ofO o) (fun r => cl f r) ph
@[simp] theorem cKw3_ok {f : Nat} {vs : List PV} : cKw3 cl f (some vs) ph = cl f vs ph := Eq.trans rfl rfl
def cKw2 (pg : PProg) (cl : Calls) (f q : Nat) (vs : List PV) (o : Out (List PV)) : OV := o.bnd fun us ph => cKw3 cl f (kwArgs pg f q vs us) ph
@[simp] theorem cKw2_ok {f q : Nat} {vs us : List PV} : cKw2 pg cl f q vs (.ok us ph) = cKw3 cl f (kwArgs pg f q vs us) ph := Eq.trans rfl rfl
def cKw1 (pg : PProg) (cl : Calls) (f q : Nat) (ks : IL) (env : PEnv) (o : Out (List PV)) : OV := o.bnd fun vs ph => cKw2 pg cl f q vs (evalL pg cl ks env ph)
@[simp] theorem cKw1_ok {f q : Nat} {ks : IL} {vs : List PV} : cKw1 pg cl f q ks env (.ok vs ph) = cKw2 pg cl f q vs (evalL pg cl ks env ph) := Eq.trans rfl rfl
@[simp] theorem e_callK {f q : Nat} {es ks : IL} : evalE pg cl (.callK f q es ks) env ph = cKw1 pg cl f q ks env (evalL pg cl es env ph) := by
  rw [evalE]
  exact bm.trans (bnd_congr fun _ _ => bm)
def cBlt (b : BI) (o : Out (List PV)) : OV := o.bnd fun vs ph => rO (pbi b vs) ph
@[simp] theorem cBlt_ok {b : BI} {vs : List PV} : cBlt b (.ok vs ph) = rO (pbi b vs) ph := Eq.trans rfl rfl
@[simp] theorem e_blt {b : BI} {es : IL} : evalE pg cl (.blt b es) env ph = cBlt b (evalL pg cl es env ph) := by
  rw [evalE]
  exact bm
def cMth2 (m : MI) (x : PV) (o : Out (List PV)) : OV := o.bnd fun vs ph => rO (pmt m x vs) ph
@[simp] theorem cMth2_ok {m : MI} {vs : List PV} : cMth2 m x (.ok vs ph) = rO (pmt m x vs) ph := Eq.trans rfl rfl
def cMth1 (pg : PProg) (cl : Calls) (m : MI) (es : IL) (env : PEnv) (o : OV) : OV := o.bnd fun r ph => if r.1.isSq = true then cMth2 m r.1 (evalL pg cl es env ph) else .stuck
@[simp] theorem cMth1_l {m : MI} {es : IL} {xs : List PV} : cMth1 pg cl m es env (.ok (.lst xs, c) ph) = cMth2 m (.lst xs) (evalL pg cl es env ph) := Eq.trans rfl rfl
@[simp] theorem cMth1_t {m : MI} {es : IL} {xs : List PV} : cMth1 pg cl m es env (.ok (.tup xs, c) ph) = cMth2 m (.tup xs) (evalL pg cl es env ph) := Eq.trans rfl rfl
@[simp] theorem e_mth {m : MI} {a : IE} {es : IL} : evalE pg cl (.mth m a es) env ph = cMth1 pg cl m es env (evalE pg cl a env ph) := by
  rw [evalE]
  refine bv.trans (bnd_congr fun r _ => ?_)
  show (if _ then _ else _ : PM (PV × Bool)) _ = if _ then _ else _
  split
  · exact bm
  · rfl
def cIsi (t : TyN) (o : OV) : OV := o.bnd fun r ph => rB (pisi r.1 t) ph
@[simp] theorem cIsi_ok {t : TyN} : cIsi t (.ok (x, c) ph) = rB (pisi x t) ph := Eq.trans rfl rfl
@[simp] theorem e_isi {a : IE} {t : TyN} : evalE pg cl (.isi a t) env ph = cIsi t (evalE pg cl a env ph) := by
  rw [evalE]
  exact bv
def cKg2 (pg : PProg) (k : Nat) (x : PV) (o : OV) : OV := o.bnd fun r ph => rV (kGet pg k x r.1) ph
@[simp] theorem cKg2_ok {k : Nat} : cKg2 pg k x (.ok (y, c) ph) = rV (kGet pg k x y) ph := Eq.trans rfl rfl
def cKg1 (pg : PProg) (cl : Calls) (k : Nat) (b : IE) (env : PEnv) (o : OV) : OV := o.bnd fun r ph => cKg2 pg k r.1 (evalE pg cl b env ph)
@[simp] theorem cKg1_ok {k : Nat} {b : IE} : cKg1 pg cl k b env (.ok (x, c) ph) = cKg2 pg k x (evalE pg cl b env ph) := Eq.trans rfl rfl
@[simp] theorem e_kget {k : Nat} {a b : IE} : evalE pg cl (.kget k a b) env ph = cKg1 pg cl k b env (evalE pg cl a env ph) := by
  rw [evalE]
  exact bv.trans (bnd_congr fun _ _ => bm)
def cLr (o : Out (List PV)) : OV := o.bnd fun vs ph => rO ((rgEnds vs).map fun r => (.lst (rngP r.1 (r.2 - r.1).toNat), true)) ph
@[simp] theorem cLr_ok {vs : List PV} : cLr (.ok vs ph) = rO ((rgEnds vs).map fun r => (.lst (rngP r.1 (r.2 - r.1).toNat), true)) ph := Eq.trans rfl rfl
@[simp] theorem e_lrng {es : IL} : evalE pg cl (.lrng es) env ph = cLr (evalL pg cl es env ph) := by
  rw [evalE]
  exact bm
def cTr (o : Out (List PV)) : OV := o.bnd fun vs ph => rO ((rgEnds vs).map fun r => (.tup (rngP r.1 (r.2 - r.1).toNat), false)) ph
@[simp] theorem cTr_ok {vs : List PV} : cTr (.ok vs ph) = rO ((rgEnds vs).map fun r => (.tup (rngP r.1 (r.2 - r.1).toNat), false)) ph := Eq.trans rfl rfl
@[simp] theorem e_trng {es : IL} : evalE pg cl (.trng es) env ph = cTr (evalL pg cl es env ph) := by
  rw [evalE]
  exact bm
def cSst (o : OV) : OV := o.bnd fun r ph => rO (psst r.1) ph
@[simp] theorem cSst_ok : cSst (.ok (x, c) ph) = rO (psst x) ph := Eq.trans rfl rfl
@[simp] theorem e_sst {a : IE} : evalE pg cl (.sst a) env ph = cSst (evalE pg cl a env ph) := by
  rw [evalE]
  exact bv
def cLc2 (o : Out (List PV)) : OV := o.bnd fun ys ph => if ys.length < sizeLine then .ok (.lst ys, true) ph else .stuck
@[simp] theorem cLc2_ok {vs : List PV} : cLc2 (.ok vs ph) = if vs.length < sizeLine then .ok (.lst vs, true) ph else .stuck := Eq.trans rfl rfl
def cLc1 (pg : PProg) (cl : Calls) (own : List Nat) (tg : Tg) (cond : IL) (elt : IE) (env : PEnv) (o : Out (List PV)) : OV := o.bnd fun xs ph => cLc2 (lcL pg cl own tg cond elt xs env ph)
@[simp] theorem cLc1_ok {own : List Nat} {tg : Tg} {cond : IL} {elt : IE} {xs : List PV} : cLc1 pg cl own tg cond elt env (.ok xs ph) = cLc2 (lcL pg cl own tg cond elt xs env ph) := Eq.trans rfl rfl
@[simp] theorem e_lc {own : List Nat} {tg : Tg} {it : II} {cond : IL} {elt : IE} : evalE pg cl (.lc own tg it cond elt) env ph = cLc1 pg cl own tg cond elt env (evalI pg cl it env ph) := by
  rw [evalE]
  exact bm.trans (bnd_congr fun _ _ => bm.trans (bnd_congr fun _ _ => ite_at))
def cAtt (pg : PProg) (x : Str) (o : OV) : OV := o.bnd fun r ph => PM.ofO ((pAtt pg ph r.1 x).map fun u => (u, false)) ph
theorem cAtt_ok {k : Nat} {C x : Str} {fs : List (Str × PV)} {u : PV} (h : ph[k]? = some (.ins C fs)) (ok : attrOk pg C x = true) (l : fs.lookup x = some u) : cAtt pg x (.ok (.box k, c) ph) = .ok (u, false) ph := by
  show PM.ofO (((match ph[k]? with
    | some (.ins C fs) => if attrOk pg C x then fs.lookup x else none
    | _ => none) : Option PV).map fun u => (u, false)) ph = _
  rw [h]
  show PM.ofO ((if attrOk pg C x then fs.lookup x else none : Option PV).map fun u => (u, false)) ph = _
  rw [if_pos ok, l]
  rfl
@[simp] theorem e_att {a : IE} {x : Str} : evalE pg cl (.att a x) env ph = cAtt pg x (evalE pg cl a env ph) := by
  rw [evalE]
  exact bv
def cIsC (pg : PProg) (k : Nat) (o : OV) : OV := o.bnd fun r ph => rB (pIsC pg ph r.1 k) ph
theorem cIsC_ok {k i : Nat} {fs : List (Str × PV)} {q : ClsI} (hq : pg.cls[i]? = some q) (h : ph[k]? = some (.ins q.name fs)) : cIsC pg i (.ok (.box k, c) ph) = .ok (.bl true, false) ph := by
  show rB (pIsC pg ph (.box k) i) ph = _
  unfold pIsC
  rw [hq]
  simp only [h, if_true]
  rfl
@[simp] theorem e_isC {a : IE} {k : Nat} : evalE pg cl (.isC a k) env ph = cIsC pg k (evalE pg cl a env ph) := by
  rw [evalE]
  exact bv
/-! lists -/
@[simp] theorem l_nil : evalL pg cl .nil env ph = .ok [] ph := Eq.trans rfl rfl
def cL2 (v : PV) (o : Out (List PV)) : Out (List PV) := o.bnd fun vs ph => .ok (v :: vs) ph
@[simp] theorem cL2_ok {v : PV} {vs : List PV} : cL2 v (.ok vs ph) = .ok (v :: vs) ph := Eq.trans rfl rfl
def cL1 (pg : PProg) (cl : Calls) (es : IL) (env : PEnv) (o : OV) : Out (List PV) := o.bnd fun r ph => cL2 r.1 (evalL pg cl es env ph)
@[simp] theorem cL1_ok {es : IL} : cL1 pg cl es env (.ok (x, c) ph) = cL2 x (evalL pg cl es env ph) := Eq.trans rfl rfl
@[simp] theorem l_cons {e : IE} {es : IL} : evalL pg cl (.cons e es) env ph = cL1 pg cl es env (evalE pg cl e env ph) := by
  rw [evalL]
  exact bm.trans (bnd_congr fun _ _ => bm)
def cSt2 (xs : List PV) (o : Out (List PV)) : Out (List PV) := o.bnd fun ys ph => .ok (xs ++ ys) ph
@[simp] theorem cSt2_ok {xs ys : List PV} : cSt2 xs (.ok ys ph) = .ok (xs ++ ys) ph := Eq.trans rfl rfl
def cSt1 (pg : PProg) (cl : Calls) (es : IL) (env : PEnv) (o : Out (List PV)) : Out (List PV) := o.bnd fun xs ph => cSt2 xs (evalL pg cl es env ph)
@[simp] theorem cSt1_ok {es : IL} {xs : List PV} : cSt1 pg cl es env (.ok xs ph) = cSt2 xs (evalL pg cl es env ph) := Eq.trans rfl rfl
@[simp] theorem l_star {e : IE} {es : IL} : evalL pg cl (.star e es) env ph = cSt1 pg cl es env ((evalE pg cl e env ph).bnd fun r ph => kSeq r.1 ph) := by
  rw [evalL, bm]
  unfold cSt1
  cases evalE pg cl e env ph with
  | ok r ph1 =>
    show PM.bind _ _ ph1 = _
    exact bm.trans (bnd_congr fun _ _ => bm)
  | exc e ph1 => rfl
  | stuck => rfl
@[simp] theorem p_nil : evalP pg cl .nil env ph = .ok none ph := Eq.trans rfl rfl
def cP (o : OV) : Out (Option Int) := o.bnd fun r ph => kInt r.1 ph
@[simp] theorem cP_ok {i : Int} : cP (.ok (.int i, c) ph) = .ok (some i) ph := Eq.trans rfl rfl
@[simp] theorem p_one {e : IE} : evalP pg cl (.cons e .nil) env ph = cP (evalE pg cl e env ph) := by
  rw [evalP]
  exact bv
@[simp] theorem t_nil : evalT pg cl .nil env ph = .ok true ph := Eq.trans rfl rfl
def cT (o : OV) : Out Bool := o.bnd fun r ph => kBl r.1 ph
@[simp] theorem cT_ok {b : Bool} : cT (.ok (.bl b, c) ph) = .ok b ph := Eq.trans rfl rfl
@[simp] theorem t_one {e : IE} : evalT pg cl (.cons e .nil) env ph = cT (evalE pg cl e env ph) := by
  rw [evalT]
  exact bv
def cSq (o : OV) : Out (List PV) := o.bnd fun r ph => kSeq r.1 ph
@[simp] theorem cSq_l {xs : List PV} : cSq (.ok (.lst xs, c) ph) = .ok xs ph := Eq.trans rfl rfl
@[simp] theorem cSq_t {xs : List PV} : cSq (.ok (.tup xs, c) ph) = .ok xs ph := Eq.trans rfl rfl
@[simp] theorem cSq_s {xs : List PV} : cSq (.ok (.scr xs, c) ph) = .ok xs ph := Eq.trans rfl rfl
@[simp] theorem i_seq {e : IE} : evalI pg cl (.seq e) env ph = cSq (evalE pg cl e env ph) := by
  rw [evalI]
  exact bm
def cR1 (o : OV) : Out (List PV) := o.bnd fun r ph => kRng1 r.1 ph
@[simp] theorem cR1_ok {n : Int} : cR1 (.ok (.int n, c) ph) = if smallR n = true then .ok (rngP 0 n.toNat) ph else .stuck := by
  show kRng1 (.int n) ph = _
  unfold kRng1
  exact ite_at
@[simp] theorem i_rng1 {e : IE} : evalI pg cl (.rng1 e) env ph = cR1 (evalE pg cl e env ph) := by
  rw [evalI]
  exact bv
def cR22 (x : PV) (o : OV) : Out (List PV) := o.bnd fun r ph => kRng2 x r.1 ph
@[simp] theorem cR22_ok {n m : Int} : cR22 (.int n) (.ok (.int m, c) ph) = if (smallR n && smallR m) = true then .ok (rngP n (m - n).toNat) ph else .stuck := by
  show kRng2 (.int n) (.int m) ph = _
  unfold kRng2
  exact ite_at
def cR21 (pg : PProg) (cl : Calls) (b : IE) (env : PEnv) (o : OV) : Out (List PV) := o.bnd fun r ph => cR22 r.1 (evalE pg cl b env ph)
@[simp] theorem cR21_ok {b : IE} : cR21 pg cl b env (.ok (x, c) ph) = cR22 x (evalE pg cl b env ph) := Eq.trans rfl rfl
@[simp] theorem i_rng2 {a b : IE} : evalI pg cl (.rng2 a b) env ph = cR21 pg cl b env (evalE pg cl a env ph) := by
  rw [evalI]
  exact bv.trans (bnd_congr fun _ _ => bv)
def cEn (o : OV) : Out (List PV) := o.bnd fun r ph => PM.bind (kLT r.1) (fun xs => PM.pure (enumP 0 xs)) ph
@[simp] theorem cEn_ok {xs : List PV} : cEn (.ok (.lst xs, c) ph) = .ok (enumP 0 xs) ph := Eq.trans rfl rfl
@[simp] theorem cEn_okT {xs : List PV} : cEn (.ok (.tup xs, c) ph) = .ok (enumP 0 xs) ph := Eq.trans rfl rfl
@[simp] theorem i_enum {e : IE} : evalI pg cl (.enum e) env ph = cEn (evalE pg cl e env ph) := by
  rw [evalI]
  exact bm
/-! statements -/
@[simp] theorem b_nil : execB pg cl .nil env ph = .ok (.nx env) ph := Eq.trans rfl rfl
def cB (pg : PProg) (cl : Calls) (b : IB) (o : Out Fl) : Out Fl := o.bnd fun r ph => kNx (fun e => execB pg cl b e) r ph
@[simp] theorem cB_nx {b : IB} : cB pg cl b (.ok (.nx env) ph) = execB pg cl b env ph := Eq.trans rfl rfl
@[simp] theorem cB_bk {b : IB} : cB pg cl b (.ok (.bk env) ph) = .ok (.bk env) ph := Eq.trans rfl rfl
@[simp] theorem cB_ct {b : IB} : cB pg cl b (.ok (.ct env) ph) = .ok (.ct env) ph := Eq.trans rfl rfl
@[simp] theorem cB_rt {b : IB} {r : PV × Bool} : cB pg cl b (.ok (.rt r) ph) = .ok (.rt r) ph := Eq.trans rfl rfl
@[simp] theorem cB_if {b : IB} {p : Prop} [Decidable p] {m n : Out Fl} : cB pg cl b (if p then m else n) = if p then cB pg cl b m else cB pg cl b n := by split <;> rfl
@[simp] theorem b_cons {s : IS} {b : IB} : execB pg cl (.cons s b) env ph = cB pg cl b (execS pg cl s env ph) := by
  rw [execB]
  exact bm
@[simp] theorem b_frz {i : Nat} {b : IB} : execB pg cl (.frz i b) env ph = execB pg cl b (frzE env i) ph := Eq.trans rfl rfl
@[simp] theorem frzE_t {v : PV} {l : PEnv} : frzE (some (v, true) :: l) 0 = some (v, false) :: l := Eq.trans rfl rfl
@[simp] theorem frzE_f {v : PV} {l : PEnv} : frzE (some (v, false) :: l) 0 = some (v, false) :: l := Eq.trans rfl rfl
@[simp] theorem frzE_n {l : PEnv} : frzE (none :: l) 0 = none :: l := Eq.trans rfl rfl
@[simp] theorem frzE_s {r : Option (PV × Bool)} {l : PEnv} {i : Nat} : frzE (r :: l) (i + 1) = r :: frzE l i := by
  unfold frzE
  rw [List.getElem?_cons_succ]
  split
  · rename_i v h
    rw [h]
    rfl
  · rename_i h
    cases hq : l[i]? with
    | none => rfl
    | some o =>
      cases o with
      | none => rfl
      | some r =>
        obtain ⟨v, b⟩ := r
        cases b with
        | true => exact absurd hq (h v)
        | false => rfl
def cAsg (i : Nat) (env : PEnv) (o : OV) : Out Fl := o.bnd fun r ph => .ok (.nx (env.set i (some r))) ph
@[simp] theorem cAsg_ok {i : Nat} {r : PV × Bool} : cAsg i env (.ok r ph) = .ok (.nx (env.set i (some r))) ph := Eq.trans rfl rfl
@[simp] theorem s_asg {i : Nat} {e : IE} : execS pg cl (.asg i e) env ph = cAsg i env (evalE pg cl e env ph) := by
  rw [execS]
  exact bm
def rF (o : Option PEnv) (ph : PH) : Out Fl := match o with
  | some e => .ok (.nx e) ph
  | none => .stuck
@[simp] theorem rF_some : rF (some env) ph = .ok (.nx env) ph := Eq.trans rfl rfl
def cAsgT (is : List Nat) (env : PEnv) (o : OV) : Out Fl := o.bnd fun r ph => rF (bindTg (.tup is) r.1 env) ph
@[simp] theorem cAsgT_ok {is : List Nat} : cAsgT is env (.ok (x, c) ph) = rF (bindTg (.tup is) x env) ph := Eq.trans rfl rfl
@[simp] theorem s_asgT {is : List Nat} {e : IE} : execS pg cl (.asgT is e) env ph = cAsgT is env (evalE pg cl e env ph) := by
  rw [execS]
  refine bm.trans (bnd_congr fun r _ => ?_)
  show kTg _ _ _ _ = _
  unfold kTg rF
  cases bindTg (.tup is) r.1 env <;> rfl
@[simp] theorem lf_nil : evalLF pg cl .nil env ph = .ok [] ph := Eq.trans rfl rfl
def cLF2 (v : PV × Bool) (o : Out (List (PV × Bool))) : Out (List (PV × Bool)) := o.bnd fun vs ph => .ok (v :: vs) ph
@[simp] theorem cLF2_ok {v : PV × Bool} {vs : List (PV × Bool)} : cLF2 v (.ok vs ph) = .ok (v :: vs) ph := Eq.trans rfl rfl
def cLF1 (pg : PProg) (cl : Calls) (es : IL) (env : PEnv) (o : OV) : Out (List (PV × Bool)) := o.bnd fun r ph => cLF2 r (evalLF pg cl es env ph)
@[simp] theorem cLF1_ok {es : IL} {r : PV × Bool} : cLF1 pg cl es env (.ok r ph) = cLF2 r (evalLF pg cl es env ph) := Eq.trans rfl rfl
@[simp] theorem lf_cons {e : IE} {es : IL} : evalLF pg cl (.cons e es) env ph = cLF1 pg cl es env (evalE pg cl e env ph) := by
  rw [evalLF]
  exact bm.trans (bnd_congr fun _ _ => bm)
def cPar (is : List Nat) (env : PEnv) (o : Out (List (PV × Bool))) : Out Fl := o.bnd fun rs ph => if is.length = rs.length then .ok (.nx (setAllF is rs env)) ph else .stuck
@[simp] theorem cPar_ok {is : List Nat} {rs : List (PV × Bool)} : cPar is env (.ok rs ph) = if is.length = rs.length then .ok (.nx (setAllF is rs env)) ph else .stuck := Eq.trans rfl rfl
@[simp] theorem s_par {is : List Nat} {es : IL} : execS pg cl (.par is es) env ph = cPar is env (evalLF pg cl es env ph) := by
  rw [execS]
  exact bm.trans (bnd_congr fun _ _ => ite_at)
@[simp] theorem setAllF_nil {vs : List (PV × Bool)} : setAllF [] vs env = env := by cases vs <;> rfl
@[simp] theorem setAllF_cons {i : Nat} {is : List Nat} {v : PV × Bool} {vs : List (PV × Bool)} : setAllF (i :: is) (v :: vs) env = setAllF is vs (env.set i (some v)) := Eq.trans rfl rfl
@[simp] theorem setAll_nil {vs : List PV} : setAll [] vs env = env := by cases vs <;> rfl
@[simp] theorem setAll_cons {i : Nat} {is : List Nat} {v : PV} {vs : List PV} : setAll (i :: is) (v :: vs) env = setAll is vs (env.set i (some (v, false))) := Eq.trans rfl rfl
@[simp] theorem bind_nm {i : Nat} {v : PV} : bindTg (.nm i) v env = some (env.set i (some (v, false))) := Eq.trans rfl rfl
@[simp] theorem bind_tt {is : List Nat} {vs : List PV} : bindTg (.tup is) (.tup vs) env = if is.length = vs.length then some (setAll is vs env) else none := Eq.trans rfl rfl
@[simp] theorem bind_tl {is : List Nat} {vs : List PV} : bindTg (.tup is) (.lst vs) env = if is.length = vs.length then some (setAll is vs env) else none := Eq.trans rfl rfl
@[simp] theorem getO_0 {xs : List PV} {l : PEnv} : getO (some (.lst xs, true) :: l) 0 = some xs := Eq.trans rfl rfl
@[simp] theorem getO_s {r : Option (PV × Bool)} {l : PEnv} {i : Nat} : getO (r :: l) (i + 1) = getO l i := Eq.trans rfl rfl
def cSetL2 (i : Nat) (v : PV) (xs : List PV) (env : PEnv) (o : OV) : Out Fl := o.bnd fun r ph => kIx xs.length (fun n => PM.pure (.nx (env.set i (some (.lst (xs.set n v), true))))) r.1 ph
theorem cSetL2_ok {i : Nat} {v : PV} {xs : List PV} {k : Int} {n : Nat} (h : L2.ixN xs.length k = some n) : cSetL2 i v xs env (.ok (.int k, c) ph) = .ok (.nx (env.set i (some (.lst (xs.set n v), true)))) ph := by
  show kIx _ _ (.int k) ph = _
  unfold kIx
  show (match L2.ixN xs.length k with | some m => _ | none => _ : PM Fl) ph = _
  rw [h]
  rfl
def cSetL1 (pg : PProg) (cl : Calls) (i : Nat) (ix : IE) (env : PEnv) (o : OV) : Out Fl := o.bnd fun v ph => match getO env i with
  | some xs => cSetL2 i v.1 xs env (evalE pg cl ix env ph)
  | none => .stuck
theorem cSetL1_ok {i : Nat} {ix : IE} {xs : List PV} (h : getO env i = some xs) : cSetL1 pg cl i ix env (.ok (x, c) ph) = cSetL2 i x xs env (evalE pg cl ix env ph) := by
  show (match getO env i with | some xs => _ | none => _ : Out Fl) = _
  rw [h]
@[simp] theorem s_setL {i : Nat} {ix e : IE} : execS pg cl (.setL i ix e) env ph = cSetL1 pg cl i ix env (evalE pg cl e env ph) := by
  rw [execS]
  refine bm.trans (bnd_congr fun r _ => ?_)
  show kOwn _ _ _ = _
  unfold kOwn
  cases getO env i with
  | none => rfl
  | some xs => exact bv
/-- a box, written -/
def putB (env : PEnv) (v b : PV) (o : OV) : Out Fl := o.bnd fun r ph => kSetB env v b r.1 ph
theorem putB_ok {v : PV} {k : Nat} {xs : List PV} {i : Int} {n : Nat} (hk : ph[k]? = some (.lst xs)) (h : L2.ixN xs.length i = some n) : putB env v (.box k) (.ok (.int i, c) ph) = .ok (.nx env) (ph.set k (.lst (xs.set n v))) := by
  show kBox _ (.box k) ph = _
  have bx : boxL ph (.box k) = some (k, xs) := by simp only [boxL, hk]
  unfold kBox
  rw [bx]
  show kIx xs.length _ (.int i) ph = _
  unfold kIx
  show (match L2.ixN xs.length i with | some m => _ | none => _ : PM Fl) ph = _
  rw [h]
def cSetB2 (pg : PProg) (cl : Calls) (v : PV) (ix : IE) (env e2 : PEnv) (o : OV) : Out Fl := o.bnd fun b ph => putB e2 v b.1 (evalE pg cl ix env ph)
@[simp] theorem cSetB2_ok {v : PV} {ix : IE} {e2 : PEnv} : cSetB2 pg cl v ix env e2 (.ok (x, c) ph) = putB e2 v x (evalE pg cl ix env ph) := Eq.trans rfl rfl
def cSetB1 (pg : PProg) (cl : Calls) (o ix : IE) (env : PEnv) (q : OV) : Out Fl := q.bnd fun v ph => cSetB2 pg cl v.1 ix env env (evalE pg cl o env ph)
@[simp] theorem cSetB1_ok {o ix : IE} : cSetB1 pg cl o ix env (.ok (x, c) ph) = cSetB2 pg cl x ix env env (evalE pg cl o env ph) := Eq.trans rfl rfl
@[simp] theorem s_setB {o ix e : IE} : execS pg cl (.setB o ix e) env ph = cSetB1 pg cl o ix env (evalE pg cl e env ph) := by
  rw [execS]
  exact bm.trans (bnd_congr fun _ _ => bv.trans (bnd_congr fun _ _ => bv))
def cJug (pg : PProg) (cl : Calls) (o ix : IE) (i : Nat) (env : PEnv) (q : OV) : Out Fl := q.bnd fun r ph => kPair (fun a d ph => cSetB2 pg cl a ix env (env.set i (some (d, false))) (evalE pg cl o env ph)) r.1 ph
@[simp] theorem cJug_ok {o ix : IE} {i : Nat} {a d : PV} : cJug pg cl o ix i env (.ok (.tup [a, d], c) ph) = cSetB2 pg cl a ix env (env.set i (some (d, false))) (evalE pg cl o env ph) := Eq.trans rfl rfl
@[simp] theorem s_jug {o ix e : IE} {i : Nat} : execS pg cl (.jug o ix i e) env ph = cJug pg cl o ix i env (evalE pg cl e env ph) := by
  rw [execS]
  refine bm.trans (bnd_congr fun r ph1 => ?_)
  show kPair _ _ ph1 = kPair _ _ ph1
  congr 2
  funext a d ph
  exact bv.trans (bnd_congr fun _ _ => bv)
def cApp2 (i : Nat) (xs : List PV) (env : PEnv) (o : OV) : Out Fl := o.bnd fun v ph => if xs.length < sizeLine then .ok (.nx (env.set i (some (.lst (xs ++ [v.1]), true)))) ph else .stuck
@[simp] theorem cApp2_ok {i : Nat} {xs : List PV} : cApp2 i xs env (.ok (x, c) ph) = if xs.length < sizeLine then .ok (.nx (env.set i (some (.lst (xs ++ [x]), true)))) ph else .stuck := Eq.trans rfl rfl
def cApp1 (pg : PProg) (cl : Calls) (i : Nat) (e : IE) (env : PEnv) (o : Option (List PV)) (ph : PH) : Out Fl := match o with
  | some xs => cApp2 i xs env (evalE pg cl e env ph)
  | none => .stuck
@[simp] theorem cApp1_ok {i : Nat} {e : IE} {xs : List PV} : cApp1 pg cl i e env (some xs) ph = cApp2 i xs env (evalE pg cl e env ph) := Eq.trans rfl rfl
@[simp] theorem s_app {i : Nat} {e : IE} : execS pg cl (.app i e) env ph = cApp1 pg cl i e env (getO env i) ph := by
  rw [execS]
  show kOwn _ _ _ = _
  unfold kOwn
  cases getO env i with
  | none => rfl
  | some xs => exact bm.trans (bnd_congr fun _ _ => ite_at)
def cExp (env : PEnv) (o : OV) : Out Fl := o.bnd fun _ ph => .ok (.nx env) ph
@[simp] theorem cExp_ok {r : PV × Bool} : cExp env (.ok r ph) = .ok (.nx env) ph := Eq.trans rfl rfl
@[simp] theorem s_expr {e : IE} : execS pg cl (.expr e) env ph = cExp env (evalE pg cl e env ph) := by
  rw [execS]
  exact bm
def cRet (o : OV) : Out Fl := o.bnd fun r ph => .ok (.rt r) ph
@[simp] theorem cRet_ok {r : PV × Bool} : cRet (.ok r ph) = .ok (.rt r) ph := Eq.trans rfl rfl
@[simp] theorem cRet_if {p : Prop} [Decidable p] {m n : OV} : cRet (if p then m else n) = if p then cRet m else cRet n := by split <;> rfl
@[simp] theorem s_ret {e : IE} : execS pg cl (.ret e) env ph = cRet (evalE pg cl e env ph) := by
  rw [execS]
  exact bm
def cRetv (o : Option (PV × Bool)) (ph : PH) : Out Fl := kRetv o ph
@[simp] theorem cRetv_ok {r : PV × Bool} : cRetv (some r) ph = .ok (.rt r) ph := Eq.trans rfl rfl
@[simp] theorem s_retv {i : Nat} : execS pg cl (.retv i) env ph = cRetv (getV env i) ph := Eq.trans rfl rfl
@[simp] theorem s_retN : execS pg cl .retN env ph = .ok (.rt (.non, false)) ph := Eq.trans rfl rfl
@[simp] theorem s_brk : execS pg cl .brk env ph = .ok (.bk env) ph := Eq.trans rfl rfl
@[simp] theorem s_cnt : execS pg cl .cnt env ph = .ok (.ct env) ph := Eq.trans rfl rfl
def cSetA2 (pg : PProg) (x : Str) (v : PV) (env : PEnv) (o : OV) : Out Fl := o.bnd fun b ph => kSetA pg x v env b.1 ph
theorem cSetA2_ok {x : Str} {v b : PV} {ph' : PH} (h : setAt pg ph b x v = some ph') : cSetA2 pg x v env (.ok (b, c) ph) = .ok (.nx env) ph' := by
  show kSetA pg x v env b ph = _
  unfold kSetA
  rw [h]
def cSetA1 (pg : PProg) (cl : Calls) (o : IE) (x : Str) (env : PEnv) (q : OV) : Out Fl := q.bnd fun v ph => cSetA2 pg x v.1 env (evalE pg cl o env ph)
@[simp] theorem cSetA1_ok {o : IE} {x : Str} : cSetA1 pg cl o x env (.ok (y, c) ph) = cSetA2 pg x y env (evalE pg cl o env ph) := Eq.trans rfl rfl
@[simp] theorem s_setA {o e : IE} {x : Str} : execS pg cl (.setA o x e) env ph = cSetA1 pg cl o x env (evalE pg cl e env ph) := by
  rw [execS]
  exact bm.trans (bnd_congr fun _ _ => bv)
def cAsgA (pg : PProg) (ts : List (Nat × Str)) (env : PEnv) (o : OV) : Out Fl := o.bnd fun v ph => kSetAs pg env ts v.1 ph
theorem cAsgA_ok {ts : List (Nat × Str)} {vs : List PV} {ph' : PH} (h : setAts pg env ts vs ph = some ph') : cAsgA pg ts env (.ok (.tup vs, c) ph) = .ok (.nx env) ph' := by
  show kSetAs pg env ts (.tup vs) ph = _
  unfold kSetAs
  simp only [h]
@[simp] theorem s_asgA {ts : List (Nat × Str)} {e : IE} : execS pg cl (.asgA ts e) env ph = cAsgA pg ts env (evalE pg cl e env ph) := by
  rw [execS]
  exact bm
@[simp] theorem s_pass : execS pg cl .pass env ph = .ok (.nx env) ph := Eq.trans rfl rfl
def cIf (pg : PProg) (cl : Calls) (a b : IB) (env : PEnv) (o : OV) : Out Fl := o.bnd fun r ph => PM.bind (kBl r.1) (kIf (execB pg cl a env) (execB pg cl b env)) ph
@[simp] theorem cIf_ok {a b : IB} {p : Bool} : cIf pg cl a b env (.ok (.bl p, c) ph) = if p = true then execB pg cl a env ph else execB pg cl b env ph := by cases p <;> rfl
@[simp] theorem s_ife {t : IE} {a b : IB} : execS pg cl (.ife t a b) env ph = cIf pg cl a b env (evalE pg cl t env ph) := by
  rw [execS]
  refine bm.trans ?_
  unfold evalBl
  rw [bv]
  unfold cIf
  cases evalE pg cl t env ph with
  | ok r ph1 =>
    show Out.bnd (kBl r.1 ph1) _ = PM.bind (kBl r.1) _ ph1
    exact bm.symm
  | exc e ph1 => rfl
  | stuck => rfl
def cFor (pg : PProg) (cl : Calls) (tg : Tg) (body : IB) (env : PEnv) (o : Out (List PV)) : Out Fl := o.bnd fun xs ph => forL pg cl tg body xs env ph
@[simp] theorem cFor_ok {tg : Tg} {body : IB} {xs : List PV} : cFor pg cl tg body env (.ok xs ph) = forL pg cl tg body xs env ph := Eq.trans rfl rfl
@[simp] theorem s_for {tg : Tg} {it : II} {body : IB} : execS pg cl (.forS tg it body) env ph = cFor pg cl tg body env (evalI pg cl it env ph) := by
  rw [execS]
  exact bm
@[simp] theorem s_whl {t : IE} {body : IB} : execS pg cl (.whl t body) env ph = whlL pg cl t body whFuel env ph := Eq.trans rfl rfl
/-! loops -/
theorem forL_nil {tg : Tg} {body : IB} : forL pg cl tg body [] env ph = .ok (.nx env) ph := rfl
def cFl (pg : PProg) (cl : Calls) (tg : Tg) (body : IB) (xs : List PV) (o : Out Fl) : Out Fl := o.bnd fun r ph => kFor (fun e => forL pg cl tg body xs e) r ph
@[simp] theorem cFl_nx {tg : Tg} {body : IB} {xs : List PV} : cFl pg cl tg body xs (.ok (.nx env) ph) = forL pg cl tg body xs env ph := Eq.trans rfl rfl
@[simp] theorem cFl_ct {tg : Tg} {body : IB} {xs : List PV} : cFl pg cl tg body xs (.ok (.ct env) ph) = forL pg cl tg body xs env ph := Eq.trans rfl rfl
@[simp] theorem cFl_bk {tg : Tg} {body : IB} {xs : List PV} : cFl pg cl tg body xs (.ok (.bk env) ph) = .ok (.nx env) ph := Eq.trans rfl rfl
@[simp] theorem cFl_rt {tg : Tg} {body : IB} {xs : List PV} {r : PV × Bool} : cFl pg cl tg body xs (.ok (.rt r) ph) = .ok (.rt r) ph := Eq.trans rfl rfl
@[simp] theorem cFl_if {tg : Tg} {body : IB} {xs : List PV} {p : Prop} [Decidable p] {m n : Out Fl} : cFl pg cl tg body xs (if p then m else n) = if p then cFl pg cl tg body xs m else cFl pg cl tg body xs n := by split <;> rfl
def cBt (pg : PProg) (cl : Calls) (body : IB) (o : Option PEnv) (ph : PH) : Out Fl := match o with
  | some e => execB pg cl body e ph
  | none => .stuck
@[simp] theorem cBt_some {body : IB} : cBt pg cl body (some env) ph = execB pg cl body env ph := Eq.trans rfl rfl
theorem forL_cons {tg : Tg} {body : IB} {x : PV} {xs : List PV} : forL pg cl tg body (x :: xs) env ph = cFl pg cl tg body xs (cBt pg cl body (bindTg tg x env) ph) := by
  unfold forL
  unfold forLoop
  refine bm.trans ?_
  unfold cFl cBt kBind
  cases bindTg tg x env with
  | none => rfl
  | some e => rfl
def cWl2 (pg : PProg) (cl : Calls) (t : IE) (body : IB) (n : Nat) (o : Out Fl) : Out Fl := o.bnd fun r ph => kFor (fun e => whlL pg cl t body n e) r ph
@[simp] theorem cWl2_nx {t : IE} {body : IB} {n : Nat} : cWl2 pg cl t body n (.ok (.nx env) ph) = whlL pg cl t body n env ph := Eq.trans rfl rfl
@[simp] theorem cWl2_ct {t : IE} {body : IB} {n : Nat} : cWl2 pg cl t body n (.ok (.ct env) ph) = whlL pg cl t body n env ph := Eq.trans rfl rfl
@[simp] theorem cWl2_bk {t : IE} {body : IB} {n : Nat} : cWl2 pg cl t body n (.ok (.bk env) ph) = .ok (.nx env) ph := Eq.trans rfl rfl
@[simp] theorem cWl2_rt {t : IE} {body : IB} {n : Nat} {r : PV × Bool} : cWl2 pg cl t body n (.ok (.rt r) ph) = .ok (.rt r) ph := Eq.trans rfl rfl
def cWl1 (pg : PProg) (cl : Calls) (t : IE) (body : IB) (n : Nat) (env : PEnv) (o : OV) : Out Fl := o.bnd fun r ph => PM.bind (kBl r.1) (kIf (fun ph => cWl2 pg cl t body n (execB pg cl body env ph)) (PM.pure (.nx env))) ph
@[simp] theorem cWl1_ok {t : IE} {body : IB} {n : Nat} {p : Bool} : cWl1 pg cl t body n env (.ok (.bl p, c) ph) = if p = true then cWl2 pg cl t body n (execB pg cl body env ph) else .ok (.nx env) ph := by cases p <;> rfl
theorem whlL_succ {t : IE} {body : IB} {n : Nat} : whlL pg cl t body (n + 1) env ph = cWl1 pg cl t body n env (evalE pg cl t env ph) := by
  unfold whlL
  rw [whileLoop]
  refine bm.trans ?_
  unfold evalBl
  rw [bv]
  unfold cWl1
  cases evalE pg cl t env ph with
  | ok r ph1 =>
    show Out.bnd (kBl r.1 ph1) _ = PM.bind (kBl r.1) _ ph1
    rw [bm]
    refine bnd_congr fun b ph2 => ?_
    cases b with
    | true => exact bm
    | false => rfl
  | exc e ph1 => rfl
  | stuck => rfl
/-! comprehensions -/
def cLt2 (o : OV) : Out (Option PV) := o.bnd fun r ph => .ok (some r.1) ph
@[simp] theorem cLt2_ok {v : PV} : cLt2 (.ok (v, c) ph) = .ok (some v) ph := Eq.trans rfl rfl
@[simp] theorem cLt2_if {p : Prop} [Decidable p] {m n : OV} : cLt2 (if p then m else n) = if p then cLt2 m else cLt2 n := by split <;> rfl
def cLt1 (pg : PProg) (cl : Calls) (elt : IE) (env : PEnv) (o : Out Bool) : Out (Option PV) := o.bnd fun b ph => kIf (fun ph => cLt2 (evalE pg cl elt env ph)) (PM.pure none) b ph
@[simp] theorem cLt1_ok {elt : IE} {b : Bool} : cLt1 pg cl elt env (.ok b ph) = if b = true then cLt2 (evalE pg cl elt env ph) else .ok none ph := by cases b <;> rfl
def cLt0 (pg : PProg) (cl : Calls) (cond : IL) (elt : IE) (o : Option PEnv) (ph : PH) : Out (Option PV) := match o with
  | some e => cLt1 pg cl elt e (evalT pg cl cond e ph)
  | none => .stuck
@[simp] theorem cLt0_some {cond : IL} {elt : IE} : cLt0 pg cl cond elt (some env) ph = cLt1 pg cl elt env (evalT pg cl cond env ph) := Eq.trans rfl rfl
theorem lcT_eq {own : List Nat} {tg : Tg} {cond : IL} {elt : IE} {v : PV} : lcT pg cl own tg cond elt env v ph = cLt0 pg cl cond elt (bindTg tg v (wipeE env own)) ph := by
  unfold lcT lcTurn cLt0
  cases bindTg tg v (wipeE env own) with
  | none => rfl
  | some e =>
    refine bm.trans (bnd_congr fun b ph2 => ?_)
    cases b with
    | true => exact bm
    | false => rfl
theorem lcL_nil {own : List Nat} {tg : Tg} {cond : IL} {elt : IE} : lcL pg cl own tg cond elt [] env ph = .ok [] ph := rfl
theorem calm_ok {α : Type} {m : PM α} {ph ph' : PH} {a : α} : PM.calm m ph = .ok a ph' ↔ m ph = .ok a ph' := by
  unfold PM.calm
  cases m ph <;> simp
def consO (o : Option PV) (ys : List PV) : List PV := match o with
  | some y => y :: ys
  | none => ys
theorem lcL_step {own : List Nat} {tg : Tg} {cond : IL} {elt : IE} {v : PV} {o : Option PV} {xs ys : List PV} {ph1 ph2 : PH} (h : lcT pg cl own tg cond elt env v ph = .ok o ph1) (g : lcL pg cl own tg cond elt xs env ph1 = .ok ys ph2) :
    lcL pg cl own tg cond elt (v :: xs) env ph = .ok (consO o ys) ph2 := by
  unfold lcL at g ⊢
  rw [calm_ok] at g ⊢
  have h0 : lcTurn (fun e => evalT pg cl cond e) (fun e => evalE pg cl elt e) (bindTg tg v (wipeE env own)) ph = .ok o ph1 := h
  unfold lcLoop
  rw [bm, h0]
  show PM.bind _ _ ph1 = _
  rw [bm, g]
  cases o <;> rfl
/-- .. of turns that change the heap -/
theorem lcL_any {own : List Nat} {tg : Tg} {cond : IL} {elt : IE} {v : PV} : ∀ {xs : List PV} {ph : PH}, (∀ x ∈ xs, ∀ ph, ∃ ph', lcT pg cl own tg cond elt env x ph = .ok (some v) ph') → ∃ ph', lcL pg cl own tg cond elt xs env ph = .ok (List.replicate xs.length v) ph'
  | [], ph, _ => ⟨ph, rfl⟩
  | x :: xs, ph, h => by
    obtain ⟨p1, h1⟩ := h x (List.mem_cons_self ..) ph
    obtain ⟨p2, h2⟩ := lcL_any (xs := xs) (ph := p1) fun y hy => h y (List.mem_cons_of_mem _ hy)
    exact ⟨p2, lcL_step h1 h2⟩
theorem lcL_of {own : List Nat} {tg : Tg} {cond : IL} {elt : IE} {g : PV → Option PV} : ∀ {xs : List PV}, (∀ v ∈ xs, lcT pg cl own tg cond elt env v ph = .ok (g v) ph) → lcL pg cl own tg cond elt xs env ph = .ok (xs.filterMap g) ph := by
  intro xs h
  have key : lcLoop (fun x => lcTurn (fun e => evalT pg cl cond e) (fun e => evalE pg cl elt e) (bindTg tg x (wipeE env own))) xs ph = .ok (xs.filterMap g) ph := by
    induction xs with
    | nil => rfl
    | cons v xs ih =>
      have h0 : lcTurn (fun e => evalT pg cl cond e) (fun e => evalE pg cl elt e) (bindTg tg v (wipeE env own)) ph = .ok (g v) ph := h v (List.mem_cons_self ..)
      have h1 := ih fun u hu => h u (List.mem_cons_of_mem _ hu)
      unfold lcLoop
      rw [bm, h0]
      show PM.bind _ _ ph = _
      rw [bm, h1]
      show Out.ok _ ph = _
      rw [List.filterMap_cons]
      cases g v <;> rfl
  unfold lcL PM.calm
  rw [key]
/-- .. over what stands for other things -/
theorem lcL_map {α : Type} {own : List Nat} {tg : Tg} {cond : IL} {elt : IE} {e : α → PV} {g : α → PV} {xs : List α} (h : ∀ v ∈ xs, lcT pg cl own tg cond elt env (e v) ph = .ok (some (g v)) ph) : lcL pg cl own tg cond elt (xs.map e) env ph = .ok (xs.map g) ph := by
  have key : lcLoop (fun x => lcTurn (fun e => evalT pg cl cond e) (fun e => evalE pg cl elt e) (bindTg tg x (wipeE env own))) (xs.map e) ph = .ok (xs.map g) ph := by
    induction xs with
    | nil => rfl
    | cons v xs ih =>
      have h0 : lcTurn (fun e => evalT pg cl cond e) (fun e => evalE pg cl elt e) (bindTg tg (e v) (wipeE env own)) ph = .ok (some (g v)) ph := h v (List.mem_cons_self ..)
      have h1 := ih fun u hu => h u (List.mem_cons_of_mem _ hu)
      rw [List.map_cons, List.map_cons]
      unfold lcLoop
      rw [bm, h0]
      show PM.bind _ _ ph = _
      rw [bm, h1]
      rfl
  unfold lcL PM.calm
  rw [key]
theorem lcL_filter {α : Type} {own : List Nat} {tg : Tg} {cond : IL} {elt : IE} {e : α → PV} {g : α → PV} {p : α → Bool} {xs : List α} (h : ∀ v ∈ xs, lcT pg cl own tg cond elt env (e v) ph = .ok (if p v = true then some (g v) else none) ph) : lcL pg cl own tg cond elt (xs.map e) env ph = .ok ((xs.filter p).map g) ph := by
  have key : lcLoop (fun x => lcTurn (fun e => evalT pg cl cond e) (fun e => evalE pg cl elt e) (bindTg tg x (wipeE env own))) (xs.map e) ph = .ok ((xs.filter p).map g) ph := by
    induction xs with
    | nil => rfl
    | cons v xs ih =>
      have h0 : lcTurn (fun e => evalT pg cl cond e) (fun e => evalE pg cl elt e) (bindTg tg (e v) (wipeE env own)) ph = .ok (if p v = true then some (g v) else none) ph := h v (List.mem_cons_self ..)
      have h1 := ih fun u hu => h u (List.mem_cons_of_mem _ hu)
      rw [List.map_cons, List.filter_cons]
      unfold lcLoop
      rw [bm, h0]
      show PM.bind _ _ ph = _
      rw [bm, h1]
      cases p v <;> rfl
  unfold lcL PM.calm
  rw [key]
end
/-! calls -/
def cEnd (o : Out Fl) : OV := o.bnd fun r ph => kEnd r ph
@[simp] theorem cEnd_rt {r : PV × Bool} {ph : PH} : cEnd (.ok (.rt r) ph) = .ok r ph := Eq.trans rfl rfl
@[simp] theorem cEnd_nx {e : PEnv} {ph : PH} : cEnd (.ok (.nx e) ph) = .ok (.non, false) ph := Eq.trans rfl rfl
@[simp] theorem cEnd_if {p : Prop} [Decidable p] {m n : Out Fl} : cEnd (if p then m else n) = if p then cEnd m else cEnd n := by split <;> rfl
@[simp] theorem cB_cRet {pg : PProg} {cl : Calls} {b : IB} {o : OV} : cB pg cl b (cRet o) = cRet o := by cases o <;> rfl
@[simp] theorem cEnd_cRet {o : OV} : cEnd (cRet o) = o := by cases o <;> rfl
theorem call_eq {pg : PProg} {n f : Nat} {fi : FnI} {args : List PV} {ph : PH} (h : pg.fns[f]? = some fi) (hl : args.length = fi.params.length) : callN pg (n + 1) f args ph = cEnd (execB pg (callN pg n) fi.body (startE fi.names.length args) ph) := by
  show (match pg.fns[f]? with | some fi => _ | none => _ : PM (PV × Bool)) ph = _
  rw [h]
  show (if args.length = fi.params.length then _ else _ : PM (PV × Bool)) ph = _
  rw [if_pos hl]
  exact bm
/-- a class is called -/
def mkE (k : Nat) (o : OV) : OV := match o with
  | .ok (.non, _) ph' => .ok (.box k, false) ph'
  | .ok _ _ => .stuck
  | .exc e ph' => .exc e ph'
  | .stuck => .stuck
@[simp] theorem mkE_ok {k : Nat} {b : Bool} {ph : PH} : mkE k (.ok (.non, b) ph) = .ok (.box k, false) ph := Eq.trans rfl rfl
theorem call_mk {pg : PProg} {n f : Nat} {c : ClsI} {args : List PV} {ph : PH} (h : pg.fns[f]? = none) (hc : pg.cls[f - pg.fns.length]? = some c) : callN pg (n + 1) f args ph = mkE ph.length (callN pg n c.init (.box ph.length :: args) (ph ++ [.ins c.name []])) := by
  conv => lhs; unfold callN
  simp only [h, hc]
  rfl
end Py

set_option Elab.async false
set_option linter.all false
set_option maxRecDepth 100000
set_option maxHeartbeats 4000000
/-! Chk: the trees of the defs that the laws share. -/
namespace Chk
open PySem Py
/-- is_integer -/
def f0 : FnI := ⟨("is_integer" : Str), [("value" : Str)], [("value" : Str)], [],
  (.cons (.ret (.and (.isi (.var 0) .int) (.not (.isi (.var 0) .bool)))) .nil)⟩
/-- is_between -/
def f1 : FnI := ⟨("is_between" : Str), [("value" : Str), ("low" : Str), ("high" : Str)], [("value" : Str), ("low" : Str), ("high" : Str)], [],
  (.cons (.ret (.and (.call 0 (.cons (.var 0) .nil)) (.cmp2 .LtE .LtE (.var 1) (.var 0) (.var 2)))) .nil)⟩
/-- is_letter -/
def f2 : FnI := ⟨("is_letter" : Str), [("value" : Str)], [("value" : Str)], [],
  (.cons (.ret (.call 1 (.cons (.var 0) (.cons (.int 0) (.cons (.gv 1) .nil))))) .nil)⟩
def f3_0 : IE := (.call 2 (.cons (.var 1) .nil))
/-- is_text -/
def f3 : FnI := ⟨("is_text" : Str), [("value" : Str), ("letter" : Str)], [("value" : Str)], [],
  (.cons (.ife (.or (.not (.isi (.var 0) .tuple)) (.not (.cmp2 .LtE .LtE (.int 1) (.blt .len (.cons (.var 0) .nil)) (.gv 0)))) (.cons (.ret (.bl false)) .nil) .nil) (.cons (.ret (.blt .all (.cons (.lc [1] (.nm 1) (.seq (.var 0)) .nil f3_0) .nil))) .nil))⟩
def f4_0 : IE := (.call 0 (.cons (.var 1) .nil))
/-- is_order -/
def f4 : FnI := ⟨("is_order" : Str), [("value" : Str), ("one" : Str)], [("value" : Str)], [],
  (.cons (.ife (.or (.not (.isi (.var 0) .tuple)) (.or (.not (.cmp2 .LtE .LtE (.int 1) (.blt .len (.cons (.var 0) .nil)) (.gv 3))) (.not (.blt .all (.cons (.lc [1] (.nm 1) (.seq (.var 0)) .nil f4_0) .nil))))) (.cons (.ret (.bl false)) .nil) .nil) (.cons (.ret (.cmp .Eq (.blt .sorted (.cons (.var 0) .nil)) (.lrng (.cons (.blt .len (.cons (.var 0) .nil)) .nil)))) .nil))⟩
def f5_0 : IE := (.bin .Add (.blt .list (.cons (.slc (.var 0) (.cons (.var 2) .nil) .nil) .nil)) (.blt .list (.cons (.slc (.var 0) .nil (.cons (.var 2) .nil)) .nil)))
def f5_1 : IE := (.bin .Add (.blt .list (.cons (.slc (.var 0) (.cons (.var 2) .nil) .nil) .nil)) (.var 3))
/-- all_ends -/
def f5 : FnI := ⟨("all_ends" : Str), [("text" : Str), ("sort" : Str), ("at" : Str), ("tail" : Str)], [("text" : Str), ("sort" : Str)], [],
  (.cons (.ife (.cmp .Eq (.var 1) (.str ("ring" : Str))) (.cons (.ret (.lc [2] (.nm 2) (.rng1 (.blt .len (.cons (.var 0) .nil))) .nil f5_0)) .nil) .nil) (.cons (.asg 3 (.ite (.cmp .Eq (.var 1) (.str ("first" : Str))) (.lst (.cons (.gv 5) .nil)) (.lst (.cons (.bin .Add (.gv 4) (.int 1)) .nil)))) (.frz 3 (.cons (.ret (.lc [2] (.nm 2) (.rng1 (.blt .len (.cons (.var 0) .nil))) .nil f5_1)) .nil))))⟩
def f6_0 : IE := (.tup (.cons (.var 5) (.cons (.var 4) .nil)))
def f6_1 : IE := (.cmp .Eq (.idx (.idx (.var 3) (.var 6)) (.int 0)) (.idx (.idx (.var 3) (.bin .Add (.var 6) (.int 1))) (.int 0)))
def f6_2 : IE := (.var 4)
/-- places_of -/
def f6 : FnI := ⟨("places_of" : Str), [("text" : Str), ("sort" : Str), ("ends" : Str), ("pairs" : Str), ("at" : Str), ("end" : Str), ("k" : Str)], [("text" : Str), ("sort" : Str)], [],
  (.cons (.asg 2 (.call 5 (.cons (.var 0) (.cons (.var 1) .nil)))) (.frz 2 (.cons (.asg 3 (.blt .sorted (.cons (.lc [4, 5] (.tup [4, 5]) (.enum (.var 2)) .nil f6_0) .nil))) (.frz 3 (.cons (.ife (.blt .any (.cons (.lc [6] (.nm 6) (.rng1 (.bin .Sub (.blt .len (.cons (.var 3) .nil)) (.int 1))) .nil f6_1) .nil)) (.cons (.ret .non) .nil) .nil) (.cons (.ret (.lc [5, 4] (.tup [5, 4]) (.seq (.var 3)) .nil f6_2)) .nil))))))⟩
def f7_0 : IE := (.ite (.cmp .Lt (.bin .Add (.var 4) (.int 1)) (.var 2)) (.mth .index (.var 0) (.cons (.bin .Add (.var 4) (.int 1)) .nil)) (.var 3))
/-- following -/
def f7 : FnI := ⟨("following" : Str), [("places" : Str), ("sort" : Str), ("size" : Str), ("beyond" : Str), ("place" : Str)], [("places" : Str), ("sort" : Str)], [],
  (.cons (.asg 2 (.blt .len (.cons (.var 0) .nil))) (.frz 2 (.cons (.asg 3 (.idx (.dct (.cons (.str ("first" : Str)) (.cons (.gv 5) (.cons (.str ("last" : Str)) (.cons (.var 2) (.cons (.str ("ring" : Str)) (.cons (.mth .index (.var 0) (.cons (.int 0) .nil)) .nil))))))) (.var 1))) (.frz 3 (.cons (.ret (.lc [4] (.nm 4) (.seq (.var 0)) .nil f7_0)) .nil)))))⟩
def f8_0 : IL := (.cons (.cmp .Gt (.idx (.var 2) (.var 3)) (.idx (.var 2) (.bin .Add (.var 3) (.int 1)))) .nil)
def f8_1 : IE := (.var 3)
/-- rises_in -/
def f8 : FnI := ⟨("rises_in" : Str), [("places" : Str), ("sort" : Str), ("after" : Str), ("k" : Str)], [("places" : Str), ("sort" : Str)], [],
  (.cons (.asg 2 (.call 7 (.cons (.var 0) (.cons (.var 1) .nil)))) (.frz 2 (.cons (.ret (.lc [3] (.nm 3) (.rng1 (.bin .Sub (.blt .len (.cons (.var 0) .nil)) (.int 1))) f8_0 f8_1)) .nil)))⟩
def f9_0 : IE := (.and (.cmp .Lt (.var 8) (.blt .min (.cons (.blt .len (.cons (.var 6) .nil)) (.cons (.blt .len (.cons (.var 7) .nil)) .nil)))) (.cmp .Eq (.idx (.var 6) (.var 8)) (.idx (.var 7) (.var 8))))
def f9_1 : IB := (.cons (.asg 8 (.bin .Add (.var 8) (.int 1))) (.frz 8 .nil))
def f9_2 : IB := (.cons (.par [6, 7, 8] (.cons (.idx (.var 3) (.idx (.var 1) (.var 5))) (.cons (.idx (.var 3) (.idx (.var 1) (.bin .Add (.var 5) (.int 1)))) (.cons (.int 0) .nil)))) (.frz 6 (.frz 7 (.frz 8 (.cons (.whl f9_0 f9_1) (.cons (.app 4 (.var 8)) .nil))))))
/-- agreement_in -/
def f9 : FnI := ⟨("agreement_in" : Str), [("text" : Str), ("places" : Str), ("sort" : Str), ("ends" : Str), ("found" : Str), ("k" : Str), ("one" : Str), ("other" : Str), ("many" : Str)], [("text" : Str), ("places" : Str), ("sort" : Str)], [],
  (.cons (.par [3, 4] (.cons (.call 5 (.cons (.var 0) (.cons (.var 2) .nil))) (.cons (.lst .nil) .nil))) (.frz 3 (.cons (.forS (.nm 5) (.rng1 (.bin .Sub (.blt .len (.cons (.var 1) .nil)) (.int 1))) f9_2) (.cons (.retv 4) .nil))))⟩
/-- is_untrue -/
def f10 : FnI := ⟨("is_untrue" : Str), [("places" : Str), ("sort" : Str), ("table" : Str), ("k" : Str), ("after" : Str)], [("places" : Str), ("sort" : Str), ("table" : Str), ("k" : Str)], [],
  (.cons (.ife (.cmp .LtE (.idx (.var 2) (.var 3)) (.int 0)) (.cons (.ret (.cmp .Lt (.idx (.var 2) (.var 3)) (.int 0))) .nil) .nil) (.cons (.ife (.cmp .In (.var 3) (.call 8 (.cons (.var 0) (.cons (.var 1) .nil)))) (.cons (.ret (.bl true)) .nil) .nil) (.cons (.ife (.and (.cmp .NotEq (.var 1) (.str ("ring" : Str))) (.cmp .In (.bin .Sub (.blt .len (.cons (.var 0) .nil)) (.int 1)) (.tup (.cons (.idx (.var 0) (.var 3)) (.cons (.idx (.var 0) (.bin .Add (.var 3) (.int 1))) .nil))))) (.cons (.ret (.cmp .NotEq (.idx (.var 2) (.var 3)) (.int 1))) .nil) .nil) (.cons (.asg 4 (.call 7 (.cons (.var 0) (.cons (.var 1) .nil)))) (.frz 4 (.cons (.ret (.cmp .NotEq (.idx (.var 2) (.var 3)) (.bin .Add (.int 1) (.blt .min (.cons (.slc (.var 2) (.cons (.idx (.var 4) (.var 3)) .nil) (.cons (.idx (.var 4) (.bin .Add (.var 3) (.int 1))) .nil)) .nil))))) .nil))))))⟩
def f11_0 : IE := (.call 0 (.cons (.var 1) .nil))
/-- are_numbers -/
def f11 : FnI := ⟨("are_numbers" : Str), [("value" : Str), ("one" : Str)], [("value" : Str)], [],
  (.cons (.ret (.and (.isi (.var 0) .tuple) (.blt .all (.cons (.lc [1] (.nm 1) (.seq (.var 0)) .nil f11_0) .nil)))) .nil)⟩
/-- is_table -/
def f12 : FnI := ⟨("is_table" : Str), [("places" : Str), ("value" : Str)], [("places" : Str), ("value" : Str)], [],
  (.cons (.ret (.and (.call 11 (.cons (.var 1) .nil)) (.cmp .Eq (.blt .len (.cons (.var 1) .nil)) (.bin .Sub (.blt .len (.cons (.var 0) .nil)) (.int 1))))) .nil)⟩
def f13_0 : IE := (.cmp .Lt (.idx (.var 0) (.var 1)) (.idx (.var 0) (.bin .Add (.var 1) (.int 1))))
/-- is_rising -/
def f13 : FnI := ⟨("is_rising" : Str), [("value" : Str), ("k" : Str)], [("value" : Str)], [],
  (.cons (.ret (.and (.call 11 (.cons (.var 0) .nil)) (.blt .all (.cons (.lc [1] (.nm 1) (.rng1 (.bin .Sub (.blt .len (.cons (.var 0) .nil)) (.int 1))) .nil f13_0) .nil)))) .nil)⟩
def f14_0 : IE := (.idx (.var 0) (.bin .Sub (.var 3) (.int 1)))
def f14_1 : IE := (.ite (.cmp .Eq (.var 3) (.int 0)) (.gv 5) (.idx (.var 0) (.bin .Sub (.var 3) (.int 1))))
/-- column_in -/
def f14 : FnI := ⟨("column_in" : Str), [("text" : Str), ("sort" : Str), ("places" : Str), ("place" : Str), ("whole" : Str)], [("text" : Str), ("sort" : Str)], [],
  (.cons (.asg 2 (.call 6 (.cons (.var 0) (.cons (.var 1) .nil)))) (.frz 2 (.cons (.ife (.or (.cmp .Is (.var 2) .non) (.cmp .Eq (.var 1) (.str ("ring" : Str)))) (.cons (.ret (.ite (.cmp .Is (.var 2) .non) .non (.blt .tuple (.cons (.lc [3] (.nm 3) (.seq (.var 2)) .nil f14_0) .nil)))) .nil) .nil) (.cons (.asg 4 (.ite (.cmp .Eq (.var 1) (.str ("first" : Str))) (.bin .Add (.lst (.cons (.blt .len (.cons (.var 0) .nil)) .nil)) (.var 2)) (.bin .Add (.var 2) (.lst (.cons (.blt .len (.cons (.var 0) .nil)) .nil))))) (.frz 4 (.cons (.ret (.blt .tuple (.cons (.lc [3] (.nm 3) (.seq (.var 4)) .nil f14_1) .nil))) .nil))))))⟩
def f15_0 : IE := (.cmp2 .LtE .LtE (.gv 5) (.var 2) (.gv 4))
/-- is_row -/
def f15 : FnI := ⟨("is_row" : Str), [("value" : Str), ("sort" : Str), ("one" : Str), ("marks" : Str)], [("value" : Str), ("sort" : Str)], [],
  (.cons (.ife (.or (.not (.call 11 (.cons (.var 0) .nil))) (.not (.blt .all (.cons (.lc [2] (.nm 2) (.seq (.var 0)) .nil f15_0) .nil)))) (.cons (.ret (.bl false)) .nil) .nil) (.cons (.asg 3 (.mth .count (.var 0) (.cons (.gv 5) .nil))) (.frz 3 (.cons (.ret (.and (.cmp .Eq (.var 3) (.ite (.cmp .Eq (.var 1) (.str ("ring" : Str))) (.int 0) (.int 1))) (.cmp2 .LtE .LtE (.int 1) (.bin .Sub (.blt .len (.cons (.var 0) .nil)) (.var 3)) (.gv 3)))) .nil))))⟩
def f16_0 : IE := (.ite (.and (.cmp .Eq (.var 1) (.str ("last" : Str))) (.cmp .Eq (.var 4) (.gv 5))) (.bin .Add (.gv 4) (.int 1)) (.var 4))
def f16_1 : IL := (.cons (.cmp .Lt (.var 4) (.idx (.var 3) (.var 2))) .nil)
def f16_2 : IE := (.var 4)
def f16_3 : IL := (.cons (.cmp .Eq (.var 4) (.idx (.var 3) (.var 2))) .nil)
def f16_4 : IE := (.var 4)
/-- step_from -/
def f16 : FnI := ⟨("step_from" : Str), [("value" : Str), ("sort" : Str), ("k" : Str), ("row" : Str), ("one" : Str)], [("value" : Str), ("sort" : Str), ("k" : Str)], [],
  (.cons (.asg 3 (.lc [4] (.nm 4) (.seq (.var 0)) .nil f16_0)) (.frz 3 (.cons (.ret (.bin .Add (.blt .len (.cons (.lc [4] (.nm 4) (.seq (.var 3)) f16_1 f16_2) .nil)) (.blt .len (.cons (.lc [4] (.nm 4) (.seq (.slc (.var 3) .nil (.cons (.var 2) .nil))) f16_3 f16_4) .nil)))) .nil)))⟩
def f17_0 : IE := (.cmp2 .LtE .Lt (.int 0) (.var 3) (.blt .len (.cons (.var 0) .nil)))
def f17_1 : IE := (.cmp .In (.call 16 (.cons (.var 0) (.cons (.var 1) (.cons (.var 3) .nil)))) (.var 2))
/-- is_short_ring -/
def f17 : FnI := ⟨("is_short_ring" : Str), [("value" : Str), ("sort" : Str), ("indexes" : Str), ("k" : Str)], [("value" : Str), ("sort" : Str), ("indexes" : Str)], [],
  (.cons (.ife (.or (.not (.call 13 (.cons (.var 2) .nil))) (.not (.cmp2 .LtE .Lt (.int 1) (.blt .len (.cons (.var 2) .nil)) (.blt .len (.cons (.var 0) .nil))))) (.cons (.ret (.bl false)) .nil) .nil) (.cons (.ife (.not (.blt .all (.cons (.lc [3] (.nm 3) (.seq (.var 2)) .nil f17_0) .nil))) (.cons (.ret (.bl false)) .nil) .nil) (.cons (.ret (.blt .all (.cons (.lc [3] (.nm 3) (.seq (.var 2)) .nil f17_1) .nil))) .nil)))⟩
/-- has_places -/
def f18 : FnI := ⟨("has_places" : Str), [("certificate" : Str), ("places" : Str), ("sort" : Str)], [("certificate" : Str), ("places" : Str), ("sort" : Str)], [],
  (.cons (.ret (.and (.call 3 (.cons (.var 0) .nil)) (.cmp .Eq (.call 6 (.cons (.var 0) (.cons (.var 2) .nil))) (.blt .list (.cons (.var 1) .nil))))) .nil)⟩
def f19_0 : IE := (.cmp .In (.var 6) (.call 8 (.cons (.var 3) (.cons (.var 4) .nil))))
/-- accepts_order -/
def f19 : FnI := ⟨("accepts_order" : Str), [("claim" : Str), ("certificate" : Str), ("word" : Str), ("places" : Str), ("sort" : Str), ("letters" : Str), ("k" : Str)], [("claim" : Str), ("certificate" : Str)], [],
  (.cons (.asgT [2, 3, 4, 5] (.var 0)) (.cons (.ife (.not (.call 1 (.cons (.var 5) (.cons (.int 1) (.cons (.gv 4) .nil))))) (.cons (.ret (.bl false)) .nil) .nil) (.cons (.ife (.cmp .Eq (.var 2) (.str ("order" : Str))) (.cons (.ret (.and (.call 18 (.cons (.var 1) (.cons (.var 3) (.cons (.var 4) .nil)))) (.cmp .Lt (.blt .max (.cons (.var 1) .nil)) (.var 5)))) .nil) .nil) (.cons (.ife (.or (.not (.call 13 (.cons (.var 1) .nil))) (.cmp .NotEq (.blt .len (.cons (.var 1) .nil)) (.var 5))) (.cons (.ret (.bl false)) .nil) .nil) (.cons (.ret (.blt .all (.cons (.lc [6] (.nm 6) (.seq (.var 1)) .nil f19_0) .nil))) .nil)))))⟩
/-- accepts_agreement -/
def f20 : FnI := ⟨("accepts_agreement" : Str), [("claim" : Str), ("certificate" : Str), ("word" : Str), ("places" : Str), ("sort" : Str), ("table" : Str)], [("claim" : Str), ("certificate" : Str)], [],
  (.cons (.asgT [2, 3, 4, 5] (.var 0)) (.cons (.ife (.not (.call 12 (.cons (.var 3) (.cons (.var 5) .nil)))) (.cons (.ret (.bl false)) .nil) .nil) (.cons (.ife (.cmp .Eq (.var 2) (.str ("agreement" : Str))) (.cons (.ret (.and (.call 18 (.cons (.var 1) (.cons (.var 3) (.cons (.var 4) .nil)))) (.cmp .Eq (.call 9 (.cons (.var 1) (.cons (.var 3) (.cons (.var 4) .nil)))) (.blt .list (.cons (.var 5) .nil))))) .nil) .nil) (.cons (.ret (.and (.call 1 (.cons (.var 1) (.cons (.int 0) (.cons (.bin .Sub (.blt .len (.cons (.var 5) .nil)) (.int 1)) .nil)))) (.call 10 (.cons (.var 3) (.cons (.var 4) (.cons (.var 5) (.cons (.var 1) .nil))))))) .nil))))⟩
/-- accepts_column -/
def f21 : FnI := ⟨("accepts_column" : Str), [("claim" : Str), ("certificate" : Str), ("word" : Str), ("row" : Str), ("sort" : Str)], [("claim" : Str), ("certificate" : Str)], [],
  (.cons (.asgT [2, 3, 4] (.var 0)) (.cons (.ife (.not (.call 15 (.cons (.var 3) (.cons (.var 4) .nil)))) (.cons (.ret (.bl false)) .nil) .nil) (.cons (.ife (.cmp .Eq (.var 2) (.str ("column" : Str))) (.cons (.ret (.and (.call 3 (.cons (.var 1) .nil)) (.cmp .Eq (.call 14 (.cons (.var 1) (.cons (.var 4) .nil))) (.var 3)))) .nil) .nil) (.cons (.ret (.call 17 (.cons (.var 3) (.cons (.var 4) (.cons (.var 1) .nil))))) .nil))))⟩
/-- accepts -/
def f22 : FnI := ⟨("accepts" : Str), [("claim" : Str), ("certificate" : Str)], [("claim" : Str), ("certificate" : Str)], [],
  (.cons (.ife (.or (.not (.isi (.var 0) .tuple)) (.or (.cmp .Eq (.var 0) (.tup .nil)) (.not (.isi (.idx (.var 0) (.int 0)) .str)))) (.cons (.ret (.bl false)) .nil) .nil) (.cons (.ife (.or (.cmp .NotEq (.blt .len (.cons (.var 0) .nil)) (.kget 0 (.idx (.var 0) (.int 0)) (.int 0))) (.or (.not (.isi (.idx (.var 0) (.int 2)) .str)) (.cmp .NotIn (.idx (.var 0) (.int 2)) (.gv 2)))) (.cons (.ret (.bl false)) .nil) .nil) (.cons (.ife (.cmp .Eq (.blt .len (.cons (.var 0) .nil)) (.int 3)) (.cons (.ret (.call 21 (.cons (.var 0) (.cons (.var 1) .nil)))) .nil) .nil) (.cons (.ife (.not (.call 4 (.cons (.idx (.var 0) (.int 1)) .nil))) (.cons (.ret (.bl false)) .nil) .nil) (.cons (.ife (.cmp .In (.idx (.var 0) (.int 0)) (.tup (.cons (.str ("order" : Str)) (.cons (.str ("no order" : Str)) .nil)))) (.cons (.ret (.call 19 (.cons (.var 0) (.cons (.var 1) .nil)))) .nil) .nil) (.cons (.ret (.call 20 (.cons (.var 0) (.cons (.var 1) .nil)))) .nil))))))⟩
def f23_0 : IB := (.cons (.asg 3 (.bin .Mod (.blt .int (.cons (.bin .Add (.bin .Add (.bin .Mult (.var 3) (.int 41231)) (.bin .Mod (.blt .int (.cons (.var 4) .nil)) (.int 2147482949))) (.int 61)) .nil)) (.int 2147482949))) (.frz 3 .nil))
/-- _law_jug -/
def f23 : FnI := ⟨("_law_jug" : Str), [("_law_cells" : Str), ("_law_turn" : Str), ("_law_cell" : Str), ("_law_stirred" : Str), ("_law_each" : Str)], [("_law_cells" : Str), ("_law_turn" : Str)], [],
  (.cons (.asg 2 (.ite (.cmp .Lt (.var 1) (.blt .len (.cons (.var 0) .nil))) (.idx (.var 0) (.var 1)) (.bin .Mult (.int 51001) (.bin .Add (.var 1) (.int 9))))) (.frz 2 (.cons (.asg 3 (.bin .Add (.int 39119) (.bin .Mult (.int 5077) (.var 1)))) (.frz 3 (.cons (.forS (.nm 4) (.seq (.bin .Add (.slc (.var 0) .nil (.cons (.int 4) .nil)) (.lst (.cons (.var 2) .nil)))) f23_0) (.cons (.ret (.box (.cons (.ite (.or (.cmp .Lt (.var 2) (.int 0)) (.cmp .GtE (.var 2) (.bin .Pow (.int 10) (.int 17)))) (.blt .abs (.cons (.var 2) .nil)) (.int 0)) (.cons (.var 3) .nil)))) .nil))))))⟩
/-- _law_swig -/
def f24 : FnI := ⟨("_law_swig" : Str), [("_law_jug_here" : Str), ("_law_top" : Str), ("_law_digit" : Str)], [("_law_jug_here" : Str), ("_law_top" : Str)], [],
  (.cons (.ife (.cmp .Gt (.idx (.var 0) (.int 0)) (.int 0)) (.cons (.jug (.var 0) (.int 0) 2 (.blt .divmod (.cons (.idx (.var 0) (.int 0)) (.cons (.var 1) .nil)))) (.cons (.ret (.var 2)) .nil)) .nil) (.cons (.setB (.var 0) (.int 1) (.bin .Mod (.blt .int (.cons (.bin .Add (.bin .Mult (.idx (.var 0) (.int 1)) (.int 63601)) (.int 18013)) .nil)) (.int 2147482949))) (.cons (.ret (.bin .Mod (.blt .int (.cons (.bin .FloorDiv (.idx (.var 0) (.int 1)) (.int 953)) .nil)) (.var 1))) .nil)))⟩
/-- _law_one -/
def f25 : FnI := ⟨("_law_one" : Str), [("_law_jug_here" : Str), ("_law_things" : Str)], [("_law_jug_here" : Str), ("_law_things" : Str)], [],
  (.cons (.ret (.idx (.var 1) (.call 24 (.cons (.var 0) (.cons (.blt .len (.cons (.var 1) .nil)) .nil))))) .nil)⟩
def f26_0 : IB := (.cons (.asg 5 (.call 24 (.cons (.var 0) (.cons (.blt .len (.cons (.var 3) .nil)) .nil)))) (.frz 5 (.cons (.par [2, 3] (.cons (.bin .Add (.bvar 2) (.lst (.cons (.idx (.var 3) (.var 5)) .nil))) (.cons (.bin .Add (.slc (.var 3) .nil (.cons (.var 5) .nil)) (.slc (.var 3) (.cons (.bin .Add (.var 5) (.int 1)) .nil) .nil)) .nil))) (.frz 3 .nil))))
/-- _law_shuffled -/
def f26 : FnI := ⟨("_law_shuffled" : Str), [("_law_jug_here" : Str), ("_law_things" : Str), ("_law_found" : Str), ("_law_rest" : Str), ("_law_turn" : Str), ("_law_at" : Str)], [("_law_jug_here" : Str), ("_law_things" : Str)], [],
  (.cons (.par [2, 3] (.cons (.lst .nil) (.cons (.blt .list (.cons (.var 1) .nil)) .nil))) (.frz 3 (.cons (.forS (.nm 4) (.rng1 (.blt .len (.cons (.var 1) .nil))) f26_0) (.cons (.retv 2) .nil))))⟩
/-- _law_sorts -/
def f27 : FnI := ⟨("_law_sorts" : Str), [], [], [],
  (.cons (.ret (.lst (.cons (.str ("first" : Str)) (.cons (.str ("last" : Str)) (.cons (.str ("ring" : Str)) .nil))))) .nil)⟩
/-- a program with these defs, in these places -/
structure P (pg : PProg) : Prop where
  h0 : ∃ q, pg.fns[0]? = some ⟨f0.name, f0.names, f0.params, q, f0.body⟩
  h1 : ∃ q, pg.fns[1]? = some ⟨f1.name, f1.names, f1.params, q, f1.body⟩
  h2 : ∃ q, pg.fns[2]? = some ⟨f2.name, f2.names, f2.params, q, f2.body⟩
  h3 : ∃ q, pg.fns[3]? = some ⟨f3.name, f3.names, f3.params, q, f3.body⟩
  h4 : ∃ q, pg.fns[4]? = some ⟨f4.name, f4.names, f4.params, q, f4.body⟩
  h5 : ∃ q, pg.fns[5]? = some ⟨f5.name, f5.names, f5.params, q, f5.body⟩
  h6 : ∃ q, pg.fns[6]? = some ⟨f6.name, f6.names, f6.params, q, f6.body⟩
  h7 : ∃ q, pg.fns[7]? = some ⟨f7.name, f7.names, f7.params, q, f7.body⟩
  h8 : ∃ q, pg.fns[8]? = some ⟨f8.name, f8.names, f8.params, q, f8.body⟩
  h9 : ∃ q, pg.fns[9]? = some ⟨f9.name, f9.names, f9.params, q, f9.body⟩
  h10 : ∃ q, pg.fns[10]? = some ⟨f10.name, f10.names, f10.params, q, f10.body⟩
  h11 : ∃ q, pg.fns[11]? = some ⟨f11.name, f11.names, f11.params, q, f11.body⟩
  h12 : ∃ q, pg.fns[12]? = some ⟨f12.name, f12.names, f12.params, q, f12.body⟩
  h13 : ∃ q, pg.fns[13]? = some ⟨f13.name, f13.names, f13.params, q, f13.body⟩
  h14 : ∃ q, pg.fns[14]? = some ⟨f14.name, f14.names, f14.params, q, f14.body⟩
  h15 : ∃ q, pg.fns[15]? = some ⟨f15.name, f15.names, f15.params, q, f15.body⟩
  h16 : ∃ q, pg.fns[16]? = some ⟨f16.name, f16.names, f16.params, q, f16.body⟩
  h17 : ∃ q, pg.fns[17]? = some ⟨f17.name, f17.names, f17.params, q, f17.body⟩
  h18 : ∃ q, pg.fns[18]? = some ⟨f18.name, f18.names, f18.params, q, f18.body⟩
  h19 : ∃ q, pg.fns[19]? = some ⟨f19.name, f19.names, f19.params, q, f19.body⟩
  h20 : ∃ q, pg.fns[20]? = some ⟨f20.name, f20.names, f20.params, q, f20.body⟩
  h21 : ∃ q, pg.fns[21]? = some ⟨f21.name, f21.names, f21.params, q, f21.body⟩
  h22 : ∃ q, pg.fns[22]? = some ⟨f22.name, f22.names, f22.params, q, f22.body⟩
  h23 : ∃ q, pg.fns[23]? = some ⟨f23.name, f23.names, f23.params, q, f23.body⟩
  h24 : ∃ q, pg.fns[24]? = some ⟨f24.name, f24.names, f24.params, q, f24.body⟩
  h25 : ∃ q, pg.fns[25]? = some ⟨f25.name, f25.names, f25.params, q, f25.body⟩
  v0 : ∃ n, pg.gvs[0]? = some (n, (.int 60))
  v1 : ∃ n, pg.gvs[1]? = some (n, (.int 1000000000000000000))
  v2 : ∃ n, pg.gvs[2]? = some (n, (.tup [(.str ("first" : Str)), (.str ("last" : Str)), (.str ("ring" : Str))]))
  v3 : ∃ n, pg.gvs[3]? = some (n, (.int 60))
  v4 : ∃ n, pg.gvs[4]? = some (n, (.int 1000000000000000000))
  v5 : ∃ n, pg.gvs[5]? = some (n, (.int (-1)))
  k0 : ∃ n, pg.kds[0]? = some (n, [(("order" : Str), (.int 4)), (("no order" : Str), (.int 4)), (("agreement" : Str), (.int 4)), (("no agreement" : Str), (.int 4)), (("column" : Str), (.int 3)), (("no column" : Str), (.int 3))])
structure P2 (pg : PProg) : Prop extends P pg where
  h26 : ∃ q, pg.fns[26]? = some ⟨f26.name, f26.names, f26.params, q, f26.body⟩
  h27 : ∃ q, pg.fns[27]? = some ⟨f27.name, f27.names, f27.params, q, f27.body⟩
section
variable {pg : PProg} (h : P pg) {n : Nat} {ph : PH}
include h
theorem c0 {a0 : PV} : callN pg (n + 1) 0 [a0] ph = cEnd (execB pg (callN pg n) f0.body [some (a0, false)] ph) := by obtain ⟨_, e⟩ := h.h0; exact (call_eq e rfl).trans rfl
theorem c1 {a0 a1 a2 : PV} : callN pg (n + 1) 1 [a0, a1, a2] ph = cEnd (execB pg (callN pg n) f1.body [some (a0, false), some (a1, false), some (a2, false)] ph) := by obtain ⟨_, e⟩ := h.h1; exact (call_eq e rfl).trans rfl
theorem c2 {a0 : PV} : callN pg (n + 1) 2 [a0] ph = cEnd (execB pg (callN pg n) f2.body [some (a0, false)] ph) := by obtain ⟨_, e⟩ := h.h2; exact (call_eq e rfl).trans rfl
theorem c3 {a0 : PV} : callN pg (n + 1) 3 [a0] ph = cEnd (execB pg (callN pg n) f3.body [some (a0, false), none] ph) := by obtain ⟨_, e⟩ := h.h3; exact (call_eq e rfl).trans rfl
theorem c4 {a0 : PV} : callN pg (n + 1) 4 [a0] ph = cEnd (execB pg (callN pg n) f4.body [some (a0, false), none] ph) := by obtain ⟨_, e⟩ := h.h4; exact (call_eq e rfl).trans rfl
theorem c5 {a0 a1 : PV} : callN pg (n + 1) 5 [a0, a1] ph = cEnd (execB pg (callN pg n) f5.body [some (a0, false), some (a1, false), none, none] ph) := by obtain ⟨_, e⟩ := h.h5; exact (call_eq e rfl).trans rfl
theorem c6 {a0 a1 : PV} : callN pg (n + 1) 6 [a0, a1] ph = cEnd (execB pg (callN pg n) f6.body [some (a0, false), some (a1, false), none, none, none, none, none] ph) := by obtain ⟨_, e⟩ := h.h6; exact (call_eq e rfl).trans rfl
theorem c7 {a0 a1 : PV} : callN pg (n + 1) 7 [a0, a1] ph = cEnd (execB pg (callN pg n) f7.body [some (a0, false), some (a1, false), none, none, none] ph) := by obtain ⟨_, e⟩ := h.h7; exact (call_eq e rfl).trans rfl
theorem c8 {a0 a1 : PV} : callN pg (n + 1) 8 [a0, a1] ph = cEnd (execB pg (callN pg n) f8.body [some (a0, false), some (a1, false), none, none] ph) := by obtain ⟨_, e⟩ := h.h8; exact (call_eq e rfl).trans rfl
theorem c9 {a0 a1 a2 : PV} : callN pg (n + 1) 9 [a0, a1, a2] ph = cEnd (execB pg (callN pg n) f9.body [some (a0, false), some (a1, false), some (a2, false), none, none, none, none, none, none] ph) := by obtain ⟨_, e⟩ := h.h9; exact (call_eq e rfl).trans rfl
theorem c10 {a0 a1 a2 a3 : PV} : callN pg (n + 1) 10 [a0, a1, a2, a3] ph = cEnd (execB pg (callN pg n) f10.body [some (a0, false), some (a1, false), some (a2, false), some (a3, false), none] ph) := by obtain ⟨_, e⟩ := h.h10; exact (call_eq e rfl).trans rfl
theorem c11 {a0 : PV} : callN pg (n + 1) 11 [a0] ph = cEnd (execB pg (callN pg n) f11.body [some (a0, false), none] ph) := by obtain ⟨_, e⟩ := h.h11; exact (call_eq e rfl).trans rfl
theorem c12 {a0 a1 : PV} : callN pg (n + 1) 12 [a0, a1] ph = cEnd (execB pg (callN pg n) f12.body [some (a0, false), some (a1, false)] ph) := by obtain ⟨_, e⟩ := h.h12; exact (call_eq e rfl).trans rfl
theorem c13 {a0 : PV} : callN pg (n + 1) 13 [a0] ph = cEnd (execB pg (callN pg n) f13.body [some (a0, false), none] ph) := by obtain ⟨_, e⟩ := h.h13; exact (call_eq e rfl).trans rfl
theorem c14 {a0 a1 : PV} : callN pg (n + 1) 14 [a0, a1] ph = cEnd (execB pg (callN pg n) f14.body [some (a0, false), some (a1, false), none, none, none] ph) := by obtain ⟨_, e⟩ := h.h14; exact (call_eq e rfl).trans rfl
theorem c15 {a0 a1 : PV} : callN pg (n + 1) 15 [a0, a1] ph = cEnd (execB pg (callN pg n) f15.body [some (a0, false), some (a1, false), none, none] ph) := by obtain ⟨_, e⟩ := h.h15; exact (call_eq e rfl).trans rfl
theorem c16 {a0 a1 a2 : PV} : callN pg (n + 1) 16 [a0, a1, a2] ph = cEnd (execB pg (callN pg n) f16.body [some (a0, false), some (a1, false), some (a2, false), none, none] ph) := by obtain ⟨_, e⟩ := h.h16; exact (call_eq e rfl).trans rfl
theorem c17 {a0 a1 a2 : PV} : callN pg (n + 1) 17 [a0, a1, a2] ph = cEnd (execB pg (callN pg n) f17.body [some (a0, false), some (a1, false), some (a2, false), none] ph) := by obtain ⟨_, e⟩ := h.h17; exact (call_eq e rfl).trans rfl
theorem c18 {a0 a1 a2 : PV} : callN pg (n + 1) 18 [a0, a1, a2] ph = cEnd (execB pg (callN pg n) f18.body [some (a0, false), some (a1, false), some (a2, false)] ph) := by obtain ⟨_, e⟩ := h.h18; exact (call_eq e rfl).trans rfl
theorem c19 {a0 a1 : PV} : callN pg (n + 1) 19 [a0, a1] ph = cEnd (execB pg (callN pg n) f19.body [some (a0, false), some (a1, false), none, none, none, none, none] ph) := by obtain ⟨_, e⟩ := h.h19; exact (call_eq e rfl).trans rfl
theorem c20 {a0 a1 : PV} : callN pg (n + 1) 20 [a0, a1] ph = cEnd (execB pg (callN pg n) f20.body [some (a0, false), some (a1, false), none, none, none, none] ph) := by obtain ⟨_, e⟩ := h.h20; exact (call_eq e rfl).trans rfl
theorem c21 {a0 a1 : PV} : callN pg (n + 1) 21 [a0, a1] ph = cEnd (execB pg (callN pg n) f21.body [some (a0, false), some (a1, false), none, none, none] ph) := by obtain ⟨_, e⟩ := h.h21; exact (call_eq e rfl).trans rfl
theorem c22 {a0 a1 : PV} : callN pg (n + 1) 22 [a0, a1] ph = cEnd (execB pg (callN pg n) f22.body [some (a0, false), some (a1, false)] ph) := by obtain ⟨_, e⟩ := h.h22; exact (call_eq e rfl).trans rfl
theorem c23 {a0 a1 : PV} : callN pg (n + 1) 23 [a0, a1] ph = cEnd (execB pg (callN pg n) f23.body [some (a0, false), some (a1, false), none, none, none] ph) := by obtain ⟨_, e⟩ := h.h23; exact (call_eq e rfl).trans rfl
theorem c24 {a0 a1 : PV} : callN pg (n + 1) 24 [a0, a1] ph = cEnd (execB pg (callN pg n) f24.body [some (a0, false), some (a1, false), none] ph) := by obtain ⟨_, e⟩ := h.h24; exact (call_eq e rfl).trans rfl
theorem c25 {a0 a1 : PV} : callN pg (n + 1) 25 [a0, a1] ph = cEnd (execB pg (callN pg n) f25.body [some (a0, false), some (a1, false)] ph) := by obtain ⟨_, e⟩ := h.h25; exact (call_eq e rfl).trans rfl
theorem g0 : cGv (pg.gvs[0]?) ph = .ok ((.int 60), false) ph := by obtain ⟨n, e⟩ := h.v0; rw [e]; rfl
theorem g1 : cGv (pg.gvs[1]?) ph = .ok ((.int 1000000000000000000), false) ph := by obtain ⟨n, e⟩ := h.v1; rw [e]; rfl
theorem g2 : cGv (pg.gvs[2]?) ph = .ok ((.tup [(.str ("first" : Str)), (.str ("last" : Str)), (.str ("ring" : Str))]), false) ph := by obtain ⟨n, e⟩ := h.v2; rw [e]; rfl
theorem g3 : cGv (pg.gvs[3]?) ph = .ok ((.int 60), false) ph := by obtain ⟨n, e⟩ := h.v3; rw [e]; rfl
theorem g4 : cGv (pg.gvs[4]?) ph = .ok ((.int 1000000000000000000), false) ph := by obtain ⟨n, e⟩ := h.v4; rw [e]; rfl
theorem g5 : cGv (pg.gvs[5]?) ph = .ok ((.int (-1)), false) ph := by obtain ⟨n, e⟩ := h.v5; rw [e]; rfl
end
section
variable {pg : PProg} (h : P2 pg) {n : Nat} {ph : PH}
include h
theorem c26 {a0 a1 : PV} : callN pg (n + 1) 26 [a0, a1] ph = cEnd (execB pg (callN pg n) f26.body [some (a0, false), some (a1, false), none, none, none, none] ph) := by obtain ⟨_, e⟩ := h.h26; exact (call_eq e rfl).trans rfl
theorem c27 : callN pg (n + 1) 27 [] ph = cEnd (execB pg (callN pg n) f27.body [] ph) := by obtain ⟨_, e⟩ := h.h27; exact (call_eq e rfl).trans rfl
end
end Chk

set_option Elab.async false
set_option linter.all false
set_option maxRecDepth 100000
set_option maxHeartbeats 4000000
namespace Chk
open PySem Py
def isI : PV → Bool
  | .int _ => true
  | _ => false
def btw (lo hi : Int) : PV → Bool
  | .int i => decide (lo ≤ i) && decide (i ≤ hi)
  | _ => false
def nob : PV → Bool
  | .box _ => false
  | .scr _ => false
  | _ => true
section
variable {pg : PProg} (h : P pg) {n : Nat} {ph : PH}
include h
theorem r0 {v : PV} (hv : nob v = true) : callN pg (n + 1) 0 [v] ph = .ok (.bl (isI v), false) ph := by
  rw [c0 h]
  cases v <;> first | (simp [f0, pisi, isI]; done) | (simp [nob] at hv; done)
theorem r1 {v : PV} {lo hi : Int} (hv : nob v = true) : callN pg (n + 2) 1 [v, .int lo, .int hi] ph = .ok (.bl (btw lo hi v), false) ph := by
  rw [c1 h]
  simp only [f1, b_cons, s_ret, e_and, e_call, l_cons, l_nil, e_var, getV_0, getV_s, cVar_ok, cL1_ok, cL2_ok, cCall_ok, r0 h hv]
  cases v <;> first | (simp [isI, btw]; done) | (simp [nob] at hv; done)
theorem r2 {v : PV} (hv : nob v = true) : callN pg (n + 3) 2 [v] ph = .ok (.bl (btw 0 1000000000000000000 v), false) ph := by
  rw [c2 h]
  simp [f2, g1 h, r1 h hv]
end
end Chk

set_option Elab.async false
set_option linter.all false
set_option maxRecDepth 100000
set_option maxHeartbeats 4000000
namespace Chk
open PySem Py
/-! data, looked at -/
@[simp] theorem pixB_l {ph : PH} {xs : List PV} {i : Int} : pixB ph (.lst xs) (.int i) = pat xs i := Eq.trans rfl rfl
@[simp] theorem pixB_t {ph : PH} {xs : List PV} {i : Int} : pixB ph (.tup xs) (.int i) = pat xs i := Eq.trans rfl rfl
@[simp] theorem pixB_s {ph : PH} {xs : List PV} {i : Int} : pixB ph (.scr xs) (.int i) = pat xs i := Eq.trans rfl rfl
theorem pixB_b {ph : PH} {k : Nat} {xs : List PV} {i : Int} (h : ph[k]? = some (.lst xs)) : pixB ph (.box k) (.int i) = pat xs i := by
  show (match ph[k]? with | some (.lst xs) => pat xs i | _ => none) = _
  rw [h]
theorem pat_nat {xs : List PV} {j : Nat} {x : PV} (h : xs[j]? = some x) : pat xs (j : Int) = some x := L2.atI_nat h
theorem ixN_nat {n j : Nat} (h : j < n) : L2.ixN n (j : Int) = some j := by
  unfold L2.ixN
  rw [if_pos (by omega), if_pos (by omega)]
  rfl
theorem line_ok {n : Nat} (h : n ≤ 100000) : n ≤ sizeLine := Nat.le_trans h (by decide)
theorem line_lt {n : Nat} (h : n ≤ 100000) : n < sizeLine := Nat.lt_of_le_of_lt h (by decide)
theorem smallR_nat {n : Nat} (h : n ≤ 1000000) : smallR (n : Int) = true := by
  unfold smallR
  simp
  omega
theorem smallR_int {n : Int} (h0 : -1000000 ≤ n) (h : n ≤ 1000000) : smallR n = true := by
  unfold smallR
  simp
  omega
/-! the jug: two numbers from 0 on -/
def Jug (ph : PH) (k : Nat) : Prop := ∃ a b : Int, 0 ≤ a ∧ 0 ≤ b ∧ ph[k]? = some (.lst [.int a, .int b])
/-- behind a draw -/
def JS (ph : PH) (k : Nat) (ph' : PH) : Prop := k < ph.length ∧ ∃ a b : Int, 0 ≤ a ∧ 0 ≤ b ∧ ph' = ph.set k (.lst [.int a, .int b])
theorem Jug.lt {ph : PH} {k : Nat} (h : Jug ph k) : k < ph.length := by
  obtain ⟨a, b, _, _, e⟩ := h
  exact (List.getElem?_eq_some_iff.mp e).1
theorem Jug.self {ph : PH} {k : Nat} (h : Jug ph k) : JS ph k ph := by
  refine ⟨h.lt, ?_⟩
  obtain ⟨a, b, ha, hb, e⟩ := h
  refine ⟨a, b, ha, hb, ?_⟩
  obtain ⟨hl, e⟩ := List.getElem?_eq_some_iff.mp e
  rw [← e, List.set_getElem_self]
theorem JS.jug {ph ph' : PH} {k : Nat} (h : JS ph k ph') : Jug ph' k := by
  obtain ⟨hl, a, b, ha, hb, e⟩ := h
  exact ⟨a, b, ha, hb, by rw [e, List.getElem?_set_self hl]⟩
theorem JS.trans {ph ph1 ph2 : PH} {k : Nat} (h : JS ph k ph1) (g : JS ph1 k ph2) : JS ph k ph2 := by
  obtain ⟨hl, a, b, ha, hb, e⟩ := h
  obtain ⟨hl', a', b', ha', hb', e'⟩ := g
  refine ⟨hl, a', b', ha', hb', ?_⟩
  rw [e', e, List.set_set]
theorem JS.len {ph ph1 : PH} {k : Nat} (h : JS ph k ph1) : ph1.length = ph.length := by
  obtain ⟨hl, a, b, ha, hb, e⟩ := h
  rw [e, List.length_set]
section
variable {pg : PProg} (h : P pg) {n : Nat} {ph : PH} {k : Nat}
include h
theorem swig (hj : Jug ph k) {top : Nat} (h1 : 0 < top) (h2 : top < 1000000) : ∃ d ph', d < top ∧ JS ph k ph' ∧ callN pg (n + 1) 24 [.box k, .int (top : Nat)] ph = .ok (.int (d : Nat), false) ph' := by
  obtain ⟨a, b, ha, hb, e⟩ := hj
  have hl := (List.getElem?_eq_some_iff.mp e).1
  have p0 : pixB ph (.box k) (.int 0) = some (.int a) := (pixB_b e).trans rfl
  have p1 : pixB ph (.box k) (.int 1) = some (.int b) := (pixB_b e).trans rfl
  have t0 : (top : Int) ≠ 0 := by omega
  rw [c24 h]
  by_cases h0 : 0 < a
  · refine ⟨(a % top).toNat, ph.set k (.lst [.int (a / top), .int b]), ?_, ⟨hl, a / top, b, Int.ediv_nonneg ha (by omega), hb, rfl⟩, ?_⟩
    · have := Int.emod_lt_of_pos a (b := top) (by omega); have := Int.emod_nonneg a t0; omega
    · have pj : (putB [some (.box k, false), some (.int (top : Nat), false), some (.int (a % top), false)] (.int (a / top)) (.box k) (.ok (.int 0, false) ph)) = _ := putB_ok (n := 0) e rfl
      have hd : pbi .divmod [.int a, .int (top : Nat)] = some (.tup [.int (a / top), .int (a % top)], false) := by
        simp only [pbi]
        rw [if_pos (by simp; omega)]
      have hm : ((a % (top : Int)).toNat : Int) = a % top := Int.toNat_of_nonneg (Int.emod_nonneg _ t0)
      simp [f24, p0, h0, hd, pj, hm, -Int.ofNat_toNat]
  · have hm : (0 : Int) ≤ (b * 63601 + 18013) % 2147482949 := Int.emod_nonneg _ (by omega)
    generalize hb' : (b * 63601 + 18013) % 2147482949 = b' at hm
    have hn : ((b' / 953 % (top : Int)).toNat : Int) = b' / 953 % top := Int.toNat_of_nonneg (Int.emod_nonneg _ t0)
    refine ⟨(b' / 953 % top).toNat, ph.set k (.lst [.int a, .int b']), ?_, ⟨hl, a, b', ha, hm, rfl⟩, ?_⟩
    · have := Int.emod_lt_of_pos (b' / 953) (b := top) (by omega); have := Int.emod_nonneg (b' / 953) t0; omega
    · have pj : (putB [some (.box k, false), some (.int (top : Nat), false), none] (.int b') (.box k) (.ok (.int 1, false) ph)) = _ := putB_ok (n := 1) e rfl
      have q1 : pixB (ph.set k (.lst [.int a, .int b'])) (.box k) (.int 1) = some (.int b') := (pixB_b (List.getElem?_set_self hl)).trans rfl
      have s1 : smallI 63601 = true := by decide
      simp [f24, p0, p1, h0, pbin, pbi, s1, hb', pj, q1, h1, hn, -Int.ofNat_toNat]
theorem one_t (hj : Jug ph k) {xs : List PV} (h1 : 0 < xs.length) (h2 : xs.length < 1000000) : ∃ (j : Nat) (x : PV) (ph' : PH), xs[j]? = some x ∧ JS ph k ph' ∧ callN pg (n + 2) 25 [.box k, .tup xs] ph = .ok (x, false) ph' := by
  obtain ⟨d, ph', hd, js, e⟩ := swig h (n := n) hj h1 h2
  refine ⟨d, xs[d], ph', List.getElem?_eq_getElem hd, js, ?_⟩
  rw [c25 h]
  simp [f25, pbi, e, pat_nat (List.getElem?_eq_getElem hd)]
theorem one_l (hj : Jug ph k) {xs : List PV} (h1 : 0 < xs.length) (h2 : xs.length < 1000000) : ∃ (j : Nat) (x : PV) (ph' : PH), xs[j]? = some x ∧ JS ph k ph' ∧ callN pg (n + 2) 25 [.box k, .lst xs] ph = .ok (x, false) ph' := by
  obtain ⟨d, ph', hd, js, e⟩ := swig h (n := n) hj h1 h2
  refine ⟨d, xs[d], ph', List.getElem?_eq_getElem hd, js, ?_⟩
  rw [c25 h]
  simp [f25, pbi, e, pat_nat (List.getElem?_eq_getElem hd)]
omit h in
theorem jLoop (cl : Calls) (v0 v1 v2 : Option (PV × Bool)) : ∀ (ms : List Int) (s : Int) (v4 : Option (PV × Bool)), 0 ≤ s → ∃ s' v4', 0 ≤ s' ∧
    forL pg cl (.nm 4) f23_0 (ms.map PV.int) [v0, v1, v2, some (.int s, false), v4] ph = .ok (.nx [v0, v1, v2, some (.int s', false), v4']) ph
  | [], s, v4, hs => ⟨s, v4, hs, rfl⟩
  | m :: ms, s, v4, hs => by
    obtain ⟨s', v4', h, e⟩ := jLoop cl v0 v1 v2 ms ((s * 41231 + m % 2147482949 + 61) % 2147482949) (some (.int m, false)) (Int.emod_nonneg _ (by omega))
    refine ⟨s', v4', h, ?_⟩
    rw [List.map_cons, forL_cons, ← e]
    have s1 : smallI 41231 = true := by decide
    simp [f23_0, pbin, pbi, s1]
theorem jug {ns : List Int} (hn : ns.length ≤ 63) {t : Nat} (ht : t ≤ 1000) : ∃ ph', ph'.length = ph.length + 1 ∧ (∀ j < ph.length, ph'[j]? = ph[j]?) ∧ Jug ph' ph.length ∧ callN pg (n + 1) 23 [.scr (ns.map PV.int), .int (t : Nat)] ph = .ok (.box ph.length, false) ph' := by
  have hc : ∃ c : Int, evalE pg (callN pg n) (.ite (.cmp .Lt (.var 1) (.blt .len (.cons (.var 0) .nil))) (.idx (.var 0) (.var 1)) (.bin .Mult (.int 51001) (.bin .Add (.var 1) (.int 9)))) [some (.scr (ns.map PV.int), false), some (.int (t : Nat), false), none, none, none] ph = .ok (.int c, false) ph := by
    by_cases hl : t < ns.length
    · refine ⟨ns[t], ?_⟩
      have : pat (ns.map PV.int) (t : Int) = some (.int ns[t]) := pat_nat (by rw [List.getElem?_map, List.getElem?_eq_getElem hl]; rfl)
      simp [pbi, hl, this]
    · refine ⟨51001 * ((t : Int) + 9), ?_⟩
      have s1 : smallI 51001 = true := by decide
      simp [pbi, hl, pbin, s1]
  obtain ⟨c, hc⟩ := hc
  obtain ⟨ms, hm, hp⟩ : ∃ ms : List Int, ms.length ≤ 4 ∧ psl (.scr (ns.map PV.int)) none (some 4) = some (.lst (ms.map PV.int), true) := by
    refine ⟨ns.take 4, by simp; omega, ?_⟩
    show some (PV.lst (pcut _ _ _), true) = _
    have : pcut (ns.map PV.int) none (some 4) = (ns.take 4).map PV.int := by
      unfold pcut
      rw [HT.sIx_none, List.drop_zero, Nat.sub_zero, List.map_take, show (some (4 : Int)) = some ((4 : Nat) : Int) from rfl, HT.sIx_nat, List.length_map]
      rw [List.take_eq_take_iff, List.length_map]
      omega
    rw [this]
  obtain ⟨s', v4', h0, hl⟩ := jLoop (pg := pg) (ph := ph) (callN pg n) (some (.scr (ns.map PV.int), false)) (some (.int (t : Nat), false)) (some (.int c, false)) (ms ++ [c]) (39119 + 5077 * (t : Int)) none (by omega)
  have hb : pbin .Add (.lst (ms.map PV.int)) (.lst [.int c]) = some (.lst ((ms ++ [c]).map PV.int), true) := by
    show (if _ then _ else _) = _
    rw [if_pos (line_ok (by simp; omega))]
    simp
  generalize (ms ++ [c]).map PV.int = qs at hb hl
  have s1 : smallI 5077 = true := by decide
  have w : ∃ a : Int, 0 ≤ a ∧ evalE pg (callN pg n) (.ite (.or (.cmp .Lt (.var 2) (.int 0)) (.cmp .GtE (.var 2) (.bin .Pow (.int 10) (.int 17)))) (.blt .abs (.cons (.var 2) .nil)) (.int 0)) [some (.scr (ns.map PV.int), false), some (.int (t : Nat), false), some (.int c, false), some (.int s', false), v4'] ph = .ok (.int a, false) ph := by
    have hp : pbin .Pow (.int 10) (.int 17) = some (.int 100000000000000000, false) := by kernel_rfl
    by_cases q : c < 0 ∨ 100000000000000000 ≤ c
    · refine ⟨if c < 0 then -c else c, by split <;> omega, ?_⟩
      simp [hp, pbi]
      omega
    · refine ⟨0, by omega, ?_⟩
      simp only [not_or] at q
      simp [hp, pbi, q]
  obtain ⟨a, ha, w⟩ := w
  refine ⟨ph ++ [.lst [.int a, .int s']], by simp, fun j hj => List.getElem?_append_left hj, ⟨a, s', ha, h0, by simp⟩, ?_⟩
  rw [c23 h]
  have l2 : (2 : Nat) ≤ sizeLine := line_ok (by omega)
  have l1 : (1 : Nat) ≤ sizeLine := line_ok (by omega)
  simp only [f23, b_cons, s_asg, hc, cAsg_ok, cB_nx, b_frz, List.set_cons_succ, List.set_cons_zero, frzE_s, frzE_f]
  simp only [e_bin, e_int, e_var, getV_0, getV_s, cVar_ok, cBin1_ok, cBin2_ok, pbin, s1, Bool.true_or, if_true, rO_some, cAsg_ok, cB_nx, b_frz, List.set_cons_succ, List.set_cons_zero, frzE_s, frzE_f, s_for, i_seq, e_slc, p_nil, p_one, cP_ok, cSlc1_ok, cSlc2_ok, cSlc3_ok, hp, e_lst, l_cons, l_nil, cL1_ok, cL2_ok, cLst_ok, List.length_cons, List.length_nil, if_pos l1]
  simp [hb, hl, w, l2, l1, hp]
end
end Chk

set_option Elab.async false
set_option linter.all false
set_option maxRecDepth 100000
set_option maxHeartbeats 4000000
/-! the tree of k74, checked. -/
namespace K74
open PySem PySem.Spec Py L2
open PyProof.Rows hiding St
/-- check_kind -/
def f28 : FnI := ⟨("check_kind" : Str), [("kind" : Str)], [("kind" : Str)], [],
  (.cons (.ife (.or (.not (.isi (.var 0) .str)) (.cmp .NotIn (.var 0) (.gv 6))) (.cons .bad .nil) .nil) .nil)⟩
def f29_0 : IB := (.cons (.ife (.or (.cmp .Eq (.var 1) (.gv 0)) (.or (.not (.call 1 (.cons (.var 2) (.cons (.int 0) (.cons (.bin .Sub (.blt .len (.cons (.var 0) .nil)) (.int 1)) .nil))))) (.cmp .In (.var 2) (.slc (.var 0) .nil (.cons (.var 1) .nil))))) (.cons .bad .nil) .nil) .nil)
/-- check_places -/
def f29 : FnI := ⟨("check_places" : Str), [("places" : Str), ("at" : Str), ("place" : Str)], [("places" : Str)], [],
  (.cons (.ife (.or (.not (.isi (.var 0) .tuple)) (.cmp .Eq (.var 0) (.tup .nil))) (.cons .bad .nil) .nil) (.cons (.forS (.tup [1, 2]) (.enum (.var 0)) f29_0) .nil))⟩
def f30_0 : IE := (.int 0)
def f30_1 : IB := (.cons (.setL 1 (.var 2) (.var 3)) .nil)
/-- ranks_of -/
def f30 : FnI := ⟨("ranks_of" : Str), [("places" : Str), ("found" : Str), ("place" : Str), ("at" : Str)], [("places" : Str)], [],
  (.cons (.asg 1 (.lc [2] (.nm 2) (.seq (.var 0)) .nil f30_0)) (.cons (.forS (.tup [3, 2]) (.enum (.var 0)) f30_1) (.cons (.retv 1) .nil)))⟩
/-- next_rank -/
def f31 : FnI := ⟨("next_rank" : Str), [("ranks" : Str), ("place" : Str), ("kind" : Str)], [("ranks" : Str), ("place" : Str), ("kind" : Str)], [],
  (.cons (.ife (.cmp .Lt (.bin .Add (.var 1) (.int 1)) (.blt .len (.cons (.var 0) .nil))) (.cons (.ret (.idx (.var 0) (.bin .Add (.var 1) (.int 1)))) .nil) .nil) (.cons (.ret (.idx (.dct (.cons (.str ("first" : Str)) (.cons (.neg (.int 1)) (.cons (.str ("last" : Str)) (.cons (.blt .len (.cons (.var 0) .nil)) (.cons (.str ("ring" : Str)) (.cons (.idx (.var 0) (.int 0)) .nil))))))) (.var 2))) .nil))⟩
def f32_0 : IE := (.call 31 (.cons (.var 2) (.cons (.var 4) (.cons (.var 1) .nil))))
def f32_1 : IL := (.cons (.cmp .Gt (.idx (.var 3) (.var 5)) (.idx (.var 3) (.bin .Add (.var 5) (.int 1)))) .nil)
def f32_2 : IE := (.var 5)
/-- rises_of -/
def f32 : FnI := ⟨("rises_of" : Str), [("places" : Str), ("kind" : Str), ("ranks" : Str), ("after" : Str), ("place" : Str), ("at" : Str)], [("places" : Str), ("kind" : Str)], [],
  (.cons (.asg 2 (.call 30 (.cons (.var 0) .nil))) (.frz 2 (.cons (.asg 3 (.lc [4] (.nm 4) (.seq (.var 0)) .nil f32_0)) (.frz 3 (.cons (.ret (.lc [5] (.nm 5) (.rng1 (.bin .Sub (.blt .len (.cons (.var 0) .nil)) (.int 1))) f32_1 f32_2)) .nil)))))⟩
/-- check_order -/
def f33 : FnI := ⟨("check_order" : Str), [("value" : Str)], [("value" : Str)], [],
  (.cons (.ife (.not (.isC (.var 0) 0)) (.cons .bad .nil) .nil) .nil)⟩
def f34_0 : IE := (.idx (.var 1) (.var 2))
/-- put_along -/
def f34 : FnI := ⟨("put_along" : Str), [("order" : Str), ("letters" : Str), ("rank" : Str)], [("order" : Str), ("letters" : Str)], [],
  (.cons (.ret (.blt .tuple (.cons (.lc [2] (.nm 2) (.seq (.att (.var 0) ("standing" : Str))) .nil f34_0) .nil))) .nil)⟩
def f35_0 : IB := (.cons (.ife (.not (.call 1 (.cons (.var 3) (.cons (.int 0) (.cons (.gv 0) .nil))))) (.cons .bad .nil) .nil) .nil)
/-- check_table -/
def f35 : FnI := ⟨("check_table" : Str), [("order" : Str), ("table" : Str), ("at" : Str), ("number" : Str)], [("order" : Str), ("table" : Str)], [],
  (.cons (.ife (.or (.not (.isi (.var 1) .tuple)) (.cmp .NotEq (.blt .len (.cons (.var 1) .nil)) (.bin .Sub (.blt .len (.cons (.att (.var 0) ("row" : Str)) .nil)) (.int 1)))) (.cons .bad .nil) .nil) (.cons (.forS (.tup [2, 3]) (.enum (.var 1)) f35_0) .nil))⟩
/-- wanted_at -/
def f36 : FnI := ⟨("wanted_at" : Str), [("order" : Str), ("table" : Str), ("at" : Str), ("one" : Str), ("other" : Str), ("low" : Str), ("high" : Str)], [("order" : Str), ("table" : Str), ("at" : Str)], [],
  (.cons (.par [3, 4] (.cons (.idx (.att (.var 0) ("row" : Str)) (.var 2)) (.cons (.idx (.att (.var 0) ("row" : Str)) (.bin .Add (.var 2) (.int 1))) .nil))) (.frz 3 (.frz 4 (.cons (.ife (.and (.cmp .NotEq (.att (.var 0) ("style" : Str)) (.str ("ring" : Str))) (.cmp .In (.bin .Sub (.blt .len (.cons (.att (.var 0) ("row" : Str)) .nil)) (.int 1)) (.tup (.cons (.var 3) (.cons (.var 4) .nil))))) (.cons (.ret (.int 1)) .nil) .nil) (.cons (.par [5, 6] (.cons (.call 31 (.cons (.att (.var 0) ("standing" : Str)) (.cons (.var 3) (.cons (.att (.var 0) ("style" : Str)) .nil)))) (.cons (.call 31 (.cons (.att (.var 0) ("standing" : Str)) (.cons (.var 4) (.cons (.att (.var 0) ("style" : Str)) .nil)))) .nil))) (.frz 5 (.frz 6 (.cons (.ret (.bin .Add (.int 1) (.blt .min (.cons (.slc (.var 1) (.cons (.var 5) .nil) (.cons (.var 6) .nil)) .nil)))) .nil))))))))⟩
/-- is_wrong -/
def f37 : FnI := ⟨("is_wrong" : Str), [("order" : Str), ("table" : Str), ("at" : Str)], [("order" : Str), ("table" : Str), ("at" : Str)], [],
  (.cons (.ife (.cmp .Eq (.idx (.var 1) (.var 2)) (.int 0)) (.cons (.ret (.bl false)) .nil) .nil) (.cons (.ret (.or (.cmp .In (.var 2) (.att (.var 0) ("steep" : Str))) (.cmp .NotEq (.idx (.var 1) (.var 2)) (.call 36 (.cons (.var 0) (.cons (.var 1) (.cons (.var 2) .nil))))))) .nil))⟩
def f38_0 : IL := (.cons (.call 37 (.cons (.var 0) (.cons (.var 1) (.cons (.var 3) .nil)))) .nil)
def f38_1 : IE := (.var 3)
/-- first_wrong -/
def f38 : FnI := ⟨("first_wrong" : Str), [("order" : Str), ("table" : Str), ("found" : Str), ("at" : Str)], [("order" : Str), ("table" : Str)], [],
  (.cons (.asg 2 (.lc [3] (.nm 3) (.rng1 (.blt .len (.cons (.var 1) .nil))) f38_0 f38_1)) (.frz 2 (.cons (.ret (.ite (.cmp .NotEq (.var 2) (.lst .nil)) (.idx (.var 2) (.int 0)) .non)) .nil)))⟩
/-- wrong_at -/
def f39 : FnI := ⟨("wrong_at" : Str), [("order" : Str), ("table" : Str)], [("order" : Str), ("table" : Str)], [],
  (.cons (.expr (.call 33 (.cons (.var 0) .nil))) (.cons (.expr (.call 35 (.cons (.var 0) (.cons (.var 1) .nil)))) (.cons (.ret (.call 38 (.cons (.var 0) (.cons (.var 1) .nil)))) .nil)))⟩
def f40_0 : IB := (.cons (.app 2 (.bin .Add (.idx (.bvar 2) (.neg (.int 1))) (.ite (.cmp .Eq (.var 3) (.int 0)) (.int 1) (.int 0)))) .nil)
/-- text_agreeing -/
def f40 : FnI := ⟨("text_agreeing" : Str), [("order" : Str), ("table" : Str), ("letters" : Str), ("number" : Str)], [("order" : Str), ("table" : Str)], [],
  (.cons (.expr (.call 33 (.cons (.var 0) .nil))) (.cons (.expr (.call 35 (.cons (.var 0) (.cons (.var 1) .nil)))) (.cons (.ife (.cmp .IsNot (.call 38 (.cons (.var 0) (.cons (.var 1) .nil))) .non) (.cons (.ret .non) .nil) .nil) (.cons (.asg 2 (.lst (.cons (.int 0) .nil))) (.cons (.forS (.nm 3) (.seq (.var 1)) f40_0) (.frz 2 (.cons (.ret (.call 34 (.cons (.var 0) (.cons (.var 2) .nil)))) .nil)))))))⟩
/-- certify_agreement -/
def f41 : FnI := ⟨("certify_agreement" : Str), [("order" : Str), ("table" : Str), ("found" : Str), ("told" : Str)], [("order" : Str), ("table" : Str)], [(0, [("table" : Str), ("order" : Str)], [1, 0])],
  (.cons (.asg 2 (.call 39 (.cons (.var 0) (.cons (.var 1) .nil)))) (.frz 2 (.cons (.asg 3 (.tup (.cons (.att (.var 0) ("row" : Str)) (.cons (.att (.var 0) ("style" : Str)) (.cons (.var 1) .nil))))) (.frz 3 (.cons (.ife (.cmp .Is (.var 2) .non) (.cons (.ret (.tup (.cons (.tup (.cons (.str ("agreement" : Str)) (.star (.var 3) .nil))) (.cons (.call 40 (.cons (.var 0) (.cons (.var 1) .nil))) .nil)))) .nil) .nil) (.cons (.ret (.tup (.cons (.tup (.cons (.str ("no agreement" : Str)) (.star (.var 3) .nil))) (.cons (.var 2) .nil)))) .nil))))))⟩
def f42_0 : IB := (.cons (.asg 5 (.ite (.cmp .Eq (.var 1) (.str ("ring" : Str))) (.blt .list (.cons (.slc (.var 0) .nil (.cons (.var 4) .nil)) .nil)) (.var 3))) (.frz 5 (.cons (.app 2 (.bin .Add (.blt .list (.cons (.slc (.var 0) (.cons (.var 4) .nil) .nil) .nil)) (.var 5))) .nil)))
/-- _law_ends -/
def f42 : FnI := ⟨("_law_ends" : Str), [("_law_line" : Str), ("_law_sort" : Str), ("_law_found" : Str), ("_law_past_all" : Str), ("_law_k" : Str), ("_law_tail" : Str)], [("_law_line" : Str), ("_law_sort" : Str)], [],
  (.cons (.par [2, 3] (.cons (.lst .nil) (.cons (.lst (.cons (.ite (.cmp .Eq (.var 1) (.str ("first" : Str))) (.neg (.int 1)) (.bin .Pow (.int 10) (.int 19))) .nil)) .nil))) (.frz 3 (.cons (.forS (.nm 4) (.rng1 (.blt .len (.cons (.var 0) .nil))) f42_0) (.cons (.retv 2) .nil))))⟩
def f43_0 : IE := (.tup (.cons (.var 4) (.cons (.var 3) .nil)))
def f43_1 : IL := (.cons (.cmp .Eq (.idx (.idx (.var 2) (.var 3)) (.int 0)) (.idx (.idx (.var 2) (.bin .Sub (.var 3) (.int 1))) (.int 0))) .nil)
def f43_2 : IE := (.var 3)
def f43_3 : IE := (.var 3)
/-- _law_spots -/
def f43 : FnI := ⟨("_law_spots" : Str), [("_law_line" : Str), ("_law_sort" : Str), ("_law_pairs" : Str), ("_law_k" : Str), ("_law_end" : Str)], [("_law_line" : Str), ("_law_sort" : Str)], [],
  (.cons (.asg 2 (.blt .sorted (.cons (.lc [3, 4] (.tup [3, 4]) (.enum (.call 42 (.cons (.var 0) (.cons (.var 1) .nil)))) .nil f43_0) .nil))) (.frz 2 (.cons (.ife (.cmp .NotEq (.lc [3] (.nm 3) (.rng2 (.int 1) (.blt .len (.cons (.var 2) .nil))) f43_1 f43_2) (.lst .nil)) (.cons (.ret .non) .nil) .nil) (.cons (.ret (.blt .tuple (.cons (.lc [4, 3] (.tup [4, 3]) (.seq (.var 2)) .nil f43_3) .nil))) .nil))))⟩
def f44_0 : IB := (.cons (.app 4 (.ite (.cmp .Eq (.bin .Add (.var 5) (.int 1)) (.var 2)) (.var 3) (.mth .index (.var 0) (.cons (.bin .Add (.var 5) (.int 1)) .nil)))) .nil)
/-- _law_after -/
def f44 : FnI := ⟨("_law_after" : Str), [("_law_spots_here" : Str), ("_law_sort" : Str), ("_law_size" : Str), ("_law_beyond" : Str), ("_law_found" : Str), ("_law_k" : Str)], [("_law_spots_here" : Str), ("_law_sort" : Str)], [],
  (.cons (.asg 2 (.blt .len (.cons (.var 0) .nil))) (.frz 2 (.cons (.asg 3 (.idx (.dct (.cons (.str ("first" : Str)) (.cons (.neg (.int 1)) (.cons (.str ("last" : Str)) (.cons (.var 2) (.cons (.str ("ring" : Str)) (.cons (.mth .index (.var 0) (.cons (.int 0) .nil)) .nil))))))) (.var 1))) (.frz 3 (.cons (.asg 4 (.lst .nil)) (.cons (.forS (.nm 5) (.seq (.var 0)) f44_0) (.cons (.retv 4) .nil)))))))⟩
def f45_0 : IL := (.cons (.cmp .Gt (.idx (.var 2) (.var 3)) (.idx (.var 2) (.bin .Add (.var 3) (.int 1)))) .nil)
def f45_1 : IE := (.var 3)
/-- _law_steep -/
def f45 : FnI := ⟨("_law_steep" : Str), [("_law_spots_here" : Str), ("_law_sort" : Str), ("_law_after_here" : Str), ("_law_k" : Str)], [("_law_spots_here" : Str), ("_law_sort" : Str)], [],
  (.cons (.asg 2 (.call 44 (.cons (.var 0) (.cons (.var 1) .nil)))) (.frz 2 (.cons (.ret (.lc [3] (.nm 3) (.rng1 (.bin .Sub (.blt .len (.cons (.var 0) .nil)) (.int 1))) f45_0 f45_1)) .nil)))⟩
def f46_0 : IB := (.cons (.setL 2 (.idx (.var 0) (.var 5)) (.var 3)) (.cons (.asg 3 (.bin .Add (.var 3) (.blt .int (.cons (.cmp .In (.var 5) (.var 4)) .nil)))) (.frz 3 .nil)))
/-- _law_least -/
def f46 : FnI := ⟨("_law_least" : Str), [("_law_spots_here" : Str), ("_law_sort" : Str), ("_law_found" : Str), ("_law_now" : Str), ("_law_steep_here" : Str), ("_law_k" : Str)], [("_law_spots_here" : Str), ("_law_sort" : Str)], [],
  (.cons (.par [2, 3, 4] (.cons (.bin .Mult (.lst (.cons (.int 0) .nil)) (.blt .len (.cons (.var 0) .nil))) (.cons (.int 0) (.cons (.call 45 (.cons (.var 0) (.cons (.var 1) .nil))) .nil)))) (.frz 3 (.frz 4 (.cons (.forS (.nm 5) (.rng1 (.blt .len (.cons (.var 0) .nil))) f46_0) (.cons (.ret (.blt .tuple (.cons (.bvar 2) .nil))) .nil)))))⟩
def f47_0 : IB := (.cons (.asg 4 (.bin .Add (.var 4) (.call 25 (.cons (.var 0) (.cons (.lst (.cons (.int 0) (.cons (.int 0) (.cons (.int 1) (.cons (.int 2) .nil))))) .nil))))) (.frz 4 (.cons (.setL 3 (.var 5) (.bin .Add (.idx (.bvar 3) (.var 5)) (.var 4))) .nil)))
/-- _law_higher -/
def f47 : FnI := ⟨("_law_higher" : Str), [("_law_jug_here" : Str), ("_law_spots_here" : Str), ("_law_sort" : Str), ("_law_found" : Str), ("_law_more" : Str), ("_law_k" : Str)], [("_law_jug_here" : Str), ("_law_spots_here" : Str), ("_law_sort" : Str)], [],
  (.cons (.par [3, 4] (.cons (.blt .list (.cons (.call 46 (.cons (.var 1) (.cons (.var 2) .nil))) .nil)) (.cons (.int 0) .nil))) (.frz 4 (.cons (.forS (.nm 5) (.seq (.var 1)) f47_0) (.cons (.ret (.blt .tuple (.cons (.bvar 3) .nil))) .nil))))⟩
/-- _law_drawn_spots -/
def f48 : FnI := ⟨("_law_drawn_spots" : Str), [("_law_jug_here" : Str), ("_law_most" : Str)], [("_law_jug_here" : Str), ("_law_most" : Str)], [],
  (.cons (.ret (.blt .tuple (.cons (.call 26 (.cons (.var 0) (.cons (.lrng (.cons (.bin .Add (.int 1) (.call 24 (.cons (.var 0) (.cons (.var 1) .nil)))) .nil)) .nil))) .nil))) .nil)⟩
def f49_0 : IB := (.cons (.ife (.cmp .NotEq (.idx (.var 6) (.var 9)) (.idx (.var 7) (.var 9))) (.cons .brk .nil) .nil) (.cons (.asg 8 (.bin .Add (.var 8) (.int 1))) (.frz 8 .nil)))
def f49_1 : IB := (.cons (.par [6, 7] (.cons (.idx (.var 3) (.idx (.var 1) (.bin .Sub (.var 5) (.int 1)))) (.cons (.idx (.var 3) (.idx (.var 1) (.var 5))) .nil))) (.frz 6 (.frz 7 (.cons (.asg 8 (.int 0)) (.frz 8 (.cons (.forS (.nm 9) (.rng1 (.blt .min (.cons (.blt .len (.cons (.var 6) .nil)) (.cons (.blt .len (.cons (.var 7) .nil)) .nil)))) f49_0) (.cons (.app 4 (.var 8)) .nil)))))))
/-- _law_agree -/
def f49 : FnI := ⟨("_law_agree" : Str), [("_law_line" : Str), ("_law_spots_here" : Str), ("_law_sort" : Str), ("_law_ends_here" : Str), ("_law_found" : Str), ("_law_k" : Str), ("_law_one_here" : Str), ("_law_two" : Str), ("_law_many" : Str), ("_law_at" : Str)], [("_law_line" : Str), ("_law_spots_here" : Str), ("_law_sort" : Str)], [],
  (.cons (.par [3, 4] (.cons (.call 42 (.cons (.var 0) (.cons (.var 2) .nil))) (.cons (.lst .nil) .nil))) (.frz 3 (.cons (.forS (.nm 5) (.rng2 (.int 1) (.blt .len (.cons (.var 1) .nil))) f49_1) (.cons (.ret (.blt .tuple (.cons (.bvar 4) .nil))) .nil))))⟩
/-- _law_is_untrue -/
def f50 : FnI := ⟨("_law_is_untrue" : Str), [("_law_spots_here" : Str), ("_law_sort" : Str), ("_law_table_here" : Str), ("_law_k" : Str), ("_law_after_here" : Str), ("_law_size" : Str)], [("_law_spots_here" : Str), ("_law_sort" : Str), ("_law_table_here" : Str), ("_law_k" : Str)], [],
  (.cons (.par [4, 5] (.cons (.call 44 (.cons (.var 0) (.cons (.var 1) .nil))) (.cons (.blt .len (.cons (.var 0) .nil)) .nil))) (.frz 4 (.frz 5 (.cons (.ife (.cmp .Lt (.idx (.var 2) (.var 3)) (.int 1)) (.cons (.ret (.cmp .Lt (.idx (.var 2) (.var 3)) (.int 0))) .nil) .nil) (.cons (.ife (.cmp .Gt (.idx (.var 4) (.var 3)) (.idx (.var 4) (.bin .Add (.var 3) (.int 1)))) (.cons (.ret (.bl true)) .nil) .nil) (.cons (.ife (.and (.cmp .NotEq (.var 1) (.str ("ring" : Str))) (.cmp .In (.bin .Sub (.var 5) (.int 1)) (.lst (.cons (.idx (.var 0) (.var 3)) (.cons (.idx (.var 0) (.bin .Add (.var 3) (.int 1))) .nil))))) (.cons (.ret (.cmp .NotEq (.idx (.var 2) (.var 3)) (.int 1))) .nil) .nil) (.cons (.ret (.cmp .NotEq (.idx (.var 2) (.var 3)) (.bin .Add (.int 1) (.blt .min (.cons (.slc (.var 2) (.cons (.idx (.var 4) (.var 3)) .nil) (.cons (.idx (.var 4) (.bin .Add (.var 3) (.int 1))) .nil)) .nil))))) .nil)))))))⟩
def f51_0 : IB := (.cons (.asg 3 (.bin .Add (.var 3) (.blt .int (.cons (.and (.cmp .Gt (.var 4) (.int 0)) (.cmp .Eq (.idx (.var 1) (.bin .Sub (.var 4) (.int 1))) (.int 0))) .nil)))) (.frz 3 (.cons (.setL 2 (.idx (.var 0) (.var 4)) (.var 3)) .nil)))
/-- _law_told_apart -/
def f51 : FnI := ⟨("_law_told_apart" : Str), [("_law_spots_here" : Str), ("_law_table_here" : Str), ("_law_found" : Str), ("_law_letter_now" : Str), ("_law_k" : Str)], [("_law_spots_here" : Str), ("_law_table_here" : Str)], [],
  (.cons (.par [2, 3] (.cons (.bin .Mult (.lst (.cons (.int 0) .nil)) (.blt .len (.cons (.var 0) .nil))) (.cons (.int 0) .nil))) (.frz 3 (.cons (.forS (.nm 4) (.rng1 (.blt .len (.cons (.var 0) .nil))) f51_0) (.cons (.ret (.blt .tuple (.cons (.bvar 2) .nil))) .nil))))⟩
def f52_0 : IB := (.cons (.ife (.cmp .NotEq (.bvar 3) (.lst .nil)) (.cons (.setL 3 (.call 24 (.cons (.var 0) (.cons (.blt .len (.cons (.bvar 3) .nil)) .nil))) (.call 25 (.cons (.var 0) (.cons (.lst (.cons (.int 0) (.cons (.int 0) (.cons (.int 1) (.cons (.int 2) (.cons (.int 3) (.cons (.int 5) (.cons (.int 60) .nil)))))))) .nil)))) .nil) .nil) .nil)
/-- _law_table -/
def f52 : FnI := ⟨("_law_table" : Str), [("_law_jug_here" : Str), ("_law_spots_here" : Str), ("_law_sort" : Str), ("_law_found" : Str), ("_law_turn" : Str)], [("_law_jug_here" : Str), ("_law_spots_here" : Str), ("_law_sort" : Str)], [],
  (.cons (.asg 3 (.blt .list (.cons (.call 49 (.cons (.call 47 (.cons (.var 0) (.cons (.var 1) (.cons (.var 2) .nil)))) (.cons (.var 1) (.cons (.var 2) .nil)))) .nil))) (.cons (.forS (.nm 4) (.rng1 (.call 24 (.cons (.var 0) (.cons (.int 3) .nil)))) f52_0) (.cons (.ret (.blt .tuple (.cons (.bvar 3) .nil))) .nil)))⟩
/-- _law_told_right -/
def f53 : FnI := ⟨("_law_told_right" : Str), [("_law_spots_here" : Str), ("_law_sort" : Str), ("_law_table_here" : Str), ("_law_told" : Str), ("_law_said" : Str), ("_law_proof" : Str), ("_law_apart" : Str), ("_law_is_one" : Str), ("_law_against" : Str)], [("_law_spots_here" : Str), ("_law_sort" : Str), ("_law_table_here" : Str), ("_law_told" : Str)], [],
  (.cons (.asgT [4, 5] (.var 3)) (.cons (.asg 6 (.call 51 (.cons (.var 0) (.cons (.var 2) .nil)))) (.frz 6 (.cons (.asg 7 (.and (.cmp .Eq (.call 43 (.cons (.var 6) (.cons (.var 1) .nil))) (.var 0)) (.cmp .Eq (.call 49 (.cons (.var 6) (.cons (.var 0) (.cons (.var 1) .nil)))) (.var 2)))) (.frz 7 (.cons (.ife (.cmp .NotEq (.blt .repr (.cons (.var 4) .nil)) (.blt .repr (.cons (.tup (.cons (.ite (.var 7) (.str ("agreement" : Str)) (.str ("no agreement" : Str))) (.cons (.var 0) (.cons (.var 1) (.cons (.var 2) .nil))))) .nil))) (.cons (.ret (.bl false)) .nil) .nil) (.cons (.ife (.var 7) (.cons (.ife (.cmp .NotEq (.call 43 (.cons (.var 5) (.cons (.var 1) .nil))) (.var 0)) (.cons (.ret (.bl false)) .nil) .nil) (.cons (.ife (.cmp .NotEq (.call 49 (.cons (.var 5) (.cons (.var 0) (.cons (.var 1) .nil)))) (.var 2)) (.cons (.ret (.bl false)) .nil) .nil) .nil)) .nil) (.cons (.ife (.not (.var 7)) (.cons (.ife (.or (.not (.isi (.var 5) .int)) (.not (.cmp2 .LtE .Lt (.int 0) (.var 5) (.blt .len (.cons (.var 2) .nil))))) (.cons (.ret (.bl false)) .nil) .nil) (.cons (.ife (.not (.call 50 (.cons (.var 0) (.cons (.var 1) (.cons (.var 2) (.cons (.var 5) .nil)))))) (.cons (.ret (.bl false)) .nil) .nil) .nil)) .nil) (.cons (.asg 8 (.bin .Add (.tup (.cons (.ite (.var 7) (.str ("no agreement" : Str)) (.str ("agreement" : Str))) .nil)) (.slc (.var 4) (.cons (.int 1) .nil) .nil))) (.frz 8 (.cons (.ret (.and (.cmp .Is (.call 22 (.cons (.var 4) (.cons (.var 5) .nil))) (.bl true)) (.cmp .Is (.call 22 (.cons (.var 8) (.cons (.var 5) .nil))) (.bl false)))) .nil)))))))))))⟩
def f54_0 : IB := (.cons (.par [2, 3] (.cons (.call 48 (.cons (.var 0) (.cons (.int 7) .nil))) (.cons (.call 25 (.cons (.var 0) (.cons (.call 27 .nil) .nil))) .nil))) (.frz 2 (.frz 3 (.cons (.par [4, 5] (.cons (.call 57 (.cons (.var 2) (.cons (.var 3) .nil))) (.cons (.call 52 (.cons (.var 0) (.cons (.var 2) (.cons (.var 3) .nil)))) .nil))) (.frz 4 (.frz 5 (.cons (.asg 6 (.lst (.cons (.call 41 (.cons (.var 4) (.cons (.var 5) .nil))) (.cons (.callK 41 0 .nil (.cons (.var 5) (.cons (.var 4) .nil))) .nil)))) (.frz 6 (.cons (.ife (.or (.cmp .NotEq (.blt .repr (.cons (.idx (.var 6) (.int 0)) .nil)) (.blt .repr (.cons (.idx (.var 6) (.int 1)) .nil))) (.not (.call 53 (.cons (.var 2) (.cons (.var 3) (.cons (.var 5) (.cons (.idx (.var 6) (.int 0)) .nil))))))) (.cons (.ret (.bl false)) .nil) .nil) .nil)))))))))
/-- _law_right -/
def f54 : FnI := ⟨("_law_right" : Str), [("_law_jug_here" : Str), ("_law_turn" : Str), ("_law_spots_here" : Str), ("_law_sort" : Str), ("_law_made" : Str), ("_law_table_here" : Str), ("_law_told" : Str)], [("_law_jug_here" : Str)], [],
  (.cons (.forS (.nm 1) (.rng1 (.int 10)) f54_0) (.cons (.ret (.bl true)) .nil))⟩
def f55_0 : IE := (.call 54 (.cons (.call 23 (.cons (.var 0) (.cons (.var 1) .nil))) .nil))
/-- law -/
def f55 : FnI := ⟨("law" : Str), [("_law_cells" : Str), ("_law_turn" : Str)], [("_law_cells" : Str)], [],
  (.cons (.ret (.blt .all (.cons (.lc [1] (.nm 1) (.rng1 (.blt .max (.cons (.int 2) (.cons (.blt .min (.cons (.blt .len (.cons (.var 0) .nil)) (.cons (.int 4) .nil))) .nil)))) .nil f55_0) .nil))) .nil)⟩
/-- __init__ -/
def f56 : FnI := ⟨("__init__" : Str), [("self" : Str), ("places" : Str), ("kind" : Str)], [("self" : Str), ("places" : Str), ("kind" : Str)], [],
  (.cons (.expr (.call 29 (.cons (.var 1) .nil))) (.cons (.expr (.call 28 (.cons (.var 2) .nil))) (.cons (.asgA [(0, ("row" : Str)), (0, ("style" : Str))] (.tup (.cons (.var 1) (.cons (.var 2) .nil)))) (.cons (.asgA [(0, ("standing" : Str)), (0, ("steep" : Str))] (.tup (.cons (.call 30 (.cons (.var 1) .nil)) (.cons (.call 32 (.cons (.var 1) (.cons (.var 2) .nil))) .nil)))) .nil))))⟩
def pgm : PProg := ⟨[Chk.f0, Chk.f1, Chk.f2, Chk.f3, Chk.f4, Chk.f5, Chk.f6, Chk.f7, Chk.f8, Chk.f9, Chk.f10, Chk.f11, Chk.f12, Chk.f13, Chk.f14, Chk.f15, Chk.f16, Chk.f17, Chk.f18, Chk.f19, Chk.f20, Chk.f21, Chk.f22, Chk.f23, Chk.f24, Chk.f25, Chk.f26, Chk.f27, f28, f29, f30, f31, f32, f33, f34, f35, f36, f37, f38, f39, f40, f41, f42, f43, f44, f45, f46, f47, f48, f49, f50, f51, f52, f53, f54, f55, f56], [(("MOST_PLACES" : Str), (.int 60)), (("MOST_LETTER" : Str), (.int 1000000000000000000)), (("SORTS" : Str), (.tup [(.str ("first" : Str)), (.str ("last" : Str)), (.str ("ring" : Str))])), (("MOST" : Str), (.int 60)), (("GREATEST" : Str), (.int 1000000000000000000)), (("MARK" : Str), (.int (-1))), (("KINDS" : Str), (.tup [(.str ("first" : Str)), (.str ("last" : Str)), (.str ("ring" : Str))]))], [(("SIZES" : Str), [(("order" : Str), (.int 4)), (("no order" : Str), (.int 4)), (("agreement" : Str), (.int 4)), (("no agreement" : Str), (.int 4)), (("column" : Str), (.int 3)), (("no column" : Str), (.int 3))])], [⟨("Order" : Str), 56, [("row" : Str), ("style" : Str), ("standing" : Str), ("steep" : Str)], []⟩]⟩
theorem chk : Chk.P pgm := ⟨⟨_, rfl⟩, ⟨_, rfl⟩, ⟨_, rfl⟩, ⟨_, rfl⟩, ⟨_, rfl⟩, ⟨_, rfl⟩, ⟨_, rfl⟩, ⟨_, rfl⟩, ⟨_, rfl⟩, ⟨_, rfl⟩, ⟨_, rfl⟩, ⟨_, rfl⟩, ⟨_, rfl⟩, ⟨_, rfl⟩, ⟨_, rfl⟩, ⟨_, rfl⟩, ⟨_, rfl⟩, ⟨_, rfl⟩, ⟨_, rfl⟩, ⟨_, rfl⟩, ⟨_, rfl⟩, ⟨_, rfl⟩, ⟨_, rfl⟩, ⟨_, rfl⟩, ⟨_, rfl⟩, ⟨_, rfl⟩, ⟨_, rfl⟩, ⟨_, rfl⟩, ⟨_, rfl⟩, ⟨_, rfl⟩, ⟨_, rfl⟩, ⟨_, rfl⟩, ⟨_, rfl⟩⟩
theorem chk2 : Chk.P2 pgm := ⟨chk, ⟨_, rfl⟩, ⟨_, rfl⟩⟩
def top (i : Nat) : Stmt := PySem.Challenge.pw_endorders_k74_whole_agreements_certified.main.body.getD i (.Pass ⟨0, 0, 0, 0⟩)
def clsBody : Stmt → List Stmt
  | .ClassDef _ _ _ body _ _ _ _ _ _ _ => body
  | _ => []
def mtop (i j : Nat) : Stmt := (clsBody (top i)).getD j (.Pass ⟨0, 0, 0, 0⟩)
def dm (i j : Nat) (c m q : Str) : He.DefD := ⟨(c, some m), m, q, defArgs (mtop i j), defBody (mtop i j), defScope (mtop i j), [], []⟩
def dd (i : Nat) (x : Str) : He.DefD := ⟨(x, none), x, x, defArgs (top i), defBody (top i), defScope (top i), [], []⟩
def d0 : He.DefD := dd 9 ("is_integer" : Str)
theorem g0 : DefG pgm Chk.f0 d0 (atOf pgm 0 Chk.f0) where
  at_ := by kernel_rfl
  dfl := rfl
  kwd := rfl
  sc := ⟨by decide +kernel, by decide +kernel, by decide +kernel, by decide +kernel, by decide +kernel, by decide +kernel, by decide +kernel⟩
  tr := by decide +kernel
  bd := fun K a fd F => ⟨FunD.bindsA F fun _ _ _ _ _ _ us hl => match us, hl with | [_], _ => by kernel_rfl, fun q hq => nomatch hq⟩
def d1 : He.DefD := dd 10 ("is_between" : Str)
theorem g1 : DefG pgm Chk.f1 d1 (atOf pgm 1 Chk.f1) where
  at_ := by kernel_rfl
  dfl := rfl
  kwd := rfl
  sc := ⟨by decide +kernel, by decide +kernel, by decide +kernel, by decide +kernel, by decide +kernel, by decide +kernel, by decide +kernel⟩
  tr := by decide +kernel
  bd := fun K a fd F => ⟨FunD.bindsA F fun _ _ _ _ _ _ us hl => match us, hl with | [_, _, _], _ => by kernel_rfl, fun q hq => nomatch hq⟩
def d2 : He.DefD := dd 11 ("is_letter" : Str)
theorem g2 : DefG pgm Chk.f2 d2 (atOf pgm 2 Chk.f2) where
  at_ := by kernel_rfl
  dfl := rfl
  kwd := rfl
  sc := ⟨by decide +kernel, by decide +kernel, by decide +kernel, by decide +kernel, by decide +kernel, by decide +kernel, by decide +kernel⟩
  tr := by decide +kernel
  bd := fun K a fd F => ⟨FunD.bindsA F fun _ _ _ _ _ _ us hl => match us, hl with | [_], _ => by kernel_rfl, fun q hq => nomatch hq⟩
def d3 : He.DefD := dd 12 ("is_text" : Str)
theorem g3 : DefG pgm Chk.f3 d3 (atOf pgm 3 Chk.f3) where
  at_ := by kernel_rfl
  dfl := rfl
  kwd := rfl
  sc := ⟨by decide +kernel, by decide +kernel, by decide +kernel, by decide +kernel, by decide +kernel, by decide +kernel, by decide +kernel⟩
  tr := by decide +kernel
  bd := fun K a fd F => ⟨FunD.bindsA F fun _ _ _ _ _ _ us hl => match us, hl with | [_], _ => by kernel_rfl, fun q hq => nomatch hq⟩
def d4 : He.DefD := dd 38 ("is_order" : Str)
theorem g4 : DefG pgm Chk.f4 d4 (atOf pgm 4 Chk.f4) where
  at_ := by kernel_rfl
  dfl := rfl
  kwd := rfl
  sc := ⟨by decide +kernel, by decide +kernel, by decide +kernel, by decide +kernel, by decide +kernel, by decide +kernel, by decide +kernel⟩
  tr := by decide +kernel
  bd := fun K a fd F => ⟨FunD.bindsA F fun _ _ _ _ _ _ us hl => match us, hl with | [_], _ => by kernel_rfl, fun q hq => nomatch hq⟩
def d5 : He.DefD := dd 39 ("all_ends" : Str)
theorem g5 : DefG pgm Chk.f5 d5 (atOf pgm 5 Chk.f5) where
  at_ := by kernel_rfl
  dfl := rfl
  kwd := rfl
  sc := ⟨by decide +kernel, by decide +kernel, by decide +kernel, by decide +kernel, by decide +kernel, by decide +kernel, by decide +kernel⟩
  tr := by decide +kernel
  bd := fun K a fd F => ⟨FunD.bindsA F fun _ _ _ _ _ _ us hl => match us, hl with | [_, _], _ => by kernel_rfl, fun q hq => nomatch hq⟩
def d6 : He.DefD := dd 40 ("places_of" : Str)
theorem g6 : DefG pgm Chk.f6 d6 (atOf pgm 6 Chk.f6) where
  at_ := by kernel_rfl
  dfl := rfl
  kwd := rfl
  sc := ⟨by decide +kernel, by decide +kernel, by decide +kernel, by decide +kernel, by decide +kernel, by decide +kernel, by decide +kernel⟩
  tr := by decide +kernel
  bd := fun K a fd F => ⟨FunD.bindsA F fun _ _ _ _ _ _ us hl => match us, hl with | [_, _], _ => by kernel_rfl, fun q hq => nomatch hq⟩
def d7 : He.DefD := dd 41 ("following" : Str)
theorem g7 : DefG pgm Chk.f7 d7 (atOf pgm 7 Chk.f7) where
  at_ := by kernel_rfl
  dfl := rfl
  kwd := rfl
  sc := ⟨by decide +kernel, by decide +kernel, by decide +kernel, by decide +kernel, by decide +kernel, by decide +kernel, by decide +kernel⟩
  tr := by decide +kernel
  bd := fun K a fd F => ⟨FunD.bindsA F fun _ _ _ _ _ _ us hl => match us, hl with | [_, _], _ => by kernel_rfl, fun q hq => nomatch hq⟩
def d8 : He.DefD := dd 42 ("rises_in" : Str)
theorem g8 : DefG pgm Chk.f8 d8 (atOf pgm 8 Chk.f8) where
  at_ := by kernel_rfl
  dfl := rfl
  kwd := rfl
  sc := ⟨by decide +kernel, by decide +kernel, by decide +kernel, by decide +kernel, by decide +kernel, by decide +kernel, by decide +kernel⟩
  tr := by decide +kernel
  bd := fun K a fd F => ⟨FunD.bindsA F fun _ _ _ _ _ _ us hl => match us, hl with | [_, _], _ => by kernel_rfl, fun q hq => nomatch hq⟩
def d9 : He.DefD := dd 43 ("agreement_in" : Str)
theorem g9 : DefG pgm Chk.f9 d9 (atOf pgm 9 Chk.f9) where
  at_ := by kernel_rfl
  dfl := rfl
  kwd := rfl
  sc := ⟨by decide +kernel, by decide +kernel, by decide +kernel, by decide +kernel, by decide +kernel, by decide +kernel, by decide +kernel⟩
  tr := by decide +kernel
  bd := fun K a fd F => ⟨FunD.bindsA F fun _ _ _ _ _ _ us hl => match us, hl with | [_, _, _], _ => by kernel_rfl, fun q hq => nomatch hq⟩
def d10 : He.DefD := dd 44 ("is_untrue" : Str)
theorem g10 : DefG pgm Chk.f10 d10 (atOf pgm 10 Chk.f10) where
  at_ := by kernel_rfl
  dfl := rfl
  kwd := rfl
  sc := ⟨by decide +kernel, by decide +kernel, by decide +kernel, by decide +kernel, by decide +kernel, by decide +kernel, by decide +kernel⟩
  tr := by decide +kernel
  bd := fun K a fd F => ⟨FunD.bindsA F fun _ _ _ _ _ _ us hl => match us, hl with | [_, _, _, _], _ => by kernel_rfl, fun q hq => nomatch hq⟩
def d11 : He.DefD := dd 45 ("are_numbers" : Str)
theorem g11 : DefG pgm Chk.f11 d11 (atOf pgm 11 Chk.f11) where
  at_ := by kernel_rfl
  dfl := rfl
  kwd := rfl
  sc := ⟨by decide +kernel, by decide +kernel, by decide +kernel, by decide +kernel, by decide +kernel, by decide +kernel, by decide +kernel⟩
  tr := by decide +kernel
  bd := fun K a fd F => ⟨FunD.bindsA F fun _ _ _ _ _ _ us hl => match us, hl with | [_], _ => by kernel_rfl, fun q hq => nomatch hq⟩
def d12 : He.DefD := dd 46 ("is_table" : Str)
theorem g12 : DefG pgm Chk.f12 d12 (atOf pgm 12 Chk.f12) where
  at_ := by kernel_rfl
  dfl := rfl
  kwd := rfl
  sc := ⟨by decide +kernel, by decide +kernel, by decide +kernel, by decide +kernel, by decide +kernel, by decide +kernel, by decide +kernel⟩
  tr := by decide +kernel
  bd := fun K a fd F => ⟨FunD.bindsA F fun _ _ _ _ _ _ us hl => match us, hl with | [_, _], _ => by kernel_rfl, fun q hq => nomatch hq⟩
def d13 : He.DefD := dd 47 ("is_rising" : Str)
theorem g13 : DefG pgm Chk.f13 d13 (atOf pgm 13 Chk.f13) where
  at_ := by kernel_rfl
  dfl := rfl
  kwd := rfl
  sc := ⟨by decide +kernel, by decide +kernel, by decide +kernel, by decide +kernel, by decide +kernel, by decide +kernel, by decide +kernel⟩
  tr := by decide +kernel
  bd := fun K a fd F => ⟨FunD.bindsA F fun _ _ _ _ _ _ us hl => match us, hl with | [_], _ => by kernel_rfl, fun q hq => nomatch hq⟩
def d14 : He.DefD := dd 48 ("column_in" : Str)
theorem g14 : DefG pgm Chk.f14 d14 (atOf pgm 14 Chk.f14) where
  at_ := by kernel_rfl
  dfl := rfl
  kwd := rfl
  sc := ⟨by decide +kernel, by decide +kernel, by decide +kernel, by decide +kernel, by decide +kernel, by decide +kernel, by decide +kernel⟩
  tr := by decide +kernel
  bd := fun K a fd F => ⟨FunD.bindsA F fun _ _ _ _ _ _ us hl => match us, hl with | [_, _], _ => by kernel_rfl, fun q hq => nomatch hq⟩
def d15 : He.DefD := dd 49 ("is_row" : Str)
theorem g15 : DefG pgm Chk.f15 d15 (atOf pgm 15 Chk.f15) where
  at_ := by kernel_rfl
  dfl := rfl
  kwd := rfl
  sc := ⟨by decide +kernel, by decide +kernel, by decide +kernel, by decide +kernel, by decide +kernel, by decide +kernel, by decide +kernel⟩
  tr := by decide +kernel
  bd := fun K a fd F => ⟨FunD.bindsA F fun _ _ _ _ _ _ us hl => match us, hl with | [_, _], _ => by kernel_rfl, fun q hq => nomatch hq⟩
def d16 : He.DefD := dd 50 ("step_from" : Str)
theorem g16 : DefG pgm Chk.f16 d16 (atOf pgm 16 Chk.f16) where
  at_ := by kernel_rfl
  dfl := rfl
  kwd := rfl
  sc := ⟨by decide +kernel, by decide +kernel, by decide +kernel, by decide +kernel, by decide +kernel, by decide +kernel, by decide +kernel⟩
  tr := by decide +kernel
  bd := fun K a fd F => ⟨FunD.bindsA F fun _ _ _ _ _ _ us hl => match us, hl with | [_, _, _], _ => by kernel_rfl, fun q hq => nomatch hq⟩
def d17 : He.DefD := dd 51 ("is_short_ring" : Str)
theorem g17 : DefG pgm Chk.f17 d17 (atOf pgm 17 Chk.f17) where
  at_ := by kernel_rfl
  dfl := rfl
  kwd := rfl
  sc := ⟨by decide +kernel, by decide +kernel, by decide +kernel, by decide +kernel, by decide +kernel, by decide +kernel, by decide +kernel⟩
  tr := by decide +kernel
  bd := fun K a fd F => ⟨FunD.bindsA F fun _ _ _ _ _ _ us hl => match us, hl with | [_, _, _], _ => by kernel_rfl, fun q hq => nomatch hq⟩
def d18 : He.DefD := dd 52 ("has_places" : Str)
theorem g18 : DefG pgm Chk.f18 d18 (atOf pgm 18 Chk.f18) where
  at_ := by kernel_rfl
  dfl := rfl
  kwd := rfl
  sc := ⟨by decide +kernel, by decide +kernel, by decide +kernel, by decide +kernel, by decide +kernel, by decide +kernel, by decide +kernel⟩
  tr := by decide +kernel
  bd := fun K a fd F => ⟨FunD.bindsA F fun _ _ _ _ _ _ us hl => match us, hl with | [_, _, _], _ => by kernel_rfl, fun q hq => nomatch hq⟩
def d19 : He.DefD := dd 53 ("accepts_order" : Str)
theorem g19 : DefG pgm Chk.f19 d19 (atOf pgm 19 Chk.f19) where
  at_ := by kernel_rfl
  dfl := rfl
  kwd := rfl
  sc := ⟨by decide +kernel, by decide +kernel, by decide +kernel, by decide +kernel, by decide +kernel, by decide +kernel, by decide +kernel⟩
  tr := by decide +kernel
  bd := fun K a fd F => ⟨FunD.bindsA F fun _ _ _ _ _ _ us hl => match us, hl with | [_, _], _ => by kernel_rfl, fun q hq => nomatch hq⟩
def d20 : He.DefD := dd 54 ("accepts_agreement" : Str)
theorem g20 : DefG pgm Chk.f20 d20 (atOf pgm 20 Chk.f20) where
  at_ := by kernel_rfl
  dfl := rfl
  kwd := rfl
  sc := ⟨by decide +kernel, by decide +kernel, by decide +kernel, by decide +kernel, by decide +kernel, by decide +kernel, by decide +kernel⟩
  tr := by decide +kernel
  bd := fun K a fd F => ⟨FunD.bindsA F fun _ _ _ _ _ _ us hl => match us, hl with | [_, _], _ => by kernel_rfl, fun q hq => nomatch hq⟩
def d21 : He.DefD := dd 55 ("accepts_column" : Str)
theorem g21 : DefG pgm Chk.f21 d21 (atOf pgm 21 Chk.f21) where
  at_ := by kernel_rfl
  dfl := rfl
  kwd := rfl
  sc := ⟨by decide +kernel, by decide +kernel, by decide +kernel, by decide +kernel, by decide +kernel, by decide +kernel, by decide +kernel⟩
  tr := by decide +kernel
  bd := fun K a fd F => ⟨FunD.bindsA F fun _ _ _ _ _ _ us hl => match us, hl with | [_, _], _ => by kernel_rfl, fun q hq => nomatch hq⟩
def d22 : He.DefD := dd 56 ("accepts" : Str)
theorem g22 : DefG pgm Chk.f22 d22 (atOf pgm 22 Chk.f22) where
  at_ := by kernel_rfl
  dfl := rfl
  kwd := rfl
  sc := ⟨by decide +kernel, by decide +kernel, by decide +kernel, by decide +kernel, by decide +kernel, by decide +kernel, by decide +kernel⟩
  tr := by decide +kernel
  bd := fun K a fd F => ⟨FunD.bindsA F fun _ _ _ _ _ _ us hl => match us, hl with | [_, _], _ => by kernel_rfl, fun q hq => nomatch hq⟩
def d23 : He.DefD := dd 58 ("_law_jug" : Str)
theorem g23 : DefG pgm Chk.f23 d23 (atOf pgm 23 Chk.f23) where
  at_ := by kernel_rfl
  dfl := rfl
  kwd := rfl
  sc := ⟨by decide +kernel, by decide +kernel, by decide +kernel, by decide +kernel, by decide +kernel, by decide +kernel, by decide +kernel⟩
  tr := by decide +kernel
  bd := fun K a fd F => ⟨FunD.bindsA F fun _ _ _ _ _ _ us hl => match us, hl with | [_, _], _ => by kernel_rfl, fun q hq => nomatch hq⟩
def d24 : He.DefD := dd 59 ("_law_swig" : Str)
theorem g24 : DefG pgm Chk.f24 d24 (atOf pgm 24 Chk.f24) where
  at_ := by kernel_rfl
  dfl := rfl
  kwd := rfl
  sc := ⟨by decide +kernel, by decide +kernel, by decide +kernel, by decide +kernel, by decide +kernel, by decide +kernel, by decide +kernel⟩
  tr := by decide +kernel
  bd := fun K a fd F => ⟨FunD.bindsA F fun _ _ _ _ _ _ us hl => match us, hl with | [_, _], _ => by kernel_rfl, fun q hq => nomatch hq⟩
def d25 : He.DefD := dd 60 ("_law_one" : Str)
theorem g25 : DefG pgm Chk.f25 d25 (atOf pgm 25 Chk.f25) where
  at_ := by kernel_rfl
  dfl := rfl
  kwd := rfl
  sc := ⟨by decide +kernel, by decide +kernel, by decide +kernel, by decide +kernel, by decide +kernel, by decide +kernel, by decide +kernel⟩
  tr := by decide +kernel
  bd := fun K a fd F => ⟨FunD.bindsA F fun _ _ _ _ _ _ us hl => match us, hl with | [_, _], _ => by kernel_rfl, fun q hq => nomatch hq⟩
def d26 : He.DefD := dd 61 ("_law_shuffled" : Str)
theorem g26 : DefG pgm Chk.f26 d26 (atOf pgm 26 Chk.f26) where
  at_ := by kernel_rfl
  dfl := rfl
  kwd := rfl
  sc := ⟨by decide +kernel, by decide +kernel, by decide +kernel, by decide +kernel, by decide +kernel, by decide +kernel, by decide +kernel⟩
  tr := by decide +kernel
  bd := fun K a fd F => ⟨FunD.bindsA F fun _ _ _ _ _ _ us hl => match us, hl with | [_, _], _ => by kernel_rfl, fun q hq => nomatch hq⟩
def d27 : He.DefD := dd 62 ("_law_sorts" : Str)
theorem g27 : DefG pgm Chk.f27 d27 (atOf pgm 27 Chk.f27) where
  at_ := by kernel_rfl
  dfl := rfl
  kwd := rfl
  sc := ⟨by decide +kernel, by decide +kernel, by decide +kernel, by decide +kernel, by decide +kernel, by decide +kernel, by decide +kernel⟩
  tr := by decide +kernel
  bd := fun K a fd F => ⟨FunD.bindsA F fun _ _ _ _ _ _ us hl => match us, hl with | [], _ => by kernel_rfl, fun q hq => nomatch hq⟩
def d28 : He.DefD := dd 15 ("check_kind" : Str)
theorem g28 : DefG pgm f28 d28 (atOf pgm 28 f28) where
  at_ := by kernel_rfl
  dfl := rfl
  kwd := rfl
  sc := ⟨by decide +kernel, by decide +kernel, by decide +kernel, by decide +kernel, by decide +kernel, by decide +kernel, by decide +kernel⟩
  tr := by decide +kernel
  bd := fun K a fd F => ⟨FunD.bindsA F fun _ _ _ _ _ _ us hl => match us, hl with | [_], _ => by kernel_rfl, fun q hq => nomatch hq⟩
def d29 : He.DefD := dd 16 ("check_places" : Str)
theorem g29 : DefG pgm f29 d29 (atOf pgm 29 f29) where
  at_ := by kernel_rfl
  dfl := rfl
  kwd := rfl
  sc := ⟨by decide +kernel, by decide +kernel, by decide +kernel, by decide +kernel, by decide +kernel, by decide +kernel, by decide +kernel⟩
  tr := by decide +kernel
  bd := fun K a fd F => ⟨FunD.bindsA F fun _ _ _ _ _ _ us hl => match us, hl with | [_], _ => by kernel_rfl, fun q hq => nomatch hq⟩
def d30 : He.DefD := dd 17 ("ranks_of" : Str)
theorem g30 : DefG pgm f30 d30 (atOf pgm 30 f30) where
  at_ := by kernel_rfl
  dfl := rfl
  kwd := rfl
  sc := ⟨by decide +kernel, by decide +kernel, by decide +kernel, by decide +kernel, by decide +kernel, by decide +kernel, by decide +kernel⟩
  tr := by decide +kernel
  bd := fun K a fd F => ⟨FunD.bindsA F fun _ _ _ _ _ _ us hl => match us, hl with | [_], _ => by kernel_rfl, fun q hq => nomatch hq⟩
def d31 : He.DefD := dd 18 ("next_rank" : Str)
theorem g31 : DefG pgm f31 d31 (atOf pgm 31 f31) where
  at_ := by kernel_rfl
  dfl := rfl
  kwd := rfl
  sc := ⟨by decide +kernel, by decide +kernel, by decide +kernel, by decide +kernel, by decide +kernel, by decide +kernel, by decide +kernel⟩
  tr := by decide +kernel
  bd := fun K a fd F => ⟨FunD.bindsA F fun _ _ _ _ _ _ us hl => match us, hl with | [_, _, _], _ => by kernel_rfl, fun q hq => nomatch hq⟩
def d32 : He.DefD := dd 19 ("rises_of" : Str)
theorem g32 : DefG pgm f32 d32 (atOf pgm 32 f32) where
  at_ := by kernel_rfl
  dfl := rfl
  kwd := rfl
  sc := ⟨by decide +kernel, by decide +kernel, by decide +kernel, by decide +kernel, by decide +kernel, by decide +kernel, by decide +kernel⟩
  tr := by decide +kernel
  bd := fun K a fd F => ⟨FunD.bindsA F fun _ _ _ _ _ _ us hl => match us, hl with | [_, _], _ => by kernel_rfl, fun q hq => nomatch hq⟩
def d33 : He.DefD := dd 21 ("check_order" : Str)
theorem g33 : DefG pgm f33 d33 (atOf pgm 33 f33) where
  at_ := by kernel_rfl
  dfl := rfl
  kwd := rfl
  sc := ⟨by decide +kernel, by decide +kernel, by decide +kernel, by decide +kernel, by decide +kernel, by decide +kernel, by decide +kernel⟩
  tr := by decide +kernel
  bd := fun K a fd F => ⟨FunD.bindsA F fun _ _ _ _ _ _ us hl => match us, hl with | [_], _ => by kernel_rfl, fun q hq => nomatch hq⟩
def d34 : He.DefD := dd 22 ("put_along" : Str)
theorem g34 : DefG pgm f34 d34 (atOf pgm 34 f34) where
  at_ := by kernel_rfl
  dfl := rfl
  kwd := rfl
  sc := ⟨by decide +kernel, by decide +kernel, by decide +kernel, by decide +kernel, by decide +kernel, by decide +kernel, by decide +kernel⟩
  tr := by decide +kernel
  bd := fun K a fd F => ⟨FunD.bindsA F fun _ _ _ _ _ _ us hl => match us, hl with | [_, _], _ => by kernel_rfl, fun q hq => nomatch hq⟩
def d35 : He.DefD := dd 24 ("check_table" : Str)
theorem g35 : DefG pgm f35 d35 (atOf pgm 35 f35) where
  at_ := by kernel_rfl
  dfl := rfl
  kwd := rfl
  sc := ⟨by decide +kernel, by decide +kernel, by decide +kernel, by decide +kernel, by decide +kernel, by decide +kernel, by decide +kernel⟩
  tr := by decide +kernel
  bd := fun K a fd F => ⟨FunD.bindsA F fun _ _ _ _ _ _ us hl => match us, hl with | [_, _], _ => by kernel_rfl, fun q hq => nomatch hq⟩
def d36 : He.DefD := dd 25 ("wanted_at" : Str)
theorem g36 : DefG pgm f36 d36 (atOf pgm 36 f36) where
  at_ := by kernel_rfl
  dfl := rfl
  kwd := rfl
  sc := ⟨by decide +kernel, by decide +kernel, by decide +kernel, by decide +kernel, by decide +kernel, by decide +kernel, by decide +kernel⟩
  tr := by decide +kernel
  bd := fun K a fd F => ⟨FunD.bindsA F fun _ _ _ _ _ _ us hl => match us, hl with | [_, _, _], _ => by kernel_rfl, fun q hq => nomatch hq⟩
def d37 : He.DefD := dd 26 ("is_wrong" : Str)
theorem g37 : DefG pgm f37 d37 (atOf pgm 37 f37) where
  at_ := by kernel_rfl
  dfl := rfl
  kwd := rfl
  sc := ⟨by decide +kernel, by decide +kernel, by decide +kernel, by decide +kernel, by decide +kernel, by decide +kernel, by decide +kernel⟩
  tr := by decide +kernel
  bd := fun K a fd F => ⟨FunD.bindsA F fun _ _ _ _ _ _ us hl => match us, hl with | [_, _, _], _ => by kernel_rfl, fun q hq => nomatch hq⟩
def d38 : He.DefD := dd 27 ("first_wrong" : Str)
theorem g38 : DefG pgm f38 d38 (atOf pgm 38 f38) where
  at_ := by kernel_rfl
  dfl := rfl
  kwd := rfl
  sc := ⟨by decide +kernel, by decide +kernel, by decide +kernel, by decide +kernel, by decide +kernel, by decide +kernel, by decide +kernel⟩
  tr := by decide +kernel
  bd := fun K a fd F => ⟨FunD.bindsA F fun _ _ _ _ _ _ us hl => match us, hl with | [_, _], _ => by kernel_rfl, fun q hq => nomatch hq⟩
def d39 : He.DefD := dd 28 ("wrong_at" : Str)
theorem g39 : DefG pgm f39 d39 (atOf pgm 39 f39) where
  at_ := by kernel_rfl
  dfl := rfl
  kwd := rfl
  sc := ⟨by decide +kernel, by decide +kernel, by decide +kernel, by decide +kernel, by decide +kernel, by decide +kernel, by decide +kernel⟩
  tr := by decide +kernel
  bd := fun K a fd F => ⟨FunD.bindsA F fun _ _ _ _ _ _ us hl => match us, hl with | [_, _], _ => by kernel_rfl, fun q hq => nomatch hq⟩
def d40 : He.DefD := dd 29 ("text_agreeing" : Str)
theorem g40 : DefG pgm f40 d40 (atOf pgm 40 f40) where
  at_ := by kernel_rfl
  dfl := rfl
  kwd := rfl
  sc := ⟨by decide +kernel, by decide +kernel, by decide +kernel, by decide +kernel, by decide +kernel, by decide +kernel, by decide +kernel⟩
  tr := by decide +kernel
  bd := fun K a fd F => ⟨FunD.bindsA F fun _ _ _ _ _ _ us hl => match us, hl with | [_, _], _ => by kernel_rfl, fun q hq => nomatch hq⟩
def d41 : He.DefD := dd 31 ("certify_agreement" : Str)
theorem g41 : DefG pgm f41 d41 (atOf pgm 41 f41) where
  at_ := by kernel_rfl
  dfl := rfl
  kwd := rfl
  sc := ⟨by decide +kernel, by decide +kernel, by decide +kernel, by decide +kernel, by decide +kernel, by decide +kernel, by decide +kernel⟩
  tr := by decide +kernel
  bd := fun K a fd F => ⟨FunD.bindsA F fun _ _ _ _ _ _ us hl => match us, hl with | [_, _], _ => by kernel_rfl, fun q hq => by
    rcases List.mem_cons.mp hq with e | hq
    · subst e
      exact FunD.bindK F fun _ _ _ _ _ _ us ws h1 h2 => match us, ws, h1, h2 with | [], [_, _], _, _ => by kernel_rfl
    · cases hq⟩
def d42 : He.DefD := dd 63 ("_law_ends" : Str)
theorem g42 : DefG pgm f42 d42 (atOf pgm 42 f42) where
  at_ := by kernel_rfl
  dfl := rfl
  kwd := rfl
  sc := ⟨by decide +kernel, by decide +kernel, by decide +kernel, by decide +kernel, by decide +kernel, by decide +kernel, by decide +kernel⟩
  tr := by decide +kernel
  bd := fun K a fd F => ⟨FunD.bindsA F fun _ _ _ _ _ _ us hl => match us, hl with | [_, _], _ => by kernel_rfl, fun q hq => nomatch hq⟩
def d43 : He.DefD := dd 64 ("_law_spots" : Str)
theorem g43 : DefG pgm f43 d43 (atOf pgm 43 f43) where
  at_ := by kernel_rfl
  dfl := rfl
  kwd := rfl
  sc := ⟨by decide +kernel, by decide +kernel, by decide +kernel, by decide +kernel, by decide +kernel, by decide +kernel, by decide +kernel⟩
  tr := by decide +kernel
  bd := fun K a fd F => ⟨FunD.bindsA F fun _ _ _ _ _ _ us hl => match us, hl with | [_, _], _ => by kernel_rfl, fun q hq => nomatch hq⟩
def d44 : He.DefD := dd 65 ("_law_after" : Str)
theorem g44 : DefG pgm f44 d44 (atOf pgm 44 f44) where
  at_ := by kernel_rfl
  dfl := rfl
  kwd := rfl
  sc := ⟨by decide +kernel, by decide +kernel, by decide +kernel, by decide +kernel, by decide +kernel, by decide +kernel, by decide +kernel⟩
  tr := by decide +kernel
  bd := fun K a fd F => ⟨FunD.bindsA F fun _ _ _ _ _ _ us hl => match us, hl with | [_, _], _ => by kernel_rfl, fun q hq => nomatch hq⟩
def d45 : He.DefD := dd 66 ("_law_steep" : Str)
theorem g45 : DefG pgm f45 d45 (atOf pgm 45 f45) where
  at_ := by kernel_rfl
  dfl := rfl
  kwd := rfl
  sc := ⟨by decide +kernel, by decide +kernel, by decide +kernel, by decide +kernel, by decide +kernel, by decide +kernel, by decide +kernel⟩
  tr := by decide +kernel
  bd := fun K a fd F => ⟨FunD.bindsA F fun _ _ _ _ _ _ us hl => match us, hl with | [_, _], _ => by kernel_rfl, fun q hq => nomatch hq⟩
def d46 : He.DefD := dd 67 ("_law_least" : Str)
theorem g46 : DefG pgm f46 d46 (atOf pgm 46 f46) where
  at_ := by kernel_rfl
  dfl := rfl
  kwd := rfl
  sc := ⟨by decide +kernel, by decide +kernel, by decide +kernel, by decide +kernel, by decide +kernel, by decide +kernel, by decide +kernel⟩
  tr := by decide +kernel
  bd := fun K a fd F => ⟨FunD.bindsA F fun _ _ _ _ _ _ us hl => match us, hl with | [_, _], _ => by kernel_rfl, fun q hq => nomatch hq⟩
def d47 : He.DefD := dd 68 ("_law_higher" : Str)
theorem g47 : DefG pgm f47 d47 (atOf pgm 47 f47) where
  at_ := by kernel_rfl
  dfl := rfl
  kwd := rfl
  sc := ⟨by decide +kernel, by decide +kernel, by decide +kernel, by decide +kernel, by decide +kernel, by decide +kernel, by decide +kernel⟩
  tr := by decide +kernel
  bd := fun K a fd F => ⟨FunD.bindsA F fun _ _ _ _ _ _ us hl => match us, hl with | [_, _, _], _ => by kernel_rfl, fun q hq => nomatch hq⟩
def d48 : He.DefD := dd 69 ("_law_drawn_spots" : Str)
theorem g48 : DefG pgm f48 d48 (atOf pgm 48 f48) where
  at_ := by kernel_rfl
  dfl := rfl
  kwd := rfl
  sc := ⟨by decide +kernel, by decide +kernel, by decide +kernel, by decide +kernel, by decide +kernel, by decide +kernel, by decide +kernel⟩
  tr := by decide +kernel
  bd := fun K a fd F => ⟨FunD.bindsA F fun _ _ _ _ _ _ us hl => match us, hl with | [_, _], _ => by kernel_rfl, fun q hq => nomatch hq⟩
def d49 : He.DefD := dd 70 ("_law_agree" : Str)
theorem g49 : DefG pgm f49 d49 (atOf pgm 49 f49) where
  at_ := by kernel_rfl
  dfl := rfl
  kwd := rfl
  sc := ⟨by decide +kernel, by decide +kernel, by decide +kernel, by decide +kernel, by decide +kernel, by decide +kernel, by decide +kernel⟩
  tr := by decide +kernel
  bd := fun K a fd F => ⟨FunD.bindsA F fun _ _ _ _ _ _ us hl => match us, hl with | [_, _, _], _ => by kernel_rfl, fun q hq => nomatch hq⟩
def d50 : He.DefD := dd 71 ("_law_is_untrue" : Str)
theorem g50 : DefG pgm f50 d50 (atOf pgm 50 f50) where
  at_ := by kernel_rfl
  dfl := rfl
  kwd := rfl
  sc := ⟨by decide +kernel, by decide +kernel, by decide +kernel, by decide +kernel, by decide +kernel, by decide +kernel, by decide +kernel⟩
  tr := by decide +kernel
  bd := fun K a fd F => ⟨FunD.bindsA F fun _ _ _ _ _ _ us hl => match us, hl with | [_, _, _, _], _ => by kernel_rfl, fun q hq => nomatch hq⟩
def d51 : He.DefD := dd 72 ("_law_told_apart" : Str)
theorem g51 : DefG pgm f51 d51 (atOf pgm 51 f51) where
  at_ := by kernel_rfl
  dfl := rfl
  kwd := rfl
  sc := ⟨by decide +kernel, by decide +kernel, by decide +kernel, by decide +kernel, by decide +kernel, by decide +kernel, by decide +kernel⟩
  tr := by decide +kernel
  bd := fun K a fd F => ⟨FunD.bindsA F fun _ _ _ _ _ _ us hl => match us, hl with | [_, _], _ => by kernel_rfl, fun q hq => nomatch hq⟩
def d52 : He.DefD := dd 73 ("_law_table" : Str)
theorem g52 : DefG pgm f52 d52 (atOf pgm 52 f52) where
  at_ := by kernel_rfl
  dfl := rfl
  kwd := rfl
  sc := ⟨by decide +kernel, by decide +kernel, by decide +kernel, by decide +kernel, by decide +kernel, by decide +kernel, by decide +kernel⟩
  tr := by decide +kernel
  bd := fun K a fd F => ⟨FunD.bindsA F fun _ _ _ _ _ _ us hl => match us, hl with | [_, _, _], _ => by kernel_rfl, fun q hq => nomatch hq⟩
def d53 : He.DefD := dd 74 ("_law_told_right" : Str)
theorem g53 : DefG pgm f53 d53 (atOf pgm 53 f53) where
  at_ := by kernel_rfl
  dfl := rfl
  kwd := rfl
  sc := ⟨by decide +kernel, by decide +kernel, by decide +kernel, by decide +kernel, by decide +kernel, by decide +kernel, by decide +kernel⟩
  tr := by decide +kernel
  bd := fun K a fd F => ⟨FunD.bindsA F fun _ _ _ _ _ _ us hl => match us, hl with | [_, _, _, _], _ => by kernel_rfl, fun q hq => nomatch hq⟩
def d54 : He.DefD := dd 75 ("_law_right" : Str)
theorem g54 : DefG pgm f54 d54 (atOf pgm 54 f54) where
  at_ := by kernel_rfl
  dfl := rfl
  kwd := rfl
  sc := ⟨by decide +kernel, by decide +kernel, by decide +kernel, by decide +kernel, by decide +kernel, by decide +kernel, by decide +kernel⟩
  tr := by decide +kernel
  bd := fun K a fd F => ⟨FunD.bindsA F fun _ _ _ _ _ _ us hl => match us, hl with | [_], _ => by kernel_rfl, fun q hq => nomatch hq⟩
def d55 : He.DefD := dd 76 ("law" : Str)
theorem g55 : DefG pgm f55 d55 (atOf pgm 55 f55) where
  at_ := by kernel_rfl
  dfl := rfl
  kwd := rfl
  sc := ⟨by decide +kernel, by decide +kernel, by decide +kernel, by decide +kernel, by decide +kernel, by decide +kernel, by decide +kernel⟩
  tr := by decide +kernel
  bd := fun K a fd F => ⟨FunD.bindsA F fun _ _ _ _ _ _ us hl => match us, hl with | [_], _ => by kernel_rfl, fun q hq => nomatch hq⟩
def d56 : He.DefD := dm 20 0 ("Order" : Str) ("__init__" : Str) ("Order.__init__" : Str)
theorem g56 : DefG pgm f56 d56 (atOf pgm 56 f56) where
  at_ := by kernel_rfl
  dfl := rfl
  kwd := rfl
  sc := ⟨by decide +kernel, by decide +kernel, by decide +kernel, by decide +kernel, by decide +kernel, by decide +kernel, by decide +kernel⟩
  tr := by decide +kernel
  bd := fun K a fd F => ⟨FunD.bindsA F fun _ _ _ _ _ _ us hl => match us, hl with | [_, _, _], _ => by kernel_rfl, fun q hq => nomatch hq⟩
def fn : List He.DefD := [d0, d1, d2, d3, d4, d5, d6, d7, d8, d9, d10, d11, d12, d13, d14, d15, d16, d17, d18, d19, d20, d21, d22, d23, d24, d25, d26, d27, d28, d29, d30, d31, d32, d33, d34, d35, d36, d37, d38, d39, d40, d41, d42, d43, d44, d45, d46, d47, d48, d49, d50, d51, d52, d53, d54, d55, d56]
theorem hD : ∀ (f : Nat) fi, pgm.fns[f]? = some fi → ∃ d, fn[f]? = some d ∧ DefG pgm fi d (atOf pgm f fi)
  | 0, _, rfl => ⟨d0, rfl, g0⟩
  | 1, _, rfl => ⟨d1, rfl, g1⟩
  | 2, _, rfl => ⟨d2, rfl, g2⟩
  | 3, _, rfl => ⟨d3, rfl, g3⟩
  | 4, _, rfl => ⟨d4, rfl, g4⟩
  | 5, _, rfl => ⟨d5, rfl, g5⟩
  | 6, _, rfl => ⟨d6, rfl, g6⟩
  | 7, _, rfl => ⟨d7, rfl, g7⟩
  | 8, _, rfl => ⟨d8, rfl, g8⟩
  | 9, _, rfl => ⟨d9, rfl, g9⟩
  | 10, _, rfl => ⟨d10, rfl, g10⟩
  | 11, _, rfl => ⟨d11, rfl, g11⟩
  | 12, _, rfl => ⟨d12, rfl, g12⟩
  | 13, _, rfl => ⟨d13, rfl, g13⟩
  | 14, _, rfl => ⟨d14, rfl, g14⟩
  | 15, _, rfl => ⟨d15, rfl, g15⟩
  | 16, _, rfl => ⟨d16, rfl, g16⟩
  | 17, _, rfl => ⟨d17, rfl, g17⟩
  | 18, _, rfl => ⟨d18, rfl, g18⟩
  | 19, _, rfl => ⟨d19, rfl, g19⟩
  | 20, _, rfl => ⟨d20, rfl, g20⟩
  | 21, _, rfl => ⟨d21, rfl, g21⟩
  | 22, _, rfl => ⟨d22, rfl, g22⟩
  | 23, _, rfl => ⟨d23, rfl, g23⟩
  | 24, _, rfl => ⟨d24, rfl, g24⟩
  | 25, _, rfl => ⟨d25, rfl, g25⟩
  | 26, _, rfl => ⟨d26, rfl, g26⟩
  | 27, _, rfl => ⟨d27, rfl, g27⟩
  | 28, _, rfl => ⟨d28, rfl, g28⟩
  | 29, _, rfl => ⟨d29, rfl, g29⟩
  | 30, _, rfl => ⟨d30, rfl, g30⟩
  | 31, _, rfl => ⟨d31, rfl, g31⟩
  | 32, _, rfl => ⟨d32, rfl, g32⟩
  | 33, _, rfl => ⟨d33, rfl, g33⟩
  | 34, _, rfl => ⟨d34, rfl, g34⟩
  | 35, _, rfl => ⟨d35, rfl, g35⟩
  | 36, _, rfl => ⟨d36, rfl, g36⟩
  | 37, _, rfl => ⟨d37, rfl, g37⟩
  | 38, _, rfl => ⟨d38, rfl, g38⟩
  | 39, _, rfl => ⟨d39, rfl, g39⟩
  | 40, _, rfl => ⟨d40, rfl, g40⟩
  | 41, _, rfl => ⟨d41, rfl, g41⟩
  | 42, _, rfl => ⟨d42, rfl, g42⟩
  | 43, _, rfl => ⟨d43, rfl, g43⟩
  | 44, _, rfl => ⟨d44, rfl, g44⟩
  | 45, _, rfl => ⟨d45, rfl, g45⟩
  | 46, _, rfl => ⟨d46, rfl, g46⟩
  | 47, _, rfl => ⟨d47, rfl, g47⟩
  | 48, _, rfl => ⟨d48, rfl, g48⟩
  | 49, _, rfl => ⟨d49, rfl, g49⟩
  | 50, _, rfl => ⟨d50, rfl, g50⟩
  | 51, _, rfl => ⟨d51, rfl, g51⟩
  | 52, _, rfl => ⟨d52, rfl, g52⟩
  | 53, _, rfl => ⟨d53, rfl, g53⟩
  | 54, _, rfl => ⟨d54, rfl, g54⟩
  | 55, _, rfl => ⟨d55, rfl, g55⟩
  | 56, _, rfl => ⟨d56, rfl, g56⟩
  | n + 57, fi, h => by simp [pgm] at h
end K74

set_option Elab.async false
set_option linter.all false
set_option maxRecDepth 100000
set_option maxHeartbeats 4000000
/-! ChkL: the end that the laws share: all turns right. -/
namespace Chk
open PySem Py
@[simp] theorem wipe_nil {e : PEnv} : wipeE e [] = e := Eq.trans rfl rfl
@[simp] theorem wipe_cons {e : PEnv} {v : Nat} {vs : List Nat} : wipeE e (v :: vs) = (wipeE e vs).set v none := Eq.trans rfl rfl
def lawE (ri : Nat) : IE := .call ri (.cons (.call 23 (.cons (.var 0) (.cons (.var 1) .nil))) .nil)
def lawB (ri : Nat) (M : Int) : IB := .cons (.ret (.blt .all (.cons (.lc [1] (.nm 1) (.rng1 (.blt .max (.cons (.int 2) (.cons (.blt .min (.cons (.blt .len (.cons (.var 0) .nil)) (.cons (.int M) .nil))) .nil)))) .nil (lawE ri)) .nil))) .nil
theorem rng_mem {x : PV} : ∀ {n : Nat} {lo : Int}, x ∈ rngP lo n → ∃ t : Nat, t < n ∧ x = .int (lo + t)
  | 0, lo, h => by cases h
  | n + 1, lo, h => by
    unfold rngP at h
    rcases List.mem_cons.mp h with h | h
    · exact ⟨0, by omega, by rw [h]; simp⟩
    · obtain ⟨t, ht, e⟩ := rng_mem h
      exact ⟨t + 1, by omega, by rw [e]; congr 1; omega⟩
theorem pbls_rep (n : Nat) : pbls (List.replicate n (.bl true)) = some (List.replicate n true) := by
  induction n with
  | zero => rfl
  | succ n ih => rw [List.replicate_succ, pbls, ih]; rfl
theorem law_all {pg : PProg} (h : P pg) {n li ri : Nat} {M : Nat} {fi : FnI} (hM : M ≤ 100) (hM0 : 2 ≤ M) (hf : pg.fns[li]? = some fi) (hp : fi.params.length = 1) (hN : fi.names.length = 2) (hb : fi.body = lawB ri M)
    (right : ∀ ph k, Jug ph k → ∃ ph', callN pg (n + 1) ri [.box k] ph = .ok (.bl true, false) ph') (ns : List Int) (hn : ns.length ≤ 63) :
    ∃ ph, callN pg (n + 2) li [.scr (ns.map .int)] [] = .ok (.bl true, false) ph := by
  rw [call_eq hf (by rw [hp]; rfl), hb, hN]
  have st : startE 2 [.scr (ns.map PV.int)] = [some (.scr (ns.map PV.int), false), none] := rfl
  rw [st]
  obtain ⟨m, hm, hm2, e⟩ : ∃ m : Nat, m ≤ 100 ∧ m < 1000 ∧ (if (if (M : Int) < (ns.length : Int) then (M : Int) else (ns.length : Int)) > 2 then (if (M : Int) < (ns.length : Int) then (M : Int) else (ns.length : Int)) else 2) = (m : Int) := by
    by_cases c : (M : Int) < ns.length
    · exact ⟨M, hM, by omega, by rw [if_pos c]; split <;> omega⟩
    · rw [if_neg c]
      by_cases c2 : 2 < ns.length
      · exact ⟨ns.length, by omega, by omega, by rw [if_pos (by omega)]⟩
      · exact ⟨2, by omega, by omega, by rw [if_neg (by omega)]; rfl⟩
  obtain ⟨ph', hl⟩ := lcL_any (pg := pg) (cl := callN pg (n + 1)) (own := [1]) (tg := .nm 1) (cond := .nil) (elt := lawE ri) (env := [some (.scr (ns.map PV.int), false), none]) (v := .bl true) (xs := rngP 0 m) (ph := []) fun x hx ph => by
    obtain ⟨t, ht, rfl⟩ := rng_mem hx
    obtain ⟨p1, hp1, _, hj, e1⟩ := jug h (n := n) (ph := ph) hn (t := t) (by omega)
    obtain ⟨p2, e2⟩ := right p1 ph.length hj
    refine ⟨p2, ?_⟩
    rw [lcT_eq]
    rw [Int.zero_add]
    simp [lawE, e1, e2]
  refine ⟨ph', ?_⟩
  have hs : smallR (m : Int) = true := smallR_nat (by omega)
  have r1 : pbi .len [.scr (ns.map PV.int)] = some (.int (ns.length : Int), false) := by simp [pbi]
  have r2 : pbi .min [.int (ns.length : Int), .int M] = some (.int (if (M : Int) < (ns.length : Int) then (M : Int) else (ns.length : Int)), false) := rfl
  have r3 : pbi .max [.int 2, .int (if (M : Int) < (ns.length : Int) then (M : Int) else (ns.length : Int))] = some (.int (m : Int), false) := by rw [← e]; rfl
  have r4 : pbi .all [.lst (List.replicate (rngP 0 m).length (.bl true))] = some (.bl true, false) := by
    show (match pbls _ with | some bs => some (PV.bl (bs.all id), false) | _ => none) = _
    rw [pbls_rep]
    simp
  have l1 : (rngP 0 m).length = m := by
    have : ∀ (n : Nat) (lo : Int), (rngP lo n).length = n := fun n => by
      induction n with
      | zero => intro lo; rfl
      | succ n ih => intro lo; unfold rngP; rw [List.length_cons, ih]
    exact this m 0
  have l2 : (List.replicate (rngP 0 m).length (PV.bl true)).length < sizeLine := line_lt (by simp [l1]; omega)
  simp only [lawB, b_cons, s_ret, e_blt, l_cons, e_lc, i_rng1, l_nil, e_int, cL1_ok, e_var, getV_0, cVar_ok, cL2_ok, cBlt_ok, r1, rO_some, r2, r3, cR1_ok, if_pos hs, Int.toNat_natCast, cLc1_ok, hl, cLc2_ok, if_pos l2, r4, cRet_ok, cB_rt, cEnd_rt]
end Chk

set_option Elab.async false
set_option linter.all false
/-! Mth1: orders of ends, in plain Lean: sorting, ranks, rises; the text with an order. -/
namespace Mth
/-! lists of ints, compared as they are -/
def lx : List Int → List Int → Bool
  | x :: xs, y :: ys => if x = y then lx xs ys else decide (x < y)
  | [], _ :: _ => true
  | _, [] => false
theorem lx_irr : ∀ l : List Int, lx l l = false
  | [] => rfl
  | x :: xs => by simp [lx, lx_irr xs]
theorem lx_trans : ∀ {a b c : List Int}, lx a b = true → lx b c = true → lx a c = true
  | [], [], _, h, _ => by simp [lx] at h
  | [], _ :: _, [], _, h => by simp [lx] at h
  | [], _ :: _, _ :: _, _, _ => rfl
  | _ :: _, [], _, h, _ => by simp [lx] at h
  | _ :: _, _ :: _, [], _, h => by simp [lx] at h
  | x :: xs, y :: ys, z :: zs, h, g => by
    unfold lx at h g ⊢
    by_cases e : x = y
    · subst e
      rw [if_pos rfl] at h
      by_cases e2 : x = z
      · rw [if_pos e2] at g ⊢; exact lx_trans h g
      · rw [if_neg e2] at g ⊢; exact g
    · rw [if_neg e] at h
      simp only [decide_eq_true_eq] at h
      by_cases e2 : y = z
      · subst e2
        rw [if_neg (by omega)]
        simpa using h
      · rw [if_neg e2] at g
        simp only [decide_eq_true_eq] at g
        rw [if_neg (by omega)]
        simp; omega
theorem lx_tri : ∀ (a b : List Int), lx a b = true ∨ a = b ∨ lx b a = true
  | [], [] => .inr (.inl rfl)
  | [], _ :: _ => .inl rfl
  | _ :: _, [] => .inr (.inr rfl)
  | x :: xs, y :: ys => by
    unfold lx
    by_cases e : x = y
    · subst e
      rw [if_pos rfl, if_pos rfl]
      rcases lx_tri xs ys with h | h | h
      · exact .inl h
      · exact .inr (.inl (by rw [h]))
      · exact .inr (.inr h)
    · rw [if_neg e, if_neg (Ne.symm e)]
      simp only [decide_eq_true_eq]
      by_cases c : x < y
      · exact .inl c
      · exact .inr (.inr (by omega))
theorem lx_asym {a b : List Int} (h : lx a b = true) : lx b a = false := by
  cases e : lx b a with
  | false => rfl
  | true => have := lx_trans h e; rw [lx_irr] at this; cases this
/-! sorting by putting in -/
section
variable {α β : Type} (lt : α → α → Bool)
def ins (x : α) : List α → List α
  | [] => [x]
  | y :: ys => if lt y x then y :: ins x ys else x :: y :: ys
def isort : List α → List α
  | [] => []
  | x :: xs => ins lt x (isort xs)
theorem ins_perm (x : α) : ∀ l : List α, (ins lt x l).Perm (x :: l)
  | [] => .refl _
  | y :: ys => by
    unfold ins
    split
    · exact ((ins_perm x ys).cons y).trans (.swap x y ys)
    · exact .refl _
theorem isort_perm : ∀ l : List α, (isort lt l).Perm l
  | [] => .refl _
  | x :: xs => (ins_perm lt x _).trans ((isort_perm xs).cons x)
theorem ins_mem {x z : α} {l : List α} : z ∈ ins lt x l ↔ z = x ∨ z ∈ l := by
  rw [(ins_perm lt x l).mem_iff]; simp
theorem isort_mem {z : α} {l : List α} : z ∈ isort lt l ↔ z ∈ l := (isort_perm lt l).mem_iff
theorem ins_map {lt' : β → β → Bool} {f : α → β} {x : α} : ∀ {l : List α}, (∀ y ∈ l, lt' (f y) (f x) = lt y x) → ins lt' (f x) (l.map f) = (ins lt x l).map f
  | [], _ => rfl
  | y :: ys, h => by
    rw [List.map_cons]
    unfold ins
    rw [h y (List.mem_cons_self ..)]
    split
    · rw [List.map_cons, ins_map fun z hz => h z (List.mem_cons_of_mem _ hz)]
    · rfl
theorem isort_map {lt' : β → β → Bool} {f : α → β} : ∀ {l : List α}, (∀ x ∈ l, ∀ y ∈ l, lt' (f y) (f x) = lt y x) → isort lt' (l.map f) = (isort lt l).map f
  | [], _ => rfl
  | x :: xs, h => by
    rw [List.map_cons]
    unfold isort
    rw [isort_map fun a ha b hb => h a (List.mem_cons_of_mem _ ha) b (List.mem_cons_of_mem _ hb)]
    exact ins_map lt fun y hy => h x (List.mem_cons_self ..) y (List.mem_cons_of_mem _ ((isort_mem lt).mp hy))
theorem isort_congr {lt' : α → α → Bool} {l : List α} (h : ∀ x ∈ l, ∀ y ∈ l, lt' y x = lt y x) : isort lt' l = isort lt l := by
  have := isort_map (f := fun x : α => x) lt (lt' := lt') (l := l) h
  simpa using this
structure Ord (l : List α) : Prop where
  trans : ∀ a b c, lt a b = true → lt b c = true → lt a c = true
  asym : ∀ a b, lt a b = true → lt b a = false
  tri : ∀ a ∈ l, ∀ b ∈ l, a ≠ b → lt a b = true ∨ lt b a = true
theorem ins_srt {x : α} : ∀ {l : List α}, Ord lt (x :: l) → x ∉ l → l.Pairwise (fun a b => lt a b = true) → (ins lt x l).Pairwise (fun a b => lt a b = true)
  | [], _, _, _ => by simp [ins]
  | y :: ys, O, hn, h => by
    have h0 := List.pairwise_cons.mp h
    simp only [List.mem_cons, not_or] at hn
    unfold ins
    split
    · rename_i c
      refine List.pairwise_cons.mpr ⟨fun z hz => ?_, ins_srt ⟨O.trans, O.asym, fun a ha b hb => O.tri a (by simp only [List.mem_cons] at ha ⊢; rcases ha with e | e; exact .inl e; exact .inr (.inr e)) b (by simp only [List.mem_cons] at hb ⊢; rcases hb with e | e; exact .inl e; exact .inr (.inr e))⟩ hn.2 h0.2⟩
      rcases (ins_mem lt).mp hz with e | hz
      · rw [e]; exact c
      · exact h0.1 z hz
    · rename_i c
      have c2 : lt x y = true := by
        rcases O.tri x (by simp) y (by simp) hn.1 with e | e
        · exact e
        · exact absurd e c
      refine List.pairwise_cons.mpr ⟨fun z hz => ?_, h⟩
      rcases List.mem_cons.mp hz with e | hz
      · rw [e]; exact c2
      · exact O.trans _ _ _ c2 (h0.1 z hz)
theorem isort_srt : ∀ {l : List α}, Ord lt l → l.Nodup → (isort lt l).Pairwise (fun a b => lt a b = true)
  | [], _, _ => by simp [isort]
  | x :: xs, O, hn => by
    have n0 := List.nodup_cons.mp hn
    have O' : Ord lt xs := ⟨O.trans, O.asym, fun a ha b hb => O.tri a (List.mem_cons_of_mem _ ha) b (List.mem_cons_of_mem _ hb)⟩
    refine ins_srt lt ⟨O.trans, O.asym, fun a ha b hb => O.tri a ?_ b ?_⟩ (fun h => n0.1 ((isort_mem lt).mp h)) (isort_srt O' n0.2)
    · rcases List.mem_cons.mp ha with e | e
      · simp [e]
      · exact List.mem_cons_of_mem _ ((isort_mem lt).mp e)
    · rcases List.mem_cons.mp hb with e | e
      · simp [e]
      · exact List.mem_cons_of_mem _ ((isort_mem lt).mp e)
theorem srt_eq (asym : ∀ a b, lt a b = true → lt b a = false) : ∀ {l m : List α}, l.Pairwise (fun a b => lt a b = true) → m.Pairwise (fun a b => lt a b = true) → l.Perm m → l = m
  | [], m, _, _, p => by rw [List.nil_perm.mp p]
  | x :: xs, [], _, _, p => by cases List.perm_nil.mp p
  | x :: xs, y :: ys, hl, hm, p => by
    have l0 := List.pairwise_cons.mp hl
    have m0 := List.pairwise_cons.mp hm
    have e : x = y := by
      rcases List.mem_cons.mp (p.mem_iff.mp (List.mem_cons_self ..)) with e | e
      · exact e
      · rcases List.mem_cons.mp (p.mem_iff.mpr (List.mem_cons_self (a := y) (l := ys))) with e2 | e2
        · exact e2.symm
        · have a := m0.1 x e
          have b := l0.1 y e2
          rw [asym _ _ a] at b
          cases b
    subst e
    rw [srt_eq asym l0.2 m0.2 ((List.perm_cons x).mp p)]
theorem isort_eq {l m : List α} (O : Ord lt l) (hn : l.Nodup) (hm : m.Pairwise (fun a b => lt a b = true)) (p : m.Perm l) : isort lt l = m :=
  srt_eq lt O.asym (isort_srt lt O hn) hm ((isort_perm lt l).trans p.symm)
end
/-! kinds, ends, orders -/
inductive Kd where
  | fi | la | ri
deriving DecidableEq
def eAt (k : Kd) (c : Int) (t : List Int) (i : Nat) : List Int := match k with
  | .fi => t.drop i ++ [-1]
  | .la => t.drop i ++ [c]
  | .ri => t.drop i ++ t.take i
def ltP (E : Nat → List Int) (i j : Nat) : Bool := if E i = E j then decide (i < j) else lx (E i) (E j)
theorem ltP_ord (E : Nat → List Int) (l : List Nat) : Ord (ltP E) l := by
  refine ⟨fun a b c h g => ?_, fun a b h => ?_, fun a _ b _ hab => ?_⟩
  · unfold ltP at h g ⊢
    by_cases e1 : E a = E b
    · rw [if_pos e1] at h
      by_cases e2 : E b = E c
      · rw [if_pos e2] at g
        rw [if_pos (e1.trans e2)]
        simp only [decide_eq_true_eq] at *
        omega
      · rw [if_neg e2] at g
        rw [e1, if_neg e2]
        exact g
    · rw [if_neg e1] at h
      by_cases e2 : E b = E c
      · rw [← e2, if_neg e1]
        exact h
      · rw [if_neg e2] at g
        have t := lx_trans h g
        rw [if_neg (fun z => by rw [z, lx_irr] at t; cases t)]
        exact t
  · unfold ltP at h ⊢
    by_cases e1 : E a = E b
    · rw [if_pos e1] at h
      rw [if_pos e1.symm]
      simp only [decide_eq_true_eq] at h
      simp; omega
    · rw [if_neg e1] at h
      rw [if_neg (Ne.symm e1)]
      exact lx_asym h
  · unfold ltP
    by_cases e1 : E a = E b
    · rw [if_pos e1, if_pos e1.symm]
      simp only [decide_eq_true_eq]
      omega
    · rw [if_neg e1, if_neg (Ne.symm e1)]
      rcases lx_tri (E a) (E b) with h | h | h
      · exact .inl h
      · exact absurd h e1
      · exact .inr h
/-- the places by their ends -/
def srtP (k : Kd) (c : Int) (t : List Int) : List Nat := isort (ltP (eAt k c t)) (List.range t.length)
/-- no neighbours alike -/
def apart (E : Nat → List Int) : List Nat → Bool
  | i :: j :: r => !(E i == E j) && apart E (j :: r)
  | _ => true
def spots (k : Kd) (c : Int) (t : List Int) : Option (List Nat) := if apart (eAt k c t) (srtP k c t) = true then some (srtP k c t) else none
def IsP (p : List Nat) : Prop := p.Perm (List.range p.length)
def byd (k : Kd) (p : List Nat) : Int := match k with
  | .fi => -1
  | .la => p.length
  | .ri => p.idxOf 0
def fol (k : Kd) (p : List Nat) : List Int := p.map fun i => if i + 1 < p.length then ((p.idxOf (i + 1) : Nat) : Int) else byd k p
def rise (k : Kd) (p : List Nat) (j : Nat) : Bool := decide ((fol k p).getD (j + 1) 0 < (fol k p).getD j 0)
def rises (k : Kd) (p : List Nat) : List Nat := (List.range (p.length - 1)).filter (rise k p)
/-- strictly ascending ends make the order -/
theorem spots_of {k : Kd} {c : Int} {t : List Int} {p : List Nat} (hp : IsP p) (hl : t.length = p.length) (h : p.Pairwise fun i j => lx (eAt k c t i) (eAt k c t j) = true) : spots k c t = some p := by
  have hs : srtP k c t = p := by
    refine isort_eq _ (ltP_ord _ _) List.nodup_range (h.imp fun {i j} e => ?_) (by rw [hl]; exact hp)
    unfold ltP
    rw [if_neg (fun z => by rw [z, lx_irr] at e; cases e)]
    exact e
  unfold spots
  rw [hs]
  have : apart (eAt k c t) p = true := by
    clear hs hp hl
    induction p with
    | nil => rfl
    | cons i r ih =>
      have h0 := List.pairwise_cons.mp h
      cases r with
      | nil => rfl
      | cons j r =>
        unfold apart
        rw [ih h0.2, Bool.and_true, Bool.not_eq_true']
        have e := h0.1 j (List.mem_cons_self ..)
        refine beq_eq_false_iff_ne.mpr fun z => ?_
        rw [z, lx_irr] at e
        cases e
  rw [if_pos this]
theorem spots_back {k : Kd} {c : Int} {t : List Int} {p : List Nat} (h : spots k c t = some p) : p.Perm (List.range t.length) ∧ p.Pairwise fun i j => lx (eAt k c t i) (eAt k c t j) = true := by
  unfold spots at h
  split at h
  · rename_i ha
    cases h
    refine ⟨isort_perm _ _, ?_⟩
    have hs := isort_srt (ltP (eAt k c t)) (l := List.range t.length) (ltP_ord _ _) List.nodup_range
    change (srtP k c t).Pairwise _ at hs
    generalize srtP k c t = q at ha hs
    -- neighbours are apart, so all are
    have key : ∀ (l : List Nat), apart (eAt k c t) l = true → l.Pairwise (fun a b => ltP (eAt k c t) a b = true) → l.Pairwise fun i j => lx (eAt k c t i) (eAt k c t j) = true := by
      intro l
      induction l with
      | nil => intro _ _; exact .nil
      | cons i r ih =>
        intro ha hs
        have s0 := List.pairwise_cons.mp hs
        cases r with
        | nil => exact List.pairwise_singleton _ _
        | cons j r =>
          unfold apart at ha
          rw [Bool.and_eq_true, Bool.not_eq_true'] at ha
          have r1 := ih ha.2 s0.2
          have e : lx (eAt k c t i) (eAt k c t j) = true := by
            have e := s0.1 j (List.mem_cons_self ..)
            unfold ltP at e
            rw [if_neg (beq_eq_false_iff_ne.mp ha.1)] at e
            exact e
          refine List.pairwise_cons.mpr ⟨fun z hz => ?_, r1⟩
          rcases List.mem_cons.mp hz with e2 | hz
          · rw [e2]; exact e
          · exact lx_trans e ((List.pairwise_cons.mp r1).1 z hz)
    exact key q ha hs
  · cases h
end Mth

set_option Elab.async false
set_option linter.all false
/-! Mth2: a text along which letters never fall, and grow behind rises, has the order. -/
namespace Mth
section
variable {p : List Nat} (hp : IsP p)
include hp
theorem isP_nodup : p.Nodup := (List.Perm.nodup_iff hp).mpr List.nodup_range
theorem isP_mem {i : Nat} : i ∈ p ↔ i < p.length := by rw [hp.mem_iff, List.mem_range]
theorem isP_at {a : Nat} (h : a < p.length) : p[a] < p.length := (isP_mem hp).mp (List.getElem_mem h)
theorem idx_at {a : Nat} (h : a < p.length) : p.idxOf p[a] = a := List.Nodup.idxOf_getElem (isP_nodup hp) a h
theorem idx_lt {i : Nat} (h : i < p.length) : p.idxOf i < p.length := List.idxOf_lt_length_of_mem ((isP_mem hp).mpr h)
theorem at_idx {i : Nat} (h : i < p.length) : p[p.idxOf i]'(idx_lt hp h) = i := List.getElem_idxOf (idx_lt hp h)
theorem idx_inj {i j : Nat} (hi : i < p.length) (hj : j < p.length) (h : p.idxOf i = p.idxOf j) : i = j := by
  have a := at_idx hp hi
  have b := at_idx hp hj
  rw [← a, ← b]
  congr 1
end
theorem fol_len (k : Kd) (p : List Nat) : (fol k p).length = p.length := by simp [fol]
theorem fol_at (k : Kd) (p : List Nat) {a : Nat} (h : a < p.length) : (fol k p).getD a 0 = if p[a] + 1 < p.length then ((p.idxOf (p[a] + 1) : Nat) : Int) else byd k p := by
  unfold fol
  rw [List.getD_eq_getElem?_getD, List.getElem?_map, List.getElem?_eq_getElem h]
  rfl
/-- next ranks of unlike places are unlike -/
theorem fol_inj {k : Kd} {p : List Nat} (hp : IsP p) {a b : Nat} (ha : a < p.length) (hb : b < p.length) (hab : a ≠ b) : (fol k p).getD a 0 ≠ (fol k p).getD b 0 := by
  rw [fol_at k p ha, fol_at k p hb]
  have na := isP_at hp ha
  have nb := isP_at hp hb
  have ne : p[a] ≠ p[b] := fun h => hab (by rw [← idx_at hp ha, ← idx_at hp hb, h])
  have by0 : ∀ i, i < p.length → i + 1 < p.length → ((p.idxOf (i + 1) : Nat) : Int) ≠ byd k p := fun i h0 h1 => by
    have l1 := idx_lt hp h1
    cases k with
    | fi => show _ ≠ (-1 : Int); omega
    | la => show _ ≠ ((p.length : Nat) : Int); omega
    | ri =>
      show _ ≠ ((p.idxOf 0 : Nat) : Int)
      intro h
      have := idx_inj hp h1 (by omega) (by omega : p.idxOf (i + 1) = p.idxOf 0)
      omega
  split <;> split
  · rename_i h1 h2
    intro h
    have := idx_inj hp h1 h2 (by omega)
    omega
  · rename_i h1 h2
    exact by0 _ na h1
  · rename_i h1 h2
    exact (by0 _ nb h2).symm
  · omega
/-- along the order: letters, and where they are alike the next ranks ascend -/
def Fit (k : Kd) (p : List Nat) (t : List Int) : Prop := ∀ a, a + 1 < p.length → t.getD (p.getD a 0) 0 ≤ t.getD (p.getD (a + 1) 0) 0 ∧ (t.getD (p.getD a 0) 0 = t.getD (p.getD (a + 1) 0) 0 → (fol k p).getD a 0 < (fol k p).getD (a + 1) 0)
/-- the same by rises -/
theorem fit_of {k : Kd} {p : List Nat} (hp : IsP p) {t : List Int} (h : ∀ a, a + 1 < p.length → t.getD (p.getD a 0) 0 ≤ t.getD (p.getD (a + 1) 0) 0 ∧ (rise k p a = true → t.getD (p.getD a 0) 0 < t.getD (p.getD (a + 1) 0) 0)) : Fit k p t := fun a ha => by
  obtain ⟨h1, h2⟩ := h a ha
  refine ⟨h1, fun e => ?_⟩
  have ni := fol_inj (k := k) hp (a := a) (b := a + 1) (by omega) ha (by omega)
  have nr : ¬ rise k p a = true := fun r => by have := h2 r; omega
  unfold rise at nr
  simp only [decide_eq_true_eq] at nr
  omega
theorem fit_all {k : Kd} {p : List Nat} {t : List Int} (h : Fit k p t) : ∀ (d a : Nat), a + d + 1 < p.length → t.getD (p.getD a 0) 0 ≤ t.getD (p.getD (a + d + 1) 0) 0 ∧ (t.getD (p.getD a 0) 0 = t.getD (p.getD (a + d + 1) 0) 0 → (fol k p).getD a 0 < (fol k p).getD (a + d + 1) 0)
  | 0, a, ha => h a ha
  | d + 1, a, ha => by
    obtain ⟨h1, h2⟩ := fit_all h d a (by omega)
    rw [show a + (d + 1) + 1 = a + d + 1 + 1 by omega] at ha ⊢
    obtain ⟨g1, g2⟩ := h (a + d + 1) ha
    refine ⟨by omega, fun e => ?_⟩
    have e1 : t.getD (p.getD a 0) 0 = t.getD (p.getD (a + d + 1) 0) 0 := by omega
    have e2 : t.getD (p.getD (a + d + 1) 0) 0 = t.getD (p.getD (a + d + 1 + 1) 0) 0 := by omega
    have := h2 e1
    have := g2 e2
    omega
/-- the rank of a place, also of the one behind the last -/
def rk (k : Kd) (p : List Nat) (i : Nat) : Int := if i < p.length then ((p.idxOf i : Nat) : Int) else byd k p
section
variable {k : Kd} {p : List Nat} {t : List Int} (hp : IsP p) (hl : t.length = p.length) (hf : Fit k p t)
include hp hf
/-- places, ranks ascending -/
theorem fit_two {i j : Nat} (hi : i < p.length) (hj : j < p.length) (h : p.idxOf i < p.idxOf j) : t.getD i 0 ≤ t.getD j 0 ∧ (t.getD i 0 = t.getD j 0 → rk k p (i + 1) < rk k p (j + 1)) := by
  have li := idx_lt hp hi
  have lj := idx_lt hp hj
  obtain ⟨d, hd⟩ : ∃ d, p.idxOf j = p.idxOf i + d + 1 := ⟨p.idxOf j - p.idxOf i - 1, by omega⟩
  have q := fit_all hf d (p.idxOf i) (by omega)
  rw [← hd] at q
  have gi : p.getD (p.idxOf i) 0 = i := by rw [List.getD_eq_getElem?_getD, List.getElem?_eq_getElem li, Option.getD_some]; exact at_idx hp hi
  have gj : p.getD (p.idxOf j) 0 = j := by rw [List.getD_eq_getElem?_getD, List.getElem?_eq_getElem lj, Option.getD_some]; exact at_idx hp hj
  rw [gi, gj, fol_at k p li, fol_at k p lj] at q
  have ai := at_idx hp hi
  have aj := at_idx hp hj
  rw [ai, aj] at q
  exact q
include hl
theorem drop_at {i : Nat} (h : i < t.length) : t.drop i = t.getD i 0 :: t.drop (i + 1) := by
  rw [List.drop_eq_getElem_cons h, List.getD_eq_getElem?_getD, List.getElem?_eq_getElem h, Option.getD_some]
omit hp hf hl in
theorem lx_cons {x y : Int} {xs ys : List Int} : lx (x :: xs) (y :: ys) = true ↔ x < y ∨ (x = y ∧ lx xs ys = true) := by
  show (if x = y then lx xs ys else decide (x < y)) = true ↔ _
  by_cases e : x = y
  · subst e; rw [if_pos rfl]; simp
  · rw [if_neg e]; simp [e]
theorem open_lt (c : Int) (hk : (k = .fi ∧ ∀ x ∈ t, -1 < x) ∨ (k = .la ∧ ∀ x ∈ t, x < c)) : ∀ (m i j : Nat), 2 * p.length - i - j ≤ m → i ≤ p.length → j ≤ p.length → i ≠ j → rk k p i < rk k p j → lx (eAt k c t i) (eAt k c t j) = true := by
  have hm : ∀ i, i < p.length → t.getD i 0 ∈ t := fun i h => by
    rw [List.getD_eq_getElem?_getD, List.getElem?_eq_getElem (by omega : i < t.length), Option.getD_some]
    exact List.getElem_mem _
  have dn : t.drop p.length = [] := List.drop_eq_nil_of_le (by omega)
  intro m
  induction m with
  | zero => intro i j h hi hj hij _; omega
  | succ m ih =>
    intro i j h hi hj hij hr
    by_cases ci : i = p.length
    · subst ci
      have lj : j < p.length := by omega
      rcases hk with ⟨rfl, hk⟩ | ⟨rfl, hk⟩
      · show lx (t.drop p.length ++ [-1]) (t.drop j ++ [-1]) = true
        rw [dn, drop_at (p := p) hp hl hf (by omega : j < t.length)]
        exact lx_cons.mpr (.inl (hk _ (hm j lj)))
      · unfold rk at hr
        rw [if_neg (by omega), if_pos lj] at hr
        have := idx_lt hp lj
        have : (byd .la p) = p.length := rfl
        omega
    · have li : i < p.length := by omega
      by_cases cj : j = p.length
      · subst cj
        rcases hk with ⟨rfl, hk⟩ | ⟨rfl, hk⟩
        · unfold rk at hr
          rw [if_pos li, if_neg (by omega)] at hr
          have : (byd .fi p) = -1 := rfl
          omega
        · show lx (t.drop i ++ [c]) (t.drop p.length ++ [c]) = true
          rw [dn, drop_at (p := p) hp hl hf (by omega : i < t.length)]
          exact lx_cons.mpr (.inl (hk _ (hm i li)))
      · have lj : j < p.length := by omega
        unfold rk at hr
        rw [if_pos li, if_pos lj] at hr
        obtain ⟨q1, q2⟩ := fit_two hp hf li lj (by omega)
        have step : ∀ e : Int, lx (t.drop i ++ [e]) (t.drop j ++ [e]) = true ↔ t.getD i 0 < t.getD j 0 ∨ (t.getD i 0 = t.getD j 0 ∧ lx (t.drop (i + 1) ++ [e]) (t.drop (j + 1) ++ [e]) = true) := fun e => by
          rw [drop_at (p := p) hp hl hf (by omega : i < t.length), drop_at (p := p) hp hl hf (by omega : j < t.length)]
          exact lx_cons
        have fin : t.getD i 0 < t.getD j 0 ∨ (t.getD i 0 = t.getD j 0 ∧ lx (eAt k c t (i + 1)) (eAt k c t (j + 1)) = true) := by
          by_cases e : t.getD i 0 = t.getD j 0
          · exact .inr ⟨e, ih (i + 1) (j + 1) (by omega) (by omega) (by omega) (by omega) (q2 e)⟩
          · exact .inl (by omega)
        rcases hk with ⟨rfl, hk⟩ | ⟨rfl, hk⟩
        · exact (step (-1)).mpr fin
        · exact (step c).mpr fin
/-! rings -/
omit hp hf in
theorem ring_at {i m : Nat} (hi : i < p.length) (hm : m < p.length) : (t.drop i ++ t.take i)[m]? = some (t.getD ((i + m) % p.length) 0) := by
  by_cases c : i + m < p.length
  · rw [Nat.mod_eq_of_lt c, List.getElem?_append_left (by rw [List.length_drop]; omega), List.getElem?_drop, List.getD_eq_getElem?_getD, List.getElem?_eq_getElem (by omega : i + m < t.length)]
    rfl
  · have e : (i + m) % p.length = i + m - p.length := by
      rw [Nat.mod_eq_sub_mod (by omega), Nat.mod_eq_of_lt (by omega)]
    rw [e, List.getElem?_append_right (by rw [List.length_drop]; omega), List.length_drop, List.getElem?_take, if_pos (by omega), List.getD_eq_getElem?_getD, List.getElem?_eq_getElem (by omega : i + m - p.length < t.length)]
    have : m - (t.length - i) = i + m - p.length := by omega
    rw [this, List.getElem?_eq_getElem (by omega : i + m - p.length < t.length)]
    rfl
omit hp hf hl in
/-- a first difference -/
theorem lx_first : ∀ {xs ys : List Int} {m : Nat} {x y : Int}, (∀ a < m, xs[a]? = ys[a]? ∧ (xs[a]?).isSome) → xs[m]? = some x → ys[m]? = some y → x < y → lx xs ys = true
  | [], _, _, _, _, _, h, _, _ => by simp at h
  | _ :: _, [], _, _, _, _, _, h, _ => by simp at h
  | a :: xs, b :: ys, 0, x, y, _, h1, h2, h => by
    simp at h1 h2
    exact lx_cons.mpr (.inl (by omega))
  | a :: xs, b :: ys, m + 1, x, y, h0, h1, h2, h => by
    have e := (h0 0 (by omega)).1
    simp at e
    refine lx_cons.mpr (.inr ⟨e, lx_first (m := m) (fun c hc => ?_) (by simpa using h1) (by simpa using h2) h⟩)
    have := h0 (c + 1) (by omega)
    simpa using this
theorem ring_lt (hk : k = .ri) (c : Int) {i j : Nat} (hi : i < p.length) (hj : j < p.length) (h : p.idxOf i < p.idxOf j) : lx (eAt k c t i) (eAt k c t j) = true := by
  subst hk
  have n0 : 0 < p.length := by omega
  have md : ∀ x, x % p.length < p.length := fun x => Nat.mod_lt _ n0
  have nx : ∀ x, rk .ri p (x % p.length + 1) = ((p.idxOf ((x + 1) % p.length) : Nat) : Int) := fun x => by
    unfold rk
    have e : (x + 1) % p.length = if x % p.length + 1 < p.length then x % p.length + 1 else 0 := by
      rw [Nat.add_mod]
      by_cases o : p.length = 1
      · rw [o]; simp [Nat.mod_one]
      · rw [Nat.mod_eq_of_lt (by omega : 1 < p.length)]
        split
        · rename_i q; exact Nat.mod_eq_of_lt q
        · rename_i q
          have := md x
          rw [show x % p.length + 1 = p.length by omega, Nat.mod_self]
    rw [e]
    split
    · rfl
    · rfl
  have main : ∀ m, m ≤ p.length → (∃ a < m, (∀ b < a, t.getD ((i + b) % p.length) 0 = t.getD ((j + b) % p.length) 0) ∧ t.getD ((i + a) % p.length) 0 < t.getD ((j + a) % p.length) 0) ∨
      ((∀ b < m, t.getD ((i + b) % p.length) 0 = t.getD ((j + b) % p.length) 0 ∧ p.idxOf ((i + b) % p.length) < p.idxOf ((j + b) % p.length)) ∧ p.idxOf ((i + m) % p.length) < p.idxOf ((j + m) % p.length)) := by
    intro m
    induction m with
    | zero =>
      intro _
      refine .inr ⟨fun b hb => by omega, ?_⟩
      rw [Nat.add_zero, Nat.add_zero, Nat.mod_eq_of_lt hi, Nat.mod_eq_of_lt hj]
      exact h
    | succ m ih =>
      intro hm
      rcases ih (by omega) with ⟨a, ha, hb, hc⟩ | ⟨hb, hr⟩
      · exact .inl ⟨a, by omega, hb, hc⟩
      · obtain ⟨q1, q2⟩ := fit_two hp hf (md (i + m)) (md (j + m)) hr
        by_cases e : t.getD ((i + m) % p.length) 0 = t.getD ((j + m) % p.length) 0
        · have r2 := q2 e
          rw [nx, nx] at r2
          refine .inr ⟨fun b hb' => ?_, by
            have : p.idxOf ((i + m + 1) % p.length) < p.idxOf ((j + m + 1) % p.length) := by omega
            simpa [Nat.add_assoc] using this⟩
          by_cases cb : b = m
          · subst cb; exact ⟨e, hr⟩
          · exact hb b (by omega)
        · exact .inl ⟨m, by omega, fun b hb' => (hb b hb').1, by omega⟩
  rcases main p.length (Nat.le_refl _) with ⟨a, ha, hb, hc⟩ | ⟨hb, _⟩
  · refine lx_first (m := a) (fun b hb' => ?_) (ring_at hl hi (by omega)) (ring_at hl hj (by omega)) hc
    show (t.drop i ++ t.take i)[b]? = (t.drop j ++ t.take j)[b]? ∧ ((t.drop i ++ t.take i)[b]?).isSome = true
    rw [ring_at hl hi (by omega), ring_at hl hj (by omega), hb b hb']
    exact ⟨rfl, rfl⟩
  · -- the place with the greatest rank
    exfalso
    have lg : p.length - 1 < p.length := by omega
    have hq := isP_at hp lg
    have hix := idx_at hp lg
    generalize p[p.length - 1] = g at hq hix
    obtain ⟨m, hm, e⟩ : ∃ m < p.length, (i + m) % p.length = g := by
      by_cases c : i ≤ g
      · exact ⟨g - i, by omega, by rw [show i + (g - i) = g by omega, Nat.mod_eq_of_lt hq]⟩
      · refine ⟨g + p.length - i, by omega, ?_⟩
        rw [show i + (g + p.length - i) = g + p.length by omega, Nat.add_mod_right, Nat.mod_eq_of_lt hq]
    have z := (hb m hm).2
    rw [e, hix] at z
    have := idx_lt hp (md (j + m))
    omega
/-- THE ORDER -/
theorem fit_spots (c : Int) (hk : k = .ri ∨ (k = .fi ∧ ∀ x ∈ t, -1 < x) ∨ (k = .la ∧ ∀ x ∈ t, x < c)) : spots k c t = some p := by
  refine spots_of hp hl ?_
  rw [List.pairwise_iff_getElem]
  intro a b ha hb hab
  have na := isP_at hp ha
  have nb := isP_at hp hb
  have r : p.idxOf p[a] < p.idxOf p[b] := by rw [idx_at hp ha, idx_at hp hb]; exact hab
  rcases hk with hk | hk
  · exact ring_lt hp hl hf hk c na nb r
  · refine open_lt hp hl hf c hk _ _ _ (Nat.le_refl _) (by omega) (by omega) (fun e => by rw [e] at r; omega) ?_
    unfold rk
    rw [if_pos na, if_pos nb]
    omega
end
end Mth

set_option Elab.async false
set_option linter.all false
set_option maxRecDepth 100000
set_option maxHeartbeats 4000000
/-! ChkB: what the checker's small defs answer. -/
namespace Chk
open PySem Py Mth
def iv (l : List Int) : List PV := l.map .int
def nv (l : List Nat) : List PV := l.map fun n => .int ((n : Nat) : Int)
def ni (l : List Nat) : List Int := l.map fun n => ((n : Nat) : Int)
@[simp] theorem ni_len {l : List Nat} : (ni l).length = l.length := by simp [ni]
def kS : Kd → Str
  | .fi => "first"
  | .la => "last"
  | .ri => "ring"
@[simp] theorem iv_len {l : List Int} : (iv l).length = l.length := by simp [iv]
@[simp] theorem nv_len {l : List Nat} : (nv l).length = l.length := by simp [nv]
theorem nv_iv (l : List Nat) : nv l = iv (ni l) := by simp [nv, iv, ni]
theorem iv_at {l : List Int} {i : Nat} {x : Int} (h : l[i]? = some x) : (iv l)[i]? = some (.int x) := by simp [iv, h]
theorem nv_at {l : List Nat} {i : Nat} {x : Nat} (h : l[i]? = some x) : (nv l)[i]? = some (.int x) := by simp [nv, h]
theorem pbls_map {α : Type} {f : α → Bool} : ∀ {xs : List α}, pbls (xs.map fun x => .bl (f x)) = some (xs.map f)
  | [] => rfl
  | x :: xs => by
    rw [List.map_cons, pbls, pbls_map]
    rfl
@[simp] theorem pbi_len_t {xs : List PV} : pbi .len [.tup xs] = some (.int xs.length, false) := Eq.trans rfl rfl
@[simp] theorem pbi_len_l {xs : List PV} : pbi .len [.lst xs] = some (.int xs.length, false) := Eq.trans rfl rfl
theorem all_map {α : Type} {f : α → Bool} {xs : List α} : pbi .all [.lst (xs.map fun x => .bl (f x))] = some (.bl (xs.all f), false) := by
  show (match pbls _ with | some bs => some (PV.bl (bs.all id), false) | _ => none) = _
  rw [pbls_map]
  simp [List.all_map]
theorem any_map {α : Type} {f : α → Bool} {xs : List α} : pbi .any [.lst (xs.map fun x => .bl (f x))] = some (.bl (xs.any f), false) := by
  show (match pbls _ with | some bs => some (PV.bl (bs.any id), false) | _ => none) = _
  rw [pbls_map]
  simp [List.any_map]
/-- ints are data -/
theorem dats_iv {n : Nat} : ∀ {l : List Int}, PV.dats n (iv l) = true
  | [] => by cases n <;> rfl
  | x :: xs => by
    show (PV.dat n (.int x) && PV.dats n (iv xs)) = true
    rw [dats_iv (l := xs), show PV.dat n (.int x) = true by cases n <;> rfl]
    rfl
theorem dat_tupI {l : List Int} : PV.dat deep (.tup (iv l)) = true := dats_iv (n := 39)
theorem dat_lstI {l : List Int} : PV.dat deep (.lst (iv l)) = true := dats_iv (n := 39)
theorem eqvs_iv : ∀ {l m : List Int}, PV.eqvs (iv l) (iv m) = decide (l = m)
  | [], [] => rfl
  | [], _ :: _ => rfl
  | _ :: _, [] => rfl
  | x :: xs, y :: ys => by
    show ((x == y) && PV.eqvs (iv xs) (iv ys)) = _
    rw [eqvs_iv (l := xs)]
    by_cases h : x = y <;> simp [h]
theorem eq_lstI {l m : List Int} : pcmp .Eq (.lst (iv l)) (.lst (iv m)) = some (decide (l = m)) := by
  show peq _ _ = _
  unfold peq
  rw [dat_lstI, dat_lstI]
  show some (PV.eqvs (iv l) (iv m)) = _
  rw [eqvs_iv]
theorem ne_lstI {l m : List Int} : pcmp .NotEq (.lst (iv l)) (.lst (iv m)) = some (!decide (l = m)) := by
  show (pcmp .Eq (.lst (iv l)) (.lst (iv m))).map not = _
  rw [eq_lstI]; rfl
theorem eq_tupI {l m : List Int} : pcmp .Eq (.tup (iv l)) (.tup (iv m)) = some (decide (l = m)) := by
  show peq _ _ = _
  unfold peq
  rw [dat_tupI, dat_tupI]
  show some (PV.eqvs (iv l) (iv m)) = _
  rw [eqvs_iv]
theorem ni_inj {l m : List Nat} : ni l = ni m ↔ l = m := by
  constructor
  · intro h
    have := congrArg (List.map Int.toNat) h
    simpa [ni, List.map_map, Function.comp_def] using this
  · intro h; rw [h]
theorem eq_lstN {l m : List Nat} : pcmp .Eq (.lst (nv l)) (.lst (nv m)) = some (decide (l = m)) := by
  rw [nv_iv, nv_iv, eq_lstI]
  simp [ni_inj]
theorem in_iv {x : Int} : ∀ {l : List Int}, ((iv l).any fun y => y.eqv (.int x)) = decide (x ∈ l)
  | [] => rfl
  | y :: ys => by
    show ((y == x) || (iv ys).any fun y => y.eqv (.int x)) = _
    rw [in_iv (l := ys)]
    by_cases h : y = x
    · simp [h]
    · have : ¬ x = y := fun e => h e.symm
      simp [h, this]
theorem in_lstI {x : Int} {l : List Int} : pcmp .In (.int x) (.lst (iv l)) = some (decide (x ∈ l)) := by
  show (if (PV.dat deep (.int x) && PV.dats deep (iv l)) = true then some ((iv l).any fun y => y.eqv (.int x)) else none) = _
  rw [if_pos (by rw [dats_iv]; rfl), in_iv]
theorem notin_lstI {x : Int} {l : List Int} : pcmp .NotIn (.int x) (.lst (iv l)) = some (!decide (x ∈ l)) := by
  show (pin _ _).map not = _
  have := in_lstI (x := x) (l := l)
  rw [show pin (.int x) (.lst (iv l)) = some (decide (x ∈ l)) from this]
  rfl
theorem in_tupI {x : Int} {l : List Int} : pcmp .In (.int x) (.tup (iv l)) = some (decide (x ∈ l)) := by
  show (if (PV.dat deep (.int x) && PV.dats deep (iv l)) = true then some ((iv l).any fun y => y.eqv (.int x)) else none) = _
  rw [if_pos (by rw [dats_iv]; rfl), in_iv]
/-- the first place -/
theorem find_nv {x : Nat} : ∀ {l : List Nat}, x ∈ l → pfind (.int x) (nv l) = some (l.idxOf x)
  | [], h => by cases h
  | y :: ys, h => by
    show (if (PV.int y).eqv (.int x) then some 0 else (pfind (.int x) (nv ys)).map (· + 1)) = _
    have e : (PV.int (y : Int)).eqv (.int x) = decide (y = x) := by
      show ((y : Int) == (x : Int)) = _
      by_cases h : y = x
      · simp [h]
      · have : ¬ (y : Int) = (x : Int) := by omega
        simp [h, this]
    rw [e]
    by_cases c : y = x
    · subst c; simp
    · rcases List.mem_cons.mp h with h | h
      · exact absurd h.symm c
      · rw [find_nv h]
        simp only [decide_eq_true_eq, if_neg c, Option.map_some]
        rw [List.idxOf_cons]
        have : (y == x) = false := by simpa using c
        rw [this]
        rfl
theorem index_l {x : Nat} {l : List Nat} (h : x ∈ l) (hl : l.length ≤ 1000) : pmt .index (.lst (nv l)) [.int (x : Nat)] = some (.int (l.idxOf x : Nat), false) := by
  show (if _ then (pfind (.int x) (nv l)).map fun j => (PV.int (j : Nat), false) else none) = _
  rw [find_nv h, if_pos (by rw [nv_iv, dats_iv]; simp; exact ⟨rfl, line_ok (by omega)⟩)]
  rfl
theorem index_t {x : Nat} {l : List Nat} (h : x ∈ l) (hl : l.length ≤ 1000) : pmt .index (.tup (nv l)) [.int (x : Nat)] = some (.int (l.idxOf x : Nat), false) := by
  show (if _ then (pfind (.int x) (nv l)).map fun j => (PV.int (j : Nat), false) else none) = _
  rw [find_nv h, if_pos (by rw [nv_iv, dats_iv]; simp; exact ⟨rfl, line_ok (by omega)⟩)]
  rfl
theorem rngP_map : ∀ (n : Nat) (lo : Int), rngP lo n = (List.range n).map fun i : Nat => PV.int (lo + ((i : Nat) : Int))
  | 0, lo => rfl
  | n + 1, lo => by
    rw [rngP, rngP_map n (lo + 1), List.range_succ_eq_map, List.map_cons, List.map_map]
    simp only [Int.ofNat_zero, Int.add_zero, Function.comp_def]
    congr 1
    apply List.map_congr_left
    intro i _
    congr 1
    simp
    omega
theorem rngP_nv (n : Nat) : rngP 0 n = nv (List.range n) := by
  rw [rngP_map]
  simp [nv]
theorem rngP_length (n : Nat) (lo : Int) : (rngP lo n).length = n := by rw [rngP_map]; simp
end Chk

set_option Elab.async false
set_option linter.all false
set_option maxRecDepth 100000
set_option maxHeartbeats 4000000
/-! ChkC: the checker's defs: texts, orders, ends, places, rises. -/
namespace Chk
open PySem Py Mth
/-! data -/
theorem pcut_from {xs : List PV} {i : Nat} : pcut xs (some ((i : Nat) : Int)) none = xs.drop i := by
  unfold pcut
  rw [HT.sIx_nat, HT.sIx_none]
  by_cases h : i ≤ xs.length
  · rw [Nat.min_eq_left h]
    exact List.take_of_length_le (by rw [List.length_drop]; omega)
  · rw [Nat.min_eq_right (by omega), Nat.sub_self, List.take_zero, List.drop_eq_nil_of_le (by omega)]
theorem pcut_to {xs : List PV} {i : Nat} : pcut xs none (some ((i : Nat) : Int)) = xs.take i := by
  unfold pcut
  rw [HT.sIx_nat, HT.sIx_none, List.drop_zero, Nat.sub_zero]
  rw [List.take_eq_take_iff]
  omega
theorem iv_drop {l : List Int} {i : Nat} : (iv l).drop i = iv (l.drop i) := by simp [iv]
theorem iv_take {l : List Int} {i : Nat} : (iv l).take i = iv (l.take i) := by simp [iv]
theorem iv_app {l m : List Int} : iv l ++ iv m = iv (l ++ m) := by simp [iv]
theorem isortP_eq : ∀ l : List PV, isortP l = isort PV.lt l
  | [] => rfl
  | x :: xs => by
    have ie : ∀ l : List PV, insertP x l = ins PV.lt x l := by
      intro l
      induction l with
      | nil => rfl
      | cons y ys ih =>
        show (if y.lt x = true then y :: insertP x ys else x :: y :: ys) = _
        rw [ih]
        rfl
    show insertP x (isortP xs) = _
    rw [isortP_eq xs, ie]
    rfl
theorem ints_of_iv : ∀ {l : List Int}, pints (iv l) = some l
  | [] => rfl
  | x :: xs => by
    show (pints (iv xs)).map (x :: ·) = _
    rw [ints_of_iv]
    rfl
theorem alikes_iv : ∀ {l m : List Int}, PV.alikes (iv l) (iv m) = true
  | [], _ => by cases ‹List Int› <;> rfl
  | _ :: _, [] => rfl
  | x :: xs, y :: ys => by
    show (true && PV.alikes (iv xs) (iv ys)) = true
    rw [alikes_iv]
    rfl
theorem sort_iv {l : List Int} (h : l.length ≤ 1000) : psort (iv l) = some (iv (isort (fun a b => decide (a < b)) l)) := by
  have hs : sortable (iv l) = true := by
    unfold sortable
    rw [dats_iv, Bool.true_and, Bool.and_eq_true]
    constructor
    · rw [List.all_eq_true]
      intro x hx
      rw [List.all_eq_true]
      intro y hy
      obtain ⟨a, _, rfl⟩ := List.mem_map.mp hx
      obtain ⟨b, _, rfl⟩ := List.mem_map.mp hy
      rfl
    · rw [Bool.or_eq_true]
      right
      rw [List.all_eq_true]
      intro x hx
      obtain ⟨a, _, rfl⟩ := List.mem_map.mp hx
      rfl
  unfold psort
  rw [hs, isortP_eq]
  rw [if_pos (by simp; exact line_ok (by omega))]
  congr 1
  exact isort_map (lt := fun a b : Int => decide (a < b)) (lt' := PV.lt) (f := PV.int) fun x _ y _ => rfl
theorem srt_range {p : List Nat} (hp : IsP p) : isort (fun a b => decide (a < b)) (ni p) = ni (List.range p.length) := by
  refine isort_eq _ ⟨fun a b c h g => ?_, fun a b h => ?_, fun a _ b _ h => ?_⟩ ?_ ?_ ?_
  · simp only [decide_eq_true_eq] at *; omega
  · simp only [decide_eq_true_eq] at h; simp; omega
  · simp only [decide_eq_true_eq]; omega
  · exact (List.pairwise_map.mpr ((isP_nodup hp).imp fun {a b} h => by omega))
  · exact (List.pairwise_map.mpr (List.pairwise_lt_range.imp fun {a b} h => by simp; omega))
  · exact (hp.symm.map _)
/-! the small ones -/
def isText : PV → Bool
  | .tup xs => (decide (1 ≤ xs.length) && decide (xs.length ≤ 60)) && xs.all (btw 0 1000000000000000000)
  | _ => false
/-- no box at the top, nor right below it -/
def nobs : PV → Bool
  | .box _ => false
  | .scr _ => false
  | .tup xs => xs.all nob
  | .lst xs => xs.all nob
  | _ => true
section
variable {pg : PProg} (h : P pg) {n : Nat} {ph : PH}
include h
theorem r3 {v : PV} (hv : nobs v = true) : callN pg (n + 4) 3 [v] ph = .ok (.bl (isText v), false) ph := by
  rw [c3 h]
  cases v with
  | tup xs =>
    have hx : ∀ x ∈ xs, nob x = true := fun x hx => List.all_eq_true.mp hv x hx
    by_cases c : 1 ≤ (xs.length : Int) ∧ (xs.length : Int) ≤ 60
    · have hl : lcL pg (callN pg (n + 3)) [1] (.nm 1) .nil f3_0 xs [some (.tup xs, false), none] ph = .ok (xs.map fun x => .bl (btw 0 1000000000000000000 x)) ph := by
        rw [lcL_of (g := fun x => some (.bl (btw 0 1000000000000000000 x))) fun x hxm => by rw [lcT_eq]; simp [f3_0, r2 h (hx x hxm)]]
        simp
      have z : xs.length < sizeLine := line_lt (by omega)
      simp only [f3]
      simp [pisi, g0 h, pbi_len_t, c, hl, z, all_map, isText]
      omega
    · have c' : ¬ (1 ≤ xs.length ∧ xs.length ≤ 60) := by omega
      simp only [f3]
      simp [pisi, g0 h, pbi_len_t, isText]
      by_cases c1 : 1 ≤ (xs.length : Int)
      · have c2 : ¬ (xs.length : Int) ≤ 60 := fun c2 => c ⟨c1, c2⟩
        have c3 : ¬ xs.length ≤ 60 := by omega
        simp [c1, c2, c3]
      · have c3 : ¬ 1 ≤ xs.length := by omega
        simp [c1, c3]
  | _ => first | (simp [nobs] at hv; done) | (simp [f3, pisi, isText]; done)
end
end Chk

set_option Elab.async false
set_option linter.all false
set_option maxRecDepth 100000
set_option maxHeartbeats 4000000
/-! ChkD: the checker's defs, further: is_order, all_ends, places_of, following, rises_in. -/
namespace Chk
open PySem Py Mth
theorem isI_nv {l : List Nat} : ∀ x ∈ nv l, isI x = true ∧ nob x = true := fun x hx => by
  obtain ⟨a, _, rfl⟩ := List.mem_map.mp hx
  exact ⟨rfl, rfl⟩
theorem isI_iv {l : List Int} : ∀ x ∈ iv l, isI x = true ∧ nob x = true := fun x hx => by
  obtain ⟨a, _, rfl⟩ := List.mem_map.mp hx
  exact ⟨rfl, rfl⟩
/-- the ends as they are made -/
def cG : Int := 1000000000000000001
def endsV (k : Kd) (t : List Int) : List PV := (List.range t.length).map fun i => .lst (iv (eAt k cG t i))
theorem kS_ri {k : Kd} : pcmp .Eq (.str (kS k)) (.str "ring") = some (decide (k = .ri)) := by cases k <;> kernel_rfl
theorem kS_fi {k : Kd} : pcmp .Eq (.str (kS k)) (.str "first") = some (decide (k = .fi)) := by cases k <;> kernel_rfl
theorem kS_la {k : Kd} : pcmp .Eq (.str (kS k)) (.str "last") = some (decide (k = .la)) := by cases k <;> kernel_rfl
theorem eAt_len {k : Kd} {c : Int} {t : List Int} {i : Nat} : (eAt k c t i).length ≤ t.length + 1 := by
  cases k <;> simp [eAt] <;> omega
theorem add_lstI {l m : List Int} (h : l.length + m.length ≤ 1000) : pbin .Add (.lst (iv l)) (.lst (iv m)) = some (.lst (iv (l ++ m)), true) := by
  show (if _ then _ else _) = _
  rw [if_pos (line_ok (by simp; omega)), iv_app]
theorem rg_one {n : Nat} (h : n ≤ 1000000) : rgEnds [.int (n : Nat)] = some (0, (n : Int)) := by
  have : (smallR ((n : Nat) : Int) && decide (((n : Nat) : Int) ≤ 1000000)) = true := by
    rw [smallR_nat h, Bool.true_and, decide_eq_true_eq]
    omega
  simp only [rgEnds]
  rw [if_pos this]
section
variable {pg : PProg} (h : P pg) {n : Nat} {ph : PH}
include h
theorem r4 {p : List Nat} (hp : IsP p) (h1 : 1 ≤ p.length) (h2 : p.length ≤ 60) : callN pg (n + 2) 4 [.tup (nv p)] ph = .ok (.bl true, false) ph := by
  rw [c4 h]
  have hl : lcL pg (callN pg (n + 1)) [1] (.nm 1) .nil f4_0 (nv p) [some (.tup (nv p), false), none] ph = .ok ((nv p).map fun x => .bl (isI x)) ph := by
    rw [lcL_of (g := fun x => some (.bl (isI x))) fun x hxm => by rw [lcT_eq]; simp [f4_0, r0 h (isI_nv x hxm).2]]
    simp
  have z : p.length < sizeLine := line_lt (by omega)
  have ha : (nv p).all isI = true := List.all_eq_true.mpr fun x hx => (isI_nv x hx).1
  have hs : pbi .sorted [.tup (nv p)] = some (.lst (nv (List.range p.length)), true) := by
    show (psort (nv p)).map _ = _
    rw [nv_iv, sort_iv (by simp; omega), srt_range hp, nv_iv]
    rfl
  have hr : rgEnds [.int (p.length : Nat)] = some (0, (p.length : Int)) := rg_one (by omega)
  have he : pcmp .Eq (.lst (nv (List.range p.length))) (.lst (nv (List.range p.length))) = some true := by rw [eq_lstN]; simp
  have c1 : (1 : Int) ≤ p.length := by omega
  have c2 : (p.length : Int) ≤ 60 := by omega
  simp only [f4]
  simp [pisi, g3 h, pbi_len_t, c1, c2, hl, z, all_map, ha, hs, hr, rngP_nv, he]
theorem r5 {k : Kd} {t : List Int} (ht : t.length ≤ 60) : callN pg (n + 1) 5 [.tup (iv t), .str (kS k)] ph = .ok (.lst (endsV k t), true) ph := by
  rw [c5 h]
  have z : (endsV k t).length < sizeLine := line_lt (by simp [endsV]; omega)
  have sr : smallR (t.length : Int) = true := smallR_nat (by omega)
  have s1 : (1 : Nat) ≤ sizeLine := line_ok (by omega)
  by_cases hk : k = .ri
  · subst hk
    have hl : lcL pg (callN pg n) [2] (.nm 2) .nil f5_0 (nv (List.range t.length)) [some (.tup (iv t), false), some (.str (kS .ri), false), none, none] ph = .ok (endsV .ri t) ph := by
      refine lcL_map (e := fun i : Nat => PV.int ((i : Nat) : Int)) (g := fun i => .lst (iv (eAt .ri cG t i))) fun i hi => ?_
      have hi := List.mem_range.mp hi
      rw [lcT_eq]
      simp [f5_0, psl, pcut_from, pcut_to, iv_drop, iv_take, pbi, add_lstI (l := t.drop i) (m := t.take i) (by simp; omega), eAt]
    simp only [f5]
    simp [kS_ri, sr, rngP_nv, hl, z]
  · have hl : ∀ (tl : Int), (k = .fi ∧ tl = -1) ∨ (k = .la ∧ tl = cG) → lcL pg (callN pg n) [2] (.nm 2) .nil f5_1 (nv (List.range t.length)) [some (.tup (iv t), false), some (.str (kS k), false), none, some (.lst (iv [tl]), false)] ph = .ok (endsV k t) ph := by
      intro tl htl
      refine lcL_map (e := fun i : Nat => PV.int ((i : Nat) : Int)) (g := fun i => .lst (iv (eAt k cG t i))) fun i hi => ?_
      have hi := List.mem_range.mp hi
      have ee : eAt k cG t i = t.drop i ++ [tl] := by rcases htl with ⟨rfl, rfl⟩ | ⟨rfl, rfl⟩ <;> rfl
      rw [lcT_eq]
      simp [f5_1, psl, pcut_from, iv_drop, pbi, add_lstI (l := t.drop i) (m := [tl]) (by simp; omega), ee]
    cases k with
    | ri => exact absurd rfl hk
    | fi =>
      have hl := hl (-1) (.inl ⟨rfl, rfl⟩)
      simp only [f5]
      simp only [iv, List.map_cons, List.map_nil] at hl
      simp [kS_ri, kS_fi, sr, rngP_nv, z, g5 h, s1, hl, iv]
    | la =>
      have hl := hl cG (.inr ⟨rfl, rfl⟩)
      simp only [f5]
      simp only [iv, List.map_cons, List.map_nil, cG] at hl
      simp [kS_ri, kS_fi, sr, rngP_nv, z, g4 h, s1, hl, iv, pbin]
end
end Chk

set_option Elab.async false
set_option linter.all false
set_option maxRecDepth 100000
set_option maxHeartbeats 4000000
/-! ChkE: places_of, following, rises_in. -/
namespace Chk
open PySem Py Mth
theorem enumP_map : ∀ (xs : List PV) (k : Nat), enumP k xs = (List.range xs.length).map fun i => .tup [.int ((k + i : Nat) : Int), xs.getD i .non]
  | [], k => rfl
  | x :: xs, k => by
    rw [enumP, enumP_map xs (k + 1), List.length_cons, List.range_succ_eq_map, List.map_cons, List.map_map]
    congr 1
    apply List.map_congr_left
    intro i _
    show PV.tup [.int ((k + 1 + i : Nat) : Int), xs.getD i .non] = PV.tup [.int ((k + (i + 1) : Nat) : Int), (x :: xs).getD (i + 1) .non]
    rw [show k + 1 + i = k + (i + 1) by omega]
    simp
def pairV (k : Kd) (c : Int) (t : List Int) (i : Nat) : PV := .tup [.lst (iv (eAt k c t i)), .int ((i : Nat) : Int)]
theorem endsV_at {k : Kd} {t : List Int} {i : Nat} (h : i < t.length) : (endsV k t).getD i .non = .lst (iv (eAt k cG t i)) := by
  unfold endsV
  rw [List.getD_eq_getElem?_getD, List.getElem?_map, List.getElem?_range h]
  rfl
theorem enum_ends (k : Kd) (t : List Int) : enumP 0 (endsV k t) = (List.range t.length).map fun i => PV.tup [.int ((i : Nat) : Int), .lst (iv (eAt k cG t i))] := by
  rw [enumP_map]
  have : (endsV k t).length = t.length := by simp [endsV]
  rw [this]
  apply List.map_congr_left
  intro i hi
  rw [endsV_at (List.mem_range.mp hi), Nat.zero_add]
theorem lts_iv : ∀ {l m : List Int}, PV.lts (iv l) (iv m) = lx l m
  | [], [] => rfl
  | [], _ :: _ => rfl
  | _ :: _, [] => rfl
  | x :: xs, y :: ys => by
    show (if (PV.int x).eqv (.int y) = true then PV.lts (iv xs) (iv ys) else PV.lt (.int x) (.int y)) = if x = y then lx xs ys else decide (x < y)
    rw [lts_iv]
    have e : (PV.int x).eqv (.int y) = decide (x = y) := by
      show (x == y) = _
      by_cases h : x = y <;> simp [h]
    rw [e]
    by_cases h : x = y <;> simp [h, PV.lt]
theorem pair_lt {k : Kd} {c : Int} {t : List Int} {i j : Nat} : PV.lt (pairV k c t i) (pairV k c t j) = ltP (eAt k c t) i j := by
  show (if PV.eqvs (iv (eAt k c t i)) (iv (eAt k c t j)) = true then (if (PV.int i).eqv (.int j) = true then PV.lts [] [] else PV.lt (.int i) (.int j)) else PV.lts (iv (eAt k c t i)) (iv (eAt k c t j))) = _
  rw [eqvs_iv, lts_iv]
  unfold ltP
  have e : (PV.int (i : Int)).eqv (.int (j : Int)) = decide (i = j) := by
    show ((i : Int) == (j : Int)) = _
    by_cases h : i = j
    · simp [h]
    · have : ¬ (i : Int) = j := by omega
      simp [h, this]
  rw [e]
  by_cases h : eAt k c t i = eAt k c t j
  · rw [if_pos h, if_pos (by simpa using h)]
    by_cases h2 : i = j
    · subst h2; simp [PV.lts]
    · simp [h2, PV.lt]
  · rw [if_neg h, if_neg (by simpa using h)]
theorem sort_pairs (k : Kd) (c : Int) (t : List Int) (l : List Nat) (hl : l.length ≤ 1000) : psort (l.map (pairV k c t)) = some ((isort (ltP (eAt k c t)) l).map (pairV k c t)) := by
  have hs : sortable (l.map (pairV k c t)) = true := by
    unfold sortable
    rw [Bool.and_eq_true, Bool.and_eq_true]
    refine ⟨⟨?_, ?_⟩, ?_⟩
    · rw [dats_iff]
      intro x hx
      obtain ⟨i, _, rfl⟩ := List.mem_map.mp hx
      show (PV.dat 39 (.lst (iv _)) && (PV.dat 39 (.int _) && PV.dats 39 [])) = true
      have : PV.dat 39 (.lst (iv (eAt k c t i))) = true := dats_iv (n := 38)
      rw [this]
      rfl
    · rw [List.all_eq_true]
      intro x hx
      rw [List.all_eq_true]
      intro y hy
      obtain ⟨i, _, rfl⟩ := List.mem_map.mp hx
      obtain ⟨j, _, rfl⟩ := List.mem_map.mp hy
      show (PV.alikes (iv _) (iv _) && (true && true)) = true
      rw [alikes_iv]
      rfl
    · rw [Bool.or_eq_true]
      left
      rw [List.all_eq_true]
      intro x hx
      obtain ⟨i, _, rfl⟩ := List.mem_map.mp hx
      rfl
  unfold psort
  rw [hs, isortP_eq, if_pos (by simp; exact line_ok (by omega))]
  congr 1
  exact isort_map (lt := ltP (eAt k c t)) fun x _ y _ => pair_lt
def nbr (E : Nat → List Int) (q : List Nat) (j : Nat) : Bool := decide (E (q.getD j 0) = E (q.getD (j + 1) 0))
theorem apart_any {E : Nat → List Int} : ∀ (q : List Nat), ((List.range (q.length - 1)).any (nbr E q)) = !apart E q
  | [] => rfl
  | [_] => rfl
  | i :: j :: r => by
    have ih := apart_any (E := E) (j :: r)
    show ((List.range (r.length + 1)).any _) = !(!(E i == E j) && apart E (j :: r))
    rw [List.range_succ_eq_map, List.any_cons, List.any_map]
    have : ((List.range r.length).any (nbr E (i :: j :: r) ∘ Nat.succ)) = ((List.range ((j :: r).length - 1)).any (nbr E (j :: r))) := by
      congr 1
    rw [this, ih]
    unfold nbr
    have e : (E i == E j) = decide (E i = E j) := by by_cases h : E i = E j <;> simp [h]
    simp only [List.getD_cons_zero, List.getD_cons_succ, Bool.not_and, Bool.not_not, e]
theorem pat_map {α : Type} {f : α → PV} {l : List α} {j : Nat} {d : α} (h : j < l.length) : pat (l.map f) (j : Int) = some (f (l.getD j d)) := by
  refine pat_nat ?_
  rw [List.getElem?_map, List.getElem?_eq_getElem h, List.getD_eq_getElem?_getD, List.getElem?_eq_getElem h]
  rfl
theorem pat_map1 {α : Type} {f : α → PV} {l : List α} {j : Nat} {d : α} (h : j + 1 < l.length) : pat (l.map f) ((j : Int) + 1) = some (f (l.getD (j + 1) d)) := by
  have := pat_map (f := f) (d := d) h
  rw [← this]
  congr 1
theorem srtP_len {k : Kd} {c : Int} {t : List Int} : (srtP k c t).length = t.length := by
  have := (isort_perm (ltP (eAt k c t)) (List.range t.length)).length_eq
  rw [List.length_range] at this
  exact this
/-- what places_of answers -/
def spotsV (o : Option (List Nat)) : PV × Bool := match o with
  | some q => (.lst (nv q), true)
  | none => (.non, false)
section
variable {pg : PProg} (h : P pg) {n : Nat} {ph : PH}
include h
theorem r6 {k : Kd} {t : List Int} (ht : t.length ≤ 60) : callN pg (n + 2) 6 [.tup (iv t), .str (kS k)] ph = .ok (spotsV (spots k cG t)) ph := by
  rw [c6 h]
  have e5 := r5 h (n := n) (ph := ph) (k := k) ht
  have l1 : lcL pg (callN pg (n + 1)) [4, 5] (.tup [4, 5]) .nil f6_0 (enumP 0 (endsV k t)) [some (.tup (iv t), false), some (.str (kS k), false), some (.lst (endsV k t), false), none, none, none, none] ph = .ok ((List.range t.length).map (pairV k cG t)) ph := by
    rw [enum_ends]
    refine lcL_map (e := fun i : Nat => PV.tup [.int ((i : Nat) : Int), .lst (iv (eAt k cG t i))]) (g := pairV k cG t) fun i hi => ?_
    have z2 : 2 ≤ sizeLine := line_ok (by omega)
    rw [lcT_eq]
    simp [f6_0, z2, pairV]
  have hz : t.length < sizeLine := line_lt (by omega)
  have s1 : pbi .sorted [.lst ((List.range t.length).map (pairV k cG t))] = some (.lst ((srtP k cG t).map (pairV k cG t)), true) := by
    show (psort _).map _ = _
    rw [sort_pairs k cG t _ (by simp; omega)]
    rfl
  have ql : (srtP k cG t).length = t.length := srtP_len
  have sr : smallR ((t.length : Int) - 1) = true := smallR_int (by omega) (by omega)
  have tn : ((t.length : Int) - 1).toNat = t.length - 1 := by omega
  have l2 : lcL pg (callN pg (n + 1)) [6] (.nm 6) .nil f6_1 (nv (List.range (t.length - 1))) [some (.tup (iv t), false), some (.str (kS k), false), some (.lst (endsV k t), false), some (.lst ((srtP k cG t).map (pairV k cG t)), false), none, none, none] ph =
      .ok ((List.range (t.length - 1)).map fun j => .bl (nbr (eAt k cG t) (srtP k cG t) j)) ph := by
    refine lcL_map (e := fun i : Nat => PV.int ((i : Nat) : Int)) (g := fun j => .bl (nbr (eAt k cG t) (srtP k cG t) j)) fun j hj => ?_
    have hj := List.mem_range.mp hj
    have p1 := pat_map (f := pairV k cG t) (l := srtP k cG t) (j := j) (d := 0) (by omega)
    have p2 := pat_map1 (f := pairV k cG t) (l := srtP k cG t) (j := j) (d := 0) (by omega)
    have p3 : ∀ i, pixB ph (pairV k cG t i) (.int 0) = some (.lst (iv (eAt k cG t i))) := fun i => rfl
    rw [lcT_eq]
    simp only [f6_1, t_nil, cLt0_some, bind_nm, wipe_cons, wipe_nil, List.set_cons_succ, List.set_cons_zero, cLt1_ok, if_true, e_cmp, e_idx, e_var, e_int, e_bin, getV_0, getV_s, cVar_ok, cIdx1_ok, cIdx2_ok, cBin1_ok, cBin2_ok, cCmp1_ok, cCmp2_ok, pbin, rO_some, pixB_l, p1, p2, rV_some, p3, eq_lstI, rB_some, cLt2_ok, nbr]
  have l3 : lcL pg (callN pg (n + 1)) [5, 4] (.tup [5, 4]) .nil f6_2 ((srtP k cG t).map (pairV k cG t)) [some (.tup (iv t), false), some (.str (kS k), false), some (.lst (endsV k t), false), some (.lst ((srtP k cG t).map (pairV k cG t)), false), none, none, none] ph = .ok (nv (srtP k cG t)) ph := by
    refine lcL_map (e := pairV k cG t) (g := fun i => PV.int ((i : Nat) : Int)) fun i hi => ?_
    rw [lcT_eq]
    simp [f6_2, pairV]
  have hz1 : t.length - 1 < sizeLine := line_lt (by omega)
  have ap := apart_any (E := eAt k cG t) (srtP k cG t)
  rw [ql] at ap
  have am : pbi .any [.lst ((List.range (t.length - 1)).map fun j => .bl (nbr (eAt k cG t) (srtP k cG t) j))] = some (.bl (!apart (eAt k cG t) (srtP k cG t)), false) := by rw [any_map, ap]
  have mi : pbin .Sub (.int (t.length : Int)) (.int 1) = some (.int ((t.length : Int) - 1), false) := rfl
  simp only [f6]
  simp [e5, l1, hz, s1, ql, sr, tn, rngP_nv, mi, l2, hz1, am, l3, spots, spotsV]
  cases apart (eAt k cG t) (srtP k cG t) <;> simp
end
end Chk

set_option Elab.async false
set_option linter.all false
set_option maxRecDepth 100000
set_option maxHeartbeats 4000000
/-! ChkF: following, rises_in, are_numbers, is_rising, has_places. -/
namespace Chk
open PySem Py Mth
/-- an order, as a tuple or a list -/
def seqV (b : Bool) (xs : List PV) : PV := if b then .tup xs else .lst xs
theorem int_natCast_succ {i : Nat} : ((i : Nat) : Int) + 1 = ((i + 1 : Nat) : Int) := rfl
def pick (k : Kd) (a b c : Int) : Int := match k with | .fi => a | .la => b | .ri => c
theorem dsp {a b c : Int} (k : Kd) {ph : PH} : ∃ ks vs, dispD [.str "first", .int a, .str "last", .int b, .str "ring", .int c] [] [] = some (ks, vs) ∧ pixB ph (.dct ks vs) (.str (kS k)) = some (.int (pick k a b c)) := by
  cases k <;> exact ⟨_, _, rfl, rfl⟩
theorem isP_zero {p : List Nat} (hp : IsP p) (h1 : 1 ≤ p.length) : 0 ∈ p := (isP_mem hp).mpr (by omega)
theorem some_if {α : Type} {q : Prop} [Decidable q] {x : α} {ph : PH} : (if q then Out.ok (some x) ph else Out.ok none ph) = Out.ok (if q then some x else none) ph := by split <;> rfl
section
variable {pg : PProg} (h : P pg) {n : Nat} {ph : PH}
include h
theorem r7 {b : Bool} {k : Kd} {p : List Nat} (hp : IsP p) (h1 : 1 ≤ p.length) (h2 : p.length ≤ 60) : callN pg (n + 1) 7 [seqV b (nv p), .str (kS k)] ph = .ok (.lst (iv (fol k p)), true) ph := by
  rw [c7 h]
  have hz : p.length < sizeLine := line_lt (by omega)
  obtain ⟨ks, vs, d1, d2⟩ := dsp (a := -1) (b := (p.length : Int)) (c := ((p.idxOf 0 : Nat) : Int)) k (ph := ph)
  have d3 : pick k (-1) (p.length : Int) ((p.idxOf 0 : Nat) : Int) = byd k p := by cases k <;> rfl
  rw [d3] at d2
  have i0 : ∀ sq, sq = PV.tup (nv p) ∨ sq = PV.lst (nv p) → pmt .index sq [.int 0] = some (.int (p.idxOf 0 : Nat), false) := fun sq hs => by
    rcases hs with rfl | rfl
    · exact index_t (isP_zero hp h1) (by omega)
    · exact index_l (isP_zero hp h1) (by omega)
  have l1 : ∀ sq, sq = PV.tup (nv p) ∨ sq = PV.lst (nv p) → lcL pg (callN pg n) [4] (.nm 4) .nil f7_0 (nv p) [some (sq, false), some (.str (kS k), false), some (.int (p.length : Nat), false), some (.int (byd k p), false), none] ph = .ok (iv (fol k p)) ph := by
    intro sq hs
    have : iv (fol k p) = p.map fun i => PV.int (if i + 1 < p.length then ((p.idxOf (i + 1) : Nat) : Int) else byd k p) := by simp [iv, fol]
    rw [this]
    refine lcL_map (e := fun i : Nat => PV.int ((i : Nat) : Int)) (g := fun i => PV.int (if i + 1 < p.length then ((p.idxOf (i + 1) : Nat) : Int) else byd k p)) fun i hi => ?_
    have a1 : pbin .Add (.int (i : Int)) (.int 1) = some (.int ((i + 1 : Nat) : Int), false) := rfl
    have ix : i + 1 < p.length → pmt .index sq [.int ((i + 1 : Nat) : Int)] = some (.int (p.idxOf (i + 1) : Nat), false) := fun c => by
      rcases hs with rfl | rfl
      · exact index_t ((isP_mem hp).mpr c) (by omega)
      · exact index_l ((isP_mem hp).mpr c) (by omega)
    have m1 : ∀ (c : Bool) (env : PEnv), cMth1 pg (callN pg n) .index (.cons (.bin .Add (.var 4) (.int 1)) .nil) env (.ok (sq, c) ph) = cMth2 .index sq (evalL pg (callN pg n) (.cons (.bin .Add (.var 4) (.int 1)) .nil) env ph) := fun c env => by rcases hs with rfl | rfl <;> rfl
    rw [lcT_eq]
    by_cases c : i + 1 < p.length
    · simp only [f7_0, t_nil, cLt0_some, bind_nm, wipe_cons, wipe_nil, List.set_cons_succ, List.set_cons_zero, cLt1_ok, if_true, e_ite, e_cmp, e_bin, e_var, e_int, getV_0, getV_s, cVar_ok, cBin1_ok, cBin2_ok, a1, rO_some, cCmp1_ok, cCmp2_ok, cmp_lt, rB_some, cIte_ok, e_mth, m1, l_cons, l_nil, cL1_ok, cL2_ok, cMth2_ok, ix c, if_pos c, cLt2_ok]
      rw [if_pos (by simp; omega)]
      rfl
    · simp only [f7_0, t_nil, cLt0_some, bind_nm, wipe_cons, wipe_nil, List.set_cons_succ, List.set_cons_zero, cLt1_ok, if_true, e_ite, e_cmp, e_bin, e_var, e_int, getV_0, getV_s, cVar_ok, cBin1_ok, cBin2_ok, a1, rO_some, cCmp1_ok, cCmp2_ok, cmp_lt, rB_some, cIte_ok, if_neg c, cLt2_ok]
      rw [if_neg (by simp; omega)]
      rfl
  have fl : (fol k p).length = p.length := fol_len k p
  cases b
  · have l1 := l1 (.lst (nv p)) (.inr rfl)
    have i0 := i0 (.lst (nv p)) (.inr rfl)
    simp only [f7, seqV]
    simp [i0, g5 h, d1, d2, l1, hz, fl]
  · have l1 := l1 (.tup (nv p)) (.inl rfl)
    have i0 := i0 (.tup (nv p)) (.inl rfl)
    simp only [f7, seqV]
    simp [i0, g5 h, d1, d2, l1, hz, fl]
theorem r8 {b : Bool} {k : Kd} {p : List Nat} (hp : IsP p) (h1 : 1 ≤ p.length) (h2 : p.length ≤ 60) : callN pg (n + 2) 8 [seqV b (nv p), .str (kS k)] ph = .ok (.lst (nv (rises k p)), true) ph := by
  rw [c8 h]
  have e7 := r7 h (n := n) (ph := ph) (b := b) (k := k) hp h1 h2
  have fl : (fol k p).length = p.length := fol_len k p
  have sr : smallR ((p.length : Int) - 1) = true := smallR_int (by omega) (by omega)
  have tn : ((p.length : Int) - 1).toNat = p.length - 1 := by omega
  have mi : pbin .Sub (.int (p.length : Int)) (.int 1) = some (.int ((p.length : Int) - 1), false) := rfl
  have l1 : ∀ v0 v1, lcL pg (callN pg (n + 1)) [3] (.nm 3) f8_0 f8_1 (nv (List.range (p.length - 1))) [v0, v1, some (.lst (iv (fol k p)), false), none] ph = .ok (nv (rises k p)) ph := by
    intro v0 v1
    refine lcL_filter (e := fun i : Nat => PV.int ((i : Nat) : Int)) (g := fun i => PV.int ((i : Nat) : Int)) (p := rise k p) fun j hj => ?_
    have hj := List.mem_range.mp hj
    have p1 : pat (iv (fol k p)) (j : Int) = some (.int ((fol k p).getD j 0)) := pat_map (f := PV.int) (l := fol k p) (j := j) (d := 0) (by omega)
    have p2 : pat (iv (fol k p)) ((j : Int) + 1) = some (.int ((fol k p).getD (j + 1) 0)) := pat_map1 (f := PV.int) (l := fol k p) (j := j) (d := 0) (by omega)
    rw [lcT_eq]
    simp only [f8_0, f8_1, t_one, cLt0_some, bind_nm, wipe_cons, wipe_nil, List.set_cons_succ, List.set_cons_zero, e_cmp, e_idx, e_var, e_int, e_bin, getV_0, getV_s, cVar_ok, cIdx1_ok, cIdx2_ok, cBin1_ok, cBin2_ok, cCmp1_ok, cCmp2_ok, pbin, rO_some, pixB_l, p1, p2, rV_some, cmp_gt, rB_some, cT_ok, cLt1_ok, cLt2_ok, rise]
    exact some_if
  have hz : (rises k p).length < sizeLine := line_lt (by
    have : (rises k p).length ≤ (List.range (p.length - 1)).length := List.length_filter_le _ _
    rw [List.length_range] at this
    omega)
  have ln : ∀ c, pbi .len [(seqV b (nv p))] = some (.int (p.length : Nat), c) ↔ c = false := fun c => by cases b <;> simp [seqV]
  have ln := (ln false).mpr rfl
  generalize seqV b (nv p) = sq at e7 ln
  simp only [f8]
  simp [e7, ln, mi, sr, tn, rngP_nv, l1, hz]
theorem r11 {l : List Int} (hl : l.length ≤ 1000) : callN pg (n + 2) 11 [.tup (iv l)] ph = .ok (.bl true, false) ph := by
  rw [c11 h]
  have l1 : lcL pg (callN pg (n + 1)) [1] (.nm 1) .nil f11_0 (iv l) [some (.tup (iv l), false), none] ph = .ok ((iv l).map fun x => .bl (isI x)) ph := by
    rw [lcL_of (g := fun x => some (.bl (isI x))) fun x hxm => by rw [lcT_eq]; simp [f11_0, r0 h (isI_iv x hxm).2]]
    simp
  have ha : (iv l).all isI = true := List.all_eq_true.mpr fun x hx => (isI_iv x hx).1
  have hz : l.length < sizeLine := line_lt (by omega)
  simp only [f11]
  simp [pisi, l1, hz, all_map, ha]
theorem r11n {v : PV} (hv : ∀ xs, v ≠ .tup xs) (hb : nob v = true) : callN pg (n + 2) 11 [v] ph = .ok (.bl false, false) ph := by
  rw [c11 h]
  cases v with
  | tup xs => exact absurd rfl (hv xs)
  | _ => first | (simp [nob] at hb; done) | (simp [f11, pisi]; done)
/-- neighbours ascend -/
def adj (l : List Int) : Bool := (List.range (l.length - 1)).all fun j => decide (l.getD j 0 < l.getD (j + 1) 0)
def up (l : List Int) (j : Nat) : Bool := decide (l.getD j 0 < l.getD (j + 1) 0)
theorem r13 {l : List Int} (hl : l.length ≤ 1000) : callN pg (n + 3) 13 [.tup (iv l)] ph = .ok (.bl (adj l), false) ph := by
  rw [c13 h]
  have sr : smallR ((l.length : Int) - 1) = true := smallR_int (by omega) (by omega)
  have tn : ((l.length : Int) - 1).toNat = l.length - 1 := by omega
  have mi : pbin .Sub (.int (l.length : Int)) (.int 1) = some (.int ((l.length : Int) - 1), false) := rfl
  have l1 : lcL pg (callN pg (n + 2)) [1] (.nm 1) .nil f13_0 (nv (List.range (l.length - 1))) [some (.tup (iv l), false), none] ph = .ok ((List.range (l.length - 1)).map fun j => .bl (up l j)) ph := by
    refine lcL_map (e := fun i : Nat => PV.int ((i : Nat) : Int)) (g := fun j => .bl (up l j)) fun j hj => ?_
    have hj := List.mem_range.mp hj
    have p1 : pat (iv l) (j : Int) = some (.int (l.getD j 0)) := pat_map (f := PV.int) (l := l) (j := j) (d := 0) (by omega)
    have p2 : pat (iv l) ((j : Int) + 1) = some (.int (l.getD (j + 1) 0)) := pat_map1 (f := PV.int) (l := l) (j := j) (d := 0) (by omega)
    rw [lcT_eq]
    simp only [f13_0, t_nil, cLt0_some, bind_nm, wipe_cons, wipe_nil, List.set_cons_succ, List.set_cons_zero, cLt1_ok, if_true, e_cmp, e_idx, e_var, e_int, e_bin, getV_0, getV_s, cVar_ok, cIdx1_ok, cIdx2_ok, cBin1_ok, cBin2_ok, cCmp1_ok, cCmp2_ok, pbin, rO_some, pixB_t, p1, p2, rV_some, cmp_lt, rB_some, cLt2_ok, up]
  have hz : l.length - 1 < sizeLine := line_lt (by omega)
  have am : pbi .all [.lst ((List.range (l.length - 1)).map fun j => .bl (up l j))] = some (.bl (adj l), false) := all_map
  simp only [f13]
  simp [r11 h (n := n) hl, mi, sr, tn, rngP_nv, l1, hz, am]
theorem r13n {v : PV} (hv : ∀ xs, v ≠ .tup xs) (hb : nob v = true) : callN pg (n + 3) 13 [v] ph = .ok (.bl false, false) ph := by
  rw [c13 h]
  simp [f13, r11n h (n := n) hv hb]
/-- has_places, of a text -/
theorem r18 {k : Kd} {t : List Int} {p : List Nat} (ht1 : 1 ≤ t.length) (ht : t.length ≤ 60) (hb : ∀ x ∈ t, 0 ≤ x ∧ x ≤ 1000000000000000000) : callN pg (n + 5) 18 [.tup (iv t), .tup (nv p), .str (kS k)] ph = .ok (.bl (decide (spots k cG t = some p)), false) ph := by
  rw [c18 h]
  have e3 : callN pg (n + 4) 3 [.tup (iv t)] ph = .ok (.bl true, false) ph := by
    have := r3 h (n := n) (ph := ph) (v := .tup (iv t)) (List.all_eq_true.mpr fun x hx => (isI_iv x hx).2)
    rw [this]
    have : isText (.tup (iv t)) = true := by
      show ((decide (1 ≤ (iv t).length) && decide ((iv t).length ≤ 60)) && (iv t).all (btw 0 1000000000000000000)) = true
      rw [Bool.and_eq_true, Bool.and_eq_true]
      refine ⟨⟨by simp; omega, by simp; omega⟩, List.all_eq_true.mpr fun x hx => ?_⟩
      obtain ⟨a, ha, rfl⟩ := List.mem_map.mp hx
      obtain ⟨q1, q2⟩ := hb a ha
      show (decide (0 ≤ a) && decide (a ≤ 1000000000000000000)) = true
      simp [q1, q2]
    rw [this]
  have e6 := r6 h (n := n + 2) (ph := ph) (k := k) ht
  have ll : pbi .list [.tup (nv p)] = some (.lst (nv p), true) := rfl
  simp only [f18]
  cases hs : spots k cG t with
  | none =>
    rw [hs] at e6
    have pe : pcmp .Eq .non (.lst (nv p)) = some false := by
      show peq _ _ = _
      unfold peq
      rw [show PV.dat deep (.lst (nv p)) = true by rw [nv_iv]; exact dat_lstI]
      rfl
    simp [e3, e6, spotsV, ll, pe]
  | some q =>
    rw [hs] at e6
    simp [e3, e6, spotsV, ll, eq_lstN]
end
end Chk

set_option Elab.async false
set_option linter.all false
set_option maxRecDepth 100000
set_option maxHeartbeats 4000000
/-! ChkG: accepts, of claims of orders. -/
namespace Chk
open PySem Py Mth
theorem ret_call {pg : PProg} {cl : Calls} {b : IB} {o : OV} : cEnd (cB pg cl b (cRet o)) = o := by cases o <;> rfl
def claim4 (w : Str) (p : List Nat) (k : Kd) (x : PV) : PV := .tup [.str w, .tup (nv p), .str (kS k), x]
theorem in_sorts {k : Kd} : pcmp .NotIn (.str (kS k)) (.tup [.str "first", .str "last", .str "ring"]) = some false := by cases k <;> kernel_rfl
theorem claim_e {w : Str} {p : List Nat} {k : Kd} {x : PV} (hx : PV.dat 39 x = true) : pcmp .Eq (claim4 w p k x) (.tup []) = some false := by
  show (if ((PV.dat 39 (.str w) && (PV.dat 39 (.tup (nv p)) && (PV.dat 39 (.str (kS k)) && (PV.dat 39 x && PV.dats 39 [])))) && PV.dat 40 (.tup [])) = true then some (PV.eqvs _ []) else none) = _
  rw [hx, show PV.dat 39 (.tup (nv p)) = true by rw [nv_iv]; exact dats_iv (n := 38)]
  rfl
theorem pisi_str {w : Str} : pisi (.str w) .str = some true := Eq.trans rfl rfl
theorem in_lstN {x : Int} {l : List Nat} : pcmp .In (.int x) (.lst (nv l)) = some (decide (x ∈ ni l)) := by rw [nv_iv, in_lstI]
section
variable {pg : PProg} (h : P pg) {n : Nat} {ph : PH}
include h
theorem kg (w : Str) (m : Int) (hw : (w = "order" ∨ w = "no order" ∨ w = "agreement" ∨ w = "no agreement") ∧ m = 4 ∨ (w = "column" ∨ w = "no column") ∧ m = 3) : kGet pg 0 (.str w) (.int 0) = some (.int m) := by
  obtain ⟨q, e⟩ := h.k0
  unfold kGet
  rw [e]
  rcases hw with ⟨hw, rfl⟩ | ⟨hw, rfl⟩
  · rcases hw with rfl | rfl | rfl | rfl <;> rfl
  · rcases hw with rfl | rfl <;> rfl
/-- accepts hands over -/
theorem r22o {w : Str} {p : List Nat} {k : Kd} {x c : PV} (hw : w = "order" ∨ w = "no order") (hp : IsP p) (h1 : 1 ≤ p.length) (h2 : p.length ≤ 60) (hx : PV.dat 39 x = true) : callN pg (n + 3) 22 [claim4 w p k x, c] ph = callN pg (n + 2) 19 [claim4 w p k x, c] ph := by
  rw [c22 h]
  have e4 := r4 h (n := n) (ph := ph) hp h1 h2
  have kk := kg h w 4 (.inl ⟨by rcases hw with rfl | rfl <;> simp, rfl⟩)
  have a0 : ∀ ph, pixB ph (claim4 w p k x) (.int 0) = some (.str w) := fun ph => rfl
  have a1 : ∀ ph, pixB ph (claim4 w p k x) (.int 1) = some (.tup (nv p)) := fun ph => rfl
  have a2 : ∀ ph, pixB ph (claim4 w p k x) (.int 2) = some (.str (kS k)) := fun ph => rfl
  have ty : pisi (claim4 w p k x) .tuple = some true := rfl
  have ln : pbi .len [claim4 w p k x] = some (.int 4, false) := rfl
  have iw : pcmp .In (.str w) (.tup [.str "order", .str "no order"]) = some true := by rcases hw with rfl | rfl <;> kernel_rfl
  have z2 : 2 ≤ sizeLine := line_ok (by omega)
  have ce := claim_e (w := w) (p := p) (k := k) hx
  generalize claim4 w p k x = cm at *
  simp only [f22]
  simp [ty, ce, a0, a1, a2, pisi_str, ln, kk, g2 h, in_sorts, e4, iw, z2]
/-- "no order", a tuple of ints -/
theorem r19n {p : List Nat} {k : Kd} {l : List Int} {b : Int} (hp : IsP p) (h1 : 1 ≤ p.length) (h2 : p.length ≤ 60) (hl : l.length ≤ 1000) (hb : 1 ≤ b ∧ b ≤ 1000000000000000000) :
    callN pg (n + 4) 19 [claim4 "no order" p k (.int b), .tup (iv l)] ph = .ok (.bl ((adj l && decide ((l.length : Int) = b)) && l.all fun x => decide (x ∈ ni (rises k p))), false) ph := by
  rw [c19 h]
  have e1 : callN pg (n + 3) 1 [.int b, .int 1, .int 1000000000000000000] ph = .ok (.bl true, false) ph := by
    rw [r1 h (n := n + 1) rfl]
    simp [btw, hb]
  have e13 := r13 h (n := n) (ph := ph) hl
  have ew : pcmp .Eq (.str "no order") (.str "order") = some false := by kernel_rfl
  have e8 := r8 h (n := n + 1) (ph := ph) (b := true) (k := k) hp h1 h2
  simp only [seqV, if_true] at e8
  have l1 : lcL pg (callN pg (n + 3)) [6] (.nm 6) .nil f19_0 (iv l) [some (claim4 "no order" p k (.int b), false), some (.tup (iv l), false), some (.str "no order", false), some (.tup (nv p), false), some (.str (kS k), false), some (.int b, false), none] ph = .ok (l.map fun x => .bl (decide (x ∈ ni (rises k p)))) ph := by
    refine lcL_map (e := PV.int) (g := fun x => .bl (decide (x ∈ ni (rises k p)))) fun x hx => ?_
    rw [lcT_eq]
    simp only [f19_0, t_nil, cLt0_some, bind_nm, wipe_cons, wipe_nil, List.set_cons_succ, List.set_cons_zero, cLt1_ok, if_true, e_cmp, e_call, l_cons, l_nil, e_var, getV_0, getV_s, cVar_ok, cL1_ok, cL2_ok, cCall_ok, e8, cCmp1_ok, cCmp2_ok, in_lstN, rB_some, cLt2_ok]
  have hz : l.length < sizeLine := line_lt (by omega)
  have am : pbi .all [.lst (l.map fun x => .bl (decide (x ∈ ni (rises k p))))] = some (.bl (l.all fun x => decide (x ∈ ni (rises k p))), false) := all_map
  have bt : ∀ e, bindTg (.tup [2, 3, 4, 5]) (claim4 "no order" p k (.int b)) e = bindTg (.tup [2, 3, 4, 5]) (.tup [.str "no order", .tup (nv p), .str (kS k), .int b]) e := fun _ => rfl
  generalize claim4 "no order" p k (.int b) = cm at *
  simp only [f19]
  simp [bt, g4 h, e1, ew, e13, l1, hz, am]
  cases adj l <;> by_cases q : (l.length : Int) = b <;> simp [q]
theorem r19l {p : List Nat} {k : Kd} {c : PV} {b : Int} (hc : ∀ xs, c ≠ .tup xs) (hn : nob c = true) (hb : 1 ≤ b ∧ b ≤ 1000000000000000000) :
    callN pg (n + 4) 19 [claim4 "no order" p k (.int b), c] ph = .ok (.bl false, false) ph := by
  rw [c19 h]
  have e1 : callN pg (n + 3) 1 [.int b, .int 1, .int 1000000000000000000] ph = .ok (.bl true, false) ph := by
    rw [r1 h (n := n + 1) rfl]
    simp [btw, hb]
  have e13 := r13n h (n := n) (ph := ph) hc hn
  have ew : pcmp .Eq (.str "no order") (.str "order") = some false := by kernel_rfl
  have bt : ∀ e, bindTg (.tup [2, 3, 4, 5]) (claim4 "no order" p k (.int b)) e = bindTg (.tup [2, 3, 4, 5]) (.tup [.str "no order", .tup (nv p), .str (kS k), .int b]) e := fun _ => rfl
  generalize claim4 "no order" p k (.int b) = cm at *
  simp only [f19]
  simp [bt, g4 h, e1, ew, e13]
theorem r19o {p : List Nat} {k : Kd} {t : List Int} {b : Int} (ht1 : 1 ≤ t.length) (ht : t.length ≤ 60) (hb : 1 ≤ b ∧ b ≤ 1000000000000000000) (hx : ∀ x ∈ t, 0 ≤ x ∧ x ≤ 1000000000000000000) :
    callN pg (n + 6) 19 [claim4 "order" p k (.int b), .tup (iv t)] ph = .ok (.bl (decide (spots k cG t = some p) && t.all fun x => decide (x < b)), false) ph := by
  rw [c19 h]
  have e1 : callN pg (n + 5) 1 [.int b, .int 1, .int 1000000000000000000] ph = .ok (.bl true, false) ph := by
    rw [r1 h (n := n + 3) rfl]
    simp [btw, hb]
  have ew : pcmp .Eq (.str "order") (.str "order") = some true := by kernel_rfl
  have e18 := r18 h (n := n) (ph := ph) (k := k) (p := p) ht1 ht hx
  obtain ⟨m, em, hm⟩ : ∃ m, pbi .max [.tup (iv t)] = some (.int m, false) ∧ (decide (m < b) = t.all fun x => decide (x < b)) := by
    cases t with
    | nil => simp at ht1
    | cons x xs =>
      refine ⟨maxI x xs, ?_, ?_⟩
      · show (match pints (iv (x :: xs)) with | some (i :: is) => some (PV.int (maxI i is), false) | _ => none) = _
        rw [ints_of_iv]
      · clear ht1 ht hx e18
        induction xs generalizing x with
        | nil => exact (Bool.and_true _).symm
        | cons y ys ih =>
          rw [maxI, ih]
          simp only [List.all_cons]
          by_cases q : x < y
          · rw [if_pos q]
            by_cases q2 : y < b
            · have : x < b := by omega
              simp [q2, this]
            · simp [q2]
          · rw [if_neg q]
            by_cases q2 : x < b
            · have : y < b := by omega
              simp [q2, this]
            · simp [q2]
  have bt : ∀ e, bindTg (.tup [2, 3, 4, 5]) (claim4 "order" p k (.int b)) e = bindTg (.tup [2, 3, 4, 5]) (.tup [.str "order", .tup (nv p), .str (kS k), .int b]) e := fun _ => rfl
  generalize claim4 "order" p k (.int b) = cm at *
  rw [← hm]
  simp only [f19]
  simp [bt, g4 h, e1, ew, e18, em]
end
end Chk

set_option Elab.async false
set_option linter.all false
set_option maxRecDepth 100000
set_option maxHeartbeats 4000000
/-! ChkH: the laws' helpers: shuffled, sorts, after, steep, least, drawn orders. -/
namespace Chk
open PySem Py Mth
/-- a def of the program, by its tree alone -/
def Fn (pg : PProg) (i : Nat) (b : IB) (nm np : Nat) : Prop := ∃ fi, pg.fns[i]? = some fi ∧ fi.body = b ∧ fi.names.length = nm ∧ fi.params.length = np
theorem Fn.call {pg : PProg} {i : Nat} {b : IB} {nm np : Nat} (F : Fn pg i b nm np) {n : Nat} {args : List PV} {ph : PH} (hl : args.length = np) : callN pg (n + 1) i args ph = cEnd (execB pg (callN pg n) b (startE nm args) ph) := by
  obtain ⟨fi, h, rfl, rfl, rfl⟩ := F
  exact call_eq h hl
theorem add_lst {xs ys : List PV} (h : xs.length + ys.length ≤ 100000) : pbin .Add (.lst xs) (.lst ys) = some (.lst (xs ++ ys), true) := by
  show (if _ then _ else _) = _
  rw [if_pos (line_ok h)]
/-! ### shuffled -/
theorem shLoop {pg : PProg} (h : P2 pg) {n : Nat} {k : Nat} {v1 : Option (PV × Bool)} : ∀ (ts found rest : List PV) (v4 v5 : Option (PV × Bool)) (ph : PH), Jug ph k → ts.length = rest.length → found.length + rest.length ≤ 1000 →
    ∃ (ys : List PV) (v4' v5' : Option (PV × Bool)) (ph' : PH), ys.Perm (found ++ rest) ∧ JS ph k ph' ∧ forL pg (callN pg (n + 1)) (.nm 4) f26_0 ts [some (.box k, false), v1, some (.lst found, true), some (.lst rest, false), v4, v5] ph = .ok (.nx [some (.box k, false), v1, some (.lst ys, true), some (.lst [], false), v4', v5']) ph'
  | [], found, rest, v4, v5, ph, hj, hl, _ => by
    have : rest = [] := List.eq_nil_of_length_eq_zero hl.symm
    subst this
    exact ⟨found, v4, v5, ph, by simp, hj.self, rfl⟩
  | t :: ts, found, rest, v4, v5, ph, hj, hl, hz => by
    have hr : 0 < rest.length := by rw [← hl]; simp
    obtain ⟨d, p1, hd, j1, e1⟩ := swig h.toP (n := n) hj hr (by omega)
    have hx : rest[d]? = some rest[d] := List.getElem?_eq_getElem hd
    obtain ⟨ys, w4, w5, p2, hp, j2, e2⟩ := shLoop h (n := n) (v1 := v1) ts (found ++ [rest[d]]) (rest.take d ++ rest.drop (d + 1)) (some (t, false)) (some (.int (d : Nat), false)) p1 j1.jug (by simp at hl ⊢; omega) (by simp; omega)
    refine ⟨ys, w4, w5, p2, hp.trans ?_, j1.trans j2, ?_⟩
    · have e : rest = rest.take d ++ rest[d] :: rest.drop (d + 1) := by
        rw [← List.drop_eq_getElem_cons hd, List.take_append_drop]
      have q : (found ++ [rest[d]] ++ (rest.take d ++ rest.drop (d + 1))).Perm (found ++ (rest.take d ++ rest[d] :: rest.drop (d + 1))) := by
        rw [List.append_assoc]
        refine List.Perm.append_left _ ?_
        rw [List.singleton_append]
        exact (List.perm_middle).symm
      rw [← e] at q
      exact q
    · rw [forL_cons, ← e2]
      have a1 : pbin .Add (.lst found) (.lst [rest[d]]) = some (.lst (found ++ [rest[d]]), true) := add_lst (by simp; omega)
      have a2 : pbin .Add (.lst (rest.take d)) (.lst (rest.drop (d + 1))) = some (.lst (rest.take d ++ rest.drop (d + 1)), true) := add_lst (by simp; omega)
      have s1 : psl (.lst rest) none (some ((d : Nat) : Int)) = some (.lst (rest.take d), true) := by show some (PV.lst (pcut _ _ _), true) = _; rw [pcut_to]
      have s2 : psl (.lst rest) (some ((d + 1 : Nat) : Int)) none = some (.lst (rest.drop (d + 1)), true) := by show some (PV.lst (pcut _ _ _), true) = _; rw [pcut_from]
      have ai : pbin .Add (.int (d : Int)) (.int 1) = some (.int ((d + 1 : Nat) : Int), false) := rfl
      have l1 : 1 ≤ sizeLine := line_ok (by omega)
      simp only [f26_0, bind_nm, cBt_some, b_cons, s_asg, e_call, l_cons, l_nil, e_var, getV_0, getV_s, cVar_ok, cL1_ok, e_blt, cBlt_ok, pbi_len_l, rO_some, cL2_ok, cCall_ok, e1, cAsg_ok, cB_nx, b_frz, frzE_s, frzE_f, frzE_t, List.set_cons_succ, List.set_cons_zero, s_par, lf_cons, lf_nil, e_bin, e_bvar, cBvar_ok, e_lst, e_idx, cIdx1_ok, cIdx2_ok, pixB_l, pat_nat hx, rV_some, cLst_ok, List.length_cons, List.length_nil, Nat.zero_add, if_pos l1, cBin1_ok, cBin2_ok, a1, cLF1_ok, e_slc, p_nil, p_one, cSlc1_ok, cSlc2_ok, cSlc3_ok, cP_ok, s1, ai, e_int, s2, a2, cLF2_ok, cPar_ok, if_true, setAllF_cons, setAllF_nil, b_nil, cFl_nx]
theorem shuffled {pg : PProg} (h : P2 pg) {n : Nat} {k : Nat} {ph : PH} {xs : List PV} (hj : Jug ph k) (hz : xs.length ≤ 1000) : ∃ (ys : List PV) (ph' : PH), ys.Perm xs ∧ JS ph k ph' ∧ callN pg (n + 2) 26 [.box k, .lst xs] ph = .ok (.lst ys, true) ph' := by
  obtain ⟨ys, w4, w5, p1, hp, j1, e1⟩ := shLoop h (n := n) (v1 := some (.lst xs, false)) (rngP 0 xs.length) [] xs none none ph hj (rngP_length ..) (by simpa using hz)
  refine ⟨ys, p1, by simpa using hp, j1, ?_⟩
  rw [c26 h]
  have sr : smallR (xs.length : Int) = true := smallR_nat (by omega)
  have pl : pbi .list [.lst xs] = some (.lst xs, true) := rfl
  simp only [f26]
  simp [pl, sr, e1]
/-! ### drawn orders -/
def drawnB : IB := .cons (.ret (.blt .tuple (.cons (.call 26 (.cons (.var 0) (.cons (.lrng (.cons (.bin .Add (.int 1) (.call 24 (.cons (.var 0) (.cons (.var 1) .nil)))) .nil)) .nil))) .nil))) .nil
theorem nv_perm {ys : List PV} {l : List Nat} (h : ys.Perm (nv l)) : ∃ m : List Nat, ys = nv m ∧ m.Perm l := by
  refine ⟨ys.map fun v => match v with | .int i => i.toNat | _ => 0, ?_, ?_⟩
  · have : ∀ v ∈ ys, v = PV.int (((match v with | .int i => i.toNat | _ => 0 : Nat) : Nat) : Int) := fun v hv => by
      obtain ⟨a, _, rfl⟩ := List.mem_map.mp (h.mem_iff.mp hv)
      simp
    unfold nv
    rw [List.map_map]
    conv => lhs; rw [← List.map_id ys]
    exact List.map_congr_left fun v hv => this v hv
  · have := h.map fun v => match v with | .int i => i.toNat | _ => (0 : Nat)
    refine this.trans ?_
    unfold nv
    rw [List.map_map]
    have : (fun v => match v with | PV.int i => i.toNat | _ => (0 : Nat)) ∘ (fun n : Nat => PV.int ((n : Nat) : Int)) = id := by
      funext x
      simp
    rw [this, List.map_id]
theorem drawn {pg : PProg} (h : P2 pg) {i : Nat} (F : Fn pg i drawnB 2 2) {n : Nat} {k : Nat} {ph : PH} {m : Nat} (hj : Jug ph k) (h1 : 1 ≤ m) (h2 : m ≤ 60) :
    ∃ (p : List Nat) (ph' : PH), IsP p ∧ 1 ≤ p.length ∧ p.length ≤ m ∧ JS ph k ph' ∧ callN pg (n + 3) i [.box k, .int (m : Nat)] ph = .ok (.tup (nv p), false) ph' := by
  obtain ⟨d, p1, hd, j1, e1⟩ := swig h.toP (n := n + 1) hj (show 0 < m by omega) (by omega)
  obtain ⟨ys, p2, hp, j2, e2⟩ := shuffled h (n := n) (k := k) (ph := p1) (xs := nv (List.range (d + 1))) j1.jug (by simp; omega)
  obtain ⟨p, rfl, hp2⟩ := nv_perm hp
  have hpl : p.length = d + 1 := by rw [hp2.length_eq, List.length_range]
  refine ⟨p, p2, by unfold IsP; rw [hpl]; exact hp2, by omega, by omega, j1.trans j2, ?_⟩
  rw [F.call rfl]
  have st : startE 2 [.box k, .int (m : Nat)] = [some (.box k, false), some (.int (m : Nat), false)] := rfl
  rw [st]
  have ai : pbin .Add (.int 1) (.int (d : Int)) = some (.int ((d + 1 : Nat) : Int), false) := by
    show some (PV.int (1 + (d : Int)), false) = _
    rw [show (1 : Int) + d = ((d + 1 : Nat) : Int) by omega]
  have rg : rgEnds [.int ((d + 1 : Nat) : Int)] = some (0, ((d + 1 : Nat) : Int)) := rg_one (by omega)
  have rt : ((((d + 1 : Nat) : Int) - 0).toNat) = d + 1 := by omega
  have pt : pbi .tuple [.lst (nv p)] = some (.tup (nv p), false) := rfl
  simp only [drawnB, b_cons, s_ret, e_blt, l_cons, l_nil, e_call, e_lrng, e_bin, e_int, e_var, getV_0, getV_s, cVar_ok, cL1_ok, cL2_ok, cCall_ok, e1, cBin1_ok, cBin2_ok, ai, rO_some, cLr_ok, rg, Option.map_some, rt, rngP_nv, e2, cBlt_ok, pt, cRet_ok, cB_rt, cEnd_rt]
/-! ### sorts -/
def sortsV : List PV := [.str "first", .str "last", .str "ring"]
theorem sorts {pg : PProg} (h : P2 pg) {n : Nat} {ph : PH} : callN pg (n + 1) 27 [] ph = .ok (.lst sortsV, true) ph := by
  rw [c27 h]
  have z : 3 ≤ sizeLine := line_ok (by omega)
  simp [f27, z, sortsV]
theorem one_sort {pg : PProg} (h : P2 pg) {n : Nat} {k : Nat} {ph : PH} (hj : Jug ph k) : ∃ (kd : Kd) (ph' : PH), JS ph k ph' ∧ callN pg (n + 2) 25 [.box k, .lst sortsV] ph = .ok (.str (kS kd), false) ph' := by
  obtain ⟨j, x, p1, hx, j1, e1⟩ := one_l h.toP (n := n) (xs := sortsV) hj (by decide) (by decide)
  match j, hx with
  | 0, hx => cases hx; exact ⟨.fi, p1, j1, e1⟩
  | 1, hx => cases hx; exact ⟨.la, p1, j1, e1⟩
  | 2, hx => cases hx; exact ⟨.ri, p1, j1, e1⟩
  | j + 3, hx => simp [sortsV] at hx
/-! ### next ranks, rises -/
def afterL : IB := (.cons (.app 4 (.ite (.cmp .Eq (.bin .Add (.var 5) (.int 1)) (.var 2)) (.var 3) (.mth .index (.var 0) (.cons (.bin .Add (.var 5) (.int 1)) .nil)))) .nil)
def afterB : IB := (.cons (.asg 2 (.blt .len (.cons (.var 0) .nil))) (.frz 2 (.cons (.asg 3 (.idx (.dct (.cons (.str ("first" : Str)) (.cons (.neg (.int 1)) (.cons (.str ("last" : Str)) (.cons (.var 2) (.cons (.str ("ring" : Str)) (.cons (.mth .index (.var 0) (.cons (.int 0) .nil)) .nil))))))) (.var 1))) (.frz 3 (.cons (.asg 4 (.lst .nil)) (.cons (.forS (.nm 5) (.seq (.var 0)) afterL) (.cons (.retv 4) .nil)))))))
theorem afterLoop {pg : PProg} {cl : Calls} {k : Kd} {p : List Nat} (hp : IsP p) (h2 : p.length ≤ 60) {v1 : Option (PV × Bool)} {ph : PH} : ∀ (l : List Nat) (acc : List PV) (v5 : Option (PV × Bool)), (∀ i ∈ l, i < p.length) → acc.length + l.length ≤ 1000 →
    ∃ v5', forL pg cl (.nm 5) afterL (nv l) [some (.tup (nv p), false), v1, some (.int (p.length : Nat), false), some (.int (byd k p), false), some (.lst acc, true), v5] ph =
      .ok (.nx [some (.tup (nv p), false), v1, some (.int (p.length : Nat), false), some (.int (byd k p), false), some (.lst (acc ++ l.map fun i => .int (if i + 1 < p.length then ((p.idxOf (i + 1) : Nat) : Int) else byd k p)), true), v5']) ph
  | [], acc, v5, _, _ => ⟨v5, by show Out.ok _ ph = _; simp⟩
  | i :: l, acc, v5, hi, hz => by
    obtain ⟨v5', e⟩ := afterLoop hp h2 (v1 := v1) (ph := ph) (k := k) (pg := pg) (cl := cl) l (acc ++ [.int (if i + 1 < p.length then ((p.idxOf (i + 1) : Nat) : Int) else byd k p)]) (some (.int (i : Nat), false)) (fun j hj => hi j (List.mem_cons_of_mem _ hj)) (by simp at hz ⊢; omega)
    refine ⟨v5', ?_⟩
    have hil := hi i (List.mem_cons_self ..)
    show forL pg cl (.nm 5) afterL (.int (i : Nat) :: nv l) _ ph = _
    rw [forL_cons]
    have a1 : pbin .Add (.int (i : Int)) (.int 1) = some (.int ((i + 1 : Nat) : Int), false) := rfl
    have za : acc.length < sizeLine := line_lt (by omega)
    have q : List.map (fun i => PV.int (if i + 1 < p.length then ((p.idxOf (i + 1) : Nat) : Int) else byd k p)) (i :: l) = .int (if i + 1 < p.length then ((p.idxOf (i + 1) : Nat) : Int) else byd k p) :: l.map fun i => PV.int (if i + 1 < p.length then ((p.idxOf (i + 1) : Nat) : Int) else byd k p) := rfl
    rw [q, List.append_cons, ← e]
    by_cases c : i + 1 < p.length
    · have ne : ¬ ((i + 1 : Nat) : Int) = (p.length : Int) := by omega
      have ix := index_t ((isP_mem hp).mpr c) (by omega)
      simp only [afterL, bind_nm, cBt_some, List.set_cons_succ, List.set_cons_zero, b_cons, s_app, getO_0, getO_s, cApp1_ok, e_ite, e_cmp, e_bin, e_var, e_int, getV_0, getV_s, cVar_ok, cBin1_ok, cBin2_ok, a1, rO_some, cCmp1_ok, cCmp2_ok, cmp_eqi, rB_some, cIte_ok, decide_eq_true_eq, if_neg ne, e_mth, cMth1_t, l_cons, l_nil, cL1_ok, cL2_ok, cMth2_ok, ix, if_pos c, cApp2_ok, if_pos za, cB_nx, b_nil, cFl_nx]
    · have ee : ((i + 1 : Nat) : Int) = (p.length : Int) := by omega
      simp only [afterL, bind_nm, cBt_some, List.set_cons_succ, List.set_cons_zero, b_cons, s_app, getO_0, getO_s, cApp1_ok, e_ite, e_cmp, e_bin, e_var, e_int, getV_0, getV_s, cVar_ok, cBin1_ok, cBin2_ok, a1, rO_some, cCmp1_ok, cCmp2_ok, cmp_eqi, rB_some, cIte_ok, decide_eq_true_eq, if_pos ee, if_neg c, cApp2_ok, if_pos za, cB_nx, b_nil, cFl_nx]
theorem after_ok {pg : PProg} {i : Nat} (F : Fn pg i afterB 6 2) {n : Nat} {ph : PH} {k : Kd} {p : List Nat} (hp : IsP p) (h1 : 1 ≤ p.length) (h2 : p.length ≤ 60) : callN pg (n + 1) i [.tup (nv p), .str (kS k)] ph = .ok (.lst (iv (fol k p)), true) ph := by
  rw [F.call rfl]
  have st : startE 6 [.tup (nv p), .str (kS k)] = [some (.tup (nv p), false), some (.str (kS k), false), none, none, none, none] := rfl
  rw [st]
  obtain ⟨v5, e⟩ := afterLoop (pg := pg) (cl := callN pg n) (k := k) (v1 := some (.str (kS k), false)) (ph := ph) hp h2 p [] none (fun i hi => (isP_mem hp).mp hi) (by simp; omega)
  have ef : ([] ++ p.map fun i => PV.int (if i + 1 < p.length then ((p.idxOf (i + 1) : Nat) : Int) else byd k p)) = iv (fol k p) := by simp [iv, fol]
  rw [ef] at e
  obtain ⟨ks, vs, d1, d2⟩ := dsp (a := -1) (b := (p.length : Int)) (c := ((p.idxOf 0 : Nat) : Int)) k (ph := ph)
  have d3 : pick k (-1) (p.length : Int) ((p.idxOf 0 : Nat) : Int) = byd k p := by cases k <;> rfl
  rw [d3] at d2
  have ix : pmt .index (.tup (nv p)) [.int 0] = some (.int (p.idxOf 0 : Nat), false) := index_t (isP_zero hp h1) (by omega)
  simp only [afterB]
  simp [ix, d1, d2, e]
def steepC : IL := (.cons (.cmp .Gt (.idx (.var 2) (.var 3)) (.idx (.var 2) (.bin .Add (.var 3) (.int 1)))) .nil)
def steepB (a : Nat) : IB := (.cons (.asg 2 (.call a (.cons (.var 0) (.cons (.var 1) .nil)))) (.frz 2 (.cons (.ret (.lc [3] (.nm 3) (.rng1 (.bin .Sub (.blt .len (.cons (.var 0) .nil)) (.int 1))) steepC (.var 3))) .nil)))
theorem steep_ok {pg : PProg} {i a : Nat} (F : Fn pg i (steepB a) 4 2) (Fa : Fn pg a afterB 6 2) {n : Nat} {ph : PH} {k : Kd} {p : List Nat} (hp : IsP p) (h1 : 1 ≤ p.length) (h2 : p.length ≤ 60) : callN pg (n + 2) i [.tup (nv p), .str (kS k)] ph = .ok (.lst (nv (rises k p)), true) ph := by
  rw [F.call rfl]
  have st : startE 4 [.tup (nv p), .str (kS k)] = [some (.tup (nv p), false), some (.str (kS k), false), none, none] := rfl
  rw [st]
  have e7 := after_ok Fa (n := n) (ph := ph) (k := k) hp h1 h2
  have fl : (fol k p).length = p.length := fol_len k p
  have sr : smallR ((p.length : Int) - 1) = true := smallR_int (by omega) (by omega)
  have tn : ((p.length : Int) - 1).toNat = p.length - 1 := by omega
  have mi : pbin .Sub (.int (p.length : Int)) (.int 1) = some (.int ((p.length : Int) - 1), false) := rfl
  have l1 : ∀ v0 v1, lcL pg (callN pg (n + 1)) [3] (.nm 3) steepC (.var 3) (nv (List.range (p.length - 1))) [v0, v1, some (.lst (iv (fol k p)), false), none] ph = .ok (nv (rises k p)) ph := by
    intro v0 v1
    refine lcL_filter (e := fun i : Nat => PV.int ((i : Nat) : Int)) (g := fun i => PV.int ((i : Nat) : Int)) (p := rise k p) fun j hj => ?_
    have hj := List.mem_range.mp hj
    have p1 : pat (iv (fol k p)) (j : Int) = some (.int ((fol k p).getD j 0)) := pat_map (f := PV.int) (l := fol k p) (j := j) (d := 0) (by omega)
    have p2 : pat (iv (fol k p)) ((j : Int) + 1) = some (.int ((fol k p).getD (j + 1) 0)) := pat_map1 (f := PV.int) (l := fol k p) (j := j) (d := 0) (by omega)
    rw [lcT_eq]
    simp only [steepC, t_one, cLt0_some, bind_nm, wipe_cons, wipe_nil, List.set_cons_succ, List.set_cons_zero, e_cmp, e_idx, e_var, e_int, e_bin, getV_0, getV_s, cVar_ok, cIdx1_ok, cIdx2_ok, cBin1_ok, cBin2_ok, cCmp1_ok, cCmp2_ok, pbin, rO_some, pixB_l, p1, p2, rV_some, cmp_gt, rB_some, cT_ok, cLt1_ok, cLt2_ok, rise]
    exact some_if
  have hz : (rises k p).length < sizeLine := line_lt (by
    have : (rises k p).length ≤ (List.range (p.length - 1)).length := List.length_filter_le _ _
    rw [List.length_range] at this
    omega)
  simp only [steepB]
  simp [e7, mi, sr, tn, rngP_nv, l1, hz]
end Chk

set_option Elab.async false
set_option linter.all false
/-! Mth3: the text with an order and the fewest letters. -/
namespace Mth
/-- how many rises stand before an index -/
def cnt (k : Kd) (p : List Nat) (a : Nat) : Nat := ((List.range a).filter fun j => decide (j ∈ rises k p)).length
def leastT (k : Kd) (p : List Nat) : List Int := (List.range p.length).map fun i => ((cnt k p (p.idxOf i) : Nat) : Int)
theorem cnt_zero (k : Kd) (p : List Nat) : cnt k p 0 = 0 := rfl
theorem cnt_succ (k : Kd) (p : List Nat) (a : Nat) : cnt k p (a + 1) = cnt k p a + if a ∈ rises k p then 1 else 0 := by
  unfold cnt
  rw [List.range_succ, List.filter_append, List.length_append]
  congr 1
  by_cases h : a ∈ rises k p <;> simp [h]
theorem rises_mem {k : Kd} {p : List Nat} {a : Nat} : a ∈ rises k p ↔ a + 1 < p.length ∧ rise k p a = true := by
  unfold rises
  rw [List.mem_filter, List.mem_range]
  constructor
  · rintro ⟨h, g⟩; exact ⟨by omega, g⟩
  · rintro ⟨h, g⟩; exact ⟨by omega, g⟩
theorem cnt_le (k : Kd) (p : List Nat) {a : Nat} (h : a + 1 ≤ p.length) : cnt k p a ≤ (rises k p).length := by
  have e : cnt k p a = ((List.range a).filter (rise k p)).length := by
    unfold cnt
    congr 1
    refine List.filter_congr fun j hj => ?_
    have hj := List.mem_range.mp hj
    have : j ∈ rises k p ↔ rise k p j = true := by rw [rises_mem]; constructor; exact fun z => z.2; exact fun z => ⟨by omega, z⟩
    by_cases c : rise k p j = true
    · simp [this.mpr c, c]
    · have c' : ¬ j ∈ rises k p := fun z => c (this.mp z)
      simp [c', c]
  rw [e]
  unfold rises
  exact ((List.range_sublist.mpr (by omega : a ≤ p.length - 1)).filter _).length_le
theorem least_len (k : Kd) (p : List Nat) : (leastT k p).length = p.length := by simp [leastT]
theorem getD_at {p : List Nat} {a : Nat} (h : a < p.length) : p.getD a 0 = p[a] := by
  rw [List.getD_eq_getElem?_getD, List.getElem?_eq_getElem h, Option.getD_some]
theorem least_at {k : Kd} {p : List Nat} (hp : IsP p) {a : Nat} (h : a < p.length) : (leastT k p).getD (p.getD a 0) 0 = ((cnt k p a : Nat) : Int) := by
  rw [getD_at h]
  have h2 := isP_at hp h
  unfold leastT
  rw [List.getD_eq_getElem?_getD, List.getElem?_map, List.getElem?_range h2, Option.map_some, Option.getD_some, idx_at hp h]
theorem least_fit {k : Kd} {p : List Nat} (hp : IsP p) : Fit k p (leastT k p) := by
  refine fit_of hp fun a ha => ?_
  rw [least_at hp (by omega), least_at hp ha, cnt_succ]
  refine ⟨by split <;> omega, fun r => ?_⟩
  rw [if_pos (rises_mem.mpr ⟨ha, r⟩)]
  omega
theorem least_bd {k : Kd} {p : List Nat} (hp : IsP p) : ∀ x ∈ leastT k p, 0 ≤ x ∧ x ≤ ((rises k p).length : Int) := fun x hx => by
  obtain ⟨i, hi, rfl⟩ := List.mem_map.mp hx
  have hi := List.mem_range.mp hi
  have := cnt_le k p (a := p.idxOf i) (by have := idx_lt hp hi; omega)
  omega
theorem rises_len (k : Kd) (p : List Nat) : (rises k p).length ≤ p.length - 1 := by
  have : (rises k p).length ≤ (List.range (p.length - 1)).length := List.length_filter_le _ _
  rwa [List.length_range] at this
theorem rises_srt (k : Kd) (p : List Nat) : (rises k p).Pairwise (· < ·) := by
  unfold rises
  exact List.pairwise_lt_range.filter _
theorem least_spots {k : Kd} {p : List Nat} (hp : IsP p) {c : Int} (hc : (p.length : Int) < c) : spots k c (leastT k p) = some p := by
  refine fit_spots hp (least_len k p) (least_fit hp) c ?_
  have hb := least_bd (k := k) hp
  have hr := rises_len k p
  cases k with
  | ri => exact .inl rfl
  | fi => exact .inr (.inl ⟨rfl, fun x hx => by have := hb x hx; omega⟩)
  | la => exact .inr (.inr ⟨rfl, fun x hx => by have := hb x hx; omega⟩)
/-! neighbours ascend -/
theorem adj_iff {l : List Int} : ((List.range (l.length - 1)).all fun j => decide (l.getD j 0 < l.getD (j + 1) 0)) = true ↔ l.Pairwise (· < ·) := by
  induction l with
  | nil => simp
  | cons x r ih =>
    cases r with
    | nil => simp
    | cons y r =>
      have e : (List.range ((x :: y :: r).length - 1)).all (fun j => decide ((x :: y :: r).getD j 0 < (x :: y :: r).getD (j + 1) 0)) = (decide (x < y) && (List.range ((y :: r).length - 1)).all fun j => decide ((y :: r).getD j 0 < (y :: r).getD (j + 1) 0)) := by
        show (List.range (r.length + 1)).all _ = _
        rw [List.range_succ_eq_map, List.all_cons, List.all_map]
        rfl
      rw [e, Bool.and_eq_true, ih, decide_eq_true_eq]
      constructor
      · rintro ⟨h, g⟩
        refine List.pairwise_cons.mpr ⟨fun z hz => ?_, g⟩
        rcases List.mem_cons.mp hz with e | hz
        · rw [e]; exact h
        · have := (List.pairwise_cons.mp g).1 z hz; omega
      · intro g
        have g0 := List.pairwise_cons.mp g
        exact ⟨g0.1 y (List.mem_cons_self ..), g0.2⟩
end Mth

set_option Elab.async false
set_option linter.all false
set_option maxRecDepth 100000
set_option maxHeartbeats 4000000
/-! ChkI: the laws' least text. -/
namespace Chk
open PySem Py Mth
theorem iv_set {l : List Int} {i : Nat} {x : Int} : (iv l).set i (.int x) = iv (l.set i x) := by simp [iv]
def leastL : IB := (.cons (.setL 2 (.idx (.var 0) (.var 5)) (.var 3)) (.cons (.asg 3 (.bin .Add (.var 3) (.blt .int (.cons (.cmp .In (.var 5) (.var 4)) .nil)))) (.frz 3 .nil)))
def leastB (s : Nat) : IB := (.cons (.par [2, 3, 4] (.cons (.bin .Mult (.lst (.cons (.int 0) .nil)) (.blt .len (.cons (.var 0) .nil))) (.cons (.int 0) (.cons (.call s (.cons (.var 0) (.cons (.var 1) .nil))) .nil)))) (.frz 3 (.frz 4 (.cons (.forS (.nm 5) (.rng1 (.blt .len (.cons (.var 0) .nil))) leastL) (.cons (.ret (.blt .tuple (.cons (.bvar 2) .nil))) .nil)))))
def lsF (k : Kd) (p : List Nat) (a : Nat) : List Int := (List.range p.length).map fun i => if p.idxOf i < a then ((cnt k p (p.idxOf i) : Nat) : Int) else 0
theorem lsF_step {k : Kd} {p : List Nat} (hp : IsP p) {a : Nat} (ha : a < p.length) : (lsF k p a).set p[a] ((cnt k p a : Nat) : Int) = lsF k p (a + 1) := by
  apply List.ext_getElem?
  intro i
  unfold lsF
  have hpa := isP_at hp ha
  by_cases hi : i < p.length
  · by_cases c : i = p[a]
    · subst c
      rw [List.getElem?_set_self (by simp; exact hpa), List.getElem?_map, List.getElem?_range hpa, Option.map_some, idx_at hp ha, if_pos (by omega)]
    · rw [List.getElem?_set_ne (fun z => c z.symm), List.getElem?_map, List.getElem?_map, List.getElem?_range hi, Option.map_some, Option.map_some]
      have ne : p.idxOf i ≠ a := fun z => c (by have := at_idx hp hi; rw [← this]; congr 1)
      by_cases q : p.idxOf i < a
      · rw [if_pos q, if_pos (by omega)]
      · rw [if_neg q, if_neg (by omega)]
  · rw [List.getElem?_eq_none (by simp; omega), List.getElem?_eq_none (by simp; omega)]
theorem leastLoop {pg : PProg} {cl : Calls} {k : Kd} {p : List Nat} (hp : IsP p) (h2 : p.length ≤ 60) {v1 : Option (PV × Bool)} {ph : PH} : ∀ (m a : Nat) (v5 : Option (PV × Bool)), a + m = p.length →
    ∃ v3 v5', forL pg cl (.nm 5) leastL (rngP (a : Nat) m) [some (.tup (nv p), false), v1, some (.lst (iv (lsF k p a)), true), some (.int (cnt k p a : Nat), false), some (.lst (nv (rises k p)), false), v5] ph =
      .ok (.nx [some (.tup (nv p), false), v1, some (.lst (iv (lsF k p p.length)), true), v3, some (.lst (nv (rises k p)), false), v5']) ph
  | 0, a, v5, h => by
    have : a = p.length := by omega
    subst this
    exact ⟨_, v5, rfl⟩
  | m + 1, a, v5, h => by
    have ha : a < p.length := by omega
    obtain ⟨v3, v5', e⟩ := leastLoop hp h2 (v1 := v1) (ph := ph) (k := k) (pg := pg) (cl := cl) m (a + 1) (some (.int (a : Nat), false)) (by omega)
    refine ⟨v3, v5', ?_⟩
    rw [show rngP (a : Nat) (m + 1) = .int (a : Nat) :: rngP ((a : Nat) + 1) m from rfl, forL_cons]
    have hpa := isP_at hp ha
    have pa : pat (nv p) (a : Int) = some (.int (p[a] : Nat)) := pat_nat (nv_at (List.getElem?_eq_getElem ha))
    have ix : L2.ixN (iv (lsF k p a)).length ((p[a] : Nat) : Int) = some p[a] := ixN_nat (by simp [lsF]; exact hpa)
    have st := lsF_step (k := k) hp ha
    have ad : pbin .Add (.int (cnt k p a : Nat)) (.int (if decide ((a : Int) ∈ ni (rises k p)) = true then 1 else 0)) = some (.int (cnt k p (a + 1) : Nat), false) := by
      show some (PV.int (((cnt k p a : Nat) : Int) + _), false) = _
      rw [cnt_succ]
      have mm : (a : Int) ∈ ni (rises k p) ↔ a ∈ rises k p := by
        unfold ni
        rw [List.mem_map]
        constructor
        · rintro ⟨b, hb, e⟩
          have : b = a := by omega
          rw [← this]; exact hb
        · intro h; exact ⟨a, h, rfl⟩
      by_cases c : a ∈ rises k p
      · rw [if_pos (by simpa [mm] using c), if_pos c]; rfl
      · rw [if_neg (by simpa [mm] using c), if_neg c]; rfl
    have pi : ∀ b : Bool, pbi .int [.bl b] = some (.int (if b = true then 1 else 0), false) := fun b => rfl
    rw [show (((a + 1 : Nat) : Nat) : Int) = (a : Int) + 1 from rfl] at e
    rw [← e]
    simp only [leastL, bind_nm, cBt_some, List.set_cons_succ, List.set_cons_zero, b_cons, s_setL, e_var, getV_0, getV_s, cVar_ok]
    rw [cSetL1_ok (xs := iv (lsF k p a)) rfl]
    simp only [e_idx, e_var, getV_0, getV_s, cVar_ok, cIdx1_ok, cIdx2_ok, pixB_t, pa, rV_some]
    rw [cSetL2_ok ix, iv_set, st]
    simp only [List.set_cons_succ, List.set_cons_zero, cB_nx, b_cons, s_asg, e_bin, e_var, e_blt, l_cons, l_nil, e_cmp, getV_0, getV_s, cVar_ok, cBin1_ok, cCmp1_ok, cCmp2_ok, in_lstN, rB_some, cL1_ok, cL2_ok, cBlt_ok, pi, rO_some, cBin2_ok, ad, cAsg_ok, b_frz, frzE_s, frzE_f, b_nil, cFl_nx]
theorem least_ok {pg : PProg} {i s a : Nat} (F : Fn pg i (leastB s) 6 2) (Fs : Fn pg s (steepB a) 4 2) (Fa : Fn pg a afterB 6 2) {n : Nat} {ph : PH} {k : Kd} {p : List Nat} (hp : IsP p) (h1 : 1 ≤ p.length) (h2 : p.length ≤ 60) :
    callN pg (n + 3) i [.tup (nv p), .str (kS k)] ph = .ok (.tup (iv (leastT k p)), false) ph := by
  rw [F.call rfl]
  have st : startE 6 [.tup (nv p), .str (kS k)] = [some (.tup (nv p), false), some (.str (kS k), false), none, none, none, none] := rfl
  rw [st]
  have es := steep_ok Fs Fa (n := n) (ph := ph) (k := k) hp h1 h2
  obtain ⟨v3, v5, e⟩ := leastLoop (pg := pg) (cl := callN pg (n + 2)) (k := k) (v1 := some (.str (kS k), false)) (ph := ph) hp h2 p.length 0 none (by omega)
  have l0 : lsF k p 0 = List.replicate p.length 0 := by
    unfold lsF
    apply List.ext_getElem
    · simp
    · intro i h1 h2; simp
  have lm : pbin .Mult (.lst [.int 0]) (.int (p.length : Nat)) = some (.lst (iv (lsF k p 0)), true) := by
    have : iv (lsF k p 0) = (List.replicate ((p.length : Nat) : Int).toNat [PV.int 0]).flatten := by
      rw [l0, Int.toNat_natCast]
      simp [iv]
    rw [this]
    have c : (decide (-(2 ^ 62) ≤ ((p.length : Nat) : Int)) && decide (((p.length : Nat) : Int) < 2 ^ 62) && decide ([PV.int 0].length * ((p.length : Nat) : Int).toNat ≤ sizeLine)) = true := by
      simp only [Bool.and_eq_true, decide_eq_true_eq]
      exact ⟨⟨by omega, by omega⟩, line_ok (by simp; omega)⟩
    simp only [pbin]
    rw [if_pos c]
  have sr : smallR (p.length : Int) = true := smallR_nat (by omega)
  have le : lsF k p p.length = leastT k p := by
    unfold lsF leastT
    apply List.map_congr_left
    intro i hi
    rw [if_pos (idx_lt hp (List.mem_range.mp hi))]
  rw [le] at e
  have z1 : 1 ≤ sizeLine := line_ok (by omega)
  have pt : pbi .tuple [.lst (iv (leastT k p))] = some (.tup (iv (leastT k p)), false) := rfl
  have e : forL pg (callN pg (n + 2)) (.nm 5) leastL (rngP 0 p.length) [some (.tup (nv p), false), some (.str (kS k), false), some (.lst (iv (lsF k p 0)), true), some (.int 0, false), some (.lst (nv (rises k p)), false), none] ph = _ := e
  simp only [leastB]
  simp [lm, es, sr, e, pt, z1]
end Chk

set_option Elab.async false
set_option linter.all false
/-! Mth4: how far neighbouring ends agree; tables. -/
namespace Mth
def lcp : List Int → List Int → Nat
  | x :: xs, y :: ys => if x = y then lcp xs ys + 1 else 0
  | _, _ => 0
theorem lcp_cons {x y : Int} {xs ys : List Int} : lcp (x :: xs) (y :: ys) = if x = y then lcp xs ys + 1 else 0 := rfl
theorem lcp_nil (l : List Int) : lcp [] l = 0 := by cases l <;> rfl
theorem lcp_min : ∀ {x y z : List Int}, lx x y = true → lx y z = true → lcp x z = min (lcp x y) (lcp y z)
  | [], y, z, _, _ => by rw [lcp_nil, lcp_nil]; simp
  | _ :: _, [], _, h, _ => by simp [lx] at h
  | _ :: _, _ :: _, [], _, h => by simp [lx] at h
  | x :: xs, y :: ys, z :: zs, h, g => by
    rw [lcp_cons (x := x) (y := z) (xs := xs) (ys := zs), lcp_cons (x := x) (y := y) (xs := xs) (ys := ys), lcp_cons (x := y) (y := z) (xs := ys) (ys := zs)]
    rcases lx_cons.mp h with h1 | ⟨h0, h1⟩
    · rcases lx_cons.mp g with g1 | ⟨g0, g1⟩
      · rw [if_neg (by omega : ¬ x = z), if_neg (by omega : ¬ x = y)]; omega
      · rw [if_neg (by omega : ¬ x = z), if_neg (by omega : ¬ x = y)]; omega
    · rcases lx_cons.mp g with g1 | ⟨g0, g1⟩
      · rw [if_neg (by omega : ¬ x = z), if_neg (by omega : ¬ y = z)]; omega
      · rw [if_pos (by omega : x = z), if_pos h0, if_pos g0, lcp_min h1 g1]; omega
def agr (k : Kd) (c : Int) (t : List Int) (p : List Nat) : List Int := (List.range (p.length - 1)).map fun j => ((lcp (eAt k c t (p.getD j 0)) (eAt k c t (p.getD (j + 1) 0)) : Nat) : Int)
theorem agr_len {k : Kd} {c : Int} {t : List Int} {p : List Nat} : (agr k c t p).length = p.length - 1 := by simp [agr]
theorem agr_at {k : Kd} {c : Int} {t : List Int} {p : List Nat} {j : Nat} (h : j + 1 < p.length) : (agr k c t p).getD j 0 = ((lcp (eAt k c t (p.getD j 0)) (eAt k c t (p.getD (j + 1) 0)) : Nat) : Int) := by
  unfold agr
  rw [List.getD_eq_getElem?_getD, List.getElem?_map, List.getElem?_range (by omega)]
  rfl
/-- the least of some -/
def mn : Int → List Int → Int
  | m, [] => m
  | m, x :: xs => mn (if x < m then x else m) xs
def mnL : List Int → Int
  | [] => 0
  | x :: xs => mn x xs
theorem mn_le : ∀ {xs : List Int} {m z : Int}, z ∈ m :: xs → mn m xs ≤ z
  | [], m, z, h => by simp at h; subst h; exact Int.le_refl _
  | x :: xs, m, z, h => by
    unfold mn
    rcases List.mem_cons.mp h with e | h
    · subst e
      refine Int.le_trans (mn_le (List.mem_cons_self ..)) ?_
      split <;> omega
    · rcases List.mem_cons.mp h with e | h
      · subst e
        refine Int.le_trans (mn_le (List.mem_cons_self ..)) ?_
        split <;> omega
      · exact mn_le (List.mem_cons_of_mem _ h)
theorem mn_mem : ∀ {xs : List Int} {m : Int}, mn m xs ∈ m :: xs
  | [], m => by simp [mn]
  | x :: xs, m => by
    unfold mn
    rcases List.mem_cons.mp (mn_mem (xs := xs) (m := if x < m then x else m)) with e | e
    · rw [e]; split <;> simp
    · exact List.mem_cons_of_mem _ (List.mem_cons_of_mem _ e)
/-- what stands from one index to another -/
def cut (T : List Int) (lo hi : Nat) : List Int := (T.drop lo).take (hi - lo)
theorem cut_mem {T : List Int} {lo hi : Nat} (h2 : hi ≤ T.length) {z : Int} : z ∈ cut T lo hi ↔ ∃ i, lo ≤ i ∧ i < hi ∧ T.getD i 0 = z := by
  unfold cut
  rw [List.mem_iff_getElem?]
  constructor
  · rintro ⟨i, h⟩
    rw [List.getElem?_take] at h
    split at h
    · rename_i c
      rw [List.getElem?_drop] at h
      exact ⟨lo + i, by omega, by omega, by rw [List.getD_eq_getElem?_getD, h]; rfl⟩
    · cases h
  · rintro ⟨i, h1, h3, rfl⟩
    refine ⟨i - lo, ?_⟩
    rw [List.getElem?_take, if_pos (by omega), List.getElem?_drop, show lo + (i - lo) = i by omega, List.getElem?_eq_getElem (by omega : i < T.length), List.getD_eq_getElem?_getD, List.getElem?_eq_getElem (by omega : i < T.length)]
    rfl
theorem mnL_le {T : List Int} {lo hi : Nat} (h2 : hi ≤ T.length) {i : Nat} (a : lo ≤ i) (b : i < hi) : mnL (cut T lo hi) ≤ T.getD i 0 := by
  have m := (cut_mem h2).mpr ⟨i, a, b, rfl⟩
  cases e : cut T lo hi with
  | nil => rw [e] at m; cases m
  | cons x xs => rw [e] at m; exact mn_le m
theorem mnL_mem {T : List Int} {lo hi : Nat} (h2 : hi ≤ T.length) (h : lo < hi) : ∃ i, lo ≤ i ∧ i < hi ∧ T.getD i 0 = mnL (cut T lo hi) := by
  refine (cut_mem h2).mp ?_
  have m := (cut_mem h2).mpr ⟨lo, Nat.le_refl _, h, rfl⟩
  cases e : cut T lo hi with
  | nil => rw [e] at m; cases m
  | cons x xs => exact mn_mem
/-- a table does not tell at an index what an agreement can -/
def untr (k : Kd) (p : List Nat) (T : List Int) (j : Nat) : Bool :=
  if T.getD j 0 ≤ 0 then decide (T.getD j 0 < 0)
  else if rise k p j = true then true
  else if k ≠ .ri ∧ (p.getD j 0 + 1 = p.length ∨ p.getD (j + 1) 0 + 1 = p.length) then !decide (T.getD j 0 = 1)
  else !decide (T.getD j 0 = 1 + mnL (cut T ((fol k p).getD j 0).toNat ((fol k p).getD (j + 1) 0).toNat))
/-! ### the agreement of a text keeps the rule -/
section
variable {k : Kd} {c : Int} {t : List Int} {p : List Nat} (hp : IsP p) (hl : t.length = p.length) (hs : p.Pairwise fun i j => lx (eAt k c t i) (eAt k c t j) = true)
include hp hs
theorem srt_lt {a b : Nat} (hb : b < p.length) (h : a < b) : lx (eAt k c t (p.getD a 0)) (eAt k c t (p.getD b 0)) = true := by
  rw [getD_at (by omega : a < p.length), getD_at hb]
  exact (List.pairwise_iff_getElem.mp hs) a b (by omega) hb h
theorem idx_of_lx {i j : Nat} (hi : i < p.length) (hj : j < p.length) (h : lx (eAt k c t i) (eAt k c t j) = true) : p.idxOf i < p.idxOf j := by
  rcases Nat.lt_trichotomy (p.idxOf i) (p.idxOf j) with q | q | q
  · exact q
  · have := idx_inj hp hi hj q
    subst this
    rw [lx_irr] at h; cases h
  · have z := srt_lt hp hs (idx_lt hp hi) q
    rw [getD_at (idx_lt hp hi), getD_at (idx_lt hp hj), at_idx hp hi, at_idx hp hj] at z
    rw [lx_asym z] at h; cases h
/-- the least of the neighbours' -/
theorem lcp_far : ∀ (d a : Nat), a + d + 1 < p.length → (∀ m, a ≤ m → m < a + d + 1 → ((lcp (eAt k c t (p.getD a 0)) (eAt k c t (p.getD (a + d + 1) 0)) : Nat) : Int) ≤ (agr k c t p).getD m 0) ∧ ∃ m, a ≤ m ∧ m < a + d + 1 ∧ ((lcp (eAt k c t (p.getD a 0)) (eAt k c t (p.getD (a + d + 1) 0)) : Nat) : Int) = (agr k c t p).getD m 0
  | 0, a, h => by
    refine ⟨fun m h1 h2 => ?_, a, Nat.le_refl _, by omega, (agr_at h).symm⟩
    have : m = a := by omega
    subst this
    rw [agr_at h]
    exact Int.le_refl _
  | d + 1, a, h => by
    obtain ⟨q1, m0, m1, m2, q2⟩ := lcp_far d a (by omega)
    rw [show a + (d + 1) + 1 = a + d + 1 + 1 by omega] at h ⊢
    have mm := lcp_min (srt_lt hp hs (a := a) (b := a + d + 1) (by omega) (by omega)) (srt_lt hp hs (a := a + d + 1) (b := a + d + 1 + 1) h (by omega))
    have la := agr_at (k := k) (c := c) (t := t) h
    refine ⟨fun m h1 h2 => ?_, ?_⟩
    · by_cases e : m = a + d + 1
      · subst e; rw [la]; omega
      · have := q1 m h1 (by omega); omega
    · by_cases e : lcp (eAt k c t (p.getD a 0)) (eAt k c t (p.getD (a + d + 1) 0)) ≤ lcp (eAt k c t (p.getD (a + d + 1) 0)) (eAt k c t (p.getD (a + d + 1 + 1) 0))
      · exact ⟨m0, m1, by omega, by omega⟩
      · exact ⟨a + d + 1, by omega, by omega, by omega⟩
theorem lcp_mn {a b : Nat} (hb : b < p.length) (h : a < b) : ((lcp (eAt k c t (p.getD a 0)) (eAt k c t (p.getD b 0)) : Nat) : Int) = mnL (cut (agr k c t p) a b) := by
  obtain ⟨d, rfl⟩ : ∃ d, b = a + d + 1 := ⟨b - a - 1, by omega⟩
  obtain ⟨q1, m0, m1, m2, q2⟩ := lcp_far hp hs d a hb
  have hl : a + d + 1 ≤ (agr k c t p).length := by rw [agr_len]; omega
  obtain ⟨i, i1, i2, i3⟩ := mnL_mem hl (by omega : a < a + d + 1)
  have x1 := mnL_le hl m1 m2
  have x2 := q1 i i1 i2
  omega
end
theorem drop_c {t : List Int} {i : Nat} (h : i < t.length) : t.drop i = t.getD i 0 :: t.drop (i + 1) := by
  rw [List.drop_eq_getElem_cons h, List.getD_eq_getElem?_getD, List.getElem?_eq_getElem h, Option.getD_some]
theorem e_cons {k : Kd} {c : Int} {t : List Int} (hk : k ≠ .ri) {i : Nat} (hi : i < t.length) : eAt k c t i = t.getD i 0 :: eAt k c t (i + 1) := by
  cases k with
  | ri => exact absurd rfl hk
  | fi => show t.drop i ++ [-1] = _; rw [drop_c hi]; rfl
  | la => show t.drop i ++ [c] = _; rw [drop_c hi]; rfl
/-- rings: the letter, and what is behind it -/
theorem r_cons {c : Int} {t : List Int} {i : Nat} (hi : i < t.length) : eAt .ri c t i = t.getD i 0 :: (t.drop (i + 1) ++ t.take i) := by
  show t.drop i ++ t.take i = _
  rw [drop_c hi]
  rfl
theorem r_next {c : Int} {t : List Int} {i : Nat} (hi : i < t.length) : eAt .ri c t ((i + 1) % t.length) = (t.drop (i + 1) ++ t.take i) ++ [t.getD i 0] := by
  have tk : t.take (i + 1) = t.take i ++ [t.getD i 0] := by
    rw [List.take_succ, List.getD_eq_getElem?_getD, List.getElem?_eq_getElem hi]
    rfl
  by_cases h : i + 1 < t.length
  · rw [Nat.mod_eq_of_lt h]
    show t.drop (i + 1) ++ t.take (i + 1) = _
    rw [tk, List.append_assoc]
  · have e : i + 1 = t.length := by omega
    rw [e, Nat.mod_self]
    show t.drop 0 ++ t.take 0 = _
    rw [List.drop_zero, List.take_zero, List.append_nil, List.drop_length, List.nil_append, ← tk, e, List.take_length]
theorem lx_app {x : Int} : ∀ {xs ys : List Int}, xs.length = ys.length → lx (xs ++ [x]) (ys ++ [x]) = lx xs ys
  | [], [], _ => by simp [lx]
  | [], _ :: _, h => by simp at h
  | _ :: _, [], h => by simp at h
  | a :: xs, b :: ys, h => by
    show (if a = b then lx (xs ++ [x]) (ys ++ [x]) else decide (a < b)) = if a = b then lx xs ys else decide (a < b)
    rw [lx_app (by simpa using h)]
theorem lcp_app {x y : Int} : ∀ {xs ys : List Int}, xs.length = ys.length → xs ≠ ys → lcp (xs ++ [x]) (ys ++ [y]) = lcp xs ys
  | [], [], _, h => absurd rfl h
  | [], _ :: _, h, _ => by simp at h
  | _ :: _, [], h, _ => by simp at h
  | a :: xs, b :: ys, h, hn => by
    show (if a = b then lcp (xs ++ [x]) (ys ++ [y]) + 1 else 0) = if a = b then lcp xs ys + 1 else 0
    by_cases e : a = b
    · subst e
      rw [if_pos rfl, if_pos rfl, lcp_app (by simpa using h) (fun z => hn (by rw [z]))]
    · rw [if_neg e, if_neg e]
theorem e_head {k : Kd} {c : Int} {t : List Int} {i : Nat} (hi : i < t.length) : ∃ r, eAt k c t i = t.getD i 0 :: r := by
  by_cases kr : k = .ri
  · subst kr; exact ⟨_, r_cons hi⟩
  · exact ⟨_, e_cons kr hi⟩
theorem lcp_same {k : Kd} {c : Int} {t : List Int} {i j : Nat} (hi : i < t.length) (hj : j < t.length) (e : t.getD i 0 = t.getD j 0) : 0 < lcp (eAt k c t i) (eAt k c t j) := by
  obtain ⟨r, er⟩ := e_head (k := k) (c := c) hi
  obtain ⟨s, es⟩ := e_head (k := k) (c := c) hj
  rw [er, es, lcp_cons, if_pos e]
  omega
theorem lcp_diff {k : Kd} {c : Int} {t : List Int} {i j : Nat} (hi : i < t.length) (hj : j < t.length) (e : ¬ t.getD i 0 = t.getD j 0) : lcp (eAt k c t i) (eAt k c t j) = 0 := by
  obtain ⟨r, er⟩ := e_head (k := k) (c := c) hi
  obtain ⟨s, es⟩ := e_head (k := k) (c := c) hj
  rw [er, es, lcp_cons, if_neg e]
/-- letters and tails are apart -/
def Apt (k : Kd) (c : Int) (t : List Int) : Prop := k = .ri ∨ (k = .fi ∧ ∀ x ∈ t, -1 < x) ∨ (k = .la ∧ ∀ x ∈ t, x < c)
theorem mem_at {t : List Int} {i : Nat} (h : i < t.length) : t.getD i 0 ∈ t := by
  rw [List.getD_eq_getElem?_getD, List.getElem?_eq_getElem h, Option.getD_some]
  exact List.getElem_mem _
section
variable {k : Kd} {c : Int} {t : List Int} {p : List Nat} (hp : IsP p) (hl : t.length = p.length) (hs : p.Pairwise fun i j => lx (eAt k c t i) (eAt k c t j) = true) (ha : Apt k c t)
include hp hl hs ha
/-- one letter further: ranks and agreements -/
theorem one_on {j : Nat} (h : j + 1 < p.length) (e : t.getD (p.getD j 0) 0 = t.getD (p.getD (j + 1) 0) 0) : (fol k p).getD j 0 < (fol k p).getD (j + 1) 0 ∧
    (if k ≠ .ri ∧ (p.getD j 0 + 1 = p.length ∨ p.getD (j + 1) 0 + 1 = p.length) then (agr k c t p).getD j 0 = 1
      else (agr k c t p).getD j 0 = 1 + mnL (cut (agr k c t p) ((fol k p).getD j 0).toNat ((fol k p).getD (j + 1) 0).toNat) ∧ 0 ≤ (fol k p).getD j 0 ∧ (fol k p).getD (j + 1) 0 < p.length) := by
  have h0 : j < p.length := by omega
  have lt := srt_lt hp hs (a := j) (b := j + 1) h (by omega)
  have ag := agr_at (k := k) (c := c) (t := t) h
  have n1 := isP_at hp h0
  have n2 := isP_at hp h
  have f1 := fol_at k p h0
  have f2 := fol_at k p h
  rw [getD_at h0, getD_at h] at *
  generalize hi : p[j] = i at *
  generalize hi' : p[j + 1] = i' at *
  have ii : i ≠ i' := fun z => by
    have a := idx_at hp h0
    have b := idx_at hp h
    rw [hi] at a
    rw [hi', ← z] at b
    omega
  by_cases kr : k = .ri
  · subst kr
    rw [if_neg (by simp)]
    rw [r_cons (by omega : i < t.length), r_cons (by omega : i' < t.length), e] at lt ag
    have lt := (lx_cons.mp lt).resolve_left (by omega)
    have lt := lt.2
    have ll : (t.drop (i + 1) ++ t.take i).length = (t.drop (i' + 1) ++ t.take i').length := by simp; omega
    have ne : (t.drop (i + 1) ++ t.take i) ≠ (t.drop (i' + 1) ++ t.take i') := fun z => by rw [z, lx_irr] at lt; cases lt
    have lt2 : lx (eAt .ri c t ((i + 1) % t.length)) (eAt .ri c t ((i' + 1) % t.length)) = true := by
      rw [r_next (by omega), r_next (by omega), e, lx_app ll]
      exact lt
    have m1 : (i + 1) % t.length < p.length := by rw [← hl]; exact Nat.mod_lt _ (by omega)
    have m2 : (i' + 1) % t.length < p.length := by rw [← hl]; exact Nat.mod_lt _ (by omega)
    have ix := idx_of_lx hp hs m1 m2 lt2
    have nx : ∀ i, i < p.length → (if i + 1 < p.length then ((p.idxOf (i + 1) : Nat) : Int) else byd .ri p) = ((p.idxOf ((i + 1) % t.length) : Nat) : Int) := fun i hi => by
      by_cases q : i + 1 < p.length
      · rw [if_pos q, Nat.mod_eq_of_lt (by omega)]
      · rw [if_neg q, show i + 1 = t.length by omega, Nat.mod_self]; rfl
    rw [nx i n1] at f1
    rw [nx i' n2] at f2
    rw [f1, f2]
    have l2 := idx_lt hp m2
    have mm := lcp_mn hp hs l2 ix
    rw [getD_at (idx_lt hp m1), getD_at l2, at_idx hp m1, at_idx hp m2, r_next (by omega), r_next (by omega), lcp_app ll ne] at mm
    rw [lcp_cons, if_pos rfl] at ag
    refine ⟨by omega, ?_, by omega, by omega⟩
    rw [Int.toNat_natCast, Int.toNat_natCast, ag, ← mm]
    omega
  · rw [e_cons kr (by omega : i < t.length), e_cons kr (by omega : i' < t.length), e] at lt ag
    have lt := (lx_cons.mp lt).resolve_left (by omega)
    have lt := lt.2
    rw [lcp_cons, if_pos rfl] at ag
    have dn : t.drop t.length = [] := List.drop_length
    -- the empty end
    have tail : ∀ m, m < t.length → (k = .fi → lx (eAt k c t t.length) (eAt k c t m) = true) ∧ (k = .la → lx (eAt k c t m) (eAt k c t t.length) = true) ∧ lcp (eAt k c t t.length) (eAt k c t m) = 0 ∧ lcp (eAt k c t m) (eAt k c t t.length) = 0 := fun m hm => by
      have mm := mem_at hm
      rw [e_cons kr hm]
      rcases ha with rfl | ⟨rfl, ha⟩ | ⟨rfl, ha⟩
      · exact absurd rfl kr
      · have := ha _ mm
        show (_ → lx (t.drop t.length ++ [-1]) _ = true) ∧ (_ → lx _ (t.drop t.length ++ [-1]) = true) ∧ lcp (t.drop t.length ++ [-1]) _ = 0 ∧ lcp _ (t.drop t.length ++ [-1]) = 0
        rw [dn]
        refine ⟨fun _ => lx_cons.mpr (.inl this), nofun, ?_, ?_⟩
        · rw [List.nil_append, lcp_cons, if_neg (by omega)]
        · rw [List.nil_append, lcp_cons, if_neg (by omega)]
      · have := ha _ mm
        show (_ → lx (t.drop t.length ++ [c]) _ = true) ∧ (_ → lx _ (t.drop t.length ++ [c]) = true) ∧ lcp (t.drop t.length ++ [c]) _ = 0 ∧ lcp _ (t.drop t.length ++ [c]) = 0
        rw [dn]
        refine ⟨nofun, fun _ => lx_cons.mpr (.inl this), ?_, ?_⟩
        · rw [List.nil_append, lcp_cons, if_neg (by omega)]
        · rw [List.nil_append, lcp_cons, if_neg (by omega)]
    by_cases q1 : i + 1 < p.length
    · rw [if_pos q1] at f1
      by_cases q2 : i' + 1 < p.length
      · rw [if_pos q2] at f2
        rw [if_neg (by omega), f1, f2]
        have ix := idx_of_lx hp hs q1 q2 lt
        have l2 := idx_lt hp q2
        have mm := lcp_mn hp hs l2 ix
        rw [getD_at (idx_lt hp q1), getD_at l2, at_idx hp q1, at_idx hp q2] at mm
        refine ⟨by omega, ?_, by omega, by omega⟩
        rw [Int.toNat_natCast, Int.toNat_natCast, ag, ← mm]
        omega
      · rw [if_neg q2] at f2
        have e2 : i' + 1 = t.length := by omega
        obtain ⟨z1, z2, z3, z4⟩ := tail (i + 1) (by omega)
        rw [e2] at lt ag
        rw [if_pos ⟨kr, .inr (by omega)⟩, ag, z4, f1, f2]
        refine ⟨?_, by omega⟩
        have := idx_lt hp q1
        cases k with
        | ri => exact absurd rfl kr
        | fi =>
          rw [lx_asym (z1 rfl)] at lt
          cases lt
        | la => show _ < ((p.length : Nat) : Int); omega
    · rw [if_neg q1] at f1
      have e1 : i + 1 = t.length := by omega
      have q2 : i' + 1 < p.length := by omega
      rw [if_pos q2] at f2
      obtain ⟨z1, z2, z3, z4⟩ := tail (i' + 1) (by omega)
      rw [e1] at lt ag
      rw [if_pos ⟨kr, .inl (by omega)⟩, ag, z3, f1, f2]
      refine ⟨?_, by omega⟩
      cases k with
      | ri => exact absurd rfl kr
      | fi => show (-1 : Int) < _; omega
      | la =>
        rw [lx_asym (z2 rfl)] at lt
        cases lt
/-- THE RULE: an agreement tells at each index what it must -/
theorem agr_true {j : Nat} (h : j + 1 < p.length) : untr k p (agr k c t p) j = false := by
  have h0 : j < p.length := by omega
  have n1 := isP_at hp h0
  have n2 := isP_at hp h
  have m1 : p.getD j 0 < t.length := by rw [getD_at h0]; omega
  have m2 : p.getD (j + 1) 0 < t.length := by rw [getD_at h]; omega
  have ag := agr_at (k := k) (c := c) (t := t) h
  by_cases e : t.getD (p.getD j 0) 0 = t.getD (p.getD (j + 1) 0) 0
  · obtain ⟨q1, q2⟩ := one_on hp hl hs ha h e
    have pos : ¬ (agr k c t p).getD j 0 ≤ 0 := by
      rw [ag]
      have := lcp_same (k := k) (c := c) m1 m2 e
      omega
    have nr : ¬ rise k p j = true := by
      unfold rise
      rw [decide_eq_true_eq]
      omega
    unfold untr
    rw [if_neg pos, if_neg nr]
    by_cases q : k ≠ .ri ∧ (p.getD j 0 + 1 = p.length ∨ p.getD (j + 1) 0 + 1 = p.length)
    · rw [if_pos q] at q2 ⊢
      rw [q2]; rfl
    · rw [if_neg q] at q2 ⊢
      simp only [Bool.not_eq_false', decide_eq_true_eq]
      exact q2.1
  · have z : (agr k c t p).getD j 0 = 0 := by
      rw [ag, lcp_diff m1 m2 e]; rfl
    unfold untr
    rw [z]
    simp
end
end Mth

set_option Elab.async false
set_option linter.all false
/-! Mth5: a table that keeps the rule is an agreement. -/
namespace Mth
/-- how many noughts stand before an index -/
def cz (T : List Int) : Nat → Int
  | 0 => 0
  | a + 1 => cz T a + if T.getD a 0 = 0 then 1 else 0
theorem cz_bd (T : List Int) : ∀ a : Nat, 0 ≤ cz T a ∧ cz T a ≤ a
  | 0 => ⟨Int.le_refl _, Int.le_refl _⟩
  | a + 1 => by
    have := cz_bd T a
    unfold cz
    split <;> omega
def apartT (p : List Nat) (T : List Int) : List Int := (List.range p.length).map fun i => cz T (p.idxOf i)
theorem apartT_len (p : List Nat) (T : List Int) : (apartT p T).length = p.length := by simp [apartT]
theorem apartT_at {p : List Nat} {T : List Int} (hp : IsP p) {a : Nat} (h : a < p.length) : (apartT p T).getD (p.getD a 0) 0 = cz T a := by
  rw [getD_at h]
  have h2 := isP_at hp h
  unfold apartT
  rw [List.getD_eq_getElem?_getD, List.getElem?_map, List.getElem?_range h2, Option.map_some, Option.getD_some, idx_at hp h]
theorem apartT_bd {p : List Nat} {T : List Int} (hp : IsP p) : ∀ x ∈ apartT p T, 0 ≤ x ∧ x < p.length := fun x hx => by
  obtain ⟨i, hi, rfl⟩ := List.mem_map.mp hx
  have hi := List.mem_range.mp hi
  have h1 := cz_bd T (p.idxOf i)
  have := idx_lt hp hi
  omega
/-- the rule, as ones that are told apart -/
theorem untr_pos {k : Kd} {p : List Nat} {T : List Int} {j : Nat} (h : untr k p T j = false) : 0 ≤ T.getD j 0 := by
  unfold untr at h
  split at h
  · have := of_decide_eq_false h; omega
  · omega
theorem untr_flat {k : Kd} {p : List Nat} {T : List Int} {j : Nat} (h : untr k p T j = false) (g : T.getD j 0 ≠ 0) : ¬ rise k p j = true := by
  have z := untr_pos h
  unfold untr at h
  rw [if_neg (by omega)] at h
  intro r
  rw [if_pos r] at h
  cases h
theorem untr_val {k : Kd} {p : List Nat} {T : List Int} {j : Nat} (h : untr k p T j = false) (g : T.getD j 0 ≠ 0) : if k ≠ .ri ∧ (p.getD j 0 + 1 = p.length ∨ p.getD (j + 1) 0 + 1 = p.length) then T.getD j 0 = 1 else T.getD j 0 = 1 + mnL (cut T ((fol k p).getD j 0).toNat ((fol k p).getD (j + 1) 0).toNat) := by
  have z := untr_pos h
  have r := untr_flat h g
  unfold untr at h
  rw [if_neg (by omega), if_neg r] at h
  split
  · rename_i q
    rw [if_pos q] at h
    simpa using h
  · rename_i q
    rw [if_neg q] at h
    simpa using h
section
variable {k : Kd} {c : Int} {p : List Nat} {T : List Int} (hp : IsP p) (hT : T.length = p.length - 1) (hu : ∀ j, j + 1 < p.length → untr k p T j = false)
include hp hu
theorem apart_fit : Fit k p (apartT p T) := by
  refine fit_of hp fun a ha => ?_
  have e3 : cz T (a + 1) = cz T a + if T.getD a 0 = 0 then 1 else 0 := rfl
  rw [apartT_at hp (by omega), apartT_at hp ha, e3]
  refine ⟨by split <;> omega, fun r => ?_⟩
  have : T.getD a 0 = 0 := Decidable.byContradiction fun z => untr_flat (hu a ha) z r
  rw [if_pos this]
  omega
theorem apart_apt (hc : (p.length : Int) ≤ c) : Apt k c (apartT p T) := by
  have := apartT_bd (T := T) hp
  cases k with
  | ri => exact .inl rfl
  | fi => exact .inr (.inl ⟨rfl, fun x hx => by have := this x hx; omega⟩)
  | la => exact .inr (.inr ⟨rfl, fun x hx => by have := this x hx; omega⟩)
theorem apart_spots (hc : (p.length : Int) ≤ c) : spots k c (apartT p T) = some p :=
  fit_spots hp (apartT_len p T) (apart_fit hp hu) c (apart_apt hp hu hc)
include hT
theorem apart_agr (hc : (p.length : Int) ≤ c) : agr k c (apartT p T) p = T := by
  have hl := apartT_len p T
  have hs := (spots_back (apart_spots (c := c) hp hu hc)).2
  have ha := apart_apt (c := c) hp hu hc
  generalize hX : agr k c (apartT p T) p = X
  have hXl : X.length = p.length - 1 := by rw [← hX]; exact agr_len
  -- noughts are the same
  have nil : ∀ j, j + 1 < p.length → (X.getD j 0 = 0 ↔ T.getD j 0 = 0) := fun j hj => by
    have e1 := apartT_at (T := T) hp (a := j) (by omega)
    have e2 := apartT_at (T := T) hp (a := j + 1) hj
    have m1 : p.getD j 0 < (apartT p T).length := by rw [getD_at (by omega : j < p.length), hl]; exact isP_at hp _
    have m2 : p.getD (j + 1) 0 < (apartT p T).length := by rw [getD_at hj, hl]; exact isP_at hp _
    rw [← hX, agr_at hj]
    have e3 : cz T (j + 1) = cz T j + if T.getD j 0 = 0 then 1 else 0 := rfl
    constructor
    · intro z
      refine Decidable.byContradiction fun g => ?_
      rw [if_neg g] at e3
      have := lcp_same (k := k) (c := c) m1 m2 (by omega)
      omega
    · intro z
      rw [if_pos z] at e3
      rw [lcp_diff m1 m2 (by omega)]
      rfl
  have xt : ∀ j, j + 1 < p.length → untr k p X j = false := fun j hj => by rw [← hX]; exact agr_true hp hl hs ha hj
  -- bounds of what is cut
  have bd : ∀ j, j + 1 < p.length → T.getD j 0 ≠ 0 → ¬ (k ≠ .ri ∧ (p.getD j 0 + 1 = p.length ∨ p.getD (j + 1) 0 + 1 = p.length)) → ((fol k p).getD j 0).toNat < ((fol k p).getD (j + 1) 0).toNat ∧ ((fol k p).getD (j + 1) 0).toNat + 1 ≤ p.length := fun j hj g q => by
    have e1 := apartT_at (T := T) hp (a := j) (by omega)
    have e2 := apartT_at (T := T) hp (a := j + 1) hj
    have e3 : cz T (j + 1) = cz T j + if T.getD j 0 = 0 then 1 else 0 := rfl
    rw [if_neg g] at e3
    obtain ⟨o1, o2⟩ := one_on hp hl hs ha hj (by omega)
    rw [if_neg q] at o2
    omega
  have key : ∀ (m : Nat) (j : Nat), j + 1 < p.length → (X.getD j 0 ≤ m ∨ T.getD j 0 ≤ m) → X.getD j 0 = T.getD j 0 := by
    intro m
    induction m with
    | zero =>
      intro j hj h
      have a1 := untr_pos (xt j hj)
      have a2 := untr_pos (hu j hj)
      have a3 := nil j hj
      rcases h with h | h
      · have : X.getD j 0 = 0 := by omega
        have := a3.mp this; omega
      · have : T.getD j 0 = 0 := by omega
        have := a3.mpr this; omega
    | succ m ih =>
      intro j hj h
      have a1 := untr_pos (xt j hj)
      have a2 := untr_pos (hu j hj)
      have a3 := nil j hj
      by_cases g : T.getD j 0 = 0
      · have := a3.mpr g; omega
      · have g2 : X.getD j 0 ≠ 0 := fun z => g (a3.mp z)
        have v1 := untr_val (xt j hj) g2
        have v2 := untr_val (hu j hj) g
        by_cases q : k ≠ .ri ∧ (p.getD j 0 + 1 = p.length ∨ p.getD (j + 1) 0 + 1 = p.length)
        · rw [if_pos q] at v1 v2
          omega
        · rw [if_neg q] at v1 v2
          obtain ⟨b1, b2⟩ := bd j hj g q
          generalize ((fol k p).getD j 0).toNat = lo at *
          generalize ((fol k p).getD (j + 1) 0).toNat = hi at *
          have hx : hi ≤ X.length := by omega
          have ht : hi ≤ T.length := by omega
          obtain ⟨i, i1, i2, i3⟩ := mnL_mem hx b1
          obtain ⟨s, s1, s2, s3⟩ := mnL_mem ht b1
          have li := mnL_le ht i1 i2
          have ls := mnL_le hx s1 s2
          rcases h with h | h
          · have ei := ih i (by omega) (.inl (by omega))
            have es := ih s (by omega)
            by_cases w : T.getD s 0 ≤ (m : Int)
            · have := es (.inr w); omega
            · omega
          · have es := ih s (by omega) (.inr (by omega))
            have ei := ih i (by omega)
            by_cases w : X.getD i 0 ≤ (m : Int)
            · have := ei (.inl w); omega
            · omega
  refine List.ext_getElem (by omega) fun j h1 h2 => ?_
  have hj : j + 1 < p.length := by omega
  have a1 := untr_pos (xt j hj)
  have e := key (X.getD j 0).toNat j hj (.inl (by omega))
  rw [List.getD_eq_getElem?_getD, List.getElem?_eq_getElem h1, List.getD_eq_getElem?_getD, List.getElem?_eq_getElem h2] at e
  exact e
end
/-- no untrue index: exactly the tables of agreements -/
theorem table_iff {k : Kd} {c : Int} {p : List Nat} {T : List Int} (hp : IsP p) (hT : T.length = p.length - 1) (hc : (p.length : Int) ≤ c) :
    ((spots k c (apartT p T) = some p ∧ agr k c (apartT p T) p = T) ↔ ∀ j, j + 1 < p.length → untr k p T j = false) := by
  constructor
  · rintro ⟨h1, h2⟩ j hj
    have ha : Apt k c (apartT p T) := by
      have := apartT_bd (T := T) hp
      cases k with
      | ri => exact .inl rfl
      | fi => exact .inr (.inl ⟨rfl, fun x hx => by have := this x hx; omega⟩)
      | la => exact .inr (.inr ⟨rfl, fun x hx => by have := this x hx; omega⟩)
    rw [← h2]
    exact agr_true hp (apartT_len p T) (spots_back h1).2 ha hj
  · intro hu
    exact ⟨apart_spots hp hu hc, apart_agr hp hT hu hc⟩
theorem table_of {k : Kd} {c : Int} {p : List Nat} {t T : List Int} (hp : IsP p) (ha : Apt k c t) (h1 : spots k c t = some p) (h2 : agr k c t p = T) : ∀ j, j + 1 < p.length → untr k p T j = false := fun j hj => by
  have hl : t.length = p.length := by
    have := (spots_back h1).1.length_eq
    rw [List.length_range] at this
    omega
  rw [← h2]
  exact agr_true hp hl (spots_back h1).2 ha hj
/-! tails -/
theorem lx_tail {c d : Int} : ∀ {xs ys : List Int}, (∀ x ∈ xs, x < c ∧ x < d) → (∀ x ∈ ys, x < c ∧ x < d) → lx (xs ++ [c]) (ys ++ [c]) = lx (xs ++ [d]) (ys ++ [d])
  | [], [], _, _ => by simp [lx]
  | [], y :: ys, _, h => by
    have := h y (List.mem_cons_self ..)
    show (if c = y then _ else decide (c < y)) = if d = y then _ else decide (d < y)
    rw [if_neg (by omega), if_neg (by omega), decide_eq_false (by omega), decide_eq_false (by omega)]
  | x :: xs, [], h, _ => by
    have := h x (List.mem_cons_self ..)
    show (if x = c then _ else decide (x < c)) = if x = d then _ else decide (x < d)
    rw [if_neg (by omega), if_neg (by omega), decide_eq_true (by omega), decide_eq_true (by omega)]
  | x :: xs, y :: ys, h, g => by
    show (if x = y then lx (xs ++ [c]) (ys ++ [c]) else decide (x < y)) = if x = y then lx (xs ++ [d]) (ys ++ [d]) else decide (x < y)
    rw [lx_tail (fun z hz => h z (List.mem_cons_of_mem _ hz)) (fun z hz => g z (List.mem_cons_of_mem _ hz))]
theorem eq_tail {c d : Int} {xs ys : List Int} : xs ++ [c] = ys ++ [c] ↔ xs ++ [d] = ys ++ [d] := by
  rw [List.append_cancel_right_eq, List.append_cancel_right_eq]
theorem lcp_tail {c d : Int} : ∀ {xs ys : List Int}, (∀ x ∈ xs, x < c ∧ x < d) → (∀ x ∈ ys, x < c ∧ x < d) → lcp (xs ++ [c]) (ys ++ [c]) = lcp (xs ++ [d]) (ys ++ [d])
  | [], [], _, _ => by simp [lcp]
  | [], y :: ys, _, h => by
    have := h y (List.mem_cons_self ..)
    show (if c = y then _ else 0) = if d = y then _ else 0
    rw [if_neg (by omega), if_neg (by omega)]
  | x :: xs, [], h, _ => by
    have := h x (List.mem_cons_self ..)
    show (if x = c then _ else 0) = if x = d then _ else 0
    rw [if_neg (by omega), if_neg (by omega)]
  | x :: xs, y :: ys, h, g => by
    show (if x = y then lcp (xs ++ [c]) (ys ++ [c]) + 1 else 0) = if x = y then lcp (xs ++ [d]) (ys ++ [d]) + 1 else 0
    rw [lcp_tail (fun z hz => h z (List.mem_cons_of_mem _ hz)) (fun z hz => g z (List.mem_cons_of_mem _ hz))]
theorem ltP_tail {k : Kd} {c d : Int} {t : List Int} (h : ∀ x ∈ t, x < c ∧ x < d) (i j : Nat) : ltP (eAt k c t) i j = ltP (eAt k d t) i j := by
  cases k with
  | ri => rfl
  | fi => rfl
  | la =>
    have hm : ∀ i, ∀ x ∈ t.drop i, x < c ∧ x < d := fun i x hx => h x (List.mem_of_mem_drop hx)
    unfold ltP
    have e : (eAt .la c t i = eAt .la c t j) ↔ (eAt .la d t i = eAt .la d t j) := eq_tail
    by_cases q : eAt .la c t i = eAt .la c t j
    · rw [if_pos q, if_pos (e.mp q)]
    · rw [if_neg q, if_neg (fun z => q (e.mpr z))]
      exact lx_tail (hm i) (hm j)
theorem apart_tail {k : Kd} {c d : Int} {t : List Int} : ∀ l : List Nat, apart (eAt k c t) l = apart (eAt k d t) l
  | [] => rfl
  | [_] => rfl
  | i :: j :: r => by
    unfold apart
    rw [apart_tail (j :: r)]
    congr 1
    congr 1
    cases k with
    | ri => rfl
    | fi => rfl
    | la =>
      have e : (eAt .la c t i = eAt .la c t j) ↔ (eAt .la d t i = eAt .la d t j) := eq_tail
      rw [Bool.eq_iff_iff, beq_iff_eq, beq_iff_eq]
      exact e
theorem spots_tail {k : Kd} {c d : Int} {t : List Int} (h : ∀ x ∈ t, x < c ∧ x < d) : spots k c t = spots k d t := by
  have e : srtP k c t = srtP k d t := isort_congr _ fun x _ y _ => ltP_tail h y x
  unfold spots
  rw [e, apart_tail]
theorem agr_tail {k : Kd} {c d : Int} {t : List Int} (h : ∀ x ∈ t, x < c ∧ x < d) (p : List Nat) : agr k c t p = agr k d t p := by
  unfold agr
  refine List.map_congr_left fun j _ => ?_
  cases k with
  | ri => rfl
  | fi => rfl
  | la =>
    have hm : ∀ i, ∀ x ∈ t.drop i, x < c ∧ x < d := fun i x hx => h x (List.mem_of_mem_drop hx)
    exact congrArg (fun n : Nat => (n : Int)) (lcp_tail (hm _) (hm _))
end Mth

set_option Elab.async false
set_option linter.all false
set_option maxRecDepth 100000
set_option maxHeartbeats 4000000
/-! ChkM: agreements, as the checker judges them. -/
namespace Chk
open PySem Py Mth
theorem iv_pat {l : List Int} {j : Nat} (h : j < l.length) : pat (iv l) (j : Int) = some (.int (l.getD j 0)) := pat_map (f := PV.int) h
theorem iv_pat1 {l : List Int} {j : Nat} (h : j + 1 < l.length) : pat (iv l) ((j : Int) + 1) = some (.int (l.getD (j + 1) 0)) := pat_map1 (f := PV.int) h
theorem nv_pat {l : List Nat} {j : Nat} (h : j < l.length) : pat (nv l) (j : Int) = some (.int (l.getD j 0 : Nat)) := pat_map (f := fun n : Nat => PV.int ((n : Nat) : Int)) h
theorem nv_pat1 {l : List Nat} {j : Nat} (h : j + 1 < l.length) : pat (nv l) ((j : Int) + 1) = some (.int (l.getD (j + 1) 0 : Nat)) := pat_map1 (f := fun n : Nat => PV.int ((n : Nat) : Int)) h
theorem ends_pat {k : Kd} {t : List Int} {i : Nat} (h : i < t.length) : pat (endsV k t) ((i : Nat) : Int) = some (.lst (iv (eAt k cG t i))) := by
  refine pat_nat ?_
  unfold endsV
  rw [List.getElem?_map, List.getElem?_range h]
  rfl
theorem lcp_le : ∀ {x y : List Int}, lcp x y ≤ x.length
  | [], y => by rw [lcp_nil]; exact Nat.zero_le _
  | _ :: _, [] => Nat.zero_le _
  | x :: xs, y :: ys => by
    rw [lcp_cons]
    have := lcp_le (x := xs) (y := ys)
    split
    · simp only [List.length_cons]; omega
    · exact Nat.zero_le _
theorem minV {a b : Nat} : pbi .min [.int (a : Nat), .int (b : Nat)] = some (.int (min a b : Nat), false) := by
  show some (PV.int (if (b : Int) < (a : Int) then (b : Int) else (a : Int)), false) = _
  congr 3
  split <;> omega
theorem whl9 {pg : PProg} {cl : Calls} {v0 v1 v2 v3 v4 v5 : Option (PV × Bool)} {X Y : List Int} {ph : PH} : ∀ (fuel m : Nat), lcp (X.drop m) (Y.drop m) < fuel →
    whlL pg cl f9_0 f9_1 fuel [v0, v1, v2, v3, v4, v5, some (.lst (iv X), false), some (.lst (iv Y), false), some (.int (m : Nat), false)] ph = .ok (.nx [v0, v1, v2, v3, v4, v5, some (.lst (iv X), false), some (.lst (iv Y), false), some (.int ((m + lcp (X.drop m) (Y.drop m) : Nat) : Int), false)]) ph
  | 0, m, h => by omega
  | fuel + 1, m, h => by
    rw [whlL_succ]
    have mi := minV (a := X.length) (b := Y.length)
    by_cases c : m < min X.length Y.length
    · have cx : m < X.length := by omega
      have cy : m < Y.length := by omega
      have c' : ((m : Nat) : Int) < ((min X.length Y.length : Nat) : Int) := by omega
      rw [drop_c cx, drop_c cy, lcp_cons] at h ⊢
      have p1 := iv_pat cx
      have p2 := iv_pat cy
      by_cases e : X.getD m 0 = Y.getD m 0
      · rw [if_pos e] at h ⊢
        have ih := whl9 (pg := pg) (cl := cl) (v0 := v0) (v1 := v1) (v2 := v2) (v3 := v3) (v4 := v4) (v5 := v5) (X := X) (Y := Y) (ph := ph) fuel (m + 1) (by omega)
        have a1 : pbin .Add (.int (m : Int)) (.int 1) = some (.int ((m + 1 : Nat) : Int), false) := rfl
        simp only [f9_0, f9_1, e_and, e_cmp, e_var, getV_0, getV_s, cVar_ok, cCmp1_ok, e_blt, l_cons, l_nil, cL1_ok, cL2_ok, cBlt_ok, pbi_len_l, iv_len, rO_some, mi, cCmp2_ok, cmp_lt, rB_some, cAnd_ok, decide_eq_true_eq, if_pos c', e_idx, cIdx1_ok, cIdx2_ok, pixB_l, p1, p2, rV_some, cmp_eqi, cWl1_ok, if_pos e, b_cons, s_asg, e_bin, cBin1_ok, e_int, cBin2_ok, a1, cAsg_ok, List.set_cons_succ, List.set_cons_zero, cB_nx, b_frz, frzE_s, frzE_f, b_nil, cWl2_nx]
        rw [show m + (lcp (X.drop (m + 1)) (Y.drop (m + 1)) + 1) = m + 1 + lcp (X.drop (m + 1)) (Y.drop (m + 1)) by omega, ← ih]
        rfl
      · rw [if_neg e]
        simp only [f9_0, e_and, e_cmp, e_var, getV_0, getV_s, cVar_ok, cCmp1_ok, e_blt, l_cons, l_nil, cL1_ok, cL2_ok, cBlt_ok, pbi_len_l, iv_len, rO_some, mi, cCmp2_ok, cmp_lt, rB_some, cAnd_ok, decide_eq_true_eq, if_pos c', e_idx, cIdx1_ok, cIdx2_ok, pixB_l, p1, p2, rV_some, cmp_eqi, cWl1_ok, if_neg e]
        rfl
    · have c' : ¬ ((m : Nat) : Int) < ((min X.length Y.length : Nat) : Int) := by omega
      have z : lcp (X.drop m) (Y.drop m) = 0 := by
        by_cases q : X.length ≤ m
        · rw [List.drop_eq_nil_of_le q, lcp_nil]
        · rw [List.drop_eq_nil_of_le (by omega : Y.length ≤ m)]
          cases X.drop m <;> rfl
      rw [z]
      simp only [f9_0, e_and, e_cmp, e_var, getV_0, getV_s, cVar_ok, cCmp1_ok, e_blt, l_cons, l_nil, cL1_ok, cL2_ok, cBlt_ok, pbi_len_l, iv_len, rO_some, mi, cCmp2_ok, cmp_lt, rB_some, cAnd_ok, decide_eq_true_eq, if_neg c', cWl1_ok, Bool.false_eq_true, if_false]
      rfl
def lcpA (k : Kd) (c : Int) (t : List Int) (p : List Nat) (j : Nat) : PV := .int ((lcp (eAt k c t (p.getD j 0)) (eAt k c t (p.getD (j + 1) 0)) : Nat) : Int)
theorem iv_agr {k : Kd} {c : Int} {t : List Int} {p : List Nat} : (List.range (p.length - 1)).map (lcpA k c t p) = iv (agr k c t p) := by
  unfold agr iv
  rw [List.map_map]
  rfl
theorem isP_get {p : List Nat} (hp : IsP p) {a : Nat} (h : a < p.length) : p.getD a 0 < p.length := by rw [getD_at h]; exact isP_at hp h
theorem loop9 {pg : PProg} {cl : Calls} {k : Kd} {t : List Int} {p : List Nat} (hp : IsP p) (hl : t.length = p.length) (h2 : p.length ≤ 60) {v0 v2 : Option (PV × Bool)} {ph : PH} : ∀ (js : List Nat) (acc : List PV) (v5 v6 v7 v8 : Option (PV × Bool)), (∀ j ∈ js, j + 1 < p.length) → acc.length + js.length ≤ 1000 →
    ∃ v5' v6' v7' v8', forL pg cl (.nm 5) f9_2 (nv js) [v0, some (.tup (nv p), false), v2, some (.lst (endsV k t), false), some (.lst acc, true), v5, v6, v7, v8] ph =
      .ok (.nx [v0, some (.tup (nv p), false), v2, some (.lst (endsV k t), false), some (.lst (acc ++ js.map (lcpA k cG t p)), true), v5', v6', v7', v8']) ph
  | [], acc, v5, v6, v7, v8, _, _ => ⟨v5, v6, v7, v8, by show Out.ok _ ph = _; simp⟩
  | j :: js, acc, v5, v6, v7, v8, hj, hz => by
    have h0 := hj j (List.mem_cons_self ..)
    have g1 : p.getD j 0 < t.length := by rw [hl]; exact isP_get hp (by omega)
    have g2 : p.getD (j + 1) 0 < t.length := by rw [hl]; exact isP_get hp h0
    obtain ⟨w5, w6, w7, w8, e⟩ := loop9 (pg := pg) (cl := cl) (k := k) hp hl h2 (v0 := v0) (v2 := v2) (ph := ph) js (acc ++ [lcpA k cG t p j]) (some (.int (j : Nat), false)) (some (.lst (iv (eAt k cG t (p.getD j 0))), false)) (some (.lst (iv (eAt k cG t (p.getD (j + 1) 0))), false)) (some (lcpA k cG t p j, false)) (fun i hi => hj i (List.mem_cons_of_mem _ hi)) (by simp at hz ⊢; omega)
    refine ⟨w5, w6, w7, w8, ?_⟩
    have za : acc.length < sizeLine := line_lt (by omega)
    have wl := whl9 (pg := pg) (cl := cl) (v0 := v0) (v1 := some (.tup (nv p), false)) (v2 := v2) (v3 := some (.lst (endsV k t), false)) (v4 := some (.lst acc, true)) (v5 := some (.int (j : Nat), false)) (X := eAt k cG t (p.getD j 0)) (Y := eAt k cG t (p.getD (j + 1) 0)) (ph := ph) whFuel 0 (by
      rw [List.drop_zero, List.drop_zero]
      have a := lcp_le (x := eAt k cG t (p.getD j 0)) (y := eAt k cG t (p.getD (j + 1) 0))
      have b := eAt_len (k := k) (c := cG) (t := t) (i := p.getD j 0)
      unfold whFuel
      omega)
    rw [List.drop_zero, List.drop_zero, Nat.zero_add] at wl
    have wl : whlL pg cl f9_0 f9_1 whFuel [v0, some (.tup (nv p), false), v2, some (.lst (endsV k t), false), some (.lst acc, true), some (.int (j : Nat), false), some (.lst (iv (eAt k cG t (p.getD j 0))), false), some (.lst (iv (eAt k cG t (p.getD (j + 1) 0))), false), some (.int 0, false)] ph = .ok (.nx [v0, some (.tup (nv p), false), v2, some (.lst (endsV k t), false), some (.lst acc, true), some (.int (j : Nat), false), some (.lst (iv (eAt k cG t (p.getD j 0))), false), some (.lst (iv (eAt k cG t (p.getD (j + 1) 0))), false), some (lcpA k cG t p j, false)]) ph := wl
    show forL pg cl (.nm 5) f9_2 (.int (j : Nat) :: nv js) _ ph = _
    rw [forL_cons, List.map_cons, List.append_cons, ← e]
    have p1 := nv_pat (l := p) (j := j) (by omega)
    have p2 := nv_pat1 (l := p) (j := j) h0
    have q1 := ends_pat (k := k) g1
    have q2 := ends_pat (k := k) g2
    have a1 : pbin .Add (.int (j : Int)) (.int 1) = some (.int ((j : Int) + 1), false) := rfl
    simp only [f9_2, bind_nm, cBt_some, List.set_cons_succ, List.set_cons_zero, b_cons, s_par, lf_cons, lf_nil, e_idx, e_var, e_int, e_bin, getV_0, getV_s, cVar_ok, cIdx1_ok, cIdx2_ok, pixB_t, pixB_l, p1, rV_some, q1, cLF1_ok, cBin1_ok, cBin2_ok, a1, rO_some, p2, q2, cLF2_ok, cPar_ok, List.length_cons, List.length_nil, if_true, setAllF_cons, setAllF_nil, cB_nx, b_frz, frzE_s, frzE_f, s_whl, wl, s_app, getO_0, getO_s, cApp1_ok, cApp2_ok, if_pos za, b_nil, cFl_nx]
section
variable {pg : PProg} (h : P pg) {n : Nat} {ph : PH}
include h
theorem r9 {k : Kd} {t : List Int} {p : List Nat} (hp : IsP p) (hl : t.length = p.length) (h1 : 1 ≤ p.length) (h2 : p.length ≤ 60) : callN pg (n + 2) 9 [.tup (iv t), .tup (nv p), .str (kS k)] ph = .ok (.lst (iv (agr k cG t p)), true) ph := by
  rw [c9 h]
  have e5 := r5 h (n := n) (ph := ph) (k := k) (t := t) (by omega)
  obtain ⟨v5, v6, v7, v8, e⟩ := loop9 (pg := pg) (cl := callN pg (n + 1)) (k := k) hp hl h2 (v0 := some (.tup (iv t), false)) (v2 := some (.str (kS k), false)) (ph := ph) (List.range (p.length - 1)) [] none none none none (fun j hj => by have := List.mem_range.mp hj; omega) (by simp; omega)
  rw [List.nil_append, iv_agr] at e
  have sr : smallR ((p.length : Int) - 1) = true := smallR_int (by omega) (by omega)
  have tn : ((p.length : Int) - 1).toNat = p.length - 1 := by omega
  have mi : pbin .Sub (.int (p.length : Int)) (.int 1) = some (.int ((p.length : Int) - 1), false) := rfl
  simp only [f9]
  simp [e5, mi, sr, tn, rngP_nv, e]
end
/-! ### the rule -/
theorem fol_rng {k : Kd} {p : List Nat} (hp : IsP p) {a : Nat} (h : a < p.length) (q : k = .ri ∨ ¬ p.getD a 0 + 1 = p.length) : 0 ≤ (fol k p).getD a 0 ∧ (fol k p).getD a 0 < p.length := by
  rw [fol_at k p h]
  rw [getD_at h] at q
  have := isP_at hp h
  by_cases c : p[a] + 1 < p.length
  · rw [if_pos c]
    have := idx_lt hp c
    omega
  · rw [if_neg c]
    rcases q with rfl | q
    · have := idx_lt hp (by omega : 0 < p.length)
      show 0 ≤ ((p.idxOf 0 : Nat) : Int) ∧ ((p.idxOf 0 : Nat) : Int) < _
      omega
    · omega
theorem pcut_both {xs : List PV} {i j : Nat} (h : j ≤ xs.length) : pcut xs (some ((i : Nat) : Int)) (some ((j : Nat) : Int)) = (xs.drop i).take (j - i) := by
  unfold pcut
  rw [HT.sIx_nat, HT.sIx_nat, Nat.min_eq_left h]
  by_cases c : i ≤ xs.length
  · rw [Nat.min_eq_left c]
  · rw [Nat.min_eq_right (by omega), List.drop_eq_nil_of_le (by omega : xs.length ≤ xs.length), List.drop_eq_nil_of_le (by omega : xs.length ≤ i)]
    simp
theorem cut_iv {T : List Int} {lo hi : Nat} (h : hi ≤ T.length) : psl (.tup (iv T)) (some ((lo : Nat) : Int)) (some ((hi : Nat) : Int)) = some (.tup (iv (cut T lo hi)), false) := by
  show some (PV.tup (pcut _ _ _), false) = _
  rw [pcut_both (by simpa using h)]
  unfold cut iv
  rw [List.map_take, List.map_drop]
theorem minI_mn : ∀ {xs : List Int} {m : Int}, minI m xs = mn m xs
  | [], _ => rfl
  | x :: xs, m => by
    show minI (if x < m then x else m) xs = mn (if x < m then x else m) xs
    exact minI_mn
theorem min_iv {l : List Int} (h : l ≠ []) : pbi .min [.tup (iv l)] = some (.int (mnL l), false) := by
  cases l with
  | nil => exact absurd rfl h
  | cons x xs =>
    show (match pints (iv (x :: xs)) with | some (i :: is) => some (PV.int (minI i is), false) | _ => none) = _
    rw [ints_of_iv]
    show some (PV.int (minI x xs), false) = _
    rw [minI_mn]
    rfl
/-- the last of the rule: what is cut, and its least one -/
theorem rule_cut {k : Kd} {p : List Nat} {T : List Int} (hp : IsP p) (hT : T.length = p.length - 1) {j : Nat} (hj : j + 1 < p.length) (r : ¬ rise k p j = true) (q : ¬ (k ≠ .ri ∧ (p.getD j 0 + 1 = p.length ∨ p.getD (j + 1) 0 + 1 = p.length))) :
    psl (.tup (iv T)) (some ((fol k p).getD j 0)) (some ((fol k p).getD (j + 1) 0)) = some (.tup (iv (cut T ((fol k p).getD j 0).toNat ((fol k p).getD (j + 1) 0).toNat)), false) ∧
    pbi .min [.tup (iv (cut T ((fol k p).getD j 0).toNat ((fol k p).getD (j + 1) 0).toNat))] = some (.int (mnL (cut T ((fol k p).getD j 0).toNat ((fol k p).getD (j + 1) 0).toNat)), false) := by
  have q1 : k = .ri ∨ ¬ p.getD j 0 + 1 = p.length := Decidable.byContradiction fun z => q ⟨fun e => z (.inl e), .inl (Decidable.byContradiction fun w => z (.inr w))⟩
  have q2 : k = .ri ∨ ¬ p.getD (j + 1) 0 + 1 = p.length := Decidable.byContradiction fun z => q ⟨fun e => z (.inl e), .inr (Decidable.byContradiction fun w => z (.inr w))⟩
  obtain ⟨a1, a2⟩ := fol_rng hp (by omega) q1
  obtain ⟨b1, b2⟩ := fol_rng hp hj q2
  have ni := fol_inj (k := k) hp (a := j) (b := j + 1) (by omega) hj (by omega)
  unfold rise at r
  rw [decide_eq_true_eq] at r
  generalize (fol k p).getD j 0 = x at *
  generalize (fol k p).getD (j + 1) 0 = y at *
  obtain ⟨lo, rfl⟩ : ∃ lo : Nat, x = (lo : Int) := ⟨x.toNat, by omega⟩
  obtain ⟨hi, rfl⟩ : ∃ hi : Nat, y = (hi : Int) := ⟨y.toNat, by omega⟩
  rw [Int.toNat_natCast, Int.toNat_natCast]
  have hh : hi ≤ T.length := by omega
  refine ⟨cut_iv hh, min_iv fun e => ?_⟩
  obtain ⟨i, i1, i2, i3⟩ := mnL_mem (T := T) hh (by omega : lo < hi)
  have := (cut_mem (T := T) hh).mpr ⟨i, i1, i2, rfl⟩
  rw [e] at this
  cases this
theorem in_two {x a b : Int} : pcmp .In (.int x) (.tup [.int a, .int b]) = some (decide (x = a ∨ x = b)) := by
  have := in_tupI (x := x) (l := [a, b])
  simp only [iv, List.map_cons, List.map_nil] at this
  rw [this]
  simp
theorem in_twoL {x a b : Int} : pcmp .In (.int x) (.lst [.int a, .int b]) = some (decide (x = a ∨ x = b)) := by
  have := in_lstI (x := x) (l := [a, b])
  simp only [iv, List.map_cons, List.map_nil] at this
  rw [this]
  simp
theorem ne_ring {k : Kd} : pcmp .NotEq (.str (kS k)) (.str "ring") = some (!decide (k = .ri)) := by cases k <;> kernel_rfl
theorem ni_mem {l : List Nat} {j : Nat} : ((j : Nat) : Int) ∈ ni l ↔ j ∈ l := by
  unfold ni
  rw [List.mem_map]
  constructor
  · rintro ⟨b, hb, e⟩
    have : b = j := by omega
    rw [← this]; exact hb
  · intro h; exact ⟨j, h, rfl⟩
section
variable {pg : PProg} (h : P pg) {n : Nat} {ph : PH}
include h
theorem r10 {k : Kd} {p : List Nat} {T : List Int} (hp : IsP p) (h2 : p.length ≤ 60) (hT : T.length = p.length - 1) {j : Nat} (hj : j + 1 < p.length) : callN pg (n + 3) 10 [.tup (nv p), .str (kS k), .tup (iv T), .int (j : Nat)] ph = .ok (.bl (untr k p T j), false) ph := by
  rw [c10 h]
  have tj := iv_pat (l := T) (j := j) (by omega)
  have pj := nv_pat (l := p) (j := j) (by omega)
  have pj1 := nv_pat1 (l := p) (j := j) hj
  have e8 := r8 h (n := n) (ph := ph) (b := true) (k := k) hp (by omega) h2
  have e7 := r7 h (n := n + 1) (ph := ph) (b := true) (k := k) hp (by omega) h2
  simp only [seqV, if_true] at e8 e7
  have fl : (fol k p).length = p.length := fol_len k p
  have fj := iv_pat (l := fol k p) (j := j) (by omega)
  have fj1 := iv_pat1 (l := fol k p) (j := j) (by omega)
  have mi : pbin .Sub (.int (p.length : Int)) (.int 1) = some (.int ((p.length : Int) - 1), false) := rfl
  have a1 : pbin .Add (.int (j : Int)) (.int 1) = some (.int ((j : Int) + 1), false) := rfl
  have z2 : 2 ≤ sizeLine := line_ok (by omega)
  unfold untr
  by_cases c0 : T.getD j 0 ≤ 0
  · rw [if_pos c0]
    simp only [f10, b_cons, s_ife, e_cmp, e_idx, e_var, e_int, getV_0, getV_s, cVar_ok, cIdx1_ok, cIdx2_ok, pixB_t, tj, rV_some, cCmp1_ok, cCmp2_ok, cmp_le, cmp_lt, rB_some, cIf_ok, decide_eq_true_eq, if_pos c0, s_ret, cRet_ok, cB_rt, cEnd_rt]
  · rw [if_neg c0]
    have mm : ((j : Int) ∈ ni (rises k p)) ↔ rise k p j = true := by rw [ni_mem, rises_mem]; exact ⟨fun z => z.2, fun z => ⟨hj, z⟩⟩
    by_cases c1 : rise k p j = true
    · rw [if_pos c1]
      simp only [f10, b_cons, s_ife, e_cmp, e_idx, e_var, e_int, getV_0, getV_s, cVar_ok, cIdx1_ok, cIdx2_ok, pixB_t, tj, rV_some, cCmp1_ok, cCmp2_ok, cmp_le, rB_some, cIf_ok, decide_eq_true_eq, if_neg c0, b_nil, cB_nx, e_call, l_cons, l_nil, cL1_ok, cL2_ok, cCall_ok, e8, in_lstN, if_pos (mm.mpr c1), s_ret, e_bl, cRet_ok, cB_rt, cEnd_rt]
    · rw [if_neg c1]
      have c1' : ¬ (j : Int) ∈ ni (rises k p) := fun z => c1 (mm.mp z)
      have wh : (decide (k = .ri) = true) ↔ k = .ri := decide_eq_true_iff
      by_cases c2 : k ≠ .ri ∧ (p.getD j 0 + 1 = p.length ∨ p.getD (j + 1) 0 + 1 = p.length)
      · rw [if_pos c2]
        have k2 : (!decide (k = Kd.ri)) = true := by simp [c2.1]
        have d2 : (p.length : Int) - 1 = (p.getD j 0 : Nat) ∨ (p.length : Int) - 1 = (p.getD (j + 1) 0 : Nat) := by rcases c2.2 with z | z <;> omega
        simp only [f10, b_cons, s_ife, e_cmp, e_idx, e_var, e_int, getV_0, getV_s, cVar_ok, cIdx1_ok, cIdx2_ok, pixB_t, tj, rV_some, cCmp1_ok, cCmp2_ok, cmp_le, rB_some, cIf_ok, decide_eq_true_eq, if_neg c0, b_nil, cB_nx, e_call, l_cons, l_nil, cL1_ok, cL2_ok, cCall_ok, e8, in_lstN, if_neg c1', e_and, e_str, ne_ring, cAnd_ok, k2, if_true, e_bin, e_blt, cBlt_ok, pbi_len_t, nv_len, rO_some, cBin1_ok, cBin2_ok, mi, e_tup, a1, pj, pj1, cTup_ok, List.length_cons, List.length_nil, Nat.zero_add, Nat.reduceAdd, if_pos z2, in_two, if_pos d2, s_ret, cmp_nei, cRet_ok, cB_rt, cEnd_rt]
      · rw [if_neg c2]
        obtain ⟨s1, s2⟩ := rule_cut hp hT hj c1 c2
        have d2 : (!decide (k = Kd.ri)) = true → ¬ ((p.length : Int) - 1 = (p.getD j 0 : Nat) ∨ (p.length : Int) - 1 = (p.getD (j + 1) 0 : Nat)) := fun z w => c2 ⟨by simpa using z, by rcases w with w | w; exact .inl (by omega); exact .inr (by omega)⟩
        have ad : ∀ x : Int, pbin .Add (.int 1) (.int x) = some (.int (1 + x), false) := fun _ => rfl
        by_cases k2 : (!decide (k = Kd.ri)) = true
        · simp only [f10, b_cons, s_ife, e_cmp, e_idx, e_var, e_int, getV_0, getV_s, cVar_ok, cIdx1_ok, cIdx2_ok, pixB_t, tj, rV_some, cCmp1_ok, cCmp2_ok, cmp_le, rB_some, cIf_ok, decide_eq_true_eq, if_neg c0, b_nil, cB_nx, e_call, l_cons, l_nil, cL1_ok, cL2_ok, cCall_ok, e8, in_lstN, if_neg c1', e_and, e_str, ne_ring, cAnd_ok, k2, if_true, e_bin, e_blt, cBlt_ok, pbi_len_t, nv_len, rO_some, cBin1_ok, cBin2_ok, mi, e_tup, a1, pj, pj1, cTup_ok, List.length_cons, List.length_nil, Nat.zero_add, Nat.reduceAdd, if_pos z2, in_two, if_neg (d2 k2),
            s_asg, e7, cAsg_ok, List.set_cons_succ, List.set_cons_zero, b_frz, frzE_s, frzE_t, s_ret, e_slc, p_one, cP_ok, pixB_l, fj, fj1, cSlc1_ok, cSlc2_ok, cSlc3_ok, s1, s2, ad, cmp_nei, cRet_ok, cB_rt, cEnd_rt]
        · simp only [f10, b_cons, s_ife, e_cmp, e_idx, e_var, e_int, getV_0, getV_s, cVar_ok, cIdx1_ok, cIdx2_ok, pixB_t, tj, rV_some, cCmp1_ok, cCmp2_ok, cmp_le, rB_some, cIf_ok, decide_eq_true_eq, if_neg c0, b_nil, cB_nx, e_call, l_cons, l_nil, cL1_ok, cL2_ok, cCall_ok, e8, in_lstN, if_neg c1', e_and, e_str, ne_ring, cAnd_ok, if_neg k2, Bool.false_eq_true, if_false, e_bin, e_blt, cBlt_ok, rO_some, cBin1_ok, cBin2_ok, a1,
            s_asg, e7, cAsg_ok, List.set_cons_succ, List.set_cons_zero, b_frz, frzE_s, frzE_t, s_ret, e_slc, p_one, cP_ok, pixB_l, fj, fj1, cSlc1_ok, cSlc2_ok, cSlc3_ok, s1, s2, ad, cmp_nei, cRet_ok, cB_rt, cEnd_rt]
theorem r12 {p : List Nat} {T : List Int} (hT : T.length = p.length - 1) (h1 : 1 ≤ p.length) (h2 : p.length ≤ 60) : callN pg (n + 3) 12 [.tup (nv p), .tup (iv T)] ph = .ok (.bl true, false) ph := by
  rw [c12 h]
  have e : (T.length : Int) = (p.length : Int) - 1 := by omega
  have mi : pbin .Sub (.int (p.length : Int)) (.int 1) = some (.int ((p.length : Int) - 1), false) := rfl
  simp only [f12]
  simp [r11 h (n := n) (ph := ph) (l := T) (by omega), mi, e]
/-- accepts hands over -/
theorem r22a {w : Str} {p : List Nat} {k : Kd} {x c : PV} (hw : w = "agreement" ∨ w = "no agreement") (hp : IsP p) (h1 : 1 ≤ p.length) (h2 : p.length ≤ 60) (hx : PV.dat 39 x = true) : callN pg (n + 3) 22 [claim4 w p k x, c] ph = callN pg (n + 2) 20 [claim4 w p k x, c] ph := by
  rw [c22 h]
  have e4 := r4 h (n := n) (ph := ph) hp h1 h2
  have kk := kg h w 4 (.inl ⟨by rcases hw with rfl | rfl <;> simp, rfl⟩)
  have a0 : ∀ ph, pixB ph (claim4 w p k x) (.int 0) = some (.str w) := fun ph => rfl
  have a1 : ∀ ph, pixB ph (claim4 w p k x) (.int 1) = some (.tup (nv p)) := fun ph => rfl
  have a2 : ∀ ph, pixB ph (claim4 w p k x) (.int 2) = some (.str (kS k)) := fun ph => rfl
  have ty : pisi (claim4 w p k x) .tuple = some true := rfl
  have ln : pbi .len [claim4 w p k x] = some (.int 4, false) := rfl
  have iw : pcmp .In (.str w) (.tup [.str "order", .str "no order"]) = some false := by rcases hw with rfl | rfl <;> kernel_rfl
  have z2 : 2 ≤ sizeLine := line_ok (by omega)
  have ce := claim_e (w := w) (p := p) (k := k) hx
  generalize claim4 w p k x = cm at *
  simp only [f22]
  simp [ty, ce, a0, a1, a2, pisi_str, ln, kk, g2 h, in_sorts, e4, iw, z2]
theorem tab_bind {w : Str} {p : List Nat} {k : Kd} {x : PV} (e : PEnv) : bindTg (.tup [2, 3, 4, 5]) (claim4 w p k x) e = bindTg (.tup [2, 3, 4, 5]) (.tup [.str w, .tup (nv p), .str (kS k), x]) e := rfl
theorem r20a {p : List Nat} {k : Kd} {T t : List Int} (hp : IsP p) (h1 : 1 ≤ p.length) (h2 : p.length ≤ 60) (hT : T.length = p.length - 1) (ht1 : 1 ≤ t.length) (ht : t.length ≤ 60) (hb : ∀ x ∈ t, 0 ≤ x ∧ x ≤ 1000000000000000000) :
    callN pg (n + 6) 20 [claim4 "agreement" p k (.tup (iv T)), .tup (iv t)] ph = .ok (.bl (decide (spots k cG t = some p) && decide (agr k cG t p = T)), false) ph := by
  rw [c20 h]
  have e12 := r12 h (n := n + 2) (ph := ph) hT h1 h2
  have e18 := r18 h (n := n) (ph := ph) (k := k) (t := t) (p := p) ht1 ht hb
  have ew : pcmp .Eq (.str "agreement") (.str "agreement") = some true := by kernel_rfl
  have bt := fun e => tab_bind h (w := "agreement") (p := p) (k := k) (x := .tup (iv T)) e
  have ll : pbi .list [.tup (iv T)] = some (.lst (iv T), true) := rfl
  generalize claim4 "agreement" p k (.tup (iv T)) = cm at *
  by_cases hs : spots k cG t = some p
  · have hl : t.length = p.length := by
      have := (spots_back hs).1.length_eq
      rw [List.length_range] at this
      omega
    have e9 := r9 h (n := n + 3) (ph := ph) (k := k) (t := t) hp hl h1 h2
    simp only [f20]
    simp [bt, e12, ew, e18, hs, e9, ll, eq_lstI]
  · simp only [f20]
    simp [bt, e12, ew, e18, hs]
theorem r20n {p : List Nat} {k : Kd} {T : List Int} {j : Int} (hp : IsP p) (h1 : 1 ≤ p.length) (h2 : p.length ≤ 60) (hT : T.length = p.length - 1) :
    callN pg (n + 4) 20 [claim4 "no agreement" p k (.tup (iv T)), .int j] ph = .ok (.bl (decide (0 ≤ j ∧ j < (T.length : Int)) && untr k p T j.toNat), false) ph := by
  rw [c20 h]
  have e12 := r12 h (n := n) (ph := ph) hT h1 h2
  have ew : pcmp .Eq (.str "no agreement") (.str "agreement") = some false := by kernel_rfl
  have bt := fun e => tab_bind h (w := "no agreement") (p := p) (k := k) (x := .tup (iv T)) e
  have e1 := r1 h (n := n + 1) (ph := ph) (v := .int j) (lo := 0) (hi := (T.length : Int) - 1) rfl
  have mi : pbin .Sub (.int (T.length : Int)) (.int 1) = some (.int ((T.length : Int) - 1), false) := rfl
  generalize claim4 "no agreement" p k (.tup (iv T)) = cm at *
  by_cases q : 0 ≤ j ∧ j < (T.length : Int)
  · obtain ⟨i, rfl⟩ : ∃ i : Nat, j = (i : Int) := ⟨j.toNat, by omega⟩
    have bb : btw 0 ((T.length : Int) - 1) (.int (i : Int)) = true := by
      show (decide (0 ≤ (i : Int)) && decide ((i : Int) ≤ (T.length : Int) - 1)) = true
      rw [decide_eq_true (by omega), decide_eq_true (by omega)]; rfl
    rw [bb] at e1
    have e10 := r10 h (n := n) (ph := ph) (k := k) (T := T) hp h2 hT (j := i) (by omega)
    have dd : decide (0 ≤ ((i : Nat) : Int) ∧ ((i : Nat) : Int) < (T.length : Int)) = true := decide_eq_true q
    rw [dd, Bool.true_and, Int.toNat_natCast]
    simp only [f20]
    simp [bt, e12, ew, mi, e1, e10]
  · have bb : btw 0 ((T.length : Int) - 1) (.int j) = false := by
      show (decide (0 ≤ j) && decide (j ≤ (T.length : Int) - 1)) = false
      by_cases a : 0 ≤ j
      · rw [decide_eq_false (by omega : ¬ j ≤ (T.length : Int) - 1), Bool.and_false]
      · rw [decide_eq_false a, Bool.false_and]
    rw [bb] at e1
    rw [decide_eq_false q, Bool.false_and]
    simp only [f20]
    simp [bt, e12, ew, mi, e1]
end
end Chk

set_option Elab.async false
set_option linter.all false
set_option maxRecDepth 100000
set_option maxHeartbeats 4000000
/-! ChkN: the laws' helpers: lines, ends, spots. -/
namespace Chk
open PySem Py Mth
/-! ### drawn lines -/
def lineE : IE := (.call 24 (.cons (.var 0) (.cons (.var 3) .nil)))
def lineB : IB := (.cons (.asg 3 (.bin .Add (.int 1) (.call 24 (.cons (.var 0) (.cons (.var 2) .nil))))) (.frz 3 (.cons (.ret (.blt .tuple (.cons (.lc [4] (.nm 4) (.rng1 (.bin .Add (.int 1) (.call 24 (.cons (.var 0) (.cons (.var 1) .nil))))) .nil lineE) .nil))) .nil)))
theorem lineDraw {pg : PProg} (h : P pg) {n k : Nat} {v1 v2 : Option (PV × Bool)} {top : Nat} (t1 : 0 < top) (t2 : top < 1000000) : ∀ (xs : List PV) (ph : PH), Jug ph k → ∃ (l : List Int) (ph' : PH), l.length = xs.length ∧ (∀ x ∈ l, 0 ≤ x ∧ x < (top : Int)) ∧ JS ph k ph' ∧
    lcL pg (callN pg (n + 1)) [4] (.nm 4) .nil lineE xs [some (.box k, false), v1, v2, some (.int (top : Nat), false), none] ph = .ok (iv l) ph'
  | [], ph, hj => ⟨[], ph, rfl, by simp, hj.self, rfl⟩
  | x :: xs, ph, hj => by
    obtain ⟨d, p1, hd, j1, e1⟩ := swig h (n := n) (top := top) hj t1 t2
    obtain ⟨l, p2, hl, hb, j2, e2⟩ := lineDraw h (n := n) (v1 := v1) (v2 := v2) t1 t2 xs p1 j1.jug
    have t : lcT pg (callN pg (n + 1)) [4] (.nm 4) .nil lineE [some (.box k, false), v1, v2, some (.int (top : Nat), false), none] x ph = .ok (some (.int (d : Nat))) p1 := by
      rw [lcT_eq]
      simp only [lineE, t_nil, cLt0_some, bind_nm, wipe_cons, wipe_nil, List.set_cons_succ, List.set_cons_zero, cLt1_ok, if_true, e_call, l_cons, l_nil, e_var, getV_0, getV_s, cVar_ok, cL1_ok, cL2_ok, cCall_ok, e1, cLt2_ok]
    refine ⟨(d : Int) :: l, p2, by simp [hl], fun z hz => ?_, j1.trans j2, lcL_step t e2⟩
    rcases List.mem_cons.mp hz with rfl | hz
    · omega
    · exact hb z hz
theorem line_run {pg : PProg} (h : P pg) {i : Nat} (F : Fn pg i lineB 5 3) {n k : Nat} {ph : PH} {m top : Nat} (hj : Jug ph k) (m1 : 0 < m) (m2 : m ≤ 60) (t1 : 0 < top) (t2 : top < 100000) : ∃ (t : List Int) (ph' : PH), 1 ≤ t.length ∧ t.length ≤ m ∧ (∀ x ∈ t, 0 ≤ x ∧ x < (top : Int)) ∧ JS ph k ph' ∧
    callN pg (n + 2) i [.box k, .int (m : Nat), .int (top : Nat)] ph = .ok (.tup (iv t), false) ph' := by
  obtain ⟨d, p1, hd, j1, e1⟩ := swig h (n := n) (top := top) hj t1 (by omega)
  obtain ⟨s, p2, hs, j2, e2⟩ := swig h (n := n) (top := m) j1.jug m1 (by omega)
  obtain ⟨l, p3, hl, hb, j3, e3⟩ := lineDraw h (n := n) (k := k) (v1 := some (.int (m : Nat), false)) (v2 := some (.int (top : Nat), false)) (top := d + 1) (by omega) (by omega) (rngP 0 (s + 1)) p2 j2.jug
  rw [rngP_length] at hl
  refine ⟨l, p3, by omega, by omega, fun x hx => by have := hb x hx; omega, (j1.trans j2).trans j3, ?_⟩
  rw [F.call rfl]
  have st : startE 5 [.box k, .int (m : Nat), .int (top : Nat)] = [some (.box k, false), some (.int (m : Nat), false), some (.int (top : Nat), false), none, none] := rfl
  rw [st]
  have ad : ∀ x : Nat, pbin .Add (.int 1) (.int (x : Nat)) = some (.int ((x + 1 : Nat) : Int), false) := fun x => by
    show some (PV.int (1 + (x : Int)), false) = _
    congr 3
    omega
  have sr : smallR ((s + 1 : Nat) : Int) = true := smallR_nat (by omega)
  have hz : l.length < sizeLine := line_lt (by omega)
  have pt : pbi .tuple [.lst (iv l)] = some (.tup (iv l), false) := rfl
  simp only [lineB, b_cons, s_asg, e_bin, e_int, cBin1_ok, e_call, l_cons, l_nil, e_var, getV_0, getV_s, cVar_ok, cL1_ok, cL2_ok, cCall_ok, e1, cBin2_ok, ad, rO_some, cAsg_ok, List.set_cons_succ, List.set_cons_zero, cB_nx, b_frz, frzE_s, frzE_f, s_ret, e_blt, e_lc, i_rng1, e2, cR1_ok, if_pos sr, Int.toNat_natCast, cLc1_ok, e3, cLc2_ok, iv_len, if_pos hz, cBlt_ok, pt, cRet_ok, cB_rt, cEnd_rt]
/-! ### ends -/
def endsC (c : Int) (k : Kd) (t : List Int) : List PV := (List.range t.length).map fun i => .lst (iv (eAt k c t i))
def cL : Int := 10000000000000000000
def endsL : IB := (.cons (.asg 5 (.ite (.cmp .Eq (.var 1) (.str ("ring" : Str))) (.blt .list (.cons (.slc (.var 0) .nil (.cons (.var 4) .nil)) .nil)) (.var 3))) (.frz 5 (.cons (.app 2 (.bin .Add (.blt .list (.cons (.slc (.var 0) (.cons (.var 4) .nil) .nil) .nil)) (.var 5))) .nil)))
def endsB : IB := (.cons (.par [2, 3] (.cons (.lst .nil) (.cons (.lst (.cons (.ite (.cmp .Eq (.var 1) (.str ("first" : Str))) (.neg (.int 1)) (.bin .Pow (.int 10) (.int 19))) .nil)) .nil))) (.frz 3 (.cons (.forS (.nm 4) (.rng1 (.blt .len (.cons (.var 0) .nil))) endsL) (.cons (.retv 2) .nil))))
theorem endsLoop {pg : PProg} {cl : Calls} {k : Kd} {t : List Int} {tl : Int} (ht : t.length ≤ 60) (htl : k = .ri ∨ (k = .fi ∧ tl = -1) ∨ (k = .la ∧ tl = cL)) {ph : PH} : ∀ (js : List Nat) (acc : List PV) (v4 v5 : Option (PV × Bool)), acc.length + js.length ≤ 1000 →
    ∃ v4' v5', forL pg cl (.nm 4) endsL (nv js) [some (.tup (iv t), false), some (.str (kS k), false), some (.lst acc, true), some (.lst (iv [tl]), false), v4, v5] ph =
      .ok (.nx [some (.tup (iv t), false), some (.str (kS k), false), some (.lst (acc ++ js.map fun i => .lst (iv (eAt k cL t i))), true), some (.lst (iv [tl]), false), v4', v5']) ph
  | [], acc, v4, v5, _ => ⟨v4, v5, by show Out.ok _ ph = _; simp⟩
  | j :: js, acc, v4, v5, hz => by
    have tk : psl (.tup (iv t)) none (some ((j : Nat) : Int)) = some (.tup (iv (t.take j)), false) := by show some (PV.tup (pcut _ _ _), false) = _; rw [pcut_to, iv_take]
    have dr : psl (.tup (iv t)) (some ((j : Nat) : Int)) none = some (.tup (iv (t.drop j)), false) := by show some (PV.tup (pcut _ _ _), false) = _; rw [pcut_from, iv_drop]
    have ll : ∀ l : List Int, pbi .list [.tup (iv l)] = some (.lst (iv l), true) := fun _ => rfl
    have za : acc.length < sizeLine := line_lt (by omega)
    by_cases kr : k = .ri
    · obtain ⟨w4, w5, e⟩ := endsLoop (pg := pg) (cl := cl) (tl := tl) ht htl (ph := ph) js (acc ++ [.lst (iv (eAt k cL t j))]) (some (.int (j : Nat), false)) (some (.lst (iv (t.take j)), false)) (by simp at hz ⊢; omega)
      refine ⟨w4, w5, ?_⟩
      show forL pg cl (.nm 4) endsL (.int (j : Nat) :: nv js) _ ph = _
      have ad : pbin .Add (.lst (iv (t.drop j))) (.lst (iv (t.take j))) = some (.lst (iv (eAt k cL t j)), true) := by subst kr; exact add_lstI (by simp; omega)
      have kk : (decide (k = .ri)) = true := decide_eq_true kr
      rw [forL_cons, List.map_cons, List.append_cons, ← e]
      simp only [endsL, bind_nm, cBt_some, List.set_cons_succ, List.set_cons_zero, b_cons, s_asg, e_ite, e_cmp, e_var, e_str, getV_0, getV_s, cVar_ok, cCmp1_ok, cCmp2_ok, kS_ri, rB_some, cIte_ok, kk, if_true, e_blt, l_cons, l_nil, e_slc, p_nil, p_one, cP_ok, cSlc1_ok, cSlc2_ok, cSlc3_ok, tk, dr, rO_some, cL1_ok, cL2_ok, cBlt_ok, ll, cAsg_ok, cB_nx, b_frz, frzE_s, frzE_t, frzE_f, s_app, getO_0, getO_s, cApp1_ok, e_bin, cBin1_ok, cBin2_ok, ad, cApp2_ok, if_pos za, b_nil, cFl_nx]
    · obtain ⟨w4, w5, e⟩ := endsLoop (pg := pg) (cl := cl) (tl := tl) ht htl (ph := ph) js (acc ++ [.lst (iv (eAt k cL t j))]) (some (.int (j : Nat), false)) (some (.lst (iv [tl]), false)) (by simp at hz ⊢; omega)
      refine ⟨w4, w5, ?_⟩
      show forL pg cl (.nm 4) endsL (.int (j : Nat) :: nv js) _ ph = _
      have ee : eAt k cL t j = t.drop j ++ [tl] := by
        rcases htl with z | ⟨rfl, rfl⟩ | ⟨rfl, rfl⟩
        · exact absurd z kr
        · rfl
        · rfl
      have ad : pbin .Add (.lst (iv (t.drop j))) (.lst (iv [tl])) = some (.lst (iv (eAt k cL t j)), true) := by rw [ee]; exact add_lstI (by simp; omega)
      have kk : (decide (k = .ri)) = false := decide_eq_false kr
      rw [forL_cons, List.map_cons, List.append_cons, ← e]
      simp only [endsL, bind_nm, cBt_some, List.set_cons_succ, List.set_cons_zero, b_cons, s_asg, e_ite, e_cmp, e_var, e_str, getV_0, getV_s, cVar_ok, cCmp1_ok, cCmp2_ok, kS_ri, rB_some, cIte_ok, kk, Bool.false_eq_true, if_false, e_blt, l_cons, l_nil, e_slc, p_nil, p_one, cP_ok, cSlc1_ok, cSlc2_ok, cSlc3_ok, tk, dr, rO_some, cL1_ok, cL2_ok, cBlt_ok, ll, cAsg_ok, cB_nx, b_frz, frzE_s, frzE_t, frzE_f, s_app, getO_0, getO_s, cApp1_ok, e_bin, cBin1_ok, cBin2_ok, ad, cApp2_ok, if_pos za, b_nil, cFl_nx]
theorem ends_run {pg : PProg} {i : Nat} (F : Fn pg i endsB 6 2) {n : Nat} {ph : PH} {k : Kd} {t : List Int} (ht : t.length ≤ 60) : callN pg (n + 1) i [.tup (iv t), .str (kS k)] ph = .ok (.lst (endsC cL k t), true) ph := by
  rw [F.call rfl]
  have st : startE 6 [.tup (iv t), .str (kS k)] = [some (.tup (iv t), false), some (.str (kS k), false), none, none, none, none] := rfl
  rw [st]
  have sr : smallR (t.length : Int) = true := smallR_nat (by omega)
  have z0 : 0 ≤ sizeLine := Nat.zero_le _
  have z1 : 1 ≤ sizeLine := line_ok (by omega)
  have pw : pbin .Pow (.int 10) (.int 19) = some (.int cL, false) := by kernel_rfl
  have go : ∀ tl, k = .ri ∨ (k = .fi ∧ tl = -1) ∨ (k = .la ∧ tl = cL) → ∃ v4' v5', forL pg (callN pg n) (.nm 4) endsL (rngP 0 t.length) [some (.tup (iv t), false), some (.str (kS k), false), some (.lst [], true), some (.lst [.int tl], false), none, none] ph =
      .ok (.nx [some (.tup (iv t), false), some (.str (kS k), false), some (.lst (endsC cL k t), true), some (.lst [.int tl], false), v4', v5']) ph := fun tl htl => by
    rw [rngP_nv]
    exact endsLoop ht htl (List.range t.length) [] none none (by simp; omega)
  by_cases kf : k = .fi
  · obtain ⟨v4, v5, e⟩ := go (-1) (.inr (.inl ⟨kf, rfl⟩))
    have kk : (decide (k = .fi)) = true := decide_eq_true kf
    simp only [endsB, b_cons, s_par, lf_cons, lf_nil, e_lst, l_cons, l_nil, cLst_ok, List.length_nil, if_pos z0, cLF1_ok, e_ite, e_cmp, e_var, e_str, getV_0, getV_s, cVar_ok, cCmp1_ok, cCmp2_ok, kS_fi, rB_some, cIte_ok, kk, if_true, e_neg, e_int, cNeg_ok, cL1_ok, cL2_ok, List.length_cons, Nat.zero_add, if_pos z1, cLF2_ok, cPar_ok, setAllF_cons, setAllF_nil, List.set_cons_succ, List.set_cons_zero, cB_nx, b_frz, frzE_s, frzE_t, s_for, i_rng1, e_blt, cBlt_ok, pbi_len_t, iv_len, rO_some, cR1_ok, if_pos sr, Int.toNat_natCast, cFor_ok, e, s_retv, cRetv_ok, cB_rt, cEnd_rt]
  · have kk : (decide (k = .fi)) = false := decide_eq_false kf
    obtain ⟨v4, v5, e⟩ := go cL (by cases k with | ri => exact .inl rfl | fi => exact absurd rfl kf | la => exact .inr (.inr ⟨rfl, rfl⟩))
    simp only [endsB, b_cons, s_par, lf_cons, lf_nil, e_lst, l_cons, l_nil, cLst_ok, List.length_nil, if_pos z0, cLF1_ok, e_ite, e_cmp, e_var, e_str, getV_0, getV_s, cVar_ok, cCmp1_ok, cCmp2_ok, kS_fi, rB_some, cIte_ok, kk, Bool.false_eq_true, if_false, e_bin, cBin1_ok, cBin2_ok, pw, rO_some, e_int, cL1_ok, cL2_ok, List.length_cons, Nat.zero_add, if_pos z1, cLF2_ok, cPar_ok, if_true, setAllF_cons, setAllF_nil, List.set_cons_succ, List.set_cons_zero, cB_nx, b_frz, frzE_s, frzE_t, s_for, i_rng1, e_blt, cBlt_ok, pbi_len_t, iv_len, cR1_ok, if_pos sr, Int.toNat_natCast, cFor_ok, e, s_retv, cRetv_ok, cB_rt, cEnd_rt]
theorem endsC_pat {c : Int} {k : Kd} {t : List Int} {i : Nat} (h : i < t.length) : pat (endsC c k t) ((i : Nat) : Int) = some (.lst (iv (eAt k c t i))) := by
  refine pat_nat ?_
  unfold endsC
  rw [List.getElem?_map, List.getElem?_range h]
  rfl
/-! ### spots -/
def spotsE : IE := (.tup (.cons (.var 4) (.cons (.var 3) .nil)))
def spotsC : IL := (.cons (.cmp .Eq (.idx (.idx (.var 2) (.var 3)) (.int 0)) (.idx (.idx (.var 2) (.bin .Sub (.var 3) (.int 1))) (.int 0))) .nil)
def spotsB (e : Nat) : IB := (.cons (.asg 2 (.blt .sorted (.cons (.lc [3, 4] (.tup [3, 4]) (.enum (.call e (.cons (.var 0) (.cons (.var 1) .nil)))) .nil spotsE) .nil))) (.frz 2 (.cons (.ife (.cmp .NotEq (.lc [3] (.nm 3) (.rng2 (.int 1) (.blt .len (.cons (.var 2) .nil))) spotsC (.var 3)) (.lst .nil)) (.cons (.ret .non) .nil) .nil) (.cons (.ret (.blt .tuple (.cons (.lc [4, 3] (.tup [4, 3]) (.seq (.var 2)) .nil (.var 3)) .nil))) .nil))))
def spotsT (o : Option (List Nat)) : PV := match o with
  | some q => .tup (nv q)
  | none => .non
theorem enum_endsC (c : Int) (k : Kd) (t : List Int) : enumP 0 (endsC c k t) = (List.range t.length).map fun i => PV.tup [.int ((i : Nat) : Int), .lst (iv (eAt k c t i))] := by
  rw [enumP_map]
  have : (endsC c k t).length = t.length := by simp [endsC]
  rw [this]
  apply List.map_congr_left
  intro i hi
  have hi := List.mem_range.mp hi
  rw [Nat.zero_add]
  congr 3
  unfold endsC
  rw [List.getD_eq_getElem?_getD, List.getElem?_map, List.getElem?_range hi]
  rfl
theorem sub1 (j : Nat) : pbin .Sub (.int ((j : Int) + 1)) (.int 1) = some (.int (j : Int), false) := by
  have e : (j : Int) + 1 - 1 = (j : Int) := by omega
  have : pbin .Sub (.int ((j : Int) + 1)) (.int 1) = some (.int ((j : Int) + 1 - 1), false) := rfl
  rw [this, e]
theorem rng1_map (n : Nat) : rngP 1 n = (List.range n).map fun i : Nat => PV.int ((i : Int) + 1) := by
  rw [rngP_map]
  apply List.map_congr_left
  intro i _
  congr 1
  omega
theorem filter_nil {α : Type} {p : α → Bool} {l : List α} : decide (l.filter p = []) = !(l.any p) := by
  cases h : l.any p with
  | true =>
    rw [List.any_eq_true] at h
    obtain ⟨x, hx, hp⟩ := h
    have : ¬ l.filter p = [] := fun e => by
      have : x ∈ l.filter p := List.mem_filter.mpr ⟨hx, hp⟩
      rw [e] at this
      cases this
    rw [decide_eq_false this]
    rfl
  | false =>
    have : l.filter p = [] := List.filter_eq_nil_iff.mpr fun x hx hp => by
      have : l.any p = true := List.any_eq_true.mpr ⟨x, hx, hp⟩
      rw [h] at this
      cases this
    rw [decide_eq_true this]
    rfl
theorem spots_run0 {pg : PProg} {i e : Nat} (F : Fn pg i (spotsB e) 5 2) (Fe : Fn pg e endsB 6 2) {n : Nat} {ph : PH} {k : Kd} {t : List Int} (ht : t.length ≤ 60) : callN pg (n + 2) i [.tup (iv t), .str (kS k)] ph = .ok (spotsT (spots k cL t), false) ph := by
  rw [F.call rfl]
  have st : startE 5 [.tup (iv t), .str (kS k)] = [some (.tup (iv t), false), some (.str (kS k), false), none, none, none] := rfl
  rw [st]
  have e5 := ends_run Fe (n := n) (ph := ph) (k := k) ht
  have l1 : lcL pg (callN pg (n + 1)) [3, 4] (.tup [3, 4]) .nil spotsE (enumP 0 (endsC cL k t)) [some (.tup (iv t), false), some (.str (kS k), false), none, none, none] ph = .ok ((List.range t.length).map (pairV k cL t)) ph := by
    rw [enum_endsC]
    refine lcL_map (e := fun i : Nat => PV.tup [.int ((i : Nat) : Int), .lst (iv (eAt k cL t i))]) (g := pairV k cL t) fun i hi => ?_
    have z2 : 2 ≤ sizeLine := line_ok (by omega)
    rw [lcT_eq]
    simp [spotsE, z2, pairV]
  have hz : t.length < sizeLine := line_lt (by omega)
  have s1 : pbi .sorted [.lst ((List.range t.length).map (pairV k cL t))] = some (.lst ((srtP k cL t).map (pairV k cL t)), true) := by
    show (psort _).map _ = _
    rw [sort_pairs k cL t _ (by simp; omega)]
    rfl
  have ql : (srtP k cL t).length = t.length := srtP_len
  have sr : (smallR 1 && smallR (t.length : Int)) = true := by rw [smallR_nat (by omega)]; rfl
  have tn : ((t.length : Int) - 1).toNat = t.length - 1 := by omega
  have l2 : lcL pg (callN pg (n + 1)) [3] (.nm 3) spotsC (.var 3) (rngP 1 (t.length - 1)) [some (.tup (iv t), false), some (.str (kS k), false), some (.lst ((srtP k cL t).map (pairV k cL t)), false), none, none] ph =
      .ok (iv (((List.range (t.length - 1)).filter (nbr (eAt k cL t) (srtP k cL t))).map fun i : Nat => (i : Int) + 1)) ph := by
    rw [rng1_map]
    have : iv (((List.range (t.length - 1)).filter (nbr (eAt k cL t) (srtP k cL t))).map fun i : Nat => (i : Int) + 1) = ((List.range (t.length - 1)).filter (nbr (eAt k cL t) (srtP k cL t))).map fun i : Nat => PV.int ((i : Int) + 1) := by simp [iv]
    rw [this]
    refine lcL_filter (e := fun i : Nat => PV.int ((i : Int) + 1)) (g := fun i : Nat => PV.int ((i : Int) + 1)) (p := nbr (eAt k cL t) (srtP k cL t)) fun j hj => ?_
    have hj := List.mem_range.mp hj
    have p1 := pat_map (f := pairV k cL t) (l := srtP k cL t) (j := j) (d := 0) (by omega)
    have p2 := pat_map1 (f := pairV k cL t) (l := srtP k cL t) (j := j) (d := 0) (by omega)
    have p3 : ∀ i, pixB ph (pairV k cL t i) (.int 0) = some (.lst (iv (eAt k cL t i))) := fun i => rfl
    have mi : pbin .Sub (.int ((j : Int) + 1)) (.int 1) = some (.int (j : Int), false) := sub1 j
    have sy : decide (eAt k cL t ((srtP k cL t).getD (j + 1) 0) = eAt k cL t ((srtP k cL t).getD j 0)) = nbr (eAt k cL t) (srtP k cL t) j := by unfold nbr; rw [Bool.eq_iff_iff, decide_eq_true_iff, decide_eq_true_iff]; exact eq_comm
    rw [lcT_eq]
    simp only [spotsC, t_one, cLt0_some, bind_nm, wipe_cons, wipe_nil, List.set_cons_succ, List.set_cons_zero, cLt1_ok, e_cmp, e_idx, e_var, e_int, e_bin, getV_0, getV_s, cVar_ok, cIdx1_ok, cIdx2_ok, cBin1_ok, cBin2_ok, mi, cCmp1_ok, cCmp2_ok, rO_some, pixB_l, p1, p2, rV_some, p3, eq_lstI, sy, rB_some, cT_ok, cLt2_ok]
    exact some_if
  have l3 : ∀ v3 v4, lcL pg (callN pg (n + 1)) [4, 3] (.tup [4, 3]) .nil (.var 3) ((srtP k cL t).map (pairV k cL t)) [some (.tup (iv t), false), some (.str (kS k), false), some (.lst ((srtP k cL t).map (pairV k cL t)), false), v3, v4] ph = .ok (nv (srtP k cL t)) ph := by
    intro v3 v4
    refine lcL_map (e := pairV k cL t) (g := fun i => PV.int ((i : Nat) : Int)) fun i hi => ?_
    rw [lcT_eq]
    simp [pairV]
  have ap := apart_any (E := eAt k cL t) (srtP k cL t)
  rw [ql] at ap
  have ne := ne_lstI (l := ((List.range (t.length - 1)).filter (nbr (eAt k cL t) (srtP k cL t))).map fun i : Nat => (i : Int) + 1) (m := [])
  have ne : pcmp .NotEq (.lst (iv (((List.range (t.length - 1)).filter (nbr (eAt k cL t) (srtP k cL t))).map fun i : Nat => (i : Int) + 1))) (.lst []) = some (!apart (eAt k cL t) (srtP k cL t)) := by
    rw [← ap]
    have q : decide (((List.range (t.length - 1)).filter (nbr (eAt k cL t) (srtP k cL t))).map (fun i : Nat => (i : Int) + 1) = []) = !((List.range (t.length - 1)).any (nbr (eAt k cL t) (srtP k cL t))) := by
      rw [← filter_nil]
      simp only [List.map_eq_nil_iff]
    rw [q, Bool.not_not] at ne
    exact ne
  have hz1 : (((List.range (t.length - 1)).filter (nbr (eAt k cL t) (srtP k cL t))).map fun i : Nat => (i : Int) + 1).length < sizeLine := line_lt (by
    have := List.length_filter_le (nbr (eAt k cL t) (srtP k cL t)) (List.range (t.length - 1))
    simp only [List.length_range] at this
    simp only [List.length_map]
    omega)
  have z0 : 0 ≤ sizeLine := Nat.zero_le _
  have pt : pbi .tuple [.lst (nv (srtP k cL t))] = some (.tup (nv (srtP k cL t)), false) := rfl
  have sp : spotsT (spots k cL t) = if apart (eAt k cL t) (srtP k cL t) = true then .tup (nv (srtP k cL t)) else .non := by unfold spots; split <;> rfl
  rw [sp]
  generalize apart (eAt k cL t) (srtP k cL t) = b at *
  generalize (((List.range (t.length - 1)).filter (nbr (eAt k cL t) (srtP k cL t))).map fun i : Nat => (i : Int) + 1) = W at *
  simp only [spotsB, b_cons, s_asg, e_blt, l_cons, l_nil, e_lc, i_enum, e_call, e_var, getV_0, getV_s, cVar_ok, cL1_ok, cL2_ok, cCall_ok, e5, cEn_ok, cLc1_ok, l1, cLc2_ok, List.length_map, List.length_range, if_pos hz, cBlt_ok, s1, rO_some, cAsg_ok, List.set_cons_succ, List.set_cons_zero, cB_nx, b_frz, frzE_s, frzE_t, s_ife, e_cmp, i_rng2, e_int, cR21_ok, pbi_len_l, ql, cR22_ok, if_pos sr, tn, l2, iv_len, if_pos hz1, cCmp1_ok, e_lst, cLst_ok, List.length_nil, if_pos z0, cCmp2_ok, ne, rB_some, cIf_ok]
  cases b
  · simp only [Bool.not_false, if_true, b_cons, s_ret, e_non, cRet_ok, cB_rt, cEnd_rt, Bool.false_eq_true, if_false]
  · simp only [Bool.not_true, Bool.false_eq_true, if_false, b_nil, cB_nx, b_cons, s_ret, e_blt, l_cons, l_nil, e_lc, i_seq, e_var, getV_0, getV_s, cVar_ok, cSq_l, cLc1_ok, l3, cLc2_ok, nv_len, ql, if_pos hz, cL1_ok, cL2_ok, cBlt_ok, pt, rO_some, cRet_ok, cB_rt, cEnd_rt, if_true]
theorem spots_run {pg : PProg} {i e : Nat} (F : Fn pg i (spotsB e) 5 2) (Fe : Fn pg e endsB 6 2) {n : Nat} {ph : PH} {k : Kd} {t : List Int} (ht : t.length ≤ 60) (ht1 : 1 ≤ t.length) : callN pg (n + 2) i [.tup (iv t), .str (kS k)] ph = .ok (spotsT (spots k cL t), false) ph := spots_run0 F Fe ht
end Chk

set_option Elab.async false
set_option linter.all false
set_option maxRecDepth 100000
set_option maxHeartbeats 4000000
/-! ChkO: the laws' helpers: higher, agree, is_untrue, told_apart. -/
namespace Chk
open PySem Py Mth
/-! ### higher -/
def hiD : List PV := [.int 0, .int 0, .int 1, .int 2]
theorem hiD_at {j : Nat} {y : PV} (h : hiD[j]? = some y) : ∃ d : Int, y = .int d ∧ 0 ≤ d ∧ d ≤ 2 := by
  match j, h with
  | 0, h => cases h; exact ⟨0, rfl, by omega, by omega⟩
  | 1, h => cases h; exact ⟨0, rfl, by omega, by omega⟩
  | 2, h => cases h; exact ⟨1, rfl, by omega, by omega⟩
  | 3, h => cases h; exact ⟨2, rfl, by omega, by omega⟩
  | j + 4, h => simp [hiD] at h
def highL : IB := (.cons (.asg 4 (.bin .Add (.var 4) (.call 25 (.cons (.var 0) (.cons (.lst (.cons (.int 0) (.cons (.int 0) (.cons (.int 1) (.cons (.int 2) .nil))))) .nil))))) (.frz 4 (.cons (.setL 3 (.var 5) (.bin .Add (.idx (.bvar 3) (.var 5)) (.var 4))) .nil)))
def highB (l : Nat) : IB := (.cons (.par [3, 4] (.cons (.blt .list (.cons (.call l (.cons (.var 1) (.cons (.var 2) .nil))) .nil)) (.cons (.int 0) .nil))) (.frz 4 (.cons (.forS (.nm 5) (.seq (.var 1)) highL) (.cons (.ret (.blt .tuple (.cons (.bvar 3) .nil))) .nil))))
theorem highLoop {pg : PProg} (h : P pg) {n k m : Nat} {v1 v2 : Option (PV × Bool)} : ∀ (js : List Nat) (l : List Int) (more : Int) (v5 : Option (PV × Bool)) (ph : PH), Jug ph k → (∀ j ∈ js, j < m) → l.length = m →
    (0 ≤ more ∧ more ≤ 1000 - 10 * (js.length : Int)) → (∀ x ∈ l, 0 ≤ x ∧ x ≤ 1000000 - 2000 * (js.length : Int)) →
    ∃ (l' : List Int) (v4' v5' : Option (PV × Bool)) (ph' : PH), l'.length = m ∧ (∀ x ∈ l', 0 ≤ x ∧ x ≤ 1000000) ∧ JS ph k ph' ∧
      forL pg (callN pg (n + 2)) (.nm 5) highL (nv js) [some (.box k, false), v1, v2, some (.lst (iv l), true), some (.int more, false), v5] ph = .ok (.nx [some (.box k, false), v1, v2, some (.lst (iv l'), true), v4', v5']) ph'
  | [], l, more, v5, ph, hj, _, hl, _, hb => ⟨l, _, v5, ph, hl, fun x hx => by have := hb x hx; simp at this; omega, hj.self, rfl⟩
  | j :: js, l, more, v5, ph, hj, hm, hl, hmo, hb => by
    obtain ⟨jj, y, p1, hy, j1, e1⟩ := one_l h (n := n) (ph := ph) (xs := hiD) hj (by decide) (by decide)
    obtain ⟨d, rfl, d1, d2⟩ := hiD_at hy
    have hjm := hm j (List.mem_cons_self ..)
    simp only [List.length_cons] at hmo hb
    have gj : l.getD j 0 ∈ l := mem_at (by omega)
    have gb := hb _ gj
    obtain ⟨l', w4, w5, p2, hl', hb', j2, e2⟩ := highLoop h (n := n) (v1 := v1) (v2 := v2) (m := m) js (l.set j (l.getD j 0 + (more + d))) (more + d) (some (.int (j : Nat), false)) p1 j1.jug (fun i hi => hm i (List.mem_cons_of_mem _ hi)) (by simpa using hl) (by omega) (fun x hx => by
      rcases List.mem_or_eq_of_mem_set hx with z | z
      · have := hb x z; omega
      · omega)
    refine ⟨l', w4, w5, p2, hl', hb', j1.trans j2, ?_⟩
    show forL pg (callN pg (n + 2)) (.nm 5) highL (.int (j : Nat) :: nv js) _ ph = _
    rw [forL_cons, ← e2]
    have z4 : 4 ≤ sizeLine := line_ok (by omega)
    have ix : L2.ixN (iv l).length ((j : Nat) : Int) = some j := ixN_nat (by simp; omega)
    have p1' := iv_pat (l := l) (j := j) (by omega)
    have a1 : pbin .Add (.int more) (.int d) = some (.int (more + d), false) := rfl
    have a2 : pbin .Add (.int (l.getD j 0)) (.int (more + d)) = some (.int (l.getD j 0 + (more + d)), false) := rfl
    have e1 : callN pg (n + 2) 25 [.box k, .lst [.int 0, .int 0, .int 1, .int 2]] ph = .ok (.int d, false) p1 := e1
    simp only [highL, bind_nm, cBt_some, List.set_cons_succ, List.set_cons_zero, b_cons, s_asg, e_bin, e_var, getV_0, getV_s, cVar_ok, cBin1_ok, e_call, l_cons, l_nil, cL1_ok, e_lst, e_int, cL2_ok, cLst_ok, List.length_cons, List.length_nil, Nat.zero_add, Nat.reduceAdd, if_pos z4, cCall_ok, e1, cBin2_ok, a1, rO_some, cAsg_ok, cB_nx, b_frz, frzE_s, frzE_f, s_setL, e_idx, e_bvar, cBvar_ok, cIdx1_ok, cIdx2_ok, pixB_l, p1', rV_some, a2]
    rw [cSetL1_ok (xs := iv l) rfl]
    simp only [e_var, getV_0, getV_s, cVar_ok]
    rw [cSetL2_ok ix, iv_set]
    simp only [List.set_cons_succ, List.set_cons_zero, cB_nx, b_nil, cFl_nx]
theorem high_run {pg : PProg} (h : P pg) {i l s a : Nat} (F : Fn pg i (highB l) 6 3) (Fl : Fn pg l (leastB s) 6 2) (Fs : Fn pg s (steepB a) 4 2) (Fa : Fn pg a afterB 6 2) {n k : Nat} {ph : PH} (hj : Jug ph k) {kd : Kd} {p : List Nat} (hp : IsP p) (h1 : 1 ≤ p.length) (h2 : p.length ≤ 60) :
    ∃ (t : List Int) (ph' : PH), t.length = p.length ∧ (∀ x ∈ t, 0 ≤ x ∧ x ≤ 1000000) ∧ JS ph k ph' ∧ callN pg (n + 4) i [.box k, .tup (nv p), .str (kS kd)] ph = .ok (.tup (iv t), false) ph' := by
  have e0 := least_ok Fl Fs Fa (n := n) (ph := ph) (k := kd) hp h1 h2
  have lb := least_bd (k := kd) hp
  have lr := rises_len kd p
  obtain ⟨t, w4, w5, p1, ht, hb, j1, e1⟩ := highLoop h (n := n + 1) (k := k) (m := p.length) (v1 := some (.tup (nv p), false)) (v2 := some (.str (kS kd), false)) p (leastT kd p) 0 none ph hj (fun j hj => (isP_mem hp).mp hj) (least_len kd p) (by omega) (fun x hx => by have := lb x hx; omega)
  refine ⟨t, p1, ht, hb, j1, ?_⟩
  rw [F.call rfl]
  have st : startE 6 [.box k, .tup (nv p), .str (kS kd)] = [some (.box k, false), some (.tup (nv p), false), some (.str (kS kd), false), none, none, none] := rfl
  rw [st]
  have ll : pbi .list [.tup (iv (leastT kd p))] = some (.lst (iv (leastT kd p)), true) := rfl
  have pt : pbi .tuple [.lst (iv t)] = some (.tup (iv t), false) := rfl
  simp only [highB, b_cons, s_par, lf_cons, lf_nil, e_blt, l_cons, l_nil, e_call, e_var, getV_0, getV_s, cVar_ok, cL1_ok, cL2_ok, cCall_ok, e0, cBlt_ok, ll, rO_some, cLF1_ok, e_int, cLF2_ok, cPar_ok, List.length_cons, List.length_nil, if_true, setAllF_cons, setAllF_nil, List.set_cons_succ, List.set_cons_zero, cB_nx, b_frz, frzE_s, frzE_f, s_for, i_seq, cSq_t, cFor_ok, e1, s_ret, e_bvar, cBvar_ok, pt, cRet_ok, cB_rt, cEnd_rt]
/-! ### agree -/
def agrI : IB := (.cons (.ife (.cmp .NotEq (.idx (.var 6) (.var 9)) (.idx (.var 7) (.var 9))) (.cons .brk .nil) .nil) (.cons (.asg 8 (.bin .Add (.var 8) (.int 1))) (.frz 8 .nil)))
def agrL : IB := (.cons (.par [6, 7] (.cons (.idx (.var 3) (.idx (.var 1) (.bin .Sub (.var 5) (.int 1)))) (.cons (.idx (.var 3) (.idx (.var 1) (.var 5))) .nil))) (.frz 6 (.frz 7 (.cons (.asg 8 (.int 0)) (.frz 8 (.cons (.forS (.nm 9) (.rng1 (.blt .min (.cons (.blt .len (.cons (.var 6) .nil)) (.cons (.blt .len (.cons (.var 7) .nil)) .nil)))) agrI) (.cons (.app 4 (.var 8)) .nil)))))))
def agrB (e : Nat) : IB := (.cons (.par [3, 4] (.cons (.call e (.cons (.var 0) (.cons (.var 2) .nil))) (.cons (.lst .nil) .nil))) (.frz 3 (.cons (.forS (.nm 5) (.rng2 (.int 1) (.blt .len (.cons (.var 1) .nil))) agrL) (.cons (.ret (.blt .tuple (.cons (.bvar 4) .nil))) .nil))))
theorem agrInner {pg : PProg} {cl : Calls} {v0 v1 v2 v3 v4 v5 : Option (PV × Bool)} {X Y : List Int} {ph : PH} : ∀ (d m : Nat) (v9 : Option (PV × Bool)), m + d = min X.length Y.length →
    ∃ v9', forL pg cl (.nm 9) agrI (rngP (m : Nat) d) [v0, v1, v2, v3, v4, v5, some (.lst (iv X), false), some (.lst (iv Y), false), some (.int (m : Nat), false), v9] ph = .ok (.nx [v0, v1, v2, v3, v4, v5, some (.lst (iv X), false), some (.lst (iv Y), false), some (.int ((m + lcp (X.drop m) (Y.drop m) : Nat) : Int), false), v9']) ph
  | 0, m, v9, h => by
    have z : lcp (X.drop m) (Y.drop m) = 0 := by
      by_cases q : X.length ≤ m
      · rw [List.drop_eq_nil_of_le q, lcp_nil]
      · rw [List.drop_eq_nil_of_le (by omega : Y.length ≤ m)]
        cases X.drop m <;> rfl
    rw [z]
    exact ⟨v9, rfl⟩
  | d + 1, m, v9, h => by
    have cx : m < X.length := by omega
    have cy : m < Y.length := by omega
    have p1 := iv_pat cx
    have p2 := iv_pat cy
    rw [drop_c cx, drop_c cy, lcp_cons, show rngP (m : Nat) (d + 1) = .int (m : Nat) :: rngP ((m : Nat) + 1) d from rfl]
    by_cases e : X.getD m 0 = Y.getD m 0
    · obtain ⟨w9, ih⟩ := agrInner (pg := pg) (cl := cl) (v0 := v0) (v1 := v1) (v2 := v2) (v3 := v3) (v4 := v4) (v5 := v5) (X := X) (Y := Y) (ph := ph) d (m + 1) (some (.int (m : Nat), false)) (by omega)
      refine ⟨w9, ?_⟩
      have a1 : pbin .Add (.int (m : Int)) (.int 1) = some (.int ((m : Int) + 1), false) := rfl
      have ne : (!decide (X.getD m 0 = Y.getD m 0)) = false := by rw [decide_eq_true e]; rfl
      rw [if_pos e, forL_cons, show m + (lcp (X.drop (m + 1)) (Y.drop (m + 1)) + 1) = m + 1 + lcp (X.drop (m + 1)) (Y.drop (m + 1)) by omega]
      rw [show (((m + 1 : Nat) : Nat) : Int) = (m : Int) + 1 from rfl] at ih
      rw [← ih]
      simp only [agrI, bind_nm, cBt_some, List.set_cons_succ, List.set_cons_zero, b_cons, s_ife, e_cmp, e_idx, e_var, getV_0, getV_s, cVar_ok, cIdx1_ok, cIdx2_ok, pixB_l, p1, p2, rV_some, cCmp1_ok, cCmp2_ok, cmp_nei, ne, rB_some, cIf_ok, Bool.false_eq_true, if_false, b_nil, cB_nx, s_asg, e_bin, cBin1_ok, e_int, cBin2_ok, a1, rO_some, cAsg_ok, b_frz, frzE_s, frzE_f, cFl_nx]
    · refine ⟨some (.int (m : Nat), false), ?_⟩
      have ne : (!decide (X.getD m 0 = Y.getD m 0)) = true := by rw [decide_eq_false e]; rfl
      rw [if_neg e, forL_cons]
      simp only [agrI, bind_nm, cBt_some, List.set_cons_succ, List.set_cons_zero, b_cons, s_ife, e_cmp, e_idx, e_var, getV_0, getV_s, cVar_ok, cIdx1_ok, cIdx2_ok, pixB_l, p1, p2, rV_some, cCmp1_ok, cCmp2_ok, cmp_nei, ne, rB_some, cIf_ok, if_true, s_brk, cB_bk, cFl_bk]
      rfl
theorem agrLoop {pg : PProg} {cl : Calls} {k : Kd} {t : List Int} {p : List Nat} (hp : IsP p) (hl : t.length = p.length) (h2 : p.length ≤ 60) {v0 v2 : Option (PV × Bool)} {ph : PH} : ∀ (js : List Nat) (acc : List PV) (v5 v6 v7 v8 v9 : Option (PV × Bool)), (∀ j ∈ js, j + 1 < p.length) → acc.length + js.length ≤ 1000 →
    ∃ v5' v6' v7' v8' v9', forL pg cl (.nm 5) agrL (js.map fun j : Nat => .int ((j : Int) + 1)) [v0, some (.tup (nv p), false), v2, some (.lst (endsC cL k t), false), some (.lst acc, true), v5, v6, v7, v8, v9] ph =
      .ok (.nx [v0, some (.tup (nv p), false), v2, some (.lst (endsC cL k t), false), some (.lst (acc ++ js.map (lcpA k cL t p)), true), v5', v6', v7', v8', v9']) ph
  | [], acc, v5, v6, v7, v8, v9, _, _ => ⟨v5, v6, v7, v8, v9, by show Out.ok _ ph = _; simp⟩
  | j :: js, acc, v5, v6, v7, v8, v9, hj, hz => by
    have h0 := hj j (List.mem_cons_self ..)
    have g1 : p.getD j 0 < t.length := by rw [hl]; exact isP_get hp (by omega)
    have g2 : p.getD (j + 1) 0 < t.length := by rw [hl]; exact isP_get hp h0
    obtain ⟨w9, wl⟩ := agrInner (pg := pg) (cl := cl) (v0 := v0) (v1 := some (.tup (nv p), false)) (v2 := v2) (v3 := some (.lst (endsC cL k t), false)) (v4 := some (.lst acc, true)) (v5 := some (.int ((j : Int) + 1), false)) (X := eAt k cL t (p.getD j 0)) (Y := eAt k cL t (p.getD (j + 1) 0)) (ph := ph) (min (eAt k cL t (p.getD j 0)).length (eAt k cL t (p.getD (j + 1) 0)).length) 0 v9 (by omega)
    rw [List.drop_zero, List.drop_zero, Nat.zero_add] at wl
    obtain ⟨w5, w6, w7, w8, w9', e⟩ := agrLoop (pg := pg) (cl := cl) (k := k) hp hl h2 (v0 := v0) (v2 := v2) (ph := ph) js (acc ++ [lcpA k cL t p j]) (some (.int ((j : Int) + 1), false)) (some (.lst (iv (eAt k cL t (p.getD j 0))), false)) (some (.lst (iv (eAt k cL t (p.getD (j + 1) 0))), false)) (some (lcpA k cL t p j, false)) w9 (fun i hi => hj i (List.mem_cons_of_mem _ hi)) (by simp at hz ⊢; omega)
    refine ⟨w5, w6, w7, w8, w9', ?_⟩
    have za : acc.length < sizeLine := line_lt (by omega)
    have wl : forL pg cl (.nm 9) agrI (rngP 0 (min (eAt k cL t (p.getD j 0)).length (eAt k cL t (p.getD (j + 1) 0)).length)) [v0, some (.tup (nv p), false), v2, some (.lst (endsC cL k t), false), some (.lst acc, true), some (.int ((j : Int) + 1), false), some (.lst (iv (eAt k cL t (p.getD j 0))), false), some (.lst (iv (eAt k cL t (p.getD (j + 1) 0))), false), some (.int 0, false), v9] ph = .ok (.nx [v0, some (.tup (nv p), false), v2, some (.lst (endsC cL k t), false), some (.lst acc, true), some (.int ((j : Int) + 1), false), some (.lst (iv (eAt k cL t (p.getD j 0))), false), some (.lst (iv (eAt k cL t (p.getD (j + 1) 0))), false), some (lcpA k cL t p j, false), w9]) ph := wl
    rw [List.map_cons, forL_cons, List.map_cons, List.append_cons, ← e]
    have p1 := nv_pat (l := p) (j := j) (by omega)
    have p2 := nv_pat1 (l := p) (j := j) h0
    have q1 := endsC_pat (c := cL) (k := k) g1
    have q2 := endsC_pat (c := cL) (k := k) g2
    have mi := minV (a := (eAt k cL t (p.getD j 0)).length) (b := (eAt k cL t (p.getD (j + 1) 0)).length)
    have el1 := eAt_len (k := k) (c := cL) (t := t) (i := p.getD j 0)
    have sr : smallR ((min (eAt k cL t (p.getD j 0)).length (eAt k cL t (p.getD (j + 1) 0)).length : Nat) : Int) = true := smallR_nat (by omega)
    simp only [agrL, bind_nm, cBt_some, List.set_cons_succ, List.set_cons_zero, b_cons, s_par, lf_cons, lf_nil, e_idx, e_var, e_int, e_bin, getV_0, getV_s, cVar_ok, cIdx1_ok, cIdx2_ok, pixB_t, pixB_l, cBin1_ok, cBin2_ok, sub1, rO_some, p1, rV_some, q1, cLF1_ok, p2, q2, cLF2_ok, cPar_ok, List.length_cons, List.length_nil, if_true, setAllF_cons, setAllF_nil, cB_nx, b_frz, frzE_s, frzE_f, s_asg, cAsg_ok, s_for, i_rng1, e_blt, l_cons, l_nil, cL1_ok, cL2_ok, cBlt_ok, pbi_len_l, iv_len, mi, cR1_ok, if_pos sr, Int.toNat_natCast, cFor_ok, wl, s_app, getO_0, getO_s, cApp1_ok, cApp2_ok, if_pos za, b_nil, cFl_nx]
theorem iv_agrL {k : Kd} {c : Int} {t : List Int} {p : List Nat} : (List.range (p.length - 1)).map (lcpA k c t p) = iv (agr k c t p) := iv_agr
theorem agr_run {pg : PProg} {i e : Nat} (F : Fn pg i (agrB e) 10 3) (Fe : Fn pg e endsB 6 2) {n : Nat} {ph : PH} {k : Kd} {t : List Int} {p : List Nat} (hp : IsP p) (hl : t.length = p.length) (h1 : 1 ≤ p.length) (h2 : p.length ≤ 60) : callN pg (n + 2) i [.tup (iv t), .tup (nv p), .str (kS k)] ph = .ok (.tup (iv (agr k cL t p)), false) ph := by
  rw [F.call rfl]
  have st : startE 10 [.tup (iv t), .tup (nv p), .str (kS k)] = [some (.tup (iv t), false), some (.tup (nv p), false), some (.str (kS k), false), none, none, none, none, none, none, none] := rfl
  rw [st]
  have e5 := ends_run Fe (n := n) (ph := ph) (k := k) (t := t) (by omega)
  obtain ⟨v5, v6, v7, v8, v9, e1⟩ := agrLoop (pg := pg) (cl := callN pg (n + 1)) (k := k) hp hl h2 (v0 := some (.tup (iv t), false)) (v2 := some (.str (kS k), false)) (ph := ph) (List.range (p.length - 1)) [] none none none none none (fun j hj => by have := List.mem_range.mp hj; omega) (by simp; omega)
  rw [List.nil_append, iv_agrL, ← rng1_map] at e1
  have sr : (smallR 1 && smallR (p.length : Int)) = true := by rw [smallR_nat (by omega)]; rfl
  have tn : ((p.length : Int) - 1).toNat = p.length - 1 := by omega
  have z0 : 0 ≤ sizeLine := Nat.zero_le _
  have pt : pbi .tuple [.lst (iv (agr k cL t p))] = some (.tup (iv (agr k cL t p)), false) := rfl
  simp only [agrB, b_cons, s_par, lf_cons, lf_nil, e_call, l_cons, l_nil, e_var, getV_0, getV_s, cVar_ok, cL1_ok, cL2_ok, cCall_ok, e5, cLF1_ok, e_lst, cLst_ok, List.length_nil, if_pos z0, cLF2_ok, cPar_ok, List.length_cons, if_true, setAllF_cons, setAllF_nil, List.set_cons_succ, List.set_cons_zero, cB_nx, b_frz, frzE_s, frzE_t, s_for, i_rng2, e_int, cR21_ok, e_blt, cBlt_ok, pbi_len_t, nv_len, rO_some, cR22_ok, if_pos sr, tn, cFor_ok, e1, s_ret, e_bvar, cBvar_ok, pt, cRet_ok, cB_rt, cEnd_rt]
/-! ### the rule -/
def untrB (a : Nat) : IB := (.cons (.par [4, 5] (.cons (.call a (.cons (.var 0) (.cons (.var 1) .nil))) (.cons (.blt .len (.cons (.var 0) .nil)) .nil))) (.frz 4 (.frz 5 (.cons (.ife (.cmp .Lt (.idx (.var 2) (.var 3)) (.int 1)) (.cons (.ret (.cmp .Lt (.idx (.var 2) (.var 3)) (.int 0))) .nil) .nil) (.cons (.ife (.cmp .Gt (.idx (.var 4) (.var 3)) (.idx (.var 4) (.bin .Add (.var 3) (.int 1)))) (.cons (.ret (.bl true)) .nil) .nil) (.cons (.ife (.and (.cmp .NotEq (.var 1) (.str ("ring" : Str))) (.cmp .In (.bin .Sub (.var 5) (.int 1)) (.lst (.cons (.idx (.var 0) (.var 3)) (.cons (.idx (.var 0) (.bin .Add (.var 3) (.int 1))) .nil))))) (.cons (.ret (.cmp .NotEq (.idx (.var 2) (.var 3)) (.int 1))) .nil) .nil) (.cons (.ret (.cmp .NotEq (.idx (.var 2) (.var 3)) (.bin .Add (.int 1) (.blt .min (.cons (.slc (.var 2) (.cons (.idx (.var 4) (.var 3)) .nil) (.cons (.idx (.var 4) (.bin .Add (.var 3) (.int 1))) .nil)) .nil))))) .nil)))))))
theorem untr_run {pg : PProg} {i a : Nat} (F : Fn pg i (untrB a) 6 4) (Fa : Fn pg a afterB 6 2) {n : Nat} {ph : PH} {k : Kd} {p : List Nat} {T : List Int} (hp : IsP p) (h2 : p.length ≤ 60) (hT : T.length = p.length - 1) {j : Nat} (hj : j + 1 < p.length) : callN pg (n + 2) i [.tup (nv p), .str (kS k), .tup (iv T), .int (j : Nat)] ph = .ok (.bl (untr k p T j), false) ph := by
  rw [F.call rfl]
  have st : startE 6 [.tup (nv p), .str (kS k), .tup (iv T), .int (j : Nat)] = [some (.tup (nv p), false), some (.str (kS k), false), some (.tup (iv T), false), some (.int (j : Nat), false), none, none] := rfl
  rw [st]
  have tj := iv_pat (l := T) (j := j) (by omega)
  have pj := nv_pat (l := p) (j := j) (by omega)
  have pj1 := nv_pat1 (l := p) (j := j) hj
  have e7 := after_ok Fa (n := n) (ph := ph) (k := k) hp (by omega) h2
  have fl : (fol k p).length = p.length := fol_len k p
  have fj := iv_pat (l := fol k p) (j := j) (by omega)
  have fj1 := iv_pat1 (l := fol k p) (j := j) (by omega)
  have mi : pbin .Sub (.int (p.length : Int)) (.int 1) = some (.int ((p.length : Int) - 1), false) := rfl
  have a1 : pbin .Add (.int (j : Int)) (.int 1) = some (.int ((j : Int) + 1), false) := rfl
  have z2 : 2 ≤ sizeLine := line_ok (by omega)
  unfold untr
  by_cases c0 : T.getD j 0 ≤ 0
  · have c0' : T.getD j 0 < 1 := by omega
    rw [if_pos c0]
    simp only [untrB, b_cons, s_par, lf_cons, lf_nil, e_call, l_cons, l_nil, cL1_ok, cL2_ok, cCall_ok, e7, cLF1_ok, e_blt, cBlt_ok, pbi_len_t, nv_len, rO_some, cLF2_ok, cPar_ok, List.length_cons, List.length_nil, if_true, setAllF_cons, setAllF_nil, List.set_cons_succ, List.set_cons_zero, cB_nx, b_frz, frzE_s, frzE_t, frzE_f, s_ife, e_cmp, e_idx, e_var, e_int, getV_0, getV_s, cVar_ok, cIdx1_ok, cIdx2_ok, pixB_t, tj, rV_some, cCmp1_ok, cCmp2_ok, cmp_lt, rB_some, cIf_ok, decide_eq_true_eq, if_pos c0', s_ret, cRet_ok, cB_rt, cEnd_rt]
  · have c0' : ¬ T.getD j 0 < 1 := by omega
    rw [if_neg c0]
    by_cases c1 : rise k p j = true
    · rw [if_pos c1]
      have c1' : (fol k p).getD (j + 1) 0 < (fol k p).getD j 0 := by unfold rise at c1; exact of_decide_eq_true c1
      simp only [untrB, b_cons, s_par, lf_cons, lf_nil, e_call, l_cons, l_nil, cL1_ok, cL2_ok, cCall_ok, e7, cLF1_ok, e_blt, cBlt_ok, pbi_len_t, nv_len, rO_some, cLF2_ok, cPar_ok, List.length_cons, List.length_nil, if_true, setAllF_cons, setAllF_nil, List.set_cons_succ, List.set_cons_zero, cB_nx, b_frz, frzE_s, frzE_t, frzE_f, s_ife, e_cmp, e_idx, e_var, e_int, getV_0, getV_s, cVar_ok, cIdx1_ok, cIdx2_ok, pixB_t, pixB_l, tj, rV_some, cCmp1_ok, cCmp2_ok, cmp_lt, cmp_gt, rB_some, cIf_ok, decide_eq_true_eq, if_neg c0', b_nil, e_bin, cBin1_ok, cBin2_ok, a1, fj, fj1, if_pos c1', s_ret, e_bl, cRet_ok, cB_rt, cEnd_rt]
    · rw [if_neg c1]
      have c1' : ¬ (fol k p).getD (j + 1) 0 < (fol k p).getD j 0 := fun z => c1 (by unfold rise; exact decide_eq_true z)
      by_cases c2 : k ≠ .ri ∧ (p.getD j 0 + 1 = p.length ∨ p.getD (j + 1) 0 + 1 = p.length)
      · rw [if_pos c2]
        have k2 : (!decide (k = Kd.ri)) = true := by simp [c2.1]
        have d2 : (p.length : Int) - 1 = (p.getD j 0 : Nat) ∨ (p.length : Int) - 1 = (p.getD (j + 1) 0 : Nat) := by rcases c2.2 with z | z <;> omega
        simp only [untrB, b_cons, s_par, lf_cons, lf_nil, e_call, l_cons, l_nil, cL1_ok, cL2_ok, cCall_ok, e7, cLF1_ok, e_blt, cBlt_ok, pbi_len_t, nv_len, rO_some, cLF2_ok, cPar_ok, List.length_cons, List.length_nil, if_true, setAllF_cons, setAllF_nil, List.set_cons_succ, List.set_cons_zero, cB_nx, b_frz, frzE_s, frzE_t, frzE_f, s_ife, e_cmp, e_idx, e_var, e_int, getV_0, getV_s, cVar_ok, cIdx1_ok, cIdx2_ok, pixB_t, pixB_l, tj, rV_some, cCmp1_ok, cCmp2_ok, cmp_lt, cmp_gt, rB_some, cIf_ok, decide_eq_true_eq, if_neg c0', b_nil, e_bin, cBin1_ok, cBin2_ok, a1, fj, fj1, if_neg c1',
          e_and, e_str, ne_ring, cAnd_ok, k2, mi, e_lst, pj, pj1, cLst_ok, Nat.zero_add, Nat.reduceAdd, if_pos z2, in_twoL, if_pos d2, s_ret, cmp_nei, cRet_ok, cB_rt, cEnd_rt]
      · rw [if_neg c2]
        obtain ⟨s1, s2⟩ := rule_cut hp hT hj c1 c2
        have d2 : (!decide (k = Kd.ri)) = true → ¬ ((p.length : Int) - 1 = (p.getD j 0 : Nat) ∨ (p.length : Int) - 1 = (p.getD (j + 1) 0 : Nat)) := fun z w => c2 ⟨by simpa using z, by rcases w with w | w; exact .inl (by omega); exact .inr (by omega)⟩
        have ad : ∀ x : Int, pbin .Add (.int 1) (.int x) = some (.int (1 + x), false) := fun _ => rfl
        by_cases k2 : (!decide (k = Kd.ri)) = true
        · simp only [untrB, b_cons, s_par, lf_cons, lf_nil, e_call, l_cons, l_nil, cL1_ok, cL2_ok, cCall_ok, e7, cLF1_ok, e_blt, cBlt_ok, pbi_len_t, nv_len, rO_some, cLF2_ok, cPar_ok, List.length_cons, List.length_nil, if_true, setAllF_cons, setAllF_nil, List.set_cons_succ, List.set_cons_zero, cB_nx, b_frz, frzE_s, frzE_t, frzE_f, s_ife, e_cmp, e_idx, e_var, e_int, getV_0, getV_s, cVar_ok, cIdx1_ok, cIdx2_ok, pixB_t, pixB_l, tj, rV_some, cCmp1_ok, cCmp2_ok, cmp_lt, cmp_gt, rB_some, cIf_ok, decide_eq_true_eq, if_neg c0', b_nil, e_bin, cBin1_ok, cBin2_ok, a1, fj, fj1, if_neg c1',
            e_and, e_str, ne_ring, cAnd_ok, k2, mi, e_lst, pj, pj1, cLst_ok, Nat.zero_add, Nat.reduceAdd, if_pos z2, in_twoL, if_neg (d2 k2), s_ret, cmp_nei, e_slc, p_one, cP_ok, cSlc1_ok, cSlc2_ok, cSlc3_ok, s1, s2, ad, cRet_ok, cB_rt, cEnd_rt]
        · simp only [untrB, b_cons, s_par, lf_cons, lf_nil, e_call, l_cons, l_nil, cL1_ok, cL2_ok, cCall_ok, e7, cLF1_ok, e_blt, cBlt_ok, pbi_len_t, nv_len, rO_some, cLF2_ok, cPar_ok, List.length_cons, List.length_nil, if_true, setAllF_cons, setAllF_nil, List.set_cons_succ, List.set_cons_zero, cB_nx, b_frz, frzE_s, frzE_t, frzE_f, s_ife, e_cmp, e_idx, e_var, e_int, getV_0, getV_s, cVar_ok, cIdx1_ok, cIdx2_ok, pixB_t, pixB_l, tj, rV_some, cCmp1_ok, cCmp2_ok, cmp_lt, cmp_gt, rB_some, cIf_ok, decide_eq_true_eq, if_neg c0', b_nil, e_bin, cBin1_ok, cBin2_ok, a1, fj, fj1, if_neg c1',
            e_and, e_str, ne_ring, cAnd_ok, if_neg k2, Bool.false_eq_true, if_false, s_ret, cmp_nei, e_slc, p_one, cP_ok, cSlc1_ok, cSlc2_ok, cSlc3_ok, s1, s2, ad, cRet_ok, cB_rt, cEnd_rt]
/-! ### told apart -/
def apartL : IB := (.cons (.asg 3 (.bin .Add (.var 3) (.blt .int (.cons (.and (.cmp .Gt (.var 4) (.int 0)) (.cmp .Eq (.idx (.var 1) (.bin .Sub (.var 4) (.int 1))) (.int 0))) .nil)))) (.frz 3 (.cons (.setL 2 (.idx (.var 0) (.var 4)) (.var 3)) .nil)))
def apartB : IB := (.cons (.par [2, 3] (.cons (.bin .Mult (.lst (.cons (.int 0) .nil)) (.blt .len (.cons (.var 0) .nil))) (.cons (.int 0) .nil))) (.frz 3 (.cons (.forS (.nm 4) (.rng1 (.blt .len (.cons (.var 0) .nil))) apartL) (.cons (.ret (.blt .tuple (.cons (.bvar 2) .nil))) .nil))))
def apF (p : List Nat) (T : List Int) (a : Nat) : List Int := (List.range p.length).map fun i => if p.idxOf i < a then cz T (p.idxOf i) else 0
theorem apF_step {p : List Nat} {T : List Int} (hp : IsP p) {a : Nat} (ha : a < p.length) : (apF p T a).set p[a] (cz T a) = apF p T (a + 1) := by
  apply List.ext_getElem?
  intro i
  unfold apF
  have hpa := isP_at hp ha
  by_cases hi : i < p.length
  · by_cases c : i = p[a]
    · subst c
      rw [List.getElem?_set_self (by simp; exact hpa), List.getElem?_map, List.getElem?_range hpa, Option.map_some, idx_at hp ha, if_pos (by omega)]
    · rw [List.getElem?_set_ne (fun z => c z.symm), List.getElem?_map, List.getElem?_map, List.getElem?_range hi, Option.map_some, Option.map_some]
      have ne : p.idxOf i ≠ a := fun z => c (by have := at_idx hp hi; rw [← this]; congr 1)
      by_cases q : p.idxOf i < a
      · rw [if_pos q, if_pos (by omega)]
      · rw [if_neg q, if_neg (by omega)]
  · rw [List.getElem?_eq_none (by simp; omega), List.getElem?_eq_none (by simp; omega)]
theorem apartLoop {pg : PProg} {cl : Calls} {p : List Nat} {T : List Int} (hp : IsP p) (hT : T.length = p.length - 1) {ph : PH} : ∀ (m a : Nat) (v4 : Option (PV × Bool)), a + m = p.length →
    ∃ v3 v4', forL pg cl (.nm 4) apartL (rngP (a : Nat) m) [some (.tup (nv p), false), some (.tup (iv T), false), some (.lst (iv (apF p T a)), true), some (.int (cz T (a - 1)), false), v4] ph =
      .ok (.nx [some (.tup (nv p), false), some (.tup (iv T), false), some (.lst (iv (apF p T p.length)), true), v3, v4']) ph
  | 0, a, v4, h => by
    have : a = p.length := by omega
    subst this
    exact ⟨_, v4, rfl⟩
  | m + 1, a, v4, h => by
    have ha : a < p.length := by omega
    obtain ⟨v3, v4', e⟩ := apartLoop (pg := pg) (cl := cl) hp hT (ph := ph) m (a + 1) (some (.int (a : Nat), false)) (by omega)
    rw [Nat.add_sub_cancel] at e
    refine ⟨v3, v4', ?_⟩
    rw [show rngP (a : Nat) (m + 1) = .int (a : Nat) :: rngP ((a : Nat) + 1) m from rfl, forL_cons]
    have hpa := isP_at hp ha
    have pa : pat (nv p) (a : Int) = some (.int (p[a] : Nat)) := pat_nat (nv_at (List.getElem?_eq_getElem ha))
    have ix : L2.ixN (iv (apF p T a)).length ((p[a] : Nat) : Int) = some p[a] := ixN_nat (by simp [apF]; exact hpa)
    have sp := apF_step (T := T) hp ha
    rw [show (((a + 1 : Nat) : Nat) : Int) = (a : Int) + 1 from rfl] at e
    rw [← e]
    have pi : ∀ b : Bool, pbi .int [.bl b] = some (.int (if b = true then 1 else 0), false) := fun b => rfl
    cases a with
    | zero =>
      have c : ¬ (((0 : Nat) : Int) > 0) := by omega
      have c' : (decide ((0 : Int) < ((0 : Nat) : Int))) = false := by decide
      have ad : pbin .Add (.int (cz T (0 - 1))) (.int (if false = true then 1 else 0)) = some (.int (cz T 0), false) := rfl
      simp only [apartL, bind_nm, cBt_some, List.set_cons_succ, List.set_cons_zero, b_cons, s_asg, e_bin, e_var, getV_0, getV_s, cVar_ok, cBin1_ok, e_blt, l_cons, l_nil, e_and, e_cmp, cCmp1_ok, e_int, cCmp2_ok, cmp_gt, c', rB_some, cAnd_ok, if_neg Bool.false_ne_true, cL1_ok, cL2_ok, cBlt_ok]
      rw [pi]
      simp only [rO_some, cBin2_ok]
      rw [ad]
      simp only [rO_some, cAsg_ok, List.set_cons_succ, List.set_cons_zero, cB_nx, b_frz, frzE_s, frzE_f, b_cons, s_setL, e_var, getV_0, getV_s, cVar_ok]
      rw [cSetL1_ok (xs := iv (apF p T 0)) rfl]
      simp only [e_idx, e_var, getV_0, getV_s, cVar_ok, cIdx1_ok, cIdx2_ok, pixB_t, pa, rV_some]
      rw [cSetL2_ok ix, iv_set, sp]
      simp only [List.set_cons_succ, List.set_cons_zero, cB_nx, b_nil, cFl_nx]
    | succ a =>
      have c' : (decide ((0 : Int) < ((a + 1 : Nat) : Int))) = true := decide_eq_true (by omega)
      have tj := iv_pat (l := T) (j := a) (by omega)
      have sb : pbin .Sub (.int ((a + 1 : Nat) : Int)) (.int 1) = some (.int (a : Int), false) := sub1 a
      have ad : pbin .Add (.int (cz T a)) (.int (if decide (T.getD a 0 = 0) = true then 1 else 0)) = some (.int (cz T (a + 1)), false) := by
        show some (PV.int (cz T a + _), false) = some (PV.int (cz T a + if T.getD a 0 = 0 then 1 else 0), false)
        by_cases z : T.getD a 0 = 0
        · rw [if_pos (decide_eq_true z), if_pos z]
        · rw [if_neg (by rw [decide_eq_false z]; exact Bool.false_ne_true), if_neg z]
      simp only [apartL, bind_nm, cBt_some, List.set_cons_succ, List.set_cons_zero, b_cons, s_asg, e_bin, e_var, getV_0, getV_s, cVar_ok, cBin1_ok, e_blt, l_cons, l_nil, e_and, e_cmp, cCmp1_ok, e_int, cCmp2_ok, cmp_gt, c', rB_some, cAnd_ok, if_true, e_idx, cIdx1_ok, cIdx2_ok, cBin2_ok, sb, rO_some, pixB_t, tj, rV_some, cmp_eqi, cL1_ok, cL2_ok, cBlt_ok]
      rw [pi]
      simp only [rO_some, cBin2_ok, Nat.add_sub_cancel]
      rw [ad]
      simp only [rO_some, cAsg_ok, List.set_cons_succ, List.set_cons_zero, cB_nx, b_frz, frzE_s, frzE_f, b_cons, s_setL, e_var, getV_0, getV_s, cVar_ok]
      rw [cSetL1_ok (xs := iv (apF p T (a + 1))) rfl]
      simp only [e_idx, e_var, getV_0, getV_s, cVar_ok, cIdx1_ok, cIdx2_ok, pixB_t, pa, rV_some]
      rw [cSetL2_ok ix, iv_set, sp]
      simp only [List.set_cons_succ, List.set_cons_zero, cB_nx, b_nil, cFl_nx]
theorem zerosV {m : Nat} (h : m ≤ 1000) : pbin .Mult (.lst [.int 0]) (.int (m : Nat)) = some (.lst (iv (List.replicate m 0)), true) := by
  have : iv (List.replicate m 0) = (List.replicate ((m : Nat) : Int).toNat [PV.int 0]).flatten := by
    rw [Int.toNat_natCast]
    simp [iv]
  rw [this]
  have c : (decide (-(2 ^ 62) ≤ ((m : Nat) : Int)) && decide (((m : Nat) : Int) < 2 ^ 62) && decide ([PV.int 0].length * ((m : Nat) : Int).toNat ≤ sizeLine)) = true := by
    simp only [Bool.and_eq_true, decide_eq_true_eq]
    exact ⟨⟨by omega, by omega⟩, line_ok (by simp; omega)⟩
  simp only [pbin]
  rw [if_pos c]
theorem apart_run {pg : PProg} {i : Nat} (F : Fn pg i apartB 5 2) {n : Nat} {ph : PH} {p : List Nat} {T : List Int} (hp : IsP p) (h2 : p.length ≤ 60) (hT : T.length = p.length - 1) : callN pg (n + 1) i [.tup (nv p), .tup (iv T)] ph = .ok (.tup (iv (apartT p T)), false) ph := by
  rw [F.call rfl]
  have st : startE 5 [.tup (nv p), .tup (iv T)] = [some (.tup (nv p), false), some (.tup (iv T), false), none, none, none] := rfl
  rw [st]
  obtain ⟨v3, v4, e⟩ := apartLoop (pg := pg) (cl := callN pg n) hp hT (ph := ph) p.length 0 none (by omega)
  have l0 : apF p T 0 = List.replicate p.length 0 := by
    unfold apF
    apply List.ext_getElem
    · simp
    · intro i h1 h2; simp
  have le : apF p T p.length = apartT p T := by
    unfold apF apartT
    apply List.map_congr_left
    intro i hi
    rw [if_pos (idx_lt hp (List.mem_range.mp hi))]
  rw [le, l0] at e
  have e : forL pg (callN pg n) (.nm 4) apartL (rngP 0 p.length) [some (.tup (nv p), false), some (.tup (iv T), false), some (.lst (iv (List.replicate p.length 0)), true), some (.int 0, false), none] ph = _ := e
  have lm := zerosV (m := p.length) (by omega)
  have sr : smallR (p.length : Int) = true := smallR_nat (by omega)
  have z1 : 1 ≤ sizeLine := line_ok (by omega)
  have pt : pbi .tuple [.lst (iv (apartT p T))] = some (.tup (iv (apartT p T)), false) := rfl
  generalize List.replicate p.length (0 : Int) = Z at *
  simp only [apartB, b_cons, s_par, lf_cons, lf_nil, e_bin, e_lst, l_cons, l_nil, e_int, cL1_ok, cL2_ok, cLst_ok, List.length_cons, List.length_nil, Nat.zero_add, if_pos z1, cBin1_ok, e_blt, e_var, getV_0, getV_s, cVar_ok, cBlt_ok, pbi_len_t, nv_len, rO_some, cBin2_ok, lm, cLF1_ok, cLF2_ok, cPar_ok, if_true, setAllF_cons, setAllF_nil, List.set_cons_succ, List.set_cons_zero, cB_nx, b_frz, frzE_s, frzE_f, s_for, i_rng1, cR1_ok, if_pos sr, Int.toNat_natCast, cFor_ok, e, s_ret, e_bvar, cBvar_ok, pt, cRet_ok, cB_rt, cEnd_rt]
/-! ### drawn tables -/
def tabD : List PV := [.int 0, .int 0, .int 1, .int 2, .int 3, .int 5, .int 60]
theorem tabD_at {j : Nat} {y : PV} (h : tabD[j]? = some y) : ∃ d : Int, y = .int d := by
  match j, h with
  | 0, h => cases h; exact ⟨_, rfl⟩
  | 1, h => cases h; exact ⟨_, rfl⟩
  | 2, h => cases h; exact ⟨_, rfl⟩
  | 3, h => cases h; exact ⟨_, rfl⟩
  | 4, h => cases h; exact ⟨_, rfl⟩
  | 5, h => cases h; exact ⟨_, rfl⟩
  | 6, h => cases h; exact ⟨_, rfl⟩
  | j + 7, h => simp [tabD] at h
def tabL : IB := (.cons (.ife (.cmp .NotEq (.bvar 3) (.lst .nil)) (.cons (.setL 3 (.call 24 (.cons (.var 0) (.cons (.blt .len (.cons (.bvar 3) .nil)) .nil))) (.call 25 (.cons (.var 0) (.cons (.lst (.cons (.int 0) (.cons (.int 0) (.cons (.int 1) (.cons (.int 2) (.cons (.int 3) (.cons (.int 5) (.cons (.int 60) .nil)))))))) .nil)))) .nil) .nil) .nil)
def tabB (ag hi : Nat) : IB := (.cons (.asg 3 (.blt .list (.cons (.call ag (.cons (.call hi (.cons (.var 0) (.cons (.var 1) (.cons (.var 2) .nil)))) (.cons (.var 1) (.cons (.var 2) .nil)))) .nil))) (.cons (.forS (.nm 4) (.rng1 (.call 24 (.cons (.var 0) (.cons (.int 3) .nil)))) tabL) (.cons (.ret (.blt .tuple (.cons (.bvar 3) .nil))) .nil)))
theorem tabLoop {pg : PProg} (h : P pg) {n k m : Nat} (hm : m ≤ 1000) {v1 v2 : Option (PV × Bool)} : ∀ (ts : List PV) (T : List Int) (v4 : Option (PV × Bool)) (ph : PH), Jug ph k → T.length = m →
    ∃ (T' : List Int) (v4' : Option (PV × Bool)) (ph' : PH), T'.length = m ∧ JS ph k ph' ∧
      forL pg (callN pg (n + 2)) (.nm 4) tabL ts [some (.box k, false), v1, v2, some (.lst (iv T), true), v4] ph = .ok (.nx [some (.box k, false), v1, v2, some (.lst (iv T'), true), v4']) ph'
  | [], T, v4, ph, hj, hT => ⟨T, v4, ph, hT, hj.self, rfl⟩
  | x :: ts, T, v4, ph, hj, hT => by
    have ne := ne_lstI (l := T) (m := [])
    have ne : pcmp .NotEq (.lst (iv T)) (.lst []) = some (!decide (T = [])) := ne
    have z0 : 0 ≤ sizeLine := Nat.zero_le _
    by_cases c : T = []
    · obtain ⟨T', w4, p1, hT', j1, e1⟩ := tabLoop h (n := n) (v1 := v1) (v2 := v2) hm ts T (some (x, false)) ph hj hT
      refine ⟨T', w4, p1, hT', j1, ?_⟩
      have nn : (!decide (T = [])) = false := by rw [decide_eq_true c]; rfl
      rw [forL_cons, ← e1]
      simp only [tabL, bind_nm, cBt_some, List.set_cons_succ, List.set_cons_zero, b_cons, s_ife, e_cmp, e_bvar, getV_0, getV_s, cBvar_ok, cCmp1_ok, e_lst, l_nil, cLst_ok, List.length_nil, if_pos z0, cCmp2_ok, ne, nn, rB_some, cIf_ok, Bool.false_eq_true, if_false, b_nil, cB_nx, cFl_nx]
    · have nn : (!decide (T = [])) = true := by rw [decide_eq_false c]; rfl
      have l0 : 0 < T.length := List.length_pos_iff.mpr c
      obtain ⟨jj, y, p1, hy, j1, e1⟩ := one_l h (n := n) (ph := ph) (xs := tabD) hj (by decide) (by decide)
      obtain ⟨d, rfl⟩ := tabD_at hy
      obtain ⟨s, p2, hs, j2, e2⟩ := swig h (n := n + 1) (top := T.length) j1.jug l0 (by omega)
      obtain ⟨T', w4, p3, hT', j3, e3⟩ := tabLoop h (n := n) (v1 := v1) (v2 := v2) hm ts (T.set s d) (some (x, false)) p2 j2.jug (by simpa using hT)
      refine ⟨T', w4, p3, hT', (j1.trans j2).trans j3, ?_⟩
      have z7 : 7 ≤ sizeLine := line_ok (by omega)
      have e1 : callN pg (n + 2) 25 [.box k, .lst [.int 0, .int 0, .int 1, .int 2, .int 3, .int 5, .int 60]] ph = .ok (.int d, false) p1 := e1
      have ix : L2.ixN (iv T).length ((s : Nat) : Int) = some s := ixN_nat (by simpa using hs)
      rw [forL_cons, ← e3]
      simp only [tabL, bind_nm, cBt_some, List.set_cons_succ, List.set_cons_zero, b_cons, s_ife, e_cmp, e_bvar, getV_0, getV_s, cBvar_ok, cCmp1_ok, e_lst, l_nil, cLst_ok, List.length_nil, if_pos z0, cCmp2_ok, ne, nn, rB_some, cIf_ok, if_true, s_setL, e_call, l_cons, e_var, cVar_ok, cL1_ok, e_int, cL2_ok, List.length_cons, Nat.zero_add, Nat.reduceAdd, if_pos z7, cCall_ok, e1]
      rw [cSetL1_ok (xs := iv T) rfl]
      simp only [e_call, l_cons, l_nil, e_var, getV_0, getV_s, cVar_ok, cL1_ok, e_blt, e_bvar, cBvar_ok, cL2_ok, cBlt_ok, pbi_len_l, iv_len, rO_some, cCall_ok, e2]
      rw [cSetL2_ok (by simpa using ix), iv_set]
      simp only [List.set_cons_succ, List.set_cons_zero, cB_nx, b_nil, cFl_nx]
theorem tab_run {pg : PProg} (h : P pg) {i ag hi e l s a : Nat} (F : Fn pg i (tabB ag hi) 5 3) (Fg : Fn pg ag (agrB e) 10 3) (Fe : Fn pg e endsB 6 2) (Fh : Fn pg hi (highB l) 6 3) (Fl : Fn pg l (leastB s) 6 2) (Fs : Fn pg s (steepB a) 4 2) (Fa : Fn pg a afterB 6 2)
    {n k : Nat} {ph : PH} (hj : Jug ph k) {kd : Kd} {p : List Nat} (hp : IsP p) (h1 : 1 ≤ p.length) (h2 : p.length ≤ 60) :
    ∃ (T : List Int) (ph' : PH), T.length = p.length - 1 ∧ JS ph k ph' ∧ callN pg (n + 5) i [.box k, .tup (nv p), .str (kS kd)] ph = .ok (.tup (iv T), false) ph' := by
  obtain ⟨t, p1, ht, hb, j1, e1⟩ := high_run h Fh Fl Fs Fa (n := n) (kd := kd) hj hp h1 h2
  have e2 := agr_run Fg Fe (n := n + 2) (ph := p1) (k := kd) (t := t) hp ht h1 h2
  obtain ⟨d, p2, hd, j2, e3⟩ := swig h (n := n + 3) (top := 3) j1.jug (by decide) (by decide)
  obtain ⟨T, w4, p3, hT, j3, e4⟩ := tabLoop h (n := n + 2) (m := p.length - 1) (by omega) (v1 := some (.tup (nv p), false)) (v2 := some (.str (kS kd), false)) (rngP 0 d) (agr kd cL t p) none p2 j2.jug agr_len
  refine ⟨T, p3, hT, (j1.trans j2).trans j3, ?_⟩
  rw [F.call rfl]
  have st : startE 5 [.box k, .tup (nv p), .str (kS kd)] = [some (.box k, false), some (.tup (nv p), false), some (.str (kS kd), false), none, none] := rfl
  rw [st]
  have ll : pbi .list [.tup (iv (agr kd cL t p))] = some (.lst (iv (agr kd cL t p)), true) := rfl
  have pt : pbi .tuple [.lst (iv T)] = some (.tup (iv T), false) := rfl
  have sr : smallR (d : Int) = true := smallR_nat (by omega)
  have e3 : callN pg (n + 4) 24 [.box k, .int 3] p1 = .ok (.int (d : Nat), false) p2 := e3
  simp only [tabB, b_cons, s_asg, e_blt, l_cons, l_nil, e_call, e_var, getV_0, getV_s, cVar_ok, cL1_ok, cL2_ok, cCall_ok, e1, e2, cBlt_ok, ll, rO_some, cAsg_ok, List.set_cons_succ, List.set_cons_zero, cB_nx, s_for, i_rng1, e_int, e3, cR1_ok, if_pos sr, Int.toNat_natCast, cFor_ok, e4, s_ret, e_bvar, cBvar_ok, pt, cRet_ok, cB_rt, cEnd_rt]
end Chk

set_option Elab.async false
set_option linter.all false
set_option maxRecDepth 100000
set_option maxHeartbeats 4000000
/-! ChkS: the program's class Order: its ranks, its rises, its least text. -/
namespace Chk
open PySem Py Mth
/-! ### ranks_of -/
def rk (p : List Nat) : List Int := (List.range p.length).map fun i => ((p.idxOf i : Nat) : Int)
@[simp] theorem rk_len (p : List Nat) : (rk p).length = p.length := by simp [rk]
def ranksE : IE := (.int 0)
def ranksL : IB := (.cons (.setL 1 (.var 2) (.var 3)) .nil)
def ranksB : IB := (.cons (.asg 1 (.lc [2] (.nm 2) (.seq (.var 0)) .nil ranksE)) (.cons (.forS (.tup [3, 2]) (.enum (.var 0)) ranksL) (.cons (.retv 1) .nil)))
def rkF (p : List Nat) (a : Nat) : List Int := (List.range p.length).map fun i => if p.idxOf i < a then ((p.idxOf i : Nat) : Int) else 0
theorem rkF_step {p : List Nat} (hp : IsP p) {a : Nat} (ha : a < p.length) : (rkF p a).set p[a] (a : Nat) = rkF p (a + 1) := by
  apply List.ext_getElem?
  intro i
  unfold rkF
  have hpa := isP_at hp ha
  by_cases hi : i < p.length
  · by_cases c : i = p[a]
    · subst c
      rw [List.getElem?_set_self (by simp; exact hpa), List.getElem?_map, List.getElem?_range hpa, Option.map_some, idx_at hp ha, if_pos (by omega)]
    · rw [List.getElem?_set_ne (fun z => c z.symm), List.getElem?_map, List.getElem?_map, List.getElem?_range hi, Option.map_some, Option.map_some]
      have ne : p.idxOf i ≠ a := fun z => c (by have := at_idx hp hi; rw [← this]; congr 1)
      by_cases q : p.idxOf i < a
      · rw [if_pos q, if_pos (by omega)]
      · rw [if_neg q, if_neg (by omega)]
  · rw [List.getElem?_eq_none (by simp; omega), List.getElem?_eq_none (by simp; omega)]
theorem ranksLoop {pg : PProg} {cl : Calls} {p : List Nat} (hp : IsP p) {ph : PH} : ∀ (m a : Nat) (v2 v3 : Option (PV × Bool)), a + m = p.length →
    ∃ v2' v3', forL pg cl (.tup [3, 2]) ranksL (enumP a (nv (p.drop a))) [some (.tup (nv p), false), some (.lst (iv (rkF p a)), true), v2, v3] ph =
      .ok (.nx [some (.tup (nv p), false), some (.lst (iv (rkF p p.length)), true), v2', v3']) ph
  | 0, a, v2, v3, h => by
    have : a = p.length := by omega
    subst this
    exact ⟨v2, v3, by rw [List.drop_length]; rfl⟩
  | m + 1, a, v2, v3, h => by
    have ha : a < p.length := by omega
    obtain ⟨v2', v3', e⟩ := ranksLoop hp (ph := ph) (pg := pg) (cl := cl) m (a + 1) (some (.int (p[a] : Nat), false)) (some (.int (a : Nat), false)) (by omega)
    refine ⟨v2', v3', ?_⟩
    rw [List.drop_eq_getElem_cons ha]
    show forL pg cl _ ranksL (.tup [.int (a : Nat), .int (p[a] : Nat)] :: enumP (a + 1) (nv (p.drop (a + 1)))) _ ph = _
    rw [forL_cons, ← e]
    have ix : L2.ixN (iv (rkF p a)).length ((p[a] : Nat) : Int) = some p[a] := ixN_nat (by simp [rkF]; exact isP_at hp ha)
    have st := rkF_step hp ha
    simp only [ranksL, bind_tt, List.length_cons, List.length_nil, if_true, setAll, cBt_some, List.set_cons_succ, List.set_cons_zero, b_cons, s_setL, e_var, getV_0, getV_s, cVar_ok]
    rw [cSetL1_ok (xs := iv (rkF p a)) rfl]
    simp only [e_var, getV_0, getV_s, cVar_ok]
    rw [cSetL2_ok ix, iv_set, st]
    simp only [List.set_cons_succ, List.set_cons_zero, cB_nx, b_nil, cFl_nx]
theorem ranks_ok {pg : PProg} {i : Nat} (F : Fn pg i ranksB 4 1) {n : Nat} {ph : PH} {p : List Nat} (hp : IsP p) (h2 : p.length ≤ 60) : callN pg (n + 1) i [.tup (nv p)] ph = .ok (.lst (iv (rk p)), true) ph := by
  rw [F.call rfl]
  have st : startE 4 [.tup (nv p)] = [some (.tup (nv p), false), none, none, none] := rfl
  rw [st]
  obtain ⟨v2, v3, e⟩ := ranksLoop (pg := pg) (cl := callN pg n) (ph := ph) hp p.length 0 none none (by omega)
  have ee : rkF p p.length = rk p := by
    unfold rkF rk
    apply List.map_congr_left
    intro i hi
    rw [if_pos (idx_lt hp (List.mem_range.mp hi))]
  rw [ee] at e
  have e : forL pg (callN pg n) (.tup [3, 2]) ranksL (enumP 0 (nv p)) [some (.tup (nv p), false), some (.lst (iv (rkF p 0)), true), none, none] ph = _ := e
  have l1 : lcL pg (callN pg n) [2] (.nm 2) .nil ranksE (nv p) [some (.tup (nv p), false), none, none, none] ph = .ok (iv (rkF p 0)) ph := by
    have : iv (rkF p 0) = p.map fun _ => PV.int 0 := by
      unfold iv rkF
      apply List.ext_getElem
      · simp
      · intro i h1 h2; simp
    rw [this]
    refine lcL_map (e := fun i : Nat => PV.int ((i : Nat) : Int)) (g := fun _ => PV.int 0) fun j hj => ?_
    rw [lcT_eq]
    simp only [ranksE, t_nil, cLt0_some, bind_nm, wipe_cons, wipe_nil, List.set_cons_succ, List.set_cons_zero, cLt1_ok, if_true, e_int, cLt2_ok]
  have hz : (rkF p 0).length < sizeLine := line_lt (by simp [rkF]; omega)
  simp only [ranksB]
  simp [l1, hz, e]
/-! ### next_rank -/
def nextB : IB := (.cons (.ife (.cmp .Lt (.bin .Add (.var 1) (.int 1)) (.blt .len (.cons (.var 0) .nil))) (.cons (.ret (.idx (.var 0) (.bin .Add (.var 1) (.int 1)))) .nil) .nil) (.cons (.ret (.idx (.dct (.cons (.str ("first" : Str)) (.cons (.neg (.int 1)) (.cons (.str ("last" : Str)) (.cons (.blt .len (.cons (.var 0) .nil)) (.cons (.str ("ring" : Str)) (.cons (.idx (.var 0) (.int 0)) .nil))))))) (.var 2))) .nil))
theorem rk_at {p : List Nat} {i : Nat} (h : i < p.length) : (rk p).getD i 0 = ((p.idxOf i : Nat) : Int) := by
  rw [List.getD_eq_getElem?_getD, List.getElem?_eq_getElem (by simpa using h)]
  simp [rk]
theorem next_ok {pg : PProg} {i : Nat} (F : Fn pg i nextB 3 3) {n : Nat} {ph : PH} {k : Kd} {p : List Nat} (hp : IsP p) (h1 : 1 ≤ p.length) (j : Nat) : callN pg (n + 1) i [.lst (iv (rk p)), .int (j : Nat), .str (kS k)] ph = .ok (.int (if j + 1 < p.length then ((p.idxOf (j + 1) : Nat) : Int) else byd k p), false) ph := by
  rw [F.call rfl]
  have st : startE 3 [.lst (iv (rk p)), .int (j : Nat), .str (kS k)] = [some (.lst (iv (rk p)), false), some (.int (j : Nat), false), some (.str (kS k), false)] := rfl
  rw [st]
  have a1 : pbin .Add (.int (j : Int)) (.int 1) = some (.int ((j + 1 : Nat) : Int), false) := rfl
  by_cases c : j + 1 < p.length
  · have p1 : pat (iv (rk p)) ((j + 1 : Nat) : Int) = some (.int ((rk p).getD (j + 1) 0)) := pat_map (f := PV.int) (l := rk p) (j := j + 1) (d := 0) (by simpa using c)
    rw [rk_at c] at p1
    have lt : ((j + 1 : Nat) : Int) < (p.length : Int) := by omega
    rw [if_pos c]
    simp only [nextB, b_cons, s_ife, e_cmp, e_bin, e_var, e_int, e_blt, l_cons, l_nil, getV_0, getV_s, cVar_ok, cBin1_ok, cBin2_ok, a1, rO_some, cCmp1_ok, cL1_ok, cL2_ok, cBlt_ok, pbi_len_l, iv_len, rk_len, cCmp2_ok, cmp_lt, decide_eq_true lt, rB_some, cIf_ok, if_true, s_ret, e_idx, cIdx1_ok, cIdx2_ok, pixB_l, p1, rV_some, cRet_ok, cB_rt, cEnd_rt]
  · have lt : ¬ ((j + 1 : Nat) : Int) < (p.length : Int) := by omega
    have p0 : pat (iv (rk p)) 0 = some (.int ((rk p).getD 0 0)) := pat_map (f := PV.int) (l := rk p) (j := 0) (d := 0) (by rw [rk_len]; omega)
    rw [rk_at (by omega)] at p0
    obtain ⟨ks, vs, d1, d2⟩ := dsp (a := -1) (b := (p.length : Int)) (c := ((p.idxOf 0 : Nat) : Int)) k (ph := ph)
    have d3 : pick k (-1) (p.length : Int) ((p.idxOf 0 : Nat) : Int) = byd k p := by cases k <;> rfl
    rw [d3] at d2
    rw [if_neg c]
    have lt : ¬ (j : Int) + 1 < (p.length : Int) := by omega
    simp only [nextB]
    simp [a1, lt, p0, d1, d2]
/-! ### rises_of -/
def risesE (x : Nat) : IE := (.call x (.cons (.var 2) (.cons (.var 4) (.cons (.var 1) .nil))))
def risesC : IL := (.cons (.cmp .Gt (.idx (.var 3) (.var 5)) (.idx (.var 3) (.bin .Add (.var 5) (.int 1)))) .nil)
def risesB (r x : Nat) : IB := (.cons (.asg 2 (.call r (.cons (.var 0) .nil))) (.frz 2 (.cons (.asg 3 (.lc [4] (.nm 4) (.seq (.var 0)) .nil (risesE x))) (.frz 3 (.cons (.ret (.lc [5] (.nm 5) (.rng1 (.bin .Sub (.blt .len (.cons (.var 0) .nil)) (.int 1))) risesC (.var 5))) .nil)))))
theorem rises_ok {pg : PProg} {i r x : Nat} (F : Fn pg i (risesB r x) 6 2) (Fr : Fn pg r ranksB 4 1) (Fx : Fn pg x nextB 3 3) {n : Nat} {ph : PH} {k : Kd} {p : List Nat} (hp : IsP p) (h1 : 1 ≤ p.length) (h2 : p.length ≤ 60) : callN pg (n + 2) i [.tup (nv p), .str (kS k)] ph = .ok (.lst (nv (rises k p)), true) ph := by
  rw [F.call rfl]
  have st : startE 6 [.tup (nv p), .str (kS k)] = [some (.tup (nv p), false), some (.str (kS k), false), none, none, none, none] := rfl
  rw [st]
  have e1 := ranks_ok Fr (n := n) (ph := ph) hp h2
  have fl : (fol k p).length = p.length := fol_len k p
  have sr : smallR ((p.length : Int) - 1) = true := smallR_int (by omega) (by omega)
  have tn : ((p.length : Int) - 1).toNat = p.length - 1 := by omega
  have l0 : ∀ v0, lcL pg (callN pg (n + 1)) [4] (.nm 4) .nil (risesE x) (nv p) [v0, some (.str (kS k), false), some (.lst (iv (rk p)), false), none, none, none] ph = .ok (iv (fol k p)) ph := by
    intro v0
    have : iv (fol k p) = p.map fun i => PV.int (if i + 1 < p.length then ((p.idxOf (i + 1) : Nat) : Int) else byd k p) := by simp [iv, fol]
    rw [this]
    refine lcL_map (e := fun i : Nat => PV.int ((i : Nat) : Int)) fun j hj => ?_
    have en := next_ok Fx (n := n) (ph := ph) (k := k) hp h1 j
    rw [lcT_eq]
    simp only [risesE, t_nil, cLt0_some, bind_nm, wipe_cons, wipe_nil, List.set_cons_succ, List.set_cons_zero, cLt1_ok, if_true, e_call, l_cons, l_nil, e_var, getV_0, getV_s, cVar_ok, cL1_ok, cL2_ok, cCall_ok, en, cLt2_ok]
  have l1 : ∀ v0 v1 v2, lcL pg (callN pg (n + 1)) [5] (.nm 5) risesC (.var 5) (nv (List.range (p.length - 1))) [v0, v1, v2, some (.lst (iv (fol k p)), false), none, none] ph = .ok (nv (rises k p)) ph := by
    intro v0 v1 v2
    refine lcL_filter (e := fun i : Nat => PV.int ((i : Nat) : Int)) (g := fun i => PV.int ((i : Nat) : Int)) (p := rise k p) fun j hj => ?_
    have hj := List.mem_range.mp hj
    have p1 : pat (iv (fol k p)) (j : Int) = some (.int ((fol k p).getD j 0)) := pat_map (f := PV.int) (l := fol k p) (j := j) (d := 0) (by omega)
    have p2 : pat (iv (fol k p)) ((j : Int) + 1) = some (.int ((fol k p).getD (j + 1) 0)) := pat_map1 (f := PV.int) (l := fol k p) (j := j) (d := 0) (by omega)
    rw [lcT_eq]
    simp only [risesC, t_one, cLt0_some, bind_nm, wipe_cons, wipe_nil, List.set_cons_succ, List.set_cons_zero, e_cmp, e_idx, e_var, e_int, e_bin, getV_0, getV_s, cVar_ok, cIdx1_ok, cIdx2_ok, cBin1_ok, cBin2_ok, cCmp1_ok, cCmp2_ok, pbin, rO_some, pixB_l, p1, p2, rV_some, cmp_gt, rB_some, cT_ok, cLt1_ok, cLt2_ok, rise]
    exact some_if
  have hz0 : p.length < sizeLine := line_lt (by omega)
  have mi : pbin .Sub (.int (p.length : Int)) (.int 1) = some (.int ((p.length : Int) - 1), false) := rfl
  have hz : (rises k p).length < sizeLine := line_lt (by
    have : (rises k p).length ≤ (List.range (p.length - 1)).length := List.length_filter_le _ _
    rw [List.length_range] at this
    omega)
  simp only [risesB]
  simp [e1, mi, sr, tn, rngP_nv, l0, l1, hz, hz0, fl]
/-! ### put_along, rises_before -/
def putE : IE := (.idx (.var 1) (.var 2))
def putB : IB := (.cons (.ret (.blt .tuple (.cons (.lc [2] (.nm 2) (.seq (.att (.var 0) ("standing" : Str))) .nil putE) .nil))) .nil)
def beforeL : IB := (.cons (.app 1 (.bin .Add (.idx (.bvar 1) (.neg (.int 1))) (.ite (.cmp .In (.bin .Sub (.var 2) (.int 1)) (.att (.var 0) ("steep" : Str))) (.int 1) (.int 0)))) .nil)
def beforeB : IB := (.cons (.asg 1 (.lst (.cons (.int 0) .nil))) (.cons (.forS (.nm 2) (.rng2 (.int 1) (.blt .len (.cons (.att (.var 0) ("row" : Str)) .nil))) beforeL) (.cons (.retv 1) .nil)))
/-- the class Order stands at place 0 of the program's classes -/
def HasO (pg : PProg) : Prop := ∃ i, pg.cls[0]? = some ⟨("Order" : Str), i, [("row" : Str), ("style" : Str), ("standing" : Str), ("steep" : Str)], []⟩
/-- an order made -/
def OrdF (k : Kd) (p : List Nat) : List (Str × PV) := [(("row" : Str), .tup (nv p)), (("style" : Str), .str (kS k)), (("standing" : Str), .lst (iv (rk p))), (("steep" : Str), .lst (nv (rises k p)))]
def Ord (ph : PH) (j : Nat) (k : Kd) (p : List Nat) : Prop := ph[j]? = some (.ins ("Order" : Str) (OrdF k p))
end Chk

set_option Elab.async false
set_option linter.all false
set_option maxRecDepth 100000
set_option maxHeartbeats 4000000
/-! ChkT: the program's checks never raise here; an Order is made. -/
namespace Chk
open PySem Py Mth
theorem gv_of {pg : PProg} {i : Nat} {v : PV} {ph : PH} (h : ∃ nm, pg.gvs[i]? = some (nm, v)) : cGv (pg.gvs[i]?) ph = .ok (v, false) ph := by
  obtain ⟨nm, e⟩ := h
  rw [e]; rfl
def kindsV : PV := .tup [.str "first", .str "last", .str "ring"]
/-! check_kind -/
def ckindB (g : Nat) : IB := (.cons (.ife (.or (.not (.isi (.var 0) .str)) (.cmp .NotIn (.var 0) (.gv g))) (.cons .bad .nil) .nil) .nil)
theorem ckind_ok {pg : PProg} {i g : Nat} (F : Fn pg i (ckindB g) 1 1) (G : ∃ nm, pg.gvs[g]? = some (nm, kindsV)) {n : Nat} {ph : PH} (k : Kd) : callN pg (n + 1) i [.str (kS k)] ph = .ok (.non, false) ph := by
  rw [F.call rfl]
  have st : startE 1 [.str (kS k)] = [some (.str (kS k), false)] := rfl
  rw [st]
  have i1 : pisi (.str (kS k)) .str = some true := rfl
  have i2 : pcmp .NotIn (.str (kS k)) kindsV = some false := by cases k <;> kernel_rfl
  simp only [ckindB]
  simp [i1, i2, gv_of G]
/-! check_letters -/
def cletB (g : Nat) : IB := (.cons (.ife (.not (.call 1 (.cons (.var 0) (.cons (.int 1) (.cons (.gv g) .nil))))) (.cons .bad .nil) .nil) .nil)
theorem clet_ok {pg : PProg} (h : P pg) {i g : Nat} (F : Fn pg i (cletB g) 1 1) (G : ∃ nm, pg.gvs[g]? = some (nm, .int 1000000000000000000)) {n : Nat} {ph : PH} {b : Int} (h1 : 1 ≤ b) (h2 : b ≤ 1000000000000000000) : callN pg (n + 3) i [.int b] ph = .ok (.non, false) ph := by
  rw [F.call rfl]
  have st : startE 1 [.int b] = [some (.int b, false)] := rfl
  rw [st]
  have e1 := r1 h (n := n) (ph := ph) (v := .int b) (lo := 1) (hi := 1000000000000000000) rfl
  have e2 : btw 1 1000000000000000000 (.int b) = true := by simp [btw, h1, h2]
  rw [e2] at e1
  simp only [cletB]
  simp [e1, gv_of G]
/-! check_places -/
def cplL (g : Nat) : IB := (.cons (.ife (.or (.cmp .Eq (.var 1) (.gv g)) (.or (.not (.call 1 (.cons (.var 2) (.cons (.int 0) (.cons (.bin .Sub (.blt .len (.cons (.var 0) .nil)) (.int 1)) .nil))))) (.cmp .In (.var 2) (.slc (.var 0) .nil (.cons (.var 1) .nil))))) (.cons .bad .nil) .nil) .nil)
def cplB (g : Nat) : IB := (.cons (.ife (.or (.not (.isi (.var 0) .tuple)) (.cmp .Eq (.var 0) (.tup .nil))) (.cons .bad .nil) .nil) (.cons (.forS (.tup [1, 2]) (.enum (.var 0)) (cplL g)) .nil))
theorem iv_ni (l : List Nat) : nv l = iv (ni l) := nv_iv ..
theorem cplLoop {pg : PProg} (h : P pg) {g : Nat} (G : ∃ nm, pg.gvs[g]? = some (nm, .int 60)) {n : Nat} {p : List Nat} (hp : IsP p) (h2 : p.length ≤ 60) {ph : PH} : ∀ (m a : Nat) (v1 v2 : Option (PV × Bool)), a + m = p.length →
    ∃ v1' v2', forL pg (callN pg (n + 2)) (.tup [1, 2]) (cplL g) (enumP a (nv (p.drop a))) [some (.tup (nv p), false), v1, v2] ph = .ok (.nx [some (.tup (nv p), false), v1', v2']) ph
  | 0, a, v1, v2, h' => by
    have : a = p.length := by omega
    subst this
    exact ⟨v1, v2, by rw [List.drop_length]; rfl⟩
  | m + 1, a, v1, v2, h' => by
    have ha : a < p.length := by omega
    obtain ⟨v1', v2', e⟩ := cplLoop h G hp h2 (ph := ph) (n := n) m (a + 1) (some (.int (a : Nat), false)) (some (.int (p[a] : Nat), false)) (by omega)
    refine ⟨v1', v2', ?_⟩
    rw [List.drop_eq_getElem_cons ha]
    show forL pg _ _ (cplL g) (.tup [.int (a : Nat), .int (p[a] : Nat)] :: enumP (a + 1) (nv (p.drop (a + 1)))) _ ph = _
    rw [forL_cons, ← e]
    have ne : ¬ ((a : Nat) : Int) = 60 := by omega
    have hpa := isP_at hp ha
    have e1 := r1 h (n := n) (ph := ph) (v := .int (p[a] : Nat)) (lo := 0) (hi := (p.length : Int) - 1) rfl
    have e2 : btw 0 ((p.length : Int) - 1) (.int (p[a] : Nat)) = true := by
      simp [btw]
      omega
    rw [e2] at e1
    have mi : pbin .Sub (.int (p.length : Int)) (.int 1) = some (.int ((p.length : Int) - 1), false) := rfl
    have s1 : psl (.tup (nv p)) none (some ((a : Nat) : Int)) = some (.tup (iv (ni (p.take a))), false) := by
      show some (PV.tup (pcut _ _ _), false) = _
      rw [pcut_to, ← iv_ni]
      simp [nv]
    have nm : ¬ ((p[a] : Nat) : Int) ∈ ni (p.take a) := by
      unfold ni
      rw [List.mem_map]
      rintro ⟨b, hb, q⟩
      have : b = p[a] := by omega
      subst this
      obtain ⟨c, hc, q⟩ := List.getElem_of_mem hb
      rw [List.getElem_take] at q
      have hc' : c < a := by simp at hc; omega
      have a1 := idx_at hp (show c < p.length by omega)
      have a2 := idx_at hp ha
      rw [q, a2] at a1
      omega
    simp only [cplL, bind_tt, List.length_cons, List.length_nil, if_true, setAll, cBt_some, List.set_cons_succ, List.set_cons_zero]
    simp [gv_of G, ne, mi, e1, s1, in_tupI, nm]
theorem cpl_ok {pg : PProg} (h : P pg) {i g : Nat} (F : Fn pg i (cplB g) 3 1) (G : ∃ nm, pg.gvs[g]? = some (nm, .int 60)) {n : Nat} {ph : PH} {p : List Nat} (hp : IsP p) (h1 : 1 ≤ p.length) (h2 : p.length ≤ 60) : callN pg (n + 3) i [.tup (nv p)] ph = .ok (.non, false) ph := by
  rw [F.call rfl]
  have st : startE 3 [.tup (nv p)] = [some (.tup (nv p), false), none, none] := rfl
  rw [st]
  obtain ⟨v1, v2, e⟩ := cplLoop h G (n := n) (ph := ph) hp h2 p.length 0 none none (by omega)
  have e : forL pg (callN pg (n + 2)) (.tup [1, 2]) (cplL g) (enumP 0 (nv p)) [some (.tup (nv p), false), none, none] ph = _ := e
  have i1 : pisi (.tup (nv p)) .tuple = some true := rfl
  have i2 : pcmp .Eq (.tup (nv p)) (.tup []) = some false := by
    rw [iv_ni]
    have := eq_tupI (l := ni p) (m := [])
    have ne : ¬ ni p = [] := fun z => by
      have := congrArg List.length z
      simp [ni] at this
      subst this
      simp at h1
    rw [decide_eq_false ne] at this
    exact this
  simp only [cplB]
  simp [i1, i2, e]
/-! the class's __init__ -/
def initT : List (Nat × Str) := [(0, ("row" : Str)), (0, ("style" : Str))]
def initU : List (Nat × Str) := [(0, ("standing" : Str)), (0, ("steep" : Str))]
def initB (cp ck r s : Nat) : IB := (.cons (.expr (.call cp (.cons (.var 1) .nil))) (.cons (.expr (.call ck (.cons (.var 2) .nil))) (.cons (.asgA initT (.tup (.cons (.var 1) (.cons (.var 2) .nil)))) (.cons (.asgA initU (.tup (.cons (.call r (.cons (.var 1) .nil)) (.cons (.call s (.cons (.var 1) (.cons (.var 2) .nil))) .nil)))) .nil))))
theorem ok_att {pg : PProg} (H : HasO pg) {x : Str} (hx : x = "row" ∨ x = "style" ∨ x = "standing" ∨ x = "steep") : attrOk pg "Order" x = true := by
  obtain ⟨i, e⟩ := H
  unfold attrOk
  refine List.any_eq_true.mpr ⟨_, List.mem_of_getElem? e, ?_⟩
  rcases hx with rfl | rfl | rfl | rfl <;> rfl
theorem init_ok {pg : PProg} (h : P pg) (H : HasO pg) {i cp ck r s x g0 g1 : Nat} (F : Fn pg i (initB cp ck r s) 3 3) (Fcp : Fn pg cp (cplB g0) 3 1) (G0 : ∃ nm, pg.gvs[g0]? = some (nm, .int 60)) (Fck : Fn pg ck (ckindB g1) 1 1) (G1 : ∃ nm, pg.gvs[g1]? = some (nm, kindsV))
    (Fr : Fn pg r ranksB 4 1) (Fs : Fn pg s (risesB r x) 6 2) (Fx : Fn pg x nextB 3 3) {n : Nat} {ph : PH} {k : Kd} {p : List Nat} (hp : IsP p) (h1 : 1 ≤ p.length) (h2 : p.length ≤ 60) :
    callN pg (n + 4) i [.box ph.length, .tup (nv p), .str (kS k)] (ph ++ [.ins "Order" []]) = .ok (.non, false) (ph ++ [.ins "Order" (OrdF k p)]) := by
  rw [F.call rfl]
  have st : startE 3 [.box ph.length, .tup (nv p), .str (kS k)] = [some (.box ph.length, false), some (.tup (nv p), false), some (.str (kS k), false)] := rfl
  rw [st]
  have e1 := cpl_ok h Fcp G0 (n := n) (ph := ph ++ [.ins "Order" []]) hp h1 h2
  have e2 := ckind_ok Fck G1 (n := n + 2) (ph := ph ++ [.ins "Order" []]) k
  have s1 : ∀ (x : Str) (u : PV) (fs : List (Str × PV)), (x = "row" ∨ x = "style" ∨ x = "standing" ∨ x = "steep") → fs.length < 1000 → setAt pg (ph ++ [.ins "Order" fs]) (.box ph.length) x u = some (ph ++ [.ins "Order" (putP x u fs)]) := by
    intro x u fs hx hf
    have hg : (ph ++ [PO.ins "Order" fs])[ph.length]? = some (.ins "Order" fs) := by
      rw [List.getElem?_append_right (Nat.le_refl _), Nat.sub_self]
      rfl
    unfold setAt
    simp only [hg]
    show (if attrOk pg "Order" x && decide (fs.length < 1000) then some ((ph ++ [PO.ins "Order" fs]).set ph.length (.ins "Order" (putP x u fs))) else none) = _
    rw [ok_att H hx, decide_eq_true hf, Bool.true_and, if_pos rfl, List.set_append_right _ _ (Nat.le_refl _), Nat.sub_self]
    rfl
  let f2 : List (Str × PV) := [(("row" : Str), .tup (nv p)), (("style" : Str), .str (kS k))]
  have a1 : setAts pg [some (.box ph.length, false), some (.tup (nv p), false), some (.str (kS k), false)] initT [.tup (nv p), .str (kS k)] (ph ++ [.ins "Order" []]) = some (ph ++ [.ins "Order" f2]) := by
    unfold initT
    rw [setAts, getV_0]
    simp only []
    rw [s1 _ _ _ (.inl rfl) (by simp)]
    simp only []
    rw [setAts, getV_0]
    simp only []
    rw [s1 _ _ _ (.inr (.inl rfl)) (by simp [putP])]
    rfl
  have e3 := ranks_ok Fr (n := n + 2) (ph := ph ++ [.ins "Order" f2]) hp h2
  have e4 := rises_ok Fs Fr Fx (n := n + 1) (ph := ph ++ [.ins "Order" f2]) (k := k) hp h1 h2
  have a2 : setAts pg [some (.box ph.length, false), some (.tup (nv p), false), some (.str (kS k), false)] initU [.lst (iv (rk p)), .lst (nv (rises k p))] (ph ++ [.ins "Order" f2]) = some (ph ++ [.ins "Order" (OrdF k p)]) := by
    unfold initU
    rw [setAts, getV_0]
    simp only []
    rw [s1 _ _ _ (.inr (.inr (.inl rfl))) (by simp [f2])]
    simp only []
    rw [setAts, getV_0]
    simp only []
    rw [s1 _ _ _ (.inr (.inr (.inr rfl))) (by rw [show (putP ("standing" : Str) (.lst (iv (rk p))) f2).length = 3 from by kernel_rfl]; decide)]
    rfl
  have z1 : [PV.tup (nv p), PV.str (kS k)].length ≤ sizeLine := line_ok (by simp)
  have z2 : [PV.lst (iv (rk p)), PV.lst (nv (rises k p))].length ≤ sizeLine := line_ok (by simp)
  simp only [initB, b_cons, b_nil, s_expr, s_asgA, e_call, e_tup, l_cons, l_nil, e_var, getV_0, getV_s, cVar_ok, cL1_ok, cL2_ok, cCall_ok, cTup_ok, e1, e2, e3, e4, cExp_ok, cB_nx, if_pos z1]
  rw [cAsgA_ok a1]
  simp only [cB_nx, b_cons, b_nil, s_asgA, e_call, e_tup, l_cons, l_nil, e_var, getV_0, getV_s, cVar_ok, cL1_ok, cL2_ok, cCall_ok, cTup_ok, e3, e4, if_pos z2]
  rw [cAsgA_ok a2]
  rfl
theorem order_made {pg : PProg} (h : P pg) {q i cp ck r s x g0 g1 : Nat} (hq : pg.fns[q]? = none) (hc : pg.cls[q - pg.fns.length]? = some ⟨("Order" : Str), i, [("row" : Str), ("style" : Str), ("standing" : Str), ("steep" : Str)], []⟩) (H : HasO pg)
    (F : Fn pg i (initB cp ck r s) 3 3) (Fcp : Fn pg cp (cplB g0) 3 1) (G0 : ∃ nm, pg.gvs[g0]? = some (nm, .int 60)) (Fck : Fn pg ck (ckindB g1) 1 1) (G1 : ∃ nm, pg.gvs[g1]? = some (nm, kindsV))
    (Fr : Fn pg r ranksB 4 1) (Fs : Fn pg s (risesB r x) 6 2) (Fx : Fn pg x nextB 3 3) {n : Nat} {ph : PH} {k : Kd} {p : List Nat} (hp : IsP p) (h1 : 1 ≤ p.length) (h2 : p.length ≤ 60) :
    callN pg (n + 5) q [.tup (nv p), .str (kS k)] ph = .ok (.box ph.length, false) (ph ++ [.ins "Order" (OrdF k p)]) := by
  rw [call_mk hq hc]
  show mkE ph.length (callN pg (n + 4) i [.box ph.length, .tup (nv p), .str (kS k)] (ph ++ [.ins "Order" []])) = _
  rw [init_ok h H F Fcp G0 Fck G1 Fr Fs Fx hp h1 h2]
  rfl
end Chk

set_option Elab.async false
set_option linter.all false
set_option maxRecDepth 100000
set_option maxHeartbeats 4000000
/-! ChkU: the program's least text and its certificate of an order. -/
namespace Chk
open PySem Py Mth
theorem pat_end {xs : List PV} {x : PV} {j : Nat} (hj : j + 1 = xs.length) (h : xs[j]? = some x) : pat xs (-1) = some x := by
  unfold pat L2.atI L2.ixN
  rw [if_neg (by omega), if_pos (by omega)]
  show xs[(-1 + (xs.length : Int)).toNat]? = _
  rw [show (-1 + (xs.length : Int)).toNat = j by omega, h]
section
variable {pg : PProg} (H : HasO pg) {ph : PH} {j : Nat} {k : Kd} {p : List Nat} (O : Ord ph j k p) {c : Bool}
include H O
theorem att_row : cAtt pg "row" (.ok (.box j, c) ph) = .ok (.tup (nv p), false) ph := cAtt_ok O (ok_att H (.inl rfl)) (by kernel_rfl)
theorem att_style : cAtt pg "style" (.ok (.box j, c) ph) = .ok (.str (kS k), false) ph := cAtt_ok O (ok_att H (.inr (.inl rfl))) (by kernel_rfl)
theorem att_standing : cAtt pg "standing" (.ok (.box j, c) ph) = .ok (.lst (iv (rk p)), false) ph := cAtt_ok O (ok_att H (.inr (.inr (.inl rfl)))) (by kernel_rfl)
theorem att_steep : cAtt pg "steep" (.ok (.box j, c) ph) = .ok (.lst (nv (rises k p)), false) ph := cAtt_ok O (ok_att H (.inr (.inr (.inr rfl)))) (by kernel_rfl)
/-! check_order -/
def cordB : IB := (.cons (.ife (.not (.isC (.var 0) 0)) (.cons .bad .nil) .nil) .nil)
omit O in
theorem cord_ok {i : Nat} (F : Fn pg i cordB 1 1) {ph : PH} (O : Ord ph j k p) {n : Nat} : callN pg (n + 1) i [.box j] ph = .ok (.non, false) ph := by
  rw [F.call rfl]
  have st : startE 1 [.box j] = [some (.box j, false)] := rfl
  rw [st]
  obtain ⟨q, e⟩ := H
  have i1 : ∀ c, cIsC pg 0 (.ok (.box j, c) ph) = .ok (.bl true, false) ph := fun c => cIsC_ok (c := c) e O
  simp only [cordB]
  simp [i1]
/-! put_along -/
theorem put_ok {i : Nat} (F : Fn pg i putB 3 2) {n : Nat} {l : List Int} (hp : IsP p) (hl : p.length ≤ l.length) (h2 : p.length ≤ 60) : callN pg (n + 1) i [.box j, .lst (iv l)] ph = .ok (.tup (iv ((List.range p.length).map fun i => l.getD (p.idxOf i) 0)), false) ph := by
  rw [F.call rfl]
  have st : startE 3 [.box j, .lst (iv l)] = [some (.box j, false), some (.lst (iv l), false), none] := rfl
  rw [st]
  have a1 := att_standing H O (c := false)
  have l1 : lcL pg (callN pg n) [2] (.nm 2) .nil putE (iv (rk p)) [some (.box j, false), some (.lst (iv l), false), none] ph = .ok (iv ((List.range p.length).map fun i => l.getD (p.idxOf i) 0)) ph := by
    have e1 : iv (rk p) = (List.range p.length).map fun i => PV.int ((p.idxOf i : Nat) : Int) := by simp [iv, rk]
    have e2 : iv ((List.range p.length).map fun i => l.getD (p.idxOf i) 0) = (List.range p.length).map fun i => PV.int (l.getD (p.idxOf i) 0) := by simp [iv]
    rw [e1, e2]
    refine lcL_map (e := fun i : Nat => PV.int ((p.idxOf i : Nat) : Int)) fun i hi => ?_
    have hi := List.mem_range.mp hi
    have p1 : pat (iv l) ((p.idxOf i : Nat) : Int) = some (.int (l.getD (p.idxOf i) 0)) := pat_map (f := PV.int) (l := l) (j := p.idxOf i) (d := 0) (Nat.lt_of_lt_of_le (idx_lt hp hi) hl)
    rw [lcT_eq]
    simp only [putE, t_nil, cLt0_some, bind_nm, wipe_cons, wipe_nil, List.set_cons_succ, List.set_cons_zero, cLt1_ok, if_true, e_idx, e_var, getV_0, getV_s, cVar_ok, cIdx1_ok, cIdx2_ok, pixB_l, p1, rV_some, cLt2_ok]
  have hz : ((List.range p.length).map fun i => l.getD (p.idxOf i) 0).length < sizeLine := line_lt (by simp; omega)
  have pt : ∀ l, pbi .tuple [.lst (iv l)] = some (.tup (iv l), false) := fun l => rfl
  simp only [putB, b_cons, s_ret, e_blt, l_cons, l_nil, e_lc, i_seq, e_att, e_var, getV_0, getV_s, cVar_ok, a1, cSq_l, cLc1_ok, l1, cLc2_ok, iv_len, if_pos hz, cL1_ok, cL2_ok, cBlt_ok, pt, rO_some, cRet_ok, cB_rt, cEnd_rt]
/-! rises_before -/
omit H O in
theorem beforeLoop {cl : Calls} (H : HasO pg) {ph : PH} (O : Ord ph j k p) (h2 : p.length ≤ 60) : ∀ (m a : Nat) (v2 : Option (PV × Bool)), 1 ≤ a → a + m = p.length →
    ∃ v2', forL pg cl (.nm 2) beforeL (rngP (a : Nat) m) [some (.box j, false), some (.lst (iv ((List.range a).map fun i => ((cnt k p i : Nat) : Int))), true), v2] ph =
      .ok (.nx [some (.box j, false), some (.lst (iv ((List.range p.length).map fun i => ((cnt k p i : Nat) : Int))), true), v2']) ph
  | 0, a, v2, _, h => by
    have : a = p.length := by omega
    subst this
    exact ⟨v2, rfl⟩
  | m + 1, a, v2, h1, h => by
    obtain ⟨v2', e⟩ := beforeLoop H O h2 (cl := cl) m (a + 1) (some (.int (a : Nat), false)) (by omega) (by omega)
    refine ⟨v2', ?_⟩
    rw [show rngP (a : Nat) (m + 1) = .int (a : Nat) :: rngP ((a : Nat) + 1) m from rfl, forL_cons]
    rw [show (((a + 1 : Nat) : Nat) : Int) = (a : Int) + 1 from rfl] at e
    rw [← e]
    have a1 := att_steep H O (c := false)
    have mi : pbin .Sub (.int (a : Int)) (.int 1) = some (.int ((a - 1 : Nat) : Int), false) := by
      show some (PV.int ((a : Int) - 1), false) = _
      rw [show (a : Int) - 1 = ((a - 1 : Nat) : Int) by omega]
    have za : a < sizeLine := line_lt (by omega)
    have la : pat (iv ((List.range a).map fun i => ((cnt k p i : Nat) : Int))) (-1) = some (.int (cnt k p (a - 1) : Nat)) := by
      refine pat_end (j := a - 1) (by simp; omega) ?_
      unfold iv
      rw [List.map_map, List.getElem?_map, List.getElem?_range (by omega)]
      rfl
    have cs : cnt k p a = cnt k p (a - 1) + if (a - 1) ∈ rises k p then 1 else 0 := by
      have := cnt_succ k p (a - 1)
      rwa [show a - 1 + 1 = a by omega] at this
    have mm : ((a - 1 : Nat) : Int) ∈ ni (rises k p) ↔ (a - 1) ∈ rises k p := by
      unfold ni
      rw [List.mem_map]
      constructor
      · rintro ⟨b, hb, e⟩
        have : b = a - 1 := by omega
        rw [← this]; exact hb
      · intro h; exact ⟨a - 1, h, rfl⟩
    have sp : iv ((List.range (a + 1)).map fun i => ((cnt k p i : Nat) : Int)) = iv ((List.range a).map fun i => ((cnt k p i : Nat) : Int)) ++ [.int (cnt k p a : Nat)] := by
      rw [List.range_succ, List.map_append]
      simp [iv]
    have lz : (iv ((List.range a).map fun i => ((cnt k p i : Nat) : Int))).length < sizeLine := by
      simp
      exact za
    rw [sp]
    by_cases c : (a - 1) ∈ rises k p
    · have ad : pbin .Add (.int (cnt k p (a - 1) : Nat)) (.int 1) = some (.int (cnt k p a : Nat), false) := by
        rw [cs, if_pos c]; rfl
      simp only [beforeL, bind_nm, cBt_some, List.set_cons_succ, List.set_cons_zero, b_cons, s_app, getO_0, getO_s, cApp1_ok, e_bin, e_idx, e_bvar, e_neg, e_int, cNeg_ok, cBvar_ok, getV_0, getV_s, cIdx1_ok, cIdx2_ok, pixB_l, la, rV_some, cBin1_ok, e_ite, e_cmp, e_var, cVar_ok, mi, rO_some, cBin2_ok, cCmp1_ok, e_att, a1, cCmp2_ok, in_lstN, decide_eq_true (mm.mpr c), rB_some, cIte_ok, if_true, ad, cApp2_ok, if_pos lz, cB_nx, b_nil, cFl_nx]
    · have ad : pbin .Add (.int (cnt k p (a - 1) : Nat)) (.int 0) = some (.int (cnt k p a : Nat), false) := by
        rw [cs, if_neg c]; rfl
      simp only [beforeL, bind_nm, cBt_some, List.set_cons_succ, List.set_cons_zero, b_cons, s_app, getO_0, getO_s, cApp1_ok, e_bin, e_idx, e_bvar, e_neg, e_int, cNeg_ok, cBvar_ok, getV_0, getV_s, cIdx1_ok, cIdx2_ok, pixB_l, la, rV_some, cBin1_ok, e_ite, e_cmp, e_var, cVar_ok, mi, rO_some, cBin2_ok, cCmp1_ok, e_att, a1, cCmp2_ok, in_lstN, decide_eq_false (fun z => c (mm.mp z)), rB_some, cIte_ok, Bool.false_eq_true, if_false, ad, cApp2_ok, if_pos lz, cB_nx, b_nil, cFl_nx]
omit O in
theorem before_ok {i : Nat} (F : Fn pg i beforeB 3 1) {ph : PH} (O : Ord ph j k p) (h1 : 1 ≤ p.length) (h2 : p.length ≤ 60) {n : Nat} : callN pg (n + 1) i [.box j] ph = .ok (.lst (iv ((List.range p.length).map fun i => ((cnt k p i : Nat) : Int))), true) ph := by
  rw [F.call rfl]
  have st : startE 3 [.box j] = [some (.box j, false), none, none] := rfl
  rw [st]
  obtain ⟨v2, e⟩ := beforeLoop (cl := callN pg n) H O h2 (p.length - 1) 1 none (Nat.le_refl _) (by omega)
  have a1 := att_row H O (c := false)
  have e0 : iv ((List.range 1).map fun i => ((cnt k p i : Nat) : Int)) = [.int 0] := by
    show [PV.int ((cnt k p 0 : Nat) : Int)] = _
    rfl
  rw [e0] at e
  have z1 : 1 ≤ sizeLine := line_ok (by omega)
  have sr : smallR (p.length : Int) = true := smallR_nat (by omega)
  have tn : ((p.length : Int) - 1).toNat = p.length - 1 := by omega
  have e : forL pg (callN pg n) (.nm 2) beforeL (rngP 1 (p.length - 1)) [some (.box j, false), some (.lst [.int 0], true), none] ph = _ := e
  simp only [beforeB]
  have s1 : smallR 1 = true := rfl
  simp [z1, a1, sr, s1, tn, e]
/-! least_text -/
def leastB2 (c pa rb : Nat) : IB := (.cons (.expr (.call c (.cons (.var 0) .nil))) (.cons (.ret (.call pa (.cons (.var 0) (.cons (.call rb (.cons (.var 0) .nil)) .nil)))) .nil))
omit O in
theorem ltext_ok {i c pa rb : Nat} (F : Fn pg i (leastB2 c pa rb) 1 1) (Fc : Fn pg c cordB 1 1) (Fp : Fn pg pa putB 3 2) (Fb : Fn pg rb beforeB 3 1) {ph : PH} (O : Ord ph j k p) (hp : IsP p) (h1 : 1 ≤ p.length) (h2 : p.length ≤ 60) {n : Nat} :
    callN pg (n + 2) i [.box j] ph = .ok (.tup (iv (leastT k p)), false) ph := by
  rw [F.call rfl]
  have st : startE 1 [.box j] = [some (.box j, false)] := rfl
  rw [st]
  have e1 := cord_ok H Fc (n := n) O
  have e2 := before_ok H Fb (n := n) O h1 h2
  have e3 := put_ok H O Fp (n := n) (l := (List.range p.length).map fun i => ((cnt k p i : Nat) : Int)) hp (by simp) h2
  have ee : ((List.range p.length).map fun i => ((List.range p.length).map fun i => ((cnt k p i : Nat) : Int)).getD (p.idxOf i) 0) = leastT k p := by
    unfold leastT
    apply List.map_congr_left
    intro i hi
    have := idx_lt hp (List.mem_range.mp hi)
    rw [List.getD_eq_getElem?_getD, List.getElem?_map, List.getElem?_range this]
    rfl
  rw [ee] at e3
  simp only [leastB2, b_cons, s_expr, s_ret, e_call, l_cons, l_nil, e_var, getV_0, getV_s, cVar_ok, cL1_ok, cL2_ok, cCall_ok, e1, e2, e3, cExp_ok, cB_nx, cRet_ok, cB_rt, cEnd_rt]
/-! certify_order -/
def certB (co cl lt : Nat) : IB := (.cons (.expr (.call co (.cons (.var 0) .nil))) (.cons (.expr (.call cl (.cons (.var 1) .nil))) (.cons (.asg 2 (.tup (.cons (.att (.var 0) ("row" : Str)) (.cons (.att (.var 0) ("style" : Str)) (.cons (.var 1) .nil))))) (.frz 2 (.cons (.ife (.cmp .Lt (.blt .len (.cons (.att (.var 0) ("steep" : Str)) .nil)) (.var 1)) (.cons (.ret (.tup (.cons (.tup (.cons (.str ("order" : Str)) (.star (.var 2) .nil))) (.cons (.call lt (.cons (.var 0) .nil)) .nil)))) .nil) .nil) (.cons (.ret (.tup (.cons (.tup (.cons (.str ("no order" : Str)) (.star (.var 2) .nil))) (.cons (.blt .tuple (.cons (.slc (.att (.var 0) ("steep" : Str)) .nil (.cons (.var 1) .nil)) .nil)) .nil)))) .nil))))))
/-- what certify_order answers -/
def certV (k : Kd) (p : List Nat) (b : Int) : PV := if ((rises k p).length : Int) < b then .tup [claim4 "order" p k (.int b), .tup (iv (leastT k p))] else .tup [claim4 "no order" p k (.int b), .tup (nv ((rises k p).take b.toNat))]
omit O in
theorem cert_ok {i co cl g lt pa rb : Nat} (h : P pg) (F : Fn pg i (certB co cl lt) 3 2) (Fc : Fn pg co cordB 1 1) (Fl : Fn pg cl (cletB g) 1 1) (G : ∃ nm, pg.gvs[g]? = some (nm, .int 1000000000000000000)) (Ft : Fn pg lt (leastB2 co pa rb) 1 1) (Fp : Fn pg pa putB 3 2) (Fb : Fn pg rb beforeB 3 1)
    {ph : PH} (O : Ord ph j k p) (hp : IsP p) (h1 : 1 ≤ p.length) (h2 : p.length ≤ 60) {n : Nat} {b : Int} (b1 : 1 ≤ b) (b2 : b ≤ 1000000000000000000) :
    callN pg (n + 4) i [.box j, .int b] ph = .ok (certV k p b, false) ph := by
  rw [F.call rfl]
  have st : startE 3 [.box j, .int b] = [some (.box j, false), some (.int b, false), none] := rfl
  rw [st]
  have e1 := cord_ok H Fc (n := n + 2) O
  have e2 := clet_ok h Fl G (n := n) (ph := ph) b1 b2
  have e3 := ltext_ok H Ft Fc Fp Fb (n := n + 1) O hp h1 h2
  have a1 := att_row H O (c := false)
  have a2 := att_style H O (c := false)
  have a3 := att_steep H O (c := false)
  have z3 : 3 ≤ sizeLine := line_ok (by omega)
  have z4 : 4 ≤ sizeLine := line_ok (by omega)
  have z2 : 2 ≤ sizeLine := line_ok (by omega)
  have sq : ∀ o : OV, (o.bnd fun r ph => kSeq r.1 ph) = cSq o := fun _ => rfl
  simp only [certB]
  by_cases c : ((rises k p).length : Int) < b
  · simp [e1, e2, e3, a1, a2, a3, sq, z2, z3, z4, c, certV, claim4]
  · have sl : psl (.lst (nv (rises k p))) none (some b) = some (.lst (nv ((rises k p).take b.toNat)), true) := by
      show some (PV.lst (pcut _ _ _), true) = _
      obtain ⟨m, rfl⟩ : ∃ m : Nat, b = m := ⟨b.toNat, by omega⟩
      rw [pcut_to, Int.toNat_natCast]
      simp [nv]
    have pt : ∀ l, pbi .tuple [.lst (nv l)] = some (.tup (nv l), false) := fun l => rfl
    simp [e1, e2, e3, a1, a2, a3, sq, z2, z3, z4, c, certV, claim4, sl, pt]
end
end Chk

set_option Elab.async false
set_option linter.all false
set_option maxRecDepth 100000
set_option maxHeartbeats 4000000
/-! ChkV: the program's tables and its certificate of an agreement. -/
namespace Chk
open PySem Py Mth
/-- a table as the program takes it -/
def Tab (p : List Nat) (T : List Int) : Prop := T.length = p.length - 1 ∧ ∀ x ∈ T, 0 ≤ x ∧ x ≤ 60
section
variable {pg : PProg} (H : HasO pg) {ph : PH} {j : Nat} {k : Kd} {p : List Nat} (O : Ord ph j k p)
include H O
/-! check_table -/
def ctabL (g : Nat) : IB := (.cons (.ife (.not (.call 1 (.cons (.var 3) (.cons (.int 0) (.cons (.gv g) .nil))))) (.cons .bad .nil) .nil) .nil)
def ctabB (g : Nat) : IB := (.cons (.ife (.or (.not (.isi (.var 1) .tuple)) (.cmp .NotEq (.blt .len (.cons (.var 1) .nil)) (.bin .Sub (.blt .len (.cons (.att (.var 0) ("row" : Str)) .nil)) (.int 1)))) (.cons .bad .nil) .nil) (.cons (.forS (.tup [2, 3]) (.enum (.var 1)) (ctabL g)) .nil))
omit H O in
theorem ctabLoop (h : P pg) {g : Nat} (G : ∃ nm, pg.gvs[g]? = some (nm, .int 60)) {n : Nat} {v0 v1 : Option (PV × Bool)} {ph : PH} : ∀ (T : List Int) (a : Nat) (v2 v3 : Option (PV × Bool)), (∀ x ∈ T, 0 ≤ x ∧ x ≤ 60) →
    ∃ v2' v3', forL pg (callN pg (n + 2)) (.tup [2, 3]) (ctabL g) (enumP a (iv T)) [v0, v1, v2, v3] ph = .ok (.nx [v0, v1, v2', v3']) ph
  | [], a, v2, v3, _ => ⟨v2, v3, rfl⟩
  | x :: T, a, v2, v3, hx => by
    obtain ⟨v2', v3', e⟩ := ctabLoop h G (n := n) (v0 := v0) (v1 := v1) (ph := ph) T (a + 1) (some (.int (a : Nat), false)) (some (.int x, false)) fun y hy => hx y (List.mem_cons_of_mem _ hy)
    refine ⟨v2', v3', ?_⟩
    show forL pg _ _ (ctabL g) (.tup [.int (a : Nat), .int x] :: enumP (a + 1) (iv T)) _ ph = _
    rw [forL_cons, ← e]
    have b := hx x (List.mem_cons_self ..)
    have e1 := r1 h (n := n) (ph := ph) (v := .int x) (lo := 0) (hi := 60) rfl
    have bb : btw 0 60 (.int x) = true := by
      show (decide (0 ≤ x) && decide (x ≤ 60)) = true
      rw [decide_eq_true b.1, decide_eq_true b.2]
      rfl
    rw [bb] at e1
    obtain ⟨nm, e2⟩ := G
    have g1 : cGv (pg.gvs[g]?) ph = .ok (.int 60, false) ph := by rw [e2]; rfl
    simp only [ctabL]
    simp [setAll, e1, g1]
theorem ctab_ok (h : P pg) {i g : Nat} (F : Fn pg i (ctabB g) 4 2) (G : ∃ nm, pg.gvs[g]? = some (nm, .int 60)) {n : Nat} {T : List Int} (hT : Tab p T) (h1 : 1 ≤ p.length) : callN pg (n + 3) i [.box j, .tup (iv T)] ph = .ok (.non, false) ph := by
  rw [F.call rfl]
  have st : startE 4 [.box j, .tup (iv T)] = [some (.box j, false), some (.tup (iv T), false), none, none] := rfl
  rw [st]
  obtain ⟨v2, v3, e⟩ := ctabLoop h G (n := n) (v0 := some (.box j, false)) (v1 := some (.tup (iv T), false)) (ph := ph) T 0 none none hT.2
  have a1 := att_row H O (c := false)
  have i1 : pisi (.tup (iv T)) .tuple = some true := rfl
  have hl : (T.length : Int) = (p.length : Int) - 1 := by have := hT.1; omega
  have mi : pbin .Sub (.int (p.length : Int)) (.int 1) = some (.int ((p.length : Int) - 1), false) := rfl
  simp only [ctabB]
  simp [i1, a1, hl, e, mi]
/-! wanted_at, is_wrong -/
def wantB (nx : Nat) : IB := (.cons (.par [3, 4] (.cons (.idx (.att (.var 0) ("row" : Str)) (.var 2)) (.cons (.idx (.att (.var 0) ("row" : Str)) (.bin .Add (.var 2) (.int 1))) .nil))) (.frz 3 (.frz 4 (.cons (.ife (.and (.cmp .NotEq (.att (.var 0) ("style" : Str)) (.str ("ring" : Str))) (.cmp .In (.bin .Sub (.blt .len (.cons (.att (.var 0) ("row" : Str)) .nil)) (.int 1)) (.tup (.cons (.var 3) (.cons (.var 4) .nil))))) (.cons (.ret (.int 1)) .nil) .nil) (.cons (.par [5, 6] (.cons (.call nx (.cons (.att (.var 0) ("standing" : Str)) (.cons (.var 3) (.cons (.att (.var 0) ("style" : Str)) .nil)))) (.cons (.call nx (.cons (.att (.var 0) ("standing" : Str)) (.cons (.var 4) (.cons (.att (.var 0) ("style" : Str)) .nil)))) .nil))) (.frz 5 (.frz 6 (.cons (.ret (.bin .Add (.int 1) (.blt .min (.cons (.slc (.var 1) (.cons (.var 5) .nil) (.cons (.var 6) .nil)) .nil)))) .nil))))))))
def wrongB (w : Nat) : IB := (.cons (.ife (.cmp .Eq (.idx (.var 1) (.var 2)) (.int 0)) (.cons (.ret (.bl false)) .nil) .nil) (.cons (.ret (.or (.cmp .In (.var 2) (.att (.var 0) ("steep" : Str))) (.cmp .NotEq (.idx (.var 1) (.var 2)) (.call w (.cons (.var 0) (.cons (.var 1) (.cons (.var 2) .nil))))))) .nil))
omit H O in
theorem fol_get {k : Kd} {p : List Nat} {a : Nat} (ha : a < p.length) : (if p.getD a 0 + 1 < p.length then ((p.idxOf (p.getD a 0 + 1) : Nat) : Int) else byd k p) = (fol k p).getD a 0 := by
  unfold fol
  rw [List.getD_eq_getElem?_getD (l := List.map _ p), List.getElem?_map, List.getElem?_eq_getElem ha, getD_at ha]
  rfl
def wantV (k : Kd) (p : List Nat) (T : List Int) (a : Nat) : Int :=
  if k ≠ .ri ∧ (p.getD a 0 + 1 = p.length ∨ p.getD (a + 1) 0 + 1 = p.length) then 1 else 1 + mnL (cut T ((fol k p).getD a 0).toNat ((fol k p).getD (a + 1) 0).toNat)
theorem want_ok {i nx : Nat} (F : Fn pg i (wantB nx) 7 3) (Fx : Fn pg nx nextB 3 3) {n : Nat} {T : List Int} (hp : IsP p) (h1 : 1 ≤ p.length) (h2 : p.length ≤ 60) (hT : T.length = p.length - 1) {a : Nat} (ha : a + 1 < p.length) (c1 : ¬ rise k p a = true) :
    callN pg (n + 2) i [.box j, .tup (iv T), .int (a : Nat)] ph = .ok (.int (wantV k p T a), false) ph := by
  rw [F.call rfl]
  have st : startE 7 [.box j, .tup (iv T), .int (a : Nat)] = [some (.box j, false), some (.tup (iv T), false), some (.int (a : Nat), false), none, none, none, none] := rfl
  rw [st]
  have a1 := att_row H O (c := false)
  have a2 := att_style H O (c := false)
  have a3 := att_standing H O (c := false)
  have pj := nv_pat (l := p) (j := a) (by omega)
  have pj1 := nv_pat1 (l := p) (j := a) ha
  have x1 := next_ok Fx (n := n) (ph := ph) (k := k) hp h1 (p.getD a 0)
  have x2 := next_ok Fx (n := n) (ph := ph) (k := k) hp h1 (p.getD (a + 1) 0)
  rw [fol_get (by omega)] at x1
  rw [fol_get ha] at x2
  have mi : pbin .Sub (.int (p.length : Int)) (.int 1) = some (.int ((p.length : Int) - 1), false) := rfl
  have ad1 : pbin .Add (.int (a : Int)) (.int 1) = some (.int ((a : Int) + 1), false) := rfl
  have z2 : 2 ≤ sizeLine := line_ok (by omega)
  unfold wantV
  by_cases c2 : k ≠ .ri ∧ (p.getD a 0 + 1 = p.length ∨ p.getD (a + 1) 0 + 1 = p.length)
  · rw [if_pos c2]
    have k2 : (!decide (k = Kd.ri)) = true := by simp [c2.1]
    have d2 : (p.length : Int) - 1 = (p.getD a 0 : Nat) ∨ (p.length : Int) - 1 = (p.getD (a + 1) 0 : Nat) := by rcases c2.2 with z | z <;> omega
    simp only [wantB, b_cons, s_par, lf_cons, lf_nil, e_idx, e_att, e_var, e_int, e_bin, getV_0, getV_s, cVar_ok, a1, a2, cIdx1_ok, cIdx2_ok, pixB_t, pj, pj1, rV_some, cBin1_ok, cBin2_ok, ad1, rO_some, cLF1_ok, cLF2_ok, cPar_ok, List.length_cons, List.length_nil, if_true, setAllF_cons, setAllF_nil, List.set_cons_succ, List.set_cons_zero, cB_nx, b_frz, frzE_s, frzE_f, s_ife, e_and, e_cmp, e_str, cCmp1_ok, cCmp2_ok, ne_ring, rB_some, cAnd_ok, k2, e_blt, l_cons, l_nil, cL1_ok, cL2_ok, cBlt_ok, pbi_len_t, nv_len, mi, e_tup, cTup_ok, Nat.zero_add, Nat.reduceAdd, if_pos z2, in_two, decide_eq_true_eq, if_pos d2, cIf_ok, s_ret, cRet_ok, cB_rt, cEnd_rt]
  · rw [if_neg c2]
    obtain ⟨s1, s2⟩ := rule_cut hp hT ha c1 c2
    have d2 : (!decide (k = Kd.ri)) = true → ¬ ((p.length : Int) - 1 = (p.getD a 0 : Nat) ∨ (p.length : Int) - 1 = (p.getD (a + 1) 0 : Nat)) := fun z w => c2 ⟨by simpa using z, by rcases w with w | w; exact .inl (by omega); exact .inr (by omega)⟩
    have ad : ∀ x : Int, pbin .Add (.int 1) (.int x) = some (.int (1 + x), false) := fun _ => rfl
    by_cases k2 : (!decide (k = Kd.ri)) = true
    · simp only [wantB, b_cons, s_par, lf_cons, lf_nil, e_idx, e_att, e_var, e_int, e_bin, getV_0, getV_s, cVar_ok, a1, a2, a3, cIdx1_ok, cIdx2_ok, pixB_t, pj, pj1, rV_some, cBin1_ok, cBin2_ok, ad1, rO_some, cLF1_ok, cLF2_ok, cPar_ok, List.length_cons, List.length_nil, if_true, setAllF_cons, setAllF_nil, List.set_cons_succ, List.set_cons_zero, cB_nx, b_frz, frzE_s, frzE_f, s_ife, e_and, e_cmp, e_str, cCmp1_ok, cCmp2_ok, ne_ring, rB_some, cAnd_ok, k2, e_blt, l_cons, l_nil, cL1_ok, cL2_ok, cBlt_ok, pbi_len_t, nv_len, mi, e_tup, cTup_ok, Nat.zero_add, Nat.reduceAdd, if_pos z2, in_two, decide_eq_true_eq, if_neg (d2 k2), cIf_ok, b_nil, e_call, cCall_ok, x1, x2, s_ret, e_slc, p_one, cP_ok, cSlc1_ok, cSlc2_ok, cSlc3_ok, s1, s2, ad, cRet_ok, cB_rt, cEnd_rt]
    · simp only [wantB, b_cons, s_par, lf_cons, lf_nil, e_idx, e_att, e_var, e_int, e_bin, getV_0, getV_s, cVar_ok, a1, a2, a3, cIdx1_ok, cIdx2_ok, pixB_t, pj, pj1, rV_some, cBin1_ok, cBin2_ok, ad1, rO_some, cLF1_ok, cLF2_ok, cPar_ok, List.length_cons, List.length_nil, if_true, setAllF_cons, setAllF_nil, List.set_cons_succ, List.set_cons_zero, cB_nx, b_frz, frzE_s, frzE_f, s_ife, e_and, e_cmp, e_str, cCmp1_ok, cCmp2_ok, ne_ring, rB_some, cAnd_ok, if_neg k2, Bool.false_eq_true, if_false, cIf_ok, b_nil, e_call, l_cons, l_nil, cL1_ok, cL2_ok, cCall_ok, x1, x2, s_ret, e_blt, cBlt_ok, e_slc, p_one, cP_ok, cSlc1_ok, cSlc2_ok, cSlc3_ok, s1, s2, ad, cRet_ok, cB_rt, cEnd_rt]
omit H O in
theorem in_rises {k : Kd} {p : List Nat} {a : Nat} (ha : a + 1 < p.length) : ((a : Nat) : Int) ∈ ni (rises k p) ↔ rise k p a = true := by
  unfold ni rises
  rw [List.mem_map]
  constructor
  · rintro ⟨b, hb, e⟩
    have : b = a := by omega
    subst this
    exact (List.mem_filter.mp hb).2
  · intro h
    exact ⟨a, List.mem_filter.mpr ⟨List.mem_range.mpr (by omega), h⟩, rfl⟩
theorem wrong_ok {i w nx : Nat} (F : Fn pg i (wrongB w) 3 3) (Fw : Fn pg w (wantB nx) 7 3) (Fx : Fn pg nx nextB 3 3) {n : Nat} {T : List Int} (hp : IsP p) (h1 : 1 ≤ p.length) (h2 : p.length ≤ 60) (hT : Tab p T) {a : Nat} (ha : a + 1 < p.length) :
    callN pg (n + 3) i [.box j, .tup (iv T), .int (a : Nat)] ph = .ok (.bl (untr k p T a), false) ph := by
  rw [F.call rfl]
  have st : startE 3 [.box j, .tup (iv T), .int (a : Nat)] = [some (.box j, false), some (.tup (iv T), false), some (.int (a : Nat), false)] := rfl
  rw [st]
  have tl := hT.1
  have tj := iv_pat (l := T) (j := a) (by omega)
  have t0 : 0 ≤ T.getD a 0 := by
    have : a < T.length := by omega
    rw [List.getD_eq_getElem?_getD, List.getElem?_eq_getElem this]
    exact (hT.2 _ (List.getElem_mem this)).1
  have a1 := att_steep H O (c := false)
  unfold untr
  by_cases c0 : T.getD a 0 = 0
  · rw [if_pos (by omega), c0]
    have q : decide ((0 : Int) < 0) = false := by decide
    have q2 : decide (T.getD a 0 = 0) = true := decide_eq_true c0
    rw [q]
    simp only [wrongB, b_cons, s_ife, e_cmp, e_idx, e_var, e_int, getV_0, getV_s, cVar_ok, cIdx1_ok, cIdx2_ok, pixB_t, tj, rV_some, cCmp1_ok, cCmp2_ok, cmp_eqi, q2, rB_some, cIf_ok, if_true, s_ret, e_bl, cRet_ok, cB_rt, cEnd_rt]
  · rw [if_neg (by omega)]
    have q2 : decide (T.getD a 0 = 0) = false := decide_eq_false c0
    by_cases c1 : rise k p a = true
    · rw [if_pos c1]
      have m := decide_eq_true ((in_rises (k := k) ha).mpr c1)
      simp only [wrongB, b_cons, s_ife, e_cmp, e_idx, e_var, e_int, getV_0, getV_s, cVar_ok, cIdx1_ok, cIdx2_ok, pixB_t, tj, rV_some, cCmp1_ok, cCmp2_ok, cmp_eqi, q2, rB_some, cIf_ok, Bool.false_eq_true, if_false, b_nil, cB_nx, s_ret, e_or, e_att, a1, in_lstN, m, cOr_ok, if_true, cRet_ok, cB_rt, cEnd_rt]
    · rw [if_neg c1]
      have m := decide_eq_false (fun z => c1 ((in_rises (k := k) ha).mp z))
      have wa := want_ok H O Fw Fx (n := n) (T := T) hp h1 h2 tl ha c1
      have fin : (if k ≠ Kd.ri ∧ (p.getD a 0 + 1 = p.length ∨ p.getD (a + 1) 0 + 1 = p.length) then !decide (T.getD a 0 = 1) else !decide (T.getD a 0 = 1 + mnL (cut T ((fol k p).getD a 0).toNat ((fol k p).getD (a + 1) 0).toNat))) = !decide (T.getD a 0 = wantV k p T a) := by
        unfold wantV
        split <;> rfl
      rw [fin]
      simp only [wrongB, b_cons, s_ife, e_cmp, e_idx, e_var, e_int, getV_0, getV_s, cVar_ok, cIdx1_ok, cIdx2_ok, pixB_t, tj, rV_some, cCmp1_ok, cCmp2_ok, cmp_eqi, q2, rB_some, cIf_ok, Bool.false_eq_true, if_false, b_nil, cB_nx, s_ret, e_or, e_att, a1, in_lstN, m, cOr_ok, e_call, l_cons, l_nil, cL1_ok, cL2_ok, cCall_ok, wa, cmp_nei, cRet_ok, cB_rt, cEnd_rt]
/-! first_wrong -/
def fwC (w : Nat) : IL := (.cons (.call w (.cons (.var 0) (.cons (.var 1) (.cons (.var 3) .nil)))) .nil)
def fwB (w : Nat) : IB := (.cons (.asg 2 (.lc [3] (.nm 3) (.rng1 (.blt .len (.cons (.var 1) .nil))) (fwC w) (.var 3))) (.frz 2 (.cons (.ret (.ite (.cmp .NotEq (.var 2) (.lst .nil)) (.idx (.var 2) (.int 0)) .non)) .nil)))
def wrongs (k : Kd) (p : List Nat) (T : List Int) : List Nat := (List.range (p.length - 1)).filter (untr k p T)
def fwV (k : Kd) (p : List Nat) (T : List Int) : PV := match wrongs k p T with
  | [] => .non
  | a :: _ => .int (a : Nat)
theorem fw_ok {i v w nx : Nat} (F : Fn pg i (fwB v) 4 2) (Fv : Fn pg v (wrongB w) 3 3) (Fw : Fn pg w (wantB nx) 7 3) (Fx : Fn pg nx nextB 3 3) {n : Nat} {T : List Int} (hp : IsP p) (h1 : 1 ≤ p.length) (h2 : p.length ≤ 60) (hT : Tab p T) :
    callN pg (n + 4) i [.box j, .tup (iv T)] ph = .ok (fwV k p T, false) ph := by
  rw [F.call rfl]
  have st : startE 4 [.box j, .tup (iv T)] = [some (.box j, false), some (.tup (iv T), false), none, none] := rfl
  rw [st]
  have tl := hT.1
  have l1 : ∀ v2, lcL pg (callN pg (n + 3)) [3] (.nm 3) (fwC v) (.var 3) (nv (List.range T.length)) [some (.box j, false), some (.tup (iv T), false), v2, none] ph = .ok (nv (wrongs k p T)) ph := by
    intro v2
    unfold wrongs
    rw [tl]
    refine lcL_filter (e := fun i : Nat => PV.int ((i : Nat) : Int)) (g := fun i => PV.int ((i : Nat) : Int)) (p := untr k p T) fun a ha => ?_
    have ha := List.mem_range.mp ha
    have wr := wrong_ok H O Fv Fw Fx (n := n) (T := T) hp h1 h2 hT (a := a) (by omega)
    rw [lcT_eq]
    simp only [fwC, t_one, cLt0_some, bind_nm, wipe_cons, wipe_nil, List.set_cons_succ, List.set_cons_zero, e_call, l_cons, l_nil, e_var, getV_0, getV_s, cVar_ok, cL1_ok, cL2_ok, cCall_ok, wr, cT_ok, cLt1_ok, cLt2_ok]
    exact some_if
  have sr : smallR (T.length : Int) = true := smallR_nat (by omega)
  have hz : (wrongs k p T).length < sizeLine := line_lt (by
    have : (wrongs k p T).length ≤ (List.range (p.length - 1)).length := List.length_filter_le _ _
    rw [List.length_range] at this
    omega)
  have z0 : 0 ≤ sizeLine := Nat.zero_le _
  unfold fwV
  have rn : rngP 0 T.length = nv (List.range T.length) := rngP_nv _
  generalize wrongs k p T = L at *
  cases L with
  | nil =>
    have q0 : pcmp .NotEq (.lst (nv [])) (.lst []) = some false := by kernel_rfl
    have hz : 0 < sizeLine := hz
    simp only [fwB]
    simp [sr, rn, l1, hz, z0, q0]
  | cons a L =>
    have q0 : pcmp .NotEq (.lst (nv (a :: L))) (.lst []) = some true := by
      rw [nv_iv, show ([] : List PV) = iv [] from rfl, ne_lstI]
      simp [ni]
    have p0 : pat (nv (a :: L)) 0 = some (.int (a : Nat)) := pat_nat (j := 0) rfl
    have hz : L.length + 1 < sizeLine := hz
    simp only [fwB]
    simp [sr, rn, l1, hz, z0, q0, p0]
/-! wrong_at, text_agreeing, certify_agreement -/
def waB (co ct fw : Nat) : IB := (.cons (.expr (.call co (.cons (.var 0) .nil))) (.cons (.expr (.call ct (.cons (.var 0) (.cons (.var 1) .nil)))) (.cons (.ret (.call fw (.cons (.var 0) (.cons (.var 1) .nil)))) .nil)))
def taL : IB := (.cons (.app 2 (.bin .Add (.idx (.bvar 2) (.neg (.int 1))) (.ite (.cmp .Eq (.var 3) (.int 0)) (.int 1) (.int 0)))) .nil)
def taB (co ct fw pa : Nat) : IB := (.cons (.expr (.call co (.cons (.var 0) .nil))) (.cons (.expr (.call ct (.cons (.var 0) (.cons (.var 1) .nil)))) (.cons (.ife (.cmp .IsNot (.call fw (.cons (.var 0) (.cons (.var 1) .nil))) .non) (.cons (.ret .non) .nil) .nil) (.cons (.asg 2 (.lst (.cons (.int 0) .nil))) (.cons (.forS (.nm 3) (.seq (.var 1)) taL) (.frz 2 (.cons (.ret (.call pa (.cons (.var 0) (.cons (.var 2) .nil)))) .nil)))))))
theorem wa_ok (h : P pg) {i co ct g fw v w nx : Nat} (F : Fn pg i (waB co ct fw) 2 2) (Fc : Fn pg co cordB 1 1) (Ft : Fn pg ct (ctabB g) 4 2) (G : ∃ nm, pg.gvs[g]? = some (nm, .int 60)) (Ff : Fn pg fw (fwB v) 4 2) (Fv : Fn pg v (wrongB w) 3 3) (Fw : Fn pg w (wantB nx) 7 3) (Fx : Fn pg nx nextB 3 3)
    {n : Nat} {T : List Int} (hp : IsP p) (h1 : 1 ≤ p.length) (h2 : p.length ≤ 60) (hT : Tab p T) : callN pg (n + 5) i [.box j, .tup (iv T)] ph = .ok (fwV k p T, false) ph := by
  rw [F.call rfl]
  have st : startE 2 [.box j, .tup (iv T)] = [some (.box j, false), some (.tup (iv T), false)] := rfl
  rw [st]
  have e1 := cord_ok H Fc (n := n + 3) O
  have e2 := ctab_ok H O h Ft G (n := n + 1) hT h1
  have e3 := fw_ok H O Ff Fv Fw Fx (n := n) hp h1 h2 hT
  simp only [waB, b_cons, s_expr, s_ret, e_call, l_cons, l_nil, e_var, getV_0, getV_s, cVar_ok, cL1_ok, cL2_ok, cCall_ok, e1, e2, e3, cExp_ok, cB_nx, cRet_ok, cB_rt, cEnd_rt]
omit H O in
theorem taLoop {cl : Calls} {T : List Int} {v0 v1 : Option (PV × Bool)} {ph : PH} (hz : T.length ≤ 1000) : ∀ (m a : Nat) (v3 : Option (PV × Bool)), a + m = T.length →
    ∃ v3', forL pg cl (.nm 3) taL (iv (T.drop a)) [v0, v1, some (.lst (iv ((List.range (a + 1)).map (cz T))), true), v3] ph = .ok (.nx [v0, v1, some (.lst (iv ((List.range (T.length + 1)).map (cz T))), true), v3']) ph
  | 0, a, v3, h => by
    have : a = T.length := by omega
    subst this
    exact ⟨v3, by rw [List.drop_length]; rfl⟩
  | m + 1, a, v3, h => by
    have ha : a < T.length := by omega
    obtain ⟨v3', e⟩ := taLoop (cl := cl) (T := T) (v0 := v0) (v1 := v1) (ph := ph) hz m (a + 1) (some (.int T[a], false)) (by omega)
    refine ⟨v3', ?_⟩
    rw [List.drop_eq_getElem_cons ha]
    show forL pg cl _ taL (.int T[a] :: iv (T.drop (a + 1))) _ ph = _
    rw [forL_cons, ← e]
    have la : pat (iv ((List.range (a + 1)).map (cz T))) (-1) = some (.int (cz T a)) := by
      refine pat_end (j := a) (by simp) ?_
      unfold iv
      rw [List.map_map, List.getElem?_map, List.getElem?_range (by omega)]
      rfl
    have tg : T.getD a 0 = T[a] := by rw [List.getD_eq_getElem?_getD, List.getElem?_eq_getElem ha]; rfl
    have sp : iv ((List.range (a + 1 + 1)).map (cz T)) = iv ((List.range (a + 1)).map (cz T)) ++ [.int (cz T (a + 1))] := by
      rw [List.range_succ (n := a + 1), List.map_append]
      simp [iv]
    have lz : (iv ((List.range (a + 1)).map (cz T))).length < sizeLine := by
      refine line_lt ?_
      simp
      omega
    rw [sp]
    by_cases c : T[a] = 0
    · have ad : pbin .Add (.int (cz T a)) (.int 1) = some (.int (cz T (a + 1)), false) := by
        show some (PV.int (cz T a + 1), false) = some (PV.int (cz T a + if T.getD a 0 = 0 then 1 else 0), false)
        rw [tg, if_pos c]
      simp only [taL, bind_nm, cBt_some, List.set_cons_succ, List.set_cons_zero, b_cons, s_app, getO_0, getO_s, cApp1_ok, e_bin, e_idx, e_bvar, e_neg, e_int, cNeg_ok, cBvar_ok, getV_0, getV_s, cIdx1_ok, cIdx2_ok, pixB_l, la, rV_some, cBin1_ok, e_ite, e_cmp, e_var, cVar_ok, rO_some, cBin2_ok, cCmp1_ok, cCmp2_ok, cmp_eqi, decide_eq_true c, rB_some, cIte_ok, if_true, ad, cApp2_ok, if_pos lz, cB_nx, b_nil, cFl_nx]
    · have ad : pbin .Add (.int (cz T a)) (.int 0) = some (.int (cz T (a + 1)), false) := by
        show some (PV.int (cz T a + 0), false) = some (PV.int (cz T a + if T.getD a 0 = 0 then 1 else 0), false)
        rw [tg, if_neg c]
      simp only [taL, bind_nm, cBt_some, List.set_cons_succ, List.set_cons_zero, b_cons, s_app, getO_0, getO_s, cApp1_ok, e_bin, e_idx, e_bvar, e_neg, e_int, cNeg_ok, cBvar_ok, getV_0, getV_s, cIdx1_ok, cIdx2_ok, pixB_l, la, rV_some, cBin1_ok, e_ite, e_cmp, e_var, cVar_ok, rO_some, cBin2_ok, cCmp1_ok, cCmp2_ok, cmp_eqi, decide_eq_false c, rB_some, cIte_ok, Bool.false_eq_true, if_false, ad, cApp2_ok, if_pos lz, cB_nx, b_nil, cFl_nx]
theorem ta_ok (h : P pg) {i co ct g fw v w nx pa : Nat} (F : Fn pg i (taB co ct fw pa) 4 2) (Fc : Fn pg co cordB 1 1) (Ft : Fn pg ct (ctabB g) 4 2) (G : ∃ nm, pg.gvs[g]? = some (nm, .int 60)) (Ff : Fn pg fw (fwB v) 4 2) (Fv : Fn pg v (wrongB w) 3 3) (Fw : Fn pg w (wantB nx) 7 3) (Fx : Fn pg nx nextB 3 3) (Fp : Fn pg pa putB 3 2)
    {n : Nat} {T : List Int} (hp : IsP p) (h1 : 1 ≤ p.length) (h2 : p.length ≤ 60) (hT : Tab p T) (hw : wrongs k p T = []) : callN pg (n + 5) i [.box j, .tup (iv T)] ph = .ok (.tup (iv (apartT p T)), false) ph := by
  rw [F.call rfl]
  have st : startE 4 [.box j, .tup (iv T)] = [some (.box j, false), some (.tup (iv T), false), none, none] := rfl
  rw [st]
  have tl := hT.1
  have e1 := cord_ok H Fc (n := n + 3) O
  have e2 := ctab_ok H O h Ft G (n := n + 1) hT h1
  have e3 := fw_ok H O Ff Fv Fw Fx (n := n) hp h1 h2 hT
  have fn : fwV k p T = .non := by unfold fwV; rw [hw]
  rw [fn] at e3
  obtain ⟨v3, e4⟩ := taLoop (pg := pg) (cl := callN pg (n + 4)) (T := T) (v0 := some (.box j, false)) (v1 := some (.tup (iv T), false)) (ph := ph) (by omega) T.length 0 none (by omega)
  have e5 := put_ok H O Fp (n := n + 3) (l := (List.range (T.length + 1)).map (cz T)) hp (by simp; omega) h2
  have ee : ((List.range p.length).map fun i => ((List.range (T.length + 1)).map (cz T)).getD (p.idxOf i) 0) = apartT p T := by
    unfold apartT
    apply List.map_congr_left
    intro i hi
    have := idx_lt hp (List.mem_range.mp hi)
    rw [List.getD_eq_getElem?_getD, List.getElem?_map, List.getElem?_range (by omega)]
    rfl
  rw [ee] at e5
  have e0 : iv ((List.range (0 + 1)).map (cz T)) = [.int 0] := rfl
  rw [e0, List.drop_zero] at e4
  have z1 : 1 ≤ sizeLine := line_ok (by omega)
  simp only [taB]
  simp [e1, e2, e3, e4, e5, z1, PV.isNon]
def cerB (wa ta : Nat) : IB := (.cons (.asg 2 (.call wa (.cons (.var 0) (.cons (.var 1) .nil)))) (.frz 2 (.cons (.asg 3 (.tup (.cons (.att (.var 0) ("row" : Str)) (.cons (.att (.var 0) ("style" : Str)) (.cons (.var 1) .nil))))) (.frz 3 (.cons (.ife (.cmp .Is (.var 2) .non) (.cons (.ret (.tup (.cons (.tup (.cons (.str ("agreement" : Str)) (.star (.var 3) .nil))) (.cons (.call ta (.cons (.var 0) (.cons (.var 1) .nil))) .nil)))) .nil) .nil) (.cons (.ret (.tup (.cons (.tup (.cons (.str ("no agreement" : Str)) (.star (.var 3) .nil))) (.cons (.var 2) .nil)))) .nil))))))
/-- what certify_agreement answers -/
def cerV (k : Kd) (p : List Nat) (T : List Int) : PV := match wrongs k p T with
  | [] => .tup [claim4 "agreement" p k (.tup (iv T)), .tup (iv (apartT p T))]
  | a :: _ => .tup [claim4 "no agreement" p k (.tup (iv T)), .int (a : Nat)]
theorem cer_ok (h : P pg) {i wa ta co ct g fw v w nx pa : Nat} (F : Fn pg i (cerB wa ta) 4 2) (Fwa : Fn pg wa (waB co ct fw) 2 2) (Fta : Fn pg ta (taB co ct fw pa) 4 2) (Fc : Fn pg co cordB 1 1) (Ft : Fn pg ct (ctabB g) 4 2) (G : ∃ nm, pg.gvs[g]? = some (nm, .int 60)) (Ff : Fn pg fw (fwB v) 4 2) (Fv : Fn pg v (wrongB w) 3 3) (Fw : Fn pg w (wantB nx) 7 3) (Fx : Fn pg nx nextB 3 3) (Fp : Fn pg pa putB 3 2)
    {n : Nat} {T : List Int} (hp : IsP p) (h1 : 1 ≤ p.length) (h2 : p.length ≤ 60) (hT : Tab p T) : callN pg (n + 6) i [.box j, .tup (iv T)] ph = .ok (cerV k p T, false) ph := by
  rw [F.call rfl]
  have st : startE 4 [.box j, .tup (iv T)] = [some (.box j, false), some (.tup (iv T), false), none, none] := rfl
  rw [st]
  have e1 := wa_ok H O h Fwa Fc Ft G Ff Fv Fw Fx (n := n) hp h1 h2 hT
  have a1 := att_row H O (c := false)
  have a2 := att_style H O (c := false)
  have z2 : 2 ≤ sizeLine := line_ok (by omega)
  have z3 : 3 ≤ sizeLine := line_ok (by omega)
  have z4 : 4 ≤ sizeLine := line_ok (by omega)
  have sq : ∀ o : OV, (o.bnd fun r ph => kSeq r.1 ph) = cSq o := fun _ => rfl
  have e2 := ta_ok H O h Fta Fc Ft G Ff Fv Fw Fx Fp (n := n) hp h1 h2 hT
  unfold cerV
  unfold fwV at e1
  generalize wrongs k p T = L at *
  cases L with
  | nil =>
    have e2 := e2 rfl
    simp only [] at e1
    simp only [cerB]
    simp [e1, e2, a1, a2, sq, z2, z3, z4, claim4, PV.isNon]
  | cons a L =>
    simp only [] at e1
    simp only [cerB]
    simp [e1, a1, a2, sq, z2, z3, z4, claim4, PV.isNon]
end
end Chk

set_option Elab.async false
set_option linter.all false
set_option maxRecDepth 100000
set_option maxHeartbeats 4000000
/-! Rpr: the repr of a tuple of small things is small. -/
namespace Chk
open PySem Py Mth
theorem piled_le {M : Nat} : ∀ (ts : List Str), (∀ t ∈ ts, t.length ≤ M) → piled ts ≤ ts.length * (M + 2)
  | [], _ => by simp [piled]
  | t :: r, h => by
    have ih := piled_le r fun u hu => h u (List.mem_cons_of_mem _ hu)
    have h1 := h t (List.mem_cons_self ..)
    show t.length + 2 + piled r ≤ (r.length + 1) * (M + 2)
    rw [Nat.succ_mul]
    omega
theorem tupleText_le {M : Nat} (ts : List Str) (h : ∀ t ∈ ts, t.length ≤ M) : (tupleText ts).length ≤ ts.length * (M + 2) + 4 := by
  have p := piled_le ts h
  unfold tupleText
  rw [strLen_append, strLen_append]
  have e1 : ("(" : Str).length = 1 := rfl
  have e2 : ((if ts.length == 1 then ",)" else ")" : String) : Str).length ≤ 2 := by
    by_cases c : (ts.length == 1) = true
    · rw [if_pos c]; exact Nat.le_refl _
    · rw [if_neg c]; exact Nat.le_succ _
  have e3 : (Str.join ", " ts).length ≤ ts.length * (M + 2) := by
    match ts, p with
    | [], p => exact Nat.zero_le _
    | t :: r, p =>
      have := join_length_add (t :: r) (by simp)
      omega
  omega
theorem int_len {i : Int} (h : i.natAbs < 10 ^ 19) : (PyData.shown (.int i)).length ≤ 20 := by
  show ((toString i : String) : Str).length ≤ 20
  rw [ofString_length]
  match i, h with
  | .ofNat n, h =>
    show (n.repr).length ≤ 20
    exact (Nat.length_repr_le_iff (by omega)).mpr (Nat.lt_of_lt_of_le h (by decide))
  | .negSucc n, h =>
    show ("-" ++ (n + 1).repr : String).length ≤ 20
    rw [String.length_append]
    have := (Nat.length_repr_le_iff (n := n + 1) (k := 19) (by omega)).mpr h
    show 1 + _ ≤ 20
    omega
theorem int_show {i : Int} (h : i.natAbs < 10 ^ 19) : (PyData.int i).showable = true := by
  show decide (i.natAbs.log2 < 1920) = true
  rw [decide_eq_true_eq]
  by_cases z : i.natAbs = 0
  · rw [z]; decide
  · exact (Nat.log2_lt z).mpr (Nat.lt_of_lt_of_le h (by decide))
/-- a value whose text is short -/
def Sh (M : Nat) (v : PV) : Prop := v.toD.showable = true ∧ v.toD.shown.length ≤ M
theorem sh_int {i : Int} (h : i.natAbs < 10 ^ 19) : Sh 20 (.int i) := ⟨int_show h, int_len h⟩
theorem sh_le {M N : Nat} {v : PV} (h : Sh M v) (l : M ≤ N) : Sh N v := ⟨h.1, Nat.le_trans h.2 l⟩
theorem sh_all {M : Nat} : ∀ (vs : List PV), (∀ v ∈ vs, Sh M v) → PyData.showableAll (PV.toDs vs) = true ∧ (PyData.shownAll (PV.toDs vs)).length = vs.length ∧ ∀ t ∈ PyData.shownAll (PV.toDs vs), t.length ≤ M
  | [], _ => ⟨rfl, rfl, fun t ht => nomatch ht⟩
  | v :: vs, h => by
    obtain ⟨a, b, c⟩ := sh_all vs fun u hu => h u (List.mem_cons_of_mem _ hu)
    obtain ⟨d, e⟩ := h v (List.mem_cons_self ..)
    refine ⟨?_, ?_, fun t ht => ?_⟩
    · show (v.toD.showable && PyData.showableAll (PV.toDs vs)) = true
      rw [a, d]; rfl
    · show (PyData.shownAll (PV.toDs vs)).length + 1 = vs.length + 1
      rw [b]
    · rcases List.mem_cons.mp (show t ∈ v.toD.shown :: PyData.shownAll (PV.toDs vs) from ht) with rfl | ht
      · exact e
      · exact c t ht
theorem sh_tup {M : Nat} {vs : List PV} (h : ∀ v ∈ vs, Sh M v) : Sh (vs.length * (M + 2) + 4) (.tup vs) := by
  obtain ⟨a, b, c⟩ := sh_all vs h
  refine ⟨a, ?_⟩
  have := tupleText_le _ c
  rw [b] at this
  exact this
theorem repr_ok {v : PV} (hd : v.dat deep = true) (h : Sh 100000 v) : ∃ s : Str, pbi .repr [v] = some (.str s, false) := by
  refine ⟨v.toD.shown, ?_⟩
  show (prepr v).map _ = _
  unfold prepr
  rw [hd, h.1, decide_eq_true (Nat.le_trans h.2 (show 100000 ≤ sizeLine by decide))]
  rfl
end Chk

set_option Elab.async false
set_option linter.all false
/-! Mth6: steps of a row, and the text that is read back along them. -/
namespace Mth
/-! ### counting -/
theorem pigeon {l1 : List Nat} : ∀ {l2 : List Nat}, l1.Nodup → (∀ x ∈ l1, x ∈ l2) → l1.length ≤ l2.length := by
  induction l1 with
  | nil => intro l2 _ _; exact Nat.zero_le _
  | cons x r ih =>
    intro l2 hn hs
    have n0 := List.nodup_cons.mp hn
    have hx := hs x (List.mem_cons_self ..)
    have h := ih (l2 := l2.erase x) n0.2 fun y hy => by
      refine (List.mem_erase_of_ne fun e => n0.1 (by rw [← e]; exact hy)).mpr (hs y (List.mem_cons_of_mem _ hy))
    have h0 := List.length_pos_of_mem hx
    rw [List.length_erase_of_mem hx] at h
    simp only [List.length_cons]
    omega
theorem nodup_perm {l1 : List Nat} : ∀ {l2 : List Nat}, l1.Nodup → (∀ x ∈ l1, x ∈ l2) → l1.length = l2.length → l1.Perm l2 := by
  induction l1 with
  | nil => intro l2 _ _ h; rw [List.eq_nil_of_length_eq_zero h.symm]
  | cons x r ih =>
    intro l2 hn hs hl
    have n0 := List.nodup_cons.mp hn
    have hx := hs x (List.mem_cons_self ..)
    have h := ih (l2 := l2.erase x) n0.2 (fun y hy => by
      refine (List.mem_erase_of_ne fun e => n0.1 (by rw [← e]; exact hy)).mpr (hs y (List.mem_cons_of_mem _ hy))) (by
      rw [List.length_erase_of_mem hx]
      simp only [List.length_cons] at hl
      omega)
    exact (h.cons x).trans (List.perm_cons_erase hx).symm
theorem isP_of {l : List Nat} (hn : l.Nodup) (h : ∀ x ∈ l, x < l.length) : IsP l :=
  nodup_perm hn (fun x hx => List.mem_range.mpr (h x hx)) (by rw [List.length_range])
theorem isP_get {p : List Nat} (hp : IsP p) {a : Nat} (h : a < p.length) : p.getD a 0 < p.length := by rw [getD_at h]; exact isP_at hp h
theorem idx_get {p : List Nat} (hp : IsP p) {a : Nat} (h : a < p.length) : p.idxOf (p.getD a 0) = a := by rw [getD_at h]; exact idx_at hp h
theorem get_idx {p : List Nat} (hp : IsP p) {i : Nat} (h : i < p.length) : p.getD (p.idxOf i) 0 = i := by rw [getD_at (idx_lt hp h)]; exact at_idx hp h
theorem get_map {α : Type} {f : Nat → α} {n j : Nat} {d : α} (h : j < n) : ((List.range n).map f).getD j d = f j := by
  rw [List.getD_eq_getElem?_getD, List.getElem?_map, List.getElem?_range h]
  rfl
theorem get_inj {p : List Nat} (hp : IsP p) {a b : Nat} (ha : a < p.length) (hb : b < p.length) (e : p.getD a 0 = p.getD b 0) : a = b := by
  rw [← idx_get hp ha, ← idx_get hp hb, e]
theorem nodup_map {f : Nat → Nat} {n : Nat} (h : ∀ i j, i < j → j < n → f i ≠ f j) : ((List.range n).map f).Nodup := by
  refine List.pairwise_map.mpr ?_
  rw [List.pairwise_iff_getElem]
  intro i j hi hj hij
  rw [List.getElem_range, List.getElem_range]
  rw [List.length_range] at hj
  exact h i j hij hj
theorem isP_map {f : Nat → Nat} {n : Nat} (hl : ∀ i, i < n → f i < n) (h : ∀ i j, i < j → j < n → f i ≠ f j) : IsP ((List.range n).map f) := by
  refine isP_of (nodup_map h) fun x hx => ?_
  obtain ⟨i, hi, rfl⟩ := List.mem_map.mp hx
  simp only [List.length_map, List.length_range]
  exact hl i (List.mem_range.mp hi)
/-! ### steps -/
def bel (W : List Int) (j i : Nat) : Bool := decide (W.getD j 0 < W.getD i 0) || (decide (W.getD j 0 = W.getD i 0) && decide (j < i))
theorem bel_iff {W : List Int} {j i : Nat} : bel W j i = true ↔ W.getD j 0 < W.getD i 0 ∨ (W.getD j 0 = W.getD i 0 ∧ j < i) := by
  unfold bel
  rw [Bool.or_eq_true, Bool.and_eq_true, decide_eq_true_iff, decide_eq_true_iff, decide_eq_true_iff]
theorem bel_no {W : List Int} {j i : Nat} (h : bel W j i = true) : bel W i j = false := by
  cases e : bel W i j with
  | false => rfl
  | true =>
    rw [bel_iff] at h e
    omega
def st (W : List Int) (i : Nat) : Nat := ((List.range W.length).filter fun j => bel W j i).length
theorem bel_ord (W : List Int) (l : List Nat) : Ord (bel W) l := by
  refine ⟨fun a b c h g => ?_, fun a b h => bel_no h, fun a _ b _ hab => ?_⟩
  · rw [bel_iff] at *; omega
  · rw [bel_iff, bel_iff]; omega
/-- the indexes by worth -/
def LF (W : List Int) (F : List Nat) : Prop := IsP F ∧ F.length = W.length ∧ F.Pairwise fun a b => bel W a b = true
theorem lf_sort (W : List Int) : LF W (isort (bel W) (List.range W.length)) := by
  have pe := isort_perm (bel W) (List.range W.length)
  have le := pe.length_eq
  rw [List.length_range] at le
  refine ⟨?_, le, isort_srt _ (bel_ord W _) List.nodup_range⟩
  unfold IsP
  rw [le]
  exact pe
theorem count_srt {W : List Int} : ∀ {l : List Nat} {b : Nat} (hb : b < l.length), l.Pairwise (fun a b => bel W a b = true) → (l.filter fun j => bel W j l[b]).length = b
  | [], b, hb, _ => absurd hb (Nat.not_lt_zero _)
  | x :: r, 0, hb, h => by
    have h0 := (List.pairwise_cons.mp h).1
    have e : ((x :: r).filter fun j => bel W j x) = [] := List.filter_eq_nil_iff.mpr fun y hy hb => by
      rcases List.mem_cons.mp hy with rfl | hy
      · rw [bel_iff] at hb; omega
      · rw [bel_no (h0 y hy)] at hb; cases hb
    show ((x :: r).filter fun j => bel W j x).length = 0
    rw [e]; rfl
  | x :: r, b + 1, hb, h => by
    have h0 := List.pairwise_cons.mp h
    have hb' : b < r.length := by simpa using hb
    have t : bel W x r[b] = true := h0.1 _ (List.getElem_mem hb')
    show ((x :: r).filter fun j => bel W j r[b]).length = b + 1
    rw [List.filter_cons, if_pos t, List.length_cons, count_srt hb' h0.2]
section
variable {W : List Int} {F : List Nat} (hF : LF W F)
include hF
theorem st_F {b : Nat} (hb : b < W.length) : st W (F.getD b 0) = b := by
  obtain ⟨hp, hl, hs⟩ := hF
  have hb' : b < F.length := by omega
  unfold st
  rw [← hl, ← (hp.filter _).length_eq, getD_at hb']
  exact count_srt hb' hs
theorem st_lt' {i : Nat} (h : i < W.length) : st W i < W.length ∧ F.getD (st W i) 0 = i := by
  obtain ⟨hp, hl, hs⟩ := hF
  have hi : i < F.length := by omega
  have e := st_F ⟨hp, hl, hs⟩ (b := F.idxOf i) (by have := idx_lt hp hi; omega)
  rw [get_idx hp hi] at e
  rw [e]
  exact ⟨by have := idx_lt hp hi; omega, get_idx hp hi⟩
theorem F_bel {a b : Nat} (h : a < b) (hb : b < W.length) : bel W (F.getD a 0) (F.getD b 0) = true := by
  obtain ⟨hp, hl, hs⟩ := hF
  rw [getD_at (by omega : a < F.length), getD_at (by omega : b < F.length)]
  exact (List.pairwise_iff_getElem.mp hs) a b (by omega) (by omega) h
end
theorem st_lt {W : List Int} {i : Nat} (h : i < W.length) : st W i < W.length := (st_lt' (lf_sort W) h).1
theorem st_inj {W : List Int} {i j : Nat} (hi : i < W.length) (hj : j < W.length) (e : st W i = st W j) : i = j := by
  have a := (st_lt' (lf_sort W) hi).2
  have b := (st_lt' (lf_sort W) hj).2
  rw [← a, ← b, e]
/-- by steps -/
def orb (W : List Int) (s : Nat) : Nat → Nat
  | 0 => s
  | i + 1 => st W (orb W s i)
def One (W : List Int) : Prop := ∀ j, j < W.length → ∃ i, i < W.length ∧ orb W 0 i = j
section
variable {W : List Int} {s : Nat} (hs : s < W.length)
include hs
theorem orb_lt : ∀ i, orb W s i < W.length
  | 0 => hs
  | i + 1 => st_lt (orb_lt i)
theorem orb_back : ∀ {i d : Nat}, orb W s i = orb W s (i + d) → s = orb W s d
  | 0, d, h => by rw [Nat.zero_add] at h; exact h
  | i + 1, d, h => by
    rw [show i + 1 + d = i + d + 1 by omega] at h
    exact orb_back (i := i) (st_inj (orb_lt hs i) (orb_lt hs (i + d)) h)
end
theorem orb_add {W : List Int} {s : Nat} : ∀ {i j : Nat}, orb W s (i + j) = orb W (orb W s i) j
  | i, 0 => rfl
  | i, j + 1 => by
    show st W (orb W s (i + j)) = st W (orb W (orb W s i) j)
    rw [orb_add]
/-- the first return -/
def RD (W : List Int) (d : Nat) : Prop := 1 ≤ d ∧ d ≤ W.length ∧ ((List.range d).map (orb W 0)).Nodup ∧ orb W 0 d ∈ (List.range d).map (orb W 0)
section
variable {W : List Int} {d : Nat} (hW : 0 < W.length) (h : RD W d)
include hW h
theorem rd_zero : orb W 0 d = 0 := by
  obtain ⟨i, hi, e⟩ := List.mem_map.mp h.2.2.2
  have hi := List.mem_range.mp hi
  have q : 0 = orb W 0 (d - i) := orb_back (s := 0) hW (i := i) (d := d - i) (by rw [e]; congr 1; omega)
  by_cases z : i = 0
  · subst z; rw [Nat.sub_zero] at q; exact q.symm
  · exfalso
    have n := h.2.2.1
    have nn := List.pairwise_map.mp n
    have := (List.pairwise_iff_getElem.mp nn) 0 (d - i) (by simp; omega) (by simp; omega) (by omega)
    rw [List.getElem_range, List.getElem_range] at this
    exact this q
theorem rd_mem : ∀ i, orb W 0 i ∈ (List.range d).map (orb W 0)
  | 0 => List.mem_map.mpr ⟨0, List.mem_range.mpr h.1, rfl⟩
  | i + 1 => by
    obtain ⟨j, hj, e⟩ := List.mem_map.mp (rd_mem i)
    have hj := List.mem_range.mp hj
    have e2 : orb W 0 (i + 1) = orb W 0 (j + 1) := by show st W (orb W 0 i) = st W (orb W 0 j); rw [e]
    rw [e2]
    by_cases c : j + 1 < d
    · exact List.mem_map.mpr ⟨j + 1, List.mem_range.mpr c, rfl⟩
    · rw [show j + 1 = d by omega]; exact h.2.2.2
theorem rd_one : d = W.length ↔ One W := by
  constructor
  · intro e j hj
    have hp : IsP ((List.range d).map (orb W 0)) := isP_of h.2.2.1 fun x hx => by
      obtain ⟨i, _, rfl⟩ := List.mem_map.mp hx
      simp only [List.length_map, List.length_range]
      rw [e]; exact orb_lt hW i
    have : j ∈ (List.range d).map (orb W 0) := (isP_mem hp).mpr (by simp; omega)
    obtain ⟨i, hi, e2⟩ := List.mem_map.mp this
    exact ⟨i, by have := List.mem_range.mp hi; omega, e2⟩
  · intro o
    have := pigeon (l1 := List.range W.length) (l2 := (List.range d).map (orb W 0)) List.nodup_range fun j hj => by
      obtain ⟨i, hi, e⟩ := o j (List.mem_range.mp hj)
      rw [← e]
      exact rd_mem hW h i
    simp only [List.length_range, List.length_map] at this
    have := h.2.1
    omega
end
theorem rd_step {W : List Int} (hW : 0 < W.length) {m : Nat} (hm : ((List.range (m + 1)).map (orb W 0)).Nodup) : m + 1 ≤ W.length := by
  have := pigeon (l2 := List.range W.length) hm fun x hx => by
    obtain ⟨i, _, rfl⟩ := List.mem_map.mp hx
    exact List.mem_range.mpr (orb_lt hW i)
  simpa using this
theorem rd_ex {W : List Int} (hW : 0 < W.length) : ∃ d, RD W d := by
  have key : ∀ f m, m + f = W.length → ((List.range (m + 1)).map (orb W 0)).Nodup → ∃ d, RD W d := by
    intro f
    induction f with
    | zero =>
      intro m e h
      have := rd_step hW h
      omega
    | succ f ih =>
      intro m e h
      have le := rd_step hW h
      by_cases c : orb W 0 (m + 1) ∈ (List.range (m + 1)).map (orb W 0)
      · exact ⟨m + 1, by omega, le, h, c⟩
      · refine ih (m + 1) (by omega) ?_
        rw [List.range_succ, List.map_append]
        refine List.nodup_append.mpr ⟨h, by simp, fun a ha b hb => ?_⟩
        simp only [List.map_cons, List.map_nil, List.mem_singleton] at hb
        subst hb
        exact fun z => c (z ▸ ha)
  exact key W.length 0 (by omega) (by simp)
section
variable {W : List Int} (hW : 0 < W.length) (o : One W)
include hW o
theorem one_per : orb W 0 W.length = 0 := by
  obtain ⟨d, hd⟩ := rd_ex hW
  have := (rd_one hW hd).mpr o
  rw [← this]
  exact rd_zero hW hd
theorem one_from {s : Nat} (hs : s < W.length) : orb W s W.length = s ∧ IsP ((List.range W.length).map (orb W s)) := by
  obtain ⟨i0, hi0, rfl⟩ := o s hs
  have pe := one_per hW o
  refine ⟨?_, ?_⟩
  · rw [← orb_add, Nat.add_comm, orb_add, pe]
  · refine isP_map (fun i hi => orb_lt hs i) fun i j hij hj e => ?_
    rw [← orb_add, ← orb_add, show i0 + j = (i0 + i) + (j - i) by omega] at e
    have z := orb_back (s := 0) hW e
    obtain ⟨d, hd⟩ := rd_ex hW
    have dn := (rd_one hW hd).mpr o
    have nn := List.pairwise_map.mp hd.2.2.1
    have := (List.pairwise_iff_getElem.mp nn) 0 (j - i) (by simp; omega) (by simp; omega) (by omega)
    rw [List.getElem_range, List.getElem_range] at this
    exact this z
end
/-! ### closed lots -/
def closed (W : List Int) (l : List Nat) : Bool := l.all fun j => decide (st W j ∈ l)
theorem closed_no {W : List Int} (hW : 0 < W.length) (o : One W) {l : List Nat} (hl : ∀ x ∈ l, x < W.length) (h0 : 0 < l.length) (h1 : l.length < W.length) : closed W l = false := by
  cases e : closed W l with
  | false => rfl
  | true =>
    exfalso
    have cl : ∀ j ∈ l, st W j ∈ l := fun j hj => of_decide_eq_true (List.all_eq_true.mp e j hj)
    obtain ⟨j, hj⟩ := List.exists_mem_of_length_pos h0
    have all : ∀ i, orb W j i ∈ l := fun i => by
      induction i with
      | zero => exact hj
      | succ i ih => exact cl _ ih
    have q := (one_from hW o (hl j hj)).2
    have := pigeon (l1 := List.range W.length) (l2 := l) List.nodup_range fun x hx => by
      have : x ∈ (List.range W.length).map (orb W j) := (isP_mem q).mpr (by simpa using List.mem_range.mp hx)
      obtain ⟨i, _, rfl⟩ := List.mem_map.mp this
      exact all i
    rw [List.length_range] at this
    omega
/-- the indexes that are met -/
def met (W : List Int) (d : Nat) : List Nat := (List.range W.length).filter fun j => decide (j ∈ (List.range d).map (orb W 0))
theorem met_ok {W : List Int} (hW : 0 < W.length) {d : Nat} (h : RD W d) (hn : d ≠ W.length) : closed W (met W d) = true ∧ 0 < (met W d).length ∧ (met W d).length < W.length := by
  have mm : ∀ x, x ∈ met W d ↔ x ∈ (List.range d).map (orb W 0) := fun x => by
    unfold met
    rw [List.mem_filter, List.mem_range, decide_eq_true_iff]
    refine ⟨fun z => z.2, fun z => ⟨?_, z⟩⟩
    obtain ⟨i, _, rfl⟩ := List.mem_map.mp z
    exact orb_lt hW i
  refine ⟨List.all_eq_true.mpr fun j hj => decide_eq_true ?_, List.length_pos_of_mem ((mm 0).mpr (rd_mem hW h 0)), ?_⟩
  · rw [mm] at hj ⊢
    obtain ⟨i, _, rfl⟩ := List.mem_map.mp hj
    exact rd_mem hW h (i + 1)
  · have := pigeon (l1 := met W d) (l2 := (List.range d).map (orb W 0)) (List.nodup_range.filter _) fun x hx => (mm x).mp hx
    simp only [List.length_map, List.length_range] at this
    have := h.2.1
    omega
def lots : Nat → List (List Nat)
  | 0 => [[]]
  | n + 1 => lots n ++ (lots n).map (· ++ [n])
theorem lots_mem : ∀ {n : Nat} {l : List Nat}, l ∈ lots n → l.Pairwise (· < ·) ∧ ∀ x ∈ l, x < n
  | 0, l, h => by
    simp only [lots, List.mem_singleton] at h
    subst h
    simp
  | n + 1, l, h => by
    unfold lots at h
    rcases List.mem_append.mp h with h | h
    · obtain ⟨a, b⟩ := lots_mem h
      exact ⟨a, fun x hx => by have := b x hx; omega⟩
    · obtain ⟨m, hm, rfl⟩ := List.mem_map.mp h
      obtain ⟨a, b⟩ := lots_mem hm
      refine ⟨List.pairwise_append.mpr ⟨a, List.pairwise_singleton _ _, fun x hx y hy => ?_⟩, fun x hx => ?_⟩
      · simp only [List.mem_singleton] at hy
        subst hy
        exact b x hx
      · rcases List.mem_append.mp hx with hx | hx
        · have := b x hx; omega
        · simp only [List.mem_singleton] at hx; omega
theorem lots_has (f : Nat → Bool) : ∀ n, (List.range n).filter f ∈ lots n
  | 0 => by simp [lots]
  | n + 1 => by
    unfold lots
    rw [List.range_succ, List.filter_append]
    by_cases c : f n = true
    · rw [show [n].filter f = [n] by simp [c]]
      exact List.mem_append.mpr (.inr (List.mem_map.mpr ⟨_, lots_has f n, rfl⟩))
    · rw [show [n].filter f = [] by simp [c], List.append_nil]
      exact List.mem_append.mpr (.inl (lots_has f n))
theorem lots_len : ∀ n, (lots n).length = 2 ^ n
  | 0 => rfl
  | n + 1 => by
    unfold lots
    rw [List.length_append, List.length_map, lots_len n, Nat.pow_succ]
    omega
/-- some lot shows it exactly if steps do not lead to all -/
theorem lots_any {W : List Int} (hW : 0 < W.length) {d : Nat} (h : RD W d) : ((lots W.length).any fun l => closed W l && (decide (0 < l.length) && decide (l.length < W.length))) = !decide (d = W.length) := by
  rw [Bool.eq_iff_iff, List.any_eq_true, Bool.not_eq_true', decide_eq_false_iff_not]
  constructor
  · rintro ⟨l, hl, e⟩ q
    rw [Bool.and_eq_true, Bool.and_eq_true, decide_eq_true_iff, decide_eq_true_iff] at e
    have := closed_no hW ((rd_one hW h).mp q) (lots_mem hl).2 e.2.1 e.2.2
    rw [this] at e
    exact Bool.false_ne_true e.1
  · intro q
    obtain ⟨a, b, c⟩ := met_ok hW h q
    exact ⟨met W d, lots_has _ _, by rw [a, decide_eq_true b, decide_eq_true c]; rfl⟩
end Mth

set_option Elab.async false
set_option linter.all false
/-! Mth7: columns of texts, and steps in them. -/
namespace Mth
/-! ### rings -/
def prv (N m : Nat) : Nat := (m + N - 1) % N
def nxt (N m : Nat) : Nat := (m + 1) % N
theorem nxt_lt {N m : Nat} (h : m < N) : nxt N m < N := Nat.mod_lt _ (by omega)
theorem prv_lt {N m : Nat} (h : m < N) : prv N m < N := Nat.mod_lt _ (by omega)
theorem nxt_eq {N m : Nat} (h : m < N) : nxt N m = if m + 1 < N then m + 1 else 0 := by
  unfold nxt
  split
  · rename_i c; exact Nat.mod_eq_of_lt c
  · rw [show m + 1 = N by omega, Nat.mod_self]
theorem prv_eq {N m : Nat} (h : m < N) : prv N m = if m = 0 then N - 1 else m - 1 := by
  unfold prv
  split
  · rename_i c; subst c; rw [Nat.zero_add]; exact Nat.mod_eq_of_lt (by omega)
  · rename_i c
    rw [show m + N - 1 = (m - 1) + N by omega, Nat.add_mod_right]
    exact Nat.mod_eq_of_lt (by omega)
theorem nxt_prv {N m : Nat} (h : m < N) : nxt N (prv N m) = m := by
  rw [nxt_eq (prv_lt h), prv_eq h]
  by_cases c : m = 0
  · rw [if_pos c, if_neg (by omega)]; omega
  · rw [if_neg c, if_pos (by omega)]; omega
theorem prv_nxt {N m : Nat} (h : m < N) : prv N (nxt N m) = m := by
  rw [prv_eq (nxt_lt h), nxt_eq h]
  by_cases c : m + 1 < N
  · rw [if_pos c, if_neg (by omega)]; omega
  · rw [if_neg c, if_pos rfl]; omega
theorem fol_ri {w : List Nat} {a : Nat} (hp : IsP w) (h : a < w.length) : (fol .ri w).getD a 0 = ((w.idxOf (nxt w.length (w.getD a 0)) : Nat) : Int) := by
  rw [fol_at .ri w h, getD_at h, nxt_eq (isP_at hp h)]
  by_cases c : w[a] + 1 < w.length
  · rw [if_pos c, if_pos c]
  · rw [if_neg c, if_neg c]; rfl
/-- what stands ahead of sorted rings -/
def colR (w : List Nat) (T : List Int) : List Int := w.map fun m => T.getD (prv w.length m) 0
theorem colR_len {w : List Nat} {T : List Int} : (colR w T).length = w.length := by simp [colR]
theorem colR_at {w : List Nat} {T : List Int} {j : Nat} (h : j < w.length) : (colR w T).getD j 0 = T.getD (prv w.length (w.getD j 0)) 0 := by
  unfold colR
  rw [List.getD_eq_getElem?_getD, List.getElem?_map, List.getElem?_eq_getElem h, getD_at h]
  rfl
/-- sorted rings fit -/
theorem ri_fit {c : Int} {T : List Int} {w : List Nat} (h : spots .ri c T = some w) : IsP w ∧ T.length = w.length ∧ Fit .ri w T := by
  obtain ⟨pe, hs⟩ := spots_back h
  have le := pe.length_eq
  rw [List.length_range] at le
  have hp : IsP w := by unfold IsP; rw [le]; exact pe
  refine ⟨hp, le.symm, fun a ha => ?_⟩
  have h0 : a < w.length := by omega
  have lt := srt_lt hp hs (a := a) (b := a + 1) ha (by omega)
  have m1 : w.getD a 0 < T.length := by rw [← le]; exact isP_get hp h0
  have m2 : w.getD (a + 1) 0 < T.length := by rw [← le]; exact isP_get hp ha
  refine ⟨?_, fun e => (one_on hp le.symm hs (.inl rfl) ha e).1⟩
  rw [r_cons m1, r_cons m2] at lt
  rcases lx_cons.mp lt with z | z <;> omega
theorem fit_ri {c : Int} {T : List Int} {w : List Nat} (hp : IsP w) (hl : T.length = w.length) (hf : Fit .ri w T) : spots .ri c T = some w := fit_spots hp hl hf c (.inl rfl)
section
variable {w : List Nat} {T : List Int} (hp : IsP w) (hl : T.length = w.length) (hf : Fit .ri w T)
include hp hl hf
/-- the steps in the column of sorted rings go one place back -/
theorem col_LF : LF (colR w T) (w.map fun m => w.idxOf (nxt w.length m)) := by
  have gm : ∀ a, a < w.length → (w.map fun m => w.idxOf (nxt w.length m)).getD a 0 = w.idxOf (nxt w.length (w.getD a 0)) := fun a h => by
    rw [List.getD_eq_getElem?_getD, List.getElem?_map, List.getElem?_eq_getElem h, getD_at h]
    rfl
  refine ⟨isP_of ?_ ?_, by rw [colR_len]; simp, ?_⟩
  · refine List.pairwise_map.mpr ((List.pairwise_iff_getElem).mpr fun i j hi hj hij e => ?_)
    have q := idx_inj hp (nxt_lt (isP_at hp hi)) (nxt_lt (isP_at hp hj)) e
    have q2 : w[i] = w[j] := by rw [← prv_nxt (isP_at hp hi), ← prv_nxt (isP_at hp hj), q]
    have a := idx_at hp hi
    have b := idx_at hp hj
    rw [q2] at a
    omega
  · intro x hx
    obtain ⟨m, hm, rfl⟩ := List.mem_map.mp hx
    rw [List.length_map]
    exact idx_lt hp (nxt_lt ((isP_mem hp).mp hm))
  · rw [List.pairwise_iff_getElem]
    intro i j hi hj hij
    rw [List.length_map] at hi hj
    rw [List.getElem_map, List.getElem_map, bel_iff]
    have li := idx_lt hp (nxt_lt (isP_at hp hi))
    have lj := idx_lt hp (nxt_lt (isP_at hp hj))
    rw [colR_at li, colR_at lj, get_idx hp (nxt_lt (isP_at hp hi)), get_idx hp (nxt_lt (isP_at hp hj)), prv_nxt (isP_at hp hi), prv_nxt (isP_at hp hj)]
    obtain ⟨d, rfl⟩ : ∃ d, j = i + d + 1 := ⟨j - i - 1, by omega⟩
    obtain ⟨q1, q2⟩ := fit_all hf d i hj
    rw [getD_at hi, getD_at hj] at q1 q2
    by_cases e : T.getD w[i] 0 = T.getD w[i + d + 1] 0
    · have := q2 e
      rw [fol_ri hp hi, fol_ri hp hj, getD_at hi, getD_at hj] at this
      omega
    · omega
theorem col_st {m : Nat} (h : m < w.length) : st (colR w T) (w.idxOf (nxt w.length m)) = w.idxOf m := by
  have L := col_LF hp hl hf
  have li := idx_lt hp h
  have := st_F L (b := w.idxOf m) (by rw [colR_len]; exact li)
  have gm : (w.map fun m => w.idxOf (nxt w.length m)).getD (w.idxOf m) 0 = w.idxOf (nxt w.length m) := by
    rw [List.getD_eq_getElem?_getD, List.getElem?_map, List.getElem?_eq_getElem li, at_idx hp h]
    rfl
  rw [gm] at this
  exact this
theorem col_orb : ∀ i, i ≤ w.length → 0 < w.length → orb (colR w T) 0 i = w.idxOf ((w.getD 0 0 + (w.length - i)) % w.length)
  | 0, _, h0 => by
    rw [Nat.sub_zero, Nat.add_mod_right, Nat.mod_eq_of_lt (isP_get hp h0), idx_get hp h0]
    rfl
  | i + 1, hi, h0 => by
    show st (colR w T) (orb (colR w T) 0 i) = _
    rw [col_orb i (by omega) h0]
    have e : (w.getD 0 0 + (w.length - i)) % w.length = nxt w.length ((w.getD 0 0 + (w.length - (i + 1))) % w.length) := by
      unfold nxt
      rw [Nat.mod_add_mod]
      congr 1
      omega
    rw [e, col_st hp hl hf (Nat.mod_lt _ h0)]
theorem col_one (h0 : 0 < w.length) : One (colR w T) := by
  intro j hj
  rw [colR_len] at hj ⊢
  have q := isP_get hp hj
  have q0 := isP_get hp h0
  by_cases c : w.getD j 0 ≤ w.getD 0 0
  · refine ⟨w.getD 0 0 - w.getD j 0, by omega, ?_⟩
    rw [col_orb hp hl hf _ (by omega) h0, show w.getD 0 0 + (w.length - (w.getD 0 0 - w.getD j 0)) = w.getD j 0 + w.length by omega, Nat.add_mod_right, Nat.mod_eq_of_lt q, idx_get hp hj]
  · refine ⟨w.getD 0 0 + w.length - w.getD j 0, by omega, ?_⟩
    rw [col_orb hp hl hf _ (by omega) h0, show w.getD 0 0 + (w.length - (w.getD 0 0 + w.length - w.getD j 0)) = w.getD j 0 by omega, Nat.mod_eq_of_lt q, idx_get hp hj]
end
/-! ### read back -/
def invP (rs : List Nat) : List Nat := (List.range rs.length).map fun a => rs.idxOf a
theorem invP_len {rs : List Nat} : (invP rs).length = rs.length := by simp [invP]
theorem invP_at {rs : List Nat} {a : Nat} (h : a < rs.length) : (invP rs).getD a 0 = rs.idxOf a := get_map h
theorem invP_isP {rs : List Nat} (hr : IsP rs) : IsP (invP rs) := by
  refine isP_map (fun i hi => idx_lt hr hi) fun i j hij hj e => ?_
  have := idx_inj hr (by omega) hj e
  omega
theorem invP_idx {rs : List Nat} (hr : IsP rs) {m : Nat} (h : m < rs.length) : (invP rs).idxOf m = rs.getD m 0 := by
  have hi := invP_isP hr
  have l := isP_get hr h
  have e : (invP rs).getD (rs.getD m 0) 0 = m := by rw [invP_at l, idx_get hr h]
  have := idx_get hi (a := rs.getD m 0) (by rw [invP_len]; exact l)
  rw [e] at this
  exact this
section
variable {W : List Int} {rs : List Nat} (hr : IsP rs) (hl : rs.length = W.length) (hs : ∀ m, m < W.length → st W (rs.getD (nxt W.length m) 0) = rs.getD m 0)
/-- the text along ranks of places -/
def along (W : List Int) (rs : List Nat) : List Int := (List.range W.length).map fun m => W.getD (rs.getD (nxt W.length m) 0) 0
theorem along_len : (along W rs).length = W.length := by simp [along]
theorem along_at {m : Nat} (h : m < W.length) : (along W rs).getD m 0 = W.getD (rs.getD (nxt W.length m) 0) 0 := get_map h
include hr hl hs
theorem along_fit : Fit .ri (invP rs) (along W rs) := by
  have L := lf_sort W
  generalize isort (bel W) (List.range W.length) = F at L
  have hi := invP_isP hr
  have il := invP_len (rs := rs)
  -- behind a rank stands its index in F
  have key : ∀ a, a < rs.length → (invP rs).getD a 0 < W.length ∧ rs.getD (nxt W.length ((invP rs).getD a 0)) 0 = F.getD a 0 := fun a ha => by
    have m1 : (invP rs).getD a 0 < W.length := by rw [← hl, ← il]; exact isP_get hi (by omega)
    refine ⟨m1, ?_⟩
    have n1 : rs.getD (nxt W.length ((invP rs).getD a 0)) 0 < W.length := by rw [← hl]; exact isP_get hr (by rw [hl]; exact nxt_lt m1)
    have s1 := (st_lt' L n1).2
    rw [hs _ m1] at s1
    have : rs.getD ((invP rs).getD a 0) 0 = a := by rw [invP_at ha]; exact get_idx hr ha
    rw [this] at s1
    exact s1.symm
  have T1 : ∀ a, a < rs.length → (along W rs).getD ((invP rs).getD a 0) 0 = W.getD (F.getD a 0) 0 ∧ (fol .ri (invP rs)).getD a 0 = ((F.getD a 0 : Nat) : Int) := fun a ha => by
    obtain ⟨k1, k2⟩ := key a ha
    refine ⟨by rw [along_at k1, k2], ?_⟩
    rw [fol_ri hi (by omega), il, invP_idx hr (nxt_lt (by omega)), hl, k2]
  intro a ha
  rw [il] at ha
  obtain ⟨a1, a2⟩ := T1 a (by omega)
  obtain ⟨b1, b2⟩ := T1 (a + 1) ha
  have b := F_bel L (a := a) (b := a + 1) (by omega) (by omega)
  rw [bel_iff] at b
  rw [a1, a2, b1, b2]
  omega
theorem along_col : colR (invP rs) (along W rs) = W := by
  have hi := invP_isP hr
  have il := invP_len (rs := rs)
  refine List.ext_getElem (by rw [colR_len]; omega) fun j h1 h2 => ?_
  have hj : j < (invP rs).length := by omega
  have m1 : (invP rs).getD j 0 < W.length := by have := isP_get hi hj; omega
  have := colR_at (T := along W rs) hj
  rw [show (invP rs).length = W.length by omega, along_at (prv_lt m1), nxt_prv m1, invP_at (by omega), get_idx hr (by omega)] at this
  rw [List.getD_eq_getElem?_getD, List.getElem?_eq_getElem h1, List.getD_eq_getElem?_getD, List.getElem?_eq_getElem h2] at this
  exact this
end
/-! ### texts and their marks -/
def wo (c : Int) (k : Kd) (x : Int) : Int := if k = .la ∧ x = -1 then c else x
def mk (k : Kd) (c : Int) : Int := match k with
  | .la => c
  | _ => -1
def ext (k : Kd) (c : Int) (t : List Int) : List Int := match k with
  | .ri => t
  | k => t ++ [mk k c]
def whole (k : Kd) (p : List Nat) : List Nat := match k with
  | .ri => p
  | .fi => p.length :: p
  | .la => p ++ [p.length]
/-- the column of a text with an order -/
def aheadT (k : Kd) (t : List Int) (p : List Nat) : List Int := match k with
  | .ri => p.map fun m => t.getD (prv p.length m) 0
  | k => (whole k p).map fun m => if m = 0 then -1 else t.getD (m - 1) 0
def Let (c : Int) (t : List Int) : Prop := ∀ x ∈ t, 0 ≤ x ∧ x < c
theorem whole_isP {k : Kd} {p : List Nat} (hp : IsP p) : IsP (whole k p) := by
  cases k with
  | ri => exact hp
  | fi =>
    refine isP_of (List.nodup_cons.mpr ⟨fun h => by have := (isP_mem hp).mp h; omega, isP_nodup hp⟩) fun x hx => ?_
    have e : (whole .fi p).length = p.length + 1 := rfl
    rw [e]
    rcases List.mem_cons.mp hx with rfl | hx
    · omega
    · have := (isP_mem hp).mp hx; omega
  | la =>
    have e : (whole .la p).length = p.length + 1 := by simp [whole]
    refine isP_of (List.nodup_append.mpr ⟨isP_nodup hp, by simp, fun a ha b hb => ?_⟩) fun x hx => ?_
    · simp only [List.mem_singleton] at hb
      subst hb
      have := (isP_mem hp).mp ha; omega
    · rw [e]
      rcases List.mem_append.mp hx with hx | hx
      · have := (isP_mem hp).mp hx; omega
      · simp only [List.mem_singleton] at hx; omega
theorem lx_stop {μ : Int} {us vs : List Int} : ∀ {xs ys : List Int}, (∀ x ∈ xs, x ≠ μ) → (∀ x ∈ ys, x ≠ μ) → xs.length ≠ ys.length → lx (xs ++ μ :: us) (ys ++ μ :: vs) = lx (xs ++ [μ]) (ys ++ [μ])
  | [], [], _, _, h => absurd rfl h
  | [], y :: ys, _, h, _ => by
    have := h y (List.mem_cons_self ..)
    show (if μ = y then _ else decide (μ < y)) = if μ = y then _ else decide (μ < y)
    rw [if_neg (Ne.symm this), if_neg (Ne.symm this)]
  | x :: xs, [], h, _, _ => by
    have := h x (List.mem_cons_self ..)
    show (if x = μ then _ else decide (x < μ)) = if x = μ then _ else decide (x < μ)
    rw [if_neg this, if_neg this]
  | x :: xs, y :: ys, h, g, hl => by
    show (if x = y then lx (xs ++ μ :: us) (ys ++ μ :: vs) else decide (x < y)) = if x = y then lx (xs ++ [μ]) (ys ++ [μ]) else decide (x < y)
    rw [lx_stop (fun z hz => h z (List.mem_cons_of_mem _ hz)) (fun z hz => g z (List.mem_cons_of_mem _ hz)) (by simpa using hl)]
theorem eAt_open {k : Kd} (hk : k ≠ .ri) {c : Int} {t : List Int} {i : Nat} : eAt k c t i = t.drop i ++ [mk k c] := by
  cases k with
  | ri => exact absurd rfl hk
  | fi => rfl
  | la => rfl
theorem ext_open {k : Kd} (hk : k ≠ .ri) {c : Int} {t : List Int} : ext k c t = t ++ [mk k c] := by
  cases k with
  | ri => exact absurd rfl hk
  | fi => rfl
  | la => rfl
theorem mk_ne {k : Kd} {c : Int} {t : List Int} (hk : k ≠ .ri) (hc : 0 ≤ c) (ht : Let c t) : ∀ x ∈ t, x ≠ mk k c := fun x hx => by
  have := ht x hx
  cases k with
  | ri => exact absurd rfl hk
  | fi => show x ≠ -1; omega
  | la => show x ≠ c; omega
/-- sorted with their marks, as rings -/
theorem ext_lx {k : Kd} {c : Int} {t : List Int} (hk : k ≠ .ri) (hc : 0 ≤ c) (ht : Let c t) {i j : Nat} (hi : i ≤ t.length) (hj : j ≤ t.length) (h : i ≠ j) : lx (eAt .ri c (ext k c t) i) (eAt .ri c (ext k c t) j) = lx (eAt k c t i) (eAt k c t j) := by
  have hd : ∀ i, i ≤ t.length → eAt .ri c (ext k c t) i = t.drop i ++ mk k c :: t.take i := fun i hi => by
    show (ext k c t).drop i ++ (ext k c t).take i = _
    rw [ext_open hk, List.drop_append_of_le_length hi, List.take_append_of_le_length hi, List.append_assoc]
    rfl
  rw [hd i hi, hd j hj, eAt_open hk, eAt_open hk]
  exact lx_stop (fun x hx => mk_ne hk hc ht x (List.mem_of_mem_drop hx)) (fun x hx => mk_ne hk hc ht x (List.mem_of_mem_drop hx)) (by simp; omega)
theorem end_first {c : Int} {t : List Int} (ht : Let c t) {m : Nat} (hm : m < t.length) : lx (eAt .fi c t t.length) (eAt .fi c t m) = true := by
  show lx (t.drop t.length ++ [-1]) _ = true
  rw [List.drop_length, e_cons (by simp) hm]
  exact lx_cons.mpr (.inl (by have := ht _ (mem_at hm); omega))
theorem end_last {c : Int} {t : List Int} (ht : Let c t) {m : Nat} (hm : m < t.length) : lx (eAt .la c t m) (eAt .la c t t.length) = true := by
  show lx _ (t.drop t.length ++ [c]) = true
  rw [List.drop_length, e_cons (by simp) hm]
  exact lx_cons.mpr (.inl (by have := ht _ (mem_at hm); omega))
theorem spots_isP {k : Kd} {c : Int} {t : List Int} {p : List Nat} (h : spots k c t = some p) : IsP p ∧ t.length = p.length := by
  obtain ⟨pe, _⟩ := spots_back h
  have le := pe.length_eq
  rw [List.length_range] at le
  refine ⟨?_, le.symm⟩
  unfold IsP
  rw [le]
  exact pe
theorem ext_len {k : Kd} {c : Int} {t : List Int} {p : List Nat} (hl : t.length = p.length) : (ext k c t).length = (whole k p).length := by
  cases k <;> simp [ext, whole, hl]
theorem sp_ext {k : Kd} {c : Int} {t : List Int} {p : List Nat} (hc : 0 ≤ c) (ht : Let c t) (h : spots k c t = some p) : spots .ri c (ext k c t) = some (whole k p) := by
  by_cases hk : k = .ri
  · subst hk; exact h
  obtain ⟨hp, hl⟩ := spots_isP h
  have hs := (spots_back h).2
  refine spots_of (whole_isP hp) (ext_len hl) ?_
  have hpm : ∀ x ∈ p, x < t.length := fun x hx => by have := (isP_mem hp).mp hx; omega
  have hs2 : p.Pairwise fun i j => lx (eAt .ri c (ext k c t) i) (eAt .ri c (ext k c t) j) = true := by
    rw [List.pairwise_iff_getElem] at hs ⊢
    intro i j hi hj hij
    have a := hpm _ (List.getElem_mem hi)
    have b := hpm _ (List.getElem_mem hj)
    rw [ext_lx hk hc ht (by omega) (by omega) (fun e => by
      have x := idx_at hp hi
      have y := idx_at hp hj
      rw [e] at x
      omega)]
    exact hs i j hi hj hij
  cases k with
  | ri => exact absurd rfl hk
  | fi =>
    refine List.pairwise_cons.mpr ⟨fun x hx => ?_, hs2⟩
    have := hpm x hx
    rw [← hl, ext_lx hk hc ht (by omega) (by omega) (by omega)]
    exact end_first ht this
  | la =>
    refine List.pairwise_append.mpr ⟨hs2, List.pairwise_singleton _ _, fun x hx y hy => ?_⟩
    simp only [List.mem_singleton] at hy
    subst hy
    have := hpm x hx
    rw [← hl, ext_lx hk hc ht (by omega) (by omega) (by omega)]
    exact end_last ht this
theorem ext_sp {k : Kd} {c : Int} {t : List Int} {w : List Nat} (hc : 0 ≤ c) (ht : Let c t) (h : spots .ri c (ext k c t) = some w) : ∃ p, w = whole k p ∧ spots k c t = some p := by
  by_cases hk : k = .ri
  · subst hk; exact ⟨w, rfl, h⟩
  obtain ⟨hw, hl⟩ := spots_isP h
  have hs := (spots_back h).2
  have el : (ext k c t).length = t.length + 1 := by rw [ext_open hk]; simp
  have hm : ∀ x, x ∈ w ↔ x ≤ t.length := fun x => by rw [isP_mem hw]; omega
  have nd := isP_nodup hw
  -- from what is sorted with its mark to what is sorted
  have fin : ∀ p : List Nat, (∀ x ∈ p, x < t.length) → p.length = t.length → p.Nodup → (p.Pairwise fun i j => lx (eAt .ri c (ext k c t) i) (eAt .ri c (ext k c t) j) = true) → spots k c t = some p := fun p h1 h2 h3 h4 => by
    have hp : IsP p := isP_of h3 fun x hx => by have := h1 x hx; omega
    refine spots_of hp h2.symm ?_
    rw [List.pairwise_iff_getElem] at h4 ⊢
    intro i j hi hj hij
    have a := h1 _ (List.getElem_mem hi)
    have b := h1 _ (List.getElem_mem hj)
    rw [← ext_lx hk hc ht (by omega) (by omega) (fun e => by
      have x := idx_at hp hi
      have y := idx_at hp hj
      rw [e] at x
      omega)]
    exact h4 i j hi hj hij
  cases k with
  | ri => exact absurd rfl hk
  | fi =>
    cases w with
    | nil => simp [el] at hl
    | cons a r =>
      have s0 := List.pairwise_cons.mp hs
      have n0 := List.nodup_cons.mp nd
      have ea : a = t.length := by
        refine Decidable.byContradiction fun z => ?_
        have ha := (hm a).mp (List.mem_cons_self ..)
        have hn := (hm t.length).mpr (Nat.le_refl _)
        have hr : t.length ∈ r := by
          rcases List.mem_cons.mp hn with q | q
          · exact absurd q.symm z
          · exact q
        have q := s0.1 _ hr
        rw [ext_lx hk hc ht ha (Nat.le_refl _) z] at q
        rw [lx_asym (end_first ht (by omega))] at q
        cases q
      subst ea
      have rl : r.length = t.length := by simp only [List.length_cons] at hl; omega
      refine ⟨r, by show _ = r.length :: r; rw [rl], fin r (fun x hx => ?_) rl n0.2 s0.2⟩
      have h1 := (hm x).mp (List.mem_cons_of_mem _ hx)
      have : x ≠ t.length := fun z => n0.1 (z ▸ hx)
      omega
  | la =>
    rcases List.eq_nil_or_concat w with rfl | ⟨r, a, rfl⟩
    · simp [el] at hl
    · rw [List.concat_eq_append] at *
      have s0 := List.pairwise_append.mp hs
      have n0 := List.nodup_append.mp nd
      have ea : a = t.length := by
        refine Decidable.byContradiction fun z => ?_
        have ha := (hm a).mp (by simp)
        have hn := (hm t.length).mpr (Nat.le_refl _)
        have hr : t.length ∈ r := by
          rcases List.mem_append.mp hn with q | q
          · exact q
          · exact absurd (List.mem_singleton.mp q).symm z
        have q := s0.2.2 _ hr a (by simp)
        rw [ext_lx hk hc ht (Nat.le_refl _) ha (Ne.symm z)] at q
        rw [lx_asym (end_last ht (by omega))] at q
        cases q
      subst ea
      have rl : r.length = t.length := by simp only [List.length_append, List.length_cons, List.length_nil] at hl; omega
      refine ⟨r, by show _ = r ++ [r.length]; rw [rl], fin r (fun x hx => ?_) rl n0.1 s0.1⟩
      have h1 := (hm x).mp (List.mem_append.mpr (.inl hx))
      have : x ≠ t.length := n0.2.2 x hx _ (by simp)
      omega
theorem ahead_len {k : Kd} {t : List Int} {p : List Nat} : (aheadT k t p).length = (whole k p).length := by cases k <;> simp [aheadT, whole]
/-- the column, by its worth -/
theorem ahead_wo {k : Kd} {c : Int} {t : List Int} {p : List Nat} (hp : IsP p) (hl : t.length = p.length) (hc : 0 ≤ c) (ht : Let c t) : (aheadT k t p).map (wo c k) = colR (whole k p) (ext k c t) := by
  by_cases hk : k = .ri
  · subst hk
    show (p.map fun m => t.getD (prv p.length m) 0).map (wo c .ri) = p.map fun m => t.getD (prv p.length m) 0
    rw [List.map_map]
    apply List.map_congr_left
    intro m hm
    show wo c .ri _ = _
    unfold wo
    rw [if_neg (fun z => by cases z.1)]
  · have e : aheadT k t p = (whole k p).map fun m => if m = 0 then -1 else t.getD (m - 1) 0 := by cases k with | ri => exact absurd rfl hk | fi => rfl | la => rfl
    have wl : (whole k p).length = t.length + 1 := by cases k with | ri => exact absurd rfl hk | fi => simp [whole, hl] | la => simp [whole, hl]
    rw [e, List.map_map]
    unfold colR
    apply List.map_congr_left
    intro m hm
    have hm2 := (isP_mem (whole_isP (k := k) hp)).mp hm
    show wo c k (if m = 0 then -1 else t.getD (m - 1) 0) = (ext k c t).getD (prv (whole k p).length m) 0
    rw [prv_eq hm2, ext_open hk, wl]
    by_cases z : m = 0
    · rw [if_pos z, if_pos z, Nat.add_sub_cancel, List.getD_eq_getElem?_getD, List.getElem?_append_right (Nat.le_refl _), Nat.sub_self]
      unfold wo
      cases k with
      | ri => exact absurd rfl hk
      | fi => rw [if_neg (fun z => by cases z.1)]; rfl
      | la => rw [if_pos ⟨rfl, rfl⟩]; rfl
    · rw [if_neg z, if_neg z, List.getD_eq_getElem?_getD (l := t ++ _), List.getElem?_append_left (by omega), ← List.getD_eq_getElem?_getD]
      have := ht _ (mem_at (by omega : m - 1 < t.length))
      unfold wo
      rw [if_neg (fun z => by omega)]
/-! ### rows -/
/-- a row of letters with as many marks as a column has -/
def Row (k : Kd) (c : Int) (R : List Int) : Prop := (∀ x ∈ R, -1 ≤ x ∧ x < c) ∧ 1 ≤ R.length ∧ (k = .ri → ∀ x ∈ R, 0 ≤ x) ∧ (k ≠ .ri → 2 ≤ R.length ∧ ∃ z, z < R.length ∧ ∀ j, j < R.length → (R.getD j 0 = -1 ↔ j = z))
def worth (c : Int) (k : Kd) (R : List Int) : List Int := R.map (wo c k)
theorem worth_len {c : Int} {k : Kd} {R : List Int} : (worth c k R).length = R.length := by simp [worth]
theorem worth_at {c : Int} {k : Kd} {R : List Int} {j : Nat} (h : j < R.length) : (worth c k R).getD j 0 = wo c k (R.getD j 0) := by
  unfold worth
  rw [List.getD_eq_getElem?_getD, List.getElem?_map, List.getD_eq_getElem?_getD, List.getElem?_eq_getElem h]
  rfl
/-- T1: the column of a text: steps lead to all -/
theorem has_one {k : Kd} {c : Int} {t R : List Int} {p : List Nat} (hc : 0 ≤ c) (ht : Let c t) (h0 : 0 < R.length) (h : spots k c t = some p) (e : aheadT k t p = R) : One (worth c k R) := by
  obtain ⟨hp, hl⟩ := spots_isP h
  obtain ⟨w1, w2, w3⟩ := ri_fit (sp_ext hc ht h)
  have := ahead_wo (k := k) hp hl hc ht
  unfold worth
  rw [← e, this]
  refine col_one w1 w2 w3 ?_
  rw [← ahead_len (t := t), e]
  exact h0
theorem mem_get {R : List Int} {j : Nat} (h : j < R.length) : R.getD j 0 ∈ R := mem_at h
theorem wo_inj {c : Int} {k : Kd} {x y : Int} (hx : x < c) (hy : y < c) (e : wo c k x = wo c k y) : x = y := by
  unfold wo at e
  split at e <;> split at e <;> omega
/-- what is read back -/
def strt (k : Kd) (N : Nat) : Nat := if k = .la then N - 1 else 0
def readB (c : Int) (k : Kd) (R : List Int) (m : Nat) : List Int := ((List.range m).map fun i => R.getD (orb (worth c k R) (strt k R.length) i) 0).reverse
def backT (c : Int) (k : Kd) (R : List Int) : List Int := (readB c k R R.length).filter fun x => !decide (x = -1)
theorem map_inj {c : Int} {k : Kd} : ∀ {a b : List Int}, (∀ x ∈ a, x < c) → (∀ x ∈ b, x < c) → a.map (wo c k) = b.map (wo c k) → a = b
  | [], [], _, _, _ => rfl
  | [], _ :: _, _, _, h => by simp at h
  | _ :: _, [], _, _, h => by simp at h
  | x :: a, y :: b, ha, hb, h => by
    simp only [List.map_cons, List.cons.injEq] at h
    rw [wo_inj (ha x (List.mem_cons_self ..)) (hb y (List.mem_cons_self ..)) h.1, map_inj (fun z hz => ha z (List.mem_cons_of_mem _ hz)) (fun z hz => hb z (List.mem_cons_of_mem _ hz)) h.2]
theorem rev_range {α : Type} {f : Nat → α} {n : Nat} : ((List.range n).map f).reverse = (List.range n).map fun m => f (n - 1 - m) := by
  refine List.ext_getElem (by simp) fun j h1 h2 => ?_
  simp only [List.length_reverse, List.length_map, List.length_range] at h1
  rw [List.getElem_reverse, List.getElem_map, List.getElem_map, List.getElem_range, List.getElem_range]
  congr 1
  simp
/-- the mark goes to where one starts -/
theorem st_mark {k : Kd} {c : Int} {R : List Int} (hr : Row k c R) (hk : k ≠ .ri) {z : Nat} (hz : z < R.length) (hm : ∀ j, j < R.length → (R.getD j 0 = -1 ↔ j = z)) : st (worth c k R) z = strt k R.length := by
  have hzm := (hm z hz).mpr rfl
  unfold st
  rw [worth_len]
  cases k with
  | ri => exact absurd rfl hk
  | fi =>
    have : ((List.range R.length).filter fun j => bel (worth c .fi R) j z) = [] := List.filter_eq_nil_iff.mpr fun j hj hb => by
      have hj := List.mem_range.mp hj
      rw [bel_iff, worth_at hj, worth_at hz, hzm] at hb
      have a := hr.1 _ (mem_get hj)
      have b := hm j hj
      unfold wo at hb
      rw [if_neg (fun z => by cases z.1), if_neg (fun z => by cases z.1)] at hb
      omega
    rw [this]
    rfl
  | la =>
    have e : ((List.range R.length).filter fun j => bel (worth c .la R) j z) = (List.range R.length).filter fun j => decide (j ≠ z) := by
      refine List.filter_congr fun j hj => ?_
      have hj := List.mem_range.mp hj
      have a := hr.1 _ (mem_get hj)
      have b := hm j hj
      rw [Bool.eq_iff_iff, bel_iff, worth_at hj, worth_at hz, hzm, decide_eq_true_iff]
      have w1 : wo c .la (-1) = c := by unfold wo; rw [if_pos ⟨rfl, rfl⟩]
      rw [w1]
      constructor
      · intro q e
        subst e
        rw [hzm, w1] at q
        omega
      · intro q
        unfold wo
        rw [if_neg (fun y => q (b.mp y.2))]
        exact .inl a.2
    rw [e]
    have pe : (List.range R.length).Perm (z :: (List.range R.length).erase z) := List.perm_cons_erase (List.mem_range.mpr hz)
    have l1 := (pe.filter fun j => decide (j ≠ z)).length_eq
    rw [List.filter_cons, if_neg (by simp), List.Nodup.erase_eq_filter List.nodup_range, List.filter_filter] at l1
    have l2 := pe.length_eq
    rw [List.length_range, List.length_cons, List.length_erase_of_mem (List.mem_range.mpr hz), List.length_range] at l2
    have l3 : ((List.range R.length).erase z).length = R.length - 1 := by rw [List.length_erase_of_mem (List.mem_range.mpr hz), List.length_range]
    rw [List.Nodup.erase_eq_filter List.nodup_range] at l3
    show _ = R.length - 1
    rw [← l3]
    congr 1
    refine List.filter_congr fun j _ => ?_
    by_cases q : j = z <;> simp [q]
/-- T2: where steps lead to all, what is read back has the column -/
theorem back_has {k : Kd} {c : Int} {R : List Int} (hc : 0 ≤ c) (hr : Row k c R) (o : One (worth c k R)) : ∃ p, spots k c (backT c k R) = some p ∧ aheadT k (backT c k R) p = R ∧ Let c (backT c k R) := by
  have N0 : 0 < R.length := by have := hr.2.1; omega
  have wl := worth_len (c := c) (k := k) (R := R)
  have sl : strt k R.length < (worth c k R).length := by rw [wl]; unfold strt; split <;> omega
  obtain ⟨pe, hx⟩ := one_from (by rw [wl]; exact N0) o sl
  rw [wl] at pe hx
  generalize hs : strt k R.length = s at *
  have xg : ∀ i, i < R.length → ((List.range R.length).map (orb (worth c k R) s)).getD i 0 = orb (worth c k R) s i := fun i h => get_map h
  have ol := orb_lt sl
  rw [wl] at ol
  have xinj : ∀ i j, i < R.length → j < R.length → orb (worth c k R) s i = orb (worth c k R) s j → i = j := fun i j hi hj e => get_inj hx (by simpa using hi) (by simpa using hj) (by rw [xg i hi, xg j hj, e])
  by_cases hk : k = .ri
  · subst hk
    -- ranks of places
    let rs := (List.range R.length).map fun m => orb (worth c .ri R) s (if m = 0 then 0 else R.length - m)
    have rsl : rs.length = R.length := by simp [rs]
    have rsg : ∀ m, m < R.length → rs.getD m 0 = orb (worth c .ri R) s (if m = 0 then 0 else R.length - m) := fun m h => get_map h
    have rsp : IsP rs := isP_map (fun m hm => ol _) fun i j hij hj e => by
      have := xinj _ _ (by split <;> omega) (by split <;> omega) e
      split at this <;> split at this <;> omega
    have step : ∀ m, m < (worth c .ri R).length → st (worth c .ri R) (rs.getD (nxt (worth c .ri R).length m) 0) = rs.getD m 0 := fun m hm => by
      rw [wl] at hm ⊢
      rw [rsg _ (nxt_lt hm), rsg _ hm, nxt_eq hm]
      by_cases q : m + 1 < R.length
      · rw [if_pos q, if_neg (by omega)]
        show orb _ s (R.length - (m + 1) + 1) = _
        by_cases z : m = 0
        · rw [if_pos z, show R.length - (m + 1) + 1 = R.length by omega, pe]; rfl
        · rw [if_neg z]; congr 1; omega
      · rw [if_neg q, if_pos rfl]
        show orb _ s 1 = _
        by_cases z : m = 0
        · rw [if_pos z, show 1 = R.length by omega, pe]; rfl
        · rw [if_neg z]; congr 1; omega
    have f := along_fit (W := worth c .ri R) rsp (by rw [rsl, wl]) step
    have cl := along_col (W := worth c .ri R) rsp (by rw [rsl, wl]) step
    have we : worth c .ri R = R := by
      unfold worth
      have : ∀ x ∈ R, wo c .ri x = x := fun x _ => by unfold wo; rw [if_neg (fun z => by cases z.1)]
      rw [List.map_congr_left this, List.map_id']
    have al : along (worth c .ri R) rs = backT c .ri R := by
      have b1 : backT c .ri R = readB c .ri R R.length := by
        unfold backT
        refine List.filter_eq_self.mpr fun x hx => ?_
        unfold readB at hx
        rw [List.mem_reverse] at hx
        obtain ⟨i, hi, rfl⟩ := List.mem_map.mp hx
        rw [hs]
        have := hr.2.2.1 rfl _ (mem_get (ol i))
        rw [decide_eq_false (by omega)]
        rfl
      rw [b1]
      unfold readB along
      rw [rev_range, hs, wl]
      apply List.map_congr_left
      intro m hm
      have hm := List.mem_range.mp hm
      rw [rsg _ (nxt_lt hm), nxt_eq hm, we]
      congr 2
      by_cases q : m + 1 < R.length
      · rw [if_pos q, if_neg (by omega)]; omega
      · rw [if_neg q, if_pos rfl]; omega
    rw [al] at f cl
    have bl : (backT c .ri R).length = (invP rs).length := by rw [← al, along_len, invP_len, rsl, wl]
    refine ⟨invP rs, fit_ri (invP_isP rsp) bl f, ?_, fun x hx => ?_⟩
    · show colR (invP rs) (backT c .ri R) = R
      rw [cl, we]
    · unfold backT at hx
      have hx := (List.mem_filter.mp hx).1
      unfold readB at hx
      rw [List.mem_reverse] at hx
      obtain ⟨i, hi, rfl⟩ := List.mem_map.mp hx
      rw [hs]
      exact ⟨hr.2.2.1 rfl _ (mem_get (ol i)), (hr.1 _ (mem_get (ol i))).2⟩
  · obtain ⟨N2, z, hz, hm⟩ := hr.2.2.2 hk
    have sm := st_mark hr hk hz hm
    rw [hs] at sm
    -- the mark comes last
    have zl : orb (worth c k R) s (R.length - 1) = z := by
      refine st_inj (W := worth c k R) (by rw [wl]; exact ol _) (by rw [wl]; exact hz) ?_
      rw [sm]
      show orb (worth c k R) s (R.length - 1 + 1) = s
      rw [show R.length - 1 + 1 = R.length by omega, pe]
    let rs := (List.range R.length).map fun m => orb (worth c k R) s (R.length - 1 - m)
    have rsl : rs.length = R.length := by simp [rs]
    have rsg : ∀ m, m < R.length → rs.getD m 0 = orb (worth c k R) s (R.length - 1 - m) := fun m h => get_map h
    have rsp : IsP rs := isP_map (fun m hm => ol _) fun i j hij hj e => by
      have := xinj _ _ (by omega) (by omega) e
      omega
    have step : ∀ m, m < (worth c k R).length → st (worth c k R) (rs.getD (nxt (worth c k R).length m) 0) = rs.getD m 0 := fun m hm' => by
      rw [wl] at hm' ⊢
      rw [rsg _ (nxt_lt hm'), rsg _ hm', nxt_eq hm']
      by_cases q : m + 1 < R.length
      · rw [if_pos q]
        show orb _ s (R.length - 1 - (m + 1) + 1) = _
        congr 1; omega
      · rw [if_neg q, Nat.sub_zero, zl, sm, show R.length - 1 - m = 0 by omega]
        rfl
    have f := along_fit (W := worth c k R) rsp (by rw [rsl, wl]) step
    have cl := along_col (W := worth c k R) rsp (by rw [rsl, wl]) step
    -- what is read
    let b := (List.range (R.length - 1)).map fun m => R.getD (orb (worth c k R) s (R.length - 2 - m)) 0
    have nm : ∀ i, i < R.length - 1 → R.getD (orb (worth c k R) s i) 0 ≠ -1 := fun i hi e => by
      have q := (hm _ (ol i)).mp e
      rw [← zl] at q
      have := xinj _ _ (by omega) (by omega) q
      omega
    have be : backT c k R = b := by
      unfold backT readB
      rw [rev_range, hs]
      have e1 : List.range R.length = 0 :: (List.range (R.length - 1)).map (· + 1) := by
        rw [show R.length = R.length - 1 + 1 by omega, List.range_succ_eq_map]
        rfl
      rw [e1, List.map_cons, List.map_map, Nat.sub_zero, zl, List.filter_cons, if_neg (by rw [(hm z hz).mpr rfl]; simp)]
      have e2 : ((List.range (R.length - 1)).map ((fun m => R.getD (orb (worth c k R) s (R.length - 1 - m)) 0) ∘ fun x => x + 1)) = b := by
        apply List.map_congr_left
        intro m hm'
        show R.getD (orb (worth c k R) s (R.length - 1 - (m + 1))) 0 = _
        congr 2
        omega
      rw [e2]
      refine List.filter_eq_self.mpr fun x hx => ?_
      obtain ⟨m, hm', rfl⟩ := List.mem_map.mp hx
      have hm' := List.mem_range.mp hm'
      rw [decide_eq_false (nm _ (by omega))]
      rfl
    have bL : Let c b := fun x hx => by
      obtain ⟨m, hm', rfl⟩ := List.mem_map.mp hx
      have hm' := List.mem_range.mp hm'
      have a := nm (R.length - 2 - m) (by omega)
      have q := hr.1 _ (mem_get (ol (R.length - 2 - m)))
      exact ⟨by omega, q.2⟩
    have al : along (worth c k R) rs = ext k c b := by
      unfold along
      have e1 : (worth c k R).length = R.length - 1 + 1 := by rw [wl]; omega
      have lst : ∀ m, m < R.length → rs.getD (nxt (worth c k R).length m) 0 = orb (worth c k R) s (if m + 1 < R.length then R.length - 2 - m else R.length - 1) := fun m hm' => by
        rw [wl, rsg _ (nxt_lt hm'), nxt_eq hm']
        by_cases q : m + 1 < R.length
        · rw [if_pos q, if_pos q]; congr 1; omega
        · rw [if_neg q, if_neg q]; congr 1
      have e2 : ∀ m, m < R.length → (worth c k R).getD (rs.getD (nxt (worth c k R).length m) 0) 0 = if m + 1 < R.length then R.getD (orb (worth c k R) s (R.length - 2 - m)) 0 else mk k c := fun m hm' => by
        rw [lst m hm', worth_at (ol _)]
        by_cases q : m + 1 < R.length
        · rw [if_pos q, if_pos q]
          unfold wo
          rw [if_neg (fun y => nm _ (by omega) y.2)]
        · rw [if_neg q, if_neg q, zl, (hm z hz).mpr rfl]
          unfold wo
          cases k with
          | ri => exact absurd rfl hk
          | fi => rw [if_neg (fun z => by cases z.1)]; rfl
          | la => rw [if_pos ⟨rfl, rfl⟩]; rfl
      have e3 : (List.range (worth c k R).length).map (fun m => (worth c k R).getD (rs.getD (nxt (worth c k R).length m) 0) 0) = (List.range R.length).map fun m => if m + 1 < R.length then R.getD (orb (worth c k R) s (R.length - 2 - m)) 0 else mk k c := by
        rw [show List.range (worth c k R).length = List.range R.length by rw [wl]]
        exact List.map_congr_left fun m hm' => e2 m (List.mem_range.mp hm')
      rw [e3, ext_open hk]
      have e4 : List.range R.length = List.range (R.length - 1) ++ [R.length - 1] := by
        rw [show R.length = R.length - 1 + 1 by omega, List.range_succ]
        rfl
      rw [e4, List.map_append, List.map_cons, List.map_nil, if_neg (by omega)]
      congr 1
      apply List.map_congr_left
      intro m hm'
      have hm' := List.mem_range.mp hm'
      rw [if_pos (by omega)]
    rw [al] at f cl
    have bl : (ext k c b).length = (invP rs).length := by rw [← al, along_len, invP_len, rsl, wl]
    obtain ⟨p, wp, sp⟩ := ext_sp hc bL (fit_ri (c := c) (invP_isP rsp) bl f)
    rw [be]
    refine ⟨p, sp, ?_, bL⟩
    obtain ⟨hp, hl⟩ := spots_isP sp
    have aw := ahead_wo (k := k) hp hl hc bL
    rw [← wp, cl] at aw
    refine map_inj (c := c) (k := k) (fun x hx => ?_) (fun x hx => (hr.1 x hx).2) aw
    have e : aheadT k b p = (whole k p).map fun m => if m = 0 then -1 else b.getD (m - 1) 0 := by cases k with | ri => exact absurd rfl hk | fi => rfl | la => rfl
    rw [e] at hx
    obtain ⟨m, hm', rfl⟩ := List.mem_map.mp hx
    have q := (isP_mem (whole_isP (k := k) hp)).mp hm'
    have wl2 : (whole k p).length = b.length + 1 := by cases k with | ri => exact absurd rfl hk | fi => simp [whole, hl] | la => simp [whole, hl]
    have c0 : 0 < c := by
      by_cases y : R.getD 0 0 = -1
      · have h1 := (hm 0 (by omega)).mp y
        have h2 : R.getD 1 0 ≠ -1 := fun y2 => by have := (hm 1 (by omega)).mp y2; omega
        have h3 := hr.1 _ (mem_get (by omega : 1 < R.length))
        omega
      · have h3 := hr.1 _ (mem_get (by omega : 0 < R.length))
        omega
    show (if m = 0 then (-1 : Int) else b.getD (m - 1) 0) < c
    by_cases y : m = 0
    · rw [if_pos y]; omega
    · rw [if_neg y]
      exact (bL _ (mem_at (by omega))).2
/-! steps do not ask how great the mark is -/
theorem bel_tail {k : Kd} {c d : Int} {R : List Int} (h : ∀ x ∈ R, x < c ∧ x < d) {i j : Nat} (hi : i < R.length) (hj : j < R.length) : bel (worth c k R) i j = bel (worth d k R) i j := by
  rw [Bool.eq_iff_iff, bel_iff, bel_iff, worth_at hi, worth_at hj, worth_at hi, worth_at hj]
  have a := h _ (mem_get hi)
  have b := h _ (mem_get hj)
  unfold wo
  split <;> split <;> omega
theorem st_tail {k : Kd} {c d : Int} {R : List Int} (h : ∀ x ∈ R, x < c ∧ x < d) {i : Nat} (hi : i < R.length) : st (worth c k R) i = st (worth d k R) i := by
  unfold st
  rw [worth_len, worth_len]
  congr 1
  exact List.filter_congr fun j hj => bel_tail h (List.mem_range.mp hj) hi
end Mth

set_option Elab.async false
set_option linter.all false
set_option maxRecDepth 100000
set_option maxHeartbeats 4000000
/-! the plain truth of k74. -/
namespace K74
open PySem Py Chk Mth
theorem fCk : Fn pgm 28 (ckindB 6) 1 1 := ⟨_, rfl, rfl, rfl, rfl⟩
theorem fCp : Fn pgm 29 (cplB 0) 3 1 := ⟨_, rfl, rfl, rfl, rfl⟩
theorem fRk : Fn pgm 30 ranksB 4 1 := ⟨_, rfl, rfl, rfl, rfl⟩
theorem fNx : Fn pgm 31 nextB 3 3 := ⟨_, rfl, rfl, rfl, rfl⟩
theorem fRi : Fn pgm 32 (risesB 30 31) 6 2 := ⟨_, rfl, rfl, rfl, rfl⟩
theorem fCo : Fn pgm 33 cordB 1 1 := ⟨_, rfl, rfl, rfl, rfl⟩
theorem fPa : Fn pgm 34 putB 3 2 := ⟨_, rfl, rfl, rfl, rfl⟩
theorem fCt : Fn pgm 35 (ctabB 0) 4 2 := ⟨_, rfl, rfl, rfl, rfl⟩
theorem fWn : Fn pgm 36 (wantB 31) 7 3 := ⟨_, rfl, rfl, rfl, rfl⟩
theorem fWr : Fn pgm 37 (wrongB 36) 3 3 := ⟨_, rfl, rfl, rfl, rfl⟩
theorem fFw : Fn pgm 38 (fwB 37) 4 2 := ⟨_, rfl, rfl, rfl, rfl⟩
theorem fWa : Fn pgm 39 (waB 33 35 38) 2 2 := ⟨_, rfl, rfl, rfl, rfl⟩
theorem fTa : Fn pgm 40 (taB 33 35 38 34) 4 2 := ⟨_, rfl, rfl, rfl, rfl⟩
theorem fCe : Fn pgm 41 (cerB 39 40) 4 2 := ⟨_, rfl, rfl, rfl, rfl⟩
theorem fE : Fn pgm 42 endsB 6 2 := ⟨_, rfl, rfl, rfl, rfl⟩
theorem fSp : Fn pgm 43 (spotsB 42) 5 2 := ⟨_, rfl, rfl, rfl, rfl⟩
theorem fA : Fn pgm 44 afterB 6 2 := ⟨_, rfl, rfl, rfl, rfl⟩
theorem fS : Fn pgm 45 (steepB 44) 4 2 := ⟨_, rfl, rfl, rfl, rfl⟩
theorem fL : Fn pgm 46 (leastB 45) 6 2 := ⟨_, rfl, rfl, rfl, rfl⟩
theorem fH : Fn pgm 47 (highB 46) 6 3 := ⟨_, rfl, rfl, rfl, rfl⟩
theorem fD : Fn pgm 48 drawnB 2 2 := ⟨_, rfl, rfl, rfl, rfl⟩
theorem fAg : Fn pgm 49 (agrB 42) 10 3 := ⟨_, rfl, rfl, rfl, rfl⟩
theorem fU : Fn pgm 50 (untrB 44) 6 4 := ⟨_, rfl, rfl, rfl, rfl⟩
theorem fAp : Fn pgm 51 apartB 5 2 := ⟨_, rfl, rfl, rfl, rfl⟩
theorem fT : Fn pgm 52 (tabB 49 47) 5 3 := ⟨_, rfl, rfl, rfl, rfl⟩
theorem fTr : Fn pgm 53 f53.body 9 4 := ⟨_, rfl, rfl, rfl, rfl⟩
theorem fR : Fn pgm 54 f54.body 7 1 := ⟨_, rfl, rfl, rfl, rfl⟩
theorem fI : Fn pgm 56 (initB 29 28 30 32) 3 3 := ⟨_, rfl, rfl, rfl, rfl⟩
theorem hO : HasO pgm := ⟨_, rfl⟩
theorem made {n : Nat} {ph : PH} {k : Kd} {p : List Nat} (hp : IsP p) (h1 : 1 ≤ p.length) (h2 : p.length ≤ 60) : callN pgm (n + 5) 57 [.tup (nv p), .str (kS k)] ph = .ok (.box ph.length, false) (ph ++ [.ins "Order" (OrdF k p)]) :=
  order_made chk (i := 56) rfl rfl hO fI fCp ⟨_, rfl⟩ fCk ⟨_, rfl⟩ fRk fRi fNx hp h1 h2
theorem cert {n : Nat} {ph : PH} {j : Nat} {k : Kd} {p : List Nat} (O : Ord ph j k p) (hp : IsP p) (h1 : 1 ≤ p.length) (h2 : p.length ≤ 60) {T : List Int} (hT : Tab p T) : callN pgm (n + 6) 41 [.box j, .tup (iv T)] ph = .ok (cerV k p T, false) ph :=
  cer_ok hO O chk fCe fWa fTa fCo fCt ⟨_, rfl⟩ fFw fWr fWn fNx fPa hp h1 h2 hT
/-! drawn tables with their bounds -/
theorem lcp_le : ∀ (x y : List Int), lcp x y ≤ x.length
  | [], y => by rw [lcp_nil]; exact Nat.zero_le _
  | x :: xs, [] => Nat.zero_le _
  | x :: xs, y :: ys => by
    rw [lcp_cons]
    have := lcp_le xs ys
    by_cases c : x = y
    · rw [if_pos c]; simp; exact this
    · rw [if_neg c]; exact Nat.zero_le _
theorem agr_bd {k : Kd} {c : Int} {t : List Int} {p : List Nat} (ht : t.length ≤ 50) : ∀ x ∈ agr k c t p, 0 ≤ x ∧ x ≤ 60 := by
  intro x hx
  unfold agr at hx
  obtain ⟨j, _, rfl⟩ := List.mem_map.mp hx
  have h1 := lcp_le (eAt k c t (p.getD j 0)) (eAt k c t (p.getD (j + 1) 0))
  have h2 := eAt_len (k := k) (c := c) (t := t) (i := p.getD j 0)
  omega
theorem tabD_bd {j : Nat} {y : PV} (h : tabD[j]? = some y) : ∃ d : Int, y = .int d ∧ 0 ≤ d ∧ d ≤ 60 := by
  match j, h with
  | 0, h => cases h; exact ⟨_, rfl, by decide, by decide⟩
  | 1, h => cases h; exact ⟨_, rfl, by decide, by decide⟩
  | 2, h => cases h; exact ⟨_, rfl, by decide, by decide⟩
  | 3, h => cases h; exact ⟨_, rfl, by decide, by decide⟩
  | 4, h => cases h; exact ⟨_, rfl, by decide, by decide⟩
  | 5, h => cases h; exact ⟨_, rfl, by decide, by decide⟩
  | 6, h => cases h; exact ⟨_, rfl, by decide, by decide⟩
  | j + 7, h => simp [tabD] at h
def Bd (T : List Int) : Prop := ∀ x ∈ T, 0 ≤ x ∧ x ≤ 60
theorem Bd.set {T : List Int} (h : Bd T) {s : Nat} {d : Int} (hd : 0 ≤ d ∧ d ≤ 60) : Bd (T.set s d) := fun x hx => by
  rcases List.mem_or_eq_of_mem_set hx with h' | h'
  · exact h x h'
  · rw [h']; exact hd
theorem tabLoopB {n k m : Nat} (hm : m ≤ 1000) {v1 v2 : Option (PV × Bool)} : ∀ (ts : List PV) (T : List Int) (v4 : Option (PV × Bool)) (ph : PH), Jug ph k → T.length = m → Bd T →
    ∃ (T' : List Int) (v4' : Option (PV × Bool)) (ph' : PH), T'.length = m ∧ Bd T' ∧ JS ph k ph' ∧
      forL pgm (callN pgm (n + 2)) (.nm 4) tabL ts [some (.box k, false), v1, v2, some (.lst (iv T), true), v4] ph = .ok (.nx [some (.box k, false), v1, v2, some (.lst (iv T'), true), v4']) ph'
  | [], T, v4, ph, hj, hT, hb => ⟨T, v4, ph, hT, hb, hj.self, rfl⟩
  | x :: ts, T, v4, ph, hj, hT, hb => by
    have h : P pgm := chk
    have ne := ne_lstI (l := T) (m := [])
    have ne : pcmp .NotEq (.lst (iv T)) (.lst []) = some (!decide (T = [])) := ne
    have z0 : 0 ≤ sizeLine := Nat.zero_le _
    by_cases c : T = []
    · obtain ⟨T', w4, p1, hT', hb', j1, e1⟩ := tabLoopB (n := n) (v1 := v1) (v2 := v2) hm ts T (some (x, false)) ph hj hT hb
      refine ⟨T', w4, p1, hT', hb', j1, ?_⟩
      have nn : (!decide (T = [])) = false := by rw [decide_eq_true c]; rfl
      rw [forL_cons, ← e1]
      simp only [tabL, bind_nm, cBt_some, List.set_cons_succ, List.set_cons_zero, b_cons, s_ife, e_cmp, e_bvar, getV_0, getV_s, cBvar_ok, cCmp1_ok, e_lst, l_nil, cLst_ok, List.length_nil, if_pos z0, cCmp2_ok, ne, nn, rB_some, cIf_ok, Bool.false_eq_true, if_false, b_nil, cB_nx, cFl_nx]
    · have nn : (!decide (T = [])) = true := by rw [decide_eq_false c]; rfl
      have l0 : 0 < T.length := List.length_pos_iff.mpr c
      obtain ⟨jj, y, p1, hy, j1, e1⟩ := one_l h (n := n) (ph := ph) (xs := tabD) hj (by decide) (by decide)
      obtain ⟨d, rfl, hd⟩ := tabD_bd hy
      obtain ⟨s, p2, hs, j2, e2⟩ := swig h (n := n + 1) (top := T.length) j1.jug l0 (by omega)
      obtain ⟨T', w4, p3, hT', hb', j3, e3⟩ := tabLoopB (n := n) (v1 := v1) (v2 := v2) hm ts (T.set s d) (some (x, false)) p2 j2.jug (by simpa using hT) (hb.set hd)
      refine ⟨T', w4, p3, hT', hb', (j1.trans j2).trans j3, ?_⟩
      have z7 : 7 ≤ sizeLine := line_ok (by omega)
      have e1 : callN pgm (n + 2) 25 [.box k, .lst [.int 0, .int 0, .int 1, .int 2, .int 3, .int 5, .int 60]] ph = .ok (.int d, false) p1 := e1
      have ix : L2.ixN (iv T).length ((s : Nat) : Int) = some s := ixN_nat (by simpa using hs)
      rw [forL_cons, ← e3]
      simp only [tabL, bind_nm, cBt_some, List.set_cons_succ, List.set_cons_zero, b_cons, s_ife, e_cmp, e_bvar, getV_0, getV_s, cBvar_ok, cCmp1_ok, e_lst, l_nil, cLst_ok, List.length_nil, if_pos z0, cCmp2_ok, ne, nn, rB_some, cIf_ok, if_true, s_setL, e_call, l_cons, e_var, cVar_ok, cL1_ok, e_int, cL2_ok, List.length_cons, Nat.zero_add, Nat.reduceAdd, if_pos z7, cCall_ok, e1]
      rw [cSetL1_ok (xs := iv T) rfl]
      simp only [e_call, l_cons, l_nil, e_var, getV_0, getV_s, cVar_ok, cL1_ok, e_blt, e_bvar, cBvar_ok, cL2_ok, cBlt_ok, pbi_len_l, iv_len, rO_some, cCall_ok, e2]
      rw [cSetL2_ok (by simpa using ix), iv_set]
      simp only [List.set_cons_succ, List.set_cons_zero, cB_nx, b_nil, cFl_nx]
theorem tab_runB {n k : Nat} {ph : PH} (hj : Jug ph k) {kd : Kd} {p : List Nat} (hp : IsP p) (h1 : 1 ≤ p.length) (h2 : p.length ≤ 50) :
    ∃ (T : List Int) (ph' : PH), Tab p T ∧ JS ph k ph' ∧ callN pgm (n + 5) 52 [.box k, .tup (nv p), .str (kS kd)] ph = .ok (.tup (iv T), false) ph' := by
  obtain ⟨t, p1, ht, hb, j1, e1⟩ := high_run chk fH fL fS fA (n := n) (kd := kd) hj hp h1 (by omega)
  have e2 := agr_run fAg fE (n := n + 2) (ph := p1) (k := kd) (t := t) hp ht h1 (by omega)
  obtain ⟨d, p2, hd, j2, e3⟩ := swig chk (n := n + 3) (top := 3) j1.jug (by decide) (by decide)
  obtain ⟨T, w4, p3, hT, hB, j3, e4⟩ := tabLoopB (n := n + 2) (m := p.length - 1) (by omega) (v1 := some (.tup (nv p), false)) (v2 := some (.str (kS kd), false)) (rngP 0 d) (agr kd cL t p) none p2 j2.jug agr_len (agr_bd (by omega))
  refine ⟨T, p3, ⟨hT, hB⟩, (j1.trans j2).trans j3, ?_⟩
  rw [fT.call rfl]
  have st : startE 5 [.box k, .tup (nv p), .str (kS kd)] = [some (.box k, false), some (.tup (nv p), false), some (.str (kS kd), false), none, none] := rfl
  rw [st]
  have ll : pbi .list [.tup (iv (agr kd cL t p))] = some (.lst (iv (agr kd cL t p)), true) := rfl
  have pt : pbi .tuple [.lst (iv T)] = some (.tup (iv T), false) := rfl
  have sr : smallR (d : Int) = true := smallR_nat (by omega)
  have e3 : callN pgm (n + 4) 24 [.box k, .int 3] p1 = .ok (.int (d : Nat), false) p2 := e3
  simp only [tabB, b_cons, s_asg, e_blt, l_cons, l_nil, e_call, e_var, getV_0, getV_s, cVar_ok, cL1_ok, cL2_ok, cCall_ok, e1, e2, cBlt_ok, ll, rO_some, cAsg_ok, List.set_cons_succ, List.set_cons_zero, cB_nx, s_for, i_rng1, e_int, e3, cR1_ok, if_pos sr, Int.toNat_natCast, cFor_ok, e4, s_ret, e_bvar, cBvar_ok, pt, cRet_ok, cB_rt, cEnd_rt]
/-! certificates of the other kind -/
theorem r20n_t {n : Nat} {ph : PH} {p : List Nat} {k : Kd} {T : List Int} {xs : List PV} (hp : IsP p) (h1 : 1 ≤ p.length) (h2 : p.length ≤ 60) (hT : T.length = p.length - 1) :
    callN pgm (n + 4) 20 [claim4 "no agreement" p k (.tup (iv T)), .tup xs] ph = .ok (.bl false, false) ph := by
  have h : P pgm := chk
  rw [c20 h]
  have e12 := r12 h (n := n) (ph := ph) hT h1 h2
  have ew : pcmp .Eq (.str "no agreement") (.str "agreement") = some false := by kernel_rfl
  have bt := fun e => tab_bind h (w := "no agreement") (p := p) (k := k) (x := .tup (iv T)) e
  have e1 := r1 h (n := n + 1) (ph := ph) (v := .tup xs) (lo := 0) (hi := (T.length : Int) - 1) rfl
  have bb : btw 0 ((T.length : Int) - 1) (.tup xs) = false := rfl
  have mi : pbin .Sub (.int (T.length : Int)) (.int 1) = some (.int ((T.length : Int) - 1), false) := rfl
  rw [bb] at e1
  generalize claim4 "no agreement" p k (.tup (iv T)) = cm at *
  simp only [f20]
  simp [bt, e12, ew, mi, e1]
theorem r20a_i {n : Nat} {ph : PH} {p : List Nat} {k : Kd} {T : List Int} {j : Int} (hp : IsP p) (h1 : 1 ≤ p.length) (h2 : p.length ≤ 60) (hT : T.length = p.length - 1) :
    callN pgm (n + 6) 20 [claim4 "agreement" p k (.tup (iv T)), .int j] ph = .ok (.bl false, false) ph := by
  have h : P pgm := chk
  rw [c20 h]
  have e12 := r12 h (n := n + 2) (ph := ph) hT h1 h2
  have e18 : callN pgm (n + 5) 18 [.int j, .tup (nv p), .str (kS k)] ph = .ok (.bl false, false) ph := by
    rw [c18 h]
    have e3 := r3 h (n := n) (ph := ph) (v := .int j) rfl
    have : isText (.int j) = false := rfl
    rw [this] at e3
    simp only [f18]
    simp [e3]
  have ew : pcmp .Eq (.str "agreement") (.str "agreement") = some true := by kernel_rfl
  have bt := fun e => tab_bind h (w := "agreement") (p := p) (k := k) (x := .tup (iv T)) e
  generalize claim4 "agreement" p k (.tup (iv T)) = cm at *
  simp only [f20]
  simp [bt, e12, ew, e18]
/-! told right -/
theorem ne_str {s : Str} : pcmp .NotEq (.str s) (.str s) = some false := by
  show (peq (.str s) (.str s)).map not = some false
  simp [peq, PV.dat, PV.eqv]
theorem eqT {o : Option (List Nat)} {p : List Nat} : pcmp .Eq (spotsT o) (.tup (nv p)) = some (decide (o = some p)) := by
  cases o with
  | none =>
    show peq _ _ = _
    unfold peq
    rw [show PV.dat deep (.tup (nv p)) = true by rw [nv_iv]; exact dat_tupI]
    rfl
  | some q =>
    show pcmp .Eq (.tup (nv q)) (.tup (nv p)) = _
    rw [nv_iv, nv_iv, eq_tupI]
    simp [ni_inj]
theorem ne_tup {l m : List Int} : pcmp .NotEq (.tup (iv l)) (.tup (iv m)) = some (!decide (l = m)) := by
  have := eq_tupI (l := l) (m := m)
  show (peq (.tup (iv l)) (.tup (iv m))).map not = _
  rw [show peq (.tup (iv l)) (.tup (iv m)) = some (decide (l = m)) from this]
  rfl
theorem sh_claim {w : Str} (hw : w = "agreement" ∨ w = "no agreement") {p : List Nat} (h2 : p.length ≤ 60) (hp : IsP p) {k : Kd} {T : List Int} (hT : Tab p T) : (∀ m, PV.dat (m + 2) (claim4 w p k (.tup (iv T))) = true) ∧ Sh 20012 (claim4 w p k (.tup (iv T))) := by
  have tl := hT.1
  refine ⟨fun m => ?_, ?_⟩
  · show (PV.dat (m + 1) (.str w) && (PV.dat (m + 1) (.tup (nv p)) && (PV.dat (m + 1) (.str (kS k)) && (PV.dat (m + 1) (.tup (iv T)) && PV.dats (m + 1) [])))) = true
    rw [nv_iv, show PV.dat (m + 1) (.tup (iv (ni p))) = true from dats_iv (n := m), show PV.dat (m + 1) (.tup (iv T)) = true from dats_iv (n := m)]
    rfl
  · have a1 : Sh 5000 (.str w) := by rcases hw with rfl | rfl <;> exact ⟨rfl, by decide +kernel⟩
    have a2 : Sh 5000 (.tup (nv p)) := by
      refine sh_le (sh_tup (M := 20) (vs := nv p) fun v hv => ?_) (by simp [nv]; omega)
      obtain ⟨x, hx, rfl⟩ := List.mem_map.mp hv
      have := (isP_mem hp).mp hx
      exact sh_int (by omega)
    have a3 : Sh 5000 (.str (kS k)) := by cases k <;> exact ⟨rfl, by decide +kernel⟩
    have a4 : Sh 5000 (.tup (iv T)) := by
      refine sh_le (sh_tup (M := 20) (vs := iv T) fun v hv => ?_) (by simp [iv]; omega)
      obtain ⟨x, hx, rfl⟩ := List.mem_map.mp hv
      have := hT.2 x hx
      exact sh_int (by omega)
    refine sh_le (sh_tup (M := 5000) fun v hv => ?_) (show 4 * (5000 + 2) + 4 ≤ 20012 by decide)
    simp only [List.mem_cons, List.not_mem_nil, or_false] at hv
    rcases hv with rfl | rfl | rfl | rfl
    · exact a1
    · exact a2
    · exact a3
    · exact a4
theorem sh_said {w : Str} (hw : w = "agreement" ∨ w = "no agreement") {p : List Nat} (h2 : p.length ≤ 60) (hp : IsP p) {k : Kd} {T : List Int} (hT : Tab p T) : ∃ s : Str, pbi .repr [claim4 w p k (.tup (iv T))] = some (.str s, false) := by
  obtain ⟨a, b⟩ := sh_claim hw h2 hp (k := k) hT
  refine repr_ok ?_ (sh_le b (by decide))
  exact a 38
theorem sh_cert {p : List Nat} (h2 : p.length ≤ 60) (hp : IsP p) {k : Kd} {T : List Int} (hT : Tab p T) : ∃ s : Str, pbi .repr [cerV k p T] = some (.str s, false) := by
  have key : ∀ (w : Str) (c : PV), (w = "agreement" ∨ w = "no agreement") → PV.dat 39 c = true → Sh 20012 c → ∃ s : Str, pbi .repr [.tup [claim4 w p k (.tup (iv T)), c]] = some (.str s, false) := by
    intro w c hw hd hs
    obtain ⟨a, b⟩ := sh_claim hw h2 hp (k := k) hT
    refine repr_ok ?_ ?_
    · show (PV.dat 39 (claim4 w p k (.tup (iv T))) && (PV.dat 39 c && PV.dats 39 [])) = true
      rw [show PV.dat 39 (claim4 w p k (.tup (iv T))) = true from a 37, hd]
      rfl
    · refine sh_le (sh_tup (M := 20012) fun v hv => ?_) (show 2 * (20012 + 2) + 4 ≤ 100000 by decide)
      simp only [List.mem_cons, List.not_mem_nil, or_false] at hv
      rcases hv with rfl | rfl
      · exact b
      · exact hs
  unfold cerV
  have wl : ∀ a ∈ wrongs k p T, a < 100 := fun a ha => by
    have := List.mem_range.mp (List.mem_filter.mp ha).1
    omega
  generalize wrongs k p T = L at *
  cases L with
  | nil =>
    refine key _ _ (.inl rfl) (dats_iv (n := 38)) ?_
    refine sh_le (sh_tup (M := 20) (vs := iv (apartT p T)) fun v hv => ?_) (by simp [iv, apartT_len]; omega)
    obtain ⟨x, hx, rfl⟩ := List.mem_map.mp hv
    have := apartT_bd (T := T) hp x hx
    exact sh_int (by omega)
  | cons a L =>
    have := wl a (List.mem_cons_self ..)
    exact key _ _ (.inr rfl) rfl (sh_le (sh_int (by omega)) (by decide))
theorem wrongs_nil {k : Kd} {p : List Nat} {T : List Int} : wrongs k p T = [] ↔ ∀ j, j + 1 < p.length → untr k p T j = false := by
  unfold wrongs
  rw [List.filter_eq_nil_iff]
  constructor
  · intro h j hj
    have := h j (List.mem_range.mpr (by omega))
    simpa using this
  · intro h j hj
    have := List.mem_range.mp hj
    rw [h j (by omega)]
    simp
section
variable {n : Nat} {ph : PH} {k : Kd} {p : List Nat} (hp : IsP p) (h1 : 1 ≤ p.length) (h2 : p.length ≤ 50) {T : List Int} (hT : Tab p T)
include hp h1 h2 hT
theorem told_a (hw : wrongs k p T = []) : callN pgm (n + 9) 53 [.tup (nv p), .str (kS k), .tup (iv T), cerV k p T] ph = .ok (.bl true, false) ph := by
  rw [fTr.call rfl]
  have ce : cerV k p T = .tup [claim4 "agreement" p k (.tup (iv T)), .tup (iv (apartT p T))] := by unfold cerV; rw [hw]
  rw [ce]
  have st : startE 9 [.tup (nv p), .str (kS k), .tup (iv T), .tup [claim4 "agreement" p k (.tup (iv T)), .tup (iv (apartT p T))]] = [some (.tup (nv p), false), some (.str (kS k), false), some (.tup (iv T), false), some (.tup [claim4 "agreement" p k (.tup (iv T)), .tup (iv (apartT p T))], false), none, none, none, none, none] := rfl
  rw [st]
  have tl := hT.1
  have al := apartT_len p T
  have ab := apartT_bd (T := T) hp
  have ok := (table_iff (k := k) (c := cL) hp tl (by unfold cL; omega)).mpr (wrongs_nil.mp hw)
  have okG := (table_iff (k := k) (c := cG) hp tl (by unfold cG; omega)).mpr (wrongs_nil.mp hw)
  have ea := apart_run fAp (n := n + 7) (ph := ph) (T := T) hp (by omega) tl
  have es := spots_run fSp fE (n := n + 6) (ph := ph) (k := k) (t := apartT p T) (by omega) (by omega)
  rw [ok.1] at es
  have es : callN pgm (n + 8) 43 [.tup (iv (apartT p T)), .str (kS k)] ph = .ok (.tup (nv p), false) ph := es
  have eg := agr_run fAg fE (n := n + 6) (ph := ph) (k := k) (t := apartT p T) hp al h1 (by omega)
  rw [ok.2] at eg
  obtain ⟨s, rs⟩ := sh_said (w := "agreement") (.inl rfl) (by omega) hp (k := k) hT
  have rs' : pbi .repr [.tup [.str "agreement", .tup (nv p), .str (kS k), .tup (iv T)]] = some (.str s, false) := rs
  have o1 : callN pgm (n + 8) 22 [claim4 "agreement" p k (.tup (iv T)), .tup (iv (apartT p T))] ph = .ok (.bl true, false) ph := by
    rw [r22a chk (n := n + 5) (x := .tup (iv T)) (.inl rfl) hp h1 (by omega) (dats_iv (n := 38)), r20a chk (n := n + 1) hp h1 (by omega) tl (by omega) (by omega) (fun x hx => by have := ab x hx; omega), decide_eq_true okG.1, decide_eq_true okG.2]
    rfl
  have o2 : callN pgm (n + 8) 22 [.tup [.str "no agreement", .tup (nv p), .str (kS k), .tup (iv T)], .tup (iv (apartT p T))] ph = .ok (.bl false, false) ph := by
    show callN pgm (n + 8) 22 [claim4 "no agreement" p k (.tup (iv T)), .tup (iv (apartT p T))] ph = _
    rw [r22a chk (n := n + 5) (x := .tup (iv T)) (.inr rfl) hp h1 (by omega) (dats_iv (n := 38)), r20n_t (n := n + 3) hp h1 (by omega) tl]
  have z1 : 1 ≤ sizeLine := line_ok (by omega)
  have z4 : 4 ≤ sizeLine := line_ok (by omega)
  have cl : claim4 "agreement" p k (.tup (iv T)) = .tup [.str "agreement", .tup (nv p), .str (kS k), .tup (iv T)] := rfl
  rw [cl] at o1 ⊢
  have sl : psl (.tup [.str "agreement", .tup (nv p), .str (kS k), .tup (iv T)]) (some 1) none = some (.tup [.tup (nv p), .str (kS k), .tup (iv T)], false) := rfl
  have ad : pbin .Add (.tup [.str "no agreement"]) (.tup [.tup (nv p), .str (kS k), .tup (iv T)]) = some (.tup [.str "no agreement", .tup (nv p), .str (kS k), .tup (iv T)], false) := by
    simp only [pbin]
    rw [if_pos (line_ok (by simp))]
    rfl
  have t1 : pcmp .Is (.bl true) (.bl true) = some true := by kernel_rfl
  have t2 : pcmp .Is (.bl false) (.bl false) = some true := by kernel_rfl
  have q1 : pcmp .Eq (.tup (nv p)) (.tup (nv p)) = some true := by rw [nv_iv, eq_tupI]; simp
  have q2 : pcmp .Eq (.tup (iv T)) (.tup (iv T)) = some true := by rw [eq_tupI]; simp
  have q3 : pcmp .NotEq (.tup (nv p)) (.tup (nv p)) = some false := by rw [nv_iv, ne_tup]; simp
  have q4 : pcmp .NotEq (.tup (iv T)) (.tup (iv T)) = some false := by rw [ne_tup]; simp
  simp only [f53]
  simp [rs', ne_str, z1, z4, ea, es, eg, o1, o2, sl, ad, t1, t2, q1, q2, q3, q4, setAll]
theorem told_b {a : Nat} {L : List Nat} (hw : wrongs k p T = a :: L) : callN pgm (n + 9) 53 [.tup (nv p), .str (kS k), .tup (iv T), cerV k p T] ph = .ok (.bl true, false) ph := by
  rw [fTr.call rfl]
  have ce : cerV k p T = .tup [claim4 "no agreement" p k (.tup (iv T)), .int (a : Nat)] := by unfold cerV; rw [hw]
  rw [ce]
  have st : startE 9 [.tup (nv p), .str (kS k), .tup (iv T), .tup [claim4 "no agreement" p k (.tup (iv T)), .int (a : Nat)]] = [some (.tup (nv p), false), some (.str (kS k), false), some (.tup (iv T), false), some (.tup [claim4 "no agreement" p k (.tup (iv T)), .int (a : Nat)], false), none, none, none, none, none] := rfl
  rw [st]
  have tl := hT.1
  have al := apartT_len p T
  have am : a ∈ wrongs k p T := by rw [hw]; exact List.mem_cons_self ..
  have ha := List.mem_range.mp (List.mem_filter.mp am).1
  have hu : untr k p T a = true := (List.mem_filter.mp am).2
  have no : ¬ (spots k cL (apartT p T) = some p ∧ agr k cL (apartT p T) p = T) := fun z => by
    have := (table_iff (k := k) (c := cL) hp tl (by unfold cL; omega)).mp z a (by omega)
    rw [hu] at this
    cases this
  have ea := apart_run fAp (n := n + 7) (ph := ph) (T := T) hp (by omega) tl
  have es := spots_run fSp fE (n := n + 6) (ph := ph) (k := k) (t := apartT p T) (by omega) (by omega)
  have eg := agr_run fAg fE (n := n + 6) (ph := ph) (k := k) (t := apartT p T) hp al h1 (by omega)
  have eu := untr_run fU fA (n := n + 6) (ph := ph) (k := k) (T := T) hp (by omega) tl (j := a) (by omega)
  rw [hu] at eu
  obtain ⟨s, rs⟩ := sh_said (w := "no agreement") (.inr rfl) (by omega) hp (k := k) hT
  have rs' : pbi .repr [.tup [.str "no agreement", .tup (nv p), .str (kS k), .tup (iv T)]] = some (.str s, false) := rs
  have o1 : callN pgm (n + 8) 22 [claim4 "no agreement" p k (.tup (iv T)), .int (a : Nat)] ph = .ok (.bl true, false) ph := by
    rw [r22a chk (n := n + 5) (x := .tup (iv T)) (.inr rfl) hp h1 (by omega) (dats_iv (n := 38)), r20n chk (n := n + 3) hp h1 (by omega) tl, Int.toNat_natCast, hu, decide_eq_true (⟨by omega, by omega⟩ : (0 : Int) ≤ (a : Int) ∧ (a : Int) < (T.length : Int))]
    rfl
  have o2 : callN pgm (n + 8) 22 [.tup [.str "agreement", .tup (nv p), .str (kS k), .tup (iv T)], .int (a : Nat)] ph = .ok (.bl false, false) ph := by
    show callN pgm (n + 8) 22 [claim4 "agreement" p k (.tup (iv T)), .int (a : Nat)] ph = _
    rw [r22a chk (n := n + 5) (x := .tup (iv T)) (.inl rfl) hp h1 (by omega) (dats_iv (n := 38)), r20a_i (n := n + 1) hp h1 (by omega) tl]
  have z1 : 1 ≤ sizeLine := line_ok (by omega)
  have z4 : 4 ≤ sizeLine := line_ok (by omega)
  have cl : claim4 "no agreement" p k (.tup (iv T)) = .tup [.str "no agreement", .tup (nv p), .str (kS k), .tup (iv T)] := rfl
  rw [cl] at o1 ⊢
  have sl : psl (.tup [.str "no agreement", .tup (nv p), .str (kS k), .tup (iv T)]) (some 1) none = some (.tup [.tup (nv p), .str (kS k), .tup (iv T)], false) := rfl
  have ad : pbin .Add (.tup [.str "agreement"]) (.tup [.tup (nv p), .str (kS k), .tup (iv T)]) = some (.tup [.str "agreement", .tup (nv p), .str (kS k), .tup (iv T)], false) := by
    simp only [pbin]
    rw [if_pos (line_ok (by simp))]
    rfl
  have t1 : pcmp .Is (.bl true) (.bl true) = some true := by kernel_rfl
  have t2 : pcmp .Is (.bl false) (.bl false) = some true := by kernel_rfl
  have i1 : pisi (.int (a : Nat)) .int = some true := rfl
  have lt : (a : Int) < (T.length : Int) := by omega
  have l0 : (0 : Int) ≤ (a : Int) := by omega
  have q := eqT (o := spots k cL (apartT p T)) (p := p)
  by_cases hs : spots k cL (apartT p T) = some p
  · have hg : ¬ agr k cL (apartT p T) p = T := fun z => no ⟨hs, z⟩
    have dd : decide (spots k cL (apartT p T) = some p) = true := decide_eq_true hs
    rw [dd] at q
    have q2 : pcmp .Eq (.tup (iv (agr k cL (apartT p T) p))) (.tup (iv T)) = some false := by rw [eq_tupI, decide_eq_false hg]
    simp only [f53]
    simp [rs', ne_str, z1, z4, ea, es, eg, eu, o1, o2, sl, ad, t1, t2, q, q2, i1, lt, l0, setAll]
  · have dd : decide (spots k cL (apartT p T) = some p) = false := decide_eq_false hs
    rw [dd] at q
    simp only [f53]
    simp [rs', ne_str, z1, z4, ea, es, eu, o1, o2, sl, ad, t1, t2, q, i1, lt, l0, setAll]
theorem told_ok : callN pgm (n + 9) 53 [.tup (nv p), .str (kS k), .tup (iv T), cerV k p T] ph = .ok (.bl true, false) ph := by
  match hw : wrongs k p T with
  | [] => exact told_a hp h1 h2 hT hw
  | a :: L => exact told_b hp h1 h2 hT hw
end
theorem turns {n k : Nat} : ∀ (xs : List PV) (v1 v2 v3 v4 v5 v6 : Option (PV × Bool)) (ph : PH), Jug ph k →
    ∃ e' ph', forL pgm (callN pgm (n + 9)) (.nm 1) f54_0 xs [some (.box k, false), v1, v2, v3, v4, v5, v6] ph = .ok (.nx e') ph'
  | [], v1, v2, v3, v4, v5, v6, ph, hj => ⟨_, ph, rfl⟩
  | x :: xs, v1, v2, v3, v4, v5, v6, ph, hj => by
    obtain ⟨p, p1, hp, h1, h2, j1, e1⟩ := drawn chk2 fD (n := n + 6) (m := 7) hj (by decide) (by decide)
    obtain ⟨kd, p2, j2, e2⟩ := one_sort chk2 (n := n + 7) j1.jug
    have so := sorts chk2 (n := n + 8) (ph := p1)
    have mk := made (n := n + 4) (ph := p2) (k := kd) hp h1 (by omega)
    have hj3 : Jug (p2 ++ [.ins "Order" (OrdF kd p)]) k := by
      obtain ⟨a, b, ha, hb, e⟩ := j2.jug
      exact ⟨a, b, ha, hb, by rw [List.getElem?_append_left j2.jug.lt]; exact e⟩
    obtain ⟨T, p3, hT, j3, e3⟩ := tab_runB (n := n + 4) (kd := kd) hj3 hp h1 (by omega)
    have O : Ord p3 p2.length kd p := by
      obtain ⟨_, a, b, _, _, rfl⟩ := j3
      show ((p2 ++ [PO.ins "Order" (OrdF kd p)]).set k _)[p2.length]? = _
      have := j2.jug.lt
      rw [List.getElem?_set_ne (by omega), List.getElem?_append_right (Nat.le_refl _), Nat.sub_self]
      rfl
    have c1 := cert (n := n + 3) O hp h1 (by omega) hT
    have t1 := told_ok (n := n) (ph := p3) (k := kd) hp h1 (by omega) hT
    obtain ⟨s, rs⟩ := sh_cert (by omega) hp (k := kd) hT
    obtain ⟨e', p5, e6⟩ := turns (n := n) (k := k) xs (some (x, false)) (some (.tup (nv p), false)) (some (.str (kS kd), false)) (some (.box p2.length, false)) (some (.tup (iv T), false)) (some (.lst [cerV kd p T, cerV kd p T], false)) p3 j3.jug
    refine ⟨e', p5, ?_⟩
    rw [forL_cons, ← e6]
    have kw : kwArgs pgm 41 0 [] [.tup (iv T), .box p2.length] = some [.box p2.length, .tup (iv T)] := rfl
    have z2 : 2 ≤ sizeLine := line_ok (by omega)
    generalize cerV kd p T = C at *
    have g0 : pat [C, C] 0 = some C := rfl
    have g1 : pat [C, C] 1 = some C := rfl
    have e1 : callN pgm (n + 9) 48 [.box k, .int 7] ph = .ok (.tup (nv p), false) p1 := e1
    simp only [f54_0, bind_nm, cBt_some, List.set_cons_succ, List.set_cons_zero, b_cons, s_par, lf_cons, lf_nil, e_call, l_cons, l_nil, e_var, e_int, getV_0, getV_s, cVar_ok, cL1_ok, cL2_ok, cCall_ok, e1, cLF1_ok, so, e2, cLF2_ok, cPar_ok, List.length_cons, List.length_nil, Nat.zero_add, Nat.reduceAdd, if_true, setAllF_cons, setAllF_nil, cB_nx, b_frz, frzE_s, frzE_f, frzE_t, mk, e3]
    simp [c1, t1, rs, kw, z2, g0, g1, ne_str]
theorem right_ok (ph : PH) (k : Nat) (hj : Jug ph k) : ∃ ph', callN pgm 11 54 [.box k] ph = .ok (.bl true, false) ph' := by
  obtain ⟨e', p1, e1⟩ := turns (n := 1) (rngP 0 10) none none none none none none ph hj
  refine ⟨p1, ?_⟩
  rw [fR.call rfl]
  have st : startE 7 [.box k] = [some (.box k, false), none, none, none, none, none, none] := rfl
  rw [st]
  have r10 : smallR 10 = true := by decide
  simp [f54, e1, r10]
theorem truth (ns : List Int) (hn : ns.length ≤ 63) : ∃ ph, callN pgm 12 55 [.scr (ns.map .int)] [] = .ok (.bl true, false) ph :=
  law_all chk (n := 10) (li := 55) (ri := 54) (M := 4) (fi := f55) (by decide) (by decide) rfl rfl rfl rfl right_ok ns hn
end K74

set_option Elab.async false
set_option linter.all false
set_option maxRecDepth 100000
set_option maxHeartbeats 0
/-! the head of k74. -/
open PySem PySem.W PySem.Calls PyProof.Rows
theorem PySem.Challenge.cw_endorders_k74_whole_agreements_certified_holds : PySem.Challenge.rw_endorders_k74_whole_agreements_certified.Holds := by
  w_on; o_law; k_head; (case hw => w_witness2)
  k_fill
  refine Py.law_walk (pg := K74.pgm) (fn := K74.fn) (l := PySem.Challenge.rw_endorders_k74_whole_agreements_certified) (n := 63) (k := 12) (li := 55) (fi := K74.f55) (x := ("_law_cells" : Str)) rfl (by decide) (by kernel_rfl) ⟨rfl, by decide, by decide⟩ K74.hD (by kernel_rfl) (by kernel_rfl) rfl (by kernel_rfl) rfl K74.truth (fun w h Y => PySem.W.kIn_of Y) ?sT ?sX
  case sT =>
    intro w
    unfold He.SaysT
    kernel_rfl
  case sX =>
    intro w
    kernel_rfl
