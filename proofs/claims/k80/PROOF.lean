import PyProof.Rows.All
import Wide.All
import OpenK.AllK
import Wide.FinOn
import HandS.ForMost
import HandS.Wide
import HandS.More
import HandS.TupAny
import HandS.TupMul
import HandS.IsInst
import HandS.Zip
import HandS.SortInts
import HandS.Codes
import HandS.Defaults
import PyProof.Draws
import PyProof.EnumMake
import HandS.Style
import HandS.HeadHook2
import HandS.HeadEnd
import HandS.Head2
import PySem.Challenge.RW_namesenough_k80_frames_are_read_up_to_th
set_option Elab.async false
set_option linter.all false
set_option maxRecDepth 100000
set_option maxHeartbeats 0
/-! # Lg0: plain data, how a heap bears them, states -/
namespace Lg
open PySem PySem.Spec PyProof.Rows L2

/-- plain data; raw: a value as it is; frz: the script, a list that is read alone -/
inductive D where
  | non | bl (b : Bool) | int (i : Int) | str (s : Str) | tup (l : List D) | lst (l : List D)
  | ins (C : Addr) (ns : List Str) (l : List D) | dct (ks : List Key) (l : List D) | raw (v : V) | frz (ns : List Int)

/-- a tuple | a list that may be read and stands outside of X -/
def TpX (K : PySem.W.Frag) (X : List Addr) (H : Hp) (a : Addr) (xs : List V) : Prop :=
  (a ∉ X ∧ Rd H a (.tup xs)) ∨ ∃ (o : Obj) (its : Array Value) (n : Nat), K.lookup a = some o ∧ o.cls = .type "tuple" ∧ o.data = .seq its n ∧ its.size ≤ sizeLine ∧ Vals xs its.toList
def LsX (K : PySem.W.Frag) (X : List Addr) (H : Hp) (a : Addr) (xs : List V) : Prop := a ∉ X ∧ H a = some (.lst xs)
def FzX (K : PySem.W.Frag) (X : List Addr) (H : Hp) (a : Addr) (xs : List V) : Prop :=
  (a ∉ X ∧ Rd H a (.lst xs)) ∨ ∃ (o : Obj) (its : Array Value) (n : Nat), K.lookup a = some o ∧ o.cls = .type "list" ∧ o.dict = none ∧ o.data = .seq its n ∧ its.size ≤ sizeLine ∧ Vals xs its.toList
theorem FzX.sq {K : PySem.W.Frag} {X : List Addr} {H : Hp} {a : Addr} {xs : List V} (h : FzX K X H a xs) : SqL K H a xs := by
  rcases h with h | h
  · exact .inl h.2
  · exact .inr h
theorem TpX.sq {K : PySem.W.Frag} {X : List Addr} {H : Hp} {a : Addr} {xs : List V} (h : TpX K X H a xs) : SqT K H a xs := by
  rcases h with h | h
  · exact .inl h.2
  · exact .inr h
theorem LsX.sq {K : PySem.W.Frag} {X : List Addr} {H : Hp} {a : Addr} {xs : List V} (h : LsX K X H a xs) : SqL K H a xs := .inl (.inl h.2)
mutual
/-- the value v stands for the data d in the heap H, by objects outside of X -/
inductive Rp (K : PySem.W.Frag) (X : List Addr) (H : Hp) : V → D → Prop
  | non : Rp K X H .non .non
  | bl (b : Bool) : Rp K X H (.bl b) (.bl b)
  | int (i : Int) : Rp K X H (.int i) (.int i)
  | str (s : Str) : Rp K X H (.str s) (.str s)
  | tup {a : Addr} {vs : List V} {ds : List D} : TpX K X H a vs → Rps K X H vs ds → Rp K X H (.ref a) (.tup ds)
  | lst {a : Addr} {vs : List V} {ds : List D} : LsX K X H a vs → Rps K X H vs ds → Rp K X H (.ref a) (.lst ds)
  | ins {a C dx : Addr} {fs : List (Str × V)} {ns : List Str} {vs : List V} {ds : List D} : a ∉ X → H a = some (.ins C dx fs) → fs.map (·.1) = ns → fs.map (·.2) = vs → Rps K X H vs ds → Rp K X H (.ref a) (.ins C ns ds)
  | dct {a : Addr} {kvs : List (Key × V)} {ks : List Key} {vs : List V} {ds : List D} : a ∉ X → Rd H a (.dK kvs) → kvs.map (·.1) = ks → kvs.map (·.2) = vs → Rps K X H vs ds → Rp K X H (.ref a) (.dct ks ds)
  | raw (v : V) : Rp K X H v (.raw v)
  | frz {a : Addr} {ns : List Int} : FzX K X H a (ns.map V.int) → Rp K X H (.ref a) (.frz ns)
inductive Rps (K : PySem.W.Frag) (X : List Addr) (H : Hp) : List V → List D → Prop
  | nil : Rps K X H [] []
  | cons {v : V} {vs : List V} {d : D} {ds : List D} : Rp K X H v d → Rps K X H vs ds → Rps K X H (v :: vs) (d :: ds)
end

/-- what stands outside of X is kept; X' is X's or new -/
structure Kp (X : List Addr) (H : Hp) (X' : List Addr) (H' : Hp) : Prop where
  keep : ∀ a o, a ∉ X → H a = some o → H' a = some o
  live : ∀ a, H a ≠ none → H' a ≠ none
  new : ∀ a ∈ X', a ∈ X ∨ H a = none
theorem Kp.refl (X : List Addr) (H : Hp) : Kp X H X H := ⟨fun _ _ _ h => h, fun _ h => h, fun _ h => .inl h⟩
theorem Kp.trans {X X1 X2 : List Addr} {H H1 H2 : Hp} (a : Kp X H X1 H1) (b : Kp X1 H1 X2 H2) : Kp X H X2 H2 := by
  refine ⟨fun c o hc h => ?_, fun c h => b.live c (a.live c h), fun c hc => ?_⟩
  · refine b.keep c o (fun hm => ?_) (a.keep c o hc h)
    rcases a.new c hm with z | z
    · exact hc z
    · rw [h] at z
      cases z
  · rcases b.new c hc with z | z
    · exact a.new c z
    · refine .inr ?_
      cases q : H c with
      | none => rfl
      | some o => exact absurd z (a.live c (by rw [q]; simp))
theorem Kp.less {X X' : List Addr} (H : Hp) (h : ∀ a ∈ X', a ∈ X) : Kp X H X' H := ⟨fun _ _ _ e => e, fun _ e => e, fun a ha => .inl (h a ha)⟩
theorem Kp.rd {X X' : List Addr} {H H' : Hp} {a : Addr} {u : HO} (k : Kp X H X' H') (ha : a ∉ X) (h : Rd H a u) : a ∉ X' ∧ Rd H' a u := by
  have ex : ∃ o, H a = some o := by
    rcases h with h | ⟨o, h⟩
    · exact ⟨_, h⟩
    · exact ⟨_, h⟩
  obtain ⟨o, ho⟩ := ex
  refine ⟨fun hm => ?_, ?_⟩
  · rcases k.new a hm with z | z
    · exact ha z
    · rw [ho] at z
      cases z
  · rcases h with h | ⟨o, h⟩
    · exact .inl (k.keep a _ ha h)
    · exact .inr ⟨o, k.keep a _ ha h⟩
theorem Kp.at {X X' : List Addr} {H H' : Hp} {a : Addr} {u : HO} (k : Kp X H X' H') (ha : a ∉ X) (h : H a = some u) : a ∉ X' ∧ H' a = some u := by
  refine ⟨fun hm => ?_, k.keep a _ ha h⟩
  rcases k.new a hm with z | z
  · exact ha z
  · rw [h] at z
    cases z
section
variable {K : PySem.W.Frag} {X X' : List Addr} {H H' : Hp}
theorem TpX.mono {a : Addr} {xs : List V} (h : TpX K X H a xs) (k : Kp X H X' H') : TpX K X' H' a xs := by
  rcases h with ⟨h1, h2⟩ | h
  · exact .inl (k.rd h1 h2)
  · exact .inr h
theorem LsX.mono {a : Addr} {xs : List V} (h : LsX K X H a xs) (k : Kp X H X' H') : LsX K X' H' a xs := k.at h.1 h.2
theorem FzX.mono {a : Addr} {xs : List V} (h : FzX K X H a xs) (k : Kp X H X' H') : FzX K X' H' a xs := by
  rcases h with ⟨h1, h2⟩ | h
  · exact .inl (k.rd h1 h2)
  · exact .inr h
mutual
theorem Rp.mono (k : Kp X H X' H') : ∀ {d : D} {v : V}, Rp K X H v d → Rp K X' H' v d
  | .non, _, h => by cases h; exact .non
  | .bl b, _, h => by cases h; exact .bl b
  | .int i, _, h => by cases h; exact .int i
  | .str s, _, h => by cases h; exact .str s
  | .tup ds, _, h => by
    cases h with
    | tup h1 h2 => exact .tup (h1.mono k) (Rps.mono k h2)
  | .lst ds, _, h => by
    cases h with
    | lst h1 h2 => exact .lst (h1.mono k) (Rps.mono k h2)
  | .ins C ns ds, _, h => by
    cases h with
    | ins h1 h2 h3 h4 h5 =>
      obtain ⟨q1, q2⟩ := k.at h1 h2
      exact .ins q1 q2 h3 h4 (Rps.mono k h5)
  | .dct ks ds, _, h => by
    cases h with
    | dct h1 h2 h3 h4 h5 =>
      obtain ⟨q1, q2⟩ := k.rd h1 h2
      exact .dct q1 q2 h3 h4 (Rps.mono k h5)
  | .raw v, _, h => by cases h; exact .raw v
  | .frz ns, _, h => by
    cases h with
    | frz h1 => exact .frz (h1.mono k)
theorem Rps.mono (k : Kp X H X' H') : ∀ {ds : List D} {vs : List V}, Rps K X H vs ds → Rps K X' H' vs ds
  | [], _, h => by cases h; exact .nil
  | d :: ds, _, h => by
    cases h with
    | cons h1 h2 => exact .cons (Rp.mono k h1) (Rps.mono k h2)
end
theorem Rps.length : ∀ {vs : List V} {ds : List D}, Rps K X H vs ds → vs.length = ds.length
  | _, _, .nil => rfl
  | _, _, .cons _ t => congrArg (· + 1) (Rps.length t)
theorem Rps.get : ∀ {vs : List V} {ds : List D} {i : Nat} {d : D}, Rps K X H vs ds → ds[i]? = some d → ∃ v, vs[i]? = some v ∧ Rp K X H v d
  | _, _, i, _, .nil, e => by simp at e
  | _, _, 0, _, .cons r _, e => by
    have e1 := Option.some.inj e
    subst e1
    exact ⟨_, rfl, r⟩
  | _, _, i + 1, _, .cons _ t, e => Rps.get (i := i) t e
theorem Rps.getv : ∀ {vs : List V} {ds : List D} {i : Nat} {v : V}, Rps K X H vs ds → vs[i]? = some v → ∃ d, ds[i]? = some d ∧ Rp K X H v d
  | _, _, i, _, .nil, e => by simp at e
  | _, _, 0, _, .cons r _, e => by
    have e1 := Option.some.inj e
    subst e1
    exact ⟨_, rfl, r⟩
  | _, _, i + 1, _, .cons _ t, e => Rps.getv (i := i) t e
theorem Rps.append : ∀ {vs ws : List V} {ds es : List D}, Rps K X H vs ds → Rps K X H ws es → Rps K X H (vs ++ ws) (ds ++ es)
  | _, _, _, _, .nil, h => h
  | _, _, _, _, .cons r t, h => .cons r (Rps.append t h)
theorem Rps.take (n : Nat) : ∀ {vs : List V} {ds : List D}, Rps K X H vs ds → Rps K X H (vs.take n) (ds.take n) := by
  induction n with
  | zero => intro vs ds _; exact .nil
  | succ n ih =>
    intro vs ds h
    cases h with
    | nil => exact .nil
    | cons r t => exact .cons r (ih t)
theorem Rps.drop (n : Nat) : ∀ {vs : List V} {ds : List D}, Rps K X H vs ds → Rps K X H (vs.drop n) (ds.drop n) := by
  induction n with
  | zero => intro vs ds h; exact h
  | succ n ih =>
    intro vs ds h
    cases h with
    | nil => exact .nil
    | cons r t => exact ih t
theorem Rps.reverse : ∀ {vs : List V} {ds : List D}, Rps K X H vs ds → Rps K X H vs.reverse ds.reverse
  | _, _, .nil => .nil
  | _, _, .cons r t => by
    rw [List.reverse_cons, List.reverse_cons]
    exact (Rps.reverse t).append (.cons r .nil)
theorem Rps.one {v : V} {d : D} (h : Rp K X H v d) : Rps K X H [v] [d] := .cons h .nil
theorem Rps.ints : ∀ (ns : List Int), Rps K X H (ns.map V.int) (ns.map D.int)
  | [] => .nil
  | n :: r => .cons (.int n) (Rps.ints r)
theorem Rps.of_ints : ∀ {ns : List Int} {vs : List V}, Rps K X H vs (ns.map D.int) → vs = ns.map V.int
  | [], _, h => by cases h; rfl
  | n :: r, _, h => by
    cases h with
    | cons h1 h2 =>
      cases h1
      rw [Rps.of_ints h2]
      rfl
theorem Rps.of_strs : ∀ {ns : List Str} {vs : List V}, Rps K X H vs (ns.map D.str) → vs = ns.map V.str
  | [], _, h => by cases h; rfl
  | n :: r, _, h => by
    cases h with
    | cons h1 h2 =>
      cases h1
      rw [Rps.of_strs h2]
      rfl
end

/-! ### objects of one's own -/
/-- a list, a dict that one name alone has -/
inductive OD where
  | l (ds : List D) | k (ks : List Key) (ds : List D)
def OD.toD : OD → D
  | .l ds => .lst ds
  | .k ks ds => .dct ks ds
inductive OdR (K : PySem.W.Frag) (X : List Addr) (H : Hp) (a : Addr) : OD → Prop
  | l {vs : List V} {ds : List D} : H a = some (.lst vs) → Rps K X H vs ds → OdR K X H a (.l ds)
  | k {kvs : List (Key × V)} {ks : List Key} {vs : List V} {ds : List D} : H a = some (.dK kvs) → kvs.map (·.1) = ks → kvs.map (·.2) = vs → Rps K X H vs ds → OdR K X H a (.k ks ds)
section
variable {K : PySem.W.Frag} {X X' : List Addr} {H H' : Hp} {a : Addr}
theorem OdR.mono {o : OD} (k : Kp X H X' H') (e : H' a = H a) (h : OdR K X H a o) : OdR K X' H' a o := by
  cases h with
  | l h1 h2 => exact .l (e.trans h1) (h2.mono k)
  | k h1 h2 h3 h4 => exact .k (e.trans h1) h2 h3 (h4.mono k)
theorem OdR.live {o : OD} (h : OdR K X H a o) : H a ≠ none := by
  cases h with
  | l h1 h2 => rw [h1]; simp
  | k h1 h2 h3 h4 => rw [h1]; simp
theorem OdR.rp {o : OD} (h : OdR K X H a o) (ha : a ∉ X) : Rp K X H (.ref a) o.toD := by
  cases h with
  | l h1 h2 => exact .lst ⟨ha, h1⟩ h2
  | k h1 h2 h3 h4 => exact .dct ha (.inl h1) h2 h3 h4
end

/-- a slot: nothing said, data, an object of the slot's own -/
inductive SD where
  | no | d (d : D) | o (o : OD)
inductive Slots (K : PySem.W.Frag) (X : List Addr) (H : Hp) : List (Option V) → List SD → List Addr → Prop
  | nil : Slots K X H [] [] []
  | no {x : Option V} {σ : List (Option V)} {δ : List SD} {O : List Addr} : Slots K X H σ δ O → Slots K X H (x :: σ) (.no :: δ) O
  | d {v : V} {d : D} {σ : List (Option V)} {δ : List SD} {O : List Addr} : Rp K X H v d → Slots K X H σ δ O → Slots K X H (some v :: σ) (.d d :: δ) O
  | o {a : Addr} {o : OD} {σ : List (Option V)} {δ : List SD} {O : List Addr} : OdR K X H a o → Slots K X H σ δ O → Slots K X H (some (.ref a) :: σ) (.o o :: δ) (a :: O)
section
variable {K : PySem.W.Frag} {X X' : List Addr} {H H' : Hp}
theorem Slots.mono (k : Kp X H X' H') : ∀ {σ : List (Option V)} {δ : List SD} {O : List Addr}, Slots K X H σ δ O → (∀ a ∈ O, H' a = H a) → Slots K X' H' σ δ O
  | _, _, _, .nil, _ => .nil
  | _, _, _, .no t, h => .no (Slots.mono k t h)
  | _, _, _, .d r t, h => .d (r.mono k) (Slots.mono k t h)
  | _, _, _, .o r t, h => .o (r.mono k (h _ List.mem_cons_self)) (Slots.mono k t fun a ha => h a (List.mem_cons_of_mem _ ha))
theorem Slots.length : ∀ {σ : List (Option V)} {δ : List SD} {O : List Addr}, Slots K X H σ δ O → σ.length = δ.length
  | _, _, _, .nil => rfl
  | _, _, _, .no t => congrArg (· + 1) (Slots.length t)
  | _, _, _, .d _ t => congrArg (· + 1) (Slots.length t)
  | _, _, _, .o _ t => congrArg (· + 1) (Slots.length t)
theorem Slots.live : ∀ {σ : List (Option V)} {δ : List SD} {O : List Addr}, Slots K X H σ δ O → ∀ a ∈ O, H a ≠ none
  | _, _, _, .nil, _, h => nomatch h
  | _, _, _, .no t, a, h => Slots.live t a h
  | _, _, _, .d _ t, a, h => Slots.live t a h
  | _, _, _, .o r t, a, h => by
    rcases List.mem_cons.mp h with e | h
    · rw [e]; exact r.live
    · exact Slots.live t a h
theorem Slots.getD : ∀ {σ : List (Option V)} {δ : List SD} {O : List Addr} {i : Nat} {d : D}, Slots K X H σ δ O → δ[i]? = some (.d d) → ∃ v, σ[i]? = some (some v) ∧ Rp K X H v d
  | _, _, _, i, _, .nil, e => by simp at e
  | _, _, _, 0, _, .no t, e => by simp at e
  | _, _, _, 0, _, .d r t, e => by
    have e1 := Option.some.inj e
    injection e1 with e2
    subst e2
    exact ⟨_, rfl, r⟩
  | _, _, _, 0, _, .o r t, e => by simp at e
  | _, _, _, i + 1, _, .no t, e => Slots.getD (i := i) t e
  | _, _, _, i + 1, _, .d _ t, e => Slots.getD (i := i) t e
  | _, _, _, i + 1, _, .o _ t, e => Slots.getD (i := i) t e
theorem Slots.getO : ∀ {σ : List (Option V)} {δ : List SD} {O : List Addr} {i : Nat} {o : OD}, Slots K X H σ δ O → δ[i]? = some (.o o) → ∃ a ∈ O, σ[i]? = some (some (.ref a)) ∧ OdR K X H a o
  | _, _, _, i, _, .nil, e => by simp at e
  | _, _, _, 0, _, .no t, e => by simp at e
  | _, _, _, 0, _, .d r t, e => by simp at e
  | _, _, _, 0, _, .o r t, e => by
    have e1 := Option.some.inj e
    injection e1 with e2
    subst e2
    exact ⟨_, List.mem_cons_self, rfl, r⟩
  | _, _, _, i + 1, _, .no t, e => Slots.getO (i := i) t e
  | _, _, _, i + 1, _, .d _ t, e => Slots.getO (i := i) t e
  | _, _, _, i + 1, _, .o _ t, e => by
    obtain ⟨a, ha, h⟩ := Slots.getO (i := i) t e
    exact ⟨a, List.mem_cons_of_mem _ ha, h⟩
/-- a slot gets data -/
theorem Slots.setD {v : V} {d : D} (r : Rp K X H v d) : ∀ {σ : List (Option V)} {δ : List SD} {O : List Addr} (i : Nat), Slots K X H σ δ O → ∃ O', Slots K X H (σ.set i (some v)) (δ.set i (.d d)) O' ∧ O'.Sublist O
  | _, _, _, i, .nil => ⟨[], .nil, List.Sublist.refl _⟩
  | _, _, _, 0, .no t => ⟨_, .d r t, List.Sublist.refl _⟩
  | _, _, _, 0, .d _ t => ⟨_, .d r t, List.Sublist.refl _⟩
  | _, _, _, 0, .o _ t => ⟨_, .d r t, List.Sublist.cons _ (List.Sublist.refl _)⟩
  | _, _, _, i + 1, .no t => let ⟨O', h, s⟩ := Slots.setD r i t; ⟨O', .no h, s⟩
  | _, _, _, i + 1, .d q t => let ⟨O', h, s⟩ := Slots.setD r i t; ⟨O', .d q h, s⟩
  | _, _, _, i + 1, .o q t => let ⟨O', h, s⟩ := Slots.setD r i t; ⟨_ :: O', .o q h, s.cons₂ _⟩
/-- a slot is forgotten -/
theorem Slots.setNo (x : Option V) : ∀ {σ : List (Option V)} {δ : List SD} {O : List Addr} (i : Nat), Slots K X H σ δ O → ∃ O', Slots K X H (σ.set i x) (δ.set i .no) O' ∧ O'.Sublist O
  | _, _, _, i, .nil => ⟨[], .nil, List.Sublist.refl _⟩
  | _, _, _, 0, .no t => ⟨_, .no t, List.Sublist.refl _⟩
  | _, _, _, 0, .d _ t => ⟨_, .no t, List.Sublist.refl _⟩
  | _, _, _, 0, .o _ t => ⟨_, .no t, List.Sublist.cons _ (List.Sublist.refl _)⟩
  | _, _, _, i + 1, .no t => let ⟨O', h, s⟩ := Slots.setNo x i t; ⟨O', .no h, s⟩
  | _, _, _, i + 1, .d q t => let ⟨O', h, s⟩ := Slots.setNo x i t; ⟨O', .d q h, s⟩
  | _, _, _, i + 1, .o q t => let ⟨O', h, s⟩ := Slots.setNo x i t; ⟨_ :: O', .o q h, s.cons₂ _⟩
/-- a slot gets an object of its own, at p -/
theorem Slots.setO {p : Addr} {o : OD} (r : OdR K X H p o) : ∀ {σ : List (Option V)} {δ : List SD} {O : List Addr} (i : Nat), Slots K X H σ δ O → p ∉ O → O.Nodup →
    ∃ O', Slots K X H (σ.set i (some (.ref p))) (δ.set i (.o o)) O' ∧ (∀ a ∈ O', a = p ∨ a ∈ O) ∧ O'.Nodup
  | _, _, _, i, .nil, _, _ => ⟨[], .nil, (fun _ h => nomatch h), List.nodup_nil⟩
  | _, _, _, 0, .no t, hp, hn => ⟨_, .o r t, fun a h => List.mem_cons.mp h, List.nodup_cons.mpr ⟨hp, hn⟩⟩
  | _, _, _, 0, .d _ t, hp, hn => ⟨_, .o r t, fun a h => List.mem_cons.mp h, List.nodup_cons.mpr ⟨hp, hn⟩⟩
  | _, _, _, 0, .o _ t, hp, hn => ⟨_, .o r t, fun a h => (List.mem_cons.mp h).imp id (List.mem_cons_of_mem _), List.nodup_cons.mpr ⟨fun z => hp (List.mem_cons_of_mem _ z), (List.nodup_cons.mp hn).2⟩⟩
  | _, _, _, i + 1, .no t, hp, hn => let ⟨O', h, s, n⟩ := Slots.setO r i t hp hn; ⟨O', .no h, s, n⟩
  | _, _, _, i + 1, .d q t, hp, hn => let ⟨O', h, s, n⟩ := Slots.setO r i t hp hn; ⟨O', .d q h, s, n⟩
  | _, _, _, i + 1, .o (a := b) q t, hp, hn => by
    obtain ⟨O', h, s, n⟩ := Slots.setO r i t (fun z => hp (List.mem_cons_of_mem _ z)) (List.nodup_cons.mp hn).2
    refine ⟨b :: O', .o q h, fun a ha => ?_, List.nodup_cons.mpr ⟨fun z => ?_, n⟩⟩
    · rcases List.mem_cons.mp ha with e | ha
      · exact .inr (List.mem_cons.mpr (.inl e))
      · exact (s a ha).imp id (List.mem_cons_of_mem _)
    · rcases s b z with e | z
      · exact hp (List.mem_cons.mpr (.inl e.symm))
      · exact (List.nodup_cons.mp hn).1 z
/-- the object of a slot is given up: it is data from now on -/
theorem Slots.freeze : ∀ {σ : List (Option V)} {δ : List SD} {O : List Addr} {i : Nat} {o : OD}, Slots K X H σ δ O → O.Nodup → δ[i]? = some (.o o) →
    ∃ a O', a ∈ O ∧ a ∉ O' ∧ O'.Sublist O ∧ σ[i]? = some (some (.ref a)) ∧ OdR K X H a o ∧ ∀ X', Kp X H X' H → a ∉ X' → Slots K X' H σ (δ.set i (.d o.toD)) O'
  | _, _, _, i, _, .nil, _, e => by simp at e
  | _, _, _, 0, _, .no t, _, e => by simp at e
  | _, _, _, 0, _, .d r t, _, e => by simp at e
  | _, _, _, 0, _, .o (a := b) (O := O) r t, hn, e => by
    have e1 := Option.some.inj e
    injection e1 with e2
    subst e2
    exact ⟨b, O, List.mem_cons_self, (List.nodup_cons.mp hn).1, List.Sublist.cons _ (List.Sublist.refl _), rfl, r, fun X' k ha => .d ((r.mono k rfl).rp ha) (t.mono k fun _ _ => rfl)⟩
  | _, _, _, i + 1, _, .no t, hn, e => by
    obtain ⟨a, O', h1, h2, h3, h4, h5, h6⟩ := Slots.freeze (i := i) t hn e
    exact ⟨a, O', h1, h2, h3, h4, h5, fun X' k ha => .no (h6 X' k ha)⟩
  | _, _, _, i + 1, _, .d r t, hn, e => by
    obtain ⟨a, O', h1, h2, h3, h4, h5, h6⟩ := Slots.freeze (i := i) t hn e
    exact ⟨a, O', h1, h2, h3, h4, h5, fun X' k ha => .d (r.mono k) (h6 X' k ha)⟩
  | _, _, _, i + 1, _, .o (a := b) r t, hn, e => by
    obtain ⟨hb, hn⟩ := List.nodup_cons.mp hn
    obtain ⟨a, O', h1, h2, h3, h4, h5, h6⟩ := Slots.freeze (i := i) t hn e
    refine ⟨a, b :: O', List.mem_cons_of_mem _ h1, fun z => ?_, h3.cons₂ _, h4, h5, fun X' k ha => .o (r.mono k rfl) (h6 X' k ha)⟩
    rcases List.mem_cons.mp z with e | z
    · exact hb (e ▸ h1)
    · exact h2 z
/-- the object of a slot has changed -/
theorem Slots.write {p : Addr} {o o' : OD} : ∀ {σ : List (Option V)} {δ : List SD} {O : List Addr} {i : Nat}, Slots K X H σ δ O → O.Nodup → (∀ a ∈ O, a ∈ X) → δ[i]? = some (.o o) → σ[i]? = some (some (.ref p)) →
    (∀ a, a ≠ p → H' a = H a) → OdR K X H' p o' → Kp X H X H' → Slots K X H' σ (δ.set i (.o o')) O
  | _, _, _, i, .nil, _, _, e, _, _, _, _ => by simp at e
  | _, _, _, 0, .no t, _, _, e, _, _, _, _ => by simp at e
  | _, _, _, 0, .d r t, _, _, e, _, _, _, _ => by simp at e
  | _, _, _, 0, .o (a := b) r t, hn, hx, e, e2, hp, r', k => by
    have e3 := Option.some.inj (Option.some.inj e2)
    injection e3 with e4
    subst e4
    exact .o r' (t.mono k fun a ha => hp a fun z => (List.nodup_cons.mp hn).1 (z ▸ ha))
  | _, _, _, i + 1, .no t, hn, hx, e, e2, hp, r', k => .no (Slots.write (i := i) t hn hx e e2 hp r' k)
  | _, _, _, i + 1, .d r t, hn, hx, e, e2, hp, r', k => .d (r.mono k) (Slots.write (i := i) t hn hx e e2 hp r' k)
  | _, _, _, i + 1, .o (a := b) r t, hn, hx, e, e2, hp, r', k => by
    obtain ⟨hb, hn⟩ := List.nodup_cons.mp hn
    have ne : b ≠ p := fun z => by
      obtain ⟨a, ha, h1, h2⟩ := Slots.getO (i := i) t e
      have e2' : _ = some (some (V.ref p)) := e2
      have h3 := Option.some.inj (Option.some.inj (h1.symm.trans e2'))
      injection h3 with h4
      exact hb (by rw [z, ← h4]; exact ha)
    exact .o (r.mono k (hp b ne)) (Slots.write (i := i) t hn (fun a ha => hx a (List.mem_cons_of_mem _ ha)) e e2 hp r' k)
end

/-! ### the state -/
/-- what a def may change of its callers' things: its objects S, what holds of them -/
structure Res where
  S : List Addr
  I : List Addr → Hp → Prop
  live : ∀ X H, I X H → ∀ a ∈ S, H a ≠ none
  stay : ∀ X H X' H', I X H → (∀ a ∈ S, H' a = H a) → Kp X H X' H' → I X' H'
def WS (W : List Res) : List Addr := W.flatMap Res.S
def AllI (W : List Res) (X : List Addr) (H : Hp) : Prop := ∀ r ∈ W, r.I X H
abbrev Xs (O Y : List Addr) (W : List Res) : List Addr := O ++ (Y ++ WS W)
theorem mem_WS {W : List Res} {r : Res} {a : Addr} (hr : r ∈ W) (ha : a ∈ r.S) : a ∈ WS W := List.mem_flatMap.mpr ⟨r, hr, ha⟩
theorem AllI.mono {W : List Res} {X X' : List Addr} {H H' : Hp} (h : AllI W X H) (k : Kp X H X' H') (e : ∀ a ∈ WS W, H' a = H a) : AllI W X' H' := fun r hr => r.stay _ _ _ _ (h r hr) (fun a ha => e a (mem_WS hr ha)) k
theorem AllI.live {W : List Res} {X : List Addr} {H : Hp} (h : AllI W X H) : ∀ a ∈ WS W, H a ≠ none := fun a ha => by
  obtain ⟨r, hr, hs⟩ := List.mem_flatMap.mp ha
  exact r.live _ _ (h r hr) a hs

/-- the state: slots δ, things W, frames Y that stay, the slots' own objects O -/
structure As (K : PySem.W.Frag) (Y : List Addr) (σ : L2.St) (H : Hp) (δ : List SD) (W : List Res) (O : List Addr) : Prop where
  slots : Slots K (Xs O Y W) H σ δ O
  nd : (Xs O Y W).Nodup
  fr : ∀ a ∈ Y, H a ≠ none
  res : AllI W (Xs O Y W) H
theorem As.live {K : PySem.W.Frag} {Y : List Addr} {σ : L2.St} {H : Hp} {δ : List SD} {W : List Res} {O : List Addr} (h : As K Y σ H δ W O) : ∀ a ∈ Xs O Y W, H a ≠ none := fun a ha => by
  rcases List.mem_append.mp ha with z | z
  · exact h.slots.live a z
  · rcases List.mem_append.mp z with z | z
    · exact h.fr a z
    · exact h.res.live a z
/-- a step -/
structure Stp (Y X : List Addr) (H : Hp) (X' : List Addr) (H' : Hp) : Prop extends Kp X H X' H' where
  fix : ∀ a ∈ Y, H' a = H a
theorem Stp.refl (Y X : List Addr) (H : Hp) : Stp Y X H X H := ⟨Kp.refl X H, fun _ _ => rfl⟩
theorem Stp.trans {Y Y1 X X1 X2 : List Addr} {H H1 H2 : Hp} (a : Stp Y X H X1 H1) (b : Stp Y1 X1 H1 X2 H2) (hy : ∀ c ∈ Y, c ∈ Y1) : Stp Y X H X2 H2 := ⟨a.toKp.trans b.toKp, fun c hc => (b.fix c (hy c hc)).trans (a.fix c hc)⟩
/-- all that was tracked is as it was -/
abbrev Ex (H H' : Hp) : Prop := Same H H'
theorem Ex.kp {X X' : List Addr} {H H' : Hp} (e : Ex H H') (h : ∀ a ∈ X', a ∈ X ∨ H a = none) : Kp X H X' H' := ⟨fun a o _ q => e a o q, fun a q => by
  cases z : H a with
  | none => exact absurd z q
  | some o => rw [e a o z]; simp, h⟩
theorem Ex.kp0 {X : List Addr} {H H' : Hp} (e : Ex H H') : Kp X H X H' := e.kp fun _ h => .inl h
theorem Ex.eq {H H' : Hp} {a : Addr} (e : Ex H H') (h : H a ≠ none) : H' a = H a := by
  cases z : H a with
  | none => exact absurd z h
  | some o => exact e a o z
theorem Ex.new {H : Hp} {p : Addr} {o : HO} (h : H p = none) : Ex H (upd H p o) := fun a u e => by
  rw [upd_ne (ne_of_none e h)]
  exact e
section
variable {K : PySem.W.Frag} {Y : List Addr} {σ : L2.St} {H H' : Hp} {δ δ' : List SD} {W W' : List Res} {O O' : List Addr}
theorem As.ex (h : As K Y σ H δ W O) (e : Ex H H') : As K Y σ H' δ W O :=
  ⟨h.slots.mono e.kp0 fun a ha => e.eq (h.slots.live a ha), h.nd, fun a ha => by rw [e.eq (h.fr a ha)]; exact h.fr a ha, h.res.mono e.kp0 fun a ha => e.eq (h.res.live a ha)⟩
theorem As.stp (h : As K Y σ H δ W O) (e : Ex H H') : Stp Y (Xs O Y W) H (Xs O Y W) H' := ⟨e.kp0, fun a ha => e.eq (h.fr a ha)⟩
theorem mem_mid {p a : Addr} {O Y : List Addr} {W : List Res} : a ∈ Xs O (p :: Y) W ↔ a = p ∨ a ∈ Xs O Y W := by
  simp only [Xs, List.mem_append, List.mem_cons]
  constructor
  · rintro (h | (h | h) | h)
    · exact .inr (.inl h)
    · exact .inl h
    · exact .inr (.inr (.inl h))
    · exact .inr (.inr (.inr h))
  · rintro (h | h | h | h)
    · exact .inr (.inl (.inl h))
    · exact .inl h
    · exact .inr (.inl (.inr h))
    · exact .inr (.inr h)
theorem nd_mid {p : Addr} {O Y : List Addr} {W : List Res} : (Xs O (p :: Y) W).Nodup ↔ p ∉ Xs O Y W ∧ (Xs O Y W).Nodup := by
  show (O ++ p :: (Y ++ WS W)).Nodup ↔ p ∉ O ++ (Y ++ WS W) ∧ (O ++ (Y ++ WS W)).Nodup
  generalize Y ++ WS W = Z
  rw [List.nodup_append, List.nodup_cons, List.nodup_append, List.mem_append]
  constructor
  · rintro ⟨h1, ⟨h2, h3⟩, h4⟩
    refine ⟨?_, h1, h3, fun a ha b hb => h4 a ha b (List.mem_cons_of_mem _ hb)⟩
    rintro (z | z)
    · exact h4 p z p List.mem_cons_self rfl
    · exact h2 z
  · rintro ⟨h1, h2, h3, h4⟩
    refine ⟨h2, ⟨fun z => h1 (.inr z), h3⟩, fun a ha b hb => ?_⟩
    rcases List.mem_cons.mp hb with e | hb
    · rintro rfl
      exact h1 (.inl (e ▸ ha))
    · exact h4 a ha b hb
/-- a new object is set aside -/
theorem As.aside (h : As K Y σ H δ W O) (e : Ex H H') {p : Addr} (hp : H p = none) (hp' : H' p ≠ none) : As K (p :: Y) σ H' δ W O := by
  have k : Kp (Xs O Y W) H (Xs O (p :: Y) W) H' := e.kp fun a ha => by
    rcases mem_mid.mp ha with z | z
    · exact .inr (z ▸ hp)
    · exact .inl z
  refine ⟨h.slots.mono k fun a ha => e.eq (h.slots.live a ha), nd_mid.mpr ⟨fun z => h.live p z hp, h.nd⟩, fun a ha => ?_, h.res.mono k fun a ha => e.eq (h.res.live a ha)⟩
  rcases List.mem_cons.mp ha with z | z
  · rw [z]; exact hp'
  · rw [e.eq (h.fr a z)]; exact h.fr a z
/-- what was set aside is forgotten -/
theorem As.drop {ps : List Addr} (h : As K (ps ++ Y) σ H δ W O) : As K Y σ H δ W O := by
  have sub : ∀ a ∈ Xs O Y W, a ∈ Xs O (ps ++ Y) W := fun a ha => by
    simp only [Xs, List.mem_append] at ha ⊢
    rcases ha with z | z | z
    · exact .inl z
    · exact .inr (.inl (.inr z))
    · exact .inr (.inr z)
  have sl : (Xs O Y W).Sublist (Xs O (ps ++ Y) W) := (List.Sublist.refl O).append ((List.sublist_append_right ps Y).append (List.Sublist.refl _))
  refine ⟨h.slots.mono (Kp.less H sub) fun _ _ => rfl, h.nd.sublist sl, fun a ha => h.fr a (List.mem_append_right _ ha), h.res.mono (Kp.less H sub) fun _ _ => rfl⟩
end
end Lg
/-! # Lg1: what readings give, by data: expressions, arguments, tests -/
namespace Lg
open PySem PySem.Spec PyProof.Rows L2

/-- a result: data; the i-th slot's own object; a new object -/
inductive RD where
  | v (d : D) | s (i : Nat) | n (o : OD)
def res (δ : List SD) : RD → Option D
  | .v d => some d
  | .s i => match δ[i]? with
    | some (.o o) => some o.toD
    | some (.d d) => some d
    | _ => none
  | .n o => some o.toD
def resL (δ : List SD) : List RD → Option (List D)
  | [] => some []
  | r :: rs => match res δ r, resL δ rs with
    | some d, some ds => some (d :: ds)
    | _, _ => none
/-- .. that may be kept as data -/
def RD.val : RD → Option D
  | .v d => some d
  | .s _ => none
  | .n o => some o.toD
def vals : List RD → Option (List D)
  | [] => some []
  | r :: rs => match r.val, vals rs with
    | some d, some ds => some (d :: ds)
    | _, _ => none
inductive Opd (K : PySem.W.Frag) (X : List Addr) (σ : L2.St) (H : Hp) (ps : List Addr) : V → RD → Prop
  | v {v : V} {d : D} : Rp K X H v d → Opd K X σ H ps v (.v d)
  | s {v : V} {i : Nat} : σ[i]? = some (some v) → Opd K X σ H ps v (.s i)
  | n {p : Addr} {o : OD} : p ∈ ps → OdR K X H p o → Opd K X σ H ps (.ref p) (.n o)
inductive Opds (K : PySem.W.Frag) (X : List Addr) (σ : L2.St) (H : Hp) : List Addr → List V → List RD → Prop
  | nil : Opds K X σ H [] [] []
  | cons {ps qs : List Addr} {v : V} {r : RD} {vs : List V} {rs : List RD} : Opd K X σ H ps v r → Opds K X σ H qs vs rs → Opds K X σ H (qs ++ ps) (v :: vs) (r :: rs)
/-- to be read, now -/
inductive Rb (K : PySem.W.Frag) (X : List Addr) (H : Hp) : V → D → Prop
  | p {v : V} {d : D} : Rp K X H v d → Rb K X H v d
  | o {a : Addr} {o : OD} : OdR K X H a o → Rb K X H (.ref a) o.toD
inductive Rbs (K : PySem.W.Frag) (X : List Addr) (H : Hp) : List V → List D → Prop
  | nil : Rbs K X H [] []
  | cons {v : V} {d : D} {vs : List V} {ds : List D} : Rb K X H v d → Rbs K X H vs ds → Rbs K X H (v :: vs) (d :: ds)
/-- what a step makes: data, or a new object at p -/
inductive RvN (K : PySem.W.Frag) (X : List Addr) (H H' : Hp) : V → RD → Prop
  | v {v : V} {d : D} : Rp K X H' v d → RvN K X H H' v (.v d)
  | n {p : Addr} {o : OD} : H p = none → OdR K (p :: X) H' p o → RvN K X H H' (.ref p) (.n o)
structure Nx (K : PySem.W.Frag) (Y : List Addr) (σ : L2.St) (X : List Addr) (H : Hp) (H' : Hp) (δ' : List SD) (W' : List Res) (O' ps : List Addr) : Prop where
  st : Stp Y X H (Xs O' (ps ++ Y) W') H'
  fr : ∀ p ∈ ps, H p = none
  as : As K (ps ++ Y) σ H' δ' W' O'
section
variable {K : PySem.W.Frag} {Y X X' : List Addr} {σ : L2.St} {H H1 H2 H' : Hp} {δ δ1 δ2 δ' : List SD} {W W1 W2 W' : List Res} {O O1 O2 O' ps qs : List Addr} {v : V} {r : RD}
theorem Nx.refl (h : As K Y σ H δ W O) : Nx K Y σ (Xs O Y W) H H δ W O [] := ⟨Stp.refl _ _ _, (fun _ z => nomatch z), h⟩
theorem Nx.trans (a : Nx K Y σ X H H1 δ1 W1 O1 ps) (b : Nx K (ps ++ Y) σ (Xs O1 (ps ++ Y) W1) H1 H2 δ2 W2 O2 qs) : Nx K Y σ X H H2 δ2 W2 O2 (qs ++ ps) := by
  have e : qs ++ (ps ++ Y) = (qs ++ ps) ++ Y := (List.append_assoc _ _ _).symm
  obtain ⟨b1, b2, b3⟩ := b
  rw [e] at b1 b3
  refine ⟨a.st.trans b1 fun c hc => List.mem_append_right _ hc, fun p hp => ?_, b3⟩
  rcases List.mem_append.mp hp with z | z
  · cases q : H p with
    | none => rfl
    | some o => exact absurd (b2 p z) (a.st.live p (by rw [q]; simp))
  · exact a.fr p z
theorem Nx.ex (a : Nx K Y σ X H H1 δ1 W1 O1 ps) (e : Ex H1 H2) : Nx K Y σ X H H2 δ1 W1 O1 ps :=
  ⟨a.st.trans (a.as.stp e) fun c hc => List.mem_append_right _ hc, a.fr, a.as.ex e⟩
/-- what was made on the way is forgotten -/
theorem sub_drop {ps : List Addr} : ∀ a ∈ Xs O Y W, a ∈ Xs O (ps ++ Y) W := fun a ha => by
  simp only [Xs, List.mem_append] at ha ⊢
  rcases ha with z | z | z
  · exact .inl z
  · exact .inr (.inl (.inr z))
  · exact .inr (.inr z)
theorem Nx.drop (a : Nx K Y σ X H H1 δ1 W1 O1 ps) : Nx K Y σ X H H1 δ1 W1 O1 [] :=
  ⟨⟨⟨a.st.keep, a.st.live, fun c hc => a.st.new c (sub_drop c hc)⟩, a.st.fix⟩, (fun _ z => nomatch z), a.as.drop⟩
theorem Opd.mono (op : Opd K X σ H ps v r) (k : Kp X H X' H') (f : ∀ p ∈ ps, H' p = H p) (s : ∀ p ∈ ps, p ∈ qs) : Opd K X' σ H' qs v r := by
  cases op with
  | v h => exact .v (h.mono k)
  | s h => exact .s h
  | n h1 h2 => exact .n (s _ h1) (h2.mono k (f _ h1))
theorem Opd.wide (op : Opd K X σ H ps v r) (s : ∀ p ∈ ps, p ∈ qs) : Opd K X σ H qs v r := op.mono (Kp.refl _ _) (fun _ _ => rfl) s
theorem Opd.rb {d : D} (as : As K Y σ H δ W O) (op : Opd K (Xs O Y W) σ H ps v r) (e : res δ r = some d) : Rb K (Xs O Y W) H v d := by
  cases op with
  | v h =>
    have e1 := Option.some.inj e
    subst e1
    exact .p h
  | @s v i h =>
    have e1 : (match δ[i]? with
      | some (.o o) => some o.toD
      | some (.d d) => some d
      | _ => none) = some d := e
    cases q : δ[i]? with
    | none => rw [q] at e1; cases e1
    | some x =>
      rw [q] at e1
      cases x with
      | no => cases e1
      | d d' =>
        have e2 := Option.some.inj e1
        subst e2
        obtain ⟨u, h1, h2⟩ := as.slots.getD q
        rw [h] at h1
        have e3 := Option.some.inj (Option.some.inj h1)
        subst e3
        exact .p h2
      | o o' =>
        have e2 := Option.some.inj e1
        subst e2
        obtain ⟨a, _, h1, h2⟩ := as.slots.getO q
        rw [h] at h1
        have e3 := Option.some.inj (Option.some.inj h1)
        subst e3
        exact .o h2
  | n h1 h2 =>
    have e1 := Option.some.inj e
    subst e1
    exact .o h2
theorem Opds.rbs (as : As K Y σ H δ W O) : ∀ {vs : List V} {rs : List RD} {ds : List D} {ps : List Addr}, Opds K (Xs O Y W) σ H ps vs rs → resL δ rs = some ds → Rbs K (Xs O Y W) H vs ds
  | _, [], ds, _, h, e => by
    cases h
    have e1 := Option.some.inj e
    subst e1
    exact .nil
  | _, r :: rs, ds, _, h, e => by
    cases h with
    | cons h1 h2 =>
      have e1 : (match res δ r, resL δ rs with
        | some d, some ds => some (d :: ds)
        | _, _ => none) = some ds := e
      cases q1 : res δ r with
      | none => rw [q1] at e1; cases e1
      | some d =>
        cases q2 : resL δ rs with
        | none => rw [q1, q2] at e1; cases e1
        | some es =>
          rw [q1, q2] at e1
          have e2 := Option.some.inj e1
          subst e2
          exact .cons (h1.rb as q1) (Opds.rbs as h2 q2)
/-- a result that is kept: it stands for its data, what was made on the way forgotten -/
theorem Opd.kept {d : D} (as : As K (ps ++ Y) σ H δ W O) (op : Opd K (Xs O (ps ++ Y) W) σ H ps v r) (e : r.val = some d) : Rp K (Xs O Y W) H v d := by
  cases op with
  | v h =>
    have e1 := Option.some.inj e
    subst e1
    exact h.mono (Kp.less H sub_drop)
  | s h => cases e
  | @n p o h1 h2 =>
    have e1 := Option.some.inj e
    subst e1
    have hp : p ∉ Xs O Y W := fun z => by
      have nd := as.nd
      obtain ⟨l1, l2, rfl⟩ := List.append_of_mem h1
      have nd2 : (Xs O ((l1 ++ p :: l2) ++ Y) W).Nodup := nd
      have e3 : (l1 ++ p :: l2) ++ Y = l1 ++ (p :: (l2 ++ Y)) := by simp
      rw [e3] at nd2
      have nd3 : (O ++ (l1 ++ (p :: (l2 ++ Y)) ++ WS W)).Nodup := nd2
      simp only [List.append_assoc, List.cons_append] at nd3
      have sl : (O ++ (p :: (Y ++ WS W))).Sublist (O ++ (l1 ++ (p :: (l2 ++ (Y ++ WS W))))) :=
        (List.Sublist.refl O).append ((((List.sublist_append_right l2 _)).cons₂ p).trans (List.sublist_append_right l1 _))
      exact (nd_mid.mp (nd3.sublist sl)).1 z
    exact (h2.mono (Kp.less H sub_drop) rfl).rp hp
theorem Opds.kept (as : As K (ps ++ Y) σ H δ W O) : ∀ {vs : List V} {rs : List RD} {ds : List D} {qs : List Addr}, (∀ q ∈ qs, q ∈ ps) → Opds K (Xs O (ps ++ Y) W) σ H qs vs rs → vals rs = some ds → Rps K (Xs O Y W) H vs ds
  | _, [], ds, _, _, h, e => by
    cases h
    have e1 := Option.some.inj e
    subst e1
    exact .nil
  | _, r :: rs, ds, _, hs, h, e => by
    cases h with
    | cons h1 h2 =>
      have e1 : (match r.val, vals rs with
        | some d, some ds => some (d :: ds)
        | _, _ => none) = some ds := e
      cases q1 : r.val with
      | none => rw [q1] at e1; cases e1
      | some d =>
        cases q2 : vals rs with
        | none => rw [q1, q2] at e1; cases e1
        | some es =>
          rw [q1, q2] at e1
          have e2 := Option.some.inj e1
          subst e2
          exact .cons ((h1.wide fun p hp => hs p (List.mem_append_right _ hp)).kept as q1) (Opds.kept as (fun q hq => hs q (List.mem_append_left _ hq)) h2 q2)
/-- the end of a step that makes something -/
theorem Nx.fin (nx : Nx K Y σ X H H1 δ1 W1 O1 ps) (e : Ex H1 H2) (rv : RvN K (Xs O1 (ps ++ Y) W1) H1 H2 v r) : ∃ qs, Nx K Y σ X H H2 δ1 W1 O1 qs ∧ Opd K (Xs O1 (qs ++ Y) W1) σ H2 qs v r := by
  cases rv with
  | v h => exact ⟨ps, nx.ex e, .v h⟩
  | @n p o h1 h2 =>
    have as2 : As K (p :: (ps ++ Y)) σ H2 δ1 W1 O1 := nx.as.aside e h1 h2.live
    have st2 : Stp (ps ++ Y) (Xs O1 (ps ++ Y) W1) H1 (Xs O1 (p :: (ps ++ Y)) W1) H2 := ⟨e.kp fun a ha => by
      rcases mem_mid.mp ha with z | z
      · exact .inr (z ▸ h1)
      · exact .inl z, fun a ha => e.eq (nx.as.fr a ha)⟩
    refine ⟨[p] ++ ps, nx.trans ⟨st2, fun q hq => ?_, as2⟩, .n (by simp) (h2.mono (Kp.less H2 fun a ha => ?_) rfl)⟩
    · rw [List.mem_singleton.mp hq]; exact h1
    · have ha2 : a ∈ Xs O1 (p :: (ps ++ Y)) W1 := ha
      exact List.mem_cons.mpr (mem_mid.mp ha2)
end

/-! ### the judgements -/
def EvP (K : PySem.W.Frag) (te : TE) (δ : List SD) (W : List Res) (Φ : RD → List SD → List Res → Prop) : Prop :=
  ∀ (Y : List Addr) (σ : L2.St) (H : Hp) (O : List Addr), As K Y σ H δ W O → ∀ Q : VK,
    (∀ v H' r δ' W' O' ps, Nx K Y σ (Xs O Y W) H H' δ' W' O' ps → Opd K (Xs O' (ps ++ Y) W') σ H' ps v r → Φ r δ' W' → Q v H') → te σ H Q
def EaP (K : PySem.W.Frag) (ta : TA) (δ : List SD) (W : List Res) (Φ : List RD → List SD → List Res → Prop) : Prop :=
  ∀ (Y : List Addr) (σ : L2.St) (H : Hp) (O : List Addr), As K Y σ H δ W O → ∀ Q : List V → Hp → Prop,
    (∀ vs H' rs δ' W' O' ps, Nx K Y σ (Xs O Y W) H H' δ' W' O' ps → Opds K (Xs O' (ps ++ Y) W') σ H' ps vs rs → Φ rs δ' W' → Q vs H') → ta σ H Q
def TtP (K : PySem.W.Frag) (tt : TT) (δ : List SD) (W : List Res) (Φ : Bool → List SD → List Res → Prop) : Prop :=
  ∀ (Y : List Addr) (σ : L2.St) (H : Hp) (O : List Addr), As K Y σ H δ W O → ∀ Q : Bool → Hp → Prop,
    (∀ b H' δ' W' O', Nx K Y σ (Xs O Y W) H H' δ' W' O' [] → Φ b δ' W' → Q b H') → tt σ H Q
section
variable {K : PySem.W.Frag} {te ta tb : TE} {tl : TA} {tt tu : TT} {δ : List SD} {W : List Res} {Φ Ψ : RD → List SD → List Res → Prop} {Φa : List RD → List SD → List Res → Prop} {Φt : Bool → List SD → List Res → Prop}
theorem EvP.imp (h : EvP K te δ W Φ) (k : ∀ r δ' W', Φ r δ' W' → Ψ r δ' W') : EvP K te δ W Ψ := fun Y σ H O as Q hQ => h Y σ H O as Q fun v H' r δ' W' O' ps nx op φ => hQ v H' r δ' W' O' ps nx op (k _ _ _ φ)
/-! names and constants -/
theorem ep_var {i : Nat} {d : D} (e : δ[i]? = some (.d d)) (h : Φ (.v d) δ W) : EvP K (tVar i) δ W Φ := fun Y σ H O as Q hQ => by
  obtain ⟨v, h1, h2⟩ := as.slots.getD e
  exact ⟨v, h1, hQ v H (.v d) δ W O [] (Nx.refl as) (.v h2) h⟩
/-- a slot's own object, read -/
theorem ep_varS {i : Nat} {o : OD} (e : δ[i]? = some (.o o)) (h : Φ (.s i) δ W) : EvP K (tVar i) δ W Φ := fun Y σ H O as Q hQ => by
  obtain ⟨a, _, h1, _⟩ := as.slots.getO e
  exact ⟨.ref a, h1, hQ _ H (.s i) δ W O [] (Nx.refl as) (.s h1) h⟩
/-- a slot's object is given up -/
theorem As.freeze {Y : List Addr} {σ : L2.St} {H : Hp} {O : List Addr} {i : Nat} {o : OD} (as : As K Y σ H δ W O) (e : δ[i]? = some (.o o)) :
    ∃ a O', σ[i]? = some (some (.ref a)) ∧ Nx K Y σ (Xs O Y W) H H (δ.set i (.d o.toD)) W O' [] ∧ Rp K (Xs O' Y W) H (.ref a) o.toD := by
  have ndO : O.Nodup := (List.nodup_append.mp as.nd).1
  obtain ⟨a, O', h1, h2, h3, h4, h5, h6⟩ := as.slots.freeze ndO e
  have sub : ∀ b ∈ Xs O' Y W, b ∈ Xs O Y W := fun b hb => by
    rcases List.mem_append.mp hb with z | z
    · exact List.mem_append_left _ (h3.subset z)
    · exact List.mem_append_right _ z
  have ha : a ∉ Xs O' Y W := fun z => by
    rcases List.mem_append.mp z with z | z
    · exact h2 z
    · exact (List.nodup_append.mp as.nd).2.2 a h1 a z rfl
  have k : Kp (Xs O Y W) H (Xs O' Y W) H := Kp.less H sub
  refine ⟨a, O', h4, ⟨⟨k, fun _ _ => rfl⟩, (fun _ z => nomatch z), ⟨h6 _ k ha, as.nd.sublist (h3.append (List.Sublist.refl _)), as.fr, as.res.mono k fun _ _ => rfl⟩⟩, (h5.mono k rfl).rp ha⟩
theorem ep_varF {i : Nat} {o : OD} (e : δ[i]? = some (.o o)) (h : Φ (.v o.toD) (δ.set i (.d o.toD)) W) : EvP K (tVar i) δ W Φ := fun Y σ H O as Q hQ => by
  obtain ⟨a, O', h1, nx, r⟩ := as.freeze e
  exact ⟨.ref a, h1, hQ _ H (.v o.toD) _ W O' [] nx (.v r) h⟩
/-- where the value is kept: the same reading, another rule -/
def tVarF (i : Nat) : TE := tVar i
theorem pvF {X : Cx} (i : Nat) {x : Str} {pos : Pos} (hN : X.N[i]? = some x := by rfl) (hv : Vis X.env.scope x := by first | exact Or.inl rfl | exact Or.inr (Or.inl rfl) | exact Or.inr (Or.inr rfl)) (hd : (x == ("__debug__" : Str)) = false := by decide)
    (hcd : (x == ("__classdict__" : Str)) = false := by decide) : PE X (.Name x pos) (tVarF i) := pe_var hN hv hd hcd
theorem ep_vF {i : Nat} {d : D} (e : δ[i]? = some (.d d)) (h : Φ (.v d) δ W) : EvP K (tVarF i) δ W Φ := ep_var e h
theorem ep_vFF {i : Nat} {o : OD} (e : δ[i]? = some (.o o)) (h : Φ (.v o.toD) (δ.set i (.d o.toD)) W) : EvP K (tVarF i) δ W Φ := ep_varF e h
theorem ep_cst {v : V} {d : D} (r : ∀ X H, Rp K X H v d) (h : Φ (.v d) δ W) : EvP K (tC v) δ W Φ := fun Y σ H O as Q hQ => hQ v H (.v d) δ W O [] (Nx.refl as) (.v (r _ _)) h
theorem ep_int {i : Int} (h : Φ (.v (.int i)) δ W) : EvP K (tC (.int i)) δ W Φ := ep_cst (fun _ _ => .int i) h
theorem ep_str {s : Str} (h : Φ (.v (.str s)) δ W) : EvP K (tC (.str s)) δ W Φ := ep_cst (fun _ _ => .str s) h
theorem ep_bl {b : Bool} (h : Φ (.v (.bl b)) δ W) : EvP K (tC (.bl b)) δ W Φ := ep_cst (fun _ _ => .bl b) h
theorem ep_non (h : Φ (.v .non) δ W) : EvP K (tC .non) δ W Φ := ep_cst (fun _ _ => .non) h
theorem ep_ty {n : String} (h : Φ (.v (.raw (.ty n))) δ W) : EvP K (tC (.ty n)) δ W Φ := ep_cst (fun _ _ => .raw _) h
theorem ep_ref {a : Addr} (h : Φ (.v (.raw (.ref a))) δ W) : EvP K (tC (.ref a)) δ W Φ := ep_cst (fun _ _ => .raw _) h

/-! arguments -/
theorem ea_nil (h : Φa [] δ W) : EaP K tNil δ W Φa := fun Y σ H O as Q hQ => hQ [] H [] δ W O [] (Nx.refl as) .nil h
theorem ea_cons (h : EvP K te δ W fun r δ1 W1 => EaP K tl δ1 W1 fun rs δ2 W2 => Φa (r :: rs) δ2 W2) : EaP K (tCons te tl) δ W Φa := fun Y σ H O as Q hQ => by
  refine h Y σ H O as _ fun x H1 r δ1 W1 O1 ps nx1 op1 φ1 => ?_
  refine φ1 (ps ++ Y) σ H1 O1 nx1.as _ fun xs H2 rs δ2 W2 O2 qs nx2 op2 φ2 => ?_
  have e : qs ++ (ps ++ Y) = (qs ++ ps) ++ Y := (List.append_assoc _ _ _).symm
  have op1' : Opd K (Xs O2 (qs ++ (ps ++ Y)) W2) σ H2 ps x r := op1.mono nx2.st.toKp (fun p hp => nx2.st.fix p (List.mem_append_left _ hp)) fun p hp => hp
  rw [e] at op1' op2
  exact hQ _ H2 (r :: rs) δ2 W2 O2 (qs ++ ps) (nx1.trans nx2) (.cons op1' op2) φ2

/-! operators and calls by data -/
def rB (K : PySem.W.Frag) (R : D → D → RD → Prop) : R2 := fun x y H Q => ∃ X d1 d2 r, (∀ a ∈ X, H a ≠ none) ∧ Rb K X H x d1 ∧ Rb K X H y d2 ∧ R d1 d2 r ∧ ∀ v H', Ex H H' → RvN K X H H' v r → Q v H'
def rU1 (K : PySem.W.Frag) (R : D → RD → Prop) : V → Hp → VK → Prop := fun x H Q => ∃ X d r, (∀ a ∈ X, H a ≠ none) ∧ Rb K X H x d ∧ R d r ∧ ∀ v H', Ex H H' → RvN K X H H' v r → Q v H'
def rC (K : PySem.W.Frag) (R : List D → RD → Prop) : List V → Hp → VK → Prop := fun xs H Q => ∃ X ds r, (∀ a ∈ X, H a ≠ none) ∧ Rbs K X H xs ds ∧ R ds r ∧ ∀ v H', Ex H H' → RvN K X H H' v r → Q v H'
theorem ep_op {R : D → D → RD → Prop} (h : EvP K ta δ W fun r1 δ1 W1 => EvP K tb δ1 W1 fun r2 δ2 W2 => ∃ d1 d2 r, res δ2 r1 = some d1 ∧ res δ2 r2 = some d2 ∧ R d1 d2 r ∧ Φ r δ2 W2) : EvP K (tOp (rB K R) ta tb) δ W Φ := fun Y σ H O as Q hQ => by
  refine h Y σ H O as _ fun x H1 r1 δ1 W1 O1 ps nx1 op1 φ1 => ?_
  refine φ1 (ps ++ Y) σ H1 O1 nx1.as _ fun y H2 r2 δ2 W2 O2 qs nx2 op2 φ2 => ?_
  obtain ⟨d1, d2, r, e1, e2, hR, φ⟩ := φ2
  have op1' : Opd K (Xs O2 (qs ++ (ps ++ Y)) W2) σ H2 (qs ++ ps) x r1 := op1.mono nx2.st.toKp (fun p hp => nx2.st.fix p (List.mem_append_left _ hp)) fun p hp => List.mem_append_right _ hp
  refine ⟨_, d1, d2, r, nx2.as.live, op1'.rb nx2.as e1, op2.rb nx2.as e2, hR, fun v H' ex rv => ?_⟩
  obtain ⟨ts, nx3, op3⟩ := (nx1.trans nx2).fin ex (by rw [List.append_assoc]; exact rv)
  exact hQ v H' r δ2 W2 O2 ts nx3 op3 φ
theorem ep_un {R : D → RD → Prop} (h : EvP K ta δ W fun r1 δ1 W1 => ∃ d1 r, res δ1 r1 = some d1 ∧ R d1 r ∧ Φ r δ1 W1) : EvP K (tUn (rU1 K R) ta) δ W Φ := fun Y σ H O as Q hQ => by
  refine h Y σ H O as _ fun x H1 r1 δ1 W1 O1 ps nx1 op1 φ1 => ?_
  obtain ⟨d1, r, e1, hR, φ⟩ := φ1
  refine ⟨_, d1, r, nx1.as.live, op1.rb nx1.as e1, hR, fun v H' ex rv => ?_⟩
  obtain ⟨ts, nx3, op3⟩ := nx1.fin ex rv
  exact hQ v H' r δ1 W1 O1 ts nx3 op3 φ
theorem ep_cb {R : List D → RD → Prop} (h : EaP K tl δ W fun rs δ1 W1 => ∃ ds r, resL δ1 rs = some ds ∧ R ds r ∧ Φ r δ1 W1) : EvP K (tCB (rC K R) tl) δ W Φ := fun Y σ H O as Q hQ => by
  refine h Y σ H O as _ fun xs H1 rs δ1 W1 O1 ps nx1 op1 φ1 => ?_
  obtain ⟨ds, r, e1, hR, φ⟩ := φ1
  refine ⟨_, ds, r, nx1.as.live, op1.rbs nx1.as e1, hR, fun v H' ex rv => ?_⟩
  obtain ⟨ts, nx3, op3⟩ := nx1.fin ex rv
  exact hQ v H' r δ1 W1 O1 ts nx3 op3 φ
/-! displays -/
theorem ep_tup (h : EaP K tl δ W fun rs δ1 W1 => ∃ ds, vals rs = some ds ∧ ds.length ≤ sizeLine ∧ Φ (.v (.tup ds)) δ1 W1) : EvP K (tTup tl) δ W Φ := fun Y σ H O as Q hQ => by
  refine h Y σ H O as _ fun xs H1 rs δ1 W1 O1 ps nx1 op1 φ1 => ?_
  obtain ⟨ds, e1, hl, φ⟩ := φ1
  have rp := op1.kept nx1.as (fun _ z => z) e1
  have nx := nx1.drop
  refine ⟨by rw [rp.length]; exact hl, fun p hp => ?_⟩
  have ex : Ex H1 (upd H1 p (.tup xs)) := Ex.new hp
  refine hQ _ _ (.v (.tup ds)) δ1 W1 O1 [] (nx.ex ex) (.v (.tup (.inl ⟨fun z => nx.as.live p z hp, .inl upd_same⟩) (rp.mono ex.kp0))) φ
theorem ep_lst (h : EaP K tl δ W fun rs δ1 W1 => ∃ ds, vals rs = some ds ∧ ds.length ≤ sizeLine ∧ Φ (.n (.l ds)) δ1 W1) : EvP K (tLst tl) δ W Φ := fun Y σ H O as Q hQ => by
  refine h Y σ H O as _ fun xs H1 rs δ1 W1 O1 ps nx1 op1 φ1 => ?_
  obtain ⟨ds, e1, hl, φ⟩ := φ1
  have rp := op1.kept nx1.as (fun _ z => z) e1
  have nx := nx1.drop
  refine ⟨by rw [rp.length]; exact hl, fun p hp => ?_⟩
  have ex : Ex H1 (upd H1 p (.lst xs)) := Ex.new hp
  have k : Kp (Xs O1 Y W1) H1 (p :: Xs O1 Y W1) (upd H1 p (.lst xs)) := ex.kp fun a ha => by
    rcases List.mem_cons.mp ha with z | z
    · exact .inr (z ▸ hp)
    · exact .inl z
  obtain ⟨ts, nx3, op3⟩ := nx.fin (v := .ref p) (r := .n (.l ds)) ex (.n hp (.l upd_same (rp.mono k)))
  exact hQ _ _ (.n (.l ds)) δ1 W1 O1 ts nx3 op3 φ
/-! tests -/
theorem tp_B (h : EvP K te δ W fun r δ1 W1 => ∃ b, res δ1 r = some (.bl b) ∧ Φt b δ1 W1) : TtP K (tB te) δ W Φt := fun Y σ H O as Q hQ => by
  refine h Y σ H O as _ fun x H1 r δ1 W1 O1 ps nx op φ => ?_
  obtain ⟨b, e, φ⟩ := φ
  have rb := op.rb nx.as e
  have ex : x = .bl b := by
    generalize q : D.bl b = d at rb
    cases rb with
    | p h => subst q; cases h; rfl
    | @o a o h => cases o <;> cases q
  exact ⟨b, ex, hQ b H1 δ1 W1 O1 nx.drop φ⟩
theorem tp_test (h : EvP K te δ W fun r δ1 W1 => ∃ b, res δ1 r = some (.bl b) ∧ Φt b δ1 W1) : TtP K (tTest te) δ W Φt := tp_B h
theorem tp_and (h : TtP K tt δ W fun b δ1 W1 => (b = true → TtP K tu δ1 W1 Φt) ∧ (b = false → Φt false δ1 W1)) : TtP K (tAnd tt tu) δ W Φt := fun Y σ H O as Q hQ => by
  refine h Y σ H O as _ fun b H1 δ1 W1 O1 nx φ => ?_
  cases b with
  | true =>
    show tu σ H1 Q
    refine φ.1 rfl Y σ H1 O1 nx.as Q fun b H2 δ2 W2 O2 nx2 φ2 => ?_
    exact hQ b H2 δ2 W2 O2 (nx.trans nx2) φ2
  | false => exact hQ false H1 δ1 W1 O1 nx (φ.2 rfl)
theorem tp_or (h : TtP K tt δ W fun b δ1 W1 => (b = true → Φt true δ1 W1) ∧ (b = false → TtP K tu δ1 W1 Φt)) : TtP K (tOr tt tu) δ W Φt := fun Y σ H O as Q hQ => by
  refine h Y σ H O as _ fun b H1 δ1 W1 O1 nx φ => ?_
  cases b with
  | false =>
    show tu σ H1 Q
    refine φ.2 rfl Y σ H1 O1 nx.as Q fun b H2 δ2 W2 O2 nx2 φ2 => ?_
    exact hQ b H2 δ2 W2 O2 (nx.trans nx2) φ2
  | true => exact hQ true H1 δ1 W1 O1 nx (φ.1 rfl)
theorem tp_not (h : TtP K tt δ W fun b δ1 W1 => Φt (!b) δ1 W1) : TtP K (tNot tt) δ W Φt := fun Y σ H O as Q hQ =>
  h Y σ H O as _ fun b H1 δ1 W1 O1 nx φ => hQ (!b) H1 δ1 W1 O1 nx φ
theorem ep_if (h : TtP K tt δ W fun b δ1 W1 => (b = true → EvP K ta δ1 W1 Φ) ∧ (b = false → EvP K tb δ1 W1 Φ)) : EvP K (tIf tt ta tb) δ W Φ := fun Y σ H O as Q hQ => by
  refine h Y σ H O as _ fun b H1 δ1 W1 O1 nx φ => ?_
  cases b with
  | true =>
    show ta σ H1 Q
    refine φ.1 rfl Y σ H1 O1 nx.as Q fun v H2 r δ2 W2 O2 ps nx2 op φ2 => ?_
    exact hQ v H2 r δ2 W2 O2 ps (by have z := nx.trans nx2; rw [List.append_nil] at z; exact z) op φ2
  | false =>
    show tb σ H1 Q
    refine φ.2 rfl Y σ H1 O1 nx.as Q fun v H2 r δ2 W2 O2 ps nx2 op φ2 => ?_
    exact hQ v H2 r δ2 W2 O2 ps (by have z := nx.trans nx2; rw [List.append_nil] at z; exact z) op φ2
theorem Rb.bl {X : List Addr} {H : Hp} {x : V} {b : Bool} (rb : Rb K X H x (.bl b)) : x = .bl b := by
  generalize q : D.bl b = d at rb
  cases rb with
  | p h => subst q; cases h; rfl
  | @o a o h => cases o <;> cases q
theorem ep_andV (h : EvP K ta δ W fun r δ1 W1 => ∃ b, res δ1 r = some (.bl b) ∧ (b = true → EvP K tb δ1 W1 Φ) ∧ (b = false → Φ (.v (.bl false)) δ1 W1)) : EvP K (tAndV ta tb) δ W Φ := fun Y σ H O as Q hQ => by
  refine h Y σ H O as _ fun x H1 r δ1 W1 O1 ps nx op φ => ?_
  obtain ⟨b, e, φ1, φ2⟩ := φ
  refine ⟨b, (op.rb nx.as e).bl, ?_⟩
  have nx := nx.drop
  cases b with
  | true =>
    show tb σ H1 Q
    refine φ1 rfl Y σ H1 O1 nx.as Q fun v H2 r δ2 W2 O2 ps nx2 op φ2 => ?_
    exact hQ v H2 r δ2 W2 O2 ps (by have z := nx.trans nx2; rw [List.append_nil] at z; exact z) op φ2
  | false => exact hQ (.bl false) H1 (.v (.bl false)) δ1 W1 O1 [] nx (.v (.bl false)) (φ2 rfl)
theorem ep_orV (h : EvP K ta δ W fun r δ1 W1 => ∃ b, res δ1 r = some (.bl b) ∧ (b = true → Φ (.v (.bl true)) δ1 W1) ∧ (b = false → EvP K tb δ1 W1 Φ)) : EvP K (tOrV ta tb) δ W Φ := fun Y σ H O as Q hQ => by
  refine h Y σ H O as _ fun x H1 r δ1 W1 O1 ps nx op φ => ?_
  obtain ⟨b, e, φ1, φ2⟩ := φ
  refine ⟨b, (op.rb nx.as e).bl, ?_⟩
  have nx := nx.drop
  cases b with
  | false =>
    show tb σ H1 Q
    refine φ2 rfl Y σ H1 O1 nx.as Q fun v H2 r δ2 W2 O2 ps nx2 op φ2 => ?_
    exact hQ v H2 r δ2 W2 O2 ps (by have z := nx.trans nx2; rw [List.append_nil] at z; exact z) op φ2
  | true => exact hQ (.bl true) H1 (.v (.bl true)) δ1 W1 O1 [] nx (.v (.bl true)) (φ1 rfl)
theorem ep_notV (h : EvP K ta δ W fun r δ1 W1 => ∃ b, res δ1 r = some (.bl b) ∧ Φ (.v (.bl (!b))) δ1 W1) : EvP K (tNotV ta) δ W Φ := fun Y σ H O as Q hQ => by
  refine h Y σ H O as _ fun x H1 r δ1 W1 O1 ps nx op φ => ?_
  obtain ⟨b, e, φ⟩ := φ
  exact ⟨b, (op.rb nx.as e).bl, hQ (.bl (!b)) H1 (.v (.bl (!b))) δ1 W1 O1 [] nx.drop (.v (.bl _)) φ⟩
end
end Lg
/-! # Lg2: promises, calls, statements, loops, comprehensions -/
namespace Lg
open PySem PySem.Spec PyProof.Rows L2

/-! ### promises -/
abbrev Pre := List D → List Res → (D → List Res → Prop) → Prop
/-- the promise of a def, by data -/
def spW (K : PySem.W.Frag) (pre : Pre) : Sp := fun vs H Q _ => ∃ (Y : List Addr) (W : List Res) (ds : List D) (Φ : D → List Res → Prop), (Y ++ WS W).Nodup ∧ (∀ a ∈ Y, H a ≠ none) ∧ AllI W (Y ++ WS W) H ∧ Rps K (Y ++ WS W) H vs ds ∧ pre ds W Φ ∧
  ∀ v H' d W', Stp Y (Y ++ WS W) H (Y ++ WS W') H' → (Y ++ WS W').Nodup → AllI W' (Y ++ WS W') H' → Rp K (Y ++ WS W') H' v d → Φ d W' → Q v H'
section
variable {K : PySem.W.Frag} {te ta tb : TE} {tl tk : TA} {tt tu : TT} {δ : List SD} {W : List Res} {Φ Ψ : RD → List SD → List Res → Prop} {Φa : List RD → List SD → List Res → Prop} {Φt : Bool → List SD → List Res → Prop}
theorem Xs_assoc {O Y : List Addr} {W : List Res} : (O ++ Y) ++ WS W = Xs O Y W := List.append_assoc _ _ _
/-- what a call leaves -/
theorem As.called {Y : List Addr} {σ : L2.St} {H H' : Hp} {O : List Addr} {W' : List Res} (as : As K Y σ H δ W O) (st : Stp (O ++ Y) ((O ++ Y) ++ WS W) H ((O ++ Y) ++ WS W') H') (nd : ((O ++ Y) ++ WS W').Nodup) (ai : AllI W' ((O ++ Y) ++ WS W') H') :
    Nx K Y σ (Xs O Y W) H H' δ W' O [] := by
  rw [Xs_assoc] at st nd ai
  rw [Xs_assoc] at st
  refine ⟨⟨st.toKp, fun a ha => st.fix a (List.mem_append_right _ ha)⟩, (fun _ z => nomatch z), ⟨?_, nd, fun a ha => st.live a (as.fr a ha), ai⟩⟩
  exact as.slots.mono st.toKp fun a ha => st.fix a (List.mem_append_left _ ha)
/-- a call by its promise -/
theorem ep_call {pre : Pre} {E : XK} (h : EaP K tl δ W fun rs δ1 W1 => ∃ ds, vals rs = some ds ∧ pre ds W1 fun d W2 => Φ (.v d) δ1 W2) : EvP K (tCall (spW K pre) [] E tl) δ W Φ := fun Y σ H O as Q hQ => by
  refine h Y σ H O as _ fun xs H1 rs δ1 W1 O1 ps nx1 op1 φ1 => ?_
  obtain ⟨ds, e1, hp⟩ := φ1
  have rp := op1.kept nx1.as (fun _ z => z) e1
  have nx := nx1.drop
  have nd := nx.as.nd
  have ai := nx.as.res
  show spW K pre (xs ++ []) H1 Q E
  rw [List.append_nil]
  refine ⟨O1 ++ Y, W1, ds, _, by rw [Xs_assoc]; exact nd, fun a ha => ?_, by rw [Xs_assoc]; exact ai, by rw [Xs_assoc]; exact rp, hp, fun v H' d W' st nd' ai' rp' φ => ?_⟩
  · rcases List.mem_append.mp ha with z | z
    · exact nx.as.slots.live a z
    · exact nx.as.fr a z
  · have nx2 := nx.as.called st nd' ai'
    rw [Xs_assoc] at rp'
    exact hQ v H' (.v d) δ1 W' O1 [] (nx.trans nx2) (.v rp') φ
end

/-! ### statements -/
structure Post where
  nx : List SD → List Res → Prop
  rt : D → List Res → Prop
  bk : List SD → List Res → Prop := fun _ _ => False
  ct : List SD → List Res → Prop := fun _ _ => False
structure Exits (K : PySem.W.Frag) (Y X : List Addr) (H : Hp) (P : Post) (E : Ends) : Prop where
  nx : ∀ σ' H' δ' W' O', Stp Y X H (Xs O' Y W') H' → As K Y σ' H' δ' W' O' → P.nx δ' W' → E.nx σ' H'
  rt : ∀ v H' d W', Stp Y X H (Y ++ WS W') H' → (Y ++ WS W').Nodup → AllI W' (Y ++ WS W') H' → Rp K (Y ++ WS W') H' v d → P.rt d W' → E.rt v H'
  bk : ∀ σ' H' δ' W' O', Stp Y X H (Xs O' Y W') H' → As K Y σ' H' δ' W' O' → P.bk δ' W' → E.bk σ' H'
  ct : ∀ σ' H' δ' W' O', Stp Y X H (Xs O' Y W') H' → As K Y σ' H' δ' W' O' → P.ct δ' W' → E.ct σ' H'
theorem Exits.step {K : PySem.W.Frag} {Y Y1 X X1 : List Addr} {H H1 : Hp} {P : Post} {E : Ends} (x : Exits K Y X H P E) (s : Stp Y X H X1 H1) : Exits K Y X1 H1 P E :=
  ⟨fun σ' H' δ' W' O' t a p => x.nx σ' H' δ' W' O' (s.trans t fun _ z => z) a p, fun v H' d W' t n a r p => x.rt v H' d W' (s.trans t fun _ z => z) n a r p,
    fun σ' H' δ' W' O' t a p => x.bk σ' H' δ' W' O' (s.trans t fun _ z => z) a p, fun σ' H' δ' W' O' t a p => x.ct σ' H' δ' W' O' (s.trans t fun _ z => z) a p⟩
def StP (K : PySem.W.Frag) (t : TS) (δ : List SD) (W : List Res) (P : Post) : Prop :=
  ∀ (Y : List Addr) (σ : L2.St) (H : Hp) (O : List Addr) (E : Ends), As K Y σ H δ W O → Exits K Y (Xs O Y W) H P E → t E σ H
/-- a target gets data -/
def TgP (K : PySem.W.Frag) (g : TG) (d : D) (δ : List SD) (W : List Res) (Ψ : List SD → List Res → Prop) : Prop :=
  ∀ (Y : List Addr) (σ : L2.St) (H : Hp) (O : List Addr) (v : V), As K Y σ H δ W O → Rp K (Xs O Y W) H v d → ∀ Q : L2.St → Hp → Prop,
    (∀ σ' δ' O', O'.Sublist O → As K Y σ' H δ' W O' → Ψ δ' W → Q σ' H) → g v σ H Q
def TgsP (K : PySem.W.Frag) (g : TGs) (ds : List D) (δ : List SD) (W : List Res) (Ψ : List SD → List Res → Prop) : Prop :=
  ∀ (Y : List Addr) (σ : L2.St) (H : Hp) (O : List Addr) (vs : List V), As K Y σ H δ W O → Rps K (Xs O Y W) H vs ds → ∀ Q : L2.St → Hp → Prop,
    (∀ σ' δ' O', O'.Sublist O → As K Y σ' H δ' W O' → Ψ δ' W → Q σ' H) → g vs σ H Q
theorem sub_O {O O' Y : List Addr} {W : List Res} (s : O'.Sublist O) : ∀ a ∈ Xs O' Y W, a ∈ Xs O Y W := fun a ha => by
  rcases List.mem_append.mp ha with z | z
  · exact List.mem_append_left _ (s.subset z)
  · exact List.mem_append_right _ z
theorem sub_nd {O O' Y : List Addr} {W : List Res} (s : O'.Sublist O) (h : (Xs O Y W).Nodup) : (Xs O' Y W).Nodup := h.sublist (s.append (List.Sublist.refl _))
theorem sub_stp {O O' Y Y' : List Addr} {W : List Res} {H : Hp} (s : O'.Sublist O) : Stp Y' (Xs O Y W) H (Xs O' Y W) H := ⟨Kp.less H (sub_O s), fun _ _ => rfl⟩
section
variable {K : PySem.W.Frag} {te ta tb : TE} {tl tk : TA} {tt : TT} {t u : TS} {g : TG} {gs : TGs} {δ : List SD} {W : List Res} {P : Post} {d : D} {ds : List D} {Ψ : List SD → List Res → Prop}
theorem As.setD {Y : List Addr} {σ : L2.St} {H : Hp} {O : List Addr} {v : V} (as : As K Y σ H δ W O) (r : Rp K (Xs O Y W) H v d) (i : Nat) : ∃ O', O'.Sublist O ∧ As K Y (σ.set i (some v)) H (δ.set i (.d d)) W O' := by
  obtain ⟨O', h, s⟩ := as.slots.setD r i
  exact ⟨O', s, h.mono (Kp.less H (sub_O s)) fun _ _ => rfl, sub_nd s as.nd, as.fr, as.res.mono (Kp.less H (sub_O s)) fun _ _ => rfl⟩
/-- an object that was set aside becomes a slot's own -/
theorem As.setO {Y : List Addr} {σ : L2.St} {H : Hp} {O ps : List Addr} {p : Addr} {o : OD} (as : As K (ps ++ Y) σ H δ W O) (hp : p ∈ ps) (r : OdR K (Xs O (ps ++ Y) W) H p o) (i : Nat) :
    ∃ O', As K Y (σ.set i (some (.ref p))) H (δ.set i (.o o)) W O' ∧ ∀ a ∈ Xs O' Y W, a ∈ Xs O (ps ++ Y) W := by
  have nd := as.nd
  obtain ⟨l1, l2, rfl⟩ := List.append_of_mem hp
  -- p is no other's
  have nd2 : (O ++ (l1 ++ (p :: (l2 ++ (Y ++ WS W))))).Nodup := by
    have e : Xs O ((l1 ++ p :: l2) ++ Y) W = O ++ (l1 ++ (p :: (l2 ++ (Y ++ WS W)))) := by simp [Xs]
    rw [e] at nd
    exact nd
  have sl : (O ++ (p :: (Y ++ WS W))).Sublist (O ++ (l1 ++ (p :: (l2 ++ (Y ++ WS W))))) := (List.Sublist.refl O).append (((List.sublist_append_right l2 _).cons₂ p).trans (List.sublist_append_right l1 _))
  have nd3 := nd2.sublist sl
  obtain ⟨hpx, ndx⟩ := nd_mid.mp nd3
  have ndO : O.Nodup := (List.nodup_append.mp ndx).1
  have hpO : p ∉ O := fun z => hpx (List.mem_append_left _ z)
  obtain ⟨O', h1, h2, h3⟩ := as.slots.setO r i hpO ndO
  have sub : ∀ a ∈ Xs O' Y W, a ∈ Xs O ((l1 ++ p :: l2) ++ Y) W := fun a ha => by
    rcases List.mem_append.mp ha with z | z
    · rcases h2 a z with e | z
      · rw [e]
        simp [Xs]
      · exact List.mem_append_left _ z
    · simp only [Xs, List.mem_append] at z ⊢
      rcases z with z | z
      · exact .inr (.inl (.inr z))
      · exact .inr (.inr z)
  refine ⟨O', ⟨h1.mono (Kp.less H sub) fun _ _ => rfl, ?_, fun a ha => as.fr a (List.mem_append_right _ ha), as.res.mono (Kp.less H sub) fun _ _ => rfl⟩, sub⟩
  refine List.nodup_append.mpr ⟨h3, (List.nodup_append.mp ndx).2.1, fun a ha b hb e => ?_⟩
  subst e
  rcases h2 a ha with e | z
  · exact hpx (e ▸ List.mem_append_right _ hb)
  · exact (List.nodup_append.mp ndx).2.2 a z a hb rfl
/-! targets -/
theorem tg_name {i : Nat} (h : Ψ (δ.set i (.d d)) W) : TgP K (gName i) d δ W Ψ := fun Y σ H O v as r Q hQ => by
  obtain ⟨O', s, as'⟩ := as.setD r i
  exact hQ _ _ O' s as' h
theorem tgs_nil (h : Ψ δ W) : TgsP K gNil [] δ W Ψ := fun Y σ H O vs as r Q hQ => by
  cases r
  exact ⟨rfl, hQ σ δ O (List.Sublist.refl _) as h⟩
theorem tgs_cons (h : TgP K g d δ W fun δ1 W1 => TgsP K gs ds δ1 W1 Ψ) : TgsP K (gCons g gs) (d :: ds) δ W Ψ := fun Y σ H O vs as r Q hQ => by
  cases r with
  | cons r1 r2 =>
    refine ⟨_, _, rfl, h Y σ H O _ as r1 _ fun σ1 δ1 O1 s1 as1 h1 => ?_⟩
    exact h1 Y σ1 H O1 _ as1 (r2.mono (Kp.less H (sub_O s1))) Q fun σ2 δ2 O2 s2 as2 h2 => hQ σ2 δ2 O2 (s2.trans s1) as2 h2
theorem Rp.tupI {X : List Addr} {H : Hp} {v : V} (h : Rp K X H v (.tup ds)) : ∃ a vs, v = .ref a ∧ TpX K X H a vs ∧ Rps K X H vs ds := by
  cases h with
  | tup h1 h2 => exact ⟨_, _, rfl, h1, h2⟩
theorem tg_tup {n : Nat} (hn : ds.length = n) (h : TgsP K gs ds δ W Ψ) : TgP K (gTup K n gs) (.tup ds) δ W Ψ := fun Y σ H O v as r Q hQ => by
  obtain ⟨a, vs, rfl, h1, h2⟩ := r.tupI
  exact ⟨a, vs, rfl, h1.sq, by rw [h2.length]; exact hn, h Y σ H O vs as h2 Q hQ⟩
/-! statements -/
theorem sp_next (h : P.nx δ W) : StP K tNext δ W P := fun Y σ H O E as x => x.nx σ H δ W O (Stp.refl _ _ _) as h
theorem sp_break (h : P.bk δ W) : StP K tBreak δ W P := fun Y σ H O E as x => x.bk σ H δ W O (Stp.refl _ _ _) as h
theorem sp_cont (h : P.ct δ W) : StP K tCont δ W P := fun Y σ H O E as x => x.ct σ H δ W O (Stp.refl _ _ _) as h
theorem sp_seq (h : StP K t δ W { P with nx := fun δ1 W1 => StP K u δ1 W1 P }) : StP K (tSeq t u) δ W P := fun Y σ H O E as x =>
  h Y σ H O _ as ⟨fun σ' H' δ' W' O' s as' q => q Y σ' H' O' E as' (x.step (Y1 := Y) s), x.rt, x.bk, x.ct⟩
theorem Nx.stp0 {Y : List Addr} {σ : L2.St} {X : List Addr} {H H' : Hp} {δ' : List SD} {W' : List Res} {O' ps : List Addr} (nx : Nx K Y σ X H H' δ' W' O' ps) : Stp Y X H (Xs O' Y W') H' := nx.drop.st
theorem sp_drop (h : EvP K te δ W fun r δ1 W1 => P.nx δ1 W1) : StP K (tDrop te) δ W P := fun Y σ H O E as x =>
  h Y σ H O as _ fun v H' r δ' W' O' ps nx op φ => x.nx σ H' δ' W' O' nx.stp0 nx.drop.as φ
theorem Kp.tail {O Y : List Addr} {W : List Res} {H : Hp} : Kp (Xs O Y W) H (Y ++ WS W) H := Kp.less H fun a ha => List.mem_append_right _ ha
/-- a returned value: its own object leaves the frame -/
theorem Opd.ret {Y : List Addr} {σ : L2.St} {H : Hp} {O ps : List Addr} {v : V} {r : RD} {d : D} (as : As K (ps ++ Y) σ H δ W O) (op : Opd K (Xs O (ps ++ Y) W) σ H ps v r) (e : res δ r = some d) : Rp K (Y ++ WS W) H v d := by
  cases r with
  | v d' => exact (op.kept as e).mono Kp.tail
  | n o => exact (op.kept as e).mono Kp.tail
  | s i =>
    have as0 := as.drop
    have e1 : (match δ[i]? with
      | some (.o o) => some o.toD
      | some (.d d) => some d
      | _ => none) = some d := e
    cases op with
    | s h =>
      cases q : δ[i]? with
      | none => rw [q] at e1; cases e1
      | some x =>
        rw [q] at e1
        cases x with
        | no => cases e1
        | d d' =>
          have e2 := Option.some.inj e1
          subst e2
          obtain ⟨u, h1, h2⟩ := as0.slots.getD q
          rw [h] at h1
          have e3 := Option.some.inj (Option.some.inj h1)
          subst e3
          exact h2.mono Kp.tail
        | o o' =>
          have e2 := Option.some.inj e1
          subst e2
          obtain ⟨a, ha, h1, h2⟩ := as0.slots.getO q
          rw [h] at h1
          have e3 := Option.some.inj (Option.some.inj h1)
          subst e3
          exact (h2.mono Kp.tail rfl).rp fun z => (List.nodup_append.mp as0.nd).2.2 a ha a z rfl
theorem nd_tail {O Y : List Addr} {W : List Res} (h : (Xs O Y W).Nodup) : (Y ++ WS W).Nodup := (List.nodup_append.mp h).2.1
theorem sp_ret (h : EvP K te δ W fun r δ1 W1 => ∃ d, res δ1 r = some d ∧ P.rt d W1) : StP K (tRet te) δ W P := fun Y σ H O E as x =>
  h Y σ H O as _ fun v H' r δ' W' O' ps nx op φ => by
    obtain ⟨d, e, p⟩ := φ
    have rp := op.ret nx.as e
    have nx0 := nx.drop
    exact x.rt v H' d W' (nx0.st.trans ⟨Kp.tail, fun _ _ => rfl⟩ fun _ z => z) (nd_tail nx0.as.nd) (nx0.as.res.mono Kp.tail fun _ _ => rfl) rp p
theorem sp_retN (h : P.rt .non W) : StP K tRetN δ W P := fun Y σ H O E as x =>
  x.rt .non H .non W ⟨Kp.tail, fun _ _ => rfl⟩ (nd_tail as.nd) (as.res.mono Kp.tail fun _ _ => rfl) .non h
theorem sp_if (h : TtP K tt δ W fun b δ1 W1 => (b = true → StP K t δ1 W1 P) ∧ (b = false → StP K u δ1 W1 P)) : StP K (tIfS tt t u) δ W P := fun Y σ H O E as x =>
  h Y σ H O as _ fun b H' δ' W' O' nx φ => by
    cases b with
    | true =>
      show t E σ H'
      exact φ.1 rfl Y σ H' O' E nx.as (x.step (Y1 := Y) nx.st)
    | false =>
      show u E σ H'
      exact φ.2 rfl Y σ H' O' E nx.as (x.step (Y1 := Y) nx.st)
/-- name = e, data -/
theorem sp_set {i : Nat} (h : EvP K te δ W fun r δ1 W1 => ∃ d, r.val = some d ∧ P.nx (δ1.set i (.d d)) W1) : StP K (tAsg te (gName i)) δ W P := fun Y σ H O E as x =>
  h Y σ H O as _ fun v H' r δ' W' O' ps nx op φ => by
    obtain ⟨d, e, p⟩ := φ
    have rp := op.kept nx.as e
    have nx0 := nx.drop
    obtain ⟨O2, s, as2⟩ := nx0.as.setD rp i
    exact x.nx _ H' _ W' O2 (nx0.st.trans (sub_stp s) fun _ z => z) as2 p
/-- name = a new object, the name's own from now on -/
def gOwn (i : Nat) : TG := gName i
theorem sp_own {i : Nat} (h : EvP K te δ W fun r δ1 W1 => ∃ o, r = .n o ∧ P.nx (δ1.set i (.o o)) W1) : StP K (tAsg te (gOwn i)) δ W P := fun Y σ H O E as x =>
  h Y σ H O as _ fun v H' r δ' W' O' ps nx op φ => by
    obtain ⟨o, rfl, p⟩ := φ
    cases op with
    | n h1 h2 =>
      obtain ⟨O2, as2, sub⟩ := nx.as.setO h1 h2 i
      exact x.nx _ H' _ W' O2 (nx.st.trans ⟨Kp.less H' sub, fun _ _ => rfl⟩ fun _ z => z) as2 p
/-- targets of any kind -/
theorem sp_asg (h : EvP K te δ W fun r δ1 W1 => ∃ d, r.val = some d ∧ TgP K g d δ1 W1 P.nx) : StP K (tAsg te g) δ W P := fun Y σ H O E as x =>
  h Y σ H O as _ fun v H' r δ' W' O' ps nx op φ => by
    obtain ⟨d, e, p⟩ := φ
    have rp := op.kept nx.as e
    have nx0 := nx.drop
    exact p Y σ H' O' v nx0.as rp _ fun σ2 δ2 O2 s as2 q => x.nx σ2 H' δ2 W' O2 (nx0.st.trans (sub_stp s) fun _ z => z) as2 q
/-- a, b = x, y -/
theorem sp_par {i j : Nat} (h : EaP K tl δ W fun rs δ1 W1 => ∃ d1 d2, vals rs = some [d1, d2] ∧ P.nx ((δ1.set i (.d d1)).set j (.d d2)) W1) : StP K (tPar i j tl) δ W P := fun Y σ H O E as x =>
  h Y σ H O as _ fun vs H' rs δ' W' O' ps nx op φ => by
    obtain ⟨d1, d2, e, p⟩ := φ
    have rp := op.kept nx.as (fun _ z => z) e
    have nx0 := nx.drop
    cases rp with
    | cons r1 r2 =>
      cases r2 with
      | cons r2 r3 =>
        cases r3
        obtain ⟨O2, s2, as2⟩ := nx0.as.setD r1 i
        obtain ⟨O3, s3, as3⟩ := as2.setD (r2.mono (Kp.less H' (sub_O s2))) j
        exact ⟨_, _, rfl, x.nx _ H' _ W' O3 (nx0.st.trans (sub_stp (s3.trans s2)) fun _ z => z) as3 p⟩
/-- a, b = [], y: the first name gets an object of its own -/
def tParO1 (i j : Nat) (ta : TA) : TS := tPar i j ta
theorem As.setO' {Y : List Addr} {σ : L2.St} {H : Hp} {O ps : List Addr} {p : Addr} {o : OD} (as : As K (ps ++ Y) σ H δ W O) (hp : p ∈ ps) (r : OdR K (Xs O (ps ++ Y) W) H p o) (i : Nat) :
    ∃ O' ps', (∀ a ∈ ps', a ∈ ps) ∧ (∀ a ∈ ps, a ≠ p → a ∈ ps') ∧ As K (ps' ++ Y) (σ.set i (some (.ref p))) H (δ.set i (.o o)) W O' ∧ ∀ a ∈ Xs O' (ps' ++ Y) W, a ∈ Xs O (ps ++ Y) W := by
  obtain ⟨l1, l2, rfl⟩ := List.append_of_mem hp
  -- p ahead, the others stay aside
  have sub0 : ∀ a, a ∈ Xs O ((l1 ++ p :: l2) ++ Y) W ↔ a ∈ Xs O ([p] ++ ((l1 ++ l2) ++ Y)) W := fun a => by
    simp only [Xs, List.mem_append, List.mem_cons, List.not_mem_nil, or_false]
    constructor
    · rintro (h | ((h | h | h) | h) | h)
      · exact .inl h
      · exact .inr (.inl (.inr (.inl (.inl h))))
      · exact .inr (.inl (.inl h))
      · exact .inr (.inl (.inr (.inl (.inr h))))
      · exact .inr (.inl (.inr (.inr h)))
      · exact .inr (.inr h)
    · rintro (h | (h | (h | h) | h) | h)
      · exact .inl h
      · exact .inr (.inl (.inl (.inr (.inl h))))
      · exact .inr (.inl (.inl (.inl h)))
      · exact .inr (.inl (.inl (.inr (.inr h))))
      · exact .inr (.inl (.inr h))
      · exact .inr (.inr h)
  have pm : (Xs O ((l1 ++ p :: l2) ++ Y) W).Perm (Xs O ([p] ++ ((l1 ++ l2) ++ Y)) W) := by
    refine (List.Perm.refl O).append (List.Perm.append ?_ (List.Perm.refl _))
    have e : (l1 ++ p :: l2) ++ Y = l1 ++ p :: (l2 ++ Y) := by simp
    have e2 : [p] ++ ((l1 ++ l2) ++ Y) = p :: (l1 ++ (l2 ++ Y)) := by simp
    rw [e, e2]
    exact List.perm_middle
  have as1 : As K ([p] ++ ((l1 ++ l2) ++ Y)) σ H δ W O := by
    refine ⟨as.slots.mono (Kp.less H fun a ha => (sub0 a).mpr ha) fun _ _ => rfl, pm.nodup_iff.mp as.nd, fun a ha => as.fr a ?_, as.res.mono (Kp.less H fun a ha => (sub0 a).mpr ha) fun _ _ => rfl⟩
    simp only [List.mem_append, List.mem_cons, List.not_mem_nil, or_false] at ha ⊢
    rcases ha with h | (h | h) | h
    · exact .inl (.inr (.inl h))
    · exact .inl (.inl h)
    · exact .inl (.inr (.inr h))
    · exact .inr h
  obtain ⟨O', as', sub⟩ := as1.setO (p := p) (by simp) (r.mono (Kp.less H fun a ha => (sub0 a).mpr ha) rfl) i
  refine ⟨O', l1 ++ l2, fun a ha => ?_, fun a ha hne => ?_, as', fun a ha => (sub0 a).mpr (sub a ha)⟩
  · rcases List.mem_append.mp ha with z | z
    · exact List.mem_append_left _ z
    · exact List.mem_append_right _ (List.mem_cons_of_mem _ z)
  · rcases List.mem_append.mp ha with z | z
    · exact List.mem_append_left _ z
    · rcases List.mem_cons.mp z with e | z
      · exact absurd e hne
      · exact List.mem_append_right _ z
theorem Opds.two {X : List Addr} {σ : L2.St} {H : Hp} {ps : List Addr} {vs : List V} {r1 r2 : RD} (h : Opds K X σ H ps vs [r1, r2]) : ∃ v1 v2 ps1 ps2, vs = [v1, v2] ∧ ps = ps2 ++ ps1 ∧ Opd K X σ H ps1 v1 r1 ∧ Opd K X σ H ps2 v2 r2 := by
  cases h with
  | cons h1 h2 =>
    cases h2 with
    | cons h2 h3 =>
      cases h3
      exact ⟨_, _, _, _, rfl, rfl, h1, h2⟩
theorem sp_parO1 {i j : Nat} (h : EaP K tl δ W fun rs δ1 W1 => ∃ o d, rs = [.n o, .v d] ∧ P.nx ((δ1.set i (.o o)).set j (.d d)) W1) : StP K (tParO1 i j tl) δ W P := fun Y σ H O E as x =>
  h Y σ H O as _ fun vs H' rs δ' W' O' ps nx op φ => by
    obtain ⟨o, d, rfl, p⟩ := φ
    obtain ⟨v1, v2, ps1, ps2, rfl, rfl, o1, o2⟩ := op.two
    cases o1 with
    | n h1 h2 =>
      cases o2 with
      | v h3 =>
        obtain ⟨O2, as2, sub⟩ := nx.as.setO (List.mem_append_right _ h1) h2 i
        obtain ⟨O3, s3, as3⟩ := as2.setD (h3.mono (Kp.less H' sub)) j
        exact ⟨_, _, rfl, x.nx _ H' _ W' O3 (nx.st.trans ⟨Kp.less H' fun a ha => sub a (sub_O s3 a ha), fun _ _ => rfl⟩ fun _ z => z) as3 p⟩
def tParO2 (i j : Nat) (ta : TA) : TS := tPar i j ta
theorem sp_parO2 {i j : Nat} (h : EaP K tl δ W fun rs δ1 W1 => ∃ o d, rs = [.v d, .n o] ∧ P.nx ((δ1.set i (.d d)).set j (.o o)) W1) : StP K (tParO2 i j tl) δ W P := fun Y σ H O E as x =>
  h Y σ H O as _ fun vs H' rs δ' W' O' ps nx op φ => by
    obtain ⟨o, d, rfl, p⟩ := φ
    obtain ⟨v1, v2, ps1, ps2, rfl, rfl, o1, o2⟩ := op.two
    cases o1 with
    | v h3 =>
      cases o2 with
      | n h1 h2 =>
        obtain ⟨O2, s2, as2⟩ := nx.as.setD h3 i
        obtain ⟨O3, as3, sub⟩ := as2.setO (List.mem_append_left _ h1) (h2.mono (Kp.less H' (sub_O s2)) rfl) j
        exact ⟨_, _, rfl, x.nx _ H' _ W' O3 (nx.st.trans ⟨Kp.less H' fun a ha => sub_O s2 a (sub a ha), fun _ _ => rfl⟩ fun _ z => z) as3 p⟩
def tParOO (i j : Nat) (ta : TA) : TS := tPar i j ta
theorem sp_parOO {i j : Nat} (h : EaP K tl δ W fun rs δ1 W1 => ∃ o1 o2, rs = [.n o1, .n o2] ∧ P.nx ((δ1.set i (.o o1)).set j (.o o2)) W1) : StP K (tParOO i j tl) δ W P := fun Y σ H O E as x =>
  h Y σ H O as _ fun vs H' rs δ' W' O' ps nx op φ => by
    obtain ⟨o1, o2, rfl, p⟩ := φ
    obtain ⟨v1, v2, ps1, ps2, rfl, rfl, q1, q2⟩ := op.two
    cases q1 with
    | @n p1 _ h1 h2 =>
      cases q2 with
      | @n p2 _ h3 h4 =>
        have ne : p2 ≠ p1 := fun e => by
          have nd : (O' ++ (((ps2 ++ ps1) ++ Y) ++ WS W')).Nodup := nx.as.nd
          have nd2 := (List.nodup_append.mp (List.nodup_append.mp (List.nodup_append.mp nd).2.1).1).1
          exact (List.nodup_append.mp nd2).2.2 p2 h3 p1 h1 e
        obtain ⟨O2, ps', s1, s2, as2, sub2⟩ := nx.as.setO' (List.mem_append_right _ h1) h2 i
        obtain ⟨O3, as3, sub3⟩ := as2.setO (s2 _ (List.mem_append_left _ h3) ne) (h4.mono (Kp.less H' sub2) rfl) j
        exact ⟨_, _, rfl, x.nx _ H' _ W' O3 (nx.st.trans ⟨Kp.less H' fun a ha => sub2 a (sub3 a ha), fun _ _ => rfl⟩ fun _ z => z) as3 p⟩
/-- name op= e -/
def ipB (K : PySem.W.Frag) (R : D → D → RD → Prop) : TIp := rB K R
theorem sp_aug {i : Nat} {R : D → D → RD → Prop} {d0 : D} (e0 : δ[i]? = some (.d d0)) (h : EvP K te δ W fun r δ1 W1 => ∃ d r', res δ1 r = some d ∧ δ1[i]? = some (.d d0) ∧ R d0 d r' ∧ ∃ d', r'.val = some d' ∧ P.nx (δ1.set i (.d d')) W1) : StP K (tAug i te (ipB K R)) δ W P := fun Y σ H O E as x => by
  obtain ⟨v0, h1, h2⟩ := as.slots.getD e0
  refine ⟨v0, h1, ?_⟩
  refine h Y σ H O as _ fun v H' r δ' W' O' ps nx op φ => ?_
  obtain ⟨d, r', e, e1, hR, d', e', p⟩ := φ
  have rp0 : Rp K (Xs O' (ps ++ Y) W') H' v0 d0 := h2.mono nx.st.toKp
  refine ⟨_, d0, d, r', nx.as.live, .p rp0, op.rb nx.as e, hR, fun z H2 ex rv => ?_⟩
  obtain ⟨ts, nx3, op3⟩ := nx.fin ex rv
  have rp := op3.kept nx3.as e'
  have nx0 := nx3.drop
  obtain ⟨O2, s, as2⟩ := nx0.as.setD rp i
  exact x.nx _ H2 _ W' O2 (nx0.st.trans (sub_stp s) fun _ z => z) as2 p
end
end Lg
/-! # Lg3: loops, comprehensions, the rule of a def -/
namespace Lg
open PySem PySem.Spec PyProof.Rows L2
section
variable {K : PySem.W.Frag} {te ta tb : TE} {tl tk : TA} {tt tc : TT} {t u tS : TS} {g : TG} {gs : TGs} {wi : TI} {δ : List SD} {W : List Res} {P : Post} {d : D} {ds : List D} {Ψ : List SD → List Res → Prop} {Φ : RD → List SD → List Res → Prop}
/-! ### while -/
theorem sp_while (Pv : Nat → List SD → List Res → Prop) (m0 : Nat) (h0 : Pv m0 δ W)
    (hs : ∀ m δ' W', Pv m δ' W' → TtP K tc δ' W' fun b δ1 W1 => (b = true → StP K tS δ1 W1 { P with nx := fun δ2 W2 => ∃ m', m' < m ∧ Pv m' δ2 W2, ct := fun δ2 W2 => ∃ m', m' < m ∧ Pv m' δ2 W2, bk := P.nx }) ∧ (b = false → P.nx δ1 W1)) : StP K (tWhile tc tS) δ W P := fun Y σ H O E as x => by
  refine ⟨fun m σ' H' => ∃ δ' W' O', Stp Y (Xs O Y W) H (Xs O' Y W') H' ∧ As K Y σ' H' δ' W' O' ∧ Pv m δ' W', ⟨m0, δ, W, O, Stp.refl _ _ _, as, h0⟩, ?_⟩
  rintro m σ' H' ⟨δ', W', O', st, as', p⟩
  refine hs m δ' W' p Y σ' H' O' as' _ fun b H1 δ1 W1 O1 nx φ => ?_
  have st1 := st.trans nx.st fun _ z => z
  cases b with
  | true =>
    show ∃ N : L2.St → Hp → Prop, _
    refine ⟨fun σ2 H2 => ∃ m', m' < m ∧ ∃ δ2 W2 O2, Stp Y (Xs O Y W) H (Xs O2 Y W2) H2 ∧ As K Y σ2 H2 δ2 W2 O2 ∧ Pv m' δ2 W2, fun σ2 H2 h => h, ?_⟩
    refine φ.1 rfl Y σ' H1 O1 _ nx.as ⟨?_, ?_, ?_, ?_⟩
    · rintro σ2 H2 δ2 W2 O2 s2 a2 ⟨m', hm, p2⟩
      exact ⟨m', hm, δ2, W2, O2, st1.trans s2 fun _ z => z, a2, p2⟩
    · exact fun v H2 d W2 s2 => x.rt v H2 d W2 (st1.trans s2 fun _ z => z)
    · exact fun σ2 H2 δ2 W2 O2 s2 a2 p2 => x.nx σ2 H2 δ2 W2 O2 (st1.trans s2 fun _ z => z) a2 p2
    · rintro σ2 H2 δ2 W2 O2 s2 a2 ⟨m', hm, p2⟩
      exact ⟨m', hm, δ2, W2, O2, st1.trans s2 fun _ z => z, a2, p2⟩
  | false =>
    show E.nx σ' H1
    exact x.nx σ' H1 δ1 W1 O1 st1 nx.as (φ.2 rfl)

/-! ### what is walked -/
/-- J gives the items ds, however the heap goes on from H -/
def JOk (K : PySem.W.Frag) (J : It) (ds : List D) (Y X : List Addr) (H : Hp) : Prop :=
  ∀ X1 H1, Stp Y X H X1 H1 → (∀ a ∈ X1, H1 a ≠ none) → ∀ i : Nat, (i < ds.length → J.go i H1) ∧ (ds.length ≤ i → J.stop i H1) ∧ ∀ x H2 d, ds[i]? = some d → J.yld i H1 x H2 → Ex H1 H2 ∧ Rp K X1 H2 x d
def ItP (K : PySem.W.Frag) (wi : TI) (δ : List SD) (W : List Res) (Φ : List D → List SD → List Res → Prop) : Prop :=
  ∀ (Y : List Addr) (σ : L2.St) (H : Hp) (O : List Addr), As K Y σ H δ W O → ∀ R : It → Hp → Prop,
    (∀ J H' ds δ' W' O' ps, Nx K Y σ (Xs O Y W) H H' δ' W' O' ps → JOk K J ds (ps ++ Y) (Xs O' (ps ++ Y) W') H' → Φ ds δ' W' → R J H') → wi σ H R
theorem sp_for
    (h : ItP K wi δ W fun ds δ1 W1 => ∃ Pv : Nat → List SD → List Res → Prop, Pv 0 δ1 W1 ∧ (∀ (i : Nat) d δ' W', ds[i]? = some d → Pv i δ' W' → TgP K g d δ' W' fun δ2 W2 => StP K tS δ2 W2 { P with nx := Pv (i + 1), ct := Pv (i + 1), bk := P.nx }) ∧ ∀ δ' W', Pv ds.length δ' W' → P.nx δ' W') : StP K (tFor wi g tS) δ W P := fun Y σ H O E as x => by
  refine h Y σ H O as _ fun J H1 ds δ1 W1 O1 ps nx jo φ => ?_
  obtain ⟨Pv, p0, ps_, pe⟩ := φ
  -- exits of the frame Y from those of ps ++ Y
  have down : ∀ {σ' H' δ' W' O'}, Stp (ps ++ Y) (Xs O1 (ps ++ Y) W1) H1 (Xs O' (ps ++ Y) W') H' → As K (ps ++ Y) σ' H' δ' W' O' → Stp Y (Xs O Y W) H (Xs O' Y W') H' ∧ As K Y σ' H' δ' W' O' := fun s a =>
    ⟨(nx.st.trans s fun c hc => List.mem_append_right _ hc).trans (Y1 := Y) ⟨Kp.less _ sub_drop, fun _ _ => rfl⟩ fun _ z => z, a.drop⟩
  refine ⟨fun i m σ' H' => m = ds.length - i ∧ i ≤ ds.length ∧ ∃ δ' W' O', Stp (ps ++ Y) (Xs O1 (ps ++ Y) W1) H1 (Xs O' (ps ++ Y) W') H' ∧ As K (ps ++ Y) σ' H' δ' W' O' ∧ Pv i δ' W', ⟨_, rfl, Nat.zero_le _, δ1, W1, O1, Stp.refl _ _ _, nx.as, p0⟩, ?_⟩
  rintro i m σ' H' ⟨rfl, hi, δ', W', O', st, as', p⟩
  obtain ⟨j1, j2, j3⟩ := jo _ _ st as'.live i
  by_cases hlt : i < ds.length
  · refine .inr ⟨j1 hlt, fun σ2 H2 => ∃ δ2 W2 O2, Stp (ps ++ Y) (Xs O1 (ps ++ Y) W1) H1 (Xs O2 (ps ++ Y) W2) H2 ∧ As K (ps ++ Y) σ2 H2 δ2 W2 O2 ∧ Pv (i + 1) δ2 W2, fun σ2 H2 q => ⟨ds.length - (i + 1), by omega, rfl, hlt, q⟩, fun v H2 y => ?_⟩
    obtain ⟨ex, rp⟩ := j3 v H2 ds[i] (List.getElem?_eq_getElem hlt) y
    have as2 := as'.ex ex
    have st2 := st.trans (as'.stp ex) fun _ z => z
    refine ps_ i ds[i] δ' W' (List.getElem?_eq_getElem hlt) p (ps ++ Y) σ' H2 O' v as2 rp _ fun σ3 δ3 O3 s3 as3 q3 => ?_
    have st3 : Stp (ps ++ Y) (Xs O1 (ps ++ Y) W1) H1 (Xs O3 (ps ++ Y) W') H2 := st2.trans (sub_stp (Y' := ps ++ Y) s3) fun _ z => z
    refine q3 (ps ++ Y) σ3 H2 O3 _ as3 ⟨?_, ?_, ?_, ?_⟩
    · exact fun σ4 H4 δ4 W4 O4 s4 a4 p4 => ⟨δ4, W4, O4, st3.trans s4 fun _ z => z, a4, p4⟩
    · intro v4 H4 d4 W4 s4 n4 a4 r4 p4
      have sub : ∀ a ∈ Y ++ WS W4, a ∈ (ps ++ Y) ++ WS W4 := fun a ha => by
        rw [List.append_assoc]
        exact List.mem_append_right _ ha
      have k4 : Kp ((ps ++ Y) ++ WS W4) H4 (Y ++ WS W4) H4 := Kp.less H4 sub
      refine x.rt v4 H4 d4 W4 ?_ ?_ (a4.mono k4 fun _ _ => rfl) (r4.mono k4) p4
      · exact (nx.st.trans (st3.trans s4 fun _ z => z) fun c hc => List.mem_append_right _ hc).trans (Y1 := Y) ⟨k4, fun _ _ => rfl⟩ fun _ z => z
      · rw [List.append_assoc] at n4
        exact (List.nodup_append.mp n4).2.1
    · intro σ4 H4 δ4 W4 O4 s4 a4 p4
      obtain ⟨q1, q2⟩ := down (st3.trans s4 fun _ z => z) a4
      exact x.nx σ4 H4 δ4 W4 O4 q1 q2 p4
    · exact fun σ4 H4 δ4 W4 O4 s4 a4 p4 => ⟨δ4, W4, O4, st3.trans s4 fun _ z => z, a4, p4⟩
  · have e : i = ds.length := by omega
    subst e
    obtain ⟨q1, q2⟩ := down st as'
    exact .inl ⟨j2 (Nat.le_refl _), x.nx σ' H' δ' W' O' q1 q2 (pe δ' W' p)⟩

/-! ### comprehensions -/
def NoAt (δ : List SD) : List Nat → Prop
  | [] => True
  | v :: vs => δ[v]? = some .no ∧ NoAt δ vs
def wipeD (δ : List SD) : List Nat → List SD
  | [] => δ
  | v :: vs => (wipeD δ vs).set v .no
/-- the target sets names of the block alone -/
def TgIn (g : TG) (vs : List Nat) : Prop := ∀ v σ H (Q : L2.St → Hp → Prop), (g v σ H fun σ' H' => wipe σ' vs = wipe σ vs → Q σ' H') → g v σ H fun σ' H' => wipe σ' vs = wipe σ vs ∧ Q σ' H'
theorem wipe_set2 {i : Nat} {x y : Option V} : ∀ (vs : List Nat) (σ : L2.St), (wipe (σ.set i x) vs).set i y = (wipe σ vs).set i y
  | [], σ => by
    show (σ.set i x).set i y = σ.set i y
    rw [List.set_set]
  | v :: vs, σ => by
    unfold wipe
    by_cases e : i = v
    · subst e
      rw [wipe_set2 vs σ]
    · rw [List.set_comm _ _ (fun z => e z.symm), wipe_set2 vs σ, List.set_comm _ _ (fun z => e z.symm)]
theorem wipe_set {i : Nat} {x : Option V} : ∀ {vs : List Nat} {σ : L2.St}, i ∈ vs → wipe (σ.set i x) vs = wipe σ vs
  | [], _, h => nomatch h
  | v :: vs, σ, h => by
    unfold wipe
    by_cases e : i = v
    · subst e
      exact wipe_set2 vs σ
    · rw [wipe_set ((List.mem_cons.mp h).resolve_left e)]
theorem wipe_wipe {σ : L2.St} : ∀ (vs : List Nat), wipe (wipe σ vs) vs = wipe σ vs
  | [] => rfl
  | v :: vs => by
    show (wipe ((wipe σ vs).set v none) vs).set v none = (wipe σ vs).set v none
    rw [wipe_set2, wipe_wipe vs]
theorem tgin_name {i : Nat} {vs : List Nat} (h : i ∈ vs) : TgIn (gName i) vs := fun v σ H Q q => ⟨wipe_set h, q (wipe_set h)⟩
def TgsIn (g : TGs) (vs : List Nat) : Prop := ∀ v σ H (Q : L2.St → Hp → Prop), (g v σ H fun σ' H' => wipe σ' vs = wipe σ vs → Q σ' H') → g v σ H fun σ' H' => wipe σ' vs = wipe σ vs ∧ Q σ' H'
theorem tgin_nil {vs : List Nat} : TgsIn gNil vs := fun v σ H Q q => ⟨q.1, rfl, q.2 rfl⟩
theorem tgin_cons {i : Nat} {vs : List Nat} (h1 : i ∈ vs) (h2 : TgsIn gs vs) : TgsIn (gCons (gName i) gs) vs := fun v σ H Q q => by
  obtain ⟨a, r, e, q⟩ := q
  have e2 : wipe (σ.set i (some a)) vs = wipe σ vs := wipe_set h1
  have q : gs r (σ.set i (some a)) H fun σ' H' => wipe σ' vs = wipe (σ.set i (some a)) vs → Q σ' H' := by
    rw [e2]
    exact q
  have z := h2 r (σ.set i (some a)) H Q q
  rw [e2] at z
  exact ⟨a, r, e, z⟩
theorem tgin_tup {n : Nat} {vs : List Nat} (h : TgsIn gs vs) : TgIn (gTup K n gs) vs := fun v σ H Q q => by
  obtain ⟨a, xs, e, h1, h2, q⟩ := q
  exact ⟨a, xs, e, h1, h2, h xs σ H Q q⟩
theorem Slots.unset {X : List Addr} {H : Hp} : ∀ {τ : L2.St} {δ : List SD} {O : List Addr} {v : Nat}, δ[v]? = some .no → Slots K X H (τ.set v none) δ O → Slots K X H τ δ O
  | [], _, _, v, e, h => by
    cases h
    simp at e
  | x :: τ, δ, O, 0, e, h => by
    cases h with
    | no t => exact .no t
  | x :: τ, δ, O, v + 1, e, h => by
    have h' : Slots K X H (x :: τ.set v none) δ O := h
    cases h' with
    | no t => exact .no (Slots.unset (v := v) e t)
    | d r t => exact .d r (Slots.unset (v := v) e t)
    | o r t => exact .o r (Slots.unset (v := v) e t)
theorem Slots.unwipe {X : List Addr} {H : Hp} {O : List Addr} {τ : L2.St} : ∀ {vs : List Nat}, NoAt δ vs → Slots K X H (wipe τ vs) δ O → Slots K X H τ δ O
  | [], _, h => h
  | v :: vs, n, h => Slots.unwipe n.2 (Slots.unset n.1 h)
theorem Slots.wiped {X : List Addr} {H : Hp} {τ : L2.St} {O : List Addr} (h : Slots K X H τ δ O) : ∀ (vs : List Nat), ∃ O', Slots K X H (wipe τ vs) (wipeD δ vs) O' ∧ O'.Sublist O
  | [] => ⟨O, h, List.Sublist.refl _⟩
  | v :: vs => by
    obtain ⟨O1, h1, s1⟩ := Slots.wiped h vs
    obtain ⟨O2, h2, s2⟩ := h1.setNo none v
    exact ⟨O2, h2, s2.trans s1⟩
theorem set_no {v : Nat} (h : δ[v]? = some .no) : δ.set v .no = δ := by
  obtain ⟨hv, e⟩ := List.getElem?_eq_some_iff.mp h
  rw [← e]
  exact List.set_getElem_self hv
theorem wipeD_no : ∀ {vs : List Nat}, NoAt δ vs → wipeD δ vs = δ
  | [], _ => rfl
  | v :: vs, n => by
    unfold wipeD
    rw [wipeD_no n.2]
    exact set_no n.1
theorem As.wiped {Y : List Addr} {σ : L2.St} {H : Hp} {O : List Addr} (as : As K Y σ H δ W O) (vs : List Nat) : ∃ O', O'.Sublist O ∧ As K Y (wipe σ vs) H (wipeD δ vs) W O' := by
  obtain ⟨O', h, s⟩ := as.slots.wiped vs
  exact ⟨O', s, h.mono (Kp.less H (sub_O s)) fun _ _ => rfl, sub_nd s as.nd, as.fr, as.res.mono (Kp.less H (sub_O s)) fun _ _ => rfl⟩
theorem As.unwipe {Y : List Addr} {σ : L2.St} {H : Hp} {O : List Addr} {vs : List Nat} (n : NoAt δ vs) (as : As K Y (wipe σ vs) H δ W O) : As K Y σ H δ W O := ⟨as.slots.unwipe n, as.nd, as.fr, as.res⟩
theorem ep_lc {vs : List Nat} (hg : TgIn g vs)
    (h : ItP K wi δ W fun ds δ1 W1 => ∃ Pv : Nat → List D → List Res → Prop, NoAt δ1 vs ∧ Pv 0 [] W1 ∧ (∀ (i : Nat) d acc W', ds[i]? = some d → Pv i acc W' → TgP K g d δ1 W' fun δ2 W2 => wipeD δ2 vs = δ1 ∧ TtP K tt δ2 W2 fun b δ3 W3 => δ3 = δ2 ∧
        (b = true → EvP K te δ2 W3 fun r δ4 W4 => δ4 = δ2 ∧ ∃ y, r.val = some y ∧ acc.length < sizeLine ∧ Pv (i + 1) (acc ++ [y]) W4) ∧ (b = false → Pv (i + 1) acc W3)) ∧
      ∀ acc W', Pv ds.length acc W' → Φ (.n (.l acc)) δ1 W') : EvP K (tLc wi g tt te vs) δ W Φ := fun Y σ H O as Q hQ => by
  refine h Y σ H O as _ fun J H1 ds δ1 W1 O1 ps nx jo φ => ?_
  obtain ⟨Pv, no, p0, pt, pe⟩ := φ
  intro Dl hD
  have ex0 : Ex H1 (upd H1 Dl (.lst [])) := Ex.new hD
  have as0 : As K (Dl :: (ps ++ Y)) σ (upd H1 Dl (.lst [])) δ1 W1 O1 := nx.as.aside ex0 hD (by rw [upd_same]; simp)
  obtain ⟨O1', s1', as1⟩ := as0.wiped vs
  rw [wipeD_no no] at as1
  have st0 : Stp (ps ++ Y) (Xs O1 (ps ++ Y) W1) H1 (Xs O1' (Dl :: (ps ++ Y)) W1) (upd H1 Dl (.lst [])) := ⟨ex0.kp fun a ha => by
    rcases mem_mid.mp (sub_O s1' a ha) with z | z
    · exact .inr (z ▸ hD)
    · exact .inl z, fun a ha => ex0.eq (nx.as.fr a ha)⟩
  refine ⟨fun i m H' => m = ds.length - i ∧ i ≤ ds.length ∧ ∃ acc W' O', Stp (ps ++ Y) (Xs O1 (ps ++ Y) W1) H1 (Xs O' (Dl :: (ps ++ Y)) W') H' ∧ As K (Dl :: (ps ++ Y)) (wipe σ vs) H' δ1 W' O' ∧ OdR K (Xs O' (Dl :: (ps ++ Y)) W') H' Dl (.l acc) ∧ Pv i acc W',
    ⟨_, rfl, Nat.zero_le _, [], W1, O1', st0, as1, .l upd_same .nil, p0⟩, ?_⟩
  rintro i m H' ⟨rfl, hi, acc, W', O', st, as', od, p⟩
  have jst : Stp (ps ++ Y) (Xs O1 (ps ++ Y) W1) H1 (Xs O' (ps ++ Y) W') H' := st.trans (Y1 := ps ++ Y) ⟨Kp.less H' fun a ha => mem_mid.mpr (.inr ha), fun _ _ => rfl⟩ fun _ z => z
  by_cases hlt : i < ds.length
  · obtain ⟨j1, _, j3⟩ := jo _ _ st as'.live i
    refine .inr ⟨j1 hlt, fun H2 => ∃ acc W2 O2, Stp (ps ++ Y) (Xs O1 (ps ++ Y) W1) H1 (Xs O2 (Dl :: (ps ++ Y)) W2) H2 ∧ As K (Dl :: (ps ++ Y)) (wipe σ vs) H2 δ1 W2 O2 ∧ OdR K (Xs O2 (Dl :: (ps ++ Y)) W2) H2 Dl (.l acc) ∧ Pv (i + 1) acc W2,
      fun H2 q => ⟨ds.length - (i + 1), by omega, rfl, hlt, q⟩, fun v H2 y => ?_⟩
    obtain ⟨ex, rp⟩ := j3 v H2 ds[i] (List.getElem?_eq_getElem hlt) y
    have as2 := as'.ex ex
    have od2 : OdR K (Xs O' (Dl :: (ps ++ Y)) W') H2 Dl (.l acc) := od.mono ex.kp0 (ex.eq od.live)
    have st2 : Stp (ps ++ Y) (Xs O1 (ps ++ Y) W1) H1 (Xs O' (Dl :: (ps ++ Y)) W') H2 := st.trans (as'.stp ex) fun c hc => List.mem_cons_of_mem _ hc
    have z := hg v (wipe σ vs) H2 (fun σ3 H3 => tt σ3 H3 fun b H4 => if b = true then te σ3 H4 fun y H5 => ∃ acc, H5 Dl = some (.lst acc) ∧ acc.length < sizeLine ∧
        ∃ acc' W2 O2, Stp (ps ++ Y) (Xs O1 (ps ++ Y) W1) H1 (Xs O2 (Dl :: (ps ++ Y)) W2) (upd H5 Dl (.lst (acc ++ [y]))) ∧ As K (Dl :: (ps ++ Y)) (wipe σ vs) (upd H5 Dl (.lst (acc ++ [y]))) δ1 W2 O2 ∧ OdR K (Xs O2 (Dl :: (ps ++ Y)) W2) (upd H5 Dl (.lst (acc ++ [y]))) Dl (.l acc') ∧ Pv (i + 1) acc' W2
        else ∃ acc' W2 O2, Stp (ps ++ Y) (Xs O1 (ps ++ Y) W1) H1 (Xs O2 (Dl :: (ps ++ Y)) W2) H4 ∧ As K (Dl :: (ps ++ Y)) (wipe σ vs) H4 δ1 W2 O2 ∧ OdR K (Xs O2 (Dl :: (ps ++ Y)) W2) H4 Dl (.l acc') ∧ Pv (i + 1) acc' W2)
      (pt i ds[i] acc W' (List.getElem?_eq_getElem hlt) p (Dl :: (ps ++ Y)) (wipe σ vs) H2 O' v as2 rp _ fun σ3 δ3 O3 s3 as3 q3 hw => ?_)
    · rw [wipe_wipe] at z
      exact z
    · rw [wipe_wipe] at hw
      obtain ⟨hd, q3⟩ := q3
      refine q3 (Dl :: (ps ++ Y)) σ3 H2 O3 as3 _ fun b H4 δ4 W4 O4 nx4 φ4 => ?_
      obtain ⟨rfl, φt, φf⟩ := φ4
      have st4 : Stp (ps ++ Y) (Xs O1 (ps ++ Y) W1) H1 (Xs O4 (Dl :: (ps ++ Y)) W4) H4 := (st2.trans (sub_stp (Y' := Dl :: (ps ++ Y)) s3) fun c hc => List.mem_cons_of_mem _ hc).trans nx4.st fun c hc => List.mem_cons_of_mem _ hc
      have kk : Kp (Xs O' (Dl :: (ps ++ Y)) W') H2 (Xs O4 (Dl :: (ps ++ Y)) W4) H4 := (Kp.less H2 (sub_O s3)).trans nx4.st.toKp
      have od4 : OdR K (Xs O4 (Dl :: (ps ++ Y)) W4) H4 Dl (.l acc) := od2.mono kk (nx4.st.fix Dl List.mem_cons_self)
      cases b with
      | false =>
        show ∃ acc' W2 O2, _
        obtain ⟨O5, s5, as5⟩ := nx4.as.wiped vs
        rw [hd, hw] at as5
        exact ⟨acc, W4, O5, st4.trans (sub_stp (Y' := Dl :: (ps ++ Y)) s5) fun c hc => List.mem_cons_of_mem _ hc, as5, od4.mono (Kp.less H4 (sub_O s5)) rfl, φf rfl⟩
      | true =>
        show te σ3 H4 _
        refine φt rfl (Dl :: (ps ++ Y)) σ3 H4 O4 nx4.as _ fun y H5 r δ5 W5 O5 qs nx5 op5 φ5 => ?_
        obtain ⟨rfl, yd, ey, hl, pv⟩ := φ5
        have rp5 := op5.kept nx5.as ey
        have nx5 := nx5.drop
        have k5 : Kp (Xs O4 (Dl :: (ps ++ Y)) W4) H4 (Xs O5 (Dl :: (ps ++ Y)) W5) H5 := nx5.st.toKp
        have od5 : OdR K (Xs O5 (Dl :: (ps ++ Y)) W5) H5 Dl (.l acc) := od4.mono k5 (nx5.st.fix Dl List.mem_cons_self)
        cases od5 with
        | @l avs _ h51 h52 =>
          have DX : Dl ∈ Xs O5 (Dl :: (ps ++ Y)) W5 := mem_mid.mpr (.inl rfl)
          -- the new list is written: all else stays
          have k6 : Kp (Xs O5 (Dl :: (ps ++ Y)) W5) H5 (Xs O5 (Dl :: (ps ++ Y)) W5) (upd H5 Dl (.lst (avs ++ [y]))) := ⟨fun a o ha e => by
            rw [upd_ne (show a ≠ Dl from fun z => ha (by rw [z]; exact DX))]
            exact e, fun a ha => by
            by_cases e : a = Dl
            · rw [e, upd_same]; simp
            · rw [upd_ne e]; exact ha, fun a ha => .inl ha⟩
          have nd5 := nd_mid.mp nx5.as.nd
          have e6 : ∀ a, a ∈ Xs O5 (ps ++ Y) W5 → (upd H5 Dl (.lst (avs ++ [y]))) a = H5 a := fun a ha => upd_ne (show a ≠ Dl from fun z => nd5.1 (by rw [← z]; exact ha))
          have as6 : As K (Dl :: (ps ++ Y)) σ3 (upd H5 Dl (.lst (avs ++ [y]))) δ5 W5 O5 := by
            refine ⟨nx5.as.slots.mono k6 fun a ha => e6 a (List.mem_append_left _ ha), nx5.as.nd, fun a ha => k6.live a (nx5.as.fr a ha), nx5.as.res.mono k6 fun a ha => e6 a (List.mem_append_right _ (List.mem_append_right _ ha))⟩
          obtain ⟨O7, s7, as7⟩ := as6.wiped vs
          rw [hd, hw] at as7
          refine ⟨avs, h51, by rw [h52.length]; exact hl, acc ++ [yd], W5, O7, ?_, as7, .l upd_same (((h52.append (.cons rp5 .nil)).mono k6).mono (Kp.less _ (sub_O s7))), pv⟩
          have st5 : Stp (ps ++ Y) (Xs O1 (ps ++ Y) W1) H1 (Xs O5 (Dl :: (ps ++ Y)) W5) H5 := st4.trans nx5.st fun c hc => List.mem_cons_of_mem _ hc
          have st6 : Stp (ps ++ Y) (Xs O5 (Dl :: (ps ++ Y)) W5) H5 (Xs O7 (Dl :: (ps ++ Y)) W5) (upd H5 Dl (.lst (avs ++ [y]))) := ⟨k6.trans (Kp.less _ (sub_O s7)), fun a ha => e6 a (List.mem_append_right _ (List.mem_append_left _ ha))⟩
          exact st5.trans st6 fun c hc => hc
  · have e : i = ds.length := by omega
    subst e
    obtain ⟨_, j2, _⟩ := jo _ _ jst (fun a ha => as'.live a (mem_mid.mpr (.inr ha))) ds.length
    refine .inl ⟨j2 (Nat.le_refl _), ?_⟩
    have nx2 : Nx K (ps ++ Y) σ (Xs O1 (ps ++ Y) W1) H1 H' δ1 W' O' [Dl] := ⟨st, fun q hq => by rw [List.mem_singleton.mp hq]; exact hD, as'.unwipe no⟩
    have nx3 := nx.trans nx2
    have e3 : Xs O' (([Dl] ++ ps) ++ Y) W' = Xs O' (Dl :: (ps ++ Y)) W' := rfl
    exact hQ (.ref Dl) H' (.n (.l acc)) δ1 W' O' ([Dl] ++ ps) nx3 (.n (by simp) (by rw [e3]; exact od)) (pe acc W' p)

/-! ### the rule of a def -/
def st0 (N : List Str) (ds : List D) : List SD := ds.map SD.d ++ List.replicate (N.length - ds.length) .no
theorem slots_no {X : List Addr} {H : Hp} : ∀ n, Slots K X H (List.replicate n none) (List.replicate n .no) []
  | 0 => .nil
  | n + 1 => .no (slots_no n)
theorem slots_start {X : List Addr} {H : Hp} {n : Nat} : ∀ {vs : List V} {ds : List D}, Rps K X H vs ds → Slots K X H (vs.map some ++ List.replicate n none) (ds.map SD.d ++ List.replicate n .no) []
  | _, _, .nil => slots_no n
  | _, _, .cons r t => .d r (slots_start t)
end
section
variable {Pr : Program} {w : World} {K : PySem.W.Frag} {mg : Str → Option Value} {base : Heap}
theorem fn_ok {x qual : Str} {params : Arguments} {body : List Stmt} {scope : Scope} {dvs : List V} {kws : List (Str × V)} {f : Addr} {fd : FuncData} {N ps : List Str} {k : Nat} {pre : Pre} (F : FunD K x qual params body scope dvs kws f fd) (S : FnScope N ps scope)
    (hl : ∀ ds W Φ, pre ds W Φ → ds.length = ps.length)
    (hb : ∀ (cdv : Value) (A : Around) (outer : List Env) (s : Shared) (H : Hp) (E : XK), Room k (A.deeper (envOfC qual scope s.heap.objs.size f cdv)) →
      ∃ t, PSs (cxOf CX0 Pr w K mg base N qual scope f cdv A outer s H E).nox body t ∧ ∀ ds W Φ, pre ds W Φ → StP K t (st0 N ds) W ⟨fun _ W' => Φ .non W', Φ, fun _ _ => False, fun _ _ => False⟩) : FnOk Pr w K mg base CX0 (k + 1) f fd ps (spW K pre) := by
  refine F.ok S (fun vs H Q E h => ?_) (fun cdv A outer s H vs Q E hr h => ?_)
  · obtain ⟨Y, W, ds, Φ, _, _, _, r, p, _⟩ := h
    rw [r.length]
    exact hl ds W Φ p
  · obtain ⟨Y, W, ds, Φ, nd, fr, ai, r, p, q⟩ := h
    obtain ⟨t, ht, hs⟩ := hb cdv A outer s H E hr
    refine ⟨t, ht.nox, ?_⟩
    have as : As K Y (L2.start N vs) H (st0 N ds) W [] := by
      refine ⟨?_, nd, fr, ai⟩
      have e : L2.start N vs = vs.map some ++ List.replicate (N.length - ds.length) none := by
        unfold L2.start
        rw [r.length]
      rw [e]
      exact slots_start r
    refine hs ds W Φ p Y (L2.start N vs) H [] _ as ⟨?_, ?_, ?_, ?_⟩
    · intro σ' H' δ' W' O' s' a' p'
      refine q .non H' .non W' (s'.trans (Y1 := Y) ⟨Kp.tail, fun _ _ => rfl⟩ fun _ z => z) (nd_tail a'.nd) (a'.res.mono Kp.tail fun _ _ => rfl) .non p'
    · exact fun v H' d W' s' n' a' r' p' => q v H' d W' s' n' a' r' p'
    · exact fun _ _ _ _ _ _ _ z => z.elim
    · exact fun _ _ _ _ _ _ _ z => z.elim
end
end Lg
/-! # Lg4: operators, subscripts, calls of built-ins, by data -/
namespace Lg
open PySem PySem.Spec PyProof.Rows L2
section
variable {K : PySem.W.Frag} {X : List Addr} {H : Hp} {x : V}
theorem Rb.int {i : Int} (rb : Rb K X H x (.int i)) : x = .int i := by
  generalize q : D.int i = d at rb
  cases rb with
  | p h => subst q; cases h; rfl
  | @o a o h => cases o <;> cases q
theorem Rb.str {s : Str} (rb : Rb K X H x (.str s)) : x = .str s := by
  generalize q : D.str s = d at rb
  cases rb with
  | p h => subst q; cases h; rfl
  | @o a o h => cases o <;> cases q
theorem Rb.non (rb : Rb K X H x .non) : x = .non := by
  generalize q : D.non = d at rb
  cases rb with
  | p h => subst q; cases h; rfl
  | @o a o h => cases o <;> cases q
theorem Rb.raw {v : V} (rb : Rb K X H x (.raw v)) : x = v := by
  generalize q : D.raw v = d at rb
  cases rb with
  | p h => subst q; cases h; rfl
  | @o a o h => cases o <;> cases q
theorem Rb.lst {ds : List D} (rb : Rb K X H x (.lst ds)) : ∃ a vs, x = .ref a ∧ H a = some (.lst vs) ∧ Rps K X H vs ds := by
  generalize q : D.lst ds = d at rb
  cases rb with
  | p h =>
    subst q
    cases h with
    | lst h1 h2 => exact ⟨_, _, rfl, h1.2, h2⟩
  | @o a o h =>
    cases h with
    | l h1 h2 =>
      injection q with q
      subst q
      exact ⟨_, _, rfl, h1, h2⟩
    | k h1 h2 h3 h4 => cases q
theorem Rb.frz {ns : List Int} (rb : Rb K X H x (.frz ns)) : ∃ a, x = .ref a ∧ SqL K H a (ns.map V.int) := by
  generalize q : D.frz ns = d at rb
  cases rb with
  | p h =>
    subst q
    cases h with
    | frz h1 => exact ⟨_, rfl, h1.sq⟩
  | @o a o h => cases o <;> cases q
theorem Rb.tup {ds : List D} (rb : Rb K X H x (.tup ds)) : ∃ a vs, x = .ref a ∧ SqT K H a vs ∧ Rps K X H vs ds ∧ ∀ H', Ex H H' → Rp K X H' (.ref a) (.tup ds) := by
  generalize q : D.tup ds = d at rb
  cases rb with
  | p h =>
    subst q
    cases h with
    | tup h1 h2 => exact ⟨_, _, rfl, h1.sq, h2, fun H' e => (Rp.tup h1 h2).mono e.kp0⟩
  | @o a o h => cases o <;> cases q
theorem Rb.dct {ks : List Key} {ds : List D} (rb : Rb K X H x (.dct ks ds)) : ∃ a kvs, x = .ref a ∧ Rd H a (.dK kvs) ∧ kvs.map (·.1) = ks ∧ Rps K X H (kvs.map (·.2)) ds := by
  generalize q : D.dct ks ds = d at rb
  cases rb with
  | p h =>
    subst q
    cases h with
    | dct h1 h2 h3 h4 h5 => exact ⟨_, _, rfl, h2, h3, h4 ▸ h5⟩
  | @o a o h =>
    cases h with
    | l h1 h2 => cases q
    | k h1 h2 h3 h4 =>
      injection q with q1 q2
      subst q1 q2
      exact ⟨_, _, rfl, .inl h1, h2, h3 ▸ h4⟩
theorem Rb.ins {C : Addr} {ns : List Str} {ds : List D} (rb : Rb K X H x (.ins C ns ds)) : ∃ a dx fs, x = .ref a ∧ H a = some (.ins C dx fs) ∧ fs.map (·.1) = ns ∧ Rps K X H (fs.map (·.2)) ds := by
  generalize q : D.ins C ns ds = d at rb
  cases rb with
  | p h =>
    subst q
    cases h with
    | ins h1 h2 h3 h4 h5 => exact ⟨_, _, _, rfl, h2, h3, h4 ▸ h5⟩
  | @o a o h => cases o <;> cases q
theorem Rbs.one {xs : List V} {d : D} (h : Rbs K X H xs [d]) : ∃ v, xs = [v] ∧ Rb K X H v d := by
  cases h with
  | cons h1 h2 => cases h2; exact ⟨_, rfl, h1⟩
theorem Rbs.two {xs : List V} {d e : D} (h : Rbs K X H xs [d, e]) : ∃ v u, xs = [v, u] ∧ Rb K X H v d ∧ Rb K X H u e := by
  cases h with
  | cons h1 h2 =>
    cases h2 with
    | cons h2 h3 => cases h3; exact ⟨_, _, rfl, h1, h2⟩
end
/-- a new list, a new tuple, laid -/
theorem rv_lst {K : PySem.W.Frag} {X : List Addr} {H : Hp} {p : Addr} {vs : List V} {ds : List D} (lv : ∀ a ∈ X, H a ≠ none) (hp : H p = none) (r : Rps K X H vs ds) : RvN K X H (upd H p (.lst vs)) (.ref p) (.n (.l ds)) := by
  refine .n hp (.l upd_same (r.mono ((Ex.new hp).kp fun a ha => ?_)))
  rcases List.mem_cons.mp ha with z | z
  · exact .inr (z ▸ hp)
  · exact .inl z
theorem rv_tup {K : PySem.W.Frag} {X : List Addr} {H : Hp} {p : Addr} {vs : List V} {ds : List D} (lv : ∀ a ∈ X, H a ≠ none) (hp : H p = none) (r : Rps K X H vs ds) : RvN K X H (upd H p (.tup vs)) (.ref p) (.v (.tup ds)) :=
  .v (.tup (.inl ⟨fun z => lv p z hp, .inl upd_same⟩) (r.mono (Ex.new hp).kp0))

/-! ### what operators give -/
def AddR : D → D → RD → Prop
  | .int i, .int j, r => r = .v (.int (i + j))
  | .str s, .str t, r => s.length + t.length ≤ sizeLine ∧ r = .v (.str (s ++ t))
  | .lst xs, .lst ys, r => xs.length + ys.length ≤ sizeLine ∧ r = .n (.l (xs ++ ys))
  | .tup xs, .tup ys, r => xs.length + ys.length ≤ sizeLine ∧ r = .v (.tup (xs ++ ys))
  | _, _, _ => False
def SubR : D → D → RD → Prop
  | .int i, .int j, r => r = .v (.int (i - j))
  | _, _, _ => False
def MulR : D → D → RD → Prop
  | .int i, .int j, r => IntMulOk i j ∧ r = .v (.int (i * j))
  | .lst xs, .int k, r => (-(2 ^ 63) ≤ k ∧ k < 2 ^ 63 ∧ xs.length * k.toNat ≤ sizeLine) ∧ r = .n (.l (List.replicate k.toNat xs).flatten)
  | .tup xs, .int k, r => (xs ≠ [] ∧ 2 ≤ k ∧ (xs.length : Int) * k ≤ 1000000) ∧ r = .v (.tup (List.replicate k.toNat xs).flatten)
  | _, _, _ => False
def DivR : D → D → RD → Prop
  | .int i, .int j, r => CDivW i j ∧ r = .v (.int (i / j))
  | _, _, _ => False
def ModR : D → D → RD → Prop
  | .int i, .int j, r => 0 < j ∧ r = .v (.int (i % j))
  | _, _, _ => False
def PowR : D → D → RD → Prop
  | .int i, .int j, r => CPow i j ∧ r = .v (.int (i ^ j.toNat))
  | _, _, _ => False
def LtR : D → D → RD → Prop
  | .int i, .int j, r => r = .v (.bl (decide (i < j)))
  | _, _, _ => False
def LeR : D → D → RD → Prop
  | .int i, .int j, r => r = .v (.bl (decide (i ≤ j)))
  | _, _, _ => False
def GtR : D → D → RD → Prop
  | .int i, .int j, r => r = .v (.bl (decide (j < i)))
  | _, _, _ => False
def GeR : D → D → RD → Prop
  | .int i, .int j, r => r = .v (.bl (decide (j ≤ i)))
  | _, _, _ => False
def NegR : D → RD → Prop
  | .int i, r => r = .v (.int (-i))
  | _, _ => False
mutual
/-- .. as the library's data -/
def toPy : D → Option PyData
  | .non => some .none
  | .bl b => some (.bool b)
  | .int i => some (.int i)
  | .str s => some (.str s)
  | .tup ds => (toPys ds).map .tuple
  | .lst ds => (toPys ds).map .list
  | _ => none
def toPys : List D → Option (List PyData)
  | [] => some []
  | d :: ds => match toPy d, toPys ds with
    | some p, some ps => some (p :: ps)
    | _, _ => none
end
/-- x == y: plain ones, lists and tuples at any depth -/
def eqb : D → D → Option Bool
  | .non, .non => some true
  | .non, .int _ => some false
  | .int _, .non => some false
  | .non, .bl _ => some false
  | .bl _, .non => some false
  | .non, .str _ => some false
  | .str _, .non => some false
  | .int i, .int j => some (decide (i = j))
  | .bl a, .bl b => some (decide (a = b))
  | .str s, .str t => some (decide (s = t))
  | .int _, .str _ => some false
  | .str _, .int _ => some false
  | .bl _, .str _ => some false
  | .str _, .bl _ => some false
  | _, _ => none
def EqR (d e : D) (r : RD) : Prop := (∃ b, eqb d e = some b ∧ r = .v (.bl b)) ∨ ∃ p q, toPy d = some p ∧ toPy e = some q ∧ SeqAt.shaped p = true ∧ SeqAt.shaped q = true ∧ r = .v (.bl (PyData.eqv p q))
def NeR (d e : D) (r : RD) : Prop := (∃ b, eqb d e = some b ∧ r = .v (.bl (!b))) ∨ ∃ p q, toPy d = some p ∧ toPy e = some q ∧ SeqAt.shaped p = true ∧ SeqAt.shaped q = true ∧ r = .v (.bl (!PyData.eqv p q))
/-- x is None, x is True .. -/
def isb : D → D → Option Bool
  | .non, .non => some true
  | .bl _, .non => some false
  | .int _, .non => some false
  | .str _, .non => some false
  | .tup _, .non => some false
  | .lst _, .non => some false
  | .ins _ _ _, .non => some false
  | .dct _ _, .non => some false
  | .raw v, .non => some (decide (v = .non))
  | .bl a, .bl b => some (decide (a = b))
  | .non, .bl _ => some false
  | .int _, .bl _ => some false
  | .str _, .bl _ => some false
  | .tup _, .bl _ => some false
  | .lst _, .bl _ => some false
  | .ins _ _ _, .bl _ => some false
  | .dct _ _, .bl _ => some false
  | _, _ => none
def IsR (d e : D) (r : RD) : Prop := ∃ b, isb d e = some b ∧ r = .v (.bl b)
def IsNotR (d e : D) (r : RD) : Prop := ∃ b, isb d e = some b ∧ r = .v (.bl (!b))
/-- the one of an int that is in a list or tuple of ints, a text in one of texts -/
def InR (d e : D) (b : Bool) : Prop :=
  (∃ (i : Int) (ns : List Int), d = .int i ∧ (e = .lst (ns.map D.int) ∨ e = .tup (ns.map D.int)) ∧ b = decide (i ∈ ns)) ∨ (∃ (s : Str) (ss : List Str), d = .str s ∧ (e = .lst (ss.map D.str) ∨ e = .tup (ss.map D.str)) ∧ b = decide (s ∈ ss)) ∨
  (∃ os : List (Option Str), d = .non ∧ e = .lst (os.map fun | some s => D.str s | none => D.non) ∧ b = os.any Option.isNone)
def InP (d e : D) (r : RD) : Prop := ∃ b, InR d e b ∧ r = .v (.bl b)
def NotInP (d e : D) (r : RD) : Prop := ∃ b, InR d e b ∧ r = .v (.bl (!b))
def atD (ds : List D) (i : Int) : Option D := atI ds i
def IxD : D → D → RD → Prop
  | .lst ds, .int i, r => ∃ d, atI ds i = some d ∧ r = .v d
  | .tup ds, .int i, r => ∃ d, atI ds i = some d ∧ r = .v d
  | .str s, .int i, r => s.length ≤ sizeLine ∧ ∃ c, atI s.cps.toList i = some c ∧ r = .v (.str ⟨#[c]⟩)
  | _, _, _ => False
def cutL {α : Type} (xs : List α) (lo hi : Option Int) : List α := (xs.drop (HT.sIx xs.length 0 lo)).take (HT.sIx xs.length xs.length hi - HT.sIx xs.length 0 lo)
def SlD : D → Option Int → Option Int → RD → Prop
  | .lst ds, lo, hi, r => r = .n (.l (cutL ds lo hi))
  | .tup ds, lo, hi, r => r = .v (.tup (cutL ds lo hi))
  | .str s, lo, hi, r => s.length ≤ sizeLine ∧ r = .v (.str (cutS s lo hi))
  | _, _, _, _ => False
theorem atI_map {α β : Type} (f : α → β) (xs : List α) (i : Int) : atI (xs.map f) i = (atI xs i).map f := by
  unfold atI
  rw [List.length_map]
  cases ixN xs.length i with
  | none => rfl
  | some j => simp
theorem Rps.atI {K : PySem.W.Frag} {X : List Addr} {H : Hp} {vs : List V} {ds : List D} {i : Int} {d : D} (h : Rps K X H vs ds) (e : L2.atI ds i = some d) : ∃ v, L2.atI vs i = some v ∧ Rp K X H v d := by
  unfold L2.atI at e ⊢
  rw [h.length]
  cases q : ixN ds.length i with
  | none => rw [q] at e; cases e
  | some j =>
    rw [q] at e
    exact h.get e
theorem Rps.cutL {K : PySem.W.Frag} {X : List Addr} {H : Hp} {vs : List V} {ds : List D} (h : Rps K X H vs ds) (lo hi : Option Int) : Rps K X H (cutV vs lo hi) (cutL ds lo hi) := by
  unfold cutV Lg.cutL
  rw [h.length]
  exact (h.drop _).take _
section
variable {K : PySem.W.Frag} {Xs : List Addr} {H : Hp}
mutual
theorem Rp.dp : ∀ {d : D} {v : V} {p : PyData}, Rp K Xs H v d → toPy d = some p → Dp K H v p
  | .non, _, _, h, e => by
    cases h
    cases e
    exact .non
  | .bl b, _, _, h, e => by
    cases h
    cases e
    exact .bl b
  | .int i, _, _, h, e => by
    cases h
    cases e
    exact .int i
  | .str s, _, _, h, e => by
    cases h
    cases e
    exact .str s
  | .tup ds, _, _, h, e => by
    cases h with
    | tup h1 h2 =>
      have e1 : (toPys ds).map PyData.tuple = some _ := e
      cases q : toPys ds with
      | none => rw [q] at e1; cases e1
      | some ps =>
        rw [q] at e1
        cases e1
        exact .tup h1.sq (Rps.dp h2 q)
  | .lst ds, _, _, h, e => by
    cases h with
    | lst h1 h2 =>
      have e1 : (toPys ds).map PyData.list = some _ := e
      cases q : toPys ds with
      | none => rw [q] at e1; cases e1
      | some ps =>
        rw [q] at e1
        cases e1
        exact .lst h1.sq (Rps.dp h2 q)
  | .ins _ _ _, _, _, _, e => by cases e
  | .dct _ _, _, _, _, e => by cases e
  | .raw _, _, _, _, e => by cases e
  | .frz _, _, _, _, e => by cases e
theorem Rps.dp : ∀ {ds : List D} {vs : List V} {ps : List PyData}, Rps K Xs H vs ds → toPys ds = some ps → DpAll K H vs ps
  | [], _, _, h, e => by
    cases h
    cases e
    exact .nil
  | d :: ds, _, _, h, e => by
    cases h with
    | cons h1 h2 =>
      have e1 : (match toPy d, toPys ds with
        | some p, some ps => some (p :: ps)
        | _, _ => none) = some _ := e
      cases q1 : toPy d with
      | none => rw [q1] at e1; cases e1
      | some p =>
        cases q2 : toPys ds with
        | none => rw [q1, q2] at e1; cases e1
        | some ps =>
          rw [q1, q2] at e1
          cases e1
          exact .cons (Rp.dp h1 q1) (Rps.dp h2 q2)
end
theorem Rb.dp {v : V} {d : D} {p : PyData} (h : Rb K Xs H v d) (e : toPy d = some p) : Dp K H v p := by
  cases h with
  | p h => exact h.dp e
  | @o a o h =>
    cases h with
    | l h1 h2 =>
      have e1 : (toPys _).map PyData.list = some _ := e
      rename_i vs ds
      cases q : toPys ds with
      | none => rw [q] at e1; cases e1
      | some ps =>
        rw [q] at e1
        cases e1
        exact .lst (.inl (.inl h1)) (h2.dp q)
    | k h1 h2 h3 h4 => cases e
end

section
variable {X : Cx} (K : PySem.W.Frag) (hK : X.K = K)
include hK
theorem uAdd : OpR X (binaryOp .Add) (rB K AddR) := by
  subst hK
  intro pins s σ H x y v u Q I rx ry h
  obtain ⟨Z, d, e, r, lv, hd, he, hR, q⟩ := h
  cases d <;> cases e <;> first | exact hR.elim | skip
  · rw [hd.int] at rx
    rw [he.int] at ry
    have e1 : r = _ := hR
    subst e1
    exact op_add pins s σ H _ _ v u Q I rx ry ⟨_, _, rfl, rfl, q _ H (Same.refl H) (.v (.int _))⟩
  · rw [hd.str] at rx
    rw [he.str] at ry
    obtain ⟨hz, e1⟩ := hR
    subst e1
    exact op_add_str pins s σ H _ _ v u Q I rx ry ⟨_, _, rfl, rfl, hz, q _ H (Same.refl H) (.v (.str _))⟩
  · obtain ⟨a, vs, rfl, h1, h2, _⟩ := hd.tup
    obtain ⟨b, ws, rfl, g1, g2, _⟩ := he.tup
    obtain ⟨hz, e1⟩ := hR
    subst e1
    refine op_catA pins s σ H _ _ v u Q I rx ry ⟨a, b, vs, ws, rfl, rfl, h1, g1, by rw [h2.length, g2.length]; exact hz, fun e0 => ?_, fun _ e0 => ?_, fun _ _ p hp => q _ _ (Ex.new hp) (rv_tup lv hp (h2.append g2))⟩
    · subst e0
      cases h2
      exact q _ H (Same.refl H) (.v (he.tup.elim fun a' z => by
        obtain ⟨vs', e2, _, _, z⟩ := z
        rw [e2]
        exact z H (Same.refl H)))
    · subst e0
      cases g2
      exact q _ H (Same.refl H) (.v (hd.tup.elim fun a' z => by
        obtain ⟨vs', e2, _, _, z⟩ := z
        rw [e2, List.append_nil]
        exact z H (Same.refl H)))
  · obtain ⟨a, vs, rfl, h1, h2⟩ := hd.lst
    obtain ⟨b, ws, rfl, g1, g2⟩ := he.lst
    obtain ⟨hz, e1⟩ := hR
    subst e1
    cases rx
    cases ry
    obtain ⟨z1, its, n, r1, e1⟩ := I.hok _ _ h1
    obtain ⟨z2, its2, n2, r2, e2⟩ := I.hok _ _ g1
    have l1 := r1.length
    have l2 := r2.length
    have l3 := h2.length
    have l4 := g2.length
    refine PySem.P.add_list e1 e2 ?_ (by rw [List.size_toArray, List.size_toArray]; omega)
    rw [show its.toArray ++ its2.toArray = (its ++ its2).toArray by simp]
    exact ⟨.ref _, _, I.lnew (t' := s.toks) (r1.append r2) (by rw [List.length_append]; omega), rfl, q _ _ (Ex.new I.fresh) (rv_lst lv I.fresh (h2.append g2))⟩
theorem uSub : OpR X (binaryOp .Sub) (rB K SubR) := by
  subst hK
  intro pins s σ H x y v u Q I rx ry h
  obtain ⟨Z, d, e, r, lv, hd, he, hR, q⟩ := h
  cases d <;> cases e <;> first | exact hR.elim | skip
  rw [hd.int] at rx
  rw [he.int] at ry
  have e1 : r = _ := hR
  subst e1
  exact op_sub pins s σ H _ _ v u Q I rx ry ⟨_, _, rfl, rfl, q _ H (Same.refl H) (.v (.int _))⟩
theorem uDiv : OpR X (binaryOp .FloorDiv) (rB K DivR) := by
  subst hK
  intro pins s σ H x y v u Q I rx ry h
  obtain ⟨Z, d, e, r, lv, hd, he, hR, q⟩ := h
  cases d <;> cases e <;> first | exact hR.elim | skip
  rw [hd.int] at rx
  rw [he.int] at ry
  obtain ⟨hc, e1⟩ := hR
  subst e1
  exact op_fdivW pins s σ H _ _ v u Q I rx ry ⟨_, _, rfl, rfl, hc, q _ H (Same.refl H) (.v (.int _))⟩
theorem uMod : OpR X (binaryOp .Mod) (rB K ModR) := by
  subst hK
  intro pins s σ H x y v u Q I rx ry h
  obtain ⟨Z, d, e, r, lv, hd, he, hR, q⟩ := h
  cases d <;> cases e <;> first | exact hR.elim | skip
  rw [hd.int] at rx
  rw [he.int] at ry
  obtain ⟨hc, e1⟩ := hR
  subst e1
  exact op_mod pins s σ H _ _ v u Q I rx ry ⟨_, _, rfl, rfl, hc, q _ H (Same.refl H) (.v (.int _))⟩
theorem uPow : OpR X (binaryOp .Pow) (rB K PowR) := by
  subst hK
  intro pins s σ H x y v u Q I rx ry h
  obtain ⟨Z, d, e, r, lv, hd, he, hR, q⟩ := h
  cases d <;> cases e <;> first | exact hR.elim | skip
  rw [hd.int] at rx
  rw [he.int] at ry
  obtain ⟨hc, e1⟩ := hR
  subst e1
  exact op_pow pins s σ H _ _ v u Q I rx ry ⟨_, _, rfl, rfl, hc, q _ H (Same.refl H) (.v (.int _))⟩
theorem uLt : OpR X (compareOp .Lt) (rB K LtR) := by
  subst hK
  intro pins s σ H x y v u Q I rx ry h
  obtain ⟨Z, d, e, r, lv, hd, he, hR, q⟩ := h
  cases d <;> cases e <;> first | exact hR.elim | skip
  rw [hd.int] at rx
  rw [he.int] at ry
  have e1 : r = _ := hR
  subst e1
  exact op_lt pins s σ H _ _ v u Q I rx ry ⟨_, _, rfl, rfl, q _ H (Same.refl H) (.v (.bl _))⟩
theorem uLe : OpR X (compareOp .LtE) (rB K LeR) := by
  subst hK
  intro pins s σ H x y v u Q I rx ry h
  obtain ⟨Z, d, e, r, lv, hd, he, hR, q⟩ := h
  cases d <;> cases e <;> first | exact hR.elim | skip
  rw [hd.int] at rx
  rw [he.int] at ry
  have e1 : r = _ := hR
  subst e1
  exact op_le pins s σ H _ _ v u Q I rx ry ⟨_, _, rfl, rfl, q _ H (Same.refl H) (.v (.bl _))⟩
theorem uGt : OpR X (compareOp .Gt) (rB K GtR) := by
  subst hK
  intro pins s σ H x y v u Q I rx ry h
  obtain ⟨Z, d, e, r, lv, hd, he, hR, q⟩ := h
  cases d <;> cases e <;> first | exact hR.elim | skip
  rw [hd.int] at rx
  rw [he.int] at ry
  have e1 : r = _ := hR
  subst e1
  exact op_gt pins s σ H _ _ v u Q I rx ry ⟨_, _, rfl, rfl, q _ H (Same.refl H) (.v (.bl _))⟩
theorem uGe : OpR X (compareOp .GtE) (rB K GeR) := by
  subst hK
  intro pins s σ H x y v u Q I rx ry h
  obtain ⟨Z, d, e, r, lv, hd, he, hR, q⟩ := h
  cases d <;> cases e <;> first | exact hR.elim | skip
  rw [hd.int] at rx
  rw [he.int] at ry
  have e1 : r = _ := hR
  subst e1
  exact op_ge pins s σ H _ _ v u Q I rx ry ⟨_, _, rfl, rfl, q _ H (Same.refl H) (.v (.bl _))⟩
theorem uNeg : UnR X (unaryOp .USub) (rU1 K NegR) := by
  subst hK
  intro pins s σ H x v Q I rx h
  obtain ⟨Z, d, r, lv, hd, hR, q⟩ := h
  cases d <;> first | exact hR.elim | skip
  rw [hd.int] at rx
  have e1 : r = _ := hR
  subst e1
  exact un_neg pins s σ H _ v Q I rx ⟨_, rfl, q _ H (Same.refl H) (.v (.int _))⟩
end
theorem eqb_v {K : PySem.W.Frag} {Z : List Addr} {H : Hp} {x y : V} {d e : D} {b : Bool} (hd : Rb K Z H x d) (he : Rb K Z H y e) (h : eqb d e = some b) : scal x y = true ∧ decide (x = y) = b := by
  cases d <;> cases e <;> first | (cases h; done) | skip
  case non.non => rw [hd.non, he.non]; cases h; exact ⟨rfl, by simp⟩
  case non.bl => rw [hd.non, he.bl]; cases h; exact ⟨rfl, by simp⟩
  case non.int => rw [hd.non, he.int]; cases h; exact ⟨rfl, by simp⟩
  case non.str => rw [hd.non, he.str]; cases h; exact ⟨rfl, by simp⟩
  case bl.non => rw [hd.bl, he.non]; cases h; exact ⟨rfl, by simp⟩
  case bl.bl => rw [hd.bl, he.bl]; cases h; exact ⟨rfl, by simp⟩
  case bl.str => rw [hd.bl, he.str]; cases h; exact ⟨rfl, by simp⟩
  case int.non => rw [hd.int, he.non]; cases h; exact ⟨rfl, by simp⟩
  case int.int => rw [hd.int, he.int]; cases h; exact ⟨rfl, by simp⟩
  case int.str => rw [hd.int, he.str]; cases h; exact ⟨rfl, by simp⟩
  case str.non => rw [hd.str, he.non]; cases h; exact ⟨rfl, by simp⟩
  case str.bl => rw [hd.str, he.bl]; cases h; exact ⟨rfl, by simp⟩
  case str.int => rw [hd.str, he.int]; cases h; exact ⟨rfl, by simp⟩
  case str.str => rw [hd.str, he.str]; cases h; exact ⟨rfl, by simp⟩
section
variable {X : Cx} (K : PySem.W.Frag) (hK : X.K = K)
include hK
theorem uEq (hu : X.A.units + 64 < cLine) : OpR X (compareOp .Eq) (rB K EqR) := by
  subst hK
  intro pins s σ H x y v u Q I rx ry h
  obtain ⟨Z, d, e, r, lv, hd, he, hR, q⟩ := h
  rcases hR with ⟨b, hb, rfl⟩ | ⟨p, p', e1, e2, s1, s2, rfl⟩
  · obtain ⟨h1, h2⟩ := eqb_v hd he hb
    exact op_eq pins s σ H _ _ v u Q I rx ry ⟨h1, by rw [h2]; exact q _ H (Same.refl H) (.v (.bl _))⟩
  · exact op_eqD hu pins s σ H _ _ v u Q I rx ry ⟨p, p', hd.dp e1, he.dp e2, s1, s2, q _ H (Same.refl H) (.v (.bl _))⟩
theorem uNe (hu : X.A.units + 64 < cLine) : OpR X (compareOp .NotEq) (rB K NeR) := by
  subst hK
  intro pins s σ H x y v u Q I rx ry h
  obtain ⟨Z, d, e, r, lv, hd, he, hR, q⟩ := h
  rcases hR with ⟨b, hb, rfl⟩ | ⟨p, p', e1, e2, s1, s2, rfl⟩
  · obtain ⟨h1, h2⟩ := eqb_v hd he hb
    exact op_ne pins s σ H _ _ v u Q I rx ry ⟨h1, by rw [h2]; exact q _ H (Same.refl H) (.v (.bl _))⟩
  · exact op_neD hu pins s σ H _ _ v u Q I rx ry ⟨p, p', hd.dp e1, he.dp e2, s1, s2, q _ H (Same.refl H) (.v (.bl _))⟩
end
/-- is, is not beside None and truth values -/
theorem isb_v {K : PySem.W.Frag} {Z : List Addr} {H : Hp} {x y : V} {v u : Value} {d e : D} {b : Bool} (hd : Rb K Z H x d) (he : Rb K Z H y e) (rx : RelV x v) (ry : RelV y u) (h : isb d e = some b) : (y = .non ∧ decide (x = .non) = b) ∨ ∃ k, u = .bool k ∧ plainIs v (.bool k) = true ∧ ((v = .bool k ∧ b = true) ∨ (v ≠ .bool k ∧ b = false)) := by
  cases e <;> try (cases d <;> cases h; done)
  case non =>
    refine .inl ⟨he.non, ?_⟩
    cases d
    case non => rw [hd.non]; cases h; simp
    case bl => rw [hd.bl]; cases h; simp
    case int => rw [hd.int]; cases h; simp
    case str => rw [hd.str]; cases h; simp
    case tup => obtain ⟨a, vs, rfl, _⟩ := hd.tup; cases h; simp
    case lst => obtain ⟨a, vs, rfl, _⟩ := hd.lst; cases h; simp
    case ins => obtain ⟨a, dx, fs, rfl, _⟩ := hd.ins; cases h; simp
    case dct => obtain ⟨a, kvs, rfl, _⟩ := hd.dct; cases h; simp
    case raw w => rw [hd.raw]; cases h; rfl
    case frz => cases h
  case bl k =>
    rw [he.bl] at ry
    have eu : u = .bool k := ry
    refine .inr ⟨k, eu, ?_, ?_⟩
    · cases d <;> try (cases h; done)
      case bl a => rw [hd.bl] at rx; have ev : v = .bool a := rx; rw [ev]; rfl
      case non => rw [hd.non] at rx; have ev : v = .none := rx; rw [ev]; rfl
      case int => rw [hd.int] at rx; obtain ⟨t, ev⟩ := rx; rw [ev]; rfl
      case str => rw [hd.str] at rx; obtain ⟨t, ev⟩ := rx; rw [ev]; rfl
      case tup => obtain ⟨a, vs, rfl, _⟩ := hd.tup; have ev : v = .ref a := rx; rw [ev]; rfl
      case lst => obtain ⟨a, vs, rfl, _⟩ := hd.lst; have ev : v = .ref a := rx; rw [ev]; rfl
      case ins => obtain ⟨a, dx, fs, rfl, _⟩ := hd.ins; have ev : v = .ref a := rx; rw [ev]; rfl
      case dct => obtain ⟨a, kvs, rfl, _⟩ := hd.dct; have ev : v = .ref a := rx; rw [ev]; rfl
    cases d <;> try (cases h; done)
    case bl a =>
      rw [hd.bl] at rx
      have ev : v = .bool a := rx
      cases h
      by_cases q : a = k
      · exact .inl ⟨by rw [ev, q], decide_eq_true q⟩
      · exact .inr ⟨fun z => q (by rw [ev] at z; injection z), decide_eq_false q⟩
    case non => rw [hd.non] at rx; have ev : v = .none := rx; cases h; exact .inr ⟨(by rw [ev]; exact fun z => nomatch z), rfl⟩
    case int => rw [hd.int] at rx; obtain ⟨t, ev⟩ := rx; cases h; exact .inr ⟨(by rw [ev]; exact fun z => nomatch z), rfl⟩
    case str => rw [hd.str] at rx; obtain ⟨t, ev⟩ := rx; cases h; exact .inr ⟨(by rw [ev]; exact fun z => nomatch z), rfl⟩
    case tup => obtain ⟨a, vs, rfl, _⟩ := hd.tup; have ev : v = .ref a := rx; cases h; exact .inr ⟨(by rw [ev]; exact fun z => nomatch z), rfl⟩
    case lst => obtain ⟨a, vs, rfl, _⟩ := hd.lst; have ev : v = .ref a := rx; cases h; exact .inr ⟨(by rw [ev]; exact fun z => nomatch z), rfl⟩
    case ins => obtain ⟨a, dx, fs, rfl, _⟩ := hd.ins; have ev : v = .ref a := rx; cases h; exact .inr ⟨(by rw [ev]; exact fun z => nomatch z), rfl⟩
    case dct => obtain ⟨a, kvs, rfl, _⟩ := hd.dct; have ev : v = .ref a := rx; cases h; exact .inr ⟨(by rw [ev]; exact fun z => nomatch z), rfl⟩
end Lg
/-! # Lg5: more operators, slices, calls, methods -/
namespace Lg
open PySem PySem.Spec PyProof.Rows L2
/-! ### a great repeat of a tuple (the library's own stops at a thousand) -/
theorem rep_len {α : Type} (m : Nat) (l : List α) : (List.replicate m l).flatten.length = m * l.length := by
  induction m with
  | zero => simp
  | succ m ih => rw [List.replicate_succ, List.flatten_cons, List.length_append, ih]; rw [Nat.succ_mul]; omega
theorem Rps.rep {K : PySem.W.Frag} {X : List Addr} {H : Hp} {vs : List V} {ds : List D} (h : Rps K X H vs ds) : ∀ n : Nat, Rps K X H (List.replicate n vs).flatten (List.replicate n ds).flatten
  | 0 => .nil
  | n + 1 => by
    rw [List.replicate_succ, List.replicate_succ, List.flatten_cons, List.flatten_cons]
    exact h.append (Rps.rep h n)
section
variable {X : Cx} (K : PySem.W.Frag) (hK : X.K = K)
include hK
theorem uIs : OpR X (compareOp .Is) (rB K IsR) := by
  subst hK
  intro pins s σ H x y v u Q I rx ry h
  obtain ⟨Z, d, e, r, lv, hd, he, ⟨b, hb, rfl⟩, q⟩ := h
  rcases isb_v hd he rx ry hb with ⟨e1, e2⟩ | ⟨k, e1, pl, ⟨e2, e3⟩ | ⟨e2, e3⟩⟩
  · exact op_isN pins s σ H _ _ v u Q I rx ry ⟨e1, by rw [e2]; exact q _ H (Same.refl H) (.v (.bl _))⟩
  · subst e1 e2 e3
    exact wpAny_is_self pl ⟨.bl true, H, I, rfl, q _ H (Same.refl H) (.v (.bl _))⟩
  · subst e1 e3
    exact wpAny_is_other pl e2 ⟨.bl false, H, I, rfl, q _ H (Same.refl H) (.v (.bl _))⟩
theorem uIsNot : OpR X (compareOp .IsNot) (rB K IsNotR) := by
  subst hK
  intro pins s σ H x y v u Q I rx ry h
  obtain ⟨Z, d, e, r, lv, hd, he, ⟨b, hb, rfl⟩, q⟩ := h
  rcases isb_v hd he rx ry hb with ⟨e1, e2⟩ | ⟨k, e1, pl, ⟨e2, e3⟩ | ⟨e2, e3⟩⟩
  · exact op_notN pins s σ H _ _ v u Q I rx ry ⟨e1, by rw [e2]; exact q _ H (Same.refl H) (.v (.bl _))⟩
  · subst e1 e2 e3
    exact wpAny_isNot_self pl ⟨.bl false, H, I, rfl, q _ H (Same.refl H) (.v (.bl _))⟩
  · subst e1 e3
    exact wpAny_isNot_other pl e2 ⟨.bl true, H, I, rfl, q _ H (Same.refl H) (.v (.bl _))⟩
omit hK in
theorem inV_int {i : Int} {ns : List Int} : inV (.int i) (ns.map V.int) = decide (i ∈ ns) := by
  unfold inV
  rw [List.any_map]
  induction ns with
  | nil => rfl
  | cons n r ih =>
    rw [List.any_cons, ih]
    have e : (((fun y => eqV y (V.int i)) ∘ V.int) n) = decide (n = i) := by
      show eqV (V.int n) (V.int i) = _
      simp [eqV, Bool.beq_eq_decide_eq]
    rw [e]
    by_cases h1 : n = i
    · subst h1; simp
    · simp [h1, Ne.symm h1]
omit hK in
theorem inV_str {i : Str} {ns : List Str} : inV (.str i) (ns.map V.str) = decide (i ∈ ns) := by
  unfold inV
  rw [List.any_map]
  induction ns with
  | nil => rfl
  | cons n r ih =>
    rw [List.any_cons, ih]
    have e : (((fun y => eqV y (V.str i)) ∘ V.str) n) = decide (n = i) := by
      show eqV (V.str n) (V.str i) = _
      simp [eqV, Bool.beq_eq_decide_eq]
    rw [e]
    by_cases h1 : n = i
    · subst h1; simp
    · simp [h1, Ne.symm h1]
omit hK in
theorem flat_ints {ns : List Int} : (ns.map V.int).all flatV = true := by
  rw [List.all_map]
  exact List.all_eq_true.mpr fun _ _ => rfl
omit hK in
theorem flat_strs {ns : List Str} : (ns.map V.str).all flatV = true := by
  rw [List.all_map]
  exact List.all_eq_true.mpr fun _ _ => rfl
omit hK in
theorem Rps.of_opts {Z : List Addr} {H : Hp} : ∀ {os : List (Option Str)} {vs : List V}, Rps K Z H vs (os.map fun | some s => D.str s | none => D.non) → vs = os.map fun | some s => V.str s | none => V.non
  | [], _, h => by cases h; rfl
  | o :: r, _, h => by
    cases o with
    | none =>
      cases h with
      | cons h1 h2 =>
        cases h1
        rw [Rps.of_opts h2]
        rfl
    | some s =>
      cases h with
      | cons h1 h2 =>
        cases h1
        rw [Rps.of_opts h2]
        rfl
omit hK in
theorem inV_opts {os : List (Option Str)} : inV .non (os.map fun | some s => V.str s | none => V.non) = os.any Option.isNone := by
  unfold inV
  rw [List.any_map]
  congr 1
  funext o
  cases o <;> rfl
omit hK in
theorem flat_opts {os : List (Option Str)} : (os.map fun | some s => V.str s | none => V.non).all flatV = true := by
  rw [List.all_map]
  exact List.all_eq_true.mpr fun o _ => by cases o <;> rfl
omit hK in
theorem in_cases {Z : List Addr} {H : Hp} {x y : V} {d e : D} {b : Bool} (hd : Rb K Z H x d) (he : Rb K Z H y e) (h : InR d e b) :
    ∃ p xs, y = .ref p ∧ (SqL K H p xs ∨ SqT K H p xs) ∧ flatV x = true ∧ xs.all flatV = true ∧ inV x xs = b := by
  rcases h with ⟨i, ns, rfl, h, rfl⟩ | ⟨i, ns, rfl, h, rfl⟩ | ⟨os, rfl, rfl, rfl⟩
  · rw [hd.int]
    rcases h with rfl | rfl
    · obtain ⟨a, vs, rfl, h1, h2⟩ := he.lst
      rw [Rps.of_ints h2] at h1
      exact ⟨a, _, rfl, .inl (.inl (.inl h1)), rfl, flat_ints, inV_int⟩
    · obtain ⟨a, vs, rfl, h1, h2, _⟩ := he.tup
      rw [Rps.of_ints h2] at h1
      exact ⟨a, _, rfl, .inr h1, rfl, flat_ints, inV_int⟩
  · rw [hd.str]
    rcases h with rfl | rfl
    · obtain ⟨a, vs, rfl, h1, h2⟩ := he.lst
      rw [Rps.of_strs h2] at h1
      exact ⟨a, _, rfl, .inl (.inl (.inl h1)), rfl, flat_strs, inV_str⟩
    · obtain ⟨a, vs, rfl, h1, h2, _⟩ := he.tup
      rw [Rps.of_strs h2] at h1
      exact ⟨a, _, rfl, .inr h1, rfl, flat_strs, inV_str⟩
  · obtain ⟨a, vs, rfl, h1, h2⟩ := he.lst
    rw [Rps.of_opts K h2] at h1
    rw [hd.non]
    exact ⟨a, _, rfl, .inl (.inl (.inl h1)), rfl, flat_opts, inV_opts⟩
theorem uIn : OpR X (compareOp .In) (rB K InP) := by
  subst hK
  intro pins s σ H x y v u Q I rx ry h
  obtain ⟨Z, d, e, r, lv, hd, he, ⟨b, hb, rfl⟩, q⟩ := h
  have q := q _ H (Same.refl H) (.v (.bl _))
  obtain ⟨p, xs, e1, e2, e3, e4, e5⟩ := in_cases X.K hd he hb
  refine op_in_seq pins s σ H x y v u Q I rx ry ⟨p, xs, e1, e2, e3, e4, ?_⟩
  rw [e5]
  exact q
theorem uNotIn : OpR X (compareOp .NotIn) (rB K NotInP) := by
  subst hK
  intro pins s σ H x y v u Q I rx ry h
  obtain ⟨Z, d, e, r, lv, hd, he, ⟨b, hb, rfl⟩, q⟩ := h
  have q := q _ H (Same.refl H) (.v (.bl _))
  obtain ⟨p, xs, e1, e2, e3, e4, e5⟩ := in_cases X.K hd he hb
  refine op_notIn_seq pins s σ H x y v u Q I rx ry ⟨p, xs, e1, e2, e3, e4, ?_⟩
  rw [e5]
  exact q
/-! ### subscripts, slices -/
theorem uIx : IxR X (rB K IxD) := by
  subst hK
  intro value slice pins s σ H x y v u Q I rx ry h hs
  obtain ⟨Z, d, e, r, lv, hd, he, hR, q⟩ := h
  cases d <;> cases e <;> first | exact hR.elim | skip
  · obtain ⟨hz, c, hc, e1⟩ := hR
    subst e1
    exact ix_str value slice pins s σ H x y v u Q I rx ry ⟨_, _, c, hd.str, he.int, hz, hc, q _ H (Same.refl H) (.v (.str _))⟩ hs
  · obtain ⟨d, hc, e1⟩ := hR
    subst e1
    obtain ⟨a, vs, ex, h1, h2, _⟩ := hd.tup
    obtain ⟨w, g1, g2⟩ := h2.atI hc
    exact ix_tup value slice pins s σ H x y v u Q I rx ry ⟨a, vs, _, w, ex, he.int, h1, g1, q _ H (Same.refl H) (.v g2)⟩ hs
  · obtain ⟨d, hc, e1⟩ := hR
    subst e1
    obtain ⟨a, vs, ex, h1, h2⟩ := hd.lst
    obtain ⟨w, g1, g2⟩ := h2.atI hc
    exact ix_list value slice pins s σ H x y v u Q I rx ry ⟨a, vs, _, w, ex, he.int, .inl (.inl h1), g1, q _ H (Same.refl H) (.v g2)⟩ hs
omit hK in
theorem cut_whole {α : Type} (xs : List α) (lo hi : Option Int) (h : HT.sIx xs.length 0 lo = 0 ∧ HT.sIx xs.length xs.length hi = xs.length) : cutL xs lo hi = xs := by
  unfold cutL
  rw [h.1, h.2]
  simp
def rS (K : PySem.W.Frag) (R : D → Option Int → Option Int → RD → Prop) : V → Option Int → Option Int → Hp → VK → Prop := fun x lo hi H Q => ∃ Z d r, (∀ a ∈ Z, H a ≠ none) ∧ Rb K Z H x d ∧ R d lo hi r ∧ ∀ v H', Ex H H' → RvN K Z H H' v r → Q v H'
/-- .. the script's too -/
def SlF (d : D) (lo hi : Option Int) (r : RD) : Prop := SlD d lo hi r ∨ ∃ ns, d = .frz ns ∧ r = .n (.l ((cutL ns lo hi).map D.int))
theorem uSl : SlR X (rS K SlF) := by
  subst hK
  intro pins s σ H x v vl vu lo hi sl Q I rx hs pl pu h
  obtain ⟨Z, d, r, lv, hd, hR, q⟩ := h
  rcases hR with hR | ⟨ns, rfl, rfl⟩
  · cases d <;> first | exact hR.elim | skip
    · obtain ⟨hz, e1⟩ := hR
      subst e1
      exact sl_str pins s σ H x v vl vu lo hi sl Q I rx hs pl pu ⟨_, hd.str, hz, q _ H (Same.refl H) (.v (.str _))⟩
    · have e1 : r = _ := hR
      subst e1
      obtain ⟨a, vs, ex, h1, h2, h3⟩ := hd.tup
      refine sl_tupA pins s σ H x v vl vu lo hi sl Q I rx hs pl pu ⟨a, vs, ex, h1, fun hw => ?_, fun hw p hp => q _ _ (Ex.new hp) (rv_tup lv hp (h2.cutL lo hi))⟩
      rw [h2.length] at hw
      refine q _ H (Same.refl H) (.v ?_)
      rw [cut_whole _ lo hi hw]
      exact h3 H (Same.refl H)
    · have e1 : r = _ := hR
      subst e1
      obtain ⟨a, vs, ex, h1, h2⟩ := hd.lst
      exact sl_list pins s σ H x v vl vu lo hi sl Q I rx hs pl pu ⟨a, vs, ex, .inl (.inl h1), fun p hp => q _ _ (Ex.new hp) (rv_lst lv hp (h2.cutL lo hi))⟩
  · obtain ⟨a, ex, h1⟩ := hd.frz
    refine sl_list pins s σ H x v vl vu lo hi sl Q I rx hs pl pu ⟨a, _, ex, h1, fun p hp => q _ _ (Ex.new hp) (rv_lst lv hp ?_)⟩
    have e2 : cutV (ns.map V.int) lo hi = (cutL ns lo hi).map V.int := by
      unfold cutV cutL
      rw [List.length_map, List.map_take, List.map_drop]
    rw [e2]
    exact Rps.ints _
/-! ### calls -/
def LenR : List D → RD → Prop
  | [.lst ds], r => r = .v (.int ds.length)
  | [.tup ds], r => r = .v (.int ds.length)
  | [.str s], r => s.length ≤ sizeLine ∧ r = .v (.int s.length)
  | [.dct ks _], r => r = .v (.int ks.length)
  | _, _ => False
theorem uLen : CallR X (.builtin "len") (rC K LenR) := by
  subst hK
  intro pins s σ H xs us Q I r h
  obtain ⟨Z, ds, rr, lv, hd, hR, q⟩ := h
  match ds, hd, hR with
  | [.lst ds], hd, hR =>
    obtain ⟨v, rfl, hv⟩ := hd.one
    obtain ⟨a, vs, rfl, h1, h2⟩ := hv.lst
    have e1 : rr = _ := hR
    subst e1
    refine call_len_seq pins s σ H _ us Q I r ⟨a, vs, rfl, .inl (.inl (.inl h1)), ?_⟩
    rw [h2.length]
    exact q _ H (Same.refl H) (.v (.int _))
  | [.tup ds], hd, hR =>
    obtain ⟨v, rfl, hv⟩ := hd.one
    obtain ⟨a, vs, rfl, h1, h2, _⟩ := hv.tup
    have e1 : rr = _ := hR
    subst e1
    refine call_len_seq pins s σ H _ us Q I r ⟨a, vs, rfl, .inr h1, ?_⟩
    rw [h2.length]
    exact q _ H (Same.refl H) (.v (.int _))
  | [.str z], hd, hR =>
    obtain ⟨v, rfl, hv⟩ := hd.one
    have ev := hv.str
    subst ev
    obtain ⟨hz, e1⟩ := hR
    subst e1
    exact call_len_str pins s σ H _ us Q I r ⟨z, rfl, hz, q _ H (Same.refl H) (.v (.int _))⟩
  | [.dct ks ds], hd, hR =>
    obtain ⟨v, rfl, hv⟩ := hd.one
    obtain ⟨a, kvs, rfl, h1, h2, h3⟩ := hv.dct
    have e1 : rr = _ := hR
    subst e1
    obtain ⟨u, rfl, ru⟩ := vals1 r
    cases ru
    refine d_len I h1 fun t s' I' => ⟨.int kvs.length, H, I', ⟨t, rfl⟩, ?_⟩
    have e2 : kvs.length = ks.length := by rw [← h2, List.length_map]
    rw [e2]
    exact q _ H (Same.refl H) (.v (.int _))
def IntR : List D → RD → Prop
  | [.int i], r => r = .v (.int i)
  | _, _ => False
theorem uInt : CallR X (.type "int") (rC K IntR) := by
  subst hK
  intro pins s σ H xs us Q I r h
  obtain ⟨Z, ds, rr, lv, hd, hR, q⟩ := h
  match ds, hd, hR with
  | [.int i], hd, hR =>
    obtain ⟨v, rfl, hv⟩ := hd.one
    have ev := hv.int
    subst ev
    have e1 : rr = _ := hR
    subst e1
    exact call_int1 pins s σ H _ us Q I r (.inl ⟨i, rfl, q _ H (Same.refl H) (.v (.int _))⟩)
def AbsR : List D → RD → Prop
  | [.int i], r => r = .v (.int (i.natAbs : Int))
  | _, _ => False
theorem uAbs : CallR X (.builtin "abs") (rC K AbsR) := by
  subst hK
  intro pins s σ H xs us Q I r h
  obtain ⟨Z, ds, rr, lv, hd, hR, q⟩ := h
  match ds, hd, hR with
  | [.int i], hd, hR =>
    obtain ⟨v, rfl, hv⟩ := hd.one
    have ev := hv.int
    subst ev
    have e1 : rr = _ := hR
    subst e1
    refine call_abs pins s σ H _ us Q I r ⟨i, rfl, ?_⟩
    have e2 : (if i < 0 then -i else i) = (i.natAbs : Int) := by split <;> omega
    rw [e2]
    exact q _ H (Same.refl H) (.v (.int _))
def OrdR : List D → RD → Prop
  | [.str s], r => s.length = 1 ∧ r = .v (.int (s.cps.getD 0 0 : Nat))
  | _, _ => False
theorem uOrd : CallR X (.builtin "ord") (rC K OrdR) := by
  subst hK
  intro pins s σ H xs us Q I r h
  obtain ⟨Z, ds, rr, lv, hd, hR, q⟩ := h
  match ds, hd, hR with
  | [.str i], hd, hR =>
    obtain ⟨v, rfl, hv⟩ := hd.one
    have ev := hv.str
    subst ev
    obtain ⟨h1, e1⟩ := hR
    subst e1
    exact call_ord pins s σ H _ us Q I r ⟨i, rfl, h1, q _ H (Same.refl H) (.v (.int _))⟩
def SumR : List D → RD → Prop
  | [.lst ds], r => ∃ ns : List Int, ds = ns.map D.int ∧ r = .v (.int ns.sum)
  | _, _ => False
theorem uSum (hc : X.calm = true) : CallR X (.builtin "sum") (rC K SumR) := by
  subst hK
  intro pins s σ H xs us Q I r h
  obtain ⟨Z, ds, rr, lv, hd, hR, q⟩ := h
  match ds, hd, hR with
  | [.lst ds], hd, hR =>
    obtain ⟨v, rfl, hv⟩ := hd.one
    obtain ⟨a, vs, rfl, h1, h2⟩ := hv.lst
    obtain ⟨ns, rfl, e1⟩ := hR
    subst e1
    rw [Rps.of_ints h2] at h1
    exact cr_sum hc pins s σ H _ us Q I r ⟨a, ns, rfl, .inl (.inl h1), q _ H (Same.refl H) (.v (.int _))⟩
def TupleR : List D → RD → Prop
  | [.lst ds], r => r = .v (.tup ds)
  | [.tup ds], r => r = .v (.tup ds)
  | _, _ => False
theorem uTuple : CallR X (.type "tuple") (rC K TupleR) := by
  subst hK
  intro pins s σ H xs us Q I r h
  obtain ⟨Z, ds, rr, lv, hd, hR, q⟩ := h
  match ds, hd, hR with
  | [.lst ds], hd, hR =>
    obtain ⟨v, rfl, hv⟩ := hd.one
    obtain ⟨a, vs, rfl, h1, h2⟩ := hv.lst
    have e1 : rr = _ := hR
    subst e1
    exact call_tuple_of pins s σ H _ us Q I r ⟨a, vs, rfl, .inl ⟨.inl (.inl h1), fun l hl => q _ _ (Ex.new hl) (rv_tup lv hl h2)⟩⟩
  | [.tup ds], hd, hR =>
    obtain ⟨v, rfl, hv⟩ := hd.one
    obtain ⟨a, vs, rfl, h1, h2, h3⟩ := hv.tup
    have e1 : rr = _ := hR
    subst e1
    exact call_tuple_of pins s σ H _ us Q I r ⟨a, vs, rfl, .inr ⟨h1, q _ H (Same.refl H) (.v (h3 H (Same.refl H)))⟩⟩
def ListR : List D → RD → Prop
  | [.lst ds], r => r = .n (.l ds)
  | [.tup ds], r => r = .n (.l ds)
  | _, _ => False
theorem uList : CallR X (.type "list") (rC K ListR) := by
  subst hK
  intro pins s σ H xs us Q I r h
  obtain ⟨Z, ds, rr, lv, hd, hR, q⟩ := h
  match ds, hd, hR with
  | [.lst ds], hd, hR =>
    obtain ⟨v, rfl, hv⟩ := hd.one
    obtain ⟨a, vs, rfl, h1, h2⟩ := hv.lst
    have e1 : rr = _ := hR
    subst e1
    exact call_list_of pins s σ H _ us Q I r ⟨a, vs, rfl, .inl (.inl (.inl h1)), fun l hl => q _ _ (Ex.new hl) (rv_lst lv hl h2)⟩
  | [.tup ds], hd, hR =>
    obtain ⟨v, rfl, hv⟩ := hd.one
    obtain ⟨a, vs, rfl, h1, h2, _⟩ := hv.tup
    have e1 : rr = _ := hR
    subst e1
    exact call_list_of pins s σ H _ us Q I r ⟨a, vs, rfl, .inr h1, fun l hl => q _ _ (Ex.new hl) (rv_lst lv hl h2)⟩
/-! isinstance -/
omit hK in
/-- the type of plain data -/
def tyD : D → Option Value
  | .non => some (.type "NoneType")
  | .bl _ => some (.type "bool")
  | .int _ => some (.type "int")
  | .str _ => some (.type "str")
  | .tup _ => some (.type "tuple")
  | .lst _ => some (.type "list")
  | .dct _ _ => some (.type "dict")
  | _ => none
/-- an instance of an own class: what isinstance reads of its class -/
structure InsT (K : PySem.W.Frag) (C : Addr) : Prop where
  cl : Cls K C
  ha : PySem.W.findIn K (.ref C) "__class__" = some (some (.builtin "object.__class__"))
  hn : PySem.W.specialIn K (.builtin "object.__class__") "__get__" = some (some (.builtin "getset_descriptor.__get__"))
  ht : PySem.W.takesIn K (.builtin "object.__class__") = some true
  hm : PySem.W.mroIn K C (.type "object") = some true
inductive TyDR (K : PySem.W.Frag) : D → Value → Prop
  | p {d : D} {t : Value} : tyD d = some t → TyDR K d t
  | i {C : Addr} {ns : List Str} {ds : List D} : InsT K C → TyDR K (.ins C ns ds) (.ref C)
omit hK in
theorem TyDR.tyx {Z : List Addr} {H : Hp} {x : V} {d : D} {t : Value} (h : TyDR K d t) (rb : Rb K Z H x d) : TyX K H x t := by
  cases h with
  | i c =>
    obtain ⟨a, dx, fs, rfl, h1, _⟩ := rb.ins
    exact .base (.ins h1 c.cl c.ha c.hn c.ht c.hm)
  | p e =>
    cases d <;> cases e
    · rw [rb.non]; exact .base .non
    · rw [rb.bl]; exact .base (.bl _)
    · rw [rb.int]; exact .base (.int _)
    · rw [rb.str]; exact .base (.str _)
    · obtain ⟨a, vs, rfl, h1, h2, _⟩ := rb.tup
      rcases h1 with (h1 | ⟨o, h1⟩) | ⟨o, its, n, h1, hc, hd, hz, hv⟩
      · exact .base (.tup h1)
      · exact .fTuple h1
      · exact .kTuple h1 hc
    · obtain ⟨a, vs, rfl, h1, h2⟩ := rb.lst
      exact .base (.lst h1)
    · obtain ⟨a, kvs, rfl, h1, h2⟩ := rb.dct
      rcases h1 with h1 | ⟨o, h1⟩
      · exact .base (.dK h1)
      · exact .fDict h1
inductive ClD : D → Value → Prop
  | ty (n : String) : ClD (.raw (.ty n)) (.type n)
  | own (C : Addr) : ClD (.raw (.ref C)) (.ref C)
/-- the answer of isinstance -/
def IsiR (K : PySem.W.Frag) : List D → RD → Prop
  | [d, .tup cs], r => ∃ t us b, TyDR K d t ∧ Paired ClD cs us ∧ PySem.W.kitAny K t us = some b ∧ r = .v (.bl b)
  | [d, c], r => ∃ t u b, TyDR K d t ∧ ClD c u ∧ PySem.W.kitOne K t u = some b ∧ r = .v (.bl b)
  | _, _ => False
omit hK in
theorem clsV_of {Z : List Addr} {H : Hp} {x : V} {c : D} {u : Value} (h : ClD c u) (rb : Rb K Z H x c) : ClsV x u := by
  cases h with
  | ty n => rw [rb.raw]; exact .ty n
  | own C => rw [rb.raw]; exact .own C
omit hK in
theorem clsVs_of {Z : List Addr} {H : Hp} : ∀ {vs : List V} {cs : List D} {us : List Value}, Paired ClD cs us → Rps K Z H vs cs → Paired ClsV vs us
  | _, _, _, .nil, h => by cases h; exact .nil
  | _, _, _, .cons k t, h => by
    cases h with
    | cons h1 h2 => exact .cons (clsV_of K k (.p h1)) (clsVs_of t h2)
end
/-- the tuple of classes is a tracked one -/
theorem Rb.tupH {K : PySem.W.Frag} {Z : List Addr} {H : Hp} {x : V} {ds : List D} (rb : Rb K Z H x (.tup ds)) : ∃ a vs, x = .ref a ∧ Rps K Z H vs ds ∧ (H a = some (.tup vs) ∨ (∃ o, H a = some (.frz o (.tup vs))) ∨ ∃ (o : Obj) (its : Array Value) (n : Nat), K.lookup a = some o ∧ o.cls = .type "tuple" ∧ o.data = .seq its n ∧ its.size ≤ sizeLine ∧ Vals vs its.toList) := by
  obtain ⟨a, vs, e, h1, h2, _⟩ := rb.tup
  rcases h1 with (h1 | h1) | h1
  · exact ⟨a, vs, e, h2, .inl h1⟩
  · exact ⟨a, vs, e, h2, .inr (.inl h1)⟩
  · exact ⟨a, vs, e, h2, .inr (.inr h1)⟩
end Lg
/-! # Lg6: a list of zip of two tuples, enumerate over a tuple -/
namespace Lg
open PySem PySem.Spec PyProof.Rows L2
/-- zip once it has handed out a tuple that is still there -/
def ZipB (h : Heap) (z TI TO T : Addr) (fl : Bool) : Prop :=
  h.get? z = some { cls := .type "zip", dict := none, data := .fields #[rawInt T, .bool fl, .bool false, .ref TI, .ref TO], slots := #[] }
section
variable {prog : Program} {w : World} {A : Around} {E : Value → Shared → Prop} {s : Shared}
theorem alive_wp {a : Addr} {Q : Option Obj → Shared → Prop} (h : Q (s.heap.get? a) s) : wpAny (model prog w) A (loadIfAlive a) Q E s := fun Γ p _ => by
  show PySem.Sem.wp _ Γ (.loadIfAlive a .pure) _ _ p s
  rw [PySem.Sem.wp_loadIfAlive]
  exact h
theorem zipB_busy {z TI TO T : Addr} {fl : Bool} {oT : Obj} {Q : Bool → Shared → Prop} (hz : ZipB s.heap z TI TO T fl) (hT : s.heap.get? T = some oT)
    (h : ∀ h', ZipB h' z TI TO T true → Heap.SameBut z s.heap h' → Q false { s with heap := h' }) : wpAny (model prog w) A (Builtin.SmallTypes.ownedTupleIsFree (.ref z)) Q E s := by
  unfold ZipB at hz
  unfold Builtin.SmallTypes.ownedTupleIsFree
  refine wpAny_bind (wpAny_field hz rfl (x := rawInt T) rfl ?_)
  show wpAny _ _ (loadIfAlive (T : Int).toNat >>= _) _ _ _
  rw [Int.toNat_natCast]
  refine wpAny_bind (alive_wp ?_)
  rw [hT]
  refine wpAny_bind (wpAny_field hz rfl (x := .bool fl) rfl ?_)
  cases fl with
  | true => exact wpAny_pure (h s.heap hz (Heap.SameBut.refl ..))
  | false =>
    refine wpAny_bind (wpAny_setField_rec hz (by simp) fun h' hz' sb => wpAny_pure ?_)
    exact h h' hz' sb
theorem zipB_next {z TI TO i1 i2 l1 l2 T : Addr} {fl : Bool} {oT : Obj} {k1 k2 : Nat} {xs ys : Array Value} {x y : Value} {Q : Value → Shared → Prop} (D : ZipApart z TI TO i1 i2 l1 l2)
    (hz : ZipB s.heap z TI TO T fl) (hTI : IsPair s.heap TI (.ref i1) (.ref i2)) (hT : s.heap.get? T = some oT)
    (h1 : s.heap.IsTupleIter i1 l1 k1) (h2 : s.heap.IsTupleIter i2 l2 k2) (hl1 : s.heap.IsTuple l1 xs) (hl2 : s.heap.IsTuple l2 ys) (hx : xs[k1]? = some x) (hy : ys[k2]? = some y)
    (hQ : ∀ h', ZipB h' z TI TO T true → h'.IsTupleIter i1 l1 (k1 + 1) → h'.IsTupleIter i2 l2 (k2 + 1) → IsPair h' s.heap.objs.size x y → h'.objs.size = s.heap.objs.size + 1 →
      (∀ c o, c ≠ z → c ≠ i1 → c ≠ i2 → s.heap.get? c = some o → h'.get? c = some o) → Q (.ref s.heap.objs.size) { s with heap := h' }) :
    wpAny (model prog w) A (Builtin.«zip.__next__» ⟨[.ref z], []⟩) (fun fin s' => ∃ v, fin = .done (.ret v) ∧ Q v s') E s := by
  show wpAny _ _ (field (.ref z) 2 >>= _) _ _ _
  have hz0 := hz
  unfold ZipB at hz0
  refine wpAny_bind (wpAny_field hz0 rfl (x := .bool false) rfl ?_)
  show wpAny _ _ (field (.ref z) 3 >>= _) _ _ _
  refine wpAny_bind (wpAny_field hz0 rfl (x := .ref TI) rfl ?_)
  refine wpAny_bind (wpAny_seqItems hTI rfl ?_)
  show wpAny _ _ (Builtin.SmallTypes.ownedTupleIsFree (.ref z) >>= _) _ _ _
  refine wpAny_bind (zipB_busy hz hT fun ha za sa => ?_)
  simp only [Bool.false_eq_true, if_false]
  refine wpAny_bind ?_
  first
  | rw [List.forIn_toArray]
  | (rw [← Array.forIn_toList]; simp only [List.toList_toArray])
  | rw [← Array.forIn_toList]
  simp only [List.forIn_cons, List.forIn_nil]
  refine wpAny_bind (wpAny_bind (wpAny_holding ?_))
  show wpAny _ _ (Builtin.SmallTypes.nextOf (.ref i1) >>= _) _ _ _
  refine wpAny_bind (RZ.nextOf_tuple_item (s := { s with heap := ha }) (h1.extBut sa.extBut D.i1z) (hl1.extBut sa.extBut D.l1z) hx fun hb b1 sb => wpAny_pure ?_)
  refine wpAny_pure ?_
  refine wpAny_bind (wpAny_bind (wpAny_holding ?_))
  show wpAny _ _ (Builtin.SmallTypes.nextOf (.ref i2) >>= _) _ _ _
  refine wpAny_bind (RZ.nextOf_tuple_item (s := { s with heap := hb }) ((h2.extBut sa.extBut D.i2z).extBut sb.extBut D.i12.symm) ((hl2.extBut sa.extBut D.l2z).extBut sb.extBut D.l2i1) hy fun hc c1 sc => wpAny_pure ?_)
  refine wpAny_pure ?_
  refine wpAny_pure ?_
  have hsz : hc.objs.size = s.heap.objs.size := by rw [sc.1, sb.1, sa.1]
  have kp : ∀ c o, c ≠ z → c ≠ i1 → c ≠ i2 → s.heap.get? c = some o → hc.get? c = some o := fun c o n1 n2 n3 e => sc.extBut _ _ n3 (sb.extBut _ _ n2 (sa.extBut _ _ n1 e))
  refine wpAny_bind (wpAny_newTuple ?_ (by show (2 : Nat) ≤ sizeLine; decide))
  refine wpAny_pure ⟨_, rfl, ?_⟩
  show Q (.ref hc.objs.size) _
  rw [hsz]
  refine hQ _ ?_ ?_ ?_ ?_ ?_ fun c o n1 n2 n3 e => Heap.get?_push_of_some _ (kp c o n1 n2 n3 e)
  · exact Heap.get?_push_of_some _ (sc.extBut _ _ D.i2z.symm (sb.extBut _ _ D.i1z.symm za))
  · exact (b1.extBut sc.extBut D.i12).at fun o e => Heap.get?_push_of_some _ e
  · exact c1.at fun o e => Heap.get?_push_of_some _ e
  · have e := Heap.get?_push_size hc (o := { cls := .type "tuple", data := .seq #[x, y] }) rfl
    rw [hsz] at e
    exact e
  · rw [Heap.size_push, hsz]
theorem zipB_end {z TI TO i1 i2 l1 l2 T : Addr} {fl : Bool} {oT : Obj} {k1 k2 : Nat} {xs ys : Array Value} {Q : Fin → Shared → Prop} (hh : A.handled = none) (D : ZipApart z TI TO i1 i2 l1 l2)
    (hz : ZipB s.heap z TI TO T fl) (hTI : IsPair s.heap TI (.ref i1) (.ref i2)) (hT : s.heap.get? T = some oT)
    (h1 : s.heap.IsTupleIter i1 l1 k1) (hl1 : s.heap.IsTuple l1 xs) (hend : xs[k1]? = none)
    (hE : ∀ h' e, (∀ c o, c ≠ z → c ≠ i1 → s.heap.get? c = some o → h'.get? c = some o) → (∃ o, h'.get? e = some o ∧ o.cls = .type "StopIteration") → E (.ref e) { s with heap := h' }) :
    wpAny (model prog w) A (Builtin.«zip.__next__» ⟨[.ref z], []⟩) Q E s := by
  show wpAny _ _ (field (.ref z) 2 >>= _) _ _ _
  have hz0 := hz
  unfold ZipB at hz0
  refine wpAny_bind (wpAny_field hz0 rfl (x := .bool false) rfl ?_)
  show wpAny _ _ (field (.ref z) 3 >>= _) _ _ _
  refine wpAny_bind (wpAny_field hz0 rfl (x := .ref TI) rfl ?_)
  refine wpAny_bind (wpAny_seqItems hTI rfl ?_)
  show wpAny _ _ (Builtin.SmallTypes.ownedTupleIsFree (.ref z) >>= _) _ _ _
  refine wpAny_bind (zipB_busy hz hT fun ha za sa => ?_)
  simp only [Bool.false_eq_true, if_false]
  refine wpAny_bind ?_
  first
  | rw [List.forIn_toArray]
  | (rw [← Array.forIn_toList]; simp only [List.toList_toArray])
  | rw [← Array.forIn_toList]
  simp only [List.forIn_cons, List.forIn_nil]
  refine wpAny_bind (wpAny_bind (wpAny_holding ?_))
  show wpAny _ _ (Builtin.SmallTypes.nextOf (.ref i1) >>= _) _ _ _
  refine wpAny_bind (RZ.nextOf_tuple_end (s := { s with heap := ha }) hh (h1.extBut sa.extBut D.i1z) (hl1.extBut sa.extBut D.l1z) hend fun hb e sb he => ?_)
  exact hE hb e (fun c o n1 n2 x => sb _ _ n2 (sa.extBut _ _ n1 x)) he
theorem zipB_item {z TI TO i1 i2 l1 l2 T : Addr} {fl : Bool} {oT : Obj} {k1 k2 : Nat} {xs ys : Array Value} {x y : Value} {Q : Option Value → Shared → Prop} (D : ZipApart z TI TO i1 i2 l1 l2)
    (hz : ZipB s.heap z TI TO T fl) (hTI : IsPair s.heap TI (.ref i1) (.ref i2)) (hT : s.heap.get? T = some oT)
    (h1 : s.heap.IsTupleIter i1 l1 k1) (h2 : s.heap.IsTupleIter i2 l2 k2) (hl1 : s.heap.IsTuple l1 xs) (hl2 : s.heap.IsTuple l2 ys) (hx : xs[k1]? = some x) (hy : ys[k2]? = some y)
    (hQ : ∀ h', ZipB h' z TI TO T true → h'.IsTupleIter i1 l1 (k1 + 1) → h'.IsTupleIter i2 l2 (k2 + 1) → IsPair h' s.heap.objs.size x y → h'.objs.size = s.heap.objs.size + 1 →
      (∀ c o, c ≠ z → c ≠ i1 → c ≠ i2 → s.heap.get? c = some o → h'.get? c = some o) → Q (some (.ref s.heap.objs.size)) { s with heap := h' }) :
    wpAny (model prog w) A (pyNext (.ref z)) Q E s := by
  have ty : s.TypeIs (.ref z) "zip" := ⟨_, hz, rfl⟩
  unfold pyNext
  exact wpAny_bind (wpAny_attempt (wpAny_callSpecial?_slot (name := Str.ofString "__next__") ty F.slot_zip_next
    (wpAny_call_entry F.slot_zip_next ty F.entry_zip_next (zipB_next D hz hTI hT h1 h2 hl1 hl2 hx hy fun h' a1 a2 a3 a4 a5 a6 => wpAny_pure (hQ h' a1 a2 a3 a4 a5 a6)) (F.args_zip_next_1 _))))
theorem zipB_stop {z TI TO i1 i2 l1 l2 T : Addr} {fl : Bool} {oT : Obj} {k1 k2 : Nat} {xs ys : Array Value} {Q : Option Value → Shared → Prop} (hh : A.handled = none) (D : ZipApart z TI TO i1 i2 l1 l2)
    (hz : ZipB s.heap z TI TO T fl) (hTI : IsPair s.heap TI (.ref i1) (.ref i2)) (hT : s.heap.get? T = some oT)
    (h1 : s.heap.IsTupleIter i1 l1 k1) (hl1 : s.heap.IsTuple l1 xs) (hend : xs[k1]? = none)
    (hQ : ∀ h', (∀ c o, c ≠ z → c ≠ i1 → s.heap.get? c = some o → h'.get? c = some o) → Q none { s with heap := h' }) : wpAny (model prog w) A (pyNext (.ref z)) Q E s := by
  have ty : s.TypeIs (.ref z) "zip" := ⟨_, hz, rfl⟩
  unfold pyNext
  refine wpAny_bind (wpAny_attempt (wpAny_callSpecial?_slot (name := Str.ofString "__next__") ty F.slot_zip_next
    (wpAny_call_entry F.slot_zip_next ty F.entry_zip_next (zipB_end (k2 := k2) (ys := ys) hh D hz hTI hT h1 hl1 hend fun h' e hk he => ?_) (F.args_zip_next_1 _))))
  obtain ⟨o, ho, hc⟩ := he
  exact wpAny_bind (wpAny_isInstance (T := "StopIteration") (b := true) ⟨o, ho, hc⟩ isSubtype_stop (wpAny_pure (hQ _ hk)))
end
/-- zip at turn i, drawn from by one who keeps the tuples -/
def ZSt (z TI TO i1 i2 a b q : Addr) (i : Nat) (h : Heap) : Prop :=
  (IsZip h z TI TO .none ∨ ∃ T fl x y, ZipB h z TI TO T fl ∧ IsPair h T x y ∧ T ∉ [z, TI, TO, i1, i2, q]) ∧ IsPair h TI (.ref i1) (.ref i2) ∧ (∃ x y, IsPair h TO x y) ∧ h.IsTupleIter i1 a i ∧ h.IsTupleIter i2 b i
theorem ZSt.keep {z TI TO i1 i2 a b q : Addr} {i : Nat} {h h' : Heap} (st : ZSt z TI TO i1 i2 a b q i h) (hq : q ∉ [z, TI, TO, i1, i2]) (k : ∀ c o, c ≠ q → h.get? c = some o → h'.get? c = some o) : ZSt z TI TO i1 i2 a b q i h' := by
  obtain ⟨hz, hTI, ⟨x, y, hTO⟩, h1, h2⟩ := st
  have n : ∀ c, c ∈ [z, TI, TO, i1, i2] → c ≠ q := fun c hc e => hq (e ▸ hc)
  refine ⟨?_, k _ _ (n TI (by simp)) hTI, ⟨x, y, k _ _ (n TO (by simp)) hTO⟩, h1.at fun o e => k _ o (n i1 (by simp)) e, h2.at fun o e => k _ o (n i2 (by simp)) e⟩
  rcases hz with hz | ⟨T, fl, x, y, hz, hT, nT⟩
  · exact .inl (k _ _ (n z (by simp)) hz)
  · exact .inr ⟨T, fl, x, y, k _ _ (n z (by simp)) hz, k _ _ (fun e => nT (by simp [e])) hT, nT⟩
section
variable {X : Cx} {pins : List (Addr × Obj)} {σ : L2.St}
theorem zl_loop (hc : X.calm = true) {A1 : Around} (hA : A1.in1.handled = none) {z TI TO i1 i2 a b q : Addr} (D : ZipApart z TI TO i1 i2 a b) (hq : q ∉ [z, TI, TO, i1, i2]) {xs ys : List V} (hl : xs.length = ys.length) (hz : xs.length ≤ sizeLine) {H0 : Hp} {Rs : Result → Shared → Prop}
    (hdone : ∀ acc H s, Inv X pins σ H s → Ex H0 H → H q = some (.lst acc) → acc.length = xs.length → (∀ j : Nat, j < xs.length → ∃ p x y, acc[j]? = some (.ref p) ∧ H0 p = none ∧ H p = some (.tup [x, y]) ∧ xs[j]? = some x ∧ ys[j]? = some y) → Rs (.ok (.ret .none)) s) :
    ∀ (k i : Nat) (acc : List V) (H : Hp) (s : Shared), xs.length - i = k → i ≤ xs.length → Inv X pins σ H s → Ex H0 H → H0 q = none → SqT X.K H a xs → SqT X.K H b ys → H q = some (.lst acc) → acc.length = i →
    (∀ j : Nat, j < i → ∃ p x y, acc[j]? = some (.ref p) ∧ H0 p = none ∧ H p = some (.tup [x, y]) ∧ xs[j]? = some x ∧ ys[j]? = some y) → (∀ c ∈ [z, TI, TO, i1, i2], FpOk X pins H c) → ZSt z TI TO i1 i2 a b q i s.heap →
    codeAny (model X.prog X.w) A1 (.builtin "list.extend.loop" ⟨[.ref q, .ref z, .none], []⟩) Rs s := by
  intro k
  induction k with
  | zero =>
    intro i acc H s hk hi I ex h0 ha hb hq' hlen hac hf st
    have ei : i = xs.length := by omega
    subst ei
    refine codeAny_builtin PySem.F.entry_extend_loop ?_
    rw [Around.under_plainId PySem.F.plain_extend_loop _]
    show wpAny _ A1.in1 (pyNext (.ref z) >>= _) _ _ s
    obtain ⟨its, rv, p, _⟩ := I.tuple ha
    obtain ⟨its2, rv2, p2, _⟩ := I.tuple hb
    have l1 := rv.length
    obtain ⟨hz', hTI, ⟨x0, y0, hTO⟩, h1, h2⟩ := st
    have he : its.toArray[xs.length]? = none := by simp; omega
    refine wpAny_bind ?_
    rcases hz' with hz' | ⟨T, fl, x, y, hz', hT, nT⟩
    · refine RZ.pyNext_zipT_end hA D hz' hTI hTO h1 h2 p p2 (.inl he) fun h' hk => ?_
      refine wpAny_pure (hdone acc H _ (I.turnedL (t' := s.toks) (ch := [z, TI, TO, i1, i2]) (fun c o hb q => ?_) hf) ex hq' hlen hac)
      exact hk c o (fun e => hb (by simp [e])) (fun e => hb (by simp [e])) (fun e => hb (by simp [e])) (fun e => hb (by simp [e])) q
    · refine zipB_stop (k2 := xs.length) (ys := its2.toArray) hA D hz' hTI hT h1 p he fun h' hk => ?_
      refine wpAny_pure (hdone acc H _ (I.turnedL (t' := s.toks) (ch := [z, TI, TO, i1, i2]) (fun c o hb q => ?_) hf) ex hq' hlen hac)
      exact hk c o (fun e => hb (by simp [e])) (fun e => hb (by simp [e])) q
  | succ k ih =>
    intro i acc H s hk hi I ex h0 ha hb hq' hlen hac hf st
    have hlt : i < xs.length := by omega
    have hlt2 : i < ys.length := by omega
    refine codeAny_builtin PySem.F.entry_extend_loop ?_
    rw [Around.under_plainId PySem.F.plain_extend_loop _]
    show wpAny _ A1.in1 (pyNext (.ref z) >>= _) _ _ s
    obtain ⟨its, rv, p, _⟩ := I.tuple ha
    obtain ⟨its2, rv2, p2, _⟩ := I.tuple hb
    obtain ⟨u, hu, ru⟩ := rv.get (List.getElem?_eq_getElem hlt)
    obtain ⟨u2, hu2, ru2⟩ := rv2.get (List.getElem?_eq_getElem hlt2)
    obtain ⟨hz', hTI, ⟨x0, y0, hTO⟩, h1, h2⟩ := st
    have hql : q < s.heap.objs.size := by
      obtain ⟨_, _, _, _, _, e⟩ := I.lstM hq'
      exact Heap.lt_size e
    have lts : ∀ c, c ∈ [z, TI, TO, i1, i2] → c < s.heap.objs.size := fun c hcm => by
      have e' : c = z ∨ c = TI ∨ c = TO ∨ c = i1 ∨ c = i2 := by simpa using hcm
      rcases e' with e | e | e | e | e
      · rw [e]
        rcases hz' with hz' | ⟨T, fl, x, y, hz', _⟩
        · exact Heap.lt_size hz'
        · exact Heap.lt_size (show s.heap.get? z = some _ from hz')
      · rw [e]; exact Heap.lt_size hTI
      · rw [e]; exact Heap.lt_size hTO
      · rw [e]; obtain ⟨_, e1, _⟩ := h1; exact Heap.lt_size e1
      · rw [e]; obtain ⟨_, e1, _⟩ := h2; exact Heap.lt_size e1
    -- what follows a drawn tuple
    have go : ∀ h' : Heap, h'.objs.size = s.heap.objs.size + 1 → IsPair h' s.heap.objs.size u u2 → (IsZip h' z TI TO .none ∨ ∃ T fl x y, ZipB h' z TI TO T fl ∧ IsPair h' T x y ∧ T ∉ [z, TI, TO, i1, i2, q]) → IsPair h' TI (.ref i1) (.ref i2) →
        (∃ x y, IsPair h' TO x y) → h'.IsTupleIter i1 a (i + 1) → h'.IsTupleIter i2 b (i + 1) → (∀ c o, c ∉ [z, TI, TO, i1, i2] → s.heap.get? c = some o → h'.get? c = some o) →
        wpAny (model X.prog X.w) A1.in1 (updateSeq q (·.push (.ref s.heap.objs.size)) >>= fun _ => again (.builtin "list.extend.loop" ⟨[.ref q, .ref z, .none], []⟩))
          (fun fin s' => match fin with | .done f => Rs (.ok f) s' | .again c' => c'.quiet = true ∧ codeAny (model X.prog X.w) A1 c' Rs s') (fun e s' => Rs (.error e) s') { s with heap := h' } := by
      intro h' hsz hP hz2 hTI2 hTO2 h12 h22 hk'
      have hpn : H s.heap.objs.size = none := I.hok.fresh (Nat.le_refl _)
      have new : ObjOk X.prog X.w (upd H s.heap.objs.size (.tup [xs[i], ys[i]])) h' s.heap.objs.size (.tup [xs[i], ys[i]]) :=
        ⟨by show 2 ≤ sizeLine; decide, [u, u2], .cons ru (.cons ru2 .nil), ⟨_, hP, rfl, _, rfl⟩⟩
      have I1 : Inv X pins σ (upd H s.heap.objs.size (.tup [xs[i], ys[i]])) { s with heap := h' } :=
        I.turnedNew (t' := s.toks) (ch := [z, TI, TO, i1, i2]) (fun c o hb q => hk' c o hb q) hf (Nat.le_refl _) new
      have qne : q ≠ s.heap.objs.size := Nat.ne_of_lt hql
      have hq1 : upd H s.heap.objs.size (.tup [xs[i], ys[i]]) q = some (.lst acc) := by rw [upd_ne qne]; exact hq'
      obtain ⟨zz, itq, kk, r2, hl2, eq⟩ := I1.lstM hq1
      refine wpAny_bind (wpAny_updateSeq eq rfl (wpAny_pure ⟨plainId_quiet PySem.F.plain_extend_loop _, ?_⟩) (by rw [List.size_toArray]; omega) (by show (itq.toArray.push _).size ≤ sizeLine + 1; rw [Array.size_push, List.size_toArray]; omega))
      have ex1 : Ex H (upd H s.heap.objs.size (.tup [xs[i], ys[i]])) := Ex.new hpn
      refine ih (i + 1) (acc ++ [.ref s.heap.objs.size]) _ _ (by omega) hlt (I1.lset (its' := itq ++ [.ref s.heap.objs.size]) (t' := s.toks) hq1 eq (by simp) (r2.append (.cons (show RelV (.ref s.heap.objs.size) (.ref s.heap.objs.size) from rfl) .nil)) (by rw [List.length_append, List.length_singleton]; omega)) ?_ h0 ?_ ?_ upd_same (by rw [List.length_append, hlen]; rfl) (fun j hj => ?_) (fun c hcm => ?_) ?_
      · intro c o e
        rw [upd_ne (fun z => by rw [z, h0] at e; cases e)]
        exact ex1 c o (ex c o e)
      · rcases ha with ha | ha
        · refine .inl ?_
          rcases ha with ha | ⟨o, ha⟩
          · exact .inl (by rw [upd_ne (fun z => by rw [z, hq'] at ha; cases ha)]; exact ex1 _ _ ha)
          · exact .inr ⟨o, by rw [upd_ne (fun z => by rw [z, hq'] at ha; cases ha)]; exact ex1 _ _ ha⟩
        · exact .inr ha
      · rcases hb with hb | hb
        · refine .inl ?_
          rcases hb with hb | ⟨o, hb⟩
          · exact .inl (by rw [upd_ne (fun z => by rw [z, hq'] at hb; cases hb)]; exact ex1 _ _ hb)
          · exact .inr ⟨o, by rw [upd_ne (fun z => by rw [z, hq'] at hb; cases hb)]; exact ex1 _ _ hb⟩
        · exact .inr hb
      · by_cases e : j < i
        · obtain ⟨p, x, y, e1, e2, e3, e4⟩ := hac j e
          refine ⟨p, x, y, ?_, e2, ?_, e4⟩
          · rw [List.getElem?_append_left (by omega)]; exact e1
          · rw [upd_ne (fun z => by rw [z, hq'] at e3; cases e3)]; exact ex1 _ _ e3
        · have ej : j = i := by omega
          subst ej
          refine ⟨s.heap.objs.size, xs[j], ys[j], ?_, ?_, ?_, List.getElem?_eq_getElem hlt, List.getElem?_eq_getElem hlt2⟩
          · rw [← hlen, List.getElem?_append_right (Nat.le_refl _), Nat.sub_self]; rfl
          · exact ex.free hpn
          · rw [upd_ne (Ne.symm qne), upd_same]
      · obtain ⟨f0, f⟩ := hf c hcm
        refine ⟨?_, f⟩
        have n1 : c ≠ q := fun e => hq (e ▸ hcm)
        rw [upd_ne n1, upd_ne (Nat.ne_of_lt (lts c hcm))]
        exact f0
      · exact ZSt.keep (h := h') ⟨hz2, hTI2, hTO2, h12, h22⟩ hq fun c o n e => (Heap.get?_update_other _ _ (Ne.symm n)).trans e
    have nin : ∀ c, c ∉ [z, TI, TO, i1, i2] → c ≠ z ∧ c ≠ TI ∧ c ≠ TO ∧ c ≠ i1 ∧ c ≠ i2 := fun c h => ⟨fun e => h (by simp [e]), fun e => h (by simp [e]), fun e => h (by simp [e]), fun e => h (by simp [e]), fun e => h (by simp [e])⟩
    refine wpAny_bind ?_
    rcases hz' with hz' | ⟨T, fl, x, y, hz', hT, nT⟩
    · refine RZ.pyNext_zipT_item D hz' hTI hTO h1 h2 p p2 (x := u) (y := u2) (by simpa using hu) (by simpa using hu2) fun h' z' TO' h1' h2' hP hsz hk' => ?_
      refine go h' hsz hP (.inr ⟨s.heap.objs.size, false, u, u2, z', hP, fun hm => ?_⟩) (hk' _ _ D.TIz D.TITO D.TIi1 D.TIi2 hTI) ⟨_, _, TO'⟩ h1' h2' fun c o hb e => hk' c o (nin c hb).1 (nin c hb).2.2.1 (nin c hb).2.2.2.1 (nin c hb).2.2.2.2 e
      have e' : s.heap.objs.size = q ∨ s.heap.objs.size ∈ [z, TI, TO, i1, i2] := by
        simp only [List.mem_cons, List.not_mem_nil, or_false] at hm ⊢
        rcases hm with e | e | e | e | e | e
        · exact .inr (.inl e)
        · exact .inr (.inr (.inl e))
        · exact .inr (.inr (.inr (.inl e)))
        · exact .inr (.inr (.inr (.inr (.inl e))))
        · exact .inr (.inr (.inr (.inr (.inr e))))
        · exact .inl e
      rcases e' with e | e
      · exact Nat.lt_irrefl _ (e ▸ hql)
      · exact Nat.lt_irrefl _ (lts _ e)
    · have nT5 : T ∉ [z, TI, TO, i1, i2] := fun hm => nT (by
        simp only [List.mem_cons, List.not_mem_nil, or_false] at hm ⊢
        rcases hm with e | e | e | e | e
        · exact .inl e
        · exact .inr (.inl e)
        · exact .inr (.inr (.inl e))
        · exact .inr (.inr (.inr (.inl e)))
        · exact .inr (.inr (.inr (.inr (.inl e)))))
      refine zipB_item D hz' hTI hT h1 h2 p p2 (x := u) (y := u2) (by simpa using hu) (by simpa using hu2) fun h' z' h1' h2' hP hsz hk' => ?_
      exact go h' hsz hP (.inr ⟨T, true, x, y, z', hk' _ _ (nin T nT5).1 (nin T nT5).2.2.2.1 (nin T nT5).2.2.2.2 hT, nT⟩) (hk' _ _ D.TIz D.TIi1 D.TIi2 hTI) ⟨_, _, hk' _ _ D.TOz D.TOi1 D.TOi2 hTO⟩ h1' h2' fun c o hb e => hk' c o (nin c hb).1 (nin c hb).2.2.2.1 (nin c hb).2.2.2.2 e
theorem Ex.sqT {K : PySem.W.Frag} {H H' : Hp} {a : Addr} {xs : List V} (e : Ex H H') (h : SqT K H a xs) : SqT K H' a xs := by
  rcases h with h | h
  · rcases h with h | ⟨o, h⟩
    · exact .inl (.inl (e _ _ h))
    · exact .inl (.inr ⟨o, e _ _ h⟩)
  · exact .inr h
/-- list(zip(a, b)) of two tuples of one length -/
def rZipL (K : PySem.W.Frag) : List V → Hp → VK → Prop := fun vs H Q => ∃ a b xs ys, vs = [.ref a, .ref b] ∧ SqT K H a xs ∧ SqT K H b ys ∧ xs.length = ys.length ∧ ∀ q acc H', H q = none → Ex H H' → H' q = some (.lst acc) → acc.length = xs.length →
  (∀ j : Nat, j < xs.length → ∃ p x y, acc[j]? = some (.ref p) ∧ H p = none ∧ H' p = some (.tup [x, y]) ∧ xs[j]? = some x ∧ ys[j]? = some y) → Q (.ref q) H'
def tZipL (K : PySem.W.Frag) (ta : TA) : TE := fun σ H Q => ta σ H fun vs H1 => rZipL K vs H1 Q
theorem F_zip_no_len : typeLookup (.type "zip") "__len__" = pure none := by rw [typeLookup_type, builtinLookup_eq_fast]; kernel_rfl
theorem F_zip_no_hint : typeLookup (.type "zip") "__length_hint__" = pure none := by rw [typeLookup_type, builtinLookup_eq_fast]; kernel_rfl
theorem pe_zipL {e1 e2 : Expr} {ta : TA} {pl pz p1 p2 : Pos} (hc : X.calm = true) (hg : Gl X "list") (hm : X.mg "list" = none) (hg2 : Gl X "zip") (hm2 : X.mg "zip" = none) (ha : PA X [e1, e2] ta)
    (hs : starEach [e1, e2] X.env = (false, eval e1 X.env) :: starEach [e2] X.env := by rfl) (hpl : (backTo p1 (starEach [e2] X.env)).any (·.1) = false := by rfl)
    (hs0 : starEach [(.Call (.Name "zip" pz) [e1, e2] [] p1 : Expr)] X.env = (false, eval (.Call (.Name "zip" pz) [e1, e2] [] p1) X.env) :: starEach [] X.env := by rfl) :
    PE X (.Call (.Name "list" pl) [.Call (.Name "zip" pz) [e1, e2] [] p1] [] p2) (tZipL X.K ta) := by
  refine ⟨fun pins s σ H Q I h => ?_⟩
  refine wpAny_Call_Name_kw (ld_blt I hg hm boot_list ?_ (by decide) (by decide))
  refine PyProof.Rows.callWith_type1 ?_ hs0 rfl
  rw [hs0]
  show wpAny _ _ (spliced ((false, eval (.Call (.Name "zip" pz) [e1, e2] [] p1) X.env) :: backTo p2 (starEach [] X.env))) _ _ s
  refine Calls.spliced_cons (Call_ (ld_blt I hg2 hm2 PyProof.Rows.boot_zip (PyProof.Rows.callWith_type1 (thn (ha.run p1 pins s σ H _ I h) fun us s1 ⟨vs, H1, I1, r1, q1⟩ => ?_) hs hpl)))
  obtain ⟨a, b, xs, ys, ex, hqx, hqy, hl, q⟩ := q1
  subst ex
  cases r1 with
  | cons r rr =>
    cases rr with
    | cons r' rr =>
      cases rr
      cases r
      cases r'
      obtain ⟨its, rv, q1, hz⟩ := I1.tuple hqx
      obtain ⟨its2, rv2, q2, _⟩ := I1.tuple hqy
      obtain ⟨o1, ho1, _⟩ := id q1
      obtain ⟨o2, ho2, _⟩ := id q2
      refine RZ.call_zipT (show s1.heap.IsTuple a its.toArray from q1) (show s1.heap.IsTuple b its2.toArray from q2) fun h' hZ hTI hTO h1 h2 hsz hk => ?_
      have D := PySem.W.ktu_apart s1.heap.objs.size a b (Heap.lt_size ho1) (Heap.lt_size ho2)
      have I2 : Inv X pins σ H1 { s1 with heap := h' } := I1.kept (t' := s1.toks) hk
      refine Calls.spliced_nil ?_
      have hTz : ∀ h2 : Heap, IsZip h2 (s1.heap.objs.size + 4) (s1.heap.objs.size + 2) (s1.heap.objs.size + 3) .none → ({ s1 with heap := h2 } : Shared).TypeIs (.ref (s1.heap.objs.size + 4)) "zip" := fun h2 e => ⟨_, e, rfl⟩
      refine callType_codes (Q₁ := fun obj s₁ => obj = .ref h'.objs.size ∧ s₁ = { s1 with heap := h'.push { cls := .type "list", data := .seq #[] } }) PySem.F.called_list (PySem.F.typeCall_list_1 _) PySem.F.entry_list_init
        (code_list_new (s := { s1 with heap := h' }) _ ⟨rfl, rfl⟩) fun obj s₁ e₁ => ?_
      obtain ⟨rfl, rfl⟩ := e₁
      have hS : (h'.push { cls := .type "list", data := .seq #[] }).get? h'.objs.size = some { cls := .type "list", data := .seq #[] } := Heap.get?_push_size _ rfl
      refine ⟨⟨_, hS, rfl⟩, PySem.F.args_list_init_2 _ _, ?_⟩
      have fr : H1 h'.objs.size = none := I2.hok.fresh (Nat.le_refl _)
      have I3 : Inv X pins σ (upd H1 h'.objs.size (.lst [])) { s1 with heap := h'.push { cls := .type "list", data := .seq #[] } } := I2.lnew (its := []) (t' := s1.toks) .nil (Nat.zero_le _)
      show wpAny _ _ (do let old ← Builtin.List.listItems (.ref h'.objs.size); Builtin.List.listUpdate (.ref h'.objs.size) (fun _ => #[]); letGo old.toList.reverse; Builtin.List.listExtendWith (.ref h'.objs.size) (.ref (s1.heap.objs.size + 4)) .none) _ _ _
      refine wpAny_bind ?_
      unfold Builtin.List.listItems
      refine wpAny_bind (wpAny_seqItems hS rfl (wpAny_pure ?_))
      show wpAny _ _ (updateSeq h'.objs.size (fun _ => #[]) >>= fun _ => letGo (#[] : Array Value).toList.reverse >>= fun _ => Builtin.List.listExtendWith (.ref h'.objs.size) (.ref (s1.heap.objs.size + 4)) .none) _ _ _
      refine wpAny_bind (wpAny_updateSeq hS rfl ?_)
      have I4 := I3.lset (f := fun _ => #[]) (its := []) (its' := []) (ys := []) (t' := s1.toks) upd_same hS rfl .nil (Nat.zero_le _)
      rw [upd_upd] at I4
      refine wpAny_bind (wpAny_letGo ?_)
      -- the zip's own objects stand as they did
      have nq : h'.objs.size ∉ [s1.heap.objs.size + 4, s1.heap.objs.size + 2, s1.heap.objs.size + 3, s1.heap.objs.size, s1.heap.objs.size + 1] := fun hm => by
        rw [hsz] at hm
        simp only [List.mem_cons, List.not_mem_nil, or_false] at hm
        rcases hm with e | e | e | e | e <;> exact absurd e (by show (_ : Nat) ≠ _; omega)
      have st0 : ZSt (s1.heap.objs.size + 4) (s1.heap.objs.size + 2) (s1.heap.objs.size + 3) s1.heap.objs.size (s1.heap.objs.size + 1) a b h'.objs.size 0 h' := ⟨.inl hZ, hTI, ⟨_, _, hTO⟩, h1, h2⟩
      have st1 : ZSt (s1.heap.objs.size + 4) (s1.heap.objs.size + 2) (s1.heap.objs.size + 3) s1.heap.objs.size (s1.heap.objs.size + 1) a b h'.objs.size 0 ((h'.push { cls := .type "list", data := .seq #[] }).update h'.objs.size (Obj.mapSeq fun _ => #[])) :=
        st0.keep nq fun c o n e => (Heap.get?_update_other _ _ (Ne.symm n)).trans (Heap.get?_push_of_some _ e)
      have zst : ∀ h2 : Heap, ZSt (s1.heap.objs.size + 4) (s1.heap.objs.size + 2) (s1.heap.objs.size + 3) s1.heap.objs.size (s1.heap.objs.size + 1) a b h'.objs.size 0 h2 → ({ s1 with heap := h2 } : Shared).TypeIs (.ref (s1.heap.objs.size + 4)) "zip" := fun h2 e => by
        rcases e.1 with e | ⟨T, fl, x, y, e, _⟩
        · exact ⟨_, e, rfl⟩
        · exact ⟨_, e, rfl⟩
      have fp : ∀ c ∈ [s1.heap.objs.size + 4, s1.heap.objs.size + 2, s1.heap.objs.size + 3, s1.heap.objs.size, s1.heap.objs.size + 1], FpOk X pins (upd H1 h'.objs.size (.lst [])) c := fun c hcm => by
        have e' : c = s1.heap.objs.size + 4 ∨ c = s1.heap.objs.size + 2 ∨ c = s1.heap.objs.size + 3 ∨ c = s1.heap.objs.size ∨ c = s1.heap.objs.size + 1 := by simpa using hcm
        have hle : s1.heap.objs.size ≤ c := by
          rcases e' with z | z | z | z | z
          · rw [z]; exact Nat.le_add_right _ _
          · rw [z]; exact Nat.le_add_right _ _
          · rw [z]; exact Nat.le_add_right _ _
          · rw [z]; exact Nat.le_refl _
          · rw [z]; exact Nat.le_add_right _ _
        refine I1.fpOk hle ?_
        have nc : c ≠ h'.objs.size := fun e => nq (by rw [← e]; exact hcm)
        rw [upd_ne nc]
        exact I1.hok.fresh hle
      unfold Builtin.List.listExtendWith
      refine wpAny_bind (wpAny_typeOf (zst _ st1) ?_)
      have hne : h'.objs.size ≠ s1.heap.objs.size + 4 := fun e => nq (by simp [e])
      have b1 : Builtin.List.listSameRef (.ref h'.objs.size) (.ref (s1.heap.objs.size + 4)) = false := by simp [Builtin.List.listSameRef, hne]
      have b2 : (Value.type "zip" == Value.type "list") = false := by decide
      have b3 : (Value.type "zip" == Value.type "tuple") = false := by decide
      simp only [b1, b2, b3, Bool.or_false, Bool.false_eq_true, if_false]
      have zi : IsZip ((h'.push { cls := .type "list", data := .seq #[] }).update h'.objs.size (Obj.mapSeq fun _ => #[])) (s1.heap.objs.size + 4) (s1.heap.objs.size + 2) (s1.heap.objs.size + 3) .none :=
        (Heap.get?_update_other _ _ hne).trans (Heap.get?_push_of_some _ hZ)
      refine wpAny_bind (wpAny_pyIter_zip zi ?_)
      refine wpAny_bind (wpAny_holding ?_)
      unfold Builtin.List.listLengthHint
      refine wpAny_bind (wpAny_specialOf (zst _ st1) F_zip_no_len ?_)
      show wpAny _ _ (specialOf (Value.ref (s1.heap.objs.size + 4)) (Str.ofString "__length_hint__") >>= _) _ _ _
      refine wpAny_bind (wpAny_specialOf (zst _ st1) F_zip_no_hint ?_)
      refine wpAny_pure ?_
      obtain ⟨z, ite, k, r3, hl3, e3⟩ := I4.lstM upd_same
      cases r3
      show wpAny _ _ (rule "list.extend.makes-room" >>= fun _ => Builtin.List.listTouch (.ref h'.objs.size) >>= fun _ =>
        again (.builtin "list.extend.loop" ⟨[.ref h'.objs.size, .ref (s1.heap.objs.size + 4), .none], []⟩)) _ _ _
      refine wpAny_bind (wpAny_rule ?_)
      refine wpAny_bind ?_
      show wpAny _ _ (updateSeq h'.objs.size (·.push .none) >>= fun _ => updateSeq h'.objs.size (·.pop)) _ _ _
      refine wpAny_bind (wpAny_updateSeq e3 rfl ?_)
      have I5 := I4.lset (f := (·.push Value.none)) (its' := [Value.none]) (ys := [.non]) (t' := s1.toks) upd_same e3 (by simp) (.cons rfl .nil) (by rw [List.length_singleton, sizeLine_eq]; decide)
      obtain ⟨z4, its4, k4, r4, hl4, e4⟩ := I5.lstM upd_same
      obtain ⟨u4, rfl, ru4⟩ := r4.one
      refine wpAny_updateSeq e4 rfl ?_ (by show 1 ≤ sizeLine; rw [sizeLine_eq]; decide) (by show 0 ≤ sizeLine + 1; exact Nat.zero_le _)
      have I6 := I5.lset (f := (·.pop)) (its := [u4]) (its' := []) (ys := []) (t' := s1.toks) upd_same e4 (by rfl) .nil (Nat.zero_le _)
      rw [upd_upd, upd_upd] at I6
      refine wpAny_pure ⟨plainId_quiet PySem.F.plain_extend_loop _, ?_⟩
      have ex0 : Ex H1 (upd H1 h'.objs.size (.lst [])) := Ex.new fr
      refine zl_loop (A1 := X.A.in1) (Rs := wants (fun r s₂ => r = .none ∧ EP X pins σ Q (.ref h'.objs.size) s₂) X.xe) hc (I.ok.hd hc) D nq hl hz (H0 := H1) (fun acc H' s' I' ex' hq' hlen hac => ⟨rfl, .ref h'.objs.size, H', I', rfl, q _ acc H' fr ex' hq' hlen hac⟩) xs.length 0 [] _ _ (Nat.sub_zero _) (Nat.zero_le _) I6 ex0 fr ?_ ?_ upd_same rfl (fun j hj => absurd hj (Nat.not_lt_zero j)) fp ?_
      · exact ex0.sqT hqx
      · exact ex0.sqT hqy
      · exact st1.keep nq fun c o n e => (Heap.get?_update_other _ _ (Ne.symm n)).trans ((Heap.get?_update_other _ _ (Ne.symm n)).trans e)
end
end Lg
/-! # Lg7: enumerate over a tuple; what is walked, by data -/
namespace Lg
open PySem PySem.Spec PyProof.Rows L2
theorem drawsT {prog : Program} {w : World} {A : Around} (hh : A.handled = none) (it l : Addr) (hne : l ≠ it) (items : Array Value) :
    Draws prog w A it [it, l] items.size (fun i v => items[i]? = some v) (fun i h => h.IsTupleIter it l i ∧ h.IsTuple l items) where
  live := fun _ _ st => by obtain ⟨⟨o, ho, _⟩, _⟩ := st; exact ⟨o, ho⟩
  frame := fun _ _ _ st hk => ⟨st.1.at fun o e => hk it (by simp) o e, by
    obtain ⟨o, ho, r⟩ := st.2
    exact ⟨o, hk l (by simp) _ ho, r⟩⟩
  item := fun i s Q E hi st hQ => by
    refine RZ.nextOf_tuple_item st.1 st.2 (x := items[i]) (by simp [hi]) fun h' hit' hs' => ?_
    exact hQ _ h' s.toks (by simp [hi]) ⟨hit', st.2.extBut hs'.extBut hne⟩ hs'
  done := fun s Q E st hE => RZ.nextOf_tuple_end hh st.1 st.2 (by simp) hE
section
open AutoSeq1 (wpAny_loadPart')
theorem enumNewT (l : Addr) (items : Array Value) (n : Nat) (dct : Option Addr) (sl : Array (Option Value)) :
    Meets (Builtin.«enumerate.__new__» ⟨[.type "enumerate", .ref l], []⟩) (fun _ R s => s.heap.get? l = some { cls := .type "tuple", dict := dct, data := .seq items n, slots := sl } ∧
      R (.ok (.ret (.ref (s.heap.push { cls := .type "tuple_iterator", data := .fields #[.ref l, .int 0 0] }).objs.size)))
        { s with heap := (s.heap.push { cls := .type "tuple_iterator", data := .fields #[.ref l, .int 0 0] }).push { cls := .type "enumerate", data := .fields #[.none, .bool false, .ref s.heap.objs.size, rawInt 0, .none, .none] } }) :=
  .of_wp fun prog w A R s h => by
    obtain ⟨hp, g, d, tk, os⟩ := s
    obtain ⟨hl, h⟩ := h
    have hsub := sub_enumerate
    have hL : Heap.IsTuple (Shared.heap ⟨hp, g, d, tk, os⟩) l items := ⟨_, hl, rfl, n, rfl⟩
    wp_walk using wpAny_loadPart' hl
    refine wpAny_stack_any fun st => wpAny_pure ?_
    split
    · rename_i c _ _ _ _ _
      cases (c == Value.type "enumerate") <;>
      · wp_walk using wpAny_loadPart' hl, wpAny_pyIter_tuple hL
        exact ⟨_, rfl, h⟩
    · wp_walk using wpAny_loadPart' hl, wpAny_pyIter_tuple hL
      exact ⟨_, rfl, h⟩
end
theorem call_enumT {prog : Program} {w : World} {A : Around} {E : Value → Shared → Prop} {s : Shared} {l : Addr} {items : Array Value} {Q : Value → Shared → Prop} (hL : s.heap.IsTuple l items)
    (h : ∀ h', IsEnum h' (s.heap.objs.size + 1) s.heap.objs.size 0 .none → h'.IsTupleIter s.heap.objs.size l 0 → h'.objs.size = s.heap.objs.size + 2 →
      (∀ b o, s.heap.get? b = some o → h'.get? b = some o) → Q (.ref (s.heap.objs.size + 1)) { s with heap := h' }) :
    wpAny (model prog w) A (call (.type "enumerate") [.ref l]) Q E s := by
  obtain ⟨⟨c, dct, dt, sl⟩, hl, hc, n, hd⟩ := hL
  replace hc : c = .type "tuple" := hc
  replace hd : dt = .seq items n := hd
  subst hc hd
  have nw := enumNewT l items n dct sl
  refine callType_new F.called_enumerate (by decide) (F.typeCall_enumerate_1 _) (F.newCall_enumerate_1 _) (fun obj => F.args_object_init_2 obj _) F.entry_enumerate_new nw ⟨hl, ?_⟩
  have z1 : (s.heap.push { cls := .type "tuple_iterator", data := .fields #[.ref l, .int 0 0] }).objs.size = s.heap.objs.size + 1 := Heap.size_push ..
  show _ ∧ _
  rw [z1]
  have g := Heap.get?_push_size (s.heap.push { cls := .type "tuple_iterator", data := .fields #[.ref l, .int 0 0] }) (o := { cls := .type "enumerate", data := .fields #[.none, .bool false, .ref s.heap.objs.size, rawInt 0, .none, .none] }) rfl
  rw [z1] at g
  exact ⟨⟨_, g, rfl⟩, h _ g ⟨_, Heap.get?_push_of_some _ (Heap.get?_push_size _ rfl), rfl, rfl⟩ (by rw [Heap.size_push, z1]) fun b o x => Heap.get?_push_of_some _ (Heap.get?_push_of_some _ x)⟩
/-- the tuple at a, each item in a new pair with its place -/
def IteT (K : PySem.W.Frag) (a : Addr) : It :=
  ⟨fun i H => ∃ (xs : List V) (x : V), SqT K H a xs ∧ xs[i]? = some x, fun i H v H' => ∃ T x, v = .ref T ∧ H T = none ∧ H' = upd H T (.tup [.int (i : Nat), x]) ∧ ∀ xs, SqT K H a xs → xs[i]? = some x, fun i H => ∃ xs : List V, SqT K H a xs ∧ xs.length ≤ i⟩
theorem turn_enumT {P : Program} {w : World} {K : PySem.W.Frag} {elts : List Expr} {kk : Nat} {tpos : Pos} (a e it : Addr) (hae : a ≠ e) (hai : a ≠ it) :
    Turn P w K (.Tuple elts kk tpos) (IteT K a) [e, it] e (fun i h => (∃ old, IsEnum h e it ((i : Nat) : Int) old) ∧ h.IsTupleIter it a i ∧ e ≠ it) where
  mem := by simp
  obj := fun i h st b hb => by
    obtain ⟨⟨old, he⟩, ⟨o, ho, hc, hd⟩, _⟩ := st
    have e' : b = e ∨ b = it := by simpa using hb
    rcases e' with z | z
    · rw [z]; exact ⟨_, he, fun v q => nomatch q⟩
    · rw [z]; exact ⟨o, ho, fun v q => by rw [hd] at q; cases q⟩
  keep := fun i h h' st k => by
    obtain ⟨⟨old, he⟩, hi, hne⟩ := st
    exact ⟨⟨old, k e (by simp) _ he⟩, hi.at fun o q => k it (by simp) o q, hne⟩
  item := by
    intro X hP hw hK hc i pins s σ H E I hf st hg
    subst hP hw hK
    obtain ⟨⟨old, he⟩, hit, hne⟩ := st
    obtain ⟨xs, x, hq, hx⟩ := hg
    obtain ⟨its, rv, p, hz⟩ := I.tuple hq
    obtain ⟨u, hu, ru⟩ := rv.get hx
    have hel : e < s.heap.objs.size := Heap.lt_size he
    have hil : it < s.heap.objs.size := by obtain ⟨_, q, _⟩ := hit; exact Heap.lt_size q
    have pt : s.heap.IsTuple a its.toArray := p
    have hlt : i < its.toArray.size := by
      rw [List.size_toArray]
      exact (List.getElem?_eq_some_iff.mp hu).1
    refine wpAny_pyNext_enum_itemD (drawsT (A := X.A.in1) (I.ok.hd hc) it a hai its.toArray) he ⟨hit, pt⟩ hlt hne (fun hm => ?_) fun x' h' tk hP ho hst hT hsz hk => ?_
    · rcases List.mem_cons.mp hm with z | z
      · exact hne z
      · exact hae (List.mem_singleton.mp z).symm
    have ex : x' = u := by
      have e1 : its[i]? = some x' := by simpa using hP
      rw [hu] at e1
      exact (Option.some.inj e1).symm
    subst ex
    refine ⟨_, rfl, wpAny_letOwnedTupleGo_enum (s := { s with heap := h', toks := tk + 1 }) ho fun h'' he' sb => ?_⟩
    have hT2 : h''.get? s.heap.objs.size = some { cls := .type "tuple", data := .seq #[.int i tk, x'] } := (sb.2 _ (Nat.ne_of_gt hel)).trans hT
    have new : ObjOk X.prog X.w (upd H s.heap.objs.size (.tup [.int (i : Nat), x])) h'' s.heap.objs.size (.tup [.int (i : Nat), x]) :=
      ⟨by show 2 ≤ sizeLine; decide, [.int i tk, x'], .cons ⟨_, rfl⟩ (.cons ru .nil), ⟨_, hT2, rfl, _, rfl⟩⟩
    have I1 : Inv X pins σ (upd H s.heap.objs.size (.tup [.int (i : Nat), x])) { s with heap := h'', toks := tk + 1 } :=
      I.turnedNew (ch := [e, it]) (fun b ob hb q => (sb.2 b (fun z => hb (by simp [z]))).trans (hk b ob (fun z => hb (by simp [z])) (fun z => hb (by simp [z])) q)) hf (Nat.le_refl _) new
    refine ⟨.ref s.heap.objs.size, _, I1, rfl, ⟨_, x, rfl, I.hok.fresh (Nat.le_refl _), rfl, fun ys hy => by rw [I.tuple_inj hy hq]; exact hx⟩, ⟨⟨x', ?_⟩, hst.1.at fun o q => (sb.2 it (Ne.symm hne)).trans q, hne⟩, fun b hb => ?_⟩
    · have e1 : ((i + 1 : Nat) : Int) = (i : Int) + 1 := by omega
      rw [e1]; exact he'
    · have hb' : b < s.heap.objs.size := by
        have e' : b = e ∨ b = it := by simpa using hb
        rcases e' with z | z
        · rw [z]; exact hel
        · rw [z]; exact hil
      rw [upd_ne (Nat.ne_of_lt hb')]
      exact (hf b hb).1
  done := by
    intro X hP hw hK hc i pins s σ H E I hf st hg
    subst hP hw hK
    obtain ⟨⟨old, he⟩, hit, hne⟩ := st
    obtain ⟨xs, hq, hx⟩ := hg
    obtain ⟨its, rv, p, hz⟩ := I.tuple hq
    obtain ⟨f0, f1, f2, f3, f4, f5⟩ := hf it (by simp)
    have hl := rv.length
    unfold pyNext
    have ty : s.TypeIs (.ref e) "enumerate" := ⟨_, he, rfl⟩
    refine wpAny_bind (wpAny_attempt (wpAny_callSpecial?_slot (name := Str.ofString "__next__") ty F.slot_enumerate_next
      (wpAny_call_entry F.slot_enumerate_next ty F.entry_enumerate_next ?_ (F.args_enumerate_next_1 _))))
    show wpAny _ _ (field (.ref e) 2 >>= _) _ _ _
    refine wpAny_bind (wpAny_field he rfl (x := .ref it) rfl ?_)
    refine wpAny_bind (RZ.nextOf_tuple_end (I.ok.hd hc) hit (show s.heap.IsTuple a its.toArray from p) (by simp; omega) fun h' x he' hx' => ?_)
    obtain ⟨o, ho, hcl⟩ := hx'
    refine wpAny_bind (wpAny_isInstance (T := "StopIteration") (b := true) ⟨o, ho, hcl⟩ isSubtype_stop ?_)
    exact wpAny_pure ⟨rfl, I.turned (t' := s.toks) (fun b o hb q => he' b o hb q) f0 f1 f3 f4 f5⟩
  self := fun A i s Q E st h => by
    obtain ⟨⟨_, he⟩, _⟩ := st
    exact wpAny_pyIter_enum he h
end Lg
/-! # Lg8: what is walked, parts of slices, methods of own lists -/
namespace Lg
open PySem PySem.Spec PyProof.Rows L2
/-! ### what is walked -/
def iU (K : PySem.W.Frag) (te : TE) : TI := fun σ H R => te σ H fun x H1 => (∃ a xs, x = .ref a ∧ SqL K H1 a xs ∧ R (Itl K a) H1) ∨ (∃ a xs, x = .ref a ∧ SqT K H1 a xs ∧ R (Itt K a) H1) ∨ ∃ z, x = .str z ∧ R (Its z) H1
def iEnU (K : PySem.W.Frag) (ta : TA) : TI := fun σ H R => ta σ H fun vs H1 => (∃ a xs, vs = [.ref a] ∧ SqL K H1 a xs ∧ R (Ite K a) H1) ∨ ∃ a xs, vs = [.ref a] ∧ SqT K H1 a xs ∧ R (IteT K a) H1
section
variable {X : Cx} {tg e : Expr} {te : TE} {ta : TA}
theorem pi_u (he : PE X e te) : PI X tg e (iU X.K te) := by
  refine ⟨fun pins s σ H R I h => ?_⟩
  refine thn (he.run pins s σ H _ I h) fun v s1 ⟨x, H1, I1, r1, q1⟩ => ?_
  have one : ∀ b, b ∈ [s1.heap.objs.size] → FpOk X pins H1 b := fun b hb => by
    have e : b = s1.heap.objs.size := by simpa using hb
    subst e
    exact I1.fpOk (Nat.le_refl _) (I1.hok.fresh (Nat.le_refl _))
  rcases q1 with ⟨a, xs, rfl, hq, q⟩ | ⟨a, xs, rfl, hq, q⟩ | ⟨z, rfl, q⟩
  · cases r1
    obtain ⟨its, rv, p, hz⟩ := I1.list hq
    refine wpAny_pyIter_list p.isList ?_
    exact ⟨s1.heap.objs.size, [s1.heap.objs.size], _, _, H1, rfl, I1.kept (t' := s1.toks) fun b o e => Heap.get?_push_of_some _ e, turn_list a _, ⟨_, Heap.get?_push_size _ rfl, rfl, rfl⟩, one, q⟩
  · cases r1
    obtain ⟨its, rv, p, hz⟩ := I1.tuple hq
    refine wpAny_pyIter_tuple (show s1.heap.IsTuple a its.toArray from p) ?_
    exact ⟨s1.heap.objs.size, [s1.heap.objs.size], _, _, H1, rfl, I1.kept (t' := s1.toks) fun b o e => Heap.get?_push_of_some _ e, turn_tuple a _, ⟨_, Heap.get?_push_size _ rfl, rfl, rfl⟩, one, q⟩
  · obtain ⟨t, rfl⟩ := r1
    by_cases ha : z.cps.all (· < 128) = true
    · exact wpAny_pyIter_ascii ha (pi_one (tk := s1.toks) I1 _ (turn_str _ z t "str_ascii_iterator" (.inl rfl)) ⟨_, Heap.get?_push_size _ rfl, rfl, rfl⟩ q)
    · exact wpAny_pyIter_wide (by simpa using ha) (pi_one (tk := s1.toks) I1 _ (turn_str _ z t "str_iterator" (.inr rfl)) ⟨_, Heap.get?_push_size _ rfl, rfl, rfl⟩ q)
theorem pi_enU {p pos tpos : Pos} {elts : List Expr} {kk : Nat} (hg : Gl X "enumerate") (hm : X.mg "enumerate" = none) (ha : PA X [e] ta) (hs : starEach [e] X.env = [(false, eval e X.env)] := by rfl) :
    PI X (.Tuple elts kk tpos) (.Call (.Name "enumerate" p) [e] [] pos) (iEnU X.K ta) := by
  refine ⟨fun pins s σ H R I h => ?_⟩
  refine Call_ (ld_blt I hg hm boot_enumerate (PyProof.Rows.callWith_type1 (thn (ha.run pos pins s σ H _ I h) fun us s1 ⟨vs, H1, I1, r1, q1⟩ => ?_) hs rfl))
  have two : ∀ b, b ∈ [s1.heap.objs.size + 1, s1.heap.objs.size] → FpOk X pins H1 b := fun b hb => by
    have e' : b = s1.heap.objs.size + 1 ∨ b = s1.heap.objs.size := by simpa using hb
    have hle : s1.heap.objs.size ≤ b := by
      rcases e' with z | z
      · rw [z]; exact Nat.le_add_right _ _
      · rw [z]; exact Nat.le_refl _
    exact I1.fpOk hle (I1.hok.fresh hle)
  rcases q1 with ⟨a, xs, rfl, hq, q⟩ | ⟨a, xs, rfl, hq, q⟩
  · obtain ⟨u, rfl, r⟩ := vals1 r1
    cases r
    obtain ⟨its, rv, p', hz⟩ := I1.list hq
    refine call_enumerate_list p'.isList fun h' he hit hsz hk => wpAny_pyIter_enum he ?_
    have I2 : Inv X pins σ H1 { s1 with heap := h' } := I1.kept (t' := s1.toks) hk
    exact ⟨s1.heap.objs.size + 1, [s1.heap.objs.size + 1, s1.heap.objs.size], _, _, H1, rfl, I2, turn_enum a (s1.heap.objs.size + 1) s1.heap.objs.size, ⟨⟨.none, he⟩, hit, Nat.succ_ne_self _⟩, two, q⟩
  · obtain ⟨u, rfl, r⟩ := vals1 r1
    cases r
    obtain ⟨its, rv, p', hz⟩ := I1.tuple hq
    obtain ⟨o1, ho1, _⟩ := id p'
    have al := Heap.lt_size ho1
    refine call_enumT (show s1.heap.IsTuple a its.toArray from p') fun h' he hit hsz hk => wpAny_pyIter_enum he ?_
    have I2 : Inv X pins σ H1 { s1 with heap := h' } := I1.kept (t' := s1.toks) hk
    refine ⟨s1.heap.objs.size + 1, [s1.heap.objs.size + 1, s1.heap.objs.size], _, _, H1, rfl, I2, turn_enumT a (s1.heap.objs.size + 1) s1.heap.objs.size ?_ ?_, ⟨⟨.none, he⟩, hit, Nat.succ_ne_self _⟩, two, q⟩
    · exact Nat.ne_of_lt (Nat.lt_succ_of_lt al)
    · exact Nat.ne_of_lt al
end
/-- the items of what is walked -/
def Walk : D → List D → Prop
  | .lst xs, ds => ds = xs
  | .tup xs, ds => ds = xs
  | .str s, ds => ds = s.cps.toList.map fun c => D.str ⟨#[c]⟩
  | _, _ => False
section
variable {K : PySem.W.Frag} {te : TE} {ta : TA} {δ : List SD} {W : List Res} {Φ : List D → List SD → List Res → Prop}
theorem jok_l {a : Addr} {vs : List V} {ds : List D} {Y X : List Addr} {H : Hp} (h : LsX K X H a vs) (r : Rps K X H vs ds) : JOk K (Itl K a) ds Y X H := fun X1 H1 st lv i => by
  have h1 := h.mono st.toKp
  have r1 := r.mono st.toKp
  have hl := r1.length
  have sq := h1.sq
  refine ⟨fun hi => ⟨vs, vs[i], sq, List.getElem?_eq_getElem (by omega)⟩, fun hi => ⟨vs, sq, by omega⟩, fun x H2 d e y => ?_⟩
  obtain ⟨rfl, y⟩ := y
  obtain ⟨v, e1, e2⟩ := r1.get e
  have e3 := y vs sq
  rw [e1] at e3
  cases e3
  exact ⟨Same.refl _, e2⟩
theorem jok_t {a : Addr} {vs : List V} {ds : List D} {Y X : List Addr} {H : Hp} (h : TpX K X H a vs) (r : Rps K X H vs ds) : JOk K (Itt K a) ds Y X H := fun X1 H1 st lv i => by
  have h1 := h.mono st.toKp
  have r1 := r.mono st.toKp
  have hl := r1.length
  have sq := h1.sq
  refine ⟨fun hi => ⟨vs, vs[i], sq, List.getElem?_eq_getElem (by omega)⟩, fun hi => ⟨vs, sq, by omega⟩, fun x H2 d e y => ?_⟩
  obtain ⟨rfl, y⟩ := y
  obtain ⟨v, e1, e2⟩ := r1.get e
  have e3 := y vs sq
  rw [e1] at e3
  cases e3
  exact ⟨Same.refl _, e2⟩
theorem jok_s {s : Str} {Y X : List Addr} {H : Hp} : JOk K (Its s) (s.cps.toList.map fun c => D.str ⟨#[c]⟩) Y X H := fun X1 H1 st lv i => by
  have hl : (s.cps.toList.map fun c => D.str ⟨#[c]⟩).length = s.cps.size := by simp
  refine ⟨fun hi => ?_, fun hi => ?_, fun x H2 d e y => ?_⟩
  · show i < s.cps.size
    omega
  · show s.cps.size ≤ i
    omega
  · obtain ⟨rfl, c, hc, rfl⟩ := y
    rw [List.getElem?_map] at e
    have e1 : s.cps.toList[i]? = some c := by simpa using hc
    rw [e1] at e
    cases e
    exact ⟨Same.refl _, .str _⟩
theorem it_u (h : EvP K te δ W fun r δ1 W1 => ∃ d ds, r.val = some d ∧ Walk d ds ∧ Φ ds δ1 W1) : ItP K (iU K te) δ W Φ := fun Y σ H O as R hR => by
  refine h Y σ H O as _ fun x H1 r δ1 W1 O1 ps nx op φ => ?_
  obtain ⟨d, ds, ev, hw, p⟩ := φ
  have rp := op.kept nx.as ev
  have nx := nx.drop
  cases rp <;> first | exact hw.elim | skip
  · have e : _ = _ := hw
    subst e
    exact .inr (.inr ⟨_, rfl, hR _ H1 _ δ1 W1 O1 [] nx jok_s p⟩)
  · rename_i a vs es h1 h2
    have e : ds = es := hw
    subst e
    exact .inr (.inl ⟨a, vs, rfl, h1.sq, hR _ H1 _ δ1 W1 O1 [] nx (jok_t h1 h2) p⟩)
  · rename_i a vs es h1 h2
    have e : ds = es := hw
    subst e
    exact .inl ⟨a, vs, rfl, h1.sq, hR _ H1 _ δ1 W1 O1 [] nx (jok_l h1 h2) p⟩
def enumD (ds : List D) : List D := (List.range ds.length).map fun i => D.tup [.int (i : Nat), ds.getD i .non]
theorem pair_rp {X : List Addr} {H : Hp} {T : Addr} {x y : V} {d e : D} (lv : ∀ a ∈ X, H a ≠ none) (hT : H T = none) (hd : Rp K X H x d) (he : Rp K X H y e) : Ex H (upd H T (.tup [x, y])) ∧ Rp K X (upd H T (.tup [x, y])) (.ref T) (.tup [d, e]) :=
  ⟨Ex.new hT, .tup (.inl ⟨fun z => lv T z hT, .inl upd_same⟩) (.cons (hd.mono (Ex.new hT).kp0) (.cons (he.mono (Ex.new hT).kp0) .nil))⟩
theorem getD_at {ds : List D} {i : Nat} (h : i < ds.length) : ds[i]? = some (ds.getD i .non) := by
  rw [List.getElem?_eq_getElem h, List.getD_eq_getElem?_getD, List.getElem?_eq_getElem h]
  rfl
theorem enumD_at {ds : List D} {i : Nat} {d : D} (e : (enumD ds)[i]? = some d) : i < ds.length ∧ d = .tup [.int (i : Nat), ds.getD i .non] := by
  unfold enumD at e
  rw [List.getElem?_map] at e
  by_cases h : i < ds.length
  · rw [List.getElem?_range h] at e
    cases e
    exact ⟨h, rfl⟩
  · rw [List.getElem?_eq_none (by simp; omega)] at e
    cases e
theorem enumD_len (ds : List D) : (enumD ds).length = ds.length := by simp [enumD]
theorem jok_el {a : Addr} {vs : List V} {ds : List D} {Y X : List Addr} {H : Hp} (h : LsX K X H a vs) (r : Rps K X H vs ds) : JOk K (Ite K a) (enumD ds) Y X H := fun X1 H1 st lv i => by
  have h1 := h.mono st.toKp
  have r1 := r.mono st.toKp
  have hl := r1.length
  have sq := h1.sq
  rw [enumD_len]
  refine ⟨fun hi => ⟨vs, vs[i], sq, List.getElem?_eq_getElem (by omega)⟩, fun hi => ⟨vs, sq, by omega⟩, fun x H2 d e y => ?_⟩
  obtain ⟨T, v, rfl, hT, rfl, y⟩ := y
  obtain ⟨hi, rfl⟩ := enumD_at e
  obtain ⟨w, e1, e2⟩ := r1.get (getD_at hi)
  have e3 := y vs sq
  rw [e1] at e3
  cases e3
  exact pair_rp lv hT (.int _) e2
theorem jok_et {a : Addr} {vs : List V} {ds : List D} {Y X : List Addr} {H : Hp} (h : TpX K X H a vs) (r : Rps K X H vs ds) : JOk K (IteT K a) (enumD ds) Y X H := fun X1 H1 st lv i => by
  have h1 := h.mono st.toKp
  have r1 := r.mono st.toKp
  have hl := r1.length
  have sq := h1.sq
  rw [enumD_len]
  refine ⟨fun hi => ⟨vs, vs[i], sq, List.getElem?_eq_getElem (by omega)⟩, fun hi => ⟨vs, sq, by omega⟩, fun x H2 d e y => ?_⟩
  obtain ⟨T, v, rfl, hT, rfl, y⟩ := y
  obtain ⟨hi, rfl⟩ := enumD_at e
  obtain ⟨w, e1, e2⟩ := r1.get (getD_at hi)
  have e3 := y vs sq
  rw [e1] at e3
  cases e3
  exact pair_rp lv hT (.int _) e2
theorem it_en (h : EaP K ta δ W fun rs δ1 W1 => ∃ d ds, vals rs = some [d] ∧ (d = .lst ds ∨ d = .tup ds) ∧ Φ (enumD ds) δ1 W1) : ItP K (iEnU K ta) δ W Φ := fun Y σ H O as R hR => by
  refine h Y σ H O as _ fun xs H1 rs δ1 W1 O1 ps nx op φ => ?_
  obtain ⟨d, ds, ev, hw, p⟩ := φ
  have rps := op.kept nx.as (fun _ z => z) ev
  have nx := nx.drop
  cases rps with
  | cons rp rt =>
    cases rt
    rcases hw with rfl | rfl
    · cases rp with
      | lst h1 h2 => exact .inl ⟨_, _, rfl, h1.sq, hR _ H1 _ δ1 W1 O1 [] nx (jok_el h1 h2) p⟩
    · cases rp with
      | tup h1 h2 => exact .inr ⟨_, _, rfl, h1.sq, hR _ H1 _ δ1 W1 O1 [] nx (jok_et h1 h2) p⟩
/-- lo, lo + 1, .. -/
def rngD (lo : Int) (n : Nat) : List D := (List.range n).map fun i => D.int (lo + (i : Nat))
theorem rngD_len (lo : Int) (n : Nat) : (rngD lo n).length = n := by simp [rngD]
theorem rngD_at {lo : Int} {n i : Nat} {d : D} (e : (rngD lo n)[i]? = some d) : i < n ∧ d = .int (lo + (i : Nat)) := by
  unfold rngD at e
  rw [List.getElem?_map] at e
  by_cases h : i < n
  · rw [List.getElem?_range h] at e
    cases e
    exact ⟨h, rfl⟩
  · rw [List.getElem?_eq_none (by simp; omega)] at e
    cases e
theorem jok_r {lo : Int} {n : Nat} {Y X : List Addr} {H : Hp} : JOk K (Itr lo n) (rngD lo n) Y X H := fun X1 H1 st lv i => by
  rw [rngD_len]
  refine ⟨fun hi => hi, fun hi => hi, fun x H2 d e y => ?_⟩
  obtain ⟨rfl, rfl⟩ := y
  obtain ⟨_, rfl⟩ := rngD_at e
  exact ⟨Same.refl _, .int _⟩
theorem it_r1 (h : EaP K ta δ W fun rs δ1 W1 => ∃ n : Int, resL δ1 rs = some [.int n] ∧ (-(2 ^ 62) ≤ n ∧ n < 2 ^ 62) ∧ Φ (rngD 0 n.toNat) δ1 W1) : ItP K (iRng1 ta) δ W Φ := fun Y σ H O as R hR => by
  refine h Y σ H O as _ fun xs H1 rs δ1 W1 O1 ps nx op φ => ?_
  obtain ⟨n, ev, hn, p⟩ := φ
  obtain ⟨v, rfl, rb⟩ := (op.rbs nx.as ev).one
  exact ⟨n, by rw [rb.int], hn.1, hn.2, hR _ H1 _ δ1 W1 O1 ps nx jok_r p⟩
theorem it_r2 (h : EaP K ta δ W fun rs δ1 W1 => ∃ m n : Int, resL δ1 rs = some [.int m, .int n] ∧ (-(2 ^ 62) ≤ m ∧ m < 2 ^ 62 ∧ -(2 ^ 62) ≤ n ∧ n < 2 ^ 62) ∧ Φ (rngD m (n - m).toNat) δ1 W1) : ItP K (iRng2 ta) δ W Φ := fun Y σ H O as R hR => by
  refine h Y σ H O as _ fun xs H1 rs δ1 W1 O1 ps nx op φ => ?_
  obtain ⟨m, n, ev, hn, p⟩ := φ
  obtain ⟨v, u, rfl, rb, rb2⟩ := (op.rbs nx.as ev).two
  exact ⟨m, n, by rw [rb.int, rb2.int], hn, hR _ H1 _ δ1 W1 O1 ps nx jok_r p⟩
/-- a, a + c, .. -/
def rngC (lo c : Int) (n : Nat) : List D := (List.range n).map fun i => D.int (lo + (i : Nat) * c)
theorem rngC_len (lo c : Int) (n : Nat) : (rngC lo c n).length = n := by simp [rngC]
theorem rngC_at {lo c : Int} {n i : Nat} {d : D} (e : (rngC lo c n)[i]? = some d) : i < n ∧ d = .int (lo + (i : Nat) * c) := by
  unfold rngC at e
  rw [List.getElem?_map] at e
  by_cases h : i < n
  · rw [List.getElem?_range h] at e
    cases e
    exact ⟨h, rfl⟩
  · rw [List.getElem?_eq_none (by simp; omega)] at e
    cases e
theorem jok_c {lo c : Int} {n : Nat} {Y X : List Addr} {H : Hp} : JOk K (Itc lo c n) (rngC lo c n) Y X H := fun X1 H1 st lv i => by
  rw [rngC_len]
  refine ⟨fun hi => hi, fun hi => hi, fun x H2 d e y => ?_⟩
  obtain ⟨rfl, rfl⟩ := y
  obtain ⟨_, rfl⟩ := rngC_at e
  exact ⟨Same.refl _, .int _⟩
theorem Rbs.three {X : List Addr} {H : Hp} {xs : List V} {d e f : D} (h : Rbs K X H xs [d, e, f]) : ∃ v u t, xs = [v, u, t] ∧ Rb K X H v d ∧ Rb K X H u e ∧ Rb K X H t f := by
  cases h with
  | cons h1 h2 =>
    cases h2 with
    | cons h2 h3 =>
      cases h3 with
      | cons h3 h4 => cases h4; exact ⟨_, _, _, rfl, h1, h2, h3⟩
theorem it_r3 (h : EaP K ta δ W fun rs δ1 W1 => ∃ (i j c : Int) (n : Nat), resL δ1 rs = some [.int i, .int j, .int c] ∧ RgC i j c n ∧ Φ (rngC i c n) δ1 W1) : ItP K (iRng3 ta) δ W Φ := fun Y σ H O as R hR => by
  refine h Y σ H O as _ fun xs H1 rs δ1 W1 O1 ps nx op φ => ?_
  obtain ⟨i, j, c, n, ev, hn, p⟩ := φ
  obtain ⟨v, u, t, rfl, rb, rb2, rb3⟩ := (op.rbs nx.as ev).three
  exact ⟨i, j, c, n, by rw [rb.int, rb2.int, rb3.int], hn, hR _ H1 _ δ1 W1 O1 ps nx jok_c p⟩
end
end Lg
/-! # Lg9: products, slices, methods, calls with keywords, isinstance -/
namespace Lg
open PySem PySem.Spec PyProof.Rows L2
section
variable {X : Cx} (K : PySem.W.Frag) (hK : X.K = K)
include hK
theorem uMul : OpR X (binaryOp .Mult) (rB K MulR) := by
  subst hK
  intro pins s σ H x y v u Q I rx ry h
  obtain ⟨Z, d, e, r, lv, hd, he, hR, q⟩ := h
  cases d <;> cases e <;> first | exact hR.elim | skip
  · rw [hd.int] at rx
    rw [he.int] at ry
    obtain ⟨hc, e1⟩ := hR
    subst e1
    obtain ⟨t, rfl⟩ := rx
    obtain ⟨t', rfl⟩ := ry
    exact mul_int ⟨.int _, H, I.tok _, ⟨_, rfl⟩, q _ H (Same.refl H) (.v (.int _))⟩ hc
  · rename_i ds k
    rw [he.int] at ry
    obtain ⟨a, vs, rfl, h1, h2, _⟩ := hd.tup
    obtain ⟨⟨hne, hk2, hm⟩, e1⟩ := hR
    subst e1
    cases rx
    obtain ⟨t, rfl⟩ := ry
    obtain ⟨its, r, ⟨⟨cls, dd, data, sl⟩, ho, hc, n, hd⟩, hs⟩ := I.tuple h1
    simp only at hc hd
    subst hc hd
    have hle : its.length = ds.length := by rw [← h2.length]; exact r.length.symm
    have hn : its ≠ [] := fun e => hne (by
      rw [e] at hle
      exact List.eq_nil_of_length_eq_zero hle.symm)
    have hi : its.toArray.isEmpty = false := by
      cases its with
      | nil => exact absurd rfl hn
      | cons a b => rfl
    have hm1 : ((its.toArray.size : Nat) : Int) * k ≤ 1000000 := by rw [List.size_toArray, hle]; exact hm
    have hkn : ((k.toNat : Nat) : Int) = k := by omega
    have hm2 : its.length * k.toNat ≤ 1000000 := by
      have e2 : ((its.length * k.toNat : Nat) : Int) = ((its.toArray.size : Nat) : Int) * k := by rw [Int.natCast_mul, hkn, List.size_toArray]
      omega
    have flen : (List.replicate k.toNat its).flatten.length ≤ sizeLine := by
      rw [rep_len, Nat.mul_comm, sizeLine_eq]
      omega
    have flen2 : (List.replicate k.toNat vs).flatten.length ≤ sizeLine := by
      rw [rep_len, h2.length, ← hle, Nat.mul_comm, sizeLine_eq]
      omega
    have len1 : 1 ≤ its.length := by
      cases its with
      | nil => exact absurd rfl hn
      | cons a b => simp
    have hk3 : k.toNat ≤ 1000000 := Nat.le_trans (Nat.le_mul_of_pos_left _ len1) hm2
    have c0 : (decide (k < -(2 ^ 63)) || decide (k ≥ 2 ^ 63)) = false := by
      rw [decide_eq_false (by omega), decide_eq_false (by omega)]
      rfl
    have c1 : (its.toArray.isEmpty || k == 1) = false := by
      rw [hi, Bool.false_or]
      exact beq_eq_false_iff_ne.mpr (by omega)
    have c2 : (decide (k ≤ 0) || its.toArray.isEmpty) = false := by
      rw [hi, Bool.or_false]
      exact decide_eq_false (by omega)
    have c4 : Builtin.Tuple.tupleTooMany (((its.toArray.size : Nat) : Int) * k) = false := by
      unfold Builtin.Tuple.tupleTooMany
      rw [sizeLine_eq]
      exact decide_eq_false (by omega)
    have hsz3 : (List.foldl (fun x1 x2 => x1 ++ x2) #[] (List.replicate k.toNat its.toArray)).size ≤ sizeLine := by rw [size_rep, List.size_toArray]; exact flen
    refine wpAny_binaryOp_repeat_ref (T := "tuple") (U := "int") (by decide) ⟨_, ho, rfl⟩ (fun s' => typeIs_int s' k t) noFill_tuple_mul F.fills_int_mul F.slot_int_rmul repeat_tuple F.slot_int_index.lookup
      (call_meets F.slot_int_rmul (typeIs_int s k t) F.entry_int_rmul (F.args_int_rmul_2 _ _) (int_rmul_tuple k t a its.toArray n dd sl)
        ⟨ho, rfl, ⟨_, ho, rfl⟩, call_meets F.slot_tuple_mul ⟨_, ho, rfl⟩ F.entry_tuple_mul (F.args_tuple_mul_2 _ _) (tuple_mulW a its.toArray n dd sl k t c0 c1 c2 (by omega) c4 hsz3) ⟨ho, ?_⟩⟩)
    rw [size_rep]
    have fr := I.hok.fresh (Nat.le_refl s.heap.objs.size)
    refine ⟨.ref s.heap.objs.size, _, I.laid (t' := s.toks) (o := .tup (List.replicate k.toNat vs).flatten) (fun b ob q => Heap.get?_push_of_some _ q) (Nat.le_refl _) ⟨flen2, _, r.rep k.toNat, IsTup.new _ _⟩, rfl, q _ _ (Ex.new fr) (rv_tup lv fr (h2.rep _))⟩
  · rename_i ds k
    rw [he.int] at ry
    obtain ⟨a, vs, rfl, h1, h2⟩ := hd.lst
    obtain ⟨⟨b1, b2, b3⟩, e1⟩ := hR
    subst e1
    refine op_rep pins s σ H _ _ v u Q I rx ry ⟨a, k, vs, rfl, rfl, h1, b1, b2, by rw [h2.length]; exact b3, fun p hp => q _ _ (Ex.new hp) (rv_lst lv hp (h2.rep _))⟩
end
/-! ### slices -/
def PtP (K : PySem.W.Frag) (t : TO) (δ : List SD) (W : List Res) (Φ : Option Int → List SD → List Res → Prop) : Prop :=
  ∀ (Y : List Addr) (σ : L2.St) (H : Hp) (O : List Addr), As K Y σ H δ W O → ∀ Q : Option Int → Hp → Prop,
    (∀ o H' δ' W' O', Nx K Y σ (Xs O Y W) H H' δ' W' O' [] → Φ o δ' W' → Q o H') → t σ H Q
section
variable {K : PySem.W.Frag} {te ta tb : TE} {tl tk : TA} {to to2 : TO} {δ : List SD} {W : List Res} {Φ : RD → List SD → List Res → Prop} {Φo : Option Int → List SD → List Res → Prop}
theorem pt_no (h : Φo none δ W) : PtP K tNoPart δ W Φo := fun Y σ H O as Q hQ => hQ none H δ W O (Nx.refl as) h
theorem pt_part (h : EvP K te δ W fun r δ1 W1 => ∃ i, res δ1 r = some (.int i) ∧ Φo (some i) δ1 W1) : PtP K (tPart te) δ W Φo := fun Y σ H O as Q hQ => by
  refine h Y σ H O as _ fun x H1 r δ1 W1 O1 ps nx op φ => ?_
  obtain ⟨i, e, p⟩ := φ
  exact ⟨i, (op.rb nx.as e).int, hQ (some i) H1 δ1 W1 O1 nx.drop p⟩
theorem ep_sl {R : D → Option Int → Option Int → RD → Prop} (h : EvP K te δ W fun r δ1 W1 => PtP K to δ1 W1 fun lo δ2 W2 => PtP K to2 δ2 W2 fun hi δ3 W3 => ∃ d r', res δ3 r = some d ∧ R d lo hi r' ∧ Φ r' δ3 W3) : EvP K (tSl (rS K R) te to to2) δ W Φ := fun Y σ H O as Q hQ => by
  refine h Y σ H O as _ fun x H1 r δ1 W1 O1 ps nx1 op1 φ1 => ?_
  refine φ1 (ps ++ Y) σ H1 O1 nx1.as _ fun lo H2 δ2 W2 O2 nx2 φ2 => ?_
  refine φ2 (ps ++ Y) σ H2 O2 nx2.as _ fun hi H3 δ3 W3 O3 nx3 φ3 => ?_
  obtain ⟨d, r', e, hR, p⟩ := φ3
  have nx23 := nx2.trans nx3
  have op3 : Opd K (Xs O3 (ps ++ Y) W3) σ H3 ps x r := op1.mono nx23.st.toKp (fun p hp => nx23.st.fix p (List.mem_append_left _ hp)) fun p hp => hp
  refine ⟨_, d, r', nx3.as.live, op3.rb nx3.as e, hR, fun v H' ex rv => ?_⟩
  obtain ⟨ts, nx4, op4⟩ := (nx1.trans nx23).fin ex rv
  exact hQ v H' r' δ3 W3 O3 ts nx4 op4 p
theorem ep_revL (h : EvP K te δ W fun r δ1 W1 => ∃ ds, res δ1 r = some (.lst ds) ∧ Φ (.n (.l ds.reverse)) δ1 W1) : EvP K (tRevL K te) δ W Φ := fun Y σ H O as Q hQ => by
  refine h Y σ H O as _ fun x H1 r δ1 W1 O1 ps nx1 op1 φ1 => ?_
  obtain ⟨ds, e, p⟩ := φ1
  obtain ⟨a, vs, rfl, h1, h2⟩ := (op1.rb nx1.as e).lst
  refine ⟨a, vs, rfl, .inl (.inl h1), fun q hq => ?_⟩
  obtain ⟨ts, nx4, op4⟩ := nx1.fin (Ex.new hq) (rv_lst nx1.as.live hq h2.reverse)
  exact hQ _ _ _ δ1 W1 O1 ts nx4 op4 p
/-! ### list(zip(a, b)) -/
theorem rps_of {X : List Addr} {H : Hp} : ∀ {vs : List V} {ds : List D}, vs.length = ds.length → (∀ (j : Nat) v d, vs[j]? = some v → ds[j]? = some d → Rp K X H v d) → Rps K X H vs ds
  | [], [], _, _ => .nil
  | v :: vs, d :: ds, hl, h => .cons (h 0 v d rfl rfl) (rps_of (by simpa using hl) fun j v d e1 e2 => h (j + 1) v d e1 e2)
  | [], _ :: _, hl, _ => by simp at hl
  | _ :: _, [], hl, _ => by simp at hl
def zipD (xs ys : List D) : List D := List.zipWith (fun d e => D.tup [d, e]) xs ys
theorem ep_zipL (h : EaP K tl δ W fun rs δ1 W1 => ∃ xs ys, vals rs = some [.tup xs, .tup ys] ∧ xs.length = ys.length ∧ Φ (.n (.l (zipD xs ys))) δ1 W1) : EvP K (tZipL K tl) δ W Φ := fun Y σ H O as Q hQ => by
  refine h Y σ H O as _ fun vs H1 rs δ1 W1 O1 ps nx1 op1 φ1 => ?_
  obtain ⟨xs, ys, e, hl, p⟩ := φ1
  have rps := op1.kept nx1.as (fun _ z => z) e
  have nx1 := nx1.drop
  cases rps with
  | cons r1 rt =>
    cases rt with
    | cons r2 rt =>
      cases rt
      cases r1 with
      | @tup a us _ h1 h2 =>
        cases r2 with
        | @tup b ws _ g1 g2 =>
          refine ⟨a, b, us, ws, rfl, h1.sq, g1.sq, by rw [h2.length, g2.length]; exact hl, fun q acc H' hq ex hq' hlen hac => ?_⟩
          have kq : Kp (Xs O1 Y W1) H1 (q :: Xs O1 Y W1) H' := ex.kp fun c hc => by
            rcases List.mem_cons.mp hc with z | z
            · exact .inr (z ▸ hq)
            · exact .inl z
          have rp : Rps K (q :: Xs O1 Y W1) H' acc (zipD xs ys) := rps_of (by rw [hlen, h2.length]; simp [zipD, hl]) fun j v d e1 e2 => by
            have hj : j < us.length := by
              have := (List.getElem?_eq_some_iff.mp e1).1
              omega
            obtain ⟨t, x, y, q1, q2, q3, q4, q5⟩ := hac j hj
            rw [q1] at e1
            cases e1
            obtain ⟨dx, d1, d2⟩ := h2.getv q4
            obtain ⟨dy, d3, d4⟩ := g2.getv q5
            have e3 : d = .tup [dx, dy] := by
              unfold zipD at e2
              rw [List.getElem?_zipWith, d1, d3] at e2
              exact (Option.some.inj e2).symm
            subst e3
            refine .tup (.inl ⟨fun z => ?_, .inl q3⟩) (.cons (d2.mono kq) (.cons (d4.mono kq) .nil))
            rcases List.mem_cons.mp z with z | z
            · rw [z, hq'] at q3
              cases q3
            · exact nx1.as.live t z q2
          obtain ⟨ts, nx4, op4⟩ := nx1.fin (ps := []) (v := .ref q) (r := .n (.l (zipD xs ys))) ex (.n hq (.l hq' rp))
          exact hQ _ _ _ δ1 W1 O1 ts nx4 op4 p
/-! ### methods of a slot's own list -/
theorem Slots.mem_of {X : List Addr} {H : Hp} {σ : L2.St} {O : List Addr} {i : Nat} {o : OD} {a : Addr} (s : Slots K X H σ δ O) (e : δ[i]? = some (.o o)) (h : σ[i]? = some (some (.ref a))) : a ∈ O ∧ OdR K X H a o := by
  obtain ⟨b, hb, h1, h2⟩ := s.getO e
  rw [h] at h1
  have e1 := Option.some.inj (Option.some.inj h1)
  injection e1 with e2
  subst e2
  exact ⟨hb, h2⟩
theorem As.write {Y : List Addr} {σ : L2.St} {H : Hp} {O : List Addr} {i : Nat} {o o' : OD} {p : Addr} {ho : HO} (as : As K Y σ H δ W O) (e : δ[i]? = some (.o o)) (h : σ[i]? = some (some (.ref p))) (k2 : Kp (Xs O Y W) H (Xs O Y W) (upd H p ho) → OdR K (Xs O Y W) (upd H p ho) p o') :
    Kp (Xs O Y W) H (Xs O Y W) (upd H p ho) ∧ Nx K Y σ (Xs O Y W) H (upd H p ho) (δ.set i (.o o')) W O [] := by
  have hp : p ∈ O := (as.slots.mem_of e h).1
  have px : p ∈ Xs O Y W := List.mem_append_left _ hp
  have nt : ∀ a, a ∈ Y ++ WS W → a ≠ p := fun a ha z => (List.nodup_append.mp as.nd).2.2 p hp a ha z.symm
  have k : Kp (Xs O Y W) H (Xs O Y W) (upd H p ho) := ⟨fun a o ha q => by
    have z : a ≠ p := fun z => ha (by rw [z]; exact px)
    rw [upd_ne z]
    exact q, fun a ha => by
    by_cases z : a = p
    · rw [z, upd_same]; simp
    · rw [upd_ne z]; exact ha, fun a ha => .inl ha⟩
  refine ⟨k, ⟨k, fun a ha => upd_ne (nt a (List.mem_append_left _ ha))⟩, (fun _ z => nomatch z), ?_, as.nd, fun a ha => k.live a (as.fr a ha), as.res.mono k fun a ha => upd_ne (nt a (List.mem_append_right _ ha))⟩
  exact as.slots.write (List.nodup_append.mp as.nd).1 (fun a ha => List.mem_append_left _ ha) e h (fun a ha => upd_ne ha) (k2 k) k
theorem own_ty {X : List Addr} {H : Hp} {a : Addr} {ds : List D} (h : OdR K X H a (.l ds)) : tyV K "list" (.ref a) H := by
  cases h with
  | l h1 h2 => exact .inl ⟨rfl, _, .inl (.inl h1)⟩
theorem ep_append {i : Nat} {ds0 : List D} (e0 : δ[i]? = some (.o (.l ds0))) (h : EvP K te δ W fun r δ1 W1 => ∃ y ds, r.val = some y ∧ δ1[i]? = some (.o (.l ds)) ∧ ds.length < sizeLine ∧ Φ (.v .non) (δ1.set i (.o (.l (ds ++ [y])))) W1) : EvP K (tBM K "list" rAppend (tVar i) (tCons te tNil)) δ W Φ := fun Y σ H O as Q hQ => by
  obtain ⟨a, ha, hs, od⟩ := as.slots.getO e0
  refine ⟨.ref a, hs, own_ty od, ?_⟩
  refine h Y σ H O as _ fun x H1 r δ1 W1 O1 ps nx op φ => ?_
  obtain ⟨y, ds, ev, e1, hl, p⟩ := φ
  have rp := op.kept nx.as ev
  have nx := nx.drop
  obtain ⟨_, od1⟩ := nx.as.slots.mem_of e1 hs
  cases od1 with
  | @l vs _ h1 h2 =>
    obtain ⟨k, nx2⟩ := nx.as.write (ho := .lst (vs ++ [x])) (o' := .l (ds ++ [y])) e1 hs fun k => .l upd_same ((h2.append (.cons rp .nil)).mono k)
    exact ⟨a, vs, x, rfl, rfl, h1, by rw [h2.length]; exact hl, hQ _ _ (.v .non) _ W1 O1 [] (nx.trans nx2) (.v .non) p⟩
theorem ep_pop {i : Nat} {ds : List D} {d : D} (e0 : δ[i]? = some (.o (.l ds))) (hd : ds[ds.length - 1]? = some d) (h : Φ (.v d) (δ.set i (.o (.l ds.dropLast))) W) : EvP K (tBM0 K "list" rPop (tVar i)) δ W Φ := fun Y σ H O as Q hQ => by
  obtain ⟨a, ha, hs, od⟩ := as.slots.getO e0
  refine ⟨.ref a, hs, own_ty od, ?_⟩
  cases od with
  | @l vs _ h1 h2 =>
    obtain ⟨v, e1, rp⟩ := h2.get hd
    have dl : Rps K (Xs O Y W) H vs.dropLast ds.dropLast := by
      rw [List.dropLast_eq_take, List.dropLast_eq_take, h2.length]
      exact h2.take _
    obtain ⟨k, nx2⟩ := as.write (ho := .lst vs.dropLast) (o' := .l ds.dropLast) e0 hs fun k => .l upd_same (dl.mono k)
    exact ⟨a, vs, v, rfl, rfl, h1, by rw [h2.length]; exact e1, hQ _ _ (.v d) _ W O [] nx2 (.v (rp.mono k)) h⟩
/-! ### join, index -/
def tJoin (K : PySem.W.Frag) (to te : TE) : TE := tM1 (fun x xs H Q => ∃ a p, ∃ ys : List Str, x = .str a ∧ xs = [.ref p] ∧ (SqL K H p (ys.map V.str) ∨ SqT K H p (ys.map V.str)) ∧
      (ys.map (·.length)).sum + ys.length * a.length ≤ 16777216 ∧ Q (.str (Txt.join a ys)) H) to te
theorem ep_join (h : EvP K ta δ W fun r1 δ1 W1 => ∃ a, res δ1 r1 = some (.str a) ∧ EvP K te δ1 W1 fun r2 δ2 W2 => ∃ ys : List Str, (res δ2 r2 = some (.lst (ys.map D.str)) ∨ res δ2 r2 = some (.tup (ys.map D.str))) ∧ (ys.map (·.length)).sum + ys.length * a.length ≤ 16777216 ∧ Φ (.v (.str (Txt.join a ys))) δ2 W2) : EvP K (tJoin K ta te) δ W Φ := fun Y σ H O as Q hQ => by
  refine h Y σ H O as _ fun x H1 r1 δ1 W1 O1 ps nx1 op1 φ1 => ?_
  obtain ⟨a, e1, φ1⟩ := φ1
  have ex := (op1.rb nx1.as e1).str
  refine ⟨⟨a, ex⟩, ?_⟩
  refine φ1 (ps ++ Y) σ H1 O1 nx1.as _ fun y H2 r2 δ2 W2 O2 qs nx2 op2 φ2 => ?_
  obtain ⟨ys, e2, hz, p⟩ := φ2
  have nx := (nx1.trans nx2).drop
  rcases e2 with e2 | e2
  · obtain ⟨b, vs, rfl, h1, h2⟩ := (op2.rb nx2.as e2).lst
    rw [Rps.of_strs h2] at h1
    exact ⟨a, b, ys, ex, rfl, .inl (.inl (.inl h1)), hz, hQ _ H2 _ δ2 W2 O2 [] nx (.v (.str _)) p⟩
  · obtain ⟨b, vs, rfl, h1, h2, _⟩ := (op2.rb nx2.as e2).tup
    rw [Rps.of_strs h2] at h1
    exact ⟨a, b, ys, ex, rfl, .inr h1, hz, hQ _ H2 _ δ2 W2 O2 [] nx (.v (.str _)) p⟩
theorem eqV_int {i j : Int} : eqV (.int i) (.int j) = decide (i = j) := by
  simp [eqV, Bool.beq_eq_decide_eq]
theorem ep_index (h : EvP K ta δ W fun r1 δ1 W1 => (∃ ds, res δ1 r1 = some (.lst ds)) ∧ EvP K te δ1 W1 fun r2 δ2 W2 => ∃ (ns : List Int) (i : Int) (j : Nat), res δ2 r1 = some (.lst (ns.map D.int)) ∧ res δ2 r2 = some (.int i) ∧ ns[j]? = some i ∧ (∀ m : Nat, m < j → ns[m]? ≠ some i) ∧ Φ (.v (.int (j : Nat))) δ2 W2) :
    EvP K (tBM K "list" (rIndex K) ta (tCons te tNil)) δ W Φ := fun Y σ H O as Q hQ => by
  refine h Y σ H O as _ fun x H1 r1 δ1 W1 O1 ps nx1 op1 φ1 => ?_
  obtain ⟨⟨ds, e0⟩, φ1⟩ := φ1
  obtain ⟨a0, vs0, ex0, h0, _⟩ := (op1.rb nx1.as e0).lst
  refine ⟨by rw [ex0]; exact .inl ⟨rfl, vs0, .inl (.inl h0)⟩, ?_⟩
  refine φ1 (ps ++ Y) σ H1 O1 nx1.as _ fun y H2 r2 δ2 W2 O2 qs nx2 op2 φ2 => ?_
  obtain ⟨ns, i, j, e1, e2, hj, hno, p⟩ := φ2
  have op1' : Opd K (Xs O2 (qs ++ (ps ++ Y)) W2) σ H2 (qs ++ ps) x r1 := op1.mono nx2.st.toKp (fun p hp => nx2.st.fix p (List.mem_append_left _ hp)) fun p hp => List.mem_append_right _ hp
  obtain ⟨a, vs, ex, h1, h2⟩ := (op1'.rb nx2.as e1).lst
  rw [Rps.of_ints h2] at h1
  have ey := (op2.rb nx2.as e2).int
  have nx := (nx1.trans nx2).drop
  refine ⟨a, ns.map V.int, .int i, j, .int i, ex, by rw [ey], .inl (.inl h1), rfl, flat_ints, ?_, by rw [eqV_int]; exact decide_eq_true rfl, fun m z hm hz => ?_, hQ _ H2 _ δ2 W2 O2 [] nx (.v (.int _)) p⟩
  · rw [List.getElem?_map, hj]; rfl
  · rw [List.getElem?_map] at hz
    cases q : ns[m]? with
    | none => rw [q] at hz; cases hz
    | some k =>
      rw [q] at hz
      cases hz
      rw [eqV_int]
      exact decide_eq_false fun z => hno m hm (by rw [q, z])
/-! ### isinstance -/
theorem ep_isi (h : EaP K tl δ W fun rs δ1 W1 => ∃ d c t u b, resL δ1 rs = some [d, c] ∧ TyDR K d t ∧ ClD c u ∧ PySem.W.kitOne K t u = some b ∧ Φ (.v (.bl b)) δ1 W1) : EvP K (tCB (rIsi K) tl) δ W Φ := fun Y σ H O as Q hQ => by
  refine h Y σ H O as _ fun xs H1 rs δ1 W1 O1 ps nx1 op1 φ1 => ?_
  obtain ⟨d, c, t, u, b, e, ht, hc, hk, p⟩ := φ1
  obtain ⟨x, y, rfl, r1, r2⟩ := (op1.rbs nx1.as e).two
  exact ⟨x, y, t, u, b, rfl, clsV_of K hc r2, ht.tyx K r1, hk, hQ _ H1 _ δ1 W1 O1 [] nx1.drop (.v (.bl b)) p⟩
theorem ep_isiT (h : EvP K te δ W fun r δ1 W1 => EaP K tl δ1 W1 fun rs δ2 W2 => ∃ d cs t us b, res δ2 r = some d ∧ vals rs = some cs ∧ cs.length ≤ sizeLine ∧ TyDR K d t ∧ Paired ClD cs us ∧ PySem.W.kitAny K t us = some b ∧ Φ (.v (.bl b)) δ2 W2) :
    EvP K (tCB (rIsiT K) (tCons te (tCons (tTup tl) tNil))) δ W Φ := fun Y σ H O as Q hQ => by
  refine h Y σ H O as _ fun x H1 r δ1 W1 O1 ps nx1 op1 φ1 => ?_
  refine φ1 (ps ++ Y) σ H1 O1 nx1.as _ fun xs H2 rs δ2 W2 O2 qs nx2 op2 φ2 => ?_
  obtain ⟨d, cs, t, us, b, e1, e2, hl, ht, hc, hk, p⟩ := φ2
  have op1' : Opd K (Xs O2 (qs ++ (ps ++ Y)) W2) σ H2 (qs ++ ps) x r := op1.mono nx2.st.toKp (fun p hp => nx2.st.fix p (List.mem_append_left _ hp)) fun p hp => List.mem_append_right _ hp
  have rb := op1'.rb nx2.as e1
  have rps := op2.kept nx2.as (fun _ z => z) e2
  refine ⟨by rw [rps.length]; exact hl, fun q hq => ?_⟩
  have ex : Ex H2 (upd H2 q (.tup xs)) := Ex.new hq
  have nx := ((nx1.trans nx2).drop).ex ex
  have rb2 : Rb K (Xs O2 (qs ++ (ps ++ Y)) W2) (upd H2 q (.tup xs)) x d := by
    cases rb with
    | p h => exact .p (h.mono ex.kp0)
    | o h => exact .o (h.mono ex.kp0 (ex.eq h.live))
  exact ⟨x, q, xs, t, us, b, rfl, upd_same, clsVs_of K hc rps, ht.tyx K rb2, hk, hQ _ _ _ δ2 W2 O2 [] nx (.v (.bl b)) p⟩
/-! ### calls with keywords -/
theorem Opds.mono {X X' : List Addr} {σ : L2.St} {H H' : Hp} (k : Kp X H X' H') : ∀ {ps : List Addr} {vs : List V} {rs : List RD}, Opds K X σ H ps vs rs → (∀ p ∈ ps, H' p = H p) → Opds K X' σ H' ps vs rs
  | _, _, _, .nil, _ => .nil
  | _, _, _, .cons h t, f => .cons (h.mono k (fun p hp => f p (List.mem_append_right _ hp)) fun _ z => z) (Opds.mono k t fun p hp => f p (List.mem_append_left _ hp))
theorem Opds.app {X : List Addr} {σ : L2.St} {H : Hp} {qs : List Addr} {ws : List V} {zs : List RD} (h2 : Opds K X σ H qs ws zs) : ∀ {ps : List Addr} {vs : List V} {rs : List RD}, Opds K X σ H ps vs rs → Opds K X σ H (qs ++ ps) (vs ++ ws) (rs ++ zs)
  | _, _, _, .nil => by rw [List.append_nil]; exact h2
  | _, _, _, .cons (ps := p1) (qs := q1) h t => by
    rw [← List.append_assoc]
    exact .cons h (Opds.app h2 t)
theorem vals_app : ∀ {rs zs : List RD} {ds es : List D}, vals rs = some ds → vals zs = some es → vals (rs ++ zs) = some (ds ++ es)
  | [], zs, ds, es, h, h2 => by
    cases h
    exact h2
  | r :: rs, zs, ds, es, h, h2 => by
    have e1 : (match r.val, vals rs with
        | some d, some ds => some (d :: ds)
        | _, _ => none) = some ds := h
    cases q1 : r.val with
    | none => rw [q1] at e1; cases e1
    | some d =>
      cases q2 : vals rs with
      | none => rw [q1, q2] at e1; cases e1
      | some ds' =>
        rw [q1, q2] at e1
        cases e1
        show (match r.val, vals (rs ++ zs) with
          | some d, some ds => some (d :: ds)
          | _, _ => none) = _
        rw [q1, vals_app q2 h2]
        rfl
theorem Opds.len {X : List Addr} {σ : L2.St} {H : Hp} : ∀ {ps : List Addr} {vs : List V} {rs : List RD}, Opds K X σ H ps vs rs → vs.length = rs.length
  | _, _, _, .nil => rfl
  | _, _, _, .cons _ t => congrArg (· + 1) (Opds.len t)
theorem ep_callN {pre : Pre} {E : XK} {n m : Nat} (h : EaP K tl δ W fun rs δ1 W1 => EaP K tk δ1 W1 fun zs δ2 W2 => ∃ ds es, rs.length = n ∧ zs.length = m ∧ vals rs = some ds ∧ vals zs = some es ∧ pre (ds ++ es) W2 fun d W3 => Φ (.v d) δ2 W3) : EvP K (tCallN n m (spW K pre) (fun vs zs => vs ++ zs) E tl tk) δ W Φ := fun Y σ H O as Q hQ => by
  refine h Y σ H O as _ fun xs H1 rs δ1 W1 O1 ps nx1 op1 φ1 => ?_
  refine φ1 (ps ++ Y) σ H1 O1 nx1.as _ fun ys H2 zs δ2 W2 O2 qs nx2 op2 φ2 => ?_
  obtain ⟨ds, es, l1, l2, e1, e2, hp⟩ := φ2
  have op1' : Opds K (Xs O2 (qs ++ (ps ++ Y)) W2) σ H2 ps xs rs := op1.mono nx2.st.toKp fun p hp => nx2.st.fix p (List.mem_append_left _ hp)
  have op := Opds.app op2 op1'
  have nx := nx1.trans nx2
  have ea : qs ++ (ps ++ Y) = (qs ++ ps) ++ Y := (List.append_assoc _ _ _).symm
  rw [ea] at op
  have rp := op.kept nx.as (fun _ z => z) (vals_app e1 e2)
  have nx := nx.drop
  have nd := nx.as.nd
  have ai := nx.as.res
  refine ⟨by rw [op1.len]; exact l1, by rw [op2.len]; exact l2, ?_⟩
  refine ⟨O2 ++ Y, W2, ds ++ es, _, by rw [Xs_assoc]; exact nd, fun a ha => ?_, by rw [Xs_assoc]; exact ai, by rw [Xs_assoc]; exact rp, hp, fun v H' d W' st nd' ai' rp' φ => ?_⟩
  · rcases List.mem_append.mp ha with z | z
    · exact nx.as.slots.live a z
    · exact nx.as.fr a z
  · have nx2 := nx.as.called st nd' ai'
    rw [Xs_assoc] at rp'
    exact hQ v H' (.v d) δ2 W' O2 [] (nx.trans nx2) (.v rp') φ
end
section
variable {K : PySem.W.Frag} {x qual : Str} {params : Arguments} {body : List Stmt} {scope : Scope} {f : Addr} {fd : FuncData} {ps ks : List Str} {n : Nat}
/-- a def without defaults, called with keywords in the parameters' order -/
theorem kbn_plain (F : FunD K x qual params body scope [] [] f fd)
    (h : ∀ (kV doc pm : Value) (an : Option Addr) (cdv ct : Value) (us ws : List Value), us.length = n → ws.length = ks.length → bindArgs (PySem.W.fnOf x qual params body scope .none kV doc pm an cdv ct) ⟨us, ks.zip ws⟩ = pure (ps.zip (us ++ ws))) :
    KBn K fd ps n ks (fun us ws => us ++ ws) (fun vs zs => vs ++ zs) := by
  obtain ⟨oc, od, dV, kV, doc, pm, an, cdv, ct, osl, rfl, lk, hcd, hD, hK⟩ := F.ex
  rcases hD with ⟨_, rfl⟩ | ⟨e, _⟩
  · exact ⟨fun s us ws X l1 l2 => .of_eq (h kV doc pm an cdv ct us ws l1 l2), fun r1 r2 => r1.append r2⟩
  · exact absurd rfl e
end
section
variable {X : Cx} {CX : CXT} {k : Nat} {f : Addr} {fd : FuncData} {ps ks : List Str} {sp : Sp} {E : XK} {x : Str} {p pos : Pos} {kws : List Keyword} {tk : TA} {g : List Value → List Value → List Value} {gV : List V → List V → List V}
/-- f(k = v, ..): keywords alone -/
theorem pe_callKw0 (F : FnOk X.prog X.w X.K X.mg X.base CX k f fd ps sp) (hr : Room k X.A) (hg : Gl X x) (hm : X.mg x = some (.ref f)) (hk : PySem.W.keepIn X.K (.ref f) = true) (hb : KBn X.K fd ps 0 ks g gV) (hx : Passes CX X E) (hkw : PK X kws tk)
    (hall : (backToKw pos (keywordEach kws X.env)).all (·.1.isSome) = true := by rfl) (hks : (backToKw pos (keywordEach kws X.env)).filterMap (·.1) = ks := by rfl) (hdb : (x == ("__debug__" : Str)) = false := by decide)
    (hpl : ((backTo pos (starEach [] X.env)).any (·.1) || (backToKw pos (keywordEach kws X.env)).any (·.1.isNone)) = false := by rfl) :
    PE X (.Call (.Name x p) [] kws pos) (tCallN 0 ks.length sp gV E tNil tk) := by
  refine ⟨fun pins s σ H Q I h => ?_⟩
  refine wpAny_Call_Name_kw (ld_glob I hg hm ?_ hdb)
  refine PySem.W.callWith_KW0 (h₀ := X.base) I.ok.mod.kin hk hall ?_ hpl
  refine thn (hkw.run pos pins s σ H _ I h) fun ws s2 ⟨zs, H2, I2, rz, l1, l2, q2⟩ => ⟨I2.kIn, ?_⟩
  rw [hks]
  exact run_fnN (us := []) (vs := []) F hr hb hx I2 .nil rz rfl l2 q2
end
end Lg
/-! # Lg10: rules by an explicit K; defs by name -/
namespace Lg
open PySem PySem.Spec PyProof.Rows L2
section
variable {X : Cx} (K : PySem.W.Frag) (hK : X.K = K)
include hK
theorem qTup {es : List Expr} {k : Nat} {t : TGs} {n : Nat} {pos : Pos} (hc : X.calm = true) (h : PGs X es t) (hn : (assignEach es X.env).length = n := by rfl) (hst : (assignEach es X.env).findIdx? (·.1) = none := by rfl) : PG X (.Tuple es k pos) (gTup K n t) := by
  subst hK
  exact pg_tup hc h hn hst
theorem qU {tg e : Expr} {te : TE} (he : PE X e te) : PI X tg e (iU K te) := by
  subst hK
  exact pi_u he
theorem qEn {e : Expr} {ta : TA} {p pos tpos : Pos} {elts : List Expr} {kk : Nat} (hm : X.mg "enumerate" = none) (hg : Gl X "enumerate") (ha : PA X [e] ta) (hs : starEach [e] X.env = [(false, eval e X.env)] := by rfl) :
    PI X (.Tuple elts kk tpos) (.Call (.Name "enumerate" p) [e] [] pos) (iEnU K ta) := by
  subst hK
  exact pi_enU hg hm ha hs
theorem qZipL {e1 e2 : Expr} {ta : TA} {pl pz p1 p2 : Pos} (hm : X.mg "list" = none) (hm2 : X.mg "zip" = none) (hc : X.calm = true) (hg : Gl X "list") (hg2 : Gl X "zip") (ha : PA X [e1, e2] ta)
    (hs : starEach [e1, e2] X.env = (false, eval e1 X.env) :: starEach [e2] X.env := by rfl) (hpl : (backTo p1 (starEach [e2] X.env)).any (·.1) = false := by rfl)
    (hs0 : starEach [(.Call (.Name "zip" pz) [e1, e2] [] p1 : Expr)] X.env = (false, eval (.Call (.Name "zip" pz) [e1, e2] [] p1) X.env) :: starEach [] X.env := by rfl) :
    PE X (.Call (.Name "list" pl) [.Call (.Name "zip" pz) [e1, e2] [] p1] [] p2) (tZipL K ta) := by
  subst hK
  exact pe_zipL hc hg hm hg2 hm2 ha hs hpl hs0
theorem qRev {e : Expr} {te : TE} {k : Nat} {p1 p2 p3 pos : Pos} (he : PE X e te) : PE X (.Subscript e (.Slice none none (some (.UnaryOp .USub (.Constant (.int 1) k p1) p2)) p3) pos) (tRevL K te) := by
  subst hK
  exact pe_revL he
theorem qJoin {o e : Expr} {to te : TE} {apos pos : Pos} (ho : PE X o to) (he : PE X e te) (hs : starEach [e] X.env = [(false, eval e X.env)] := by rfl) (hbase : attributeBase o "join" X.env (eval o X.env) = eval o X.env := by rfl) (hline : (apos.endLine == pos.line) = true := by rfl) :
    PE X (.Call (.Attribute o "join" apos) [e] [] pos) (tJoin K to te) := by
  subst hK
  exact pe_join ho he hs hbase hline
theorem qAppend {o e : Expr} {to te : TE} {apos cpos : Pos} (ho : PE X o to) (he : PE X e te)
    (hbase : attributeBase o "append" X.env (eval o X.env) = eval o X.env := by rfl)
    (hfew : ((backTo cpos (starEach [e] X.env)).all (fun x => !x.1) && (backToKw cpos (keywordEach [] X.env)).all (fun x => x.1.isSome)
      && decide ([e].length + ([] : List Keyword).length + (if ([] : List Keyword).isEmpty then 0 else 1) < 30)) = true := by rfl)
    (hline : (apos.endLine == cpos.line) = true := by rfl) (hs : starEach [e] X.env = (false, eval e X.env) :: starEach [] X.env := by rfl) (hplain : (backTo cpos (starEach [] X.env)).any (·.1) = false := by rfl) :
    PE X (.Call (.Attribute o "append" apos) [e] [] cpos) (tBM K "list" rAppend to (tCons te tNil)) := by
  subst hK
  exact pe_bm PySem.F.plainAttrs_list PySem.F.slot_list_append PySem.F.type_list_append mt_append ho (pa_cons he pa_nil hs) hbase hfew hline hs hplain
theorem qPop {o : Expr} {to : TE} {apos cpos : Pos} (ho : PE X o to)
    (hbase : attributeBase o "pop" X.env (eval o X.env) = eval o X.env := by rfl) (hline : (apos.endLine == cpos.line) = true := by rfl) : PE X (.Call (.Attribute o "pop" apos) [] [] cpos) (tBM0 K "list" rPop to) := by
  subst hK
  exact pe_bm0 PySem.F.plainAttrs_list PySem.F.slot_list_pop PySem.F.type_list_pop mt_pop ho hbase hline
theorem qIndex {o e : Expr} {to te : TE} {apos cpos : Pos} (ho : PE X o to) (he : PE X e te)
    (hbase : attributeBase o "index" X.env (eval o X.env) = eval o X.env := by rfl)
    (hfew : ((backTo cpos (starEach [e] X.env)).all (fun x => !x.1) && (backToKw cpos (keywordEach [] X.env)).all (fun x => x.1.isSome)
      && decide ([e].length + ([] : List Keyword).length + (if ([] : List Keyword).isEmpty then 0 else 1) < 30)) = true := by rfl)
    (hline : (apos.endLine == cpos.line) = true := by rfl) (hs : starEach [e] X.env = (false, eval e X.env) :: starEach [] X.env := by rfl) (hplain : (backTo cpos (starEach [] X.env)).any (·.1) = false := by rfl) :
    PE X (.Call (.Attribute o "index" apos) [e] [] cpos) (tBM K "list" (rIndex K) to (tCons te tNil)) := by
  subst hK
  exact pe_bm PySem.F.plainAttrs_list PySem.F.slot_list_index PySem.F.type_list_index mt_index ho (pa_cons he pa_nil hs) hbase hfew hline hs hplain
theorem qIsi : CallR X (.builtin "isinstance") (rIsi K) := by
  subst hK
  exact call_isi
theorem qIsiT : CallR X (.builtin "isinstance") (rIsiT K) := by
  subst hK
  exact call_isiT
theorem qAug : PIp X .Add (ipB K fun d e r => (∃ i j, d = .int i ∧ e = .int j ∧ r = .v (.int (i + j))) ∨ ∃ s t, d = .str s ∧ e = .str t ∧ s.length + t.length ≤ sizeLine ∧ r = .v (.str (s ++ t))) := by
  subst hK
  intro pins s σ H x y v u Q I rx ry h
  obtain ⟨Z, d, e, r, lv, hd, he, hR, q⟩ := h
  rcases hR with ⟨i, j, rfl, rfl, rfl⟩ | ⟨i, j, rfl, rfl, hz, rfl⟩
  · exact iop_add pins s σ H _ _ v u Q I rx ry ⟨i, j, hd.int, he.int, q _ H (Same.refl H) (.v (.int _))⟩
  · exact iop_add_str pins s σ H _ _ v u Q I rx ry ⟨i, j, hd.str, he.str, hz, q _ H (Same.refl H) (.v (.str _))⟩
end
/-- name op= e, what it asks -/
def AugR (d e : D) (r : RD) : Prop := (∃ i j, d = .int i ∧ e = .int j ∧ r = .v (.int (i + j))) ∨ ∃ s t, d = .str s ∧ e = .str t ∧ s.length + t.length ≤ sizeLine ∧ r = .v (.str (s ++ t))
theorem augI {i j : Int} : AugR (.int i) (.int j) (.v (.int (i + j))) := .inl ⟨i, j, rfl, rfl, rfl⟩
section
variable {X : Cx}
theorem qAdd (K : PySem.W.Frag) (hK : X.K = K) : PIp X .Add (ipB K AugR) := qAug K hK
/-- stores to names that have objects of their own -/
theorem ps_own {i : Nat} {x : Str} {e : Expr} {te : TE} {pos pos' : Pos} (hN : X.N.Nodup) (hi : X.N[i]? = some x) (hx : Loc X.env.scope x) (he : PE X e te) (hs : swapsWith e (some (.Name x pos')) pos.line X.env = pure false := by rfl) (hf : X.fn x = true ∨ X.env.scope.names.lookup x = some .local := by first | exact .inl rfl | exact .inr rfl | assumption) :
    PS X (.Assign [.Name x pos'] e pos) (tAsg te (gOwn i)) := ps_set hN hi hx he hs hf
end
/-! ### defs by name -/
structure Ca (P : Program) (w : World) (K : PySem.W.Frag) (mg : Str → Option Value) (base : Heap) (k : Nat) (x : Str) (ps : List Str) (d : He.DefD) (pre : Pre) : Prop where
  ex : ∃ (f : Addr) (fd : FuncData), FunD K d.name d.qual d.params d.body d.scope [] [] f fd ∧ FnOk P w K mg base CX0 k f fd ps (spW K pre) ∧ mg x = some (.ref f) ∧ PySem.W.keepIn K (.ref f) = true ∧ Binds K fd ps []
section
variable {X : Cx} {k j : Nat} {x : Str} {ps : List Str} {d : He.DefD} {pre : Pre} {p pos : Pos} {e : Expr} {es : List Expr} {t tk : TA} {kws : List Keyword} {ks : List Str}
theorem pe_ca (c : Ca X.prog X.w X.K X.mg X.base k x ps d pre) (K : PySem.W.Frag) (hK : X.K = K) (hr : Room j X.A) (hk : k ≤ j) (hg : Gl X x) (ha : PA X (e :: es) t)
    (hdb : (x == ("__debug__" : Str)) = false := by decide) (he : starEach (e :: es) X.env = (false, eval e X.env) :: starEach es X.env := by rfl) (hpl : (backTo pos (starEach es X.env)).any (·.1) = false := by rfl) :
    PE X (.Call (.Name x p) (e :: es) [] pos) (tCall (spW K pre) [] E0 t) := by
  subst hK
  obtain ⟨f, fd, _, F, hm, kp, b⟩ := c.ex
  exact pe_call F (hr.mono hk) hg hm kp b .nil pass0 ha hdb he hpl
theorem pe_ca0 (c : Ca X.prog X.w X.K X.mg X.base k x ps d pre) (K : PySem.W.Frag) (hK : X.K = K) (hr : Room j X.A) (hk : k ≤ j) (hg : Gl X x)
    (hdb : (x == ("__debug__" : Str)) = false := by decide) : PE X (.Call (.Name x p) [] [] pos) (tCall (spW K pre) [] E0 tNil) := by
  subst hK
  obtain ⟨f, fd, _, F, hm, kp, b⟩ := c.ex
  exact pe_call0 F (hr.mono hk) hg hm kp b .nil pass0 hdb
theorem pe_caK (c : Ca X.prog X.w X.K X.mg X.base k x ps d pre) (K : PySem.W.Frag) (hK : X.K = K) (hr : Room j X.A) (hk : k ≤ j) (hg : Gl X x) (hkw : PK X kws tk)
    (h : ∀ (kV doc pm : Value) (an : Option Addr) (cdv ct : Value) (us ws : List Value), us.length = 0 → ws.length = ks.length → bindArgs (PySem.W.fnOf d.name d.qual d.params d.body d.scope .none kV doc pm an cdv ct) ⟨us, ks.zip ws⟩ = pure (ps.zip (us ++ ws)))
    (hall : (backToKw pos (keywordEach kws X.env)).all (·.1.isSome) = true := by rfl) (hks : (backToKw pos (keywordEach kws X.env)).filterMap (·.1) = ks := by rfl) (hdb : (x == ("__debug__" : Str)) = false := by decide)
    (hpl : ((backTo pos (starEach [] X.env)).any (·.1) || (backToKw pos (keywordEach kws X.env)).any (·.1.isNone)) = false := by rfl) :
    PE X (.Call (.Name x p) [] kws pos) (tCallN 0 ks.length (spW K pre) (fun vs zs => vs ++ zs) E0 tNil tk) := by
  subst hK
  obtain ⟨f, fd, FD, F, hm, kp, b⟩ := c.ex
  exact pe_callKw0 F (hr.mono hk) hg hm kp (kbn_plain FD h) pass0 hkw hall hks hdb hpl
theorem pe_caN {n : Nat} (c : Ca X.prog X.w X.K X.mg X.base k x ps d pre) (K : PySem.W.Frag) (hK : X.K = K) (hr : Room j X.A) (hk : k ≤ j) (hg : Gl X x) (ha : PA X (e :: es) t) (hkw : PK X kws tk)
    (h : ∀ (kV doc pm : Value) (an : Option Addr) (cdv ct : Value) (us ws : List Value), us.length = n → ws.length = ks.length → bindArgs (PySem.W.fnOf d.name d.qual d.params d.body d.scope .none kV doc pm an cdv ct) ⟨us, ks.zip ws⟩ = pure (ps.zip (us ++ ws)))
    (hall : (backToKw pos (keywordEach kws X.env)).all (·.1.isSome) = true := by rfl) (hks : (backToKw pos (keywordEach kws X.env)).filterMap (·.1) = ks := by rfl) (hdb : (x == ("__debug__" : Str)) = false := by decide)
    (he : starEach (e :: es) X.env = (false, eval e X.env) :: starEach es X.env := by rfl)
    (hpl : ((backTo pos (starEach (e :: es) X.env)).any (·.1) || (backToKw pos (keywordEach kws X.env)).any (·.1.isNone)) = false := by rfl) :
    PE X (.Call (.Name x p) (e :: es) kws pos) (tCallN n ks.length (spW K pre) (fun vs zs => vs ++ zs) E0 t tk) := by
  subst hK
  obtain ⟨f, fd, FD, F, hm, kp, b⟩ := c.ex
  exact pe_callN F (hr.mono hk) hg hm kp (kbn_plain FD h) pass0 ha hkw hall hks hdb he hpl
end
/-! ### facts of classes -/
inductive Fx where
  | tx (T : String) (x : Str) (b : Bool)
  | tt (T U : String) (b : Bool)
  | xx (x y : Str) (b : Bool)
  | xt (x : Str) (U : String) (b : Bool)
  | it (x : Str)
def Fx.ok (K : PySem.W.Frag) : Fx → Bool
  | .tx T x b => decide (PySem.W.kitOne K (.type T) (.ref (He.ga K x)) = some b)
  | .tt T U b => decide (PySem.W.kitOne K (.type T) (.type U) = some b)
  | .xx x y b => decide (PySem.W.kitOne K (.ref (He.ga K x)) (.ref (He.ga K y)) = some b)
  | .xt x U b => decide (PySem.W.kitOne K (.ref (He.ga K x)) (.type U) = some b)
  | .it x => decide (PySem.W.findIn K (.ref (He.ga K x)) "__class__" = some (some (.builtin "object.__class__"))) && (decide (PySem.W.specialIn K (.builtin "object.__class__") "__get__" = some (some (.builtin "getset_descriptor.__get__"))) && (decide (PySem.W.takesIn K (.builtin "object.__class__") = some true) && decide (PySem.W.mroIn K (He.ga K x) (.type "object") = some true)))
def okX (fx : List Fx) (K : PySem.W.Frag) : Bool := fx.all fun f => f.ok K
theorem okX_at {fx : List Fx} {K : PySem.W.Frag} (h : okX fx K = true) (i : Nat) {f : Fx} (e : fx[i]? = some f := by rfl) : f.ok K = true := List.all_eq_true.mp h f (List.mem_of_getElem? e)
/-- the Hook with facts of classes -/
def hookX (n : Nat) (fa : List He.Fa) (fn : List He.DefD) (fx : List Fx) : PySem.W.Hook where
  α := He.AlD × Bool
  obs := fun s => (He.obsDG n fa fn s.heap.get?, okX fx (He.frG s.heap.get? (He.asD s.heap.get? n)))
  val := fun _ => (He.valD fn, true)
  says := fun _ h => ∃ K : PySem.W.Frag, K.In h ∧ He.SaysD fa fn K ∧ okX fx K = true
  of := fun _ _ e => ⟨_, He.frG_in, (Prod.mk.inj e).1, (Prod.mk.inj e).2⟩
  keeps := fun _ _ _ ⟨K, hK, c⟩ k => ⟨K, PySem.W.Frag.In.keeps hK k, c⟩
def obX (n : Nat) (fa : List He.Fa) (fn : List He.DefD) (fx : List Fx) (g : Addr → Option Obj) : He.AlD × Bool := (He.obsDG n fa fn g, okX fx (He.frG g (He.asD g n)))
theorem obX_eq {n : Nat} {fa : List He.Fa} {fn : List He.DefD} {fx : List Fx} {g : Addr → Option Obj} {s : Shared} (h : ∀ a, g a = s.heap.get? a) : obX n fa fn fx g = (hookX n fa fn fx).obs s := by
  have e : g = s.heap.get? := funext h
  rw [e] <;> rfl
end Lg
/-! # Lg11: the law's draws -/
namespace Lg
open PySem PySem.Spec PyProof.Rows L2
/-- the list of draws at d: n great ints at p, then the mix -/
def dealN (d p : Addr) (n : Nat) : Res where
  S := [d, p]
  I := fun _ H => ∃ (m : Int) (ns : List Int), H d = some (.lst [.ref p, .int m]) ∧ H p = some (.lst (ns.map V.int)) ∧ 0 ≤ m ∧ m < 2147483647 ∧ ns.length = n ∧ ∀ x ∈ ns, 0 ≤ x
  live := fun X H h a ha => by
    obtain ⟨m, ns, h1, h2, _⟩ := h
    rcases List.mem_cons.mp ha with e | ha
    · rw [e, h1]; simp
    · rw [List.mem_singleton.mp ha, h2]; simp
  stay := fun X H X' H' h e k => by
    obtain ⟨m, ns, h1, h2, r⟩ := h
    exact ⟨m, ns, (e d (by simp)).trans h1, (e p (by simp)).trans h2, r⟩
def dealR (d p : Addr) : Res where
  S := [d, p]
  I := fun X H => ∃ n, n ≤ 63 ∧ (dealN d p n).I X H
  live := fun X H h => by
    obtain ⟨n, _, h⟩ := h
    exact (dealN d p n).live X H h
  stay := fun X H X' H' h e k => by
    obtain ⟨n, hn, h⟩ := h
    exact ⟨n, hn, (dealN d p n).stay X H X' H' h e k⟩
section
variable {K : PySem.W.Frag} {te ta tb : TE} {tl tk : TA} {tt : TT} {t u : TS} {δ : List SD} {W W' : List Res} {P : Post} {Φ : RD → List SD → List Res → Prop} {Φt : Bool → List SD → List Res → Prop} {d p : Addr} {n : Nat}
theorem As.resW {Y : List Addr} {σ : L2.St} {H : Hp} {O : List Addr} {a : Addr} {ho : HO} (as : As K Y σ H δ W O) (ha : a ∈ WS W) (hS : WS W' = WS W) (hI : AllI W' (Xs O Y W) (upd H a ho)) : Nx K Y σ (Xs O Y W) H (upd H a ho) δ W' O [] := by
  have eX : Xs O Y W' = Xs O Y W := by unfold Xs; rw [hS]
  have px : a ∈ Xs O Y W := List.mem_append_right _ (List.mem_append_right _ ha)
  have nO : ∀ b ∈ O, b ≠ a := fun b hb z => (List.nodup_append.mp as.nd).2.2 b hb a (List.mem_append_right _ ha) z
  have nY : ∀ b ∈ Y, b ≠ a := fun b hb z => (List.nodup_append.mp (List.nodup_append.mp as.nd).2.1).2.2 b hb a ha z
  have k : Kp (Xs O Y W) H (Xs O Y W) (upd H a ho) := ⟨fun b o hb q => by
    have z : b ≠ a := fun z => hb (by rw [z]; exact px)
    rw [upd_ne z]
    exact q, fun b hb => by
    by_cases z : b = a
    · rw [z, upd_same]; simp
    · rw [upd_ne z]; exact hb, fun b hb => .inl hb⟩
  refine ⟨by rw [List.nil_append, eX]; exact ⟨k, fun b hb => upd_ne (nY b hb)⟩, (fun _ z => nomatch z), ?_⟩
  rw [List.nil_append]
  refine ⟨?_, ?_, fun b hb => k.live b (as.fr b hb), ?_⟩
  · rw [eX]
    exact as.slots.mono k fun b hb => upd_ne (nO b hb)
  · rw [eX]; exact as.nd
  · rw [eX]; exact hI
theorem As.deal {Y : List Addr} {σ : L2.St} {H : Hp} {O : List Addr} {i : Nat} (as : As K Y σ H δ [dealN d p n] O) (e : δ[i]? = some (.d (.raw (.ref d)))) : σ[i]? = some (some (.ref d)) ∧ ∃ (m : Int) (ns : List Int), H d = some (.lst [.ref p, .int m]) ∧ H p = some (.lst (ns.map V.int)) ∧ 0 ≤ m ∧ m < 2147483647 ∧ ns.length = n ∧ (∀ x ∈ ns, 0 ≤ x) ∧ d ≠ p := by
  obtain ⟨v, h1, h2⟩ := as.slots.getD e
  have ev : v = .ref d := by cases h2; rfl
  obtain ⟨m, ns, q1, q2, q3, q4, q5, q6⟩ := as.res _ (by simp : dealN d p n ∈ [dealN d p n])
  refine ⟨by rw [h1, ev], m, ns, q1, q2, q3, q4, q5, q6, fun z => ?_⟩
  rw [z, q2] at q1
  have q7 := Option.some.inj q1
  injection q7 with q8
  cases ns with
  | nil => cases q8
  | cons a r => cases q8
/-- any of the two -/
theorem As.dealI {Y : List Addr} {σ : L2.St} {H : Hp} {O : List Addr} (as : As K Y σ H δ [dealR d p] O) : ∃ n, n ≤ 63 ∧ As K Y σ H δ [dealN d p n] O := by
  obtain ⟨n, hn, h⟩ := as.res _ (by simp : dealR d p ∈ [dealR d p])
  exact ⟨n, hn, as.slots, as.nd, as.fr, fun r hr => by rw [List.mem_singleton.mp hr]; exact h⟩
theorem As.dealO {Y : List Addr} {σ : L2.St} {H : Hp} {O : List Addr} (hn : n ≤ 63) (as : As K Y σ H δ [dealN d p n] O) : As K Y σ H δ [dealR d p] O :=
  ⟨as.slots, as.nd, as.fr, fun r hr => by rw [List.mem_singleton.mp hr]; exact ⟨n, hn, as.res _ (by simp)⟩⟩
abbrev tD0 (K : PySem.W.Frag) : TE := tOp (rB K IxD) (tVar 0) (tC (.int 0))
/-- deal[0] -/
theorem d0_raw {Y : List Addr} {σ : L2.St} {H : Hp} {O : List Addr} (as : As K Y σ H δ [dealN d p n] O) (e : δ[0]? = some (.d (.raw (.ref d)))) {Q : VK} (h : ∀ H', Ex H H' → Q (.ref p) H') : tD0 K σ H Q := by
  obtain ⟨h1, m, ns, h2, h3, h4, h5, h6, h7, _⟩ := as.deal e
  refine ⟨.ref d, h1, [], .lst [.raw (.ref p), .raw (.int m)], .int 0, .v (.raw (.ref p)), (fun _ z => nomatch z), .p (.lst ⟨List.not_mem_nil, h2⟩ (.cons (.raw _) (.cons (.raw _) .nil))), .p (.int 0), ⟨_, rfl, rfl⟩, fun v H' ex rv => ?_⟩
  have ev : v = .ref p := by
    cases rv with
    | v r => cases r; rfl
  rw [ev]
  exact h H' ex
theorem tp_dlen (e : δ[0]? = some (.d (.raw (.ref d)))) (h : Φt (decide (0 < n)) δ [dealN d p n]) : TtP K (tTest (tOp (rB K GtR) (tCB (rC K LenR) (tCons (tD0 K) tNil)) (tC (.int 0)))) δ [dealN d p n] Φt := fun Y σ H O as Q hQ => by
  refine d0_raw as e fun H1 ex => ?_
  have as1 := as.ex ex
  obtain ⟨h1, m, ns, h2, h3, h4, h5, h6, h7, _⟩ := as1.deal e
  refine ⟨[], [.lst (ns.map D.int)], .v (.int n), (fun _ z => nomatch z), .cons (.p (.lst ⟨List.not_mem_nil, h3⟩ (Rps.ints ns))) .nil, ?_, fun v H2 ex2 rv => ?_⟩
  · show RD.v (.int _) = _
    rw [List.length_map, h6]
  have ev : v = .int n := by
    cases rv with
    | v r => cases r; rfl
  subst ev
  refine ⟨[], .int n, .int 0, .v (.bl (decide ((0 : Int) < n))), (fun _ z => nomatch z), .p (.int _), .p (.int _), rfl, fun v H3 ex3 rv => ?_⟩
  have ev : v = .bl (decide ((0 : Int) < n)) := by
    cases rv with
    | v r => cases r; rfl
  subst ev
  have eb : decide ((0 : Int) < n) = decide (0 < n) := by
    by_cases z : 0 < n
    · rw [decide_eq_true z, decide_eq_true (by omega)]
    · rw [decide_eq_false z, decide_eq_false (by omega)]
  refine ⟨_, rfl, ?_⟩
  rw [eb]
  exact hQ _ H3 δ _ O (Nx.ex (Nx.ex (Nx.ex (Nx.refl as) ex) ex2) ex3) h
theorem tp_dlast (e : δ[0]? = some (.d (.raw (.ref d)))) (hn : 0 < n) (h : ∀ b, Φt b δ [dealN d p n]) : TtP K (tTest (tOp (rB K EqR) (tOp (rB K IxD) (tD0 K) (tUn (rU1 K NegR) (tC (.int 1)))) (tC (.int 0)))) δ [dealN d p n] Φt := fun Y σ H O as Q hQ => by
  refine d0_raw as e fun H1 ex => ?_
  refine ⟨[], .int 1, .v (.int (-1)), (fun _ z => nomatch z), .p (.int 1), rfl, fun v H2 ex2 rv => ?_⟩
  have ev : v = .int (-1) := by
    cases rv with
    | v r => cases r; rfl
  subst ev
  have as1 := (as.ex ex).ex ex2
  obtain ⟨h1, m, ns, h2, h3, h4, h5, h6, h7, _⟩ := as1.deal e
  have hl : (ns.map D.int).length = n := by rw [List.length_map, h6]
  have hat : ∃ y, L2.atI (ns.map D.int) (-1) = some (.int y) := by
    rw [atI_map]
    unfold L2.atI
    have e1 : ixN ns.length (-1) = some (ns.length - 1) := by
      unfold ixN
      rw [h6]
      split
      · omega
      · split
        · congr 1; omega
        · omega
    rw [e1]
    show ∃ y, (ns[ns.length - 1]?).map D.int = _
    rw [List.getElem?_eq_getElem (by omega)]
    exact ⟨_, rfl⟩
  obtain ⟨y, hy⟩ := hat
  refine ⟨[], .lst (ns.map D.int), .int (-1), .v (.int y), (fun _ z => nomatch z), .p (.lst ⟨List.not_mem_nil, h3⟩ (Rps.ints ns)), .p (.int _), ⟨_, hy, rfl⟩, fun v H3 ex3 rv => ?_⟩
  have ev : v = .int y := by
    cases rv with
    | v r => cases r; rfl
  subst ev
  refine ⟨[], .int y, .int 0, .v (.bl (decide (y = 0))), (fun _ z => nomatch z), .p (.int _), .p (.int _), .inl ⟨_, rfl, rfl⟩, fun v H4 ex4 rv => ?_⟩
  have ev : v = .bl (decide (y = 0)) := by
    cases rv with
    | v r => cases r; rfl
  subst ev
  exact ⟨_, rfl, hQ _ H4 δ _ O (Nx.ex (Nx.ex (Nx.ex (Nx.ex (Nx.refl as) ex) ex2) ex3) ex4) (h _)⟩
theorem ep_dpop (e : δ[0]? = some (.d (.raw (.ref d)))) (h : ∀ x : Int, 0 ≤ x → Φ (.v (.int x)) δ [dealN d p n]) : EvP K (tBM0 K "list" rPop (tD0 K)) δ [dealN d p (n + 1)] Φ := fun Y σ H O as Q hQ => by
  refine d0_raw as e fun H1 ex => ?_
  have as1 := as.ex ex
  obtain ⟨h1, m, ns, h2, h3, h4, h5, h6, h7, hne⟩ := as1.deal e
  refine ⟨.inl ⟨rfl, _, .inl (.inl h3)⟩, ?_⟩
  have hx : (ns.map V.int)[(ns.map V.int).length - 1]? = some (.int (ns.getD n 0)) := by
    rw [List.length_map, h6, List.getElem?_map]
    have e1 : ns[n + 1 - 1]? = some (ns.getD n 0) := by
      rw [Nat.add_sub_cancel, List.getElem?_eq_getElem (by omega), List.getD_eq_getElem?_getD, List.getElem?_eq_getElem (by omega)]
      rfl
    rw [e1]
    rfl
  have hx0 : 0 ≤ ns.getD n 0 := by
    rw [List.getD_eq_getElem?_getD, List.getElem?_eq_getElem (by omega)]
    exact h7 _ (List.getElem_mem _)
  have nx : Nx K Y σ (Xs O Y [dealN d p (n + 1)]) H1 (upd H1 p (.lst (ns.map V.int).dropLast)) δ [dealN d p n] O [] := as1.resW (W' := [dealN d p n]) (by simp [WS, dealN]) rfl fun r hr => by
    rw [List.mem_singleton.mp hr]
    refine ⟨m, ns.dropLast, by rw [upd_ne hne]; exact h2, ?_, h4, h5, ?_, fun x hx => h7 x (List.dropLast_subset ns hx)⟩
    · rw [upd_same, List.map_dropLast]
    · rw [List.length_dropLast, h6]; rfl
  exact ⟨p, ns.map V.int, _, rfl, rfl, h3, hx, hQ _ _ _ δ _ O [] ((Nx.ex (Nx.refl as) ex).trans nx) (.v (.int _)) (h _ hx0)⟩
theorem ep_dapp (e : δ[0]? = some (.d (.raw (.ref d)))) (hn : n < 64) (h : EvP K te δ [dealN d p n] fun r δ1 W1 => ∃ x : Int, res δ1 r = some (.int x) ∧ 0 ≤ x ∧ δ1[0]? = some (.d (.raw (.ref d))) ∧ W1 = [dealN d p n] ∧ Φ (.v .non) δ1 [dealN d p (n + 1)]) :
    EvP K (tBM K "list" rAppend (tD0 K) (tCons te tNil)) δ [dealN d p n] Φ := fun Y σ H O as Q hQ => by
  refine d0_raw as e fun H1 ex => ?_
  have as1 := as.ex ex
  obtain ⟨h1, m, ns, h2, h3, _⟩ := as1.deal e
  refine ⟨.inl ⟨rfl, _, .inl (.inl h3)⟩, ?_⟩
  refine h Y σ H1 O as1 _ fun y H2 r δ2 W2 O2 ps nx2 op2 φ2 => ?_
  obtain ⟨x, ev, hx, e2, rfl, pp⟩ := φ2
  have ey := (op2.rb nx2.as ev).int
  subst ey
  have nx2 := nx2.drop
  obtain ⟨h1, m, ns, h2, h3, h4, h5, h6, h7, hne⟩ := nx2.as.deal e2
  have nx : Nx K Y σ (Xs O2 Y [dealN d p n]) H2 (upd H2 p (.lst (ns.map V.int ++ [.int x]))) δ2 [dealN d p (n + 1)] O2 [] := nx2.as.resW (W' := [dealN d p (n + 1)]) (by simp [WS, dealN]) rfl fun r hr => by
    rw [List.mem_singleton.mp hr]
    refine ⟨m, ns ++ [x], by rw [upd_ne hne]; exact h2, ?_, h4, h5, ?_, fun z hz => ?_⟩
    · rw [upd_same, List.map_append]; rfl
    · rw [List.length_append, h6]; rfl
    · rcases List.mem_append.mp hz with z | z
      · exact h7 _ z
      · rw [List.mem_singleton.mp z]; exact hx
  exact ⟨p, ns.map V.int, _, rfl, rfl, h3, by rw [List.length_map, h6, sizeLine_eq]; omega, hQ _ _ _ δ2 _ O2 [] (((Nx.ex (Nx.refl as) ex).trans nx2).trans nx) (.v .non) pp⟩
theorem ep_dmix (e : δ[0]? = some (.d (.raw (.ref d)))) (h : ∀ m : Int, 0 ≤ m → m < 2147483647 → Φ (.v (.int m)) δ [dealN d p n]) : EvP K (tOp (rB K IxD) (tVar 0) (tC (.int 1))) δ [dealN d p n] Φ := fun Y σ H O as Q hQ => by
  obtain ⟨h1, m, ns, h2, h3, h4, h5, h6, h7, _⟩ := as.deal e
  refine ⟨.ref d, h1, [], .lst [.raw (.ref p), .int m], .int 1, .v (.int m), (fun _ z => nomatch z), .p (.lst ⟨List.not_mem_nil, h2⟩ (.cons (.raw _) (.cons (.int _) .nil))), .p (.int 1), ⟨_, rfl, rfl⟩, fun v H' ex rv => ?_⟩
  have ev : v = .int m := by
    cases rv with
    | v r => cases r; rfl
  subst ev
  exact hQ _ H' _ δ _ O [] (Nx.ex (Nx.refl as) ex) (.v (.int m)) (h m h4 h5)
theorem sp_dmix (h : EvP K te δ [dealN d p n] fun r δ1 W1 => ∃ m : Int, res δ1 r = some (.int m) ∧ (0 ≤ m ∧ m < 2147483647) ∧ δ1[0]? = some (.d (.raw (.ref d))) ∧ W1 = [dealN d p n] ∧ P.nx δ1 [dealN d p n]) : StP K (tAsg te (gSub (tVar 0) (tC (.int 1)) rSetL)) δ [dealN d p n] P := fun Y σ H O E as x => by
  refine h Y σ H O as _ fun y H2 r δ2 W2 O2 ps nx2 op2 φ2 => ?_
  obtain ⟨m', ev, hm, e2, rfl, pp⟩ := φ2
  have ey := (op2.rb nx2.as ev).int
  subst ey
  have nx2 := nx2.drop
  obtain ⟨h1, m, ns, h2, h3, h4, h5, h6, h7, hne⟩ := nx2.as.deal e2
  have nx : Nx K Y σ (Xs O2 Y [dealN d p n]) H2 (upd H2 d (.lst [.ref p, .int m'])) δ2 [dealN d p n] O2 [] := nx2.as.resW (W' := [dealN d p n]) (by simp [WS, dealN]) rfl fun r hr => by
    rw [List.mem_singleton.mp hr]
    exact ⟨m', ns, upd_same, by rw [upd_ne (Ne.symm hne)]; exact h3, hm.1, hm.2, h6, h7⟩
  refine ⟨.ref d, h1, d, [.ref p, .int m], 1, 1, rfl, rfl, h2, rfl, ?_⟩
  have nxx := nx2.trans nx
  exact x.nx σ _ δ2 _ O2 nxx.stp0 nxx.drop.as pp
/-- a slot is forgotten -/
theorem As.forget {Y : List Addr} {σ : L2.St} {H : Hp} {O : List Addr} (as : As K Y σ H δ W O) (v : Nat) : ∃ O', O'.Sublist O ∧ As K Y σ H (δ.set v .no) W O' := by
  by_cases hv : v < σ.length
  · obtain ⟨O', h, s⟩ := as.slots.setNo (σ[v]) v
    rw [List.set_getElem_self hv] at h
    exact ⟨O', s, h.mono (Kp.less H (sub_O s)) fun _ _ => rfl, sub_nd s as.nd, as.fr, as.res.mono (Kp.less H (sub_O s)) fun _ _ => rfl⟩
  · have hl := as.slots.length
    refine ⟨O, List.Sublist.refl _, ?_⟩
    rw [List.set_eq_of_length_le (by omega)]
    exact as
theorem ep_no (v : Nat) (h : EvP K te (δ.set v .no) W Φ) : EvP K te δ W Φ := fun Y σ H O as Q hQ => by
  obtain ⟨O', s, as'⟩ := as.forget v
  refine h Y σ H O' as' Q fun x H1 r δ1 W1 O1 ps nx op φ => ?_
  exact hQ x H1 r δ1 W1 O1 ps ⟨(sub_stp (Y' := Y) s).trans nx.st fun _ z => z, nx.fr, nx.as⟩ op φ
theorem sp_no (v : Nat) (h : StP K t (δ.set v .no) W P) : StP K t δ W P := fun Y σ H O E as x => by
  obtain ⟨O', s, as'⟩ := as.forget v
  exact h Y σ H O' E as' (x.step (Y1 := Y) (sub_stp (Y' := Y) s))
theorem StP.nx_imp {Qn : List SD → List Res → Prop} (h : StP K t δ W { P with nx := Qn }) (k : ∀ δ1 W1, Qn δ1 W1 → P.nx δ1 W1) : StP K t δ W P := fun Y σ H O E as x =>
  h Y σ H O E as ⟨fun σ' H' δ' W' O' s a q => x.nx σ' H' δ' W' O' s a (k _ _ q), x.rt, x.bk, x.ct⟩
theorem sp_cut (Qn : List SD → List Res → Prop) (h : StP K t δ W { P with nx := Qn }) (k : ∀ δ1 W1, Qn δ1 W1 → StP K u δ1 W1 P) : StP K (tSeq t u) δ W P := sp_seq (StP.nx_imp (P := { P with nx := fun δ1 W1 => StP K u δ1 W1 P }) h k)
theorem tp_yes (h : Φt true δ W) : TtP K tYes δ W Φt := fun Y σ H O as Q hQ => hQ true H δ W O (Nx.refl as) h
/-- a, b, c = x, y, z -/
theorem sp_par3 {i j l : Nat} (h : EaP K tl δ W fun rs δ1 W1 => ∃ d1 d2 d3, vals rs = some [d1, d2, d3] ∧ P.nx (((δ1.set i (.d d1)).set j (.d d2)).set l (.d d3)) W1) : StP K (tPar3 i j l tl) δ W P := fun Y σ H O E as x =>
  h Y σ H O as _ fun vs H' rs δ' W' O' ps nx op φ => by
    obtain ⟨d1, d2, d3, e, pp⟩ := φ
    have rp := op.kept nx.as (fun _ z => z) e
    have nx0 := nx.drop
    cases rp with
    | cons r1 r2 =>
      cases r2 with
      | cons r2 r3 =>
        cases r3 with
        | cons r3 r4 =>
          cases r4
          obtain ⟨O2, s2, as2⟩ := nx0.as.setD r1 i
          obtain ⟨O3, s3, as3⟩ := as2.setD (r2.mono (Kp.less H' (sub_O s2))) j
          obtain ⟨O4, s4, as4⟩ := as3.setD (r3.mono (Kp.less H' (sub_O (s3.trans s2)))) l
          exact ⟨_, _, _, rfl, x.nx _ H' _ W' O4 (nx0.st.trans (sub_stp (s4.trans (s3.trans s2))) fun _ z => z) as4 pp⟩
/-- the draws are handed out -/
theorem sp_retDeal (h : EvP K ta δ [] fun r δ1 W1 => W1 = [] ∧ ∃ ns : List Int, res δ1 r = some (.lst (ns.map D.int)) ∧ ns.length ≤ 63 ∧ (∀ x ∈ ns, 0 ≤ x) ∧ EvP K tb δ1 [] fun r2 δ2 W2 => W2 = [] ∧ ∃ m : Int, res δ2 r2 = some (.int m) ∧ (0 ≤ m ∧ m < 2147483647) ∧ ∀ d p, P.rt (.raw (.ref d)) [dealR d p]) :
    StP K (tRet (tLst (tCons (tRevL K ta) (tCons tb tNil)))) δ [] P := fun Y σ H O E as x => by
  refine h Y σ H O as _ fun y H1 r δ1 W1 O1 ps nx1 op1 φ1 => ?_
  obtain ⟨rfl, ns, e1, hl, hns, φ1⟩ := φ1
  obtain ⟨a, vs, rfl, h1, h2⟩ := (op1.rb nx1.as e1).lst
  refine ⟨a, vs, rfl, .inl (.inl h1), fun q hq => ?_⟩
  have rv := rv_lst nx1.as.live hq h2.reverse
  obtain ⟨ts, nx2, op2⟩ := nx1.fin (Ex.new hq) rv
  refine φ1 (ts ++ Y) σ _ O1 nx2.as _ fun z H3 r3 δ3 W3 O3 qs nx3 op3 φ3 => ?_
  obtain ⟨rfl, m, e3, hm, pp⟩ := φ3
  have ez := (op3.rb nx3.as e3).int
  subst ez
  refine ⟨by show 2 ≤ sizeLine; decide, fun d hd => ?_⟩
  cases op2 with
  | n hqt od =>
    have od3 : OdR K (Xs O3 (qs ++ (ts ++ Y)) []) H3 q (.l (ns.map D.int).reverse) := od.mono nx3.st.toKp (nx3.st.fix q (List.mem_append_left _ hqt))
    have nx := nx2.trans nx3
    cases od3 with
    | @l us _ g1 g2 =>
      have eus : us = ns.reverse.map V.int := by
        rw [← List.map_reverse] at g2
        exact Rps.of_ints g2
      subst eus
      have ex : Ex H3 (upd H3 d (.lst [.ref q, .int m])) := Ex.new hd
      have qd : q ≠ d := fun e => by rw [e, hd] at g1; cases g1
      have qY : q ∉ Y := fun e => by
        have nd := nx2.as.nd
        have nd2 := (List.nodup_append.mp (List.nodup_append.mp nd).2.1).1
        exact (List.nodup_append.mp nd2).2.2 q hqt q e rfl
      have Yl : ∀ c ∈ Y, H3 c ≠ none := fun c hc => nx3.as.fr c (List.mem_append_right _ (List.mem_append_right _ hc))
      have dY : d ∉ Y := fun e => Yl d e hd
      have ndY : Y.Nodup := (List.nodup_append.mp (List.nodup_append.mp as.nd).2.1).1
      refine x.rt (.ref d) _ (.raw (.ref d)) [dealR d q] ⟨⟨fun c o hc e => ex c o (nx.st.keep c o hc e), fun c e => ?_, fun c hc => ?_⟩, fun c hc => ?_⟩ ?_ ?_ (.raw _) (pp d q)
      · have e3 := nx.st.live c e
        rw [ex.eq e3]
        exact e3
      · have hc : c ∈ Y ++ [d, q] := hc
        rcases List.mem_append.mp hc with e | e
        · exact .inl (List.mem_append_right _ (List.mem_append_left _ e))
        · rcases List.mem_cons.mp e with e | e
          · refine .inr ?_
            cases w : H c with
            | none => rfl
            | some o =>
              have z2 := nx.st.live c (by rw [w]; simp)
              rw [e, hd] at z2
              exact absurd rfl z2
          · rw [List.mem_singleton.mp e]
            exact .inr (nx.fr q (List.mem_append_right _ hqt))
      · rw [ex.eq (Yl c hc)]
        exact nx.st.fix c hc
      · show (Y ++ [d, q]).Nodup
        refine List.nodup_append.mpr ⟨ndY, by simp [Ne.symm qd], fun c hc b hb e => ?_⟩
        rcases List.mem_cons.mp hb with z | z
        · exact dY (by rw [← z, ← e]; exact hc)
        · exact qY (by rw [← List.mem_singleton.mp z, ← e]; exact hc)
      · intro r hr
        rw [List.mem_singleton.mp hr]
        exact ⟨ns.length, hl, m, ns.reverse, upd_same, by rw [upd_ne qd]; exact g1, hm.1, hm.2, List.length_reverse, fun y hy => hns y (List.mem_reverse.mp hy)⟩
end
/-! ### parts of lists -/
theorem cutL_to {α : Type} (xs : List α) (n : Nat) : cutL xs none (some (n : Int)) = xs.take n := by
  unfold cutL
  rw [HT.sIx_nat, HT.sIx_none]
  simp only [List.drop_zero, Nat.sub_zero]
  by_cases h : n ≤ xs.length
  · rw [Nat.min_eq_left h]
  · rw [Nat.min_eq_right (by omega), List.take_length, List.take_of_length_le (by omega)]
theorem cutL_from {α : Type} (xs : List α) (n : Nat) : cutL xs (some (n : Int)) none = xs.drop n := by
  unfold cutL
  rw [HT.sIx_nat, HT.sIx_none]
  by_cases h : n ≤ xs.length
  · rw [Nat.min_eq_left h, List.take_of_length_le (by simp)]
  · rw [Nat.min_eq_right (by omega), List.drop_length, List.drop_of_length_le (by omega)]
    simp
theorem cutL_mid {α : Type} (xs : List α) (a b : Nat) : cutL xs (some (a : Int)) (some (b : Int)) = (xs.drop a).take (b - a) := by
  unfold cutL
  rw [HT.sIx_nat, HT.sIx_nat]
  by_cases h : a ≤ xs.length
  · rw [Nat.min_eq_left h]
    by_cases h2 : b ≤ xs.length
    · rw [Nat.min_eq_left h2]
    · rw [Nat.min_eq_right (by omega), List.take_of_length_le (by simp), List.take_of_length_le (by simp; omega)]
  · rw [Nat.min_eq_right (by omega : xs.length ≤ a), List.drop_length, List.drop_of_length_le (by omega)]
    simp
theorem atI_nat {α : Type} (xs : List α) (n : Nat) : L2.atI xs (n : Int) = xs[n]? := by
  unfold L2.atI ixN
  rw [if_pos (by omega)]
  by_cases h : n < xs.length
  · rw [if_pos (by omega), Int.toNat_natCast]
    rfl
  · rw [if_neg (by omega), List.getElem?_eq_none (by omega)]
    rfl
/-! ### comprehensions of a kind -/
section
variable {K : PySem.W.Frag} {te : TE} {tt : TT} {g : TG} {wi : TI} {δ : List SD} {W : List Res} {Φ : RD → List SD → List Res → Prop} {vs : List Nat}
theorem EvP.imp' {Ψ Φ' : RD → List SD → List Res → Prop} (h : EvP K te δ W Φ') (k : ∀ r δ' W', Φ' r δ' W' → Ψ r δ' W') : EvP K te δ W Ψ := EvP.imp h k
theorem TtP.imp {Φ1 Φ2 : Bool → List SD → List Res → Prop} (h : TtP K tt δ W Φ1) (k : ∀ b δ' W', Φ1 b δ' W' → Φ2 b δ' W') : TtP K tt δ W Φ2 := fun Y σ H O as Q hQ => h Y σ H O as Q fun b H' δ' W' O' nx φ => hQ b H' δ' W' O' nx (k _ _ _ φ)
theorem TgP.imp {d : D} {Φ1 Φ2 : List SD → List Res → Prop} (h : TgP K g d δ W Φ1) (k : ∀ δ' W', Φ1 δ' W' → Φ2 δ' W') : TgP K g d δ W Φ2 := fun Y σ H O v as r Q hQ => h Y σ H O v as r Q fun σ' δ' O' s a φ => hQ σ' δ' O' s a (k _ _ φ)
theorem ItP.imp {Φ1 Φ2 : List D → List SD → List Res → Prop} (h : ItP K wi δ W Φ1) (k : ∀ b δ' W', Φ1 b δ' W' → Φ2 b δ' W') : ItP K wi δ W Φ2 := fun Y σ H O as Q hQ => h Y σ H O as Q fun J H' ds δ' W' O' ps nx jo φ => hQ J H' ds δ' W' O' ps nx jo (k _ _ _ φ)
theorem take_succ' {ds : List D} {i : Nat} {d : D} (e : ds[i]? = some d) : ds.take (i + 1) = ds.take i ++ [d] := by
  rw [List.take_add_one, e]
  rfl
theorem sp_ifv {t u : TS} {P : Post} (b0 : Bool) (h : TtP K tt δ W fun b δ1 W1 => b = b0 ∧ δ1 = δ ∧ W1 = W) (k : (b0 = true → StP K t δ W P) ∧ (b0 = false → StP K u δ W P)) : StP K (tIfS tt t u) δ W P :=
  sp_if (h.imp fun b δ1 W1 ⟨e1, e2, e3⟩ => by
    subst e1 e2 e3
    exact k)
/-- [f(d) for d in ds] -/
theorem ep_map (f : D → D) (hg : TgIn g vs) (h : ItP K wi δ W fun ds δ1 W1 => NoAt δ1 vs ∧ ds.length ≤ sizeLine ∧ (∀ (i : Nat) d, ds[i]? = some d → TgP K g d δ1 W1 fun δ2 W2 => wipeD δ2 vs = δ1 ∧ EvP K te δ2 W2 fun r δ4 W4 => δ4 = δ2 ∧ W4 = W1 ∧ r.val = some (f d)) ∧ Φ (.n (.l (ds.map f))) δ1 W1) :
    EvP K (tLc wi g tYes te vs) δ W Φ := ep_lc hg (h.imp fun ds δ1 W1 ⟨no, hl, hs, φ⟩ => by
  refine ⟨fun i acc W' => W' = W1 ∧ acc = (ds.take i).map f, no, ⟨rfl, rfl⟩, ?_, ?_⟩
  · rintro i d acc W' e ⟨rfl, rfl⟩
    refine (hs i d e).imp fun δ2 W2 ⟨hw, he⟩ => ⟨hw, tp_yes ⟨rfl, fun _ => he.imp' ?_, fun z => Bool.noConfusion z⟩⟩
    rintro r δ4 W4 ⟨rfl, rfl, hv⟩
    have hi := (List.getElem?_eq_some_iff.mp e).1
    refine ⟨rfl, f d, hv, ?_, rfl, ?_⟩
    · rw [List.length_map, List.length_take]
      omega
    · rw [take_succ' e, List.map_append]
      rfl
  · rintro acc W' ⟨rfl, rfl⟩
    rw [List.take_length]
    exact φ)
/-- [f(d) for d in ds if p(d)] -/
theorem ep_filt (f : D → D) (p : D → Bool) (hg : TgIn g vs) (h : ItP K wi δ W fun ds δ1 W1 => NoAt δ1 vs ∧ ds.length ≤ sizeLine ∧ (∀ (i : Nat) d, ds[i]? = some d → TgP K g d δ1 W1 fun δ2 W2 => wipeD δ2 vs = δ1 ∧ TtP K tt δ2 W2 fun b δ3 W3 => δ3 = δ2 ∧ W3 = W1 ∧ b = p d ∧ (b = true → EvP K te δ2 W1 fun r δ4 W4 => δ4 = δ2 ∧ W4 = W1 ∧ r.val = some (f d))) ∧ Φ (.n (.l ((ds.filter p).map f))) δ1 W1) :
    EvP K (tLc wi g tt te vs) δ W Φ := ep_lc hg (h.imp fun ds δ1 W1 ⟨no, hl, hs, φ⟩ => by
  refine ⟨fun i acc W' => W' = W1 ∧ acc = ((ds.take i).filter p).map f, no, ⟨rfl, rfl⟩, ?_, ?_⟩
  · rintro i d acc W' e ⟨rfl, rfl⟩
    refine (hs i d e).imp fun δ2 W2 ⟨hw, he⟩ => ⟨hw, he.imp ?_⟩
    rintro b δ3 W3 ⟨rfl, rfl, hb, hr⟩
    have hi := (List.getElem?_eq_some_iff.mp e).1
    refine ⟨rfl, fun hbt => (hr hbt).imp' ?_, fun hbf => ⟨rfl, ?_⟩⟩
    · rintro r δ4 W4 ⟨rfl, rfl, hv⟩
      refine ⟨rfl, f d, hv, ?_, rfl, ?_⟩
      · rw [List.length_map]
        refine Nat.lt_of_le_of_lt (List.length_filter_le _ _) ?_
        rw [List.length_take]
        omega
      · rw [take_succ' e, List.filter_append, List.map_append, List.filter_cons]
        rw [← hb, hbt]
        rfl
    · rw [take_succ' e, List.filter_append, List.map_append, List.filter_cons, ← hb, hbf]
      simp
  · rintro acc W' ⟨rfl, rfl⟩
    rw [List.take_length]
    exact φ)
/-- [.. for d in ds], of each item no more than Qd is known -/
theorem ep_each (Qd : D → Prop) (hg : TgIn g vs) (h : ItP K wi δ W fun ds δ1 W1 => NoAt δ1 vs ∧ ds.length ≤ sizeLine ∧ (∀ (i : Nat) d, ds[i]? = some d → TgP K g d δ1 W1 fun δ2 W2 => wipeD δ2 vs = δ1 ∧ EvP K te δ2 W2 fun r δ4 W4 => δ4 = δ2 ∧ W4 = W1 ∧ ∃ y, r.val = some y ∧ Qd y) ∧ ∀ acc : List D, acc.length = ds.length → (∀ y ∈ acc, Qd y) → Φ (.n (.l acc)) δ1 W1) :
    EvP K (tLc wi g tYes te vs) δ W Φ := ep_lc hg (h.imp fun ds δ1 W1 ⟨no, hl, hs, φ⟩ => by
  refine ⟨fun i acc W' => W' = W1 ∧ acc.length = i ∧ ∀ y ∈ acc, Qd y, no, ⟨rfl, rfl, fun _ z => nomatch z⟩, ?_, ?_⟩
  · rintro i d acc W' e ⟨rfl, hla, hq⟩
    refine (hs i d e).imp fun δ2 W2 ⟨hw, he⟩ => ⟨hw, tp_yes ⟨rfl, fun _ => he.imp' ?_, fun z => Bool.noConfusion z⟩⟩
    rintro r δ4 W4 ⟨rfl, rfl, y, hv, hy⟩
    have hi := (List.getElem?_eq_some_iff.mp e).1
    refine ⟨rfl, y, hv, by omega, rfl, by rw [List.length_append, hla]; rfl, fun z hz => ?_⟩
    rcases List.mem_append.mp hz with z1 | z1
    · exact hq z z1
    · rw [List.mem_singleton.mp z1]; exact hy
  · rintro acc W' ⟨rfl, hla, hq⟩
    exact φ acc hla hq)
end
/-! ### ends of steps -/
section
variable {δ : List SD} {r r1 r2 : RD} {rs : List RD} {d d1 d2 d3 : D} {ds : List D} {o o2 : OD} {i : Nat}
theorem x1v {P : D → Prop} (h1 : r.val = some d) (h : P d) : ∃ d, r.val = some d ∧ P d := ⟨d, h1, h⟩
theorem x1r {P : D → Prop} (h1 : res δ r = some d) (h : P d) : ∃ d, res δ r = some d ∧ P d := ⟨d, h1, h⟩
theorem x1b {P : Bool → Prop} {b : Bool} (h1 : res δ r = some (.bl b)) (h : P b) : ∃ b, res δ r = some (.bl b) ∧ P b := ⟨b, h1, h⟩
theorem x1i {P : Int → Prop} {b : Int} (h1 : res δ r = some (.int b)) (h : P b) : ∃ b, res δ r = some (.int b) ∧ P b := ⟨b, h1, h⟩
theorem x1z {P : Str → Prop} {b : Str} (h1 : res δ r = some (.str b)) (h : P b) : ∃ b, res δ r = some (.str b) ∧ P b := ⟨b, h1, h⟩
theorem x1l {P : List D → Prop} {b : List D} (h1 : res δ r = some (.lst b)) (h : P b) : ∃ b, res δ r = some (.lst b) ∧ P b := ⟨b, h1, h⟩
theorem x1s {P : List D → Prop} (h1 : vals rs = some ds) (h : P ds) : ∃ ds, vals rs = some ds ∧ P ds := ⟨ds, h1, h⟩
theorem x1n {P : OD → Prop} (h1 : r = .n o) (h : P o) : ∃ o, r = .n o ∧ P o := ⟨o, h1, h⟩
theorem x1t {P : List D → Prop} (h1 : vals rs = some ds) (h2 : ds.length ≤ sizeLine) (h : P ds) : ∃ ds, vals rs = some ds ∧ ds.length ≤ sizeLine ∧ P ds := ⟨ds, h1, h2, h⟩
theorem x2s {P : D → D → Prop} (h1 : vals rs = some [d1, d2]) (h : P d1 d2) : ∃ d1 d2, vals rs = some [d1, d2] ∧ P d1 d2 := ⟨d1, d2, h1, h⟩
theorem x2nv {P : OD → D → Prop} (h1 : rs = [.n o, .v d]) (h : P o d) : ∃ o d, rs = [.n o, .v d] ∧ P o d := ⟨o, d, h1, h⟩
theorem x2vn {P : OD → D → Prop} (h1 : rs = [.v d, .n o]) (h : P o d) : ∃ o d, rs = [.v d, .n o] ∧ P o d := ⟨o, d, h1, h⟩
theorem x2nn {P : OD → OD → Prop} (h1 : rs = [.n o, .n o2]) (h : P o o2) : ∃ o1 o2, rs = [.n o1, .n o2] ∧ P o1 o2 := ⟨o, o2, h1, h⟩
theorem x3s {P : D → D → D → Prop} (h1 : vals rs = some [d1, d2, d3]) (h : P d1 d2 d3) : ∃ d1 d2 d3, vals rs = some [d1, d2, d3] ∧ P d1 d2 d3 := ⟨d1, d2, d3, h1, h⟩
theorem x2w {P : List D → Prop} (h1 : r.val = some d) (h2 : Walk d ds) (h : P ds) : ∃ d ds, r.val = some d ∧ Walk d ds ∧ P ds := ⟨d, ds, h1, h2, h⟩
theorem x2u {R : D → RD → Prop} {P : RD → Prop} (h1 : res δ r1 = some d1) (h2 : R d1 r) (h : P r) : ∃ d1 r, res δ r1 = some d1 ∧ R d1 r ∧ P r := ⟨d1, r, h1, h2, h⟩
theorem x2c {R : List D → RD → Prop} {P : RD → Prop} (h1 : resL δ rs = some ds) (h2 : R ds r) (h : P r) : ∃ ds r, resL δ rs = some ds ∧ R ds r ∧ P r := ⟨ds, r, h1, h2, h⟩
theorem x3 {R : D → D → RD → Prop} {P : RD → Prop} (h1 : res δ r1 = some d1) (h2 : res δ r2 = some d2) (h3 : R d1 d2 r) (h4 : P r) : ∃ d1 d2 r, res δ r1 = some d1 ∧ res δ r2 = some d2 ∧ R d1 d2 r ∧ P r := ⟨d1, d2, r, h1, h2, h3, h4⟩
theorem x2a {P : D → List D → Prop} (h1 : r.val = some d) (h2 : δ[i]? = some (.o (.l ds))) (h3 : ds.length < sizeLine) (h : P d ds) : ∃ y ds, r.val = some y ∧ δ[i]? = some (.o (.l ds)) ∧ ds.length < sizeLine ∧ P y ds := ⟨d, ds, h1, h2, h3, h⟩
theorem xcN {zs : List RD} {es : List D} {n m : Nat} {P : List D → List D → Prop} (h0 : rs.length = n) (h1 : zs.length = m) (h2 : vals rs = some ds) (h3 : vals zs = some es) (h : P ds es) : ∃ ds es, rs.length = n ∧ zs.length = m ∧ vals rs = some ds ∧ vals zs = some es ∧ P ds es := ⟨ds, es, h0, h1, h2, h3, h⟩
theorem x2g {d0 : D} {P : D → Prop} (h1 : res δ r = some d) (h2 : δ[i]? = some (.d d0)) (h3 : AugR d0 d r1) (h4 : r1.val = some d2) (h : P d2) : ∃ d r', res δ r = some d ∧ δ[i]? = some (.d d0) ∧ AugR d0 d r' ∧ ∃ d', r'.val = some d' ∧ P d' := ⟨d, r1, h1, h2, h3, d2, h4, h⟩
end
end Lg
/-! # Lg12: the defs all laws share -/
namespace Lg
open PySem PySem.Spec PyProof.Rows L2
local macro_rules
  | `(tactic| walk_at "lg") => `(tactic| first
    | with_reducible refine sp_seq ?_
    | with_reducible refine sp_own ?_
    | with_reducible refine sp_set ?_
    | with_reducible refine sp_parO1 ?_
    | with_reducible refine sp_parO2 ?_
    | with_reducible refine sp_parOO ?_
    | with_reducible refine sp_par3 ?_
    | with_reducible refine sp_par ?_
    | with_reducible refine sp_asg ?_
    | with_reducible refine sp_drop ?_
    | with_reducible refine sp_ret ?_
    | with_reducible refine sp_retN ?_
    | with_reducible refine sp_next ?_
    | with_reducible refine sp_break ?_
    | with_reducible refine sp_cont ?_
    | ((with_reducible refine sp_aug (d0 := ?lgd) ?lg0 ?_); (case lg0 => exact rfl))
    | ((with_reducible refine ep_vF (d := ?lgd) ?lg0 ?_); (case lg0 => exact rfl))
    | ((with_reducible refine ep_vFF (o := ?lgd) ?lg0 ?_); (case lg0 => exact rfl))
    | ((with_reducible refine ep_var (d := ?lgd) ?lg0 ?_); (case lg0 => exact rfl))
    | ((with_reducible refine ep_varS (o := ?lgd) ?lg0 ?_); (case lg0 => exact rfl))
    | with_reducible refine ep_int ?_
    | with_reducible refine ep_str ?_
    | with_reducible refine ep_non ?_
    | with_reducible refine ep_bl ?_
    | with_reducible refine ep_ty ?_
    | with_reducible refine ep_ref ?_
    | with_reducible refine ep_op ?_
    | with_reducible refine ep_un ?_
    | with_reducible refine ep_isiT ?_
    | with_reducible refine ep_isi ?_
    | with_reducible refine ep_cb ?_
    | with_reducible refine ep_tup ?_
    | with_reducible refine ep_lst ?_
    | with_reducible refine ep_call ?_
    | with_reducible refine ep_callN ?_
    | ((with_reducible refine ep_pair (xs0 := ?lgd) ?lg0 ?_); (case lg0 => exact rfl))
    | ((with_reducible refine ep_append (ds0 := ?lgd) ?lg0 ?_); (case lg0 => exact rfl))
    | with_reducible refine ep_sl ?_
    | with_reducible refine ep_revL ?_
    | with_reducible refine ep_zipL ?_
    | with_reducible refine ep_join ?_
    | with_reducible refine ep_index ?_
    | with_reducible refine ep_if ?_
    | with_reducible refine ep_andV ?_
    | with_reducible refine ep_orV ?_
    | with_reducible refine ep_notV ?_
    | with_reducible refine pt_no ?_
    | with_reducible refine pt_part ?_
    | with_reducible refine ea_nil ?_
    | with_reducible refine ea_cons ?_
    | with_reducible refine tp_test ?_
    | with_reducible refine tp_B ?_
    | with_reducible refine tp_and ?_
    | with_reducible refine tp_or ?_
    | with_reducible refine tp_not ?_
    | with_reducible refine tp_yes ?_
    | with_reducible refine tg_name ?_
    | with_reducible refine tg_tup rfl ?_
    | with_reducible refine tgs_cons ?_
    | with_reducible refine tgs_nil ?_
    | with_reducible refine it_u ?_
    | with_reducible refine it_en ?_
    | with_reducible refine it_r1 ?_
    | with_reducible refine it_r2 ?_
    | with_reducible refine it_r3 ?_)
  | `(tactic| walk_at "r") => `(tactic| first
    | exact rfl
    | exact ⟨_, rfl, rfl⟩
    | exact Or.inl ⟨_, rfl, rfl⟩
    | exact Or.inl rfl
    | exact Or.inr ⟨_, rfl, rfl⟩
    | exact ⟨rfl, rfl⟩
    | exact ⟨by decide, rfl⟩
    | exact ⟨⟨by decide, by decide⟩, rfl⟩
    | exact ⟨⟨by decide, by decide, by decide⟩, rfl⟩
    | exact ⟨PySem.IntMulOk.of_right (PySem.intBits_le_64 (by omega) (by omega)), rfl⟩
    | exact ⟨PySem.IntMulOk.of_left (PySem.intBits_le_64 (by omega) (by omega)), rfl⟩
    | exact ⟨by omega, rfl⟩
    | exact ⟨PySem.IntMulOk.of_bits (by decide +kernel) (by decide +kernel), rfl⟩)
  | `(tactic| walk_at "x") => `(tactic| first
    | walk_at "y"
    | with_reducible refine sp_if ?_)
  | `(tactic| walk_at "y") => `(tactic| first
    | walk_at "lg"
    | (refine ⟨fun _ => ?_, fun lgz => absurd lgz (by decide)⟩)
    | (refine ⟨fun lgz => absurd lgz (by decide), fun _ => ?_⟩)
    | ((with_reducible apply x3); (exact rfl); (exact rfl); (walk_at "r"))
    | ((with_reducible apply x1v); (exact rfl))
    | ((with_reducible apply x1b); (exact rfl))
    | ((with_reducible apply x1i); (exact rfl))
    | ((with_reducible apply x1z); (exact rfl))
    | ((with_reducible apply x1l); (exact rfl))
    | ((with_reducible apply x1r); (exact rfl))
    | ((with_reducible apply x1t); (exact rfl); (exact Nat.le_of_ble_eq_true rfl))
    | ((with_reducible apply x1s); (exact rfl))
    | ((with_reducible apply x1n); (exact rfl))
    | ((with_reducible apply x2c); (exact rfl); (walk_at "r"))
    | ((with_reducible apply x2u); (exact rfl); (walk_at "r"))
    | ((with_reducible apply x2w); (exact rfl); (exact rfl))
    | ((with_reducible apply xcN); (exact rfl); (exact rfl); (exact rfl); (exact rfl))
    | ((with_reducible apply x2p); (exact rfl); (exact rfl); (first | assumption | (rw [sizeLine_eq]; (try simp only [List.length_append, List.length_map, List.length_cons, List.length_nil]); omega)))
    | ((with_reducible apply x2a); (exact rfl); (exact rfl); (first | assumption | decide | omega | (rw [sizeLine_eq]; (try simp only [List.length_append, List.length_map, List.length_cons, List.length_nil]); omega)))
    | ((with_reducible apply x2s); (exact rfl))
    | ((with_reducible apply x2nv); (exact rfl))
    | ((with_reducible apply x2vn); (exact rfl))
    | ((with_reducible apply x2nn); (exact rfl))
    | ((with_reducible apply x3s); (exact rfl))
    | ((with_reducible apply x2g); (exact rfl); (exact rfl); (exact augI); (exact rfl)))
/-! ### promises -/
def pre__law_deal : Pre := fun ds W Φ => ∃ (ns : List Int) (salt : Int), ds = [.frz ns, .int salt] ∧ W = [] ∧ 0 ≤ salt ∧ salt < 1000 ∧ ∀ d p, Φ (.raw (.ref d)) [dealR d p]
def pre__law_any : Pre := fun ds W Φ => ∃ (d p : Addr) (b : Int), ds = [.raw (.ref d), .int b] ∧ W = [dealR d p] ∧ 0 < b ∧ b < 2 ^ 40 ∧ ∀ r : Int, 0 ≤ r → r < b → Φ (.int r) W
def pre__law_of : Pre := fun ds W Φ => ∃ (d p : Addr) (s : D) (xs : List D), ds = [.raw (.ref d), s] ∧ W = [dealR d p] ∧ Walk s xs ∧ xs ≠ [] ∧ xs.length ≤ 16777216 ∧ ∀ x ∈ xs, Φ x W
/-- plain data -/
inductive Pl : D → Prop
  | non : Pl .non
  | bl (b : Bool) : Pl (.bl b)
  | int (i : Int) : Pl (.int i)
  | str (s : Str) : Pl (.str s)
  | tup {l : List D} : (∀ d ∈ l, Pl d) → Pl (.tup l)
def Fl : D → Prop
  | .non => True
  | .bl _ => True
  | .int _ => True
  | .str _ => True
  | _ => False
def pre__law_is_kind : Pre := fun ds W Φ => ∃ x, ds = [x, x] ∧ Fl x ∧ Φ (.bl true) W
def pre__law_plain : Pre := fun ds W Φ => ∃ x, ds = [x] ∧ Pl x ∧ Φ x W
mutual
/-- how much there is to compare -/
def szD : D → Nat
  | .tup l => 1 + szL l
  | _ => 1
def szL : List D → Nat
  | [] => 0
  | d :: ds => szD d + szL ds
end
def pairD (x : D) : D := .tup [x, x]
def pre__law_same : Pre := fun ds W Φ => ∃ x, ds = [x, x] ∧ Pl x ∧ szD x ≤ 16777216 ∧ Φ (.bl true) W
def pre__law_all : Pre := fun ds W Φ => ∃ xs : List D, ds = [.lst (xs.map pairD)] ∧ xs.length ≤ 16777216 ∧ (∀ x ∈ xs, Pl x ∧ szD x ≤ 16777216) ∧ Φ (.bl true) W
theorem len__law_deal {ds : List D} {W : List Res} {Φ : D → List Res → Prop} (h : pre__law_deal ds W Φ) : ds.length = 2 := by obtain ⟨_, _, rfl, _⟩ := h; rfl
theorem len__law_any {ds : List D} {W : List Res} {Φ : D → List Res → Prop} (h : pre__law_any ds W Φ) : ds.length = 2 := by obtain ⟨_, _, _, rfl, _⟩ := h; rfl
theorem len__law_of {ds : List D} {W : List Res} {Φ : D → List Res → Prop} (h : pre__law_of ds W Φ) : ds.length = 2 := by obtain ⟨_, _, _, _, rfl, _⟩ := h; rfl
theorem len__law_is_kind {ds : List D} {W : List Res} {Φ : D → List Res → Prop} (h : pre__law_is_kind ds W Φ) : ds.length = 2 := by obtain ⟨_, rfl, _⟩ := h; rfl
theorem len__law_plain {ds : List D} {W : List Res} {Φ : D → List Res → Prop} (h : pre__law_plain ds W Φ) : ds.length = 1 := by obtain ⟨_, rfl, _⟩ := h; rfl
theorem len__law_same {ds : List D} {W : List Res} {Φ : D → List Res → Prop} (h : pre__law_same ds W Φ) : ds.length = 2 := by obtain ⟨_, rfl, _⟩ := h; rfl
theorem len__law_all {ds : List D} {W : List Res} {Φ : D → List Res → Prop} (h : pre__law_all ds W Φ) : ds.length = 1 := by obtain ⟨_, rfl, _⟩ := h; rfl
/-- _law_deal(script, salt); slots 0:script 1:salt 2:most 3:cells 4:mix 5:cell -/
def N__law_deal : List Str := ["script", "salt", "most", "cells", "mix", "cell"]
def t__law_deal (K : PySem.W.Frag) : TS := (tSeq (tAsg (tOp (rB K MulR) (tOp (rB K MulR) (tOp (rB K MulR) (tOp (rB K MulR) (tOp (rB K MulR) (tOp (rB K PowR) (tC (.int 10)) (tC (.int 64))) (tOp (rB K PowR) (tC (.int 10)) (tC (.int 64)))) (tOp (rB K PowR) (tC (.int 10)) (tC (.int 64)))) (tOp (rB K PowR) (tC (.int 10)) (tC (.int 64)))) (tOp (rB K PowR) (tC (.int 10)) (tC (.int 64)))) (tOp (rB K PowR) (tC (.int 10)) (tC (.int 64)))) (gName 2))
  (tSeq (tPar 3 4 (tCons (tLc (iU K (tSl (rS K SlF) (tVar 0) tNoPart (tPart (tC (.int 63))))) (gName 5) tYes (tOp (rB K ModR) (tCB (rC K IntR) (tCons (tCB (rC K AbsR) (tCons (tCB (rC K IntR) (tCons (tVar 5) tNil)) tNil)) tNil)) (tVar 2)) [5]) (tCons (tOp (rB K AddR) (tC (.int 70001)) (tOp (rB K MulR) (tC (.int 7919)) (tVar 1))) tNil)))
  (tSeq (tFor (iU K (tVarF 3)) (gName 5) (tAsg (tOp (rB K ModR) (tCB (rC K IntR) (tCons (tOp (rB K AddR) (tOp (rB K AddR) (tOp (rB K MulR) (tVar 4) (tC (.int 69621))) (tOp (rB K ModR) (tCB (rC K IntR) (tCons (tVar 5) tNil)) (tC (.int 2147483563)))) (tC (.int 23))) tNil)) (tC (.int 2147483647))) (gName 4)))
  (tRet (tLst (tCons (tRevL K (tLc (iU K (tVarF 3)) (gName 5) (tTest (tOp (rB K GeR) (tVar 5) (tOp (rB K PowR) (tC (.int 10)) (tC (.int 18))))) (tVarF 5) [5])) (tCons (tVarF 4) tNil)))))))

/-- _law_any(deal, bound); slots 0:deal 1:bound 2:rest -/
def N__law_any : List Str := ["deal", "bound", "rest"]
def t__law_any (K : PySem.W.Frag) : TS := (tSeq (tWhile (tAnd (tTest (tOp (rB K GtR) (tCB (rC K LenR) (tCons (tOp (rB K IxD) (tVar 0) (tC (.int 0))) tNil)) (tC (.int 0)))) (tTest (tOp (rB K EqR) (tOp (rB K IxD) (tOp (rB K IxD) (tVar 0) (tC (.int 0))) (tUn (rU1 K NegR) (tC (.int 1)))) (tC (.int 0))))) (tDrop (tBM0 K "list" rPop (tOp (rB K IxD) (tVar 0) (tC (.int 0))))))
  (tSeq (tIfS (tTest (tOp (rB K GtR) (tCB (rC K LenR) (tCons (tOp (rB K IxD) (tVar 0) (tC (.int 0))) tNil)) (tC (.int 0)))) (tSeq (tAsg (tCB (rC K IntR) (tCons (tBM0 K "list" rPop (tOp (rB K IxD) (tVar 0) (tC (.int 0)))) tNil)) (gName 2))
  (tSeq (tDrop (tBM K "list" rAppend (tOp (rB K IxD) (tVar 0) (tC (.int 0))) (tCons (tOp (rB K DivR) (tVar 2) (tVar 1)) tNil)))
  (tRet (tOp (rB K ModR) (tVar 2) (tVar 1))))) tNext)
  (tSeq (tAsg (tOp (rB K ModR) (tCB (rC K IntR) (tCons (tOp (rB K AddR) (tOp (rB K MulR) (tOp (rB K IxD) (tVar 0) (tC (.int 1))) (tC (.int 48271))) (tC (.int 31))) tNil)) (tC (.int 2147483647))) (gSub (tVar 0) (tC (.int 1)) rSetL))
  (tRet (tOp (rB K ModR) (tCB (rC K IntR) (tCons (tOp (rB K DivR) (tOp (rB K IxD) (tVar 0) (tC (.int 1))) (tC (.int 64))) tNil)) (tVar 1))))))

/-- _law_of(deal, some); slots 0:deal 1:some -/
def N__law_of : List Str := ["deal", "some"]
def t__law_of (K : PySem.W.Frag) : TS := (tRet (tOp (rB K IxD) (tVar 1) (tCall (spW K pre__law_any) [] E0 (tCons (tVarF 0) (tCons (tCB (rC K LenR) (tCons (tVar 1) tNil)) tNil)))))

/-- _law_is_kind(told, due); slots 0:told 1:due -/
def N__law_is_kind : List Str := ["told", "due"]
def t__law_is_kind (K : PySem.W.Frag) : TS := (tSeq (tIfS (tTest (tOp (rB K IsR) (tVar 1) (tC .non))) (tRet (tOp (rB K IsR) (tVar 0) (tC .non))) tNext)
  (tSeq (tIfS (tOr (tTest (tOp (rB K IsR) (tVar 1) (tC (.bl true)))) (tTest (tOp (rB K IsR) (tVar 1) (tC (.bl false))))) (tRet (tIf (tB (tVar 1)) (tOp (rB K IsR) (tVar 0) (tC (.bl true))) (tOp (rB K IsR) (tVar 0) (tC (.bl false))))) tNext)
  (tSeq (tIfS (tB (tCB (rIsi K) (tCons (tVar 1) (tCons (tC (.ty "str")) tNil)))) (tRet (tAndV (tCB (rIsi K) (tCons (tVar 0) (tCons (tC (.ty "str")) tNil))) (tOp (rB K EqR) (tVar 0) (tVar 1)))) tNext)
  (tRet (tAndV (tCB (rIsi K) (tCons (tVar 0) (tCons (tC (.ty "int")) tNil))) (tAndV (tNotV (tCB (rIsi K) (tCons (tVar 0) (tCons (tC (.ty "bool")) tNil)))) (tOp (rB K EqR) (tVar 0) (tVar 1))))))))

/-- _law_same(told, due); slots 0:told 1:due 2:todo* 3:one 4:other -/
def N__law_same : List Str := ["told", "due", "todo", "one", "other"]
def t__law_same (K : PySem.W.Frag) : TS := (tSeq (tAsg (tLst (tCons (tTup (tCons (tVarF 0) (tCons (tVarF 1) tNil))) tNil)) (gOwn 2))
  (tSeq (tWhile (tTest (tOp (rB K GtR) (tCB (rC K LenR) (tCons (tVar 2) tNil)) (tC (.int 0)))) (tSeq (tAsg (tBM0 K "list" rPop (tVar 2)) (gTup K 2 (gCons (gName 3) (gCons (gName 4) gNil))))
  (tSeq (tAsg (tCall (spW K pre__law_plain) [] E0 (tCons (tVarF 3) tNil)) (gName 3))
  (tIfS (tB (tCB (rIsi K) (tCons (tVar 4) (tCons (tC (.ty "tuple")) tNil)))) (tSeq (tIfS (tOr (tNot (tB (tCB (rIsi K) (tCons (tVar 3) (tCons (tC (.ty "tuple")) tNil))))) (tTest (tOp (rB K NeR) (tCB (rC K LenR) (tCons (tVar 3) tNil)) (tCB (rC K LenR) (tCons (tVar 4) tNil))))) (tRet (tC (.bl false))) tNext)
  (tAsg (tOp (rB K AddR) (tVar 2) (tZipL K (tCons (tVarF 3) (tCons (tVarF 4) tNil)))) (gOwn 2))) (tIfS (tOr (tB (tCB (rIsiT K) (tCons (tVar 3) (tCons (tTup (tCons (tC (.ty "tuple")) (tCons (tC (.ty "list")) (tCons (tC (.ty "dict")) tNil)))) tNil)))) (tNot (tB (tCall (spW K pre__law_is_kind) [] E0 (tCons (tVarF 3) (tCons (tVarF 4) tNil)))))) (tRet (tC (.bl false))) tNext)))))
  (tRet (tC (.bl true)))))

/-- _law_all(pairs); slots 0:pairs 1:told 2:due -/
def N__law_all : List Str := ["pairs", "told", "due"]
def t__law_all (K : PySem.W.Frag) : TS := (tRet (tOp (rB K EqR) (tCB (rC K LenR) (tCons (tLc (iU K (tVarF 0)) (gTup K 2 (gCons (gName 1) (gCons (gName 2) gNil))) (tNot (tB (tCall (spW K pre__law_same) [] E0 (tCons (tVarF 1) (tCons (tVarF 2) tNil))))) (tVarF 1) [1, 2]) tNil)) (tC (.int 0))))

abbrev endP (Φ : D → List Res → Prop) : Post := ⟨fun _ W' => Φ .non W', Φ, fun _ _ => False, fun _ _ => False⟩
section
variable {K : PySem.W.Frag} {ds : List D} {W : List Res} {Φ : D → List Res → Prop}
theorem StP.dealI {t : TS} {δ : List SD} {P : Post} {d p : Addr} (h : ∀ n, n ≤ 63 → StP K t δ [dealN d p n] P) : StP K t δ [dealR d p] P := fun Y σ H O E as x => by
  obtain ⟨n, hn, as'⟩ := as.dealI
  exact h n hn Y σ H O E as' x
theorem StP.dealO {t : TS} {δ : List SD} {Φ : D → List Res → Prop} {W : List Res} {d p : Addr} {nx bk ct : List SD → List Res → Prop} (h : StP K t δ W ⟨nx, fun d' W' => ∃ n, n ≤ 63 ∧ W' = [dealN d p n] ∧ Φ d' [dealR d p], bk, ct⟩) : StP K t δ W ⟨nx, Φ, bk, ct⟩ := fun Y σ H O E as x => by
  refine h Y σ H O E as ⟨x.nx, ?_, x.bk, x.ct⟩
  rintro v H' d' W' st nd ai rp ⟨n, hn, rfl, q⟩
  exact x.rt v H' d' [dealR d p] st nd (fun r hr => by rw [List.mem_singleton.mp hr]; exact ⟨n, hn, ai _ (by simp)⟩) rp q
theorem log40 {b : Int} (h0 : 0 < b) (h : b < 2 ^ 40) : b.natAbs.log2 < 9000 := by
  have e : b.natAbs < 2 ^ 9000 := by
    have h2 : (b.natAbs : Int) < 2 ^ 40 := by omega
    have h3 : b.natAbs < 2 ^ 40 := by
      have e1 : ((2 ^ 40 : Nat) : Int) = 2 ^ 40 := by decide
      omega
    exact Nat.lt_of_lt_of_le h3 (Nat.pow_le_pow_right (by decide) (by decide))
  exact (Nat.log2_lt (by omega)).mpr e
theorem walk__law_any (h : pre__law_any ds W Φ) : StP K (t__law_any K) (st0 N__law_any ds) W (endP Φ) := by
  obtain ⟨d, p, b, rfl, rfl, hb, hb2, q⟩ := h
  refine StP.dealI fun n hn => ?_
  refine StP.dealO (d := d) (p := p) ?_
  unfold t__law_any
  refine sp_cut (fun δ' W' => ∃ m, m ≤ 63 ∧ W' = [dealN d p m] ∧ δ' = [.d (.raw (.ref d)), .d (.int b), .no]) ?_ ?_
  · refine sp_while (fun m δ' W' => m ≤ 63 ∧ W' = [dealN d p m] ∧ δ' = [.d (.raw (.ref d)), .d (.int b), .no]) n ⟨hn, rfl, rfl⟩ ?_
    rintro m δ' W' ⟨hm, rfl, rfl⟩
    walk_at "x"
    refine tp_dlen rfl ⟨fun h1 => ?_, fun h1 => ⟨fun z => (Bool.noConfusion z), fun _ => ⟨_, hm, rfl, rfl⟩⟩⟩
    have h1 := of_decide_eq_true h1
    refine tp_dlast rfl h1 fun b => ⟨fun _ => ?_, fun _ => ⟨_, hm, rfl, rfl⟩⟩
    walk_at "x"
    obtain ⟨k, rfl⟩ : ∃ k, m = k + 1 := ⟨m - 1, by omega⟩
    refine ep_dpop rfl fun x hx => ?_
    exact ⟨k, Nat.lt_succ_self k, by omega, rfl, rfl⟩
  · rintro δ' W' ⟨m, hm, rfl, rfl⟩
    iterate 2 walk_at "x"
    refine tp_dlen rfl ⟨fun h1 => ?_, fun h1 => ?_⟩
    · have h1 := of_decide_eq_true h1
      obtain ⟨k, rfl⟩ : ∃ k, m = k + 1 := ⟨m - 1, by omega⟩
      repeat walk_at "x"
      refine ep_dpop rfl fun x hx => ?_
      repeat walk_at "x"
      have hk : k < 64 := by omega
      refine ep_dapp rfl hk ?_
      repeat walk_at "x"
      refine ⟨_, _, _, rfl, rfl, ⟨⟨hb, log40 hb hb2⟩, rfl⟩, _, rfl, Int.ediv_nonneg hx (Int.le_of_lt hb), rfl, rfl, ?_⟩
      repeat walk_at "x"
      exact ⟨k + 1, hm, rfl, q _ (Int.emod_nonneg _ (by omega)) (Int.emod_lt_of_pos _ hb)⟩
    · iterate 2 walk_at "x"
      refine sp_dmix ?_
      iterate 5 walk_at "x"
      refine ep_dmix rfl fun x hx hx2 => ?_
      repeat walk_at "x"
      refine ⟨⟨Int.emod_nonneg _ (by omega), Int.emod_lt_of_pos _ (by omega)⟩, rfl, rfl, ?_⟩
      iterate 5 walk_at "x"
      refine ep_dmix rfl fun x hx hx2 => ?_
      repeat walk_at "x"
      exact ⟨m, hm, rfl, q _ (Int.emod_nonneg _ (by omega)) (Int.emod_lt_of_pos _ hb)⟩

theorem walk__law_deal (h : pre__law_deal ds W Φ) : StP K (t__law_deal K) (st0 N__law_deal ds) W (endP Φ) := by
  obtain ⟨ns, salt, rfl, rfl, hs, hs2, q⟩ := h
  unfold t__law_deal
  repeat walk_at "x"
  have hM : (0 : Int) < 10 ^ Int.toNat 64 * 10 ^ Int.toNat 64 * 10 ^ Int.toNat 64 * 10 ^ Int.toNat 64 * 10 ^ Int.toNat 64 * 10 ^ Int.toNat 64 := by decide +kernel
  generalize (10 ^ Int.toNat 64 * 10 ^ Int.toNat 64 * 10 ^ Int.toNat 64 * 10 ^ Int.toNat 64 * 10 ^ Int.toNat 64 * 10 ^ Int.toNat 64 : Int) = M at hM
  refine ep_map (fun d => match d with | .int i => .int ((i.natAbs : Int) % M) | d => d) (tgin_name (by simp)) ?_
  repeat walk_at "x"
  have hl : (cutL ns none (some 63)).length ≤ 63 := by
    rw [show (63 : Int) = ((63 : Nat) : Int) from rfl, cutL_to, List.length_take]
    exact Nat.min_le_left _ _
  generalize cutL ns none (some 63) = cs at hl
  refine ⟨⟨rfl, trivial⟩, by rw [List.length_map]; exact Nat.le_trans hl (by decide), fun i d e => ?_, ?_⟩
  · rw [List.getElem?_map] at e
    cases z : cs[i]? with
    | none => rw [z] at e; cases e
    | some c =>
      rw [z] at e
      cases e
      walk_at "x"
      refine ⟨rfl, ?_⟩
      repeat walk_at "x"
      exact ⟨rfl, rfl, rfl⟩
  · have em : List.map (fun d => match d with | .int i => D.int ((i.natAbs : Int) % M) | d => d) (cs.map D.int) = (cs.map fun i => (i.natAbs : Int) % M).map D.int := by
      rw [List.map_map, List.map_map]
      rfl
    rw [em]
    have hl2 : (cs.map fun i => (i.natAbs : Int) % M).length ≤ 63 := by rw [List.length_map]; exact hl
    have hp : ∀ x ∈ (cs.map fun i => (i.natAbs : Int) % M), 0 ≤ x := fun x hx => by
      obtain ⟨y, _, rfl⟩ := List.mem_map.mp hx
      exact Int.emod_nonneg _ (by omega)
    generalize (cs.map fun i => (i.natAbs : Int) % M) = L at hl2 hp
    repeat walk_at "x"
    refine sp_for ?_
    repeat walk_at "x"
    refine ⟨fun i δ' W' => W' = [] ∧ ∃ (m : Int) (c : SD), 0 ≤ m ∧ m < 2147483647 ∧ δ' = [.d (.frz ns), .d (.int salt), .d (.int M), .d (.lst (L.map D.int)), .d (.int m), c], ⟨rfl, _, _, ?_, ?_, rfl⟩, ?_, ?_⟩
    · omega
    · omega
    · rintro i d δ' W' e ⟨rfl, m, c, h1, h2, rfl⟩
      obtain ⟨x, _, rfl⟩ : ∃ x, x ∈ L ∧ d = .int x := by
        obtain ⟨x, hx, rfl⟩ := List.mem_map.mp (List.mem_of_getElem? e)
        exact ⟨x, hx, rfl⟩
      repeat walk_at "x"
      exact ⟨rfl, _, _, Int.emod_nonneg _ (by omega), Int.emod_lt_of_pos _ (by omega), rfl⟩
    · rintro δ' W' ⟨rfl, m, c, h1, h2, rfl⟩
      refine sp_no 5 (sp_retDeal ?_)
      refine ep_filt (fun d => d) (fun d => match d with | .int x => decide ((10 : Int) ^ (18 : Int).toNat ≤ x) | _ => false) (tgin_name (by simp)) ?_
      repeat walk_at "x"
      refine ⟨⟨rfl, trivial⟩, by rw [List.length_map]; exact Nat.le_trans hl2 (by decide), fun i d e => ?_, ?_⟩
      · obtain ⟨x, _, rfl⟩ : ∃ x, x ∈ L ∧ d = .int x := by
          obtain ⟨x, hx, rfl⟩ := List.mem_map.mp (List.mem_of_getElem? e)
          exact ⟨x, hx, rfl⟩
        walk_at "x"
        refine ⟨rfl, ?_⟩
        repeat walk_at "x"
        refine ⟨rfl, rfl, rfl, fun _ => ?_⟩
        repeat walk_at "x"
        exact ⟨rfl, rfl, rfl⟩
      · have ef : List.map (fun d => d) (List.filter (fun d => match d with | .int x => decide ((10 : Int) ^ (18 : Int).toNat ≤ x) | _ => false) (L.map D.int)) = (L.filter fun x => decide ((10 : Int) ^ (18 : Int).toNat ≤ x)).map D.int := by
          rw [List.map_id', List.filter_map]
          rfl
        rw [ef]
        refine ⟨rfl, L.filter fun x => decide ((10 : Int) ^ (18 : Int).toNat ≤ x), rfl, Nat.le_trans (List.length_filter_le _ _) hl2, fun x hx => hp x (List.mem_filter.mp hx).1, ?_⟩
        repeat walk_at "x"
        exact ⟨rfl, m, rfl, ⟨h1, h2⟩, q⟩

theorem atI_of {xs : List D} {r : Int} (h0 : 0 ≤ r) (h1 : r < xs.length) : ∃ x ∈ xs, L2.atI xs r = some x := by
  obtain ⟨n, rfl⟩ := Int.eq_ofNat_of_zero_le h0
  have hn : n < xs.length := by omega
  exact ⟨xs[n], List.getElem_mem hn, by rw [atI_nat, List.getElem?_eq_getElem hn]⟩
theorem walk__law_of (h : pre__law_of ds W Φ) : StP K (t__law_of K) (st0 N__law_of ds) W (endP Φ) := by
  obtain ⟨d, p, s, xs, rfl, rfl, hw, hne, hl, q⟩ := h
  have hpos : 0 < xs.length := List.length_pos_iff.mpr hne
  unfold t__law_of
  cases s <;> first | exact hw.elim | skip
  · rename_i s
    have e : xs = s.cps.toList.map fun c => D.str ⟨#[c]⟩ := hw
    have el : s.length = xs.length := by rw [e]; simp [Str.length]
    have hz : s.length ≤ sizeLine := by rw [el]; exact hl
    repeat walk_at "x"
    refine ⟨d, p, _, rfl, rfl, by omega, by omega, fun r h0 h1 => ?_⟩
    obtain ⟨n, rfl⟩ := Int.eq_ofNat_of_zero_le h0
    have hn : n < s.cps.toList.length := by
      have : s.length = s.cps.toList.length := by simp [Str.length]
      omega
    refine x3 rfl rfl ⟨hz, s.cps.toList[n], by rw [atI_nat, List.getElem?_eq_getElem hn], rfl⟩ (x1r rfl (q _ ?_))
    rw [e]
    exact List.mem_map.mpr ⟨_, List.getElem_mem hn, rfl⟩
  · rename_i l
    have e : xs = l := hw
    subst e
    repeat walk_at "x"
    refine ⟨d, p, _, rfl, rfl, by omega, by omega, fun r h0 h1 => ?_⟩
    obtain ⟨x, hx, ea⟩ := atI_of h0 h1
    exact x3 rfl rfl ⟨x, ea, rfl⟩ (x1r rfl (q x hx))
  · rename_i l
    have e : xs = l := hw
    subst e
    repeat walk_at "x"
    refine ⟨d, p, _, rfl, rfl, by omega, by omega, fun r h0 h1 => ?_⟩
    obtain ⟨x, hx, ea⟩ := atI_of h0 h1
    exact x3 rfl rfl ⟨x, ea, rfl⟩ (x1r rfl (q x hx))
/-- what isinstance says of plain data -/
structure Kd (K : PySem.W.Frag) : Prop where
  at_ : ∀ T ∈ ["NoneType", "bool", "int", "str", "tuple", "list", "dict"], ∀ U ∈ ["tuple", "list", "dict", "str", "int", "bool"], PySem.W.kitOne K (.type T) (.type U) = some (decide (T = U) || (decide (T = "bool") && decide (U = "int")))
theorem Kd.f (k : Kd K) (T U : String) {b : Bool} (hT : T ∈ ["NoneType", "bool", "int", "str", "tuple", "list", "dict"] := by decide) (hU : U ∈ ["tuple", "list", "dict", "str", "int", "bool"] := by decide) (hb : (decide (T = U) || (decide (T = "bool") && decide (U = "int"))) = b := by decide) : PySem.W.kitOne K (.type T) (.type U) = some b := by
  rw [k.at_ T hT U hU, hb]
theorem isi_go {P : Bool → Prop} {δ : List SD} {rs : List RD} {d : D} {T U : String} {b : Bool} (e : resL δ rs = some [d, .raw (.ty U)]) (t : tyD d = some (.type T)) (hk : PySem.W.kitOne K (.type T) (.type U) = some b) (h : P b) :
    ∃ d c t u b, resL δ rs = some [d, c] ∧ TyDR K d t ∧ ClD c u ∧ PySem.W.kitOne K t u = some b ∧ P b := ⟨d, _, _, _, b, e, .p t, .ty U, hk, h⟩
theorem walk__law_is_kind (kd : Kd K) (h : pre__law_is_kind ds W Φ) : StP K (t__law_is_kind K) (st0 N__law_is_kind ds) W (endP Φ) := by
  obtain ⟨x, rfl, hf, q⟩ := h
  unfold t__law_is_kind
  cases x <;> first | exact hf.elim | skip
  · repeat walk_at "x"
    exact q
  · rename_i b
    cases b
    · repeat walk_at "x"
      exact q
    · repeat walk_at "x"
      exact q
  · rename_i i
    repeat walk_at "x"
    refine isi_go rfl rfl (kd.f "int" "str" (b := false)) ?_
    repeat walk_at "x"
    refine isi_go rfl rfl (kd.f "int" "int" (b := true)) ?_
    repeat walk_at "x"
    refine isi_go rfl rfl (kd.f "int" "bool" (b := false)) ?_
    repeat walk_at "x"
    rw [decide_eq_true rfl]
    exact q
  · rename_i i
    repeat walk_at "x"
    refine isi_go rfl rfl (kd.f "str" "str" (b := true)) ?_
    repeat walk_at "x"
    refine isi_go rfl rfl (kd.f "str" "str" (b := true)) ?_
    repeat walk_at "x"
    rw [decide_eq_true rfl]
    exact q
theorem szL_app : ∀ (xs ys : List D), szL (xs ++ ys) = szL xs + szL ys
  | [], ys => by rw [List.nil_append]; simp [szL]
  | x :: xs, ys => by
    rw [List.cons_append, szL, szL, szL_app xs ys]
    omega
theorem szD_pos : ∀ d : D, 1 ≤ szD d
  | .tup l => by rw [szD]; omega
  | .non => Nat.le_refl _
  | .bl _ => Nat.le_refl _
  | .int _ => Nat.le_refl _
  | .str _ => Nat.le_refl _
  | .lst _ => Nat.le_refl _
  | .ins _ _ _ => Nat.le_refl _
  | .dct _ _ => Nat.le_refl _
  | .raw _ => Nat.le_refl _
  | .frz _ => Nat.le_refl _
theorem szL_len : ∀ xs : List D, xs.length ≤ szL xs
  | [] => Nat.zero_le _
  | x :: xs => by
    have h1 := szD_pos x
    have h2 := szL_len xs
    rw [szL, List.length_cons]
    omega
theorem zipD_self (l : List D) : zipD l l = l.map pairD := by
  unfold zipD
  induction l with
  | nil => rfl
  | cons a l ih => rw [List.zipWith_cons_cons, ih]; rfl
theorem kit3 (kd : Kd K) {T : String} (hT : T ∈ ["NoneType", "bool", "int", "str", "tuple", "list", "dict"]) (h1 : T ≠ "tuple") (h2 : T ≠ "list") (h3 : T ≠ "dict") : PySem.W.kitAny K (.type T) [.type "tuple", .type "list", .type "dict"] = some false := by
  have e1 := kd.f T "tuple" (b := false) hT (by decide) (by simp [h1])
  have e2 := kd.f T "list" (b := false) hT (by decide) (by simp [h2])
  have e3 := kd.f T "dict" (b := false) hT (by decide) (by simp [h3])
  simp [PySem.W.kitAny, e1, e2, e3]
theorem isiT_go {P : Bool → Prop} {δ : List SD} {r : RD} {rs : List RD} {d : D} {T : String} {cs : List D} {us : List Value} {b : Bool} (e : res δ r = some d) (e2 : vals rs = some cs) (hl : cs.length ≤ sizeLine) (t : tyD d = some (.type T)) (hp : Paired ClD cs us) (hk : PySem.W.kitAny K (.type T) us = some b) (h : P b) :
    ∃ d cs t us b, res δ r = some d ∧ vals rs = some cs ∧ cs.length ≤ sizeLine ∧ TyDR K d t ∧ Paired ClD cs us ∧ PySem.W.kitAny K t us = some b ∧ P b := ⟨d, cs, _, us, b, e, e2, hl, .p t, hp, hk, h⟩
theorem ep_pair {te : TE} {δ : List SD} {i : Nat} {xs0 : List D} {Φ : RD → List SD → List Res → Prop} (e0 : δ[i]? = some (.o (.l (xs0.map pairD)))) (h : EvP K te δ W fun r δ1 W1 => ∃ x xs, r.val = some (pairD x) ∧ δ1[i]? = some (.o (.l (xs.map pairD))) ∧ xs.length < sizeLine ∧ Φ (.v .non) (δ1.set i (.o (.l ((xs ++ [x]).map pairD)))) W1) :
    EvP K (tBM K "list" rAppend (tVar i) (tCons te tNil)) δ W Φ := ep_append e0 (h.imp fun r δ1 W1 ⟨x, xs, h1, h2, h3, h4⟩ => ⟨pairD x, xs.map pairD, h1, h2, by rw [List.length_map]; exact h3, by
  rw [List.map_append] at h4
  exact h4⟩)
theorem x2p {δ : List SD} {r : RD} {i : Nat} {x : D} {xs : List D} {P : D → List D → Prop} (h1 : r.val = some (pairD x)) (h2 : δ[i]? = some (.o (.l (xs.map pairD)))) (h3 : xs.length < sizeLine) (h : P x xs) : ∃ x xs, r.val = some (pairD x) ∧ δ[i]? = some (.o (.l (xs.map pairD))) ∧ xs.length < sizeLine ∧ P x xs := ⟨x, xs, h1, h2, h3, h⟩
theorem walk__law_same (kd : Kd K) (h : pre__law_same ds W Φ) : StP K (t__law_same K) (st0 N__law_same ds) W (endP Φ) := by
  obtain ⟨x0, rfl, hp, hz, q⟩ := h
  unfold t__law_same
  repeat walk_at "x"
  refine sp_while (fun m δ' W' => W' = W ∧ ∃ (xs : List D) (c1 c2 : SD), szL xs = m ∧ m ≤ 16777216 ∧ (∀ x ∈ xs, Pl x) ∧ δ' = [.d x0, .d x0, .o (.l (xs.map pairD)), c1, c2]) (szD x0) ⟨rfl, [x0], _, _, by simp [szL], hz, by simpa using hp, rfl⟩ ?_
  rintro m δ' W' ⟨rfl, xs, c1, c2, hm, hm2, hpl, rfl⟩
  repeat walk_at "x"
  refine ⟨fun h1 => ?_, fun _ => ?_⟩
  · have h1 := of_decide_eq_true h1
    rw [List.length_map] at h1
    obtain ⟨init, x, rfl⟩ : ∃ init x, xs = init ++ [x] := by
      refine ⟨xs.dropLast, xs.getLast (fun e => ?_), (List.dropLast_concat_getLast _).symm⟩
      rw [e] at h1
      simp at h1
    have hx := hpl x (by simp)
    have hin : ∀ y ∈ init, Pl y := fun y hy => hpl y (by simp [hy])
    have hs : szL init + szD x = m := by rw [← hm, szL_app]; simp [szL]
    walk_at "x"
    walk_at "x"
    refine ep_pop (ds := (init ++ [x]).map pairD) (d := pairD x) rfl (by simp) ?_
    have ed : ((init ++ [x]).map pairD).dropLast = init.map pairD := by simp
    rw [ed]
    unfold pairD
    repeat walk_at "x"
    refine ⟨x, rfl, hx, ?_⟩
    repeat walk_at "x"
    have fin : ∀ c1 c2 : SD, ∃ m', m' < m ∧ (W' = W' ∧ ∃ (xs : List D) (c1' c2' : SD), szL xs = m' ∧ m' ≤ 16777216 ∧ (∀ x ∈ xs, Pl x) ∧ [SD.d x0, SD.d x0, SD.o (OD.l (init.map fun x => D.tup [x, x])), c1, c2] = [.d x0, .d x0, .o (.l (xs.map pairD)), c1', c2']) := fun c1 c2 => by
      have := szD_pos x
      exact ⟨szL init, by omega, rfl, init, c1, c2, rfl, by omega, hin, rfl⟩
    cases hx with
    | non =>
      refine isi_go rfl rfl (kd.f "NoneType" "tuple" (b := false)) ?_
      repeat walk_at "x"
      refine isiT_go rfl rfl (by decide) rfl (.cons (.ty _) (.cons (.ty _) (.cons (.ty _) .nil))) (kit3 kd (T := "NoneType") (by decide) (by decide) (by decide) (by decide)) ?_
      repeat walk_at "x"
      refine ⟨_, rfl, trivial, ?_⟩
      repeat walk_at "x"
      exact fin _ _
    | bl b =>
      refine isi_go rfl rfl (kd.f "bool" "tuple" (b := false)) ?_
      repeat walk_at "x"
      refine isiT_go rfl rfl (by decide) rfl (.cons (.ty _) (.cons (.ty _) (.cons (.ty _) .nil))) (kit3 kd (T := "bool") (by decide) (by decide) (by decide) (by decide)) ?_
      repeat walk_at "x"
      refine ⟨_, rfl, trivial, ?_⟩
      repeat walk_at "x"
      exact fin _ _
    | int i =>
      refine isi_go rfl rfl (kd.f "int" "tuple" (b := false)) ?_
      repeat walk_at "x"
      refine isiT_go rfl rfl (by decide) rfl (.cons (.ty _) (.cons (.ty _) (.cons (.ty _) .nil))) (kit3 kd (T := "int") (by decide) (by decide) (by decide) (by decide)) ?_
      repeat walk_at "x"
      refine ⟨_, rfl, trivial, ?_⟩
      repeat walk_at "x"
      exact fin _ _
    | str z =>
      refine isi_go rfl rfl (kd.f "str" "tuple" (b := false)) ?_
      repeat walk_at "x"
      refine isiT_go rfl rfl (by decide) rfl (.cons (.ty _) (.cons (.ty _) (.cons (.ty _) .nil))) (kit3 kd (T := "str") (by decide) (by decide) (by decide) (by decide)) ?_
      repeat walk_at "x"
      refine ⟨_, rfl, trivial, ?_⟩
      repeat walk_at "x"
      exact fin _ _
    | @tup l hpl2 =>
      refine isi_go rfl rfl (kd.f "tuple" "tuple" (b := true)) ?_
      repeat walk_at "x"
      refine isi_go rfl rfl (kd.f "tuple" "tuple" (b := true)) ?_
      repeat walk_at "x"
      refine ⟨fun z => by simp at z, fun _ => ?_⟩
      repeat walk_at "x"
      refine ⟨l, l, rfl, rfl, ?_⟩
      have h2 : szD (.tup l) = 1 + szL l := by rw [szD]
      have h3 := szL_len l
      have h4 := szL_len init
      refine x3 rfl rfl ⟨?_, rfl⟩ ?_
      · rw [zipD_self, List.length_map, List.length_map, sizeLine_eq]
        omega
      · repeat walk_at "x"
        refine ⟨szL init + szL l, by omega, rfl, init ++ l, .d (.tup l), .d (.tup l), szL_app _ _, by omega, fun y hy => ?_, ?_⟩
        · rcases List.mem_append.mp hy with z | z
          · exact hin y z
          · exact hpl2 y z
        · have e : (init ++ l).map (fun x => D.tup [x, x]) = init.map (fun x => D.tup [x, x]) ++ l.map pairD := List.map_append
          rw [zipD_self, e]
          rfl
  · repeat walk_at "x"
    exact q
theorem walk__law_all (h : pre__law_all ds W Φ) : StP K (t__law_all K) (st0 N__law_all ds) W (endP Φ) := by
  obtain ⟨xs, rfl, hl, hp, q⟩ := h
  unfold t__law_all
  iterate 4 walk_at "x"
  refine ep_filt (fun d => match d with | .tup (a :: _) => a | d => d) (fun _ => false) (tgin_tup (tgin_cons (by simp) (tgin_cons (by simp) tgin_nil))) ?_
  repeat walk_at "x"
  refine ⟨⟨rfl, rfl, trivial⟩, by rw [List.length_map]; exact hl, fun i d e => ?_, ?_⟩
  · obtain ⟨x, hx, rfl⟩ := List.mem_map.mp (List.mem_of_getElem? e)
    unfold pairD
    repeat walk_at "x"
    refine ⟨rfl, ?_⟩
    repeat walk_at "x"
    refine ⟨x, rfl, (hp x hx).1, (hp x hx).2, ?_⟩
    repeat walk_at "x"
    exact ⟨rfl, rfl, rfl, fun z => Bool.noConfusion z⟩
  · have e : List.filter (fun _ => false) (xs.map pairD) = [] := by simp
    rw [e]
    repeat walk_at "x"
    exact q
end
end Lg
/-! # K79a: what the defs of the octets do, in plain terms -/
namespace K79
open PySem PySem.Spec PyProof.Rows L2 Lg
def octs (n : Nat) : List Int := if n < 128 then [(n : Int)] else (128 + ((n % 128 : Nat) : Int)) :: octs (n / 128)
termination_by n
decreasing_by omega
theorem octs_small {n : Nat} (h : n < 128) : octs n = [(n : Int)] := by rw [octs, if_pos h]
theorem octs_great {n : Nat} (h : ¬ n < 128) : octs n = (128 + ((n % 128 : Nat) : Int)) :: octs (n / 128) := by rw [octs, if_neg h]
theorem octs_len : ∀ (k n : Nat), n < 128 ^ (k + 1) → (octs n).length ≤ k + 1
  | 0, n, h => by rw [octs_small (by simpa using h)]; simp
  | k + 1, n, h => by
    by_cases hn : n < 128
    · rw [octs_small hn]; simp
    · rw [octs_great hn, List.length_cons]
      have := octs_len k (n / 128) (by rw [Nat.div_lt_iff_lt_mul (by decide)]; rw [Nat.pow_succ] at h; exact h)
      omega
theorem octs_pos (n : Nat) : 1 ≤ (octs n).length := by
  by_cases hn : n < 128
  · rw [octs_small hn]; simp
  · rw [octs_great hn, List.length_cons]; omega
def I8 (o : Int) : Prop := 0 ≤ o ∧ o < 256
theorem octs_i8 (n : Nat) : ∀ o ∈ octs n, I8 o := by
  induction n using Nat.strongRecOn with
  | _ n ih =>
    intro o ho
    by_cases hn : n < 128
    · rw [octs_small hn, List.mem_singleton] at ho
      subst ho
      unfold I8
      omega
    · rw [octs_great hn] at ho
      rcases List.mem_cons.mp ho with e | ho
      · subst e
        unfold I8
        omega
      · exact ih (n / 128) (by omega) o ho
/-- the value of figures to a base, the least first -/
def valB (b : Int) : List Int → Int
  | [] => 0
  | f :: r => f + b * valB b r
/-- the figures ahead of the first octet less than 128, and it -/
def rd : List Int → Option (List Int × Int)
  | [] => none
  | o :: r => if o < 128 then some ([], o) else match rd r with
    | none => none
    | some (f, l) => some ((o - 128) :: f, l)
def numAt (os : List Int) (at_ : Int) : Option (Int × Int) := if at_ < 0 then none else match rd (os.drop at_.toNat) with
  | none => none
  | some (f, l) => if f ≠ [] ∧ l = 0 then none else some (valB 128 (f ++ [l]), at_ + f.length + 1)
def numD : Option (Int × Int) → D
  | none => .non
  | some (n, e) => .tup [.int n, .int e]
/-- rd gives the figures of octs -/
theorem rd_octs (n : Nat) (r : List Int) : ∃ f l, rd (octs n ++ r) = some (f, l) ∧ valB 128 (f ++ [l]) = n ∧ f.length + 1 = (octs n).length ∧ (f ≠ [] → l ≠ 0) := by
  have key : ∀ n : Nat, ∃ f l, rd (octs n ++ r) = some (f, l) ∧ valB 128 (f ++ [l]) = n ∧ f.length + 1 = (octs n).length ∧ (0 < n → l ≠ 0) := by
    intro n
    induction n using Nat.strongRecOn with
    | _ n ih =>
      by_cases hn : n < 128
      · refine ⟨[], n, ?_, ?_, ?_, fun h => by omega⟩
        · rw [octs_small hn]
          show (if (n : Int) < 128 then _ else _) = _
          rw [if_pos (by omega)]
        · simp [valB]
        · rw [octs_small hn]; rfl
      · obtain ⟨f, l, h1, h2, h3, h4⟩ := ih (n / 128) (by omega)
        refine ⟨(128 + ((n % 128 : Nat) : Int) - 128) :: f, l, ?_, ?_, ?_, fun _ => h4 (by omega)⟩
        · rw [octs_great hn, List.cons_append]
          show (if (128 + ((n % 128 : Nat) : Int)) < 128 then _ else _) = _
          rw [if_neg (by omega), h1]
        · show _ + 128 * valB 128 (f ++ [l]) = _
          rw [h2]
          omega
        · rw [octs_great hn, List.length_cons, List.length_cons, h3]
  obtain ⟨f, l, h1, h2, h3, h4⟩ := key n
  refine ⟨f, l, h1, h2, h3, fun hf hl => ?_⟩
  have hn : ¬ 0 < n := fun h => h4 h hl
  have e : n = 0 := by omega
  subst e
  rw [octs_small (by decide)] at h3
  cases f with
  | nil => exact hf rfl
  | cons a f => simp at h3
theorem numAt_octs (a : List Int) (n : Nat) (r : List Int) : numAt (a ++ octs n ++ r) a.length = some ((n : Int), (a.length : Int) + ((octs n).length : Int)) := by
  obtain ⟨f, l, h1, h2, h3, h4⟩ := rd_octs n r
  unfold numAt
  rw [if_neg (by omega), Int.toNat_natCast, List.append_assoc, List.drop_left, h1]
  show (if f ≠ [] ∧ l = 0 then none else _) = _
  rw [if_neg (fun z => h4 z.1 z.2), h2]
  congr 2
  omega
/-! the signs -/
def okc (o : Int) : Bool := decide (o = 10) || (decide (32 ≤ o) && (decide (o ≤ 126) && decide (o ≠ 37)))
def chrS (o : Int) : Str := ⟨#[o.toNat]⟩
def txtS (l : List Int) : Str := ⟨(l.map Int.toNat).toArray⟩
def textAt (os : List Int) (at_ : Int) : D := match numAt os at_ with
  | none => .non
  | some (n, e) => if n > (os.length : Int) - e then .non else if ((os.drop e.toNat).take n.toNat).all okc then .tup [.str (txtS ((os.drop e.toNat).take n.toNat)), .int (n + e)] else .non
def ords (s : Str) : List Int := s.cps.toList.map fun c => ((c : Nat) : Int)
theorem txt_ords (s : Str) : txtS (ords s) = s := by
  unfold txtS ords
  rw [List.map_map]
  have e : (Int.toNat ∘ fun c : Nat => (c : Int)) = id := by funext c; simp
  rw [e, List.map_id]
def Okt (s : Str) : Prop := ∀ o ∈ ords s, okc o = true
theorem ords_len (s : Str) : (ords s).length = s.length := by simp [ords, Str.length]
theorem textAt_body (a : List Int) (s : Str) (r : List Int) (h : Okt s) : textAt (a ++ (octs s.length ++ ords s) ++ r) a.length = .tup [.str s, .int ((a.length : Int) + ((octs s.length ++ ords s).length : Nat))] := by
  unfold textAt
  have e : a ++ (octs s.length ++ ords s) ++ r = a ++ octs s.length ++ (ords s ++ r) := by simp
  rw [e, numAt_octs]
  show (if ((s.length : Nat) : Int) > ((a ++ octs s.length ++ (ords s ++ r)).length : Nat) - ((a.length : Int) + ((octs s.length).length : Int)) then _ else _) = _
  have hl := ords_len s
  rw [if_neg (by simp only [List.length_append]; omega)]
  have ed : (a ++ octs s.length ++ (ords s ++ r)).drop ((a.length : Int) + ((octs s.length).length : Int)).toNat = ords s ++ r := by
    have : ((a.length : Int) + ((octs s.length).length : Int)).toNat = (a ++ octs s.length).length := by rw [List.length_append]; omega
    rw [this, List.drop_left]
  rw [ed]
  have et : (ords s ++ r).take ((s.length : Nat) : Int).toNat = ords s := by
    rw [Int.toNat_natCast, ← hl, List.take_left]
  rw [et, if_pos (List.all_eq_true.mpr h), txt_ords]
  congr 4
  rw [List.length_append]
  omega
def sumAt (os : List Int) : Int := ((List.range os.length).map fun i => os.getD i 0 * ((i : Int) + 1)).sum % 65521
end K79
/-! # K79b: promises, readings, walks -/
namespace K79
open PySem PySem.Spec PyProof.Rows L2 Lg
local macro_rules
  | `(tactic| walk_at "lg") => `(tactic| first
    | with_reducible refine sp_seq ?_
    | with_reducible refine sp_own ?_
    | with_reducible refine sp_set ?_
    | with_reducible refine sp_parO1 ?_
    | with_reducible refine sp_parO2 ?_
    | with_reducible refine sp_parOO ?_
    | with_reducible refine sp_par3 ?_
    | with_reducible refine sp_par ?_
    | with_reducible refine sp_asg ?_
    | with_reducible refine sp_drop ?_
    | with_reducible refine sp_ret ?_
    | with_reducible refine sp_retN ?_
    | with_reducible refine sp_if ?_
    | with_reducible refine sp_next ?_
    | with_reducible refine sp_break ?_
    | with_reducible refine sp_cont ?_
    | ((with_reducible refine sp_aug (d0 := ?lgd) ?lg0 ?_); (case lg0 => exact rfl))
    | ((with_reducible refine ep_vF (d := ?lgd) ?lg0 ?_); (case lg0 => exact rfl))
    | ((with_reducible refine ep_vFF (o := ?lgd) ?lg0 ?_); (case lg0 => exact rfl))
    | ((with_reducible refine ep_var (d := ?lgd) ?lg0 ?_); (case lg0 => exact rfl))
    | ((with_reducible refine ep_varS (o := ?lgd) ?lg0 ?_); (case lg0 => exact rfl))
    | with_reducible refine ep_int ?_
    | with_reducible refine ep_str ?_
    | with_reducible refine ep_non ?_
    | with_reducible refine ep_bl ?_
    | with_reducible refine ep_ty ?_
    | with_reducible refine ep_ref ?_
    | with_reducible refine ep_op ?_
    | with_reducible refine ep_un ?_
    | with_reducible refine ep_isiT ?_
    | with_reducible refine ep_isi ?_
    | with_reducible refine ep_cb ?_
    | with_reducible refine ep_tup ?_
    | with_reducible refine ep_lst ?_
    | with_reducible refine ep_call ?_
    | with_reducible refine ep_callN ?_
    | ((with_reducible refine ep_append (ds0 := ?lgd) ?lg0 ?_); (case lg0 => exact rfl))
    | with_reducible refine ep_sl ?_
    | with_reducible refine ep_revL ?_
    | with_reducible refine ep_zipL ?_
    | with_reducible refine ep_join ?_
    | with_reducible refine ep_index ?_
    | with_reducible refine ep_if ?_
    | with_reducible refine ep_andV ?_
    | with_reducible refine ep_orV ?_
    | with_reducible refine ep_notV ?_
    | with_reducible refine pt_no ?_
    | with_reducible refine pt_part ?_
    | with_reducible refine ea_nil ?_
    | with_reducible refine ea_cons ?_
    | with_reducible refine tp_test ?_
    | with_reducible refine tp_B ?_
    | with_reducible refine tp_and ?_
    | with_reducible refine tp_or ?_
    | with_reducible refine tp_not ?_
    | with_reducible refine tp_yes ?_
    | with_reducible refine tg_name ?_
    | with_reducible refine tg_tup rfl ?_
    | with_reducible refine tgs_cons ?_
    | with_reducible refine tgs_nil ?_
    | with_reducible refine it_u ?_
    | with_reducible refine it_en ?_
    | with_reducible refine it_r1 ?_
    | with_reducible refine it_r2 ?_
    | with_reducible refine it_r3 ?_)
  | `(tactic| walk_at "r") => `(tactic| first
    | exact rfl
    | exact ⟨_, rfl, rfl⟩
    | exact Or.inl ⟨_, rfl, rfl⟩
    | exact Or.inl rfl
    | exact Or.inr ⟨_, rfl, rfl⟩
    | exact ⟨by decide, rfl⟩
    | exact ⟨⟨by decide, by decide⟩, rfl⟩
    | exact ⟨⟨by decide, by decide, by decide⟩, rfl⟩
    | exact ⟨PySem.IntMulOk.of_right (PySem.intBits_le_64 (by omega) (by omega)), rfl⟩
    | exact ⟨PySem.IntMulOk.of_left (PySem.intBits_le_64 (by omega) (by omega)), rfl⟩
    | exact ⟨by omega, rfl⟩
    | exact ⟨PySem.IntMulOk.of_bits (by decide +kernel) (by decide +kernel), rfl⟩)
  | `(tactic| walk_at "x") => `(tactic| first
    | walk_at "lg"
    | (refine ⟨fun _ => ?_, fun lgz => absurd lgz (by decide)⟩)
    | (refine ⟨fun lgz => absurd lgz (by decide), fun _ => ?_⟩)
    | ((with_reducible apply x3); (exact rfl); (exact rfl); (walk_at "r"))
    | ((with_reducible apply x1v); (exact rfl))
    | ((with_reducible apply x1b); (exact rfl))
    | ((with_reducible apply x1i); (exact rfl))
    | ((with_reducible apply x1z); (exact rfl))
    | ((with_reducible apply x1l); (exact rfl))
    | ((with_reducible apply x1r); (exact rfl))
    | ((with_reducible apply x1t); (exact rfl); (exact Nat.le_of_ble_eq_true rfl))
    | ((with_reducible apply x1s); (exact rfl))
    | ((with_reducible apply x1n); (exact rfl))
    | ((with_reducible apply x2c); (exact rfl); (walk_at "r"))
    | ((with_reducible apply x2u); (exact rfl); (walk_at "r"))
    | ((with_reducible apply x2w); (exact rfl); (exact rfl))
    | ((with_reducible apply x2a); (exact rfl); (exact rfl); (first | assumption | decide | omega))
    | ((with_reducible apply x2s); (exact rfl))
    | ((with_reducible apply x2nv); (exact rfl))
    | ((with_reducible apply x2vn); (exact rfl))
    | ((with_reducible apply x2nn); (exact rfl))
    | ((with_reducible apply x3s); (exact rfl))
    | ((with_reducible apply x2g); (exact rfl); (exact rfl); (exact augI); (exact rfl)))
/-! ### promises -/
def bndD (os : List Int) (a : Int) : D := if a < 0 then .non else match rd (os.drop a.toNat) with
  | none => .non
  | some (f, _) => .int (a + f.length + 1)
def tI (os : List Int) : D := .tup (os.map D.int)
def lI (os : List Int) : D := .lst (os.map D.int)
def pre_octets_of_number : Pre := fun ds W Φ => ∃ n : Nat, ds = [.int n] ∧ n < 128 ^ 10000 ∧ Φ (tI (octs n)) W
def pre_number_octets : Pre := pre_octets_of_number
def pre_octets_of_text : Pre := fun ds W Φ => ∃ s : Str, ds = [.str s] ∧ s.length ≤ 1000000 ∧ Φ (tI (octs s.length ++ ords s)) W
def pre_text_octets : Pre := pre_octets_of_text
def pre_number_of : Pre := fun ds W Φ => ∃ fs : List Int, ds = [lI fs] ∧ fs ≠ [] ∧ fs.length ≤ 30000 ∧ (∀ f ∈ fs, 0 ≤ f ∧ f < 128) ∧ Φ (.int (valB 128 fs)) W
def AtOk (os : List Int) (a : Int) : Prop := os.length ≤ 30000 ∧ -(2 ^ 62) ≤ a ∧ a < 2 ^ 62 ∧ ∀ o ∈ os, I8 o
def pre_behind_number : Pre := fun ds W Φ => ∃ (os : List Int) (a : Int), ds = [tI os, .int a] ∧ AtOk os a ∧ Φ (bndD os a) W
def pre_number_in : Pre := fun ds W Φ => ∃ (os : List Int) (a : Int), ds = [tI os, .int a] ∧ AtOk os a ∧ Φ (numD (numAt os a)) W
def pre_read_number : Pre := pre_number_in
def pre_sign_of : Pre := fun ds W Φ => ∃ o : Int, ds = [.int o] ∧ Φ (if okc o then .str (chrS o) else .non) W
def pre_text_in : Pre := fun ds W Φ => ∃ (os : List Int) (a : Int), ds = [tI os, .int a] ∧ AtOk os a ∧ Φ (textAt os a) W
def pre_read_text : Pre := pre_text_in
def pre_sum_of_octets : Pre := fun ds W Φ => ∃ os : List Int, ds = [tI os] ∧ os.length ≤ 30000 ∧ (∀ o ∈ os, I8 o) ∧ Φ (.int (sumAt os)) W
def pre__law_number_octets : Pre := fun ds W Φ => ∃ n : Nat, ds = [.int n] ∧ n < 128 ^ 10000 ∧ Φ (lI (octs n)) W
def pre__law_sum : Pre := fun ds W Φ => ∃ os : List Int, ds = [lI os] ∧ os.length ≤ 30000 ∧ (∀ o ∈ os, I8 o) ∧ Φ (.int (sumAt os)) W
def pre__law_body : Pre := fun ds W Φ => ∃ s : Str, ds = [.str s] ∧ s.length ≤ 1000000 ∧ Φ (lI (octs s.length ++ ords s)) W
def pre__law_octet : Pre := fun ds W Φ => ∃ (d p : Addr), ds = [.raw (.ref d)] ∧ W = [dealR d p] ∧ ∀ o, I8 o → Φ (.int o) W
def signsS : Str := " !\"#$&'()*+,-./0123456789:;<=>?@ABCDEFGHIJKLMNOPQRSTUVWXYZ[\\]^_`abcdefghijklmnopqrstuvwxyz{|}~\n"
def pre__law_signs : Pre := fun ds W Φ => ds = [] ∧ Φ (.str signsS) W
def pre__law_number_at : Pre := fun ds W Φ => ∃ (os : List Int) (a : Int), ds = [lI os, .int a] ∧ AtOk os a ∧ Φ (numD (numAt os a)) W
def pre__law_text_at : Pre := fun ds W Φ => ∃ (os : List Int) (a : Int), ds = [lI os, .int a] ∧ AtOk os a ∧ Φ (textAt os a) W
def pre__law_some_number : Pre := fun ds W Φ => ∃ (d p : Addr), ds = [.raw (.ref d)] ∧ W = [dealR d p] ∧ ∀ n : Nat, n < 128 ^ 300 → Φ (.int n) W
def pre__law_some_text : Pre := fun ds W Φ => ∃ (d p : Addr), ds = [.raw (.ref d)] ∧ W = [dealR d p] ∧ ∀ s : Str, Okt s → s.length ≤ 300 → Φ (.str s) W
def pre__law_noise : Pre := fun ds W Φ => ∃ (d p : Addr) (m : Int), ds = [.raw (.ref d), .int m] ∧ W = [dealR d p] ∧ 0 < m ∧ m ≤ 1000 ∧ ∀ os : List Int, (os.length : Int) < m → (∀ o ∈ os, I8 o) → Φ (lI os) W
def pre_law : Pre := fun ds W Φ => ∃ ns : List Int, ds = [.frz ns] ∧ W = [] ∧ ∀ W', Φ (.bl true) W'
theorem len_octets_of_number {ds : List D} {W : List Res} {Φ : D → List Res → Prop} (h : pre_octets_of_number ds W Φ) : ds.length = 1 := by obtain ⟨_, rfl, _⟩ := h; rfl
theorem len_number_octets {ds : List D} {W : List Res} {Φ : D → List Res → Prop} (h : pre_number_octets ds W Φ) : ds.length = 1 := len_octets_of_number h
theorem len_octets_of_text {ds : List D} {W : List Res} {Φ : D → List Res → Prop} (h : pre_octets_of_text ds W Φ) : ds.length = 1 := by obtain ⟨_, rfl, _⟩ := h; rfl
theorem len_text_octets {ds : List D} {W : List Res} {Φ : D → List Res → Prop} (h : pre_text_octets ds W Φ) : ds.length = 1 := len_octets_of_text h
theorem len_number_of {ds : List D} {W : List Res} {Φ : D → List Res → Prop} (h : pre_number_of ds W Φ) : ds.length = 1 := by obtain ⟨_, rfl, _⟩ := h; rfl
theorem len_behind_number {ds : List D} {W : List Res} {Φ : D → List Res → Prop} (h : pre_behind_number ds W Φ) : ds.length = 2 := by obtain ⟨_, _, rfl, _⟩ := h; rfl
theorem len_number_in {ds : List D} {W : List Res} {Φ : D → List Res → Prop} (h : pre_number_in ds W Φ) : ds.length = 2 := by obtain ⟨_, _, rfl, _⟩ := h; rfl
theorem len_read_number {ds : List D} {W : List Res} {Φ : D → List Res → Prop} (h : pre_read_number ds W Φ) : ds.length = 2 := len_number_in h
theorem len_sign_of {ds : List D} {W : List Res} {Φ : D → List Res → Prop} (h : pre_sign_of ds W Φ) : ds.length = 1 := by obtain ⟨_, rfl, _⟩ := h; rfl
theorem len_text_in {ds : List D} {W : List Res} {Φ : D → List Res → Prop} (h : pre_text_in ds W Φ) : ds.length = 2 := by obtain ⟨_, _, rfl, _⟩ := h; rfl
theorem len_read_text {ds : List D} {W : List Res} {Φ : D → List Res → Prop} (h : pre_read_text ds W Φ) : ds.length = 2 := len_text_in h
theorem len_sum_of_octets {ds : List D} {W : List Res} {Φ : D → List Res → Prop} (h : pre_sum_of_octets ds W Φ) : ds.length = 1 := by obtain ⟨_, rfl, _⟩ := h; rfl
theorem len__law_number_octets {ds : List D} {W : List Res} {Φ : D → List Res → Prop} (h : pre__law_number_octets ds W Φ) : ds.length = 1 := by obtain ⟨_, rfl, _⟩ := h; rfl
theorem len__law_sum {ds : List D} {W : List Res} {Φ : D → List Res → Prop} (h : pre__law_sum ds W Φ) : ds.length = 1 := by obtain ⟨_, rfl, _⟩ := h; rfl
theorem len__law_body {ds : List D} {W : List Res} {Φ : D → List Res → Prop} (h : pre__law_body ds W Φ) : ds.length = 1 := by obtain ⟨_, rfl, _⟩ := h; rfl
theorem len__law_octet {ds : List D} {W : List Res} {Φ : D → List Res → Prop} (h : pre__law_octet ds W Φ) : ds.length = 1 := by obtain ⟨_, _, rfl, _⟩ := h; rfl
theorem len__law_signs {ds : List D} {W : List Res} {Φ : D → List Res → Prop} (h : pre__law_signs ds W Φ) : ds.length = 0 := by rw [h.1]; rfl
theorem len__law_number_at {ds : List D} {W : List Res} {Φ : D → List Res → Prop} (h : pre__law_number_at ds W Φ) : ds.length = 2 := by obtain ⟨_, _, rfl, _⟩ := h; rfl
theorem len__law_text_at {ds : List D} {W : List Res} {Φ : D → List Res → Prop} (h : pre__law_text_at ds W Φ) : ds.length = 2 := by obtain ⟨_, _, rfl, _⟩ := h; rfl
theorem len__law_some_number {ds : List D} {W : List Res} {Φ : D → List Res → Prop} (h : pre__law_some_number ds W Φ) : ds.length = 1 := by obtain ⟨_, _, rfl, _⟩ := h; rfl
theorem len__law_some_text {ds : List D} {W : List Res} {Φ : D → List Res → Prop} (h : pre__law_some_text ds W Φ) : ds.length = 1 := by obtain ⟨_, _, rfl, _⟩ := h; rfl
theorem len__law_noise {ds : List D} {W : List Res} {Φ : D → List Res → Prop} (h : pre__law_noise ds W Φ) : ds.length = 2 := by obtain ⟨_, _, _, rfl, _⟩ := h; rfl
theorem len_law {ds : List D} {W : List Res} {Φ : D → List Res → Prop} (h : pre_law ds W Φ) : ds.length = 1 := by obtain ⟨_, rfl, _⟩ := h; rfl
/-- octets_of_number(number); slots 0:number 1:found* 2:rest -/
def N_octets_of_number : List Str := ["number", "found", "rest"]
def t_octets_of_number (K : PySem.W.Frag) : TS := (tSeq (tAsg (tLst tNil) (gOwn 1))
  (tSeq (tAsg (tVarF 0) (gName 2))
  (tSeq (tWhile (tTest (tOp (rB K GeR) (tVar 2) (tC (.int 128)))) (tSeq (tDrop (tBM K "list" rAppend (tVar 1) (tCons (tOp (rB K AddR) (tC (.int 128)) (tOp (rB K ModR) (tVar 2) (tC (.int 128)))) tNil)))
  (tAsg (tOp (rB K DivR) (tVar 2) (tC (.int 128))) (gName 2))))
  (tSeq (tDrop (tBM K "list" rAppend (tVar 1) (tCons (tVarF 2) tNil)))
  (tRet (tCB (rC K TupleR) (tCons (tVar 1) tNil)))))))

/-- number_of(figures); slots 0:figures 1:row 2:base 3:pairs* 4:at -/
def N_number_of : List Str := ["figures", "row", "base", "pairs", "at"]
def t_number_of (K : PySem.W.Frag) : TS := (tSeq (tAsg (tTup (tCons (tCB (rC K ListR) (tCons (tVar 0) tNil)) (tCons (tC (.int 128)) tNil))) (gTup K 2 (gCons (gName 1) (gCons (gName 2) gNil))))
  (tSeq (tWhile (tTest (tOp (rB K GtR) (tCB (rC K LenR) (tCons (tVar 1) tNil)) (tC (.int 1)))) (tSeq (tAsg (tLc (iRng3 (tCons (tC (.int 0)) (tCons (tOp (rB K SubR) (tCB (rC K LenR) (tCons (tVar 1) tNil)) (tC (.int 1))) (tCons (tC (.int 2)) tNil)))) (gName 4) tYes (tOp (rB K AddR) (tOp (rB K IxD) (tVar 1) (tVar 4)) (tOp (rB K MulR) (tVar 2) (tOp (rB K IxD) (tVar 1) (tOp (rB K AddR) (tVar 4) (tC (.int 1)))))) [4]) (gOwn 3))
  (tSeq (tIfS (tTest (tOp (rB K EqR) (tOp (rB K ModR) (tCB (rC K LenR) (tCons (tVar 1) tNil)) (tC (.int 2))) (tC (.int 1)))) (tDrop (tBM K "list" rAppend (tVar 3) (tCons (tOp (rB K IxD) (tVar 1) (tOp (rB K SubR) (tCB (rC K LenR) (tCons (tVar 1) tNil)) (tC (.int 1)))) tNil))) tNext)
  (tSeq (tAsg (tVarF 3) (gName 1))
  (tAsg (tOp (rB K MulR) (tVar 2) (tVar 2)) (gName 2))))))
  (tRet (tOp (rB K IxD) (tVar 1) (tC (.int 0))))))

/-- behind_number(octets, at); slots 0:octets 1:at 2:place -/
def N_behind_number : List Str := ["octets", "at", "place"]
def t_behind_number (K : PySem.W.Frag) : TS := (tSeq (tIfS (tTest (tOp (rB K LtR) (tVar 1) (tC (.int 0)))) (tRet (tC .non)) tNext)
  (tSeq (tFor (iRng2 (tCons (tVar 1) (tCons (tCB (rC K LenR) (tCons (tVar 0) tNil)) tNil))) (gName 2) (tIfS (tTest (tOp (rB K LtR) (tOp (rB K IxD) (tVar 0) (tVar 2)) (tC (.int 128)))) (tRet (tOp (rB K AddR) (tVar 2) (tC (.int 1)))) tNext))
  (tRet (tC .non))))

/-- sign_of(octet); slots 0:octet -/
def N_sign_of : List Str := ["octet"]
def t_sign_of (K : PySem.W.Frag) : TS := (tSeq (tIfS (tTest (tOp (rB K EqR) (tVar 0) (tC (.int 10)))) (tRet (tC (.str "\n"))) tNext)
  (tSeq (tIfS (tOr (tTest (tOp (rB K LtR) (tVar 0) (tC (.int 32)))) (tOr (tTest (tOp (rB K GeR) (tVar 0) (tOp (rB K AddR) (tC (.int 32)) (tCB (rC K LenR) (tCons (tC (.str " !\"#$\n&'()*+,-./0123456789:;<=>?@ABCDEFGHIJKLMNOPQRSTUVWXYZ[\\]^_`abcdefghijklmnopqrstuvwxyz{|}~")) tNil))))) (tTest (tOp (rB K EqR) (tVar 0) (tC (.int 37)))))) (tRet (tC .non)) tNext)
  (tRet (tOp (rB K IxD) (tC (.str " !\"#$\n&'()*+,-./0123456789:;<=>?@ABCDEFGHIJKLMNOPQRSTUVWXYZ[\\]^_`abcdefghijklmnopqrstuvwxyz{|}~")) (tOp (rB K SubR) (tVar 0) (tC (.int 32)))))))

/-- sum_of_octets(octets); slots 0:octets 1:found 2:at 3:octet -/
def N_sum_of_octets : List Str := ["octets", "found", "at", "octet"]
def t_sum_of_octets (K : PySem.W.Frag) : TS := (tSeq (tAsg (tC (.int 0)) (gName 1))
  (tSeq (tFor (iEnU K (tCons (tVarF 0) tNil)) (gTup K 2 (gCons (gName 2) (gCons (gName 3) gNil))) (tAug 1 (tOp (rB K MulR) (tOp (rB K AddR) (tVar 2) (tC (.int 1))) (tVar 3)) (ipB K AugR)))
  (tRet (tOp (rB K ModR) (tVar 1) (tC (.int 65521))))))

/-- _law_plain(value); slots 0:value -/
def N__law_plain : List Str := ["value"]
def t__law_plain (K : PySem.W.Frag) : TS := (tSeq (tIfS (tB (tCB (rIsi K) (tCons (tVar 0) (tCons (tC (.ref (He.ga K "Finding"))) tNil)))) (tRet (tTup (tCons (tC (.str "Finding")) (tCons (tFld K (tVar 0) "word") (tCons (tFld K (tVar 0) "paper") tNil))))) tNext)
  (tSeq (tIfS (tB (tCB (rIsiT K) (tCons (tVar 0) (tCons (tTup (tCons (tC (.ref (He.ga K "NamesAnswer"))) (tCons (tC (.ref (He.ga K "LevelsAnswer"))) tNil))) tNil)))) (tRet (tTup (tCons (tIf (tB (tCB (rIsi K) (tCons (tVar 0) (tCons (tC (.ref (He.ga K "NamesAnswer"))) tNil)))) (tC (.str "NamesAnswer")) (tC (.str "LevelsAnswer"))) (tCons (tFld K (tVar 0) "many") (tCons (tFld K (tVar 0) "program") (tCons (tFld K (tVar 0) "lower") tNil)))))) tNext)
  (tRet (tIf (tB (tCB (rIsi K) (tCons (tVar 0) (tCons (tC (.ref (He.ga K "Web"))) tNil)))) (tTup (tCons (tC (.str "Web")) (tCons (tFld K (tVar 0) "size") (tCons (tFld K (tVar 0) "facts") tNil)))) (tVar 0)))))

/-- _law_number_octets(number); slots 0:number 1:found* 2:rest -/
def N__law_number_octets : List Str := ["number", "found", "rest"]
def t__law_number_octets (K : PySem.W.Frag) : TS := (tSeq (tParO1 1 2 (tCons (tLst tNil) (tCons (tVarF 0) tNil)))
  (tSeq (tWhile (tTest (tOp (rB K GtR) (tVar 2) (tC (.int 127)))) (tSeq (tDrop (tBM K "list" rAppend (tVar 1) (tCons (tOp (rB K AddR) (tOp (rB K ModR) (tCB (rC K IntR) (tCons (tVar 2) tNil)) (tC (.int 128))) (tC (.int 128))) tNil)))
  (tAsg (tOp (rB K DivR) (tVar 2) (tC (.int 128))) (gName 2))))
  (tRet (tOp (rB K AddR) (tVar 1) (tLst (tCons (tVarF 2) tNil))))))

/-- _law_sum(octets); slots 0:octets 1:at -/
def N__law_sum : List Str := ["octets", "at"]
def t__law_sum (K : PySem.W.Frag) : TS := (tRet (tOp (rB K ModR) (tCB (rC K IntR) (tCons (tCB (rC K SumR) (tCons (tLc (iRng1 (tCons (tCB (rC K LenR) (tCons (tVar 0) tNil)) tNil)) (gName 1) tYes (tOp (rB K MulR) (tOp (rB K IxD) (tVar 0) (tVar 1)) (tOp (rB K AddR) (tVar 1) (tC (.int 1)))) [1]) tNil)) tNil)) (tC (.int 65521))))

/-- _law_signs(); slots  -/
def N__law_signs : List Str := []
def t__law_signs (K : PySem.W.Frag) : TS := (tRet (tC (.str " !\"#$&'()*+,-./0123456789:;<=>?@ABCDEFGHIJKLMNOPQRSTUVWXYZ[\\]^_`abcdefghijklmnopqrstuvwxyz{|}~\n")))

/-- _law_number_at(octets, at); slots 0:octets 1:at 2:number 3:base 4:place -/
def N__law_number_at : List Str := ["octets", "at", "number", "base", "place"]
def t__law_number_at (K : PySem.W.Frag) : TS := (tSeq (tPar3 2 3 4 (tCons (tC (.int 0)) (tCons (tC (.int 1)) (tCons (tVarF 1) tNil))))
  (tSeq (tIfS (tTest (tOp (rB K LtR) (tVar 1) (tC (.int 0)))) (tRet (tC .non)) tNext)
  (tSeq (tWhile (tAnd (tTest (tOp (rB K LtR) (tVar 4) (tCB (rC K LenR) (tCons (tVar 0) tNil)))) (tTest (tOp (rB K GtR) (tOp (rB K IxD) (tVar 0) (tVar 4)) (tC (.int 127))))) (tPar3 2 3 4 (tCons (tOp (rB K AddR) (tVar 2) (tOp (rB K MulR) (tVar 3) (tOp (rB K SubR) (tOp (rB K IxD) (tVar 0) (tVar 4)) (tC (.int 128))))) (tCons (tOp (rB K MulR) (tVar 3) (tC (.int 128))) (tCons (tOp (rB K AddR) (tVar 4) (tC (.int 1))) tNil)))))
  (tSeq (tIfS (tOr (tTest (tOp (rB K GeR) (tVar 4) (tCB (rC K LenR) (tCons (tVar 0) tNil)))) (tAnd (tTest (tOp (rB K GtR) (tVar 4) (tVar 1))) (tTest (tOp (rB K EqR) (tOp (rB K IxD) (tVar 0) (tVar 4)) (tC (.int 0)))))) (tRet (tC .non)) tNext)
  (tRet (tTup (tCons (tOp (rB K AddR) (tVar 2) (tOp (rB K MulR) (tVar 3) (tOp (rB K IxD) (tVar 0) (tVar 4)))) (tCons (tOp (rB K AddR) (tVar 4) (tC (.int 1))) tNil))))))))

/-- octets_of_text(text); slots 0:text 1:sign -/
def N_octets_of_text : List Str := ["text", "sign"]
def t_octets_of_text (K : PySem.W.Frag) : TS := (tRet (tOp (rB K AddR) (tCall (spW K pre_octets_of_number) [] E0 (tCons (tCB (rC K LenR) (tCons (tVar 0) tNil)) tNil)) (tCB (rC K TupleR) (tCons (tLc (iU K (tVarF 0)) (gName 1) tYes (tCB (rC K OrdR) (tCons (tVar 1) tNil)) [1]) tNil))))

/-- number_in(octets, at); slots 0:octets 1:at 2:end 3:figures 4:octet -/
def N_number_in : List Str := ["octets", "at", "end", "figures", "octet"]
def t_number_in (K : PySem.W.Frag) : TS := (tSeq (tAsg (tCall (spW K pre_behind_number) [] E0 (tCons (tVarF 0) (tCons (tVarF 1) tNil))) (gName 2))
  (tSeq (tIfS (tOr (tTest (tOp (rB K IsR) (tVar 2) (tC .non))) (tAnd (tTest (tOp (rB K GtR) (tOp (rB K SubR) (tVar 2) (tVar 1)) (tC (.int 1)))) (tTest (tOp (rB K EqR) (tOp (rB K IxD) (tVar 0) (tOp (rB K SubR) (tVar 2) (tC (.int 1)))) (tC (.int 0)))))) (tRet (tC .non)) tNext)
  (tSeq (tAsg (tOp (rB K AddR) (tLc (iU K (tSl (rS K SlF) (tVar 0) (tPart (tVar 1)) (tPart (tOp (rB K SubR) (tVar 2) (tC (.int 1)))))) (gName 4) tYes (tOp (rB K SubR) (tVar 4) (tC (.int 128))) [4]) (tLst (tCons (tOp (rB K IxD) (tVar 0) (tOp (rB K SubR) (tVar 2) (tC (.int 1)))) tNil))) (gName 3))
  (tRet (tTup (tCons (tCall (spW K pre_number_of) [] E0 (tCons (tVarF 3) tNil)) (tCons (tVarF 2) tNil)))))))

/-- number_octets(number); slots 0:number -/
def N_number_octets : List Str := ["number"]
def t_number_octets (K : PySem.W.Frag) : TS := (tRet (tCall (spW K pre_octets_of_number) [] E0 (tCons (tVarF 0) tNil)))

/-- _law_body(text); slots 0:text 1:sign -/
def N__law_body : List Str := ["text", "sign"]
def t__law_body (K : PySem.W.Frag) : TS := (tRet (tOp (rB K AddR) (tCall (spW K pre__law_number_octets) [] E0 (tCons (tCB (rC K LenR) (tCons (tVar 0) tNil)) tNil)) (tLc (iU K (tVarF 0)) (gName 1) tYes (tCB (rC K OrdR) (tCons (tVar 1) tNil)) [1])))

/-- _law_text_at(octets, at); slots 0:octets 1:at 2:told 3:codes 4:signs 5:some 6:sign 7:octet -/
def N__law_text_at : List Str := ["octets", "at", "told", "codes", "signs", "some", "sign", "octet"]
def t__law_text_at (K : PySem.W.Frag) : TS := (tSeq (tAsg (tCall (spW K pre__law_number_at) [] E0 (tCons (tVarF 0) (tCons (tVarF 1) tNil))) (gName 2))
  (tSeq (tIfS (tOr (tTest (tOp (rB K IsR) (tVar 2) (tC .non))) (tTest (tOp (rB K GtR) (tOp (rB K IxD) (tVar 2) (tC (.int 0))) (tOp (rB K SubR) (tCB (rC K LenR) (tCons (tVar 0) tNil)) (tOp (rB K IxD) (tVar 2) (tC (.int 1))))))) (tRet (tC .non)) tNext)
  (tSeq (tAsg (tTup (tCons (tLc (iU K (tCall (spW K pre__law_signs) [] E0 tNil)) (gName 6) tYes (tCB (rC K OrdR) (tCons (tVar 6) tNil)) [6]) (tCons (tCall (spW K pre__law_signs) [] E0 tNil) tNil))) (gTup K 2 (gCons (gName 3) (gCons (gName 4) gNil))))
  (tSeq (tAsg (tSl (rS K SlF) (tVar 0) (tPart (tOp (rB K IxD) (tVar 2) (tC (.int 1)))) (tPart (tOp (rB K AddR) (tOp (rB K IxD) (tVar 2) (tC (.int 1))) (tOp (rB K IxD) (tVar 2) (tC (.int 0)))))) (gName 5))
  (tSeq (tIfS (tTest (tOp (rB K GtR) (tCB (rC K LenR) (tCons (tLc (iU K (tVarF 5)) (gName 7) (tTest (tOp (rB K NotInP) (tVar 7) (tVar 3))) (tVarF 7) [7]) tNil)) (tC (.int 0)))) (tRet (tC .non)) tNext)
  (tRet (tTup (tCons (tJoin K (tC (.str "")) (tLc (iU K (tVarF 5)) (gName 7) tYes (tOp (rB K IxD) (tVar 4) (tBM K "list" (rIndex K) (tVar 3) (tCons (tVar 7) tNil))) [7])) (tCons (tOp (rB K AddR) (tOp (rB K IxD) (tVar 2) (tC (.int 1))) (tOp (rB K IxD) (tVar 2) (tC (.int 0)))) tNil)))))))))

/-- text_in(octets, at); slots 0:octets 1:at 2:told 3:end 4:signs 5:octet -/
def N_text_in : List Str := ["octets", "at", "told", "end", "signs", "octet"]
def t_text_in (K : PySem.W.Frag) : TS := (tSeq (tAsg (tCall (spW K pre_number_in) [] E0 (tCons (tVarF 0) (tCons (tVarF 1) tNil))) (gName 2))
  (tSeq (tIfS (tOr (tTest (tOp (rB K IsR) (tVar 2) (tC .non))) (tTest (tOp (rB K GtR) (tOp (rB K IxD) (tVar 2) (tC (.int 0))) (tOp (rB K SubR) (tCB (rC K LenR) (tCons (tVar 0) tNil)) (tOp (rB K IxD) (tVar 2) (tC (.int 1))))))) (tRet (tC .non)) tNext)
  (tSeq (tAsg (tOp (rB K AddR) (tOp (rB K IxD) (tVar 2) (tC (.int 0))) (tOp (rB K IxD) (tVar 2) (tC (.int 1)))) (gName 3))
  (tSeq (tAsg (tLc (iU K (tSl (rS K SlF) (tVar 0) (tPart (tOp (rB K IxD) (tVar 2) (tC (.int 1)))) (tPart (tVar 3)))) (gName 5) tYes (tCall (spW K pre_sign_of) [] E0 (tCons (tVarF 5) tNil)) [5]) (gName 4))
  (tSeq (tIfS (tTest (tOp (rB K InP) (tC .non) (tVar 4))) (tRet (tC .non)) tNext)
  (tRet (tTup (tCons (tJoin K (tC (.str "")) (tVar 4)) (tCons (tVarF 3) tNil)))))))))

/-- text_octets(text); slots 0:text -/
def N_text_octets : List Str := ["text"]
def t_text_octets (K : PySem.W.Frag) : TS := (tRet (tCall (spW K pre_octets_of_text) [] E0 (tCons (tVarF 0) tNil)))

/-- read_number(octets, at); slots 0:octets 1:at -/
def N_read_number : List Str := ["octets", "at"]
def t_read_number (K : PySem.W.Frag) : TS := (tRet (tCall (spW K pre_number_in) [] E0 (tCons (tCB (rC K TupleR) (tCons (tVar 0) tNil)) (tCons (tVarF 1) tNil))))

/-- _law_octet(deal); slots 0:deal -/
def N__law_octet : List Str := ["deal"]
def t__law_octet (K : PySem.W.Frag) : TS := (tRet (tCall (spW K pre__law_of) [] E0 (tCons (tVarF 0) (tCons (tLst (tCons (tC (.int 0)) (tCons (tC (.int 1)) (tCons (tC (.int 127)) (tCons (tC (.int 128)) (tCons (tC (.int 255)) (tCons (tCall (spW K pre__law_any) [] E0 (tCons (tVarF 0) (tCons (tC (.int 256)) tNil))) (tCons (tCall (spW K pre__law_any) [] E0 (tCons (tVarF 0) (tCons (tC (.int 256)) tNil))) (tCons (tCall (spW K pre__law_any) [] E0 (tCons (tVarF 0) (tCons (tC (.int 128)) tNil))) tNil))))))))) tNil))))

/-- _law_some_number(deal); slots 0:deal 1:edge 2:turn 3:some -/
def N__law_some_number : List Str := ["deal", "edge", "turn", "some"]
def t__law_some_number (K : PySem.W.Frag) : TS := (tSeq (tAsg (tOp (rB K PowR) (tC (.int 128)) (tC (.int 9))) (gName 1))
  (tSeq (tFor (iRng1 (tCons (tCall (spW K pre__law_any) [] E0 (tCons (tVarF 0) (tCons (tC (.int 20)) tNil))) tNil)) (gName 2) (tAsg (tOp (rB K MulR) (tVar 1) (tOp (rB K PowR) (tC (.int 128)) (tC (.int 9)))) (gName 1)))
  (tSeq (tAsg (tLst (tCons (tC (.int 0)) (tCons (tC (.int 1)) (tCons (tC (.int 127)) (tCons (tC (.int 128)) (tCons (tC (.int 129)) (tCons (tC (.int 255)) (tCons (tC (.int 16383)) (tCons (tC (.int 16384)) (tCons (tC (.int 16385)) (tCons (tC (.int 2097151)) (tCons (tC (.int 2097152)) (tCons (tCall (spW K pre__law_any) [] E0 (tCons (tVarF 0) (tCons (tC (.int 128)) tNil))) (tCons (tCall (spW K pre__law_any) [] E0 (tCons (tVarF 0) (tCons (tC (.int 20000)) tNil))) (tCons (tOp (rB K AddR) (tOp (rB K MulR) (tCall (spW K pre__law_any) [] E0 (tCons (tVarF 0) (tCons (tOp (rB K PowR) (tC (.int 10)) (tC (.int 9))) tNil))) (tOp (rB K PowR) (tC (.int 10)) (tC (.int 9)))) (tCall (spW K pre__law_any) [] E0 (tCons (tVarF 0) (tCons (tOp (rB K PowR) (tC (.int 10)) (tC (.int 9))) tNil)))) tNil))))))))))))))) (gName 3))
  (tRet (tCall (spW K pre__law_of) [] E0 (tCons (tVarF 0) (tCons (tOp (rB K AddR) (tVar 3) (tLst (tCons (tVarF 1) (tCons (tOp (rB K SubR) (tVar 1) (tC (.int 1))) (tCons (tOp (rB K AddR) (tVar 1) (tC (.int 1))) (tCons (tOp (rB K AddR) (tOp (rB K MulR) (tVar 1) (tC (.int 127))) (tCall (spW K pre__law_any) [] E0 (tCons (tVarF 0) (tCons (tOp (rB K PowR) (tC (.int 10)) (tC (.int 9))) tNil)))) (tCons (tOp (rB K SubR) (tOp (rB K PowR) (tC (.int 128)) (tC (.int 8))) (tC (.int 1))) (tCons (tOp (rB K PowR) (tC (.int 128)) (tC (.int 8))) tNil)))))))) tNil)))))))

/-- _law_some_text(deal); slots 0:deal 1:signs 2:step 3:start 4:turn -/
def N__law_some_text : List Str := ["deal", "signs", "step", "start", "turn"]
def t__law_some_text (K : PySem.W.Frag) : TS := (tSeq (tAsg (tCall (spW K pre__law_signs) [] E0 tNil) (gName 1))
  (tSeq (tAsg (tTup (tCons (tCall (spW K pre__law_of) [] E0 (tCons (tVarF 0) (tCons (tLst (tCons (tC (.int 1)) (tCons (tC (.int 7)) (tCons (tC (.int 11)) (tCons (tC (.int 94)) tNil))))) tNil))) (tCons (tCall (spW K pre__law_any) [] E0 (tCons (tVarF 0) (tCons (tC (.int 95)) tNil))) tNil))) (gTup K 2 (gCons (gName 2) (gCons (gName 3) gNil))))
  (tSeq (tIfS (tTest (tOp (rB K EqR) (tCall (spW K pre__law_any) [] E0 (tCons (tVarF 0) (tCons (tC (.int 4)) tNil))) (tC (.int 0)))) (tRet (tJoin K (tC (.str "")) (tLc (iRng1 (tCons (tCall (spW K pre__law_of) [] E0 (tCons (tVarF 0) (tCons (tLst (tCons (tC (.int 0)) (tCons (tC (.int 1)) (tCons (tC (.int 95)) (tCons (tC (.int 127)) (tCons (tC (.int 128)) (tCons (tC (.int 129)) (tCons (tC (.int 300)) tNil)))))))) tNil))) tNil)) (gName 4) tYes (tOp (rB K IxD) (tVar 1) (tOp (rB K ModR) (tCB (rC K IntR) (tCons (tOp (rB K AddR) (tVar 3) (tOp (rB K MulR) (tVar 4) (tVar 2))) tNil)) (tC (.int 95)))) [4]))) tNext)
  (tRet (tJoin K (tC (.str "")) (tLc (iRng1 (tCons (tCall (spW K pre__law_of) [] E0 (tCons (tVarF 0) (tCons (tLst (tCons (tC (.int 0)) (tCons (tC (.int 1)) (tCons (tC (.int 2)) (tCons (tC (.int 9)) (tCons (tC (.int 40)) tNil)))))) tNil))) tNil)) (gName 4) tYes (tCall (spW K pre__law_of) [] E0 (tCons (tVarF 0) (tCons (tVarF 1) tNil))) [4]))))))

/-- read_text(octets, at); slots 0:octets 1:at -/
def N_read_text : List Str := ["octets", "at"]
def t_read_text (K : PySem.W.Frag) : TS := (tRet (tCall (spW K pre_text_in) [] E0 (tCons (tCB (rC K TupleR) (tCons (tVar 0) tNil)) (tCons (tVarF 1) tNil))))

/-- _law_noise(deal, many); slots 0:deal 1:many 2:turn -/
def N__law_noise : List Str := ["deal", "many", "turn"]
def t__law_noise (K : PySem.W.Frag) : TS := (tRet (tLc (iRng1 (tCons (tCall (spW K pre__law_any) [] E0 (tCons (tVarF 0) (tCons (tVarF 1) tNil))) tNil)) (gName 2) tYes (tCall (spW K pre__law_octet) [] E0 (tCons (tVarF 0) tNil)) [2]))

/-- law(script); slots 0:script 1:deal 2:pairs* 3:turn 4:number 5:ahead 6:behind 7:due 8:octets 9:text 10:body 11:whole 12:at 13:bent 14:place 15:row -/
def N_law : List Str := ["script", "deal", "pairs", "turn", "number", "ahead", "behind", "due", "octets", "text", "body", "whole", "at", "bent", "place", "row"]
def t_law (K : PySem.W.Frag) : TS := (tSeq (tAsg (tCall (spW K pre__law_deal) [] E0 (tCons (tVarF 0) (tCons (tC (.int 79)) tNil))) (gName 1))
  (tSeq (tAsg (tLst tNil) (gOwn 2))
  (tSeq (tFor (iRng1 (tCons (tC (.int 6)) tNil)) (gName 3) (tSeq (tPar3 4 5 6 (tCons (tCall (spW K pre__law_some_number) [] E0 (tCons (tVarF 1) tNil)) (tCons (tCall (spW K pre__law_noise) [] E0 (tCons (tVarF 1) (tCons (tC (.int 9)) tNil))) (tCons (tCall (spW K pre__law_noise) [] E0 (tCons (tVarF 1) (tCons (tC (.int 9)) tNil))) tNil))))
  (tSeq (tAsg (tCall (spW K pre__law_number_octets) [] E0 (tCons (tVarF 4) tNil)) (gName 7))
  (tSeq (tDrop (tBM K "list" rAppend (tVar 2) (tCons (tTup (tCons (tIf (tTest (tOp (rB K LtR) (tVar 3) (tC (.int 3)))) (tCall (spW K pre_number_octets) [] E0 (tCons (tVarF 4) tNil)) (tCallN 0 1 (spW K pre_number_octets) (fun vs zs => vs ++ zs) E0 tNil (tCons (tVarF 4) tNil))) (tCons (tCB (rC K TupleR) (tCons (tVar 7) tNil)) tNil))) tNil)))
  (tSeq (tAsg (tOp (rB K AddR) (tOp (rB K AddR) (tVar 5) (tVar 7)) (tVar 6)) (gName 8))
  (tSeq (tDrop (tBM K "list" rAppend (tVar 2) (tCons (tTup (tCons (tCall (spW K pre_read_number) [] E0 (tCons (tCB (rC K TupleR) (tCons (tVar 8) tNil)) (tCons (tCB (rC K LenR) (tCons (tVar 5) tNil)) tNil))) (tCons (tTup (tCons (tVarF 4) (tCons (tOp (rB K AddR) (tCB (rC K LenR) (tCons (tVar 5) tNil)) (tCB (rC K LenR) (tCons (tVar 7) tNil))) tNil))) tNil))) tNil)))
  (tSeq (tAsg (tCall (spW K pre__law_some_text) [] E0 (tCons (tVarF 1) tNil)) (gName 9))
  (tSeq (tAsg (tCall (spW K pre__law_body) [] E0 (tCons (tVarF 9) tNil)) (gName 10))
  (tSeq (tDrop (tBM K "list" rAppend (tVar 2) (tCons (tTup (tCons (tIf (tTest (tOp (rB K LtR) (tVar 3) (tC (.int 3)))) (tCall (spW K pre_text_octets) [] E0 (tCons (tVarF 9) tNil)) (tCallN 0 1 (spW K pre_text_octets) (fun vs zs => vs ++ zs) E0 tNil (tCons (tVarF 9) tNil))) (tCons (tCB (rC K TupleR) (tCons (tVar 10) tNil)) tNil))) tNil)))
  (tSeq (tAsg (tOp (rB K AddR) (tOp (rB K AddR) (tVar 5) (tVar 10)) (tVar 6)) (gName 11))
  (tSeq (tDrop (tBM K "list" rAppend (tVar 2) (tCons (tTup (tCons (tCallN 0 2 (spW K pre_read_text) (fun vs zs => vs ++ zs) E0 tNil (tCons (tCB (rC K TupleR) (tCons (tVar 11) tNil)) (tCons (tCB (rC K LenR) (tCons (tVar 5) tNil)) tNil))) (tCons (tTup (tCons (tVarF 9) (tCons (tOp (rB K AddR) (tCB (rC K LenR) (tCons (tVar 5) tNil)) (tCB (rC K LenR) (tCons (tVar 10) tNil))) tNil))) tNil))) tNil)))
  (tSeq (tAsg (tCall (spW K pre__law_any) [] E0 (tCons (tVarF 1) (tCons (tCB (rC K LenR) (tCons (tVar 11) tNil)) tNil))) (gName 12))
  (tSeq (tAsg (tOp (rB K AddR) (tOp (rB K AddR) (tSl (rS K SlF) (tVar 11) tNoPart (tPart (tVar 12))) (tCall (spW K pre__law_of) [] E0 (tCons (tVarF 1) (tCons (tLst (tCons (tLst (tCons (tCall (spW K pre__law_octet) [] E0 (tCons (tVarF 1) tNil)) tNil)) (tCons (tLst (tCons (tC (.int 37)) tNil)) (tCons (tLst (tCons (tC (.int 9)) tNil)) (tCons (tLst (tCons (tC (.int 127)) tNil)) (tCons (tLst tNil) (tCons (tLst (tCons (tC (.int 0)) tNil)) (tCons (tLst (tCons (tC (.int 200)) (tCons (tC (.int 0)) tNil))) (tCons (tLst (tCons (tC (.int 13)) tNil)) tNil))))))))) tNil)))) (tSl (rS K SlF) (tVar 11) (tPart (tOp (rB K AddR) (tVar 12) (tC (.int 1)))) tNoPart)) (gName 13))
  (tSeq (tFor (iU K (tLst (tCons (tCB (rC K LenR) (tCons (tVar 5) tNil)) (tCons (tVarF 12) (tCons (tC (.int 0)) (tCons (tCall (spW K pre__law_any) [] E0 (tCons (tVarF 1) (tCons (tOp (rB K AddR) (tCB (rC K LenR) (tCons (tVar 11) tNil)) (tC (.int 3))) tNil))) (tCons (tOp (rB K SubR) (tOp (rB K SubR) (tC (.int 0)) (tC (.int 1))) (tCall (spW K pre__law_any) [] E0 (tCons (tVarF 1) (tCons (tC (.int 9)) tNil)))) (tCons (tCB (rC K LenR) (tCons (tVar 13) tNil)) (tCons (tOp (rB K PowR) (tC (.int 10)) (tC (.int 15))) tNil))))))))) (gName 14) (tSeq (tDrop (tBM K "list" rAppend (tVar 2) (tCons (tTup (tCons (tCall (spW K pre_read_number) [] E0 (tCons (tCB (rC K TupleR) (tCons (tVar 13) tNil)) (tCons (tVarF 14) tNil))) (tCons (tCall (spW K pre__law_number_at) [] E0 (tCons (tVarF 13) (tCons (tVarF 14) tNil))) tNil))) tNil)))
  (tDrop (tBM K "list" rAppend (tVar 2) (tCons (tTup (tCons (tCall (spW K pre_read_text) [] E0 (tCons (tCB (rC K TupleR) (tCons (tVar 13) tNil)) (tCons (tVarF 14) tNil))) (tCons (tCall (spW K pre__law_text_at) [] E0 (tCons (tVarF 13) (tCons (tVarF 14) tNil))) tNil))) tNil)))))
  (tSeq (tAsg (tCall (spW K pre__law_noise) [] E0 (tCons (tVarF 1) (tCons (tC (.int 200)) tNil))) (gName 15))
  (tSeq (tDrop (tBM K "list" rAppend (tVar 2) (tCons (tTup (tCons (tCall (spW K pre_sum_of_octets) [] E0 (tCons (tCB (rC K TupleR) (tCons (tVar 15) tNil)) tNil)) (tCons (tCall (spW K pre__law_sum) [] E0 (tCons (tVarF 15) tNil)) tNil))) tNil)))
  (tDrop (tBM K "list" rAppend (tVar 2) (tCons (tTup (tCons (tCallN 0 1 (spW K pre_sum_of_octets) (fun vs zs => vs ++ zs) E0 tNil (tCons (tCB (rC K TupleR) (tCons (tVar 11) tNil)) tNil)) (tCons (tCall (spW K pre__law_sum) [] E0 (tCons (tVarF 11) tNil)) tNil))) tNil)))))))))))))))))))
  (tSeq (tDrop (tBM K "list" rAppend (tVar 2) (tCons (tTup (tCons (tCall (spW K pre_sum_of_octets) [] E0 (tCons (tOp (rB K MulR) (tTup (tCons (tC (.int 255)) tNil)) (tC (.int 3000))) tNil)) (tCons (tOp (rB K ModR) (tCB (rC K IntR) (tCons (tOp (rB K DivR) (tOp (rB K MulR) (tOp (rB K MulR) (tC (.int 255)) (tC (.int 3000))) (tC (.int 3001))) (tC (.int 2))) tNil)) (tC (.int 65521))) tNil))) tNil)))
  (tRet (tCall (spW K pre__law_all) [] E0 (tCons (tVarF 2) tNil)))))))

section
variable {K : PySem.W.Frag} {ds : List D} {W : List Res} {Φ : D → List Res → Prop}
end
end K79
namespace K79
open PySem PySem.Spec PyProof.Rows L2 Lg
local macro_rules
  | `(tactic| walk_at "lg") => `(tactic| first
    | with_reducible refine sp_seq ?_
    | with_reducible refine sp_own ?_
    | with_reducible refine sp_set ?_
    | with_reducible refine sp_parO1 ?_
    | with_reducible refine sp_parO2 ?_
    | with_reducible refine sp_parOO ?_
    | with_reducible refine sp_par3 ?_
    | with_reducible refine sp_par ?_
    | with_reducible refine sp_asg ?_
    | with_reducible refine sp_drop ?_
    | with_reducible refine sp_ret ?_
    | with_reducible refine sp_retN ?_
    | with_reducible refine sp_next ?_
    | with_reducible refine sp_break ?_
    | with_reducible refine sp_cont ?_
    | ((with_reducible refine sp_aug (d0 := ?lgd) ?lg0 ?_); (case lg0 => exact rfl))
    | ((with_reducible refine ep_vF (d := ?lgd) ?lg0 ?_); (case lg0 => exact rfl))
    | ((with_reducible refine ep_vFF (o := ?lgd) ?lg0 ?_); (case lg0 => exact rfl))
    | ((with_reducible refine ep_var (d := ?lgd) ?lg0 ?_); (case lg0 => exact rfl))
    | ((with_reducible refine ep_varS (o := ?lgd) ?lg0 ?_); (case lg0 => exact rfl))
    | with_reducible refine ep_int ?_
    | with_reducible refine ep_str ?_
    | with_reducible refine ep_non ?_
    | with_reducible refine ep_bl ?_
    | with_reducible refine ep_ty ?_
    | with_reducible refine ep_ref ?_
    | with_reducible refine ep_op ?_
    | with_reducible refine ep_un ?_
    | with_reducible refine ep_isiT ?_
    | with_reducible refine ep_isi ?_
    | with_reducible refine ep_cb ?_
    | with_reducible refine ep_tup ?_
    | with_reducible refine ep_lst ?_
    | with_reducible refine ep_call ?_
    | with_reducible refine ep_callN ?_
    | ((with_reducible refine ep_pair (xs0 := ?lgd) ?lg0 ?_); (case lg0 => exact rfl))
    | ((with_reducible refine ep_append (ds0 := ?lgd) ?lg0 ?_); (case lg0 => exact rfl))
    | with_reducible refine ep_sl ?_
    | with_reducible refine ep_revL ?_
    | with_reducible refine ep_zipL ?_
    | with_reducible refine ep_join ?_
    | with_reducible refine ep_index ?_
    | with_reducible refine ep_if ?_
    | with_reducible refine ep_andV ?_
    | with_reducible refine ep_orV ?_
    | with_reducible refine ep_notV ?_
    | with_reducible refine pt_no ?_
    | with_reducible refine pt_part ?_
    | with_reducible refine ea_nil ?_
    | with_reducible refine ea_cons ?_
    | with_reducible refine tp_test ?_
    | with_reducible refine tp_B ?_
    | with_reducible refine tp_and ?_
    | with_reducible refine tp_or ?_
    | with_reducible refine tp_not ?_
    | with_reducible refine tp_yes ?_
    | with_reducible refine tg_name ?_
    | with_reducible refine tg_tup rfl ?_
    | with_reducible refine tgs_cons ?_
    | with_reducible refine tgs_nil ?_
    | with_reducible refine it_u ?_
    | with_reducible refine it_en ?_
    | with_reducible refine it_r1 ?_
    | with_reducible refine it_r2 ?_
    | with_reducible refine it_r3 ?_)
  | `(tactic| walk_at "r") => `(tactic| first
    | exact rfl
    | exact ⟨_, rfl, rfl⟩
    | exact Or.inl ⟨_, rfl, rfl⟩
    | exact Or.inl rfl
    | exact Or.inr ⟨_, rfl, rfl⟩
    | exact ⟨rfl, rfl⟩
    | exact ⟨by decide, rfl⟩
    | exact ⟨⟨by decide, by decide⟩, rfl⟩
    | exact ⟨⟨by decide, by decide, by decide⟩, rfl⟩
    | exact ⟨PySem.IntMulOk.of_right (PySem.intBits_le_64 (by omega) (by omega)), rfl⟩
    | exact ⟨PySem.IntMulOk.of_left (PySem.intBits_le_64 (by omega) (by omega)), rfl⟩
    | exact ⟨by omega, rfl⟩
    | exact ⟨PySem.IntMulOk.of_bits (by decide +kernel) (by decide +kernel), rfl⟩)
  | `(tactic| walk_at "x") => `(tactic| first
    | walk_at "y"
    | with_reducible refine sp_if ?_)
  | `(tactic| walk_at "y") => `(tactic| first
    | walk_at "lg"
    | (refine ⟨fun _ => ?_, fun lgz => absurd lgz (by decide)⟩)
    | (refine ⟨fun lgz => absurd lgz (by decide), fun _ => ?_⟩)
    | ((with_reducible apply x3); (exact rfl); (exact rfl); (walk_at "r"))
    | ((with_reducible apply x1v); (exact rfl))
    | ((with_reducible apply x1b); (exact rfl))
    | ((with_reducible apply x1i); (exact rfl))
    | ((with_reducible apply x1z); (exact rfl))
    | ((with_reducible apply x1l); (exact rfl))
    | ((with_reducible apply x1r); (exact rfl))
    | ((with_reducible apply x1t); (exact rfl); (exact Nat.le_of_ble_eq_true rfl))
    | ((with_reducible apply x1s); (exact rfl))
    | ((with_reducible apply x1n); (exact rfl))
    | ((with_reducible apply x2c); (exact rfl); (walk_at "r"))
    | ((with_reducible apply x2u); (exact rfl); (walk_at "r"))
    | ((with_reducible apply x2w); (exact rfl); (exact rfl))
    | ((with_reducible apply xcN); (exact rfl); (exact rfl); (exact rfl); (exact rfl))
    | ((with_reducible apply x2p); (exact rfl); (exact rfl); (first | assumption | (rw [sizeLine_eq]; (try simp only [List.length_append, List.length_map, List.length_cons, List.length_nil]); omega)))
    | ((with_reducible apply x2a); (exact rfl); (exact rfl); (first | assumption | decide | omega | (rw [sizeLine_eq]; (try simp only [List.length_append, List.length_map, List.length_cons, List.length_nil]); omega)))
    | ((with_reducible apply x2s); (exact rfl))
    | ((with_reducible apply x2nv); (exact rfl))
    | ((with_reducible apply x2vn); (exact rfl))
    | ((with_reducible apply x2nn); (exact rfl))
    | ((with_reducible apply x3s); (exact rfl))
    | ((with_reducible apply x2g); (exact rfl); (exact rfl); (exact augI); (exact rfl)))
section
variable {K : PySem.W.Frag} {ds : List D} {W : List Res} {Φ : D → List Res → Prop}
theorem walk_octets_of_number (h : pre_octets_of_number ds W Φ) : StP K (t_octets_of_number K) (st0 N_octets_of_number ds) W (endP Φ) := by
  obtain ⟨n, rfl, hn, q⟩ := h
  have hl := octs_len 9999 n hn
  unfold t_octets_of_number
  repeat walk_at "x"
  refine StP.nx_imp (Qn := fun δ' W' => W' = W ∧ ∃ (acc : List Int) (r : Nat), r < 128 ∧ acc ++ [(r : Int)] = octs n ∧ δ' = [.d (.int n), .o (.l (acc.map D.int)), .d (.int r)]) ?_ ?_
  · refine sp_while (fun m δ' W' => W' = W ∧ ∃ (acc : List Int), acc ++ octs m = octs n ∧ δ' = [.d (.int n), .o (.l (acc.map D.int)), .d (.int (m : Nat))]) n ⟨rfl, [], rfl, rfl⟩ ?_
    rintro m δ' W' ⟨rfl, acc, ha, rfl⟩
    repeat walk_at "x"
    refine ⟨fun h1 => ?_, fun h1 => ?_⟩
    · have h1 := of_decide_eq_true h1
      have hm : ¬ m < 128 := by omega
      have hal : acc.length + (octs m).length = (octs n).length := by rw [← ha, List.length_append]
      repeat walk_at "x"
      refine ⟨m / 128, by omega, rfl, acc ++ [128 + ((m % 128 : Nat) : Int)], ?_, ?_⟩
      · rw [List.append_assoc, List.singleton_append, ← octs_great hm, ha]
      · rw [List.map_append]
        rfl
    · have h1 := of_decide_eq_false h1
      have hm : m < 128 := by omega
      exact ⟨rfl, acc, m, hm, by rw [← octs_small hm]; exact ha, rfl⟩
  · rintro δ' W' ⟨rfl, acc, r, hr, ha, rfl⟩
    have hal : acc.length + 1 = (octs n).length := by rw [← ha, List.length_append]; rfl
    repeat walk_at "x"
    have e : acc.map D.int ++ [D.int r] = (octs n).map D.int := by rw [← ha, List.map_append]; rfl
    rw [e]
    exact q
theorem walk_number_octets (h : pre_number_octets ds W Φ) : StP K (t_number_octets K) (st0 N_number_octets ds) W (endP Φ) := by
  obtain ⟨n, rfl, hn, q⟩ := h
  unfold t_number_octets
  repeat walk_at "x"
  exact ⟨n, rfl, hn, x1r rfl q⟩
theorem walk__law_number_octets (h : pre__law_number_octets ds W Φ) : StP K (t__law_number_octets K) (st0 N__law_number_octets ds) W (endP Φ) := by
  obtain ⟨n, rfl, hn, q⟩ := h
  have hl := octs_len 9999 n hn
  unfold t__law_number_octets
  repeat walk_at "x"
  refine StP.nx_imp (Qn := fun δ' W' => W' = W ∧ ∃ (acc : List Int) (r : Nat), r < 128 ∧ acc ++ [(r : Int)] = octs n ∧ δ' = [.d (.int n), .o (.l (acc.map D.int)), .d (.int r)]) ?_ ?_
  · refine sp_while (fun m δ' W' => W' = W ∧ ∃ (acc : List Int), acc ++ octs m = octs n ∧ δ' = [.d (.int n), .o (.l (acc.map D.int)), .d (.int (m : Nat))]) n ⟨rfl, [], rfl, rfl⟩ ?_
    rintro m δ' W' ⟨rfl, acc, ha, rfl⟩
    repeat walk_at "x"
    refine ⟨fun h1 => ?_, fun h1 => ?_⟩
    · have h1 := of_decide_eq_true h1
      have hm : ¬ m < 128 := by omega
      have hal : acc.length + (octs m).length = (octs n).length := by rw [← ha, List.length_append]
      repeat walk_at "x"
      refine ⟨m / 128, by omega, rfl, acc ++ [128 + ((m % 128 : Nat) : Int)], ?_, ?_⟩
      · rw [List.append_assoc, List.singleton_append, ← octs_great hm, ha]
      · rw [List.map_append]
        have e : (m : Int) % 128 + 128 = 128 + ((m % 128 : Nat) : Int) := by omega
        rw [e]
        rfl
    · have h1 := of_decide_eq_false h1
      have hm : m < 128 := by omega
      exact ⟨rfl, acc, m, hm, by rw [← octs_small hm]; exact ha, rfl⟩
  · rintro δ' W' ⟨rfl, acc, r, hr, ha, rfl⟩
    have hal : acc.length + 1 = (octs n).length := by rw [← ha, List.length_append]; rfl
    repeat walk_at "x"
    refine x3 rfl rfl ⟨by rw [List.length_map, sizeLine_eq]; show _ + 1 ≤ _; omega, rfl⟩ (x1r rfl ?_)
    have e : acc.map D.int ++ [D.int r] = (octs n).map D.int := by rw [← ha, List.map_append]; rfl
    show Φ (.lst (acc.map D.int ++ [D.int r])) W'
    rw [e]
    exact q
def ordD : D → D
  | .str z => .int (z.cps.getD 0 0 : Nat)
  | d => d
theorem ord_map (s : Str) : (s.cps.toList.map fun c => D.str ⟨#[c]⟩).map ordD = (ords s).map D.int := by
  unfold ords
  rw [List.map_map, List.map_map]
  rfl
theorem walk_octets_of_text (h : pre_octets_of_text ds W Φ) : StP K (t_octets_of_text K) (st0 N_octets_of_text ds) W (endP Φ) := by
  obtain ⟨s, rfl, hs, q⟩ := h
  have hz : s.length ≤ sizeLine := by rw [sizeLine_eq]; omega
  have hb : s.length < 128 ^ 10000 := Nat.lt_of_le_of_lt hs (by decide +kernel)
  have hl := octs_len 9999 s.length hb
  have ho := ords_len s
  unfold t_octets_of_text
  repeat walk_at "x"
  refine ⟨s.length, rfl, hb, ?_⟩
  walk_at "x"
  walk_at "x"
  refine ep_map ordD (tgin_name (by simp)) ?_
  repeat walk_at "x"
  refine ⟨⟨rfl, trivial⟩, ?_, fun i d e => ?_, ?_⟩
  · rw [List.length_map]
    show s.cps.toList.length ≤ _
    rw [Array.length_toList]
    exact hz
  · obtain ⟨c, _, rfl⟩ := List.mem_map.mp (List.mem_of_getElem? e)
    walk_at "x"
    refine ⟨rfl, ?_⟩
    repeat walk_at "x"
    exact ⟨rfl, rfl, rfl⟩
  · rw [ord_map]
    repeat walk_at "x"
    refine x3 rfl rfl ⟨?_, rfl⟩ (x1r rfl ?_)
    · rw [List.length_map, List.length_map, sizeLine_eq]; omega
    · rw [← List.map_append]
      exact q
theorem walk_text_octets (h : pre_text_octets ds W Φ) : StP K (t_text_octets K) (st0 N_text_octets ds) W (endP Φ) := by
  obtain ⟨s, rfl, hs, q⟩ := h
  unfold t_text_octets
  repeat walk_at "x"
  exact ⟨s, rfl, hs, x1r rfl q⟩
theorem walk__law_body (h : pre__law_body ds W Φ) : StP K (t__law_body K) (st0 N__law_body ds) W (endP Φ) := by
  obtain ⟨s, rfl, hs, q⟩ := h
  have hz : s.length ≤ sizeLine := by rw [sizeLine_eq]; omega
  have hb : s.length < 128 ^ 10000 := Nat.lt_of_le_of_lt hs (by decide +kernel)
  have hl := octs_len 9999 s.length hb
  have ho := ords_len s
  unfold t__law_body
  repeat walk_at "x"
  refine ⟨s.length, rfl, hb, ?_⟩
  refine ep_map ordD (tgin_name (by simp)) ?_
  repeat walk_at "x"
  refine ⟨⟨rfl, trivial⟩, ?_, fun i d e => ?_, ?_⟩
  · rw [List.length_map]
    show s.cps.toList.length ≤ _
    rw [Array.length_toList]
    exact hz
  · obtain ⟨c, _, rfl⟩ := List.mem_map.mp (List.mem_of_getElem? e)
    walk_at "x"
    refine ⟨rfl, ?_⟩
    repeat walk_at "x"
    exact ⟨rfl, rfl, rfl⟩
  · rw [ord_map]
    refine x3 rfl rfl ⟨?_, rfl⟩ (x1r rfl ?_)
    · rw [List.length_map, List.length_map, sizeLine_eq]; omega
    · show Φ (.lst ((octs s.length).map D.int ++ (ords s).map D.int)) _
      rw [← List.map_append]
      exact q
theorem walk__law_signs (h : pre__law_signs ds W Φ) : StP K (t__law_signs K) (st0 N__law_signs ds) W (endP Φ) := by
  obtain ⟨rfl, q⟩ := h
  unfold t__law_signs
  repeat walk_at "x"
  exact q
end
end K79
namespace K79
open PySem PySem.Spec PyProof.Rows L2 Lg
local macro_rules
  | `(tactic| walk_at "lg") => `(tactic| first
    | with_reducible refine sp_seq ?_
    | with_reducible refine sp_own ?_
    | with_reducible refine sp_set ?_
    | with_reducible refine sp_parO1 ?_
    | with_reducible refine sp_parO2 ?_
    | with_reducible refine sp_parOO ?_
    | with_reducible refine sp_par3 ?_
    | with_reducible refine sp_par ?_
    | with_reducible refine sp_asg ?_
    | with_reducible refine sp_drop ?_
    | with_reducible refine sp_ret ?_
    | with_reducible refine sp_retN ?_
    | with_reducible refine sp_next ?_
    | with_reducible refine sp_break ?_
    | with_reducible refine sp_cont ?_
    | ((with_reducible refine sp_aug (d0 := ?lgd) ?lg0 ?_); (case lg0 => exact rfl))
    | ((with_reducible refine ep_vF (d := ?lgd) ?lg0 ?_); (case lg0 => exact rfl))
    | ((with_reducible refine ep_vFF (o := ?lgd) ?lg0 ?_); (case lg0 => exact rfl))
    | ((with_reducible refine ep_var (d := ?lgd) ?lg0 ?_); (case lg0 => exact rfl))
    | ((with_reducible refine ep_varS (o := ?lgd) ?lg0 ?_); (case lg0 => exact rfl))
    | with_reducible refine ep_int ?_
    | with_reducible refine ep_str ?_
    | with_reducible refine ep_non ?_
    | with_reducible refine ep_bl ?_
    | with_reducible refine ep_ty ?_
    | with_reducible refine ep_ref ?_
    | with_reducible refine ep_op ?_
    | with_reducible refine ep_un ?_
    | with_reducible refine ep_isiT ?_
    | with_reducible refine ep_isi ?_
    | with_reducible refine ep_cb ?_
    | with_reducible refine ep_tup ?_
    | with_reducible refine ep_lst ?_
    | with_reducible refine ep_call ?_
    | with_reducible refine ep_callN ?_
    | ((with_reducible refine ep_pair (xs0 := ?lgd) ?lg0 ?_); (case lg0 => exact rfl))
    | ((with_reducible refine ep_append (ds0 := ?lgd) ?lg0 ?_); (case lg0 => exact rfl))
    | with_reducible refine ep_sl ?_
    | with_reducible refine ep_revL ?_
    | with_reducible refine ep_zipL ?_
    | with_reducible refine ep_join ?_
    | with_reducible refine ep_index ?_
    | with_reducible refine ep_if ?_
    | with_reducible refine ep_andV ?_
    | with_reducible refine ep_orV ?_
    | with_reducible refine ep_notV ?_
    | with_reducible refine pt_no ?_
    | with_reducible refine pt_part ?_
    | with_reducible refine ea_nil ?_
    | with_reducible refine ea_cons ?_
    | with_reducible refine tp_test ?_
    | with_reducible refine tp_B ?_
    | with_reducible refine tp_and ?_
    | with_reducible refine tp_or ?_
    | with_reducible refine tp_not ?_
    | with_reducible refine tp_yes ?_
    | with_reducible refine tg_name ?_
    | with_reducible refine tg_tup rfl ?_
    | with_reducible refine tgs_cons ?_
    | with_reducible refine tgs_nil ?_
    | with_reducible refine it_u ?_
    | with_reducible refine it_en ?_
    | with_reducible refine it_r1 ?_
    | with_reducible refine it_r2 ?_
    | with_reducible refine it_r3 ?_)
  | `(tactic| walk_at "r") => `(tactic| first
    | exact rfl
    | exact ⟨_, rfl, rfl⟩
    | exact Or.inl ⟨_, rfl, rfl⟩
    | exact Or.inl rfl
    | exact Or.inr ⟨_, rfl, rfl⟩
    | exact ⟨rfl, rfl⟩
    | exact ⟨by decide, rfl⟩
    | exact ⟨⟨by decide, by decide⟩, rfl⟩
    | exact ⟨⟨by decide, by decide, by decide⟩, rfl⟩
    | exact ⟨PySem.IntMulOk.of_right (PySem.intBits_le_64 (by omega) (by omega)), rfl⟩
    | exact ⟨PySem.IntMulOk.of_left (PySem.intBits_le_64 (by omega) (by omega)), rfl⟩
    | exact ⟨by omega, rfl⟩
    | exact ⟨PySem.IntMulOk.of_bits (by decide +kernel) (by decide +kernel), rfl⟩)
  | `(tactic| walk_at "x") => `(tactic| first
    | walk_at "y"
    | with_reducible refine sp_if ?_)
  | `(tactic| walk_at "y") => `(tactic| first
    | walk_at "lg"
    | (refine ⟨fun _ => ?_, fun lgz => absurd lgz (by decide)⟩)
    | (refine ⟨fun lgz => absurd lgz (by decide), fun _ => ?_⟩)
    | ((with_reducible apply x3); (exact rfl); (exact rfl); (walk_at "r"))
    | ((with_reducible apply x1v); (exact rfl))
    | ((with_reducible apply x1b); (exact rfl))
    | ((with_reducible apply x1i); (exact rfl))
    | ((with_reducible apply x1z); (exact rfl))
    | ((with_reducible apply x1l); (exact rfl))
    | ((with_reducible apply x1r); (exact rfl))
    | ((with_reducible apply x1t); (exact rfl); (exact Nat.le_of_ble_eq_true rfl))
    | ((with_reducible apply x1s); (exact rfl))
    | ((with_reducible apply x1n); (exact rfl))
    | ((with_reducible apply x2c); (exact rfl); (walk_at "r"))
    | ((with_reducible apply x2u); (exact rfl); (walk_at "r"))
    | ((with_reducible apply x2w); (exact rfl); (exact rfl))
    | ((with_reducible apply xcN); (exact rfl); (exact rfl); (exact rfl); (exact rfl))
    | ((with_reducible apply x2p); (exact rfl); (exact rfl); (first | assumption | (rw [sizeLine_eq]; (try simp only [List.length_append, List.length_map, List.length_cons, List.length_nil]); omega)))
    | ((with_reducible apply x2a); (exact rfl); (exact rfl); (first | assumption | decide | omega | (rw [sizeLine_eq]; (try simp only [List.length_append, List.length_map, List.length_cons, List.length_nil]); omega)))
    | ((with_reducible apply x2s); (exact rfl))
    | ((with_reducible apply x2nv); (exact rfl))
    | ((with_reducible apply x2vn); (exact rfl))
    | ((with_reducible apply x2nn); (exact rfl))
    | ((with_reducible apply x3s); (exact rfl))
    | ((with_reducible apply x2g); (exact rfl); (exact rfl); (exact augI); (exact rfl)))
theorem rd_at : ∀ (l : List Int) (i : Nat) (o : Int), (∀ (j : Nat) x, j < i → l[j]? = some x → ¬ x < 128) → l[i]? = some o → o < 128 → rd l = some ((l.take i).map (· - 128), o)
  | [], i, o, _, h, _ => by simp at h
  | x :: l, 0, o, _, h, h2 => by
    have e := Option.some.inj h
    subst e
    show (if x < 128 then _ else _) = _
    rw [if_pos h2]
    rfl
  | x :: l, i + 1, o, h1, h, h2 => by
    have hx := h1 0 x (by omega) rfl
    show (if x < 128 then _ else _) = _
    rw [if_neg hx, rd_at l i o (fun j y hj e => h1 (j + 1) y (by omega) e) h h2]
    rfl
theorem rd_no : ∀ (l : List Int), (∀ x ∈ l, ¬ x < 128) → rd l = none
  | [], _ => rfl
  | x :: l, h => by
    show (if x < 128 then _ else _) = _
    rw [if_neg (h x (by simp)), rd_no l fun y hy => h y (by simp [hy])]
theorem rd_inv : ∀ (l f : List Int) (o : Int), rd l = some (f, o) → f = (l.take f.length).map (· - 128) ∧ l[f.length]? = some o ∧ o < 128 ∧ ∀ x ∈ l.take f.length, ¬ x < 128
  | [], f, o, h => by cases h
  | x :: l, f, o, h => by
    have h : (if x < 128 then some ([], x) else match rd l with
      | none => none
      | some (f, l) => some ((x - 128) :: f, l)) = some (f, o) := h
    by_cases hx : x < 128
    · rw [if_pos hx] at h
      cases h
      exact ⟨rfl, rfl, hx, by simp⟩
    · rw [if_neg hx] at h
      cases q : rd l with
      | none => rw [q] at h; cases h
      | some p =>
        obtain ⟨g, b⟩ := p
        rw [q] at h
        cases h
        obtain ⟨h1, h2, h3, h4⟩ := rd_inv l g o q
        refine ⟨?_, h2, h3, fun y hy => ?_⟩
        · rw [List.length_cons, List.take_succ_cons, List.map_cons, ← h1]
        · rw [List.length_cons, List.take_succ_cons] at hy
          rcases List.mem_cons.mp hy with e | hy
          · rw [e]; exact hx
          · exact h4 y hy
theorem tI_at (os : List Int) (n : Nat) {o : Int} (h : os[n]? = some o) : L2.atI (os.map D.int) (n : Int) = some (.int o) := by
  rw [Lg.atI_nat, List.getElem?_map, h]
  rfl
section
variable {K : PySem.W.Frag} {ds : List D} {W : List Res} {Φ : D → List Res → Prop}
theorem walk_behind_number (h : pre_behind_number ds W Φ) : StP K (t_behind_number K) (st0 N_behind_number ds) W (endP Φ) := by
  obtain ⟨os, a, rfl, ⟨hl, h1, h2, h8⟩, q⟩ := h
  unfold t_behind_number
  unfold tI
  repeat walk_at "x"
  refine ⟨fun h3 => ?_, fun h3 => ?_⟩
  · have h3 := of_decide_eq_true h3
    repeat walk_at "x"
    unfold bndD at q
    rw [if_pos h3] at q
    exact q
  · have h3 := of_decide_eq_false h3
    obtain ⟨n, rfl⟩ := Int.eq_ofNat_of_zero_le (Int.not_lt.mp h3)
    unfold bndD at q
    rw [if_neg h3, Int.toNat_natCast] at q
    repeat walk_at "x"
    refine sp_for ?_
    repeat walk_at "x"
    refine ⟨n, _, rfl, ⟨h1, h2, by rw [List.length_map]; omega, by rw [List.length_map]; omega⟩, ?_⟩
    rw [List.length_map]
    refine ⟨fun i δ' W' => W' = W ∧ (∀ (j : Nat) x, j < i → (os.drop n)[j]? = some x → ¬ x < 128) ∧ ∃ c, δ' = [.d (tI os), .d (.int n), c], ⟨rfl, fun j x hj => absurd hj (Nat.not_lt_zero j), _, rfl⟩, ?_, ?_⟩
    · rintro i d δ' W' e ⟨rfl, hj, c, rfl⟩
      obtain ⟨hi, rfl⟩ := rngD_at e
      have hni : n + i < os.length := by omega
      have ho : os[n + i]? = some os[n + i] := List.getElem?_eq_getElem hni
      unfold tI
      repeat walk_at "x"
      refine x3 rfl rfl ⟨_, by rw [show ((n : Int) + (i : Nat)) = ((n + i : Nat) : Int) from by omega]; exact tI_at os (n + i) ho, rfl⟩ ?_
      repeat walk_at "x"
      have hod : (os.drop n)[i]? = some os[n + i] := by rw [List.getElem?_drop]; exact ho
      refine ⟨fun h4 => ?_, fun h4 => ?_⟩
      · have h4 := of_decide_eq_true h4
        rw [rd_at (os.drop n) i _ hj hod h4] at q
        repeat walk_at "x"
        have e2 : (n : Int) + (((os.drop n).take i).map (· - 128)).length + 1 = (n : Int) + (i : Nat) + 1 := by
          rw [List.length_map, List.length_take, List.length_drop]
          omega
        have q : Φ (.int ((n : Int) + (((os.drop n).take i).map (· - 128)).length + 1)) W' := q
        rw [e2] at q
        exact q
      · have h4 := of_decide_eq_false h4
        repeat walk_at "x"
        refine ⟨rfl, fun j x hj2 e2 => ?_, _, rfl⟩
        by_cases e3 : j < i
        · exact hj j x e3 e2
        · have e4 : j = i := by omega
          subst e4
          rw [hod] at e2
          cases e2
          exact h4
    · rintro δ' W' ⟨rfl, hj, c, rfl⟩
      rw [rngD_len] at hj
      repeat walk_at "x"
      have e : rd (os.drop n) = none := rd_no _ fun x hx => by
        obtain ⟨j, hj2, e2⟩ := List.getElem_of_mem hx
        refine hj j x ?_ (by rw [List.getElem?_eq_getElem hj2, e2])
        rw [List.length_drop] at hj2
        omega
      rw [e] at q
      exact q
theorem walk_number_in (h : pre_number_in ds W Φ) : StP K (t_number_in K) (st0 N_number_in ds) W (endP Φ) := by
  obtain ⟨os, a, rfl, ok, q⟩ := h
  have ok0 := ok
  obtain ⟨hl, h1, h2, h8⟩ := ok
  unfold t_number_in
  unfold tI
  repeat walk_at "x"
  refine ⟨os, a, rfl, ok0, ?_⟩
  repeat walk_at "y"
  unfold bndD
  unfold numAt at q
  by_cases ha : a < 0
  · rw [if_pos ha] at q
    rw [if_pos ha]
    repeat walk_at "x"
    exact q
  · rw [if_neg ha] at q
    rw [if_neg ha]
    obtain ⟨n, rfl⟩ := Int.eq_ofNat_of_zero_le (Int.not_lt.mp ha)
    rw [Int.toNat_natCast] at q
    rw [Int.toNat_natCast]
    cases z : rd (os.drop n) with
    | none =>
      rw [z] at q
      repeat walk_at "x"
      exact q
    | some p =>
      obtain ⟨f, l⟩ := p
      rw [z] at q
      obtain ⟨e1, e2, e3, e4⟩ := rd_inv _ _ _ z
      rw [List.getElem?_drop] at e2
      have hnl : n + f.length < os.length := (List.getElem?_eq_some_iff.mp e2).1
      have hat : L2.atI (os.map D.int) ((n : Int) + f.length + 1 - 1) = some (.int l) := by
        rw [show (n : Int) + f.length + 1 - 1 = ((n + f.length : Nat) : Int) from by omega]
        exact tI_at os _ e2
      have hl8 : I8 l := h8 l (List.mem_of_getElem? e2)
      have qq : Φ (numD (if f ≠ [] ∧ l = 0 then none else some (valB 128 (f ++ [l]), (n : Int) + f.length + 1))) W := q
      refine sp_ifv (decide (f ≠ [] ∧ l = 0)) ?_ ⟨fun hb => ?_, fun hb => ?_⟩
      · repeat walk_at "y"
        refine ⟨fun h3 => ?_, fun h3 => ?_⟩
        · have h3 := of_decide_eq_true h3
          have hf : f ≠ [] := fun e => by subst e; simp at h3; omega
          repeat walk_at "y"
          refine x3 rfl rfl ⟨_, hat, rfl⟩ ?_
          repeat walk_at "y"
          refine ⟨?_, rfl, rfl⟩
          by_cases hl : l = 0
          · rw [decide_eq_true hl, decide_eq_true ⟨hf, hl⟩]
          · rw [decide_eq_false hl, decide_eq_false fun z => hl z.2]
        · have h3 := of_decide_eq_false h3
          have hf : f = [] := by
            cases f with
            | nil => rfl
            | cons a f => simp at h3; omega
          refine ⟨?_, rfl, rfl⟩
          rw [decide_eq_false fun z => z.1 hf]
      · rw [if_pos (of_decide_eq_true hb)] at qq
        repeat walk_at "x"
        exact qq
      · rw [if_neg (of_decide_eq_false hb)] at qq
        iterate 4 walk_at "y"
        refine ep_map (fun d => match d with | .int i => .int (i - 128) | d => d) (tgin_name (by simp)) ?_
        repeat walk_at "x"
        rw [show (n : Int) + f.length + 1 - 1 = ((n + f.length : Nat) : Int) from by omega, cutL_mid]
        have ec : ((os.map D.int).drop n).take (n + f.length - n) = ((os.drop n).take f.length).map D.int := by
          rw [← List.map_drop, ← List.map_take, Nat.add_sub_cancel_left]
        rw [ec]
        refine ⟨⟨rfl, trivial⟩, ?_, fun i d e => ?_, ?_⟩
        · rw [List.length_map, List.length_take, List.length_drop, sizeLine_eq]
          omega
        · obtain ⟨x, _, rfl⟩ := List.mem_map.mp (List.mem_of_getElem? e)
          walk_at "x"
          refine ⟨rfl, ?_⟩
          repeat walk_at "x"
          exact ⟨rfl, rfl, rfl⟩
        · have ef : List.map (fun d => match d with | .int i => D.int (i - 128) | d => d) (((os.drop n).take f.length).map D.int) = f.map D.int := by
            conv => rhs; rw [e1]
            rw [List.map_map, List.map_map]
            rfl
          rw [ef]
          repeat walk_at "x"
          refine x3 rfl rfl ⟨_, hat, rfl⟩ ?_
          repeat walk_at "x"
          have hfl : f.length ≤ os.length := by omega
          refine x3 rfl rfl ⟨by rw [List.length_map, sizeLine_eq]; show _ + 1 ≤ _; omega, rfl⟩ ?_
          repeat walk_at "x"
          refine ⟨f ++ [l], ?_, by simp, by rw [List.length_append]; show _ + 1 ≤ _; omega, fun x hx => ?_, ?_⟩
          · unfold lI
            rw [List.map_append]
            rfl
          · rcases List.mem_append.mp hx with hx | hx
            · rw [e1] at hx
              obtain ⟨y, hy, rfl⟩ := List.mem_map.mp hx
              have hy8 := h8 y (List.mem_of_mem_drop (List.mem_of_mem_take hy))
              have hy4 := e4 y hy
              unfold I8 at hy8
              omega
            · rw [List.mem_singleton.mp hx]
              unfold I8 at hl8
              omega
          · repeat walk_at "x"
            exact qq
end
end K79
namespace K79
open PySem PySem.Spec PyProof.Rows L2 Lg
local macro_rules
  | `(tactic| walk_at "lg") => `(tactic| first
    | with_reducible refine sp_seq ?_
    | with_reducible refine sp_own ?_
    | with_reducible refine sp_set ?_
    | with_reducible refine sp_parO1 ?_
    | with_reducible refine sp_parO2 ?_
    | with_reducible refine sp_parOO ?_
    | with_reducible refine sp_par3 ?_
    | with_reducible refine sp_par ?_
    | with_reducible refine sp_asg ?_
    | with_reducible refine sp_drop ?_
    | with_reducible refine sp_ret ?_
    | with_reducible refine sp_retN ?_
    | with_reducible refine sp_next ?_
    | with_reducible refine sp_break ?_
    | with_reducible refine sp_cont ?_
    | ((with_reducible refine sp_aug (d0 := ?lgd) ?lg0 ?_); (case lg0 => exact rfl))
    | ((with_reducible refine ep_vF (d := ?lgd) ?lg0 ?_); (case lg0 => exact rfl))
    | ((with_reducible refine ep_vFF (o := ?lgd) ?lg0 ?_); (case lg0 => exact rfl))
    | ((with_reducible refine ep_var (d := ?lgd) ?lg0 ?_); (case lg0 => exact rfl))
    | ((with_reducible refine ep_varS (o := ?lgd) ?lg0 ?_); (case lg0 => exact rfl))
    | with_reducible refine ep_int ?_
    | with_reducible refine ep_str ?_
    | with_reducible refine ep_non ?_
    | with_reducible refine ep_bl ?_
    | with_reducible refine ep_ty ?_
    | with_reducible refine ep_ref ?_
    | with_reducible refine ep_op ?_
    | with_reducible refine ep_un ?_
    | with_reducible refine ep_isiT ?_
    | with_reducible refine ep_isi ?_
    | with_reducible refine ep_cb ?_
    | with_reducible refine ep_tup ?_
    | with_reducible refine ep_lst ?_
    | with_reducible refine ep_call ?_
    | with_reducible refine ep_callN ?_
    | ((with_reducible refine ep_pair (xs0 := ?lgd) ?lg0 ?_); (case lg0 => exact rfl))
    | ((with_reducible refine ep_append (ds0 := ?lgd) ?lg0 ?_); (case lg0 => exact rfl))
    | with_reducible refine ep_sl ?_
    | with_reducible refine ep_revL ?_
    | with_reducible refine ep_zipL ?_
    | with_reducible refine ep_join ?_
    | with_reducible refine ep_index ?_
    | with_reducible refine ep_if ?_
    | with_reducible refine ep_andV ?_
    | with_reducible refine ep_orV ?_
    | with_reducible refine ep_notV ?_
    | with_reducible refine pt_no ?_
    | with_reducible refine pt_part ?_
    | with_reducible refine ea_nil ?_
    | with_reducible refine ea_cons ?_
    | with_reducible refine tp_test ?_
    | with_reducible refine tp_B ?_
    | with_reducible refine tp_and ?_
    | with_reducible refine tp_or ?_
    | with_reducible refine tp_not ?_
    | with_reducible refine tp_yes ?_
    | with_reducible refine tg_name ?_
    | with_reducible refine tg_tup rfl ?_
    | with_reducible refine tgs_cons ?_
    | with_reducible refine tgs_nil ?_
    | with_reducible refine it_u ?_
    | with_reducible refine it_en ?_
    | with_reducible refine it_r1 ?_
    | with_reducible refine it_r2 ?_
    | with_reducible refine it_r3 ?_)
  | `(tactic| walk_at "r") => `(tactic| first
    | exact rfl
    | exact ⟨_, rfl, rfl⟩
    | exact Or.inl ⟨_, rfl, rfl⟩
    | exact Or.inl rfl
    | exact Or.inr ⟨_, rfl, rfl⟩
    | exact ⟨rfl, rfl⟩
    | exact ⟨by decide, rfl⟩
    | exact ⟨⟨by decide, by decide⟩, rfl⟩
    | exact ⟨⟨by decide, by decide, by decide⟩, rfl⟩
    | exact ⟨PySem.IntMulOk.of_right (PySem.intBits_le_64 (by omega) (by omega)), rfl⟩
    | exact ⟨PySem.IntMulOk.of_left (PySem.intBits_le_64 (by omega) (by omega)), rfl⟩
    | exact ⟨by omega, rfl⟩
    | exact ⟨PySem.IntMulOk.of_bits (by decide +kernel) (by decide +kernel), rfl⟩)
  | `(tactic| walk_at "x") => `(tactic| first
    | walk_at "y"
    | with_reducible refine sp_if ?_)
  | `(tactic| walk_at "y") => `(tactic| first
    | walk_at "lg"
    | (refine ⟨fun _ => ?_, fun lgz => absurd lgz (by decide)⟩)
    | (refine ⟨fun lgz => absurd lgz (by decide), fun _ => ?_⟩)
    | ((with_reducible apply x3); (exact rfl); (exact rfl); (walk_at "r"))
    | ((with_reducible apply x1v); (exact rfl))
    | ((with_reducible apply x1b); (exact rfl))
    | ((with_reducible apply x1i); (exact rfl))
    | ((with_reducible apply x1z); (exact rfl))
    | ((with_reducible apply x1l); (exact rfl))
    | ((with_reducible apply x1r); (exact rfl))
    | ((with_reducible apply x1t); (exact rfl); (exact Nat.le_of_ble_eq_true rfl))
    | ((with_reducible apply x1s); (exact rfl))
    | ((with_reducible apply x1n); (exact rfl))
    | ((with_reducible apply x2c); (exact rfl); (walk_at "r"))
    | ((with_reducible apply x2u); (exact rfl); (walk_at "r"))
    | ((with_reducible apply x2w); (exact rfl); (exact rfl))
    | ((with_reducible apply xcN); (exact rfl); (exact rfl); (exact rfl); (exact rfl))
    | ((with_reducible apply x2p); (exact rfl); (exact rfl); (first | assumption | (rw [sizeLine_eq]; (try simp only [List.length_append, List.length_map, List.length_cons, List.length_nil]); omega)))
    | ((with_reducible apply x2a); (exact rfl); (exact rfl); (first | assumption | decide | omega | (rw [sizeLine_eq]; (try simp only [List.length_append, List.length_map, List.length_cons, List.length_nil]); omega)))
    | ((with_reducible apply x2s); (exact rfl))
    | ((with_reducible apply x2nv); (exact rfl))
    | ((with_reducible apply x2vn); (exact rfl))
    | ((with_reducible apply x2nn); (exact rfl))
    | ((with_reducible apply x3s); (exact rfl))
    | ((with_reducible apply x2g); (exact rfl); (exact rfl); (exact augI); (exact rfl)))
section
variable {K : PySem.W.Frag} {ds : List D} {W : List Res} {Φ : D → List Res → Prop}
theorem walk_read_number (h : pre_read_number ds W Φ) : StP K (t_read_number K) (st0 N_read_number ds) W (endP Φ) := by
  obtain ⟨os, a, rfl, ok, q⟩ := h
  unfold t_read_number
  unfold tI
  repeat walk_at "x"
  exact ⟨os, a, rfl, ok, x1r rfl q⟩
theorem walk_read_text (h : pre_read_text ds W Φ) : StP K (t_read_text K) (st0 N_read_text ds) W (endP Φ) := by
  obtain ⟨os, a, rfl, ok, q⟩ := h
  unfold t_read_text
  unfold tI
  repeat walk_at "x"
  exact ⟨os, a, rfl, ok, x1r rfl q⟩
def SG : Str := " !\"#$\n&'()*+,-./0123456789:;<=>?@ABCDEFGHIJKLMNOPQRSTUVWXYZ[\\]^_`abcdefghijklmnopqrstuvwxyz{|}~"
theorem SG_len : SG.length = 95 := by decide +kernel
theorem SG_at : ∀ i : Fin 95, i.val ≠ 5 → SG.cps.toList[i.val]? = some (32 + i.val) := by decide +kernel
theorem walk_sign_of (h : pre_sign_of ds W Φ) : StP K (t_sign_of K) (st0 N_sign_of ds) W (endP Φ) := by
  obtain ⟨o, rfl, q⟩ := h
  unfold t_sign_of
  repeat walk_at "x"
  refine ⟨fun h1 => ?_, fun h1 => ?_⟩
  · have h1 := of_decide_eq_true h1
    subst h1
    repeat walk_at "x"
    exact q
  · have h1 := of_decide_eq_false h1
    repeat walk_at "y"
    refine sp_ifv (decide (o < 32 ∨ 127 ≤ o ∨ o = 37)) ?_ ⟨fun hb => ?_, fun hb => ?_⟩
    · repeat walk_at "y"
      refine ⟨fun h2 => ?_, fun h2 => ?_⟩
      · have h2 := of_decide_eq_true h2
        exact ⟨(decide_eq_true (Or.inl h2)).symm, rfl, rfl⟩
      · have h2 := of_decide_eq_false h2
        repeat walk_at "y"
        refine ⟨fun h3 => ?_, fun h3 => ?_⟩
        · have h3 := of_decide_eq_true h3
          have h3 : (32 : Int) + ((SG.length : Nat) : Int) ≤ o := h3
          rw [SG_len] at h3
          have h3 : 127 ≤ o := by omega
          exact ⟨(decide_eq_true (Or.inr (Or.inl h3))).symm, rfl, rfl⟩
        · have h3 := of_decide_eq_false h3
          have h3 : ¬ (32 : Int) + ((SG.length : Nat) : Int) ≤ o := h3
          rw [SG_len] at h3
          have h3 : ¬ 127 ≤ o := by omega
          repeat walk_at "y"
          refine ⟨?_, rfl, rfl⟩
          by_cases h4 : o = 37
          · rw [decide_eq_true h4, decide_eq_true (Or.inr (Or.inr h4))]
          · rw [decide_eq_false h4, decide_eq_false (by omega)]
    · have hb := of_decide_eq_true hb
      have e : okc o = false := by
        unfold okc
        rw [decide_eq_false h1]
        by_cases a1 : 32 ≤ o
        · by_cases a2 : o ≤ 126
          · have a3 : o = 37 := by omega
            subst a3
            rfl
          · simp [a2]
        · simp [a1]
      rw [e] at q
      repeat walk_at "x"
      exact q
    · have hb := of_decide_eq_false hb
      have e : okc o = true := by
        unfold okc
        have a1 : 32 ≤ o := by omega
        have a2 : o ≤ 126 := by omega
        have a3 : o ≠ 37 := by omega
        simp [a1, a2, a3]
      rw [e] at q
      repeat walk_at "x"
      obtain ⟨n, rfl⟩ := Int.eq_ofNat_of_zero_le (show 0 ≤ o by omega)
      have hn : n - 32 < 95 := by omega
      have hs := SG_at ⟨n - 32, hn⟩ (by show n - 32 ≠ 5; omega)
      have e2 : 32 + (n - 32) = n := by omega
      refine x3 rfl rfl ⟨by show SG.length ≤ sizeLine; rw [SG_len, sizeLine_eq]; decide, n, ?_, rfl⟩ (x1r rfl ?_)
      · show L2.atI SG.cps.toList ((n : Int) - 32) = some n
        rw [show (n : Int) - 32 = ((n - 32 : Nat) : Int) from by omega, Lg.atI_nat]
        have hs : SG.cps.toList[n - 32]? = some (32 + (n - 32)) := hs
        rw [hs, e2]
      · exact q
theorem walk_sum_of_octets (h : pre_sum_of_octets ds W Φ) : StP K (t_sum_of_octets K) (st0 N_sum_of_octets ds) W (endP Φ) := by
  obtain ⟨os, rfl, hl, h8, q⟩ := h
  unfold t_sum_of_octets
  unfold tI
  repeat walk_at "x"
  refine sp_for ?_
  repeat walk_at "x"
  refine ⟨tI os, os.map D.int, rfl, .inr rfl, ?_⟩
  refine ⟨fun i δ' W' => W' = W ∧ ∃ c1 c2, δ' = [.d (tI os), .d (.int (((List.range i).map fun j => os.getD j 0 * ((j : Int) + 1)).sum)), c1, c2], ⟨rfl, _, _, rfl⟩, ?_, ?_⟩
  · rintro i d δ' W' e ⟨rfl, c1, c2, rfl⟩
    obtain ⟨hi, rfl⟩ := enumD_at e
    rw [List.length_map] at hi
    have eo : (os.map D.int).getD i .non = .int (os.getD i 0) := by
      rw [List.getD_eq_getElem?_getD, List.getElem?_map, List.getElem?_eq_getElem hi, List.getD_eq_getElem?_getD, List.getElem?_eq_getElem hi]
      rfl
    rw [eo]
    have h8 := h8 (os.getD i 0) (by
      rw [List.getD_eq_getElem?_getD, List.getElem?_eq_getElem hi]
      exact List.getElem_mem hi)
    unfold I8 at h8
    repeat walk_at "x"
    refine ⟨rfl, .d (.int (i : Nat)), .d (.int (os.getD i 0)), ?_⟩
    rw [List.range_succ, List.map_append, List.sum_append]
    have e2 : (List.map (fun j : Nat => os.getD j 0 * ((j : Int) + 1)) [i]).sum = ((i : Int) + 1) * os.getD i 0 := by simp [Int.mul_comm]
    rw [e2]
    rfl
  · rintro δ' W' ⟨rfl, c1, c2, rfl⟩
    repeat walk_at "x"
    rw [enumD_len, List.length_map]
    exact q
theorem walk__law_sum (h : pre__law_sum ds W Φ) : StP K (t__law_sum K) (st0 N__law_sum ds) W (endP Φ) := by
  obtain ⟨os, rfl, hl, h8, q⟩ := h
  unfold t__law_sum
  unfold lI
  iterate 6 walk_at "x"
  refine ep_map (fun d => match d with | .int i => .int (os.getD i.toNat 0 * (i + 1)) | d => d) (tgin_name (by simp)) ?_
  repeat walk_at "x"
  rw [List.length_map]
  refine ⟨_, rfl, ⟨by omega, by omega⟩, ?_⟩
  rw [Int.toNat_natCast]
  refine ⟨⟨rfl, trivial⟩, by rw [rngD_len, sizeLine_eq]; omega, fun i d e => ?_, ?_⟩
  · obtain ⟨hi, rfl⟩ := rngD_at e
    rw [Int.zero_add]
    have eo : os[i]? = some (os.getD i 0) := by
      rw [List.getD_eq_getElem?_getD, List.getElem?_eq_getElem hi]
      rfl
    have h8 := h8 (os.getD i 0) (List.mem_of_getElem? eo)
    unfold I8 at h8
    walk_at "x"
    refine ⟨rfl, ?_⟩
    repeat walk_at "x"
    refine x3 rfl rfl ⟨_, tI_at os i eo, rfl⟩ ?_
    repeat walk_at "x"
    exact ⟨rfl, rfl, rfl⟩
  · have e : (rngD 0 os.length).map (fun d => match d with | .int i => D.int (os.getD i.toNat 0 * (i + 1)) | d => d) = ((List.range os.length).map fun i => os.getD i 0 * ((i : Int) + 1)).map D.int := by
      unfold rngD
      rw [List.map_map, List.map_map]
      apply List.map_congr_left
      intro i _
      show D.int (os.getD ((0 : Int) + (i : Nat)).toNat 0 * ((0 : Int) + (i : Nat) + 1)) = D.int _
      rw [Int.zero_add, Int.toNat_natCast]
    rw [e]
    repeat walk_at "x"
    exact q
end
end K79
namespace K79
open PySem PySem.Spec PyProof.Rows L2 Lg
local macro_rules
  | `(tactic| walk_at "lg") => `(tactic| first
    | with_reducible refine sp_seq ?_
    | with_reducible refine sp_own ?_
    | with_reducible refine sp_set ?_
    | with_reducible refine sp_parO1 ?_
    | with_reducible refine sp_parO2 ?_
    | with_reducible refine sp_parOO ?_
    | with_reducible refine sp_par3 ?_
    | with_reducible refine sp_par ?_
    | with_reducible refine sp_asg ?_
    | with_reducible refine sp_drop ?_
    | with_reducible refine sp_ret ?_
    | with_reducible refine sp_retN ?_
    | with_reducible refine sp_next ?_
    | with_reducible refine sp_break ?_
    | with_reducible refine sp_cont ?_
    | ((with_reducible refine sp_aug (d0 := ?lgd) ?lg0 ?_); (case lg0 => exact rfl))
    | ((with_reducible refine ep_vF (d := ?lgd) ?lg0 ?_); (case lg0 => exact rfl))
    | ((with_reducible refine ep_vFF (o := ?lgd) ?lg0 ?_); (case lg0 => exact rfl))
    | ((with_reducible refine ep_var (d := ?lgd) ?lg0 ?_); (case lg0 => exact rfl))
    | ((with_reducible refine ep_varS (o := ?lgd) ?lg0 ?_); (case lg0 => exact rfl))
    | with_reducible refine ep_int ?_
    | with_reducible refine ep_str ?_
    | with_reducible refine ep_non ?_
    | with_reducible refine ep_bl ?_
    | with_reducible refine ep_ty ?_
    | with_reducible refine ep_ref ?_
    | with_reducible refine ep_op ?_
    | with_reducible refine ep_un ?_
    | with_reducible refine ep_isiT ?_
    | with_reducible refine ep_isi ?_
    | with_reducible refine ep_cb ?_
    | with_reducible refine ep_tup ?_
    | with_reducible refine ep_lst ?_
    | with_reducible refine ep_call ?_
    | with_reducible refine ep_callN ?_
    | ((with_reducible refine ep_pair (xs0 := ?lgd) ?lg0 ?_); (case lg0 => exact rfl))
    | ((with_reducible refine ep_append (ds0 := ?lgd) ?lg0 ?_); (case lg0 => exact rfl))
    | with_reducible refine ep_sl ?_
    | with_reducible refine ep_revL ?_
    | with_reducible refine ep_zipL ?_
    | with_reducible refine ep_join ?_
    | with_reducible refine ep_index ?_
    | with_reducible refine ep_if ?_
    | with_reducible refine ep_andV ?_
    | with_reducible refine ep_orV ?_
    | with_reducible refine ep_notV ?_
    | with_reducible refine pt_no ?_
    | with_reducible refine pt_part ?_
    | with_reducible refine ea_nil ?_
    | with_reducible refine ea_cons ?_
    | with_reducible refine tp_test ?_
    | with_reducible refine tp_B ?_
    | with_reducible refine tp_and ?_
    | with_reducible refine tp_or ?_
    | with_reducible refine tp_not ?_
    | with_reducible refine tp_yes ?_
    | with_reducible refine tg_name ?_
    | with_reducible refine tg_tup rfl ?_
    | with_reducible refine tgs_cons ?_
    | with_reducible refine tgs_nil ?_
    | with_reducible refine it_u ?_
    | with_reducible refine it_en ?_
    | with_reducible refine it_r1 ?_
    | with_reducible refine it_r2 ?_
    | with_reducible refine it_r3 ?_)
  | `(tactic| walk_at "r") => `(tactic| first
    | exact rfl
    | exact ⟨_, rfl, rfl⟩
    | exact Or.inl ⟨_, rfl, rfl⟩
    | exact Or.inl rfl
    | exact Or.inr ⟨_, rfl, rfl⟩
    | exact ⟨rfl, rfl⟩
    | exact ⟨by decide, rfl⟩
    | exact ⟨⟨by decide, by decide⟩, rfl⟩
    | exact ⟨⟨by decide, by decide, by decide⟩, rfl⟩
    | exact ⟨PySem.IntMulOk.of_right (PySem.intBits_le_64 (by omega) (by omega)), rfl⟩
    | exact ⟨PySem.IntMulOk.of_left (PySem.intBits_le_64 (by omega) (by omega)), rfl⟩
    | exact ⟨by omega, rfl⟩
    | exact ⟨PySem.IntMulOk.of_bits (by decide +kernel) (by decide +kernel), rfl⟩)
  | `(tactic| walk_at "x") => `(tactic| first
    | walk_at "y"
    | with_reducible refine sp_if ?_)
  | `(tactic| walk_at "y") => `(tactic| first
    | walk_at "lg"
    | (refine ⟨fun _ => ?_, fun lgz => absurd lgz (by decide)⟩)
    | (refine ⟨fun lgz => absurd lgz (by decide), fun _ => ?_⟩)
    | ((with_reducible apply x3); (exact rfl); (exact rfl); (walk_at "r"))
    | ((with_reducible apply x1v); (exact rfl))
    | ((with_reducible apply x1b); (exact rfl))
    | ((with_reducible apply x1i); (exact rfl))
    | ((with_reducible apply x1z); (exact rfl))
    | ((with_reducible apply x1l); (exact rfl))
    | ((with_reducible apply x1r); (exact rfl))
    | ((with_reducible apply x1t); (exact rfl); (exact Nat.le_of_ble_eq_true rfl))
    | ((with_reducible apply x1s); (exact rfl))
    | ((with_reducible apply x1n); (exact rfl))
    | ((with_reducible apply x2c); (exact rfl); (walk_at "r"))
    | ((with_reducible apply x2u); (exact rfl); (walk_at "r"))
    | ((with_reducible apply x2w); (exact rfl); (exact rfl))
    | ((with_reducible apply xcN); (exact rfl); (exact rfl); (exact rfl); (exact rfl))
    | ((with_reducible apply x2p); (exact rfl); (exact rfl); (first | assumption | (rw [sizeLine_eq]; (try simp only [List.length_append, List.length_map, List.length_cons, List.length_nil]); omega)))
    | ((with_reducible apply x2a); (exact rfl); (exact rfl); (first | assumption | decide | omega | (rw [sizeLine_eq]; (try simp only [List.length_append, List.length_map, List.length_cons, List.length_nil]); omega)))
    | ((with_reducible apply x2s); (exact rfl))
    | ((with_reducible apply x2nv); (exact rfl))
    | ((with_reducible apply x2vn); (exact rfl))
    | ((with_reducible apply x2nn); (exact rfl))
    | ((with_reducible apply x3s); (exact rfl))
    | ((with_reducible apply x2g); (exact rfl); (exact rfl); (exact augI); (exact rfl)))
theorem joinL_nil : ∀ ps : List (List Nat), TL.joinL [] ps = ps.flatten
  | [] => rfl
  | [p] => by simp [TL.joinL]
  | p :: q :: r => by
    show p ++ ([] ++ TL.joinL [] (q :: r)) = _
    rw [joinL_nil (q :: r)]
    rfl
theorem join_chr (l : List Int) : Txt.join ("" : Str) (l.map chrS) = txtS l := by
  rw [TL.join_eq]
  have e : TL.tl (Str.join ("" : Str) (l.map chrS)) = TL.tl (txtS l) := by
    rw [TL.tl_join]
    have e0 : TL.tl ("" : Str) = [] := rfl
    rw [e0, joinL_nil, List.map_map]
    show _ = l.map Int.toNat
    induction l with
    | nil => rfl
    | cons a l ih => rw [List.map_cons, List.flatten_cons, ih]; rfl
  have e2 := congrArg List.toArray e
  simp only [TL.tl] at e2
  rw [Array.toArray_toList, Array.toArray_toList] at e2
  cases h1 : Str.join ("" : Str) (l.map chrS)
  cases h2 : txtS l
  rw [h1, h2] at e2
  exact congrArg Str.mk e2
theorem sum_chr (l : List Int) : ((l.map chrS).map (·.length)).sum = l.length := by
  induction l with
  | nil => rfl
  | cons a l ih =>
    rw [List.map_cons, List.map_cons, List.sum_cons, ih, List.length_cons]
    show 1 + _ = _
    omega
theorem valB_nn {b : Int} (hb : 0 ≤ b) : ∀ l : List Int, (∀ f ∈ l, 0 ≤ f) → 0 ≤ valB b l
  | [], _ => Int.le_refl _
  | f :: r, h => by
    have h1 := h f (by simp)
    have h2 := valB_nn hb r fun g hg => h g (by simp [hg])
    have h3 := Int.mul_nonneg hb h2
    show 0 ≤ f + b * valB b r
    omega
/-- what is read: its number, the place behind it -/
theorem numAt_some {os : List Int} {a n e : Int} (h8 : ∀ o ∈ os, I8 o) (h : numAt os a = some (n, e)) : 0 ≤ n ∧ 0 ≤ e ∧ e ≤ os.length := by
  unfold numAt at h
  by_cases ha : a < 0
  · rw [if_pos ha] at h
    cases h
  · rw [if_neg ha] at h
    obtain ⟨k, rfl⟩ := Int.eq_ofNat_of_zero_le (Int.not_lt.mp ha)
    rw [Int.toNat_natCast] at h
    cases z : rd (os.drop k) with
    | none => rw [z] at h; cases h
    | some p =>
      obtain ⟨f, l⟩ := p
      rw [z] at h
      have h : (if f ≠ [] ∧ l = 0 then none else some (valB 128 (f ++ [l]), (k : Int) + f.length + 1)) = some (n, e) := h
      split at h
      · cases h
      · cases h
        obtain ⟨e1, e2, e3, e4⟩ := rd_inv _ _ _ z
        rw [List.getElem?_drop] at e2
        have hkl := (List.getElem?_eq_some_iff.mp e2).1
        refine ⟨valB_nn (by decide) _ fun x hx => ?_, by omega, by omega⟩
        rcases List.mem_append.mp hx with hx | hx
        · rw [e1] at hx
          obtain ⟨y, hy, rfl⟩ := List.mem_map.mp hx
          have := e4 y hy
          omega
        · rw [List.mem_singleton.mp hx]
          have := h8 l (List.mem_of_getElem? e2)
          unfold I8 at this
          omega
theorem all_any (l : List Int) : (l.map fun o => if okc o then some (chrS o) else none).any Option.isNone = !l.all okc := by
  induction l with
  | nil => rfl
  | cons a l ih =>
    rw [List.map_cons, List.any_cons, ih, List.all_cons]
    cases h : okc a <;> simp
section
variable {K : PySem.W.Frag} {ds : List D} {W : List Res} {Φ : D → List Res → Prop}
theorem walk_text_in (h : pre_text_in ds W Φ) : StP K (t_text_in K) (st0 N_text_in ds) W (endP Φ) := by
  obtain ⟨os, a, rfl, ok, q⟩ := h
  have h8 := ok.2.2.2
  have hl := ok.1
  unfold t_text_in
  unfold tI
  repeat walk_at "y"
  refine ⟨os, a, rfl, ok, ?_⟩
  repeat walk_at "y"
  unfold textAt at q
  cases z : numAt os a with
  | none =>
    rw [z] at q
    unfold numD
    repeat walk_at "x"
    exact q
  | some p =>
    obtain ⟨n, e⟩ := p
    rw [z] at q
    obtain ⟨hn, he, hel⟩ := numAt_some h8 z
    obtain ⟨n, rfl⟩ := Int.eq_ofNat_of_zero_le hn
    obtain ⟨e, rfl⟩ := Int.eq_ofNat_of_zero_le he
    have q : Φ (if (n : Int) > (os.length : Int) - e then .non else if ((os.drop e).take n).all okc then .tup [.str (txtS ((os.drop e).take n)), .int ((n : Int) + e)] else .non) W := q
    have hol : (os.map D.int).length = os.length := List.length_map ..
    unfold numD
    repeat walk_at "x"
    rw [hol]
    refine ⟨fun h1 => ?_, fun h1 => ?_⟩
    · rw [if_pos (of_decide_eq_true h1)] at q
      repeat walk_at "x"
      exact q
    · have h1 := of_decide_eq_false h1
      rw [if_neg h1] at q
      have hpl : ((os.drop e).take n).length ≤ 30000 := by
        rw [List.length_take, List.length_drop]
        omega
      repeat walk_at "x"
      refine ep_map (fun d => match d with | .int o => if okc o then .str (chrS o) else .non | d => d) (tgin_name (by simp)) ?_
      repeat walk_at "x"
      rw [show (n : Int) + (e : Int) = ((n + e : Nat) : Int) from by omega, cutL_mid]
      have ec : ((os.map D.int).drop e).take (n + e - e) = ((os.drop e).take n).map D.int := by
        rw [← List.map_drop, ← List.map_take, Nat.add_sub_cancel]
      rw [ec]
      rw [show (n : Int) + (e : Int) = ((n + e : Nat) : Int) from by omega] at q
      generalize (os.drop e).take n = part at q hpl
      refine ⟨⟨rfl, trivial⟩, ?_, fun i d e => ?_, ?_⟩
      · rw [List.length_map, sizeLine_eq]
        omega
      · obtain ⟨x, _, rfl⟩ := List.mem_map.mp (List.mem_of_getElem? e)
        walk_at "x"
        refine ⟨rfl, ?_⟩
        repeat walk_at "x"
        exact ⟨x, rfl, rfl, rfl, rfl⟩
      · have em : (part.map D.int).map (fun d => match d with | .int o => if okc o then D.str (chrS o) else .non | d => d) = (part.map fun o => if okc o then some (chrS o) else none).map fun | some s => D.str s | none => D.non := by
          rw [List.map_map, List.map_map]
          apply List.map_congr_left
          intro o _
          show (if okc o then D.str (chrS o) else .non) = _
          cases h : okc o <;> simp [h]
        rw [em]
        repeat walk_at "y"
        refine sp_ifv (!part.all okc) ?_ ⟨fun hb => ?_, fun hb => ?_⟩
        · repeat walk_at "y"
          refine x3 rfl rfl ⟨_, .inr (.inr ⟨_, rfl, rfl, rfl⟩), rfl⟩ ?_
          repeat walk_at "y"
          exact ⟨all_any part, rfl, rfl⟩
        · have hb : part.all okc = false := by simpa using hb
          rw [hb] at q
          repeat walk_at "x"
          exact q
        · have hb : part.all okc = true := by simpa using hb
          rw [hb] at q
          have ey : (part.map fun o => if okc o then some (chrS o) else none).map (fun | some s => D.str s | none => D.non) = (part.map chrS).map D.str := by
            rw [List.map_map, List.map_map]
            apply List.map_congr_left
            intro o ho
            have := List.all_eq_true.mp hb o ho
            show (match (if okc o then some (chrS o) else none) with | some s => D.str s | none => D.non) = _
            rw [this]
            rfl
          repeat walk_at "x"
          refine ⟨part.map chrS, .inl (by rw [← ey]; rfl), ?_, ?_⟩
          · have e1 := sum_chr part
            rw [e1]
            have e0 : (Str.ofString "").length = 0 := rfl
            rw [e0]
            omega
          · rw [join_chr]
            repeat walk_at "x"
            exact q
end
end K79
namespace K79
open PySem PySem.Spec PyProof.Rows L2 Lg
local macro_rules
  | `(tactic| walk_at "lg") => `(tactic| first
    | with_reducible refine sp_seq ?_
    | with_reducible refine sp_own ?_
    | with_reducible refine sp_set ?_
    | with_reducible refine sp_parO1 ?_
    | with_reducible refine sp_parO2 ?_
    | with_reducible refine sp_parOO ?_
    | with_reducible refine sp_par3 ?_
    | with_reducible refine sp_par ?_
    | with_reducible refine sp_asg ?_
    | with_reducible refine sp_drop ?_
    | with_reducible refine sp_ret ?_
    | with_reducible refine sp_retN ?_
    | with_reducible refine sp_next ?_
    | with_reducible refine sp_break ?_
    | with_reducible refine sp_cont ?_
    | ((with_reducible refine sp_aug (d0 := ?lgd) ?lg0 ?_); (case lg0 => exact rfl))
    | ((with_reducible refine ep_vF (d := ?lgd) ?lg0 ?_); (case lg0 => exact rfl))
    | ((with_reducible refine ep_vFF (o := ?lgd) ?lg0 ?_); (case lg0 => exact rfl))
    | ((with_reducible refine ep_var (d := ?lgd) ?lg0 ?_); (case lg0 => exact rfl))
    | ((with_reducible refine ep_varS (o := ?lgd) ?lg0 ?_); (case lg0 => exact rfl))
    | with_reducible refine ep_int ?_
    | with_reducible refine ep_str ?_
    | with_reducible refine ep_non ?_
    | with_reducible refine ep_bl ?_
    | with_reducible refine ep_ty ?_
    | with_reducible refine ep_ref ?_
    | with_reducible refine ep_op ?_
    | with_reducible refine ep_un ?_
    | with_reducible refine ep_isiT ?_
    | with_reducible refine ep_isi ?_
    | with_reducible refine ep_cb ?_
    | with_reducible refine ep_tup ?_
    | with_reducible refine ep_lst ?_
    | with_reducible refine ep_call ?_
    | with_reducible refine ep_callN ?_
    | ((with_reducible refine ep_pair (xs0 := ?lgd) ?lg0 ?_); (case lg0 => exact rfl))
    | ((with_reducible refine ep_append (ds0 := ?lgd) ?lg0 ?_); (case lg0 => exact rfl))
    | with_reducible refine ep_sl ?_
    | with_reducible refine ep_revL ?_
    | with_reducible refine ep_zipL ?_
    | with_reducible refine ep_join ?_
    | with_reducible refine ep_index ?_
    | with_reducible refine ep_if ?_
    | with_reducible refine ep_andV ?_
    | with_reducible refine ep_orV ?_
    | with_reducible refine ep_notV ?_
    | with_reducible refine pt_no ?_
    | with_reducible refine pt_part ?_
    | with_reducible refine ea_nil ?_
    | with_reducible refine ea_cons ?_
    | with_reducible refine tp_test ?_
    | with_reducible refine tp_B ?_
    | with_reducible refine tp_and ?_
    | with_reducible refine tp_or ?_
    | with_reducible refine tp_not ?_
    | with_reducible refine tp_yes ?_
    | with_reducible refine tg_name ?_
    | with_reducible refine tg_tup rfl ?_
    | with_reducible refine tgs_cons ?_
    | with_reducible refine tgs_nil ?_
    | with_reducible refine it_u ?_
    | with_reducible refine it_en ?_
    | with_reducible refine it_r1 ?_
    | with_reducible refine it_r2 ?_
    | with_reducible refine it_r3 ?_)
  | `(tactic| walk_at "r") => `(tactic| first
    | exact rfl
    | exact ⟨_, rfl, rfl⟩
    | exact Or.inl ⟨_, rfl, rfl⟩
    | exact Or.inl rfl
    | exact Or.inr ⟨_, rfl, rfl⟩
    | exact ⟨rfl, rfl⟩
    | exact ⟨by decide, rfl⟩
    | exact ⟨⟨by decide, by decide⟩, rfl⟩
    | exact ⟨⟨by decide, by decide, by decide⟩, rfl⟩
    | exact ⟨PySem.IntMulOk.of_right (PySem.intBits_le_64 (by omega) (by omega)), rfl⟩
    | exact ⟨PySem.IntMulOk.of_left (PySem.intBits_le_64 (by omega) (by omega)), rfl⟩
    | exact ⟨by omega, rfl⟩
    | exact ⟨PySem.IntMulOk.of_bits (by decide +kernel) (by decide +kernel), rfl⟩)
  | `(tactic| walk_at "x") => `(tactic| first
    | walk_at "y"
    | with_reducible refine sp_if ?_)
  | `(tactic| walk_at "y") => `(tactic| first
    | walk_at "lg"
    | (refine ⟨fun _ => ?_, fun lgz => absurd lgz (by decide)⟩)
    | (refine ⟨fun lgz => absurd lgz (by decide), fun _ => ?_⟩)
    | ((with_reducible apply x3); (exact rfl); (exact rfl); (walk_at "r"))
    | ((with_reducible apply x1v); (exact rfl))
    | ((with_reducible apply x1b); (exact rfl))
    | ((with_reducible apply x1i); (exact rfl))
    | ((with_reducible apply x1z); (exact rfl))
    | ((with_reducible apply x1l); (exact rfl))
    | ((with_reducible apply x1r); (exact rfl))
    | ((with_reducible apply x1t); (exact rfl); (exact Nat.le_of_ble_eq_true rfl))
    | ((with_reducible apply x1s); (exact rfl))
    | ((with_reducible apply x1n); (exact rfl))
    | ((with_reducible apply x2c); (exact rfl); (walk_at "r"))
    | ((with_reducible apply x2u); (exact rfl); (walk_at "r"))
    | ((with_reducible apply x2w); (exact rfl); (exact rfl))
    | ((with_reducible apply xcN); (exact rfl); (exact rfl); (exact rfl); (exact rfl))
    | ((with_reducible apply x2p); (exact rfl); (exact rfl); (first | assumption | (rw [sizeLine_eq]; (try simp only [List.length_append, List.length_map, List.length_cons, List.length_nil]); omega)))
    | ((with_reducible apply x2a); (exact rfl); (exact rfl); (first | assumption | decide | omega | (rw [sizeLine_eq]; (try simp only [List.length_append, List.length_map, List.length_cons, List.length_nil]); omega)))
    | ((with_reducible apply x2s); (exact rfl))
    | ((with_reducible apply x2nv); (exact rfl))
    | ((with_reducible apply x2vn); (exact rfl))
    | ((with_reducible apply x2nn); (exact rfl))
    | ((with_reducible apply x3s); (exact rfl))
    | ((with_reducible apply x2g); (exact rfl); (exact rfl); (exact augI); (exact rfl)))
theorem valB_snoc (b : Int) : ∀ (l : List Int) (x : Int), valB b (l ++ [x]) = valB b l + b ^ l.length * x
  | [], x => by simp [valB]
  | f :: r, x => by
    show f + b * valB b (r ++ [x]) = f + b * valB b r + b ^ (r.length + 1) * x
    rw [valB_snoc b r x, Int.mul_add, Int.pow_succ, ← Int.mul_assoc, Int.mul_comm (b ^ r.length) b, Int.add_assoc]
section
variable {K : PySem.W.Frag} {ds : List D} {W : List Res} {Φ : D → List Res → Prop}
theorem walk__law_number_at (h : pre__law_number_at ds W Φ) : StP K (t__law_number_at K) (st0 N__law_number_at ds) W (endP Φ) := by
  obtain ⟨os, a, rfl, ⟨hl, h1, h2, h8⟩, q⟩ := h
  unfold t__law_number_at
  unfold lI
  repeat walk_at "x"
  unfold numAt at q
  refine ⟨fun h3 => ?_, fun h3 => ?_⟩
  · have h3 := of_decide_eq_true h3
    repeat walk_at "x"
    rw [if_pos h3] at q
    exact q
  · have h3 := of_decide_eq_false h3
    obtain ⟨n, rfl⟩ := Int.eq_ofNat_of_zero_le (Int.not_lt.mp h3)
    rw [if_neg h3, Int.toNat_natCast] at q
    have hol : (os.map D.int).length = os.length := List.length_map ..
    repeat walk_at "x"
    refine StP.nx_imp (Qn := fun δ' W' => W' = W ∧ ∃ i : Nat, (∀ (j : Nat) x, j < i → (os.drop n)[j]? = some x → ¬ x < 128) ∧ i ≤ (os.drop n).length ∧ (os.length ≤ n + i ∨ ∃ o, os[n + i]? = some o ∧ o < 128) ∧
      δ' = [.d (lI os), .d (.int n), .d (.int (valB 128 (((os.drop n).take i).map (· - 128)))), .d (.int (128 ^ i)), .d (.int ((n + i : Nat) : Int))]) ?_ ?_
    · refine sp_while (fun m δ' W' => W' = W ∧ ∃ i : Nat, m = os.length - (n + i) ∧ (∀ (j : Nat) x, j < i → (os.drop n)[j]? = some x → ¬ x < 128) ∧ i ≤ (os.drop n).length ∧
        δ' = [.d (lI os), .d (.int n), .d (.int (valB 128 (((os.drop n).take i).map (· - 128)))), .d (.int (128 ^ i)), .d (.int ((n + i : Nat) : Int))]) _ ⟨rfl, 0, rfl, fun j x hj => absurd hj (Nat.not_lt_zero j), Nat.zero_le _, rfl⟩ ?_
      rintro m δ' W' ⟨rfl, i, hm, hj, hid, rfl⟩
      unfold lI
      repeat walk_at "x"
      rw [hol]
      refine ⟨fun h4 => ?_, fun h4 => ?_⟩
      · have h4 := of_decide_eq_true h4
        have hni : n + i < os.length := by omega
        have ho : os[n + i]? = some os[n + i] := List.getElem?_eq_getElem hni
        have hod : (os.drop n)[i]? = some os[n + i] := by rw [List.getElem?_drop]; exact ho
        have ho8 := h8 os[n + i] (List.getElem_mem hni)
        unfold I8 at ho8
        generalize os[n + i] = o at ho hod ho8
        repeat walk_at "x"
        refine x3 rfl rfl ⟨_, tI_at os (n + i) ho, rfl⟩ ?_
        repeat walk_at "x"
        refine ⟨fun h5 => ?_, fun h5 => ?_⟩
        · have h5 := of_decide_eq_true h5
          repeat walk_at "x"
          refine x3 rfl rfl ⟨_, tI_at os (n + i) ho, rfl⟩ ?_
          repeat walk_at "x"
          refine ⟨os.length - (n + (i + 1)), by omega, rfl, i + 1, rfl, fun j x hj2 e2 => ?_, ?_, ?_⟩
          · by_cases e3 : j < i
            · exact hj j x e3 e2
            · have e4 : j = i := by omega
              subst e4
              rw [hod] at e2
              cases e2
              omega
          · have := (List.getElem?_eq_some_iff.mp hod).1
            omega
          · have e5 : (os.drop n).take (i + 1) = (os.drop n).take i ++ [o] := by rw [List.take_add_one, hod]; rfl
            rw [e5, List.map_append]
            have e6 : valB 128 (List.map (· - 128) ((os.drop n).take i) ++ List.map (· - 128) [o]) = valB 128 (((os.drop n).take i).map (· - 128)) + 128 ^ i * (o - 128) := by
              show valB 128 (List.map (· - 128) ((os.drop n).take i) ++ [o - 128]) = _
              rw [valB_snoc, List.length_map, List.length_take, Nat.min_eq_left hid]
            rw [e6, Int.pow_succ]
            rfl
        · have h5 := of_decide_eq_false h5
          exact ⟨rfl, i, hj, hid, .inr ⟨o, ho, by omega⟩, rfl⟩
      · have h4 := of_decide_eq_false h4
        refine ⟨fun z => Bool.noConfusion z, fun _ => ?_⟩
        exact ⟨rfl, i, hj, hid, .inl (by omega), rfl⟩
    · rintro δ' W' ⟨rfl, i, hj, hid, hc, rfl⟩
      unfold lI
      rcases hc with hc | ⟨o, ho, ho2⟩
      · have e : rd (os.drop n) = none := rd_no _ fun x hx => by
          obtain ⟨j, hj2, e2⟩ := List.getElem_of_mem hx
          refine hj j x ?_ (by rw [List.getElem?_eq_getElem hj2, e2])
          rw [List.length_drop] at hj2
          omega
        rw [e] at q
        repeat walk_at "x"
        rw [hol]
        refine ⟨fun _ => ?_, fun z => absurd (of_decide_eq_false z) (by omega)⟩
        repeat walk_at "x"
        exact q
      · have hod : (os.drop n)[i]? = some o := by rw [List.getElem?_drop]; exact ho
        have hni := (List.getElem?_eq_some_iff.mp ho).1
        have ho8 := h8 o (List.mem_of_getElem? ho)
        unfold I8 at ho8
        rw [rd_at (os.drop n) i o hj hod ho2] at q
        have hfl : (((os.drop n).take i).map (· - 128)).length = i := by rw [List.length_map, List.length_take, Nat.min_eq_left hid]
        have q : Φ (numD (if ((os.drop n).take i).map (· - 128) ≠ [] ∧ o = 0 then none else some (valB 128 (((os.drop n).take i).map (· - 128) ++ [o]), (n : Int) + (((os.drop n).take i).map (· - 128)).length + 1))) W' := q
        rw [valB_snoc, hfl] at q
        have hne : (((os.drop n).take i).map (· - 128) ≠ []) ↔ 0 < i := by
          rw [← List.length_pos_iff, hfl]
        repeat walk_at "y"
        refine sp_ifv (decide (0 < i ∧ o = 0)) ?_ ⟨fun hb => ?_, fun hb => ?_⟩
        · repeat walk_at "y"
          rw [hol]
          refine ⟨fun z => absurd (of_decide_eq_true z) (by omega), fun _ => ?_⟩
          repeat walk_at "y"
          refine ⟨fun h6 => ?_, fun h6 => ?_⟩
          · have h6 := of_decide_eq_true h6
            repeat walk_at "y"
            refine x3 rfl rfl ⟨_, tI_at os (n + i) ho, rfl⟩ ?_
            repeat walk_at "y"
            refine ⟨?_, rfl, rfl⟩
            by_cases hz : o = 0
            · rw [decide_eq_true hz, decide_eq_true ⟨by omega, hz⟩]
            · rw [decide_eq_false hz, decide_eq_false fun z => hz z.2]
          · have h6 := of_decide_eq_false h6
            exact ⟨(decide_eq_false fun z => h6 (by have := z.1; omega)).symm, rfl, rfl⟩
        · have hb := of_decide_eq_true hb
          rw [if_pos ⟨hne.mpr hb.1, hb.2⟩] at q
          repeat walk_at "x"
          exact q
        · have hb := of_decide_eq_false hb
          rw [if_neg fun z => hb ⟨hne.mp z.1, z.2⟩] at q
          repeat walk_at "x"
          refine x3 rfl rfl ⟨_, tI_at os (n + i) ho, rfl⟩ ?_
          repeat walk_at "x"
          have e : ((n + i : Nat) : Int) + 1 = (n : Int) + (i : Nat) + 1 := by omega
          rw [e]
          exact q
end
end K79
namespace K79
open PySem PySem.Spec PyProof.Rows L2 Lg
local macro_rules
  | `(tactic| walk_at "lg") => `(tactic| first
    | with_reducible refine sp_seq ?_
    | with_reducible refine sp_own ?_
    | with_reducible refine sp_set ?_
    | with_reducible refine sp_parO1 ?_
    | with_reducible refine sp_parO2 ?_
    | with_reducible refine sp_parOO ?_
    | with_reducible refine sp_par3 ?_
    | with_reducible refine sp_par ?_
    | with_reducible refine sp_asg ?_
    | with_reducible refine sp_drop ?_
    | with_reducible refine sp_ret ?_
    | with_reducible refine sp_retN ?_
    | with_reducible refine sp_next ?_
    | with_reducible refine sp_break ?_
    | with_reducible refine sp_cont ?_
    | ((with_reducible refine sp_aug (d0 := ?lgd) ?lg0 ?_); (case lg0 => exact rfl))
    | ((with_reducible refine ep_vF (d := ?lgd) ?lg0 ?_); (case lg0 => exact rfl))
    | ((with_reducible refine ep_vFF (o := ?lgd) ?lg0 ?_); (case lg0 => exact rfl))
    | ((with_reducible refine ep_var (d := ?lgd) ?lg0 ?_); (case lg0 => exact rfl))
    | ((with_reducible refine ep_varS (o := ?lgd) ?lg0 ?_); (case lg0 => exact rfl))
    | with_reducible refine ep_int ?_
    | with_reducible refine ep_str ?_
    | with_reducible refine ep_non ?_
    | with_reducible refine ep_bl ?_
    | with_reducible refine ep_ty ?_
    | with_reducible refine ep_ref ?_
    | with_reducible refine ep_op ?_
    | with_reducible refine ep_un ?_
    | with_reducible refine ep_isiT ?_
    | with_reducible refine ep_isi ?_
    | with_reducible refine ep_cb ?_
    | with_reducible refine ep_tup ?_
    | with_reducible refine ep_lst ?_
    | with_reducible refine ep_call ?_
    | with_reducible refine ep_callN ?_
    | ((with_reducible refine ep_pair (xs0 := ?lgd) ?lg0 ?_); (case lg0 => exact rfl))
    | ((with_reducible refine ep_append (ds0 := ?lgd) ?lg0 ?_); (case lg0 => exact rfl))
    | with_reducible refine ep_sl ?_
    | with_reducible refine ep_revL ?_
    | with_reducible refine ep_zipL ?_
    | with_reducible refine ep_join ?_
    | with_reducible refine ep_index ?_
    | with_reducible refine ep_if ?_
    | with_reducible refine ep_andV ?_
    | with_reducible refine ep_orV ?_
    | with_reducible refine ep_notV ?_
    | with_reducible refine pt_no ?_
    | with_reducible refine pt_part ?_
    | with_reducible refine ea_nil ?_
    | with_reducible refine ea_cons ?_
    | with_reducible refine tp_test ?_
    | with_reducible refine tp_B ?_
    | with_reducible refine tp_and ?_
    | with_reducible refine tp_or ?_
    | with_reducible refine tp_not ?_
    | with_reducible refine tp_yes ?_
    | with_reducible refine tg_name ?_
    | with_reducible refine tg_tup rfl ?_
    | with_reducible refine tgs_cons ?_
    | with_reducible refine tgs_nil ?_
    | with_reducible refine it_u ?_
    | with_reducible refine it_en ?_
    | with_reducible refine it_r1 ?_
    | with_reducible refine it_r2 ?_
    | with_reducible refine it_r3 ?_)
  | `(tactic| walk_at "r") => `(tactic| first
    | exact rfl
    | exact ⟨_, rfl, rfl⟩
    | exact Or.inl ⟨_, rfl, rfl⟩
    | exact Or.inl rfl
    | exact Or.inr ⟨_, rfl, rfl⟩
    | exact ⟨rfl, rfl⟩
    | exact ⟨by decide, rfl⟩
    | exact ⟨⟨by decide, by decide⟩, rfl⟩
    | exact ⟨⟨by decide, by decide, by decide⟩, rfl⟩
    | exact ⟨PySem.IntMulOk.of_right (PySem.intBits_le_64 (by omega) (by omega)), rfl⟩
    | exact ⟨PySem.IntMulOk.of_left (PySem.intBits_le_64 (by omega) (by omega)), rfl⟩
    | exact ⟨by omega, rfl⟩
    | exact ⟨PySem.IntMulOk.of_bits (by decide +kernel) (by decide +kernel), rfl⟩)
  | `(tactic| walk_at "x") => `(tactic| first
    | walk_at "y"
    | with_reducible refine sp_if ?_)
  | `(tactic| walk_at "y") => `(tactic| first
    | walk_at "lg"
    | (refine ⟨fun _ => ?_, fun lgz => absurd lgz (by decide)⟩)
    | (refine ⟨fun lgz => absurd lgz (by decide), fun _ => ?_⟩)
    | ((with_reducible apply x3); (exact rfl); (exact rfl); (walk_at "r"))
    | ((with_reducible apply x1v); (exact rfl))
    | ((with_reducible apply x1b); (exact rfl))
    | ((with_reducible apply x1i); (exact rfl))
    | ((with_reducible apply x1z); (exact rfl))
    | ((with_reducible apply x1l); (exact rfl))
    | ((with_reducible apply x1r); (exact rfl))
    | ((with_reducible apply x1t); (exact rfl); (exact Nat.le_of_ble_eq_true rfl))
    | ((with_reducible apply x1s); (exact rfl))
    | ((with_reducible apply x1n); (exact rfl))
    | ((with_reducible apply x2c); (exact rfl); (walk_at "r"))
    | ((with_reducible apply x2u); (exact rfl); (walk_at "r"))
    | ((with_reducible apply x2w); (exact rfl); (exact rfl))
    | ((with_reducible apply xcN); (exact rfl); (exact rfl); (exact rfl); (exact rfl))
    | ((with_reducible apply x2p); (exact rfl); (exact rfl); (first | assumption | (rw [sizeLine_eq]; (try simp only [List.length_append, List.length_map, List.length_cons, List.length_nil]); omega)))
    | ((with_reducible apply x2a); (exact rfl); (exact rfl); (first | assumption | decide | omega | (rw [sizeLine_eq]; (try simp only [List.length_append, List.length_map, List.length_cons, List.length_nil]); omega)))
    | ((with_reducible apply x2s); (exact rfl))
    | ((with_reducible apply x2nv); (exact rfl))
    | ((with_reducible apply x2vn); (exact rfl))
    | ((with_reducible apply x2nn); (exact rfl))
    | ((with_reducible apply x3s); (exact rfl))
    | ((with_reducible apply x2g); (exact rfl); (exact rfl); (exact augI); (exact rfl)))
theorem signs_len : signsS.length = 95 := by decide +kernel
theorem signs_codes : (ords signsS).length = 95 := by decide +kernel
/-- the codes of the law's signs: each sign's own -/
theorem signs_ok : ∀ o ∈ ords signsS, okc o = true := by decide +kernel
def codeIx (o : Int) : Nat := if o = 10 then 94 else if o < 37 then (o - 32).toNat else (o - 33).toNat
theorem code_at : ∀ k : Fin 127, okc (k.val : Int) = true → (ords signsS)[codeIx k.val]? = some (k.val : Int) ∧ signsS.cps.toList[codeIx k.val]? = some k.val ∧ codeIx k.val < 95 := by decide +kernel
theorem code_nd : (ords signsS).Nodup := by decide +kernel
theorem okc_lt {o : Int} (h : okc o = true) : ∃ k : Fin 127, o = (k.val : Int) := by
  unfold okc at h
  have h1 : 0 ≤ o ∧ o < 127 := by
    rcases Bool.or_eq_true _ _ ▸ h with h | h
    · have := of_decide_eq_true h
      omega
    · rw [Bool.and_eq_true, Bool.and_eq_true] at h
      have a := of_decide_eq_true h.1
      have b := of_decide_eq_true h.2.1
      omega
  exact ⟨⟨o.toNat, by omega⟩, by show o = ((o.toNat : Nat) : Int); omega⟩
theorem code_of {o : Int} (h : okc o = true) : (ords signsS)[codeIx o]? = some o ∧ signsS.cps.toList[codeIx o]? = some o.toNat ∧ codeIx o < 95 := by
  obtain ⟨k, rfl⟩ := okc_lt h
  obtain ⟨h1, h2, h3⟩ := code_at k h
  exact ⟨h1, by rw [Int.toNat_natCast]; exact h2, h3⟩
theorem code_first {o : Int} (h : okc o = true) : ∀ m : Nat, m < codeIx o → (ords signsS)[m]? ≠ some o := fun m hm e => by
  obtain ⟨h1, _, _⟩ := code_of h
  have l1 := (List.getElem?_eq_some_iff.mp e).1
  have l2 := (List.getElem?_eq_some_iff.mp h1).1
  have e1 := (List.getElem?_eq_some_iff.mp e).2
  have e2 := (List.getElem?_eq_some_iff.mp h1).2
  have := (List.getElem_inj (h := code_nd)).mp (e1.trans e2.symm)
  omega
theorem code_mem (o : Int) : decide (o ∈ ords signsS) = okc o := by
  cases h : okc o with
  | true => exact decide_eq_true (List.mem_of_getElem? (code_of h).1)
  | false => exact decide_eq_false fun z => by rw [signs_ok o z] at h; cases h
section
variable {K : PySem.W.Frag} {ds : List D} {W : List Res} {Φ : D → List Res → Prop}
theorem walk__law_text_at (h : pre__law_text_at ds W Φ) : StP K (t__law_text_at K) (st0 N__law_text_at ds) W (endP Φ) := by
  obtain ⟨os, a, rfl, ok, q⟩ := h
  have h8 := ok.2.2.2
  have hl := ok.1
  unfold t__law_text_at
  unfold lI
  repeat walk_at "y"
  refine ⟨os, a, rfl, ok, ?_⟩
  repeat walk_at "y"
  unfold textAt at q
  cases z : numAt os a with
  | none =>
    rw [z] at q
    unfold numD
    repeat walk_at "x"
    exact q
  | some p =>
    obtain ⟨n, e⟩ := p
    rw [z] at q
    obtain ⟨hn, he, hel⟩ := numAt_some h8 z
    obtain ⟨n, rfl⟩ := Int.eq_ofNat_of_zero_le hn
    obtain ⟨e, rfl⟩ := Int.eq_ofNat_of_zero_le he
    have q : Φ (if (n : Int) > (os.length : Int) - e then .non else if ((os.drop e).take n).all okc then .tup [.str (txtS ((os.drop e).take n)), .int ((n : Int) + e)] else .non) W := q
    have hol : (os.map D.int).length = os.length := List.length_map ..
    unfold numD
    repeat walk_at "x"
    rw [hol]
    refine ⟨fun h1 => ?_, fun h1 => ?_⟩
    · rw [if_pos (of_decide_eq_true h1)] at q
      repeat walk_at "x"
      exact q
    · have h1 := of_decide_eq_false h1
      rw [if_neg h1] at q
      have hpl : ((os.drop e).take n).length ≤ 30000 := by
        rw [List.length_take, List.length_drop]
        omega
      repeat walk_at "x"
      refine ep_map ordD (tgin_name (by simp)) ?_
      repeat walk_at "x"
      refine ⟨rfl, ?_⟩
      repeat walk_at "x"
      refine ⟨⟨rfl, trivial⟩, ?_, fun i d e => ?_, ?_⟩
      · rw [List.length_map]
        show signsS.cps.toList.length ≤ _
        rw [Array.length_toList]
        show signsS.length ≤ _
        rw [signs_len, sizeLine_eq]
        decide
      · obtain ⟨c, _, rfl⟩ := List.mem_map.mp (List.mem_of_getElem? e)
        walk_at "x"
        refine ⟨rfl, ?_⟩
        repeat walk_at "x"
        exact ⟨rfl, rfl, rfl⟩
      · rw [ord_map]
        repeat walk_at "x"
        refine ⟨rfl, ?_⟩
        repeat walk_at "y"
        rw [show (e : Int) + (n : Int) = ((e + n : Nat) : Int) from by omega, cutL_mid]
        have ec : ((os.map D.int).drop e).take (e + n - e) = ((os.drop e).take n).map D.int := by
          rw [← List.map_drop, ← List.map_take, Nat.add_sub_cancel_left]
        rw [ec]
        rw [show (n : Int) + (e : Int) = ((e + n : Nat) : Int) from by omega] at q
        generalize (os.drop e).take n = part at q hpl
        refine sp_ifv (!part.all okc) ?_ ⟨fun hb => ?_, fun hb => ?_⟩
        · iterate 4 walk_at "y"
          refine ep_filt (fun d => d) (fun d => match d with | .int o => !okc o | _ => true) (tgin_name (by simp)) ?_
          repeat walk_at "y"
          refine ⟨⟨rfl, trivial⟩, by rw [List.length_map, sizeLine_eq]; omega, fun i d e => ?_, ?_⟩
          · obtain ⟨x, _, rfl⟩ := List.mem_map.mp (List.mem_of_getElem? e)
            walk_at "x"
            refine ⟨rfl, ?_⟩
            repeat walk_at "x"
            refine x3 rfl rfl ⟨_, .inl ⟨x, ords signsS, rfl, .inl rfl, rfl⟩, rfl⟩ ?_
            repeat walk_at "x"
            refine ⟨rfl, rfl, by rw [code_mem], fun _ => ?_⟩
            repeat walk_at "x"
            exact ⟨rfl, rfl, rfl⟩
          · repeat walk_at "y"
            refine ⟨?_, rfl, rfl⟩
            rw [List.length_map]
            have e9 : (decide ((0 : Int) < ((List.filter (fun d => match d with | .int o => !okc o | _ => true) (part.map D.int)).length : Nat))) = !part.all okc := by
              rw [List.filter_map, List.length_map]
              have e8 : ((fun d => match d with | .int o => !okc o | _ => true) ∘ D.int) = fun o => !okc o := rfl
              rw [e8]
              cases hh : part.all okc with
              | true =>
                have e7 : part.filter (fun o => !okc o) = [] := List.filter_eq_nil_iff.mpr fun o ho => by simp [List.all_eq_true.mp hh o ho]
                rw [e7]
                rfl
              | false =>
                have : part.filter (fun o => !okc o) ≠ [] := fun e7 => by
                  have := List.filter_eq_nil_iff.mp e7
                  have h5 : part.all okc = true := List.all_eq_true.mpr fun o ho => by simpa using this o ho
                  rw [h5] at hh
                  cases hh
                have := List.length_pos_iff.mpr this
                exact decide_eq_true (by omega)
            exact e9
        · have hb : part.all okc = false := by simpa using hb
          rw [hb] at q
          repeat walk_at "x"
          exact q
        · have hb : part.all okc = true := by simpa using hb
          rw [hb] at q
          repeat walk_at "x"
          refine ep_map (fun d => match d with | .int o => .str (chrS o) | d => d) (tgin_name (by simp)) ?_
          repeat walk_at "x"
          refine ⟨⟨rfl, trivial⟩, by rw [List.length_map, sizeLine_eq]; omega, fun i d e => ?_, ?_⟩
          · obtain ⟨x, hx, rfl⟩ := List.mem_map.mp (List.mem_of_getElem? e)
            have hox := List.all_eq_true.mp hb x hx
            obtain ⟨c1, c2, c3⟩ := code_of hox
            walk_at "x"
            refine ⟨rfl, ?_⟩
            repeat walk_at "x"
            refine ⟨⟨_, rfl⟩, ?_⟩
            repeat walk_at "x"
            refine ⟨ords signsS, x, codeIx x, rfl, rfl, c1, code_first hox, ?_⟩
            refine x3 rfl rfl ⟨by rw [signs_len, sizeLine_eq]; decide, x.toNat, by rw [Lg.atI_nat]; exact c2, rfl⟩ ?_
            exact ⟨rfl, rfl, rfl⟩
          · have ey : (part.map D.int).map (fun d => match d with | .int o => D.str (chrS o) | d => d) = (part.map chrS).map D.str := by
              rw [List.map_map, List.map_map]
              rfl
            rw [ey]
            refine ⟨part.map chrS, .inl rfl, ?_, ?_⟩
            · have e1 := sum_chr part
              rw [e1]
              have e0 : (Str.ofString "").length = 0 := rfl
              rw [e0]
              omega
            · rw [join_chr]
              repeat walk_at "x"
              exact q
end
end K79
namespace K79
open PySem PySem.Spec PyProof.Rows L2 Lg
local macro_rules
  | `(tactic| walk_at "lg") => `(tactic| first
    | with_reducible refine sp_seq ?_
    | with_reducible refine sp_own ?_
    | with_reducible refine sp_set ?_
    | with_reducible refine sp_parO1 ?_
    | with_reducible refine sp_parO2 ?_
    | with_reducible refine sp_parOO ?_
    | with_reducible refine sp_par3 ?_
    | with_reducible refine sp_par ?_
    | with_reducible refine sp_asg ?_
    | with_reducible refine sp_drop ?_
    | with_reducible refine sp_ret ?_
    | with_reducible refine sp_retN ?_
    | with_reducible refine sp_next ?_
    | with_reducible refine sp_break ?_
    | with_reducible refine sp_cont ?_
    | ((with_reducible refine sp_aug (d0 := ?lgd) ?lg0 ?_); (case lg0 => exact rfl))
    | ((with_reducible refine ep_vF (d := ?lgd) ?lg0 ?_); (case lg0 => exact rfl))
    | ((with_reducible refine ep_vFF (o := ?lgd) ?lg0 ?_); (case lg0 => exact rfl))
    | ((with_reducible refine ep_var (d := ?lgd) ?lg0 ?_); (case lg0 => exact rfl))
    | ((with_reducible refine ep_varS (o := ?lgd) ?lg0 ?_); (case lg0 => exact rfl))
    | with_reducible refine ep_int ?_
    | with_reducible refine ep_str ?_
    | with_reducible refine ep_non ?_
    | with_reducible refine ep_bl ?_
    | with_reducible refine ep_ty ?_
    | with_reducible refine ep_ref ?_
    | with_reducible refine ep_op ?_
    | with_reducible refine ep_un ?_
    | with_reducible refine ep_isiT ?_
    | with_reducible refine ep_isi ?_
    | with_reducible refine ep_cb ?_
    | with_reducible refine ep_tup ?_
    | with_reducible refine ep_lst ?_
    | with_reducible refine ep_call ?_
    | with_reducible refine ep_callN ?_
    | ((with_reducible refine ep_pair (xs0 := ?lgd) ?lg0 ?_); (case lg0 => exact rfl))
    | ((with_reducible refine ep_append (ds0 := ?lgd) ?lg0 ?_); (case lg0 => exact rfl))
    | with_reducible refine ep_sl ?_
    | with_reducible refine ep_revL ?_
    | with_reducible refine ep_zipL ?_
    | with_reducible refine ep_join ?_
    | with_reducible refine ep_index ?_
    | with_reducible refine ep_if ?_
    | with_reducible refine ep_andV ?_
    | with_reducible refine ep_orV ?_
    | with_reducible refine ep_notV ?_
    | with_reducible refine pt_no ?_
    | with_reducible refine pt_part ?_
    | with_reducible refine ea_nil ?_
    | with_reducible refine ea_cons ?_
    | with_reducible refine tp_test ?_
    | with_reducible refine tp_B ?_
    | with_reducible refine tp_and ?_
    | with_reducible refine tp_or ?_
    | with_reducible refine tp_not ?_
    | with_reducible refine tp_yes ?_
    | with_reducible refine tg_name ?_
    | with_reducible refine tg_tup rfl ?_
    | with_reducible refine tgs_cons ?_
    | with_reducible refine tgs_nil ?_
    | with_reducible refine it_u ?_
    | with_reducible refine it_en ?_
    | with_reducible refine it_r1 ?_
    | with_reducible refine it_r2 ?_
    | with_reducible refine it_r3 ?_)
  | `(tactic| walk_at "r") => `(tactic| first
    | exact rfl
    | exact ⟨_, rfl, rfl⟩
    | exact Or.inl ⟨_, rfl, rfl⟩
    | exact Or.inl rfl
    | exact Or.inr ⟨_, rfl, rfl⟩
    | exact ⟨rfl, rfl⟩
    | exact ⟨by decide, rfl⟩
    | exact ⟨⟨by decide, by decide⟩, rfl⟩
    | exact ⟨⟨by decide, by decide, by decide⟩, rfl⟩
    | exact ⟨PySem.IntMulOk.of_right (PySem.intBits_le_64 (by omega) (by omega)), rfl⟩
    | exact ⟨PySem.IntMulOk.of_left (PySem.intBits_le_64 (by omega) (by omega)), rfl⟩
    | exact ⟨by omega, rfl⟩
    | exact ⟨PySem.IntMulOk.of_bits (by decide +kernel) (by decide +kernel), rfl⟩)
  | `(tactic| walk_at "x") => `(tactic| first
    | walk_at "y"
    | with_reducible refine sp_if ?_)
  | `(tactic| walk_at "y") => `(tactic| first
    | walk_at "lg"
    | (refine ⟨fun _ => ?_, fun lgz => absurd lgz (by decide)⟩)
    | (refine ⟨fun lgz => absurd lgz (by decide), fun _ => ?_⟩)
    | ((with_reducible apply x3); (exact rfl); (exact rfl); (walk_at "r"))
    | ((with_reducible apply x1v); (exact rfl))
    | ((with_reducible apply x1b); (exact rfl))
    | ((with_reducible apply x1i); (exact rfl))
    | ((with_reducible apply x1z); (exact rfl))
    | ((with_reducible apply x1l); (exact rfl))
    | ((with_reducible apply x1r); (exact rfl))
    | ((with_reducible apply x1t); (exact rfl); (exact Nat.le_of_ble_eq_true rfl))
    | ((with_reducible apply x1s); (exact rfl))
    | ((with_reducible apply x1n); (exact rfl))
    | ((with_reducible apply x2c); (exact rfl); (walk_at "r"))
    | ((with_reducible apply x2u); (exact rfl); (walk_at "r"))
    | ((with_reducible apply x2w); (exact rfl); (exact rfl))
    | ((with_reducible apply xcN); (exact rfl); (exact rfl); (exact rfl); (exact rfl))
    | ((with_reducible apply x2p); (exact rfl); (exact rfl); (first | assumption | (rw [sizeLine_eq]; (try simp only [List.length_append, List.length_map, List.length_cons, List.length_nil]); omega)))
    | ((with_reducible apply x2a); (exact rfl); (exact rfl); (first | assumption | decide | omega | (rw [sizeLine_eq]; (try simp only [List.length_append, List.length_map, List.length_cons, List.length_nil]); omega)))
    | ((with_reducible apply x2s); (exact rfl))
    | ((with_reducible apply x2nv); (exact rfl))
    | ((with_reducible apply x2vn); (exact rfl))
    | ((with_reducible apply x2nn); (exact rfl))
    | ((with_reducible apply x3s); (exact rfl))
    | ((with_reducible apply x2g); (exact rfl); (exact rfl); (exact augI); (exact rfl)))
/-- the pairs of figures, the last one of an odd row -/
def prs (b : Int) : List Int → List Int
  | a :: c :: r => (a + b * c) :: prs b r
  | _ => []
def odd1 : List Int → List Int
  | _ :: _ :: r => odd1 r
  | [a] => [a]
  | [] => []
theorem prs_val (b : Int) : ∀ l : List Int, valB (b * b) (prs b l ++ odd1 l) = valB b l
  | [] => rfl
  | [a] => by simp [prs, odd1, valB]
  | a :: c :: r => by
    show a + b * c + (b * b) * valB (b * b) (prs b r ++ odd1 r) = a + b * (c + b * valB b r)
    rw [prs_val b r, Int.mul_add, Int.mul_assoc, Int.add_assoc]
theorem prs_len (b : Int) : ∀ l : List Int, (prs b l).length = l.length / 2
  | [] => rfl
  | [a] => by simp [prs]
  | a :: c :: r => by
    show (prs b r).length + 1 = (r.length + 1 + 1) / 2
    rw [prs_len b r]
    omega
theorem prs_at (b : Int) : ∀ (l : List Int) (i : Nat), i < l.length / 2 → (prs b l)[i]? = some (l.getD (2 * i) 0 + b * l.getD (2 * i + 1) 0)
  | [], i, h => by simp at h
  | [a], i, h => by simp at h
  | a :: c :: r, 0, h => rfl
  | a :: c :: r, i + 1, h => by
    show (prs b r)[i]? = _
    rw [prs_at b r i (by simp at h; omega)]
    rfl
theorem odd_len : ∀ l : List Int, (odd1 l).length = l.length % 2
  | [] => rfl
  | [a] => rfl
  | a :: c :: r => by
    show (odd1 r).length = (r.length + 1 + 1) % 2
    rw [odd_len r]
    omega
theorem odd_at : ∀ l : List Int, l.length % 2 = 1 → odd1 l = [l.getD (l.length - 1) 0]
  | [], h => by simp at h
  | [a], h => rfl
  | a :: c :: r, h => by
    have h2 : r.length % 2 = 1 := by
      have h : (r.length + 1 + 1) % 2 = 1 := h
      omega
    show odd1 r = _
    rw [odd_at r h2]
    have e : (a :: c :: r).length - 1 = (r.length - 1) + 1 + 1 := by
      show r.length + 1 + 1 - 1 = _
      omega
    rw [e]
    rfl
theorem prs_in {b : Int} (hb : 0 < b) : ∀ l : List Int, (∀ x ∈ l, 0 ≤ x ∧ x < b) → ∀ x ∈ prs b l ++ odd1 l, 0 ≤ x ∧ x < b * b
  | [], _, x, hx => by simp [prs, odd1] at hx
  | [a], h, x, hx => by
    have e : x = a := by simpa [prs, odd1] using hx
    subst e
    obtain ⟨h1, h2⟩ := h x (by simp)
    refine ⟨h1, Int.lt_of_lt_of_le h2 ?_⟩
    have := Int.mul_le_mul_of_nonneg_left (show 1 ≤ b by omega) (Int.le_of_lt hb)
    omega
  | a :: c :: r, h, x, hx => by
    have hx : x ∈ (a + b * c) :: (prs b r ++ odd1 r) := hx
    rcases List.mem_cons.mp hx with e | hx
    · subst e
      obtain ⟨h1, h2⟩ := h a (by simp)
      obtain ⟨h3, h4⟩ := h c (by simp)
      have h5 := Int.mul_nonneg (Int.le_of_lt hb) h3
      have h6 : b * c ≤ b * (b - 1) := Int.mul_le_mul_of_nonneg_left (by omega) (Int.le_of_lt hb)
      rw [Int.mul_sub, Int.mul_one] at h6
      omega
    · exact prs_in hb r (fun y hy => h y (by simp [hy])) x hx
theorem rg2 (k : Nat) (hk : k < 2 ^ 62) (h1 : 1 ≤ k) : RgC 0 ((k : Int) - 1) 2 (k / 2) := by
  refine ⟨by decide, by decide, ?_, ?_⟩
  · unfold Builtin.Range.small
    rw [PyProof.Rows.rangeSize_pos (by decide) (by omega)]
    simp only [Builtin.Range.rangeFitsLong, Bool.and_eq_true, Bool.or_eq_true, decide_eq_true_eq, beq_iff_eq, show (2 : Int) > 0 by decide, if_true]
    omega
  · rw [PyProof.Rows.rangeSize_pos (by decide) (by omega)]
    omega
theorem bits_pow {x : Int} {e : Nat} (h0 : 0 ≤ x) (h : x < 128 ^ e) (he : e ≤ 100000) : Builtin.Int.intBits x ≤ 2 ^ 20 := by
  unfold Builtin.Int.intBits
  split
  · exact Nat.zero_le _
  · rename_i hx
    obtain ⟨n, rfl⟩ := Int.eq_ofNat_of_zero_le h0
    have hn : n ≠ 0 := fun z => by subst z; simp at hx
    have h2 : n < 128 ^ e := by
      have e1 : ((128 ^ e : Nat) : Int) = (128 : Int) ^ e := by rw [Int.natCast_pow]; rfl
      omega
    have h3 : n < 2 ^ (7 * e) := by
      rw [Nat.pow_mul]
      exact h2
    have h4 := (Nat.log2_lt hn).mpr h3
    show Nat.log2 (Int.natAbs (n : Int)) + 1 ≤ _
    rw [Int.natAbs_natCast]
    omega
def pairF (b : Int) (row : List Int) : D → D
  | .int i => .int (row.getD i.toNat 0 + b * row.getD (i.toNat + 1) 0)
  | d => d
section
variable {K : PySem.W.Frag} {ds : List D} {W : List Res} {Φ : D → List Res → Prop}
theorem walk_number_of (h : pre_number_of ds W Φ) : StP K (t_number_of K) (st0 N_number_of ds) W (endP Φ) := by
  obtain ⟨fs, rfl, hne, hl, hf, q⟩ := h
  unfold t_number_of
  unfold lI
  repeat walk_at "x"
  refine StP.nx_imp (Qn := fun δ' W' => W' = W ∧ ∃ c0 c2 c3 c4, δ' = [c0, .d (lI [valB 128 fs]), c2, c3, c4]) ?_ ?_
  · refine sp_while (fun m δ' W' => W' = W ∧ ∃ (row : List Int) (e : Nat) (c3 : SD), row.length = m ∧ m ≤ 30000 ∧ row ≠ [] ∧ (row.length - 1) * e ≤ 30000 ∧ valB (128 ^ e) row = valB 128 fs ∧ (∀ x ∈ row, 0 ≤ x ∧ x < 128 ^ e) ∧
      δ' = [.d (lI fs), .d (lI row), .d (.int (128 ^ e)), c3, .no]) fs.length ⟨rfl, fs, 1, _, rfl, hl, hne, by omega, by rw [Int.pow_one], by rw [Int.pow_one]; exact hf, rfl⟩ ?_
    rintro m δ' W' ⟨rfl, row, e, c3, rfl, hrl0, hr, he, hv, hin, rfl⟩
    unfold lI
    repeat walk_at "x"
    rw [List.length_map]
    refine ⟨fun h1 => ?_, fun h1 => ?_⟩
    · have h1 := of_decide_eq_true h1
      have hrl : 1 < row.length := by omega
      have he2 : e ≤ 30000 := Nat.le_trans (Nat.le_mul_of_pos_left e (by omega)) he
      iterate 2 walk_at "x"
      refine ep_map (pairF (128 ^ e) row) (tgin_name (by simp)) ?_
      repeat walk_at "x"
      rw [List.length_map]
      refine ⟨0, _, 2, row.length / 2, rfl, rg2 row.length (by omega) (by omega), ?_⟩
      have hb0 : ∀ k : Nat, k < row.length → 0 ≤ row.getD k 0 ∧ row.getD k 0 < 128 ^ e := fun k hk => by
        rw [List.getD_eq_getElem?_getD, List.getElem?_eq_getElem hk]
        exact hin _ (List.getElem_mem hk)
      have hat : ∀ k : Nat, k < row.length → row[k]? = some (row.getD k 0) := fun k hk => by
        rw [List.getD_eq_getElem?_getD, List.getElem?_eq_getElem hk]
        rfl
      have hpw : (0 : Int) < 128 ^ e := Int.pow_pos (by decide)
      have hbb : Builtin.Int.intBits (128 ^ e) ≤ 2 ^ 20 := bits_pow (e := e + 1) (Int.le_of_lt hpw) (by rw [Int.pow_succ]; omega) (by omega)
      refine ⟨⟨rfl, trivial⟩, by rw [rngC_len, sizeLine_eq]; omega, fun i d e1 => ?_, ?_⟩
      · obtain ⟨hi, rfl⟩ := rngC_at e1
        have ei : (0 : Int) + (i : Nat) * 2 = ((2 * i : Nat) : Int) := by omega
        rw [ei]
        walk_at "x"
        refine ⟨rfl, ?_⟩
        repeat walk_at "x"
        refine x3 rfl rfl ⟨_, tI_at row (2 * i) (hat _ (by omega)), rfl⟩ ?_
        repeat walk_at "x"
        refine x3 rfl rfl ⟨_, tI_at row (2 * i + 1) (hat _ (by omega)), rfl⟩ ?_
        obtain ⟨b1, b2⟩ := hb0 (2 * i + 1) (by omega)
        refine x3 rfl rfl ⟨PySem.IntMulOk.of_bits hbb (bits_pow b1 b2 (by omega)), rfl⟩ ?_
        repeat walk_at "x"
        exact ⟨rfl, rfl, rfl⟩
      · have em : (rngC 0 2 (row.length / 2)).map (pairF (128 ^ e) row) = (prs (128 ^ e) row).map D.int := by
          apply List.ext_getElem?
          intro i
          by_cases hi : i < row.length / 2
          · rw [List.getElem?_map, List.getElem?_map, prs_at _ row i hi]
            unfold rngC
            rw [List.getElem?_map, List.getElem?_range hi]
            have ei : (0 : Int) + (i : Nat) * 2 = ((2 * i : Nat) : Int) := by omega
            show some (pairF (128 ^ e) row (.int ((0 : Int) + (i : Nat) * 2))) = _
            rw [ei]
            rfl
          · rw [List.getElem?_eq_none (by rw [List.length_map, rngC_len]; omega), List.getElem?_eq_none (by rw [List.length_map, prs_len]; omega)]
        rw [em]
        have ebb : (128 : Int) ^ e * 128 ^ e = 128 ^ (e + e) := (Int.pow_add ..).symm
        have val := prs_val (128 ^ e) row
        have inn := prs_in hpw row hin
        rw [ebb] at val inn
        have plen := prs_len (128 ^ e) row
        have olen := odd_len row
        have fin : ∀ (row' : List Int), row' = prs (128 ^ e) row ++ odd1 row → ∀ c3, ∃ m', m' < row.length ∧ (W' = W' ∧ ∃ (row2 : List Int) (e2 : Nat) (c3' : SD), row2.length = m' ∧ m' ≤ 30000 ∧ row2 ≠ [] ∧ (row2.length - 1) * e2 ≤ 30000 ∧ valB (128 ^ e2) row2 = valB 128 fs ∧ (∀ x ∈ row2, 0 ≤ x ∧ x < 128 ^ e2) ∧
            [SD.d (lI fs), SD.d (lI row'), SD.d (.int (128 ^ e * 128 ^ e)), c3, SD.no] = [.d (lI fs), .d (lI row2), .d (.int (128 ^ e2)), c3', .no]) := by
          rintro row' rfl c3
          refine ⟨_, ?_, rfl, prs (128 ^ e) row ++ odd1 row, e + e, c3, rfl, ?_, ?_, ?_, val.trans hv, inn, by rw [ebb]⟩
          · rw [List.length_append, plen, olen]
            omega
          · rw [List.length_append, plen, olen]
            omega
          · rw [← List.length_pos_iff, List.length_append, plen, olen]
            omega
          · rw [List.length_append, plen, olen]
            have h2 : row.length / 2 + row.length % 2 - 1 + (row.length / 2 + row.length % 2 - 1) ≤ row.length - 1 := by omega
            calc (row.length / 2 + row.length % 2 - 1) * (e + e) = (row.length / 2 + row.length % 2 - 1 + (row.length / 2 + row.length % 2 - 1)) * e := by rw [Nat.mul_add, Nat.add_mul]
              _ ≤ (row.length - 1) * e := Nat.mul_le_mul_right _ h2
              _ ≤ 30000 := he
        repeat walk_at "y"
        refine sp_ifv (decide (row.length % 2 = 1)) ?_ ⟨fun hb => ?_, fun hb => ?_⟩
        · repeat walk_at "y"
          refine ⟨?_, rfl, rfl⟩
          rw [List.length_map]
          by_cases h9 : row.length % 2 = 1
          · rw [decide_eq_true h9, decide_eq_true (by omega)]
          · rw [decide_eq_false h9, decide_eq_false (by omega)]
        · have hb := of_decide_eq_true hb
          have eo := odd_at row hb
          repeat walk_at "x"
          refine x3 rfl rfl ⟨_, by rw [List.length_map, show ((row.length : Nat) : Int) - 1 = ((row.length - 1 : Nat) : Int) from by omega]; exact tI_at row _ (hat _ (by omega)), rfl⟩ ?_
          refine x2a rfl rfl (by rw [List.length_map, plen, sizeLine_eq]; omega) ?_
          repeat walk_at "x"
          refine x3 rfl rfl ⟨PySem.IntMulOk.of_bits hbb hbb, rfl⟩ ?_
          repeat walk_at "x"
          have e7 : (prs (128 ^ e) row).map D.int ++ [D.int (row.getD (row.length - 1) 0)] = (prs (128 ^ e) row ++ odd1 row).map D.int := by
            rw [List.map_append, eo]
            rfl
          rw [e7]
          exact fin _ rfl _
        · have hb := of_decide_eq_false hb
          have eo : odd1 row = [] := List.eq_nil_of_length_eq_zero (by rw [olen]; omega)
          repeat walk_at "x"
          refine x3 rfl rfl ⟨PySem.IntMulOk.of_bits hbb hbb, rfl⟩ ?_
          repeat walk_at "x"
          exact fin _ (by rw [eo, List.append_nil]) _
    · have h1 := of_decide_eq_false h1
      have hrl : row.length = 1 := by
        have := List.length_pos_iff.mpr hr
        omega
      obtain ⟨x, rfl⟩ := List.length_eq_one_iff.mp hrl
      have hx : x = valB 128 fs := by rw [← hv]; simp [valB]
      subst hx
      exact ⟨rfl, .d (lI fs), .d (.int (128 ^ e)), c3, .no, rfl⟩
  · rintro δ' W' ⟨rfl, c0, c2, c3, c4, rfl⟩
    repeat walk_at "x"
    exact q
end
end K79
namespace K79
open PySem PySem.Spec PyProof.Rows L2 Lg
local macro_rules
  | `(tactic| walk_at "lg") => `(tactic| first
    | with_reducible refine sp_seq ?_
    | with_reducible refine sp_own ?_
    | with_reducible refine sp_set ?_
    | with_reducible refine sp_parO1 ?_
    | with_reducible refine sp_parO2 ?_
    | with_reducible refine sp_parOO ?_
    | with_reducible refine sp_par3 ?_
    | with_reducible refine sp_par ?_
    | with_reducible refine sp_asg ?_
    | with_reducible refine sp_drop ?_
    | with_reducible refine sp_ret ?_
    | with_reducible refine sp_retN ?_
    | with_reducible refine sp_next ?_
    | with_reducible refine sp_break ?_
    | with_reducible refine sp_cont ?_
    | ((with_reducible refine sp_aug (d0 := ?lgd) ?lg0 ?_); (case lg0 => exact rfl))
    | ((with_reducible refine ep_vF (d := ?lgd) ?lg0 ?_); (case lg0 => exact rfl))
    | ((with_reducible refine ep_vFF (o := ?lgd) ?lg0 ?_); (case lg0 => exact rfl))
    | ((with_reducible refine ep_var (d := ?lgd) ?lg0 ?_); (case lg0 => exact rfl))
    | ((with_reducible refine ep_varS (o := ?lgd) ?lg0 ?_); (case lg0 => exact rfl))
    | with_reducible refine ep_int ?_
    | with_reducible refine ep_str ?_
    | with_reducible refine ep_non ?_
    | with_reducible refine ep_bl ?_
    | with_reducible refine ep_ty ?_
    | with_reducible refine ep_ref ?_
    | with_reducible refine ep_op ?_
    | with_reducible refine ep_un ?_
    | with_reducible refine ep_isiT ?_
    | with_reducible refine ep_isi ?_
    | with_reducible refine ep_cb ?_
    | with_reducible refine ep_tup ?_
    | with_reducible refine ep_lst ?_
    | with_reducible refine ep_call ?_
    | with_reducible refine ep_callN ?_
    | ((with_reducible refine ep_pair (xs0 := ?lgd) ?lg0 ?_); (case lg0 => exact rfl))
    | ((with_reducible refine ep_append (ds0 := ?lgd) ?lg0 ?_); (case lg0 => exact rfl))
    | with_reducible refine ep_sl ?_
    | with_reducible refine ep_revL ?_
    | with_reducible refine ep_zipL ?_
    | with_reducible refine ep_join ?_
    | with_reducible refine ep_index ?_
    | with_reducible refine ep_if ?_
    | with_reducible refine ep_andV ?_
    | with_reducible refine ep_orV ?_
    | with_reducible refine ep_notV ?_
    | with_reducible refine pt_no ?_
    | with_reducible refine pt_part ?_
    | with_reducible refine ea_nil ?_
    | with_reducible refine ea_cons ?_
    | with_reducible refine tp_test ?_
    | with_reducible refine tp_B ?_
    | with_reducible refine tp_and ?_
    | with_reducible refine tp_or ?_
    | with_reducible refine tp_not ?_
    | with_reducible refine tp_yes ?_
    | with_reducible refine tg_name ?_
    | with_reducible refine tg_tup rfl ?_
    | with_reducible refine tgs_cons ?_
    | with_reducible refine tgs_nil ?_
    | with_reducible refine it_u ?_
    | with_reducible refine it_en ?_
    | with_reducible refine it_r1 ?_
    | with_reducible refine it_r2 ?_
    | with_reducible refine it_r3 ?_)
  | `(tactic| walk_at "r") => `(tactic| first
    | exact rfl
    | exact ⟨_, rfl, rfl⟩
    | exact Or.inl ⟨_, rfl, rfl⟩
    | exact Or.inl rfl
    | exact Or.inr ⟨_, rfl, rfl⟩
    | exact ⟨rfl, rfl⟩
    | exact ⟨by decide, rfl⟩
    | exact ⟨⟨by decide, by decide⟩, rfl⟩
    | exact ⟨⟨by decide, by decide, by decide⟩, rfl⟩
    | exact ⟨PySem.IntMulOk.of_right (PySem.intBits_le_64 (by omega) (by omega)), rfl⟩
    | exact ⟨PySem.IntMulOk.of_left (PySem.intBits_le_64 (by omega) (by omega)), rfl⟩
    | exact ⟨by omega, rfl⟩
    | exact ⟨PySem.IntMulOk.of_bits (by decide +kernel) (by decide +kernel), rfl⟩)
  | `(tactic| walk_at "x") => `(tactic| first
    | walk_at "y"
    | with_reducible refine sp_if ?_)
  | `(tactic| walk_at "y") => `(tactic| first
    | walk_at "lg"
    | (refine ⟨fun _ => ?_, fun lgz => absurd lgz (by decide)⟩)
    | (refine ⟨fun lgz => absurd lgz (by decide), fun _ => ?_⟩)
    | ((with_reducible apply x3); (exact rfl); (exact rfl); (walk_at "r"))
    | ((with_reducible apply x1v); (exact rfl))
    | ((with_reducible apply x1b); (exact rfl))
    | ((with_reducible apply x1i); (exact rfl))
    | ((with_reducible apply x1z); (exact rfl))
    | ((with_reducible apply x1l); (exact rfl))
    | ((with_reducible apply x1r); (exact rfl))
    | ((with_reducible apply x1t); (exact rfl); (exact Nat.le_of_ble_eq_true rfl))
    | ((with_reducible apply x1s); (exact rfl))
    | ((with_reducible apply x1n); (exact rfl))
    | ((with_reducible apply x2c); (exact rfl); (walk_at "r"))
    | ((with_reducible apply x2u); (exact rfl); (walk_at "r"))
    | ((with_reducible apply x2w); (exact rfl); (exact rfl))
    | ((with_reducible apply xcN); (exact rfl); (exact rfl); (exact rfl); (exact rfl))
    | ((with_reducible apply x2p); (exact rfl); (exact rfl); (first | assumption | (rw [sizeLine_eq]; (try simp only [List.length_append, List.length_map, List.length_cons, List.length_nil]); omega)))
    | ((with_reducible apply x2a); (exact rfl); (exact rfl); (first | assumption | decide | omega | (rw [sizeLine_eq]; (try simp only [List.length_append, List.length_map, List.length_cons, List.length_nil]); omega)))
    | ((with_reducible apply x2s); (exact rfl))
    | ((with_reducible apply x2nv); (exact rfl))
    | ((with_reducible apply x2vn); (exact rfl))
    | ((with_reducible apply x2nn); (exact rfl))
    | ((with_reducible apply x3s); (exact rfl))
    | ((with_reducible apply x2g); (exact rfl); (exact rfl); (exact augI); (exact rfl)))
section
variable {K : PySem.W.Frag} {ds : List D} {W : List Res} {Φ : D → List Res → Prop}
theorem walk__law_octet (h : pre__law_octet ds W Φ) : StP K (t__law_octet K) (st0 N__law_octet ds) W (endP Φ) := by
  obtain ⟨d, p, rfl, rfl, q⟩ := h
  unfold t__law_octet
  repeat walk_at "x"
  refine ⟨d, p, _, rfl, rfl, by decide, by decide, fun r1 a1 b1 => ?_⟩
  repeat walk_at "x"
  refine ⟨d, p, _, rfl, rfl, by decide, by decide, fun r2 a2 b2 => ?_⟩
  repeat walk_at "x"
  refine ⟨d, p, _, rfl, rfl, by decide, by decide, fun r3 a3 b3 => ?_⟩
  repeat walk_at "x"
  refine ⟨d, p, _, _, rfl, rfl, rfl, by simp, by show (8 : Nat) ≤ _; decide, fun x hx => x1r rfl ?_⟩
  have hx : x ∈ [D.int 0, .int 1, .int 127, .int 128, .int 255, .int r1, .int r2, .int r3] := hx
  simp only [List.mem_cons, List.not_mem_nil, or_false] at hx
  rcases hx with rfl | rfl | rfl | rfl | rfl | rfl | rfl | rfl <;> exact q _ (by unfold I8; omega)
theorem ints_of {Q : Int → Prop} : ∀ acc : List D, (∀ y ∈ acc, ∃ o, y = .int o ∧ Q o) → ∃ os : List Int, acc = os.map D.int ∧ ∀ o ∈ os, Q o
  | [], _ => ⟨[], rfl, fun _ z => nomatch z⟩
  | y :: acc, h => by
    obtain ⟨o, rfl, ho⟩ := h y (by simp)
    obtain ⟨os, rfl, hos⟩ := ints_of acc fun z hz => h z (by simp [hz])
    refine ⟨o :: os, rfl, fun x hx => ?_⟩
    rcases List.mem_cons.mp hx with e | hx
    · rw [e]; exact ho
    · exact hos x hx
theorem walk__law_noise (h : pre__law_noise ds W Φ) : StP K (t__law_noise K) (st0 N__law_noise ds) W (endP Φ) := by
  obtain ⟨d, p, m, rfl, rfl, hm, hm2, q⟩ := h
  unfold t__law_noise
  walk_at "x"
  refine ep_each (fun y => ∃ o, y = .int o ∧ I8 o) (tgin_name (by simp)) ?_
  repeat walk_at "x"
  refine ⟨d, p, m, rfl, rfl, hm, by omega, fun r a b => ?_⟩
  repeat walk_at "x"
  refine ⟨r, rfl, ⟨by omega, by omega⟩, ⟨rfl, trivial⟩, by rw [rngD_len, sizeLine_eq]; omega, fun i e he => ?_, fun acc hl hq => ?_⟩
  · walk_at "x"
    refine ⟨rfl, ?_⟩
    repeat walk_at "x"
    refine ⟨d, p, rfl, rfl, fun o ho => ⟨rfl, rfl, .int o, rfl, o, rfl, ho⟩⟩
  · obtain ⟨os, rfl, hos⟩ := ints_of acc hq
    rw [List.length_map, rngD_len] at hl
    refine x1r rfl (q os (by omega) hos)
theorem strs_of {Q : Int → Prop} : ∀ acc : List D, (∀ y ∈ acc, ∃ o, y = .str (chrS o) ∧ Q o) → ∃ os : List Int, acc = (os.map chrS).map D.str ∧ ∀ o ∈ os, Q o
  | [], _ => ⟨[], rfl, fun _ z => nomatch z⟩
  | y :: acc, h => by
    obtain ⟨o, rfl, ho⟩ := h y (by simp)
    obtain ⟨os, rfl, hos⟩ := strs_of acc fun z hz => h z (by simp [hz])
    refine ⟨o :: os, rfl, fun x hx => ?_⟩
    rcases List.mem_cons.mp hx with e | hx
    · rw [e]; exact ho
    · exact hos x hx
theorem okc_nn {o : Int} (h : okc o = true) : 0 ≤ o := by
  obtain ⟨k, rfl⟩ := okc_lt h
  omega
theorem txt_ok (l : List Int) (h : ∀ o ∈ l, okc o = true) : Okt (txtS l) ∧ (txtS l).length = l.length := by
  have e : ords (txtS l) = l := by
    unfold ords txtS
    show (l.map Int.toNat).map (fun c : Nat => (c : Int)) = l
    rw [List.map_map]
    conv => rhs; rw [← List.map_id l]
    apply List.map_congr_left
    intro o ho
    have := okc_nn (h o ho)
    show ((o.toNat : Nat) : Int) = o
    omega
  refine ⟨fun o ho => h o (by rw [e] at ho; exact ho), ?_⟩
  show (l.map Int.toNat).toArray.size = _
  simp
theorem sign_c (c : Nat) (h : c ∈ signsS.cps.toList) : okc (c : Int) = true := signs_ok _ (List.mem_map.mpr ⟨c, h, rfl⟩)
theorem chr_c (c : Nat) : (⟨#[c]⟩ : Str) = chrS (c : Int) := by
  unfold chrS
  rw [Int.toNat_natCast]
theorem walk__law_some_text (h : pre__law_some_text ds W Φ) : StP K (t__law_some_text K) (st0 N__law_some_text ds) W (endP Φ) := by
  obtain ⟨d, p, rfl, rfl, q⟩ := h
  have fin : ∀ l : List Int, l.length ≤ 300 → (∀ o ∈ l, okc o = true) → Φ (.str (Txt.join ("" : Str) (l.map chrS))) [dealR d p] := fun l hl ho => by
    rw [join_chr]
    obtain ⟨h1, h2⟩ := txt_ok l ho
    exact q _ h1 (by rw [h2]; exact hl)
  have slen : signsS.length ≤ sizeLine := by rw [signs_len, sizeLine_eq]; decide
  unfold t__law_some_text
  repeat walk_at "x"
  refine ⟨rfl, ?_⟩
  repeat walk_at "x"
  refine ⟨d, p, _, _, rfl, rfl, rfl, by simp, by show (4 : Nat) ≤ _; decide, fun x hx => ?_⟩
  have hx : x ∈ [D.int 1, .int 7, .int 11, .int 94] := hx
  obtain ⟨st, rfl, hst⟩ : ∃ st : Int, x = .int st ∧ (0 ≤ st ∧ st < 100) := by
    simp only [List.mem_cons, List.not_mem_nil, or_false] at hx
    rcases hx with rfl | rfl | rfl | rfl <;> exact ⟨_, rfl, by omega⟩
  repeat walk_at "x"
  refine ⟨d, p, _, rfl, rfl, by decide, by decide, fun r1 a1 b1 => ?_⟩
  repeat walk_at "x"
  refine ⟨d, p, _, rfl, rfl, by decide, by decide, fun r2 a2 b2 => ?_⟩
  repeat walk_at "x"
  refine ⟨fun h1 => ?_, fun h1 => ?_⟩
  · iterate 4 walk_at "x"
    refine ep_each (fun y => ∃ o, y = .str (chrS o) ∧ okc o = true) (tgin_name (by simp)) ?_
    repeat walk_at "x"
    refine ⟨d, p, _, _, rfl, rfl, rfl, by simp, by show (7 : Nat) ≤ _; decide, fun x hx => ?_⟩
    have hx : x ∈ [D.int 0, .int 1, .int 95, .int 127, .int 128, .int 129, .int 300] := hx
    obtain ⟨n, rfl, hn⟩ : ∃ n : Int, x = .int n ∧ (0 ≤ n ∧ n ≤ 300) := by
      simp only [List.mem_cons, List.not_mem_nil, or_false] at hx
      rcases hx with rfl | rfl | rfl | rfl | rfl | rfl | rfl <;> exact ⟨_, rfl, by omega⟩
    repeat walk_at "x"
    refine ⟨n, rfl, ⟨by omega, by omega⟩, ⟨rfl, trivial⟩, by rw [rngD_len, sizeLine_eq]; omega, fun i e he => ?_, fun acc hl hq => ?_⟩
    · obtain ⟨hi, rfl⟩ := rngD_at he
      walk_at "x"
      refine ⟨rfl, ?_⟩
      repeat walk_at "x"
      have hc : ∃ c, L2.atI signsS.cps.toList ((r1 + (0 + (i : Int)) * st) % 95) = some c ∧ c ∈ signsS.cps.toList := by
        have h0 := Int.emod_nonneg (r1 + (0 + (i : Int)) * st) (show (95 : Int) ≠ 0 by decide)
        have h2 := Int.emod_lt_of_pos (r1 + (0 + (i : Int)) * st) (show (0 : Int) < 95 by decide)
        generalize (r1 + (0 + (i : Int)) * st) % 95 = v at h0 h2
        obtain ⟨k, rfl⟩ := Int.eq_ofNat_of_zero_le h0
        have hk : k < signsS.cps.toList.length := by
          have : signsS.cps.toList.length = 95 := by rw [Array.length_toList]; exact signs_len
          omega
        exact ⟨signsS.cps.toList[k], by rw [Lg.atI_nat, List.getElem?_eq_getElem hk], List.getElem_mem hk⟩
      obtain ⟨c, hc1, hc2⟩ := hc
      refine x3 rfl rfl ⟨slen, c, hc1, rfl⟩ ?_
      exact ⟨rfl, rfl, _, rfl, (c : Int), congrArg D.str (chr_c c), sign_c c hc2⟩
    · obtain ⟨os, rfl, hos⟩ := strs_of acc hq
      rw [List.length_map, List.length_map, rngD_len] at hl
      refine ⟨os.map chrS, .inl rfl, ?_, ?_⟩
      · rw [sum_chr, show (Str.ofString "").length = 0 from rfl]
        omega
      · exact x1r rfl (fin os (by omega) hos)
  · iterate 5 walk_at "x"
    refine ep_each (fun y => ∃ o, y = .str (chrS o) ∧ okc o = true) (tgin_name (by simp)) ?_
    repeat walk_at "x"
    refine ⟨d, p, _, _, rfl, rfl, rfl, by simp, by show (5 : Nat) ≤ _; decide, fun x hx => ?_⟩
    have hx : x ∈ [D.int 0, .int 1, .int 2, .int 9, .int 40] := hx
    obtain ⟨n, rfl, hn⟩ : ∃ n : Int, x = .int n ∧ (0 ≤ n ∧ n ≤ 300) := by
      simp only [List.mem_cons, List.not_mem_nil, or_false] at hx
      rcases hx with rfl | rfl | rfl | rfl | rfl <;> exact ⟨_, rfl, by omega⟩
    repeat walk_at "x"
    refine ⟨n, rfl, ⟨by omega, by omega⟩, ⟨rfl, trivial⟩, by rw [rngD_len, sizeLine_eq]; omega, fun i e he => ?_, fun acc hl hq => ?_⟩
    · walk_at "x"
      refine ⟨rfl, ?_⟩
      repeat walk_at "x"
      refine ⟨d, p, _, _, rfl, rfl, rfl, ?_, ?_, fun x hx => ?_⟩
      · intro z
        have := congrArg List.length z
        rw [List.length_map, Array.length_toList] at this
        have h95 : signsS.cps.size = 95 := signs_len
        rw [h95] at this
        cases this
      · rw [List.length_map, Array.length_toList]
        show signsS.length ≤ _
        rw [signs_len]
        decide
      · obtain ⟨c, hc, rfl⟩ := List.mem_map.mp hx
        exact ⟨rfl, rfl, _, rfl, (c : Int), congrArg D.str (chr_c c), sign_c c hc⟩
    · obtain ⟨os, rfl, hos⟩ := strs_of acc hq
      rw [List.length_map, List.length_map, rngD_len] at hl
      refine ⟨os.map chrS, .inl rfl, ?_, ?_⟩
      · rw [sum_chr, show (Str.ofString "").length = 0 from rfl]
        omega
      · exact x1r rfl (fin os (by omega) hos)
theorem walk__law_some_number (h : pre__law_some_number ds W Φ) : StP K (t__law_some_number K) (st0 N__law_some_number ds) W (endP Φ) := by
  obtain ⟨d, p, rfl, rfl, q⟩ := h
  have qi : ∀ v : Int, 0 ≤ v → v < ((128 ^ 300 : Nat) : Int) → Φ (.int v) [dealR d p] := fun v h0 h1 => by
    obtain ⟨k, rfl⟩ := Int.eq_ofNat_of_zero_le h0
    exact q k (by omega)
  unfold t__law_some_number
  repeat walk_at "x"
  refine sp_for ?_
  repeat walk_at "x"
  refine ⟨d, p, _, rfl, rfl, by decide, by decide, fun r a b => ?_⟩
  repeat walk_at "x"
  refine ⟨r, rfl, ⟨by omega, by omega⟩, ?_⟩
  refine ⟨fun i δ' W' => W' = [dealR d p] ∧ ∃ c, δ' = [.d (.raw (.ref d)), .d (.int ((128 : Int) ^ (9 * (i + 1)))), c, .no], ⟨rfl, _, rfl⟩, ?_, ?_⟩
  · rintro i e δ' W' he ⟨rfl, c, rfl⟩
    repeat walk_at "x"
    refine x3 rfl rfl ⟨PySem.IntMulOk.of_right (PySem.intBits_le_64 (by decide) (by decide)), rfl⟩ ?_
    repeat walk_at "x"
    refine ⟨rfl, .d e, ?_⟩
    have e1 : (128 : Int) ^ (9 * (i + 1)) * 128 ^ (Int.toNat 9) = 128 ^ (9 * (i + 1 + 1)) := by
      rw [← Int.pow_add]
      rfl
    rw [e1]
    rfl
  · rintro δ' W' ⟨rfl, c, rfl⟩
    rw [rngD_len]
    have hk : r.toNat < 20 := by omega
    generalize r.toNat = k at hk
    have he1 : (0 : Int) < 128 ^ (9 * (k + 1)) := Int.pow_pos (by decide)
    have he2 : (128 : Int) ^ (9 * (k + 1)) ≤ ((128 ^ 180 : Nat) : Int) := by
      have h1 : (128 : Nat) ^ (9 * (k + 1)) ≤ 128 ^ 180 := Nat.pow_le_pow_right (by decide) (by omega)
      have h2 : ((128 ^ (9 * (k + 1)) : Nat) : Int) = (128 : Int) ^ (9 * (k + 1)) := by rw [Int.natCast_pow]; rfl
      omega
    have hbig : ((128 ^ 180 : Nat) : Int) * 127 + 2000000000 < ((128 ^ 300 : Nat) : Int) := by decide +kernel
    have hbig2 : (2000000000 : Int) * 2000000000 < ((128 ^ 300 : Nat) : Int) := by decide +kernel
    have hb180 : (0 : Int) < ((128 ^ 180 : Nat) : Int) := by decide +kernel
    generalize ((128 ^ 180 : Nat) : Int) = B180 at he2 hbig hb180
    generalize ((128 ^ 300 : Nat) : Int) = B300 at hbig hbig2 qi
    generalize (128 : Int) ^ (9 * (k + 1)) = edge at he1 he2
    have h10 : (10 : Int) ^ Int.toNat 9 = 1000000000 := by decide
    have h8 : (128 : Int) ^ Int.toNat 8 = 72057594037927936 := by decide
    repeat walk_at "x"
    refine ⟨d, p, _, rfl, rfl, by decide, by decide, fun r1 a1 b1 => ?_⟩
    repeat walk_at "x"
    refine ⟨d, p, _, rfl, rfl, by decide, by decide, fun r2 a2 b2 => ?_⟩
    repeat walk_at "x"
    refine ⟨d, p, _, rfl, rfl, by decide, by decide, fun r3 a3 b3 => ?_⟩
    rw [h10] at b3
    repeat walk_at "x"
    refine ⟨d, p, _, rfl, rfl, by decide, by decide, fun r4 a4 b4 => ?_⟩
    rw [h10] at b4
    rw [h10]
    repeat walk_at "x"
    refine ⟨d, p, _, rfl, rfl, by decide, by decide, fun r5 a5 b5 => ?_⟩
    rw [h10] at b5
    repeat walk_at "x"
    refine x3 rfl rfl ⟨by show (14 : Nat) + 6 ≤ sizeLine; decide, rfl⟩ ?_
    repeat walk_at "x"
    refine ⟨d, p, _, _, rfl, rfl, rfl, by simp, by show (20 : Nat) ≤ _; decide, fun x hx => x1r rfl ?_⟩
    have hx : x ∈ [D.int 0, .int 1, .int 127, .int 128, .int 129, .int 255, .int 16383, .int 16384, .int 16385, .int 2097151, .int 2097152, .int r1, .int r2, .int (r3 * 1000000000 + r4), .int edge, .int (edge - 1), .int (edge + 1), .int (edge * 127 + r5), .int (128 ^ Int.toNat 8 - 1), .int (128 ^ Int.toNat 8)] := hx
    rw [h8] at hx
    simp only [List.mem_cons, List.not_mem_nil, or_false] at hx
    rcases hx with rfl | rfl | rfl | rfl | rfl | rfl | rfl | rfl | rfl | rfl | rfl | rfl | rfl | rfl | rfl | rfl | rfl | rfl | rfl | rfl <;> exact qi _ (by omega) (by omega)
/-- no plain data is an instance of an own class -/
structure Kx (K : PySem.W.Frag) : Prop where
  no : ∀ T ∈ ["NoneType", "bool", "int", "str", "tuple", "list", "dict"], ∀ C ∈ (["Finding", "NamesAnswer", "LevelsAnswer", "Web"] : List Str), PySem.W.kitOne K (.type T) (.ref (He.ga K C)) = some false
theorem isr_go {P : Bool → Prop} {δ : List SD} {rs : List RD} {d : D} {T : String} {C : Addr} {b : Bool} (e : resL δ rs = some [d, .raw (.ref C)]) (t : tyD d = some (.type T)) (hk : PySem.W.kitOne K (.type T) (.ref C) = some b) (h : P b) :
    ∃ d c t u b, resL δ rs = some [d, c] ∧ TyDR K d t ∧ ClD c u ∧ PySem.W.kitOne K t u = some b ∧ P b := ⟨d, _, _, _, b, e, .p t, .own C, hk, h⟩
theorem pl_ty {x : D} (h : Pl x) : ∃ T ∈ ["NoneType", "bool", "int", "str", "tuple", "list", "dict"], tyD x = some (.type T) := by
  cases h with
  | non => exact ⟨"NoneType", by simp, rfl⟩
  | bl b => exact ⟨"bool", by simp, rfl⟩
  | int i => exact ⟨"int", by simp, rfl⟩
  | str s => exact ⟨"str", by simp, rfl⟩
  | tup _ => exact ⟨"tuple", by simp, rfl⟩
theorem walk__law_plain (kx : Kx K) (h : pre__law_plain ds W Φ) : StP K (t__law_plain K) (st0 N__law_plain ds) W (endP Φ) := by
  obtain ⟨x, rfl, hp, q⟩ := h
  obtain ⟨T, hT, ht⟩ := pl_ty hp
  have k1 := kx.no T hT "Finding" (by simp)
  have k2 := kx.no T hT "NamesAnswer" (by simp)
  have k3 := kx.no T hT "LevelsAnswer" (by simp)
  have k4 := kx.no T hT "Web" (by simp)
  have k23 : PySem.W.kitAny K (.type T) [.ref (He.ga K "NamesAnswer"), .ref (He.ga K "LevelsAnswer")] = some false := by simp [PySem.W.kitAny, k2, k3]
  unfold t__law_plain
  repeat walk_at "x"
  refine isr_go rfl ht k1 ?_
  repeat walk_at "x"
  refine isiT_go rfl rfl (Nat.le_of_ble_eq_true rfl) ht (.cons (.own _) (.cons (.own _) .nil)) k23 ?_
  repeat walk_at "x"
  refine isr_go rfl ht k4 ?_
  repeat walk_at "x"
  exact q
end
end K79
namespace K80
open PySem PySem.Spec PyProof.Rows L2 Lg K79
local macro_rules
  | `(tactic| walk_at "lg") => `(tactic| first
    | with_reducible refine sp_seq ?_
    | with_reducible refine sp_own ?_
    | with_reducible refine sp_set ?_
    | with_reducible refine sp_parO1 ?_
    | with_reducible refine sp_parO2 ?_
    | with_reducible refine sp_parOO ?_
    | with_reducible refine sp_par3 ?_
    | with_reducible refine sp_par ?_
    | with_reducible refine sp_asg ?_
    | with_reducible refine sp_drop ?_
    | with_reducible refine sp_ret ?_
    | with_reducible refine sp_retN ?_
    | with_reducible refine sp_next ?_
    | with_reducible refine sp_break ?_
    | with_reducible refine sp_cont ?_
    | ((with_reducible refine sp_aug (d0 := ?lgd) ?lg0 ?_); (case lg0 => exact rfl))
    | ((with_reducible refine ep_vF (d := ?lgd) ?lg0 ?_); (case lg0 => exact rfl))
    | ((with_reducible refine ep_vFF (o := ?lgd) ?lg0 ?_); (case lg0 => exact rfl))
    | ((with_reducible refine ep_var (d := ?lgd) ?lg0 ?_); (case lg0 => exact rfl))
    | ((with_reducible refine ep_varS (o := ?lgd) ?lg0 ?_); (case lg0 => exact rfl))
    | with_reducible refine ep_int ?_
    | with_reducible refine ep_str ?_
    | with_reducible refine ep_non ?_
    | with_reducible refine ep_bl ?_
    | with_reducible refine ep_ty ?_
    | with_reducible refine ep_ref ?_
    | with_reducible refine ep_op ?_
    | with_reducible refine ep_un ?_
    | with_reducible refine ep_isiT ?_
    | with_reducible refine ep_isi ?_
    | with_reducible refine ep_cb ?_
    | with_reducible refine ep_tup ?_
    | with_reducible refine ep_lst ?_
    | with_reducible refine ep_call ?_
    | with_reducible refine ep_callN ?_
    | ((with_reducible refine ep_pair (xs0 := ?lgd) ?lg0 ?_); (case lg0 => exact rfl))
    | ((with_reducible refine ep_append (ds0 := ?lgd) ?lg0 ?_); (case lg0 => exact rfl))
    | with_reducible refine ep_sl ?_
    | with_reducible refine ep_revL ?_
    | with_reducible refine ep_zipL ?_
    | with_reducible refine ep_join ?_
    | with_reducible refine ep_index ?_
    | with_reducible refine ep_if ?_
    | with_reducible refine ep_andV ?_
    | with_reducible refine ep_orV ?_
    | with_reducible refine ep_notV ?_
    | with_reducible refine pt_no ?_
    | with_reducible refine pt_part ?_
    | with_reducible refine ea_nil ?_
    | with_reducible refine ea_cons ?_
    | with_reducible refine tp_test ?_
    | with_reducible refine tp_B ?_
    | with_reducible refine tp_and ?_
    | with_reducible refine tp_or ?_
    | with_reducible refine tp_not ?_
    | with_reducible refine tp_yes ?_
    | with_reducible refine tg_name ?_
    | with_reducible refine tg_tup rfl ?_
    | with_reducible refine tgs_cons ?_
    | with_reducible refine tgs_nil ?_
    | with_reducible refine it_u ?_
    | with_reducible refine it_en ?_
    | with_reducible refine it_r1 ?_
    | with_reducible refine it_r2 ?_
    | with_reducible refine it_r3 ?_)
  | `(tactic| walk_at "r") => `(tactic| first
    | exact rfl
    | exact ⟨_, rfl, rfl⟩
    | exact Or.inl ⟨_, rfl, rfl⟩
    | exact Or.inl rfl
    | exact Or.inr ⟨_, rfl, rfl⟩
    | exact ⟨rfl, rfl⟩
    | exact ⟨by decide, rfl⟩
    | exact ⟨⟨by decide, by decide⟩, rfl⟩
    | exact ⟨⟨by decide, by decide, by decide⟩, rfl⟩
    | exact ⟨PySem.IntMulOk.of_right (PySem.intBits_le_64 (by omega) (by omega)), rfl⟩
    | exact ⟨PySem.IntMulOk.of_left (PySem.intBits_le_64 (by omega) (by omega)), rfl⟩
    | exact ⟨by omega, rfl⟩
    | exact ⟨PySem.IntMulOk.of_bits (by decide +kernel) (by decide +kernel), rfl⟩)
  | `(tactic| walk_at "x") => `(tactic| first
    | walk_at "y"
    | with_reducible refine sp_if ?_)
  | `(tactic| walk_at "y") => `(tactic| first
    | walk_at "lg"
    | (refine ⟨fun _ => ?_, fun lgz => absurd lgz (by decide)⟩)
    | (refine ⟨fun lgz => absurd lgz (by decide), fun _ => ?_⟩)
    | ((with_reducible apply x3); (exact rfl); (exact rfl); (walk_at "r"))
    | ((with_reducible apply x1v); (exact rfl))
    | ((with_reducible apply x1b); (exact rfl))
    | ((with_reducible apply x1i); (exact rfl))
    | ((with_reducible apply x1z); (exact rfl))
    | ((with_reducible apply x1l); (exact rfl))
    | ((with_reducible apply x1r); (exact rfl))
    | ((with_reducible apply x1t); (exact rfl); (exact Nat.le_of_ble_eq_true rfl))
    | ((with_reducible apply x1s); (exact rfl))
    | ((with_reducible apply x1n); (exact rfl))
    | ((with_reducible apply x2c); (exact rfl); (walk_at "r"))
    | ((with_reducible apply x2u); (exact rfl); (walk_at "r"))
    | ((with_reducible apply x2w); (exact rfl); (exact rfl))
    | ((with_reducible apply xcN); (exact rfl); (exact rfl); (exact rfl); (exact rfl))
    | ((with_reducible apply x2p); (exact rfl); (exact rfl); (first | assumption | (rw [sizeLine_eq]; (try simp only [List.length_append, List.length_map, List.length_cons, List.length_nil]); omega)))
    | ((with_reducible apply x2a); (exact rfl); (exact rfl); (first | assumption | decide | omega | (rw [sizeLine_eq]; (try simp only [List.length_append, List.length_map, List.length_cons, List.length_nil]); omega)))
    | ((with_reducible apply x2s); (exact rfl))
    | ((with_reducible apply x2nv); (exact rfl))
    | ((with_reducible apply x2vn); (exact rfl))
    | ((with_reducible apply x2nn); (exact rfl))
    | ((with_reducible apply x3s); (exact rfl))
    | ((with_reducible apply x2g); (exact rfl); (exact rfl); (exact augI); (exact rfl)))
/-! # K80a: frames, in plain terms -/
def sp (os : List Int) : List Int := [sumAt os % 256, sumAt os / 256]
def fr (os : List Int) : List Int := octs os.length ++ os ++ sp os
theorem sum_rng (os : List Int) : 0 ≤ sumAt os ∧ sumAt os < 65521 := ⟨Int.emod_nonneg _ (by decide), Int.emod_lt_of_pos _ (by decide)⟩
theorem i8_app' {a b : List Int} (ha : ∀ o ∈ a, I8 o) (hb : ∀ o ∈ b, I8 o) : ∀ o ∈ a ++ b, I8 o := fun o ho => by
  rcases List.mem_append.mp ho with z | z
  · exact ha o z
  · exact hb o z
theorem sp_i8 (os : List Int) : ∀ o ∈ sp os, I8 o := fun o ho => by
  have := sum_rng os
  unfold sp at ho
  simp only [List.mem_cons, List.not_mem_nil, or_false] at ho
  rcases ho with rfl | rfl <;> (unfold I8; omega)
theorem fr_i8 {os : List Int} (h : ∀ o ∈ os, I8 o) : ∀ o ∈ fr os, I8 o := i8_app' (i8_app' (octs_i8 _) h) (sp_i8 os)
theorem fr_len (os : List Int) : (fr os).length = (octs os.length).length + os.length + 2 := by
  unfold fr sp
  simp only [List.length_append, List.length_cons, List.length_nil]
/-- the body at a place and the place behind its frame -/
def frameAt (os : List Int) (a : Int) : Option (List Int × Int) := match K79.numAt os a with
  | none => none
  | some (n, e) => if n + 2 > (os.length : Int) - e then none else
      if (os.drop (n + e).toNat).take 2 = sp ((os.drop e.toNat).take n.toNat) then some ((os.drop e.toNat).take n.toNat, n + e + 2) else none
def faD : Option (List Int × Int) → D
  | none => .non
  | some (b, e) => .tup [tI b, .int e]
theorem numAt_at {os : List Int} {a n e : Int} (h : K79.numAt os a = some (n, e)) : 0 ≤ a ∧ a < e := by
  unfold K79.numAt at h
  by_cases ha : a < 0
  · rw [if_pos ha] at h
    cases h
  · rw [if_neg ha] at h
    cases z : rd (os.drop a.toNat) with
    | none => rw [z] at h; cases h
    | some p =>
      obtain ⟨f, l⟩ := p
      rw [z] at h
      have h : (if f ≠ [] ∧ l = 0 then none else some (valB 128 (f ++ [l]), a + f.length + 1)) = some (n, e) := h
      split at h
      · cases h
      · cases h
        omega
/-- what a frame read says of its place -/
theorem frameAt_some {os b : List Int} {a e : Int} (h8 : ∀ o ∈ os, I8 o) (h : frameAt os a = some (b, e)) : 0 ≤ a ∧ a + 3 ≤ e ∧ e ≤ os.length ∧ ∀ o ∈ b, I8 o := by
  unfold frameAt at h
  cases z : K79.numAt os a with
  | none => rw [z] at h; cases h
  | some p =>
    obtain ⟨n, k⟩ := p
    rw [z] at h
    obtain ⟨h1, h2, h3⟩ := numAt_some h8 z
    obtain ⟨h4, h5⟩ := numAt_at z
    have h : (if n + 2 > (os.length : Int) - k then none else if (os.drop (n + k).toNat).take 2 = sp ((os.drop k.toNat).take n.toNat) then some ((os.drop k.toNat).take n.toNat, n + k + 2) else none) = some (b, e) := h
    split at h
    · cases h
    · split at h
      · cases h
        exact ⟨h4, by omega, by omega, fun o ho => h8 o (List.mem_of_mem_drop (List.mem_of_mem_take ho))⟩
      · cases h
/-- a whole frame is read -/
theorem frameAt_fr (a b r : List Int) : frameAt (a ++ fr b ++ r) a.length = some (b, (a.length : Int) + (fr b).length) := by
  unfold frameAt
  have e : a ++ fr b ++ r = a ++ octs b.length ++ (b ++ (sp b ++ r)) := by simp [fr]
  rw [e, numAt_octs]
  have hs : (sp b).length = 2 := rfl
  have hl : (a ++ octs b.length ++ (b ++ (sp b ++ r))).length = a.length + (octs b.length).length + (b.length + (2 + r.length)) := by simp only [List.length_append, hs]
  have e1 : ((a.length : Int) + ((octs b.length).length : Int)).toNat = (a ++ octs b.length).length := by rw [List.length_append]; omega
  have e2 : (((b.length : Nat) : Int) + ((a.length : Int) + ((octs b.length).length : Int))).toNat = (a ++ octs b.length ++ b).length := by rw [List.length_append, List.length_append]; omega
  show (if ((b.length : Nat) : Int) + 2 > ((a ++ octs b.length ++ (b ++ (sp b ++ r))).length : Int) - ((a.length : Int) + ((octs b.length).length : Int)) then none else
    if ((a ++ octs b.length ++ (b ++ (sp b ++ r))).drop (((b.length : Nat) : Int) + ((a.length : Int) + ((octs b.length).length : Int))).toNat).take 2 = sp (((a ++ octs b.length ++ (b ++ (sp b ++ r))).drop ((a.length : Int) + ((octs b.length).length : Int)).toNat).take ((b.length : Nat) : Int).toNat) then
      some (((a ++ octs b.length ++ (b ++ (sp b ++ r))).drop ((a.length : Int) + ((octs b.length).length : Int)).toNat).take ((b.length : Nat) : Int).toNat, ((b.length : Nat) : Int) + ((a.length : Int) + ((octs b.length).length : Int)) + 2) else none) = _
  rw [if_neg (by rw [hl]; omega), e1, e2, List.drop_left, Int.toNat_natCast, List.take_left]
  have e3 : a ++ octs b.length ++ (b ++ (sp b ++ r)) = a ++ octs b.length ++ b ++ (sp b ++ r) := by simp
  rw [e3, List.drop_left]
  have e4 : (sp b ++ r).take 2 = sp b := rfl
  rw [if_pos e4]
  congr 2
  rw [fr_len]
  omega
/-- all frames from a place on, at most k -/
def frsF (os : List Int) : Nat → Int → List (List Int) × Int
  | 0, p => ([], p)
  | k + 1, p => match frameAt os p with
    | none => ([], p)
    | some (b, e) => (b :: (frsF os k e).1, (frsF os k e).2)
def frs (os : List Int) : List (List Int) × Int := frsF os (os.length + 1) 0
theorem frsF_stop {os : List Int} {p : Int} (h : frameAt os p = none) : ∀ k, frsF os k p = ([], p)
  | 0 => rfl
  | k + 1 => by
    unfold frsF
    rw [h]
/-- the rows of whole frames ahead of what holds no frame -/
theorem frsF_rows (bs : List (List Int)) (r : List Int) : ∀ (a : List Int) (k : Nat), bs.length ≤ k → frameAt (a ++ (bs.map fr).flatten ++ r) (((a ++ (bs.map fr).flatten).length : Nat) : Int) = none →
    frsF (a ++ (bs.map fr).flatten ++ r) k ((a.length : Nat) : Int) = (bs, (((a ++ (bs.map fr).flatten).length : Nat) : Int)) := by
  induction bs with
  | nil =>
    intro a k _ h
    simp only [List.map_nil, List.flatten_nil, List.append_nil] at h ⊢
    exact frsF_stop h k
  | cons b bs ih =>
    intro a k hk h
    cases k with
    | zero => simp at hk
    | succ k =>
      have e : a ++ (((b :: bs).map fr)).flatten = (a ++ fr b) ++ (bs.map fr).flatten := by simp
      rw [e] at h ⊢
      have e2 : (a ++ fr b) ++ (bs.map fr).flatten ++ r = a ++ fr b ++ ((bs.map fr).flatten ++ r) := by simp
      have hf := frameAt_fr a b ((bs.map fr).flatten ++ r)
      have ih := ih (a ++ fr b) k (by simpa using hk) h
      unfold frsF
      rw [← e2] at hf
      rw [hf]
      have e3 : (a.length : Int) + ((fr b).length : Int) = (((a ++ fr b).length : Nat) : Int) := by rw [List.length_append]; omega
      show (b :: (frsF _ k ((a.length : Int) + ((fr b).length : Int))).1, (frsF _ k ((a.length : Int) + ((fr b).length : Int))).2) = _
      rw [e3, ih]
end K80
namespace K80
open PySem PySem.Spec PyProof.Rows L2 Lg K79
local macro_rules
  | `(tactic| walk_at "lg") => `(tactic| first
    | with_reducible refine sp_seq ?_
    | with_reducible refine sp_own ?_
    | with_reducible refine sp_set ?_
    | with_reducible refine sp_parO1 ?_
    | with_reducible refine sp_parO2 ?_
    | with_reducible refine sp_parOO ?_
    | with_reducible refine sp_par3 ?_
    | with_reducible refine sp_par ?_
    | with_reducible refine sp_asg ?_
    | with_reducible refine sp_drop ?_
    | with_reducible refine sp_ret ?_
    | with_reducible refine sp_retN ?_
    | with_reducible refine sp_next ?_
    | with_reducible refine sp_break ?_
    | with_reducible refine sp_cont ?_
    | ((with_reducible refine sp_aug (d0 := ?lgd) ?lg0 ?_); (case lg0 => exact rfl))
    | ((with_reducible refine ep_vF (d := ?lgd) ?lg0 ?_); (case lg0 => exact rfl))
    | ((with_reducible refine ep_vFF (o := ?lgd) ?lg0 ?_); (case lg0 => exact rfl))
    | ((with_reducible refine ep_var (d := ?lgd) ?lg0 ?_); (case lg0 => exact rfl))
    | ((with_reducible refine ep_varS (o := ?lgd) ?lg0 ?_); (case lg0 => exact rfl))
    | with_reducible refine ep_int ?_
    | with_reducible refine ep_str ?_
    | with_reducible refine ep_non ?_
    | with_reducible refine ep_bl ?_
    | with_reducible refine ep_ty ?_
    | with_reducible refine ep_ref ?_
    | with_reducible refine ep_op ?_
    | with_reducible refine ep_un ?_
    | with_reducible refine ep_isiT ?_
    | with_reducible refine ep_isi ?_
    | with_reducible refine ep_cb ?_
    | with_reducible refine ep_tup ?_
    | with_reducible refine ep_lst ?_
    | with_reducible refine ep_call ?_
    | with_reducible refine ep_callN ?_
    | ((with_reducible refine ep_pair (xs0 := ?lgd) ?lg0 ?_); (case lg0 => exact rfl))
    | ((with_reducible refine ep_append (ds0 := ?lgd) ?lg0 ?_); (case lg0 => exact rfl))
    | with_reducible refine ep_sl ?_
    | with_reducible refine ep_revL ?_
    | with_reducible refine ep_zipL ?_
    | with_reducible refine ep_join ?_
    | with_reducible refine ep_index ?_
    | with_reducible refine ep_if ?_
    | with_reducible refine ep_andV ?_
    | with_reducible refine ep_orV ?_
    | with_reducible refine ep_notV ?_
    | with_reducible refine pt_no ?_
    | with_reducible refine pt_part ?_
    | with_reducible refine ea_nil ?_
    | with_reducible refine ea_cons ?_
    | with_reducible refine tp_test ?_
    | with_reducible refine tp_B ?_
    | with_reducible refine tp_and ?_
    | with_reducible refine tp_or ?_
    | with_reducible refine tp_not ?_
    | with_reducible refine tp_yes ?_
    | with_reducible refine tg_name ?_
    | with_reducible refine tg_tup rfl ?_
    | with_reducible refine tgs_cons ?_
    | with_reducible refine tgs_nil ?_
    | with_reducible refine it_u ?_
    | with_reducible refine it_en ?_
    | with_reducible refine it_r1 ?_
    | with_reducible refine it_r2 ?_
    | with_reducible refine it_r3 ?_)
  | `(tactic| walk_at "r") => `(tactic| first
    | exact rfl
    | exact ⟨_, rfl, rfl⟩
    | exact Or.inl ⟨_, rfl, rfl⟩
    | exact Or.inl rfl
    | exact Or.inr ⟨_, rfl, rfl⟩
    | exact ⟨rfl, rfl⟩
    | exact ⟨by decide, rfl⟩
    | exact ⟨⟨by decide, by decide⟩, rfl⟩
    | exact ⟨⟨by decide, by decide, by decide⟩, rfl⟩
    | exact ⟨PySem.IntMulOk.of_right (PySem.intBits_le_64 (by omega) (by omega)), rfl⟩
    | exact ⟨PySem.IntMulOk.of_left (PySem.intBits_le_64 (by omega) (by omega)), rfl⟩
    | exact ⟨by omega, rfl⟩
    | exact ⟨PySem.IntMulOk.of_bits (by decide +kernel) (by decide +kernel), rfl⟩)
  | `(tactic| walk_at "x") => `(tactic| first
    | walk_at "y"
    | with_reducible refine sp_if ?_)
  | `(tactic| walk_at "y") => `(tactic| first
    | walk_at "lg"
    | (refine ⟨fun _ => ?_, fun lgz => absurd lgz (by decide)⟩)
    | (refine ⟨fun lgz => absurd lgz (by decide), fun _ => ?_⟩)
    | ((with_reducible apply x3); (exact rfl); (exact rfl); (walk_at "r"))
    | ((with_reducible apply x1v); (exact rfl))
    | ((with_reducible apply x1b); (exact rfl))
    | ((with_reducible apply x1i); (exact rfl))
    | ((with_reducible apply x1z); (exact rfl))
    | ((with_reducible apply x1l); (exact rfl))
    | ((with_reducible apply x1r); (exact rfl))
    | ((with_reducible apply x1t); (exact rfl); (exact Nat.le_of_ble_eq_true rfl))
    | ((with_reducible apply x1s); (exact rfl))
    | ((with_reducible apply x1n); (exact rfl))
    | ((with_reducible apply x2c); (exact rfl); (walk_at "r"))
    | ((with_reducible apply x2u); (exact rfl); (walk_at "r"))
    | ((with_reducible apply x2w); (exact rfl); (exact rfl))
    | ((with_reducible apply xcN); (exact rfl); (exact rfl); (exact rfl); (exact rfl))
    | ((with_reducible apply x2p); (exact rfl); (exact rfl); (first | assumption | (rw [sizeLine_eq]; (try simp only [List.length_append, List.length_map, List.length_cons, List.length_nil]); omega)))
    | ((with_reducible apply x2a); (exact rfl); (exact rfl); (first | assumption | decide | omega | (rw [sizeLine_eq]; (try simp only [List.length_append, List.length_map, List.length_cons, List.length_nil]); omega)))
    | ((with_reducible apply x2s); (exact rfl))
    | ((with_reducible apply x2nv); (exact rfl))
    | ((with_reducible apply x2vn); (exact rfl))
    | ((with_reducible apply x2nn); (exact rfl))
    | ((with_reducible apply x3s); (exact rfl))
    | ((with_reducible apply x2g); (exact rfl); (exact rfl); (exact augI); (exact rfl)))
/-! # K80b: promises, readings -/
def pre_sum_pair : Pre := fun ds W Φ => ∃ os : List Int, ds = [tI os] ∧ os.length ≤ 30000 ∧ (∀ o ∈ os, I8 o) ∧ Φ (tI (sp os)) W
def pre_frame : Pre := fun ds W Φ => ∃ os : List Int, ds = [tI os] ∧ os.length ≤ 20001 ∧ (∀ o ∈ os, I8 o) ∧ Φ (tI (fr os)) W
def pre_frame_at : Pre := fun ds W Φ => ∃ (os : List Int) (a : Int), ds = [tI os, .int a] ∧ AtOk os a ∧ Φ (faD (frameAt os a)) W
def frsD (os : List Int) : D := .tup [.tup ((frs os).1.map tI), .int (frs os).2]
def pre_frames : Pre := fun ds W Φ => ∃ os : List Int, ds = [tI os] ∧ os.length ≤ 30000 ∧ (∀ o ∈ os, I8 o) ∧ Φ (frsD os) W
def pre__law_framed : Pre := fun ds W Φ => ∃ os : List Int, ds = [lI os] ∧ os.length ≤ 20001 ∧ (∀ o ∈ os, I8 o) ∧ Φ (lI (fr os)) W
def pre__law_joined : Pre := fun ds W Φ => ∃ rows : List (List Int), ds = [.lst (rows.map lI)] ∧ rows.flatten.length ≤ 30000 ∧ Φ (lI rows.flatten) W
def pre__law_frames_in : Pre := fun ds W Φ => ∃ os : List Int, ds = [lI os] ∧ os.length ≤ 20100 ∧ (∀ o ∈ os, I8 o) ∧ Φ (.tup [.lst ((frs os).1.map lI), .int (frs os).2]) W
def pre__law_due : Pre := fun ds W Φ => ∃ os : List Int, ds = [lI os] ∧ os.length ≤ 20100 ∧ (∀ o ∈ os, I8 o) ∧ Φ (frsD os) W
def pre__law_some_body : Pre := fun ds W Φ => ∃ (d p : Addr), ds = [.raw (.ref d)] ∧ W = [dealR d p] ∧ ∀ os : List Int, os.length ≤ 300 → (∀ o ∈ os, I8 o) → Φ (lI os) W
def pre__law_bent : Pre := fun ds W Φ => ∃ (d p : Addr) (os : List Int), ds = [.raw (.ref d), lI os] ∧ W = [dealR d p] ∧ os.length ≤ 10000 ∧ (∀ o ∈ os, I8 o) ∧ ∀ os' : List Int, os'.length ≤ os.length + 1 → (∀ o ∈ os', I8 o) → Φ (lI os') W
def pre_law : Pre := fun ds W Φ => ∃ ns : List Int, ds = [.frz ns] ∧ W = [] ∧ ∀ W', Φ (.bl true) W'
theorem len_sum_pair {ds : List D} {W : List Res} {Φ : D → List Res → Prop} (h : pre_sum_pair ds W Φ) : ds.length = 1 := by obtain ⟨_, rfl, _⟩ := h; rfl
theorem len_frame {ds : List D} {W : List Res} {Φ : D → List Res → Prop} (h : pre_frame ds W Φ) : ds.length = 1 := by obtain ⟨_, rfl, _⟩ := h; rfl
theorem len_frame_at {ds : List D} {W : List Res} {Φ : D → List Res → Prop} (h : pre_frame_at ds W Φ) : ds.length = 2 := by obtain ⟨_, _, rfl, _⟩ := h; rfl
theorem len_frames {ds : List D} {W : List Res} {Φ : D → List Res → Prop} (h : pre_frames ds W Φ) : ds.length = 1 := by obtain ⟨_, rfl, _⟩ := h; rfl
theorem len__law_framed {ds : List D} {W : List Res} {Φ : D → List Res → Prop} (h : pre__law_framed ds W Φ) : ds.length = 1 := by obtain ⟨_, rfl, _⟩ := h; rfl
theorem len__law_joined {ds : List D} {W : List Res} {Φ : D → List Res → Prop} (h : pre__law_joined ds W Φ) : ds.length = 1 := by obtain ⟨_, rfl, _⟩ := h; rfl
theorem len__law_frames_in {ds : List D} {W : List Res} {Φ : D → List Res → Prop} (h : pre__law_frames_in ds W Φ) : ds.length = 1 := by obtain ⟨_, rfl, _⟩ := h; rfl
theorem len__law_due {ds : List D} {W : List Res} {Φ : D → List Res → Prop} (h : pre__law_due ds W Φ) : ds.length = 1 := by obtain ⟨_, rfl, _⟩ := h; rfl
theorem len__law_some_body {ds : List D} {W : List Res} {Φ : D → List Res → Prop} (h : pre__law_some_body ds W Φ) : ds.length = 1 := by obtain ⟨_, _, rfl, _⟩ := h; rfl
theorem len__law_bent {ds : List D} {W : List Res} {Φ : D → List Res → Prop} (h : pre__law_bent ds W Φ) : ds.length = 2 := by obtain ⟨_, _, _, rfl, _⟩ := h; rfl
theorem len_law {ds : List D} {W : List Res} {Φ : D → List Res → Prop} (h : pre_law ds W Φ) : ds.length = 1 := by obtain ⟨_, rfl, _⟩ := h; rfl
/-- _law_joined(rows); slots 0:rows 1:found 2:row -/
def N__law_joined : List Str := ["rows", "found", "row"]
def t__law_joined (K : PySem.W.Frag) : TS := (tSeq (tAsg (tLst tNil) (gName 1))
  (tSeq (tFor (iU K (tVarF 0)) (gName 2) (tAsg (tOp (rB K AddR) (tVar 1) (tVar 2)) (gName 1)))
  (tRet (tVar 1))))

/-- sum_pair(body); slots 0:body 1:found -/
def N_sum_pair : List Str := ["body", "found"]
def t_sum_pair (K : PySem.W.Frag) : TS := (tSeq (tAsg (tCall (spW K pre_sum_of_octets) [] E0 (tCons (tVarF 0) tNil)) (gName 1))
  (tRet (tTup (tCons (tOp (rB K ModR) (tVar 1) (tC (.int 256))) (tCons (tOp (rB K DivR) (tVar 1) (tC (.int 256))) tNil)))))

/-- _law_framed(body); slots 0:body 1:total -/
def N__law_framed : List Str := ["body", "total"]
def t__law_framed (K : PySem.W.Frag) : TS := (tSeq (tAsg (tCall (spW K pre__law_sum) [] E0 (tCons (tVarF 0) tNil)) (gName 1))
  (tRet (tOp (rB K AddR) (tOp (rB K AddR) (tCall (spW K pre__law_number_octets) [] E0 (tCons (tCB (rC K LenR) (tCons (tVar 0) tNil)) tNil)) (tVar 0)) (tLst (tCons (tOp (rB K ModR) (tCB (rC K IntR) (tCons (tVar 1) tNil)) (tC (.int 256))) (tCons (tOp (rB K DivR) (tVar 1) (tC (.int 256))) tNil))))))

/-- _law_frames_in(octets); slots 0:octets 1:bodies 2:place 3:turn 4:told 5:body 6:behind 7:total -/
def N__law_frames_in : List Str := ["octets", "bodies", "place", "turn", "told", "body", "behind", "total"]
def t__law_frames_in (K : PySem.W.Frag) : TS := (tSeq (tPar 1 2 (tCons (tLst tNil) (tCons (tC (.int 0)) tNil)))
  (tSeq (tFor (iRng1 (tCons (tOp (rB K AddR) (tCB (rC K LenR) (tCons (tVar 0) tNil)) (tC (.int 1))) tNil)) (gName 3) (tSeq (tAsg (tCall (spW K pre__law_number_at) [] E0 (tCons (tVarF 0) (tCons (tVarF 2) tNil))) (gName 4))
  (tSeq (tIfS (tOr (tTest (tOp (rB K IsR) (tVar 4) (tC .non))) (tTest (tOp (rB K GtR) (tOp (rB K AddR) (tOp (rB K IxD) (tVar 4) (tC (.int 0))) (tC (.int 2))) (tOp (rB K SubR) (tCB (rC K LenR) (tCons (tVar 0) tNil)) (tOp (rB K IxD) (tVar 4) (tC (.int 1))))))) (tRet (tTup (tCons (tVarF 1) (tCons (tVarF 2) tNil)))) tNext)
  (tSeq (tPar 5 6 (tCons (tSl (rS K SlF) (tVar 0) (tPart (tOp (rB K IxD) (tVar 4) (tC (.int 1)))) (tPart (tOp (rB K AddR) (tOp (rB K IxD) (tVar 4) (tC (.int 1))) (tOp (rB K IxD) (tVar 4) (tC (.int 0)))))) (tCons (tOp (rB K AddR) (tOp (rB K IxD) (tVar 4) (tC (.int 1))) (tOp (rB K IxD) (tVar 4) (tC (.int 0)))) tNil)))
  (tSeq (tAsg (tCall (spW K pre__law_sum) [] E0 (tCons (tVarF 5) tNil)) (gName 7))
  (tSeq (tIfS (tOr (tTest (tOp (rB K NeR) (tOp (rB K IxD) (tVar 0) (tVar 6)) (tOp (rB K ModR) (tCB (rC K IntR) (tCons (tVar 7) tNil)) (tC (.int 256))))) (tTest (tOp (rB K NeR) (tOp (rB K IxD) (tVar 0) (tOp (rB K AddR) (tVar 6) (tC (.int 1)))) (tOp (rB K DivR) (tVar 7) (tC (.int 256)))))) (tRet (tTup (tCons (tVarF 1) (tCons (tVarF 2) tNil)))) tNext)
  (tPar 1 2 (tCons (tOp (rB K AddR) (tVar 1) (tLst (tCons (tVarF 5) tNil))) (tCons (tOp (rB K AddR) (tVar 6) (tC (.int 2))) tNil)))))))))
  (tRet (tTup (tCons (tVarF 1) (tCons (tVarF 2) tNil))))))

/-- frame(body); slots 0:body -/
def N_frame : List Str := ["body"]
def t_frame (K : PySem.W.Frag) : TS := (tRet (tOp (rB K AddR) (tOp (rB K AddR) (tCall (spW K pre_number_octets) [] E0 (tCons (tCB (rC K LenR) (tCons (tVar 0) tNil)) tNil)) (tCB (rC K TupleR) (tCons (tVar 0) tNil))) (tCall (spW K pre_sum_pair) [] E0 (tCons (tVarF 0) tNil))))

/-- frame_at(octets, at); slots 0:octets 1:at 2:told 3:end 4:body -/
def N_frame_at : List Str := ["octets", "at", "told", "end", "body"]
def t_frame_at (K : PySem.W.Frag) : TS := (tSeq (tAsg (tCall (spW K pre_number_in) [] E0 (tCons (tVarF 0) (tCons (tVarF 1) tNil))) (gName 2))
  (tSeq (tIfS (tOr (tTest (tOp (rB K IsR) (tVar 2) (tC .non))) (tTest (tOp (rB K GtR) (tOp (rB K AddR) (tOp (rB K IxD) (tVar 2) (tC (.int 0))) (tC (.int 2))) (tOp (rB K SubR) (tCB (rC K LenR) (tCons (tVar 0) tNil)) (tOp (rB K IxD) (tVar 2) (tC (.int 1))))))) (tRet (tC .non)) tNext)
  (tSeq (tAsg (tOp (rB K AddR) (tOp (rB K IxD) (tVar 2) (tC (.int 0))) (tOp (rB K IxD) (tVar 2) (tC (.int 1)))) (gName 3))
  (tSeq (tAsg (tSl (rS K SlF) (tVar 0) (tPart (tOp (rB K IxD) (tVar 2) (tC (.int 1)))) (tPart (tVar 3))) (gName 4))
  (tSeq (tIfS (tTest (tOp (rB K NeR) (tSl (rS K SlF) (tVar 0) (tPart (tVar 3)) (tPart (tOp (rB K AddR) (tVar 3) (tC (.int 2))))) (tCall (spW K pre_sum_pair) [] E0 (tCons (tVarF 4) tNil)))) (tRet (tC .non)) tNext)
  (tRet (tTup (tCons (tVarF 4) (tCons (tOp (rB K AddR) (tVar 3) (tC (.int 2))) tNil)))))))))

/-- _law_due(octets); slots 0:octets 1:bodies 2:place 3:body -/
def N__law_due : List Str := ["octets", "bodies", "place", "body"]
def t__law_due (K : PySem.W.Frag) : TS := (tSeq (tAsg (tCall (spW K pre__law_frames_in) [] E0 (tCons (tVarF 0) tNil)) (gTup K 2 (gCons (gName 1) (gCons (gName 2) gNil))))
  (tRet (tTup (tCons (tCB (rC K TupleR) (tCons (tLc (iU K (tVarF 1)) (gName 3) tYes (tCB (rC K TupleR) (tCons (tVar 3) tNil)) [3]) tNil)) (tCons (tVarF 2) tNil)))))

/-- frames(octets); slots 0:octets 1:bodies* 2:place 3:told -/
def N_frames : List Str := ["octets", "bodies", "place", "told"]
def t_frames (K : PySem.W.Frag) : TS := (tSeq (tAsg (tCB (rC K TupleR) (tCons (tVar 0) tNil)) (gName 0))
  (tSeq (tParO1 1 2 (tCons (tLst tNil) (tCons (tC (.int 0)) tNil)))
  (tSeq (tAsg (tCall (spW K pre_frame_at) [] E0 (tCons (tVarF 0) (tCons (tC (.int 0)) tNil))) (gName 3))
  (tSeq (tWhile (tTest (tOp (rB K IsNotR) (tVar 3) (tC .non))) (tSeq (tDrop (tBM K "list" rAppend (tVar 1) (tCons (tOp (rB K IxD) (tVar 3) (tC (.int 0))) tNil)))
  (tSeq (tAsg (tOp (rB K IxD) (tVar 3) (tC (.int 1))) (gName 2))
  (tAsg (tCall (spW K pre_frame_at) [] E0 (tCons (tVarF 0) (tCons (tVarF 2) tNil))) (gName 3)))))
  (tRet (tTup (tCons (tCB (rC K TupleR) (tCons (tVar 1) tNil)) (tCons (tVarF 2) tNil))))))))

/-- _law_some_body(deal); slots 0:deal 1:many 2:one 3:step 4:turn -/
def N__law_some_body : List Str := ["deal", "many", "one", "step", "turn"]
def t__law_some_body (K : PySem.W.Frag) : TS := (tSeq (tAsg (tCall (spW K pre__law_of) [] E0 (tCons (tVarF 0) (tCons (tLst (tCons (tC (.int 0)) (tCons (tC (.int 1)) (tCons (tC (.int 2)) (tCons (tC (.int 5)) (tCons (tC (.int 20)) (tCons (tC (.int 126)) (tCons (tC (.int 127)) (tCons (tC (.int 128)) (tCons (tC (.int 129)) (tCons (tC (.int 300)) tNil))))))))))) tNil))) (gName 1))
  (tSeq (tIfS (tTest (tOp (rB K GtR) (tVar 1) (tC (.int 30)))) (tSeq (tAsg (tTup (tCons (tCall (spW K pre__law_octet) [] E0 (tCons (tVarF 0) tNil)) (tCons (tCall (spW K pre__law_of) [] E0 (tCons (tVarF 0) (tCons (tLst (tCons (tC (.int 0)) (tCons (tC (.int 1)) (tCons (tC (.int 7)) (tCons (tC (.int 128)) tNil))))) tNil))) tNil))) (gTup K 2 (gCons (gName 2) (gCons (gName 3) gNil))))
  (tRet (tLc (iRng1 (tCons (tVar 1) tNil)) (gName 4) tYes (tOp (rB K ModR) (tCB (rC K IntR) (tCons (tOp (rB K AddR) (tVar 2) (tOp (rB K MulR) (tVar 4) (tVar 3))) tNil)) (tC (.int 256))) [4]))) tNext)
  (tRet (tLc (iRng1 (tCons (tVar 1) tNil)) (gName 4) tYes (tCall (spW K pre__law_octet) [] E0 (tCons (tVarF 0) tNil)) [4]))))

/-- _law_bent(deal, octets); slots 0:deal 1:octets 2:at 3:sort -/
def N__law_bent : List Str := ["deal", "octets", "at", "sort"]
def t__law_bent (K : PySem.W.Frag) : TS := (tSeq (tIfS (tTest (tOp (rB K EqR) (tCB (rC K LenR) (tCons (tVar 1) tNil)) (tC (.int 0)))) (tRet (tVar 1)) tNext)
  (tSeq (tPar 2 3 (tCons (tCall (spW K pre__law_any) [] E0 (tCons (tVarF 0) (tCons (tCB (rC K LenR) (tCons (tVar 1) tNil)) tNil))) (tCons (tCall (spW K pre__law_any) [] E0 (tCons (tVarF 0) (tCons (tC (.int 4)) tNil))) tNil)))
  (tSeq (tIfS (tTest (tOp (rB K EqR) (tVar 3) (tC (.int 0)))) (tRet (tOp (rB K AddR) (tSl (rS K SlF) (tVar 1) tNoPart (tPart (tVar 2))) (tSl (rS K SlF) (tVar 1) (tPart (tOp (rB K AddR) (tVar 2) (tC (.int 1)))) tNoPart))) tNext)
  (tSeq (tIfS (tTest (tOp (rB K EqR) (tVar 3) (tC (.int 1)))) (tRet (tOp (rB K AddR) (tOp (rB K AddR) (tSl (rS K SlF) (tVar 1) tNoPart (tPart (tVar 2))) (tLst (tCons (tCall (spW K pre__law_octet) [] E0 (tCons (tVarF 0) tNil)) tNil))) (tSl (rS K SlF) (tVar 1) (tPart (tVar 2)) tNoPart))) tNext)
  (tRet (tOp (rB K AddR) (tOp (rB K AddR) (tSl (rS K SlF) (tVar 1) tNoPart (tPart (tVar 2))) (tLst (tCons (tOp (rB K ModR) (tCB (rC K IntR) (tCons (tOp (rB K AddR) (tOp (rB K IxD) (tVar 1) (tVar 2)) (tCall (spW K pre__law_of) [] E0 (tCons (tVarF 0) (tCons (tLst (tCons (tC (.int 1)) (tCons (tC (.int 128)) (tCons (tC (.int 255)) (tCons (tOp (rB K AddR) (tC (.int 1)) (tCall (spW K pre__law_any) [] E0 (tCons (tVarF 0) (tCons (tC (.int 255)) tNil)))) tNil))))) tNil)))) tNil)) (tC (.int 256))) tNil))) (tSl (rS K SlF) (tVar 1) (tPart (tOp (rB K AddR) (tVar 2) (tC (.int 1)))) tNoPart)))))))

/-- law(script); slots 0:script 1:deal 2:pairs* 3:rows* 4:turn 5:body 6:row 7:octets 8:many 9:ahead 10:last 11:cut 12:bent 13:wrong 14:mixed 15:one 16:total 17:number -/
def N_law : List Str := ["script", "deal", "pairs", "rows", "turn", "body", "row", "octets", "many", "ahead", "last", "cut", "bent", "wrong", "mixed", "one", "total", "number"]
def t_law (K : PySem.W.Frag) : TS := (tSeq (tAsg (tCall (spW K pre__law_deal) [] E0 (tCons (tVarF 0) (tCons (tC (.int 80)) tNil))) (gName 1))
  (tSeq (tParOO 2 3 (tCons (tLst tNil) (tCons (tLst tNil) tNil)))
  (tSeq (tFor (iRng1 (tCons (tCall (spW K pre__law_of) [] E0 (tCons (tVarF 1) (tCons (tLst (tCons (tC (.int 1)) (tCons (tC (.int 2)) (tCons (tC (.int 4)) (tCons (tC (.int 7)) tNil))))) tNil))) tNil)) (gName 4) (tSeq (tAsg (tCall (spW K pre__law_some_body) [] E0 (tCons (tVarF 1) tNil)) (gName 5))
  (tSeq (tAsg (tCall (spW K pre__law_framed) [] E0 (tCons (tVarF 5) tNil)) (gName 6))
  (tSeq (tDrop (tBM K "list" rAppend (tVar 2) (tCons (tTup (tCons (tIf (tTest (tOp (rB K LtR) (tVar 4) (tC (.int 2)))) (tCall (spW K pre_frame) [] E0 (tCons (tCB (rC K TupleR) (tCons (tVar 5) tNil)) tNil)) (tCallN 0 1 (spW K pre_frame) (fun vs zs => vs ++ zs) E0 tNil (tCons (tCB (rC K TupleR) (tCons (tVar 5) tNil)) tNil))) (tCons (tCB (rC K TupleR) (tCons (tVar 6) tNil)) tNil))) tNil)))
  (tDrop (tBM K "list" rAppend (tVar 3) (tCons (tTup (tCons (tVarF 5) (tCons (tVarF 6) tNil))) tNil)))))))
  (tSeq (tAsg (tCall (spW K pre__law_joined) [] E0 (tCons (tLc (iU K (tVarF 3)) (gTup K 2 (gCons (gName 5) (gCons (gName 6) gNil))) tYes (tVarF 6) [5, 6]) tNil)) (gName 7))
  (tSeq (tDrop (tBM K "list" rAppend (tVar 2) (tCons (tTup (tCons (tCall (spW K pre_frames) [] E0 (tCons (tCB (rC K TupleR) (tCons (tVar 7) tNil)) tNil)) (tCons (tTup (tCons (tCB (rC K TupleR) (tCons (tLc (iU K (tVarF 3)) (gTup K 2 (gCons (gName 5) (gCons (gName 6) gNil))) tYes (tCB (rC K TupleR) (tCons (tVar 5) tNil)) [5, 6]) tNil)) (tCons (tCB (rC K LenR) (tCons (tVar 7) tNil)) tNil))) tNil))) tNil)))
  (tSeq (tFor (iRng1 (tCons (tC (.int 3)) tNil)) (gName 4) (tSeq (tAsg (tCall (spW K pre__law_any) [] E0 (tCons (tVarF 1) (tCons (tCB (rC K LenR) (tCons (tVar 3) tNil)) tNil))) (gName 8))
  (tSeq (tAsg (tCall (spW K pre__law_joined) [] E0 (tCons (tLc (iU K (tSl (rS K SlF) (tVar 3) tNoPart (tPart (tVar 8)))) (gTup K 2 (gCons (gName 5) (gCons (gName 6) gNil))) tYes (tVarF 6) [5, 6]) tNil)) (gName 9))
  (tSeq (tAsg (tOp (rB K IxD) (tOp (rB K IxD) (tVar 3) (tVar 8)) (tC (.int 1))) (gName 10))
  (tSeq (tAsg (tOp (rB K AddR) (tVar 9) (tSl (rS K SlF) (tVar 10) tNoPart (tPart (tCall (spW K pre__law_any) [] E0 (tCons (tVarF 1) (tCons (tCB (rC K LenR) (tCons (tVar 10) tNil)) tNil)))))) (gName 11))
  (tSeq (tDrop (tBM K "list" rAppend (tVar 2) (tCons (tTup (tCons (tCallN 0 1 (spW K pre_frames) (fun vs zs => vs ++ zs) E0 tNil (tCons (tCB (rC K TupleR) (tCons (tVar 11) tNil)) tNil)) (tCons (tTup (tCons (tCB (rC K TupleR) (tCons (tLc (iU K (tSl (rS K SlF) (tVar 3) tNoPart (tPart (tVar 8)))) (gTup K 2 (gCons (gName 5) (gCons (gName 6) gNil))) tYes (tCB (rC K TupleR) (tCons (tVar 5) tNil)) [5, 6]) tNil)) (tCons (tCB (rC K LenR) (tCons (tVar 9) tNil)) tNil))) tNil))) tNil)))
  (tSeq (tDrop (tBM K "list" rAppend (tVar 2) (tCons (tTup (tCons (tCall (spW K pre_frames) [] E0 (tCons (tCB (rC K TupleR) (tCons (tOp (rB K AddR) (tVar 9) (tVar 10)) tNil)) tNil)) (tCons (tTup (tCons (tCB (rC K TupleR) (tCons (tLc (iU K (tSl (rS K SlF) (tVar 3) tNoPart (tPart (tOp (rB K AddR) (tVar 8) (tC (.int 1)))))) (gTup K 2 (gCons (gName 5) (gCons (gName 6) gNil))) tYes (tCB (rC K TupleR) (tCons (tVar 5) tNil)) [5, 6]) tNil)) (tCons (tCB (rC K LenR) (tCons (tOp (rB K AddR) (tVar 9) (tVar 10)) tNil)) tNil))) tNil))) tNil)))
  (tSeq (tAsg (tCall (spW K pre__law_bent) [] E0 (tCons (tVarF 1) (tCons (tVarF 7) tNil))) (gName 12))
  (tSeq (tDrop (tBM K "list" rAppend (tVar 2) (tCons (tTup (tCons (tCall (spW K pre_frames) [] E0 (tCons (tCB (rC K TupleR) (tCons (tVar 12) tNil)) tNil)) (tCons (tCall (spW K pre__law_due) [] E0 (tCons (tVarF 12) tNil)) tNil))) tNil)))
  (tSeq (tAsg (tCall (spW K pre__law_of) [] E0 (tCons (tVarF 1) (tCons (tLst (tCons (tLst (tCons (tC (.int 0)) (tCons (tC (.int 0)) (tCons (tC (.int 1)) tNil)))) (tCons (tLst (tCons (tC (.int 1)) (tCons (tC (.int 0)) (tCons (tC (.int 1)) (tCons (tC (.int 0)) tNil))))) (tCons (tLst (tCons (tC (.int 0)) (tCons (tC (.int 1)) (tCons (tC (.int 0)) tNil)))) (tCons (tLst (tCons (tC (.int 128)) (tCons (tC (.int 0)) (tCons (tC (.int 0)) (tCons (tC (.int 0)) tNil))))) (tCons (tLst (tCons (tC (.int 1)) (tCons (tC (.int 5)) (tCons (tC (.int 0)) (tCons (tC (.int 5)) tNil))))) (tCons (tLst (tCons (tC (.int 255)) tNil)) (tCons (tLst (tCons (tC (.int 3)) (tCons (tC (.int 1)) (tCons (tC (.int 1)) (tCons (tC (.int 1)) (tCons (tC (.int 6)) tNil)))))) (tCons (tLst (tCons (tC (.int 2)) (tCons (tC (.int 1)) (tCons (tC (.int 1)) (tCons (tC (.int 3)) (tCons (tC (.int 1)) tNil)))))) tNil))))))))) tNil))) (gName 13))
  (tSeq (tAsg (tOp (rB K AddR) (tOp (rB K AddR) (tOp (rB K AddR) (tVar 9) (tVar 13)) (tVar 10)) (tLc (iRng1 (tCons (tCall (spW K pre__law_any) [] E0 (tCons (tVarF 1) (tCons (tC (.int 5)) tNil))) tNil)) (gName 17) tYes (tCall (spW K pre__law_octet) [] E0 (tCons (tVarF 1) tNil)) [17])) (gName 14))
  (tDrop (tBM K "list" rAppend (tVar 2) (tCons (tTup (tCons (tCall (spW K pre_frames) [] E0 (tCons (tCB (rC K TupleR) (tCons (tVar 14) tNil)) tNil)) (tCons (tCall (spW K pre__law_due) [] E0 (tCons (tVarF 14) tNil)) tNil))) tNil))))))))))))))
  (tSeq (tIfS (tTest (tOp (rB K EqR) (tCall (spW K pre__law_any) [] E0 (tCons (tVarF 1) (tCons (tC (.int 6)) tNil))) (tC (.int 0)))) (tSeq (tPar 8 15 (tCons (tCall (spW K pre__law_of) [] E0 (tCons (tVarF 1) (tCons (tLst (tCons (tC (.int 16384)) (tCons (tC (.int 16383)) (tCons (tC (.int 20000)) tNil)))) tNil))) (tCons (tCall (spW K pre__law_octet) [] E0 (tCons (tVarF 1) tNil)) tNil)))
  (tSeq (tAsg (tOp (rB K ModR) (tCB (rC K IntR) (tCons (tOp (rB K MulR) (tVar 15) (tOp (rB K DivR) (tOp (rB K MulR) (tVar 8) (tOp (rB K AddR) (tVar 8) (tC (.int 1)))) (tC (.int 2)))) tNil)) (tC (.int 65521))) (gName 16))
  (tSeq (tAsg (tOp (rB K AddR) (tOp (rB K AddR) (tCall (spW K pre__law_number_octets) [] E0 (tCons (tVarF 8) tNil)) (tOp (rB K MulR) (tLst (tCons (tVarF 15) tNil)) (tVar 8))) (tLst (tCons (tOp (rB K ModR) (tCB (rC K IntR) (tCons (tVar 16) tNil)) (tC (.int 256))) (tCons (tOp (rB K DivR) (tVar 16) (tC (.int 256))) tNil)))) (gName 6))
  (tSeq (tDrop (tBM K "list" rAppend (tVar 2) (tCons (tTup (tCons (tCall (spW K pre_frame) [] E0 (tCons (tOp (rB K MulR) (tTup (tCons (tVarF 15) tNil)) (tVar 8)) tNil)) (tCons (tCB (rC K TupleR) (tCons (tVar 6) tNil)) tNil))) tNil)))
  (tDrop (tBM K "list" rAppend (tVar 2) (tCons (tTup (tCons (tCall (spW K pre_frames) [] E0 (tCons (tCB (rC K TupleR) (tCons (tOp (rB K AddR) (tVar 6) (tLst (tCons (tC (.int 0)) (tCons (tC (.int 0)) tNil)))) tNil)) tNil)) (tCons (tTup (tCons (tTup (tCons (tOp (rB K MulR) (tTup (tCons (tVarF 15) tNil)) (tVar 8)) tNil)) (tCons (tCB (rC K LenR) (tCons (tVar 6) tNil)) tNil))) tNil))) tNil))))))) tNext)
  (tSeq (tDrop (tBM K "list" rAppend (tVar 2) (tCons (tTup (tCons (tCall (spW K pre_frames) [] E0 (tCons (tTup tNil) tNil)) (tCons (tTup (tCons (tTup tNil) (tCons (tC (.int 0)) tNil))) tNil))) tNil)))
  (tRet (tCall (spW K pre__law_all) [] E0 (tCons (tVarF 2) tNil)))))))))))

end K80
namespace K80
open PySem PySem.Spec PyProof.Rows L2 Lg K79
local macro_rules
  | `(tactic| walk_at "lg") => `(tactic| first
    | with_reducible refine sp_seq ?_
    | with_reducible refine sp_own ?_
    | with_reducible refine sp_set ?_
    | with_reducible refine sp_parO1 ?_
    | with_reducible refine sp_parO2 ?_
    | with_reducible refine sp_parOO ?_
    | with_reducible refine sp_par3 ?_
    | with_reducible refine sp_par ?_
    | with_reducible refine sp_asg ?_
    | with_reducible refine sp_drop ?_
    | with_reducible refine sp_ret ?_
    | with_reducible refine sp_retN ?_
    | with_reducible refine sp_next ?_
    | with_reducible refine sp_break ?_
    | with_reducible refine sp_cont ?_
    | ((with_reducible refine sp_aug (d0 := ?lgd) ?lg0 ?_); (case lg0 => exact rfl))
    | ((with_reducible refine ep_vF (d := ?lgd) ?lg0 ?_); (case lg0 => exact rfl))
    | ((with_reducible refine ep_vFF (o := ?lgd) ?lg0 ?_); (case lg0 => exact rfl))
    | ((with_reducible refine ep_var (d := ?lgd) ?lg0 ?_); (case lg0 => exact rfl))
    | ((with_reducible refine ep_varS (o := ?lgd) ?lg0 ?_); (case lg0 => exact rfl))
    | with_reducible refine ep_int ?_
    | with_reducible refine ep_str ?_
    | with_reducible refine ep_non ?_
    | with_reducible refine ep_bl ?_
    | with_reducible refine ep_ty ?_
    | with_reducible refine ep_ref ?_
    | with_reducible refine ep_op ?_
    | with_reducible refine ep_un ?_
    | with_reducible refine ep_isiT ?_
    | with_reducible refine ep_isi ?_
    | with_reducible refine ep_cb ?_
    | with_reducible refine ep_tup ?_
    | with_reducible refine ep_lst ?_
    | with_reducible refine ep_call ?_
    | with_reducible refine ep_callN ?_
    | ((with_reducible refine ep_pair (xs0 := ?lgd) ?lg0 ?_); (case lg0 => exact rfl))
    | ((with_reducible refine ep_append (ds0 := ?lgd) ?lg0 ?_); (case lg0 => exact rfl))
    | with_reducible refine ep_sl ?_
    | with_reducible refine ep_revL ?_
    | with_reducible refine ep_zipL ?_
    | with_reducible refine ep_join ?_
    | with_reducible refine ep_index ?_
    | with_reducible refine ep_if ?_
    | with_reducible refine ep_andV ?_
    | with_reducible refine ep_orV ?_
    | with_reducible refine ep_notV ?_
    | with_reducible refine pt_no ?_
    | with_reducible refine pt_part ?_
    | with_reducible refine ea_nil ?_
    | with_reducible refine ea_cons ?_
    | with_reducible refine tp_test ?_
    | with_reducible refine tp_B ?_
    | with_reducible refine tp_and ?_
    | with_reducible refine tp_or ?_
    | with_reducible refine tp_not ?_
    | with_reducible refine tp_yes ?_
    | with_reducible refine tg_name ?_
    | with_reducible refine tg_tup rfl ?_
    | with_reducible refine tgs_cons ?_
    | with_reducible refine tgs_nil ?_
    | with_reducible refine it_u ?_
    | with_reducible refine it_en ?_
    | with_reducible refine it_r1 ?_
    | with_reducible refine it_r2 ?_
    | with_reducible refine it_r3 ?_)
  | `(tactic| walk_at "r") => `(tactic| first
    | exact rfl
    | exact ⟨_, rfl, rfl⟩
    | exact Or.inl ⟨_, rfl, rfl⟩
    | exact Or.inl rfl
    | exact Or.inr ⟨_, rfl, rfl⟩
    | exact ⟨rfl, rfl⟩
    | exact ⟨by decide, rfl⟩
    | exact ⟨⟨by decide, by decide⟩, rfl⟩
    | exact ⟨⟨by decide, by decide, by decide⟩, rfl⟩
    | exact ⟨PySem.IntMulOk.of_right (PySem.intBits_le_64 (by omega) (by omega)), rfl⟩
    | exact ⟨PySem.IntMulOk.of_left (PySem.intBits_le_64 (by omega) (by omega)), rfl⟩
    | exact ⟨by omega, rfl⟩
    | exact ⟨PySem.IntMulOk.of_bits (by decide +kernel) (by decide +kernel), rfl⟩)
  | `(tactic| walk_at "x") => `(tactic| first
    | walk_at "y"
    | with_reducible refine sp_if ?_)
  | `(tactic| walk_at "y") => `(tactic| first
    | walk_at "lg"
    | (refine ⟨fun _ => ?_, fun lgz => absurd lgz (by decide)⟩)
    | (refine ⟨fun lgz => absurd lgz (by decide), fun _ => ?_⟩)
    | ((with_reducible apply x3); (exact rfl); (exact rfl); (walk_at "r"))
    | ((with_reducible apply x1v); (exact rfl))
    | ((with_reducible apply x1b); (exact rfl))
    | ((with_reducible apply x1i); (exact rfl))
    | ((with_reducible apply x1z); (exact rfl))
    | ((with_reducible apply x1l); (exact rfl))
    | ((with_reducible apply x1r); (exact rfl))
    | ((with_reducible apply x1t); (exact rfl); (exact Nat.le_of_ble_eq_true rfl))
    | ((with_reducible apply x1s); (exact rfl))
    | ((with_reducible apply x1n); (exact rfl))
    | ((with_reducible apply x2c); (exact rfl); (walk_at "r"))
    | ((with_reducible apply x2u); (exact rfl); (walk_at "r"))
    | ((with_reducible apply x2w); (exact rfl); (exact rfl))
    | ((with_reducible apply xcN); (exact rfl); (exact rfl); (exact rfl); (exact rfl))
    | ((with_reducible apply x2p); (exact rfl); (exact rfl); (first | assumption | (rw [sizeLine_eq]; (try simp only [List.length_append, List.length_map, List.length_cons, List.length_nil]); omega)))
    | ((with_reducible apply x2a); (exact rfl); (exact rfl); (first | assumption | decide | omega | (rw [sizeLine_eq]; (try simp only [List.length_append, List.length_map, List.length_cons, List.length_nil]); omega)))
    | ((with_reducible apply x2s); (exact rfl))
    | ((with_reducible apply x2nv); (exact rfl))
    | ((with_reducible apply x2vn); (exact rfl))
    | ((with_reducible apply x2nn); (exact rfl))
    | ((with_reducible apply x3s); (exact rfl))
    | ((with_reducible apply x2g); (exact rfl); (exact rfl); (exact augI); (exact rfl)))
theorem ne_two {xs : List Int} {a b : Int} (hx : xs.length ≤ 2) : NeR (tI xs) (tI [a, b]) (.v (.bl (!decide (xs = [a, b])))) := by
  refine .inr ⟨.tuple (xs.map PyData.int), .tuple [.int a, .int b], ?_, rfl, ?_, rfl, ?_⟩
  · match xs, hx with
    | [], _ => rfl
    | [x], _ => rfl
    | [x, y], _ => rfl
  · match xs, hx with
    | [], _ => rfl
    | [x], _ => rfl
    | [x, y], _ => rfl
  · match xs, hx with
    | [], _ => rfl
    | [x], _ =>
      congr 3
      show decide ([x] = [a, b]) = PyData.eqv (.tuple [.int x]) (.tuple [.int a, .int b])
      rw [decide_eq_false (by simp)]
      simp [PyData.eqv, PyData.eqvAll]
    | [x, y], _ =>
      congr 3
      show decide ([x, y] = [a, b]) = PyData.eqv (.tuple [.int x, .int y]) (.tuple [.int a, .int b])
      simp [PyData.eqv, PyData.eqvAll, Bool.beq_eq_decide_eq]
section
variable {K : PySem.W.Frag} {ds : List D} {W : List Res} {Φ : D → List Res → Prop}
theorem walk_sum_pair (h : pre_sum_pair ds W Φ) : StP K (t_sum_pair K) (st0 N_sum_pair ds) W (endP Φ) := by
  obtain ⟨os, rfl, hl, h8, q⟩ := h
  unfold t_sum_pair
  unfold tI
  repeat walk_at "x"
  refine ⟨os, rfl, hl, h8, ?_⟩
  repeat walk_at "x"
  exact q
theorem octl {n : Nat} (h : n ≤ 30000) : (octs n).length ≤ 3 ∧ n < 128 ^ 10000 := ⟨octs_len 2 n (Nat.lt_of_le_of_lt h (by decide)), Nat.lt_of_le_of_lt h (by decide +kernel)⟩
theorem walk_frame (h : pre_frame ds W Φ) : StP K (t_frame K) (st0 N_frame ds) W (endP Φ) := by
  obtain ⟨os, rfl, hl, h8, q⟩ := h
  obtain ⟨o1, o2⟩ := octl (n := os.length) (by omega)
  unfold t_frame
  unfold tI
  repeat walk_at "x"
  refine ⟨os.length, by rw [List.length_map], o2, ?_⟩
  repeat walk_at "x"
  refine x3 rfl rfl ⟨by rw [List.length_map, List.length_map, sizeLine_eq]; omega, rfl⟩ ?_
  repeat walk_at "x"
  refine ⟨os, rfl, by omega, h8, ?_⟩
  refine x3 rfl rfl ⟨by rw [List.length_append, List.length_map, List.length_map, sizeLine_eq]; show _ + 2 ≤ _; omega, rfl⟩ (x1r rfl ?_)
  have e : (octs os.length).map D.int ++ os.map D.int ++ (sp os).map D.int = (fr os).map D.int := by
    unfold fr
    rw [List.map_append, List.map_append]
  rw [e]
  exact q
theorem walk_frame_at (h : pre_frame_at ds W Φ) : StP K (t_frame_at K) (st0 N_frame_at ds) W (endP Φ) := by
  obtain ⟨os, a, rfl, ok, q⟩ := h
  have h8 := ok.2.2.2
  have hl := ok.1
  unfold t_frame_at
  unfold tI
  repeat walk_at "y"
  refine ⟨os, a, rfl, ok, ?_⟩
  repeat walk_at "y"
  unfold frameAt at q
  cases z : K79.numAt os a with
  | none =>
    rw [z] at q
    unfold numD
    repeat walk_at "x"
    exact q
  | some p =>
    obtain ⟨n, e⟩ := p
    rw [z] at q
    obtain ⟨hn, he, hel⟩ := numAt_some h8 z
    obtain ⟨n, rfl⟩ := Int.eq_ofNat_of_zero_le hn
    obtain ⟨e, rfl⟩ := Int.eq_ofNat_of_zero_le he
    have q : Φ (faD (if (n : Int) + 2 > (os.length : Int) - e then none else if (os.drop (n + e)).take 2 = sp ((os.drop e).take n) then some ((os.drop e).take n, (n : Int) + e + 2) else none)) W := q
    have hol : (os.map D.int).length = os.length := List.length_map ..
    unfold numD
    repeat walk_at "x"
    rw [hol]
    refine ⟨fun h1 => ?_, fun h1 => ?_⟩
    · rw [if_pos (of_decide_eq_true h1)] at q
      repeat walk_at "x"
      exact q
    · have h1 := of_decide_eq_false h1
      rw [if_neg h1] at q
      have ec : cutL (os.map D.int) (some (e : Int)) (some ((n : Int) + (e : Int))) = ((os.drop e).take n).map D.int := by
        rw [show (n : Int) + (e : Int) = ((n + e : Nat) : Int) from by omega, cutL_mid, ← List.map_drop, ← List.map_take, Nat.add_sub_cancel]
      have ec2 : cutL (os.map D.int) (some ((n : Int) + (e : Int))) (some ((n : Int) + (e : Int) + 2)) = ((os.drop (n + e)).take 2).map D.int := by
        rw [show (n : Int) + (e : Int) = ((n + e : Nat) : Int) from by omega, show ((n + e : Nat) : Int) + 2 = ((n + e + 2 : Nat) : Int) from by omega, cutL_mid, ← List.map_drop, ← List.map_take, Nat.add_sub_cancel_left]
      have hpl : ((os.drop e).take n).length ≤ 30000 := by
        rw [List.length_take, List.length_drop]
        omega
      have hp8 : ∀ o ∈ (os.drop e).take n, I8 o := fun o ho => h8 o (List.mem_of_mem_drop (List.mem_of_mem_take ho))
      have ht2 : ((os.drop (n + e)).take 2).length ≤ 2 := by
        rw [List.length_take]
        omega
      repeat walk_at "y"
      rw [ec]
      generalize (os.drop e).take n = body at q hpl hp8
      repeat walk_at "y"
      refine sp_ifv (!decide ((os.drop (n + e)).take 2 = sp body)) ?_ ⟨fun hb => ?_, fun hb => ?_⟩
      · repeat walk_at "y"
        refine ⟨body, rfl, hpl, hp8, ?_⟩
        rw [ec2]
        refine x3 rfl rfl (ne_two ht2) ?_
        repeat walk_at "y"
        exact ⟨rfl, rfl, rfl⟩
      · have hb : ¬ (os.drop (n + e)).take 2 = sp body := by simpa using hb
        rw [if_neg hb] at q
        repeat walk_at "x"
        exact q
      · have hb : (os.drop (n + e)).take 2 = sp body := by simpa using hb
        rw [if_pos hb] at q
        repeat walk_at "x"
        exact q
end
end K80
namespace K80
open PySem PySem.Spec PyProof.Rows L2 Lg K79
local macro_rules
  | `(tactic| walk_at "lg") => `(tactic| first
    | with_reducible refine sp_seq ?_
    | with_reducible refine sp_own ?_
    | with_reducible refine sp_set ?_
    | with_reducible refine sp_parO1 ?_
    | with_reducible refine sp_parO2 ?_
    | with_reducible refine sp_parOO ?_
    | with_reducible refine sp_par3 ?_
    | with_reducible refine sp_par ?_
    | with_reducible refine sp_asg ?_
    | with_reducible refine sp_drop ?_
    | with_reducible refine sp_ret ?_
    | with_reducible refine sp_retN ?_
    | with_reducible refine sp_next ?_
    | with_reducible refine sp_break ?_
    | with_reducible refine sp_cont ?_
    | ((with_reducible refine sp_aug (d0 := ?lgd) ?lg0 ?_); (case lg0 => exact rfl))
    | ((with_reducible refine ep_vF (d := ?lgd) ?lg0 ?_); (case lg0 => exact rfl))
    | ((with_reducible refine ep_vFF (o := ?lgd) ?lg0 ?_); (case lg0 => exact rfl))
    | ((with_reducible refine ep_var (d := ?lgd) ?lg0 ?_); (case lg0 => exact rfl))
    | ((with_reducible refine ep_varS (o := ?lgd) ?lg0 ?_); (case lg0 => exact rfl))
    | with_reducible refine ep_int ?_
    | with_reducible refine ep_str ?_
    | with_reducible refine ep_non ?_
    | with_reducible refine ep_bl ?_
    | with_reducible refine ep_ty ?_
    | with_reducible refine ep_ref ?_
    | with_reducible refine ep_op ?_
    | with_reducible refine ep_un ?_
    | with_reducible refine ep_isiT ?_
    | with_reducible refine ep_isi ?_
    | with_reducible refine ep_cb ?_
    | with_reducible refine ep_tup ?_
    | with_reducible refine ep_lst ?_
    | with_reducible refine ep_call ?_
    | with_reducible refine ep_callN ?_
    | ((with_reducible refine ep_pair (xs0 := ?lgd) ?lg0 ?_); (case lg0 => exact rfl))
    | ((with_reducible refine ep_append (ds0 := ?lgd) ?lg0 ?_); (case lg0 => exact rfl))
    | with_reducible refine ep_sl ?_
    | with_reducible refine ep_revL ?_
    | with_reducible refine ep_zipL ?_
    | with_reducible refine ep_join ?_
    | with_reducible refine ep_index ?_
    | with_reducible refine ep_if ?_
    | with_reducible refine ep_andV ?_
    | with_reducible refine ep_orV ?_
    | with_reducible refine ep_notV ?_
    | with_reducible refine pt_no ?_
    | with_reducible refine pt_part ?_
    | with_reducible refine ea_nil ?_
    | with_reducible refine ea_cons ?_
    | with_reducible refine tp_test ?_
    | with_reducible refine tp_B ?_
    | with_reducible refine tp_and ?_
    | with_reducible refine tp_or ?_
    | with_reducible refine tp_not ?_
    | with_reducible refine tp_yes ?_
    | with_reducible refine tg_name ?_
    | with_reducible refine tg_tup rfl ?_
    | with_reducible refine tgs_cons ?_
    | with_reducible refine tgs_nil ?_
    | with_reducible refine it_u ?_
    | with_reducible refine it_en ?_
    | with_reducible refine it_r1 ?_
    | with_reducible refine it_r2 ?_
    | with_reducible refine it_r3 ?_)
  | `(tactic| walk_at "r") => `(tactic| first
    | exact rfl
    | exact ⟨_, rfl, rfl⟩
    | exact Or.inl ⟨_, rfl, rfl⟩
    | exact Or.inl rfl
    | exact Or.inr ⟨_, rfl, rfl⟩
    | exact ⟨rfl, rfl⟩
    | exact ⟨by decide, rfl⟩
    | exact ⟨⟨by decide, by decide⟩, rfl⟩
    | exact ⟨⟨by decide, by decide, by decide⟩, rfl⟩
    | exact ⟨PySem.IntMulOk.of_right (PySem.intBits_le_64 (by omega) (by omega)), rfl⟩
    | exact ⟨PySem.IntMulOk.of_left (PySem.intBits_le_64 (by omega) (by omega)), rfl⟩
    | exact ⟨by omega, rfl⟩
    | exact ⟨PySem.IntMulOk.of_bits (by decide +kernel) (by decide +kernel), rfl⟩)
  | `(tactic| walk_at "x") => `(tactic| first
    | walk_at "y"
    | with_reducible refine sp_if ?_)
  | `(tactic| walk_at "y") => `(tactic| first
    | walk_at "lg"
    | (refine ⟨fun _ => ?_, fun lgz => absurd lgz (by decide)⟩)
    | (refine ⟨fun lgz => absurd lgz (by decide), fun _ => ?_⟩)
    | ((with_reducible apply x3); (exact rfl); (exact rfl); (walk_at "r"))
    | ((with_reducible apply x1v); (exact rfl))
    | ((with_reducible apply x1b); (exact rfl))
    | ((with_reducible apply x1i); (exact rfl))
    | ((with_reducible apply x1z); (exact rfl))
    | ((with_reducible apply x1l); (exact rfl))
    | ((with_reducible apply x1r); (exact rfl))
    | ((with_reducible apply x1t); (exact rfl); (exact Nat.le_of_ble_eq_true rfl))
    | ((with_reducible apply x1s); (exact rfl))
    | ((with_reducible apply x1n); (exact rfl))
    | ((with_reducible apply x2c); (exact rfl); (walk_at "r"))
    | ((with_reducible apply x2u); (exact rfl); (walk_at "r"))
    | ((with_reducible apply x2w); (exact rfl); (exact rfl))
    | ((with_reducible apply xcN); (exact rfl); (exact rfl); (exact rfl); (exact rfl))
    | ((with_reducible apply x2p); (exact rfl); (exact rfl); (first | assumption | (rw [sizeLine_eq]; (try simp only [List.length_append, List.length_map, List.length_cons, List.length_nil]); omega)))
    | ((with_reducible apply x2a); (exact rfl); (exact rfl); (first | assumption | decide | omega | (rw [sizeLine_eq]; (try simp only [List.length_append, List.length_map, List.length_cons, List.length_nil]); omega)))
    | ((with_reducible apply x2s); (exact rfl))
    | ((with_reducible apply x2nv); (exact rfl))
    | ((with_reducible apply x2vn); (exact rfl))
    | ((with_reducible apply x2nn); (exact rfl))
    | ((with_reducible apply x3s); (exact rfl))
    | ((with_reducible apply x2g); (exact rfl); (exact rfl); (exact augI); (exact rfl)))
theorem addI {a b : List Int} (h : a.length + b.length ≤ 16777216) : AddR (lI a) (lI b) (.n (.l ((a ++ b).map D.int))) := by
  refine ⟨by rw [List.length_map, List.length_map, sizeLine_eq]; exact h, ?_⟩
  rw [List.map_append]
section
variable {K : PySem.W.Frag} {ds : List D} {W : List Res} {Φ : D → List Res → Prop}
theorem frsF_none {os : List Int} {p : Int} {k : Nat} (h : frameAt os p = none) : frsF os k p = ([], p) := frsF_stop h k
theorem frsF_step {os b : List Int} {p e : Int} {k : Nat} (h : frameAt os p = some (b, e)) : frsF os (k + 1) p = (b :: (frsF os k e).1, (frsF os k e).2) := by
  conv => lhs; unfold frsF
  rw [h]
theorem walk_frames (h : pre_frames ds W Φ) : StP K (t_frames K) (st0 N_frames ds) W (endP Φ) := by
  obtain ⟨os, rfl, hl, h8, q⟩ := h
  unfold t_frames
  unfold tI
  repeat walk_at "x"
  refine ⟨os, 0, rfl, ⟨hl, by decide, by decide, h8⟩, ?_⟩
  repeat walk_at "x"
  refine StP.nx_imp (Qn := fun δ' W' => W' = W ∧ ∃ c0 c3, δ' = [c0, .o (.l ((frs os).1.map tI)), .d (.int (frs os).2), c3]) ?_ ?_
  · refine sp_while (fun m δ' W' => W' = W ∧ ∃ (done : List (List Int)) (p : Int), 3 * (done.length : Int) ≤ p ∧ p ≤ os.length ∧ (os.length : Int) - p + 1 ≤ m ∧ done ++ (frsF os m p).1 = (frs os).1 ∧ (frsF os m p).2 = (frs os).2 ∧
      δ' = [.d (tI os), .o (.l (done.map tI)), .d (.int p), .d (faD (frameAt os p))]) (os.length + 1) ⟨rfl, [], 0, by decide, by omega, by omega, rfl, rfl, rfl⟩ ?_
    rintro m δ' W' ⟨rfl, done, p, hp0, hpl, hm, e1, e2, rfl⟩
    obtain ⟨k, rfl⟩ : ∃ k, m = k + 1 := ⟨m - 1, by omega⟩
    cases z : frameAt os p with
    | none =>
      rw [frsF_none z] at e1 e2
      unfold faD
      repeat walk_at "x"
      have e1 : done = (frs os).1 := by rw [← e1]; exact (List.append_nil _).symm
      have e2 : p = (frs os).2 := e2
      refine ⟨rfl, .d (tI os), .d .non, ?_⟩
      rw [← e1, ← e2]
    | some be =>
      obtain ⟨b, e⟩ := be
      obtain ⟨h1, h2, h3, h4⟩ := frameAt_some h8 z
      rw [frsF_step z] at e1 e2
      unfold faD
      repeat walk_at "x"
      refine ⟨os, e, rfl, ⟨hl, by omega, by omega, h8⟩, ?_⟩
      repeat walk_at "x"
      refine ⟨k, Nat.lt_succ_self k, rfl, done ++ [b], e, ?_, h3, by omega, ?_, e2, ?_⟩
      · rw [List.length_append]
        show 3 * ((done.length + 1 : Nat) : Int) ≤ e
        omega
      · rw [List.append_assoc]
        exact e1
      · rw [List.map_append]
        rfl
  · rintro δ' W' ⟨rfl, c0, c3, rfl⟩
    repeat walk_at "x"
    exact q
theorem walk__law_framed (h : pre__law_framed ds W Φ) : StP K (t__law_framed K) (st0 N__law_framed ds) W (endP Φ) := by
  obtain ⟨os, rfl, hl, h8, q⟩ := h
  obtain ⟨o1, o2⟩ := octl (n := os.length) (by omega)
  unfold t__law_framed
  unfold lI
  repeat walk_at "x"
  refine ⟨os, rfl, by omega, h8, ?_⟩
  repeat walk_at "x"
  refine ⟨os.length, by rw [List.length_map], o2, ?_⟩
  repeat walk_at "x"
  refine x3 rfl rfl (addI (a := octs os.length) (b := os) (by omega)) ?_
  repeat walk_at "x"
  refine x3 rfl rfl (addI (a := octs os.length ++ os) (b := sp os) (by rw [List.length_append]; show _ + 2 ≤ _; omega)) (x1r rfl ?_)
  exact q
end
end K80
namespace K80
open PySem PySem.Spec PyProof.Rows L2 Lg K79
local macro_rules
  | `(tactic| walk_at "lg") => `(tactic| first
    | with_reducible refine sp_seq ?_
    | with_reducible refine sp_own ?_
    | with_reducible refine sp_set ?_
    | with_reducible refine sp_parO1 ?_
    | with_reducible refine sp_parO2 ?_
    | with_reducible refine sp_parOO ?_
    | with_reducible refine sp_par3 ?_
    | with_reducible refine sp_par ?_
    | with_reducible refine sp_asg ?_
    | with_reducible refine sp_drop ?_
    | with_reducible refine sp_ret ?_
    | with_reducible refine sp_retN ?_
    | with_reducible refine sp_next ?_
    | with_reducible refine sp_break ?_
    | with_reducible refine sp_cont ?_
    | ((with_reducible refine sp_aug (d0 := ?lgd) ?lg0 ?_); (case lg0 => exact rfl))
    | ((with_reducible refine ep_vF (d := ?lgd) ?lg0 ?_); (case lg0 => exact rfl))
    | ((with_reducible refine ep_vFF (o := ?lgd) ?lg0 ?_); (case lg0 => exact rfl))
    | ((with_reducible refine ep_var (d := ?lgd) ?lg0 ?_); (case lg0 => exact rfl))
    | ((with_reducible refine ep_varS (o := ?lgd) ?lg0 ?_); (case lg0 => exact rfl))
    | with_reducible refine ep_int ?_
    | with_reducible refine ep_str ?_
    | with_reducible refine ep_non ?_
    | with_reducible refine ep_bl ?_
    | with_reducible refine ep_ty ?_
    | with_reducible refine ep_ref ?_
    | with_reducible refine ep_op ?_
    | with_reducible refine ep_un ?_
    | with_reducible refine ep_isiT ?_
    | with_reducible refine ep_isi ?_
    | with_reducible refine ep_cb ?_
    | with_reducible refine ep_tup ?_
    | with_reducible refine ep_lst ?_
    | with_reducible refine ep_call ?_
    | with_reducible refine ep_callN ?_
    | ((with_reducible refine ep_pair (xs0 := ?lgd) ?lg0 ?_); (case lg0 => exact rfl))
    | ((with_reducible refine ep_append (ds0 := ?lgd) ?lg0 ?_); (case lg0 => exact rfl))
    | with_reducible refine ep_sl ?_
    | with_reducible refine ep_revL ?_
    | with_reducible refine ep_zipL ?_
    | with_reducible refine ep_join ?_
    | with_reducible refine ep_index ?_
    | with_reducible refine ep_if ?_
    | with_reducible refine ep_andV ?_
    | with_reducible refine ep_orV ?_
    | with_reducible refine ep_notV ?_
    | with_reducible refine pt_no ?_
    | with_reducible refine pt_part ?_
    | with_reducible refine ea_nil ?_
    | with_reducible refine ea_cons ?_
    | with_reducible refine tp_test ?_
    | with_reducible refine tp_B ?_
    | with_reducible refine tp_and ?_
    | with_reducible refine tp_or ?_
    | with_reducible refine tp_not ?_
    | with_reducible refine tp_yes ?_
    | with_reducible refine tg_name ?_
    | with_reducible refine tg_tup rfl ?_
    | with_reducible refine tgs_cons ?_
    | with_reducible refine tgs_nil ?_
    | with_reducible refine it_u ?_
    | with_reducible refine it_en ?_
    | with_reducible refine it_r1 ?_
    | with_reducible refine it_r2 ?_
    | with_reducible refine it_r3 ?_)
  | `(tactic| walk_at "r") => `(tactic| first
    | exact rfl
    | exact ⟨_, rfl, rfl⟩
    | exact Or.inl ⟨_, rfl, rfl⟩
    | exact Or.inl rfl
    | exact Or.inr ⟨_, rfl, rfl⟩
    | exact ⟨rfl, rfl⟩
    | exact ⟨by decide, rfl⟩
    | exact ⟨⟨by decide, by decide⟩, rfl⟩
    | exact ⟨⟨by decide, by decide, by decide⟩, rfl⟩
    | exact ⟨PySem.IntMulOk.of_right (PySem.intBits_le_64 (by omega) (by omega)), rfl⟩
    | exact ⟨PySem.IntMulOk.of_left (PySem.intBits_le_64 (by omega) (by omega)), rfl⟩
    | exact ⟨by omega, rfl⟩
    | exact ⟨PySem.IntMulOk.of_bits (by decide +kernel) (by decide +kernel), rfl⟩)
  | `(tactic| walk_at "x") => `(tactic| first
    | walk_at "y"
    | with_reducible refine sp_if ?_)
  | `(tactic| walk_at "y") => `(tactic| first
    | walk_at "lg"
    | (refine ⟨fun _ => ?_, fun lgz => absurd lgz (by decide)⟩)
    | (refine ⟨fun lgz => absurd lgz (by decide), fun _ => ?_⟩)
    | ((with_reducible apply x3); (exact rfl); (exact rfl); (walk_at "r"))
    | ((with_reducible apply x1v); (exact rfl))
    | ((with_reducible apply x1b); (exact rfl))
    | ((with_reducible apply x1i); (exact rfl))
    | ((with_reducible apply x1z); (exact rfl))
    | ((with_reducible apply x1l); (exact rfl))
    | ((with_reducible apply x1r); (exact rfl))
    | ((with_reducible apply x1t); (exact rfl); (exact Nat.le_of_ble_eq_true rfl))
    | ((with_reducible apply x1s); (exact rfl))
    | ((with_reducible apply x1n); (exact rfl))
    | ((with_reducible apply x2c); (exact rfl); (walk_at "r"))
    | ((with_reducible apply x2u); (exact rfl); (walk_at "r"))
    | ((with_reducible apply x2w); (exact rfl); (exact rfl))
    | ((with_reducible apply xcN); (exact rfl); (exact rfl); (exact rfl); (exact rfl))
    | ((with_reducible apply x2p); (exact rfl); (exact rfl); (first | assumption | (rw [sizeLine_eq]; (try simp only [List.length_append, List.length_map, List.length_cons, List.length_nil]); omega)))
    | ((with_reducible apply x2a); (exact rfl); (exact rfl); (first | assumption | decide | omega | (rw [sizeLine_eq]; (try simp only [List.length_append, List.length_map, List.length_cons, List.length_nil]); omega)))
    | ((with_reducible apply x2s); (exact rfl))
    | ((with_reducible apply x2nv); (exact rfl))
    | ((with_reducible apply x2vn); (exact rfl))
    | ((with_reducible apply x2nn); (exact rfl))
    | ((with_reducible apply x3s); (exact rfl))
    | ((with_reducible apply x2g); (exact rfl); (exact rfl); (exact augI); (exact rfl)))
section
variable {K : PySem.W.Frag} {ds : List D} {W : List Res} {Φ : D → List Res → Prop}
theorem walk__law_joined (h : pre__law_joined ds W Φ) : StP K (t__law_joined K) (st0 N__law_joined ds) W (endP Φ) := by
  obtain ⟨rows, rfl, hl, q⟩ := h
  unfold t__law_joined
  repeat walk_at "x"
  refine sp_for ?_
  repeat walk_at "x"
  refine ⟨fun i δ' W' => W' = W ∧ ∃ c, δ' = [.d (.lst (rows.map lI)), .d (lI (rows.take i).flatten), c], ⟨rfl, _, rfl⟩, ?_, ?_⟩
  · rintro i e δ' W' he ⟨rfl, c, rfl⟩
    rw [List.getElem?_map] at he
    cases z : rows[i]? with
    | none => rw [z] at he; cases he
    | some row =>
      rw [z] at he
      cases he
      have et : rows.take (i + 1) = rows.take i ++ [row] := by rw [List.take_add_one, z]; rfl
      have ef : (rows.take (i + 1)).flatten = (rows.take i).flatten ++ row := by rw [et, List.flatten_append]; simp
      have hle : (rows.take (i + 1)).flatten.length ≤ rows.flatten.length := by
        have : rows.flatten = (rows.take (i + 1)).flatten ++ (rows.drop (i + 1)).flatten := by rw [← List.flatten_append, List.take_append_drop]
        rw [this, List.length_append]
        omega
      rw [ef, List.length_append] at hle
      repeat walk_at "x"
      refine x3 rfl rfl (addI (a := (rows.take i).flatten) (b := row) (by omega)) ?_
      repeat walk_at "x"
      refine ⟨rfl, .d (lI row), ?_⟩
      rw [ef]
      rfl
  · rintro δ' W' ⟨rfl, c, rfl⟩
    rw [List.length_map, List.take_length]
    repeat walk_at "x"
    exact q
theorem walk__law_frames_in (h : pre__law_frames_in ds W Φ) : StP K (t__law_frames_in K) (st0 N__law_frames_in ds) W (endP Φ) := by
  obtain ⟨os, rfl, hl, h8, q⟩ := h
  have hol : (os.map D.int).length = os.length := List.length_map ..
  unfold t__law_frames_in
  unfold lI
  repeat walk_at "x"
  refine sp_for ?_
  repeat walk_at "x"
  rw [hol]
  refine ⟨_, rfl, ⟨by omega, by omega⟩, ?_⟩
  refine ⟨fun i δ' W' => W' = W ∧ i ≤ os.length + 1 ∧ ∃ (done : List (List Int)) (p : Int) (c3 c4 c5 c6 c7 : SD), 3 * (done.length : Int) ≤ p ∧ p ≤ os.length ∧ done ++ (frsF os (os.length + 1 - i) p).1 = (frs os).1 ∧ (frsF os (os.length + 1 - i) p).2 = (frs os).2 ∧
      δ' = [.d (lI os), .d (.lst (done.map lI)), .d (.int p), c3, c4, c5, c6, c7], ⟨rfl, by omega, [], 0, _, _, _, _, _, by decide, by omega, rfl, rfl, rfl⟩, ?_, ?_⟩
  · rintro i e δ' W' he ⟨rfl, hi0, done, p, c3, c4, c5, c6, c7, hp0, hpl, e1, e2, rfl⟩
    obtain ⟨hi, rfl⟩ := rngD_at he
    have hi : i < os.length + 1 := by omega
    obtain ⟨k, hk⟩ : ∃ k, os.length + 1 - i = k + 1 := ⟨os.length - i, by omega⟩
    rw [hk] at e1 e2
    have stop : frameAt os p = none → Φ (.tup [.lst (done.map lI), .int p]) W' := fun z => by
      rw [frsF_none z] at e1 e2
      have e1 : done = (frs os).1 := by rw [← e1]; exact (List.append_nil _).symm
      have e2 : p = (frs os).2 := e2
      rw [e1, e2]
      exact q
    unfold frameAt at stop
    unfold lI
    repeat walk_at "y"
    refine ⟨os, p, rfl, ⟨by omega, by omega, by omega, h8⟩, ?_⟩
    repeat walk_at "y"
    cases z : K79.numAt os p with
    | none =>
      rw [z] at stop
      unfold numD
      repeat walk_at "x"
      exact stop rfl
    | some ne =>
      obtain ⟨n, e⟩ := ne
      rw [z] at stop
      obtain ⟨hn, he0, hel⟩ := numAt_some h8 z
      obtain ⟨hp1, hp2⟩ := numAt_at z
      obtain ⟨n, rfl⟩ := Int.eq_ofNat_of_zero_le hn
      obtain ⟨e, rfl⟩ := Int.eq_ofNat_of_zero_le he0
      have stop : (if (n : Int) + 2 > (os.length : Int) - e then none else if (os.drop (n + e)).take 2 = sp ((os.drop e).take n) then some ((os.drop e).take n, (n : Int) + e + 2) else none) = none → Φ (.tup [.lst (done.map lI), .int p]) W' := stop
      unfold numD
      repeat walk_at "x"
      rw [hol]
      refine ⟨fun h1 => ?_, fun h1 => ?_⟩
      · have h1 := of_decide_eq_true h1
        repeat walk_at "x"
        exact stop (if_pos h1)
      · have h1 := of_decide_eq_false h1
        rw [if_neg h1] at stop
        have ec : cutL (os.map D.int) (some (e : Int)) (some ((e : Int) + (n : Int))) = ((os.drop e).take n).map D.int := by
          rw [show (e : Int) + (n : Int) = ((e + n : Nat) : Int) from by omega, cutL_mid, ← List.map_drop, ← List.map_take, Nat.add_sub_cancel_left]
        have hfa : (os.drop (n + e)).take 2 = sp ((os.drop e).take n) → frameAt os p = some ((os.drop e).take n, (n : Int) + e + 2) := fun w => by
          unfold frameAt
          rw [z]
          show (if (n : Int) + 2 > (os.length : Int) - e then none else if (os.drop (n + e)).take 2 = sp ((os.drop e).take n) then some ((os.drop e).take n, (n : Int) + e + 2) else none) = _
          rw [if_neg h1, if_pos w]
        have hpl2 : ((os.drop e).take n).length ≤ 30000 := by
          rw [List.length_take, List.length_drop]
          omega
        have hp8 : ∀ o ∈ (os.drop e).take n, I8 o := fun o ho => h8 o (List.mem_of_mem_drop (List.mem_of_mem_take ho))
        have hx : os[e + n]? = some os[e + n] := List.getElem?_eq_getElem (by omega)
        have hy : os[e + n + 1]? = some os[e + n + 1] := List.getElem?_eq_getElem (by omega)
        have ht : (os.drop (n + e)).take 2 = [os[e + n], os[e + n + 1]] := by
          rw [show n + e = e + n from Nat.add_comm ..]
          rw [List.drop_eq_getElem_cons (show e + n < os.length by omega), List.take_succ_cons, List.drop_eq_getElem_cons (show e + n + 1 < os.length by omega), List.take_succ_cons, List.take_zero]
        rw [ht] at stop hfa
        generalize os[e + n] = x at hx stop hfa
        generalize os[e + n + 1] = y at hy stop hfa
        repeat walk_at "y"
        rw [ec]
        generalize (os.drop e).take n = body at stop hfa hpl2 hp8
        repeat walk_at "y"
        refine ⟨body, rfl, hpl2, hp8, ?_⟩
        repeat walk_at "y"
        refine sp_ifv (!decide ([x, y] = sp body)) ?_ ⟨fun hb => ?_, fun hb => ?_⟩
        · have hx' : L2.atI (os.map D.int) ((e : Int) + (n : Int)) = some (.int x) := by
            rw [show (e : Int) + (n : Int) = ((e + n : Nat) : Int) from by omega]
            exact tI_at os _ hx
          have hy' : L2.atI (os.map D.int) ((e : Int) + (n : Int) + 1) = some (.int y) := by
            rw [show (e : Int) + (n : Int) + 1 = ((e + n + 1 : Nat) : Int) from by omega]
            exact tI_at os _ hy
          repeat walk_at "y"
          refine x3 rfl rfl ⟨_, hx', rfl⟩ ?_
          repeat walk_at "y"
          refine ⟨fun h9 => ?_, fun h9 => ?_⟩
          · have h9 : ¬ x = sumAt body % 256 := by simpa using h9
            refine ⟨?_, rfl, rfl⟩
            rw [decide_eq_false (show ¬ [x, y] = sp body from fun z => h9 (by unfold sp at z; simp at z; exact z.1))]
            rfl
          · have h9 : x = sumAt body % 256 := by simpa using h9
            repeat walk_at "y"
            refine x3 rfl rfl ⟨_, hy', rfl⟩ ?_
            repeat walk_at "y"
            refine ⟨?_, rfl, rfl⟩
            by_cases h10 : y = sumAt body / 256
            · rw [decide_eq_true h10, decide_eq_true (show [x, y] = sp body from by unfold sp; rw [h9, h10])]
            · rw [decide_eq_false h10, decide_eq_false (show ¬ [x, y] = sp body from fun z => h10 (by unfold sp at z; simp at z; exact z.2))]
        · have hb : ¬ [x, y] = sp body := by simpa using hb
          repeat walk_at "x"
          exact stop (if_neg hb)
        · have hb : [x, y] = sp body := by simpa using hb
          rw [frsF_step (hfa hb)] at e1 e2
          repeat walk_at "x"
          refine x3 rfl rfl ⟨by rw [List.length_map, sizeLine_eq]; show _ + 1 ≤ _; omega, rfl⟩ ?_
          repeat walk_at "x"
          have hk2 : os.length + 1 - (i + 1) = k := by omega
          have ep : (n : Int) + e + 2 = (e : Int) + n + 2 := by omega
          refine ⟨rfl, by omega, done ++ [body], (n : Int) + e + 2, _, _, _, _, _, ?_, by omega, ?_, ?_, by rw [List.map_append, ep]; rfl⟩
          · rw [List.length_append]
            show 3 * ((done.length + 1 : Nat) : Int) ≤ (n : Int) + e + 2
            omega
          · rw [hk2, List.append_assoc]
            exact e1
          · rw [hk2]
            exact e2
  · rintro δ' W' ⟨rfl, hi0, done, p, c3, c4, c5, c6, c7, hp0, hpl, e1, e2, rfl⟩
    have e0 : os.length + 1 - (rngD 0 ((os.length : Int) + 1).toNat).length = 0 := by rw [rngD_len]; omega
    rw [e0] at e1 e2
    have e1 : done = (frs os).1 := by rw [← e1]; exact (List.append_nil _).symm
    have e2 : p = (frs os).2 := e2
    rw [← e1, ← e2] at q
    repeat walk_at "x"
    exact q
theorem frsF_len {os : List Int} (h8 : ∀ o ∈ os, I8 o) : ∀ (n : Nat) (p : Int), p ≤ os.length → p + 3 * ((frsF os n p).1.length : Int) ≤ os.length
  | 0, p, h => by
    show p + 3 * ((0 : Nat) : Int) ≤ _
    omega
  | n + 1, p, h => by
    cases z : frameAt os p with
    | none =>
      rw [frsF_none z]
      show p + 3 * ((0 : Nat) : Int) ≤ _
      omega
    | some be =>
      obtain ⟨b, e⟩ := be
      rw [frsF_step z]
      have := frameAt_some h8 z
      have ih := frsF_len h8 n e (by omega)
      show p + 3 * (((frsF os n e).1.length + 1 : Nat) : Int) ≤ _
      omega
theorem frs_len {os : List Int} (h8 : ∀ o ∈ os, I8 o) : 3 * ((frs os).1.length : Int) ≤ os.length := by
  have := frsF_len h8 (os.length + 1) 0 (by omega)
  unfold frs
  omega
theorem walk__law_due (h : pre__law_due ds W Φ) : StP K (t__law_due K) (st0 N__law_due ds) W (endP Φ) := by
  obtain ⟨os, rfl, hl, h8, q⟩ := h
  have hfl : (frs os).1.length ≤ 30000 := by
    have := frs_len h8
    omega
  unfold t__law_due
  unfold lI
  repeat walk_at "x"
  refine ⟨os, rfl, hl, h8, ?_⟩
  repeat walk_at "x"
  refine ep_map (fun d => match d with | .lst l => .tup l | d => d) (tgin_name (by simp)) ?_
  repeat walk_at "x"
  refine ⟨⟨rfl, trivial⟩, by rw [List.length_map, sizeLine_eq]; omega, fun i d e => ?_, ?_⟩
  · obtain ⟨b, _, rfl⟩ := List.mem_map.mp (List.mem_of_getElem? e)
    unfold lI
    walk_at "x"
    refine ⟨rfl, ?_⟩
    repeat walk_at "x"
    exact ⟨rfl, rfl, rfl⟩
  · have e : List.map (fun d => match d with | .lst l => D.tup l | d => d) ((frs os).1.map lI) = (frs os).1.map tI := by
      rw [List.map_map]
      rfl
    rw [e]
    repeat walk_at "x"
    exact q
theorem walk__law_some_body (h : pre__law_some_body ds W Φ) : StP K (t__law_some_body K) (st0 N__law_some_body ds) W (endP Φ) := by
  obtain ⟨d, p, rfl, rfl, q⟩ := h
  unfold t__law_some_body
  repeat walk_at "x"
  refine ⟨d, p, _, _, rfl, rfl, rfl, by simp, by show (10 : Nat) ≤ _; decide, fun x hx => ?_⟩
  have hx : x ∈ [D.int 0, .int 1, .int 2, .int 5, .int 20, .int 126, .int 127, .int 128, .int 129, .int 300] := hx
  obtain ⟨n, rfl, hn⟩ : ∃ n : Nat, x = .int n ∧ n ≤ 300 := by
    simp only [List.mem_cons, List.not_mem_nil, or_false] at hx
    rcases hx with rfl | rfl | rfl | rfl | rfl | rfl | rfl | rfl | rfl | rfl
    · exact ⟨0, rfl, by decide⟩
    · exact ⟨1, rfl, by decide⟩
    · exact ⟨2, rfl, by decide⟩
    · exact ⟨5, rfl, by decide⟩
    · exact ⟨20, rfl, by decide⟩
    · exact ⟨126, rfl, by decide⟩
    · exact ⟨127, rfl, by decide⟩
    · exact ⟨128, rfl, by decide⟩
    · exact ⟨129, rfl, by decide⟩
    · exact ⟨300, rfl, by decide⟩
  repeat walk_at "x"
  refine ⟨fun h1 => ?_, fun h1 => ?_⟩
  · repeat walk_at "x"
    refine ⟨d, p, rfl, rfl, fun o ho => ?_⟩
    repeat walk_at "x"
    refine ⟨d, p, _, _, rfl, rfl, rfl, by simp, by show (4 : Nat) ≤ _; decide, fun x hx => ?_⟩
    have hx : x ∈ [D.int 0, .int 1, .int 7, .int 128] := hx
    obtain ⟨t, rfl⟩ : ∃ t : Int, x = .int t := by
      simp only [List.mem_cons, List.not_mem_nil, or_false] at hx
      rcases hx with rfl | rfl | rfl | rfl <;> exact ⟨_, rfl⟩
    repeat walk_at "x"
    refine ep_each (fun y => ∃ o, y = .int o ∧ I8 o) (tgin_name (by simp)) ?_
    repeat walk_at "x"
    refine ⟨n, rfl, ⟨by omega, by omega⟩, ⟨rfl, trivial⟩, by rw [rngD_len, sizeLine_eq]; omega, fun i e he => ?_, fun acc hl hq => ?_⟩
    · obtain ⟨hi, rfl⟩ := rngD_at he
      walk_at "x"
      refine ⟨rfl, ?_⟩
      repeat walk_at "x"
      exact ⟨rfl, rfl, _, rfl, _, rfl, Int.emod_nonneg _ (by decide), Int.emod_lt_of_pos _ (by decide)⟩
    · obtain ⟨os, rfl, hos⟩ := ints_of acc hq
      rw [List.length_map, rngD_len] at hl
      refine x1r rfl (q os (by omega) hos)
  · repeat walk_at "x"
    refine ep_each (fun y => ∃ o, y = .int o ∧ I8 o) (tgin_name (by simp)) ?_
    repeat walk_at "x"
    refine ⟨n, rfl, ⟨by omega, by omega⟩, ⟨rfl, trivial⟩, by rw [rngD_len, sizeLine_eq]; omega, fun i e he => ?_, fun acc hl hq => ?_⟩
    · walk_at "x"
      refine ⟨rfl, ?_⟩
      repeat walk_at "x"
      refine ⟨d, p, rfl, rfl, fun o ho => ⟨rfl, rfl, .int o, rfl, o, rfl, ho⟩⟩
    · obtain ⟨os, rfl, hos⟩ := ints_of acc hq
      rw [List.length_map, rngD_len] at hl
      refine x1r rfl (q os (by omega) hos)
theorem slI {w : List Int} {k : Nat} : SlF (lI w) none (some (k : Int)) (.n (.l ((w.take k).map D.int))) := .inl (by
  show RD.n _ = RD.n _
  rw [cutL_to, List.map_take])
theorem i1 {v : Int} (hv : I8 v) : ∀ y ∈ [v], I8 y := fun y hy => by rw [List.mem_singleton.mp hy]; exact hv
theorem walk__law_bent (h : pre__law_bent ds W Φ) : StP K (t__law_bent K) (st0 N__law_bent ds) W (endP Φ) := by
  obtain ⟨d, p, os, rfl, rfl, hl, h8, q⟩ := h
  have hol : (os.map D.int).length = os.length := List.length_map ..
  unfold t__law_bent
  unfold lI
  repeat walk_at "x"
  rw [hol]
  refine ⟨fun h0 => ?_, fun h0 => ?_⟩
  · repeat walk_at "x"
    exact q os (by omega) h8
  · have h0 : ¬ (os.length : Int) = 0 := by simpa using h0
    repeat walk_at "x"
    refine ⟨d, p, _, rfl, rfl, by rw [List.length_map]; omega, by rw [List.length_map]; omega, fun k hk0 hk1 => ?_⟩
    rw [List.length_map] at hk1
    obtain ⟨k, rfl⟩ := Int.eq_ofNat_of_zero_le hk0
    repeat walk_at "x"
    refine ⟨d, p, 4, rfl, rfl, by decide, by decide, fun s hs0 hs1 => ?_⟩
    have ht8 : ∀ y ∈ os.take k, I8 y := fun y hy => h8 y (List.mem_of_mem_take hy)
    have hd8 : ∀ m : Nat, ∀ y ∈ os.drop m, I8 y := fun m y hy => h8 y (List.mem_of_mem_drop hy)
    repeat walk_at "x"
    refine ⟨fun h2 => ?_, fun h2 => ?_⟩
    · repeat walk_at "x"
      refine x3 (d1 := lI (os.take k)) (d2 := lI (os.drop (k + 1))) (by show some (D.lst _) = some (D.lst _); rw [cutL_to, List.map_take]) (by show some (D.lst _) = some (D.lst _); rw [show ((k : Int) + 1) = ((k + 1 : Nat) : Int) from by omega, cutL_from, List.map_drop]) (addI (by rw [List.length_take, List.length_drop]; omega)) (x1r rfl ?_)
      exact q (os.take k ++ os.drop (k + 1)) (by rw [List.length_append, List.length_take, List.length_drop]; omega) (i8_app' ht8 (hd8 _))
    · repeat walk_at "x"
      refine ⟨fun h3 => ?_, fun h3 => ?_⟩
      · repeat walk_at "x"
        refine ⟨d, p, rfl, rfl, fun o ho => ?_⟩
        repeat walk_at "x"
        refine x3 (d1 := lI (os.take k)) (d2 := lI [o]) (by show some (D.lst _) = some (D.lst _); rw [cutL_to, List.map_take]) rfl (addI (by rw [List.length_take]; show _ + 1 ≤ _; omega)) ?_
        repeat walk_at "x"
        refine x3 (d2 := lI (os.drop k)) rfl (by show some (D.lst _) = some (D.lst _); rw [cutL_from, List.map_drop]) (addI (a := os.take k ++ [o]) (by rw [List.length_append, List.length_take, List.length_drop]; show _ + 1 + _ ≤ _; omega)) (x1r rfl ?_)
        exact q (os.take k ++ [o] ++ os.drop k) (by rw [List.length_append, List.length_append, List.length_take, List.length_drop]; show _ + 1 + _ ≤ _; omega) (i8_app' (i8_app' ht8 (i1 ho)) (hd8 _))
      · have hx : os[k]? = some os[k] := List.getElem?_eq_getElem (by omega)
        generalize os[k] = x at hx
        have hx' : L2.atI (os.map D.int) (k : Int) = some (.int x) := tI_at os _ hx
        repeat walk_at "x"
        refine x3 rfl rfl ⟨_, hx', rfl⟩ ?_
        repeat walk_at "x"
        refine ⟨d, p, 255, rfl, rfl, by decide, by decide, fun r hr0 hr1 => ?_⟩
        repeat walk_at "x"
        refine ⟨d, p, _, _, rfl, rfl, rfl, by simp, by show (4 : Nat) ≤ _; decide, fun z hz => ?_⟩
        have hz : z ∈ [D.int 1, .int 128, .int 255, .int (1 + r)] := hz
        obtain ⟨t, rfl⟩ : ∃ t : Int, z = .int t := by
          simp only [List.mem_cons, List.not_mem_nil, or_false] at hz
          rcases hz with rfl | rfl | rfl | rfl <;> exact ⟨_, rfl⟩
        repeat walk_at "x"
        have ho : I8 ((x + t) % 256) := ⟨Int.emod_nonneg _ (by decide), Int.emod_lt_of_pos _ (by decide)⟩
        refine x3 (d1 := lI (os.take k)) (d2 := lI [(x + t) % 256]) (by show some (D.lst _) = some (D.lst _); rw [cutL_to, List.map_take]) rfl (addI (by rw [List.length_take]; show _ + 1 ≤ _; omega)) ?_
        repeat walk_at "x"
        refine x3 (d2 := lI (os.drop (k + 1))) rfl (by show some (D.lst _) = some (D.lst _); rw [show ((k : Int) + 1) = ((k + 1 : Nat) : Int) from by omega, cutL_from, List.map_drop]) (addI (a := os.take k ++ [(x + t) % 256]) (by rw [List.length_append, List.length_take, List.length_drop]; show _ + 1 + _ ≤ _; omega)) (x1r rfl ?_)
        exact q (os.take k ++ [(x + t) % 256] ++ os.drop (k + 1)) (by rw [List.length_append, List.length_append, List.length_take, List.length_drop]; show _ + 1 + _ ≤ _; omega) (i8_app' (i8_app' ht8 (i1 ho)) (hd8 _))
end
end K80
namespace K80
open PySem PySem.Spec PyProof.Rows L2 Lg K79
local macro_rules
  | `(tactic| walk_at "lg") => `(tactic| first
    | with_reducible refine sp_seq ?_
    | with_reducible refine sp_own ?_
    | with_reducible refine sp_set ?_
    | with_reducible refine sp_parO1 ?_
    | with_reducible refine sp_parO2 ?_
    | with_reducible refine sp_parOO ?_
    | with_reducible refine sp_par3 ?_
    | with_reducible refine sp_par ?_
    | with_reducible refine sp_asg ?_
    | with_reducible refine sp_drop ?_
    | with_reducible refine sp_ret ?_
    | with_reducible refine sp_retN ?_
    | with_reducible refine sp_next ?_
    | with_reducible refine sp_break ?_
    | with_reducible refine sp_cont ?_
    | ((with_reducible refine sp_aug (d0 := ?lgd) ?lg0 ?_); (case lg0 => exact rfl))
    | ((with_reducible refine ep_vF (d := ?lgd) ?lg0 ?_); (case lg0 => exact rfl))
    | ((with_reducible refine ep_vFF (o := ?lgd) ?lg0 ?_); (case lg0 => exact rfl))
    | ((with_reducible refine ep_var (d := ?lgd) ?lg0 ?_); (case lg0 => exact rfl))
    | ((with_reducible refine ep_varS (o := ?lgd) ?lg0 ?_); (case lg0 => exact rfl))
    | with_reducible refine ep_int ?_
    | with_reducible refine ep_str ?_
    | with_reducible refine ep_non ?_
    | with_reducible refine ep_bl ?_
    | with_reducible refine ep_ty ?_
    | with_reducible refine ep_ref ?_
    | with_reducible refine ep_op ?_
    | with_reducible refine ep_un ?_
    | with_reducible refine ep_isiT ?_
    | with_reducible refine ep_isi ?_
    | with_reducible refine ep_cb ?_
    | with_reducible refine ep_tup ?_
    | with_reducible refine ep_lst ?_
    | with_reducible refine ep_call ?_
    | with_reducible refine ep_callN ?_
    | ((with_reducible refine ep_pair (xs0 := ?lgd) ?lg0 ?_); (case lg0 => exact rfl))
    | ((with_reducible refine ep_append (ds0 := ?lgd) ?lg0 ?_); (case lg0 => exact rfl))
    | with_reducible refine ep_sl ?_
    | with_reducible refine ep_revL ?_
    | with_reducible refine ep_zipL ?_
    | with_reducible refine ep_join ?_
    | with_reducible refine ep_index ?_
    | with_reducible refine ep_if ?_
    | with_reducible refine ep_andV ?_
    | with_reducible refine ep_orV ?_
    | with_reducible refine ep_notV ?_
    | with_reducible refine pt_no ?_
    | with_reducible refine pt_part ?_
    | with_reducible refine ea_nil ?_
    | with_reducible refine ea_cons ?_
    | with_reducible refine tp_test ?_
    | with_reducible refine tp_B ?_
    | with_reducible refine tp_and ?_
    | with_reducible refine tp_or ?_
    | with_reducible refine tp_not ?_
    | with_reducible refine tp_yes ?_
    | with_reducible refine tg_name ?_
    | with_reducible refine tg_tup rfl ?_
    | with_reducible refine tgs_cons ?_
    | with_reducible refine tgs_nil ?_
    | with_reducible refine it_u ?_
    | with_reducible refine it_en ?_
    | with_reducible refine it_r1 ?_
    | with_reducible refine it_r2 ?_
    | with_reducible refine it_r3 ?_)
  | `(tactic| walk_at "r") => `(tactic| first
    | exact rfl
    | exact ⟨_, rfl, rfl⟩
    | exact Or.inl ⟨_, rfl, rfl⟩
    | exact Or.inl rfl
    | exact Or.inr ⟨_, rfl, rfl⟩
    | exact ⟨rfl, rfl⟩
    | exact ⟨by decide, rfl⟩
    | exact ⟨⟨by decide, by decide⟩, rfl⟩
    | exact ⟨⟨by decide, by decide, by decide⟩, rfl⟩
    | exact ⟨PySem.IntMulOk.of_right (PySem.intBits_le_64 (by omega) (by omega)), rfl⟩
    | exact ⟨PySem.IntMulOk.of_left (PySem.intBits_le_64 (by omega) (by omega)), rfl⟩
    | exact ⟨by omega, rfl⟩
    | exact ⟨PySem.IntMulOk.of_bits (by decide +kernel) (by decide +kernel), rfl⟩)
  | `(tactic| walk_at "x") => `(tactic| first
    | walk_at "y"
    | with_reducible refine sp_if ?_)
  | `(tactic| walk_at "y") => `(tactic| first
    | walk_at "lg"
    | (refine ⟨fun _ => ?_, fun lgz => absurd lgz (by decide)⟩)
    | (refine ⟨fun lgz => absurd lgz (by decide), fun _ => ?_⟩)
    | ((with_reducible apply x3); (exact rfl); (exact rfl); (walk_at "r"))
    | ((with_reducible apply x1v); (exact rfl))
    | ((with_reducible apply x1b); (exact rfl))
    | ((with_reducible apply x1i); (exact rfl))
    | ((with_reducible apply x1z); (exact rfl))
    | ((with_reducible apply x1l); (exact rfl))
    | ((with_reducible apply x1r); (exact rfl))
    | ((with_reducible apply x1t); (exact rfl); (exact Nat.le_of_ble_eq_true rfl))
    | ((with_reducible apply x1s); (exact rfl))
    | ((with_reducible apply x1n); (exact rfl))
    | ((with_reducible apply x2c); (exact rfl); (walk_at "r"))
    | ((with_reducible apply x2u); (exact rfl); (walk_at "r"))
    | ((with_reducible apply x2w); (exact rfl); (exact rfl))
    | ((with_reducible apply xcN); (exact rfl); (exact rfl); (exact rfl); (exact rfl))
    | ((with_reducible apply x2p); (exact rfl); (exact rfl); (first | assumption | (rw [sizeLine_eq]; (try simp only [List.length_append, List.length_map, List.length_cons, List.length_nil]); omega)))
    | ((with_reducible apply x2a); (exact rfl); (exact rfl); (first | assumption | decide | omega | (rw [sizeLine_eq]; (try simp only [List.length_append, List.length_map, List.length_cons, List.length_nil]); omega)))
    | ((with_reducible apply x2s); (exact rfl))
    | ((with_reducible apply x2nv); (exact rfl))
    | ((with_reducible apply x2vn); (exact rfl))
    | ((with_reducible apply x2nn); (exact rfl))
    | ((with_reducible apply x3s); (exact rfl))
    | ((with_reducible apply x2g); (exact rfl); (exact rfl); (exact augI); (exact rfl)))
/-! # K80f: frames cut, the sum of one octet many times -/
theorem rd_cut (n : Nat) : ∀ k, k < (octs n).length → rd ((octs n).take k) = none := by
  induction n using Nat.strongRecOn with
  | _ n ih =>
    intro k hk
    cases k with
    | zero => rfl
    | succ k =>
      by_cases hn : n < 128
      · rw [octs_small hn] at hk
        simp at hk
      · rw [octs_great hn, List.length_cons] at hk
        rw [octs_great hn, List.take_succ_cons]
        show (if (128 + ((n % 128 : Nat) : Int)) < 128 then _ else _) = _
        rw [if_neg (by omega), ih (n / 128) (by omega) k (by omega)]
theorem frameAt_end (a : List Int) : frameAt a a.length = none := by
  unfold frameAt K79.numAt
  rw [if_neg (by omega), Int.toNat_natCast, List.drop_length]
  rfl
theorem frameAt_cut (a b : List Int) (c : Nat) (hc : c < (fr b).length) : frameAt (a ++ (fr b).take c) a.length = none := by
  unfold frameAt
  by_cases h : c < (octs b.length).length
  · have e : (fr b).take c = (octs b.length).take c := by
      unfold fr
      rw [List.append_assoc, List.take_append_of_le_length (by omega)]
    rw [e]
    unfold K79.numAt
    rw [if_neg (by omega), Int.toNat_natCast, List.drop_left, rd_cut _ _ h]
  · have e : (fr b).take c = octs b.length ++ (b ++ sp b).take (c - (octs b.length).length) := by
      unfold fr
      rw [List.append_assoc, List.take_append, List.take_of_length_le (by omega)]
    rw [fr_len] at hc
    rw [e, ← List.append_assoc, numAt_octs]
    have hs : (sp b).length = 2 := rfl
    have hl : (a ++ octs b.length ++ (b ++ sp b).take (c - (octs b.length).length)).length = a.length + (octs b.length).length + (c - (octs b.length).length) := by
      rw [List.length_append, List.length_append, List.length_take, List.length_append, hs]
      omega
    show (if ((b.length : Nat) : Int) + 2 > ((a ++ octs b.length ++ (b ++ sp b).take (c - (octs b.length).length)).length : Int) - ((a.length : Int) + ((octs b.length).length : Int)) then none else _) = _
    rw [if_pos (by rw [hl]; omega)]
theorem frameAt_zz (a : List Int) : frameAt (a ++ [0, 0]) a.length = none := by
  unfold frameAt
  have e := numAt_octs a 0 [0]
  rw [octs_small (by decide)] at e
  have e0 : a ++ [((0 : Nat) : Int)] ++ [0] = a ++ [0, 0] := by simp
  rw [e0] at e
  rw [e]
  show (if (((0 : Nat) : Int)) + 2 > ((a ++ [0, 0]).length : Int) - ((a.length : Int) + (([((0 : Nat) : Int)].length : Nat) : Int)) then none else _) = _
  rw [if_pos (by rw [List.length_append]; simp; omega)]
theorem frs_rows (bs : List (List Int)) (r : List Int) (hn : frameAt ((bs.map fr).flatten ++ r) (((bs.map fr).flatten.length : Nat) : Int) = none) (hl : bs.length ≤ ((bs.map fr).flatten ++ r).length + 1) :
    frs ((bs.map fr).flatten ++ r) = (bs, (((bs.map fr).flatten.length : Nat) : Int)) := by
  have := frsF_rows bs r [] (((bs.map fr).flatten ++ r).length + 1) hl (by simpa using hn)
  unfold frs
  simpa using this
theorem fr_pos (b : List Int) : 3 ≤ (fr b).length := by
  have := octs_pos b.length
  rw [fr_len]
  omega
theorem flat_len (bs : List (List Int)) : 3 * bs.length ≤ (bs.map fr).flatten.length := by
  induction bs with
  | nil => simp
  | cons b bs ih =>
    have := fr_pos b
    rw [List.map_cons, List.flatten_cons, List.length_append, List.length_cons]
    omega
theorem frs_all (bs : List (List Int)) : frs (bs.map fr).flatten = (bs, (((bs.map fr).flatten.length : Nat) : Int)) := by
  have := flat_len bs
  have h := frs_rows bs [] (by rw [List.append_nil]; exact frameAt_end _) (by rw [List.append_nil]; omega)
  rw [List.append_nil] at h
  exact h
theorem frs_cut (bs : List (List Int)) (b : List Int) (c : Nat) (hc : c < (fr b).length) : frs ((bs.map fr).flatten ++ (fr b).take c) = (bs, (((bs.map fr).flatten.length : Nat) : Int)) := by
  have := flat_len bs
  exact frs_rows bs _ (frameAt_cut _ b c hc) (by rw [List.length_append]; omega)
theorem frs_one (b : List Int) : frs (fr b ++ [0, 0]) = ([b], (((fr b).length : Nat) : Int)) := by
  have e : (List.map fr [b]).flatten = fr b := by simp
  have h := frs_rows [b] [0, 0] (by rw [e]; exact frameAt_zz _) (by rw [e, List.length_append]; simp)
  rw [e] at h
  exact h
theorem frs_nil : frs [] = ([], 0) := frs_all []
theorem sum_repG (v : Int) (n : Nat) : ((List.range n).map fun i : Nat => v * ((i : Int) + 1)).sum * 2 = v * ((n : Int) * ((n : Int) + 1)) := by
  induction n with
  | zero => simp
  | succ n ih =>
    rw [List.range_succ, List.map_append, List.sum_append, Int.add_mul, ih]
    simp only [List.map_cons, List.map_nil, List.sum_cons, List.sum_nil, Int.natCast_succ]
    rw [Int.add_zero, Int.mul_assoc, ← Int.mul_add]
    congr 1
    rw [Int.mul_add ((n : Int) + 1) ((n : Int) + 1) 1, Int.mul_comm (n : Int), Int.mul_add ((n : Int) + 1) (n : Int) 1]
    omega
theorem sumAt_repG (v : Int) (n : Nat) : sumAt (List.replicate n v) = v * ((n : Int) * ((n : Int) + 1) / 2) % 65521 := by
  unfold sumAt
  rw [List.length_replicate]
  have e : (List.range n).map (fun i => (List.replicate n v).getD i 0 * ((i : Int) + 1)) = (List.range n).map fun i : Nat => v * ((i : Int) + 1) := by
    apply List.map_congr_left
    intro i hi
    rw [List.getD_eq_getElem?_getD, List.getElem?_replicate, if_pos (List.mem_range.mp hi)]
    rfl
  rw [e]
  have h := sum_repG v n
  have h2 : (n : Int) * ((n : Int) + 1) % 2 = 0 := by
    rw [Int.mul_emod]
    have hz : (n : Int) % 2 = 0 ∨ (n : Int) % 2 = 1 := by omega
    rcases hz with z | z
    · rw [z]; simp
    · rw [Int.add_emod, z]; rfl
  generalize (n : Int) * ((n : Int) + 1) = m at h h2
  obtain ⟨k, rfl⟩ : ∃ k, m = k * 2 := ⟨m / 2, by omega⟩
  rw [← Int.mul_assoc] at h
  have : ((List.range n).map fun i : Nat => v * ((i : Int) + 1)).sum = v * k := Int.eq_of_mul_eq_mul_right (by decide) h
  rw [this, Int.mul_ediv_cancel _ (by decide)]
end K80
namespace K80
open PySem PySem.Spec PyProof.Rows L2 Lg K79
local macro_rules
  | `(tactic| walk_at "lg") => `(tactic| first
    | with_reducible refine sp_seq ?_
    | with_reducible refine sp_own ?_
    | with_reducible refine sp_set ?_
    | with_reducible refine sp_parO1 ?_
    | with_reducible refine sp_parO2 ?_
    | with_reducible refine sp_parOO ?_
    | with_reducible refine sp_par3 ?_
    | with_reducible refine sp_par ?_
    | with_reducible refine sp_asg ?_
    | with_reducible refine sp_drop ?_
    | with_reducible refine sp_ret ?_
    | with_reducible refine sp_retN ?_
    | with_reducible refine sp_next ?_
    | with_reducible refine sp_break ?_
    | with_reducible refine sp_cont ?_
    | ((with_reducible refine sp_aug (d0 := ?lgd) ?lg0 ?_); (case lg0 => exact rfl))
    | ((with_reducible refine ep_vF (d := ?lgd) ?lg0 ?_); (case lg0 => exact rfl))
    | ((with_reducible refine ep_vFF (o := ?lgd) ?lg0 ?_); (case lg0 => exact rfl))
    | ((with_reducible refine ep_var (d := ?lgd) ?lg0 ?_); (case lg0 => exact rfl))
    | ((with_reducible refine ep_varS (o := ?lgd) ?lg0 ?_); (case lg0 => exact rfl))
    | with_reducible refine ep_int ?_
    | with_reducible refine ep_str ?_
    | with_reducible refine ep_non ?_
    | with_reducible refine ep_bl ?_
    | with_reducible refine ep_ty ?_
    | with_reducible refine ep_ref ?_
    | with_reducible refine ep_op ?_
    | with_reducible refine ep_un ?_
    | with_reducible refine ep_isiT ?_
    | with_reducible refine ep_isi ?_
    | with_reducible refine ep_cb ?_
    | with_reducible refine ep_tup ?_
    | with_reducible refine ep_lst ?_
    | with_reducible refine ep_call ?_
    | with_reducible refine ep_callN ?_
    | ((with_reducible refine ep_pair (xs0 := ?lgd) ?lg0 ?_); (case lg0 => exact rfl))
    | ((with_reducible refine ep_append (ds0 := ?lgd) ?lg0 ?_); (case lg0 => exact rfl))
    | with_reducible refine ep_sl ?_
    | with_reducible refine ep_revL ?_
    | with_reducible refine ep_zipL ?_
    | with_reducible refine ep_join ?_
    | with_reducible refine ep_index ?_
    | with_reducible refine ep_if ?_
    | with_reducible refine ep_andV ?_
    | with_reducible refine ep_orV ?_
    | with_reducible refine ep_notV ?_
    | with_reducible refine pt_no ?_
    | with_reducible refine pt_part ?_
    | with_reducible refine ea_nil ?_
    | with_reducible refine ea_cons ?_
    | with_reducible refine tp_test ?_
    | with_reducible refine tp_B ?_
    | with_reducible refine tp_and ?_
    | with_reducible refine tp_or ?_
    | with_reducible refine tp_not ?_
    | with_reducible refine tp_yes ?_
    | with_reducible refine tg_name ?_
    | with_reducible refine tg_tup rfl ?_
    | with_reducible refine tgs_cons ?_
    | with_reducible refine tgs_nil ?_
    | with_reducible refine it_u ?_
    | with_reducible refine it_en ?_
    | with_reducible refine it_r1 ?_
    | with_reducible refine it_r2 ?_
    | with_reducible refine it_r3 ?_)
  | `(tactic| walk_at "r") => `(tactic| first
    | exact rfl
    | exact ⟨_, rfl, rfl⟩
    | exact Or.inl ⟨_, rfl, rfl⟩
    | exact Or.inl rfl
    | exact Or.inr ⟨_, rfl, rfl⟩
    | exact ⟨rfl, rfl⟩
    | exact ⟨by decide, rfl⟩
    | exact ⟨⟨by decide, by decide⟩, rfl⟩
    | exact ⟨⟨by decide, by decide, by decide⟩, rfl⟩
    | exact ⟨PySem.IntMulOk.of_right (PySem.intBits_le_64 (by omega) (by omega)), rfl⟩
    | exact ⟨PySem.IntMulOk.of_left (PySem.intBits_le_64 (by omega) (by omega)), rfl⟩
    | exact ⟨by omega, rfl⟩
    | exact ⟨PySem.IntMulOk.of_bits (by decide +kernel) (by decide +kernel), rfl⟩)
  | `(tactic| walk_at "x") => `(tactic| first
    | walk_at "y"
    | with_reducible refine sp_if ?_)
  | `(tactic| walk_at "y") => `(tactic| first
    | walk_at "lg"
    | (refine ⟨fun _ => ?_, fun lgz => absurd lgz (by decide)⟩)
    | (refine ⟨fun lgz => absurd lgz (by decide), fun _ => ?_⟩)
    | ((with_reducible apply x3); (exact rfl); (exact rfl); (walk_at "r"))
    | ((with_reducible apply x1v); (exact rfl))
    | ((with_reducible apply x1b); (exact rfl))
    | ((with_reducible apply x1i); (exact rfl))
    | ((with_reducible apply x1z); (exact rfl))
    | ((with_reducible apply x1l); (exact rfl))
    | ((with_reducible apply x1r); (exact rfl))
    | ((with_reducible apply x1t); (exact rfl); (exact Nat.le_of_ble_eq_true rfl))
    | ((with_reducible apply x1s); (exact rfl))
    | ((with_reducible apply x1n); (exact rfl))
    | ((with_reducible apply x2c); (exact rfl); (walk_at "r"))
    | ((with_reducible apply x2u); (exact rfl); (walk_at "r"))
    | ((with_reducible apply x2w); (exact rfl); (exact rfl))
    | ((with_reducible apply xcN); (exact rfl); (exact rfl); (exact rfl); (exact rfl))
    | ((with_reducible apply x2p); (exact rfl); (exact rfl); (first | assumption | (rw [sizeLine_eq]; (try simp only [List.length_append, List.length_map, List.length_cons, List.length_nil]); omega)))
    | ((with_reducible apply x2a); (exact rfl); (exact rfl); (first | assumption | decide | omega | (rw [sizeLine_eq]; (try simp only [List.length_append, List.length_map, List.length_cons, List.length_nil]); omega)))
    | ((with_reducible apply x2s); (exact rfl))
    | ((with_reducible apply x2nv); (exact rfl))
    | ((with_reducible apply x2vn); (exact rfl))
    | ((with_reducible apply x2nn); (exact rfl))
    | ((with_reducible apply x3s); (exact rfl))
    | ((with_reducible apply x2g); (exact rfl); (exact rfl); (exact augI); (exact rfl)))
/-! # K80g: the law -/
theorem frameAt_blen {os b : List Int} {a e : Int} (h8 : ∀ o ∈ os, I8 o) (h : frameAt os a = some (b, e)) : a + b.length + 3 ≤ e := by
  unfold frameAt at h
  cases z : K79.numAt os a with
  | none => rw [z] at h; cases h
  | some p =>
    obtain ⟨n, k⟩ := p
    rw [z] at h
    obtain ⟨h1, h2, h3⟩ := numAt_some h8 z
    obtain ⟨h4, h5⟩ := numAt_at z
    have h : (if n + 2 > (os.length : Int) - k then none else if (os.drop (n + k).toNat).take 2 = sp ((os.drop k.toNat).take n.toNat) then some ((os.drop k.toNat).take n.toNat, n + k + 2) else none) = some (b, e) := h
    split at h
    · cases h
    · split at h
      · cases h
        rw [List.length_take]
        omega
      · cases h
theorem szL_ints : ∀ os : List Int, szL (os.map D.int) = os.length
  | [] => rfl
  | o :: os => by
    rw [List.map_cons, szL, szL_ints os]
    show 1 + _ = os.length + 1
    omega
theorem frsF_sz {os : List Int} (h8 : ∀ o ∈ os, I8 o) : ∀ (n : Nat) (p : Int), p ≤ os.length → p + (szL ((frsF os n p).1.map tI) : Int) ≤ os.length
  | 0, p, h => by
    show p + ((0 : Nat) : Int) ≤ _
    omega
  | n + 1, p, h => by
    cases z : frameAt os p with
    | none =>
      rw [frsF_none z]
      show p + ((0 : Nat) : Int) ≤ _
      omega
    | some be =>
      obtain ⟨b, e⟩ := be
      rw [frsF_step z]
      have h1 := frameAt_some h8 z
      have h2 := frameAt_blen h8 z
      have ih := frsF_sz h8 n e (by omega)
      show p + ((1 + szL (b.map D.int) + szL ((frsF os n e).1.map tI) : Nat) : Int) ≤ _
      rw [szL_ints]
      omega
theorem ep_val {te : TE} {δ : List SD} {W : List Res} {K : PySem.W.Frag} {Ψ : RD → List SD → List Res → Prop} (r0 : RD) (h : EvP K te δ W fun r δ1 W1 => r = r0 ∧ δ1 = δ ∧ W1 = W) (k : Ψ r0 δ W) : EvP K te δ W Ψ := EvP.imp' h fun r δ1 W1 ⟨e1, e2, e3⟩ => by
  subst e1 e2 e3
  exact k
def Good (xs : List D) : Prop := ∀ x ∈ xs, Pl x ∧ szD x ≤ 16777216
theorem pl_tI (os : List Int) : Pl (tI os) := .tup fun d hd => by
  obtain ⟨o, _, rfl⟩ := List.mem_map.mp hd
  exact .int o
theorem good_tI (os : List Int) (h : os.length ≤ 100000) : Pl (tI os) ∧ szD (tI os) ≤ 16777216 := by
  refine ⟨pl_tI os, ?_⟩
  unfold tI
  rw [szD, szL_ints]
  omega
theorem good_frs (bs : List (List Int)) (e : Int) (h : szL (bs.map tI) ≤ 100000) : Pl (.tup [.tup (bs.map tI), .int e]) ∧ szD (.tup [.tup (bs.map tI), .int e]) ≤ 16777216 := by
  refine ⟨.tup fun d hd => ?_, ?_⟩
  · simp only [List.mem_cons, List.not_mem_nil, or_false] at hd
    rcases hd with rfl | rfl
    · refine .tup fun d hd => ?_
      obtain ⟨b, _, rfl⟩ := List.mem_map.mp hd
      exact pl_tI b
    · exact .int _
  · simp only [szD, szL]
    omega
theorem good_frsD (os : List Int) (h8 : ∀ o ∈ os, I8 o) (h : os.length ≤ 100000) : Pl (frsD os) ∧ szD (frsD os) ≤ 16777216 := by
  have := frsF_sz h8 (os.length + 1) 0 (by omega)
  exact good_frs _ _ (by unfold frs; omega)
theorem Good.snoc {xs : List D} {x : D} (h : Good xs) (hx : Pl x ∧ szD x ≤ 16777216) : Good (xs ++ [x]) := fun y hy => by
  rcases List.mem_append.mp hy with z | z
  · exact h y z
  · rw [List.mem_singleton.mp z]
    exact hx
def rowD (b : List Int) : D := .tup [lI b, lI (fr b)]
def Bd (b : List Int) : Prop := b.length ≤ 300 ∧ ∀ o ∈ b, I8 o
theorem bd_fr {b : List Int} (h : Bd b) : (fr b).length ≤ 305 := by
  have := octl (n := b.length) (by have := h.1; omega)
  have := h.1
  rw [fr_len]
  omega
theorem bd_flat (bs : List (List Int)) (h : ∀ b ∈ bs, Bd b) : (bs.map fr).flatten.length ≤ 305 * bs.length ∧ ∀ o ∈ (bs.map fr).flatten, I8 o := by
  induction bs with
  | nil => exact ⟨by simp, fun _ z => nomatch z⟩
  | cons b bs ih =>
    obtain ⟨i1, i2⟩ := ih fun c hc => h c (by simp [hc])
    have hb := h b (by simp)
    have := bd_fr hb
    rw [List.map_cons, List.flatten_cons, List.length_append, List.length_cons]
    exact ⟨by omega, i8_app' (fr_i8 hb.2) i2⟩
section
variable {K : PySem.W.Frag} {ds : List D} {W : List Res} {Φ : D → List Res → Prop}
def St1 (ns : List Int) (d p : Addr) (δ' : List SD) (W' : List Res) : Prop := W' = [dealR d p] ∧ ∃ (xs : List D) (bs : List (List Int)) (c4 c5 c6 : SD), Good xs ∧ xs.length ≤ 7 ∧ 1 ≤ bs.length ∧ bs.length ≤ 7 ∧ (∀ b ∈ bs, Bd b) ∧
    δ' = [.d (.frz ns), .d (.raw (.ref d)), .o (.l (xs.map Lg.pairD)), .o (.l (bs.map rowD)), c4, c5, c6, .no, .no, .no, .no, .no, .no, .no, .no, .no, .no, .no]
def St2 (ns : List Int) (d p : Addr) (bs : List (List Int)) (i : Nat) (δ' : List SD) (W' : List Res) : Prop := W' = [dealR d p] ∧ ∃ (xs : List D) (c4 c8 c9 c10 c11 c12 c13 c14 : SD), Good xs ∧ xs.length ≤ 8 + 4 * i ∧
    δ' = [.d (.frz ns), .d (.raw (.ref d)), .o (.l (xs.map Lg.pairD)), .d (.lst (bs.map rowD)), c4, .no, .no, .d (lI (bs.map fr).flatten), c8, c9, c10, c11, c12, c13, c14, .no, .no, .no]
theorem repF (o : Int) : ∀ n : Nat, (List.replicate n [D.int o]).flatten = (List.replicate n o).map D.int
  | 0 => rfl
  | n + 1 => by rw [List.replicate_succ, List.flatten_cons, repF o n, List.replicate_succ]; rfl
def St3 (ns : List Int) (d p : Addr) (δ' : List SD) (W' : List Res) : Prop := W' = [dealR d p] ∧ ∃ (xs : List D) (c6 c7 c8 c15 c16 : SD), Good xs ∧ xs.length ≤ 30 ∧
    δ' = [.d (.frz ns), .d (.raw (.ref d)), .o (.l (xs.map Lg.pairD)), c7, .no, .no, c6, .no, c8, .no, .no, .no, .no, .no, .no, c15, c16, .no]
theorem rowsAt (bs : List (List Int)) {k : Nat} {b : List Int} (h : bs[k]? = some b) : L2.atI (bs.map rowD) (k : Int) = some (rowD b) := by
  rw [Lg.atI_nat, List.getElem?_map, h]
  rfl
def fR : D → D := fun d => match d with | .tup (_ :: r :: _) => r | d => d
def fB : D → D := fun d => match d with | .tup (.lst b :: _) => .tup b | d => d
theorem map_fR (bs : List (List Int)) : List.map fR (bs.map rowD) = (bs.map fr).map lI := by
  rw [List.map_map, List.map_map]
  rfl
theorem map_fB (bs : List (List Int)) : List.map fB (bs.map rowD) = bs.map tI := by
  rw [List.map_map]
  rfl
theorem cutRows (bs : List (List Int)) (k : Nat) : cutL (bs.map rowD) none (some (k : Int)) = (bs.take k).map rowD := by
  rw [cutL_to, List.map_take]
theorem take_bd {bs : List (List Int)} (h : ∀ b ∈ bs, Bd b) (k : Nat) : ∀ b ∈ bs.take k, Bd b := fun b hb => h b (List.mem_of_mem_take hb)
theorem walk_law (h : pre_law ds W Φ) : StP K (t_law K) (st0 N_law ds) W (endP Φ) := by
  obtain ⟨ns, rfl, rfl, q⟩ := h
  unfold t_law
  repeat walk_at "x"
  refine ⟨ns, 80, rfl, rfl, by decide, by decide, fun d p => ?_⟩
  repeat walk_at "x"
  refine StP.nx_imp (Qn := St1 ns d p) ?_ ?_
  rotate_left
  · rintro δ1 W1 ⟨rfl, xs, bs, c4, c5, c6, gx, lx, lb1, lb, hb, rfl⟩
    obtain ⟨hfl, hf8⟩ := bd_flat bs hb
    refine sp_no 5 (sp_no 6 ?_)
    iterate 4 walk_at "x"
    refine ep_map fR (tgin_tup (tgin_cons (by simp) (tgin_cons (by simp) tgin_nil))) ?_
    repeat walk_at "x"
    refine ⟨⟨rfl, rfl, trivial⟩, by rw [List.length_map, sizeLine_eq]; omega, fun i d e => ?_, ?_⟩
    · obtain ⟨b, _, rfl⟩ := List.mem_map.mp (List.mem_of_getElem? e)
      unfold rowD
      repeat walk_at "x"
      refine ⟨rfl, ?_⟩
      repeat walk_at "x"
      exact ⟨rfl, rfl, rfl⟩
    rw [map_fR]
    repeat walk_at "x"
    refine ⟨bs.map fr, rfl, by omega, ?_⟩
    have hF : frsD (bs.map fr).flatten = .tup [.tup (bs.map tI), .int (((bs.map fr).flatten.length : Nat) : Int)] := by
      unfold frsD
      rw [frs_all]
    have gF := good_frsD (bs.map fr).flatten hf8 (by omega)
    rw [hF] at gF
    repeat walk_at "x"
    refine ⟨(bs.map fr).flatten, rfl, by omega, hf8, ?_⟩
    rw [hF]
    repeat walk_at "x"
    refine ep_map fB (tgin_tup (tgin_cons (by simp) (tgin_cons (by simp) tgin_nil))) ?_
    repeat walk_at "x"
    refine ⟨⟨rfl, rfl, trivial⟩, by rw [List.length_map, sizeLine_eq]; omega, fun i d e => ?_, ?_⟩
    · obtain ⟨b, _, rfl⟩ := List.mem_map.mp (List.mem_of_getElem? e)
      unfold rowD lI
      repeat walk_at "x"
      refine ⟨rfl, ?_⟩
      repeat walk_at "x"
      exact ⟨rfl, rfl, rfl⟩
    rw [map_fB]
    repeat walk_at "x"
    refine ⟨.tup [.tup (bs.map tI), .int (((bs.map fr).flatten.length : Nat) : Int)], xs, by rw [List.length_map]; rfl, rfl, by rw [sizeLine_eq]; omega, ?_⟩
    refine sp_cut (St2 ns d p bs 3) ?_ ?_
    rotate_left
    · rintro δ1 W1 ⟨rfl, xs, c4, c8, c9, c10, c11, c12, c13, c14, gx, lx, rfl⟩
      refine sp_no 4 (sp_no 8 (sp_no 9 (sp_no 10 (sp_no 11 (sp_no 12 (sp_no 13 (sp_no 14 (sp_no 7 ?_))))))))
      refine sp_cut (St3 ns d p) ?_ ?_
      rotate_left
      · rintro δ1 W1 ⟨rfl, xs, c6, c7, c8, c15, c16, gx, lx, rfl⟩
        have e0 : frsD [] = .tup [.tup [], .int 0] := by
          unfold frsD
          rw [frs_nil]
          rfl
        have g0 := good_frsD [] (fun _ z => nomatch z) (by decide)
        rw [e0] at g0
        repeat walk_at "x"
        refine ⟨[], rfl, by decide, (fun _ z => nomatch z), ?_⟩
        rw [e0]
        repeat walk_at "x"
        exact ⟨_, rfl, by rw [List.length_append]; show _ + 1 ≤ _; omega, gx.snoc g0, x1r rfl (q _)⟩
      show StP K _ _ _ { nx := St3 ns d p, rt := (endP Φ).rt, bk := (endP Φ).bk, ct := (endP Φ).ct }
      repeat walk_at "x"
      refine ⟨d, p, 6, rfl, rfl, by decide, by decide, fun r hr0 hr1 => ?_⟩
      repeat walk_at "x"
      refine ⟨fun _ => ?_, fun _ => ?_⟩
      rotate_left
      · repeat walk_at "x"
        exact ⟨rfl, _, _, _, _, _, _, gx, by omega, rfl⟩
      repeat walk_at "x"
      refine ⟨d, p, _, _, rfl, rfl, rfl, by simp, by show (3 : Nat) ≤ _; decide, fun z hz => ?_⟩
      have hz : z ∈ [D.int 16384, .int 16383, .int 20000] := hz
      obtain ⟨n, rfl, hn1, hn⟩ : ∃ n : Nat, z = .int n ∧ 2 ≤ n ∧ n ≤ 20000 := by
        simp only [List.mem_cons, List.not_mem_nil, or_false] at hz
        rcases hz with rfl | rfl | rfl
        · exact ⟨16384, rfl, by decide, by decide⟩
        · exact ⟨16383, rfl, by decide, by decide⟩
        · exact ⟨20000, rfl, by decide, by decide⟩
      repeat walk_at "x"
      refine ⟨d, p, rfl, rfl, fun o ho => ?_⟩
      have ho1 := ho.1
      have ho2 := ho.2
      repeat walk_at "x"
      have hRl : (List.replicate n o).length = n := List.length_replicate
      have hR8 : ∀ y ∈ List.replicate n o, I8 y := fun y hy => by rw [List.eq_of_mem_replicate hy]; exact ho
      rw [← sumAt_repG o n]
      have hfr : octs n ++ List.replicate n o ++ sp (List.replicate n o) = fr (List.replicate n o) := by
        unfold fr
        rw [hRl]
      have ho3 := (octl (n := n) (by omega)).1
      have hfl3 : (fr (List.replicate n o)).length ≤ 20005 := by
        rw [fr_len, hRl]
        omega
      have hT : ∀ m : Nat, m = n → D.tup (List.replicate (Int.toNat (m : Int)) [D.int o]).flatten = tI (List.replicate n o) := fun m e => by
        rw [e, Int.toNat_natCast, repF]
        rfl
      refine ⟨n, rfl, (octl (by omega)).2, ?_⟩
      repeat walk_at "x"
      refine x3 (d1 := .lst [.int o]) (d2 := .int n) rfl rfl ⟨⟨by omega, by omega, by rw [Int.toNat_natCast, sizeLine_eq]; show 1 * n ≤ _; omega⟩, rfl⟩ ?_
      refine x3 (d1 := lI (octs n)) (d2 := lI (List.replicate n o)) rfl (by show some (D.lst _) = some (D.lst _); rw [Int.toNat_natCast, repF]) (addI (by rw [hRl]; omega)) ?_
      repeat walk_at "x"
      refine x3 (d1 := lI (octs n ++ List.replicate n o)) (d2 := lI (sp (List.replicate n o))) rfl rfl (addI (by rw [List.length_append, hRl]; show _ + 2 ≤ _; omega)) ?_
      rw [hfr]
      repeat walk_at "x"
      refine x3 (d1 := .tup [.int o]) (d2 := .int n) rfl rfl ⟨⟨by simp, by omega, by show (1 : Int) * n ≤ _; omega⟩, rfl⟩ ?_
      repeat walk_at "x"
      rw [hT n rfl]
      refine ⟨List.replicate n o, rfl, by rw [hRl]; omega, hR8, ?_⟩
      generalize List.replicate n o = R at hRl hR8 hfl3 hT
      have hF8 := fr_i8 hR8
      have hz8 : ∀ y ∈ ([0, 0] : List Int), I8 y := by unfold I8; decide
      have e3 : frsD (fr R ++ [0, 0]) = .tup [.tup [tI R], .int ((fr R).length : Nat)] := by
        unfold frsD
        rw [frs_one]
        rfl
      have g3 := good_frsD (fr R ++ [0, 0]) (i8_app' hF8 hz8) (by rw [List.length_append]; show _ + 2 ≤ _; omega)
      rw [e3] at g3
      have g4 := good_tI (fr R) (by omega)
      repeat walk_at "x"
      refine x3 (d1 := lI (fr R)) (d2 := lI [0, 0]) rfl rfl (addI (by show _ + 2 ≤ _; omega)) ?_
      repeat walk_at "x"
      refine ⟨fr R ++ [0, 0], rfl, by rw [List.length_append]; show _ + 2 ≤ _; omega, i8_app' hF8 hz8, ?_⟩
      rw [e3]
      repeat walk_at "x"
      refine x3 (d1 := .tup [.int o]) (d2 := .int n) rfl rfl ⟨⟨by simp, by omega, by show (1 : Int) * n ≤ _; omega⟩, rfl⟩ ?_
      rw [hT n rfl]
      repeat walk_at "x"
      refine ⟨.tup [.tup [tI R], .int ((fr R).length : Nat)], xs ++ [tI (fr R)], by rw [List.length_map]; rfl, rfl, by rw [sizeLine_eq, List.length_append]; show _ + 1 < _; omega, ?_⟩
      exact ⟨rfl, _, _, _, _, _, _, (gx.snoc g4).snoc g3, by rw [List.length_append, List.length_append]; show _ + 1 + 1 ≤ _; omega, rfl⟩
    show StP K _ _ _ { nx := St2 ns d p bs 3, rt := (endP Φ).rt, bk := (endP Φ).bk, ct := (endP Φ).ct }
    refine sp_for ?_
    repeat walk_at "x"
    refine ⟨3, rfl, ⟨by decide, by decide⟩, ?_⟩
    refine ⟨fun i => St2 ns d p bs i, ⟨rfl, _, _, _, _, _, _, _, _, _, gx.snoc gF, by rw [List.length_append]; show _ + 1 ≤ _; omega, rfl⟩, ?_, ?_⟩
    · rintro i e δ' W' he ⟨rfl, xs, c4, c8, c9, c10, c11, c12, c13, c14, gx, lx, rfl⟩
      obtain ⟨hi, rfl⟩ := rngD_at he
      have hi : i < 3 := hi
      repeat walk_at "x"
      refine ⟨d, p, _, rfl, rfl, by rw [List.length_map]; omega, by rw [List.length_map]; omega, fun k hk0 hk1 => ?_⟩
      rw [List.length_map] at hk1
      obtain ⟨k, rfl⟩ := Int.eq_ofNat_of_zero_le hk0
      have hk : k < bs.length := by omega
      have hx : bs[k]? = some bs[k] := List.getElem?_eq_getElem hk
      have hbk := hb bs[k] (List.getElem_mem hk)
      generalize bs[k] = b at hx hbk
      have hbt := take_bd hb k
      have htk : (bs.take k).length = k := by rw [List.length_take]; omega
      have hts : ∀ j, (bs.take j).length ≤ 7 := fun j => by rw [List.length_take]; omega
      repeat walk_at "x"
      refine ep_map fR (tgin_tup (tgin_cons (by simp) (tgin_cons (by simp) tgin_nil))) ?_
      repeat walk_at "x"
      rw [cutRows]
      refine ⟨⟨rfl, rfl, trivial⟩, by rw [List.length_map, sizeLine_eq]; omega, fun i d e => ?_, ?_⟩
      · obtain ⟨b, _, rfl⟩ := List.mem_map.mp (List.mem_of_getElem? e)
        unfold rowD
        repeat walk_at "x"
        refine ⟨rfl, ?_⟩
        repeat walk_at "x"
        exact ⟨rfl, rfl, rfl⟩
      rw [map_fR]
      obtain ⟨hal, ha8⟩ := bd_flat _ hbt
      repeat walk_at "x"
      refine ⟨(bs.take k).map fr, rfl, by omega, ?_⟩
      repeat walk_at "x"
      refine x3 rfl rfl ⟨_, rowsAt bs hx, rfl⟩ ?_
      repeat walk_at "x"
      refine ⟨d, p, _, rfl, rfl, by rw [List.length_map]; have := fr_pos b; omega, by rw [List.length_map]; have := bd_fr hbk; omega, fun c hc0 hc1 => ?_⟩
      rw [List.length_map] at hc1
      obtain ⟨c, rfl⟩ := Int.eq_ofNat_of_zero_le hc0
      have hc : c < (fr b).length := by omega
      have hts1 : bs.take (k + 1) = bs.take k ++ [b] := by rw [List.take_add_one, hx]; rfl
      have hfb := bd_fr hbk
      have hfb8 := fr_i8 hbk.2
      have cut1 := frs_cut (bs.take k) b c hc
      have cut2 := frs_all (bs.take k ++ [b])
      generalize hA : ((bs.take k).map fr).flatten = A at hal ha8 cut1
      have hA2 : ((bs.take k ++ [b]).map fr).flatten = A ++ fr b := by
        rw [List.map_append, List.flatten_append, hA]
        show A ++ (fr b ++ []) = _
        rw [List.append_nil]
      rw [hA2] at cut2
      repeat walk_at "x"
      refine x3 (d1 := lI A) (d2 := lI ((fr b).take c)) rfl (by show some (D.lst _) = some (D.lst _); rw [cutL_to, List.map_take]) (addI (by rw [List.length_take]; omega)) ?_
      repeat walk_at "x"
      have e1 : frsD (A ++ (fr b).take c) = .tup [.tup ((bs.take k).map tI), .int (A.length : Nat)] := by
        unfold frsD
        rw [cut1]
      have e2 : frsD (A ++ fr b) = .tup [.tup ((bs.take k ++ [b]).map tI), .int ((A ++ fr b).length : Nat)] := by
        unfold frsD
        rw [cut2]
      have hc8 : ∀ o ∈ A ++ (fr b).take c, I8 o := i8_app' ha8 fun o ho => hfb8 o (List.mem_of_mem_take ho)
      have g1 := good_frsD (A ++ (fr b).take c) hc8 (by rw [List.length_append, List.length_take]; omega)
      have g2 := good_frsD (A ++ fr b) (i8_app' ha8 hfb8) (by rw [List.length_append]; omega)
      rw [e1] at g1
      rw [e2] at g2
      refine ⟨A ++ (fr b).take c, rfl, by rw [List.length_append, List.length_take]; omega, hc8, ?_⟩
      rw [e1]
      repeat walk_at "x"
      refine ep_map fB (tgin_tup (tgin_cons (by simp) (tgin_cons (by simp) tgin_nil))) ?_
      repeat walk_at "x"
      rw [cutRows]
      refine ⟨⟨rfl, rfl, trivial⟩, by rw [List.length_map, sizeLine_eq]; have := hts k; have := hts (k + 1); omega, fun i d e => ?_, ?_⟩
      · obtain ⟨b, _, rfl⟩ := List.mem_map.mp (List.mem_of_getElem? e)
        unfold rowD lI
        repeat walk_at "x"
        refine ⟨rfl, ?_⟩
        repeat walk_at "x"
        exact ⟨rfl, rfl, rfl⟩
      rw [map_fB]
      repeat walk_at "x"
      refine ⟨.tup [.tup ((bs.take k).map tI), .int (A.length : Nat)], xs, by rw [List.length_map]; rfl, rfl, by rw [sizeLine_eq]; omega, ?_⟩
      repeat walk_at "x"
      refine x3 (d1 := lI A) (d2 := lI (fr b)) rfl rfl (addI (by omega)) ?_
      repeat walk_at "x"
      refine ⟨A ++ fr b, rfl, by rw [List.length_append]; omega, i8_app' ha8 hfb8, ?_⟩
      rw [e2]
      repeat walk_at "x"
      refine ep_map fB (tgin_tup (tgin_cons (by simp) (tgin_cons (by simp) tgin_nil))) ?_
      repeat walk_at "x"
      rw [show ((k : Int) + 1) = ((k + 1 : Nat) : Int) from by omega, cutRows, hts1]
      refine ⟨⟨rfl, rfl, trivial⟩, by rw [List.length_map, sizeLine_eq]; have := hts k; rw [List.length_append]; show _ + 1 ≤ _; omega, fun i d e => ?_, ?_⟩
      · obtain ⟨b, _, rfl⟩ := List.mem_map.mp (List.mem_of_getElem? e)
        unfold rowD lI
        repeat walk_at "x"
        refine ⟨rfl, ?_⟩
        repeat walk_at "x"
        exact ⟨rfl, rfl, rfl⟩
      rw [map_fB]
      repeat walk_at "x"
      refine x3 (d1 := lI A) (d2 := lI (fr b)) rfl rfl (addI (by omega)) ?_
      repeat walk_at "x"
      refine ⟨.tup [.tup ((bs.take k ++ [b]).map tI), .int ((A ++ fr b).length : Nat)], xs ++ [.tup [.tup ((bs.take k).map tI), .int (A.length : Nat)]], by rw [List.length_map]; rfl, rfl, by rw [sizeLine_eq, List.length_append]; show _ + 1 < _; omega, ?_⟩
      repeat walk_at "x"
      refine ⟨d, p, (bs.map fr).flatten, rfl, rfl, by omega, hf8, fun os' hl' h8' => ?_⟩
      repeat walk_at "x"
      refine ⟨os', rfl, by omega, h8', ?_⟩
      repeat walk_at "x"
      refine ⟨os', rfl, by omega, h8', ?_⟩
      repeat walk_at "x"
      refine ⟨d, p, _, _, rfl, rfl, rfl, by simp, by show (8 : Nat) ≤ _; decide, fun z hz => ?_⟩
      have hz : z ∈ [lI [0, 0, 1], lI [1, 0, 1, 0], lI [0, 1, 0], lI [128, 0, 0, 0], lI [1, 5, 0, 5], lI [255], lI [3, 1, 1, 1, 6], lI [2, 1, 1, 3, 1]] := hz
      obtain ⟨w, rfl, hwl, hw8⟩ : ∃ w : List Int, z = lI w ∧ w.length ≤ 5 ∧ ∀ o ∈ w, I8 o := by
        simp only [List.mem_cons, List.not_mem_nil, or_false] at hz
        rcases hz with rfl | rfl | rfl | rfl | rfl | rfl | rfl | rfl <;> exact ⟨_, rfl, by decide, by unfold I8; decide⟩
      repeat walk_at "x"
      refine x3 (d1 := lI A) (d2 := lI w) rfl rfl (addI (by omega)) ?_
      repeat walk_at "x"
      refine x3 (d1 := lI (A ++ w)) (d2 := lI (fr b)) rfl rfl (addI (by rw [List.length_append]; omega)) ?_
      repeat walk_at "x"
      refine ep_each (fun y => ∃ o, y = .int o ∧ I8 o) (tgin_name (by simp)) ?_
      repeat walk_at "x"
      refine ⟨d, p, 5, rfl, rfl, by decide, by decide, fun r hr0 hr1 => ?_⟩
      repeat walk_at "x"
      refine ⟨r, rfl, ⟨by omega, by omega⟩, ⟨rfl, trivial⟩, by rw [rngD_len, sizeLine_eq]; omega, fun i e he => ?_, fun acc hl hq => ?_⟩
      · walk_at "x"
        refine ⟨rfl, ?_⟩
        repeat walk_at "x"
        refine ⟨d, p, rfl, rfl, fun o ho => ⟨rfl, rfl, .int o, rfl, o, rfl, ho⟩⟩
      obtain ⟨os, rfl, hos⟩ := ints_of acc hq
      rw [List.length_map, rngD_len] at hl
      refine x3 (d1 := lI (A ++ w ++ fr b)) (d2 := lI os) rfl rfl (addI (by rw [List.length_append, List.length_append]; omega)) ?_
      have hm8 : ∀ o ∈ A ++ w ++ fr b ++ os, I8 o := i8_app' (i8_app' (i8_app' ha8 hw8) hfb8) hos
      have hml : (A ++ w ++ fr b ++ os).length ≤ 5000 := by rw [List.length_append, List.length_append, List.length_append]; omega
      generalize A ++ w ++ fr b ++ os = mx at hm8 hml
      repeat walk_at "x"
      refine ⟨mx, rfl, by omega, hm8, ?_⟩
      repeat walk_at "x"
      refine ⟨mx, rfl, by omega, hm8, ?_⟩
      repeat walk_at "x"
      exact ⟨rfl, _, _, _, _, _, _, _, _, _, (((gx.snoc g1).snoc g2).snoc (good_frsD os' h8' (by omega))).snoc (good_frsD mx hm8 (by omega)), by rw [List.length_append, List.length_append, List.length_append, List.length_append]; show _ + 1 + 1 + 1 + 1 ≤ _; omega, rfl⟩
    · rintro δ' W' z
      rw [rngD_len] at z
      exact z
  show StP K _ _ _ { nx := St1 ns d p, rt := (endP Φ).rt, bk := (endP Φ).bk, ct := (endP Φ).ct }
  refine sp_for ?_
  repeat walk_at "x"
  refine ⟨d, p, _, _, rfl, rfl, rfl, by simp, by show (4 : Nat) ≤ _; decide, fun x hx => ?_⟩
  have hx : x ∈ [D.int 1, .int 2, .int 4, .int 7] := hx
  obtain ⟨n, rfl, hn1, hn⟩ : ∃ n : Nat, x = .int n ∧ 1 ≤ n ∧ n ≤ 7 := by
    simp only [List.mem_cons, List.not_mem_nil, or_false] at hx
    rcases hx with rfl | rfl | rfl | rfl
    · exact ⟨1, rfl, by decide, by decide⟩
    · exact ⟨2, rfl, by decide, by decide⟩
    · exact ⟨4, rfl, by decide, by decide⟩
    · exact ⟨7, rfl, by decide, by decide⟩
  repeat walk_at "x"
  refine ⟨n, rfl, ⟨by omega, by omega⟩, ?_⟩
  refine ⟨fun i δ' W' => W' = [dealR d p] ∧ ∃ (xs : List D) (bs : List (List Int)) (c4 c5 c6 : SD), Good xs ∧ xs.length ≤ i ∧ bs.length = i ∧ (∀ b ∈ bs, Bd b) ∧
    δ' = [.d (.frz ns), .d (.raw (.ref d)), .o (.l (xs.map Lg.pairD)), .o (.l (bs.map rowD)), c4, c5, c6, .no, .no, .no, .no, .no, .no, .no, .no, .no, .no, .no], ⟨rfl, [], [], _, _, _, (fun _ z => nomatch z), Nat.zero_le _, rfl, (fun _ z => nomatch z), rfl⟩, ?_, ?_⟩
  · rintro i e δ' W' he ⟨rfl, xs, bs, c4, c5, c6, gx, lx, lb, hb, rfl⟩
    obtain ⟨hi, rfl⟩ := rngD_at he
    repeat walk_at "x"
    refine ⟨d, p, rfl, rfl, fun b hb1 hb2 => ?_⟩
    repeat walk_at "x"
    refine ⟨b, rfl, by omega, hb2, ?_⟩
    iterate 6 walk_at "x"
    refine ep_val (.v (tI (fr b))) ?_ ?_
    · repeat walk_at "x"
      refine ⟨fun _ => ?_, fun _ => ?_⟩
      · repeat walk_at "x"
        exact ⟨b, rfl, by omega, hb2, rfl, rfl, rfl⟩
      · repeat walk_at "x"
        exact ⟨b, rfl, by omega, hb2, rfl, rfl, rfl⟩
    repeat walk_at "x"
    refine ⟨rfl, xs ++ [tI (fr b)], bs ++ [b], _, _, _, gx.snoc (good_tI _ (by have := bd_fr ⟨hb1, hb2⟩; omega)), ?_, ?_, ?_, by rw [List.map_append (f := rowD)]; rfl⟩
    · rw [List.length_append]
      show _ + 1 ≤ _
      omega
    · rw [List.length_append]
      show _ + 1 = _
      omega
    · intro c hc
      rcases List.mem_append.mp hc with z | z
      · exact hb c z
      · rw [List.mem_singleton.mp z]
        exact ⟨hb1, hb2⟩
  · rintro δ' W' ⟨rfl, xs, bs, c4, c5, c6, gx, lx, lb, hb, rfl⟩
    rw [rngD_len] at lx lb
    exact ⟨rfl, xs, bs, _, _, _, gx, by omega, by omega, by omega, hb, rfl⟩
end
end K80
namespace K80
open PySem PySem.Spec PyProof.Rows L2
def topS (i : Nat) : Stmt := PySem.Challenge.pw_namesenough_k80_frames_are_read_up_to_th.main.body.getD i (.Pass ⟨0, 0, 0, 0⟩)
abbrev s_Web__init : Stmt := inClass (topS 1) 0
abbrev s_Web__eq : Stmt := inClass (topS 1) 1
abbrev s_Finding__init : Stmt := inClass (topS 3) 0
abbrev s_Finding__eq : Stmt := inClass (topS 3) 1
abbrev s_NamesAnswer__init : Stmt := inClass (topS 5) 0
abbrev s_NamesAnswer__eq : Stmt := inClass (topS 5) 1
abbrev s_LevelsAnswer__init : Stmt := inClass (topS 6) 0
abbrev s_LevelsAnswer__eq : Stmt := inClass (topS 6) 1
abbrev s_octets_of_number : Stmt := topS 9
abbrev s_number_of : Stmt := topS 10
abbrev s_behind_number : Stmt := topS 11
abbrev s_number_in : Stmt := topS 12
abbrev s_number_octets : Stmt := topS 17
abbrev s_sum_of_octets : Stmt := topS 18
abbrev s_sum_pair : Stmt := topS 19
abbrev s_frame : Stmt := topS 20
abbrev s_frame_at : Stmt := topS 21
abbrev s_frames : Stmt := topS 22
abbrev s__law_deal : Stmt := topS 24
abbrev s__law_any : Stmt := topS 25
abbrev s__law_of : Stmt := topS 26
abbrev s__law_is_kind : Stmt := topS 27
abbrev s__law_same : Stmt := topS 28
abbrev s__law_all : Stmt := topS 29
abbrev s__law_plain : Stmt := topS 30
abbrev s__law_number_octets : Stmt := topS 31
abbrev s__law_sum : Stmt := topS 32
abbrev s__law_framed : Stmt := topS 33
abbrev s__law_joined : Stmt := topS 34
abbrev s__law_octet : Stmt := topS 35
abbrev s__law_number_at : Stmt := topS 36
abbrev s__law_frames_in : Stmt := topS 37
abbrev s__law_some_body : Stmt := topS 38
abbrev s__law_bent : Stmt := topS 39
abbrev s__law_due : Stmt := topS 40
abbrev s_law : Stmt := topS 41
def d_Web__init : He.DefD := ⟨("Web", some "__init__"), "__init__", "Web.__init__", defArgs s_Web__init, defBody s_Web__init, defScope s_Web__init, [], []⟩
def d_Web__eq : He.DefD := ⟨("Web", some "__eq__"), "__eq__", "Web.__eq__", defArgs s_Web__eq, defBody s_Web__eq, defScope s_Web__eq, [], []⟩
def d_Finding__init : He.DefD := ⟨("Finding", some "__init__"), "__init__", "Finding.__init__", defArgs s_Finding__init, defBody s_Finding__init, defScope s_Finding__init, [], []⟩
def d_Finding__eq : He.DefD := ⟨("Finding", some "__eq__"), "__eq__", "Finding.__eq__", defArgs s_Finding__eq, defBody s_Finding__eq, defScope s_Finding__eq, [], []⟩
def d_NamesAnswer__init : He.DefD := ⟨("NamesAnswer", some "__init__"), "__init__", "NamesAnswer.__init__", defArgs s_NamesAnswer__init, defBody s_NamesAnswer__init, defScope s_NamesAnswer__init, [], []⟩
def d_NamesAnswer__eq : He.DefD := ⟨("NamesAnswer", some "__eq__"), "__eq__", "NamesAnswer.__eq__", defArgs s_NamesAnswer__eq, defBody s_NamesAnswer__eq, defScope s_NamesAnswer__eq, [], []⟩
def d_LevelsAnswer__init : He.DefD := ⟨("LevelsAnswer", some "__init__"), "__init__", "LevelsAnswer.__init__", defArgs s_LevelsAnswer__init, defBody s_LevelsAnswer__init, defScope s_LevelsAnswer__init, [], []⟩
def d_LevelsAnswer__eq : He.DefD := ⟨("LevelsAnswer", some "__eq__"), "__eq__", "LevelsAnswer.__eq__", defArgs s_LevelsAnswer__eq, defBody s_LevelsAnswer__eq, defScope s_LevelsAnswer__eq, [], []⟩
def d_octets_of_number : He.DefD := ⟨("octets_of_number", none), "octets_of_number", "octets_of_number", defArgs s_octets_of_number, defBody s_octets_of_number, defScope s_octets_of_number, [], []⟩
def d_number_of : He.DefD := ⟨("number_of", none), "number_of", "number_of", defArgs s_number_of, defBody s_number_of, defScope s_number_of, [], []⟩
def d_behind_number : He.DefD := ⟨("behind_number", none), "behind_number", "behind_number", defArgs s_behind_number, defBody s_behind_number, defScope s_behind_number, [], []⟩
def d_number_in : He.DefD := ⟨("number_in", none), "number_in", "number_in", defArgs s_number_in, defBody s_number_in, defScope s_number_in, [], []⟩
def d_number_octets : He.DefD := ⟨("number_octets", none), "number_octets", "number_octets", defArgs s_number_octets, defBody s_number_octets, defScope s_number_octets, [], []⟩
def d_sum_of_octets : He.DefD := ⟨("sum_of_octets", none), "sum_of_octets", "sum_of_octets", defArgs s_sum_of_octets, defBody s_sum_of_octets, defScope s_sum_of_octets, [], []⟩
def d_sum_pair : He.DefD := ⟨("sum_pair", none), "sum_pair", "sum_pair", defArgs s_sum_pair, defBody s_sum_pair, defScope s_sum_pair, [], []⟩
def d_frame : He.DefD := ⟨("frame", none), "frame", "frame", defArgs s_frame, defBody s_frame, defScope s_frame, [], []⟩
def d_frame_at : He.DefD := ⟨("frame_at", none), "frame_at", "frame_at", defArgs s_frame_at, defBody s_frame_at, defScope s_frame_at, [], []⟩
def d_frames : He.DefD := ⟨("frames", none), "frames", "frames", defArgs s_frames, defBody s_frames, defScope s_frames, [], []⟩
def d__law_deal : He.DefD := ⟨("_law_deal", none), "_law_deal", "_law_deal", defArgs s__law_deal, defBody s__law_deal, defScope s__law_deal, [], []⟩
def d__law_any : He.DefD := ⟨("_law_any", none), "_law_any", "_law_any", defArgs s__law_any, defBody s__law_any, defScope s__law_any, [], []⟩
def d__law_of : He.DefD := ⟨("_law_of", none), "_law_of", "_law_of", defArgs s__law_of, defBody s__law_of, defScope s__law_of, [], []⟩
def d__law_is_kind : He.DefD := ⟨("_law_is_kind", none), "_law_is_kind", "_law_is_kind", defArgs s__law_is_kind, defBody s__law_is_kind, defScope s__law_is_kind, [], []⟩
def d__law_same : He.DefD := ⟨("_law_same", none), "_law_same", "_law_same", defArgs s__law_same, defBody s__law_same, defScope s__law_same, [], []⟩
def d__law_all : He.DefD := ⟨("_law_all", none), "_law_all", "_law_all", defArgs s__law_all, defBody s__law_all, defScope s__law_all, [], []⟩
def d__law_plain : He.DefD := ⟨("_law_plain", none), "_law_plain", "_law_plain", defArgs s__law_plain, defBody s__law_plain, defScope s__law_plain, [], []⟩
def d__law_number_octets : He.DefD := ⟨("_law_number_octets", none), "_law_number_octets", "_law_number_octets", defArgs s__law_number_octets, defBody s__law_number_octets, defScope s__law_number_octets, [], []⟩
def d__law_sum : He.DefD := ⟨("_law_sum", none), "_law_sum", "_law_sum", defArgs s__law_sum, defBody s__law_sum, defScope s__law_sum, [], []⟩
def d__law_framed : He.DefD := ⟨("_law_framed", none), "_law_framed", "_law_framed", defArgs s__law_framed, defBody s__law_framed, defScope s__law_framed, [], []⟩
def d__law_joined : He.DefD := ⟨("_law_joined", none), "_law_joined", "_law_joined", defArgs s__law_joined, defBody s__law_joined, defScope s__law_joined, [], []⟩
def d__law_octet : He.DefD := ⟨("_law_octet", none), "_law_octet", "_law_octet", defArgs s__law_octet, defBody s__law_octet, defScope s__law_octet, [], []⟩
def d__law_number_at : He.DefD := ⟨("_law_number_at", none), "_law_number_at", "_law_number_at", defArgs s__law_number_at, defBody s__law_number_at, defScope s__law_number_at, [], []⟩
def d__law_frames_in : He.DefD := ⟨("_law_frames_in", none), "_law_frames_in", "_law_frames_in", defArgs s__law_frames_in, defBody s__law_frames_in, defScope s__law_frames_in, [], []⟩
def d__law_some_body : He.DefD := ⟨("_law_some_body", none), "_law_some_body", "_law_some_body", defArgs s__law_some_body, defBody s__law_some_body, defScope s__law_some_body, [], []⟩
def d__law_bent : He.DefD := ⟨("_law_bent", none), "_law_bent", "_law_bent", defArgs s__law_bent, defBody s__law_bent, defScope s__law_bent, [], []⟩
def d__law_due : He.DefD := ⟨("_law_due", none), "_law_due", "_law_due", defArgs s__law_due, defBody s__law_due, defScope s__law_due, [], []⟩
def d_law : He.DefD := ⟨("law", none), "law", "law", defArgs s_law, defBody s_law, defScope s_law, [], []⟩
def fn : List He.DefD := [d_Web__init, d_Web__eq, d_Finding__init, d_Finding__eq, d_NamesAnswer__init, d_NamesAnswer__eq, d_LevelsAnswer__init, d_LevelsAnswer__eq, d_octets_of_number, d_number_of, d_behind_number, d_number_in, d_number_octets, d_sum_of_octets, d_sum_pair, d_frame, d_frame_at, d_frames, d__law_deal, d__law_any, d__law_of, d__law_is_kind, d__law_same, d__law_all, d__law_plain, d__law_number_octets, d__law_sum, d__law_framed, d__law_joined, d__law_octet, d__law_number_at, d__law_frames_in, d__law_some_body, d__law_bent, d__law_due, d_law]
def fa : List He.Fa := [.glo "octets_of_number", .glo "number_of", .glo "behind_number", .glo "number_in", .glo "number_octets", .glo "sum_of_octets", .glo "sum_pair", .glo "frame", .glo "frame_at", .glo "frames", .glo "_law_deal", .glo "_law_any", .glo "_law_of", .glo "_law_is_kind", .glo "_law_same", .glo "_law_all", .glo "_law_plain", .glo "_law_number_octets", .glo "_law_sum", .glo "_law_framed", .glo "_law_joined", .glo "_law_octet", .glo "_law_number_at", .glo "_law_frames_in", .glo "_law_some_body", .glo "_law_bent", .glo "_law_due", .glo "law", .glo "Web", .glo "Finding", .glo "NamesAnswer", .glo "LevelsAnswer", .cls "Web", .cls "Finding", .cls "NamesAnswer", .cls "LevelsAnswer", .mkr "Web", .mkr "Finding", .mkr "NamesAnswer", .mkr "LevelsAnswer", .meth "Web" "__init__", .meth "Web" "__eq__", .meth "Finding" "__init__", .meth "Finding" "__eq__", .meth "NamesAnswer" "__init__", .meth "NamesAnswer" "__eq__", .meth "LevelsAnswer" "__init__", .meth "LevelsAnswer" "__eq__", .int "BASE" (128), .int "OCTET" (256), .int "PRIME" (65521), .int "SUM_OCTETS" (2), .free "abs", .free "bool", .free "dict", .free "enumerate", .free "int", .free "isinstance", .free "len", .free "list", .free "range", .free "str", .free "sum", .free "tuple", .free "zip"]
def names : List PySem.Str := (["Web", "Finding", "NamesAnswer", "LevelsAnswer", "BASE", "octets_of_number", "number_of", "behind_number", "number_in", "OCTET", "PRIME", "SUM_OCTETS", "number_octets", "sum_of_octets", "sum_pair", "frame", "frame_at", "frames", "_law_deal", "_law_any", "_law_of", "_law_is_kind", "_law_same", "_law_all", "_law_plain", "_law_number_octets", "_law_sum", "_law_framed", "_law_joined", "_law_octet"] : List PySem.Str) ++ (["_law_number_at", "_law_frames_in", "_law_some_body", "_law_bent", "_law_due"] : List PySem.Str)
def tys : List String := ["NoneType", "bool", "int", "str", "tuple", "list", "dict"]
def tus : List String := ["tuple", "list", "dict", "str", "int", "bool"]
def own : List PySem.Str := ["Web", "Finding", "NamesAnswer", "LevelsAnswer"]
def fx : List Lg.Fx := (tys.flatMap fun T => tus.map fun U => Lg.Fx.tt T U (decide (T = U) || (decide (T = "bool") && decide (U = "int")))) ++ (tys.flatMap fun T => own.map fun C => Lg.Fx.tx T C false)
abbrev R : PySem.W.OpenRow := PySem.W.OpenLaw.row PySem.Challenge.rw_namesenough_k80_frames_are_read_up_to_th
abbrev hk : PySem.W.Hook := Lg.hookX 5 fa fn fx
def ob (s : PySem.W.SharedT) : He.AlD × Bool := Lg.obX 5 fa fn fx (HandSHeadRun.getT s)
theorem ob_eq (s : PySem.W.SharedT) : ob s = hk.obs s.abs := Lg.obX_eq (HandSHeadRun.getT_eq s)
theorem run (w : World) : HandSHeadRun.RunEq R (PySem.W.view R.prog [41]) hk ob 4000 names w := by
  intro os
  kernel_rfl
/-- what the head has told -/
structure G (K : PySem.W.Frag) (mg : PySem.Str → Option Value) : Prop where
  says : He.SaysD fa fn K
  fxs : Lg.okX fx K = true
  src : ∃ h : Heap, K.In h ∧ h.Ns mainGlobals mg
section
variable {K : PySem.W.Frag} {mg : PySem.Str → Option Value} (g : G K mg)
include g
theorem kd : Lg.Kd K := ⟨fun T hT U hU => of_decide_eq_true (List.all_eq_true.mp g.fxs (.tt T U _) (List.mem_append_left _ (List.mem_flatMap.mpr ⟨T, hT, List.mem_map.mpr ⟨U, hU, rfl⟩⟩)))⟩
theorem kc (T : String) (hT : T ∈ tys) (C : PySem.Str) (hC : C ∈ own) : PySem.W.kitOne K (.type T) (.ref (He.ga K C)) = some false := of_decide_eq_true (List.all_eq_true.mp g.fxs (.tx T C false) (List.mem_append_right _ (List.mem_flatMap.mpr ⟨T, hT, List.mem_map.mpr ⟨C, hC, rfl⟩⟩)))
theorem g_octets_of_number : mg "octets_of_number" = some (.ref (He.ga K "octets_of_number")) := by
  obtain ⟨h, a, b⟩ := g.src
  exact He.glo_ok a b (g.says.fact 0 (f := .glo "octets_of_number") rfl)
theorem g_number_of : mg "number_of" = some (.ref (He.ga K "number_of")) := by
  obtain ⟨h, a, b⟩ := g.src
  exact He.glo_ok a b (g.says.fact 1 (f := .glo "number_of") rfl)
theorem g_behind_number : mg "behind_number" = some (.ref (He.ga K "behind_number")) := by
  obtain ⟨h, a, b⟩ := g.src
  exact He.glo_ok a b (g.says.fact 2 (f := .glo "behind_number") rfl)
theorem g_number_in : mg "number_in" = some (.ref (He.ga K "number_in")) := by
  obtain ⟨h, a, b⟩ := g.src
  exact He.glo_ok a b (g.says.fact 3 (f := .glo "number_in") rfl)
theorem g_number_octets : mg "number_octets" = some (.ref (He.ga K "number_octets")) := by
  obtain ⟨h, a, b⟩ := g.src
  exact He.glo_ok a b (g.says.fact 4 (f := .glo "number_octets") rfl)
theorem g_sum_of_octets : mg "sum_of_octets" = some (.ref (He.ga K "sum_of_octets")) := by
  obtain ⟨h, a, b⟩ := g.src
  exact He.glo_ok a b (g.says.fact 5 (f := .glo "sum_of_octets") rfl)
theorem g_sum_pair : mg "sum_pair" = some (.ref (He.ga K "sum_pair")) := by
  obtain ⟨h, a, b⟩ := g.src
  exact He.glo_ok a b (g.says.fact 6 (f := .glo "sum_pair") rfl)
theorem g_frame : mg "frame" = some (.ref (He.ga K "frame")) := by
  obtain ⟨h, a, b⟩ := g.src
  exact He.glo_ok a b (g.says.fact 7 (f := .glo "frame") rfl)
theorem g_frame_at : mg "frame_at" = some (.ref (He.ga K "frame_at")) := by
  obtain ⟨h, a, b⟩ := g.src
  exact He.glo_ok a b (g.says.fact 8 (f := .glo "frame_at") rfl)
theorem g_frames : mg "frames" = some (.ref (He.ga K "frames")) := by
  obtain ⟨h, a, b⟩ := g.src
  exact He.glo_ok a b (g.says.fact 9 (f := .glo "frames") rfl)
theorem g__law_deal : mg "_law_deal" = some (.ref (He.ga K "_law_deal")) := by
  obtain ⟨h, a, b⟩ := g.src
  exact He.glo_ok a b (g.says.fact 10 (f := .glo "_law_deal") rfl)
theorem g__law_any : mg "_law_any" = some (.ref (He.ga K "_law_any")) := by
  obtain ⟨h, a, b⟩ := g.src
  exact He.glo_ok a b (g.says.fact 11 (f := .glo "_law_any") rfl)
theorem g__law_of : mg "_law_of" = some (.ref (He.ga K "_law_of")) := by
  obtain ⟨h, a, b⟩ := g.src
  exact He.glo_ok a b (g.says.fact 12 (f := .glo "_law_of") rfl)
theorem g__law_is_kind : mg "_law_is_kind" = some (.ref (He.ga K "_law_is_kind")) := by
  obtain ⟨h, a, b⟩ := g.src
  exact He.glo_ok a b (g.says.fact 13 (f := .glo "_law_is_kind") rfl)
theorem g__law_same : mg "_law_same" = some (.ref (He.ga K "_law_same")) := by
  obtain ⟨h, a, b⟩ := g.src
  exact He.glo_ok a b (g.says.fact 14 (f := .glo "_law_same") rfl)
theorem g__law_all : mg "_law_all" = some (.ref (He.ga K "_law_all")) := by
  obtain ⟨h, a, b⟩ := g.src
  exact He.glo_ok a b (g.says.fact 15 (f := .glo "_law_all") rfl)
theorem g__law_plain : mg "_law_plain" = some (.ref (He.ga K "_law_plain")) := by
  obtain ⟨h, a, b⟩ := g.src
  exact He.glo_ok a b (g.says.fact 16 (f := .glo "_law_plain") rfl)
theorem g__law_number_octets : mg "_law_number_octets" = some (.ref (He.ga K "_law_number_octets")) := by
  obtain ⟨h, a, b⟩ := g.src
  exact He.glo_ok a b (g.says.fact 17 (f := .glo "_law_number_octets") rfl)
theorem g__law_sum : mg "_law_sum" = some (.ref (He.ga K "_law_sum")) := by
  obtain ⟨h, a, b⟩ := g.src
  exact He.glo_ok a b (g.says.fact 18 (f := .glo "_law_sum") rfl)
theorem g__law_framed : mg "_law_framed" = some (.ref (He.ga K "_law_framed")) := by
  obtain ⟨h, a, b⟩ := g.src
  exact He.glo_ok a b (g.says.fact 19 (f := .glo "_law_framed") rfl)
theorem g__law_joined : mg "_law_joined" = some (.ref (He.ga K "_law_joined")) := by
  obtain ⟨h, a, b⟩ := g.src
  exact He.glo_ok a b (g.says.fact 20 (f := .glo "_law_joined") rfl)
theorem g__law_octet : mg "_law_octet" = some (.ref (He.ga K "_law_octet")) := by
  obtain ⟨h, a, b⟩ := g.src
  exact He.glo_ok a b (g.says.fact 21 (f := .glo "_law_octet") rfl)
theorem g__law_number_at : mg "_law_number_at" = some (.ref (He.ga K "_law_number_at")) := by
  obtain ⟨h, a, b⟩ := g.src
  exact He.glo_ok a b (g.says.fact 22 (f := .glo "_law_number_at") rfl)
theorem g__law_frames_in : mg "_law_frames_in" = some (.ref (He.ga K "_law_frames_in")) := by
  obtain ⟨h, a, b⟩ := g.src
  exact He.glo_ok a b (g.says.fact 23 (f := .glo "_law_frames_in") rfl)
theorem g__law_some_body : mg "_law_some_body" = some (.ref (He.ga K "_law_some_body")) := by
  obtain ⟨h, a, b⟩ := g.src
  exact He.glo_ok a b (g.says.fact 24 (f := .glo "_law_some_body") rfl)
theorem g__law_bent : mg "_law_bent" = some (.ref (He.ga K "_law_bent")) := by
  obtain ⟨h, a, b⟩ := g.src
  exact He.glo_ok a b (g.says.fact 25 (f := .glo "_law_bent") rfl)
theorem g__law_due : mg "_law_due" = some (.ref (He.ga K "_law_due")) := by
  obtain ⟨h, a, b⟩ := g.src
  exact He.glo_ok a b (g.says.fact 26 (f := .glo "_law_due") rfl)
theorem g_law : mg "law" = some (.ref (He.ga K "law")) := by
  obtain ⟨h, a, b⟩ := g.src
  exact He.glo_ok a b (g.says.fact 27 (f := .glo "law") rfl)
theorem g_Web : mg "Web" = some (.ref (He.ga K "Web")) := by
  obtain ⟨h, a, b⟩ := g.src
  exact He.glo_ok a b (g.says.fact 28 (f := .glo "Web") rfl)
theorem g_Finding : mg "Finding" = some (.ref (He.ga K "Finding")) := by
  obtain ⟨h, a, b⟩ := g.src
  exact He.glo_ok a b (g.says.fact 29 (f := .glo "Finding") rfl)
theorem g_NamesAnswer : mg "NamesAnswer" = some (.ref (He.ga K "NamesAnswer")) := by
  obtain ⟨h, a, b⟩ := g.src
  exact He.glo_ok a b (g.says.fact 30 (f := .glo "NamesAnswer") rfl)
theorem g_LevelsAnswer : mg "LevelsAnswer" = some (.ref (He.ga K "LevelsAnswer")) := by
  obtain ⟨h, a, b⟩ := g.src
  exact He.glo_ok a b (g.says.fact 31 (f := .glo "LevelsAnswer") rfl)
theorem k_BASE : ∃ u, mg "BASE" = some u ∧ RelV (.int (128)) u := by
  obtain ⟨h, a, b⟩ := g.src
  obtain ⟨t, e⟩ := He.int_ok a b (g.says.fact 48 (f := .int "BASE" (128)) rfl)
  exact ⟨_, e, t, rfl⟩
theorem k_OCTET : ∃ u, mg "OCTET" = some u ∧ RelV (.int (256)) u := by
  obtain ⟨h, a, b⟩ := g.src
  obtain ⟨t, e⟩ := He.int_ok a b (g.says.fact 49 (f := .int "OCTET" (256)) rfl)
  exact ⟨_, e, t, rfl⟩
theorem k_PRIME : ∃ u, mg "PRIME" = some u ∧ RelV (.int (65521)) u := by
  obtain ⟨h, a, b⟩ := g.src
  obtain ⟨t, e⟩ := He.int_ok a b (g.says.fact 50 (f := .int "PRIME" (65521)) rfl)
  exact ⟨_, e, t, rfl⟩
theorem k_SUM_OCTETS : ∃ u, mg "SUM_OCTETS" = some u ∧ RelV (.int (2)) u := by
  obtain ⟨h, a, b⟩ := g.src
  obtain ⟨t, e⟩ := He.int_ok a b (g.says.fact 51 (f := .int "SUM_OCTETS" (2)) rfl)
  exact ⟨_, e, t, rfl⟩
theorem f_abs : mg "abs" = none := by
  obtain ⟨h, a, b⟩ := g.src
  exact He.free_ok a b (g.says.fact 52 (f := .free "abs") rfl)
theorem f_bool : mg "bool" = none := by
  obtain ⟨h, a, b⟩ := g.src
  exact He.free_ok a b (g.says.fact 53 (f := .free "bool") rfl)
theorem f_dict : mg "dict" = none := by
  obtain ⟨h, a, b⟩ := g.src
  exact He.free_ok a b (g.says.fact 54 (f := .free "dict") rfl)
theorem f_enumerate : mg "enumerate" = none := by
  obtain ⟨h, a, b⟩ := g.src
  exact He.free_ok a b (g.says.fact 55 (f := .free "enumerate") rfl)
theorem f_int : mg "int" = none := by
  obtain ⟨h, a, b⟩ := g.src
  exact He.free_ok a b (g.says.fact 56 (f := .free "int") rfl)
theorem f_isinstance : mg "isinstance" = none := by
  obtain ⟨h, a, b⟩ := g.src
  exact He.free_ok a b (g.says.fact 57 (f := .free "isinstance") rfl)
theorem f_len : mg "len" = none := by
  obtain ⟨h, a, b⟩ := g.src
  exact He.free_ok a b (g.says.fact 58 (f := .free "len") rfl)
theorem f_list : mg "list" = none := by
  obtain ⟨h, a, b⟩ := g.src
  exact He.free_ok a b (g.says.fact 59 (f := .free "list") rfl)
theorem f_range : mg "range" = none := by
  obtain ⟨h, a, b⟩ := g.src
  exact He.free_ok a b (g.says.fact 60 (f := .free "range") rfl)
theorem f_str : mg "str" = none := by
  obtain ⟨h, a, b⟩ := g.src
  exact He.free_ok a b (g.says.fact 61 (f := .free "str") rfl)
theorem f_sum : mg "sum" = none := by
  obtain ⟨h, a, b⟩ := g.src
  exact He.free_ok a b (g.says.fact 62 (f := .free "sum") rfl)
theorem f_tuple : mg "tuple" = none := by
  obtain ⟨h, a, b⟩ := g.src
  exact He.free_ok a b (g.says.fact 63 (f := .free "tuple") rfl)
theorem f_zip : mg "zip" = none := by
  obtain ⟨h, a, b⟩ := g.src
  exact He.free_ok a b (g.says.fact 64 (f := .free "zip") rfl)
end
end K80
namespace K80
open PySem PySem.Spec PyProof.Rows L2 Lg K79
theorem kx {K : PySem.W.Frag} {mg : PySem.Str → Option Value} (g : G K mg) : Kx K := ⟨fun T hT C hC => kc g T hT C (by
  simp only [List.mem_cons, List.not_mem_nil, or_false] at hC
  unfold own
  simp only [List.mem_cons, List.not_mem_nil, or_false]
  rcases hC with h | h | h | h
  · exact .inr (.inl h)
  · exact .inr (.inr (.inl h))
  · exact .inr (.inr (.inr h))
  · exact .inl h)⟩
theorem sc_octets_of_number : FnScope ["number", "found", "rest"] ["number"] (defScope s_octets_of_number) := ⟨rfl, rfl, rfl, by decide +kernel, rfl, by decide +kernel, by decide +kernel⟩
theorem ca_octets_of_number {P : Program} {w : World} {K : PySem.W.Frag} {mg : Str → Option Value} {base : Heap} (g : G K mg)  : Ca P w K mg base 1 "octets_of_number" ["number"] d_octets_of_number pre_octets_of_number := by
  obtain ⟨fd, F⟩ := g.says.def_ 8 (d := d_octets_of_number) rfl
  refine ⟨_, fd, F, fn_ok F sc_octets_of_number (fun _ _ _ h => len_octets_of_number h) (fun cdv A outer s H E hr => ⟨t_octets_of_number K, ?_, fun _ _ _ h => walk_octets_of_number h⟩), g_octets_of_number g, F.kp, F.bindsN fun _ _ _ _ _ _ us hl => match us, hl with | [_], _ => rfl⟩
  exact (pss_cons (ps_own (i := 1) sc_octets_of_number.nd rfl (Or.inl rfl) (pe_lst pa_nil))
  (pss_cons (ps_set (i := 2) sc_octets_of_number.nd rfl (Or.inl rfl) (pvF 0))
  (pss_cons (ps_while PassesOwn.never (pt_cmpR (uGe K rfl) (pv 2) (C8.pe_gc rfl (k_BASE g)) (nomark _)) (pss_cons (ps_expr (qAppend K rfl (pv 1) (pe_op (uAdd K rfl) (C8.pe_gc rfl (k_BASE g)) (pe_op (uMod K rfl) (pv 2) (C8.pe_gc rfl (k_BASE g))))))
  (pss_one (ps_set (i := 2) sc_octets_of_number.nd rfl (Or.inl rfl) (pe_op (uDiv K rfl) (pv 2) (C8.pe_gc rfl (k_BASE g)))))))
  (pss_cons (ps_expr (qAppend K rfl (pv 1) (pvF 2)))
  (pss_one (ps_ret (pe_callTy (uTuple K rfl) rfl (f_tuple g) PyProof.Rows.boot_tuple (pa_cons (pv 1) pa_nil))))))))

theorem sc_number_of : FnScope ["figures", "row", "base", "pairs", "at"] ["figures"] (defScope s_number_of) := ⟨rfl, rfl, rfl, by decide +kernel, rfl, by decide +kernel, by decide +kernel⟩
theorem ca_number_of {P : Program} {w : World} {K : PySem.W.Frag} {mg : Str → Option Value} {base : Heap} (g : G K mg)  : Ca P w K mg base 1 "number_of" ["figures"] d_number_of pre_number_of := by
  obtain ⟨fd, F⟩ := g.says.def_ 9 (d := d_number_of) rfl
  refine ⟨_, fd, F, fn_ok F sc_number_of (fun _ _ _ h => len_number_of h) (fun cdv A outer s H E hr => ⟨t_number_of K, ?_, fun _ _ _ h => walk_number_of h⟩), g_number_of g, F.kp, F.bindsN fun _ _ _ _ _ _ us hl => match us, hl with | [_], _ => rfl⟩
  exact (pss_cons (ps_asg (pe_tup (pa_cons (pe_callTy (uList K rfl) rfl (f_list g) PyProof.Rows.boot_list (pa_cons (pv 0) pa_nil)) (pa_cons (C8.pe_gc rfl (k_BASE g)) pa_nil))) (qTup K rfl rfl (pgs_cons (pg_name (i := 1) sc_number_of.nd rfl (Or.inr rfl)) (pgs_cons (pg_name (i := 2) sc_number_of.nd rfl (Or.inr rfl)) pgs_nil))))
  (pss_cons (ps_while PassesOwn.never (pt_cmpR (uGt K rfl) (pe_callB (uLen K rfl) rfl (f_len g) PySem.boot_len (pa_cons (pv 1) pa_nil)) pe_int (nomark _)) (pss_cons (ps_setLc (i := 3) (own := [("at", 4)]) rfl sc_number_of.nd rfl rfl rfl (pi_range3 rfl (f_range g) (pa_cons pe_int (pa_cons (pe_op (uSub K rfl) (pe_callB (uLen K rfl) rfl (f_len g) PySem.boot_len (pa_cons (pv 1) pa_nil)) pe_int) (pa_cons pe_int pa_nil)))) (blkOk_by (by kernel_rfl)) (fun _ _ _ _ _ => (pg_name (i := 4) sc_number_of.nd rfl (Or.inl rfl))) (fun _ _ _ _ _ => pts_nil) (fun _ _ _ _ _ => (pe_op (uAdd K rfl) (pe_ix (uIx K rfl) (pv 1) (pv 4) (fun _ _ => rfl)) (pe_op (uMul K rfl) (pv 2) (pe_ix (uIx K rfl) (pv 1) (pe_op (uAdd K rfl) (pv 4) pe_int) (fun _ _ => rfl))))))
  (pss_cons (ps_if (pt_cmpR (uEq K rfl hr.units) (pe_op (uMod K rfl) (pe_callB (uLen K rfl) rfl (f_len g) PySem.boot_len (pa_cons (pv 1) pa_nil)) pe_int) pe_int (nomark _)) (pss_one (ps_expr (qAppend K rfl (pv 3) (pe_ix (uIx K rfl) (pv 1) (pe_op (uSub K rfl) (pe_callB (uLen K rfl) rfl (f_len g) PySem.boot_len (pa_cons (pv 1) pa_nil)) pe_int) (fun _ _ => rfl))))) pss_nil)
  (pss_cons (ps_set (i := 1) sc_number_of.nd rfl (Or.inr rfl) (pvF 3))
  (pss_one (ps_set (i := 2) sc_number_of.nd rfl (Or.inr rfl) (pe_op (uMul K rfl) (pv 2) (pv 2))))))))
  (pss_one (ps_ret (pe_ix (uIx K rfl) (pv 1) pe_int (fun _ _ => rfl))))))

theorem sc_behind_number : FnScope ["octets", "at", "place"] ["octets", "at"] (defScope s_behind_number) := ⟨rfl, rfl, rfl, by decide +kernel, rfl, by decide +kernel, by decide +kernel⟩
theorem ca_behind_number {P : Program} {w : World} {K : PySem.W.Frag} {mg : Str → Option Value} {base : Heap} (g : G K mg)  : Ca P w K mg base 1 "behind_number" ["octets", "at"] d_behind_number pre_behind_number := by
  obtain ⟨fd, F⟩ := g.says.def_ 10 (d := d_behind_number) rfl
  refine ⟨_, fd, F, fn_ok F sc_behind_number (fun _ _ _ h => len_behind_number h) (fun cdv A outer s H E hr => ⟨t_behind_number K, ?_, fun _ _ _ h => walk_behind_number h⟩), g_behind_number g, F.kp, F.bindsN fun _ _ _ _ _ _ us hl => match us, hl with | [_, _], _ => rfl⟩
  exact (pss_cons (ps_if (pt_cmpR (uLt K rfl) (pv 1) pe_int (nomark _)) (pss_one (ps_ret pe_non)) pss_nil)
  (pss_cons (ps_for PassesOwn.never rfl (pi_range2 rfl (f_range g) (pa_cons (pv 1) (pa_cons (pe_callB (uLen K rfl) rfl (f_len g) PySem.boot_len (pa_cons (pv 0) pa_nil)) pa_nil))) (pg_name (i := 2) sc_behind_number.nd rfl (Or.inl rfl)) (pss_one (ps_if (pt_cmpR (uLt K rfl) (pe_ix (uIx K rfl) (pv 0) (pv 2) (fun _ _ => rfl)) (C8.pe_gc rfl (k_BASE g)) (nomark _)) (pss_one (ps_ret (pe_op (uAdd K rfl) (pv 2) pe_int))) pss_nil)))
  (pss_one (ps_ret pe_non))))

theorem sc_sum_of_octets : FnScope ["octets", "found", "at", "octet"] ["octets"] (defScope s_sum_of_octets) := ⟨rfl, rfl, rfl, by decide +kernel, rfl, by decide +kernel, by decide +kernel⟩
theorem ca_sum_of_octets {P : Program} {w : World} {K : PySem.W.Frag} {mg : Str → Option Value} {base : Heap} (g : G K mg)  : Ca P w K mg base 1 "sum_of_octets" ["octets"] d_sum_of_octets pre_sum_of_octets := by
  obtain ⟨fd, F⟩ := g.says.def_ 13 (d := d_sum_of_octets) rfl
  refine ⟨_, fd, F, fn_ok F sc_sum_of_octets (fun _ _ _ h => len_sum_of_octets h) (fun cdv A outer s H E hr => ⟨t_sum_of_octets K, ?_, fun _ _ _ h => walk_sum_of_octets h⟩), g_sum_of_octets g, F.kp, F.bindsN fun _ _ _ _ _ _ us hl => match us, hl with | [_], _ => rfl⟩
  exact (pss_cons (ps_set (i := 1) sc_sum_of_octets.nd rfl (Or.inl rfl) pe_int)
  (pss_cons (ps_for PassesOwn.never rfl (qEn K rfl (f_enumerate g) rfl (pa_cons (pvF 0) pa_nil)) (qTup K rfl rfl (pgs_cons (pg_name (i := 2) sc_sum_of_octets.nd rfl (Or.inl rfl)) (pgs_cons (pg_name (i := 3) sc_sum_of_octets.nd rfl (Or.inl rfl)) pgs_nil))) (pss_one (ps_aug (i := 1) sc_sum_of_octets.nd rfl (Or.inl rfl) (pe_op (uMul K rfl) (pe_op (uAdd K rfl) (pv 2) pe_int) (pv 3)) (qAdd K rfl))))
  (pss_one (ps_ret (pe_op (uMod K rfl) (pv 1) (C8.pe_gc rfl (k_PRIME g)))))))

theorem sc__law_deal : FnScope ["script", "salt", "most", "cells", "mix", "cell"] ["script", "salt"] (defScope s__law_deal) := ⟨rfl, rfl, rfl, by decide +kernel, rfl, by decide +kernel, by decide +kernel⟩
theorem ca__law_deal {P : Program} {w : World} {K : PySem.W.Frag} {mg : Str → Option Value} {base : Heap} (g : G K mg)  : Ca P w K mg base 1 "_law_deal" ["script", "salt"] d__law_deal pre__law_deal := by
  obtain ⟨fd, F⟩ := g.says.def_ 18 (d := d__law_deal) rfl
  refine ⟨_, fd, F, fn_ok F sc__law_deal (fun _ _ _ h => len__law_deal h) (fun cdv A outer s H E hr => ⟨t__law_deal K, ?_, fun _ _ _ h => walk__law_deal h⟩), g__law_deal g, F.kp, F.bindsN fun _ _ _ _ _ _ us hl => match us, hl with | [_, _], _ => rfl⟩
  exact (pss_cons (ps_set (i := 2) sc__law_deal.nd rfl (Or.inr rfl) (pe_op (uMul K rfl) (pe_op (uMul K rfl) (pe_op (uMul K rfl) (pe_op (uMul K rfl) (pe_op (uMul K rfl) (pe_op (uPow K rfl) pe_int pe_int) (pe_op (uPow K rfl) pe_int pe_int)) (pe_op (uPow K rfl) pe_int pe_int)) (pe_op (uPow K rfl) pe_int pe_int)) (pe_op (uPow K rfl) pe_int pe_int)) (pe_op (uPow K rfl) pe_int pe_int)))
  (pss_cons (ps_par (i := 3) (j := 4) rfl sc__law_deal.nd rfl rfl (by decide) rfl rfl (pa_cons (pe_lc (own := [("cell", 5)]) rfl sc__law_deal.nd (qU K rfl (pe_slice (uSl K rfl) (pv 0) po_none (po_some pe_int))) (blkOk_by (by kernel_rfl)) (fun _ _ _ _ _ => (pg_name (i := 5) sc__law_deal.nd rfl (Or.inl rfl))) (fun _ _ _ _ _ => pts_nil) (fun _ _ _ _ _ => (pe_op (uMod K rfl) (pe_callTy (uInt K rfl) rfl (f_int g) PyProof.Rows.boot_int (pa_cons (pe_callB (uAbs K rfl) rfl (f_abs g) PyProof.Rows.boot_abs (pa_cons (pe_callTy (uInt K rfl) rfl (f_int g) PyProof.Rows.boot_int (pa_cons (pv 5) pa_nil)) pa_nil)) pa_nil)) (pv 2)))) (pa_cons (pe_op (uAdd K rfl) pe_int (pe_op (uMul K rfl) pe_int (pv 1))) pa_nil)) rfl)
  (pss_cons (ps_for PassesOwn.never rfl (qU K rfl (pvF 3)) (pg_name (i := 5) sc__law_deal.nd rfl (Or.inl rfl)) (pss_one (ps_set (i := 4) sc__law_deal.nd rfl (Or.inl rfl) (pe_op (uMod K rfl) (pe_callTy (uInt K rfl) rfl (f_int g) PyProof.Rows.boot_int (pa_cons (pe_op (uAdd K rfl) (pe_op (uAdd K rfl) (pe_op (uMul K rfl) (pv 4) pe_int) (pe_op (uMod K rfl) (pe_callTy (uInt K rfl) rfl (f_int g) PyProof.Rows.boot_int (pa_cons (pv 5) pa_nil)) pe_int)) pe_int) pa_nil)) pe_int))))
  (pss_one (ps_ret (pe_lst (pa_cons (qRev K rfl (pe_lc (own := [("cell", 5)]) rfl sc__law_deal.nd (qU K rfl (pvF 3)) (blkOk_by (by kernel_rfl)) (fun _ _ _ _ _ => (pg_name (i := 5) sc__law_deal.nd rfl (Or.inl rfl))) (fun _ _ _ _ _ => (pts_one (pt_cmpR (uGe K rfl) (pv 5) (pe_op (uPow K rfl) pe_int pe_int) (nomark _)))) (fun _ _ _ _ _ => (pvF 5)))) (pa_cons (pvF 4) pa_nil))))))))

theorem sc__law_any : FnScope ["deal", "bound", "rest"] ["deal", "bound"] (defScope s__law_any) := ⟨rfl, rfl, rfl, by decide +kernel, rfl, by decide +kernel, by decide +kernel⟩
theorem ca__law_any {P : Program} {w : World} {K : PySem.W.Frag} {mg : Str → Option Value} {base : Heap} (g : G K mg)  : Ca P w K mg base 1 "_law_any" ["deal", "bound"] d__law_any pre__law_any := by
  obtain ⟨fd, F⟩ := g.says.def_ 19 (d := d__law_any) rfl
  refine ⟨_, fd, F, fn_ok F sc__law_any (fun _ _ _ h => len__law_any h) (fun cdv A outer s H E hr => ⟨t__law_any K, ?_, fun _ _ _ h => walk__law_any h⟩), g__law_any g, F.kp, F.bindsN fun _ _ _ _ _ _ us hl => match us, hl with | [_, _], _ => rfl⟩
  exact (pss_cons (ps_while PassesOwn.never (PW.pt (pw_and (pt_cmpR (uGt K rfl) (pe_callB (uLen K rfl) rfl (f_len g) PySem.boot_len (pa_cons (pe_ix (uIx K rfl) (pv 0) pe_int (fun _ _ => rfl)) pa_nil)) pe_int (nomark _)) (pw_and1 (pt_cmpR (uEq K rfl hr.units) (pe_ix (uIx K rfl) (pe_ix (uIx K rfl) (pv 0) pe_int (fun _ _ => rfl)) (pe_un (uNeg K rfl) pe_int) (fun _ _ => rfl)) pe_int (nomark _))))) (pss_one (ps_expr (qPop K rfl (pe_ix (uIx K rfl) (pv 0) pe_int (fun _ _ => rfl))))))
  (pss_cons (ps_if (pt_cmpR (uGt K rfl) (pe_callB (uLen K rfl) rfl (f_len g) PySem.boot_len (pa_cons (pe_ix (uIx K rfl) (pv 0) pe_int (fun _ _ => rfl)) pa_nil)) pe_int (nomark _)) (pss_cons (ps_set (i := 2) sc__law_any.nd rfl (Or.inl rfl) (pe_callTy (uInt K rfl) rfl (f_int g) PyProof.Rows.boot_int (pa_cons (qPop K rfl (pe_ix (uIx K rfl) (pv 0) pe_int (fun _ _ => rfl))) pa_nil)))
  (pss_cons (ps_expr (qAppend K rfl (pe_ix (uIx K rfl) (pv 0) pe_int (fun _ _ => rfl)) (pe_op (uDiv K rfl) (pv 2) (pv 1))))
  (pss_one (ps_ret (pe_op (uMod K rfl) (pv 2) (pv 1)))))) pss_nil)
  (pss_cons (ps_asg (pe_op (uMod K rfl) (pe_callTy (uInt K rfl) rfl (f_int g) PyProof.Rows.boot_int (pa_cons (pe_op (uAdd K rfl) (pe_op (uMul K rfl) (pe_ix (uIx K rfl) (pv 0) pe_int (fun _ _ => rfl)) pe_int) pe_int) pa_nil)) pe_int) (pg_sub (pv 0) pe_int set_list))
  (pss_one (ps_ret (pe_op (uMod K rfl) (pe_callTy (uInt K rfl) rfl (f_int g) PyProof.Rows.boot_int (pa_cons (pe_op (uDiv K rfl) (pe_ix (uIx K rfl) (pv 0) pe_int (fun _ _ => rfl)) pe_int) pa_nil)) (pv 1)))))))

theorem sc__law_is_kind : FnScope ["told", "due"] ["told", "due"] (defScope s__law_is_kind) := ⟨rfl, rfl, rfl, by decide +kernel, rfl, by decide +kernel, by decide +kernel⟩
theorem ca__law_is_kind {P : Program} {w : World} {K : PySem.W.Frag} {mg : Str → Option Value} {base : Heap} (g : G K mg)  : Ca P w K mg base 1 "_law_is_kind" ["told", "due"] d__law_is_kind pre__law_is_kind := by
  obtain ⟨fd, F⟩ := g.says.def_ 21 (d := d__law_is_kind) rfl
  refine ⟨_, fd, F, fn_ok F sc__law_is_kind (fun _ _ _ h => len__law_is_kind h) (fun cdv A outer s H E hr => ⟨t__law_is_kind K, ?_, fun _ _ _ h => walk__law_is_kind (kd g) h⟩), g__law_is_kind g, F.kp, F.bindsN fun _ _ _ _ _ _ us hl => match us, hl with | [_, _], _ => rfl⟩
  exact (pss_cons (ps_if (pt_cmpR (uIs K rfl) (pv 1) pe_non (nomark _)) (pss_one (ps_ret (pe_cmpR (uIs K rfl) (pv 0) pe_non (nomark _)))) pss_nil)
  (pss_cons (ps_if (PW.pt (pw_or (pt_cmpR (uIs K rfl) (pv 1) pe_bl (nomark _)) (pw_or1 (pt_cmpR (uIs K rfl) (pv 1) pe_bl (nomark _))))) (pss_one (ps_ret (pe_ifExp (pt_val (pv 1)) (pe_cmpR (uIs K rfl) (pv 0) pe_bl (nomark _)) (pe_cmpR (uIs K rfl) (pv 0) pe_bl (nomark _))))) pss_nil)
  (pss_cons (ps_if (pt_val (pe_callB (qIsi K rfl) rfl (f_isinstance g) PyProof.Rows.boot_isinstance (pa_cons (pv 1) (pa_cons (pe_bltn (v := .ty "str") rfl (f_str g) PyProof.Rows.boot_str rfl) pa_nil)))) (pss_one (ps_ret (pe_and (pe_callB (qIsi K rfl) rfl (f_isinstance g) PyProof.Rows.boot_isinstance (pa_cons (pv 0) (pa_cons (pe_bltn (v := .ty "str") rfl (f_str g) PyProof.Rows.boot_str rfl) pa_nil))) (pe_one (pe_cmpR (uEq K rfl hr.units) (pv 0) (pv 1) (nomark _)))))) pss_nil)
  (pss_one (ps_ret (pe_and (pe_callB (qIsi K rfl) rfl (f_isinstance g) PyProof.Rows.boot_isinstance (pa_cons (pv 0) (pa_cons (pe_bltn (v := .ty "int") rfl (f_int g) PyProof.Rows.boot_int rfl) pa_nil))) (pe_and (pe_not (pe_callB (qIsi K rfl) rfl (f_isinstance g) PyProof.Rows.boot_isinstance (pa_cons (pv 0) (pa_cons (pe_bltn (v := .ty "bool") rfl (f_bool g) PyProof.Rows.boot_bool rfl) pa_nil)))) (pe_one (pe_cmpR (uEq K rfl hr.units) (pv 0) (pv 1) (nomark _))))))))))

theorem sc__law_plain : FnScope ["value"] ["value"] (defScope s__law_plain) := ⟨rfl, rfl, rfl, by decide +kernel, rfl, by decide +kernel, by decide +kernel⟩
theorem ca__law_plain {P : Program} {w : World} {K : PySem.W.Frag} {mg : Str → Option Value} {base : Heap} (g : G K mg)  : Ca P w K mg base 1 "_law_plain" ["value"] d__law_plain pre__law_plain := by
  obtain ⟨fd, F⟩ := g.says.def_ 24 (d := d__law_plain) rfl
  refine ⟨_, fd, F, fn_ok F sc__law_plain (fun _ _ _ h => len__law_plain h) (fun cdv A outer s H E hr => ⟨t__law_plain K, ?_, fun _ _ _ h => walk__law_plain (kx g) h⟩), g__law_plain g, F.kp, F.bindsN fun _ _ _ _ _ _ us hl => match us, hl with | [_], _ => rfl⟩
  exact (pss_cons (ps_if (pt_val (pe_callB (qIsi K rfl) rfl (f_isinstance g) PyProof.Rows.boot_isinstance (pa_cons (pv 0) (pa_cons (pe_glob (v := .ref (He.ga K "Finding")) rfl (g_Finding g) rfl) pa_nil)))) (pss_one (ps_ret (pe_tup (pa_cons pe_str (pa_cons (pe_fld (pv 0) rfl) (pa_cons (pe_fld (pv 0) rfl) pa_nil)))))) pss_nil)
  (pss_cons (ps_if (pt_val (pe_callB (qIsiT K rfl) rfl (f_isinstance g) PyProof.Rows.boot_isinstance (pa_cons (pv 0) (pa_cons (pe_tup (pa_cons (pe_glob (v := .ref (He.ga K "NamesAnswer")) rfl (g_NamesAnswer g) rfl) (pa_cons (pe_glob (v := .ref (He.ga K "LevelsAnswer")) rfl (g_LevelsAnswer g) rfl) pa_nil))) pa_nil)))) (pss_one (ps_ret (pe_tup (pa_cons (pe_ifExp (pt_val (pe_callB (qIsi K rfl) rfl (f_isinstance g) PyProof.Rows.boot_isinstance (pa_cons (pv 0) (pa_cons (pe_glob (v := .ref (He.ga K "NamesAnswer")) rfl (g_NamesAnswer g) rfl) pa_nil)))) pe_str pe_str) (pa_cons (pe_fld (pv 0) rfl) (pa_cons (pe_fld (pv 0) rfl) (pa_cons (pe_fld (pv 0) rfl) pa_nil))))))) pss_nil)
  (pss_one (ps_ret (pe_ifExp (pt_val (pe_callB (qIsi K rfl) rfl (f_isinstance g) PyProof.Rows.boot_isinstance (pa_cons (pv 0) (pa_cons (pe_glob (v := .ref (He.ga K "Web")) rfl (g_Web g) rfl) pa_nil)))) (pe_tup (pa_cons pe_str (pa_cons (pe_fld (pv 0) rfl) (pa_cons (pe_fld (pv 0) rfl) pa_nil)))) (pv 0))))))

theorem sc__law_number_octets : FnScope ["number", "found", "rest"] ["number"] (defScope s__law_number_octets) := ⟨rfl, rfl, rfl, by decide +kernel, rfl, by decide +kernel, by decide +kernel⟩
theorem ca__law_number_octets {P : Program} {w : World} {K : PySem.W.Frag} {mg : Str → Option Value} {base : Heap} (g : G K mg)  : Ca P w K mg base 1 "_law_number_octets" ["number"] d__law_number_octets pre__law_number_octets := by
  obtain ⟨fd, F⟩ := g.says.def_ 25 (d := d__law_number_octets) rfl
  refine ⟨_, fd, F, fn_ok F sc__law_number_octets (fun _ _ _ h => len__law_number_octets h) (fun cdv A outer s H E hr => ⟨t__law_number_octets K, ?_, fun _ _ _ h => walk__law_number_octets h⟩), g__law_number_octets g, F.kp, F.bindsN fun _ _ _ _ _ _ us hl => match us, hl with | [_], _ => rfl⟩
  exact (pss_cons (ps_par (i := 1) (j := 2) rfl sc__law_number_octets.nd rfl rfl (by decide) rfl rfl (pa_cons (pe_lst pa_nil) (pa_cons (pvF 0) pa_nil)) rfl)
  (pss_cons (ps_while PassesOwn.never (pt_cmpR (uGt K rfl) (pv 2) pe_int (nomark _)) (pss_cons (ps_expr (qAppend K rfl (pv 1) (pe_op (uAdd K rfl) (pe_op (uMod K rfl) (pe_callTy (uInt K rfl) rfl (f_int g) PyProof.Rows.boot_int (pa_cons (pv 2) pa_nil)) pe_int) pe_int)))
  (pss_one (ps_set (i := 2) sc__law_number_octets.nd rfl (Or.inl rfl) (pe_op (uDiv K rfl) (pv 2) pe_int)))))
  (pss_one (ps_ret (pe_op (uAdd K rfl) (pv 1) (pe_lst (pa_cons (pvF 2) pa_nil)))))))

theorem sc__law_sum : FnScope ["octets", "at"] ["octets"] (defScope s__law_sum) := ⟨rfl, rfl, rfl, by decide +kernel, rfl, by decide +kernel, by decide +kernel⟩
theorem ca__law_sum {P : Program} {w : World} {K : PySem.W.Frag} {mg : Str → Option Value} {base : Heap} (g : G K mg)  : Ca P w K mg base 1 "_law_sum" ["octets"] d__law_sum pre__law_sum := by
  obtain ⟨fd, F⟩ := g.says.def_ 26 (d := d__law_sum) rfl
  refine ⟨_, fd, F, fn_ok F sc__law_sum (fun _ _ _ h => len__law_sum h) (fun cdv A outer s H E hr => ⟨t__law_sum K, ?_, fun _ _ _ h => walk__law_sum h⟩), g__law_sum g, F.kp, F.bindsN fun _ _ _ _ _ _ us hl => match us, hl with | [_], _ => rfl⟩
  exact (pss_one (ps_ret (pe_op (uMod K rfl) (pe_callTy (uInt K rfl) rfl (f_int g) PyProof.Rows.boot_int (pa_cons (pe_callB (uSum K rfl rfl) rfl (f_sum g) PyProof.Rows.boot_sum (pa_cons (pe_lc (own := [("at", 1)]) rfl sc__law_sum.nd (pi_range1 rfl (f_range g) (pa_cons (pe_callB (uLen K rfl) rfl (f_len g) PySem.boot_len (pa_cons (pv 0) pa_nil)) pa_nil)) (blkOk_by (by kernel_rfl)) (fun _ _ _ _ _ => (pg_name (i := 1) sc__law_sum.nd rfl (Or.inl rfl))) (fun _ _ _ _ _ => pts_nil) (fun _ _ _ _ _ => (pe_op (uMul K rfl) (pe_ix (uIx K rfl) (pv 0) (pv 1) (fun _ _ => rfl)) (pe_op (uAdd K rfl) (pv 1) pe_int)))) pa_nil)) pa_nil)) pe_int)))

theorem sc__law_joined : FnScope ["rows", "found", "row"] ["rows"] (defScope s__law_joined) := ⟨rfl, rfl, rfl, by decide +kernel, rfl, by decide +kernel, by decide +kernel⟩
theorem ca__law_joined {P : Program} {w : World} {K : PySem.W.Frag} {mg : Str → Option Value} {base : Heap} (g : G K mg)  : Ca P w K mg base 1 "_law_joined" ["rows"] d__law_joined pre__law_joined := by
  obtain ⟨fd, F⟩ := g.says.def_ 28 (d := d__law_joined) rfl
  refine ⟨_, fd, F, fn_ok F sc__law_joined (fun _ _ _ h => len__law_joined h) (fun cdv A outer s H E hr => ⟨t__law_joined K, ?_, fun _ _ _ h => walk__law_joined h⟩), g__law_joined g, F.kp, F.bindsN fun _ _ _ _ _ _ us hl => match us, hl with | [_], _ => rfl⟩
  exact (pss_cons (ps_set (i := 1) sc__law_joined.nd rfl (Or.inl rfl) (pe_lst pa_nil))
  (pss_cons (ps_for PassesOwn.never rfl (qU K rfl (pvF 0)) (pg_name (i := 2) sc__law_joined.nd rfl (Or.inl rfl)) (pss_one (ps_set (i := 1) sc__law_joined.nd rfl (Or.inl rfl) (pe_op (uAdd K rfl) (pv 1) (pv 2)))))
  (pss_one (ps_ret (pv 1)))))

theorem sc__law_number_at : FnScope ["octets", "at", "number", "base", "place"] ["octets", "at"] (defScope s__law_number_at) := ⟨rfl, rfl, rfl, by decide +kernel, rfl, by decide +kernel, by decide +kernel⟩
theorem ca__law_number_at {P : Program} {w : World} {K : PySem.W.Frag} {mg : Str → Option Value} {base : Heap} (g : G K mg)  : Ca P w K mg base 1 "_law_number_at" ["octets", "at"] d__law_number_at pre__law_number_at := by
  obtain ⟨fd, F⟩ := g.says.def_ 30 (d := d__law_number_at) rfl
  refine ⟨_, fd, F, fn_ok F sc__law_number_at (fun _ _ _ h => len__law_number_at h) (fun cdv A outer s H E hr => ⟨t__law_number_at K, ?_, fun _ _ _ h => walk__law_number_at h⟩), g__law_number_at g, F.kp, F.bindsN fun _ _ _ _ _ _ us hl => match us, hl with | [_, _], _ => rfl⟩
  exact (pss_cons (ps_par3 (i := 2) (j := 3) (l := 4) rfl sc__law_number_at.nd rfl rfl rfl (by decide) (by decide) (by decide) rfl rfl rfl (pa_cons pe_int (pa_cons pe_int (pa_cons (pvF 1) pa_nil))) rfl)
  (pss_cons (ps_if (pt_cmpR (uLt K rfl) (pv 1) pe_int (nomark _)) (pss_one (ps_ret pe_non)) pss_nil)
  (pss_cons (ps_while PassesOwn.never (PW.pt (pw_and (pt_cmpR (uLt K rfl) (pv 4) (pe_callB (uLen K rfl) rfl (f_len g) PySem.boot_len (pa_cons (pv 0) pa_nil)) (nomark _)) (pw_and1 (pt_cmpR (uGt K rfl) (pe_ix (uIx K rfl) (pv 0) (pv 4) (fun _ _ => rfl)) pe_int (nomark _))))) (pss_one (ps_par3 (i := 2) (j := 3) (l := 4) rfl sc__law_number_at.nd rfl rfl rfl (by decide) (by decide) (by decide) rfl rfl rfl (pa_cons (pe_op (uAdd K rfl) (pv 2) (pe_op (uMul K rfl) (pv 3) (pe_op (uSub K rfl) (pe_ix (uIx K rfl) (pv 0) (pv 4) (fun _ _ => rfl)) pe_int))) (pa_cons (pe_op (uMul K rfl) (pv 3) pe_int) (pa_cons (pe_op (uAdd K rfl) (pv 4) pe_int) pa_nil))) rfl)))
  (pss_cons (ps_if (PW.pt (pw_or (pt_cmpR (uGe K rfl) (pv 4) (pe_callB (uLen K rfl) rfl (f_len g) PySem.boot_len (pa_cons (pv 0) pa_nil)) (nomark _)) (pw_or1 (PW.pt (pw_and (pt_cmpR (uGt K rfl) (pv 4) (pv 1) (nomark _)) (pw_and1 (pt_cmpR (uEq K rfl hr.units) (pe_ix (uIx K rfl) (pv 0) (pv 4) (fun _ _ => rfl)) pe_int (nomark _)))))))) (pss_one (ps_ret pe_non)) pss_nil)
  (pss_one (ps_ret (pe_tup (pa_cons (pe_op (uAdd K rfl) (pv 2) (pe_op (uMul K rfl) (pv 3) (pe_ix (uIx K rfl) (pv 0) (pv 4) (fun _ _ => rfl)))) (pa_cons (pe_op (uAdd K rfl) (pv 4) pe_int) pa_nil)))))))))

theorem sc_number_in : FnScope ["octets", "at", "end", "figures", "octet"] ["octets", "at"] (defScope s_number_in) := ⟨rfl, rfl, rfl, by decide +kernel, rfl, by decide +kernel, by decide +kernel⟩
theorem ca_number_in {P : Program} {w : World} {K : PySem.W.Frag} {mg : Str → Option Value} {base : Heap} (g : G K mg) (c_behind_number : Ca P w K mg base 1 "behind_number" ["octets", "at"] d_behind_number pre_behind_number) (c_number_of : Ca P w K mg base 1 "number_of" ["figures"] d_number_of pre_number_of) : Ca P w K mg base 2 "number_in" ["octets", "at"] d_number_in pre_number_in := by
  obtain ⟨fd, F⟩ := g.says.def_ 11 (d := d_number_in) rfl
  refine ⟨_, fd, F, fn_ok F sc_number_in (fun _ _ _ h => len_number_in h) (fun cdv A outer s H E hr => ⟨t_number_in K, ?_, fun _ _ _ h => walk_number_in h⟩), g_number_in g, F.kp, F.bindsN fun _ _ _ _ _ _ us hl => match us, hl with | [_, _], _ => rfl⟩
  exact (pss_cons (ps_set (i := 2) sc_number_in.nd rfl (Or.inl rfl) (pe_ca c_behind_number K rfl hr (by decide) rfl (pa_cons (pvF 0) (pa_cons (pvF 1) pa_nil))))
  (pss_cons (ps_if (PW.pt (pw_or (pt_cmpR (uIs K rfl) (pv 2) pe_non (nomark _)) (pw_or1 (PW.pt (pw_and (pt_cmpR (uGt K rfl) (pe_op (uSub K rfl) (pv 2) (pv 1)) pe_int (nomark _)) (pw_and1 (pt_cmpR (uEq K rfl hr.units) (pe_ix (uIx K rfl) (pv 0) (pe_op (uSub K rfl) (pv 2) pe_int) (fun _ _ => rfl)) pe_int (nomark _)))))))) (pss_one (ps_ret pe_non)) pss_nil)
  (pss_cons (ps_set (i := 3) sc_number_in.nd rfl (Or.inl rfl) (pe_op (uAdd K rfl) (pe_lc (own := [("octet", 4)]) rfl sc_number_in.nd (qU K rfl (pe_slice (uSl K rfl) (pv 0) (po_some (pv 1)) (po_some (pe_op (uSub K rfl) (pv 2) pe_int)))) (blkOk_by (by kernel_rfl)) (fun _ _ _ _ _ => (pg_name (i := 4) sc_number_in.nd rfl (Or.inl rfl))) (fun _ _ _ _ _ => pts_nil) (fun _ _ _ _ _ => (pe_op (uSub K rfl) (pv 4) (C8.pe_gc rfl (k_BASE g))))) (pe_lst (pa_cons (pe_ix (uIx K rfl) (pv 0) (pe_op (uSub K rfl) (pv 2) pe_int) (fun _ _ => rfl)) pa_nil))))
  (pss_one (ps_ret (pe_tup (pa_cons (pe_ca c_number_of K rfl hr (by decide) rfl (pa_cons (pvF 3) pa_nil)) (pa_cons (pvF 2) pa_nil))))))))

theorem sc_number_octets : FnScope ["number"] ["number"] (defScope s_number_octets) := ⟨rfl, rfl, rfl, by decide +kernel, rfl, by decide +kernel, by decide +kernel⟩
theorem ca_number_octets {P : Program} {w : World} {K : PySem.W.Frag} {mg : Str → Option Value} {base : Heap} (g : G K mg) (c_octets_of_number : Ca P w K mg base 1 "octets_of_number" ["number"] d_octets_of_number pre_octets_of_number) : Ca P w K mg base 2 "number_octets" ["number"] d_number_octets pre_number_octets := by
  obtain ⟨fd, F⟩ := g.says.def_ 12 (d := d_number_octets) rfl
  refine ⟨_, fd, F, fn_ok F sc_number_octets (fun _ _ _ h => len_number_octets h) (fun cdv A outer s H E hr => ⟨t_number_octets K, ?_, fun _ _ _ h => walk_number_octets h⟩), g_number_octets g, F.kp, F.bindsN fun _ _ _ _ _ _ us hl => match us, hl with | [_], _ => rfl⟩
  exact (pss_one (ps_ret (pe_ca c_octets_of_number K rfl hr (by decide) rfl (pa_cons (pvF 0) pa_nil))))

theorem sc_sum_pair : FnScope ["body", "found"] ["body"] (defScope s_sum_pair) := ⟨rfl, rfl, rfl, by decide +kernel, rfl, by decide +kernel, by decide +kernel⟩
theorem ca_sum_pair {P : Program} {w : World} {K : PySem.W.Frag} {mg : Str → Option Value} {base : Heap} (g : G K mg) (c_sum_of_octets : Ca P w K mg base 1 "sum_of_octets" ["octets"] d_sum_of_octets pre_sum_of_octets) : Ca P w K mg base 2 "sum_pair" ["body"] d_sum_pair pre_sum_pair := by
  obtain ⟨fd, F⟩ := g.says.def_ 14 (d := d_sum_pair) rfl
  refine ⟨_, fd, F, fn_ok F sc_sum_pair (fun _ _ _ h => len_sum_pair h) (fun cdv A outer s H E hr => ⟨t_sum_pair K, ?_, fun _ _ _ h => walk_sum_pair h⟩), g_sum_pair g, F.kp, F.bindsN fun _ _ _ _ _ _ us hl => match us, hl with | [_], _ => rfl⟩
  exact (pss_cons (ps_set (i := 1) sc_sum_pair.nd rfl (Or.inl rfl) (pe_ca c_sum_of_octets K rfl hr (by decide) rfl (pa_cons (pvF 0) pa_nil)))
  (pss_one (ps_ret (pe_tup (pa_cons (pe_op (uMod K rfl) (pv 1) (C8.pe_gc rfl (k_OCTET g))) (pa_cons (pe_op (uDiv K rfl) (pv 1) (C8.pe_gc rfl (k_OCTET g))) pa_nil))))))

theorem sc__law_of : FnScope ["deal", "some"] ["deal", "some"] (defScope s__law_of) := ⟨rfl, rfl, rfl, by decide +kernel, rfl, by decide +kernel, by decide +kernel⟩
theorem ca__law_of {P : Program} {w : World} {K : PySem.W.Frag} {mg : Str → Option Value} {base : Heap} (g : G K mg) (c__law_any : Ca P w K mg base 1 "_law_any" ["deal", "bound"] d__law_any pre__law_any) : Ca P w K mg base 2 "_law_of" ["deal", "some"] d__law_of pre__law_of := by
  obtain ⟨fd, F⟩ := g.says.def_ 20 (d := d__law_of) rfl
  refine ⟨_, fd, F, fn_ok F sc__law_of (fun _ _ _ h => len__law_of h) (fun cdv A outer s H E hr => ⟨t__law_of K, ?_, fun _ _ _ h => walk__law_of h⟩), g__law_of g, F.kp, F.bindsN fun _ _ _ _ _ _ us hl => match us, hl with | [_, _], _ => rfl⟩
  exact (pss_one (ps_ret (pe_ix (uIx K rfl) (pv 1) (pe_ca c__law_any K rfl hr (by decide) rfl (pa_cons (pvF 0) (pa_cons (pe_callB (uLen K rfl) rfl (f_len g) PySem.boot_len (pa_cons (pv 1) pa_nil)) pa_nil))) (fun _ _ => rfl))))

theorem sc__law_same : FnScope ["told", "due", "todo", "one", "other"] ["told", "due"] (defScope s__law_same) := ⟨rfl, rfl, rfl, by decide +kernel, rfl, by decide +kernel, by decide +kernel⟩
theorem ca__law_same {P : Program} {w : World} {K : PySem.W.Frag} {mg : Str → Option Value} {base : Heap} (g : G K mg) (c__law_is_kind : Ca P w K mg base 1 "_law_is_kind" ["told", "due"] d__law_is_kind pre__law_is_kind) (c__law_plain : Ca P w K mg base 1 "_law_plain" ["value"] d__law_plain pre__law_plain) : Ca P w K mg base 2 "_law_same" ["told", "due"] d__law_same pre__law_same := by
  obtain ⟨fd, F⟩ := g.says.def_ 22 (d := d__law_same) rfl
  refine ⟨_, fd, F, fn_ok F sc__law_same (fun _ _ _ h => len__law_same h) (fun cdv A outer s H E hr => ⟨t__law_same K, ?_, fun _ _ _ h => walk__law_same (kd g) h⟩), g__law_same g, F.kp, F.bindsN fun _ _ _ _ _ _ us hl => match us, hl with | [_, _], _ => rfl⟩
  exact (pss_cons (ps_own (i := 2) sc__law_same.nd rfl (Or.inl rfl) (pe_lst (pa_cons (pe_tup (pa_cons (pvF 0) (pa_cons (pvF 1) pa_nil))) pa_nil)))
  (pss_cons (ps_while PassesOwn.never (pt_cmpR (uGt K rfl) (pe_callB (uLen K rfl) rfl (f_len g) PySem.boot_len (pa_cons (pv 2) pa_nil)) pe_int (nomark _)) (pss_cons (ps_asg (qPop K rfl (pv 2)) (qTup K rfl rfl (pgs_cons (pg_name (i := 3) sc__law_same.nd rfl (Or.inl rfl)) (pgs_cons (pg_name (i := 4) sc__law_same.nd rfl (Or.inl rfl)) pgs_nil))))
  (pss_cons (ps_set (i := 3) sc__law_same.nd rfl (Or.inl rfl) (pe_ca c__law_plain K rfl hr (by decide) rfl (pa_cons (pvF 3) pa_nil)))
  (pss_one (ps_if (pt_val (pe_callB (qIsi K rfl) rfl (f_isinstance g) PyProof.Rows.boot_isinstance (pa_cons (pv 4) (pa_cons (pe_bltn (v := .ty "tuple") rfl (f_tuple g) PyProof.Rows.boot_tuple rfl) pa_nil)))) (pss_cons (ps_if (PW.pt (pw_or (pt_not (pt_val (pe_callB (qIsi K rfl) rfl (f_isinstance g) PyProof.Rows.boot_isinstance (pa_cons (pv 3) (pa_cons (pe_bltn (v := .ty "tuple") rfl (f_tuple g) PyProof.Rows.boot_tuple rfl) pa_nil))))) (pw_or1 (pt_cmpR (uNe K rfl hr.units) (pe_callB (uLen K rfl) rfl (f_len g) PySem.boot_len (pa_cons (pv 3) pa_nil)) (pe_callB (uLen K rfl) rfl (f_len g) PySem.boot_len (pa_cons (pv 4) pa_nil)) (nomark _))))) (pss_one (ps_ret pe_bl)) pss_nil)
  (pss_one (ps_own (i := 2) sc__law_same.nd rfl (Or.inl rfl) (pe_op (uAdd K rfl) (pv 2) (qZipL K rfl (f_list g) (f_zip g) rfl rfl rfl (pa_cons (pvF 3) (pa_cons (pvF 4) pa_nil))))))) (pss_one (ps_if (PW.pt (pw_or (pt_val (pe_callB (qIsiT K rfl) rfl (f_isinstance g) PyProof.Rows.boot_isinstance (pa_cons (pv 3) (pa_cons (pe_tup (pa_cons (pe_bltn (v := .ty "tuple") rfl (f_tuple g) PyProof.Rows.boot_tuple rfl) (pa_cons (pe_bltn (v := .ty "list") rfl (f_list g) PyProof.Rows.boot_list rfl) (pa_cons (pe_bltn (v := .ty "dict") rfl (f_dict g) PyProof.Rows.boot_dict rfl) pa_nil)))) pa_nil)))) (pw_or1 (pt_not (pt_val (pe_ca c__law_is_kind K rfl hr (by decide) rfl (pa_cons (pvF 3) (pa_cons (pvF 4) pa_nil)))))))) (pss_one (ps_ret pe_bl)) pss_nil)))))))
  (pss_one (ps_ret pe_bl))))

theorem sc__law_framed : FnScope ["body", "total"] ["body"] (defScope s__law_framed) := ⟨rfl, rfl, rfl, by decide +kernel, rfl, by decide +kernel, by decide +kernel⟩
theorem ca__law_framed {P : Program} {w : World} {K : PySem.W.Frag} {mg : Str → Option Value} {base : Heap} (g : G K mg) (c__law_number_octets : Ca P w K mg base 1 "_law_number_octets" ["number"] d__law_number_octets pre__law_number_octets) (c__law_sum : Ca P w K mg base 1 "_law_sum" ["octets"] d__law_sum pre__law_sum) : Ca P w K mg base 2 "_law_framed" ["body"] d__law_framed pre__law_framed := by
  obtain ⟨fd, F⟩ := g.says.def_ 27 (d := d__law_framed) rfl
  refine ⟨_, fd, F, fn_ok F sc__law_framed (fun _ _ _ h => len__law_framed h) (fun cdv A outer s H E hr => ⟨t__law_framed K, ?_, fun _ _ _ h => walk__law_framed h⟩), g__law_framed g, F.kp, F.bindsN fun _ _ _ _ _ _ us hl => match us, hl with | [_], _ => rfl⟩
  exact (pss_cons (ps_set (i := 1) sc__law_framed.nd rfl (Or.inl rfl) (pe_ca c__law_sum K rfl hr (by decide) rfl (pa_cons (pvF 0) pa_nil)))
  (pss_one (ps_ret (pe_op (uAdd K rfl) (pe_op (uAdd K rfl) (pe_ca c__law_number_octets K rfl hr (by decide) rfl (pa_cons (pe_callB (uLen K rfl) rfl (f_len g) PySem.boot_len (pa_cons (pv 0) pa_nil)) pa_nil)) (pv 0)) (pe_lst (pa_cons (pe_op (uMod K rfl) (pe_callTy (uInt K rfl) rfl (f_int g) PyProof.Rows.boot_int (pa_cons (pv 1) pa_nil)) pe_int) (pa_cons (pe_op (uDiv K rfl) (pv 1) pe_int) pa_nil)))))))

theorem sc__law_frames_in : FnScope ["octets", "bodies", "place", "turn", "told", "body", "behind", "total"] ["octets"] (defScope s__law_frames_in) := ⟨rfl, rfl, rfl, by decide +kernel, rfl, by decide +kernel, by decide +kernel⟩
theorem ca__law_frames_in {P : Program} {w : World} {K : PySem.W.Frag} {mg : Str → Option Value} {base : Heap} (g : G K mg) (c__law_number_at : Ca P w K mg base 1 "_law_number_at" ["octets", "at"] d__law_number_at pre__law_number_at) (c__law_sum : Ca P w K mg base 1 "_law_sum" ["octets"] d__law_sum pre__law_sum) : Ca P w K mg base 2 "_law_frames_in" ["octets"] d__law_frames_in pre__law_frames_in := by
  obtain ⟨fd, F⟩ := g.says.def_ 31 (d := d__law_frames_in) rfl
  refine ⟨_, fd, F, fn_ok F sc__law_frames_in (fun _ _ _ h => len__law_frames_in h) (fun cdv A outer s H E hr => ⟨t__law_frames_in K, ?_, fun _ _ _ h => walk__law_frames_in h⟩), g__law_frames_in g, F.kp, F.bindsN fun _ _ _ _ _ _ us hl => match us, hl with | [_], _ => rfl⟩
  exact (pss_cons (ps_par (i := 1) (j := 2) rfl sc__law_frames_in.nd rfl rfl (by decide) rfl rfl (pa_cons (pe_lst pa_nil) (pa_cons pe_int pa_nil)) rfl)
  (pss_cons (ps_for PassesOwn.never rfl (pi_range1 rfl (f_range g) (pa_cons (pe_op (uAdd K rfl) (pe_callB (uLen K rfl) rfl (f_len g) PySem.boot_len (pa_cons (pv 0) pa_nil)) pe_int) pa_nil)) (pg_name (i := 3) sc__law_frames_in.nd rfl (Or.inl rfl)) (pss_cons (ps_set (i := 4) sc__law_frames_in.nd rfl (Or.inl rfl) (pe_ca c__law_number_at K rfl hr (by decide) rfl (pa_cons (pvF 0) (pa_cons (pvF 2) pa_nil))))
  (pss_cons (ps_if (PW.pt (pw_or (pt_cmpR (uIs K rfl) (pv 4) pe_non (nomark _)) (pw_or1 (pt_cmpR (uGt K rfl) (pe_op (uAdd K rfl) (pe_ix (uIx K rfl) (pv 4) pe_int (fun _ _ => rfl)) pe_int) (pe_op (uSub K rfl) (pe_callB (uLen K rfl) rfl (f_len g) PySem.boot_len (pa_cons (pv 0) pa_nil)) (pe_ix (uIx K rfl) (pv 4) pe_int (fun _ _ => rfl))) (nomark _))))) (pss_one (ps_ret (pe_tup (pa_cons (pvF 1) (pa_cons (pvF 2) pa_nil))))) pss_nil)
  (pss_cons (ps_par (i := 5) (j := 6) rfl sc__law_frames_in.nd rfl rfl (by decide) rfl rfl (pa_cons (pe_slice (uSl K rfl) (pv 0) (po_some (pe_ix (uIx K rfl) (pv 4) pe_int (fun _ _ => rfl))) (po_some (pe_op (uAdd K rfl) (pe_ix (uIx K rfl) (pv 4) pe_int (fun _ _ => rfl)) (pe_ix (uIx K rfl) (pv 4) pe_int (fun _ _ => rfl))))) (pa_cons (pe_op (uAdd K rfl) (pe_ix (uIx K rfl) (pv 4) pe_int (fun _ _ => rfl)) (pe_ix (uIx K rfl) (pv 4) pe_int (fun _ _ => rfl))) pa_nil)) rfl)
  (pss_cons (ps_set (i := 7) sc__law_frames_in.nd rfl (Or.inl rfl) (pe_ca c__law_sum K rfl hr (by decide) rfl (pa_cons (pvF 5) pa_nil)))
  (pss_cons (ps_if (PW.pt (pw_or (pt_cmpR (uNe K rfl hr.units) (pe_ix (uIx K rfl) (pv 0) (pv 6) (fun _ _ => rfl)) (pe_op (uMod K rfl) (pe_callTy (uInt K rfl) rfl (f_int g) PyProof.Rows.boot_int (pa_cons (pv 7) pa_nil)) pe_int) (nomark _)) (pw_or1 (pt_cmpR (uNe K rfl hr.units) (pe_ix (uIx K rfl) (pv 0) (pe_op (uAdd K rfl) (pv 6) pe_int) (fun _ _ => rfl)) (pe_op (uDiv K rfl) (pv 7) pe_int) (nomark _))))) (pss_one (ps_ret (pe_tup (pa_cons (pvF 1) (pa_cons (pvF 2) pa_nil))))) pss_nil)
  (pss_one (ps_par (i := 1) (j := 2) rfl sc__law_frames_in.nd rfl rfl (by decide) rfl rfl (pa_cons (pe_op (uAdd K rfl) (pv 1) (pe_lst (pa_cons (pvF 5) pa_nil))) (pa_cons (pe_op (uAdd K rfl) (pv 6) pe_int) pa_nil)) rfl))))))))
  (pss_one (ps_ret (pe_tup (pa_cons (pvF 1) (pa_cons (pvF 2) pa_nil)))))))

theorem sc_frame : FnScope ["body"] ["body"] (defScope s_frame) := ⟨rfl, rfl, rfl, by decide +kernel, rfl, by decide +kernel, by decide +kernel⟩
theorem ca_frame {P : Program} {w : World} {K : PySem.W.Frag} {mg : Str → Option Value} {base : Heap} (g : G K mg) (c_number_octets : Ca P w K mg base 2 "number_octets" ["number"] d_number_octets pre_number_octets) (c_sum_pair : Ca P w K mg base 2 "sum_pair" ["body"] d_sum_pair pre_sum_pair) : Ca P w K mg base 3 "frame" ["body"] d_frame pre_frame := by
  obtain ⟨fd, F⟩ := g.says.def_ 15 (d := d_frame) rfl
  refine ⟨_, fd, F, fn_ok F sc_frame (fun _ _ _ h => len_frame h) (fun cdv A outer s H E hr => ⟨t_frame K, ?_, fun _ _ _ h => walk_frame h⟩), g_frame g, F.kp, F.bindsN fun _ _ _ _ _ _ us hl => match us, hl with | [_], _ => rfl⟩
  exact (pss_one (ps_ret (pe_op (uAdd K rfl) (pe_op (uAdd K rfl) (pe_ca c_number_octets K rfl hr (by decide) rfl (pa_cons (pe_callB (uLen K rfl) rfl (f_len g) PySem.boot_len (pa_cons (pv 0) pa_nil)) pa_nil)) (pe_callTy (uTuple K rfl) rfl (f_tuple g) PyProof.Rows.boot_tuple (pa_cons (pv 0) pa_nil))) (pe_ca c_sum_pair K rfl hr (by decide) rfl (pa_cons (pvF 0) pa_nil)))))

theorem sc_frame_at : FnScope ["octets", "at", "told", "end", "body"] ["octets", "at"] (defScope s_frame_at) := ⟨rfl, rfl, rfl, by decide +kernel, rfl, by decide +kernel, by decide +kernel⟩
theorem ca_frame_at {P : Program} {w : World} {K : PySem.W.Frag} {mg : Str → Option Value} {base : Heap} (g : G K mg) (c_number_in : Ca P w K mg base 2 "number_in" ["octets", "at"] d_number_in pre_number_in) (c_sum_pair : Ca P w K mg base 2 "sum_pair" ["body"] d_sum_pair pre_sum_pair) : Ca P w K mg base 3 "frame_at" ["octets", "at"] d_frame_at pre_frame_at := by
  obtain ⟨fd, F⟩ := g.says.def_ 16 (d := d_frame_at) rfl
  refine ⟨_, fd, F, fn_ok F sc_frame_at (fun _ _ _ h => len_frame_at h) (fun cdv A outer s H E hr => ⟨t_frame_at K, ?_, fun _ _ _ h => walk_frame_at h⟩), g_frame_at g, F.kp, F.bindsN fun _ _ _ _ _ _ us hl => match us, hl with | [_, _], _ => rfl⟩
  exact (pss_cons (ps_set (i := 2) sc_frame_at.nd rfl (Or.inl rfl) (pe_ca c_number_in K rfl hr (by decide) rfl (pa_cons (pvF 0) (pa_cons (pvF 1) pa_nil))))
  (pss_cons (ps_if (PW.pt (pw_or (pt_cmpR (uIs K rfl) (pv 2) pe_non (nomark _)) (pw_or1 (pt_cmpR (uGt K rfl) (pe_op (uAdd K rfl) (pe_ix (uIx K rfl) (pv 2) pe_int (fun _ _ => rfl)) (C8.pe_gc rfl (k_SUM_OCTETS g))) (pe_op (uSub K rfl) (pe_callB (uLen K rfl) rfl (f_len g) PySem.boot_len (pa_cons (pv 0) pa_nil)) (pe_ix (uIx K rfl) (pv 2) pe_int (fun _ _ => rfl))) (nomark _))))) (pss_one (ps_ret pe_non)) pss_nil)
  (pss_cons (ps_set (i := 3) sc_frame_at.nd rfl (Or.inl rfl) (pe_op (uAdd K rfl) (pe_ix (uIx K rfl) (pv 2) pe_int (fun _ _ => rfl)) (pe_ix (uIx K rfl) (pv 2) pe_int (fun _ _ => rfl))))
  (pss_cons (ps_set (i := 4) sc_frame_at.nd rfl (Or.inl rfl) (pe_slice (uSl K rfl) (pv 0) (po_some (pe_ix (uIx K rfl) (pv 2) pe_int (fun _ _ => rfl))) (po_some (pv 3))))
  (pss_cons (ps_if (pt_cmpR (uNe K rfl hr.units) (pe_slice (uSl K rfl) (pv 0) (po_some (pv 3)) (po_some (pe_op (uAdd K rfl) (pv 3) (C8.pe_gc rfl (k_SUM_OCTETS g))))) (pe_ca c_sum_pair K rfl hr (by decide) rfl (pa_cons (pvF 4) pa_nil)) (nomark _)) (pss_one (ps_ret pe_non)) pss_nil)
  (pss_one (ps_ret (pe_tup (pa_cons (pvF 4) (pa_cons (pe_op (uAdd K rfl) (pv 3) (C8.pe_gc rfl (k_SUM_OCTETS g))) pa_nil))))))))))

theorem sc__law_all : FnScope ["pairs", "told", "due"] ["pairs"] (defScope s__law_all) := ⟨rfl, rfl, rfl, by decide +kernel, rfl, by decide +kernel, by decide +kernel⟩
theorem ca__law_all {P : Program} {w : World} {K : PySem.W.Frag} {mg : Str → Option Value} {base : Heap} (g : G K mg) (c__law_same : Ca P w K mg base 2 "_law_same" ["told", "due"] d__law_same pre__law_same) : Ca P w K mg base 3 "_law_all" ["pairs"] d__law_all pre__law_all := by
  obtain ⟨fd, F⟩ := g.says.def_ 23 (d := d__law_all) rfl
  refine ⟨_, fd, F, fn_ok F sc__law_all (fun _ _ _ h => len__law_all h) (fun cdv A outer s H E hr => ⟨t__law_all K, ?_, fun _ _ _ h => walk__law_all h⟩), g__law_all g, F.kp, F.bindsN fun _ _ _ _ _ _ us hl => match us, hl with | [_], _ => rfl⟩
  exact (pss_one (ps_ret (pe_cmpR (uEq K rfl hr.units) (pe_callB (uLen K rfl) rfl (f_len g) PySem.boot_len (pa_cons (pe_lc (own := [("told", 1), ("due", 2)]) rfl sc__law_all.nd (qU K rfl (pvF 0)) (blkOk_by (by kernel_rfl)) (fun _ _ _ _ _ => (qTup K rfl rfl (pgs_cons (pg_name (i := 1) sc__law_all.nd rfl (Or.inl rfl)) (pgs_cons (pg_name (i := 2) sc__law_all.nd rfl (Or.inl rfl)) pgs_nil)))) (fun _ _ _ _ _ => (pts_one (pt_not (pt_val (pe_ca c__law_same K rfl hr (by decide) rfl (pa_cons (pvF 1) (pa_cons (pvF 2) pa_nil))))))) (fun _ _ _ _ _ => (pvF 1))) pa_nil)) pe_int (nomark _))))

theorem sc__law_octet : FnScope ["deal"] ["deal"] (defScope s__law_octet) := ⟨rfl, rfl, rfl, by decide +kernel, rfl, by decide +kernel, by decide +kernel⟩
theorem ca__law_octet {P : Program} {w : World} {K : PySem.W.Frag} {mg : Str → Option Value} {base : Heap} (g : G K mg) (c__law_any : Ca P w K mg base 1 "_law_any" ["deal", "bound"] d__law_any pre__law_any) (c__law_of : Ca P w K mg base 2 "_law_of" ["deal", "some"] d__law_of pre__law_of) : Ca P w K mg base 3 "_law_octet" ["deal"] d__law_octet pre__law_octet := by
  obtain ⟨fd, F⟩ := g.says.def_ 29 (d := d__law_octet) rfl
  refine ⟨_, fd, F, fn_ok F sc__law_octet (fun _ _ _ h => len__law_octet h) (fun cdv A outer s H E hr => ⟨t__law_octet K, ?_, fun _ _ _ h => walk__law_octet h⟩), g__law_octet g, F.kp, F.bindsN fun _ _ _ _ _ _ us hl => match us, hl with | [_], _ => rfl⟩
  exact (pss_one (ps_ret (pe_ca c__law_of K rfl hr (by decide) rfl (pa_cons (pvF 0) (pa_cons (pe_lst (pa_cons pe_int (pa_cons pe_int (pa_cons pe_int (pa_cons pe_int (pa_cons pe_int (pa_cons (pe_ca c__law_any K rfl hr (by decide) rfl (pa_cons (pvF 0) (pa_cons pe_int pa_nil))) (pa_cons (pe_ca c__law_any K rfl hr (by decide) rfl (pa_cons (pvF 0) (pa_cons pe_int pa_nil))) (pa_cons (pe_ca c__law_any K rfl hr (by decide) rfl (pa_cons (pvF 0) (pa_cons pe_int pa_nil))) pa_nil))))))))) pa_nil)))))

theorem sc__law_due : FnScope ["octets", "bodies", "place", "body"] ["octets"] (defScope s__law_due) := ⟨rfl, rfl, rfl, by decide +kernel, rfl, by decide +kernel, by decide +kernel⟩
theorem ca__law_due {P : Program} {w : World} {K : PySem.W.Frag} {mg : Str → Option Value} {base : Heap} (g : G K mg) (c__law_frames_in : Ca P w K mg base 2 "_law_frames_in" ["octets"] d__law_frames_in pre__law_frames_in) : Ca P w K mg base 3 "_law_due" ["octets"] d__law_due pre__law_due := by
  obtain ⟨fd, F⟩ := g.says.def_ 34 (d := d__law_due) rfl
  refine ⟨_, fd, F, fn_ok F sc__law_due (fun _ _ _ h => len__law_due h) (fun cdv A outer s H E hr => ⟨t__law_due K, ?_, fun _ _ _ h => walk__law_due h⟩), g__law_due g, F.kp, F.bindsN fun _ _ _ _ _ _ us hl => match us, hl with | [_], _ => rfl⟩
  exact (pss_cons (ps_asg (pe_ca c__law_frames_in K rfl hr (by decide) rfl (pa_cons (pvF 0) pa_nil)) (qTup K rfl rfl (pgs_cons (pg_name (i := 1) sc__law_due.nd rfl (Or.inl rfl)) (pgs_cons (pg_name (i := 2) sc__law_due.nd rfl (Or.inl rfl)) pgs_nil))))
  (pss_one (ps_ret (pe_tup (pa_cons (pe_callTy (uTuple K rfl) rfl (f_tuple g) PyProof.Rows.boot_tuple (pa_cons (pe_lc (own := [("body", 3)]) rfl sc__law_due.nd (qU K rfl (pvF 1)) (blkOk_by (by kernel_rfl)) (fun _ _ _ _ _ => (pg_name (i := 3) sc__law_due.nd rfl (Or.inl rfl))) (fun _ _ _ _ _ => pts_nil) (fun _ _ _ _ _ => (pe_callTy (uTuple K rfl) rfl (f_tuple g) PyProof.Rows.boot_tuple (pa_cons (pv 3) pa_nil)))) pa_nil)) (pa_cons (pvF 2) pa_nil))))))

theorem sc_frames : FnScope ["octets", "bodies", "place", "told"] ["octets"] (defScope s_frames) := ⟨rfl, rfl, rfl, by decide +kernel, rfl, by decide +kernel, by decide +kernel⟩
theorem ca_frames {P : Program} {w : World} {K : PySem.W.Frag} {mg : Str → Option Value} {base : Heap} (g : G K mg) (c_frame_at : Ca P w K mg base 3 "frame_at" ["octets", "at"] d_frame_at pre_frame_at) : Ca P w K mg base 4 "frames" ["octets"] d_frames pre_frames := by
  obtain ⟨fd, F⟩ := g.says.def_ 17 (d := d_frames) rfl
  refine ⟨_, fd, F, fn_ok F sc_frames (fun _ _ _ h => len_frames h) (fun cdv A outer s H E hr => ⟨t_frames K, ?_, fun _ _ _ h => walk_frames h⟩), g_frames g, F.kp, F.bindsN fun _ _ _ _ _ _ us hl => match us, hl with | [_], _ => rfl⟩
  exact (pss_cons (ps_set (i := 0) sc_frames.nd rfl (Or.inl rfl) (pe_callTy (uTuple K rfl) rfl (f_tuple g) PyProof.Rows.boot_tuple (pa_cons (pv 0) pa_nil)))
  (pss_cons (ps_par (i := 1) (j := 2) rfl sc_frames.nd rfl rfl (by decide) rfl rfl (pa_cons (pe_lst pa_nil) (pa_cons pe_int pa_nil)) rfl)
  (pss_cons (ps_set (i := 3) sc_frames.nd rfl (Or.inl rfl) (pe_ca c_frame_at K rfl hr (by decide) rfl (pa_cons (pvF 0) (pa_cons pe_int pa_nil))))
  (pss_cons (ps_while PassesOwn.never (pt_cmpR (uIsNot K rfl) (pv 3) pe_non (nomark _)) (pss_cons (ps_expr (qAppend K rfl (pv 1) (pe_ix (uIx K rfl) (pv 3) pe_int (fun _ _ => rfl))))
  (pss_cons (ps_set (i := 2) sc_frames.nd rfl (Or.inl rfl) (pe_ix (uIx K rfl) (pv 3) pe_int (fun _ _ => rfl)))
  (pss_one (ps_set (i := 3) sc_frames.nd rfl (Or.inl rfl) (pe_ca c_frame_at K rfl hr (by decide) rfl (pa_cons (pvF 0) (pa_cons (pvF 2) pa_nil))))))))
  (pss_one (ps_ret (pe_tup (pa_cons (pe_callTy (uTuple K rfl) rfl (f_tuple g) PyProof.Rows.boot_tuple (pa_cons (pv 1) pa_nil)) (pa_cons (pvF 2) pa_nil)))))))))

theorem sc__law_some_body : FnScope ["deal", "many", "one", "step", "turn"] ["deal"] (defScope s__law_some_body) := ⟨rfl, rfl, rfl, by decide +kernel, rfl, by decide +kernel, by decide +kernel⟩
theorem ca__law_some_body {P : Program} {w : World} {K : PySem.W.Frag} {mg : Str → Option Value} {base : Heap} (g : G K mg) (c__law_octet : Ca P w K mg base 3 "_law_octet" ["deal"] d__law_octet pre__law_octet) (c__law_of : Ca P w K mg base 2 "_law_of" ["deal", "some"] d__law_of pre__law_of) : Ca P w K mg base 4 "_law_some_body" ["deal"] d__law_some_body pre__law_some_body := by
  obtain ⟨fd, F⟩ := g.says.def_ 32 (d := d__law_some_body) rfl
  refine ⟨_, fd, F, fn_ok F sc__law_some_body (fun _ _ _ h => len__law_some_body h) (fun cdv A outer s H E hr => ⟨t__law_some_body K, ?_, fun _ _ _ h => walk__law_some_body h⟩), g__law_some_body g, F.kp, F.bindsN fun _ _ _ _ _ _ us hl => match us, hl with | [_], _ => rfl⟩
  exact (pss_cons (ps_set (i := 1) sc__law_some_body.nd rfl (Or.inl rfl) (pe_ca c__law_of K rfl hr (by decide) rfl (pa_cons (pvF 0) (pa_cons (pe_lst (pa_cons pe_int (pa_cons pe_int (pa_cons pe_int (pa_cons pe_int (pa_cons pe_int (pa_cons pe_int (pa_cons pe_int (pa_cons pe_int (pa_cons pe_int (pa_cons pe_int pa_nil))))))))))) pa_nil))))
  (pss_cons (ps_if (pt_cmpR (uGt K rfl) (pv 1) pe_int (nomark _)) (pss_cons (ps_asg (pe_tup (pa_cons (pe_ca c__law_octet K rfl hr (by decide) rfl (pa_cons (pvF 0) pa_nil)) (pa_cons (pe_ca c__law_of K rfl hr (by decide) rfl (pa_cons (pvF 0) (pa_cons (pe_lst (pa_cons pe_int (pa_cons pe_int (pa_cons pe_int (pa_cons pe_int pa_nil))))) pa_nil))) pa_nil))) (qTup K rfl rfl (pgs_cons (pg_name (i := 2) sc__law_some_body.nd rfl (Or.inr rfl)) (pgs_cons (pg_name (i := 3) sc__law_some_body.nd rfl (Or.inr rfl)) pgs_nil))))
  (pss_one (ps_ret (pe_lc (own := [("turn", 4)]) rfl sc__law_some_body.nd (pi_range1 rfl (f_range g) (pa_cons (pv 1) pa_nil)) (blkOk_by (by kernel_rfl)) (fun _ _ _ _ _ => (pg_name (i := 4) sc__law_some_body.nd rfl (Or.inl rfl))) (fun _ _ _ _ _ => pts_nil) (fun _ _ _ _ _ => (pe_op (uMod K rfl) (pe_callTy (uInt K rfl) rfl (f_int g) PyProof.Rows.boot_int (pa_cons (pe_op (uAdd K rfl) (pv 2) (pe_op (uMul K rfl) (pv 4) (pv 3))) pa_nil)) pe_int)))))) pss_nil)
  (pss_one (ps_ret (pe_lc (own := [("turn", 4)]) rfl sc__law_some_body.nd (pi_range1 rfl (f_range g) (pa_cons (pv 1) pa_nil)) (blkOk_by (by kernel_rfl)) (fun _ _ _ _ _ => (pg_name (i := 4) sc__law_some_body.nd rfl (Or.inl rfl))) (fun _ _ _ _ _ => pts_nil) (fun _ _ _ _ _ => (pe_ca c__law_octet K rfl hr (by decide) rfl (pa_cons (pvF 0) pa_nil))))))))

theorem sc__law_bent : FnScope ["deal", "octets", "at", "sort"] ["deal", "octets"] (defScope s__law_bent) := ⟨rfl, rfl, rfl, by decide +kernel, rfl, by decide +kernel, by decide +kernel⟩
theorem ca__law_bent {P : Program} {w : World} {K : PySem.W.Frag} {mg : Str → Option Value} {base : Heap} (g : G K mg) (c__law_any : Ca P w K mg base 1 "_law_any" ["deal", "bound"] d__law_any pre__law_any) (c__law_octet : Ca P w K mg base 3 "_law_octet" ["deal"] d__law_octet pre__law_octet) (c__law_of : Ca P w K mg base 2 "_law_of" ["deal", "some"] d__law_of pre__law_of) : Ca P w K mg base 4 "_law_bent" ["deal", "octets"] d__law_bent pre__law_bent := by
  obtain ⟨fd, F⟩ := g.says.def_ 33 (d := d__law_bent) rfl
  refine ⟨_, fd, F, fn_ok F sc__law_bent (fun _ _ _ h => len__law_bent h) (fun cdv A outer s H E hr => ⟨t__law_bent K, ?_, fun _ _ _ h => walk__law_bent h⟩), g__law_bent g, F.kp, F.bindsN fun _ _ _ _ _ _ us hl => match us, hl with | [_, _], _ => rfl⟩
  exact (pss_cons (ps_if (pt_cmpR (uEq K rfl hr.units) (pe_callB (uLen K rfl) rfl (f_len g) PySem.boot_len (pa_cons (pv 1) pa_nil)) pe_int (nomark _)) (pss_one (ps_ret (pv 1))) pss_nil)
  (pss_cons (ps_par (i := 2) (j := 3) rfl sc__law_bent.nd rfl rfl (by decide) rfl rfl (pa_cons (pe_ca c__law_any K rfl hr (by decide) rfl (pa_cons (pvF 0) (pa_cons (pe_callB (uLen K rfl) rfl (f_len g) PySem.boot_len (pa_cons (pv 1) pa_nil)) pa_nil))) (pa_cons (pe_ca c__law_any K rfl hr (by decide) rfl (pa_cons (pvF 0) (pa_cons pe_int pa_nil))) pa_nil)) rfl)
  (pss_cons (ps_if (pt_cmpR (uEq K rfl hr.units) (pv 3) pe_int (nomark _)) (pss_one (ps_ret (pe_op (uAdd K rfl) (pe_slice (uSl K rfl) (pv 1) po_none (po_some (pv 2))) (pe_slice (uSl K rfl) (pv 1) (po_some (pe_op (uAdd K rfl) (pv 2) pe_int)) po_none)))) pss_nil)
  (pss_cons (ps_if (pt_cmpR (uEq K rfl hr.units) (pv 3) pe_int (nomark _)) (pss_one (ps_ret (pe_op (uAdd K rfl) (pe_op (uAdd K rfl) (pe_slice (uSl K rfl) (pv 1) po_none (po_some (pv 2))) (pe_lst (pa_cons (pe_ca c__law_octet K rfl hr (by decide) rfl (pa_cons (pvF 0) pa_nil)) pa_nil))) (pe_slice (uSl K rfl) (pv 1) (po_some (pv 2)) po_none)))) pss_nil)
  (pss_one (ps_ret (pe_op (uAdd K rfl) (pe_op (uAdd K rfl) (pe_slice (uSl K rfl) (pv 1) po_none (po_some (pv 2))) (pe_lst (pa_cons (pe_op (uMod K rfl) (pe_callTy (uInt K rfl) rfl (f_int g) PyProof.Rows.boot_int (pa_cons (pe_op (uAdd K rfl) (pe_ix (uIx K rfl) (pv 1) (pv 2) (fun _ _ => rfl)) (pe_ca c__law_of K rfl hr (by decide) rfl (pa_cons (pvF 0) (pa_cons (pe_lst (pa_cons pe_int (pa_cons pe_int (pa_cons pe_int (pa_cons (pe_op (uAdd K rfl) pe_int (pe_ca c__law_any K rfl hr (by decide) rfl (pa_cons (pvF 0) (pa_cons pe_int pa_nil)))) pa_nil))))) pa_nil)))) pa_nil)) pe_int) pa_nil))) (pe_slice (uSl K rfl) (pv 1) (po_some (pe_op (uAdd K rfl) (pv 2) pe_int)) po_none))))))))

theorem sc_law : FnScope ["script", "deal", "pairs", "rows", "turn", "body", "row", "octets", "many", "ahead", "last", "cut", "bent", "wrong", "mixed", "one", "total", "number"] ["script"] (defScope s_law) := ⟨rfl, rfl, rfl, by decide +kernel, rfl, by decide +kernel, by decide +kernel⟩
theorem ok_law {P : Program} {w : World} {K : PySem.W.Frag} {mg : Str → Option Value} {base : Heap} {f : Addr} {fd : FuncData} (g : G K mg) (F : FunD K d_law.name d_law.qual d_law.params d_law.body d_law.scope [] [] f fd) (c__law_all : Ca P w K mg base 3 "_law_all" ["pairs"] d__law_all pre__law_all) (c__law_any : Ca P w K mg base 1 "_law_any" ["deal", "bound"] d__law_any pre__law_any) (c__law_bent : Ca P w K mg base 4 "_law_bent" ["deal", "octets"] d__law_bent pre__law_bent) (c__law_deal : Ca P w K mg base 1 "_law_deal" ["script", "salt"] d__law_deal pre__law_deal) (c__law_due : Ca P w K mg base 3 "_law_due" ["octets"] d__law_due pre__law_due) (c__law_framed : Ca P w K mg base 2 "_law_framed" ["body"] d__law_framed pre__law_framed) (c__law_joined : Ca P w K mg base 1 "_law_joined" ["rows"] d__law_joined pre__law_joined) (c__law_number_octets : Ca P w K mg base 1 "_law_number_octets" ["number"] d__law_number_octets pre__law_number_octets) (c__law_octet : Ca P w K mg base 3 "_law_octet" ["deal"] d__law_octet pre__law_octet) (c__law_of : Ca P w K mg base 2 "_law_of" ["deal", "some"] d__law_of pre__law_of) (c__law_some_body : Ca P w K mg base 4 "_law_some_body" ["deal"] d__law_some_body pre__law_some_body) (c_frame : Ca P w K mg base 3 "frame" ["body"] d_frame pre_frame) (c_frames : Ca P w K mg base 4 "frames" ["octets"] d_frames pre_frames) : FnOk P w K mg base CX0 5 f fd ["script"] (spW K pre_law) := by
  refine fn_ok F sc_law (fun _ _ _ h => len_law h) (fun cdv A outer s H E hr => ⟨t_law K, ?_, fun _ _ _ h => walk_law h⟩)
  exact (pss_cons (ps_set (i := 1) sc_law.nd rfl (Or.inr rfl) (pe_ca c__law_deal K rfl hr (by decide) rfl (pa_cons (pvF 0) (pa_cons pe_int pa_nil))))
  (pss_cons (ps_par (i := 2) (j := 3) rfl sc_law.nd rfl rfl (by decide) rfl rfl (pa_cons (pe_lst pa_nil) (pa_cons (pe_lst pa_nil) pa_nil)) rfl)
  (pss_cons (ps_for PassesOwn.never rfl (pi_range1 rfl (f_range g) (pa_cons (pe_ca c__law_of K rfl hr (by decide) rfl (pa_cons (pvF 1) (pa_cons (pe_lst (pa_cons pe_int (pa_cons pe_int (pa_cons pe_int (pa_cons pe_int pa_nil))))) pa_nil))) pa_nil)) (pg_name (i := 4) sc_law.nd rfl (Or.inl rfl)) (pss_cons (ps_set (i := 5) sc_law.nd rfl (Or.inl rfl) (pe_ca c__law_some_body K rfl hr (by decide) rfl (pa_cons (pvF 1) pa_nil)))
  (pss_cons (ps_set (i := 6) sc_law.nd rfl (Or.inl rfl) (pe_ca c__law_framed K rfl hr (by decide) rfl (pa_cons (pvF 5) pa_nil)))
  (pss_cons (ps_expr (qAppend K rfl (pv 2) (pe_tup (pa_cons (pe_ifExp (pt_cmpR (uLt K rfl) (pv 4) pe_int (nomark _)) (pe_ca c_frame K rfl hr (by decide) rfl (pa_cons (pe_callTy (uTuple K rfl) rfl (f_tuple g) PyProof.Rows.boot_tuple (pa_cons (pv 5) pa_nil)) pa_nil)) (pe_caK (ks := ["body"]) c_frame K rfl hr (by decide) rfl (pk_cons (pe_callTy (uTuple K rfl) rfl (f_tuple g) PyProof.Rows.boot_tuple (pa_cons (pv 5) pa_nil)) pk_nil) (fun _ _ _ _ _ _ us ws hu hw => match us, hu, ws, hw with | [], _, [_], _ => rfl))) (pa_cons (pe_callTy (uTuple K rfl) rfl (f_tuple g) PyProof.Rows.boot_tuple (pa_cons (pv 6) pa_nil)) pa_nil)))))
  (pss_one (ps_expr (qAppend K rfl (pv 3) (pe_tup (pa_cons (pvF 5) (pa_cons (pvF 6) pa_nil))))))))))
  (pss_cons (ps_set (i := 7) sc_law.nd rfl (Or.inl rfl) (pe_ca c__law_joined K rfl hr (by decide) rfl (pa_cons (pe_lc (own := [("body", 5), ("row", 6)]) rfl sc_law.nd (qU K rfl (pvF 3)) (blkOk_by (by kernel_rfl)) (fun _ _ _ _ _ => (qTup K rfl rfl (pgs_cons (pg_name (i := 5) sc_law.nd rfl (Or.inl rfl)) (pgs_cons (pg_name (i := 6) sc_law.nd rfl (Or.inl rfl)) pgs_nil)))) (fun _ _ _ _ _ => pts_nil) (fun _ _ _ _ _ => (pvF 6))) pa_nil)))
  (pss_cons (ps_expr (qAppend K rfl (pv 2) (pe_tup (pa_cons (pe_ca c_frames K rfl hr (by decide) rfl (pa_cons (pe_callTy (uTuple K rfl) rfl (f_tuple g) PyProof.Rows.boot_tuple (pa_cons (pv 7) pa_nil)) pa_nil)) (pa_cons (pe_tup (pa_cons (pe_callTy (uTuple K rfl) rfl (f_tuple g) PyProof.Rows.boot_tuple (pa_cons (pe_lc (own := [("body", 5), ("row", 6)]) rfl sc_law.nd (qU K rfl (pvF 3)) (blkOk_by (by kernel_rfl)) (fun _ _ _ _ _ => (qTup K rfl rfl (pgs_cons (pg_name (i := 5) sc_law.nd rfl (Or.inl rfl)) (pgs_cons (pg_name (i := 6) sc_law.nd rfl (Or.inl rfl)) pgs_nil)))) (fun _ _ _ _ _ => pts_nil) (fun _ _ _ _ _ => (pe_callTy (uTuple K rfl) rfl (f_tuple g) PyProof.Rows.boot_tuple (pa_cons (pv 5) pa_nil)))) pa_nil)) (pa_cons (pe_callB (uLen K rfl) rfl (f_len g) PySem.boot_len (pa_cons (pv 7) pa_nil)) pa_nil))) pa_nil)))))
  (pss_cons (ps_for PassesOwn.never rfl (pi_range1 rfl (f_range g) (pa_cons pe_int pa_nil)) (pg_name (i := 4) sc_law.nd rfl (Or.inl rfl)) (pss_cons (ps_set (i := 8) sc_law.nd rfl (Or.inl rfl) (pe_ca c__law_any K rfl hr (by decide) rfl (pa_cons (pvF 1) (pa_cons (pe_callB (uLen K rfl) rfl (f_len g) PySem.boot_len (pa_cons (pv 3) pa_nil)) pa_nil))))
  (pss_cons (ps_set (i := 9) sc_law.nd rfl (Or.inl rfl) (pe_ca c__law_joined K rfl hr (by decide) rfl (pa_cons (pe_lc (own := [("body", 5), ("row", 6)]) rfl sc_law.nd (qU K rfl (pe_slice (uSl K rfl) (pv 3) po_none (po_some (pv 8)))) (blkOk_by (by kernel_rfl)) (fun _ _ _ _ _ => (qTup K rfl rfl (pgs_cons (pg_name (i := 5) sc_law.nd rfl (Or.inl rfl)) (pgs_cons (pg_name (i := 6) sc_law.nd rfl (Or.inl rfl)) pgs_nil)))) (fun _ _ _ _ _ => pts_nil) (fun _ _ _ _ _ => (pvF 6))) pa_nil)))
  (pss_cons (ps_set (i := 10) sc_law.nd rfl (Or.inl rfl) (pe_ix (uIx K rfl) (pe_ix (uIx K rfl) (pv 3) (pv 8) (fun _ _ => rfl)) pe_int (fun _ _ => rfl)))
  (pss_cons (ps_set (i := 11) sc_law.nd rfl (Or.inl rfl) (pe_op (uAdd K rfl) (pv 9) (pe_slice (uSl K rfl) (pv 10) po_none (po_some (pe_ca c__law_any K rfl hr (by decide) rfl (pa_cons (pvF 1) (pa_cons (pe_callB (uLen K rfl) rfl (f_len g) PySem.boot_len (pa_cons (pv 10) pa_nil)) pa_nil)))))))
  (pss_cons (ps_expr (qAppend K rfl (pv 2) (pe_tup (pa_cons (pe_caK (ks := ["octets"]) c_frames K rfl hr (by decide) rfl (pk_cons (pe_callTy (uTuple K rfl) rfl (f_tuple g) PyProof.Rows.boot_tuple (pa_cons (pv 11) pa_nil)) pk_nil) (fun _ _ _ _ _ _ us ws hu hw => match us, hu, ws, hw with | [], _, [_], _ => rfl)) (pa_cons (pe_tup (pa_cons (pe_callTy (uTuple K rfl) rfl (f_tuple g) PyProof.Rows.boot_tuple (pa_cons (pe_lc (own := [("body", 5), ("row", 6)]) rfl sc_law.nd (qU K rfl (pe_slice (uSl K rfl) (pv 3) po_none (po_some (pv 8)))) (blkOk_by (by kernel_rfl)) (fun _ _ _ _ _ => (qTup K rfl rfl (pgs_cons (pg_name (i := 5) sc_law.nd rfl (Or.inl rfl)) (pgs_cons (pg_name (i := 6) sc_law.nd rfl (Or.inl rfl)) pgs_nil)))) (fun _ _ _ _ _ => pts_nil) (fun _ _ _ _ _ => (pe_callTy (uTuple K rfl) rfl (f_tuple g) PyProof.Rows.boot_tuple (pa_cons (pv 5) pa_nil)))) pa_nil)) (pa_cons (pe_callB (uLen K rfl) rfl (f_len g) PySem.boot_len (pa_cons (pv 9) pa_nil)) pa_nil))) pa_nil)))))
  (pss_cons (ps_expr (qAppend K rfl (pv 2) (pe_tup (pa_cons (pe_ca c_frames K rfl hr (by decide) rfl (pa_cons (pe_callTy (uTuple K rfl) rfl (f_tuple g) PyProof.Rows.boot_tuple (pa_cons (pe_op (uAdd K rfl) (pv 9) (pv 10)) pa_nil)) pa_nil)) (pa_cons (pe_tup (pa_cons (pe_callTy (uTuple K rfl) rfl (f_tuple g) PyProof.Rows.boot_tuple (pa_cons (pe_lc (own := [("body", 5), ("row", 6)]) rfl sc_law.nd (qU K rfl (pe_slice (uSl K rfl) (pv 3) po_none (po_some (pe_op (uAdd K rfl) (pv 8) pe_int)))) (blkOk_by (by kernel_rfl)) (fun _ _ _ _ _ => (qTup K rfl rfl (pgs_cons (pg_name (i := 5) sc_law.nd rfl (Or.inl rfl)) (pgs_cons (pg_name (i := 6) sc_law.nd rfl (Or.inl rfl)) pgs_nil)))) (fun _ _ _ _ _ => pts_nil) (fun _ _ _ _ _ => (pe_callTy (uTuple K rfl) rfl (f_tuple g) PyProof.Rows.boot_tuple (pa_cons (pv 5) pa_nil)))) pa_nil)) (pa_cons (pe_callB (uLen K rfl) rfl (f_len g) PySem.boot_len (pa_cons (pe_op (uAdd K rfl) (pv 9) (pv 10)) pa_nil)) pa_nil))) pa_nil)))))
  (pss_cons (ps_set (i := 12) sc_law.nd rfl (Or.inl rfl) (pe_ca c__law_bent K rfl hr (by decide) rfl (pa_cons (pvF 1) (pa_cons (pvF 7) pa_nil))))
  (pss_cons (ps_expr (qAppend K rfl (pv 2) (pe_tup (pa_cons (pe_ca c_frames K rfl hr (by decide) rfl (pa_cons (pe_callTy (uTuple K rfl) rfl (f_tuple g) PyProof.Rows.boot_tuple (pa_cons (pv 12) pa_nil)) pa_nil)) (pa_cons (pe_ca c__law_due K rfl hr (by decide) rfl (pa_cons (pvF 12) pa_nil)) pa_nil)))))
  (pss_cons (ps_set (i := 13) sc_law.nd rfl (Or.inl rfl) (pe_ca c__law_of K rfl hr (by decide) rfl (pa_cons (pvF 1) (pa_cons (pe_lst (pa_cons (pe_lst (pa_cons pe_int (pa_cons pe_int (pa_cons pe_int pa_nil)))) (pa_cons (pe_lst (pa_cons pe_int (pa_cons pe_int (pa_cons pe_int (pa_cons pe_int pa_nil))))) (pa_cons (pe_lst (pa_cons pe_int (pa_cons pe_int (pa_cons pe_int pa_nil)))) (pa_cons (pe_lst (pa_cons pe_int (pa_cons pe_int (pa_cons pe_int (pa_cons pe_int pa_nil))))) (pa_cons (pe_lst (pa_cons pe_int (pa_cons pe_int (pa_cons pe_int (pa_cons pe_int pa_nil))))) (pa_cons (pe_lst (pa_cons pe_int pa_nil)) (pa_cons (pe_lst (pa_cons pe_int (pa_cons pe_int (pa_cons pe_int (pa_cons pe_int (pa_cons pe_int pa_nil)))))) (pa_cons (pe_lst (pa_cons pe_int (pa_cons pe_int (pa_cons pe_int (pa_cons pe_int (pa_cons pe_int pa_nil)))))) pa_nil))))))))) pa_nil))))
  (pss_cons (ps_set (i := 14) sc_law.nd rfl (Or.inl rfl) (pe_op (uAdd K rfl) (pe_op (uAdd K rfl) (pe_op (uAdd K rfl) (pv 9) (pv 13)) (pv 10)) (pe_lc (own := [("number", 17)]) rfl sc_law.nd (pi_range1 rfl (f_range g) (pa_cons (pe_ca c__law_any K rfl hr (by decide) rfl (pa_cons (pvF 1) (pa_cons pe_int pa_nil))) pa_nil)) (blkOk_by (by kernel_rfl)) (fun _ _ _ _ _ => (pg_name (i := 17) sc_law.nd rfl (Or.inl rfl))) (fun _ _ _ _ _ => pts_nil) (fun _ _ _ _ _ => (pe_ca c__law_octet K rfl hr (by decide) rfl (pa_cons (pvF 1) pa_nil))))))
  (pss_one (ps_expr (qAppend K rfl (pv 2) (pe_tup (pa_cons (pe_ca c_frames K rfl hr (by decide) rfl (pa_cons (pe_callTy (uTuple K rfl) rfl (f_tuple g) PyProof.Rows.boot_tuple (pa_cons (pv 14) pa_nil)) pa_nil)) (pa_cons (pe_ca c__law_due K rfl hr (by decide) rfl (pa_cons (pvF 14) pa_nil)) pa_nil)))))))))))))))))
  (pss_cons (ps_if (pt_cmpR (uEq K rfl hr.units) (pe_ca c__law_any K rfl hr (by decide) rfl (pa_cons (pvF 1) (pa_cons pe_int pa_nil))) pe_int (nomark _)) (pss_cons (ps_par (i := 8) (j := 15) rfl sc_law.nd rfl rfl (by decide) rfl rfl (pa_cons (pe_ca c__law_of K rfl hr (by decide) rfl (pa_cons (pvF 1) (pa_cons (pe_lst (pa_cons pe_int (pa_cons pe_int (pa_cons pe_int pa_nil)))) pa_nil))) (pa_cons (pe_ca c__law_octet K rfl hr (by decide) rfl (pa_cons (pvF 1) pa_nil)) pa_nil)) rfl)
  (pss_cons (ps_set (i := 16) sc_law.nd rfl (Or.inl rfl) (pe_op (uMod K rfl) (pe_callTy (uInt K rfl) rfl (f_int g) PyProof.Rows.boot_int (pa_cons (pe_op (uMul K rfl) (pv 15) (pe_op (uDiv K rfl) (pe_op (uMul K rfl) (pv 8) (pe_op (uAdd K rfl) (pv 8) pe_int)) pe_int)) pa_nil)) pe_int))
  (pss_cons (ps_set (i := 6) sc_law.nd rfl (Or.inl rfl) (pe_op (uAdd K rfl) (pe_op (uAdd K rfl) (pe_ca c__law_number_octets K rfl hr (by decide) rfl (pa_cons (pvF 8) pa_nil)) (pe_op (uMul K rfl) (pe_lst (pa_cons (pvF 15) pa_nil)) (pv 8))) (pe_lst (pa_cons (pe_op (uMod K rfl) (pe_callTy (uInt K rfl) rfl (f_int g) PyProof.Rows.boot_int (pa_cons (pv 16) pa_nil)) pe_int) (pa_cons (pe_op (uDiv K rfl) (pv 16) pe_int) pa_nil)))))
  (pss_cons (ps_expr (qAppend K rfl (pv 2) (pe_tup (pa_cons (pe_ca c_frame K rfl hr (by decide) rfl (pa_cons (pe_op (uMul K rfl) (pe_tup (pa_cons (pvF 15) pa_nil)) (pv 8)) pa_nil)) (pa_cons (pe_callTy (uTuple K rfl) rfl (f_tuple g) PyProof.Rows.boot_tuple (pa_cons (pv 6) pa_nil)) pa_nil)))))
  (pss_one (ps_expr (qAppend K rfl (pv 2) (pe_tup (pa_cons (pe_ca c_frames K rfl hr (by decide) rfl (pa_cons (pe_callTy (uTuple K rfl) rfl (f_tuple g) PyProof.Rows.boot_tuple (pa_cons (pe_op (uAdd K rfl) (pv 6) (pe_lst (pa_cons pe_int (pa_cons pe_int pa_nil)))) pa_nil)) pa_nil)) (pa_cons (pe_tup (pa_cons (pe_tup (pa_cons (pe_op (uMul K rfl) (pe_tup (pa_cons (pvF 15) pa_nil)) (pv 8)) pa_nil)) (pa_cons (pe_callB (uLen K rfl) rfl (f_len g) PySem.boot_len (pa_cons (pv 6) pa_nil)) pa_nil))) pa_nil)))))))))) pss_nil)
  (pss_cons (ps_expr (qAppend K rfl (pv 2) (pe_tup (pa_cons (pe_ca c_frames K rfl hr (by decide) rfl (pa_cons (pe_tup pa_nil) pa_nil)) (pa_cons (pe_tup (pa_cons (pe_tup pa_nil) (pa_cons pe_int pa_nil))) pa_nil)))))
  (pss_one (ps_ret (pe_ca c__law_all K rfl hr (by decide) rfl (pa_cons (pvF 2) pa_nil))))))))))))
theorem law_ok {P : Program} {w : World} {K : PySem.W.Frag} {mg : Str → Option Value} {base : Heap} {f : Addr} {fd : FuncData} (g : G K mg) (F : FunD K d_law.name d_law.qual d_law.params d_law.body d_law.scope [] [] f fd) : FnOk P w K mg base CX0 5 f fd ["script"] (spW K pre_law) := by
  have c_octets_of_number := ca_octets_of_number (P := P) (w := w) (base := base) g 
  have c_number_of := ca_number_of (P := P) (w := w) (base := base) g 
  have c_behind_number := ca_behind_number (P := P) (w := w) (base := base) g 
  have c_sum_of_octets := ca_sum_of_octets (P := P) (w := w) (base := base) g 
  have c__law_deal := ca__law_deal (P := P) (w := w) (base := base) g 
  have c__law_any := ca__law_any (P := P) (w := w) (base := base) g 
  have c__law_is_kind := ca__law_is_kind (P := P) (w := w) (base := base) g 
  have c__law_plain := ca__law_plain (P := P) (w := w) (base := base) g 
  have c__law_number_octets := ca__law_number_octets (P := P) (w := w) (base := base) g 
  have c__law_sum := ca__law_sum (P := P) (w := w) (base := base) g 
  have c__law_joined := ca__law_joined (P := P) (w := w) (base := base) g 
  have c__law_number_at := ca__law_number_at (P := P) (w := w) (base := base) g 
  have c_number_in := ca_number_in (P := P) (w := w) (base := base) g c_behind_number c_number_of
  have c_number_octets := ca_number_octets (P := P) (w := w) (base := base) g c_octets_of_number
  have c_sum_pair := ca_sum_pair (P := P) (w := w) (base := base) g c_sum_of_octets
  have c__law_of := ca__law_of (P := P) (w := w) (base := base) g c__law_any
  have c__law_same := ca__law_same (P := P) (w := w) (base := base) g c__law_is_kind c__law_plain
  have c__law_framed := ca__law_framed (P := P) (w := w) (base := base) g c__law_number_octets c__law_sum
  have c__law_frames_in := ca__law_frames_in (P := P) (w := w) (base := base) g c__law_number_at c__law_sum
  have c_frame := ca_frame (P := P) (w := w) (base := base) g c_number_octets c_sum_pair
  have c_frame_at := ca_frame_at (P := P) (w := w) (base := base) g c_number_in c_sum_pair
  have c__law_all := ca__law_all (P := P) (w := w) (base := base) g c__law_same
  have c__law_octet := ca__law_octet (P := P) (w := w) (base := base) g c__law_any c__law_of
  have c__law_due := ca__law_due (P := P) (w := w) (base := base) g c__law_frames_in
  have c_frames := ca_frames (P := P) (w := w) (base := base) g c_frame_at
  have c__law_some_body := ca__law_some_body (P := P) (w := w) (base := base) g c__law_octet c__law_of
  have c__law_bent := ca__law_bent (P := P) (w := w) (base := base) g c__law_any c__law_octet c__law_of
  exact ok_law g F c__law_all c__law_any c__law_bent c__law_deal c__law_due c__law_framed c__law_joined c__law_number_octets c__law_octet c__law_of c__law_some_body c_frame c_frames
end K80
namespace K80
open PySem PySem.Spec PyProof.Rows L2 Lg K79
theorem law_sp {K : PySem.W.Frag} (H : Hp) (a : Addr) (ns : List Int) (h : SqL K H a (ns.map V.int)) : spW K pre_law [.ref a] H (fun v _ => v = .bl true) fun _ _ _ => False := by
  have fz : FzX K ([] ++ WS []) H a (ns.map V.int) := by
    rcases h with h | h
    · exact .inl ⟨List.not_mem_nil, h⟩
    · exact .inr h
  refine ⟨[], [], [.frz ns], fun d _ => d = .bl true, List.nodup_nil, (fun _ z => nomatch z), (fun _ z => nomatch z), .cons (.frz fz) .nil, ⟨ns, rfl, rfl, fun _ => rfl⟩, ?_⟩
  intro v H' d W' _ _ _ rp e
  subst e
  cases rp
  rfl
end K80
open PySem PySem.W PySem.Calls PyProof.Rows
theorem PySem.Challenge.cw_namesenough_k80_frames_are_read_up_to_th_holds : PySem.Challenge.rw_namesenough_k80_frames_are_read_up_to_th.Holds := by
  w_on
  o_law
  refine HandSHeadRun.head_any (r := K80.R) (q := view (K80.R).prog [41]) (H := K80.hk) (ob := K80.ob) (M := 4000) (loose := K80.names) (d := HandSHeadRun.topDef (K80.R).prog 41) (kwd := []) K80.ob_eq
    (by kernel_rfl) (fun s => by kernel_rfl) K80.run (by kernel_rfl) (by kernel_rfl) (by kernel_rfl) (by rfl) (by first | assumption | decide +kernel) (by decide +kernel) ⟨rfl, rfl, rfl, rfl, rfl, by decide +kernel⟩ ?hw ?hc
  case hw => w_witness2
  case hc =>
    refine L2.walk_ofE (l := PySem.Challenge.rw_namesenough_k80_frames_are_read_up_to_th) (n := 63) (k := 5) (x := "script") (CX := L2.CX0) rfl (by decide) (by kernel_rfl) ⟨rfl, by decide, by decide⟩ ?F (fun _ _ _ _ z => z)
    intro w mg fa h Y Gn hmg0
    obtain ⟨K, KX, c, cx⟩ := Y
    have hmg : mg ("law" : PySem.Str) = some (.ref fa) := by
      have e : (HandSHeadRun.topDef (K80.R).prog 41).name = ("law" : PySem.Str) := by kernel_rfl
      rw [← e]
      exact hmg0
    have g : K80.G K mg := ⟨c, cx, h, KX, Gn⟩
    obtain ⟨fd, F⟩ := c.def_ 35 (d := K80.d_law) rfl
    have e := hmg.symm.trans (K80.g_law g)
    cases e
    have b := L2.FunD.bindsA (ps := ["script"]) F fun _ _ _ _ _ _ us hl => match us, hl with | [_], _ => rfl
    exact ⟨K, fd, Lg.spW K K80.pre_law, KX, fun s v => b s [v] rfl, fun H a ns _ _ hS => K80.law_sp H a ns hS, fun base _ _ => K80.law_ok g F⟩
