import PyProof.Rows.All
import Wide.All
import OpenK.AllK
import Wide.FinOn
import HandS.ForMost
import HandS.Zip
import HandS.IsInst
import HandS.TupAny
import HandS.Star
import KE.GoesMore
import PyProof.EnumMake
import HandS.Defaults
import HandS.SetTxt0
import HandS.SetFor
import HandS.SetBool
import HandS.Strs
import HandS.More
import HandS.Ends
import PyProof.P3Eq
import HandS.Head0
import HandS.Head1
import HandS.Head2
import HandS.HeadEnd
import HandS.HeadHook1
import HandS.HeadHook2
import KE.KStateDown
import PySem.Challenge.RW_swapunseen_k02_parts_and_what_is_known_t
set_option Elab.async false
set_option linter.all false
set_option maxRecDepth 100000
set_option maxHeartbeats 4000000
set_option autoImplicit false
/-! A data layer over HandS: values as trees, a store of shared lists, defs as functions on them. -/
namespace DL
open PySem PySem.Spec PyProof.Rows L2

/-! ### data -/
inductive D where
  | non | bl (b : Bool) | int (i : Int) | str (x : Str)
  | tup (xs : List D) | lst (xs : List D) | dic (ks : List Key) (vs : List D)
  | ins (c : Nat) (fs : List Str) (vs : List D) | obj (i : Nat)
  | scr (ns : List Int)
/-- what a shared, changing object holds -/
inductive Cell where
  | lst (xs : List D) | ins (c : Nat) (fs : List Str) (vs : List D)
abbrev Sto := List Cell
inductive R (α : Type) where
  | ok (a : α) (S : Sto) | stuck
/-- a local name: nothing, a value, a list of its own that nobody else has -/
inductive Slot where
  | non | val (d : D) | own (ds : List D)
abbrev Rho := List Slot
def R.bind {α β : Type} (r : R α) (k : α → Sto → R β) : R β := match r with
  | .ok a S => k a S
  | .stuck => .stuck
theorem R.bind_eq {α β : Type} {r : R α} {k : α → Sto → R β} {b : β} {S : Sto} (h : r.bind k = .ok b S) : ∃ a S1, r = .ok a S1 ∧ k a S1 = .ok b S := by
  cases r with
  | ok a S1 => exact ⟨a, S1, rfl, h⟩
  | stuck => cases h
theorem R.bind_ok {α β : Type} {a : α} {S : Sto} {k : α → Sto → R β} : (R.ok a S).bind k = k a S := rfl

/-! ### how data stand in the heap. P: what is nobody else's; θ: where the store's objects stand -/
def KTup (K : PySem.W.Frag) (a : Addr) (xs : List V) : Prop :=
  ∃ (o : Obj) (its : Array Value) (n : Nat), K.lookup a = some o ∧ o.cls = .type "tuple" ∧ o.data = .seq its n ∧ its.size ≤ sizeLine ∧ Vals xs its.toList
def KLst (K : PySem.W.Frag) (a : Addr) (xs : List V) : Prop :=
  ∃ (o : Obj) (its : Array Value) (n : Nat), K.lookup a = some o ∧ o.cls = .type "list" ∧ o.dict = none ∧ o.data = .seq its n ∧ its.size ≤ sizeLine ∧ Vals xs its.toList
mutual
inductive Rep (K : PySem.W.Frag) (cn : Nat → Addr) (P : List Addr) (H : Hp) (θ : List Addr) : V → D → Prop
  | non : Rep K cn P H θ .non .non
  | bl (b : Bool) : Rep K cn P H θ (.bl b) (.bl b)
  | int (i : Int) : Rep K cn P H θ (.int i) (.int i)
  | str (x : Str) : Rep K cn P H θ (.str x) (.str x)
  | tup {a : Addr} {xs : List V} {ds : List D} : H a = some (.tup xs) → a ∉ θ → a ∉ P → Reps K cn P H θ xs ds → Rep K cn P H θ (V.ref a) (.tup ds)
  | tupK {a : Addr} {xs : List V} {ds : List D} : KTup K a xs → Reps K cn P H θ xs ds → Rep K cn P H θ (V.ref a) (.tup ds)
  | lst {a : Addr} {xs : List V} {ds : List D} : H a = some (.lst xs) → a ∉ θ → a ∉ P → Reps K cn P H θ xs ds → Rep K cn P H θ (V.ref a) (.lst ds)
  | dic {a : Addr} {ks : List Key} {xs : List V} {ds : List D} {kvs : List (Key × V)} : H a = some (.dK kvs) → a ∉ θ → a ∉ P → kvs.map (·.1) = ks → kvs.map (·.2) = xs → Reps K cn P H θ xs ds → Rep K cn P H θ (V.ref a) (.dic ks ds)
  | ins {a dx : Addr} {c : Nat} {fs : List Str} {xs : List V} {ds : List D} {fv : List (Str × V)} : H a = some (.ins (cn c) dx fv) → a ∉ θ → a ∉ P → H dx = some (.own a) → dx ∉ θ → dx ∉ P → fv.map (·.1) = fs → fv.map (·.2) = xs →
      Reps K cn P H θ xs ds → Rep K cn P H θ (V.ref a) (.ins c fs ds)
  | obj {a : Addr} {i : Nat} : θ[i]? = some a → Rep K cn P H θ (V.ref a) (.obj i)
  | scrK {a : Addr} {ns : List Int} : KLst K a (ns.map V.int) → Rep K cn P H θ (V.ref a) (.scr ns)
  | scr {a : Addr} {o : Obj} {ns : List Int} : H a = some (.frz o (.lst (ns.map V.int))) → a ∉ θ → a ∉ P → Rep K cn P H θ (V.ref a) (.scr ns)
inductive Reps (K : PySem.W.Frag) (cn : Nat → Addr) (P : List Addr) (H : Hp) (θ : List Addr) : List V → List D → Prop
  | nil : Reps K cn P H θ [] []
  | cons {v : V} {vs : List V} {d : D} {ds : List D} : Rep K cn P H θ v d → Reps K cn P H θ vs ds → Reps K cn P H θ (v :: vs) (d :: ds)
end
/-- a value, or a list of one's own, to be looked at -/
inductive RepB (K : PySem.W.Frag) (cn : Nat → Addr) (P : List Addr) (H : Hp) (θ : List Addr) : V → D → Prop
  | of {v : V} {d : D} : Rep K cn P H θ v d → RepB K cn P H θ v d
  | own {a : Addr} {xs : List V} {ds : List D} : a ∈ P → H a = some (.lst xs) → a ∉ θ → Reps K cn P H θ xs ds → RepB K cn P H θ (V.ref a) (.lst ds)
inductive RepsB (K : PySem.W.Frag) (cn : Nat → Addr) (P : List Addr) (H : Hp) (θ : List Addr) : List V → List D → Prop
  | nil : RepsB K cn P H θ [] []
  | cons {v : V} {vs : List V} {d : D} {ds : List D} : RepB K cn P H θ v d → RepsB K cn P H θ vs ds → RepsB K cn P H θ (v :: vs) (d :: ds)
/-- what has happened to the heap: all that is tracked and not the store's stands as it was -/
structure Evo (H : Hp) (θ : List Addr) (H' : Hp) (θ' : List Addr) : Prop where
  keep : ∀ a o, H a = some o → a ∉ θ → H' a = some o ∧ a ∉ θ'
  pre : ∀ (i : Nat) (a : Addr), θ[i]? = some a → θ'[i]? = some a
def CRep (K : PySem.W.Frag) (cn : Nat → Addr) (P : List Addr) (H : Hp) (θ : List Addr) (a : Addr) : Cell → Prop
  | .lst ds => ∃ xs, H a = some (.lst xs) ∧ Reps K cn P H θ xs ds
  | .ins c fs ds => ∃ (dx : Addr) (fv : List (Str × V)), H a = some (.ins (cn c) dx fv) ∧ H dx = some (.own a) ∧ dx ∉ θ ∧ dx ∉ P ∧ fv.map (·.1) = fs ∧ Reps K cn P H θ (fv.map (·.2)) ds
structure Sim (K : PySem.W.Frag) (cn : Nat → Addr) (P : List Addr) (H : Hp) (θ : List Addr) (S : Sto) : Prop where
  len : θ.length = S.length
  nd : θ.Nodup
  pf : ∀ p ∈ P, p ∉ θ ∧ ∃ o, H p = some o
  cell : ∀ (i : Nat) (c : Cell), S[i]? = some c → ∃ a, θ[i]? = some a ∧ CRep K cn P H θ a c

section
variable {K : PySem.W.Frag} {cn : Nat → Addr} {P : List Addr} {H H' H1 H2 : Hp} {θ θ' θ1 θ2 : List Addr} {S : Sto} {v : V} {d : D} {vs : List V} {ds : List D}
theorem Evo.refl : Evo H θ H θ := ⟨fun _ _ e n => ⟨e, n⟩, fun _ _ e => e⟩
theorem Evo.trans (a : Evo H θ H1 θ1) (b : Evo H1 θ1 H2 θ2) : Evo H θ H2 θ2 :=
  ⟨fun p o e n => by obtain ⟨e1, n1⟩ := a.keep p o e n; exact b.keep p o e1 n1, fun i p e => b.pre i p (a.pre i p e)⟩
theorem Evo.rd (e : Evo H θ H' θ') {a : Addr} {u : HO} (r : Rd H a u) (n : a ∉ θ) : Rd H' a u ∧ a ∉ θ' := by
  rcases r with r | ⟨o, r⟩
  · obtain ⟨h1, h2⟩ := e.keep a _ r n; exact ⟨.inl h1, h2⟩
  · obtain ⟨h1, h2⟩ := e.keep a _ r n; exact ⟨.inr ⟨o, h1⟩, h2⟩
mutual
theorem Rep.evo (e : Evo H θ H' θ') : ∀ {v : V} {d : D}, Rep K cn P H θ v d → Rep K cn P H' θ' v d
  | _, _, .non => .non
  | _, _, .bl b => .bl b
  | _, _, .int i => .int i
  | _, _, .str x => .str x
  | _, _, .tup r n p rs => .tup (e.keep _ _ r n).1 (e.keep _ _ r n).2 p (Reps.evo e rs)
  | _, _, .tupK k rs => .tupK k (Reps.evo e rs)
  | _, _, .lst r n p rs => .lst (e.keep _ _ r n).1 (e.keep _ _ r n).2 p (Reps.evo e rs)
  | _, _, .dic r n p e1 e2 rs => .dic (e.keep _ _ r n).1 (e.keep _ _ r n).2 p e1 e2 (Reps.evo e rs)
  | _, _, .ins h n p hx nx px e1 e2 rs => .ins (e.keep _ _ h n).1 (e.keep _ _ h n).2 p (e.keep _ _ hx nx).1 (e.keep _ _ hx nx).2 px e1 e2 (Reps.evo e rs)
  | _, _, .obj h => .obj (e.pre _ _ h)
  | _, _, .scr r n p => .scr (e.keep _ _ r n).1 (e.keep _ _ r n).2 p
  | _, _, .scrK k => .scrK k
theorem Reps.evo (e : Evo H θ H' θ') : ∀ {vs : List V} {ds : List D}, Reps K cn P H θ vs ds → Reps K cn P H' θ' vs ds
  | _, _, .nil => .nil
  | _, _, .cons r rs => .cons (Rep.evo e r) (Reps.evo e rs)
end
theorem RepB.evo (e : Evo H θ H' θ') {v : V} {d : D} (r : RepB K cn P H θ v d) : RepB K cn P H' θ' v d := by
  cases r with
  | of r => exact .of (r.evo e)
  | own p h n rs => exact .own p (e.keep _ _ h n).1 (e.keep _ _ h n).2 (rs.evo e)
theorem RepsB.evo (e : Evo H θ H' θ') : ∀ {vs : List V} {ds : List D}, RepsB K cn P H θ vs ds → RepsB K cn P H' θ' vs ds
  | _, _, .nil => .nil
  | _, _, .cons r rs => .cons (RepB.evo e r) (RepsB.evo e rs)
theorem Reps.b : ∀ {vs : List V} {ds : List D}, Reps K cn P H θ vs ds → RepsB K cn P H θ vs ds
  | _, _, .nil => .nil
  | _, _, .cons r rs => .cons (.of r) (Reps.b rs)
theorem Reps.length : ∀ {vs : List V} {ds : List D}, Reps K cn P H θ vs ds → vs.length = ds.length
  | _, _, .nil => rfl
  | _, _, .cons r rs => congrArg Nat.succ (Reps.length rs)
theorem RepsB.length : ∀ {vs : List V} {ds : List D}, RepsB K cn P H θ vs ds → vs.length = ds.length
  | _, _, .nil => rfl
  | _, _, .cons r rs => congrArg Nat.succ (RepsB.length rs)
theorem Reps.append : ∀ {vs ws : List V} {ds es : List D}, Reps K cn P H θ vs ds → Reps K cn P H θ ws es → Reps K cn P H θ (vs ++ ws) (ds ++ es)
  | _, _, _, _, .nil, s => s
  | _, _, _, _, .cons r rs, s => .cons r (Reps.append rs s)
theorem Reps.get : ∀ {vs : List V} {ds : List D} {i : Nat} {d : D}, Reps K cn P H θ vs ds → ds[i]? = some d → ∃ v, vs[i]? = some v ∧ Rep K cn P H θ v d
  | _, _, _, _, .nil, e => by simp at e
  | _, _, 0, _, .cons r _, e => by simp at e; subst e; exact ⟨_, rfl, r⟩
  | _, _, i + 1, _, .cons _ rs, e => by
    obtain ⟨v, h1, h2⟩ := Reps.get (i := i) rs (by simpa using e)
    exact ⟨v, by simpa using h1, h2⟩
theorem Reps.getV : ∀ {vs : List V} {ds : List D} {i : Nat} {v : V}, Reps K cn P H θ vs ds → vs[i]? = some v → ∃ d, ds[i]? = some d ∧ Rep K cn P H θ v d
  | _, _, _, _, .nil, e => by simp at e
  | _, _, 0, _, .cons r _, e => by simp at e; subst e; exact ⟨_, rfl, r⟩
  | _, _, i + 1, _, .cons _ rs, e => by
    obtain ⟨v, h1, h2⟩ := Reps.getV (i := i) rs (by simpa using e)
    exact ⟨v, by simpa using h1, h2⟩
theorem Reps.take : ∀ {vs : List V} {ds : List D} (n : Nat), Reps K cn P H θ vs ds → Reps K cn P H θ (vs.take n) (ds.take n)
  | _, _, 0, _ => by simpa using Reps.nil
  | _, _, _ + 1, .nil => by simpa using Reps.nil
  | _, _, n + 1, .cons r rs => by simpa using Reps.cons r (Reps.take n rs)
theorem Reps.drop : ∀ {vs : List V} {ds : List D} (n : Nat), Reps K cn P H θ vs ds → Reps K cn P H θ (vs.drop n) (ds.drop n)
  | _, _, 0, h => by simpa using h
  | _, _, _ + 1, .nil => by simpa using Reps.nil
  | _, _, n + 1, .cons r rs => by simpa using Reps.drop n rs
theorem Reps.set : ∀ {vs : List V} {ds : List D} (i : Nat) {v : V} {d : D}, Reps K cn P H θ vs ds → Rep K cn P H θ v d → Reps K cn P H θ (vs.set i v) (ds.set i d)
  | _, _, _, _, _, .nil, _ => .nil
  | _, _, 0, _, _, .cons _ rs, r => .cons r rs
  | _, _, i + 1, _, _, .cons q rs, r => .cons q (Reps.set i rs r)
theorem Reps.eraseIdx : ∀ {vs : List V} {ds : List D} (i : Nat), Reps K cn P H θ vs ds → Reps K cn P H θ (vs.eraseIdx i) (ds.eraseIdx i)
  | _, _, _, .nil => .nil
  | _, _, 0, .cons _ rs => rs
  | _, _, i + 1, .cons q rs => .cons q (Reps.eraseIdx i rs)
-- fewer things are one's own
mutual
theorem Rep.less {P' : List Addr} (h : ∀ p ∈ P', p ∈ P) : ∀ {v : V} {d : D}, Rep K cn P H θ v d → Rep K cn P' H θ v d
  | _, _, .non => .non
  | _, _, .bl b => .bl b
  | _, _, .int i => .int i
  | _, _, .str x => .str x
  | _, _, .tup r n p rs => .tup r n (fun z => p (h _ z)) (Reps.less h rs)
  | _, _, .tupK k rs => .tupK k (Reps.less h rs)
  | _, _, .lst r n p rs => .lst r n (fun z => p (h _ z)) (Reps.less h rs)
  | _, _, .dic r n p e1 e2 rs => .dic r n (fun z => p (h _ z)) e1 e2 (Reps.less h rs)
  | _, _, .ins a n p hx nx px e1 e2 rs => .ins a n (fun z => p (h _ z)) hx nx (fun z => px (h _ z)) e1 e2 (Reps.less h rs)
  | _, _, .obj e => .obj e
  | _, _, .scr r n p => .scr r n (fun z => p (h _ z))
  | _, _, .scrK k => .scrK k
theorem Reps.less {P' : List Addr} (h : ∀ p ∈ P', p ∈ P) : ∀ {vs : List V} {ds : List D}, Reps K cn P H θ vs ds → Reps K cn P' H θ vs ds
  | _, _, .nil => .nil
  | _, _, .cons r rs => .cons (Rep.less h r) (Reps.less h rs)
end
theorem not_more {q a : Addr} {o : HO} (hq : H q = none) (h : H a = some o) (p : a ∉ P) : a ∉ q :: P := fun z => by
  rcases List.mem_cons.mp z with z | z
  · rw [z, hq] at h; cases h
  · exact p z
theorem not_moreR {q a : Addr} {u : HO} (hq : H q = none) (h : Rd H a u) (p : a ∉ P) : a ∉ q :: P := by
  rcases h with h | ⟨o, h⟩ <;> exact not_more hq h p
theorem rd_mine {q a : Addr} {u o : HO} (hq : q ∈ P) (h : Rd H a u) (p : a ∉ P) : Rd (upd H q o) a u := by
  have ne : a ≠ q := fun z => p (z ▸ hq)
  rcases h with h | ⟨w, h⟩
  · exact .inl (by rw [upd_ne ne]; exact h)
  · exact .inr ⟨w, by rw [upd_ne ne]; exact h⟩
theorem at_mine {q a : Addr} {u o : HO} (hq : q ∈ P) (h : H a = some u) (p : a ∉ P) : upd H q o a = some u := by
  have ne : a ≠ q := fun z => p (z ▸ hq)
  rw [upd_ne ne]; exact h
-- one more thing is one's own: nothing stood there
mutual
theorem Rep.more {q : Addr} (hq : H q = none) : ∀ {v : V} {d : D}, Rep K cn P H θ v d → Rep K cn (q :: P) H θ v d
  | _, _, .non => .non
  | _, _, .bl b => .bl b
  | _, _, .int i => .int i
  | _, _, .str x => .str x
  | _, _, .tup r n p rs => .tup r n (not_more hq r p) (Reps.more hq rs)
  | _, _, .tupK k rs => .tupK k (Reps.more hq rs)
  | _, _, .lst r n p rs => .lst r n (not_more hq r p) (Reps.more hq rs)
  | _, _, .dic r n p e1 e2 rs => .dic r n (not_more hq r p) e1 e2 (Reps.more hq rs)
  | _, _, .ins a n p hx nx px e1 e2 rs => .ins a n (not_more hq a p) hx nx (not_more hq hx px) e1 e2 (Reps.more hq rs)
  | _, _, .obj e => .obj e
  | _, _, .scr r n p => .scr r n (not_more hq r p)
  | _, _, .scrK k => .scrK k
theorem Reps.more {q : Addr} (hq : H q = none) : ∀ {vs : List V} {ds : List D}, Reps K cn P H θ vs ds → Reps K cn (q :: P) H θ vs ds
  | _, _, .nil => .nil
  | _, _, .cons r rs => .cons (Rep.more hq r) (Reps.more hq rs)
end
-- something that is one's own is changed
mutual
theorem Rep.mine {q : Addr} {o : HO} (hq : q ∈ P) : ∀ {v : V} {d : D}, Rep K cn P H θ v d → Rep K cn P (upd H q o) θ v d
  | _, _, .non => .non
  | _, _, .bl b => .bl b
  | _, _, .int i => .int i
  | _, _, .str x => .str x
  | _, _, .tup r n p rs => .tup (at_mine hq r p) n p (Reps.mine hq rs)
  | _, _, .tupK k rs => .tupK k (Reps.mine hq rs)
  | _, _, .lst r n p rs => .lst (at_mine hq r p) n p (Reps.mine hq rs)
  | _, _, .dic r n p e1 e2 rs => .dic (at_mine hq r p) n p e1 e2 (Reps.mine hq rs)
  | _, _, .ins a n p hx nx px e1 e2 rs => .ins (at_mine hq a p) n p (at_mine hq hx px) nx px e1 e2 (Reps.mine hq rs)
  | _, _, .obj e => .obj e
  | _, _, .scr r n p => .scr (at_mine hq r p) n p
  | _, _, .scrK k => .scrK k
theorem Reps.mine {q : Addr} {o : HO} (hq : q ∈ P) : ∀ {vs : List V} {ds : List D}, Reps K cn P H θ vs ds → Reps K cn P (upd H q o) θ vs ds
  | _, _, .nil => .nil
  | _, _, .cons r rs => .cons (Rep.mine hq r) (Reps.mine hq rs)
end
theorem CRep.some {a : Addr} {c : Cell} (h : CRep K cn P H θ a c) : ∃ o, H a = Option.some o := by
  cases c with
  | lst ds => obtain ⟨xs, e, _⟩ := h; exact ⟨_, e⟩
  | ins c fs ds => obtain ⟨dx, fv, e, _⟩ := h; exact ⟨_, e⟩
theorem Sim.at_ (s : Sim K cn P H θ S) {a : Addr} (h : a ∈ θ) : ∃ o, H a = some o := by
  obtain ⟨i, hi, e⟩ := List.getElem_of_mem h
  have hi2 : i < S.length := by rw [← s.len]; exact hi
  obtain ⟨b, hb, c⟩ := s.cell i S[i] (List.getElem?_eq_getElem hi2)
  rw [List.getElem?_eq_getElem hi] at hb
  have e2 : θ[i] = b := Option.some.inj hb
  rw [← e, e2]
  exact c.some
theorem Sim.free (s : Sim K cn P H θ S) {p : Addr} (h : H p = none) : p ∉ θ ∧ p ∉ P := by
  constructor
  · intro m
    obtain ⟨o, e⟩ := s.at_ m
    rw [h] at e; cases e
  · intro m
    obtain ⟨_, o, e⟩ := s.pf p m
    rw [h] at e; cases e
theorem Evo.fresh {p : Addr} {o : HO} (h : H p = none) : Evo H θ (upd H p o) θ :=
  ⟨fun a u e n => ⟨by rw [upd_ne (ne_of_none e h)]; exact e, n⟩, fun _ _ e => e⟩
/-- what is not the store's may grow -/
theorem Sim.grow (s : Sim K cn P H θ S) (e : Evo H θ H' θ) (k : ∀ a ∈ θ, H' a = H a) : Sim K cn P H' θ S := by
  refine ⟨s.len, s.nd, fun p hp => ?_, fun i c hc => ?_⟩
  · obtain ⟨n, o, h⟩ := s.pf p hp
    exact ⟨n, o, (e.keep p o h n).1⟩
  · obtain ⟨a, ha, r⟩ := s.cell i c hc
    refine ⟨a, ha, ?_⟩
    have hm : a ∈ θ := List.mem_of_getElem? ha
    cases c with
    | lst ds =>
      obtain ⟨xs, h, rs⟩ := r
      exact ⟨xs, by rw [k a hm]; exact h, rs.evo e⟩
    | ins c fs ds =>
      obtain ⟨dx, fv, h1, h2, h3, h4, h5, rs⟩ := r
      exact ⟨dx, fv, by rw [k a hm]; exact h1, (e.keep _ _ h2 h3).1, h3, h4, h5, rs.evo e⟩
theorem Sim.fresh (s : Sim K cn P H θ S) {p : Addr} {o : HO} (h : H p = none) : Sim K cn P (upd H p o) θ S :=
  s.grow (Evo.fresh h) fun a ha => upd_ne fun z => (s.free h).1 (z ▸ ha)
end

/-! ### judgements -/
abbrev DX := Rho → Sto → R D
abbrev DXs := Rho → Sto → R (List D)
/-- the names -/
inductive SRep (K : PySem.W.Frag) (cn : Nat → Addr) (P : List Addr) (H : Hp) (θ : List Addr) : Option V → Slot → Prop
  | non {v : Option V} : SRep K cn P H θ v .non
  | val {v : V} {d : D} : Rep K cn P H θ v d → SRep K cn P H θ (some v) (.val d)
  | own {a : Addr} {xs : List V} {ds : List D} : a ∈ P → H a = some (.lst xs) → Reps K cn P H θ xs ds → SRep K cn P H θ (some (V.ref a)) (.own ds)
structure RepE (K : PySem.W.Frag) (cn : Nat → Addr) (P : List Addr) (H : Hp) (θ : List Addr) (σ : L2.St) (ρ : Rho) : Prop where
  len : σ.length = ρ.length
  at_ : ∀ (i : Nat) (s : Slot), ρ[i]? = some s → ∃ v, σ[i]? = some v ∧ SRep K cn P H θ v s
  own : ∀ (i j : Nat) (ds es : List D) (a : Addr), ρ[i]? = some (.own ds) → ρ[j]? = some (.own es) → σ[i]? = some (some (V.ref a)) → σ[j]? = some (some (V.ref a)) → i = j
section
variable {K : PySem.W.Frag} {cn : Nat → Addr} {P : List Addr} {H H' : Hp} {θ θ' : List Addr} {S : Sto} {σ : L2.St} {ρ : Rho}
theorem RepE.evo (s : Sim K cn P H θ S) (e : Evo H θ H' θ') (r : RepE K cn P H θ σ ρ) : RepE K cn P H' θ' σ ρ := by
  refine ⟨r.len, fun i s' h => ?_, r.own⟩
  obtain ⟨v, hv, q⟩ := r.at_ i s' h
  refine ⟨v, hv, ?_⟩
  cases q with
  | non => exact .non
  | val q => exact .val (q.evo e)
  | own p h' rs => exact .own p (e.keep _ _ h' (s.pf _ p).1).1 (rs.evo e)
end
/-- what is wanted behind a value that has come -/
def Post (K : PySem.W.Frag) (cn : Nat → Addr) (P : List Addr) (H : Hp) (θ : List Addr) (d : D) (S' : Sto) (Q : VK) : Prop :=
  ∀ v H' θ', Sim K cn P H' θ' S' → Evo H θ H' θ' → Rep K cn P H' θ' v d → Q v H'
def PostB (K : PySem.W.Frag) (cn : Nat → Addr) (P : List Addr) (H : Hp) (θ : List Addr) (d : D) (S' : Sto) (Q : VK) : Prop :=
  ∀ v H' θ', Sim K cn P H' θ' S' → Evo H θ H' θ' → RepB K cn P H' θ' v d → Q v H'
def PostT (K : PySem.W.Frag) (cn : Nat → Addr) (P : List Addr) (H : Hp) (θ : List Addr) (S' : Sto) (Q : Hp → Prop) : Prop :=
  ∀ H' θ', Sim K cn P H' θ' S' → Evo H θ H' θ' → Q H'
def PostL (K : PySem.W.Frag) (cn : Nat → Addr) (P : List Addr) (H : Hp) (θ : List Addr) (ds : List D) (S' : Sto) (Q : List V → Hp → Prop) : Prop :=
  ∀ vs H' θ', Sim K cn P H' θ' S' → Evo H θ H' θ' → Reps K cn P H' θ' vs ds → Q vs H'
def PostLB (K : PySem.W.Frag) (cn : Nat → Addr) (P : List Addr) (H : Hp) (θ : List Addr) (ds : List D) (S' : Sto) (Q : List V → Hp → Prop) : Prop :=
  ∀ vs H' θ', Sim K cn P H' θ' S' → Evo H θ H' θ' → RepsB K cn P H' θ' vs ds → Q vs H'
def tD (K : PySem.W.Frag) (cn : Nat → Addr) (f : DX) : TE := fun σ H Q => ∃ P θ S ρ d S', Sim K cn P H θ S ∧ RepE K cn P H θ σ ρ ∧ f ρ S = .ok d S' ∧ Post K cn P H θ d S' Q
def tDB (K : PySem.W.Frag) (cn : Nat → Addr) (f : DX) : TE := fun σ H Q => ∃ P θ S ρ d S', Sim K cn P H θ S ∧ RepE K cn P H θ σ ρ ∧ f ρ S = .ok d S' ∧ PostB K cn P H θ d S' Q
def tDT (K : PySem.W.Frag) (cn : Nat → Addr) (f : DX) : TT := fun σ H Q => ∃ P θ S ρ b S', Sim K cn P H θ S ∧ RepE K cn P H θ σ ρ ∧ f ρ S = .ok (.bl b) S' ∧ PostT K cn P H θ S' (Q b)
def tDA (K : PySem.W.Frag) (cn : Nat → Addr) (f : DXs) : TA := fun σ H Q => ∃ P θ S ρ ds S', Sim K cn P H θ S ∧ RepE K cn P H θ σ ρ ∧ f ρ S = .ok ds S' ∧ PostL K cn P H θ ds S' Q
def tDAB (K : PySem.W.Frag) (cn : Nat → Addr) (f : DXs) : TA := fun σ H Q => ∃ P θ S ρ ds S', Sim K cn P H θ S ∧ RepE K cn P H θ σ ρ ∧ f ρ S = .ok ds S' ∧ PostLB K cn P H θ ds S' Q
structure DE (X : Cx) (cn : Nat → Addr) (e : Expr) (f : DX) : Prop where
  pe : PE X e (tD X.K cn f)
/-- .. to be looked at alone -/
structure DB (X : Cx) (cn : Nat → Addr) (e : Expr) (f : DX) : Prop where
  pe : PE X e (tDB X.K cn f)
structure DT (X : Cx) (cn : Nat → Addr) (e : Expr) (f : DX) : Prop where
  pt : PT X e (tDT X.K cn f)
structure DA (X : Cx) (cn : Nat → Addr) (es : List Expr) (f : DXs) : Prop where
  pa : PA X es (tDA X.K cn f)
structure DAB (X : Cx) (cn : Nat → Addr) (es : List Expr) (f : DXs) : Prop where
  pa : PA X es (tDAB X.K cn f)

theorem _root_.L2.PE.weak {X : Cx} {e : Expr} {t t' : TE} (h : PE X e t) (i : ∀ σ H Q, t' σ H Q → t σ H Q) : PE X e t' := ⟨fun pins s σ H Q I hw => h.run pins s σ H Q I (i _ _ _ hw)⟩
theorem _root_.L2.PT.weak {X : Cx} {e : Expr} {t t' : TT} (h : PT X e t) (i : ∀ σ H Q, t' σ H Q → t σ H Q) : PT X e t' := ⟨fun pins s σ H Q I hw => h.run pins s σ H Q I (i _ _ _ hw)⟩
theorem _root_.L2.PW.weak {X : Cx} {e : Expr} {t t' : TT} (h : PW X e t) (i : ∀ σ H Q, t' σ H Q → t σ H Q) : PW X e t' := ⟨fun wh pins s σ H Q I hw => h.run wh pins s σ H Q I (i _ _ _ hw)⟩
theorem _root_.L2.PA.weak {X : Cx} {es : List Expr} {t t' : TA} (h : PA X es t) (i : ∀ σ H Q, t' σ H Q → t σ H Q) : PA X es t' := ⟨fun pos pins s σ H Q I hw => h.run pos pins s σ H Q I (i _ _ _ hw)⟩
theorem _root_.L2.PS.weak {X : Cx} {st : Stmt} {t t' : TS} (h : PS X st t) (i : ∀ D σ H, t' D σ H → t D σ H) : PS X st t' := ⟨fun pins s σ H D I hw => h.run pins s σ H D I (i _ _ _ hw)⟩
theorem _root_.L2.PSs.weak {X : Cx} {st : List Stmt} {t t' : TS} (h : PSs X st t) (i : ∀ D σ H, t' D σ H → t D σ H) : PSs X st t' := ⟨fun pins s σ H D I hw => h.run pins s σ H D I (i _ _ _ hw)⟩
section
variable {K : PySem.W.Frag} {cn : Nat → Addr} {P : List Addr} {H H1 : Hp} {θ θ1 : List Addr} {d : D} {S' : Sto} {Q : VK}
theorem PostB.post (h : PostB K cn P H θ d S' Q) : Post K cn P H θ d S' Q := fun v H' θ' s e r => h v H' θ' s e (.of r)
theorem Post.at_ (h : Post K cn P H θ d S' Q) (e : Evo H θ H1 θ1) : Post K cn P H1 θ1 d S' Q := fun v H' θ' s e' r => h v H' θ' s (e.trans e') r
theorem PostB.at_ (h : PostB K cn P H θ d S' Q) (e : Evo H θ H1 θ1) : PostB K cn P H1 θ1 d S' Q := fun v H' θ' s e' r => h v H' θ' s (e.trans e') r
end
section
variable {X : Cx} {cn : Nat → Addr} {e : Expr} {f : DX}
theorem DE.db (h : DE X cn e f) : DB X cn e f := ⟨h.pe.weak fun σ H Q ⟨P, θ, S, ρ, d, S', s, r, q, p⟩ => ⟨P, θ, S, ρ, d, S', s, r, q, p.post⟩⟩
/-- a value that is a bool, as a test -/
theorem DE.dt (h : DE X cn e f) (he : ∀ whole, isTrue e X.env whole = (do let v ← whole; standAt e.pos; holding [v] (truthy v)) := by intro _; rfl) : DT X cn e f :=
  ⟨(pt_val h.pe he).weak fun σ H Q ⟨P, θ, S, ρ, b, S', s, r, q, p⟩ => ⟨P, θ, S, ρ, .bl b, S', s, r, q, fun v H' θ' s' e' r' => by
    cases r' with
    | bl b => exact ⟨b, rfl, p H' θ' s' e'⟩⟩⟩
end
end DL

set_option Elab.async false
set_option linter.all false
set_option maxRecDepth 100000
set_option maxHeartbeats 4000000
set_option autoImplicit false
namespace DL
open PySem PySem.Spec PyProof.Rows L2

/-! ### inversions -/
section
variable {K : PySem.W.Frag} {cn : Nat → Addr} {P : List Addr} {H H1 : Hp} {θ θ1 : List Addr} {S S' : Sto} {x : V} {Q : VK}
theorem Rep.vint {i : Int} (h : Rep K cn P H θ x (.int i)) : x = .int i := by cases h; rfl
theorem RepB.vint {i : Int} (h : RepB K cn P H θ x (.int i)) : x = .int i := by cases h with | of h => exact h.vint
theorem Rep.vstr {i : Str} (h : Rep K cn P H θ x (.str i)) : x = .str i := by cases h; rfl
theorem RepB.vstr {i : Str} (h : RepB K cn P H θ x (.str i)) : x = .str i := by cases h with | of h => exact h.vstr
theorem Rep.vbl {i : Bool} (h : Rep K cn P H θ x (.bl i)) : x = .bl i := by cases h; rfl
theorem RepB.vbl {i : Bool} (h : RepB K cn P H θ x (.bl i)) : x = .bl i := by cases h with | of h => exact h.vbl
theorem Rep.vnon (h : Rep K cn P H θ x .non) : x = .non := by cases h; rfl
theorem RepB.vnon (h : RepB K cn P H θ x .non) : x = .non := by cases h with | of h => exact h.vnon
theorem RepB.vtup {ds : List D} (h : RepB K cn P H θ x (.tup ds)) : ∃ a xs, x = .ref a ∧ SqT K H a xs ∧ Reps K cn P H θ xs ds := by
  cases h with
  | of h =>
    cases h with
    | tup h _ _ r => exact ⟨_, _, rfl, .inl (.inl h), r⟩
    | tupK h r => exact ⟨_, _, rfl, .inr h, r⟩
theorem RepB.vlst {ds : List D} (h : RepB K cn P H θ x (.lst ds)) : ∃ a xs, x = .ref a ∧ H a = some (.lst xs) ∧ Reps K cn P H θ xs ds := by
  cases h with
  | of h => cases h with | lst h _ _ r => exact ⟨_, _, rfl, h, r⟩
  | own _ h _ r => exact ⟨_, _, rfl, h, r⟩
theorem RepB.vobj {i : Nat} {ds : List D} (h : RepB K cn P H θ x (.obj i)) (s : Sim K cn P H θ S) (e : S[i]? = some (.lst ds)) : ∃ a xs, x = .ref a ∧ θ[i]? = some a ∧ H a = some (.lst xs) ∧ Reps K cn P H θ xs ds := by
  cases h with
  | of h =>
    cases h with
    | obj h =>
      obtain ⟨a, ha, xs, hx, r⟩ := s.cell i _ e
      rw [h] at ha; cases ha
      exact ⟨_, xs, rfl, h, hx, r⟩
theorem RepB.vdic {ks : List Key} {ds : List D} (h : RepB K cn P H θ x (.dic ks ds)) : ∃ a kvs, x = .ref a ∧ H a = some (.dK kvs) ∧ kvs.map (·.1) = ks ∧ Reps K cn P H θ (kvs.map (·.2)) ds := by
  cases h with
  | of h => cases h with | dic h _ _ e1 e2 r => subst e2; exact ⟨_, _, rfl, h, e1, r⟩
theorem RepB.vscr {ns : List Int} (h : RepB K cn P H θ x (.scr ns)) : ∃ a, x = .ref a ∧ SqL K H a (ns.map V.int) := by
  cases h with
  | of h => cases h with
    | scr h _ _ => exact ⟨_, rfl, .inl (.inr ⟨_, h⟩)⟩
    | scrK h => exact ⟨_, rfl, .inr h⟩
theorem Reps.ints : ∀ {ns : List Int}, Reps K cn P H θ (ns.map V.int) (ns.map D.int)
  | [] => .nil
  | n :: ns => .cons (.int n) (Reps.ints (ns := ns))
theorem Reps.of_ints : ∀ {xs : List V} {ns : List Int}, Reps K cn P H θ xs (ns.map D.int) → xs = ns.map V.int
  | _, [], .nil => rfl
  | _, n :: ns, .cons r rs => by rw [r.vint, Reps.of_ints rs]; rfl
theorem Reps.of_bls : ∀ {xs : List V} {ns : List Bool}, Reps K cn P H θ xs (ns.map D.bl) → xs = ns.map V.bl
  | _, [], .nil => rfl
  | _, n :: ns, .cons r rs => by rw [r.vbl, Reps.of_bls rs]; rfl
theorem Reps.of_strs : ∀ {xs : List V} {ns : List Str}, Reps K cn P H θ xs (ns.map D.str) → xs = ns.map V.str
  | _, [], .nil => rfl
  | _, n :: ns, .cons r rs => by rw [r.vstr, Reps.of_strs rs]; rfl
theorem Reps.strs : ∀ {ns : List Str}, Reps K cn P H θ (ns.map V.str) (ns.map D.str)
  | [] => .nil
  | n :: ns => .cons (.str n) (Reps.strs (ns := ns))

/-! ### ends -/
theorem Post.same {d : D} (p : Post K cn P H θ d S Q) (s : Sim K cn P H θ S) (r : Rep K cn P H θ x d) : Q x H := p x H θ s Evo.refl r
theorem Post.newT {xs : List V} {ds : List D} (p : Post K cn P H θ (.tup ds) S Q) (s : Sim K cn P H θ S) (r : Reps K cn P H θ xs ds) : ∀ a, H a = none → Q (.ref a) (upd H a (.tup xs)) := fun a h =>
  p _ _ θ (s.fresh h) (Evo.fresh h) (.tup upd_same (s.free h).1 (s.free h).2 (r.evo (Evo.fresh h)))
theorem Post.newL {xs : List V} {ds : List D} (p : Post K cn P H θ (.lst ds) S Q) (s : Sim K cn P H θ S) (r : Reps K cn P H θ xs ds) : ∀ a, H a = none → Q (.ref a) (upd H a (.lst xs)) := fun a h =>
  p _ _ θ (s.fresh h) (Evo.fresh h) (.lst upd_same (s.free h).1 (s.free h).2 (r.evo (Evo.fresh h)))
end

/-! ### names and constants -/
/-- a name's value, to be handed on -/
def xVal (i : Nat) : DX := fun ρ S => match ρ[i]? with
  | some (.val d) => .ok d S
  | _ => .stuck
/-- .. to be looked at -/
def xVar (i : Nat) : DX := fun ρ S => match ρ[i]? with
  | some (.val d) => .ok d S
  | some (.own ds) => .ok (.lst ds) S
  | _ => .stuck
def xC (d : D) : DX := fun _ S => .ok d S
section
variable {X : Cx} {cn : Nat → Addr}
theorem de_var (i : Nat) {x : Str} {pos : Pos} (hN : X.N[i]? = some x := by rfl) (hv : Vis X.env.scope x := by first | exact Or.inl rfl | exact Or.inr (Or.inl rfl) | exact Or.inr (Or.inr rfl)) (hd : (x == ("__debug__" : Str)) = false := by decide)
    (hcd : (x == ("__classdict__" : Str)) = false := by decide) : DE X cn (.Name x pos) (xVal i) :=
  ⟨(pe_var hN hv hd hcd).weak fun σ H Q ⟨P, θ, S, ρ, d, S', s, r, q, p⟩ => by
    unfold xVal at q
    split at q
    · rename_i d' e
      cases q
      obtain ⟨v, hv, sr⟩ := r.at_ i _ e
      cases sr with
      | val sr => exact ⟨_, hv, p.same s sr⟩
    · cases q⟩
theorem db_var (i : Nat) {x : Str} {pos : Pos} (hN : X.N[i]? = some x := by rfl) (hv : Vis X.env.scope x := by first | exact Or.inl rfl | exact Or.inr (Or.inl rfl) | exact Or.inr (Or.inr rfl)) (hd : (x == ("__debug__" : Str)) = false := by decide)
    (hcd : (x == ("__classdict__" : Str)) = false := by decide) : DB X cn (.Name x pos) (xVar i) :=
  ⟨(pe_var hN hv hd hcd).weak fun σ H Q ⟨P, θ, S, ρ, d, S', s, r, q, p⟩ => by
    unfold xVar at q
    split at q
    · rename_i d' e
      cases q
      obtain ⟨v, hv, sr⟩ := r.at_ i _ e
      cases sr with
      | val sr => exact ⟨_, hv, p _ H θ s Evo.refl (.of sr)⟩
    · rename_i ds e
      cases q
      obtain ⟨v, hv, sr⟩ := r.at_ i _ e
      cases sr with
      | own m h rs => exact ⟨_, hv, p _ H θ s Evo.refl (.own m h (s.pf _ m).1 rs)⟩
    · cases q⟩
theorem de_int {i : Int} {j : Nat} {pos : Pos} : DE X cn (.Constant (.int i) j pos) (xC (.int i)) := ⟨pe_int.weak fun σ H Q ⟨P, θ, S, ρ, d, S', s, r, q, p⟩ => by cases q; exact p.same s (.int i)⟩
theorem de_str {i : Str} {j : Nat} {pos : Pos} : DE X cn (.Constant (.str i) j pos) (xC (.str i)) := ⟨pe_str.weak fun σ H Q ⟨P, θ, S, ρ, d, S', s, r, q, p⟩ => by cases q; exact p.same s (.str i)⟩
theorem de_bl {i : Bool} {j : Nat} {pos : Pos} : DE X cn (.Constant (.bool i) j pos) (xC (.bl i)) := ⟨pe_bl.weak fun σ H Q ⟨P, θ, S, ρ, d, S', s, r, q, p⟩ => by cases q; exact p.same s (.bl i)⟩
theorem de_non {j : Nat} {pos : Pos} : DE X cn (.Constant .none j pos) (xC .non) := ⟨pe_non.weak fun σ H Q ⟨P, θ, S, ρ, d, S', s, r, q, p⟩ => by cases q; exact p.same s .non⟩

/-! ### arguments, displays -/
def xsNil : DXs := fun _ S => .ok [] S
def xsCons (f : DX) (g : DXs) : DXs := fun ρ S => (f ρ S).bind fun d S1 => (g ρ S1).bind fun ds S2 => .ok (d :: ds) S2
def objOf (S : Sto) (i : Nat) : Option (List D) := match S[i]? with
  | some (.lst xs) => some xs
  | _ => none
theorem objOf_eq {S : Sto} {i : Nat} {ds : List D} (h : objOf S i = some ds) : S[i]? = some (.lst ds) := by
  unfold objOf at h
  split at h
  · rename_i xs e
    cases h
    exact e
  · cases h
def seqOf (S : Sto) : D → Option (List D)
  | .tup xs => some xs
  | .lst xs => some xs
  | .obj i => objOf S i
  | _ => none
def xsStar (f : DX) (g : DXs) : DXs := fun ρ S => (f ρ S).bind fun d S1 => match seqOf S1 d with
  | some xs => (g ρ S1).bind fun ds S2 => .ok (xs ++ ds) S2
  | none => .stuck
class XsN (f : DXs) (n : outParam Nat) : Prop where
  len : ∀ (ρ : Rho) (S : Sto) (ds : List D) (S' : Sto), f ρ S = .ok ds S' → ds.length = n
instance : XsN xsNil 0 := ⟨fun _ _ _ _ h => by cases h; rfl⟩
instance {f : DX} {g : DXs} {n : Nat} [h : XsN g n] : XsN (xsCons f g) (n + 1) := ⟨fun ρ S ds S' q => by
  obtain ⟨d, S1, _, q⟩ := R.bind_eq q
  obtain ⟨es, S2, q2, q⟩ := R.bind_eq q
  cases q
  exact congrArg Nat.succ (h.len _ _ _ _ q2)⟩
theorem da_nil : DA X cn [] xsNil := ⟨pa_nil.weak fun σ H Q ⟨P, θ, S, ρ, d, S', s, r, q, p⟩ => by cases q; exact p [] H θ s Evo.refl .nil⟩
theorem dab_nil : DAB X cn [] xsNil := ⟨pa_nil.weak fun σ H Q ⟨P, θ, S, ρ, d, S', s, r, q, p⟩ => by cases q; exact p [] H θ s Evo.refl .nil⟩
theorem da_cons {e : Expr} {es : List Expr} {f : DX} {g : DXs} (h : DE X cn e f) (t : DA X cn es g) (hs : starEach (e :: es) X.env = (false, eval e X.env) :: starEach es X.env := by rfl) : DA X cn (e :: es) (xsCons f g) :=
  ⟨(pa_cons h.pe t.pa hs).weak fun σ H Q ⟨P, θ, S, ρ, d, S', s, r, q, p⟩ => by
    obtain ⟨d1, S1, q1, q⟩ := R.bind_eq q
    obtain ⟨ds, S2, q2, q⟩ := R.bind_eq q
    cases q
    refine ⟨P, θ, S, ρ, d1, S1, s, r, q1, fun x H1 θ1 s1 e1 r1 => ?_⟩
    refine ⟨P, θ1, S1, ρ, ds, S', s1, r.evo s e1, q2, fun xs H2 θ2 s2 e2 r2 => ?_⟩
    exact p _ H2 θ2 s2 (e1.trans e2) (.cons (r1.evo e2) r2)⟩
theorem dab_cons {e : Expr} {es : List Expr} {f : DX} {g : DXs} (h : DB X cn e f) (t : DAB X cn es g) (hs : starEach (e :: es) X.env = (false, eval e X.env) :: starEach es X.env := by rfl) : DAB X cn (e :: es) (xsCons f g) :=
  ⟨(pa_cons h.pe t.pa hs).weak fun σ H Q ⟨P, θ, S, ρ, d, S', s, r, q, p⟩ => by
    obtain ⟨d1, S1, q1, q⟩ := R.bind_eq q
    obtain ⟨ds, S2, q2, q⟩ := R.bind_eq q
    cases q
    refine ⟨P, θ, S, ρ, d1, S1, s, r, q1, fun x H1 θ1 s1 e1 r1 => ?_⟩
    refine ⟨P, θ1, S1, ρ, ds, S', s1, r.evo s e1, q2, fun xs H2 θ2 s2 e2 r2 => ?_⟩
    exact p _ H2 θ2 s2 (e1.trans e2) (.cons (r1.evo e2) r2)⟩
theorem seqOf_rep {K : PySem.W.Frag} {P : List Addr} {H : Hp} {θ : List Addr} {S : Sto} {x : V} {d : D} {ds : List D} (s : Sim K cn P H θ S) (r : RepB K cn P H θ x d) (e : seqOf S d = some ds) :
    ∃ a xs, x = .ref a ∧ (SqT K H a xs ∨ SqL K H a xs) ∧ Reps K cn P H θ xs ds := by
  cases d with
  | tup xs => cases e; obtain ⟨a, xs, e, h, r⟩ := r.vtup; exact ⟨a, xs, e, .inl h, r⟩
  | lst xs => cases e; obtain ⟨a, xs, e, h, r⟩ := r.vlst; exact ⟨a, xs, e, .inr (SqL.of h), r⟩
  | obj i =>
    obtain ⟨a, xs, e, _, h, r⟩ := r.vobj s (objOf_eq e)
    exact ⟨a, xs, e, .inr (SqL.of h), r⟩
  | _ => cases e
theorem da_star {e : Expr} {es : List Expr} {f : DX} {g : DXs} {sp : Pos} (h : DB X cn e f) (t : DA X cn es g) (hs : starEach (.Starred e sp :: es) X.env = (true, eval e X.env) :: starEach es X.env := by rfl) : DA X cn (.Starred e sp :: es) (xsStar f g) :=
  ⟨(StX.pa_star h.pe t.pa hs).weak fun σ H Q ⟨P, θ, S, ρ, d, S', s, r, q, p⟩ => by
    obtain ⟨d1, S1, q1, q⟩ := R.bind_eq q
    refine ⟨P, θ, S, ρ, d1, S1, s, r, q1, fun x H1 θ1 s1 e1 r1 => ?_⟩
    split at q
    · rename_i zs hz
      obtain ⟨ds, S2, q2, q⟩ := R.bind_eq q
      cases q
      obtain ⟨a, xs, ex, hx, rs⟩ := seqOf_rep s1 r1 hz
      refine ⟨a, xs, ex, hx, P, θ1, S1, ρ, ds, S', s1, r.evo s e1, q2, fun ys H2 θ2 s2 e2 r2 => ?_⟩
      exact p _ H2 θ2 s2 (e1.trans e2) ((rs.evo e2).append r2)
    · cases q⟩
def fits (n : Nat) : Bool := decide (n ≤ 16777216)
theorem fits_ok {n : Nat} (h : fits n = true) : n ≤ sizeLine := by
  rw [sizeLine_eq]
  exact of_decide_eq_true h
def xTup (fs : DXs) : DX := fun ρ S => (fs ρ S).bind fun ds S1 => .ok (.tup ds) S1
def xLst (fs : DXs) : DX := fun ρ S => (fs ρ S).bind fun ds S1 => .ok (.lst ds) S1
/-- with stars: as long as may be -/
def xTupS (fs : DXs) : DX := fun ρ S => (fs ρ S).bind fun ds S1 => if fits ds.length then .ok (.tup ds) S1 else .stuck
def xLstS (fs : DXs) : DX := fun ρ S => (fs ρ S).bind fun ds S1 => if fits ds.length then .ok (.lst ds) S1 else .stuck
theorem small_line {n : Nat} (h : n ≤ 1000) : n ≤ sizeLine := Nat.le_of_lt (small1000 h)
theorem de_tup {es : List Expr} {f : DXs} {n : Nat} {x1 : Nat} {pos : Pos} [hn : XsN f n] (h : DA X cn es f) (hz : n ≤ 1000 := by decide) : DE X cn (.Tuple es x1 pos) (xTup f) :=
  ⟨(pe_tup h.pa).weak fun σ H Q ⟨P, θ, S, ρ, d, S', s, r, q, p⟩ => by
    obtain ⟨ds, S1, q1, q⟩ := R.bind_eq q
    cases q
    refine ⟨P, θ, S, ρ, ds, S', s, r, q1, fun xs H1 θ1 s1 e1 r1 => ⟨?_, (p.at_ e1).newT s1 r1⟩⟩
    rw [r1.length, hn.len _ _ _ _ q1]
    exact small_line hz⟩
theorem de_lst {es : List Expr} {f : DXs} {n : Nat} {pos : Pos} [hn : XsN f n] (h : DA X cn es f) (hz : n ≤ 1000 := by decide) : DE X cn (.List es pos) (xLst f) :=
  ⟨(pe_lst h.pa).weak fun σ H Q ⟨P, θ, S, ρ, d, S', s, r, q, p⟩ => by
    obtain ⟨ds, S1, q1, q⟩ := R.bind_eq q
    cases q
    refine ⟨P, θ, S, ρ, ds, S', s, r, q1, fun xs H1 θ1 s1 e1 r1 => ⟨?_, (p.at_ e1).newL s1 r1⟩⟩
    rw [r1.length, hn.len _ _ _ _ q1]
    exact small_line hz⟩
theorem de_tupS {es : List Expr} {f : DXs} {x1 : Nat} {pos : Pos} (h : DA X cn es f) : DE X cn (.Tuple es x1 pos) (xTupS f) :=
  ⟨(pe_tup h.pa).weak fun σ H Q ⟨P, θ, S, ρ, d, S', s, r, q, p⟩ => by
    obtain ⟨ds, S1, q1, q⟩ := R.bind_eq q
    split at q
    · rename_i hz
      cases q
      refine ⟨P, θ, S, ρ, ds, S', s, r, q1, fun xs H1 θ1 s1 e1 r1 => ⟨?_, (p.at_ e1).newT s1 r1⟩⟩
      rw [r1.length]
      exact fits_ok hz
    · cases q⟩
theorem de_lstS {es : List Expr} {f : DXs} {pos : Pos} (h : DA X cn es f) : DE X cn (.List es pos) (xLstS f) :=
  ⟨(pe_lst h.pa).weak fun σ H Q ⟨P, θ, S, ρ, d, S', s, r, q, p⟩ => by
    obtain ⟨ds, S1, q1, q⟩ := R.bind_eq q
    split at q
    · rename_i hz
      cases q
      refine ⟨P, θ, S, ρ, ds, S', s, r, q1, fun xs H1 θ1 s1 e1 r1 => ⟨?_, (p.at_ e1).newL s1 r1⟩⟩
      rw [r1.length]
      exact fits_ok hz
    · cases q⟩

/-! ### operators by values -/
abbrev Op2 := Sto → D → D → R D
def rD (K : PySem.W.Frag) (cn : Nat → Addr) (o : Op2) : R2 := fun x y H Q => ∃ P θ S d e r S', Sim K cn P H θ S ∧ RepB K cn P H θ x d ∧ RepB K cn P H θ y e ∧ o S d e = .ok r S' ∧ Post K cn P H θ r S' Q
def OpD (X : Cx) (cn : Nat → Addr) (f : Value → Value → Sem Value) (o : Op2) : Prop := OpR X f (rD X.K cn o)
def xOp (o : Op2) (f g : DX) : DX := fun ρ S => (f ρ S).bind fun d S1 => (g ρ S1).bind fun e S2 => o S2 d e
theorem bin_weak {K : PySem.W.Frag} {o : Op2} {f g : DX} {σ : L2.St} {H : Hp} {Q : VK} (h : tD K cn (xOp o f g) σ H Q) : tDB K cn f σ H fun x H1 => tDB K cn g σ H1 fun y H2 => rD K cn o x y H2 Q := by
  obtain ⟨P, θ, S, ρ, d, S', s, r, q, p⟩ := h
  obtain ⟨d1, S1, q1, q⟩ := R.bind_eq q
  obtain ⟨d2, S2, q2, q⟩ := R.bind_eq q
  refine ⟨P, θ, S, ρ, d1, S1, s, r, q1, fun x H1 θ1 s1 e1 r1 => ?_⟩
  refine ⟨P, θ1, S1, ρ, d2, S2, s1, r.evo s e1, q2, fun y H2 θ2 s2 e2 r2 => ?_⟩
  exact ⟨P, θ2, S2, d1, d2, d, S', s2, r1.evo e2, r2, q, p.at_ (e1.trans e2)⟩
theorem de_op {op : Operator} {o : Op2} {a b : Expr} {f g : DX} {pos : Pos} (ho : OpD X cn (binaryOp op) o) (ha : DB X cn a f) (hb : DB X cn b g) : DE X cn (.BinOp a op b pos) (xOp o f g) := ⟨(pe_op ho ha.pe hb.pe).weak fun σ H Q h => bin_weak h⟩
theorem de_cmp {op : CmpOp} {o : Op2} {a b : Expr} {f g : DX} {pos : Pos} (ho : OpD X cn (compareOp op) o) (ha : DB X cn a f) (hb : DB X cn b g) (hm : behindInMarks op b = false := by rfl) : DE X cn (.Compare a [op] [b] pos) (xOp o f g) :=
  ⟨(pe_cmpR ho ha.pe hb.pe hm).weak fun σ H Q h => bin_weak h⟩
theorem post_test {K : PySem.W.Frag} {f : DX} {σ : L2.St} {H : Hp} {Q : Bool → Hp → Prop} (h : tDT K cn f σ H Q) : tD K cn f σ H fun x H' => ∃ k, x = .bl k ∧ Q k H' := by
  obtain ⟨P, θ, S, ρ, b, S', s, r, q, p⟩ := h
  exact ⟨P, θ, S, ρ, .bl b, S', s, r, q, fun v H' θ' s' e' r' => ⟨b, r'.vbl, p H' θ' s' e'⟩⟩
theorem dt_cmp {op : CmpOp} {o : Op2} {a b : Expr} {f g : DX} {pos : Pos} (ho : OpD X cn (compareOp op) o) (ha : DB X cn a f) (hb : DB X cn b g) (hm : behindInMarks op b = false := by rfl) : DT X cn (.Compare a [op] [b] pos) (xOp o f g) :=
  ⟨(pt_cmpR ho ha.pe hb.pe hm).weak fun σ H Q h => bin_weak (post_test h)⟩

/-! ### and, or, not, if -/
def xAnd (f g : DX) : DX := fun ρ S => (f ρ S).bind fun d S1 => match d with
  | .bl true => g ρ S1
  | .bl false => .ok (.bl false) S1
  | _ => .stuck
def xOr (f g : DX) : DX := fun ρ S => (f ρ S).bind fun d S1 => match d with
  | .bl true => .ok (.bl true) S1
  | .bl false => g ρ S1
  | _ => .stuck
def xNot (f : DX) : DX := fun ρ S => (f ρ S).bind fun d S1 => match d with
  | .bl b => .ok (.bl !b) S1
  | _ => .stuck
def xIf (c f g : DX) : DX := fun ρ S => (c ρ S).bind fun d S1 => match d with
  | .bl true => f ρ S1
  | .bl false => g ρ S1
  | _ => .stuck
variable {a b c : Expr} {rest : List Expr} {f g t : DX} {pos : Pos}
/-- and, or as values: of bools -/
theorem de_one {op : BoolOp} (h : DE X cn a f) : DE X cn (.BoolOp op [a] pos) f := ⟨pe_one h.pe⟩
theorem de_and (ha : DE X cn a f) (hb : DE X cn (.BoolOp .And (b :: rest) pos) g) : DE X cn (.BoolOp .And (a :: b :: rest) pos) (xAnd f g) :=
  ⟨(pe_and ha.pe hb.pe).weak fun σ H Q ⟨P, θ, S, ρ, d, S', s, r, q, p⟩ => by
    obtain ⟨d1, S1, q1, q⟩ := R.bind_eq q
    refine ⟨P, θ, S, ρ, d1, S1, s, r, q1, fun x H1 θ1 s1 e1 r1 => ?_⟩
    split at q
    · exact ⟨true, r1.vbl, P, θ1, S1, ρ, d, S', s1, r.evo s e1, q, p.at_ e1⟩
    · cases q
      exact ⟨false, r1.vbl, p _ H1 θ1 s1 e1 (.bl false)⟩
    · cases q⟩
theorem de_or (ha : DE X cn a f) (hb : DE X cn (.BoolOp .Or (b :: rest) pos) g) : DE X cn (.BoolOp .Or (a :: b :: rest) pos) (xOr f g) :=
  ⟨(pe_or ha.pe hb.pe).weak fun σ H Q ⟨P, θ, S, ρ, d, S', s, r, q, p⟩ => by
    obtain ⟨d1, S1, q1, q⟩ := R.bind_eq q
    refine ⟨P, θ, S, ρ, d1, S1, s, r, q1, fun x H1 θ1 s1 e1 r1 => ?_⟩
    split at q
    · cases q
      exact ⟨true, r1.vbl, p _ H1 θ1 s1 e1 (.bl true)⟩
    · exact ⟨false, r1.vbl, P, θ1, S1, ρ, d, S', s1, r.evo s e1, q, p.at_ e1⟩
    · cases q⟩
theorem de_not (ha : DE X cn a f) : DE X cn (.UnaryOp .Not a pos) (xNot f) :=
  ⟨(pe_not ha.pe).weak fun σ H Q ⟨P, θ, S, ρ, d, S', s, r, q, p⟩ => by
    obtain ⟨d1, S1, q1, q⟩ := R.bind_eq q
    refine ⟨P, θ, S, ρ, d1, S1, s, r, q1, fun x H1 θ1 s1 e1 r1 => ?_⟩
    split at q
    · cases q
      exact ⟨_, r1.vbl, p _ H1 θ1 s1 e1 (.bl _)⟩
    · cases q⟩
/-- .. as tests -/
structure DW (X : Cx) (cn : Nat → Addr) (e : Expr) (f : DX) : Prop where
  pw : PW X e (tDT X.K cn f)
theorem DW.dt (h : DW X cn a f) : DT X cn a f := ⟨h.pw.pt⟩
theorem dw_and1 (h : DT X cn a f) : DW X cn (.BoolOp .And [a] pos) f := ⟨pw_and1 h.pt⟩
theorem dw_or1 (h : DT X cn a f) : DW X cn (.BoolOp .Or [a] pos) f := ⟨pw_or1 h.pt⟩
theorem dw_and (ha : DT X cn a f) (hb : DW X cn (.BoolOp .And (b :: rest) pos) g) : DW X cn (.BoolOp .And (a :: b :: rest) pos) (xAnd f g) :=
  ⟨(pw_and ha.pt hb.pw).weak fun σ H Q ⟨P, θ, S, ρ, d, S', s, r, q, p⟩ => by
    obtain ⟨d1, S1, q1, q⟩ := R.bind_eq q
    split at q
    · exact ⟨P, θ, S, ρ, true, S1, s, r, q1, fun H1 θ1 s1 e1 => ⟨P, θ1, S1, ρ, d, S', s1, r.evo s e1, q, fun H2 θ2 s2 e2 => p H2 θ2 s2 (e1.trans e2)⟩⟩
    · cases q
      exact ⟨P, θ, S, ρ, false, S', s, r, q1, fun H1 θ1 s1 e1 => p H1 θ1 s1 e1⟩
    · cases q⟩
theorem dw_or (ha : DT X cn a f) (hb : DW X cn (.BoolOp .Or (b :: rest) pos) g) : DW X cn (.BoolOp .Or (a :: b :: rest) pos) (xOr f g) :=
  ⟨(pw_or ha.pt hb.pw).weak fun σ H Q ⟨P, θ, S, ρ, d, S', s, r, q, p⟩ => by
    obtain ⟨d1, S1, q1, q⟩ := R.bind_eq q
    split at q
    · cases q
      exact ⟨P, θ, S, ρ, true, S', s, r, q1, fun H1 θ1 s1 e1 => p H1 θ1 s1 e1⟩
    · exact ⟨P, θ, S, ρ, false, S1, s, r, q1, fun H1 θ1 s1 e1 => ⟨P, θ1, S1, ρ, d, S', s1, r.evo s e1, q, fun H2 θ2 s2 e2 => p H2 θ2 s2 (e1.trans e2)⟩⟩
    · cases q⟩
theorem dt_not (ha : DT X cn a f) : DT X cn (.UnaryOp .Not a pos) (xNot f) :=
  ⟨(pt_not ha.pt).weak fun σ H Q ⟨P, θ, S, ρ, d, S', s, r, q, p⟩ => by
    obtain ⟨d1, S1, q1, q⟩ := R.bind_eq q
    split at q
    · rename_i b'
      cases q
      exact ⟨P, θ, S, ρ, b', S', s, r, q1, fun H1 θ1 s1 e1 => p H1 θ1 s1 e1⟩
    · cases q⟩
theorem de_if (hc : DT X cn c t) (ha : DE X cn a f) (hb : DE X cn b g) : DE X cn (.IfExp c a b pos) (xIf t f g) :=
  ⟨(pe_ifExp hc.pt ha.pe hb.pe).weak fun σ H Q ⟨P, θ, S, ρ, d, S', s, r, q, p⟩ => by
    obtain ⟨d1, S1, q1, q⟩ := R.bind_eq q
    split at q
    · exact ⟨P, θ, S, ρ, true, S1, s, r, q1, fun H1 θ1 s1 e1 => ⟨P, θ1, S1, ρ, d, S', s1, r.evo s e1, q, p.at_ e1⟩⟩
    · exact ⟨P, θ, S, ρ, false, S1, s, r, q1, fun H1 θ1 s1 e1 => ⟨P, θ1, S1, ρ, d, S', s1, r.evo s e1, q, p.at_ e1⟩⟩
    · cases q⟩
end
end DL

set_option Elab.async false
set_option linter.all false
set_option maxRecDepth 100000
set_option maxHeartbeats 4000000
set_option autoImplicit false
namespace DL
open PySem PySem.Spec PyProof.Rows L2

/-! ### equality of data -/
mutual
def toPy : D → PyData
  | .non => .none
  | .bl b => .bool b
  | .int i => .int i
  | .str x => .str x
  | .tup xs => .tuple (toPys xs)
  | .lst xs => .list (toPys xs)
  | .dic _ _ => .none
  | .ins _ _ _ => .none
  | .obj _ => .none
  | .scr _ => .none
def toPys : List D → List PyData
  | [] => []
  | d :: ds => toPy d :: toPys ds
end
mutual
def lay : D → Bool
  | .non => true
  | .bl _ => true
  | .int _ => true
  | .str x => PyData.strOk x
  | .tup xs => lays xs
  | .lst xs => lays xs
  | .dic _ _ => false
  | .ins _ _ _ => false
  | .obj _ => false
  | .scr _ => false
def lays : List D → Bool
  | [] => true
  | d :: ds => lay d && lays ds
end
def dep (d : D) : Nat := (toPy d).depth
def deps (ds : List D) : Nat := PyData.depthAll (toPys ds)
def eqD (d e : D) : Bool := PyData.eqv (toPy d) (toPy e)
def eqDs (d e : List D) : Bool := PyData.eqvAll (toPys d) (toPys e)
section
variable {K : PySem.W.Frag} {cn : Nat → Addr} {P : List Addr} {H : Hp} {θ : List Addr} {S : Sto}
mutual
theorem lay_can : ∀ (d : D), lay d = true → (toPy d).canLay0 = true
  | .non, _ => by simp only [toPy, PyData.canLay0]
  | .bl b, _ => by simp only [toPy, PyData.canLay0]
  | .int i, _ => by simp only [toPy, PyData.canLay0]
  | .str x, h => by simp only [toPy, PyData.canLay0]; exact h
  | .tup xs, h => by simp only [toPy, PyData.canLay0]; exact lays_can xs h
  | .lst xs, h => by simp only [toPy, PyData.canLay0]; exact lays_can xs h
  | .dic _ _, h => nomatch (show false = true from h)
  | .ins _ _ _, h => nomatch (show false = true from h)
  | .obj _, h => nomatch (show false = true from h)
  | .scr _, h => nomatch (show false = true from h)
theorem lays_can : ∀ (ds : List D), lays ds = true → PyData.canLayAll0 (toPys ds) = true
  | [], _ => by simp only [toPys, PyData.canLayAll0]
  | d :: ds, h => by
    have h' : lay d = true ∧ lays ds = true := Bool.and_eq_true_iff.mp h
    simp only [toPys, PyData.canLayAll0, lay_can d h'.1, lays_can ds h'.2, Bool.and_self]
end
mutual
theorem rep_dp : ∀ (d : D) (v : V), Rep K cn P H θ v d → lay d = true → Dp K H v (toPy d)
  | .non, _, h, _ => by cases h; exact .non
  | .bl b, _, h, _ => by cases h; exact .bl b
  | .int i, _, h, _ => by cases h; exact .int i
  | .str x, _, h, _ => by cases h; exact .str x
  | .tup xs, _, h, l => by
    cases h with
    | tup h _ _ r => exact .tup (SqT.of h) (reps_dp xs _ r l)
    | tupK h r => exact .tup (.inr h) (reps_dp xs _ r l)
  | .lst xs, _, h, l => by cases h with | lst h _ _ r => exact .lst (SqL.of h) (reps_dp xs _ r l)
  | .dic _ _, _, _, h => nomatch (show false = true from h)
  | .ins _ _ _, _, _, h => nomatch (show false = true from h)
  | .obj _, _, _, h => nomatch (show false = true from h)
  | .scr _, _, _, h => nomatch (show false = true from h)
theorem reps_dp : ∀ (ds : List D) (vs : List V), Reps K cn P H θ vs ds → lays ds = true → DpAll K H vs (toPys ds)
  | [], _, h, _ => by cases h; exact .nil
  | d :: ds, _, h, l => by
    cases h with
    | cons h1 h2 =>
      have l' : lay d = true ∧ lays ds = true := Bool.and_eq_true_iff.mp l
      exact .cons (rep_dp d _ h1 l'.1) (reps_dp ds _ h2 l'.2)
end
/-- a list that changes, as it stands -/
def deref (S : Sto) : D → D
  | .obj i => match objOf S i with
    | some xs => .lst xs
    | none => .obj i
  | d => d
theorem repB_dp {v : V} {d : D} (s : Sim K cn P H θ S) (r : RepB K cn P H θ v d) (l : lay (deref S d) = true) : Dp K H v (toPy (deref S d)) := by
  have other : ∀ {d : D}, RepB K cn P H θ v d → lay d = true → Dp K H v (toPy d) := fun {d} r l => by
    cases r with
    | of r => exact rep_dp d v r l
    | own m h n rs => exact .lst (SqL.of h) (reps_dp _ _ rs l)
  cases d with
  | obj i =>
    unfold deref at l ⊢
    cases e : objOf S i with
    | none =>
      simp only [e] at l
      exact nomatch (show false = true from l)
    | some xs =>
      simp only [e] at l ⊢
      obtain ⟨a, ys, rfl, _, h, rs⟩ := r.vobj s (objOf_eq e)
      exact .lst (SqL.of h) (reps_dp _ _ rs l)
  | _ => exact other r l
end

/-! ### the operators on data -/
def absI (i : Int) : Nat := i.natAbs
def small64 (i : Int) : Bool := decide (-18446744073709551616 < i) && decide (i < 18446744073709551616)
def lt63 (i : Int) : Bool := decide (-9223372036854775808 ≤ i) && decide (i < 9223372036854775808)
def lt62 (i : Int) : Bool := decide (-4611686018427387904 ≤ i) && decide (i < 4611686018427387904)
theorem small64_ok {i : Int} (h : small64 i = true) : -(2 ^ 64) < i ∧ i < 2 ^ 64 := by
  obtain ⟨h1, h2⟩ := Bool.and_eq_true_iff.mp h
  have h1 := of_decide_eq_true h1
  have h2 := of_decide_eq_true h2
  omega
theorem lt63_ok {i : Int} (h : lt63 i = true) : -(2 ^ 63) ≤ i ∧ i < 2 ^ 63 := by
  obtain ⟨h1, h2⟩ := Bool.and_eq_true_iff.mp h
  have h1 := of_decide_eq_true h1
  have h2 := of_decide_eq_true h2
  omega
theorem lt62_ok {i : Int} (h : lt62 i = true) : -(2 ^ 62) ≤ i ∧ i < 2 ^ 62 := by
  obtain ⟨h1, h2⟩ := Bool.and_eq_true_iff.mp h
  have h1 := of_decide_eq_true h1
  have h2 := of_decide_eq_true h2
  omega
def oAdd : Op2 := fun S d e => match d, e with
  | .int i, .int j => .ok (.int (i + j)) S
  | .str x, .str y => if fits (x.length + y.length) then .ok (.str (x ++ y)) S else .stuck
  | .tup xs, .tup ys => if fits (xs.length + ys.length) then .ok (.tup (xs ++ ys)) S else .stuck
  | .lst xs, .lst ys => if fits (xs.length + ys.length) then .ok (.lst (xs ++ ys)) S else .stuck
  | _, _ => .stuck
def oSub : Op2 := fun S d e => match d, e with
  | .int i, .int j => .ok (.int (i - j)) S
  | _, _ => .stuck
def oMul : Op2 := fun S d e => match d, e with
  | .int i, .int j => if small64 i || small64 j then .ok (.int (i * j)) S else .stuck
  | .lst xs, .int k => if lt63 k && fits (xs.length * k.toNat) then .ok (.lst (List.replicate k.toNat xs).flatten) S else .stuck
  | _, _ => .stuck
def oDiv : Op2 := fun S d e => match d, e with
  | .int i, .int j => if decide (0 < j) && decide (j < 1073741824) then .ok (.int (i / j)) S else .stuck
  | _, _ => .stuck
def oMod : Op2 := fun S d e => match d, e with
  | .int i, .int j => if decide (0 < j) then .ok (.int (i % j)) S else .stuck
  | _, _ => .stuck
def oPow : Op2 := fun S d e => match d, e with
  | .int i, .int j => if decide (0 ≤ j) && (decide (j ≤ 1000000) && decide (i.natAbs < 18446744073709551616)) then .ok (.int (i ^ j.toNat)) S else .stuck
  | _, _ => .stuck
def comparable (d e : D) : Bool := lay d && (lay e && decide (min (dep d) (dep e) ≤ 100))
def oEq : Op2 := fun S d e => if comparable (deref S d) (deref S e) then .ok (.bl (eqD (deref S d) (deref S e))) S else .stuck
def oNe : Op2 := fun S d e => if comparable (deref S d) (deref S e) then .ok (.bl (!eqD (deref S d) (deref S e))) S else .stuck
def strLt (x y : Str) : Bool := decide (x.cps.toList < y.cps.toList)
def oLt : Op2 := fun S d e => match d, e with
  | .int i, .int j => .ok (.bl (decide (i < j))) S
  | .str x, .str y => .ok (.bl (strLt x y)) S
  | _, _ => .stuck
def oLe : Op2 := fun S d e => match d, e with
  | .int i, .int j => .ok (.bl (decide (i ≤ j))) S
  | _, _ => .stuck
def oGt : Op2 := fun S d e => match d, e with
  | .int i, .int j => .ok (.bl (decide (j < i))) S
  | _, _ => .stuck
def oGe : Op2 := fun S d e => match d, e with
  | .int i, .int j => .ok (.bl (decide (j ≤ i))) S
  | _, _ => .stuck
def anyEq (xs : List D) (d : D) : Bool := xs.any fun z => eqD z d
def within (xs : List D) (d : D) : Bool := lays xs && (lay d && decide (min (deps xs) (dep d) ≤ 100))
def oIn : Op2 := fun S d e => match e with
  | .str z => match d with
    | .str x => match x.cps.toList with
      | [c] => .ok (.bl (decide (c ∈ z.cps.toList))) S
      | _ => .stuck
    | _ => .stuck
  | _ => match seqOf S e with
    | some xs => if within xs (deref S d) then .ok (.bl (anyEq xs (deref S d))) S else .stuck
    | none => .stuck
def oNotIn : Op2 := fun S d e => match e with
  | .str z => match d with
    | .str x => match x.cps.toList with
      | [c] => .ok (.bl (!decide (c ∈ z.cps.toList))) S
      | _ => .stuck
    | _ => .stuck
  | _ => match seqOf S e with
    | some xs => if within xs (deref S d) then .ok (.bl (!anyEq xs (deref S d))) S else .stuck
    | none => .stuck
def isNon : D → Bool
  | .non => true
  | _ => false
def oIs : Op2 := fun S d e => match e with
  | .non => .ok (.bl (isNon d)) S
  | .bl b => match d with
    | .bl c => .ok (.bl (c == b)) S
    | _ => .stuck
  | _ => .stuck
def oIsNot : Op2 := fun S d e => match e with
  | .non => .ok (.bl (!isNon d)) S
  | .bl b => match d with
    | .bl c => .ok (.bl (c != b)) S
    | _ => .stuck
  | _ => .stuck
section
variable {X : Cx} {cn : Nat → Addr}
theorem opd_add : OpD X cn (binaryOp .Add) oAdd := by
  rintro pins s σ H x y v u Q I rx ry ⟨P, θ, S, d, e, r, S', sm, rd, re, q, p⟩
  unfold oAdd at q
  split at q
  · cases q
    exact op_add pins s σ H x y v u Q I rx ry ⟨_, _, rd.vint, re.vint, p.same sm (.int _)⟩
  · split at q
    · rename_i h
      cases q
      exact op_add_str pins s σ H x y v u Q I rx ry ⟨_, _, rd.vstr, re.vstr, fits_ok h, p.same sm (.str _)⟩
    · cases q
  · split at q
    · rename_i xs ys h
      cases q
      obtain ⟨a, vs, ea, ha, ra⟩ := rd.vtup
      obtain ⟨b, ws, eb, hb, rb⟩ := re.vtup
      have hl : vs.length + ws.length ≤ sizeLine := by rw [ra.length, rb.length]; exact fits_ok h
      refine op_catA pins s σ H x y v u Q I rx ry ⟨a, b, vs, ws, ea, eb, ha, hb, hl, fun e => ?_, fun _ e => ?_, fun _ _ => p.newT sm (ra.append rb)⟩
      · subst e
        cases ra
        cases re with
        | of re => rw [eb] at re; exact p.same sm re
      · subst e
        cases rb
        rw [List.append_nil] at p
        cases rd with
        | of rd => rw [ea] at rd; exact p.same sm rd
    · cases q
  · split at q
    · rename_i xs ys h
      cases q
      obtain ⟨a, vs, ea, ha, ra⟩ := rd.vlst
      obtain ⟨b, ws, eb, hb, rb⟩ := re.vlst
      have hl : vs.length + ws.length ≤ sizeLine := by rw [ra.length, rb.length]; exact fits_ok h
      exact op_cat pins s σ H x y v u Q I rx ry ⟨a, b, vs, ws, ea, eb, ha, hb, hl, p.newL sm (ra.append rb)⟩
    · cases q
  · cases q
theorem opd_sub : OpD X cn (binaryOp .Sub) oSub := by
  rintro pins s σ H x y v u Q I rx ry ⟨P, θ, S, d, e, r, S', sm, rd, re, q, p⟩
  unfold oSub at q
  split at q
  · cases q
    exact op_sub pins s σ H x y v u Q I rx ry ⟨_, _, rd.vint, re.vint, p.same sm (.int _)⟩
  · cases q
theorem reps_rep {K : PySem.W.Frag} {P : List Addr} {H : Hp} {θ : List Addr} {vs : List V} {ds : List D} (r : Reps K cn P H θ vs ds) : ∀ n : Nat, Reps K cn P H θ (List.replicate n vs).flatten (List.replicate n ds).flatten
  | 0 => by simpa using Reps.nil
  | n + 1 => by
    have := r.append (reps_rep r n)
    simpa [List.replicate_succ] using this
theorem opd_mul : OpD X cn (binaryOp .Mult) oMul := by
  rintro pins s σ H x y v u Q I rx ry ⟨P, θ, S, d, e, r, S', sm, rd, re, q, p⟩
  unfold oMul at q
  split at q
  · split at q
    · rename_i i j h
      cases q
      refine op_mul pins s σ H x y v u Q I rx ry ⟨i, j, rd.vint, re.vint, ?_, p.same sm (.int _)⟩
      rcases Bool.or_eq_true_iff.mp h with h | h
      · exact .inl (small64_ok h)
      · exact .inr (small64_ok h)
    · cases q
  · split at q
    · rename_i xs k h
      cases q
      obtain ⟨a, vs, ea, ha, ra⟩ := rd.vlst
      obtain ⟨h12, h3⟩ := Bool.and_eq_true_iff.mp h
      obtain ⟨h1, h2⟩ := lt63_ok h12
      refine op_rep pins s σ H x y v u Q I rx ry ⟨a, k, vs, ea, re.vint, ha, h1, h2, ?_, p.newL sm (reps_rep ra _)⟩
      rw [ra.length]
      exact fits_ok h3
    · cases q
  · cases q
theorem opd_div : OpD X cn (binaryOp .FloorDiv) oDiv := by
  rintro pins s σ H x y v u Q I rx ry ⟨P, θ, S, d, e, r, S', sm, rd, re, q, p⟩
  unfold oDiv at q
  split at q
  · split at q
    · rename_i i j h
      cases q
      obtain ⟨h1, h2⟩ := Bool.and_eq_true_iff.mp h
      exact op_fdiv pins s σ H x y v u Q I rx ry ⟨i, j, rd.vint, re.vint, ⟨of_decide_eq_true h1, of_decide_eq_true h2⟩, p.same sm (.int _)⟩
    · cases q
  · cases q
theorem opd_mod : OpD X cn (binaryOp .Mod) oMod := by
  rintro pins s σ H x y v u Q I rx ry ⟨P, θ, S, d, e, r, S', sm, rd, re, q, p⟩
  unfold oMod at q
  split at q
  · split at q
    · rename_i i j h
      cases q
      exact op_mod pins s σ H x y v u Q I rx ry ⟨i, j, rd.vint, re.vint, of_decide_eq_true h, p.same sm (.int _)⟩
    · cases q
  · cases q
theorem opd_pow : OpD X cn (binaryOp .Pow) oPow := by
  rintro pins s σ H x y v u Q I rx ry ⟨P, θ, S, d, e, r, S', sm, rd, re, q, p⟩
  unfold oPow at q
  split at q
  · split at q
    · rename_i i j h
      cases q
      obtain ⟨h1, h⟩ := Bool.and_eq_true_iff.mp h
      obtain ⟨h2, h3⟩ := Bool.and_eq_true_iff.mp h
      exact op_pow pins s σ H x y v u Q I rx ry ⟨i, j, rd.vint, re.vint, ⟨of_decide_eq_true h1, of_decide_eq_true h2, of_decide_eq_true h3⟩, p.same sm (.int _)⟩
    · cases q
  · cases q
theorem comparable_ok {d e : D} (h : comparable d e = true) : lay d = true ∧ lay e = true ∧ min (dep d) (dep e) ≤ 100 := by
  obtain ⟨h1, h⟩ := Bool.and_eq_true_iff.mp h
  obtain ⟨h2, h3⟩ := Bool.and_eq_true_iff.mp h
  exact ⟨h1, h2, of_decide_eq_true h3⟩
theorem opd_eq (hu : X.A.units + 150 < cLine) : OpD X cn (compareOp .Eq) oEq := by
  rintro pins s σ H x y v u Q I rx ry ⟨P, θ, S, d, e, r, S', sm, rd, re, q, p⟩
  unfold oEq at q
  split at q
  · rename_i h
    cases q
    obtain ⟨h1, h2, h3⟩ := comparable_ok h
    obtain ⟨as, r1⟩ := Dp.reads I _ x v (repB_dp sm rd h1) rx
    obtain ⟨bs, r2⟩ := Dp.reads I _ y u (repB_dp sm re h2) ry
    unfold dep at h3
    exact SeqAt.compareEq_reads r1 r2 (lay_can _ h1) (lay_can _ h2) (by omega) ⟨.bl _, H, I, rfl, p.same sm (.bl _)⟩
  · cases q
theorem opd_ne (hu : X.A.units + 150 < cLine) : OpD X cn (compareOp .NotEq) oNe := by
  rintro pins s σ H x y v u Q I rx ry ⟨P, θ, S, d, e, r, S', sm, rd, re, q, p⟩
  unfold oNe at q
  split at q
  · rename_i h
    cases q
    obtain ⟨h1, h2, h3⟩ := comparable_ok h
    obtain ⟨as, r1⟩ := Dp.reads I _ x v (repB_dp sm rd h1) rx
    obtain ⟨bs, r2⟩ := Dp.reads I _ y u (repB_dp sm re h2) ry
    unfold dep at h3
    exact SeqAt.compareNe_reads r1 r2 (lay_can _ h1) (lay_can _ h2) (by omega) ⟨.bl _, H, I, rfl, p.same sm (.bl _)⟩
  · cases q
theorem opd_lt : OpD X cn (compareOp .Lt) oLt := by
  rintro pins s σ H x y v u Q I rx ry ⟨P, θ, S, d, e, r, S', sm, rd, re, q, p⟩
  unfold oLt at q
  split at q
  · cases q
    exact op_lt pins s σ H x y v u Q I rx ry ⟨_, _, rd.vint, re.vint, p.same sm (.bl _)⟩
  · cases q
    exact op_lt_str pins s σ H x y v u Q I rx ry ⟨_, _, rd.vstr, re.vstr, p.same sm (.bl _)⟩
  · cases q
theorem opd_le : OpD X cn (compareOp .LtE) oLe := by
  rintro pins s σ H x y v u Q I rx ry ⟨P, θ, S, d, e, r, S', sm, rd, re, q, p⟩
  unfold oLe at q
  split at q
  · cases q
    exact op_le pins s σ H x y v u Q I rx ry ⟨_, _, rd.vint, re.vint, p.same sm (.bl _)⟩
  · cases q
theorem opd_gt : OpD X cn (compareOp .Gt) oGt := by
  rintro pins s σ H x y v u Q I rx ry ⟨P, θ, S, d, e, r, S', sm, rd, re, q, p⟩
  unfold oGt at q
  split at q
  · cases q
    exact op_gt pins s σ H x y v u Q I rx ry ⟨_, _, rd.vint, re.vint, p.same sm (.bl _)⟩
  · cases q
theorem opd_ge : OpD X cn (compareOp .GtE) oGe := by
  rintro pins s σ H x y v u Q I rx ry ⟨P, θ, S, d, e, r, S', sm, rd, re, q, p⟩
  unfold oGe at q
  split at q
  · cases q
    exact op_ge pins s σ H x y v u Q I rx ry ⟨_, _, rd.vint, re.vint, p.same sm (.bl _)⟩
  · cases q
theorem any_toPy (d : D) : ∀ xs : List D, ((toPys xs).any fun y => PyData.eqv y (toPy d)) = anyEq xs d
  | [] => rfl
  | x :: xs => by
    have ih := any_toPy d xs
    unfold anyEq at ih ⊢
    simp only [toPys, List.any_cons, ih]
    rfl
/-- membership in a list or a tuple -/
theorem in_run {P : List Addr} {pins : List (Addr × Obj)} {s : Shared} {σ : L2.St} {H : Hp} {x y : V} {v u : Value} {θ : List Addr} {S : Sto} {d e : D} {xs : List D} {Q : Value → Shared → Prop} (hu : X.A.units + 150 < cLine) (I : Inv X pins σ H s) (sm : Sim X.K cn P H θ S)
    (rd : RepB X.K cn P H θ x d) (re : RepB X.K cn P H θ y e) (rx : RelV x v) (ry : RelV y u) (hs : seqOf S e = some xs) (w : within xs (deref S d) = true) :
    (Q (.bool (anyEq xs (deref S d))) s → wpAny (model X.prog X.w) X.A (compareOp .In v u) Q X.xe s) ∧ (Q (.bool (!anyEq xs (deref S d))) s → wpAny (model X.prog X.w) X.A (compareOp .NotIn v u) Q X.xe s) := by
  obtain ⟨w1, w⟩ := Bool.and_eq_true_iff.mp w
  obtain ⟨w2, w3⟩ := Bool.and_eq_true_iff.mp w
  have w4 : min (deps xs) (dep (deref S d)) ≤ 100 := of_decide_eq_true w3
  unfold dep deps at w4
  obtain ⟨as, r1⟩ := Dp.reads I _ x v (repB_dp sm rd w2) rx
  have any := any_toPy (deref S d) xs
  obtain ⟨a, zs, rfl, hq, rs⟩ := seqOf_rep sm re hs
  rcases hq with hq | hq
  · obtain ⟨bs, r2⟩ := Dp.reads I (.tuple (toPys xs)) (V.ref a) u (.tup hq (reps_dp xs _ rs w1)) ry
    refine ⟨fun h => ?_, fun h => ?_⟩
    · exact SeqAt.in_tuple_reads r2 r1 (lays_can _ w1) (lay_can _ w2) (by omega) (by rw [any]; exact h)
    · exact SeqAt.notIn_tuple_reads r2 r1 (lays_can _ w1) (lay_can _ w2) (by omega) (by rw [any]; exact h)
  · obtain ⟨bs, r2⟩ := Dp.reads I (.list (toPys xs)) (V.ref a) u (.lst hq (reps_dp xs _ rs w1)) ry
    refine ⟨fun h => ?_, fun h => ?_⟩
    · exact SeqAt.in_list_reads r2 r1 (lays_can _ w1) (lay_can _ w2) (by omega) (by rw [any]; exact h)
    · exact SeqAt.notIn_list_reads r2 r1 (lays_can _ w1) (lay_can _ w2) (by omega) (by rw [any]; exact h)
theorem str_one {x : Str} {c : Nat} (h : x.cps.toList = [c]) : x = ⟨#[c]⟩ := by
  obtain ⟨a⟩ := x
  have h' : a.toList = [c] := h
  have e : a = #[c] := by
    apply Array.ext'
    simpa using h'
  rw [e]
theorem opd_in (hu : X.A.units + 150 < cLine) : OpD X cn (compareOp .In) oIn := by
  rintro pins s σ H x y v u Q I rx ry ⟨P, θ, S, d, e, r, S', sm, rd, re, q, p⟩
  unfold oIn at q
  split at q
  · split at q
    · split at q
      · rename_i c h
        cases q
        exact op_in_sign pins s σ H x y v u Q I rx ry ⟨c, _, by rw [rd.vstr, str_one h], re.vstr, p.same sm (.bl _)⟩
      · cases q
    · cases q
  · split at q
    · split at q
      · rename_i xs hs w
        cases q
        exact (in_run hu I sm rd re rx ry hs w).1 ⟨.bl _, H, I, rfl, p.same sm (.bl _)⟩
      · cases q
    · cases q
theorem opd_notin (hu : X.A.units + 150 < cLine) : OpD X cn (compareOp .NotIn) oNotIn := by
  rintro pins s σ H x y v u Q I rx ry ⟨P, θ, S, d, e, r, S', sm, rd, re, q, p⟩
  unfold oNotIn at q
  split at q
  · split at q
    · split at q
      · rename_i c h
        cases q
        exact op_notIn_sign pins s σ H x y v u Q I rx ry ⟨c, _, by rw [rd.vstr, str_one h], re.vstr, p.same sm (.bl _)⟩
      · cases q
    · cases q
  · split at q
    · split at q
      · rename_i xs hs w
        cases q
        exact (in_run hu I sm rd re rx ry hs w).2 ⟨.bl _, H, I, rfl, p.same sm (.bl _)⟩
      · cases q
    · cases q
theorem non_rep {K : PySem.W.Frag} {P : List Addr} {H : Hp} {θ : List Addr} {x : V} {d : D} (r : RepB K cn P H θ x d) : decide (x = .non) = isNon d := by
  cases r with
  | of r => cases r <;> simp [isNon]
  | own _ _ _ _ => simp [isNon]
theorem opd_is : OpD X cn (compareOp .Is) oIs := by
  rintro pins s σ H x y v u Q I rx ry ⟨P, θ, S, d, e, r, S', sm, rd, re, q, p⟩
  unfold oIs at q
  split at q
  · cases q
    exact op_isN pins s σ H x y v u Q I rx ry ⟨re.vnon, by rw [non_rep rd]; exact p.same sm (.bl _)⟩
  · split at q
    · cases q
      have e1 := rd.vbl
      have e2 := re.vbl
      subst e1 e2
      cases rx
      cases ry
      exact is_bool ⟨.bl _, H, I, rfl, p.same sm (.bl _)⟩
    · cases q
  · cases q
theorem opd_isnot : OpD X cn (compareOp .IsNot) oIsNot := by
  rintro pins s σ H x y v u Q I rx ry ⟨P, θ, S, d, e, r, S', sm, rd, re, q, p⟩
  unfold oIsNot at q
  split at q
  · cases q
    exact op_notN pins s σ H x y v u Q I rx ry ⟨re.vnon, by rw [non_rep rd]; exact p.same sm (.bl _)⟩
  · split at q
    · cases q
      have e1 := rd.vbl
      have e2 := re.vbl
      subst e1 e2
      cases rx
      cases ry
      exact isnot_bool ⟨.bl _, H, I, rfl, p.same sm (.bl _)⟩
    · cases q
  · cases q
/-- - x -/
def xNeg (f : DX) : DX := fun ρ S => (f ρ S).bind fun d S1 => match d with
  | .int i => .ok (.int (-i)) S1
  | _ => .stuck
theorem de_neg {a : Expr} {f : DX} {pos : Pos} (ha : DE X cn a f) : DE X cn (.UnaryOp .USub a pos) (xNeg f) :=
  ⟨(pe_un un_neg ha.pe).weak fun σ H Q ⟨P, θ, S, ρ, d, S', s, r, q, p⟩ => by
    obtain ⟨d1, S1, q1, q⟩ := R.bind_eq q
    split at q
    · cases q
      exact ⟨P, θ, S, ρ, _, S', s, r, q1, fun x H1 θ1 s1 e1 r1 => ⟨_, r1.vint, p _ H1 θ1 s1 e1 (.int _)⟩⟩
    · cases q⟩

/-! ### chains a < b < c -/
def xChain (o o' : Op2) (f g h : DX) : DX := fun ρ S => (f ρ S).bind fun d S1 => (g ρ S1).bind fun e S2 => (o S2 d e).bind fun b S3 => match b with
  | .bl true => (h ρ S3).bind fun k S4 => o' S4 e k
  | .bl false => .ok (.bl false) S3
  | _ => .stuck
theorem chain_weak {K : PySem.W.Frag} {o o' : Op2} {f g h : DX} {σ : L2.St} {H : Hp} {Q : VK} (hh : tD K cn (xChain o o' f g h) σ H Q) : tChain (rD K cn o) (rD K cn o') (tDB K cn f) (tDB K cn g) (tDB K cn h) σ H Q := by
  obtain ⟨P, θ, S, ρ, d, S', s, r, q, p⟩ := hh
  obtain ⟨d1, S1, q1, q⟩ := R.bind_eq q
  obtain ⟨d2, S2, q2, q⟩ := R.bind_eq q
  obtain ⟨d3, S3, q3, q⟩ := R.bind_eq q
  refine ⟨P, θ, S, ρ, d1, S1, s, r, q1, fun x H1 θ1 s1 e1 r1 => ?_⟩
  refine ⟨P, θ1, S1, ρ, d2, S2, s1, r.evo s e1, q2, fun y H2 θ2 s2 e2 r2 => ?_⟩
  refine ⟨P, θ2, S2, d1, d2, d3, S3, s2, r1.evo e2, r2, q3, fun z H3 θ3 s3 e3 r3 => ?_⟩
  split at q
  · refine ⟨true, r3.vbl, ?_⟩
    rw [if_pos rfl]
    obtain ⟨d4, S4, q4, q⟩ := R.bind_eq q
    refine ⟨P, θ3, S3, ρ, d4, S4, s3, ((r.evo s e1).evo s1 e2).evo s2 e3, q4, fun w H4 θ4 s4 e4 r4 => ?_⟩
    exact ⟨P, θ4, S4, d2, d4, d, S', s4, (r2.evo e3).evo e4, r4, q, p.at_ (((e1.trans e2).trans e3).trans e4)⟩
  · cases q
    refine ⟨false, r3.vbl, ?_⟩
    rw [if_neg Bool.false_ne_true]
    exact p _ H3 θ3 s3 ((e1.trans e2).trans e3) (.bl false)
  · cases q
theorem de_chain {op op' : CmpOp} {o o' : Op2} {a b c : Expr} {f g h : DX} {pos : Pos} (ho : OpD X cn (compareOp op) o) (ho' : OpD X cn (compareOp op') o') (ha : DB X cn a f) (hb : DB X cn b g) (hc : DB X cn c h)
    (hm : lastMarks [op, op'] [b, c] = false := by with_unfolding_all rfl) : DE X cn (.Compare a [op, op'] [b, c] pos) (xChain o o' f g h) :=
  ⟨(pe_chain ho ho' ha.pe hb.pe hc.pe hm).weak fun σ H Q hh => chain_weak hh⟩
theorem dt_chain {op op' : CmpOp} {o o' : Op2} {a b c : Expr} {f g h : DX} {pos : Pos} (ho : OpD X cn (compareOp op) o) (ho' : OpD X cn (compareOp op') o') (ha : DB X cn a f) (hb : DB X cn b g) (hc : DB X cn c h)
    (hm : lastMarks [op, op'] [b, c] = false := by with_unfolding_all rfl) : DT X cn (.Compare a [op, op'] [b, c] pos) (xChain o o' f g h) :=
  ⟨(pt_chain ho ho' ha.pe hb.pe hc.pe hm).weak fun σ H Q hh => chain_weak (post_test hh)⟩
end
end DL

set_option Elab.async false
set_option linter.all false
set_option maxRecDepth 100000
set_option maxHeartbeats 4000000
set_option autoImplicit false
namespace DL
open PySem PySem.Spec PyProof.Rows L2

/-! ### subscripts -/
def oIx : Op2 := fun S d e => match e with
  | .int i => match d with
    | .str z => if fits z.length then match atI z.cps.toList i with
      | some c => .ok (.str ⟨#[c]⟩) S
      | none => .stuck
      else .stuck
    | _ => match seqOf S d with
      | some xs => match atI xs i with
        | some r => .ok r S
        | none => .stuck
      | none => .stuck
  | _ => .stuck
section
variable {X : Cx} {cn : Nat → Addr}
theorem reps_atI {K : PySem.W.Frag} {P : List Addr} {H : Hp} {θ : List Addr} {vs : List V} {ds : List D} {i : Int} {d : D} (r : Reps K cn P H θ vs ds) (h : atI ds i = some d) : ∃ v, atI vs i = some v ∧ Rep K cn P H θ v d := by
  unfold atI at h ⊢
  rw [r.length]
  cases e : ixN ds.length i with
  | none => rw [e] at h; cases h
  | some j =>
    rw [e] at h
    obtain ⟨v, h1, h2⟩ := r.get (i := j) h
    exact ⟨v, h1, h2⟩
def IxD (X : Cx) (cn : Nat → Addr) (o : Op2) : Prop := IxR X (rD X.K cn o)
theorem ixd_seq : IxD X cn oIx := by
  rintro value slice pins s σ H x y v u Q I rx ry ⟨P, θ, S, d, e, r, S', sm, rd, re, q, p⟩ hs
  unfold oIx at q
  split at q
  · split at q
    · split at q
      · rename_i hz
        split at q
        · rename_i c hc
          cases q
          exact ix_str value slice pins s σ H x y v u Q I rx ry ⟨_, _, c, rd.vstr, re.vint, fits_ok hz, hc, p.same sm (.str _)⟩ hs
        · cases q
      · cases q
    · split at q
      · rename_i xs hq
        split at q
        · rename_i r' hr
          cases q
          obtain ⟨a, zs, rfl, hz, rs⟩ := seqOf_rep sm rd hq
          obtain ⟨w, hw, rw'⟩ := reps_atI rs hr
          rcases hz with hz | hz
          · exact ix_tup value slice pins s σ H _ y v u Q I rx ry ⟨a, zs, _, w, rfl, re.vint, hz, hw, p.same sm rw'⟩ hs
          · exact ix_list value slice pins s σ H _ y v u Q I rx ry ⟨a, zs, _, w, rfl, re.vint, hz, hw, p.same sm rw'⟩ hs
        · cases q
      · cases q
  · cases q
theorem de_ix {a b : Expr} {f g : DX} {pos : Pos} (ha : DB X cn a f) (hb : DB X cn b g) (hs : PlainIx b := by exact fun _ _ => rfl) : DE X cn (.Subscript a b pos) (xOp oIx f g) := ⟨(pe_ix ixd_seq ha.pe hb.pe hs).weak fun σ H Q h => bin_weak h⟩

/-! ### slices -/
abbrev DO := Rho → Sto → R (Option Int)
def tDO (K : PySem.W.Frag) (cn : Nat → Addr) (f : DO) : TO := fun σ H Q => ∃ P θ S ρ o S', Sim K cn P H θ S ∧ RepE K cn P H θ σ ρ ∧ f ρ S = .ok o S' ∧ ∀ H' θ', Sim K cn P H' θ' S' → Evo H θ H' θ' → Q o H'
structure DOp (X : Cx) (cn : Nat → Addr) (e : Option Expr) (f : DO) : Prop where
  po : PO X e (tDO X.K cn f)
def xoNone : DO := fun _ S => .ok none S
def xoSome (f : DX) : DO := fun ρ S => (f ρ S).bind fun d S1 => match d with
  | .int i => .ok (some i) S1
  | _ => .stuck
theorem _root_.L2.PO.weak {X : Cx} {e : Option Expr} {t t' : TO} (h : PO X e t) (i : ∀ σ H Q, t' σ H Q → t σ H Q) : PO X e t' := ⟨fun pins s σ H Q I hw => h.run pins s σ H Q I (i _ _ _ hw)⟩
theorem do_none : DOp X cn none xoNone := ⟨po_none.weak fun σ H Q ⟨P, θ, S, ρ, d, S', s, r, q, p⟩ => by cases q; exact p H θ s Evo.refl⟩
theorem do_some {e : Expr} {f : DX} (h : DE X cn e f) : DOp X cn (some e) (xoSome f) := ⟨(po_some h.pe).weak fun σ H Q ⟨P, θ, S, ρ, d, S', s, r, q, p⟩ => by
  obtain ⟨d1, S1, q1, q⟩ := R.bind_eq q
  split at q
  · cases q
    exact ⟨P, θ, S, ρ, _, S', s, r, q1, fun v H' θ' s' e' r' => ⟨_, r'.vint, p H' θ' s' e'⟩⟩
  · cases q⟩
def cutG {α : Type} (xs : List α) (lo hi : Option Int) : List α := (xs.drop (HT.sIx xs.length 0 lo)).take (HT.sIx xs.length xs.length hi - HT.sIx xs.length 0 lo)
theorem cutG_map {α β : Type} (f : α → β) (xs : List α) (lo hi : Option Int) : cutG (xs.map f) lo hi = (cutG xs lo hi).map f := by
  unfold cutG
  rw [List.length_map, ← List.map_drop, ← List.map_take]
def slc (S : Sto) (d : D) (lo hi : Option Int) : R D := match d with
  | .tup xs => .ok (.tup (cutG xs lo hi)) S
  | .scr ns => .ok (.lst ((cutG ns lo hi).map D.int)) S
  | .str z => if fits z.length then .ok (.str (cutS z lo hi)) S else .stuck
  | d => match seqOf S d with
    | some xs => .ok (.lst (cutG xs lo hi)) S
    | none => .stuck
def xSl (f : DX) (lo hi : DO) : DX := fun ρ S => (f ρ S).bind fun d S1 => (lo ρ S1).bind fun l S2 => (hi ρ S2).bind fun h S3 => slc S3 d l h
def rSlD (K : PySem.W.Frag) (cn : Nat → Addr) : V → Option Int → Option Int → Hp → VK → Prop := fun x lo hi H Q => ∃ P θ S d r S', Sim K cn P H θ S ∧ RepB K cn P H θ x d ∧ slc S d lo hi = .ok r S' ∧ Post K cn P H θ r S' Q
theorem reps_cut {K : PySem.W.Frag} {P : List Addr} {H : Hp} {θ : List Addr} {vs : List V} {ds : List D} (r : Reps K cn P H θ vs ds) (lo hi : Option Int) : Reps K cn P H θ (cutV vs lo hi) (cutG ds lo hi) := by
  unfold cutV cutG
  rw [r.length]
  exact (r.drop _).take _
theorem sl_data : SlR X (rSlD X.K cn) := by
  rintro pins s σ H x v vl vu lo hi sl Q I rx hs pl pu ⟨P, θ, S, d, r, S', sm, rd, q, p⟩
  cases d with
  | tup xs =>
    cases q
    obtain ⟨a, vs, rfl, hv, rs⟩ := rd.vtup
    refine sl_tupA pins s σ H _ v vl vu lo hi sl Q I rx hs pl pu ⟨a, vs, rfl, hv, fun h => ?_, fun _ => p.newT sm (reps_cut rs lo hi)⟩
    have e : cutG xs lo hi = xs := by
      unfold cutG
      rw [← rs.length]
      rw [h.1, h.2, rs.length]
      simp
    rw [e] at p
    cases rd with
    | of rd => exact p.same sm rd
  | scr ns =>
    cases q
    obtain ⟨a, rfl, hq⟩ := rd.vscr
    refine sl_list pins s σ H _ v vl vu lo hi sl Q I rx hs pl pu ⟨a, _, rfl, hq, ?_⟩
    have e : cutV (ns.map V.int) lo hi = (cutG ns lo hi).map V.int := cutG_map _ _ _ _
    rw [e]
    exact p.newL sm Reps.ints
  | str z =>
    unfold slc at q
    simp only at q
    split at q
    · rename_i hz
      cases q
      exact sl_str pins s σ H x v vl vu lo hi sl Q I rx hs pl pu ⟨z, rd.vstr, fits_ok hz, p.same sm (.str _)⟩
    · cases q
  | lst xs =>
    cases q
    obtain ⟨a, vs, rfl, hv, rs⟩ := rd.vlst
    exact sl_list pins s σ H _ v vl vu lo hi sl Q I rx hs pl pu ⟨a, vs, rfl, SqL.of hv, p.newL sm (reps_cut rs lo hi)⟩
  | obj i =>
    unfold slc seqOf at q
    simp only at q
    split at q
    · rename_i xs hq
      cases q
      obtain ⟨a, vs, rfl, _, hv, rs⟩ := rd.vobj sm (objOf_eq hq)
      exact sl_list pins s σ H _ v vl vu lo hi sl Q I rx hs pl pu ⟨a, vs, rfl, SqL.of hv, p.newL sm (reps_cut rs lo hi)⟩
    · cases q
  | _ => cases q
theorem de_slice {e : Expr} {lo hi : Option Expr} {f : DX} {l h : DO} {pos p2 : Pos} (he : DB X cn e f) (hl : DOp X cn lo l) (hh : DOp X cn hi h) : DE X cn (.Subscript e (.Slice lo hi none p2) pos) (xSl f l h) :=
  ⟨(pe_slice sl_data he.pe hl.po hh.po).weak fun σ H Q ⟨P, θ, S, ρ, d, S', s, r, q, p⟩ => by
    obtain ⟨d1, S1, q1, q⟩ := R.bind_eq q
    obtain ⟨d2, S2, q2, q⟩ := R.bind_eq q
    obtain ⟨d3, S3, q3, q⟩ := R.bind_eq q
    refine ⟨P, θ, S, ρ, d1, S1, s, r, q1, fun x H1 θ1 s1 e1 r1 => ?_⟩
    refine ⟨P, θ1, S1, ρ, d2, S2, s1, r.evo s e1, q2, fun H2 θ2 s2 e2 => ?_⟩
    refine ⟨P, θ2, S2, ρ, d3, S3, s2, (r.evo s e1).evo s1 e2, q3, fun H3 θ3 s3 e3 => ?_⟩
    exact ⟨P, θ3, S3, d1, d, S', s3, (r1.evo e2).evo e3, q, p.at_ ((e1.trans e2).trans e3)⟩⟩

/-! ### dicts, looked at -/
def keyD : D → Option Key
  | .str x => some (.inr x)
  | .int i => some (.inl i)
  | _ => none
def dicAt (ks : List Key) (ds : List D) (k : Key) : Option D := ((ks.zip ds).find? fun kv => decide (kv.1 = k)).map (·.2)
theorem keyD_rep {K : PySem.W.Frag} {P : List Addr} {H : Hp} {θ : List Addr} {x : V} {d : D} {k : Key} (r : RepB K cn P H θ x d) (h : keyD d = some k) : x = kV k := by
  cases d with
  | str z => cases h; exact r.vstr
  | int i => cases h; exact r.vint
  | _ => cases h
theorem dicAt_rep {K : PySem.W.Frag} {P : List Addr} {H : Hp} {θ : List Addr} (k : Key) : ∀ {kvs : List (Key × V)} {ds : List D}, Reps K cn P H θ (kvs.map (·.2)) ds →
    (∀ d, dicAt (kvs.map (·.1)) ds k = some d → ∃ v, valV kvs k = some v ∧ Rep K cn P H θ v d) ∧ (dicAt (kvs.map (·.1)) ds k = none → valV kvs k = none)
  | [], _, r => by cases r; exact ⟨fun d h => by simp [dicAt] at h, fun _ => rfl⟩
  | kv :: kvs, _, r => by
    cases r with
    | cons r rs =>
      rename_i d ds
      have ih := dicAt_rep k rs
      by_cases h : kv.1 = k
      · refine ⟨fun e he => ?_, fun he => ?_⟩
        · simp [dicAt, h] at he
          subst he
          exact ⟨kv.2, by simp [valV, h], r⟩
        · simp [dicAt, h] at he
      · refine ⟨fun e he => ?_, fun he => ?_⟩
        · have he' : dicAt (kvs.map (·.1)) ds k = some e := by simpa [dicAt, h] using he
          obtain ⟨v, h1, h2⟩ := ih.1 e he'
          exact ⟨v, by simpa [valV, h] using h1, h2⟩
        · have he' : dicAt (kvs.map (·.1)) ds k = none := by simpa [dicAt, h] using he
          simpa [valV, h] using ih.2 he'
/-- d[k] -/
def xDGet (f g : DX) : DX := fun ρ S => (f ρ S).bind fun d S1 => (g ρ S1).bind fun e S2 => match keyD e with
  | some k => match d with
    | .dic ks ds => match dicAt ks ds k with
      | some r => .ok r S2
      | none => .stuck
    | _ => .stuck
  | none => .stuck
theorem de_dget {o i : Expr} {f g : DX} {pos : Pos} (hu : X.A.units + 150 < cLine) (ho : DB X cn o f) (hi : DB X cn i g) (hs : NoSl i := by exact fun _ _ => rfl) : DE X cn (.Subscript o i pos) (xDGet f g) :=
  ⟨(pe_dget (by omega) ho.pe hi.pe hs).weak fun σ H Q ⟨P, θ, S, ρ, d, S', s, r, q, p⟩ => by
    obtain ⟨d1, S1, q1, q⟩ := R.bind_eq q
    obtain ⟨d2, S2, q2, q⟩ := R.bind_eq q
    refine ⟨P, θ, S, ρ, d1, S1, s, r, q1, fun x H1 θ1 s1 e1 r1 => ?_⟩
    refine ⟨P, θ1, S1, ρ, d2, S2, s1, r.evo s e1, q2, fun y H2 θ2 s2 e2 r2 => ?_⟩
    split at q
    · rename_i k hk
      split at q
      · split at q
        · rename_i r' hr
          cases q
          obtain ⟨a, kvs, rfl, ha, rfl, rs⟩ := (r1.evo e2).vdic
          obtain ⟨v, h1, h2⟩ := (dicAt_rep k rs).1 _ hr
          exact ⟨a, v, rfl, .inl ⟨kvs, k, .inl ha, keyD_rep r2 hk, h1.symm⟩, (p.at_ (e1.trans e2)).same s2 h2⟩
        · cases q
      · cases q
    · cases q⟩
/-- d.get(k, e) -/
def xDGet2 (f g h : DX) : DX := fun ρ S => (f ρ S).bind fun d S1 => (g ρ S1).bind fun e S2 => (h ρ S2).bind fun c S3 => match keyD e with
  | some k => match d with
    | .dic ks ds => match dicAt ks ds k with
      | some r => .ok r S3
      | none => .ok c S3
    | _ => .stuck
  | none => .stuck
theorem de_dget2 {o e e2 : Expr} {f g h : DX} {apos cpos : Pos} (hu : X.A.units + 150 < cLine) (ho : DB X cn o f) (he : DB X cn e g) (hf : DE X cn e2 h) (m : M2 X o "get" apos e e2 cpos) : DE X cn (.Call (.Attribute o "get" apos) [e, e2] [] cpos) (xDGet2 f g h) :=
  ⟨(pe_dget2 (by omega) ho.pe he.pe hf.pe m).weak fun σ H Q ⟨P, θ, S, ρ, d, S', s, r, q, p⟩ => by
    obtain ⟨d1, S1, q1, q⟩ := R.bind_eq q
    obtain ⟨d2, S2, q2, q⟩ := R.bind_eq q
    obtain ⟨d3, S3, q3, q⟩ := R.bind_eq q
    refine ⟨P, θ, S, ρ, d1, S1, s, r, q1, fun x H1 θ1 s1 e1 r1 => ?_⟩
    split at q
    · rename_i k hk
      cases d1 with
      | dic ks ds =>
        obtain ⟨a, kvs, rfl, ha, rfl, rs⟩ := r1.vdic
        refine ⟨a, rfl, .inl ⟨kvs, .inl ha⟩, P, θ1, S1, ρ, d2, S2, s1, r.evo s e1, q2, fun y H2 θ2 s2 e2 r2 => ?_⟩
        refine ⟨P, θ2, S2, ρ, d3, S3, s2, (r.evo s e1).evo s1 e2, q3, fun z H3 θ3 s3 e3 r3 => ?_⟩
        obtain ⟨a', kvs', ea, ha', hks, rs'⟩ := ((r1.evo e2).evo e3).vdic
        cases ea
        have pp := p.at_ ((e1.trans e2).trans e3)
        simp only at q
        cases hv : dicAt (kvs.map (·.1)) ds k with
        | none =>
          rw [hv] at q
          cases q
          rw [← hks] at hv
          exact ⟨none, .inl ⟨kvs', k, .inl ha', keyD_rep r2 hk, ((dicAt_rep k rs').2 hv).symm⟩, pp.same s3 r3⟩
        | some r' =>
          rw [hv] at q
          cases q
          rw [← hks] at hv
          obtain ⟨v, h1, h2⟩ := (dicAt_rep k rs').1 _ hv
          exact ⟨some v, .inl ⟨kvs', k, .inl ha', keyD_rep r2 hk, h1.symm⟩, pp.same s3 h2⟩
      | _ => cases q
    · cases q⟩
end
end DL

set_option Elab.async false
set_option linter.all false
set_option maxRecDepth 100000
set_option maxHeartbeats 4000000
set_option autoImplicit false
namespace DL
open PySem PySem.Spec PyProof.Rows L2

/-! ### dict displays -/
def putG {β : Type} (kvs : List (Key × β)) (k : Key) (v : β) : List (Key × β) :=
  if (kvs.any fun kv => decide (kv.1 = k)) = true then kvs.map (fun kv => if kv.1 = k then (kv.1, v) else kv) else kvs ++ [(k, v)]
def mergeG {β : Type} (kvs more : List (Key × β)) : List (Key × β) := more.foldl (fun acc kv => putG acc kv.1 kv.2) kvs
def dicOf (l : List (Key × D)) : D := .dic (l.map (·.1)) (l.map (·.2))
inductive KRep (K : PySem.W.Frag) (cn : Nat → Addr) (P : List Addr) (H : Hp) (θ : List Addr) : List (Key × V) → List (Key × D) → Prop
  | nil : KRep K cn P H θ [] []
  | cons {k : Key} {v : V} {d : D} {l : List (Key × V)} {m : List (Key × D)} : Rep K cn P H θ v d → KRep K cn P H θ l m → KRep K cn P H θ ((k, v) :: l) ((k, d) :: m)
section
variable {K : PySem.W.Frag} {cn : Nat → Addr} {P : List Addr} {H H' : Hp} {θ θ' : List Addr}
theorem KRep.any (k : Key) {l : List (Key × V)} {m : List (Key × D)} (h : KRep K cn P H θ l m) : (l.any fun kv => decide (kv.1 = k)) = m.any fun kv => decide (kv.1 = k) := by
  induction h with
  | nil => rfl
  | cons r _ ih => simp only [List.any_cons, ih]
theorem KRep.app {l l' : List (Key × V)} {m m' : List (Key × D)} (h : KRep K cn P H θ l m) (h' : KRep K cn P H θ l' m') : KRep K cn P H θ (l ++ l') (m ++ m') := by
  induction h with
  | nil => exact h'
  | cons r _ ih => exact .cons r ih
theorem KRep.repl {k : Key} {v : V} {d : D} (r : Rep K cn P H θ v d) {l : List (Key × V)} {m : List (Key × D)} (h : KRep K cn P H θ l m) :
    KRep K cn P H θ (l.map (fun kv => if kv.1 = k then (kv.1, v) else kv)) (m.map (fun kv => if kv.1 = k then (kv.1, d) else kv)) := by
  induction h with
  | nil => exact .nil
  | @cons k' v' d' l m q _ ih =>
    simp only [List.map_cons]
    by_cases e : k' = k
    · rw [if_pos e, if_pos e]; exact .cons r ih
    · rw [if_neg e, if_neg e]; exact .cons q ih
theorem KRep.put {k : Key} {v : V} {d : D} {l : List (Key × V)} {m : List (Key × D)} (h : KRep K cn P H θ l m) (r : Rep K cn P H θ v d) : KRep K cn P H θ (putK l k v) (putG m k d) := by
  unfold putK putG
  rw [h.any k]
  split
  · exact h.repl r
  · exact h.app (.cons r .nil)
theorem KRep.merge {l' : List (Key × V)} {m' : List (Key × D)} (h' : KRep K cn P H θ l' m') : ∀ {l : List (Key × V)} {m : List (Key × D)}, KRep K cn P H θ l m → KRep K cn P H θ (mergeK l l') (mergeG m m') := by
  induction h' with
  | nil => intro l m h; exact h
  | cons r _ ih =>
    intro l m h
    unfold mergeK mergeG
    simp only [List.foldl_cons]
    exact ih (h.put r)
theorem KRep.reps {l : List (Key × V)} {m : List (Key × D)} (h : KRep K cn P H θ l m) : Reps K cn P H θ (l.map (·.2)) (m.map (·.2)) ∧ l.map (·.1) = m.map (·.1) := by
  induction h with
  | nil => exact ⟨.nil, rfl⟩
  | cons r _ ih => exact ⟨.cons r ih.1, by simp only [List.map_cons, ih.2]⟩
theorem KRep.length {l : List (Key × V)} {m : List (Key × D)} (h : KRep K cn P H θ l m) : l.length = m.length := by
  induction h with
  | nil => rfl
  | cons r _ ih => simp only [List.length_cons, ih]
end
abbrev DPf := Rho → Sto → R (List (Key × D))
def tDPs (K : PySem.W.Frag) (cn : Nat → Addr) (f : DPf) (σ : L2.St) (H : Hp) (Q : List (V × V) → Hp → Prop) : Prop := ∃ P θ S ρ l S', Sim K cn P H θ S ∧ RepE K cn P H θ σ ρ ∧ f ρ S = .ok l S' ∧
  ∀ kvs H' θ', Sim K cn P H' θ' S' → Evo H θ H' θ' → KRep K cn P H' θ' kvs l → Q (kvs.map fun kv => (kV kv.1, kv.2)) H'
structure DPs (X : Cx) (cn : Nat → Addr) (pos : Pos) (keys : List (Option Expr)) (values : List Expr) (f : DPf) (trs : List (TE × TE)) : Prop where
  ps : PPs X pos keys values trs
  red : ∀ σ H Q, tDPs X.K cn f σ H Q → tPairs trs σ H Q
def xpNil : DPf := fun _ S => .ok [] S
def xpCons (f g : DX) (h : DPf) : DPf := fun ρ S => (f ρ S).bind fun d S1 => (g ρ S1).bind fun e S2 => (h ρ S2).bind fun l S3 => match keyD d with
  | some k => .ok ((k, e) :: l) S3
  | none => .stuck
def xDic (f : DPf) : DX := fun ρ S => (f ρ S).bind fun l S1 => .ok (dicOf (mergeG [] l)) S1
section
variable {X : Cx} {cn : Nat → Addr} {pos : Pos}
class XpN (f : DPf) (n : outParam Nat) : Prop where
  len : ∀ (ρ : Rho) (S : Sto) (l : List (Key × D)) (S' : Sto), f ρ S = .ok l S' → l.length = n
instance : XpN xpNil 0 := ⟨fun _ _ _ _ h => by cases h; rfl⟩
instance {f g : DX} {h : DPf} {n : Nat} [hh : XpN h n] : XpN (xpCons f g h) (n + 1) := ⟨fun ρ S l S' q => by
  obtain ⟨d1, S1, q1, q⟩ := R.bind_eq q
  obtain ⟨d2, S2, q2, q⟩ := R.bind_eq q
  obtain ⟨l3, S3, q3, q⟩ := R.bind_eq q
  split at q
  · cases q
    exact congrArg Nat.succ (hh.len _ _ _ _ q3)
  · cases q⟩
theorem dp_nil : DPs X cn pos [] [] xpNil [] := ⟨pps_nil, fun σ H Q ⟨P, θ, S, ρ, l, S', s, r, q, p⟩ => by cases q; exact p [] H θ s Evo.refl .nil⟩
theorem dp_cons {k v : Expr} {ks : List (Option Expr)} {vs : List Expr} {f g : DX} {h : DPf} {trs : List (TE × TE)} (hk : DE X cn k f) (hv : DE X cn v g) (hr : DPs X cn pos ks vs h trs) : DPs X cn pos (some k :: ks) (v :: vs) (xpCons f g h) ((tD X.K cn f, tD X.K cn g) :: trs) :=
  ⟨pps_cons hk.pe hv.pe hr.ps, fun σ H Q ⟨P, θ, S, ρ, l, S', s, r, q, p⟩ => by
    obtain ⟨d1, S1, q1, q⟩ := R.bind_eq q
    obtain ⟨d2, S2, q2, q⟩ := R.bind_eq q
    obtain ⟨l3, S3, q3, q⟩ := R.bind_eq q
    split at q
    · rename_i kk hk
      cases q
      refine ⟨P, θ, S, ρ, d1, S1, s, r, q1, fun x H1 θ1 s1 e1 r1 => ?_⟩
      refine ⟨P, θ1, S1, ρ, d2, S2, s1, r.evo s e1, q2, fun y H2 θ2 s2 e2 r2 => ?_⟩
      refine hr.red _ _ _ ⟨P, θ2, S2, ρ, l3, S', s2, (r.evo s e1).evo s1 e2, q3, fun kvs H3 θ3 s3 e3 kr => ?_⟩
      rw [keyD_rep (.of r1) hk]
      exact p ((kk, y) :: kvs) H3 θ3 s3 ((e1.trans e2).trans e3) (.cons (r2.evo e3) kr)
    · cases q⟩
/-- what is made alone: nobody else sees it -/
theorem Sim.mine {K : PySem.W.Frag} {P : List Addr} {H : Hp} {θ : List Addr} {S : Sto} {p : Addr} {o : HO} (s : Sim K cn P H θ S) (h : H p = none) : Sim K cn (p :: P) (upd H p o) θ S := by
  have s2 : Sim K cn P (upd H p o) θ S := s.fresh h
  refine ⟨s2.len, s2.nd, fun q hq => ?_, fun i c hc => ?_⟩
  · rcases List.mem_cons.mp hq with z | z
    · rw [z]; exact ⟨(s.free h).1, o, upd_same⟩
    · exact s2.pf q z
  · obtain ⟨a, ha, r⟩ := s.cell i c hc
    have hm : a ∈ θ := List.mem_of_getElem? ha
    have ne : a ≠ p := fun z => (s.free h).1 (z ▸ hm)
    refine ⟨a, ha, ?_⟩
    cases c with
    | lst ds =>
      obtain ⟨xs, e, rs⟩ := r
      exact ⟨xs, by rw [upd_ne ne]; exact e, ((rs.more h).evo (Evo.fresh h))⟩
    | ins c fs ds =>
      obtain ⟨dx, fv, e1, e2, e3, e4, e5, rs⟩ := r
      refine ⟨dx, fv, by rw [upd_ne ne]; exact e1, (Evo.fresh (θ := θ) h).keep _ _ e2 e3 |>.1, e3, not_more h e2 e4, e5, ((rs.more h).evo (Evo.fresh h))⟩
theorem RepE.mine {K : PySem.W.Frag} {P : List Addr} {H : Hp} {θ : List Addr} {S : Sto} {σ : L2.St} {ρ : Rho} {p : Addr} {o : HO} (r : RepE K cn P H θ σ ρ) (s : Sim K cn P H θ S) (h : H p = none) : RepE K cn (p :: P) (upd H p o) θ σ ρ := by
  refine ⟨r.len, fun i s' hs => ?_, r.own⟩
  obtain ⟨v, hv, q⟩ := r.at_ i s' hs
  refine ⟨v, hv, ?_⟩
  cases q with
  | non => exact .non
  | val q => exact .val ((q.more h).evo (Evo.fresh h))
  | own m e rs => exact .own (List.mem_cons_of_mem _ m) ((Evo.fresh (θ := θ) h).keep _ _ e (s.pf _ m).1).1 ((rs.more h).evo (Evo.fresh h))
/-- .. and becomes a value -/
theorem Sim.less {K : PySem.W.Frag} {P : List Addr} {H : Hp} {θ : List Addr} {S : Sto} {p : Addr} (s : Sim K cn (p :: P) H θ S) : Sim K cn P H θ S := by
  refine ⟨s.len, s.nd, fun q hq => s.pf q (List.mem_cons_of_mem _ hq), fun i c hc => ?_⟩
  obtain ⟨a, ha, r⟩ := s.cell i c hc
  refine ⟨a, ha, ?_⟩
  cases c with
  | lst ds =>
    obtain ⟨xs, e, rs⟩ := r
    exact ⟨xs, e, rs.less fun q hq => List.mem_cons_of_mem _ hq⟩
  | ins c fs ds =>
    obtain ⟨dx, fv, e1, e2, e3, e4, e5, rs⟩ := r
    exact ⟨dx, fv, e1, e2, e3, fun z => e4 (List.mem_cons_of_mem _ z), e5, rs.less fun q hq => List.mem_cons_of_mem _ hq⟩
theorem Sim.set {K : PySem.W.Frag} {P : List Addr} {H : Hp} {θ : List Addr} {S : Sto} {p : Addr} {o : HO} (s : Sim K cn P H θ S) (hp : p ∈ P) : Sim K cn P (upd H p o) θ S := by
  refine ⟨s.len, s.nd, fun q hq => ?_, fun i c hc => ?_⟩
  · by_cases e : q = p
    · rw [e]; exact ⟨(s.pf p hp).1, o, upd_same⟩
    · obtain ⟨n, u, h⟩ := s.pf q hq
      exact ⟨n, u, by rw [upd_ne e]; exact h⟩
  · obtain ⟨a, ha, r⟩ := s.cell i c hc
    have hm : a ∈ θ := List.mem_of_getElem? ha
    have ne : a ≠ p := fun z => (s.pf p hp).1 (z ▸ hm)
    refine ⟨a, ha, ?_⟩
    cases c with
    | lst ds =>
      obtain ⟨xs, e, rs⟩ := r
      exact ⟨xs, by rw [upd_ne ne]; exact e, rs.mine hp⟩
    | ins c fs ds =>
      obtain ⟨dx, fv, e1, e2, e3, e4, e5, rs⟩ := r
      exact ⟨dx, fv, by rw [upd_ne ne]; exact e1, at_mine hp e2 e4, e3, e4, e5, rs.mine hp⟩
theorem KRep.mine {K : PySem.W.Frag} {P : List Addr} {H : Hp} {θ : List Addr} {p : Addr} {o : HO} (hp : p ∈ P) {l : List (Key × V)} {m : List (Key × D)} (h : KRep K cn P H θ l m) : KRep K cn P (upd H p o) θ l m := by
  induction h with
  | nil => exact .nil
  | cons r _ ih => exact .cons (r.mine hp) ih
theorem de_dic {keys : List (Option Expr)} {values : List Expr} {f : DPf} {trs : List (TE × TE)} {n : Nat} [hn : XpN f n] (h : DPs X cn pos keys values f trs) (hall : keys.all (·.isSome) = true := by rfl) (hl : keys.length = values.length := by rfl) (h0 : keys ≠ [] := by exact fun z => nomatch z)
    (h15 : keys.length ≤ 15 := by decide) (hz : n ≤ 15 := by decide) : DE X cn (.Dict keys values pos) (xDic f) :=
  ⟨(pe_disp h.ps hall hl h0 h15).weak fun σ H Q ⟨P, θ, S, ρ, d, S', s, r, q, p⟩ => by
    obtain ⟨l, S1, q1, q⟩ := R.bind_eq q
    cases q
    intro a ha
    refine h.red _ _ _ ⟨a :: P, θ, S, ρ, l, S', s.mine ha, r.mine s ha, q1, fun kvs H' θ' s' e' kr => ?_⟩
    have h2 := e'.keep a _ upd_same (s.free ha).1
    refine ⟨h2.1, kvs, rfl, by rw [kr.length, hn.len _ _ _ _ q1]; exact hz, ?_⟩
    have hm : a ∈ a :: P := List.mem_cons_self
    have kr2 := (kr.mine (o := .dK (mergeK [] kvs)) hm).merge (l := []) (m := []) .nil
    obtain ⟨rs, ek⟩ := kr2.reps
    refine p _ _ θ' (s'.set hm).less ?_ ?_
    · refine ⟨fun b o hb nb => ?_, fun i b hb => e'.pre i b hb⟩
      have nba : b ≠ a := ne_of_none hb ha
      obtain ⟨k1, k2⟩ := e'.keep b o (by rw [upd_ne nba]; exact hb) nb
      exact ⟨by rw [upd_ne nba]; exact k1, k2⟩
    · exact .dic upd_same h2.2 (s.free ha).2 ek rfl (rs.less fun q hq => List.mem_cons_of_mem _ hq)⟩
end
end DL

set_option Elab.async false
set_option linter.all false
set_option maxRecDepth 100000
set_option maxHeartbeats 4000000
set_option autoImplicit false
namespace DL
open PySem PySem.Spec PyProof.Rows L2

/-! ### built-ins by name -/
abbrev OpL := Sto → List D → R D
def rLD (K : PySem.W.Frag) (cn : Nat → Addr) (o : OpL) : List V → Hp → VK → Prop := fun xs H Q => ∃ P θ S ds r S', Sim K cn P H θ S ∧ RepsB K cn P H θ xs ds ∧ o S ds = .ok r S' ∧ Post K cn P H θ r S' Q
def CallD (X : Cx) (cn : Nat → Addr) (f : Value) (o : OpL) : Prop := CallR X f (rLD X.K cn o)
def xCall (o : OpL) (fs : DXs) : DX := fun ρ S => (fs ρ S).bind fun ds S1 => o S1 ds
def intsOf : List D → Option (List Int)
  | [] => some []
  | .int i :: ds => match intsOf ds with
    | some is => some (i :: is)
    | none => none
  | _ => none
def blsOf : List D → Option (List Bool)
  | [] => some []
  | .bl i :: ds => match blsOf ds with
    | some is => some (i :: is)
    | none => none
  | _ => none
def strsOf : List D → Option (List Str)
  | [] => some []
  | .str i :: ds => match strsOf ds with
    | some is => some (i :: is)
    | none => none
  | _ => none
theorem intsOf_eq : ∀ {ds : List D} {is : List Int}, intsOf ds = some is → ds = is.map D.int
  | [], _, h => by cases h; rfl
  | d :: ds, is, h => by
    cases d with
    | int i =>
      unfold intsOf at h
      split at h
      · rename_i js e
        cases h
        rw [intsOf_eq e]; rfl
      · cases h
    | _ => cases h
theorem blsOf_eq : ∀ {ds : List D} {is : List Bool}, blsOf ds = some is → ds = is.map D.bl
  | [], _, h => by cases h; rfl
  | d :: ds, is, h => by
    cases d with
    | bl i =>
      unfold blsOf at h
      split at h
      · rename_i js e
        cases h
        rw [blsOf_eq e]; rfl
      · cases h
    | _ => cases h
theorem strsOf_eq : ∀ {ds : List D} {is : List Str}, strsOf ds = some is → ds = is.map D.str
  | [], _, h => by cases h; rfl
  | d :: ds, is, h => by
    cases d with
    | str i =>
      unfold strsOf at h
      split at h
      · rename_i js e
        cases h
        rw [strsOf_eq e]; rfl
      · cases h
    | _ => cases h
theorem intsOf_map : ∀ is : List Int, intsOf (is.map D.int) = some is
  | [] => rfl
  | i :: is => by simp only [List.map_cons, intsOf, intsOf_map is]
theorem blsOf_map : ∀ is : List Bool, blsOf (is.map D.bl) = some is
  | [] => rfl
  | i :: is => by simp only [List.map_cons, blsOf, blsOf_map is]
theorem strsOf_map : ∀ is : List Str, strsOf (is.map D.str) = some is
  | [] => rfl
  | i :: is => by simp only [List.map_cons, strsOf, strsOf_map is]
/-- the list at a value: lists that change, too -/
def lstOf (S : Sto) : D → Option (List D)
  | .lst xs => some xs
  | .obj i => objOf S i
  | _ => none
def cLen : OpL := fun S ds => match ds with
  | [d] => match d with
    | .str z => if fits z.length then .ok (.int z.length) S else .stuck
    | _ => match seqOf S d with
      | some xs => .ok (.int xs.length) S
      | none => .stuck
  | _ => .stuck
def cTuple : OpL := fun S ds => match ds with
  | [d] => match seqOf S d with
    | some xs => .ok (.tup xs) S
    | none => .stuck
  | _ => .stuck
def cList : OpL := fun S ds => match ds with
  | [d] => match seqOf S d with
    | some xs => .ok (.lst xs) S
    | none => .stuck
  | _ => .stuck
def sumI : List Int → Int
  | [] => 0
  | i :: is => i + sumI is
def maxI : Int → List Int → Int
  | m, [] => m
  | m, i :: is => maxI (if m < i then i else m) is
def cSum : OpL := fun S ds => match ds with
  | [d] => match lstOf S d with
    | some xs => match intsOf xs with
      | some is => .ok (.int (sumI is)) S
      | none => .stuck
    | none => .stuck
  | _ => .stuck
def cMax : OpL := fun S ds => match ds with
  | [d] => match lstOf S d with
    | some xs => match intsOf xs with
      | some (i :: is) => .ok (.int (maxI i is)) S
      | _ => .stuck
    | none => .stuck
  | [.int i, .int j] => .ok (.int (if i < j then j else i)) S
  | _ => .stuck
def cMin2 : OpL := fun S ds => match ds with
  | [.int i, .int j] => .ok (.int (if j < i then j else i)) S
  | _ => .stuck
def cAbs : OpL := fun S ds => match ds with
  | [.int i] => .ok (.int (if i < 0 then -i else i)) S
  | _ => .stuck
def cInt : OpL := fun S ds => match ds with
  | [.int i] => .ok (.int i) S
  | [.bl b] => .ok (.int (if b then 1 else 0)) S
  | _ => .stuck
def cBool : OpL := fun S ds => match ds with
  | [.int i] => .ok (.bl (i != 0)) S
  | [.bl b] => .ok (.bl b) S
  | _ => .stuck
def cAll : OpL := fun S ds => match ds with
  | [d] => match lstOf S d with
    | some xs => match blsOf xs with
      | some bs => .ok (.bl (bs.all id)) S
      | none => .stuck
    | none => .stuck
  | _ => .stuck
def cAny : OpL := fun S ds => match ds with
  | [d] => match lstOf S d with
    | some xs => match blsOf xs with
      | some bs => .ok (.bl (bs.any id)) S
      | none => .stuck
    | none => .stuck
  | _ => .stuck
section
variable {X : Cx} {cn : Nat → Addr}
theorem repsB_one {K : PySem.W.Frag} {P : List Addr} {H : Hp} {θ : List Addr} {xs : List V} {d : D} (r : RepsB K cn P H θ xs [d]) : ∃ x, xs = [x] ∧ RepB K cn P H θ x d := by
  cases r with
  | cons r rs => cases rs; exact ⟨_, rfl, r⟩
theorem repsB_two {K : PySem.W.Frag} {P : List Addr} {H : Hp} {θ : List Addr} {xs : List V} {d e : D} (r : RepsB K cn P H θ xs [d, e]) : ∃ x y, xs = [x, y] ∧ RepB K cn P H θ x d ∧ RepB K cn P H θ y e := by
  cases r with
  | cons r rs =>
    obtain ⟨y, e, h⟩ := repsB_one rs
    subst e
    exact ⟨_, _, rfl, r, h⟩
theorem lstOf_rep {K : PySem.W.Frag} {P : List Addr} {H : Hp} {θ : List Addr} {S : Sto} {x : V} {d : D} {ds : List D} (s : Sim K cn P H θ S) (r : RepB K cn P H θ x d) (e : lstOf S d = some ds) :
    ∃ a xs, x = .ref a ∧ H a = some (.lst xs) ∧ Reps K cn P H θ xs ds := by
  cases d with
  | lst xs => cases e; exact r.vlst
  | obj i =>
    obtain ⟨a, xs, e, _, h, r⟩ := r.vobj s (objOf_eq e)
    exact ⟨a, xs, e, h, r⟩
  | _ => cases e
theorem cd_len : CallD X cn (.builtin "len") cLen := by
  rintro pins s σ H xs us Q I rv ⟨P, θ, S, ds, r, S', sm, rd, q, p⟩
  unfold cLen at q
  split at q
  · obtain ⟨x, rfl, rx⟩ := repsB_one rd
    split at q
    · split at q
      · rename_i z hz
        cases q
        exact call_len_str pins s σ H _ us Q I rv ⟨z, by rw [rx.vstr], fits_ok hz, p.same sm (.int _)⟩
      · cases q
    · split at q
      · rename_i zs hz
        cases q
        obtain ⟨a, ys, rfl, hy, rs⟩ := seqOf_rep sm rx hz
        exact call_len_seq pins s σ H _ us Q I rv ⟨a, ys, rfl, hy.symm, by rw [rs.length]; exact p.same sm (.int _)⟩
      · cases q
  · cases q
theorem cd_tuple : CallD X cn (.type "tuple") cTuple := by
  rintro pins s σ H xs us Q I rv ⟨P, θ, S, ds, r, S', sm, rd, q, p⟩
  unfold cTuple at q
  split at q
  · obtain ⟨x, rfl, rx⟩ := repsB_one rd
    rename_i d
    cases d with
    | tup zs =>
      cases q
      obtain ⟨a, ys, rfl, hy, rs⟩ := rx.vtup
      cases rx with
      | of rx => exact call_tuple_of pins s σ H _ us Q I rv ⟨a, ys, rfl, .inr ⟨hy, p.same sm rx⟩⟩
    | lst zs =>
      cases q
      obtain ⟨a, ys, rfl, hy, rs⟩ := rx.vlst
      exact call_tuple_of pins s σ H _ us Q I rv ⟨a, ys, rfl, .inl ⟨SqL.of hy, p.newT sm rs⟩⟩
    | obj i =>
      split at q
      · rename_i zs hz
        cases q
        obtain ⟨a, ys, rfl, _, hy, rs⟩ := rx.vobj sm (objOf_eq hz)
        exact call_tuple_of pins s σ H _ us Q I rv ⟨a, ys, rfl, .inl ⟨SqL.of hy, p.newT sm rs⟩⟩
      · cases q
    | _ => cases q
  · cases q
theorem cd_list : CallD X cn (.type "list") cList := by
  rintro pins s σ H xs us Q I rv ⟨P, θ, S, ds, r, S', sm, rd, q, p⟩
  unfold cList at q
  split at q
  · obtain ⟨x, rfl, rx⟩ := repsB_one rd
    split at q
    · rename_i zs hz
      cases q
      obtain ⟨a, ys, rfl, hy, rs⟩ := seqOf_rep sm rx hz
      exact call_list_of pins s σ H _ us Q I rv ⟨a, ys, rfl, hy.symm, p.newL sm rs⟩
    · cases q
  · cases q
theorem sumI_sum : ∀ is : List Int, is.sum = sumI is
  | [] => rfl
  | i :: is => by rw [List.sum_cons, sumI_sum is]; rfl
theorem maxI_ge : ∀ (is : List Int) (m : Int), m ≤ maxI m is ∧ ∀ i ∈ is, i ≤ maxI m is
  | [], m => ⟨Int.le_refl m, fun _ h => nomatch h⟩
  | i :: is, m => by
    obtain ⟨h1, h2⟩ := maxI_ge is (if m < i then i else m)
    show m ≤ maxI (if m < i then i else m) is ∧ ∀ j ∈ i :: is, j ≤ maxI (if m < i then i else m) is
    have h3 : m ≤ (if m < i then i else m) ∧ i ≤ (if m < i then i else m) := by split <;> omega
    refine ⟨by omega, fun j hj => ?_⟩
    rcases List.mem_cons.mp hj with z | z
    · rw [z]; omega
    · exact h2 j z
theorem maxI_mem : ∀ (is : List Int) (m : Int), maxI m is = m ∨ maxI m is ∈ is
  | [], m => .inl rfl
  | i :: is, m => by
    have h := maxI_mem is (if m < i then i else m)
    show maxI (if m < i then i else m) is = m ∨ maxI (if m < i then i else m) is ∈ i :: is
    rcases h with h | h
    · by_cases c : m < i
      · rw [if_pos c] at h ⊢
        rw [h]; exact .inr List.mem_cons_self
      · rw [if_neg c] at h ⊢
        exact .inl h
    · exact .inr (List.mem_cons_of_mem _ h)
theorem cd_sum (hc : X.calm = true) : CallD X cn (.builtin "sum") cSum := by
  rintro pins s σ H xs us Q I rv ⟨P, θ, S, ds, r, S', sm, rd, q, p⟩
  unfold cSum at q
  split at q
  · obtain ⟨x, rfl, rx⟩ := repsB_one rd
    split at q
    · rename_i zs hz
      split at q
      · rename_i is hi
        cases q
        obtain ⟨a, ys, rfl, hy, rs⟩ := lstOf_rep sm rx hz
        rw [intsOf_eq hi] at rs
        have e := rs.of_ints
        subst e
        exact cr_sum hc pins s σ H _ us Q I rv ⟨a, is, rfl, SqL.of hy, by rw [sumI_sum]; exact p.same sm (.int _)⟩
      · cases q
    · cases q
  · cases q
theorem cd_max (hc : X.calm = true) : CallD X cn (.builtin "max") cMax := by
  rintro pins s σ H xs us Q I rv ⟨P, θ, S, ds, r, S', sm, rd, q, p⟩
  unfold cMax at q
  split at q
  · obtain ⟨x, rfl, rx⟩ := repsB_one rd
    split at q
    · rename_i zs hz
      split at q
      · rename_i i is hi
        cases q
        obtain ⟨a, ys, rfl, hy, rs⟩ := lstOf_rep sm rx hz
        rw [intsOf_eq hi] at rs
        have e := rs.of_ints
        subst e
        refine cr_max hc pins s σ H _ us Q I rv ⟨a, i :: is, rfl, SqL.of hy, Nat.succ_pos _, fun m hm hle => ?_⟩
        have e : m = maxI i is := by
          obtain ⟨h1, h2⟩ := maxI_ge is i
          have h3 : m ≤ maxI i is := by
            rcases List.mem_cons.mp hm with z | z
            · rw [z]; exact h1
            · exact h2 m z
          have h4 : maxI i is ≤ m := by
            rcases maxI_mem is i with z | z
            · rw [z]; exact hle i List.mem_cons_self
            · exact hle _ (List.mem_cons_of_mem _ z)
          omega
        rw [e]
        exact p.same sm (.int _)
      · cases q
    · cases q
  · cases q
    obtain ⟨x, y, rfl, rx, ry⟩ := repsB_two rd
    rw [rx.vint, ry.vint] at rv
    exact call_max2 hc pins s σ H _ us Q I rv ⟨_, _, rfl, p.same sm (.int _)⟩
  · cases q
theorem cd_min2 (hc : X.calm = true) : CallD X cn (.builtin "min") cMin2 := by
  rintro pins s σ H xs us Q I rv ⟨P, θ, S, ds, r, S', sm, rd, q, p⟩
  unfold cMin2 at q
  split at q
  · cases q
    obtain ⟨x, y, rfl, rx, ry⟩ := repsB_two rd
    rw [rx.vint, ry.vint] at rv
    exact call_min2 hc pins s σ H _ us Q I rv ⟨_, _, rfl, p.same sm (.int _)⟩
  · cases q
theorem cd_abs : CallD X cn (.builtin "abs") cAbs := by
  rintro pins s σ H xs us Q I rv ⟨P, θ, S, ds, r, S', sm, rd, q, p⟩
  unfold cAbs at q
  split at q
  · cases q
    obtain ⟨x, rfl, rx⟩ := repsB_one rd
    rw [rx.vint] at rv
    exact call_abs pins s σ H _ us Q I rv ⟨_, rfl, p.same sm (.int _)⟩
  · cases q
theorem cd_int : CallD X cn (.type "int") cInt := by
  rintro pins s σ H xs us Q I rv ⟨P, θ, S, ds, r, S', sm, rd, q, p⟩
  unfold cInt at q
  split at q
  · cases q
    obtain ⟨x, rfl, rx⟩ := repsB_one rd
    rw [rx.vint] at rv
    exact call_int1 pins s σ H _ us Q I rv (.inl ⟨_, rfl, p.same sm (.int _)⟩)
  · cases q
    obtain ⟨x, rfl, rx⟩ := repsB_one rd
    rw [rx.vbl] at rv
    exact call_int1 pins s σ H _ us Q I rv (.inr ⟨_, rfl, p.same sm (.int _)⟩)
  · cases q
theorem cd_bool : CallD X cn (.type "bool") cBool := by
  rintro pins s σ H xs us Q I rv ⟨P, θ, S, ds, r, S', sm, rd, q, p⟩
  unfold cBool at q
  split at q
  · cases q
    obtain ⟨x, rfl, rx⟩ := repsB_one rd
    rw [rx.vint] at rv
    exact call_bool1 pins s σ H _ us Q I rv (.inl ⟨_, rfl, p.same sm (.bl _)⟩)
  · cases q
    obtain ⟨x, rfl, rx⟩ := repsB_one rd
    rw [rx.vbl] at rv
    exact call_bool1 pins s σ H _ us Q I rv (.inr ⟨_, rfl, p.same sm (.bl _)⟩)
  · cases q
theorem cd_all (hc : X.calm = true) : CallD X cn (.builtin "all") cAll := by
  rintro pins s σ H xs us Q I rv ⟨P, θ, S, ds, r, S', sm, rd, q, p⟩
  unfold cAll at q
  split at q
  · obtain ⟨x, rfl, rx⟩ := repsB_one rd
    split at q
    · rename_i zs hz
      split at q
      · rename_i is hi
        cases q
        obtain ⟨a, ys, rfl, hy, rs⟩ := lstOf_rep sm rx hz
        rw [blsOf_eq hi] at rs
        have e := rs.of_bls
        subst e
        exact cr_all hc pins s σ H _ us Q I rv ⟨a, is, rfl, SqL.of hy, p.same sm (.bl _)⟩
      · cases q
    · cases q
  · cases q
theorem cd_any (hc : X.calm = true) : CallD X cn (.builtin "any") cAny := by
  rintro pins s σ H xs us Q I rv ⟨P, θ, S, ds, r, S', sm, rd, q, p⟩
  unfold cAny at q
  split at q
  · obtain ⟨x, rfl, rx⟩ := repsB_one rd
    split at q
    · rename_i zs hz
      split at q
      · rename_i is hi
        cases q
        obtain ⟨a, ys, rfl, hy, rs⟩ := lstOf_rep sm rx hz
        rw [blsOf_eq hi] at rs
        have e := rs.of_bls
        subst e
        exact cr_any hc pins s σ H _ us Q I rv ⟨a, is, rfl, SqL.of hy, p.same sm (.bl _)⟩
      · cases q
    · cases q
  · cases q
theorem call_weak {K : PySem.W.Frag} {o : OpL} {fs : DXs} {σ : L2.St} {H : Hp} {Q : VK} (h : tD K cn (xCall o fs) σ H Q) : tCB (rLD K cn o) (tDAB K cn fs) σ H Q := by
  obtain ⟨P, θ, S, ρ, d, S', s, r, q, p⟩ := h
  obtain ⟨ds, S1, q1, q⟩ := R.bind_eq q
  exact ⟨P, θ, S, ρ, ds, S1, s, r, q1, fun xs H1 θ1 s1 e1 r1 => ⟨P, θ1, S1, ds, d, S', s1, r1, q, p.at_ e1⟩⟩
variable {x : Str} {p pos : Pos} {e : Expr} {es : List Expr} {fs : DXs} {o : OpL}
theorem de_callB {id : String} (hc : CallD X cn (.builtin id) o) (hm : X.mg x = none) (hv : bootBuiltins x = some (.builtin id)) (ha : DAB X cn (e :: es) fs) (hg : Gl X x := by rfl) (hn : x ≠ "__name__" := by decide) (hdb : (x == ("__debug__" : Str)) = false := by decide)
    (he : starEach (e :: es) X.env = (false, eval e X.env) :: starEach es X.env := by rfl) (hpl : (backTo pos (starEach es X.env)).any (·.1) = false := by rfl) : DE X cn (.Call (.Name x p) (e :: es) [] pos) (xCall o fs) :=
  ⟨(pe_callB hc hg hm hv ha.pa hn hdb he hpl).weak fun σ H Q h => call_weak h⟩
theorem de_callTy {T : String} (hc : CallD X cn (.type T) o) (hm : X.mg x = none) (hv : bootBuiltins x = some (.type T)) (ha : DAB X cn (e :: es) fs) (hg : Gl X x := by rfl) (hn : x ≠ "__name__" := by decide) (hdb : (x == ("__debug__" : Str)) = false := by decide)
    (he : starEach (e :: es) X.env = (false, eval e X.env) :: starEach es X.env := by rfl) (hpl : (backTo pos (starEach es X.env)).any (·.1) = false := by rfl) : DE X cn (.Call (.Name x p) (e :: es) [] pos) (xCall o fs) :=
  ⟨(pe_callTy hc hg hm hv ha.pa hn hdb he hpl).weak fun σ H Q h => call_weak h⟩

/-! ### isinstance -/
def tyName (S : Sto) : D → Option String
  | .non => some "NoneType"
  | .bl _ => some "bool"
  | .int _ => some "int"
  | .str _ => some "str"
  | .tup _ => some "tuple"
  | .lst _ => some "list"
  | .dic _ _ => some "dict"
  | .obj i => match objOf S i with
    | some _ => some "list"
    | none => none
  | .scr _ => none
  | .ins _ _ _ => none
def isB (a b : String) : Bool := decide (a = b) || (decide (a = "bool") && decide (b = "int"))
def tyNames : List String := ["NoneType", "bool", "int", "str", "tuple", "list", "dict"]
theorem kit_tab : ∀ a ∈ tyNames, ∀ b ∈ tyNames, kitB a b = some (isB a b) := by decide +kernel
theorem tyName_mem {S : Sto} {d : D} {t : String} (h : tyName S d = some t) : t ∈ tyNames := by
  cases d with
  | obj i =>
    have h' : (match objOf S i with | some _ => some "list" | none => none) = some t := h
    split at h'
    · cases h'; decide
    · cases h'
  | ins _ _ _ => cases h
  | scr _ => cases h
  | _ => cases h; decide
theorem tyName_rep {K : PySem.W.Frag} {P : List Addr} {H : Hp} {θ : List Addr} {S : Sto} {x : V} {d : D} {t : String} (s : Sim K cn P H θ S) (r : RepB K cn P H θ x d) (h : tyName S d = some t) : TyX K H x (.type t) := by
  cases d with
  | non => cases h; rw [r.vnon]; exact .base .non
  | bl b => cases h; rw [r.vbl]; exact .base (.bl _)
  | int b => cases h; rw [r.vint]; exact .base (.int _)
  | str b => cases h; rw [r.vstr]; exact .base (.str _)
  | tup ds =>
    cases h
    obtain ⟨a, xs, rfl, hx, _⟩ := r.vtup
    rcases hx with (hx | ⟨o, hx⟩) | ⟨o, its, n, k, c, _⟩
    · exact .base (.tup hx)
    · exact .fTuple hx
    · exact .kTuple k c
  | lst ds => cases h; obtain ⟨a, xs, rfl, hx, _⟩ := r.vlst; exact .base (.lst hx)
  | dic ks ds => cases h; obtain ⟨a, xs, rfl, hx, _⟩ := r.vdic; exact .base (.dK hx)
  | scr ns => cases h
  | obj i =>
    have h' : (match objOf S i with | some _ => some "list" | none => none) = some t := h
    split at h'
    · rename_i xs hx
      cases h'
      obtain ⟨a, ys, rfl, _, hy, _⟩ := r.vobj s (objOf_eq hx)
      exact .base (.lst hy)
    · cases h'
  | ins _ _ _ => cases h
def xIsi (Ts : List String) (f : DX) : DX := fun ρ S => (f ρ S).bind fun d S1 => match tyName S1 d with
  | some t => .ok (.bl (Ts.any fun T => isB t T)) S1
  | none => .stuck
theorem kit_any {K : PySem.W.Frag} {t : String} (ht : t ∈ tyNames) : ∀ {Ts : List String}, (∀ T ∈ Ts, T ∈ tyNames) → PySem.W.kitAny K (.type t) (Ts.map Value.type) = some (Ts.any fun T => isB t T)
  | [], _ => kitAny_nil
  | T :: Ts, h => by
    have h1 := kit_ty (K := K) (kit_tab t ht T (h T List.mem_cons_self))
    have ih := kit_any (K := K) ht (Ts := Ts) fun T' h' => h T' (List.mem_cons_of_mem _ h')
    refine kitAny_cons h1 (fun e => ?_) fun e => ?_
    · rw [ih]; simp [e]
    · simp [e]
/-- isinstance(e, T) -/
theorem de_isi1 {T : Str} {Tn : String} {f : DX} {p2 : Pos} (hm : X.mg "isinstance" = none) (hmT : X.mg T = none) (hvT : bootBuiltins T = some (.type Tn)) (ha : DB X cn e f) (hT : Tn ∈ tyNames := by decide) (hg : Gl X "isinstance" := by rfl) (hgT : Gl X T := by rfl)
    (hnT : T ≠ "__name__" := by decide) (hdT : (T == ("__debug__" : Str)) = false := by decide)
    (h1 : starEach [e, .Name T p2] X.env = (false, eval e X.env) :: starEach [.Name T p2] X.env := by rfl) (h2 : starEach [.Name T p2] X.env = (false, eval (.Name T p2) X.env) :: starEach [] X.env := by rfl)
    (hpl : (backTo pos (starEach [.Name T p2] X.env)).any (·.1) = false := by rfl) : DE X cn (.Call (.Name "isinstance" p) [e, .Name T p2] [] pos) (xIsi [Tn] f) :=
  ⟨(pe_callB call_isi hg hm boot_isinstance (pa_cons ha.pe (pa_cons (pe_bltn (v := .ty Tn) hgT hmT hvT rfl hnT hdT) pa_nil h2) h1) (by decide) (by decide) h1 hpl).weak fun σ H Q ⟨P, θ, S, ρ, d, S', s, r, q, p⟩ => by
    obtain ⟨d1, S1, q1, q⟩ := R.bind_eq q
    split at q
    · rename_i t ht
      cases q
      refine ⟨P, θ, S, ρ, d1, S', s, r, q1, fun x H1 θ1 s1 e1 r1 => ?_⟩
      refine ⟨x, .ty Tn, .type t, .type Tn, isB t Tn, rfl, .ty Tn, tyName_rep s1 r1 ht, kit_ty (kit_tab t (tyName_mem ht) Tn hT), ?_⟩
      have := (p.at_ e1).same s1 (.bl _)
      simpa using this
    · cases q⟩
/-- isinstance(e, (T1, T2)) -/
theorem de_isi2 {T1 T2 : Str} {Tn1 Tn2 : String} {f : DX} {p1 p2 p3 : Pos} {k : Nat} (hm : X.mg "isinstance" = none) (hmT1 : X.mg T1 = none) (hvT1 : bootBuiltins T1 = some (.type Tn1)) (hmT2 : X.mg T2 = none) (hvT2 : bootBuiltins T2 = some (.type Tn2)) (ha : DB X cn e f)
    (hT1 : Tn1 ∈ tyNames := by decide) (hT2 : Tn2 ∈ tyNames := by decide) (hg : Gl X "isinstance" := by rfl) (hgT1 : Gl X T1 := by rfl) (hgT2 : Gl X T2 := by rfl)
    (hnT1 : T1 ≠ "__name__" := by decide) (hdT1 : (T1 == ("__debug__" : Str)) = false := by decide) (hnT2 : T2 ≠ "__name__" := by decide) (hdT2 : (T2 == ("__debug__" : Str)) = false := by decide)
    (h1 : starEach [e, .Tuple [.Name T1 p1, .Name T2 p2] k p3] X.env = (false, eval e X.env) :: starEach [.Tuple [.Name T1 p1, .Name T2 p2] k p3] X.env := by rfl)
    (h2 : starEach [.Tuple [.Name T1 p1, .Name T2 p2] k p3] X.env = (false, eval (.Tuple [.Name T1 p1, .Name T2 p2] k p3) X.env) :: starEach [] X.env := by rfl)
    (h3 : starEach [.Name T1 p1, .Name T2 p2] X.env = (false, eval (.Name T1 p1) X.env) :: starEach [.Name T2 p2] X.env := by rfl) (h4 : starEach [.Name T2 p2] X.env = (false, eval (.Name T2 p2) X.env) :: starEach [] X.env := by rfl)
    (hpl : (backTo pos (starEach [.Tuple [.Name T1 p1, .Name T2 p2] k p3] X.env)).any (·.1) = false := by rfl) : DE X cn (.Call (.Name "isinstance" p) [e, .Tuple [.Name T1 p1, .Name T2 p2] k p3] [] pos) (xIsi [Tn1, Tn2] f) :=
  ⟨(pe_callB call_isiT hg hm boot_isinstance (pa_cons ha.pe (pa_cons (pe_tup (pa_cons (pe_bltn (v := .ty Tn1) hgT1 hmT1 hvT1 rfl hnT1 hdT1) (pa_cons (pe_bltn (v := .ty Tn2) hgT2 hmT2 hvT2 rfl hnT2 hdT2) pa_nil h4) h3)) pa_nil h2) h1) (by decide) (by decide) h1 hpl).weak
    fun σ H Q ⟨P, θ, S, ρ, d, S', s, r, q, p⟩ => by
    obtain ⟨d1, S1, q1, q⟩ := R.bind_eq q
    split at q
    · rename_i t ht
      cases q
      refine ⟨P, θ, S, ρ, d1, S', s, r, q1, fun x H1 θ1 s1 e1 r1 => ?_⟩
      refine ⟨by show 2 ≤ sizeLine; exact small_line (by decide), fun tp htp => ?_⟩
      have e2 : Evo H1 θ1 (upd H1 tp (.tup [.ty Tn1, .ty Tn2])) θ1 := Evo.fresh htp
      have s2 := s1.fresh (o := .tup [.ty Tn1, .ty Tn2]) htp
      refine ⟨x, tp, [.ty Tn1, .ty Tn2], .type t, [.type Tn1, .type Tn2], [Tn1, Tn2].any fun T => isB t T, rfl, upd_same, .cons (.ty _) (.cons (.ty _) .nil), tyName_rep s2 (r1.evo e2) ht, kit_any (Ts := [Tn1, Tn2]) (tyName_mem ht) (fun T hT => ?_), ?_⟩
      · rcases List.mem_cons.mp hT with z | z
        · rw [z]; exact hT1
        · rcases List.mem_cons.mp z with z | z
          · rw [z]; exact hT2
          · cases z
      · exact (p.at_ (e1.trans e2)).same s2 (.bl _)
    · cases q⟩
end
end DL

set_option Elab.async false
set_option linter.all false
set_option maxRecDepth 100000
set_option maxHeartbeats 4000000
set_option autoImplicit false
namespace DL
open PySem PySem.Spec PyProof.Rows L2

/-! ### statements. P0: the caller's own; O: this frame's own lists -/
inductive Out where
  | next (ρ : Rho) | ret (d : D) | brk (ρ : Rho) | cont (ρ : Rho)
abbrev DS := Rho → Sto → R Out
structure Stt (K : PySem.W.Frag) (cn : Nat → Addr) (P0 O : List Addr) (H : Hp) (θ : List Addr) (S : Sto) (σ : L2.St) (ρ : Rho) : Prop where
  sim : Sim K cn (O ++ P0) H θ S
  rep : RepE K cn (O ++ P0) H θ σ ρ
  own : ∀ (i : Nat) (ds : List D) (a : Addr), ρ[i]? = some (.own ds) → σ[i]? = some (some (.ref a)) → a ∈ O
  apart : ∀ a ∈ O, a ∉ P0
/-- what has happened to the heap: all that is tracked, not the store's, and not this frame's own, stands as it was -/
structure EvS (O : List Addr) (H : Hp) (θ : List Addr) (O' : List Addr) (H' : Hp) (θ' : List Addr) : Prop where
  keep : ∀ a o, H a = some o → a ∉ θ → a ∉ O → H' a = some o ∧ a ∉ θ' ∧ a ∉ O'
  pre : ∀ (i : Nat) (a : Addr), θ[i]? = some a → θ'[i]? = some a
theorem EvS.refl {O : List Addr} {H : Hp} {θ : List Addr} : EvS O H θ O H θ := ⟨fun _ _ e n m => ⟨e, n, m⟩, fun _ _ e => e⟩
theorem EvS.trans {O O1 O2 : List Addr} {H H1 H2 : Hp} {θ θ1 θ2 : List Addr} (a : EvS O H θ O1 H1 θ1) (b : EvS O1 H1 θ1 O2 H2 θ2) : EvS O H θ O2 H2 θ2 :=
  ⟨fun p o e n m => by obtain ⟨e1, n1, m1⟩ := a.keep p o e n m; exact b.keep p o e1 n1 m1, fun i p e => b.pre i p (a.pre i p e)⟩
theorem Evo.s {O : List Addr} {H H1 : Hp} {θ θ1 : List Addr} (a : Evo H θ H1 θ1) : EvS O H θ O H1 θ1 := ⟨fun p o e n m => ⟨(a.keep p o e n).1, (a.keep p o e n).2, m⟩, a.pre⟩
theorem Stt.evo {K : PySem.W.Frag} {cn : Nat → Addr} {P0 O : List Addr} {H H1 : Hp} {θ θ1 : List Addr} {S S1 : Sto} {σ : L2.St} {ρ : Rho} (h : Stt K cn P0 O H θ S σ ρ) (s : Sim K cn (O ++ P0) H1 θ1 S1) (e : Evo H θ H1 θ1) : Stt K cn P0 O H1 θ1 S1 σ ρ :=
  ⟨s, h.rep.evo h.sim e, h.own, h.apart⟩
def PostRet (K : PySem.W.Frag) (cn : Nat → Addr) (P0 O : List Addr) (H : Hp) (θ : List Addr) (d : D) (S' : Sto) (Q : VK) : Prop :=
  ∀ v O' H' θ', Sim K cn P0 H' θ' S' → EvS O H θ O' H' θ' → Rep K cn P0 H' θ' v d → Q v H'
def PostEnv (K : PySem.W.Frag) (cn : Nat → Addr) (P0 O : List Addr) (H : Hp) (θ : List Addr) (ρ' : Rho) (S' : Sto) (Q : L2.St → Hp → Prop) : Prop :=
  ∀ O' σ' H' θ', Stt K cn P0 O' H' θ' S' σ' ρ' → EvS O H θ O' H' θ' → Q σ' H'
def PostS (K : PySem.W.Frag) (cn : Nat → Addr) (P0 O : List Addr) (H : Hp) (θ : List Addr) (o : Out) (S' : Sto) (E : Ends) : Prop := match o with
  | .next ρ' => PostEnv K cn P0 O H θ ρ' S' E.nx
  | .brk ρ' => PostEnv K cn P0 O H θ ρ' S' E.bk
  | .cont ρ' => PostEnv K cn P0 O H θ ρ' S' E.ct
  | .ret d => PostRet K cn P0 O H θ d S' E.rt
def tDS (K : PySem.W.Frag) (cn : Nat → Addr) (g : DS) : TS := fun E σ H => ∃ P0 O θ S ρ o S', Stt K cn P0 O H θ S σ ρ ∧ g ρ S = .ok o S' ∧ PostS K cn P0 O H θ o S' E
structure DSt (X : Cx) (cn : Nat → Addr) (st : Stmt) (g : DS) : Prop where
  ps : PS X st (tDS X.K cn g)
structure DSs (X : Cx) (cn : Nat → Addr) (st : List Stmt) (g : DS) : Prop where
  ps : PSs X st (tDS X.K cn g)
section
variable {K : PySem.W.Frag} {cn : Nat → Addr} {P0 O O1 : List Addr} {H H1 : Hp} {θ θ1 : List Addr} {S' : Sto}
theorem PostEnv.at_ {ρ' : Rho} {Q : L2.St → Hp → Prop} (p : PostEnv K cn P0 O H θ ρ' S' Q) (e : EvS O H θ O1 H1 θ1) : PostEnv K cn P0 O1 H1 θ1 ρ' S' Q := fun O' σ' H' θ' s e' => p O' σ' H' θ' s (e.trans e')
theorem PostRet.at_ {d : D} {Q : VK} (p : PostRet K cn P0 O H θ d S' Q) (e : EvS O H θ O1 H1 θ1) : PostRet K cn P0 O1 H1 θ1 d S' Q := fun v O' H' θ' s e' => p v O' H' θ' s (e.trans e')
theorem PostS.at_ {o : Out} {E : Ends} (p : PostS K cn P0 O H θ o S' E) (e : EvS O H θ O1 H1 θ1) : PostS K cn P0 O1 H1 θ1 o S' E := by
  cases o with
  | next ρ => exact PostEnv.at_ p e
  | brk ρ => exact PostEnv.at_ p e
  | cont ρ => exact PostEnv.at_ p e
  | ret d => exact PostRet.at_ p e
theorem Sim.lessO {S : Sto} (s : Sim K cn (O ++ P0) H θ S) : Sim K cn P0 H θ S := by
  refine ⟨s.len, s.nd, fun q hq => s.pf q (List.mem_append_right _ hq), fun i c hc => ?_⟩
  obtain ⟨a, ha, r⟩ := s.cell i c hc
  refine ⟨a, ha, ?_⟩
  cases c with
  | lst ds =>
    obtain ⟨xs, e, rs⟩ := r
    exact ⟨xs, e, rs.less fun q hq => List.mem_append_right _ hq⟩
  | ins c fs ds =>
    obtain ⟨dx, fv, e1, e2, e3, e4, e5, rs⟩ := r
    exact ⟨dx, fv, e1, e2, e3, fun z => e4 (List.mem_append_right _ z), e5, rs.less fun q hq => List.mem_append_right _ hq⟩
end

section
variable {X : Cx} {cn : Nat → Addr}
def sNil : DS := fun ρ S => .ok (.next ρ) S
def sSeq (g h : DS) : DS := fun ρ S => (g ρ S).bind fun o S1 => match o with
  | .next ρ1 => h ρ1 S1
  | .brk ρ1 => .ok (.brk ρ1) S1
  | .cont ρ1 => .ok (.cont ρ1) S1
  | .ret d => .ok (.ret d) S1
theorem dss_nil : DSs X cn [] sNil := ⟨pss_nil.weak fun E σ H ⟨P0, O, θ, S, ρ, o, S', s, q, p⟩ => by cases q; exact p O σ H θ s EvS.refl⟩
theorem dss_one {st : Stmt} {g : DS} (h : DSt X cn st g) : DSs X cn [st] g := ⟨pss_one h.ps⟩
theorem dss_cons {st : Stmt} {rest : List Stmt} {g h : DS} (h1 : DSt X cn st g) (h2 : DSs X cn rest h) : DSs X cn (st :: rest) (sSeq g h) :=
  ⟨(pss_cons h1.ps h2.ps).weak fun E σ H ⟨P0, O, θ, S, ρ, o, S', s, q, p⟩ => by
    obtain ⟨o1, S1, q1, q⟩ := R.bind_eq q
    refine ⟨P0, O, θ, S, ρ, o1, S1, s, q1, ?_⟩
    cases o1 with
    | next ρ1 => exact fun O' σ' H' θ' s' e' => ⟨P0, O', θ', S1, ρ1, o, S', s', q, p.at_ e'⟩
    | brk ρ1 => cases q; exact p
    | cont ρ1 => cases q; exact p
    | ret d => cases q; exact p⟩
def sPass : DS := fun ρ S => .ok (.next ρ) S
theorem ds_pass {pos : Pos} : DSt X cn (.Pass pos) sPass := ⟨ps_pass.weak fun E σ H ⟨P0, O, θ, S, ρ, o, S', s, q, p⟩ => by cases q; exact p O σ H θ s EvS.refl⟩
theorem ds_doc {x : Str} {j : Nat} {pos pos' : Pos} : DSt X cn (.Expr (.Constant (.str x) j pos) pos') sPass := ⟨ps_doc.weak fun E σ H ⟨P0, O, θ, S, ρ, o, S', s, q, p⟩ => by cases q; exact p O σ H θ s EvS.refl⟩
def sBreak : DS := fun ρ S => .ok (.brk ρ) S
def sCont : DS := fun ρ S => .ok (.cont ρ) S
theorem ds_break {pos : Pos} : DSt X cn (.Break pos) sBreak := ⟨ps_break.weak fun E σ H ⟨P0, O, θ, S, ρ, o, S', s, q, p⟩ => by cases q; exact p O σ H θ s EvS.refl⟩
theorem ds_continue {pos : Pos} : DSt X cn (.Continue pos) sCont := ⟨ps_continue.weak fun E σ H ⟨P0, O, θ, S, ρ, o, S', s, q, p⟩ => by cases q; exact p O σ H θ s EvS.refl⟩
/-- an expression for its own sake -/
def sExpr (f : DX) : DS := fun ρ S => (f ρ S).bind fun _ S1 => .ok (.next ρ) S1
theorem ds_expr {e : Expr} {f : DX} {pos : Pos} (h : DE X cn e f) (hs : swapsWith e none pos.line X.env = pure false := by rfl) : DSt X cn (.Expr e pos) (sExpr f) :=
  ⟨(ps_expr h.pe hs).weak fun E σ H ⟨P0, O, θ, S, ρ, o, S', s, q, p⟩ => by
    obtain ⟨d1, S1, q1, q⟩ := R.bind_eq q
    cases q
    exact ⟨O ++ P0, θ, S, ρ, d1, S', s.sim, s.rep, q1, fun v H1 θ1 s1 e1 r1 => p O σ H1 θ1 (s.evo s1 e1) e1.s⟩⟩
def sRet (f : DX) : DS := fun ρ S => (f ρ S).bind fun d S1 => .ok (.ret d) S1
theorem ds_ret {e : Expr} {f : DX} {pos : Pos} (h : DE X cn e f) : DSt X cn (.Return (some e) pos) (sRet f) :=
  ⟨(ps_ret h.pe).weak fun E σ H ⟨P0, O, θ, S, ρ, o, S', s, q, p⟩ => by
    obtain ⟨d1, S1, q1, q⟩ := R.bind_eq q
    cases q
    exact ⟨O ++ P0, θ, S, ρ, d1, S', s.sim, s.rep, q1, fun v H1 θ1 s1 e1 r1 => p v O H1 θ1 s1.lessO e1.s (r1.less fun q hq => List.mem_append_right _ hq)⟩⟩
def sRetN : DS := fun ρ S => .ok (.ret .non) S
theorem ds_retN {pos : Pos} : DSt X cn (.Return none pos) sRetN :=
  ⟨ps_retN.weak fun E σ H ⟨P0, O, θ, S, ρ, o, S', s, q, p⟩ => by cases q; exact p _ O H θ s.sim.lessO EvS.refl .non⟩
/-- return of a list of one's own -/
def sRetO (i : Nat) : DS := fun ρ S => match ρ[i]? with
  | some (.own ds) => .ok (.ret (.lst ds)) S
  | some (.val d) => .ok (.ret d) S
  | _ => .stuck
theorem ds_retO (i : Nat) {x : Str} {pos pos' : Pos} (hN : X.N[i]? = some x := by rfl) (hv : Vis X.env.scope x := by first | exact Or.inl rfl | exact Or.inr (Or.inl rfl) | exact Or.inr (Or.inr rfl)) (hd : (x == ("__debug__" : Str)) = false := by decide)
    (hcd : (x == ("__classdict__" : Str)) = false := by decide) : DSt X cn (.Return (some (.Name x pos')) pos) (sRetO i) :=
  ⟨(ps_ret (pe_var hN hv hd hcd)).weak fun E σ H ⟨P0, O, θ, S, ρ, o, S', s, q, p⟩ => by
    unfold sRetO at q
    split at q
    · rename_i ds e
      cases q
      obtain ⟨v, hv, sr⟩ := s.rep.at_ i _ e
      cases sr with
      | own m h rs =>
        refine ⟨_, hv, p _ O H θ s.sim.lessO EvS.refl (.lst h (s.sim.pf _ m).1 (s.apart _ (s.own i ds _ e hv)) (rs.less fun q hq => List.mem_append_right _ hq))⟩
    · rename_i d e
      cases q
      obtain ⟨v, hv, sr⟩ := s.rep.at_ i _ e
      cases sr with
      | val r => exact ⟨_, hv, p _ O H θ s.sim.lessO EvS.refl (r.less fun q hq => List.mem_append_right _ hq)⟩
    · cases q⟩
def sIf (c : DX) (g h : DS) : DS := fun ρ S => (c ρ S).bind fun d S1 => match d with
  | .bl true => g ρ S1
  | .bl false => h ρ S1
  | _ => .stuck
theorem ds_if {c : Expr} {a b : List Stmt} {f : DX} {g h : DS} {pos : Pos} (hc : DT X cn c f) (ha : DSs X cn a g) (hb : DSs X cn b h) : DSt X cn (.If c a b pos) (sIf f g h) :=
  ⟨(ps_if hc.pt ha.ps hb.ps).weak fun E σ H ⟨P0, O, θ, S, ρ, o, S', s, q, p⟩ => by
    obtain ⟨d1, S1, q1, q⟩ := R.bind_eq q
    split at q
    · exact ⟨O ++ P0, θ, S, ρ, true, S1, s.sim, s.rep, q1, fun H1 θ1 s1 e1 => ⟨P0, O, θ1, S1, ρ, o, S', s.evo s1 e1, q, p.at_ e1.s⟩⟩
    · exact ⟨O ++ P0, θ, S, ρ, false, S1, s.sim, s.rep, q1, fun H1 θ1 s1 e1 => ⟨P0, O, θ1, S1, ρ, o, S', s.evo s1 e1, q, p.at_ e1.s⟩⟩
    · cases q⟩

/-! ### stores -/
theorem Stt.setVal {K : PySem.W.Frag} {P0 O : List Addr} {H : Hp} {θ : List Addr} {S : Sto} {σ : L2.St} {ρ : Rho} {i : Nat} {v : V} {d : D} (s : Stt K cn P0 O H θ S σ ρ) (r : Rep K cn (O ++ P0) H θ v d) : Stt K cn P0 O H θ S (σ.set i (some v)) (ρ.set i (.val d)) := by
  have hlen := s.rep.len
  have upd1 : ∀ (j : Nat) (t : Slot), (ρ.set i (.val d))[j]? = some t → (j = i ∧ t = .val d ∧ i < ρ.length) ∨ (j ≠ i ∧ ρ[j]? = some t) := fun j t h => by
    by_cases e : j = i
    · subst e
      by_cases hl : j < ρ.length
      · rw [List.getElem?_set_self hl] at h; cases h; exact .inl ⟨rfl, rfl, hl⟩
      · rw [List.getElem?_eq_none (by simpa using hl)] at h; cases h
    · rw [List.getElem?_set_ne (Ne.symm e)] at h; exact .inr ⟨e, h⟩
  refine ⟨s.sim, ⟨by simpa using hlen, fun j t h => ?_, fun j k ds es a h1 h2 h3 h4 => ?_⟩, fun j ds a h1 h2 => ?_, s.apart⟩
  · rcases upd1 j t h with ⟨rfl, rfl, hl⟩ | ⟨ne, h⟩
    · exact ⟨some v, List.getElem?_set_self (by omega), .val r⟩
    · obtain ⟨u, hu, q⟩ := s.rep.at_ j t h
      exact ⟨u, by rw [List.getElem?_set_ne (Ne.symm ne)]; exact hu, q⟩
  · rcases upd1 j _ h1 with ⟨_, z, _⟩ | ⟨n1, h1⟩
    · cases z
    · rcases upd1 k _ h2 with ⟨_, z, _⟩ | ⟨n2, h2⟩
      · cases z
      · rw [List.getElem?_set_ne (Ne.symm n1)] at h3
        rw [List.getElem?_set_ne (Ne.symm n2)] at h4
        exact s.rep.own j k ds es a h1 h2 h3 h4
  · rcases upd1 j _ h1 with ⟨_, z, _⟩ | ⟨n1, h1⟩
    · cases z
    · rw [List.getElem?_set_ne (Ne.symm n1)] at h2
      exact s.own j ds a h1 h2
def sSet (i : Nat) (f : DX) : DS := fun ρ S => (f ρ S).bind fun d S1 => .ok (.next (ρ.set i (.val d))) S1
theorem ds_set (i : Nat) {x : Str} {e : Expr} {f : DX} {pos pos' : Pos} (hN : X.N.Nodup) (he : DE X cn e f) (hi : X.N[i]? = some x := by rfl) (hx : Loc X.env.scope x := by first | exact Or.inl rfl | exact Or.inr rfl)
    (hs : swapsWith e (some (.Name x pos')) pos.line X.env = pure false := by rfl) (hf : X.fn x = true ∨ X.env.scope.names.lookup x = some .local := by first | exact .inl rfl | exact .inr rfl) :
    DSt X cn (.Assign [.Name x pos'] e pos) (sSet i f) :=
  ⟨(ps_set (i := i) hN hi hx he.pe hs hf).weak fun E σ H ⟨P0, O, θ, S, ρ, o, S', s, q, p⟩ => by
    obtain ⟨d1, S1, q1, q⟩ := R.bind_eq q
    cases q
    exact ⟨O ++ P0, θ, S, ρ, d1, S', s.sim, s.rep, q1, fun v H1 θ1 s1 e1 r1 => p O _ H1 θ1 ((s.evo s1 e1).setVal r1) e1.s⟩⟩

/-! ### lists of one's own -/
/-- an expression that makes a new list -/
def tDF (K : PySem.W.Frag) (cn : Nat → Addr) (f : DXs) : TE := fun σ H Q => ∃ P θ S ρ ds S', Sim K cn P H θ S ∧ RepE K cn P H θ σ ρ ∧ f ρ S = .ok ds S' ∧
  ∀ xs H' θ' a, Sim K cn P H' θ' S' → Evo H θ H' θ' → Reps K cn P H' θ' xs ds → H' a = none → Q (.ref a) (upd H' a (.lst xs))
structure DF (X : Cx) (cn : Nat → Addr) (e : Expr) (f : DXs) : Prop where
  pe : PE X e (tDF X.K cn f)
def xLstOf (f : DXs) : DX := fun ρ S => (f ρ S).bind fun ds S1 => .ok (.lst ds) S1
theorem DF.de {e : Expr} {f : DXs} (h : DF X cn e f) : DE X cn e (xLstOf f) :=
  ⟨h.pe.weak fun σ H Q ⟨P, θ, S, ρ, d, S', s, r, q, p⟩ => by
    obtain ⟨ds, S1, q1, q⟩ := R.bind_eq q
    cases q
    exact ⟨P, θ, S, ρ, ds, S', s, r, q1, fun xs H1 θ1 a s1 e1 r1 ha => (p.at_ e1).newL s1 r1 a ha⟩⟩
theorem df_lst {es : List Expr} {f : DXs} {n : Nat} {pos : Pos} [hn : XsN f n] (h : DA X cn es f) (hz : n ≤ 1000 := by decide) : DF X cn (.List es pos) f :=
  ⟨(pe_lst h.pa).weak fun σ H Q ⟨P, θ, S, ρ, ds, S', s, r, q, p⟩ => by
    refine ⟨P, θ, S, ρ, ds, S', s, r, q, fun xs H1 θ1 s1 e1 r1 => ⟨?_, fun a ha => p xs H1 θ1 a s1 e1 r1 ha⟩⟩
    rw [r1.length, hn.len _ _ _ _ q]
    exact small_line hz⟩
/-- list(x) -/
def xsOf (f : DX) : DXs := fun ρ S => (f ρ S).bind fun d S1 => match seqOf S1 d with
  | some xs => .ok xs S1
  | none => .stuck
theorem df_list {e : Expr} {f : DX} {p pos : Pos} (hm : X.mg "list" = none) (ha : DB X cn e f) (hg : Gl X "list" := by rfl) (h1 : starEach [e] X.env = (false, eval e X.env) :: starEach [] X.env := by rfl) (hpl : (backTo pos (starEach [] X.env)).any (·.1) = false := by rfl) :
    DF X cn (.Call (.Name "list" p) [e] [] pos) (xsOf f) :=
  ⟨(pe_callTy call_list_of hg hm boot_list (pa_cons ha.pe pa_nil h1) (by decide) (by decide) h1 hpl).weak fun σ H Q ⟨P, θ, S, ρ, ds, S', s, r, q, p⟩ => by
    obtain ⟨d1, S1, q1, q⟩ := R.bind_eq q
    split at q
    · rename_i zs hz
      cases q
      refine ⟨P, θ, S, ρ, d1, S', s, r, q1, fun x H1 θ1 s1 e1 r1 => ?_⟩
      obtain ⟨a, ys, rfl, hy, rs⟩ := seqOf_rep s1 r1 hz
      exact ⟨a, ys, rfl, hy.symm, fun l hl => p ys H1 θ1 l s1 e1 rs hl⟩
    · cases q⟩
/-- [..] * n -/
def xsRep (f : DXs) (g : DX) : DXs := fun ρ S => (f ρ S).bind fun ds S1 => (g ρ S1).bind fun e S2 => match e with
  | .int k => if lt63 k && fits (ds.length * k.toNat) then .ok (List.replicate k.toNat ds).flatten S2 else .stuck
  | _ => .stuck
theorem df_rep {a b : Expr} {f : DXs} {g : DX} {pos : Pos} (ha : DF X cn a f) (hb : DB X cn b g) : DF X cn (.BinOp a .Mult b pos) (xsRep f g) :=
  ⟨(pe_op op_rep ha.pe hb.pe).weak fun σ H Q ⟨P, θ, S, ρ, ds, S', s, r, q, p⟩ => by
    obtain ⟨ds1, S1, q1, q⟩ := R.bind_eq q
    obtain ⟨d2, S2, q2, q⟩ := R.bind_eq q
    refine ⟨P, θ, S, ρ, ds1, S1, s, r, q1, fun xs H1 θ1 l s1 e1 r1 hl => ?_⟩
    have e1' : Evo H1 θ1 (upd H1 l (.lst xs)) θ1 := Evo.fresh hl
    have s1' := s1.fresh (o := .lst xs) hl
    refine ⟨P, θ1, S1, ρ, d2, S2, s1', r.evo s (e1.trans e1'), q2, fun y H2 θ2 s2 e2 r2 => ?_⟩
    split at q
    · split at q
      · rename_i k h
        cases q
        obtain ⟨h12, h3⟩ := Bool.and_eq_true_iff.mp h
        obtain ⟨h1, h2⟩ := lt63_ok h12
        refine ⟨l, k, xs, rfl, r2.vint, (e2.keep l _ upd_same (s1.free hl).1).1, h1, h2, ?_, fun a ha => ?_⟩
        · rw [r1.length]; exact fits_ok h3
        · exact p _ H2 θ2 a s2 ((e1.trans e1').trans e2) (reps_rep (r1.evo (e1'.trans e2)) _) ha
      · cases q
    · cases q⟩
theorem Stt.newOwn {K : PySem.W.Frag} {P0 O : List Addr} {H : Hp} {θ : List Addr} {S : Sto} {σ : L2.St} {ρ : Rho} {i : Nat} {a : Addr} {xs : List V} {ds : List D} (s : Stt K cn P0 O H θ S σ ρ) (h : H a = none) (r : Reps K cn (O ++ P0) H θ xs ds) :
    Stt K cn P0 (a :: O) (upd H a (.lst xs)) θ S (σ.set i (some (.ref a))) (ρ.set i (.own ds)) := by
  have s2 : Sim K cn (a :: O ++ P0) (upd H a (.lst xs)) θ S := s.sim.mine h
  have r2 : RepE K cn (a :: O ++ P0) (upd H a (.lst xs)) θ σ ρ := s.rep.mine s.sim h
  have hlen := s.rep.len
  have fresh_own : ∀ (j : Nat) (es : List D) (b : Addr), ρ[j]? = some (.own es) → σ[j]? = some (some (.ref b)) → b ≠ a := fun j es b h1 h2 z => by
    obtain ⟨v, hv, sr⟩ := s.rep.at_ j _ h1
    rw [h2] at hv
    cases sr with
    | own m e _ =>
      cases hv
      rw [z, h] at e; cases e
  have upd1 : ∀ (j : Nat) (t : Slot), (ρ.set i (.own ds))[j]? = some t → (j = i ∧ t = .own ds ∧ i < ρ.length) ∨ (j ≠ i ∧ ρ[j]? = some t) := fun j t h => by
    by_cases e : j = i
    · subst e
      by_cases hl : j < ρ.length
      · rw [List.getElem?_set_self hl] at h; cases h; exact .inl ⟨rfl, rfl, hl⟩
      · rw [List.getElem?_eq_none (by simpa using hl)] at h; cases h
    · rw [List.getElem?_set_ne (Ne.symm e)] at h; exact .inr ⟨e, h⟩
  refine ⟨s2, ⟨by simpa using hlen, fun j t ht => ?_, fun j k es fs b h1 h2 h3 h4 => ?_⟩, fun j es b h1 h2 => ?_, fun b hb => ?_⟩
  · rcases upd1 j t ht with ⟨rfl, rfl, hl⟩ | ⟨ne, ht⟩
    · exact ⟨some (.ref a), List.getElem?_set_self (by omega), .own (List.mem_append_left _ List.mem_cons_self) upd_same ((r.more h).evo (Evo.fresh h))⟩
    · obtain ⟨u, hu, q⟩ := r2.at_ j t ht
      exact ⟨u, by rw [List.getElem?_set_ne (Ne.symm ne)]; exact hu, q⟩
  · rcases upd1 j _ h1 with ⟨e1, _, l1⟩ | ⟨n1, h1⟩
    · rcases upd1 k _ h2 with ⟨e2, _, _⟩ | ⟨n2, h2⟩
      · rw [e1, e2]
      · subst e1
        rw [List.getElem?_set_self (by omega)] at h3
        rw [List.getElem?_set_ne (Ne.symm n2)] at h4
        cases h3
        exact absurd rfl (fresh_own k fs a ‹_› h4)
    · rw [List.getElem?_set_ne (Ne.symm n1)] at h3
      rcases upd1 k _ h2 with ⟨e2, _, l2⟩ | ⟨n2, h2⟩
      · subst e2
        rw [List.getElem?_set_self (by omega)] at h4
        cases h4
        exact absurd rfl (fresh_own j es a ‹_› h3)
      · rw [List.getElem?_set_ne (Ne.symm n2)] at h4
        exact s.rep.own j k es fs b h1 h2 h3 h4
  · rcases upd1 j _ h1 with ⟨e1, _, l1⟩ | ⟨n1, h1⟩
    · subst e1
      rw [List.getElem?_set_self (by omega)] at h2
      cases h2
      exact List.mem_cons_self
    · rw [List.getElem?_set_ne (Ne.symm n1)] at h2
      exact List.mem_cons_of_mem _ (s.own j es b h1 h2)
  · rcases List.mem_cons.mp hb with z | z
    · rw [z]
      intro m
      exact (s.sim.free h).2 (List.mem_append_right _ m)
    · exact s.apart b z
theorem EvS.newOwn {O : List Addr} {H : Hp} {θ : List Addr} {a : Addr} {o : HO} (h : H a = none) : EvS O H θ (a :: O) (upd H a o) θ :=
  ⟨fun b u e n m => ⟨by rw [upd_ne (ne_of_none e h)]; exact e, n, not_more h e m⟩, fun _ _ e => e⟩
def sOwn (i : Nat) (f : DXs) : DS := fun ρ S => (f ρ S).bind fun ds S1 => .ok (.next (ρ.set i (.own ds))) S1
theorem ds_own (i : Nat) {x : Str} {e : Expr} {f : DXs} {pos pos' : Pos} (hN : X.N.Nodup) (he : DF X cn e f) (hi : X.N[i]? = some x := by rfl) (hx : Loc X.env.scope x := by first | exact Or.inl rfl | exact Or.inr rfl)
    (hs : swapsWith e (some (.Name x pos')) pos.line X.env = pure false := by rfl) (hf : X.fn x = true ∨ X.env.scope.names.lookup x = some .local := by first | exact .inl rfl | exact .inr rfl) :
    DSt X cn (.Assign [.Name x pos'] e pos) (sOwn i f) :=
  ⟨(ps_set (i := i) hN hi hx he.pe hs hf).weak fun E σ H ⟨P0, O, θ, S, ρ, o, S', s, q, p⟩ => by
    obtain ⟨ds, S1, q1, q⟩ := R.bind_eq q
    cases q
    exact ⟨O ++ P0, θ, S, ρ, ds, S', s.sim, s.rep, q1, fun xs H1 θ1 a s1 e1 r1 ha => p (a :: O) _ _ θ1 ((s.evo s1 e1).newOwn ha r1) (e1.s.trans (EvS.newOwn ha))⟩⟩
/-- a list of one's own is written -/
theorem Stt.putOwn {K : PySem.W.Frag} {P0 O : List Addr} {H : Hp} {θ : List Addr} {S : Sto} {σ : L2.St} {ρ : Rho} {i : Nat} {a : Addr} {xs ys : List V} {ds es : List D} (s : Stt K cn P0 O H θ S σ ρ) (hi : ρ[i]? = some (.own ds)) (hv : σ[i]? = some (some (.ref a)))
    (r : Reps K cn (O ++ P0) H θ ys es) : Stt K cn P0 O (upd H a (.lst ys)) θ S σ (ρ.set i (.own es)) := by
  have hO := s.own i ds a hi hv
  have hP : a ∈ O ++ P0 := List.mem_append_left _ hO
  have hil : i < ρ.length := (List.getElem?_eq_some_iff.mp hi).1
  have upd1 : ∀ (j : Nat) (t : Slot), (ρ.set i (.own es))[j]? = some t → (j = i ∧ t = .own es) ∨ (j ≠ i ∧ ρ[j]? = some t) := fun j t h => by
    by_cases e : j = i
    · subst e
      rw [List.getElem?_set_self hil] at h; cases h; exact .inl ⟨rfl, rfl⟩
    · rw [List.getElem?_set_ne (Ne.symm e)] at h; exact .inr ⟨e, h⟩
  refine ⟨s.sim.set hP, ⟨by simpa using s.rep.len, fun j t h => ?_, fun j k es1 es2 b h1 h2 h3 h4 => ?_⟩, fun j es1 b h1 h2 => ?_, s.apart⟩
  · rcases upd1 j t h with ⟨rfl, rfl⟩ | ⟨ne, h⟩
    · exact ⟨_, hv, .own hP upd_same (r.mine hP)⟩
    · obtain ⟨u, hu, q⟩ := s.rep.at_ j t h
      refine ⟨u, hu, ?_⟩
      cases q with
      | non => exact .non
      | val q => exact .val (q.mine hP)
      | @own b zs es1 m e rs =>
        have nb : b ≠ a := fun z => by
          subst z
          exact ne (s.rep.own j i _ _ b h hi hu hv)
        exact .own m (by rw [upd_ne nb]; exact e) (rs.mine hP)
  · rcases upd1 j _ h1 with ⟨e1, _⟩ | ⟨n1, h1⟩
    · rcases upd1 k _ h2 with ⟨e2, _⟩ | ⟨n2, h2⟩
      · rw [e1, e2]
      · rw [e1] at h3 ⊢
        exact s.rep.own i k _ _ b hi h2 h3 h4
    · rcases upd1 k _ h2 with ⟨e2, _⟩ | ⟨n2, h2⟩
      · rw [e2] at h4 ⊢
        exact s.rep.own j i _ _ b h1 hi h3 h4
      · exact s.rep.own j k es1 es2 b h1 h2 h3 h4
  · rcases upd1 j _ h1 with ⟨e1, _⟩ | ⟨n1, h1⟩
    · rw [e1] at h2
      exact s.own i ds b hi h2
    · exact s.own j es1 b h1 h2
theorem EvS.putOwn {O : List Addr} {H : Hp} {θ : List Addr} {a : Addr} {o : HO} (h : a ∈ O) : EvS O H θ O (upd H a o) θ :=
  ⟨fun b u e n m => ⟨at_mine h e m, n, m⟩, fun _ _ e => e⟩
theorem nodupA {θ : List Addr} (h : θ.Nodup) {i j : Nat} {x : Addr} (a : θ[i]? = some x) (b : θ[j]? = some x) : i = j := by
  obtain ⟨_, e1⟩ := List.getElem?_eq_some_iff.mp a
  obtain ⟨_, e2⟩ := List.getElem?_eq_some_iff.mp b
  exact (List.getElem_inj h).mp (e1.trans e2.symm)
/-- the store's i-th list is written -/
theorem Sim.put {K : PySem.W.Frag} {P : List Addr} {H : Hp} {θ : List Addr} {S : Sto} {i : Nat} {a : Addr} {ds es : List D} {ys : List V} (s : Sim K cn P H θ S) (hi : S[i]? = some (.lst ds)) (ha : θ[i]? = some a) (r : Reps K cn P H θ ys es) :
    Sim K cn P (upd H a (.lst ys)) θ (S.set i (.lst es)) ∧ Evo H θ (upd H a (.lst ys)) θ := by
  have hm : a ∈ θ := List.mem_of_getElem? ha
  have ev : Evo H θ (upd H a (.lst ys)) θ := ⟨fun b o e n => ⟨at_mine hm e n, n⟩, fun _ _ e => e⟩
  have hil : i < S.length := (List.getElem?_eq_some_iff.mp hi).1
  refine ⟨⟨by simpa using s.len, s.nd, fun q hq => ?_, fun j c hc => ?_⟩, ev⟩
  · obtain ⟨n, o, h⟩ := s.pf q hq
    exact ⟨n, o, (ev.keep q o h n).1⟩
  · by_cases e : j = i
    · subst e
      rw [List.getElem?_set_self hil] at hc
      cases hc
      exact ⟨a, ha, ys, upd_same, r.evo ev⟩
    · rw [List.getElem?_set_ne (Ne.symm e)] at hc
      obtain ⟨b, hb, q⟩ := s.cell j c hc
      have nb : b ≠ a := fun z => by
        subst z
        have h1 := (List.getElem?_eq_some_iff.mp hb).1
        have h2 := (List.getElem?_eq_some_iff.mp ha).1
        have e1 := (List.getElem?_eq_some_iff.mp hb).2
        have e2 := (List.getElem?_eq_some_iff.mp ha).2
        exact e (nodupA s.nd hb ha)
      refine ⟨b, hb, ?_⟩
      cases c with
      | lst zs =>
        obtain ⟨xs, h, rs⟩ := q
        exact ⟨xs, by rw [upd_ne nb]; exact h, rs.evo ev⟩
      | ins c fs zs =>
        obtain ⟨dx, fv, h1, h2, h3, h4, h5, rs⟩ := q
        exact ⟨dx, fv, by rw [upd_ne nb]; exact h1, (ev.keep _ _ h2 h3).1, h3, h4, h5, rs.evo ev⟩
/-- what is done to a list at a name: its own, or the store's -/
def modAt (i : Nat) (k : List D → Option (List D)) (ρ : Rho) (S : Sto) : R Out := match ρ[i]? with
  | some (.own ds) => match k ds with
    | some es => .ok (.next (ρ.set i (.own es))) S
    | none => .stuck
  | some (.val (.obj j)) => match objOf S j with
    | some ds => match k ds with
      | some es => .ok (.next ρ) (S.set j (.lst es))
      | none => .stuck
    | none => .stuck
  | _ => .stuck
/-- the list that a name holds: it is there, and what is put there in its place -/
theorem modAt_ok {K : PySem.W.Frag} {P0 O : List Addr} {H : Hp} {θ : List Addr} {S S' : Sto} {σ : L2.St} {ρ : Rho} {i : Nat} {k : List D → Option (List D)} {o : Out} (s : Stt K cn P0 O H θ S σ ρ) (q : modAt i k ρ S = .ok o S') :
    ∃ a xs ds es, σ[i]? = some (some (.ref a)) ∧ H a = some (.lst xs) ∧ Reps K cn (O ++ P0) H θ xs ds ∧ k ds = some es ∧
      ∀ ys E, Reps K cn (O ++ P0) H θ ys es → PostS K cn P0 O H θ o S' E → E.nx σ (upd H a (.lst ys)) := by
  unfold modAt at q
  split at q
  · rename_i ds hi
    split at q
    · rename_i es he
      cases q
      obtain ⟨v, hv, sr⟩ := s.rep.at_ i _ hi
      cases sr with
      | own m h rs =>
        exact ⟨_, _, ds, es, hv, h, rs, he, fun ys E r p => p O σ _ θ (s.putOwn (xs := ys) hi hv r) (EvS.putOwn (s.own i ds _ hi hv))⟩
    · cases q
  · rename_i j hi
    split at q
    · rename_i ds hj
      split at q
      · rename_i es he
        cases q
        obtain ⟨v, hv, sr⟩ := s.rep.at_ i _ hi
        cases sr with
        | val r =>
          obtain ⟨a, xs, rfl, ha, hx, rs⟩ := (RepB.of r).vobj s.sim (objOf_eq hj)
          refine ⟨a, xs, ds, es, hv, hx, rs, he, fun ys E r p => ?_⟩
          obtain ⟨s2, e2⟩ := s.sim.put (objOf_eq hj) ha r
          exact p O σ _ θ (s.evo s2 e2) e2.s
      · cases q
    · cases q
  · cases q
end
end DL

set_option Elab.async false
set_option linter.all false
set_option maxRecDepth 100000
set_option maxHeartbeats 4000000
set_option autoImplicit false
namespace DL
open PySem PySem.Spec PyProof.Rows L2

/-! ### across a frame's own changes -/
theorem EvS.at3 {P0 O O' : List Addr} {H H' : Hp} {θ θ' : List Addr} (e : EvS O H θ O' H' θ') {a : Addr} {u : HO} (r : H a = some u) (n : a ∉ θ) (p : a ∉ O ++ P0) : H' a = some u ∧ a ∉ θ' ∧ a ∉ O' ++ P0 := by
  have p1 : a ∉ O := fun z => p (List.mem_append_left _ z)
  have p2 : a ∉ P0 := fun z => p (List.mem_append_right _ z)
  obtain ⟨q1, q2, q3⟩ := e.keep a u r n p1
  exact ⟨q1, q2, fun z => (List.mem_append.mp z).elim q3 p2⟩
section
variable {K : PySem.W.Frag} {cn : Nat → Addr} {P0 O O' : List Addr} {H H' : Hp} {θ θ' : List Addr}
mutual
theorem Rep.evs (e : EvS O H θ O' H' θ') : ∀ {v : V} {d : D}, Rep K cn (O ++ P0) H θ v d → Rep K cn (O' ++ P0) H' θ' v d
  | _, _, .non => .non
  | _, _, .bl b => .bl b
  | _, _, .int i => .int i
  | _, _, .str x => .str x
  | _, _, .tup r n p rs => have z := e.at3 r n p; .tup z.1 z.2.1 z.2.2 (Reps.evs e rs)
  | _, _, .tupK k rs => .tupK k (Reps.evs e rs)
  | _, _, .lst r n p rs => have z := e.at3 r n p; .lst z.1 z.2.1 z.2.2 (Reps.evs e rs)
  | _, _, .dic r n p e1 e2 rs => have z := e.at3 r n p; .dic z.1 z.2.1 z.2.2 e1 e2 (Reps.evs e rs)
  | _, _, .ins r n p hx nx px e1 e2 rs => have z := e.at3 r n p; have y := e.at3 hx nx px; .ins z.1 z.2.1 z.2.2 y.1 y.2.1 y.2.2 e1 e2 (Reps.evs e rs)
  | _, _, .obj h => .obj (e.pre _ _ h)
  | _, _, .scr r n p => have z := e.at3 r n p; .scr z.1 z.2.1 z.2.2
  | _, _, .scrK k => .scrK k
theorem Reps.evs (e : EvS O H θ O' H' θ') : ∀ {vs : List V} {ds : List D}, Reps K cn (O ++ P0) H θ vs ds → Reps K cn (O' ++ P0) H' θ' vs ds
  | _, _, .nil => .nil
  | _, _, .cons r rs => .cons (Rep.evs e r) (Reps.evs e rs)
end
theorem not_gv {P : List Addr} {a b : Addr} {θ : List Addr} (n : b ∉ θ) (p : b ∉ a :: P) : b ∉ θ ++ [a] := fun z => (List.mem_append.mp z).elim n fun y => p (by
  have e : b = a := by simpa using y
  rw [e]
  exact List.mem_cons_self)
-- the last thing that was one's own is given to the store
mutual
theorem Rep.give {P : List Addr} {a : Addr} : ∀ {v : V} {d : D}, Rep K cn (a :: P) H θ v d → Rep K cn P H (θ ++ [a]) v d
  | _, _, .non => .non
  | _, _, .bl b => .bl b
  | _, _, .int i => .int i
  | _, _, .str x => .str x
  | _, _, .tup r n p rs => .tup r (not_gv n p) (fun z => p (List.mem_cons_of_mem _ z)) (Reps.give rs)
  | _, _, .tupK k rs => .tupK k (Reps.give rs)
  | _, _, .lst r n p rs => .lst r (not_gv n p) (fun z => p (List.mem_cons_of_mem _ z)) (Reps.give rs)
  | _, _, .dic r n p e1 e2 rs => .dic r (not_gv n p) (fun z => p (List.mem_cons_of_mem _ z)) e1 e2 (Reps.give rs)
  | _, _, .ins r n p hx nx px e1 e2 rs => .ins r (not_gv n p) (fun z => p (List.mem_cons_of_mem _ z)) hx (not_gv nx px) (fun z => px (List.mem_cons_of_mem _ z)) e1 e2 (Reps.give rs)
  | _, _, .obj h => .obj (by rw [List.getElem?_append_left (List.getElem?_eq_some_iff.mp h).1]; exact h)
  | _, _, .scr r n p => .scr r (not_gv n p) (fun z => p (List.mem_cons_of_mem _ z))
  | _, _, .scrK k => .scrK k
theorem Reps.give {P : List Addr} {a : Addr} : ∀ {vs : List V} {ds : List D}, Reps K cn (a :: P) H θ vs ds → Reps K cn P H (θ ++ [a]) vs ds
  | _, _, .nil => .nil
  | _, _, .cons r rs => .cons (Rep.give r) (Reps.give rs)
end
theorem RepE.evz {P O1 : List Addr} {S : Sto} {σ : L2.St} {ρ : Rho} (s : Sim K cn P H θ S) (e : EvS [] H θ O1 H' θ') (r : RepE K cn P H θ σ ρ) : RepE K cn (O1 ++ P) H' θ' σ ρ := by
  refine ⟨r.len, fun i s' h => ?_, r.own⟩
  obtain ⟨v, hv, q⟩ := r.at_ i s' h
  refine ⟨v, hv, ?_⟩
  cases q with
  | non => exact .non
  | val q => exact .val (Rep.evs (O := []) e q)
  | own p h' rs => exact .own (List.mem_append_right _ p) (e.keep _ _ h' (s.pf _ p).1 (by simp)).1 (Reps.evs (O := []) e rs)
theorem Stt.evz {O1 : List Addr} {S S1 : Sto} {σ : L2.St} {ρ : Rho} (h : Stt K cn P0 O H θ S σ ρ) (s : Sim K cn (O1 ++ (O ++ P0)) H' θ' S1) (e : EvS [] H θ O1 H' θ') :
    Stt K cn P0 (O1 ++ O) H' θ' S1 σ ρ ∧ ∀ (j : Nat) (es : List D) (a : Addr), ρ[j]? = some (.own es) → σ[j]? = some (some (.ref a)) → a ∉ O1 := by
  refine ⟨⟨by rw [List.append_assoc]; exact s, by rw [List.append_assoc]; exact h.rep.evz h.sim e, fun i ds a h1 h2 => List.mem_append_right _ (h.own i ds a h1 h2), fun a ha hp => ?_⟩, fun j es a h1 h2 m => ?_⟩
  · rcases List.mem_append.mp ha with z | z
    · obtain ⟨n, o, q⟩ := h.sim.pf a (List.mem_append_right _ hp)
      exact (e.keep a o q n (by simp)).2.2 z
    · exact h.apart a z hp
  · obtain ⟨n, o, q⟩ := h.sim.pf a (List.mem_append_left _ (h.own j es a h1 h2))
    exact (e.keep a o q n (by simp)).2.2 m
theorem EvS.z {O1 : List Addr} {S : Sto} (s : Sim K cn (O ++ P0) H θ S) (e : EvS [] H θ O1 H' θ') : EvS O H θ (O1 ++ O) H' θ' :=
  ⟨fun a o h n m => ⟨(e.keep a o h n (by simp)).1, (e.keep a o h n (by simp)).2.1, fun z => (List.mem_append.mp z).elim (e.keep a o h n (by simp)).2.2 m⟩, e.pre⟩
/-- a name gets a value, or a list of one's own -/
theorem Stt.setZ {S : Sto} {σ : L2.St} {ρ : Rho} {i : Nat} {v : V} {t : Slot} (s : Stt K cn P0 O H θ S σ ρ) (r : SRep K cn (O ++ P0) H θ (some v) t)
    (hown : ∀ (ds : List D) (a : Addr), t = .own ds → v = .ref a → a ∈ O ∧ ∀ (j : Nat) (es : List D), ρ[j]? = some (.own es) → σ[j]? ≠ some (some (.ref a))) :
    Stt K cn P0 O H θ S (σ.set i (some v)) (ρ.set i t) := by
  have hlen := s.rep.len
  have upd1 : ∀ (j : Nat) (u : Slot), (ρ.set i t)[j]? = some u → (j = i ∧ u = t ∧ i < ρ.length) ∨ (j ≠ i ∧ ρ[j]? = some u) := fun j u h => by
    by_cases e : j = i
    · subst e
      by_cases hl : j < ρ.length
      · rw [List.getElem?_set_self hl] at h; cases h; exact .inl ⟨rfl, rfl, hl⟩
      · rw [List.getElem?_eq_none (by simpa using hl)] at h; cases h
    · rw [List.getElem?_set_ne (Ne.symm e)] at h; exact .inr ⟨e, h⟩
  have atI : ∀ (j : Nat), j = i → i < ρ.length → (σ.set i (some v))[j]? = some (some v) := fun j e hl => by
    subst e
    exact List.getElem?_set_self (by omega)
  refine ⟨s.sim, ⟨by simpa using hlen, fun j u h => ?_, fun j k ds es a h1 h2 h3 h4 => ?_⟩, fun j ds a h1 h2 => ?_, s.apart⟩
  · rcases upd1 j u h with ⟨e1, e2, hl⟩ | ⟨ne, h⟩
    · rw [e2]
      exact ⟨some v, atI j e1 hl, r⟩
    · obtain ⟨w, hw, q⟩ := s.rep.at_ j u h
      exact ⟨w, by rw [List.getElem?_set_ne (Ne.symm ne)]; exact hw, q⟩
  · rcases upd1 j _ h1 with ⟨e1, t1, l1⟩ | ⟨n1, g1⟩
    · rcases upd1 k _ h2 with ⟨e2, _, _⟩ | ⟨n2, g2⟩
      · rw [e1, e2]
      · rw [atI j e1 l1] at h3
        rw [List.getElem?_set_ne (Ne.symm n2)] at h4
        exact absurd h4 ((hown ds a t1.symm (Option.some.inj (Option.some.inj h3))).2 k es g2)
    · rw [List.getElem?_set_ne (Ne.symm n1)] at h3
      rcases upd1 k _ h2 with ⟨e2, t2, l2⟩ | ⟨n2, g2⟩
      · rw [atI k e2 l2] at h4
        exact absurd h3 ((hown es a t2.symm (Option.some.inj (Option.some.inj h4))).2 j ds g1)
      · rw [List.getElem?_set_ne (Ne.symm n2)] at h4
        exact s.rep.own j k ds es a g1 g2 h3 h4
  · rcases upd1 j _ h1 with ⟨e1, t1, l1⟩ | ⟨n1, g1⟩
    · rw [atI j e1 l1] at h2
      exact (hown ds a t1.symm (Option.some.inj (Option.some.inj h2))).1
    · rw [List.getElem?_set_ne (Ne.symm n1)] at h2
      exact s.own j ds a g1 h2
end

theorem Sim.sub {K : PySem.W.Frag} {cn : Nat → Addr} {P P' : List Addr} {H : Hp} {θ : List Addr} {S : Sto} (s : Sim K cn P H θ S) (h : ∀ p ∈ P', p ∈ P) : Sim K cn P' H θ S := by
  refine ⟨s.len, s.nd, fun q hq => s.pf q (h q hq), fun i c hc => ?_⟩
  obtain ⟨a, ha, r⟩ := s.cell i c hc
  refine ⟨a, ha, ?_⟩
  cases c with
  | lst ds =>
    obtain ⟨xs, e, rs⟩ := r
    exact ⟨xs, e, rs.less h⟩
  | ins c fs ds =>
    obtain ⟨dx, fv, e1, e2, e3, e4, e5, rs⟩ := r
    exact ⟨dx, fv, e1, e2, e3, fun z => e4 (h _ z), e5, rs.less h⟩
/-! ### expressions that give a value or a new list -/
abbrev DXz := Rho → Sto → R Slot
/-- what came: a value, or a new list, kept among one's own -/
def ZRep (K : PySem.W.Frag) (cn : Nat → Addr) (P O1 : List Addr) (H : Hp) (θ : List Addr) (v : V) (t : Slot) : Prop :=
  SRep K cn (O1 ++ P) H θ (some v) t ∧ t ≠ .non ∧ ∀ (ds : List D) (a : Addr), t = .own ds → v = .ref a → a ∈ O1
def tDZ (K : PySem.W.Frag) (cn : Nat → Addr) (f : DXz) : TE := fun σ H Q => ∃ P θ S ρ t S', Sim K cn P H θ S ∧ RepE K cn P H θ σ ρ ∧ f ρ S = .ok t S' ∧
  ∀ v O1 H' θ', Sim K cn (O1 ++ P) H' θ' S' → EvS [] H θ O1 H' θ' → ZRep K cn P O1 H' θ' v t → Q v H'
structure DZ (X : Cx) (cn : Nat → Addr) (e : Expr) (f : DXz) : Prop where
  pe : PE X e (tDZ X.K cn f)
def zV (f : DX) : DXz := fun ρ S => (f ρ S).bind fun d S1 => .ok (.val d) S1
def zL (f : DXs) : DXz := fun ρ S => (f ρ S).bind fun ds S1 => .ok (.own ds) S1
section
variable {X : Cx} {cn : Nat → Addr} {e : Expr}
theorem Evo.z {H H' : Hp} {θ θ' : List Addr} (e : Evo H θ H' θ') : EvS [] H θ [] H' θ' := ⟨fun a o h n _ => ⟨(e.keep a o h n).1, (e.keep a o h n).2, by simp⟩, e.pre⟩
theorem DE.dz {f : DX} (h : DE X cn e f) : DZ X cn e (zV f) := ⟨h.pe.weak fun σ H Q ⟨P, θ, S, ρ, t, S', s, r, q, p⟩ => by
  obtain ⟨d, S1, q1, q⟩ := R.bind_eq q
  cases q
  exact ⟨P, θ, S, ρ, d, S', s, r, q1, fun v H1 θ1 s1 e1 r1 => p v [] H1 θ1 s1 e1.z ⟨.val r1, nofun, nofun⟩⟩⟩
theorem DF.dz {f : DXs} (h : DF X cn e f) : DZ X cn e (zL f) := ⟨h.pe.weak fun σ H Q ⟨P, θ, S, ρ, t, S', s, r, q, p⟩ => by
  obtain ⟨ds, S1, q1, q⟩ := R.bind_eq q
  cases q
  refine ⟨P, θ, S, ρ, ds, S', s, r, q1, fun xs H1 θ1 a s1 e1 r1 ha => p (.ref a) [a] _ θ1 (s1.mine ha) (e1.z.trans (EvS.newOwn ha)) ⟨.own List.mem_cons_self upd_same ((r1.more ha).evo (Evo.fresh ha)), nofun, fun _ b _ e => ?_⟩⟩
  cases e
  exact List.mem_cons_self⟩
/-- a new list, given to the store -/
def xNew (f : DXz) : DX := fun ρ S => (f ρ S).bind fun t S1 => match t with
  | .own ds => .ok (.obj S1.length) (S1 ++ [.lst ds])
  | _ => .stuck
theorem Sim.give {K : PySem.W.Frag} {P : List Addr} {H : Hp} {θ : List Addr} {S : Sto} {a : Addr} {xs : List V} {ds : List D} (s : Sim K cn (a :: P) H θ S) (hp : a ∉ P) (h : H a = some (.lst xs)) (r : Reps K cn (a :: P) H θ xs ds) :
    Sim K cn P H (θ ++ [a]) (S ++ [.lst ds]) := by
  have hn : a ∉ θ := (s.pf a List.mem_cons_self).1
  refine ⟨by simp [s.len], ?_, fun p m => ?_, fun i c hc => ?_⟩
  · rw [List.nodup_append]
    refine ⟨s.nd, by simp, fun x hx y hy => ?_⟩
    have e : y = a := by simpa using hy
    rw [e]
    exact fun z => hn (z ▸ hx)
  · obtain ⟨n, o, q⟩ := s.pf p (List.mem_cons_of_mem _ m)
    refine ⟨fun z => ?_, o, q⟩
    rcases List.mem_append.mp z with z | z
    · exact n z
    · have e : p = a := by simpa using z
      exact hp (e ▸ m)
  · by_cases hi : i < S.length
    · rw [List.getElem?_append_left hi] at hc
      obtain ⟨b, hb, q⟩ := s.cell i c hc
      refine ⟨b, by rw [List.getElem?_append_left (List.getElem?_eq_some_iff.mp hb).1]; exact hb, ?_⟩
      cases c with
      | lst zs =>
        obtain ⟨ys, h1, rs⟩ := q
        exact ⟨ys, h1, rs.give⟩
      | ins c fs zs =>
        obtain ⟨dx, fv, h1, h2, h3, h4, h5, rs⟩ := q
        exact ⟨dx, fv, h1, h2, not_gv h3 h4, fun z => h4 (List.mem_cons_of_mem _ z), h5, rs.give⟩
    · have hl : i = S.length := by
        have z := (List.getElem?_eq_some_iff.mp hc).1
        simp at z
        omega
      subst hl
      rw [List.getElem?_append_right (Nat.le_refl _)] at hc
      simp at hc
      subst hc
      exact ⟨a, by rw [← s.len, List.getElem?_append_right (Nat.le_refl _)]; simp, xs, h, r.give⟩
theorem DZ.new {f : DXz} (h : DZ X cn e f) : DE X cn e (xNew f) := ⟨h.pe.weak fun σ H Q ⟨P, θ, S, ρ, d, S', s, r, q, p⟩ => by
  obtain ⟨t, S1, q1, q⟩ := R.bind_eq q
  split at q
  · rename_i ds
    cases q
    refine ⟨P, θ, S, ρ, _, S1, s, r, q1, fun v O1 H1 θ1 s1 e1 ⟨z, _, m⟩ => ?_⟩
    cases z with
    | @own a xs _ _ ha rs =>
      have hm := m _ a rfl rfl
      have hP : a ∉ P := fun hp => by
        obtain ⟨n, o, q⟩ := s.pf a hp
        exact (e1.keep a o q n (by simp)).2.2 hm
      have sub : ∀ p ∈ a :: P, p ∈ O1 ++ P := fun p hp => (List.mem_cons.mp hp).elim (fun z => z ▸ List.mem_append_left _ hm) fun z => List.mem_append_right _ z
      have s2 : Sim X.K cn (a :: P) H1 θ1 S1 := s1.sub sub
      refine p _ H1 (θ1 ++ [a]) (s2.give hP ha (rs.less sub)) ⟨fun b o hb nb => ?_, fun i b hb => ?_⟩ (.obj ?_)
      · obtain ⟨k1, k2, k3⟩ := e1.keep b o hb nb (by simp)
        exact ⟨k1, not_gv k2 (fun z => (List.mem_cons.mp z).elim (fun z => k3 (z ▸ hm)) (fun z => by cases z) : b ∉ a :: [])⟩
      · rw [List.getElem?_append_left (List.getElem?_eq_some_iff.mp (e1.pre i b hb)).1]
        exact e1.pre i b hb
      · rw [← s1.len, List.getElem?_append_right (Nat.le_refl _)]
        simp
  · cases q⟩
/-- a new list, as a value -/
def xOfZ (f : DXz) : DX := fun ρ S => (f ρ S).bind fun t S1 => match t with
  | .own ds => .ok (.lst ds) S1
  | .val d => .ok d S1
  | _ => .stuck
theorem DZ.de {f : DXz} (h : DZ X cn e f) : DE X cn e (xOfZ f) := ⟨h.pe.weak fun σ H Q ⟨P, θ, S, ρ, d, S', s, r, q, p⟩ => by
  obtain ⟨t, S1, q1, q⟩ := R.bind_eq q
  refine ⟨P, θ, S, ρ, t, S1, s, r, q1, fun v O1 H1 θ1 s1 e1 ⟨z, _, m⟩ => ?_⟩
  have sub : ∀ p ∈ P, p ∈ O1 ++ P := fun p hp => List.mem_append_right _ hp
  have ev : Evo H θ H1 θ1 := ⟨fun b o hb nb => ⟨(e1.keep b o hb nb (by simp)).1, (e1.keep b o hb nb (by simp)).2.1⟩, e1.pre⟩
  cases z with
  | non => cases q
  | val z =>
    cases q
    exact p _ H1 θ1 (s1.sub sub) ev (z.less sub)
  | @own a xs ds ha hx rs =>
    cases q
    have hm := m _ a rfl rfl
    have hP : a ∉ P := fun hp => by
      obtain ⟨n, o, q⟩ := s.pf a hp
      exact (e1.keep a o q n (by simp)).2.2 hm
    exact p _ H1 θ1 (s1.sub sub) ev (.lst hx (s1.pf a ha).1 hP (rs.less sub))⟩
end
end DL

set_option Elab.async false
set_option linter.all false
set_option maxRecDepth 100000
set_option maxHeartbeats 4000000
set_option autoImplicit false
namespace DL
open PySem PySem.Spec PyProof.Rows L2

/-! ### enumerate of a tuple -/
theorem enumT_meets (c : Addr) (vals : Array Value) (m : Nat) (dd : Option Addr) (sls : Array (Option Value)) :
    Meets (Builtin.«enumerate.__new__» ⟨[.type "enumerate", .ref c], []⟩) (fun _ Post st => st.heap.get? c = some { cls := .type "tuple", dict := dd, data := .seq vals m, slots := sls } ∧
      Post (.ok (.ret (.ref (st.heap.push { cls := .type "tuple_iterator", data := .fields #[.ref c, .int 0 0] }).objs.size)))
        { st with heap := (st.heap.push { cls := .type "tuple_iterator", data := .fields #[.ref c, .int 0 0] }).push { cls := .type "enumerate", data := .fields #[.none, .bool false, .ref st.heap.objs.size, rawInt 0, .none, .none] } }) :=
  .of_wp fun prog w A R st goal => by
    obtain ⟨hp, gs, dr, tk, os⟩ := st
    obtain ⟨hc, goal⟩ := goal
    have subE := sub_enumerate
    have isT : Heap.IsTuple (Shared.heap ⟨hp, gs, dr, tk, os⟩) c vals := ⟨_, hc, rfl, m, rfl⟩
    wp_walk using wpAny_loadPart' hc
    refine wpAny_stack_any fun st => wpAny_pure ?_
    split
    · rename_i d _ _ _ _ _
      cases (d == Value.type "enumerate")
      · wp_walk using wpAny_loadPart' hc, wpAny_pyIter_tuple isT
        exact ⟨_, rfl, goal⟩
      · wp_walk using wpAny_loadPart' hc, wpAny_pyIter_tuple isT
        exact ⟨_, rfl, goal⟩
    · wp_walk using wpAny_loadPart' hc, wpAny_pyIter_tuple isT
      exact ⟨_, rfl, goal⟩
theorem call_enumT {prog : Program} {w : World} {A : Around} {E : Value → Shared → Prop} {s : Shared} {c : Addr} {vals : Array Value} {Q : Value → Shared → Prop} (isT : s.heap.IsTuple c vals)
    (k : ∀ h', IsEnum h' (s.heap.objs.size + 1) s.heap.objs.size 0 .none → h'.IsTupleIter s.heap.objs.size c 0 → h'.objs.size = s.heap.objs.size + 2 →
      (∀ b o, s.heap.get? b = some o → h'.get? b = some o) → Q (.ref (s.heap.objs.size + 1)) { s with heap := h' }) :
    wpAny (model prog w) A (call (.type "enumerate") [.ref c]) Q E s := by
  obtain ⟨⟨cl, dd, dt, sls⟩, got, hcl, m, hd⟩ := isT
  replace hcl : cl = .type "tuple" := hcl
  replace hd : dt = .seq vals m := hd
  subst hcl
  subst hd
  refine callType_new F.called_enumerate (by decide) (F.typeCall_enumerate_1 _) (F.newCall_enumerate_1 _) (fun obj => F.args_object_init_2 obj _) F.entry_enumerate_new (enumT_meets c vals m dd sls) ⟨got, ?_⟩
  have size1 : (s.heap.push { cls := .type "tuple_iterator", data := .fields #[.ref c, .int 0 0] }).objs.size = s.heap.objs.size + 1 := Heap.size_push ..
  show _ ∧ _
  rw [size1]
  have en : IsEnum ((s.heap.push { cls := .type "tuple_iterator", data := .fields #[.ref c, .int 0 0] }).push
      { cls := .type "enumerate", data := .fields #[.none, .bool false, .ref s.heap.objs.size, rawInt 0, .none, .none] }) (s.heap.objs.size + 1) s.heap.objs.size 0 .none := by
    have z := Heap.get?_push_size (s.heap.push { cls := .type "tuple_iterator", data := .fields #[.ref c, .int 0 0] })
      (o := { cls := .type "enumerate", data := .fields #[.none, .bool false, .ref s.heap.objs.size, rawInt 0, .none, .none] }) rfl
    rw [size1] at z
    exact z
  refine ⟨⟨_, en, rfl⟩, k _ en ⟨_, Heap.get?_push_of_some _ (Heap.get?_push_size _ rfl), rfl, rfl⟩ (by rw [Heap.size_push, size1]) fun b o x => Heap.get?_push_of_some _ (Heap.get?_push_of_some _ x)⟩
/-- the tuple at a, each item in a new pair -/
def IteT (K : PySem.W.Frag) (a : Addr) : It :=
  ⟨fun i H => ∃ (xs : List V) (x : V), SqT K H a xs ∧ xs[i]? = some x, fun i H v H' => ∃ T x, v = .ref T ∧ H T = none ∧ H' = upd H T (.tup [.int (i : Nat), x]) ∧ ∀ xs, SqT K H a xs → xs[i]? = some x, fun i H => ∃ xs : List V, SqT K H a xs ∧ xs.length ≤ i⟩
theorem turn_enumT {P : Program} {w : World} {K : PySem.W.Frag} {elts : List Expr} {kk : Nat} {tpos : Pos} (a e it : Addr) :
    Turn P w K (.Tuple elts kk tpos) (IteT K a) [e, it] e (fun i h => (∃ old, IsEnum h e it ((i : Nat) : Int) old) ∧ h.IsTupleIter it a i ∧ e ≠ it) where
  mem := by simp
  obj := fun i h st b hb => by
    obtain ⟨⟨old, he⟩, ⟨o, ho, hc, hd⟩, _⟩ := st
    rcases (by simpa using hb : b = e ∨ b = it) with rfl | rfl
    · exact ⟨_, he, nofun⟩
    · exact ⟨o, ho, fun v q => by rw [hd] at q; cases q⟩
  keep := fun i h h' st k => by
    obtain ⟨⟨old, he⟩, hi, hne⟩ := st
    exact ⟨⟨old, k e (by simp) _ he⟩, hi.at fun o q => k it (by simp) o q, hne⟩
  item := by
    intro X hP hw hK hc i pins s σ H E I hf st hg
    subst hP hw hK
    obtain ⟨⟨old, he⟩, hit, hne⟩ := st
    obtain ⟨xs, x, hq, hx⟩ := hg
    obtain ⟨its, rv, isT, hz⟩ := I.tuple hq
    obtain ⟨u, hu, ru⟩ := rv.get hx
    have le : e < s.heap.objs.size := Heap.lt_size he
    have li : it < s.heap.objs.size := by obtain ⟨_, q, _⟩ := hit; exact Heap.lt_size q
    have a_it : a ≠ it := fun z => by
      obtain ⟨o1, q1, c1, _⟩ := isT
      obtain ⟨o2, q2, c2, _⟩ := hit
      rw [z, q2] at q1
      cases q1
      rw [c2] at c1
      exact absurd c1 (by decide)
    have a_e : e ≠ a := fun z => by
      obtain ⟨o1, q1, c1, _⟩ := isT
      rw [← z] at q1
      have q2 := he.symm.trans q1
      cases q2
      injection c1 with z
      exact absurd z (by decide)
    have isT2 : s.heap.IsTuple a its.toArray := isT
    have dr : Draws X.prog X.w X.A.in1 it [it, a] its.toArray.size (fun i v => its.toArray[i]? = some v) (fun i h => h.IsTupleIter it a i ∧ h.IsTuple a its.toArray) :=
      Draws.tuple (show X.A.in1.handled = none from I.ok.hd hc) it a a_it its.toArray
    have li2 : i < its.toArray.size := by
      have q := (List.getElem?_eq_some_iff.mp hu).1
      simpa using q
    refine wpAny_pyNext_enum_itemD dr he ⟨hit, isT2⟩ li2 hne (by simp [hne, a_e]) fun y h' tk hy ho st' hT hsz hk => ?_
    have ey : y = u := by
      have q : its[i]? = some y := by simpa using hy
      rw [hu] at q
      cases q
      rfl
    subst ey
    refine ⟨_, rfl, wpAny_letOwnedTupleGo_enum (s := { s with heap := h', toks := tk + 1 }) ho fun h'' he' sb => ?_⟩
    have hT2 : h''.get? s.heap.objs.size = some { cls := .type "tuple", data := .seq #[.int i tk, y] } := (sb.2 _ (Nat.ne_of_gt le)).trans hT
    have fresh : ObjOk X.prog X.w (upd H s.heap.objs.size (.tup [.int (i : Nat), x])) h'' s.heap.objs.size (.tup [.int (i : Nat), x]) :=
      ⟨by show 2 ≤ sizeLine; decide, [.int i tk, y], .cons ⟨_, rfl⟩ (.cons ru .nil), ⟨_, hT2, rfl, _, rfl⟩⟩
    have J : Inv X pins σ (upd H s.heap.objs.size (.tup [.int (i : Nat), x])) { s with heap := h'', toks := tk + 1 } :=
      I.turnedNew (ch := [e, it]) (fun b ob hb q => (sb.2 b (fun z => hb (by simp [z]))).trans (hk b ob (fun z => hb (by simp [z])) (fun z => hb (by simp [z])) q)) hf (Nat.le_refl _) fresh
    refine ⟨.ref s.heap.objs.size, _, J, rfl, ⟨_, x, rfl, I.hok.fresh (Nat.le_refl _), rfl, fun ys hy => by rw [I.tuple_inj hy hq]; exact hx⟩, ⟨⟨y, ?_⟩, st'.1.at fun o q => (sb.2 it (Ne.symm hne)).trans q, hne⟩, fun b hb => ?_⟩
    · have e1 : ((i + 1 : Nat) : Int) = (i : Int) + 1 := by omega
      rw [e1]
      exact he'
    · have lb : b < s.heap.objs.size := by
        rcases (by simpa using hb : b = e ∨ b = it) with z | z <;> rw [z] <;> assumption
      rw [upd_ne (Nat.ne_of_lt lb)]
      exact (hf b hb).1
  done := by
    intro X hP hw hK hc i pins s σ H E I hf st hg
    subst hP hw hK
    obtain ⟨⟨old, he⟩, hit, hne⟩ := st
    obtain ⟨xs, hq, hx⟩ := hg
    obtain ⟨its, rv, isT, hz⟩ := I.tuple hq
    obtain ⟨f0, f1, f2, f3, f4, f5⟩ := hf it (by simp)
    have a_it : a ≠ it := fun z => by
      obtain ⟨o1, q1, c1, _⟩ := isT
      obtain ⟨o2, q2, c2, _⟩ := hit
      rw [z, q2] at q1
      cases q1
      rw [c2] at c1
      exact absurd c1 (by decide)
    have isT2 : s.heap.IsTuple a its.toArray := isT
    have none_i : its.toArray[i]? = none := by
      have l := rv.length
      simp
      omega
    have tyE : s.TypeIs (.ref e) "enumerate" := ⟨_, he, rfl⟩
    unfold pyNext
    refine wpAny_bind (wpAny_attempt (wpAny_callSpecial?_slot (name := Str.ofString "__next__") tyE F.slot_enumerate_next
      (wpAny_call_entry F.slot_enumerate_next tyE F.entry_enumerate_next ?_ (F.args_enumerate_next_1 _))))
    show wpAny _ _ (field (.ref e) 2 >>= _) _ _ s
    refine wpAny_bind (wpAny_field he rfl (x := Value.ref it) rfl ?_)
    refine wpAny_bind (wpAny_nextOf_tuple_end (show X.A.in1.handled = none from I.ok.hd hc) hit isT2 none_i fun h' ex eb isS => ?_)
    obtain ⟨o, got, cl⟩ := isS
    refine wpAny_bind (wpAny_isInstance (T := "StopIteration") (b := true) ⟨o, got, cl⟩ isSubtype_stop ?_)
    exact wpAny_pure ⟨rfl, I.turned (t' := s.toks) (fun b o hb q => eb b o hb q) f0 f1 f3 f4 f5⟩
  self := fun A i s Q E st h => by
    obtain ⟨⟨_, he⟩, _⟩ := st
    exact wpAny_pyIter_enum he h

/-! ### what is walked -/
inductive Src where
  | seq (d : D) | enum (d : D) | rng (lo : Int) (n : Nat) | zip (d e : D)
def isT : D → Bool
  | .tup _ => true
  | _ => false
/-- the i-th turn: none: what is walked is not there; some none: the end -/
def srcAt (S : Sto) (src : Src) (i : Nat) : Option (Option D) := match src with
  | .seq d => match seqOf S d with
    | some L => some (L[i]?)
    | none => none
  | .enum d => match seqOf S d with
    | some L => match L[i]? with
      | some x => some (some (.tup [.int (i : Nat), x]))
      | none => some none
    | none => none
  | .rng lo n => if i < n then some (some (.int (lo + (i : Nat)))) else some none
  | .zip d e => match seqOf S d, seqOf S e with
    | some L, some M => match L[i]?, M[i]? with
      | some x, some y => some (some (.tup [x, y]))
      | _, _ => some none
    | _, _ => none
def srcLen (S : Sto) : Src → Nat
  | .seq d => ((seqOf S d).getD []).length
  | .enum d => ((seqOf S d).getD []).length
  | .rng _ n => n
  | .zip d _ => ((seqOf S d).getD []).length
/-- no more turns than a list may have items -/
def srcSmall : Src → Bool
  | .seq (.lst _) => true
  | .seq (.tup _) => true
  | .enum (.lst _) => true
  | .enum (.tup _) => true
  | .rng _ n => fits n
  | _ => false
def RepX (b : Bool) (K : PySem.W.Frag) (cn : Nat → Addr) (P : List Addr) (H : Hp) (θ : List Addr) (v : V) (d : D) : Prop := match b with
  | true => RepB K cn P H θ v d
  | false => Rep K cn P H θ v d
def ItOk (b : Bool) (K : PySem.W.Frag) (cn : Nat → Addr) (P : List Addr) (H : Hp) (θ : List Addr) (J : It) : Src → Prop
  | .seq d => ∃ a, RepX b K cn P H θ (.ref a) d ∧ (∀ L, (d = .lst L ∨ d = .tup L) → L.length ≤ sizeLine) ∧ ((isT d = true ∧ J = Itt K a) ∨ (isT d = false ∧ J = Itl K a))
  | .enum d => ∃ a, RepX b K cn P H θ (.ref a) d ∧ (∀ L, (d = .lst L ∨ d = .tup L) → L.length ≤ sizeLine) ∧ ((isT d = true ∧ J = IteT K a) ∨ (isT d = false ∧ J = Ite K a))
  | .rng lo n => J = Itr lo n
  | .zip d e => ∃ a1 a2, RepX b K cn P H θ (.ref a1) d ∧ RepX b K cn P H θ (.ref a2) e ∧ ((isT d = true ∧ isT e = true ∧ J = RZ.ItzT K a1 a2) ∨ (isT d = false ∧ isT e = false ∧ J = Itz K a1 a2))
section
variable {K : PySem.W.Frag} {cn : Nat → Addr} {P : List Addr} {H H' : Hp} {θ θ' : List Addr} {S : Sto} {b : Bool} {J : It} {src : Src}
theorem RepX.toB {v : V} {d : D} (r : RepX b K cn P H θ v d) : RepB K cn P H θ v d := by
  cases b with
  | true => exact r
  | false => exact .of r
theorem RepX.evo {v : V} {d : D} (r : RepX b K cn P H θ v d) (e : Evo H θ H' θ') : RepX b K cn P H' θ' v d := by
  cases b with
  | true => exact RepB.evo e r
  | false => exact Rep.evo e r
theorem ItOk.evo (h : ItOk b K cn P H θ J src) (e : Evo H θ H' θ') : ItOk b K cn P H' θ' J src := by
  cases src with
  | seq d => obtain ⟨a, r, z⟩ := h; exact ⟨a, RepX.evo r e, z⟩
  | enum d => obtain ⟨a, r, z⟩ := h; exact ⟨a, RepX.evo r e, z⟩
  | rng lo n => exact h
  | zip d d2 => obtain ⟨a, a2, r, r2, z⟩ := h; exact ⟨a, a2, RepX.evo r e, RepX.evo r2 e, z⟩
theorem ItOk.evs {P0 O O' : List Addr} (h : ItOk false K cn (O ++ P0) H θ J src) (e : EvS O H θ O' H' θ') : ItOk false K cn (O' ++ P0) H' θ' J src := by
  cases src with
  | seq d => obtain ⟨a, r, z⟩ := h; exact ⟨a, Rep.evs e r, z⟩
  | enum d => obtain ⟨a, r, z⟩ := h; exact ⟨a, Rep.evs e r, z⟩
  | rng lo n => exact h
  | zip d d2 => obtain ⟨a, a2, r, r2, z⟩ := h; exact ⟨a, a2, Rep.evs e r, Rep.evs e r2, z⟩
/-- its items, by the kind -/
theorem seqT_rep {d : D} {L : List D} {x : V} (r : RepB K cn P H θ x d) (t : isT d = true) (e : seqOf S d = some L) : ∃ a xs, x = .ref a ∧ SqT K H a xs ∧ Reps K cn P H θ xs L := by
  cases d with
  | tup ds => cases e; exact r.vtup
  | _ => cases t
theorem seqL_rep {d : D} {L : List D} {x : V} (s : Sim K cn P H θ S) (r : RepB K cn P H θ x d) (t : isT d = false) (e : seqOf S d = some L) : ∃ a xs, x = .ref a ∧ H a = some (.lst xs) ∧ Reps K cn P H θ xs L := by
  cases d with
  | tup ds => cases t
  | lst ds => cases e; exact r.vlst
  | obj i =>
    obtain ⟨a, xs, e1, _, e2, rs⟩ := r.vobj s (objOf_eq e)
    exact ⟨a, xs, e1, e2, rs⟩
  | _ => cases e
theorem Reps.get_none {xs : List V} {L : List D} {i : Nat} (r : Reps K cn P H θ xs L) (e : L[i]? = none) : xs.length ≤ i := by
  rw [r.length]
  exact List.getElem?_eq_none_iff.mp e
theorem ItOk.stop (h : ItOk b K cn P H θ J src) (s : Sim K cn P H θ S) {i : Nat} (e : srcAt S src i = some none) : J.stop i H := by
  cases src with
  | seq d =>
    obtain ⟨a, r, _, z⟩ := h
    simp only [srcAt] at e
    split at e
    · rename_i L hL
      have e2 : L[i]? = none := Option.some.inj e
      rcases z with ⟨t, rfl⟩ | ⟨t, rfl⟩
      · obtain ⟨_, xs, e3, q, rs⟩ := seqT_rep (RepX.toB r) t hL
        cases e3
        exact ⟨xs, q, rs.get_none e2⟩
      · obtain ⟨_, xs, e3, q, rs⟩ := seqL_rep s (RepX.toB r) t hL
        cases e3
        exact ⟨xs, .of q, rs.get_none e2⟩
    · cases e
  | enum d =>
    obtain ⟨a, r, _, z⟩ := h
    simp only [srcAt] at e
    split at e
    · rename_i L hL
      have e2 : L[i]? = none := by
        cases q : L[i]? with
        | none => rfl
        | some x => rw [q] at e; cases e
      rcases z with ⟨t, rfl⟩ | ⟨t, rfl⟩
      · obtain ⟨_, xs, e3, q, rs⟩ := seqT_rep (RepX.toB r) t hL
        cases e3
        exact ⟨xs, q, rs.get_none e2⟩
      · obtain ⟨_, xs, e3, q, rs⟩ := seqL_rep s (RepX.toB r) t hL
        cases e3
        exact ⟨xs, .of q, rs.get_none e2⟩
    · cases e
  | rng lo n =>
    obtain rfl : J = Itr lo n := h
    simp only [srcAt] at e
    split at e
    · cases e
    · show n ≤ i
      omega
  | zip d d2 =>
    obtain ⟨a, a2, r, r2, z⟩ := h
    simp only [srcAt] at e
    split at e
    · rename_i L M hL hM
      have e2 : L[i]? = none ∨ M[i]? = none := by
        cases q : L[i]? with
        | none => exact .inl rfl
        | some x => cases q2 : M[i]? with
          | none => exact .inr rfl
          | some y => rw [q, q2] at e; cases e
      rcases z with ⟨t, t2, rfl⟩ | ⟨t, t2, rfl⟩
      · obtain ⟨_, xs, e3, q, rs⟩ := seqT_rep (RepX.toB r) t hL
        obtain ⟨_, ys, e4, q', rs'⟩ := seqT_rep (RepX.toB r2) t2 hM
        cases e3
        cases e4
        exact ⟨xs, ys, q, q', e2.imp rs.get_none rs'.get_none⟩
      · obtain ⟨_, xs, e3, q, rs⟩ := seqL_rep s (RepX.toB r) t hL
        obtain ⟨_, ys, e4, q', rs'⟩ := seqL_rep s (RepX.toB r2) t2 hM
        cases e3
        cases e4
        exact ⟨xs, ys, .of q, .of q', e2.imp rs.get_none rs'.get_none⟩
    · cases e
theorem pair_rep {T : Addr} {v w : V} {d e : D} (s : Sim K cn P H θ S) (h : H T = none) (r : Rep K cn P H θ v d) (r2 : Rep K cn P H θ w e) :
    Sim K cn P (upd H T (.tup [v, w])) θ S ∧ Evo H θ (upd H T (.tup [v, w])) θ ∧ Rep K cn P (upd H T (.tup [v, w])) θ (.ref T) (.tup [d, e]) :=
  ⟨s.fresh h, Evo.fresh h, .tup upd_same (s.free h).1 (s.free h).2 (.cons (r.evo (Evo.fresh h)) (.cons (r2.evo (Evo.fresh h)) .nil))⟩
theorem ItOk.turn (h : ItOk b K cn P H θ J src) (s : Sim K cn P H θ S) {i : Nat} {d : D} (e : srcAt S src i = some (some d)) :
    J.go i H ∧ ∀ v H', J.yld i H v H' → Sim K cn P H' θ S ∧ Evo H θ H' θ ∧ Rep K cn P H' θ v d := by
  cases src with
  | seq d0 =>
    obtain ⟨a, r, _, z⟩ := h
    simp only [srcAt] at e
    split at e
    · rename_i L hL
      have e2 : L[i]? = some d := Option.some.inj e
      rcases z with ⟨t, rfl⟩ | ⟨t, rfl⟩
      · obtain ⟨_, xs, e3, q, rs⟩ := seqT_rep (RepX.toB r) t hL
        cases e3
        obtain ⟨x, hx, rx⟩ := rs.get e2
        refine ⟨⟨xs, x, q, hx⟩, fun v H' hy => ?_⟩
        obtain ⟨rfl, y⟩ := hy
        have z := (y xs q).symm.trans hx
        cases z
        exact ⟨s, .refl, rx⟩
      · obtain ⟨_, xs, e3, q, rs⟩ := seqL_rep s (RepX.toB r) t hL
        cases e3
        obtain ⟨x, hx, rx⟩ := rs.get e2
        refine ⟨⟨xs, x, .of q, hx⟩, fun v H' hy => ?_⟩
        obtain ⟨rfl, y⟩ := hy
        have z := (y xs (.of q)).symm.trans hx
        cases z
        exact ⟨s, .refl, rx⟩
    · cases e
  | enum d0 =>
    obtain ⟨a, r, _, z⟩ := h
    simp only [srcAt] at e
    split at e
    · rename_i L hL
      split at e
      · rename_i y hy0
        cases e
        rcases z with ⟨t, rfl⟩ | ⟨t, rfl⟩
        · obtain ⟨_, xs, e3, q, rs⟩ := seqT_rep (RepX.toB r) t hL
          cases e3
          obtain ⟨x, hx, rx⟩ := rs.get hy0
          refine ⟨⟨xs, x, q, hx⟩, fun v H' hy => ?_⟩
          obtain ⟨T, x2, rfl, hn, rfl, y⟩ := hy
          have z := (y xs q).symm.trans hx
          cases z
          exact pair_rep s hn (.int _) rx
        · obtain ⟨_, xs, e3, q, rs⟩ := seqL_rep s (RepX.toB r) t hL
          cases e3
          obtain ⟨x, hx, rx⟩ := rs.get hy0
          refine ⟨⟨xs, x, .of q, hx⟩, fun v H' hy => ?_⟩
          obtain ⟨T, x2, rfl, hn, rfl, y⟩ := hy
          have z := (y xs (.of q)).symm.trans hx
          cases z
          exact pair_rep s hn (.int _) rx
      · cases e
    · cases e
  | rng lo n =>
    obtain rfl : J = Itr lo n := h
    simp only [srcAt] at e
    split at e
    · cases e
      refine ⟨by assumption, fun v H' hy => ?_⟩
      obtain ⟨rfl, rfl⟩ := hy
      exact ⟨s, .refl, .int _⟩
    · cases e
  | zip d0 d2 =>
    obtain ⟨a, a2, r, r2, z⟩ := h
    simp only [srcAt] at e
    split at e
    · rename_i L M hL hM
      split at e
      · rename_i y1 y2 h1 h2
        cases e
        rcases z with ⟨t, t2, rfl⟩ | ⟨t, t2, rfl⟩
        · obtain ⟨_, xs, e3, q, rs⟩ := seqT_rep (RepX.toB r) t hL
          obtain ⟨_, ys, e4, q', rs'⟩ := seqT_rep (RepX.toB r2) t2 hM
          cases e3
          cases e4
          obtain ⟨x, hx, rx⟩ := rs.get h1
          obtain ⟨y, hy, ry⟩ := rs'.get h2
          refine ⟨⟨xs, ys, x, y, q, q', hx, hy⟩, fun v H' hz => ?_⟩
          obtain ⟨T, x2, y2, rfl, hn, rfl, g1, g2⟩ := hz
          have z1 := (g1 xs q).symm.trans hx
          have z2 := (g2 ys q').symm.trans hy
          cases z1
          cases z2
          exact pair_rep s hn rx ry
        · obtain ⟨_, xs, e3, q, rs⟩ := seqL_rep s (RepX.toB r) t hL
          obtain ⟨_, ys, e4, q', rs'⟩ := seqL_rep s (RepX.toB r2) t2 hM
          cases e3
          cases e4
          obtain ⟨x, hx, rx⟩ := rs.get h1
          obtain ⟨y, hy, ry⟩ := rs'.get h2
          refine ⟨⟨xs, ys, x, y, .of q, .of q', hx, hy⟩, fun v H' hz => ?_⟩
          obtain ⟨T, x2, y2, rfl, hn, rfl, g1, g2⟩ := hz
          have z1 := (g1 xs (.of q)).symm.trans hx
          have z2 := (g2 ys (.of q')).symm.trans hy
          cases z1
          cases z2
          exact pair_rep s hn rx ry
      · cases e
    · cases e
theorem ItOk.small (h : ItOk b K cn P H θ J src) (t : srcSmall src = true) {i : Nat} {d : D} (e : srcAt S src i = some (some d)) : i < sizeLine := by
  have go : ∀ (d0 : D) (L : List D), (∀ L, (d0 = .lst L ∨ d0 = .tup L) → L.length ≤ sizeLine) → (∃ zs, d0 = .lst zs ∨ d0 = .tup zs) → seqOf S d0 = some L → i < L.length → i < sizeLine := fun d0 L hs ⟨zs, hz⟩ hL hi => by
    rcases hz with rfl | rfl
    · cases hL; exact Nat.lt_of_lt_of_le hi (hs L (.inl rfl))
    · cases hL; exact Nat.lt_of_lt_of_le hi (hs L (.inr rfl))
  cases src with
  | seq d0 =>
    obtain ⟨a, r, hs, _⟩ := h
    have k : ∃ zs, d0 = .lst zs ∨ d0 = .tup zs := by
      cases d0 with
      | lst zs => exact ⟨zs, .inl rfl⟩
      | tup zs => exact ⟨zs, .inr rfl⟩
      | _ => cases t
    simp only [srcAt] at e
    split at e
    · rename_i L hL
      exact go d0 L hs k hL (List.getElem?_eq_some_iff.mp (Option.some.inj e)).1
    · cases e
  | enum d0 =>
    obtain ⟨a, r, hs, _⟩ := h
    have k : ∃ zs, d0 = .lst zs ∨ d0 = .tup zs := by
      cases d0 with
      | lst zs => exact ⟨zs, .inl rfl⟩
      | tup zs => exact ⟨zs, .inr rfl⟩
      | _ => cases t
    simp only [srcAt] at e
    split at e
    · rename_i L hL
      split at e
      · rename_i y hy
        exact go d0 L hs k hL (List.getElem?_eq_some_iff.mp hy).1
      · cases e
    · cases e
  | rng lo n =>
    simp only [srcAt] at e
    split at e
    · have z := fits_ok (n := n) t
      omega
    · cases e
  | zip d0 d2 => cases t
end
end DL

set_option Elab.async false
set_option linter.all false
set_option maxRecDepth 100000
set_option maxHeartbeats 4000000
set_option autoImplicit false
namespace DL
open PySem PySem.Spec PyProof.Rows L2

theorem _root_.L2.PI.weak {X : Cx} {tg e : Expr} {t t' : TI} (h : PI X tg e t) (i : ∀ σ H Q, t' σ H Q → t σ H Q) : PI X tg e t' := ⟨fun pins s σ H Q I hw => h.run pins s σ H Q I (i _ _ _ hw)⟩
theorem _root_.L2.PG.weak {X : Cx} {tg : Expr} {t t' : TG} (h : PG X tg t) (i : ∀ v σ H Q, t' v σ H Q → t v σ H Q) : PG X tg t' := ⟨fun pins s σ H v u Q I r hw => h.run pins s σ H v u Q I r (i _ _ _ _ hw)⟩
theorem _root_.L2.PGs.weak {X : Cx} {tgs : List Expr} {t t' : TGs} (h : PGs X tgs t) (i : ∀ v σ H Q, t' v σ H Q → t v σ H Q) : PGs X tgs t' := ⟨fun pins s σ H v u Q I r hw => h.run pins s σ H v u Q I r (i _ _ _ _ hw)⟩
/-! ### what a loop walks: rules -/
def tDY (b : Bool) (K : PySem.W.Frag) (cn : Nat → Addr) (f : DX) : TE := fun σ H Q => ∃ P θ S ρ d S', Sim K cn P H θ S ∧ RepE K cn P H θ σ ρ ∧ f ρ S = .ok d S' ∧
  ∀ v H' θ', Sim K cn P H' θ' S' → Evo H θ H' θ' → RepX b K cn P H' θ' v d → Q v H'
structure DY (b : Bool) (X : Cx) (cn : Nat → Addr) (e : Expr) (f : DX) : Prop where
  pe : PE X e (tDY b X.K cn f)
def tDI (b : Bool) (K : PySem.W.Frag) (cn : Nat → Addr) (f : Rho → Sto → R Src) : TI := fun σ H G => ∃ P θ S ρ src S', Sim K cn P H θ S ∧ RepE K cn P H θ σ ρ ∧ f ρ S = .ok src S' ∧
  ∀ J H' θ', Sim K cn P H' θ' S' → Evo H θ H' θ' → ItOk b K cn P H' θ' J src → G J H'
structure DI (b : Bool) (X : Cx) (cn : Nat → Addr) (tg e : Expr) (f : Rho → Sto → R Src) : Prop where
  pi : PI X tg e (tDI b X.K cn f)
section
variable {X : Cx} {cn : Nat → Addr} {e tg : Expr} {b : Bool}
theorem DE.dy {f : DX} (h : DE X cn e f) : DY false X cn e f := ⟨h.pe⟩
theorem DB.dy {f : DX} (h : DB X cn e f) : DY true X cn e f := ⟨h.pe⟩
def iSeq (f : DX) : Rho → Sto → R Src := fun ρ S => (f ρ S).bind fun d S1 => match seqOf S1 d with
  | some _ => .ok (.seq d) S1
  | none => .stuck
def iEnu (f : DX) : Rho → Sto → R Src := fun ρ S => (f ρ S).bind fun d S1 => match seqOf S1 d with
  | some _ => .ok (.enum d) S1
  | none => .stuck
theorem len_of {K : PySem.W.Frag} {P : List Addr} {H : Hp} {θ : List Addr} {d : D} {L M : List D} {S : Sto} {xs : List V} (hL : seqOf S d = some L) (rs : Reps K cn P H θ xs L) (hz : xs.length ≤ sizeLine) (h : d = .lst M ∨ d = .tup M) : M.length ≤ sizeLine := by
  rcases h with rfl | rfl
  · cases hL; rw [← rs.length]; exact hz
  · cases hL; rw [← rs.length]; exact hz
theorem di_seq {f : DX} (h : DY b X cn e f) : DI b X cn tg e (iSeq f) := by
  refine ⟨⟨fun pins s σ H G I hw => ?_⟩⟩
  obtain ⟨P, θ, S, ρ, src, S', sm, re, q, p⟩ := hw
  obtain ⟨d, S1, q1, q⟩ := R.bind_eq q
  split at q
  · rename_i L hL
    cases q
    refine thn (h.pe.run pins s σ H (fun x H1 => ∃ θ1, Sim X.K cn P H1 θ1 S' ∧ Evo H θ H1 θ1 ∧ RepX b X.K cn P H1 θ1 x d) I ⟨P, θ, S, ρ, d, S', sm, re, q1, fun v H1 θ1 s1 e1 r1 => ⟨θ1, s1, e1, r1⟩⟩) fun v s1 ⟨x, H1, I1, r1, θ1, sm1, ev1, rx⟩ => ?_
    cases t : isT d with
    | true =>
      obtain ⟨a, xs, rfl, hq, rs⟩ := seqT_rep (RepX.toB rx) t hL
      cases r1
      obtain ⟨its, rv, isTp, hz⟩ := I1.tuple hq
      refine wpAny_pyIter_tuple (show s1.heap.IsTuple a its.toArray from isTp) ⟨s1.heap.objs.size, [s1.heap.objs.size], _, Itt X.K a, H1, rfl, I1.kept (t' := s1.toks) fun b o e => Heap.get?_push_of_some _ e, turn_tuple a _, ⟨_, Heap.get?_push_size _ rfl, rfl, rfl⟩, fun c hc => ?_, p _ H1 θ1 sm1 ev1 ⟨a, rx, fun M hM => len_of hL rs hz hM, .inl ⟨t, rfl⟩⟩⟩
      rw [show c = s1.heap.objs.size by simpa using hc]
      exact I1.fpOk (Nat.le_refl _) (I1.hok.fresh (Nat.le_refl _))
    | false =>
      obtain ⟨a, xs, rfl, hq, rs⟩ := seqL_rep sm1 (RepX.toB rx) t hL
      cases r1
      obtain ⟨its, rv, isLp, hz⟩ := I1.list (SqL.of hq)
      refine wpAny_pyIter_list isLp.isList ⟨s1.heap.objs.size, [s1.heap.objs.size], _, Itl X.K a, H1, rfl, I1.kept (t' := s1.toks) fun b o e => Heap.get?_push_of_some _ e, turn_list a _, ⟨_, Heap.get?_push_size _ rfl, rfl, rfl⟩, fun c hc => ?_, p _ H1 θ1 sm1 ev1 ⟨a, rx, fun M hM => len_of hL rs hz hM, .inr ⟨t, rfl⟩⟩⟩
      rw [show c = s1.heap.objs.size by simpa using hc]
      exact I1.fpOk (Nat.le_refl _) (I1.hok.fresh (Nat.le_refl _))
  · cases q
theorem di_enum {f : DX} {p0 pos tpos : Pos} {elts : List Expr} {kk : Nat} (hm : X.mg "enumerate" = none) (h : DY b X cn e f) (hg : Gl X "enumerate" := by rfl) (hs : starEach [e] X.env = [(false, eval e X.env)] := by rfl) :
    DI b X cn (.Tuple elts kk tpos) (.Call (.Name "enumerate" p0) [e] [] pos) (iEnu f) := by
  refine ⟨⟨fun pins s σ H G I hw => ?_⟩⟩
  obtain ⟨P, θ, S, ρ, src, S', sm, re, q, p⟩ := hw
  obtain ⟨d, S1, q1, q⟩ := R.bind_eq q
  split at q
  · rename_i L hL
    cases q
    refine Call_ (ld_blt I hg hm boot_enumerate (PyProof.Rows.callWith_type1 (thn ((pa_cons h.pe pa_nil hs).run pos pins s σ H (fun vs H1 => ∃ x θ1, vs = [x] ∧ Sim X.K cn P H1 θ1 S' ∧ Evo H θ H1 θ1 ∧ RepX b X.K cn P H1 θ1 x d) I
      ⟨P, θ, S, ρ, d, S', sm, re, q1, fun v H1 θ1 s1 e1 r1 => ⟨v, θ1, rfl, s1, e1, r1⟩⟩) fun us s1 ⟨vs, H1, I1, r1, x, θ1, ex, sm1, ev1, rx⟩ => ?_) hs rfl))
    subst ex
    obtain ⟨u, rfl, ru⟩ := r1.one
    have fresh2 : ∀ c ∈ [s1.heap.objs.size + 1, s1.heap.objs.size], FpOk X pins H1 c := fun c hc => by
      have hle : s1.heap.objs.size ≤ c := by
        rcases (by simpa using hc : c = s1.heap.objs.size + 1 ∨ c = s1.heap.objs.size) with z | z
        · rw [z]; exact Nat.le_succ _
        · rw [z]; exact Nat.le_refl _
      exact I1.fpOk hle (I1.hok.fresh hle)
    cases t : isT d with
    | true =>
      obtain ⟨a, xs, rfl, hq, rs⟩ := seqT_rep (RepX.toB rx) t hL
      cases ru
      obtain ⟨its, rv, isTp, hz⟩ := I1.tuple hq
      refine call_enumT (show s1.heap.IsTuple a its.toArray from isTp) fun h' he hit hsz hk => wpAny_pyIter_enum he ?_
      exact ⟨s1.heap.objs.size + 1, [s1.heap.objs.size + 1, s1.heap.objs.size], _, IteT X.K a, H1, rfl, I1.kept (t' := s1.toks) hk, turn_enumT a (s1.heap.objs.size + 1) s1.heap.objs.size, ⟨⟨.none, he⟩, hit, Nat.succ_ne_self _⟩, fresh2,
        p _ H1 θ1 sm1 ev1 ⟨a, rx, fun M hM => len_of hL rs hz hM, .inl ⟨t, rfl⟩⟩⟩
    | false =>
      obtain ⟨a, xs, rfl, hq, rs⟩ := seqL_rep sm1 (RepX.toB rx) t hL
      cases ru
      obtain ⟨its, rv, isLp, hz⟩ := I1.list (SqL.of hq)
      refine call_enumerate_list isLp.isList fun h' he hit hsz hk => wpAny_pyIter_enum he ?_
      exact ⟨s1.heap.objs.size + 1, [s1.heap.objs.size + 1, s1.heap.objs.size], _, Ite X.K a, H1, rfl, I1.kept (t' := s1.toks) hk, turn_enum a (s1.heap.objs.size + 1) s1.heap.objs.size, ⟨⟨.none, he⟩, hit, Nat.succ_ne_self _⟩, fresh2,
        p _ H1 θ1 sm1 ev1 ⟨a, rx, fun M hM => len_of hL rs hz hM, .inr ⟨t, rfl⟩⟩⟩
  · cases q
def iRg1 (f : DX) : Rho → Sto → R Src := fun ρ S => (f ρ S).bind fun d S1 => match d with
  | .int j => if lt62 j then .ok (.rng 0 j.toNat) S1 else .stuck
  | _ => .stuck
def iRg2 (f g : DX) : Rho → Sto → R Src := fun ρ S => (f ρ S).bind fun d S1 => (g ρ S1).bind fun d2 S2 => match d, d2 with
  | .int i, .int j => if lt62 i && lt62 j then .ok (.rng i (j - i).toNat) S2 else .stuck
  | _, _ => .stuck
theorem di_range1 {f : DX} {p0 pos : Pos} (hm : X.mg "range" = none) (h : DE X cn e f) (hg : Gl X "range" := by rfl) (hs : starEach [e] X.env = [(false, eval e X.env)] := by rfl) :
    DI b X cn tg (.Call (.Name "range" p0) [e] [] pos) (iRg1 f) :=
  ⟨(pi_range1 hg hm (pa_cons h.pe pa_nil hs) hs).weak fun σ H G ⟨P, θ, S, ρ, src, S', sm, re, q, p⟩ => by
    obtain ⟨d, S1, q1, q⟩ := R.bind_eq q
    refine ⟨P, θ, S, ρ, d, S1, sm, re, q1, fun v H1 θ1 s1 e1 r1 => ?_⟩
    split at q
    · split at q
      · rename_i j hj
        cases q
        obtain ⟨h1, h2⟩ := lt62_ok hj
        obtain rfl := r1.vint
        exact ⟨j, rfl, h1, h2, p _ H1 θ1 s1 e1 rfl⟩
      · cases q
    · cases q⟩
theorem di_range2 {a : Expr} {f g : DX} {p0 pos : Pos} (hm : X.mg "range" = none) (ha : DE X cn a f) (h : DE X cn e g) (hg : Gl X "range" := by rfl) (hs : starEach [a, e] X.env = [(false, eval a X.env), (false, eval e X.env)] := by rfl) (hs2 : starEach [e] X.env = [(false, eval e X.env)] := by rfl) :
    DI b X cn tg (.Call (.Name "range" p0) [a, e] [] pos) (iRg2 f g) :=
  ⟨(pi_range2 hg hm (pa_cons ha.pe (pa_cons h.pe pa_nil hs2) (by rw [hs, hs2])) hs hs2).weak fun σ H G ⟨P, θ, S, ρ, src, S', sm, re, q, p⟩ => by
    obtain ⟨d, S1, q1, q⟩ := R.bind_eq q
    obtain ⟨d2, S2, q2, q⟩ := R.bind_eq q
    refine ⟨P, θ, S, ρ, d, S1, sm, re, q1, fun v H1 θ1 s1 e1 r1 => ?_⟩
    refine ⟨P, θ1, S1, ρ, d2, S2, s1, re.evo sm e1, q2, fun w H2 θ2 s2 e2 r2 => ?_⟩
    split at q
    · rename_i i j _
      split at q
      · rename_i hj
        cases q
        obtain ⟨h1, h2⟩ := Bool.and_eq_true_iff.mp hj
        obtain ⟨h11, h12⟩ := lt62_ok h1
        obtain ⟨h21, h22⟩ := lt62_ok h2
        obtain rfl := r1.vint
        obtain rfl := r2.vint
        exact ⟨i, j, rfl, ⟨h11, h12, h21, h22⟩, p _ H2 θ2 s2 (e1.trans e2) rfl⟩
      · cases q
    · cases q⟩
def iZip (f g : DX) : Rho → Sto → R Src := fun ρ S => (f ρ S).bind fun d S1 => (g ρ S1).bind fun d2 S2 => match seqOf S2 d, seqOf S2 d2 with
  | some _, some _ => if isT d == isT d2 then .ok (.zip d d2) S2 else .stuck
  | _, _ => .stuck
theorem di_zip {a : Expr} {f g : DX} {p0 pos tpos : Pos} {elts : List Expr} {kk : Nat} (hm : X.mg "zip" = none) (ha : DY b X cn a f) (h : DY b X cn e g) (hg : Gl X "zip" := by rfl) (hs : starEach [a, e] X.env = (false, eval a X.env) :: starEach [e] X.env := by rfl)
    (hpl : (backTo pos (starEach [e] X.env)).any (·.1) = false := by rfl) (hs2 : starEach [e] X.env = [(false, eval e X.env)] := by rfl) :
    DI b X cn (.Tuple elts kk tpos) (.Call (.Name "zip" p0) [a, e] [] pos) (iZip f g) :=
  ⟨(RZ.pi_zipA hg hm (pa_cons ha.pe (pa_cons h.pe pa_nil hs2) hs) hs hpl).weak fun σ H G ⟨P, θ, S, ρ, src, S', sm, re, q, p⟩ => by
    obtain ⟨d, S1, q1, q⟩ := R.bind_eq q
    obtain ⟨d2, S2, q2, q⟩ := R.bind_eq q
    refine ⟨P, θ, S, ρ, d, S1, sm, re, q1, fun v H1 θ1 s1 e1 r1 => ?_⟩
    refine ⟨P, θ1, S1, ρ, d2, S2, s1, re.evo sm e1, q2, fun w H2 θ2 s2 e2 r2 => ?_⟩
    split at q
    · rename_i L M hL hM
      split at q
      · rename_i ht
        cases q
        have r1' := RepX.evo r1 e2
        have tt : isT d = isT d2 := by simpa using ht
        cases t : isT d with
        | true =>
          obtain ⟨a1, xs, rfl, hq, rs⟩ := seqT_rep (RepX.toB r1') t hL
          obtain ⟨a2, ys, rfl, hq2, rs2⟩ := seqT_rep (RepX.toB r2) (tt ▸ t) hM
          exact ⟨a1, a2, xs, ys, rfl, .inr ⟨hq, hq2, p _ H2 θ2 s2 (e1.trans e2) ⟨a1, a2, r1', r2, .inl ⟨t, tt ▸ t, rfl⟩⟩⟩⟩
        | false =>
          obtain ⟨a1, xs, rfl, hq, rs⟩ := seqL_rep s2 (RepX.toB r1') t hL
          obtain ⟨a2, ys, rfl, hq2, rs2⟩ := seqL_rep s2 (RepX.toB r2) (tt ▸ t) hM
          exact ⟨a1, a2, xs, ys, rfl, .inl ⟨.of hq, .of hq2, p _ H2 θ2 s2 (e1.trans e2) ⟨a1, a2, r1', r2, .inr ⟨t, tt ▸ t, rfl⟩⟩⟩⟩
      · cases q
    · cases q⟩

/-! ### targets -/
abbrev TgF := D → Rho → Option Rho
abbrev TgsF := List D → Rho → Option Rho
def tDG (K : PySem.W.Frag) (cn : Nat → Addr) (js : List Nat) (g : TgF) : TG := fun v σ H Q => ∃ P0 O θ S ρ d ρ', Stt K cn P0 O H θ S σ ρ ∧ Rep K cn (O ++ P0) H θ v d ∧ g d ρ = some ρ' ∧
  ∀ σ', Stt K cn P0 O H θ S σ' ρ' → σ'.length = σ.length → (∀ j, j ∉ js → σ'[j]? = σ[j]?) → Q σ' H
def tDGs (K : PySem.W.Frag) (cn : Nat → Addr) (js : List Nat) (g : TgsF) : TGs := fun vs σ H Q => ∃ P0 O θ S ρ ds ρ', Stt K cn P0 O H θ S σ ρ ∧ Reps K cn (O ++ P0) H θ vs ds ∧ g ds ρ = some ρ' ∧
  ∀ σ', Stt K cn P0 O H θ S σ' ρ' → σ'.length = σ.length → (∀ j, j ∉ js → σ'[j]? = σ[j]?) → Q σ' H
structure DG (X : Cx) (cn : Nat → Addr) (js : List Nat) (tg : Expr) (g : TgF) : Prop where
  pg : PG X tg (tDG X.K cn js g)
structure DGs (X : Cx) (cn : Nat → Addr) (js : List Nat) (n : Nat) (tgs : List Expr) (g : TgsF) : Prop where
  pg : PGs X tgs (tDGs X.K cn js g)
  len : ∀ ds ρ ρ', g ds ρ = some ρ' → ds.length = n
def gSet (i : Nat) : TgF := fun d ρ => some (ρ.set i (.val d))
theorem dg_name (i : Nat) {x : Str} {pos : Pos} (hN : X.N.Nodup) (hi : X.N[i]? = some x := by rfl) (hx : Loc X.env.scope x := by first | exact Or.inl rfl | exact Or.inr rfl) (hf : X.fn x = true ∨ X.env.scope.names.lookup x = some .local := by first | exact .inl rfl | exact .inr rfl) :
    DG X cn [i] (.Name x pos) (gSet i) :=
  ⟨(pg_name hN hi hx hf).weak fun v σ H Q ⟨P0, O, θ, S, ρ, d, ρ', s, r, q, p⟩ => by
    cases q
    exact p _ (s.setVal r) (by simp) fun j hj => List.getElem?_set_ne (fun z => hj (by simp [z]))⟩
def gsNil : TgsF := fun ds ρ => match ds with
  | [] => some ρ
  | _ => none
def gsCons (g : TgF) (h : TgsF) : TgsF := fun ds ρ => match ds with
  | d :: ds => (g d ρ).bind (h ds)
  | [] => none
theorem gsNil_len {ds : List D} {ρ ρ' : Rho} (q : gsNil ds ρ = some ρ') : ds.length = 0 ∧ ρ' = ρ := by
  unfold gsNil at q
  split at q
  · cases q; exact ⟨rfl, rfl⟩
  · cases q
theorem dgs_nil : DGs X cn [] 0 [] gsNil where
  pg := pgs_nil.weak fun v σ H Q ⟨P0, O, θ, S, ρ, ds, ρ', s, r, q, p⟩ => by
    obtain ⟨h1, h2⟩ := gsNil_len q
    subst h2
    have z : v.length = 0 := r.length.trans h1
    exact ⟨List.length_eq_zero_iff.mp z, p σ s rfl fun _ _ => rfl⟩
  len := fun ds ρ ρ' q => (gsNil_len q).1
theorem dgs_cons {js ks : List Nat} {n : Nat} {es : List Expr} {g : TgF} {h : TgsF} (h1 : DG X cn js e g) (h2 : DGs X cn ks n es h) (hs : (assignEach (e :: es) X.env).map (·.2) = assign e X.env :: (assignEach es X.env).map (·.2) := by rfl) :
    DGs X cn (js ++ ks) (n + 1) (e :: es) (gsCons g h) where
  pg := (pgs_cons h1.pg h2.pg hs).weak fun v σ H Q ⟨P0, O, θ, S, ρ, ds, ρ', s, r, q, p⟩ => by
    cases r with
    | nil => cases q
    | cons r rs =>
      obtain ⟨ρ1, q1, q2⟩ := Option.bind_eq_some_iff.mp q
      refine ⟨_, _, rfl, P0, O, θ, S, ρ, _, ρ1, s, r, q1, fun σ1 s1 l1 k1 => ⟨P0, O, θ, S, ρ1, _, ρ', s1, rs, q2, fun σ2 s2 l2 k2 => ?_⟩⟩
      exact p σ2 s2 (l2.trans l1) fun j hj => (k2 j fun z => hj (List.mem_append_right _ z)).trans (k1 j fun z => hj (List.mem_append_left _ z))
  len := fun ds ρ ρ' q => by
    cases ds with
    | nil => cases q
    | cons d ds =>
      obtain ⟨ρ1, q1, q2⟩ := Option.bind_eq_some_iff.mp q
      exact congrArg Nat.succ (h2.len _ _ _ q2)
def gTupD (h : TgsF) : TgF := fun d ρ => match d with
  | .tup ds => h ds ρ
  | _ => none
theorem dg_tup {js : List Nat} {n k : Nat} {es : List Expr} {h : TgsF} {pos : Pos} (hc : X.calm = true) (hh : DGs X cn js n es h) (hn : (assignEach es X.env).length = n := by rfl) (hst : (assignEach es X.env).findIdx? (·.1) = none := by rfl) : DG X cn js (.Tuple es k pos) (gTupD h) :=
  ⟨(pg_tup hc hh.pg hn hst).weak fun v σ H Q ⟨P0, O, θ, S, ρ, d, ρ', s, r, q, p⟩ => by
    unfold gTupD at q
    split at q
    · rename_i ds
      obtain ⟨a, xs, rfl, hq, rs⟩ := (RepB.of r).vtup
      exact ⟨a, xs, rfl, hq, by rw [rs.length]; exact hh.len _ _ _ q, P0, O, θ, S, ρ, ds, ρ', s, rs, q, p⟩
    · cases q⟩

/-! ### for -/
def stepD (g : TgF) (h : DS) : D → DS := fun x ρ S => match g x ρ with
  | some ρ1 => h ρ1 S
  | none => .stuck
def loopD (src : Src) (step : D → DS) : Nat → Nat → DS
  | 0, _ => fun _ _ => .stuck
  | n + 1, i => fun ρ S => match srcAt S src i with
    | none => .stuck
    | some none => .ok (.next ρ) S
    | some (some x) => (step x ρ S).bind fun o S1 => match o with
      | .next ρ1 => loopD src step n (i + 1) ρ1 S1
      | .cont ρ1 => loopD src step n (i + 1) ρ1 S1
      | .brk ρ1 => .ok (.next ρ1) S1
      | .ret d => .ok (.ret d) S1
def sFor (f : Rho → Sto → R Src) (g : TgF) (h : DS) : DS := fun ρ S => (f ρ S).bind fun src S1 => loopD src (stepD g h) (srcLen S1 src + 1) 0 ρ S1
theorem ds_for {iter : Expr} {body : List Stmt} {f : Rho → Sto → R Src} {g : TgF} {h : DS} {js : List Nat} {pos : Pos} (hp : PassesOwn (model X.prog X.w) X.A X.env X.xe) (hc : X.calm = true) (hi : DI false X cn tg iter f) (hg : DG X cn js tg g) (hb : DSs X cn body h)
    (hs : ∀ x, foldedSetIterable iter X.env x = pure x := by intro _; rfl) : DSt X cn (.For tg iter body [] pos) (sFor f g h) :=
  ⟨(ps_for hp hc hi.pi hg.pg hb.ps hs).weak fun E σ H ⟨P0, O, θ, S, ρ, o, S', s, q, p⟩ => by
    obtain ⟨src, S1, q1, q⟩ := R.bind_eq q
    refine ⟨O ++ P0, θ, S, ρ, src, S1, s.sim, s.rep, q1, fun J H1 θ1 s1 e1 it => ?_⟩
    refine ⟨fun i m σ H => ∃ O θ S ρ, Stt X.K cn P0 O H θ S σ ρ ∧ ItOk false X.K cn (O ++ P0) H θ J src ∧ loopD src (stepD g h) m i ρ S = .ok o S' ∧ PostS X.K cn P0 O H θ o S' E,
      ⟨_, O, θ1, S1, ρ, s.evo s1 e1, it, q, p.at_ e1.s⟩, fun i m σ2 H2 ⟨O2, θ2, S2, ρ2, st, it2, q2, p2⟩ => ?_⟩
    cases m with
    | zero => cases q2
    | succ n =>
      simp only [loopD] at q2
      split at q2
      · cases q2
      · rename_i hend
        cases q2
        exact .inl ⟨it2.stop st.sim hend, p2 O2 σ2 H2 θ2 st EvS.refl⟩
      · rename_i x hx
        obtain ⟨go, yl⟩ := it2.turn st.sim hx
        obtain ⟨o1, S3, q3, q2⟩ := R.bind_eq q2
        refine .inr ⟨go, fun σ' H' => ∃ O' θ' S'' ρ', Stt X.K cn P0 O' H' θ' S'' σ' ρ' ∧ ItOk false X.K cn (O' ++ P0) H' θ' J src ∧ loopD src (stepD g h) n (i + 1) ρ' S'' = .ok o S' ∧ PostS X.K cn P0 O' H' θ' o S' E,
          fun σ' H' w => ⟨n, Nat.lt_succ_self n, w⟩, fun v H3 y => ?_⟩
        obtain ⟨s3, e3, r3⟩ := yl v H3 y
        unfold stepD at q3
        split at q3
        · rename_i ρ3 hg3
          refine ⟨P0, O2, θ2, S2, ρ2, x, ρ3, st.evo s3 e3, r3, hg3, fun σ3 st3 _ _ => ?_⟩
          refine ⟨P0, O2, θ2, S2, ρ3, o1, S3, st3, q3, ?_⟩
          cases o1 with
          | next ρ4 => exact fun O' σ' H' θ' st' ev' => ⟨O', θ', S3, ρ4, st', (it2.evo e3).evs ev', q2, (p2.at_ e3.s).at_ ev'⟩
          | cont ρ4 => exact fun O' σ' H' θ' st' ev' => ⟨O', θ', S3, ρ4, st', (it2.evo e3).evs ev', q2, (p2.at_ e3.s).at_ ev'⟩
          | brk ρ4 => cases q2; exact PostS.at_ p2 e3.s
          | ret d => cases q2; exact PostS.at_ p2 e3.s
        · cases q3⟩
end
end DL

set_option Elab.async false
set_option linter.all false
set_option maxRecDepth 100000
set_option maxHeartbeats 4000000
set_option autoImplicit false
namespace DL
open PySem PySem.Spec PyProof.Rows L2

/-! ### comprehensions -/
def wipeR (ρ : Rho) : List Nat → Rho
  | [] => ρ
  | v :: vs => (wipeR ρ vs).set v .non
section
variable {K : PySem.W.Frag} {cn : Nat → Addr} {P : List Addr} {H H' : Hp} {θ θ' : List Addr} {S : Sto}
theorem RepE.blank {σ : L2.St} {ρ : Rho} (i : Nat) (x : Option V) (r : RepE K cn P H θ σ ρ) : RepE K cn P H θ (σ.set i x) (ρ.set i .non) := by
  have back : ∀ (j : Nat) (t : Slot), (ρ.set i .non)[j]? = some t → (j = i ∧ t = .non ∧ j < ρ.length) ∨ (j ≠ i ∧ ρ[j]? = some t) := fun j t h => by
    by_cases e : j = i
    · subst e
      by_cases hl : j < ρ.length
      · rw [List.getElem?_set_self hl] at h; cases h; exact .inl ⟨rfl, rfl, hl⟩
      · rw [List.getElem?_eq_none (by simpa using hl)] at h; cases h
    · rw [List.getElem?_set_ne (Ne.symm e)] at h; exact .inr ⟨e, h⟩
  have hlen := r.len
  refine ⟨by simpa using hlen, fun j t h => ?_, fun j k ds es a h1 h2 h3 h4 => ?_⟩
  · rcases back j t h with ⟨e, e2, hl⟩ | ⟨ne, h⟩
    · subst e2
      subst e
      exact ⟨x, List.getElem?_set_self (by omega), .non⟩
    · obtain ⟨v, hv, q⟩ := r.at_ j t h
      exact ⟨v, by rw [List.getElem?_set_ne (Ne.symm ne)]; exact hv, q⟩
  · rcases back j _ h1 with ⟨_, z, _⟩ | ⟨n1, g1⟩
    · cases z
    · rcases back k _ h2 with ⟨_, z, _⟩ | ⟨n2, g2⟩
      · cases z
      · rw [List.getElem?_set_ne (Ne.symm n1)] at h3
        rw [List.getElem?_set_ne (Ne.symm n2)] at h4
        exact r.own j k ds es a g1 g2 h3 h4
theorem RepE.wipe {σ : L2.St} {ρ : Rho} (r : RepE K cn P H θ σ ρ) : ∀ vs : List Nat, RepE K cn P H θ (L2.wipe σ vs) (wipeR ρ vs)
  | [] => r
  | v :: vs => (RepE.wipe r vs).blank v none
theorem wipe_in {σ : L2.St} {i : Nat} : ∀ {vs : List Nat}, i ∈ vs → i < σ.length → (L2.wipe σ vs)[i]? = some none
  | v :: vs, h, hl => by
    unfold L2.wipe
    by_cases e : i = v
    · subst e
      exact List.getElem?_set_self (by rw [wipe_length]; exact hl)
    · rw [List.getElem?_set_ne (Ne.symm e)]
      exact wipe_in ((List.mem_cons.mp h).resolve_left e) hl
theorem wipe_eq {σ σ2 : L2.St} {vs js : List Nat} (hj : ∀ j ∈ js, j ∈ vs) (hl : σ2.length = (L2.wipe σ vs).length) (h : ∀ j, j ∉ js → σ2[j]? = (L2.wipe σ vs)[j]?) : L2.wipe σ2 vs = L2.wipe σ vs := by
  have hl2 : σ2.length = σ.length := by rw [hl, wipe_length]
  apply List.ext_getElem?
  intro j
  by_cases m : j ∈ vs
  · by_cases b : j < σ.length
    · rw [wipe_in m (by omega), wipe_in m b]
    · rw [List.getElem?_eq_none (by rw [wipe_length]; omega), List.getElem?_eq_none (by rw [wipe_length]; omega)]
  · rw [wipe_out m, h j fun z => m (hj j z)]
theorem ItOk.evz {O1 : List Addr} {J : It} {src : Src} {b : Bool} (h : ItOk b K cn P H θ J src) (e : EvS [] H θ O1 H' θ') : ItOk true K cn (O1 ++ P) H' θ' J src := by
  have one : ∀ {v : V} {d : D}, RepX b K cn P H θ v d → RepX true K cn (O1 ++ P) H' θ' v d := fun {v d} r => by
    cases RepX.toB r with
    | of r => exact RepB.of (Rep.evs (O := []) e r)
    | own m h n rs => exact RepB.own (List.mem_append_right _ m) (e.keep _ _ h n (by simp)).1 (e.keep _ _ h n (by simp)).2.1 (Reps.evs (O := []) e rs)
  cases src with
  | seq d => obtain ⟨a, r, z⟩ := h; exact ⟨a, one r, z⟩
  | enum d => obtain ⟨a, r, z⟩ := h; exact ⟨a, one r, z⟩
  | rng lo n => exact h
  | zip d d2 => obtain ⟨a, a2, r, r2, z⟩ := h; exact ⟨a, a2, one r, one r2, z⟩
end
def lcD (src : Src) (g : TgF) (c f : DX) (vs : List Nat) : Nat → Nat → List D → DXs
  | 0, _, _ => fun _ _ => .stuck
  | n + 1, i, acc => fun ρ S => match srcAt S src i with
    | none => .stuck
    | some none => .ok acc S
    | some (some x) => match g x (wipeR ρ vs) with
      | none => .stuck
      | some ρ1 => (c ρ1 S).bind fun b S1 => match b with
        | .bl true => (f ρ1 S1).bind fun d S2 => if srcSmall src || fits (acc.length + 1) then lcD src g c f vs n (i + 1) (acc ++ [d]) ρ S2 else .stuck
        | .bl false => lcD src g c f vs n (i + 1) acc ρ S1
        | _ => .stuck
def xsLc (fi : Rho → Sto → R Src) (g : TgF) (c f : DX) (vs : List Nat) : DXs := fun ρ S => (fi ρ S).bind fun src S1 => lcD src g c f vs (srcLen S1 src + 1) 0 [] ρ S1
structure DTs (X : Cx) (cn : Nat → Addr) (ifs : List Expr) (f : DX) : Prop where
  pt : PTs X ifs (tDT X.K cn f)
section
variable {X : Cx} {cn : Nat → Addr}
theorem _root_.L2.PTs.weak {ifs : List Expr} {t t' : TT} (h : PTs X ifs t) (i : ∀ σ H Q, t' σ H Q → t σ H Q) : PTs X ifs t' := ⟨fun pins s σ H Q I hw => h.run pins s σ H Q I (i _ _ _ hw)⟩
theorem dts_nil : DTs X cn [] (xC (.bl true)) := ⟨pts_nil.weak fun σ H Q ⟨P, θ, S, ρ, b, S', s, r, q, p⟩ => by
  cases q
  exact p H θ s Evo.refl⟩
theorem dts_one {c : Expr} {f : DX} (h : DT X cn c f) : DTs X cn [c] f := ⟨pts_one h.pt⟩
theorem EvS.putMine {H1 H : Hp} {θ1 θ : List Addr} {a : Addr} {o : HO} (e : EvS [] H1 θ1 [a] H θ) : EvS [] H1 θ1 [a] (upd H a o) θ :=
  ⟨fun b u h n m => by
    obtain ⟨k1, k2, k3⟩ := e.keep b u h n m
    exact ⟨by rw [upd_ne (fun z => k3 (by simp [z]))]; exact k1, k2, k3⟩, e.pre⟩
theorem lc_ok {K : PySem.W.Frag} {fi : Rho → Sto → R Src} {b : Bool} {g : TgF} {c f : DX} {vs js : List Nat} (hj : ∀ j ∈ js, j ∈ vs) {σ : L2.St} {H : Hp} {Q : VK} (h : tDZ K cn (zL (xsLc fi g c f vs)) σ H Q) :
    tLc (tDI b K cn fi) (tDG K cn js g) (tDT K cn c) (tD K cn f) vs σ H Q := by
  obtain ⟨P, θ, S, ρ, t, S', sm, re, q, p⟩ := h
  obtain ⟨res, S0, q0, q⟩ := R.bind_eq q
  cases q
  obtain ⟨src, S1, q1, q2⟩ := R.bind_eq q0
  refine ⟨P, θ, S, ρ, src, S1, sm, re, q1, fun J H1 θ1 s1 e1 it dl hdl => ?_⟩
  have re1 := re.evo sm e1
  refine ⟨fun i m H2 => ∃ θ2 S2 acc dacc, Sim K cn ([dl] ++ P) H2 θ2 S2 ∧ EvS [] H1 θ1 [dl] H2 θ2 ∧ H2 dl = some (.lst acc) ∧ Reps K cn ([dl] ++ P) H2 θ2 acc dacc ∧ dacc.length ≤ i ∧ lcD src g c f vs m i dacc ρ S2 = .ok res S',
    ⟨_, θ1, S1, [], [], s1.mine hdl, EvS.newOwn hdl, upd_same, .nil, Nat.le_refl _, q2⟩, fun i m H2 ⟨θ2, S2, acc, dacc, s2, e2, hac, rac, hle, q3⟩ => ?_⟩
  have re2 := RepE.evz s1 e2 re1
  have it2 := ItOk.evz it e2
  cases m with
  | zero => cases q3
  | succ n =>
    simp only [lcD] at q3
    split at q3
    · cases q3
    · rename_i hend
      cases q3
      refine .inl ⟨it2.stop s2 hend, p _ [dl] H2 θ2 s2 ((Evo.z e1).trans e2) ⟨.own (by simp) hac rac, nofun, fun _ a _ z => ?_⟩⟩
      cases z
      simp
    · rename_i x hx
      obtain ⟨go, yl⟩ := it2.turn s2 hx
      split at q3
      · cases q3
      · rename_i ρ3 hg3
        obtain ⟨bv, S3, q4, q3⟩ := R.bind_eq q3
        refine .inr ⟨go, fun H' => ∃ θ2 S2 acc dacc, Sim K cn ([dl] ++ P) H' θ2 S2 ∧ EvS [] H1 θ1 [dl] H' θ2 ∧ H' dl = some (.lst acc) ∧ Reps K cn ([dl] ++ P) H' θ2 acc dacc ∧ dacc.length ≤ i + 1 ∧ lcD src g c f vs n (i + 1) dacc ρ S2 = .ok res S',
          fun H' w => ⟨n, Nat.lt_succ_self n, w⟩, fun v H3 y => ?_⟩
        obtain ⟨s3, e3, r3⟩ := yl v H3 y
        have nil_r : ([dl] ++ P) ++ ([] : List Addr) = [dl] ++ P := List.append_nil _
        have re3 := (re2.evo s2 e3).wipe vs
        refine ⟨[], [dl] ++ P, θ2, S2, wipeR ρ vs, x, ρ3, ⟨by rw [nil_r]; exact s3, by rw [nil_r]; exact re3, fun k ds a h1 h2 => ?_, nofun⟩, by rw [nil_r]; exact r3, hg3, fun σ3 st3 hl3 ho3 => ⟨wipe_eq hj hl3 ho3, ?_⟩⟩
        · obtain ⟨w, hw, sr⟩ := re3.at_ k _ h1
          rw [h2] at hw
          cases sr with
          | own m _ _ => cases hw; exact m
        · have rep3 : RepE K cn ([dl] ++ P) H3 θ2 σ3 ρ3 := by have z := st3.rep; rw [nil_r] at z; exact z
          have e23 : EvS [] H1 θ1 [dl] H3 θ2 := e2.trans e3.s
          have nt : dl ∉ θ2 := (s2.pf dl (by simp)).1
          have hac3 := (e3.keep dl _ hac nt).1
          have rac3 := rac.evo e3
          split at q3
          · refine ⟨[dl] ++ P, θ2, S2, ρ3, true, S3, s3, rep3, q4, fun H4 θ4 s4 e4 => ?_⟩
            obtain ⟨d, S5, q5, q3⟩ := R.bind_eq q3
            simp only [if_true]
            refine ⟨[dl] ++ P, θ4, S3, ρ3, d, S5, s4, rep3.evo s3 e4, q5, fun w H5 θ5 s5 e5 r5 => ?_⟩
            have e35 := e4.trans e5
            have nt4 : dl ∉ θ5 := (s5.pf dl (by simp)).1
            split at q3
            · rename_i hfit
              refine ⟨acc, (e35.keep dl _ hac3 nt).1, ?_, θ5, S5, acc ++ [w], dacc ++ [d], s5.set (by simp), (e23.trans e35.s).putMine, upd_same, ?_, ?_, q3⟩
              · rw [rac.length]
                rcases Bool.or_eq_true_iff.mp hfit with z | z
                · exact Nat.lt_of_le_of_lt hle (it2.small z hx)
                · exact fits_ok z
              · exact Reps.mine (by simp) ((rac3.evo e35).append (.cons r5 .nil))
              · rw [List.length_append]
                exact Nat.succ_le_succ hle
            · cases q3
          · refine ⟨[dl] ++ P, θ2, S2, ρ3, false, S3, s3, rep3, q4, fun H4 θ4 s4 e4 => ?_⟩
            simp only [Bool.false_eq_true, if_false]
            exact ⟨θ4, S3, acc, dacc, s4, e23.trans e4.s, (e4.keep dl _ hac3 nt).1, rac3.evo e4, Nat.le_succ_of_le hle, q3⟩
          · cases q3
theorem dz_lc {elt tg iter : Expr} {ifs : List Expr} {scope : Scope} {pos : Pos} {fi : Rho → Sto → R Src} {g : TgF} {c f : DX} {js : List Nat} (own : List (Str × Nat)) (hc : X.calm = true) (hN : X.N.Nodup) (hi : DI true X cn tg iter fi) (ok : BlkOk X.N X.env.scope scope own) (hj : ∀ j ∈ js, j ∈ own.map (·.2))
    (hg : ∀ (s : Shared) (H : Hp) (C : Addr) (cl : List (Str × Addr)) (fp : List Addr), DG (X.blk s H scope (compEnvC scope cl C X.env) fp) cn js tg g) (ht : ∀ (s : Shared) (H : Hp) (C : Addr) (cl : List (Str × Addr)) (fp : List Addr), DTs (X.blk s H scope (compEnvC scope cl C X.env) fp) cn ifs c)
    (he : ∀ (s : Shared) (H : Hp) (C : Addr) (cl : List (Str × Addr)) (fp : List Addr), DE (X.blk s H scope (compEnvC scope cl C X.env) fp) cn elt f) (hs : ∀ x, foldedSetIterable iter X.env x = pure x := by intro _; rfl) :
    DZ X cn (.ListComp elt [⟨tg, iter, ifs, 0⟩] scope pos) (zL (xsLc fi g c f (own.map (·.2)))) :=
  ⟨(pe_lc hc hN hi.pi ok (fun s H C cl fp => (hg s H C cl fp).pg) (fun s H C cl fp => (ht s H C cl fp).pt) (fun s H C cl fp => (he s H C cl fp).pe) hs).weak fun σ H Q h => lc_ok hj h⟩
end
end DL

set_option Elab.async false
set_option linter.all false
set_option maxRecDepth 100000
set_option maxHeartbeats 4000000
set_option autoImplicit false
namespace DL
open PySem PySem.Spec PyProof.Rows L2

/-! ### names get values or lists -/
section
variable {K : PySem.W.Frag} {cn : Nat → Addr} {P P0 O : List Addr} {H H' : Hp} {θ θ' : List Addr} {S S1 : Sto}
theorem SRep.evz {O2 : List Addr} {v : Option V} {t : Slot} (s : Sim K cn P H θ S) (e : EvS [] H θ O2 H' θ') (r : SRep K cn P H θ v t) : SRep K cn (O2 ++ P) H' θ' v t := by
  cases r with
  | non => exact .non
  | val q => exact .val (Rep.evs (O := []) e q)
  | own p h' rs => exact .own (List.mem_append_right _ p) (e.keep _ _ h' (s.pf _ p).1 (by simp)).1 (Reps.evs (O := []) e rs)
/-- one value that waits is put under its name -/
theorem Stt.putZ {O1 : List Addr} {σ : L2.St} {ρ : Rho} {v : V} {t : Slot} (i : Nat) (st : Stt K cn P0 O H θ S σ ρ) (s1 : Sim K cn (O1 ++ (O ++ P0)) H' θ' S1) (e1 : EvS [] H θ O1 H' θ') (z : ZRep K cn (O ++ P0) O1 H' θ' v t) :
    Stt K cn P0 (O1 ++ O) H' θ' S1 (σ.set i (some v)) (ρ.set i t) := by
  obtain ⟨st1, no⟩ := st.evz s1 e1
  refine st1.setZ (by rw [List.append_assoc]; exact z.1) fun ds a h1 h2 => ⟨List.mem_append_left _ (z.2.2 ds a h1 h2), fun j es h3 h4 => no j es a h3 h4 (z.2.2 ds a h1 h2)⟩
end
section
variable {X : Cx} {cn : Nat → Addr}
def sLet (i : Nat) (f : DXz) : DS := fun ρ S => (f ρ S).bind fun t S1 => .ok (.next (ρ.set i t)) S1
theorem tDS_let {K : PySem.W.Frag} {i : Nat} {f : DXz} {E : Ends} {σ : L2.St} {H : Hp} (h : tDS K cn (sLet i f) E σ H) : tAsg (tDZ K cn f) (gName i) E σ H := by
  obtain ⟨P0, O, θ, S, ρ, o, S', s, q, p⟩ := h
  obtain ⟨t, S1, q1, q⟩ := R.bind_eq q
  cases q
  exact ⟨O ++ P0, θ, S, ρ, t, S', s.sim, s.rep, q1, fun v O1 H1 θ1 s1 e1 z => p (O1 ++ O) _ H1 θ1 (s.putZ i s1 e1 z) (e1.z s.sim)⟩
theorem ds_let (i : Nat) {x : Str} {e : Expr} {f : DXz} {pos pos' : Pos} (hN : X.N.Nodup) (he : DZ X cn e f) (hi : X.N[i]? = some x := by rfl) (hx : Loc X.env.scope x := by first | exact Or.inl rfl | exact Or.inr rfl)
    (hs : swapsWith e (some (.Name x pos')) pos.line X.env = pure false := by rfl) (hf : X.fn x = true ∨ X.env.scope.names.lookup x = some .local := by first | exact .inl rfl | exact .inr rfl) :
    DSt X cn (.Assign [.Name x pos'] e pos) (sLet i f) := ⟨(ps_set (i := i) hN hi hx he.pe hs hf).weak fun E σ H h => tDS_let h⟩
/-- name = [..] on one line -/
theorem ds_letLc (i : Nat) {y : Str} {py : Pos} {elt tg iter : Expr} {ifs : List Expr} {scope : Scope} {pos spos : Pos} {fi : Rho → Sto → R Src} {b : Bool} {g : TgF} {c f : DX} {js : List Nat} (own : List (Str × Nat)) (hc : X.calm = true) (hN : X.N.Nodup) (hi : DI b X cn tg iter fi)
    (ok : BlkOk X.N X.env.scope scope own) (hj : ∀ j ∈ js, j ∈ own.map (·.2)) (hg : ∀ (s : Shared) (H : Hp) (C : Addr) (cl : List (Str × Addr)) (fp : List Addr), DG (X.blk s H scope (compEnvC scope cl C X.env) fp) cn js tg g)
    (ht : ∀ (s : Shared) (H : Hp) (C : Addr) (cl : List (Str × Addr)) (fp : List Addr), DTs (X.blk s H scope (compEnvC scope cl C X.env) fp) cn ifs c) (he : ∀ (s : Shared) (H : Hp) (C : Addr) (cl : List (Str × Addr)) (fp : List Addr), DE (X.blk s H scope (compEnvC scope cl C X.env) fp) cn elt f)
    (hy : X.N[i]? = some y := by rfl) (hyl : X.env.scope.names.lookup y = some .local := by rfl) (hsw : swapsWith (.ListComp elt [⟨tg, iter, ifs, 0⟩] scope pos) (some (.Name y py)) spos.line X.env = pure true := by rfl) (hs : ∀ x, foldedSetIterable iter X.env x = pure x := by intro _; rfl) :
    DSt X cn (.Assign [.Name y py] (.ListComp elt [⟨tg, iter, ifs, 0⟩] scope pos) spos) (sLet i (zL (xsLc fi g c f (own.map (·.2))))) :=
  ⟨(ps_setLc (i := i) hc hN hy hyl hsw hi.pi ok (fun s H C cl fp => (hg s H C cl fp).pg) (fun s H C cl fp => (ht s H C cl fp).pt) (fun s H C cl fp => (he s H C cl fp).pe) hs).weak fun E σ H h => by
    have z := tDS_let h
    exact lc_ok hj z⟩
/-- a, b = x, y -/
def sPar (i j : Nat) (f g : DXz) : DS := fun ρ S => (f ρ S).bind fun t S1 => (g ρ S1).bind fun u S2 => .ok (.next ((ρ.set i t).set j u)) S2
theorem ds_par (i j : Nat) {x y : Str} {a b : Expr} {f g : DXz} {px py pt pos : Pos} {kt k2 pt2} (hc : X.calm = true) (hN : X.N.Nodup) (ha : DZ X cn a f) (hb : DZ X cn b g) (hi : X.N[i]? = some x := by rfl) (hj : X.N[j]? = some y := by rfl) (hij : i ≠ j := by decide)
    (hx : X.env.scope.names.lookup x = some .local := by rfl) (hy : X.env.scope.names.lookup y = some .local := by rfl)
    (hw : swappedStores [.Tuple [.Name x px, .Name y py] kt pt] (.Tuple [a, b] k2 pt2) X.env = pure (some [x, y]) := by rfl)
    (hs : swapsWithSole [.Tuple [.Name x px, .Name y py] kt pt] (.Tuple [a, b] k2 pt2) pos.line X.env = pure false := by rfl)
    (h1 : starEach [a, b] X.env = (false, eval a X.env) :: starEach [b] X.env := by rfl) (h2 : starEach [b] X.env = (false, eval b X.env) :: starEach [] X.env := by rfl) :
    DSt X cn (.Assign [.Tuple [.Name x px, .Name y py] kt pt] (.Tuple [a, b] k2 pt2) pos) (sPar i j f g) :=
  ⟨(ps_par hc hN hi hj hij hx hy (pa_cons ha.pe (pa_cons hb.pe pa_nil h2) h1) hw hs).weak fun E σ H ⟨P0, O, θ, S, ρ, o, S', s, q, p⟩ => by
    obtain ⟨t, S1, q1, q⟩ := R.bind_eq q
    obtain ⟨u, S2, q2, q⟩ := R.bind_eq q
    cases q
    refine ⟨O ++ P0, θ, S, ρ, t, S1, s.sim, s.rep, q1, fun v O1 H1 θ1 s1 e1 z1 => ?_⟩
    refine ⟨O1 ++ (O ++ P0), θ1, S1, ρ, u, S', s1, s.rep.evz s.sim e1, q2, fun w O2 H2 θ2 s2 e2 z2 => ⟨v, w, rfl, ?_⟩⟩
    have st1 := s.putZ i s1 e1 z1
    have as : (O1 ++ O) ++ P0 = O1 ++ (O ++ P0) := List.append_assoc ..
    have st2 : Stt X.K cn P0 (O2 ++ (O1 ++ O)) H2 θ2 S' ((σ.set i (some v)).set j (some w)) ((ρ.set i t).set j u) := st1.putZ j (by rw [as]; exact s2) e2 (by
      unfold ZRep
      rw [as]
      exact z2)
    refine p _ _ H2 θ2 st2 ((e1.z s.sim).trans (EvS.z (K := X.K) (cn := cn) (S := S1) (O := O1 ++ O) (P0 := P0) (by rw [as]; exact s1) e2))⟩
/-- a, b, .. = a tuple -/
def sUnp (f : DX) (g : TgF) : DS := fun ρ S => (f ρ S).bind fun d S1 => match g d ρ with
  | some ρ1 => .ok (.next ρ1) S1
  | none => .stuck
theorem ds_unp {tg e : Expr} {f : DX} {g : TgF} {js : List Nat} {pos : Pos} (he : DE X cn e f) (hg : DG X cn js tg g) (hs : swapsWithSole [tg] e pos.line X.env = pure false := by rfl) (hw : swappedStores [tg] e X.env = pure none := by rfl)
    (h1 : (assignEach [tg] X.env).map (·.2) = [assign tg X.env] := by rfl) : DSt X cn (.Assign [tg] e pos) (sUnp f g) :=
  ⟨(ps_asg he.pe hg.pg hs hw h1).weak fun E σ H ⟨P0, O, θ, S, ρ, o, S', s, q, p⟩ => by
    obtain ⟨d, S1, q1, q⟩ := R.bind_eq q
    refine ⟨O ++ P0, θ, S, ρ, d, S1, s.sim, s.rep, q1, fun v H1 θ1 s1 e1 r1 => ?_⟩
    split at q
    · rename_i ρ1 hg1
      cases q
      exact ⟨P0, O, θ1, S', ρ, d, ρ1, s.evo s1 e1, r1, hg1, fun σ' st' _ _ => p O σ' H1 θ1 st' e1.s⟩
    · cases q⟩

/-! ### lists are written -/
def lookL (i : Nat) (ρ : Rho) (S : Sto) : Option (List D) := match ρ[i]? with
  | some (.own ds) => some ds
  | some (.val (.obj j)) => objOf S j
  | _ => none
theorem lookL_rep {K : PySem.W.Frag} {P : List Addr} {H : Hp} {θ : List Addr} {S : Sto} {σ : L2.St} {ρ : Rho} {i : Nat} {ds : List D} (s : Sim K cn P H θ S) (r : RepE K cn P H θ σ ρ) (e : lookL i ρ S = some ds) :
    ∃ a xs, σ[i]? = some (some (.ref a)) ∧ H a = some (.lst xs) := by
  unfold lookL at e
  split at e
  · rename_i es hi
    obtain ⟨v, hv, sr⟩ := r.at_ i _ hi
    cases sr with
    | own m h rs => exact ⟨_, _, hv, h⟩
  · rename_i j hi
    obtain ⟨v, hv, sr⟩ := r.at_ i _ hi
    cases sr with
    | val r0 =>
      obtain ⟨a, xs, rfl, ha, hx, rs⟩ := (RepB.of r0).vobj s (objOf_eq e)
      exact ⟨a, xs, hv, hx⟩
  · cases e
/-- x.m(e): what the list holds and e's value give what it holds then -/
def sMod (i : Nat) (f : DX) (k : Sto → D → List D → Option (List D)) : DS := fun ρ S => match lookL i ρ S with
  | none => .stuck
  | some _ => (f ρ S).bind fun d S1 => modAt i (k S1 d) ρ S1
def kApp : Sto → D → List D → Option (List D) := fun _ d ds => if fits (ds.length + 1) then some (ds ++ [d]) else none
theorem tL {K : PySem.W.Frag} {H : Hp} {a : Addr} {xs : List V} (h : H a = some (.lst xs)) : tyV K "list" (.ref a) H := .inl ⟨rfl, xs, .of h⟩
theorem ds_append (i : Nat) {x : Str} {e : Expr} {f : DX} {px apos cpos pos : Pos} (he : DE X cn e f) (hN : X.N[i]? = some x := by rfl) (hv : Vis X.env.scope x := by first | exact Or.inl rfl | exact Or.inr (Or.inl rfl) | exact Or.inr (Or.inr rfl))
    (hd : (x == ("__debug__" : Str)) = false := by decide) (hcd : (x == ("__classdict__" : Str)) = false := by decide) (hs : swapsWith (.Call (.Attribute (.Name x px) "append" apos) [e] [] cpos) none pos.line X.env = pure false := by rfl)
    (hbase : attributeBase (.Name x px) "append" X.env (eval (.Name x px) X.env) = eval (.Name x px) X.env := by rfl)
    (hfew : ((backTo cpos (starEach [e] X.env)).all (fun x => !x.1) && (backToKw cpos (keywordEach [] X.env)).all (fun x => x.1.isSome) && decide ([e].length + ([] : List Keyword).length + (if ([] : List Keyword).isEmpty then 0 else 1) < 30)) = true := by rfl)
    (hline : (apos.endLine == cpos.line) = true := by rfl) (h1 : starEach [e] X.env = (false, eval e X.env) :: starEach [] X.env := by rfl) (hpl : (backTo cpos (starEach [] X.env)).any (·.1) = false := by rfl) :
    DSt X cn (.Expr (.Call (.Attribute (.Name x px) "append" apos) [e] [] cpos) pos) (sMod i f kApp) :=
  ⟨(ps_expr (pe_bm F.plainAttrs_list F.slot_list_append F.type_list_append mt_append (pe_var hN hv hd hcd) (pa_cons he.pe pa_nil h1) hbase hfew hline h1 hpl) hs).weak fun E σ H ⟨P0, O, θ, S, ρ, o, S', s, q, p⟩ => by
    unfold sMod at q
    split at q
    · cases q
    · rename_i ds0 h0
      obtain ⟨d, S1, q1, q⟩ := R.bind_eq q
      obtain ⟨a0, xs0, hv0, hx0⟩ := lookL_rep s.sim s.rep h0
      refine ⟨.ref a0, hv0, tL hx0, O ++ P0, θ, S, ρ, d, S1, s.sim, s.rep, q1, fun v H1 θ1 s1 e1 r1 => ?_⟩
      obtain ⟨a, xs, ds, es, hva, hxa, rs, hk, fin⟩ := modAt_ok (s.evo s1 e1) q
      rw [hv0] at hva
      cases hva
      unfold kApp at hk
      split at hk
      · rename_i hz
        cases hk
        exact ⟨_, xs, v, rfl, rfl, hxa, by rw [rs.length]; exact fits_ok hz, fin _ E (rs.append (.cons r1 .nil)) (p.at_ e1.s)⟩
      · cases hk⟩
theorem ext_meets (c : Addr) (olds : Array Value) (m : Nat) (u : Addr) (news : Array Value) (m2 : Nat) (dd : Option Addr) (sls : Array (Option Value)) (long : ¬(!olds.isEmpty && Builtin.List.listTooLong (olds.size + news.size)) = true) (z1 : olds.size ≤ sizeLine) (z2 : olds.size + news.size ≤ sizeLine + 1) :
    Meets (Builtin.«list.extend» ⟨[.ref c, .ref u], []⟩) (fun _ Post st => st.heap.get? c = some { cls := .type "list", dict := none, data := .seq olds m, slots := #[] } ∧ st.heap.get? u = some { cls := .type "tuple", dict := dd, data := .seq news m2, slots := sls } ∧
      Post (.ok (.ret Value.none)) { st with heap := st.heap.update c (Obj.mapSeq fun x => x ++ news), toks := st.toks }) :=
  .of_wp fun prog w A R st goal => by
    obtain ⟨hp, gs, dr, tk, os⟩ := st
    obtain ⟨hc, hu, goal⟩ := goal
    have f1 := AutoSeq1.idx_int
    have f2 := AutoSeq1.sub_tuple_tuple
    have f3 := AutoSeq1.sub_list_list
    have f4 := AutoSeq1.sub_tuple_list
    have f5 := AutoSeq1.sub_list_tuple
    have both : (olds ++ news).size ≤ sizeLine + 1 := by
      rw [Array.size_append]
      exact z2
    wp_walk using (wpAny_updateSeq hc rfl (hz := z1) (_hz' := both)), AutoSeq1.wpAny_loadPart' hc, AutoSeq1.wpAny_loadPart' hu
    exact ⟨_, rfl, goal⟩
/-- .. a list or a tuple -/
def rExtA (K : PySem.W.Frag) : V → List V → Hp → VK → Prop := fun x vs H Q => ∃ l b xs zs, x = .ref l ∧ vs = [.ref b] ∧ H l = some (.lst xs) ∧ (SqT K H b zs ∨ H b = some (.lst zs)) ∧ xs.length + zs.length ≤ sizeLine ∧ Q .non (upd H l (.lst (xs ++ zs)))
theorem mt_extendA : MtR X "list.extend" (rExtA X.K) := by
  intro pins s σ H x vs v us Q I rx rv h
  obtain ⟨l, b, xs, zs, ex, ey, hH, hB | hB, hz, q⟩ := h
  · subst ex
    subst ey
    cases rx
    obtain ⟨u, rfl, ru⟩ := rv.one
    cases ru
    obtain ⟨z, its, n, r, hl, e⟩ := I.lstM hH
    obtain ⟨its2, r2, isTp, z2⟩ := I.tuple hB
    obtain ⟨⟨cl, dd, dt, sls⟩, got, hcl, m, hd⟩ := isTp
    replace hcl : cl = .type "tuple" := hcl
    replace hd : dt = .seq its2.toArray m := hd
    subst hcl
    subst hd
    have l2 := r2.length
    have sz : its.toArray.size + its2.toArray.size ≤ sizeLine := by
      rw [List.size_toArray, List.size_toArray]
      omega
    have long : ¬ (!its.toArray.isEmpty && Builtin.List.listTooLong (its.toArray.size + its2.toArray.size)) = true := by
      rw [notLongL sz, Bool.and_false]
      nofun
    refine call_meets F.slot_list_extend ⟨_, e, rfl⟩ F.entry_list_extend (F.args_list_extend_2 _ _) (ext_meets l its.toArray n b its2.toArray m dd sls long (by rw [List.size_toArray]; omega) (by omega)) ⟨e, got, ?_⟩
    refine ⟨.non, _, I.lset (its' := its ++ its2) hH e (by simp) (r.append r2) ?_, rfl, q⟩
    rw [List.length_append]
    exact hz
  · exact mt_extend pins s σ H x vs v us Q I rx rv ⟨l, b, xs, zs, ex, ey, hH, hB, hz, q⟩
def kExt : Sto → D → List D → Option (List D) := fun S d ds => match seqOf S d with
  | some xs => if fits (ds.length + xs.length) then some (ds ++ xs) else none
  | none => none
theorem ds_extend (i : Nat) {x : Str} {e : Expr} {f : DX} {px apos cpos pos : Pos} (he : DB X cn e f) (hN : X.N[i]? = some x := by rfl) (hv : Vis X.env.scope x := by first | exact Or.inl rfl | exact Or.inr (Or.inl rfl) | exact Or.inr (Or.inr rfl))
    (hd : (x == ("__debug__" : Str)) = false := by decide) (hcd : (x == ("__classdict__" : Str)) = false := by decide) (hs : swapsWith (.Call (.Attribute (.Name x px) "extend" apos) [e] [] cpos) none pos.line X.env = pure false := by rfl)
    (hbase : attributeBase (.Name x px) "extend" X.env (eval (.Name x px) X.env) = eval (.Name x px) X.env := by rfl)
    (hfew : ((backTo cpos (starEach [e] X.env)).all (fun x => !x.1) && (backToKw cpos (keywordEach [] X.env)).all (fun x => x.1.isSome) && decide ([e].length + ([] : List Keyword).length + (if ([] : List Keyword).isEmpty then 0 else 1) < 30)) = true := by rfl)
    (hline : (apos.endLine == cpos.line) = true := by rfl) (h1 : starEach [e] X.env = (false, eval e X.env) :: starEach [] X.env := by rfl) (hpl : (backTo cpos (starEach [] X.env)).any (·.1) = false := by rfl) :
    DSt X cn (.Expr (.Call (.Attribute (.Name x px) "extend" apos) [e] [] cpos) pos) (sMod i f kExt) :=
  ⟨(ps_expr (pe_bm F.plainAttrs_list F.slot_list_extend F.type_list_extend mt_extendA (pe_var hN hv hd hcd) (pa_cons he.pe pa_nil h1) hbase hfew hline h1 hpl) hs).weak fun E σ H ⟨P0, O, θ, S, ρ, o, S', s, q, p⟩ => by
    unfold sMod at q
    split at q
    · cases q
    · rename_i ds0 h0
      obtain ⟨d, S1, q1, q⟩ := R.bind_eq q
      obtain ⟨a0, xs0, hv0, hx0⟩ := lookL_rep s.sim s.rep h0
      refine ⟨.ref a0, hv0, tL hx0, O ++ P0, θ, S, ρ, d, S1, s.sim, s.rep, q1, fun v H1 θ1 s1 e1 r1 => ?_⟩
      obtain ⟨a, xs, ds, es, hva, hxa, rs, hk, fin⟩ := modAt_ok (s.evo s1 e1) q
      rw [hv0] at hva
      cases hva
      unfold kExt at hk
      split at hk
      · rename_i zs hzs
        split at hk
        · rename_i hz
          cases hk
          cases t : isT d with
          | true =>
            obtain ⟨b, ys, rfl, hq, rs2⟩ := seqT_rep r1 t hzs
            exact ⟨_, b, xs, ys, rfl, rfl, hxa, .inl hq, by rw [rs.length, rs2.length]; exact fits_ok hz, fin _ E (rs.append rs2) (p.at_ e1.s)⟩
          | false =>
            obtain ⟨b, ys, rfl, hq, rs2⟩ := seqL_rep s1 r1 t hzs
            exact ⟨_, b, xs, ys, rfl, rfl, hxa, .inr hq, by rw [rs.length, rs2.length]; exact fits_ok hz, fin _ E (rs.append rs2) (p.at_ e1.s)⟩
        · cases hk
      · cases hk⟩
/-- x[i] = e -/
def kSet (k : Int) (d : D) : List D → Option (List D) := fun ds => match ixN ds.length k with
  | some j => some (ds.set j d)
  | none => none
def sPut (i : Nat) (ix f : DX) : DS := fun ρ S => (f ρ S).bind fun d S1 => (ix ρ S1).bind fun e S2 => match e with
  | .int k => modAt i (kSet k d) ρ S2
  | _ => .stuck
theorem ds_put (i : Nat) {x : Str} {a e : Expr} {f ix : DX} {px spos pos : Pos} (he : DE X cn e f) (ha : DE X cn a ix) (hN : X.N[i]? = some x := by rfl) (hv : Vis X.env.scope x := by first | exact Or.inl rfl | exact Or.inr (Or.inl rfl) | exact Or.inr (Or.inr rfl))
    (hd : (x == ("__debug__" : Str)) = false := by decide) (hcd : (x == ("__classdict__" : Str)) = false := by decide)
    (hsub : ∀ v, assign (.Subscript (.Name x px) a spos) X.env v = (do
      let ov ← holding [v] (eval (.Name x px) X.env)
      let iv ← holding [v, ov] (eval a X.env)
      standAt spos
      holding [v, ov, iv] (setItem ov iv v)
      release [v, ov, iv] []) := by intro _; rfl)
    (hs : swapsWithSole [.Subscript (.Name x px) a spos] e pos.line X.env = pure false := by rfl) (hw : swappedStores [.Subscript (.Name x px) a spos] e X.env = pure none := by rfl)
    (h1 : (assignEach [.Subscript (.Name x px) a spos] X.env).map (·.2) = [assign (.Subscript (.Name x px) a spos) X.env] := by rfl) :
    DSt X cn (.Assign [.Subscript (.Name x px) a spos] e pos) (sPut i ix f) :=
  ⟨(ps_asg he.pe (pg_sub (pe_var hN hv hd hcd) ha.pe set_list hsub) hs hw h1).weak fun E σ H ⟨P0, O, θ, S, ρ, o, S', s, q, p⟩ => by
    obtain ⟨d, S1, q1, q⟩ := R.bind_eq q
    obtain ⟨d2, S2, q2, q⟩ := R.bind_eq q
    refine ⟨O ++ P0, θ, S, ρ, d, S1, s.sim, s.rep, q1, fun v H1 θ1 s1 e1 r1 => ?_⟩
    split at q
    · rename_i k
      have mid : ∃ a, σ[i]? = some (some (.ref a)) ∧ ∀ H2 θ2, Sim X.K cn (O ++ P0) H2 θ2 S2 → Evo H1 θ1 H2 θ2 → ∃ xs ds es, H2 a = some (.lst xs) ∧ Reps X.K cn (O ++ P0) H2 θ2 xs ds ∧ kSet k d ds = some es ∧
          ∀ ys E, Reps X.K cn (O ++ P0) H2 θ2 ys es → PostS X.K cn P0 O H2 θ2 o S' E → E.nx σ (upd H2 a (.lst ys)) := by
        have hσ : ∃ a, σ[i]? = some (some (.ref a)) := by
          unfold modAt at q
          split at q
          · rename_i es hi
            obtain ⟨w, hw, sr⟩ := s.rep.at_ i _ hi
            cases sr with
            | own m h rs => exact ⟨_, hw⟩
          · rename_i j hi
            obtain ⟨w, hw, sr⟩ := s.rep.at_ i _ hi
            cases sr with
            | val r0 => cases r0 with
              | obj h => exact ⟨_, hw⟩
          · cases q
        obtain ⟨a, ha⟩ := hσ
        refine ⟨a, ha, fun H2 θ2 s2 e2 => ?_⟩
        obtain ⟨a', xs, ds, es, hva, hxa, rs, hk, fin⟩ := modAt_ok ((s.evo s1 e1).evo s2 e2) q
        rw [ha] at hva
        cases hva
        exact ⟨xs, ds, es, hxa, rs, hk, fin⟩
      obtain ⟨a, hva, fin⟩ := mid
      refine ⟨.ref a, hva, O ++ P0, θ1, S1, ρ, .int k, S2, s1, s.rep.evo s.sim e1, q2, fun w H2 θ2 s2 e2 r2 => ?_⟩
      obtain ⟨xs, ds, es, hxa, rs, hk, fin⟩ := fin H2 θ2 s2 e2
      obtain rfl := r2.vint
      unfold kSet at hk
      split at hk
      · rename_i j hj
        cases hk
        exact ⟨a, xs, k, j, rfl, rfl, hxa, by rw [rs.length]; exact hj, fin _ E (rs.set j (r1.evo e2)) (p.at_ (e1.trans e2).s)⟩
      · cases hk
    · cases q⟩
/-- x.append(y.pop(e)) -/
def kPop (k : Int) (ds : List D) : Option (D × List D) := match ixN ds.length k with
  | some j => match ds[j]? with
    | some d => some (d, ds.eraseIdx j)
    | none => none
  | none => none
end
end DL

set_option Elab.async false
set_option linter.all false
set_option maxRecDepth 100000
set_option maxHeartbeats 4000000
set_option autoImplicit false
namespace DL
open PySem PySem.Spec PyProof.Rows L2

/-! ### x.append(y.pop(e)) -/
section
variable {X : Cx} {cn : Nat → Addr}
theorem lookL_reps {K : PySem.W.Frag} {P : List Addr} {H : Hp} {θ : List Addr} {S : Sto} {σ : L2.St} {ρ : Rho} {i : Nat} {ds : List D} (s : Sim K cn P H θ S) (r : RepE K cn P H θ σ ρ) (e : lookL i ρ S = some ds) :
    ∃ a xs, σ[i]? = some (some (.ref a)) ∧ H a = some (.lst xs) ∧ Reps K cn P H θ xs ds ∧ (a ∈ P ∨ a ∈ θ) := by
  unfold lookL at e
  split at e
  · rename_i es hi
    cases e
    obtain ⟨v, hv, sr⟩ := r.at_ i _ hi
    cases sr with
    | own m h rs => exact ⟨_, _, hv, h, rs, .inl m⟩
  · rename_i j hi
    obtain ⟨v, hv, sr⟩ := r.at_ i _ hi
    cases sr with
    | val r0 =>
      obtain ⟨a, xs, rfl, ha, hx, rs⟩ := (RepB.of r0).vobj s (objOf_eq e)
      exact ⟨a, xs, hv, hx, rs, .inr (List.mem_of_getElem? ha)⟩
  · cases e
theorem Rep.put {K : PySem.W.Frag} {P : List Addr} {H : Hp} {θ : List Addr} {a : Addr} {o : HO} {v : V} {d : D} (m : a ∈ P ∨ a ∈ θ) (r : Rep K cn P H θ v d) : Rep K cn P (upd H a o) θ v d := by
  rcases m with m | m
  · exact r.mine m
  · exact r.evo ⟨fun b u e n => ⟨at_mine m e n, n⟩, fun _ _ e => e⟩
def sAppPop (i j : Nat) (f : DX) : DS := fun ρ S => match lookL i ρ S, lookL j ρ S with
  | some _, some _ => (f ρ S).bind fun e S1 => match e with
    | .int k => if lt63 k then match lookL j ρ S1 with
      | some ds => match kPop k ds with
        | some (d, es) => (modAt j (fun _ => some es) ρ S1).bind fun o S2 => match o with
          | .next ρ2 => modAt i (kApp S2 d) ρ2 S2
          | _ => .stuck
        | none => .stuck
      | none => .stuck
      else .stuck
    | _ => .stuck
  | _, _ => .stuck
theorem modAt_next {i : Nat} {k : List D → Option (List D)} {ρ : Rho} {S S' : Sto} {o : Out} (q : modAt i k ρ S = .ok o S') : ∃ ρ', o = .next ρ' := by
  unfold modAt at q
  split at q
  · split at q
    · cases q; exact ⟨_, rfl⟩
    · cases q
  · split at q
    · split at q
      · cases q; exact ⟨_, rfl⟩
      · cases q
    · cases q
  · cases q
theorem ds_appPop (i j : Nat) {x y : Str} {e : Expr} {f : DX} {px py apos apos2 cpos cpos2 pos : Pos} (he : DE X cn e f) (hN : X.N[i]? = some x := by rfl) (hN2 : X.N[j]? = some y := by rfl)
    (hv : Vis X.env.scope x := by first | exact Or.inl rfl | exact Or.inr (Or.inl rfl) | exact Or.inr (Or.inr rfl)) (hv2 : Vis X.env.scope y := by first | exact Or.inl rfl | exact Or.inr (Or.inl rfl) | exact Or.inr (Or.inr rfl))
    (hd : (x == ("__debug__" : Str)) = false := by decide) (hcd : (x == ("__classdict__" : Str)) = false := by decide) (hd2 : (y == ("__debug__" : Str)) = false := by decide) (hcd2 : (y == ("__classdict__" : Str)) = false := by decide)
    (hs : swapsWith (.Call (.Attribute (.Name x px) "append" apos) [.Call (.Attribute (.Name y py) "pop" apos2) [e] [] cpos2] [] cpos) none pos.line X.env = pure false := by rfl)
    (hbase : attributeBase (.Name x px) "append" X.env (eval (.Name x px) X.env) = eval (.Name x px) X.env := by rfl)
    (hfew : ((backTo cpos (starEach [.Call (.Attribute (.Name y py) "pop" apos2) [e] [] cpos2] X.env)).all (fun x => !x.1) && (backToKw cpos (keywordEach [] X.env)).all (fun x => x.1.isSome) && decide ([Expr.Call (.Attribute (.Name y py) "pop" apos2) [e] [] cpos2].length + ([] : List Keyword).length + (if ([] : List Keyword).isEmpty then 0 else 1) < 30)) = true := by rfl)
    (hline : (apos.endLine == cpos.line) = true := by rfl) (h1 : starEach [.Call (.Attribute (.Name y py) "pop" apos2) [e] [] cpos2] X.env = (false, eval (.Call (.Attribute (.Name y py) "pop" apos2) [e] [] cpos2) X.env) :: starEach [] X.env := by rfl) (hpl : (backTo cpos (starEach [] X.env)).any (·.1) = false := by rfl)
    (hbase2 : attributeBase (.Name y py) "pop" X.env (eval (.Name y py) X.env) = eval (.Name y py) X.env := by rfl)
    (hfew2 : ((backTo cpos2 (starEach [e] X.env)).all (fun x => !x.1) && (backToKw cpos2 (keywordEach [] X.env)).all (fun x => x.1.isSome) && decide ([e].length + ([] : List Keyword).length + (if ([] : List Keyword).isEmpty then 0 else 1) < 30)) = true := by rfl)
    (hline2 : (apos2.endLine == cpos2.line) = true := by rfl) (h12 : starEach [e] X.env = (false, eval e X.env) :: starEach [] X.env := by rfl) (hpl2 : (backTo cpos2 (starEach [] X.env)).any (·.1) = false := by rfl) :
    DSt X cn (.Expr (.Call (.Attribute (.Name x px) "append" apos) [.Call (.Attribute (.Name y py) "pop" apos2) [e] [] cpos2] [] cpos) pos) (sAppPop i j f) :=
  ⟨(ps_expr (pe_bm F.plainAttrs_list F.slot_list_append F.type_list_append mt_append (pe_var hN hv hd hcd) (pa_cons (pe_bm F.plainAttrs_list F.slot_list_pop F.type_list_pop mt_popAt (pe_var hN2 hv2 hd2 hcd2) (pa_cons he.pe pa_nil h12) hbase2 hfew2 hline2 h12 hpl2) pa_nil h1) hbase hfew hline h1 hpl) hs).weak
      fun E σ H ⟨P0, O, θ, S, ρ, o, S', s, q, p⟩ => by
    unfold sAppPop at q
    split at q
    · rename_i ds1 ds2 l1 l2
      obtain ⟨d1, S1, q1, q⟩ := R.bind_eq q
      split at q
      · rename_i k
        split at q
        · rename_i hk63
          obtain ⟨k1, k2⟩ := lt63_ok hk63
          split at q
          · rename_i ds hl
            split at q
            · rename_i d es hpop
              obtain ⟨o2, S2, q2, q9⟩ := R.bind_eq q
              obtain ⟨ρ2, rfl⟩ := modAt_next q2
              obtain ⟨a1, xs1, hv1, hx1⟩ := lookL_rep s.sim s.rep l1
              obtain ⟨a2, xs2, hv2, hx2⟩ := lookL_rep s.sim s.rep l2
              refine ⟨.ref a1, hv1, tL hx1, .ref a2, hv2, tL hx2, O ++ P0, θ, S, ρ, .int k, S1, s.sim, s.rep, q1, fun v H1 θ1 s1 e1 r1 => ?_⟩
              obtain rfl := r1.vint
              have st1 := s.evo s1 e1
              obtain ⟨a, xs, g1, g2, g3, g4⟩ := lookL_reps s1 st1.rep hl
              rw [hv2] at g1
              cases g1
              obtain ⟨a', xs', ds', es', b1, b2, b3, b4, fin⟩ := modAt_ok st1 q2
              rw [hv2] at b1
              cases b1
              rw [g2] at b2
              cases b2
              cases b4
              unfold kPop at hpop
              split at hpop
              · rename_i ix hix
                split at hpop
                · rename_i dd hdd
                  cases hpop
                  obtain ⟨y0, hy0, ry0⟩ := g3.get hdd
                  obtain ⟨z1, _, _, _⟩ := ixN_seq hix
                  refine ⟨a2, xs, k, ix, y0, rfl, rfl, g2, k1, k2, by rw [g3.length]; exact z1, hy0, ?_⟩
                  refine fin _ { E with nx := fun σ0 H0 => σ0 = σ → rAppend (.ref a1) [y0] H0 fun _ H9 => E.nx σ H9 } (g3.eraseIdx ix) (fun O2 σ2 H2 θ2 st2 ev2 eσ => ?_) rfl
                  subst eσ
                  obtain ⟨a3, ys, ds3, es3, c1, c2, c3, c4, fin2⟩ := modAt_ok st2 q9
                  rw [hv1] at c1
                  cases c1
                  unfold kApp at c4
                  split at c4
                  · rename_i hz
                    cases c4
                    exact ⟨a1, ys, y0, rfl, rfl, c2, by rw [c3.length]; exact fits_ok hz, fin2 _ E (c3.append (.cons (ry0.evs ev2) .nil)) (PostS.at_ p (e1.s.trans ev2))⟩
                  · cases c4
                · cases hpop
              · cases hpop
            · cases q
          · cases q
        · cases q
      · cases q
    · cases q⟩
end

/-! ### calls of one's own defs -/
abbrev DFn := List D → Sto → R D
def spD (K : PySem.W.Frag) (cn : Nat → Addr) (n : Nat) (g : DFn) : Sp := fun vs H Q _ => vs.length = n ∧ ∃ P θ S ds d S', Sim K cn P H θ S ∧ Reps K cn P H θ vs ds ∧ g ds S = .ok d S' ∧ Post K cn P H θ d S' Q
def fnD (m : Nat) (h : DS) : DFn := fun ds S => (h (ds.map Slot.val ++ List.replicate m .non) S).bind fun o S1 => match o with
  | .ret d => .ok d S1
  | .next _ => .ok .non S1
  | _ => .stuck
/-- a def of the module that may be called by its name -/
structure DFun (P : Program) (w : World) (K : PySem.W.Frag) (mg : Str → Option Value) (base : Heap) (cn : Nat → Addr) (k : Nat) (x : Str) (params : Arguments) (body : List Stmt) (scope : Scope) (ps : List Str) (g : DFn) : Prop where
  ex : ∃ f fd, FnOk P w K mg base CX0 k f fd ps (spD K cn ps.length g) ∧ mg x = some (.ref f) ∧ FunD K x x params body scope [] [] f fd ∧ Binds K fd ps []
section
variable {P : Program} {w : World} {K : PySem.W.Frag} {mg : Str → Option Value} {base : Heap} {cn : Nat → Addr} {k : Nat} {x qual : Str} {params : Arguments} {body : List Stmt} {scope : Scope} {kws : List (Str × V)} {f : Addr} {fd : FuncData} {N ps : List Str}
theorem rep_start {P0 : List Addr} {H : Hp} {θ : List Addr} {vs : List V} {ds : List D} {S : Sto} (m : Nat) (s : Sim K cn P0 H θ S) (r : Reps K cn P0 H θ vs ds) : Stt K cn P0 [] H θ S (vs.map some ++ List.replicate m none) (ds.map Slot.val ++ List.replicate m .non) := by
  have noOwn : ∀ (j : Nat) (es : List D), (ds.map Slot.val ++ List.replicate m Slot.non)[j]? ≠ some (.own es) := fun j es h => by
    rcases List.mem_append.mp (List.mem_of_getElem? h) with z | z
    · obtain ⟨d, _, e⟩ := List.mem_map.mp z
      cases e
    · have e := List.eq_of_mem_replicate z
      cases e
  refine ⟨s, ⟨by simp [r.length], fun i t h => ?_, fun i j es1 es2 a h1 => absurd h1 (noOwn i es1)⟩, fun i es a h1 => absurd h1 (noOwn i es), nofun⟩
  by_cases hi : i < ds.length
  · rw [List.getElem?_append_left (by simpa using hi), List.getElem?_map] at h
    rw [List.getElem?_eq_getElem hi] at h
    cases h
    obtain ⟨v, hv, rv⟩ := r.get (List.getElem?_eq_getElem hi)
    refine ⟨some v, ?_, .val rv⟩
    rw [List.getElem?_append_left (by simpa [r.length] using hi), List.getElem?_map, hv]
    rfl
  · have h0 := h
    rw [List.getElem?_append_right (by simpa using hi)] at h
    have hm : i - ds.length < m := by
      have z := (List.getElem?_eq_some_iff.mp h).1
      simpa using z
    rw [List.length_map, List.getElem?_replicate, if_pos hm] at h
    cases h
    refine ⟨none, ?_, .non⟩
    rw [List.getElem?_append_right (by simpa [r.length] using hi), List.length_map, r.length, List.getElem?_replicate, if_pos hm]
theorem fn_ok {g : DS} (F : FunD K x qual params body scope [] kws f fd) (S : FnScope N ps scope)
    (hb : ∀ (cdv : Value) (A : Around) (outer : List Env) (s : Shared) (H : Hp) (E : XK), Room k (A.deeper (envOfC qual scope s.heap.objs.size f cdv)) → DSs (cxOf CX0 P w K mg base N qual scope f cdv A outer s H E).nox cn body g) :
    FnOk P w K mg base CX0 (k + 1) f fd ps (spD K cn ps.length (fnD (N.length - ps.length) g)) := by
  refine F.ok S (fun vs H Q E h => h.1) fun cdv A outer s H vs Q E hr hsp => ⟨tDS K cn g, PSs.nox (hb cdv A outer s H E hr).ps, ?_⟩
  obtain ⟨hl, P0, θ, S0, ds, d, S', sm, rs, q, p⟩ := hsp
  obtain ⟨o, S1, q1, q⟩ := R.bind_eq q
  refine ⟨P0, [], θ, S0, _, o, S1, ?_, q1, ?_⟩
  · have z := rep_start (N.length - vs.length) sm rs
    have e : start N vs = vs.map some ++ List.replicate (N.length - vs.length) none := rfl
    rw [e, ← hl]
    exact z
  · have toEvo : ∀ {O' : List Addr} {H' : Hp} {θ' : List Addr}, EvS [] H θ O' H' θ' → Evo H θ H' θ' := fun e => ⟨fun a o h n => ⟨(e.keep a o h n (by simp)).1, (e.keep a o h n (by simp)).2.1⟩, e.pre⟩
    cases o with
    | ret d1 =>
      cases q
      exact fun v O' H' θ' s' e' r' => p v H' θ' s' (toEvo e') r'
    | next ρ1 =>
      cases q
      exact fun O' σ' H' θ' st' e' => p .non H' θ' st'.sim.lessO (toEvo e') .non
    | brk ρ1 => cases q
    | cont ρ1 => cases q
theorem fn_stuck : FnOk P w K mg base CX0 k f fd ps (spD K cn ps.length fun _ _ => .stuck) := by
  refine ⟨fun vs H Q E h => h.1, fun A outer s H args us vs Q E hr he hb hv hs => ?_⟩
  obtain ⟨_, _, _, _, _, _, _, _, _, q, _⟩ := hs
  cases q
theorem DFun.mono {j : Nat} {g : DFn} (F : DFun P w K mg base cn j x params body scope ps g) (h : j ≤ k) : DFun P w K mg base cn k x params body scope ps g := by
  obtain ⟨f, fd, F1, r⟩ := F.ex
  exact ⟨f, fd, F1.mono h, r⟩
end
/-! ### keywords -/
structure DK (X : Cx) (cn : Nat → Addr) (kws : List Keyword) (f : DXs) : Prop where
  pk : PK X kws (tDA X.K cn f)
def kwG (ix : List Nat) {α : Type} (us ws : List α) : List α := ix.filterMap fun i => (us ++ ws)[i]?
theorem kwG_rel {vs zs : List V} {us ws : List Value} (a : Vals vs us) (b : Vals zs ws) : ∀ ix : List Nat, Vals (kwG ix vs zs) (kwG ix us ws)
  | [] => .nil
  | i :: ix => by
    have ab := a.append b
    have ih := kwG_rel a b ix
    unfold kwG at ih ⊢
    rw [List.filterMap_cons, List.filterMap_cons]
    cases e : (vs ++ zs)[i]? with
    | none =>
      have e2 : (us ++ ws)[i]? = none := by
        rw [List.getElem?_eq_none_iff] at e ⊢
        rw [← ab.length]
        exact e
      rw [e2]
      exact ih
    | some v =>
      obtain ⟨u, hu, ru⟩ := ab.get e
      rw [hu]
      exact .cons ru ih
theorem kwG_reps {K : PySem.W.Frag} {cn : Nat → Addr} {P : List Addr} {H : Hp} {θ : List Addr} {vs zs : List V} {ds es : List D} (a : Reps K cn P H θ vs ds) (b : Reps K cn P H θ zs es) : ∀ ix : List Nat, Reps K cn P H θ (kwG ix vs zs) (kwG ix ds es)
  | [] => .nil
  | i :: ix => by
    have ab := a.append b
    have ih := kwG_reps a b ix
    unfold kwG at ih ⊢
    rw [List.filterMap_cons, List.filterMap_cons]
    cases e : (ds ++ es)[i]? with
    | none =>
      have e2 : (vs ++ zs)[i]? = none := by
        rw [List.getElem?_eq_none_iff] at e ⊢
        rw [ab.length]
        exact e
      rw [e2]
      exact ih
    | some v =>
      obtain ⟨u, hu, ru⟩ := ab.get e
      rw [hu]
      exact .cons ru ih
section
variable {X : Cx} {cn : Nat → Addr} {k j n : Nat} {x : Str} {params : Arguments} {body : List Stmt} {scope : Scope} {ps : List Str} {g : DFn} {e : Expr} {es : List Expr} {p pos : Pos} {fs ks : DXs}
def xFn (g : DFn) (fs : DXs) : DX := fun ρ S => (fs ρ S).bind g
theorem fn_weak {K : PySem.W.Frag} {σ : L2.St} {H : Hp} {Q : VK} {n m : Nat} [hn : XsN fs m] (hnm : m = n) (h : tD K cn (xFn g fs) σ H Q) : tCall (spD K cn n g) [] E0 (tDA K cn fs) σ H Q := by
  obtain ⟨P, θ, S, ρ, d, S', s, r, q, p⟩ := h
  obtain ⟨ds, S1, q1, q⟩ := R.bind_eq q
  refine ⟨P, θ, S, ρ, ds, S1, s, r, q1, fun vs H1 θ1 s1 e1 rs => ⟨?_, P, θ1, S1, ds, d, S', s1, ?_, q, p.at_ e1⟩⟩
  · rw [List.append_nil, rs.length, hn.len _ _ _ _ q1, hnm]
  · rw [List.append_nil]
    exact rs
theorem de_call {m : Nat} [hn : XsN fs m] (F : DFun X.prog X.w X.K X.mg X.base cn k x params body scope ps g) (hr : Room j X.A) (ha : DA X cn (e :: es) fs) (hk : k ≤ j := by omega) (hnm : m = ps.length := by rfl) (hg : Gl X x := by rfl)
    (hdb : (x == ("__debug__" : Str)) = false := by decide) (he : starEach (e :: es) X.env = (false, eval e X.env) :: starEach es X.env := by rfl) (hpl : (backTo pos (starEach es X.env)).any (·.1) = false := by rfl) :
    DE X cn (.Call (.Name x p) (e :: es) [] pos) (xFn g fs) := by
  obtain ⟨f, fd, F1, hm, F2, hb⟩ := F.ex
  exact ⟨(pe_call F1 (hr.mono hk) hg hm F2.kp hb .nil pass0 ha.pa hdb he hpl).weak fun σ H Q h => fn_weak hnm h⟩
theorem de_call0 (F : DFun X.prog X.w X.K X.mg X.base cn k x params body scope ps g) (hr : Room j X.A) (hk : k ≤ j := by omega) (hnm : 0 = ps.length := by rfl) (hg : Gl X x := by rfl)
    (hdb : (x == ("__debug__" : Str)) = false := by decide) : DE X cn (.Call (.Name x p) [] [] pos) (xFn g xsNil) := by
  obtain ⟨f, fd, F1, hm, F2, hb⟩ := F.ex
  exact ⟨(pe_call0 F1 (hr.mono hk) hg hm F2.kp hb .nil pass0 hdb).weak fun σ H Q ⟨P, θ, S, ρ, d, S', s, r, q, p⟩ => ⟨hnm, P, θ, S, [], d, S', s, .nil, q, p⟩⟩
theorem dk_nil : DK X cn [] xsNil := ⟨⟨fun pos pins s σ H Q I ⟨P, θ, S, ρ, d, S', sm, r, q, p⟩ => by
  cases q
  exact pk_nil.run pos pins s σ H Q I (p [] H θ sm Evo.refl .nil)⟩⟩
theorem dk_cons {kws : List Keyword} {f : DX} {nm : Option Str} {kpos : Pos} (h : DE X cn e f) (t : DK X cn kws ks) : DK X cn (⟨nm, e, kpos⟩ :: kws) (xsCons f ks) := ⟨⟨fun pos pins s σ H Q I ⟨P, θ, S, ρ, d, S', sm, r, q, p⟩ => by
  obtain ⟨d1, S1, q1, q⟩ := R.bind_eq q
  obtain ⟨ds, S2, q2, q⟩ := R.bind_eq q
  cases q
  refine (pk_cons h.pe t.pk).run pos pins s σ H Q I ⟨P, θ, S, ρ, d1, S1, sm, r, q1, fun v H1 θ1 s1 e1 r1 => ?_⟩
  refine ⟨P, θ1, S1, ρ, ds, S', s1, r.evo sm e1, q2, fun xs H2 θ2 s2 e2 r2 => ?_⟩
  exact p _ H2 θ2 s2 (e1.trans e2) (.cons (r1.evo e2) r2)⟩⟩
def xFnK (ix : List Nat) (g : DFn) (fs ks : DXs) : DX := fun ρ S => (fs ρ S).bind fun ds S1 => (ks ρ S1).bind fun es S2 => g (kwG ix ds es) S2
theorem kbn_of {K : PySem.W.Frag} {f : Addr} {fd : FuncData} {kn : List Str} (F : FunD K x x params body scope [] [] f fd) (ix : List Nat)
    (hbind : ∀ (kV doc pm : Value) (an : Option Addr) (cdv ct : Value) (us ws : List Value), us.length = n → ws.length = kn.length → bindArgs (PySem.W.fnOf x x params body scope .none kV doc pm an cdv ct) ⟨us, kn.zip ws⟩ = pure (ps.zip (kwG ix us ws))) :
    KBn K fd ps n kn (fun us ws => kwG ix us ws) (fun vs zs => kwG ix vs zs) := by
  obtain ⟨oc, od, dV, kV, doc, pm, an, cdv, ct, osl, rfl, lk, hcd, hD, hK⟩ := F.ex
  rcases hD with ⟨_, rfl⟩ | ⟨e, _⟩
  · exact ⟨fun s us ws _ h1 h2 => .of_eq (hbind kV doc pm an cdv ct us ws h1 h2), fun a b => kwG_rel a b ix⟩
  · exact absurd rfl e
/-- f(k = v, ..) -/
theorem pe_callN0 {CX : CXT} {f : Addr} {fd : FuncData} {kn : List Str} {sp : Sp} {E : XK} {kws : List Keyword} {tk : TA} {g : List Value → List Value → List Value} {gV : List V → List V → List V} (F : FnOk X.prog X.w X.K X.mg X.base CX k f fd ps sp) (hr : Room k X.A) (hg : Gl X x) (hm : X.mg x = some (.ref f)) (hk : PySem.W.keepIn X.K (.ref f) = true) (hb : KBn X.K fd ps 0 kn g gV) (hx : Passes CX X E)
    (hkw : PK X kws tk) (hall : (backToKw pos (keywordEach kws X.env)).all (·.1.isSome) = true) (hks : (backToKw pos (keywordEach kws X.env)).filterMap (·.1) = kn)
    (hdb : (x == ("__debug__" : Str)) = false) (hpl : ((backTo pos (starEach [] X.env)).any (·.1) || (backToKw pos (keywordEach kws X.env)).any (·.1.isNone)) = false) :
    PE X (.Call (.Name x p) [] kws pos) (tCallN 0 kn.length sp gV E tNil tk) := by
  refine ⟨fun pins s σ H Q I goal => ?_⟩
  refine wpAny_Call_Name_kw (ld_glob I hg hm ?_ hdb)
  refine PySem.W.callWith_KW0 (h₀ := X.base) I.ok.mod.kin hk hall (thn (hkw.run pos pins s σ H _ I goal) fun ws s2 ⟨zs, H2, I2, rz, l1, l2, q2⟩ => ⟨I2.kIn, ?_⟩) hpl
  rw [hks]
  exact run_fnN (us := []) (vs := []) F hr hb hx I2 .nil rz rfl l2 q2
theorem fnK_weak {K : PySem.W.Frag} {σ : L2.St} {H : Hp} {Q : VK} {m1 m2 n2 : Nat} {ix : List Nat} [h1 : XsN fs m1] [h2 : XsN ks m2] (e1 : m1 = n) (e2 : m2 = n2) (hlen : ∀ {α : Type} (us ws : List α), us.length = n → ws.length = n2 → (kwG ix us ws).length = ps.length) (h : tD K cn (xFnK ix g fs ks) σ H Q) :
    tCallN n n2 (spD K cn ps.length g) (fun vs zs => kwG ix vs zs) E0 (tDA K cn fs) (tDA K cn ks) σ H Q := by
  obtain ⟨P, θ, S, ρ, d, S', s, r, q, p⟩ := h
  obtain ⟨ds, S1, q1, q⟩ := R.bind_eq q
  obtain ⟨es, S2, q2, q⟩ := R.bind_eq q
  refine ⟨P, θ, S, ρ, ds, S1, s, r, q1, fun vs H1 θ1 s1 ev1 rs => ?_⟩
  refine ⟨P, θ1, S1, ρ, es, S2, s1, r.evo s ev1, q2, fun zs H2 θ2 s2 ev2 rz => ?_⟩
  have l1 : vs.length = n := by rw [rs.length, h1.len _ _ _ _ q1, e1]
  have l2 : zs.length = n2 := by rw [rz.length, h2.len _ _ _ _ q2, e2]
  exact ⟨l1, l2, hlen vs zs l1 l2, P, θ2, S2, kwG ix ds es, d, S', s2, kwG_reps (rs.evo ev2) rz ix, q, p.at_ (ev1.trans ev2)⟩
theorem de_callK {m1 m2 : Nat} {kws : List Keyword} {kn : List Str} [h1 : XsN fs m1] [h2 : XsN ks m2] (ix : List Nat) (F : DFun X.prog X.w X.K X.mg X.base cn k x params body scope ps g) (hr : Room j X.A) (ha : DA X cn (e :: es) fs) (hkw : DK X cn kws ks)
    (hbind : ∀ (kV doc pm : Value) (an : Option Addr) (cdv ct : Value) (us ws : List Value), us.length = m1 → ws.length = kn.length → bindArgs (PySem.W.fnOf x x params body scope .none kV doc pm an cdv ct) ⟨us, kn.zip ws⟩ = pure (ps.zip (kwG ix us ws)))
    (hlen : ∀ {α : Type} (us ws : List α), us.length = m1 → ws.length = kn.length → (kwG ix us ws).length = ps.length) (hk : k ≤ j := by omega) (e2 : m2 = kn.length := by rfl) (hg : Gl X x := by rfl)
    (hall : (backToKw pos (keywordEach kws X.env)).all (·.1.isSome) = true := by rfl) (hks : (backToKw pos (keywordEach kws X.env)).filterMap (·.1) = kn := by rfl)
    (hdb : (x == ("__debug__" : Str)) = false := by decide) (he : starEach (e :: es) X.env = (false, eval e X.env) :: starEach es X.env := by rfl)
    (hpl : ((backTo pos (starEach (e :: es) X.env)).any (·.1) || (backToKw pos (keywordEach kws X.env)).any (·.1.isNone)) = false := by rfl) :
    DE X cn (.Call (.Name x p) (e :: es) kws pos) (xFnK ix g fs ks) := by
  obtain ⟨f, fd, F1, hm, F2, _⟩ := F.ex
  exact ⟨(pe_callN F1 (hr.mono hk) hg hm F2.kp (kbn_of F2 ix hbind) pass0 ha.pa hkw.pk hall hks hdb he hpl).weak fun σ H Q h => fnK_weak rfl e2 hlen h⟩
theorem de_callK0 {m2 : Nat} {kws : List Keyword} {kn : List Str} [h2 : XsN ks m2] (ix : List Nat) (F : DFun X.prog X.w X.K X.mg X.base cn k x params body scope ps g) (hr : Room j X.A) (hkw : DK X cn kws ks)
    (hbind : ∀ (kV doc pm : Value) (an : Option Addr) (cdv ct : Value) (us ws : List Value), us.length = 0 → ws.length = kn.length → bindArgs (PySem.W.fnOf x x params body scope .none kV doc pm an cdv ct) ⟨us, kn.zip ws⟩ = pure (ps.zip (kwG ix us ws)))
    (hlen : ∀ {α : Type} (us ws : List α), us.length = 0 → ws.length = kn.length → (kwG ix us ws).length = ps.length) (hk : k ≤ j := by omega) (e2 : m2 = kn.length := by rfl) (hg : Gl X x := by rfl)
    (hall : (backToKw pos (keywordEach kws X.env)).all (·.1.isSome) = true := by rfl) (hks : (backToKw pos (keywordEach kws X.env)).filterMap (·.1) = kn := by rfl)
    (hdb : (x == ("__debug__" : Str)) = false := by decide) (hpl : ((backTo pos (starEach [] X.env)).any (·.1) || (backToKw pos (keywordEach kws X.env)).any (·.1.isNone)) = false := by rfl) :
    DE X cn (.Call (.Name x p) [] kws pos) (xFnK ix g xsNil ks) := by
  obtain ⟨f, fd, F1, hm, F2, _⟩ := F.ex
  refine ⟨(pe_callN0 F1 (hr.mono hk) hg hm F2.kp (kbn_of F2 ix hbind) pass0 hkw.pk hall hks hdb hpl).weak fun σ H Q h => ?_⟩
  obtain ⟨P, θ, S, ρ, ds, S1, s, r, q, p⟩ := fnK_weak (fs := xsNil) rfl e2 hlen h
  cases q
  exact p [] H θ s Evo.refl .nil
end
end DL

set_option Elab.async false
set_option linter.all false
set_option maxRecDepth 100000
set_option maxHeartbeats 4000000
set_option autoImplicit false
namespace DL
open PySem PySem.Spec PyProof.Rows L2

theorem _root_.L2.Room.u150 {k : Nat} {A : Around} (r : Room k A) : A.units + 150 < cLine := by
  have z := r.un
  omega
section
variable {K : PySem.W.Frag} {X : Cx} {cn : Nat → Addr}
/-! ### the weakenings by themselves -/
theorem zV_weak {f : DX} {σ : L2.St} {H : Hp} {Q : VK} (h : tDZ K cn (zV f) σ H Q) : tD K cn f σ H Q := by
  obtain ⟨P, θ, S, ρ, t, S', s, r, q, p⟩ := h
  obtain ⟨d, S1, q1, q⟩ := R.bind_eq q
  cases q
  exact ⟨P, θ, S, ρ, d, S', s, r, q1, fun v H1 θ1 s1 e1 r1 => p v [] H1 θ1 s1 e1.z ⟨.val r1, nofun, nofun⟩⟩
theorem ofZ_weak {f : DXz} {σ : L2.St} {H : Hp} {Q : VK} (h : tD K cn (xOfZ f) σ H Q) : tDZ K cn f σ H Q := by
  obtain ⟨P, θ, S, ρ, d, S', s, r, q, p⟩ := h
  obtain ⟨t, S1, q1, q⟩ := R.bind_eq q
  refine ⟨P, θ, S, ρ, t, S1, s, r, q1, fun v O1 H1 θ1 s1 e1 ⟨z, _, m⟩ => ?_⟩
  have sub : ∀ p ∈ P, p ∈ O1 ++ P := fun p hp => List.mem_append_right _ hp
  have ev : Evo H θ H1 θ1 := ⟨fun b o hb nb => ⟨(e1.keep b o hb nb (by simp)).1, (e1.keep b o hb nb (by simp)).2.1⟩, e1.pre⟩
  cases z with
  | non => cases q
  | val z =>
    cases q
    exact p _ H1 θ1 (s1.sub sub) ev (z.less sub)
  | @own a xs ds ha hx rs =>
    cases q
    have hm := m _ a rfl rfl
    have hP : a ∉ P := fun hp => by
      obtain ⟨n, o, q⟩ := s.pf a hp
      exact (e1.keep a o q n (by simp)).2.2 hm
    exact p _ H1 θ1 (s1.sub sub) ev (.lst hx (s1.pf a ha).1 hP (rs.less sub))
/-- name = [..] on one line, as a value -/
theorem ds_letLcV (i : Nat) {y : Str} {py : Pos} {elt tg iter : Expr} {ifs : List Expr} {scope : Scope} {pos spos : Pos} {fi : Rho → Sto → R Src} {b : Bool} {g : TgF} {c f : DX} {js : List Nat} (own : List (Str × Nat)) (hc : X.calm = true) (hN : X.N.Nodup) (hi : DI b X cn tg iter fi)
    (ok : BlkOk X.N X.env.scope scope own) (hj : ∀ j ∈ js, j ∈ own.map (·.2)) (hg : ∀ (s : Shared) (H : Hp) (C : Addr) (cl : List (Str × Addr)) (fp : List Addr), DG (X.blk s H scope (compEnvC scope cl C X.env) fp) cn js tg g)
    (ht : ∀ (s : Shared) (H : Hp) (C : Addr) (cl : List (Str × Addr)) (fp : List Addr), DTs (X.blk s H scope (compEnvC scope cl C X.env) fp) cn ifs c) (he : ∀ (s : Shared) (H : Hp) (C : Addr) (cl : List (Str × Addr)) (fp : List Addr), DE (X.blk s H scope (compEnvC scope cl C X.env) fp) cn elt f)
    (hy : X.N[i]? = some y := by rfl) (hyl : X.env.scope.names.lookup y = some .local := by rfl) (hsw : swapsWith (.ListComp elt [⟨tg, iter, ifs, 0⟩] scope pos) (some (.Name y py)) spos.line X.env = pure true := by rfl) (hs : ∀ x, foldedSetIterable iter X.env x = pure x := by intro _; rfl) :
    DSt X cn (.Assign [.Name y py] (.ListComp elt [⟨tg, iter, ifs, 0⟩] scope pos) spos) (sLet i (zV (xOfZ (zL (xsLc fi g c f (own.map (·.2))))))) :=
  ⟨(ps_setLc (i := i) hc hN hy hyl hsw hi.pi ok (fun s H C cl fp => (hg s H C cl fp).pg) (fun s H C cl fp => (ht s H C cl fp).pt) (fun s H C cl fp => (he s H C cl fp).pe) hs).weak fun E σ H h => by
    have z := ofZ_weak (zV_weak (tDS_let h))
    exact lc_ok hj z⟩
/-! ### lists from lists -/
/-- a + b, a new list -/
def xsAdd (f g : DX) : DXs := fun ρ S => (f ρ S).bind fun d S1 => (g ρ S1).bind fun e S2 => match d, e with
  | .lst xs, .lst ys => if fits (xs.length + ys.length) then .ok (xs ++ ys) S2 else .stuck
  | _, _ => .stuck
theorem df_add {a b : Expr} {f g : DX} {pos : Pos} (ha : DB X cn a f) (hb : DB X cn b g) : DF X cn (.BinOp a .Add b pos) (xsAdd f g) :=
  ⟨(pe_op op_cat ha.pe hb.pe).weak fun σ H Q ⟨P, θ, S, ρ, ds, S', s, r, q, p⟩ => by
    obtain ⟨d1, S1, q1, q⟩ := R.bind_eq q
    obtain ⟨d2, S2, q2, q⟩ := R.bind_eq q
    refine ⟨P, θ, S, ρ, d1, S1, s, r, q1, fun x H1 θ1 s1 e1 r1 => ?_⟩
    refine ⟨P, θ1, S1, ρ, d2, S2, s1, r.evo s e1, q2, fun y H2 θ2 s2 e2 r2 => ?_⟩
    split at q
    · rename_i xs ys _
      split at q
      · rename_i hz
        cases q
        obtain ⟨a, vs, ea, ha, ra⟩ := (r1.evo e2).vlst
        obtain ⟨b, ws, eb, hb, rb⟩ := r2.vlst
        exact ⟨a, b, vs, ws, ea, eb, ha, hb, by rw [ra.length, rb.length]; exact fits_ok hz, fun l hl => p _ H2 θ2 l s2 (e1.trans e2) (ra.append rb) hl⟩
      · cases q
    · cases q⟩
/-- [.., *x, ..], a new list -/
def xsFit (f : DXs) : DXs := fun ρ S => (f ρ S).bind fun ds S1 => if fits ds.length then .ok ds S1 else .stuck
theorem df_lstS {es : List Expr} {f : DXs} {pos : Pos} (h : DA X cn es f) : DF X cn (.List es pos) (xsFit f) :=
  ⟨(pe_lst h.pa).weak fun σ H Q ⟨P, θ, S, ρ, ds, S', s, r, q, p⟩ => by
    obtain ⟨ds1, S1, q1, q⟩ := R.bind_eq q
    split at q
    · rename_i hz
      cases q
      refine ⟨P, θ, S, ρ, ds, S', s, r, q1, fun xs H1 θ1 s1 e1 r1 => ⟨?_, fun a ha => p xs H1 θ1 a s1 e1 r1 ha⟩⟩
      rw [r1.length]
      exact fits_ok hz
    · cases q⟩
/-- a, b = x, y, where one name is a block's too: the pair is made -/
theorem ds_parC (i j : Nat) {x y : Str} {a b : Expr} {f g : DXz} {px py pt pos : Pos} {kt k2 pt2} (hc : X.calm = true) (hN : X.N.Nodup) (ha : DZ X cn a f) (hb : DZ X cn b g) (hi : X.N[i]? = some x := by rfl) (hj : X.N[j]? = some y := by rfl)
    (hx : Loc X.env.scope x := by first | exact Or.inl rfl | exact Or.inr rfl) (hy : Loc X.env.scope y := by first | exact Or.inl rfl | exact Or.inr rfl)
    (hf : X.fn x = true ∨ X.env.scope.names.lookup x = some .local := by first | exact .inl rfl | exact .inr rfl) (hf2 : X.fn y = true ∨ X.env.scope.names.lookup y = some .local := by first | exact .inl rfl | exact .inr rfl)
    (hs : swapsWithSole [.Tuple [.Name x px, .Name y py] kt pt] (.Tuple [a, b] k2 pt2) pos.line X.env = pure false := by rfl) (hw : swappedStores [.Tuple [.Name x px, .Name y py] kt pt] (.Tuple [a, b] k2 pt2) X.env = pure none := by rfl)
    (h0 : (assignEach [.Tuple [.Name x px, .Name y py] kt pt] X.env).map (·.2) = [assign (.Tuple [.Name x px, .Name y py] kt pt) X.env] := by rfl)
    (hn : (assignEach [.Name x px, .Name y py] X.env).length = 2 := by rfl) (hst : (assignEach [.Name x px, .Name y py] X.env).findIdx? (·.1) = none := by rfl)
    (hs1 : (assignEach [.Name x px, .Name y py] X.env).map (·.2) = assign (.Name x px) X.env :: (assignEach [.Name y py] X.env).map (·.2) := by rfl) (hs2 : (assignEach [.Name y py] X.env).map (·.2) = assign (.Name y py) X.env :: (assignEach [] X.env).map (·.2) := by rfl)
    (h1 : starEach [a, b] X.env = (false, eval a X.env) :: starEach [b] X.env := by rfl) (h2 : starEach [b] X.env = (false, eval b X.env) :: starEach [] X.env := by rfl) :
    DSt X cn (.Assign [.Tuple [.Name x px, .Name y py] kt pt] (.Tuple [a, b] k2 pt2) pos) (sPar i j f g) :=
  ⟨(ps_asg (pe_tup (pa_cons ha.pe (pa_cons hb.pe pa_nil h2) h1)) (pg_tup hc (pgs_cons (pg_name hN hi hx hf) (pgs_cons (pg_name hN hj hy hf2) pgs_nil hs2) hs1) hn hst) hs hw h0).weak fun E σ H ⟨P0, O, θ, S, ρ, o, S', s, q, p⟩ => by
    obtain ⟨t, S1, q1, q⟩ := R.bind_eq q
    obtain ⟨u, S2, q2, q⟩ := R.bind_eq q
    cases q
    refine ⟨O ++ P0, θ, S, ρ, t, S1, s.sim, s.rep, q1, fun v O1 H1 θ1 s1 e1 z1 => ?_⟩
    refine ⟨O1 ++ (O ++ P0), θ1, S1, ρ, u, S', s1, s.rep.evz s.sim e1, q2, fun w O2 H2 θ2 s2 e2 z2 => ⟨small_line (n := 2) (by decide), fun T hT => ⟨T, [v, w], rfl, SqT.of upd_same, rfl, ?_⟩⟩⟩
    have st1 := s.putZ i s1 e1 z1
    have as : (O1 ++ O) ++ P0 = O1 ++ (O ++ P0) := List.append_assoc ..
    have st2 : Stt X.K cn P0 (O2 ++ (O1 ++ O)) H2 θ2 S' ((σ.set i (some v)).set j (some w)) ((ρ.set i t).set j u) := st1.putZ j (by rw [as]; exact s2) e2 (by
      unfold ZRep
      rw [as]
      exact z2)
    have ev2 : EvS O H θ (O2 ++ (O1 ++ O)) H2 θ2 := (e1.z s.sim).trans (EvS.z (K := X.K) (cn := cn) (S := S1) (O := O1 ++ O) (P0 := P0) (by rw [as]; exact s1) e2)
    have evT : Evo H2 θ2 (upd H2 T (.tup [v, w])) θ2 := Evo.fresh hT
    refine ⟨v, [w], rfl, w, [], rfl, rfl, p _ _ _ θ2 (st2.evo (st2.sim.fresh hT) evT) (ev2.trans evT.s)⟩⟩

/-! ### sorted lists of texts -/
def insS (x : Str) : List Str → List Str
  | [] => [x]
  | y :: ys => if strLt y x then y :: insS x ys else x :: y :: ys
def srtS : List Str → List Str
  | [] => []
  | x :: xs => insS x (srtS xs)
end
end DL

set_option Elab.async false
set_option linter.all false
set_option maxRecDepth 100000
set_option maxHeartbeats 4000000
set_option autoImplicit false
namespace DL
open PySem PySem.Spec PyProof.Rows L2
open PySem.Froz

/-! ### sets of texts -/
def XSet (P : Program) (w : World) (h : Heap) (a : Addr) (l : List Str) : Prop :=
  ∃ D : SD, h.get? a = some (sObj "set" D) ∧ TxOk P w D l ∧ Ris D.2.2.place.toList ∧ (w.params.followText "set-order" = true ∨ D.2.2.led = true) ∧ l.Nodup
/-- one more member -/
def putS (k : Str) (l : List Str) : List Str := if k ∈ l then l else k :: l
def putsS : List Str → List Str → List Str
  | [], l => l
  | k :: ks, l => putsS ks (putS k l)
section
variable {P : Program} {w : World} {A : Around} {E : Value → Shared → Prop} {s : Shared} {a : Addr} {l : List Str}
theorem XSet.at_ {h h' : Heap} (R : XSet P w h a l) (k : ∀ o, h.get? a = some o → h'.get? a = some o) : XSet P w h' a l := by
  obtain ⟨D, ho, r⟩ := R
  exact ⟨D, k _ ho, r⟩
theorem putS_nodup {k : Str} (h : l.Nodup) : (putS k l).Nodup := by
  unfold putS
  split
  · exact h
  · exact List.nodup_cons.mpr ⟨by assumption, h⟩
theorem putS_len {k : Str} : (putS k l).length ≤ l.length + 1 := by
  unfold putS
  split
  · omega
  · simp
theorem putS_mem {k x : Str} : x ∈ putS k l ↔ x = k ∨ x ∈ l := by
  unfold putS
  split
  · rename_i h
    exact ⟨.inr, fun z => z.elim (fun e => e ▸ h) id⟩
  · exact List.mem_cons
theorem tail_ris {ep : Nat} {es1 : Array (Int × Value)} {t2 : SetTable} {b : Bool} (r : Ris t2.place.toList) : Ris (tailTx ep es1 t2 b).2.2.place.toList := by
  unfold tailTx
  split
  · exact relayAll_ris t2 es1 _
  · exact r
theorem tail_led {ep : Nat} {es1 : Array (Int × Value)} {t2 : SetTable} {b : Bool} : (tailTx ep es1 t2 b).2.2.led = t2.led := by
  unfold tailTx
  split
  · exact relayAll_led t2 es1 _
  · rfl
theorem addTx_ris {h : Int} {v : Value} {D : SD} (r : Ris D.2.2.place.toList) : Ris (addTx h v D).2.2.place.toList := by
  have z := layNew_ris D.2.2 D.1 h v r
  unfold addTx
  refine tail_ris ?_
  split
  · exact z
  · exact z
theorem addTx_led {h : Int} {v : Value} {D : SD} : (addTx h v D).2.2.led = D.2.2.led := by
  have z := layNew_led D.2.2 D.1 h v
  unfold addTx
  rw [tail_led]
  split
  · exact z
  · exact z
/-- a member is put in again -/
theorem old_x {T : String} {D : SD} {k : Str} {u : Tok} {Q : Bool → Shared → Prop} (ho : s.heap.get? a = some (sObj T D)) (F : TxOk P w D l) (hk : k ∈ l) (hb : l.length < scanBound) (h : Q false s) :
    wpAny (model P w) A (setAddHashed a (.str k u) (hashStr w k)) Q E s := by
  obtain ⟨es, ep, t⟩ := D
  have dat : (sObj T (es, ep, t)).data = .set es ep t := rfl
  have fit1 : t.fits es.size = true := F.fit
  have elem : ElemsOf (strKind P w) es.toList := F.el
  have size1 : es.size = l.length := F.sz
  have few : es.size < scanBound := by omega
  have isk : (strKind P w).is k (.str k u) = true := is_str k u
  obtain ⟨e, he, pe⟩ := (F.mem k).mp hk
  unfold setAddHashed setAddHashedIn
  refine wpAny_holding (wpAny_bind (wpAny_setState_of ho dat fit1 ?_))
  dsimp only
  rw [byScan_of rfl few elem]
  simp only [↓reduceIte]
  unfold setAddByScan
  refine wpAny_bind ?_
  refine wpAny_bind (wpAny_rule ?_)
  refine wpAny_bind (wpAny_setScan_of (knd := strKind P w) (k := k) isk ho dat fit1 elem ?_)
  cases found : List.findIdx? (fun e => (strKind P w).is k e.2) es.toList with
  | none =>
    have z := List.findIdx?_eq_none_iff.mp found e he
    rw [pe] at z
    cases z
  | some j =>
    dsimp only
    exact wpAny_pure (wpAny_pure h)
theorem XSet.add {k : Str} {u : Tok} {Q : Bool → Shared → Prop} (R : XSet P w s.heap a l) (room : l.length + 1 < scanBound)
    (h : ∀ (b : Bool) (h' : Heap), Heap.SameBut a s.heap h' → XSet P w h' a (putS k l) → Q b { s with heap := h' }) : wpAny (model P w) A (setAddHashed a (.str k u) (hashStr w k)) Q E s := by
  obtain ⟨D, ho, F, r, o, nd⟩ := R
  by_cases hk : k ∈ l
  · refine old_x ho F hk (by omega) (h false s.heap (Heap.SameBut.refl a s.heap) ?_)
    unfold putS
    rw [if_pos hk]
    exact ⟨D, ho, F, r, o, nd⟩
  · refine add_x ho F hk room (h true _ ⟨Heap.size_update .., fun b nb => Heap.get?_update_other _ _ (Ne.symm nb)⟩ ?_)
    unfold putS
    rw [if_neg hk]
    exact ⟨_, get_upd _ ho rfl, add_ok u F, addTx_ris r, o.imp id fun z => addTx_led.trans z, List.nodup_cons.mpr ⟨hk, nd⟩⟩
theorem XSet.new {h : Heap} : XSet P w (h.push { cls := .type "set", dict := none, data := .set #[] 0 (.fresh 0 0 (!w.params.followText "set-order")) }) h.objs.size [] := by
  refine ⟨(#[], 0, .fresh 0 0 (!w.params.followText "set-order")), Heap.get?_push_size _ rfl, TxOk.nil (by rfl), List.Pairwise.nil, ?_, List.nodup_nil⟩
  show _ ∨ (!w.params.followText "set-order") = true
  cases w.params.followText "set-order"
  · exact .inr rfl
  · exact .inl rfl
/-- the loop of set(..) -/
theorem set_loop {I : Addr} {fp wr : List Addr} {G : Array GenState → Array GenState → Prop} {n : Nat} {Pv : Nat → Value → Prop} {St : Nat → Shared → Prop} {R : Result → Shared → Prop}
    (W : WalksS P w A.in1 I fp wr G n Pv St) (c : Addr) (out : c ∉ fp) (ks : List Str) (hn : n = ks.length) (val : ∀ i v, Pv i v → ∃ k t, ks[i]? = some k ∧ v = .str k t) :
    ∀ (todo i : Nat) (s : Shared) (l : List Str), n - i = todo → i ≤ n → St i s → XSet P w s.heap c l → l.length + (n - i) < scanBound →
      (∀ s', Moved (c :: wr) G s s' → XSet P w s'.heap c (putsS (ks.drop i) l) → R (.ok (.ret .none)) s') →
      codeAny (model P w) A (.builtin "set.update.loop" ⟨[.ref c, .ref I], []⟩) R s := by
  have cw : c ∉ wr := fun h => out (W.sub _ h)
  have more : ∀ b ∈ wr, b ∈ c :: wr := fun b hb => List.mem_cons_of_mem _ hb
  intro todo
  induction todo with
  | zero =>
    intro i s l ht hi st R0 room goal
    have e : i = n := by omega
    subst e
    refine codeAny_builtin F.entry_set_update_loop ?_
    rw [Around.under_plainId F.plain_set_update_loop _]
    show wpAny _ A.in1 (pyNext (.ref I) >>= _) _ _ s
    refine wpAny_bind (W.done s _ _ st fun s1 mv => ?_)
    show wpAny _ A.in1 (ret Value.none) _ _ s1
    refine wpAny_pure (goal s1 (mv.mono more) ?_)
    rw [List.drop_of_length_le (by omega)]
    exact R0.at_ fun o e => mv.heap c o cw e
  | succ todo ih =>
    intro i s l ht hi st R0 room goal
    have lt : i < n := by omega
    refine codeAny_builtin F.entry_set_update_loop ?_
    rw [Around.under_plainId F.plain_set_update_loop _]
    show wpAny _ A.in1 (pyNext (.ref I) >>= _) _ _ s
    refine wpAny_bind (W.item i s _ _ lt st fun v s1 hv st1 mv => ?_)
    obtain ⟨k, t, hk, rfl⟩ := val i v hv
    have R1 : XSet P w s1.heap c l := R0.at_ fun o e => mv.heap c o cw e
    show wpAny _ A.in1 (holding [Value.str k t] (setAdd c (.str k t)) >>= _) _ _ s1
    refine wpAny_bind (wpAny_holding ?_)
    unfold setAdd
    refine wpAny_holding ?_
    refine wpAny_bind ((strKind P w).pyHash (k := k) (is_str k t) ?_)
    refine R1.add (s := { s1 with toks := s1.toks + 1 }) (by omega) fun b h2 sb R2 => ?_
    have ed : ks.drop i = k :: ks.drop (i + 1) := by
      have li : i < ks.length := by omega
      rw [List.drop_eq_getElem_cons li]
      rw [List.getElem?_eq_getElem li] at hk
      cases hk
      rfl
    refine wpAny_pure ⟨plainId_quiet F.plain_set_update_loop _, ih (i + 1) _ _ (by omega) lt (W.frame _ s1 _ _ st1 (Nat.le_succ _) fun b hb o e => ?_) R2 (by have := putS_len (l := l) (k := k); omega) fun s3 mv3 R3 => ?_⟩
    · rw [sb.2 b (fun z : b = c => out (by rw [← z]; exact hb))]
      exact e
    · refine goal s3 (Moved.trans W.gtrans ((mv.mono more).then_heap (Nat.le_succ _) fun b o hb e => ?_) mv3) ?_
      · rw [sb.2 b (fun z : b = c => hb (by rw [z]; exact List.mem_cons_self))]
        exact e
      · rw [ed]
        exact R3
abbrev emptyS (w : World) : Obj := { cls := .type "set", dict := none, data := .set #[] 0 (.fresh 0 0 (!w.params.followText "set-order")) }
end
end DL

set_option Elab.async false
set_option linter.all false
set_option maxRecDepth 100000
set_option maxHeartbeats 4000000
set_option autoImplicit false
namespace DL
open PySem PySem.Spec PyProof.Rows L2
open PySem.Froz
section
variable {P : Program} {w : World} {A : Around} {E : Value → Shared → Prop} {s : Shared} {a : Addr} {l : List Str}
set_option maxHeartbeats 8000000 in
theorem call_setL {c : Addr} {items : Array Value} (ks : List Str) {Q : Value → Shared → Prop} (calm : A.handled = none) (hc : s.heap.IsList c items) (are : StrsAre items.toList ks) (few : ks.length < scanBound)
    (goal : ∀ (h2 : Heap) (tk : Nat), XSet P w h2 s.heap.objs.size (putsS ks []) → (∀ b o, s.heap.get? b = some o → h2.get? b = some o) → Q (.ref s.heap.objs.size) { s with heap := h2, toks := tk }) :
    wpAny (model P w) A (call (.type "set") [.ref c]) Q E s := by
  have size0 : items.size = ks.length := by
    have z := StrsAre.len_eq are
    rw [Array.length_toList] at z
    exact z
  obtain ⟨top, tl, mro0⟩ := F.called_set.mro
  have made0 := F.called_set.made
  have sub0 := F.called_set.sub
  refine wpAny_call (codeAny_of_tree ?_)
  show wpAny _ _ (callAny (.type "set") _) _ _ _
  refine wpAny_pure ⟨Code.quiet_builtin _ (by decide +kernel), codeAny_builtin F.entry_type_call ?_⟩
  rw [Around.under_plain (weight_type_call_type "set" [.ref c] []) rfl]
  have notType0 := F.called_set.notType
  have create0 := F.called_set.canCreate
  have typeCall0 := F.typeCall_set_1 (.ref c)
  repeat (any_goals (first | assumption | wp_step))
  refine codeAny_mono (code_set_led1 (.ref c) (E := E) (Q₁ := fun ob st => ob = .ref s.heap.objs.size ∧ st = { s with heap := s.heap.push (emptyS w) }) ⟨rfl, rfl⟩) fun r st1 got => ?_
  cases r with
  | error e => exact got
  | ok fl =>
    cases fl with
    | ret ob =>
      obtain ⟨rfl, rfl⟩ := got
      have at0 : (s.heap.push (emptyS w)).get? s.heap.objs.size = some (emptyS w) := Heap.get?_push_size _ rfl
      have ty0 : Shared.TypeIs { s with heap := s.heap.push (emptyS w) } (.ref s.heap.objs.size) "set" := ⟨_, at0, rfl⟩
      have look0 := F.called_set.init.lookup
      have bind0 := F.called_set.init.bind (.ref s.heap.objs.size)
      repeat (any_goals (first | assumption | wp_step))
      refine codeAny_mono (codeAny_call_builtin (R := wants (fun r st => r = .none ∧ ∃ h2 tk, st = { s with heap := h2, toks := tk } ∧ XSet P w h2 s.heap.objs.size (putsS ks []) ∧ (∀ b o, s.heap.get? b = some o → h2.get? b = some o)) E) F.called_set.init.plain F.entry_set_init (check_set_init_1 ty0 ?_)) fun r2 st2 got2 => ?_
      · obtain ⟨⟨cls0, dict0, data0, slots0⟩, hol, hcl, nl, hdl⟩ := hc
        simp only at hcl hdl
        subst hcl
        subst hdl
        have hol2 : (s.heap.push (emptyS w)).get? c = some { cls := .type "list", dict := dict0, data := .seq items nl, slots := slots0 } := Heap.get?_push_of_some _ hol
        have subA := F.sub_list_set
        have subB := F.sub_list_frozenset
        have notDict : (Value.type "list" == Value.type "dict") = false := by decide
        have is1 : (s.heap.push (emptyS w)).IsList c items := ⟨_, hol2, rfl, nl, rfl⟩
        unfold Builtin.«set.__init__» noKeywords Builtin.Frozenset.updateFrom
        generalize hidden : pyIter = PI
        wp_walk
        subst hidden
        refine wpAny_pyIter_list is1 ?_
        refine wpAny_bind (wpAny_runValue ?_)
        have low : c < s.heap.objs.size := Heap.lt_size hol
        have calm3 : A.in1.in1.in1.handled = none := by simp [calm]
        have zz : (s.heap.push (emptyS w)).objs.size = s.heap.objs.size + 1 := Heap.size_push ..
        have apart : c ≠ (s.heap.push (emptyS w)).objs.size := by
          rw [zz]
          exact Nat.ne_of_lt (Nat.lt_succ_of_lt low)
        have outside : s.heap.objs.size ∉ [(s.heap.push (emptyS w)).objs.size, c] := by
          rw [zz]
          simp only [List.mem_cons, List.not_mem_nil, or_false, not_or]
          exact ⟨Nat.ne_of_lt (Nat.lt_succ_self _), Nat.ne_of_gt low⟩
        have vals : ∀ (i : Nat) (v : Value), items[i]? = some v → ∃ k t, ks[i]? = some k ∧ v = .str k t := fun i v hv => by
          have li : i < ks.length := by
            rw [← size0]
            exact (Array.getElem?_eq_some_iff.mp hv).1
          obtain ⟨t, e⟩ := SS.strs_at are i v (by rw [Array.getElem?_toList]; exact hv)
          refine ⟨ks[i], t, List.getElem?_eq_getElem li, ?_⟩
          rw [e, List.getD_eq_getElem?_getD, List.getElem?_eq_getElem li] <;> rfl
        refine set_loop ((Walks.list calm3 _ c apart items).toS) s.heap.objs.size outside ks size0 vals (items.size - 0) 0 _ [] (by omega) (Nat.zero_le _) ⟨⟨_, Heap.get?_push_size _ rfl, rfl, rfl⟩, (is1.push _)⟩ ?first (by rw [size0]; simpa using few) ?last
        case first =>
          have z := (XSet.new (P := P) (w := w) (h := s.heap))
          exact z.at_ fun o e => Heap.get?_push_of_some _ e
        case last =>
          intro st3 mv R3
          obtain ⟨h3, g3, d3, t3, os3⟩ := st3
          obtain rfl : g3 = s.gens := mv.gens
          obtain rfl : d3 = s.drawn := mv.drawn
          obtain rfl : os3 = s.os := mv.os
          show wpAny _ _ _ _ _ _
          refine wpAny_pure ?_
          show wpAny _ _ (ret Value.none) _ _ _
          refine wpAny_pure ⟨rfl, h3, t3, rfl, R3, fun b o e => ?_⟩
          have b0 : b < s.heap.objs.size := Heap.lt_size e
          refine mv.heap b o ?_ (Heap.get?_push_of_some _ (Heap.get?_push_of_some _ e))
          rw [zz]
          simp only [List.mem_cons, List.not_mem_nil, or_false, not_or]
          exact ⟨Nat.ne_of_lt b0, Nat.ne_of_lt (Nat.lt_succ_of_lt b0)⟩
      · cases r2 with
        | error e => exact got2
        | ok fl2 =>
          cases fl2 with
          | ret r =>
            obtain ⟨rfl, h3, t3, rfl, R3, k3⟩ := got2
            repeat (any_goals (first | assumption | wp_step))
            exact goal _ _ R3 k3
          | _ => exact got2.elim
    | _ => exact got.elim


set_option maxHeartbeats 8000000 in
theorem call_setT {c : Addr} {items : Array Value} (ks : List Str) {Q : Value → Shared → Prop} (calm : A.handled = none) (hc : s.heap.IsTuple c items) (are : StrsAre items.toList ks) (few : ks.length < scanBound)
    (goal : ∀ (h2 : Heap) (tk : Nat), XSet P w h2 s.heap.objs.size (putsS ks []) → (∀ b o, s.heap.get? b = some o → h2.get? b = some o) → Q (.ref s.heap.objs.size) { s with heap := h2, toks := tk }) :
    wpAny (model P w) A (call (.type "set") [.ref c]) Q E s := by
  have size0 : items.size = ks.length := by
    have z := StrsAre.len_eq are
    rw [Array.length_toList] at z
    exact z
  obtain ⟨top, tl, mro0⟩ := F.called_set.mro
  have made0 := F.called_set.made
  have sub0 := F.called_set.sub
  refine wpAny_call (codeAny_of_tree ?_)
  show wpAny _ _ (callAny (.type "set") _) _ _ _
  refine wpAny_pure ⟨Code.quiet_builtin _ (by decide +kernel), codeAny_builtin F.entry_type_call ?_⟩
  rw [Around.under_plain (weight_type_call_type "set" [.ref c] []) rfl]
  have notType0 := F.called_set.notType
  have create0 := F.called_set.canCreate
  have typeCall0 := F.typeCall_set_1 (.ref c)
  repeat (any_goals (first | assumption | wp_step))
  refine codeAny_mono (code_set_led1 (.ref c) (E := E) (Q₁ := fun ob st => ob = .ref s.heap.objs.size ∧ st = { s with heap := s.heap.push (emptyS w) }) ⟨rfl, rfl⟩) fun r st1 got => ?_
  cases r with
  | error e => exact got
  | ok fl =>
    cases fl with
    | ret ob =>
      obtain ⟨rfl, rfl⟩ := got
      have at0 : (s.heap.push (emptyS w)).get? s.heap.objs.size = some (emptyS w) := Heap.get?_push_size _ rfl
      have ty0 : Shared.TypeIs { s with heap := s.heap.push (emptyS w) } (.ref s.heap.objs.size) "set" := ⟨_, at0, rfl⟩
      have look0 := F.called_set.init.lookup
      have bind0 := F.called_set.init.bind (.ref s.heap.objs.size)
      repeat (any_goals (first | assumption | wp_step))
      refine codeAny_mono (codeAny_call_builtin (R := wants (fun r st => r = .none ∧ ∃ h2 tk, st = { s with heap := h2, toks := tk } ∧ XSet P w h2 s.heap.objs.size (putsS ks []) ∧ (∀ b o, s.heap.get? b = some o → h2.get? b = some o)) E) F.called_set.init.plain F.entry_set_init (check_set_init_1 ty0 ?_)) fun r2 st2 got2 => ?_
      · obtain ⟨⟨cls0, dict0, data0, slots0⟩, hol, hcl, nl, hdl⟩ := hc
        simp only at hcl hdl
        subst hcl
        subst hdl
        have hol2 : (s.heap.push (emptyS w)).get? c = some { cls := .type "tuple", dict := dict0, data := .seq items nl, slots := slots0 } := Heap.get?_push_of_some _ hol
        have subA := F.sub_tuple_set
        have subB := F.sub_tuple_frozenset
        have notDict : (Value.type "tuple" == Value.type "dict") = false := by decide
        have is1 : (s.heap.push (emptyS w)).IsTuple c items := ⟨_, hol2, rfl, nl, rfl⟩
        unfold Builtin.«set.__init__» noKeywords Builtin.Frozenset.updateFrom
        generalize hidden : pyIter = PI
        wp_walk
        subst hidden
        refine wpAny_pyIter_tuple is1 ?_
        refine wpAny_bind (wpAny_runValue ?_)
        have low : c < s.heap.objs.size := Heap.lt_size hol
        have calm3 : A.in1.in1.in1.handled = none := by simp [calm]
        have zz : (s.heap.push (emptyS w)).objs.size = s.heap.objs.size + 1 := Heap.size_push ..
        have apart : c ≠ (s.heap.push (emptyS w)).objs.size := by
          rw [zz]
          exact Nat.ne_of_lt (Nat.lt_succ_of_lt low)
        have outside : s.heap.objs.size ∉ [(s.heap.push (emptyS w)).objs.size, c] := by
          rw [zz]
          simp only [List.mem_cons, List.not_mem_nil, or_false, not_or]
          exact ⟨Nat.ne_of_lt (Nat.lt_succ_self _), Nat.ne_of_gt low⟩
        have vals : ∀ (i : Nat) (v : Value), items[i]? = some v → ∃ k t, ks[i]? = some k ∧ v = .str k t := fun i v hv => by
          have li : i < ks.length := by
            rw [← size0]
            exact (Array.getElem?_eq_some_iff.mp hv).1
          obtain ⟨t, e⟩ := SS.strs_at are i v (by rw [Array.getElem?_toList]; exact hv)
          refine ⟨ks[i], t, List.getElem?_eq_getElem li, ?_⟩
          rw [e, List.getD_eq_getElem?_getD, List.getElem?_eq_getElem li] <;> rfl
        refine set_loop ((Walks.tuple calm3 _ c apart items).toS) s.heap.objs.size outside ks size0 vals (items.size - 0) 0 _ [] (by omega) (Nat.zero_le _) ⟨⟨_, Heap.get?_push_size _ rfl, rfl, rfl⟩, (is1.push _)⟩ ?first (by rw [size0]; simpa using few) ?last
        case first =>
          have z := (XSet.new (P := P) (w := w) (h := s.heap))
          exact z.at_ fun o e => Heap.get?_push_of_some _ e
        case last =>
          intro st3 mv R3
          obtain ⟨h3, g3, d3, t3, os3⟩ := st3
          obtain rfl : g3 = s.gens := mv.gens
          obtain rfl : d3 = s.drawn := mv.drawn
          obtain rfl : os3 = s.os := mv.os
          show wpAny _ _ _ _ _ _
          refine wpAny_pure ?_
          show wpAny _ _ (ret Value.none) _ _ _
          refine wpAny_pure ⟨rfl, h3, t3, rfl, R3, fun b o e => ?_⟩
          have b0 : b < s.heap.objs.size := Heap.lt_size e
          refine mv.heap b o ?_ (Heap.get?_push_of_some _ (Heap.get?_push_of_some _ e))
          rw [zz]
          simp only [List.mem_cons, List.not_mem_nil, or_false, not_or]
          exact ⟨Nat.ne_of_lt b0, Nat.ne_of_lt (Nat.lt_succ_of_lt b0)⟩
      · cases r2 with
        | error e => exact got2
        | ok fl2 =>
          cases fl2 with
          | ret r =>
            obtain ⟨rfl, h3, t3, rfl, R3, k3⟩ := got2
            repeat (any_goals (first | assumption | wp_step))
            exact goal _ _ R3 k3
          | _ => exact got2.elim
    | _ => exact got.elim


end
end DL

set_option Elab.async false
set_option linter.all false
set_option maxRecDepth 100000
set_option maxHeartbeats 4000000
set_option autoImplicit false
namespace DL
open PySem PySem.Spec PyProof.Rows L2
open PySem.Froz
section
variable {P : Program} {w : World} {A : Around} {E : Value → Shared → Prop} {s : Shared} {a : Addr} {l : List Str}

theorem perm_of_sub : ∀ {l m : List Str}, l.Nodup → (∀ x ∈ l, x ∈ m) → m.length ≤ l.length → l.Perm m
  | [], m, _, _, h => by
    rw [List.length_eq_zero_iff.mp (Nat.le_zero.mp h)]
  | x :: l, m, nd, sub, h => by
    obtain ⟨n1, n2⟩ := List.nodup_cons.mp nd
    have hx := sub x List.mem_cons_self
    have p := List.perm_cons_erase hx
    refine ((perm_of_sub (m := m.erase x) n2 (fun y hy => ?_) ?_).cons x).trans p.symm
    · have ne : y ≠ x := fun z => n1 (z ▸ hy)
      exact (List.mem_erase_of_ne ne).mpr (sub y (List.mem_cons_of_mem _ hy))
    · have e := p.length_eq
      simp only [List.length_cons] at e h
      omega
def textOf : Value → Str
  | .str x _ => x
  | _ => ⟨#[]⟩
theorem are_texts : ∀ vs : List Value, (∀ v ∈ vs, ∃ k u, v = Value.str k u) → StrsAre vs (vs.map textOf)
  | [], _ => .nil
  | v :: vs, h => by
    obtain ⟨k, u, e⟩ := h v List.mem_cons_self
    subst e
    exact .cons k u (are_texts vs fun w hw => h w (List.mem_cons_of_mem _ hw))
theorem call_sortedX {Q : Value → Shared → Prop} (R : XSet P w s.heap a l) (calm : A.handled = none) (few : l.length < 64)
    (goal : ∀ s2 p (out : Array Value) (m : Nat) (ys : List Str), (∀ b o, s.heap.get? b = some o → s2.heap.get? b = some o) → s2.gens = s.gens → s2.os = s.os → s.heap.objs.size ≤ p →
      s2.heap.get? p = some (seqObj "list" out m) → StrsAre out.toList ys → ys.Perm l → sortedS ys = true → Q (.ref p) s2) : wpAny (model P w) A (call (.builtin "sorted") [.ref a]) Q E s := by
  obtain ⟨⟨es, ep, t⟩, ho, F, r, o, nd⟩ := R
  have size1 : es.size = l.length := F.sz
  have fit1 : t.fits es.size = true := F.fit
  have mem1 : ∀ k : Str, k ∈ l ↔ ∃ e ∈ es.toList, (strKind P w).is k e.2 = true := F.mem
  have el1 : ElemsOf (strKind P w) es.toList := F.el
  have shape : ∀ e ∈ es.toList, ∃ k u, e.2 = Value.str k u := fun e he => by
    obtain ⟨⟨k, hk, _⟩, _⟩ := el1 e he
    obtain ⟨u, hu⟩ := Value.isStrOf_shape hk
    exact ⟨k, u, hu⟩
  refine Calls.call_function_entry kind_sorted plain_sorted entry_sorted (args_sorted1 _) ?_
  unfold Builtin.«sorted»
  refine wpAny_bind (m := checkCount "sorted" 1 1 _) (wpAny_pure ?_)
  refine wpAny_bind (collect_set (A := A.in1) calm ⟨_, ho, rfl, rfl⟩ fit1 (by rw [size1]; exact Nat.lt_trans few (by decide)) r o fun s1 vs k1 z1 g1 o1 pm => ?_)
  have few1 : vs.length < 64 := by
    rw [pm.length_eq, List.length_map, Array.length_toList, size1]
    exact few
  have texts0 : ∃ zs, StrsAre vs zs ∧ zs.Perm l := by
    refine ⟨vs.map textOf, are_texts vs fun v hv => ?_, (pm.map textOf).trans ?_⟩
    · obtain ⟨e, he, q⟩ := List.mem_map.mp (pm.mem_iff.mp hv)
      obtain ⟨k, u, z⟩ := shape e he
      exact ⟨k, u, q.symm.trans z⟩
    · refine (perm_of_sub nd (fun k hk => ?_) ?_).symm
      · obtain ⟨e, he, z⟩ := (mem1 k).mp hk
        obtain ⟨u, hu⟩ := Value.isStrOf_shape z
        exact List.mem_map.mpr ⟨e.2, List.mem_map.mpr ⟨e, he, rfl⟩, by rw [hu] <;> rfl⟩
      · rw [List.length_map, List.length_map, Array.length_toList, size1]
        exact Nat.le_refl _
  obtain ⟨zs, are, perm⟩ := texts0
  refine wpAny_bind (wpAny_newList ?_ (by rw [sizeLine_eq]; omega))
  have at1 : (s1.heap.push (seqObj "list" vs.toArray 0)).get? s1.heap.objs.size = some (seqObj "list" vs.toArray 0) := Heap.get?_push_size _ rfl
  refine wpAny_bind (wpAny_holding (wpAny_call_entry slot_list_sort ⟨_, at1, rfl⟩ entry_list_sort (list_sort_treeK strKind_oneLt at1 are.keysOf (fun v₁ v₂ rest e => keyKind_strs (by rw [← e]; exact are)) few1 fun st hp hs => ⟨_, rfl, ?_⟩) (args_list_sort _)))
  obtain ⟨ys, y1, y2, y3⟩ := sorted_out_str are hp hs
  obtain ⟨m, hm⟩ := sortedHeap_at (vs := vs) (out := (arrOf st).map (·.2)) at1
  refine wpAny_pure ⟨_, rfl, goal _ s1.heap.objs.size _ m ys (fun b u e => ?_) g1 o1 z1 hm y1 (y2.trans perm) y3⟩
  have e1 := k1 b u e
  have lt := Heap.lt_size e1
  show (sortedHeap (s1.heap.push (seqObj "list" vs.toArray 0)) s1.heap.objs.size vs _).get? b = some u
  rw [sortedHeap_old (Nat.ne_of_lt lt) (by rw [size_push']; exact Nat.lt_succ_of_lt lt)]
  exact Heap.get?_push_of_some _ e1
end
end DL

set_option Elab.async false
set_option linter.all false
set_option maxRecDepth 100000
set_option maxHeartbeats 4000000
set_option autoImplicit false
namespace DL
open PySem PySem.Spec PyProof.Rows L2
open PySem.Froz

/-! ### one sorted row -/
def leS (a b : Str) : Prop := ¬ (b.cps.toList < a.cps.toList)
theorem leS_trans {a b c : Str} (h : leS a b) (k : leS b c) : leS a c := List.not_lt.mpr (List.le_trans (List.not_lt.mp h) (List.not_lt.mp k))
theorem leS_anti {a b : Str} (h : leS a b) (k : leS b a) : a = b := by
  have e : a.cps.toList = b.cps.toList := List.le_antisymm (List.not_lt.mp h) (List.not_lt.mp k)
  obtain ⟨x⟩ := a
  obtain ⟨y⟩ := b
  exact congrArg Str.mk (Array.toList_inj.mp e)
theorem rising_pw : ∀ {r : List Str} {p : Str}, risingS p r = true → (p :: r).Pairwise leS
  | [], p, _ => List.pairwise_singleton _ _
  | x :: r, p, h => by
    unfold risingS at h
    rw [Bool.and_eq_true, Bool.not_eq_true', ltCps_eq, decide_eq_false_iff_not] at h
    have ih := rising_pw h.2
    refine List.pairwise_cons.mpr ⟨fun y hy => ?_, ih⟩
    rcases List.mem_cons.mp hy with z | z
    · rw [z]; exact h.1
    · exact leS_trans h.1 ((List.pairwise_cons.mp ih).1 y z)
theorem sorted_pw : ∀ {l : List Str}, sortedS l = true → l.Pairwise leS
  | [], _ => List.Pairwise.nil
  | _ :: _, h => rising_pw h
theorem insS_perm (x : Str) : ∀ l, (insS x l).Perm (x :: l)
  | [] => .refl _
  | y :: ys => by
    unfold insS
    split
    · exact ((insS_perm x ys).cons y).trans (.swap x y ys)
    · exact .refl _
theorem srtS_perm : ∀ l, (srtS l).Perm l
  | [] => .refl _
  | x :: xs => (insS_perm x _).trans ((srtS_perm xs).cons x)
theorem insS_pw (x : Str) : ∀ {l : List Str}, l.Pairwise leS → (insS x l).Pairwise leS
  | [], _ => List.pairwise_singleton _ _
  | y :: ys, h => by
    obtain ⟨h1, h2⟩ := List.pairwise_cons.mp h
    unfold insS
    split
    · rename_i lt
      have lt' : y.cps.toList < x.cps.toList := of_decide_eq_true lt
      refine List.pairwise_cons.mpr ⟨fun z hz => ?_, insS_pw x h2⟩
      rcases List.mem_cons.mp ((insS_perm x ys).mem_iff.mp hz) with e | hz
      · rw [e]
        exact fun w => List.lt_irrefl _ (List.lt_trans lt' w)
      · exact h1 z hz
    · rename_i nlt
      have xy : leS x y := fun w => nlt (decide_eq_true w)
      refine List.pairwise_cons.mpr ⟨fun z hz => ?_, h⟩
      rcases List.mem_cons.mp hz with e | hz
      · rw [e]; exact xy
      · exact leS_trans xy (h1 z hz)
theorem srtS_pw : ∀ l, (srtS l).Pairwise leS
  | [] => List.Pairwise.nil
  | x :: xs => insS_pw x (srtS_pw xs)
theorem srt_uniq {ys zs : List Str} (p : ys.Perm zs) (h : sortedS ys = true) : ys = srtS zs :=
  List.Perm.eq_of_pairwise (le := leS) (fun a b _ _ h k => leS_anti h k) (sorted_pw h) (srtS_pw zs) (p.trans (srtS_perm zs).symm)
/-- each once -/
def uniqS : List Str → List Str
  | [] => []
  | x :: xs => if x ∈ uniqS xs then uniqS xs else x :: uniqS xs
theorem uniqS_mem : ∀ {l : List Str} {x : Str}, x ∈ uniqS l ↔ x ∈ l
  | [], x => by simp [uniqS]
  | y :: ys, x => by
    unfold uniqS
    split
    · rename_i h
      rw [uniqS_mem, List.mem_cons]
      exact ⟨.inr, fun z => z.elim (fun e => by rw [e]; exact uniqS_mem.mp h) id⟩
    · rw [List.mem_cons, List.mem_cons, uniqS_mem]
theorem uniqS_nodup : ∀ l : List Str, (uniqS l).Nodup
  | [] => List.nodup_nil
  | y :: ys => by
    unfold uniqS
    split
    · exact uniqS_nodup ys
    · exact List.nodup_cons.mpr ⟨by assumption, uniqS_nodup ys⟩
theorem putsS_nodup : ∀ (ks : List Str) {l : List Str}, l.Nodup → (putsS ks l).Nodup
  | [], _, h => h
  | _ :: ks, _, h => putsS_nodup ks (putS_nodup h)
theorem putsS_mem : ∀ {ks l : List Str} {x : Str}, x ∈ putsS ks l ↔ x ∈ ks ∨ x ∈ l
  | [], l, x => by simp [putsS]
  | k :: ks, l, x => by
    unfold putsS
    rw [putsS_mem, putS_mem, List.mem_cons]
    exact ⟨fun z => z.elim (fun a => .inl (.inr a)) fun b => b.elim (fun e => .inl (.inl e)) .inr, fun z => z.elim (fun a => a.elim (fun e => .inr (.inl e)) .inl) fun b => .inr (.inr b)⟩
theorem len_sub : ∀ {l m : List Str}, l.Nodup → (∀ x ∈ l, x ∈ m) → l.length ≤ m.length
  | [], m, _, _ => Nat.zero_le _
  | x :: l, m, nd, sub => by
    obtain ⟨n1, n2⟩ := List.nodup_cons.mp nd
    have p := (List.perm_cons_erase (sub x List.mem_cons_self)).length_eq
    have z := len_sub (m := m.erase x) n2 fun y hy => by
      have ne : y ≠ x := fun z => n1 (z ▸ hy)
      exact (List.mem_erase_of_ne ne).mpr (sub y (List.mem_cons_of_mem _ hy))
    simp only [List.length_cons] at p ⊢
    omega
theorem same_set {l m : List Str} (h : l.Nodup) (k : m.Nodup) (e : ∀ x, x ∈ l ↔ x ∈ m) : l.Perm m := perm_of_sub h (fun x hx => (e x).mp hx) (len_sub k fun x hx => (e x).mpr hx)
theorem puts_uniq (ks : List Str) : (putsS ks []).Perm (uniqS ks) := same_set (putsS_nodup ks List.nodup_nil) (uniqS_nodup ks) fun x => by
  rw [putsS_mem, uniqS_mem]
  simp

/-! ### as tracked things -/
def SetXO (P : Program) (w : World) (a : Addr) (l : List Str) : HO := .ext fun h => XSet P w h a l
theorem setXO_new {w : World} {P : Program} {H : Hp} {h : Heap} {a : Addr} {l : List Str} (R : XSet P w h a l) : ObjOk P w H h a (SetXO P w a l) := by
  have ⟨D, ho, _⟩ := R
  exact ⟨R, ⟨_, ho⟩, fun h1 h2 p k => XSet.at_ p k⟩
section
variable {X : Cx}
theorem setXO_get {pins : List (Addr × Obj)} {σ : L2.St} {H : Hp} {s : Shared} {a : Addr} {l : List Str} (I : Inv X pins σ H s) (ha : H a = some (SetXO X.prog X.w a l)) : XSet X.prog X.w s.heap a l := (I.hok a _ ha).1
def rSetX (K : PySem.W.Frag) (P : Program) (w : World) : List V → Hp → VK → Prop := fun xs H Q => ∃ (c : Addr) (zs : List Str), xs = [V.ref c] ∧ (SqL K H c (zs.map V.str) ∨ SqT K H c (zs.map V.str)) ∧ zs.length < scanBound ∧
  ∀ p, H p = none → Q (.ref p) (upd H p (SetXO P w p (putsS zs [])))
theorem cr_setX (hc : X.calm = true) : CallR X (.type "set") (rSetX X.K X.prog X.w) := by
  intro pins s σ H xs us Q I r h
  obtain ⟨c, zs, ex, hq, few, q⟩ := h
  subst ex
  rw [Vals.ref1 r]
  have none0 : H s.heap.objs.size = none := I.hok.fresh (Nat.le_refl _)
  rcases hq with hq | hq
  · obtain ⟨its, rv, pl, hz⟩ := I.list hq
    exact call_setL (P := X.prog) (w := X.w) zs (I.ok.hd hc) pl.isList (by simpa using rv.strs) few fun h2 tk R k => ⟨.ref s.heap.objs.size, _, I.laid (t' := tk) k (Nat.le_refl _) (setXO_new R), rfl, q _ none0⟩
  · obtain ⟨its, rv, isTp, hz⟩ := I.tuple hq
    exact call_setT (P := X.prog) (w := X.w) zs (I.ok.hd hc) (show s.heap.IsTuple c its.toArray from isTp) (by simpa using rv.strs) few fun h2 tk R k => ⟨.ref s.heap.objs.size, _, I.laid (t' := tk) k (Nat.le_refl _) (setXO_new R), rfl, q _ none0⟩
def rSortedX (P : Program) (w : World) : List V → Hp → VK → Prop := fun vs H Q => ∃ (a : Addr) (l : List Str), vs = [V.ref a] ∧ H a = some (SetXO P w a l) ∧ l.length < 64 ∧
  ∀ (p : Addr), H p = none → Q (.ref p) (upd H p (.lst ((srtS l).map V.str)))
theorem cr_sortedX (hc : X.calm = true) : CallR X (.builtin "sorted") (rSortedX X.prog X.w) := by
  intro pins s σ H vs us Q I r h
  obtain ⟨a, l, ev, ha, few, q⟩ := h
  subst ev
  rw [Vals.ref1 r]
  refine call_sortedX (setXO_get I ha) (I.ok.hd hc) few fun s2 p out m ys k g o hp at2 are pm so => ?_
  have e := srt_uniq pm so
  subst e
  have none0 : H p = none := I.hok.fresh hp
  have short : ((srtS l).map V.str).length ≤ sizeLine := by
    rw [List.length_map, pm.length_eq]
    exact L2.small64 few
  have J : Inv X pins σ (upd H p (.lst ((srtS l).map V.str))) { s with heap := s2.heap, gens := s2.gens, drawn := s2.drawn, toks := s2.toks } :=
    I.call (ch := []) (Un.laid k hp none0) (I.hok.laid k hp ⟨short, out.toList, m, vals_of_strs are, by rw [Array.toArray_toList]; exact at2⟩) (by rw [g]; exact I.bare) (fun _ z => nomatch z)
  obtain ⟨h2, g2, d2, t2, o2⟩ := s2
  obtain rfl : o2 = s.os := o
  exact ⟨.ref p, _, J, rfl, q p none0⟩
end

/-! ### rules -/
def sortD (ds : List D) (S : Sto) : R D := match strsOf ds with
  | some xs => if decide (xs.length < 64) then .ok (.lst ((srtS xs).map D.str)) S else .stuck
  | none => .stuck
def sortSetD (ds : List D) (S : Sto) : R D := match strsOf ds with
  | some xs => if decide (xs.length < 4096) && decide ((uniqS xs).length < 64) then .ok (.lst ((srtS (uniqS xs)).map D.str)) S else .stuck
  | none => .stuck
def cSorted : OpL := fun S ds => match ds with
  | [.lst xs] => sortD xs S
  | [.obj i] => match objOf S i with
    | some xs => sortD xs S
    | none => .stuck
  | _ => .stuck
def xSortSet (f : DX) : DX := fun ρ S => (f ρ S).bind fun d S1 => match seqOf S1 d with
  | some xs => sortSetD xs S1
  | none => .stuck
def xSortSc (f : DXs) : DX := fun ρ S => (f ρ S).bind fun ds S1 => sortSetD ds S1
theorem srtS_of_perm {l m : List Str} (p : l.Perm m) : srtS l = srtS m :=
  List.Perm.eq_of_pairwise (le := leS) (fun a b _ _ h k => leS_anti h k) (srtS_pw l) (srtS_pw m) ((srtS_perm l).trans (p.trans (srtS_perm m).symm))
section
variable {X : Cx} {cn : Nat → Addr} {e : Expr} {f : DX} {p p2 pos pos2 : Pos} {k : Nat}
theorem cd_sorted : CallD X cn (.builtin "sorted") cSorted := by
  rintro pins s σ H xs us Q I rv ⟨P, θ, S, ds, r, S', sm, rds, q, p⟩
  have main : ∀ (d : D) (L : List D), isT d = false → seqOf S d = some L → RepsB X.K cn P H θ xs [d] → sortD L S = .ok r S' → wpAny (model X.prog X.w) X.A (call (.builtin "sorted") us) (EP X pins σ Q) X.xe s := fun d L t hL rb q => by
    obtain ⟨x, rfl, rx⟩ := repsB_one rb
    obtain ⟨a, vs, rfl, hx, rs⟩ := seqL_rep sm rx t hL
    unfold sortD at q
    split at q
    · rename_i zs hz
      split at q
      · rename_i few
        cases q
        rw [strsOf_eq hz] at rs
        have ev := rs.of_strs
        subst ev
        refine cr_sortedS pins s σ H _ us Q I rv ⟨a, zs, rfl, SqL.of hx, of_decide_eq_true few, fun ys p0 pm so hp => ?_⟩
        rw [srt_uniq pm so]
        exact (Post.newL (xs := (srtS zs).map V.str) p sm Reps.strs) p0 hp
      · cases q
    · cases q
  unfold cSorted at q
  split at q
  · rename_i xs0
    exact main (.lst xs0) xs0 rfl rfl rds q
  · rename_i i
    split at q
    · rename_i L hL
      exact main (.obj i) L rfl hL rds q
    · cases q
  · cases q
theorem sortSet_end {K : PySem.W.Frag} {Pg : Program} {w : World} {P : List Addr} {H1 : Hp} {θ1 : List Addr} {S1 S' : Sto} {ds : List D} {d : D} {Q : VK} {zs : List Str} (hz : strsOf ds = some zs) (q : sortSetD ds S1 = .ok d S') (s1 : Sim K cn P H1 θ1 S1) (p : Post K cn P H1 θ1 d S' Q)
    {a : Addr} {l : List Str} (ha : H1 a = none) (pm : l.Perm (uniqS zs)) : rSortedX Pg w [V.ref a] (upd H1 a (SetXO Pg w a l)) Q := by
  unfold sortSetD at q
  rw [hz] at q
  simp only at q
  split at q
  · rename_i hc
    cases q
    obtain ⟨_, few⟩ := Bool.and_eq_true_iff.mp hc
    refine ⟨a, l, rfl, upd_same, by rw [pm.length_eq]; exact of_decide_eq_true few, fun b hb => ?_⟩
    rw [srtS_of_perm pm]
    have s2 := s1.fresh (o := SetXO Pg w a l) ha
    exact Post.newL (xs := (srtS (uniqS zs)).map V.str) (p.at_ (Evo.fresh ha)) s2 Reps.strs b hb
  · cases q
theorem de_sortSet (hc : X.calm = true) (hm : X.mg "sorted" = none) (hm2 : X.mg "set" = none) (ha : DB X cn e f) (hr : Room k X.A) (hg : Gl X "sorted" := by rfl) (hg2 : Gl X "set" := by rfl)
    (h1 : starEach [e] X.env = (false, eval e X.env) :: starEach [] X.env := by rfl) (hpl1 : (backTo pos2 (starEach [] X.env)).any (·.1) = false := by rfl)
    (h2 : starEach [.Call (.Name "set" p2) [e] [] pos2] X.env = (false, eval (.Call (.Name "set" p2) [e] [] pos2) X.env) :: starEach [] X.env := by rfl) (hpl2 : (backTo pos (starEach [] X.env)).any (·.1) = false := by rfl) :
    DE X cn (.Call (.Name "sorted" p) [.Call (.Name "set" p2) [e] [] pos2] [] pos) (xSortSet f) :=
  ⟨(pe_callB (cr_sortedX hc) hg hm boot_sorted (pa_cons (pe_callTy (cr_setX hc) hg2 hm2 boot_set (pa_cons ha.pe pa_nil h1) (by decide) (by decide) h1 hpl1) pa_nil h2) (by decide) (by decide) h2 hpl2).weak fun σ H Q ⟨P, θ, S, ρ, d, S', s, r, q, p⟩ => by
    obtain ⟨d1, S1, q1, q⟩ := R.bind_eq q
    refine ⟨P, θ, S, ρ, d1, S1, s, r, q1, fun x H1 θ1 s1 e1 r1 => ?_⟩
    split at q
    · rename_i L hL
      obtain ⟨a, xs, ex, hq, rs⟩ := seqOf_rep s1 r1 hL
      have q0 := q
      unfold sortSetD at q
      split at q
      · rename_i zs hz
        split at q
        · rename_i hc
          obtain ⟨few, _⟩ := Bool.and_eq_true_iff.mp hc
          rw [strsOf_eq hz] at rs
          have ev := rs.of_strs
          subst ev
          subst ex
          exact ⟨a, zs, rfl, hq.symm, of_decide_eq_true few, fun b hb => sortSet_end hz q0 s1 (p.at_ e1) hb (puts_uniq zs)⟩
        · cases q
      · cases q
    · cases q⟩
end
end DL

set_option Elab.async false
set_option linter.all false
set_option maxRecDepth 100000
set_option maxHeartbeats 4000000
set_option autoImplicit false
namespace DL
open PySem PySem.Spec PyProof.Rows L2
open PySem.Froz

/-! ### sets of texts made by a comprehension -/
section
variable {Pg : Program} {w : World} {A : Around} {E : Value → Shared → Prop} {s : Shared} {a : Addr} {l : List Str}
theorem call_addX {k : Str} {u : Tok} {Q : Value → Shared → Prop} (R : XSet Pg w s.heap a l) (room : l.length + 1 < scanBound)
    (goal : ∀ h2, Heap.SameBut a s.heap h2 → XSet Pg w h2 a (putS k l) → Q .none { s with heap := h2, toks := s.toks + 1 }) : wpAny (model Pg w) A (call (.builtin "set.add") [.ref a, .str k u]) Q E s := by
  have ty : s.TypeIs (.ref a) "set" := by
    obtain ⟨D, ho, _⟩ := R
    exact ⟨_, ho, rfl⟩
  refine wpAny_call_entry F.slot_set_add ty F.entry_set_add ?_ (F.args_set_add_2 _ _)
  unfold Builtin.«set.add» Builtin.Frozenset.oneOther
  simp only [List.isEmpty_nil, bind_assoc]
  unfold Builtin.Frozenset.addrOf setAdd
  refine wpAny_bind (wpAny_pure ?_)
  try dsimp only
  refine wpAny_bind (wpAny_pure ?_)
  try dsimp only
  refine wpAny_bind (wpAny_holding (wpAny_bind ((PySem.strKind Pg w).pyHash (is_str k u) ?_)))
  refine XSet.add (s := { s with toks := s.toks + 1 }) R room fun b h2 sb R2 => ?_
  show wpAny _ _ (ret Value.none) _ _ _
  exact wpAny_pure ⟨_, rfl, goal h2 sb R2⟩
end
/-- c: where the new set stands -/
def tScX (Pg : Program) (w : World) (wi : TI) (g : TG) (tt : TT) (te : TE) (vs : List Nat) : TE := fun σ H Q => wi σ H fun J H1 => ∀ c, H1 c = none →
  ∃ W : Nat → Nat → Hp → Prop, (∃ m, W 0 m (upd H1 c (SetXO Pg w c []))) ∧ ∀ i m H, W i m H → (J.stop i H ∧ Q (.ref c) H) ∨
    (J.go i H ∧ ∃ Nx : Hp → Prop, (∀ Hn, Nx Hn → ∃ n, n < m ∧ W (i + 1) n Hn) ∧ ∀ x Hy, J.yld i H x Hy → g x (wipe σ vs) Hy fun σ2 H2 => wipe σ2 vs = wipe σ vs ∧ tt σ2 H2 fun b H3 =>
      if b = true then te σ2 H3 fun y H4 => ∃ k l, y = .str k ∧ H4 c = some (SetXO Pg w c l) ∧ l.length + 1 < scanBound ∧ Nx (upd H4 c (SetXO Pg w c (putS k l))) else Nx H3)
section
variable {X : Cx}
theorem pe_scX {elt tg iter : Expr} {ifs : List Expr} {scope : Scope} {mine : List (Str × Nat)} {pos : Pos} {wi : TI} {g : TG} {tt : TT} {te : TE} (calm : X.calm = true) (nodupN : X.N.Nodup) (src : PI X tg iter wi) (blk : BlkOk X.N X.env.scope scope mine)
    (tgt : ∀ (s : Shared) (H : Hp) (C : Addr) (cl : List (Str × Addr)) (fp : List Addr), PG (X.blk s H scope (compEnvC scope cl C X.env) fp) tg g) (tests : ∀ (s : Shared) (H : Hp) (C : Addr) (cl : List (Str × Addr)) (fp : List Addr), PTs (X.blk s H scope (compEnvC scope cl C X.env) fp) ifs tt)
    (item : ∀ (s : Shared) (H : Hp) (C : Addr) (cl : List (Str × Addr)) (fp : List Addr), PE (X.blk s H scope (compEnvC scope cl C X.env) fp) elt te) (folded : ∀ x, foldedSetIterable iter X.env x = pure x := by intro _; rfl) :
    PE X (.SetComp elt [⟨tg, iter, ifs, 0⟩] scope pos) (tScX X.prog X.w wi g tt te (mine.map (·.2))) := by
  refine ⟨fun pins s σ H Q I goal => ?_⟩
  rw [PpSet.eval_SetComp]
  have freeC : ∀ y ∈ scope.names, y.2 = .free → ∃ c, X.env.cells.lookup y.1 = some c := fun y hy e => (blk.free y hy e).elim (fun z => I.ok.has _ (.inl z)) fun z => I.ok.has _ (.inr z)
  refine wpAny_comprehension_free (use := none) rfl folded (closure_ok freeC) blk.kind (fun y hy e => by rw [blk.uniq y hy, e]) ?_
  refine thn (src.run pins s σ H _ I goal) fun v1 s1 w1 => thn w1 fun v2 s2 w2 => ?_
  obtain ⟨it, fp, tn, J, H2, rfl, I2, T, now2, fpOk2, goal2⟩ := w2
  refine PpSet.newSet_ok (newEnv_comp ?_)
  have none2 : H2 s2.heap.objs.size = none := I2.hok.fresh (Nat.le_refl _)
  obtain ⟨W, ⟨m0, W0⟩, turn⟩ := goal2 s2.heap.objs.size none2
  have lowF : ∀ b ∈ fp, b < s2.heap.objs.size := fun b hb => by
    obtain ⟨o, e, _⟩ := T.obj _ _ now2 b hb
    exact Heap.lt_size e
  -- behind the new set
  obtain ⟨s3, es3⟩ : ∃ s3 : Shared, s3 = { s2 with heap := s2.heap.push (emptyS X.w) } := ⟨_, rfl⟩
  obtain ⟨H3, eH3⟩ : ∃ H3 : Hp, H3 = upd H2 s2.heap.objs.size (SetXO X.prog X.w s2.heap.objs.size []) := ⟨_, rfl⟩
  have I3 : Inv X pins σ H3 s3 := by
    rw [es3, eH3]
    exact I2.laid (t' := s2.toks) (fun b o e => Heap.get?_push_of_some _ e) (Nat.le_refl _) (setXO_new XSet.new)
  have size3 : s3.heap.objs.size = s2.heap.objs.size + 1 := by
    rw [es3]
    exact Heap.size_push ..
  have keep3 : ∀ b o, s2.heap.get? b = some o → s3.heap.get? b = some o := fun b o e => by
    rw [es3]
    exact Heap.get?_push_of_some _ e
  have fpOk3 : ∀ b ∈ fp, FpOk X pins H3 b ∧ b < s3.heap.objs.size := fun b hb => by
    have lt := lowF b hb
    refine ⟨⟨?_, (fpOk2 b hb).2⟩, by rw [size3]; exact Nat.lt_succ_of_lt lt⟩
    rw [eH3, upd_ne (Nat.ne_of_lt lt)]
    exact (fpOk2 b hb).1
  have now3 : tn 0 s3.heap := T.keep _ _ _ now2 fun b _ o e => keep3 b o e
  have blk4 := block_start I3 blk nodupN fpOk3
  have tgt4 := tgt s3 H3 s3.heap.objs.size (cellsFrom (s3.heap.objs.size + 1) scope.names (cloFrom X.env.cells scope.names [])) fp
  have tests4 := tests s3 H3 s3.heap.objs.size (cellsFrom (s3.heap.objs.size + 1) scope.names (cloFrom X.env.cells scope.names [])) fp
  have item4 := item s3 H3 s3.heap.objs.size (cellsFrom (s3.heap.objs.size + 1) scope.names (cloFrom X.env.cells scope.names [])) fp
  rw [← eH3] at W0
  have es3' : ({ s2 with heap := s2.heap.push (emptyS X.w) } : Shared) = s3 := es3.symm
  show codeAny _ _ (.compStart (.SetComp elt [⟨tg, iter, ifs, 0⟩] scope pos) 0 (.ref it) (.ref s2.heap.objs.size) (compEnvC scope (cellsFrom (({ s2 with heap := s2.heap.push (emptyS X.w) } : Shared).heap.objs.size + 1) scope.names (cloFrom X.env.cells scope.names [])) ({ s2 with heap := s2.heap.push (emptyS X.w) } : Shared).heap.objs.size X.env))
    (compPost (model X.prog X.w) X.A X.xe none _ (.ref s2.heap.objs.size) ({ s2 with heap := s2.heap.push (emptyS X.w) } : Shared).heap.objs.size) { ({ s2 with heap := s2.heap.push (emptyS X.w) } : Shared) with heap := pushCells (({ s2 with heap := s2.heap.push (emptyS X.w) } : Shared).heap.push { cls := .type "dict", data := .dict #[] }) scope.names }
  rw [es3']
  clear es3 es3' eH3
  obtain ⟨ce, ece⟩ : ∃ ce, ce = compEnvC scope (cellsFrom (s3.heap.objs.size + 1) scope.names (cloFrom X.env.cells scope.names [])) s3.heap.objs.size X.env := ⟨_, rfl⟩
  obtain ⟨s4, es4⟩ : ∃ s4 : Shared, s4 = { s3 with heap := pushCells (s3.heap.push { cls := .type "dict", data := .dict #[] }) scope.names } := ⟨_, rfl⟩
  have locals4 : ce.locals = s3.heap.objs.size := by rw [ece] <;> rfl
  rw [← ece] at blk4 tgt4 tests4 item4 ⊢
  rw [← es4] at blk4 ⊢
  have now4 : tn 0 s4.heap := T.keep _ _ _ now3 fun b _ o e => by
    rw [es4]
    exact pushCells_keeps _ _ _ _ (Heap.get?_push_of_some _ e)
  have fpIn : ∀ {σx : L2.St} {Hx : Hp} {sx : Shared}, Inv (X.blk s3 H3 scope ce fp) [] σx Hx sx → (∀ b ∈ fp, Hx b = none) → ∀ b ∈ fp, FpOk (X.blk s3 H3 scope ce fp) [] Hx b := fun {σx Hx sx} Ix nx b hb =>
    ⟨nx b hb, (Ix.ok.exf b hb).1, Ix.ok.exfs b hb, .inl hb, fun x c e => (Ix.ok.exf b hb).2 x c e, fun p hp => by cases hp⟩
  have all : codeAny (model X.prog X.w) X.A (.compLoop (.SetComp elt [⟨tg, iter, ifs, 0⟩] scope pos) 0 (.ref it) (.ref s2.heap.objs.size) ce)
      (compPost (model X.prog X.w) X.A X.xe none (EP X pins σ Q) (.ref s2.heap.objs.size) s3.heap.objs.size) s4 := by
    refine PpSet.compLoopS_any (fun n sx => ∃ i Hx, Inv (X.blk s3 H3 scope ce fp) [] (wipe σ (mine.map (·.2))) Hx sx ∧ tn i sx.heap ∧ (∀ b ∈ fp, Hx b = none) ∧ W i n Hx) ?_ m0 ⟨0, H3, blk4, now4, fun b hb => (fpOk3 b hb).1.1, W0⟩
    rintro n s5 ⟨i, H5, I5, now5, free5, W5⟩
    rcases turn i n H5 W5 with ⟨halt, won⟩ | ⟨onward, Nx, again, round⟩
    · refine thnF (T.done (X.blk s3 H3 scope ce fp) rfl rfl rfl calm i [] s5 _ H5 (fun _ _ => False) I5 (fpIn I5 free5) now5 halt) fun r s6 ⟨er, I6⟩ => ?_
      rw [er]
      have I7 : Inv X pins σ H5 s6 := I3.call' (ch := fp) I6.os I6.base I6.hok I6.bare fun b hb => by
        obtain ⟨_, f1, f2, f3, f4, f5⟩ := (fpOk3 b hb).1
        exact ⟨f3, f1, f4, f5⟩
      have none7 : H5 s3.heap.objs.size = none := by
        have z : H5 ce.locals = none := I6.free
        rwa [locals4] at z
      obtain ⟨m, ns, _⟩ := I6.loc
      have ns7 : s6.heap.Ns ce.locals m := ns
      rw [locals4] at ns7
      obtain ⟨f0, f1, f2, f3, f4, f5⟩ : FpOk X pins H5 s3.heap.objs.size := I3.fpOk (Nat.le_refl _) none7
      exact ⟨m, ns7, fun h8 sb => ⟨.ref _, H5, I7.turned (t' := s6.toks) (fun b o hb e => (sb.2 b hb).trans e) f0 f1 f3 f4 f5, rfl, won⟩⟩
    · refine thnF (T.item (X.blk s3 H3 scope ce fp) rfl rfl rfl calm i [] s5 _ H5 (fun _ _ => False) I5 (fpIn I5 free5) now5 onward) fun r s6 ⟨u, er, w6⟩ => ?_
      rw [er]
      refine thnF w6 fun _ s7 ⟨x, H7, I7, rx, yx, now7, free7⟩ => ?_
      have pinned7 := I7.pinned (fpIn I7 free7) (T.obj _ _ now7)
      refine thnF (tgt4.run _ s7 _ H7 x u _ pinned7 rx (round x H7 yx)) fun _ s8 ⟨σ8, H8, I8, back8, goal8⟩ => ?_
      refine thnF (tests4.run _ s8 σ8 H8 _ I8 goal8) fun yes s9 ⟨H9, I9, goal9⟩ => ?_
      have close : ∀ {sx : Shared} {Hx : Hp}, Inv (X.blk s3 H3 scope ce fp) ([] ++ pinsAt fp s7.heap) σ8 Hx sx → Nx Hx → ∃ m, m < n ∧ ∃ i Hx, Inv (X.blk s3 H3 scope ce fp) [] (wipe σ (mine.map (·.2))) Hx sx ∧ tn i sx.heap ∧ (∀ b ∈ fp, Hx b = none) ∧ W i m Hx := fun {sx Hx} Ix nx => by
        obtain ⟨m, less, Wx⟩ := again Hx nx
        have held : ∀ b ∈ fp, ∀ o, s7.heap.get? b = some o → sx.heap.get? b = some o ∧ Hx b = none := fun b hb o e => by
          have z := Ix.pin (b, o) (List.mem_append_right _ (List.mem_append_right _ (mem_pinsAt hb e)))
          exact ⟨z.1, z.2.1⟩
        refine ⟨m, less, i + 1, Hx, (Ix.unpinned (pins := [])).weak (by rw [← back8, wipe_length]) (fun j v e => ?_), T.keep _ _ _ now7 fun b hb o e => (held b hb o e).1, fun b hb => ?_, Wx⟩
        · rw [← back8] at e
          exact (wipe_some e).1
        · obtain ⟨o, e, _⟩ := T.obj _ _ now7 b hb
          exact (held b hb o e).2
      cases yes with
      | false =>
        simp only [Bool.false_eq_true, if_false] at goal9 ⊢
        exact close I9 goal9
      | true =>
        simp only [if_true] at goal9 ⊢
        refine thnF (item4.run _ s9 σ8 H9 _ I9 goal9) fun z s10 ⟨y, H10, I10, ry, k, l, ey, at10, room, nx⟩ => ?_
        subst ey
        obtain ⟨tk, rfl⟩ := ry
        refine call_addX (setXO_get (X := X.blk s3 H3 scope ce fp) I10 at10) room fun h11 sb new => ?_
        have some11 : ∃ u, h11.get? s2.heap.objs.size = some u := by
          have ⟨_, e, _⟩ := new
          exact ⟨_, e⟩
        exact close (I10.write (e := s2.heap.objs.size) (t' := s10.toks + 1) (by rw [at10]; trivial) (.inl rfl) (fun b u hb hu => (sb.2 b hb).trans hu) some11 (setXO_new new)) nx
  exact PpSet.codeAny_compStart_set all (T.self X.A 0 _ _ _ now4 all)
end

/-! ### .. and sorted -/
theorem lcD_ext {src : Src} {g : TgF} {c f : DX} {vs : List Nat} : ∀ {n i : Nat} {acc res : List D} {ρ : Rho} {S S' : Sto}, lcD src g c f vs n i acc ρ S = .ok res S' → ∃ tl, res = acc ++ tl
  | 0, _, _, _, _, _, _, h => by cases h
  | n + 1, i, acc, res, ρ, S, S', h => by
    simp only [lcD] at h
    split at h
    · cases h
    · cases h
      exact ⟨[], (List.append_nil _).symm⟩
    · split at h
      · cases h
      · obtain ⟨b, S1, _, h⟩ := R.bind_eq h
        split at h
        · obtain ⟨d, S2, _, h⟩ := R.bind_eq h
          split at h
          · obtain ⟨tl, e⟩ := lcD_ext h
            exact ⟨d :: tl, by rw [e, List.append_assoc] <;> rfl⟩
          · cases h
        · exact lcD_ext h
        · cases h
theorem strsOf_mem {ds : List D} {zs : List Str} {d : D} (h : strsOf ds = some zs) (m : d ∈ ds) : ∃ k, d = .str k ∧ k ∈ zs := by
  rw [strsOf_eq h] at m
  obtain ⟨k, hk, e⟩ := List.mem_map.mp m
  exact ⟨k, e.symm, hk⟩
theorem mem_strsOf {ds : List D} {zs : List Str} {k : Str} (h : strsOf ds = some zs) (m : k ∈ zs) : D.str k ∈ ds := by
  rw [strsOf_eq h]
  exact List.mem_map.mpr ⟨k, m, rfl⟩
theorem sc_ok {K : PySem.W.Frag} {cn : Nat → Addr} {Pg : Program} {w : World} {fi : Rho → Sto → R Src} {b : Bool} {g : TgF} {c f : DX} {vs js : List Nat} (hj : ∀ j ∈ js, j ∈ vs) {σ : L2.St} {H : Hp} {Q : VK} (h : tD K cn (xSortSc (xsLc fi g c f vs)) σ H Q) :
    tCB (rSortedX Pg w) (tCons (tScX Pg w (tDI b K cn fi) (tDG K cn js g) (tDT K cn c) (tD K cn f) vs) tNil) σ H Q := by
  obtain ⟨P, θ, S, ρ, dres, S', sm, re, q, p⟩ := h
  obtain ⟨res, S0, q0, qs⟩ := R.bind_eq q
  obtain ⟨src, S1, q1, q2⟩ := R.bind_eq q0
  refine ⟨P, θ, S, ρ, src, S1, sm, re, q1, fun J H1 θ1 s1 e1 it dl hdl => ?_⟩
  have re1 := re.evo sm e1
  unfold sortSetD at qs
  split at qs
  · rename_i zs hzs
    split at qs
    · rename_i small
      cases qs
      obtain ⟨few1, few2⟩ := Bool.and_eq_true_iff.mp small
      have few1 := of_decide_eq_true few1
      have few2 := of_decide_eq_true few2
      have lenz : res.length = zs.length := by rw [strsOf_eq hzs, List.length_map]
      refine ⟨fun i m H2 => ∃ θ2 S2 l dacc, Sim K cn ([dl] ++ P) H2 θ2 S2 ∧ EvS [] H1 θ1 [dl] H2 θ2 ∧ H2 dl = some (SetXO Pg w dl l) ∧ (l.Nodup ∧ l.length ≤ dacc.length ∧ ∀ x, x ∈ l ↔ D.str x ∈ dacc) ∧ lcD src g c f vs m i dacc ρ S2 = .ok res S',
        ⟨_, θ1, S1, [], [], s1.mine hdl, EvS.newOwn hdl, upd_same, ⟨List.nodup_nil, Nat.le_refl _, fun x => by simp⟩, q2⟩, fun i m H2 ⟨θ2, S2, l, dacc, s2, e2, hac, ⟨nd, ll, hm⟩, q3⟩ => ?_⟩
      have re2 := RepE.evz s1 e2 re1
      have it2 := ItOk.evz it e2
      cases m with
      | zero => cases q3
      | succ n =>
        have whole := lcD_ext q3
        simp only [lcD] at q3
        split at q3
        · cases q3
        · rename_i hend
          cases q3
          refine .inl ⟨it2.stop s2 hend, dl, l, rfl, hac, ?_, fun bq hb => ?_⟩
          · rw [(same_set nd (uniqS_nodup zs) fun x => by rw [hm, uniqS_mem]; exact ⟨fun z => by obtain ⟨k, e, hk⟩ := strsOf_mem hzs z; cases e; exact hk, fun z => mem_strsOf hzs z⟩).length_eq]
            exact few2
          · rw [srtS_of_perm (same_set nd (uniqS_nodup zs) fun x => by rw [hm, uniqS_mem]; exact ⟨fun z => by obtain ⟨k, e, hk⟩ := strsOf_mem hzs z; cases e; exact hk, fun z => mem_strsOf hzs z⟩)]
            have s3 : Sim K cn P H2 θ2 S' := s2.sub fun a ha => List.mem_append_right _ ha
            have ev : Evo H θ H2 θ2 := e1.trans ⟨fun a o ha na => ⟨(e2.keep a o ha na (by simp)).1, (e2.keep a o ha na (by simp)).2.1⟩, e2.pre⟩
            exact Post.newL (xs := (srtS (uniqS zs)).map V.str) (p.at_ ev) s3 Reps.strs bq hb
        · rename_i x hx
          obtain ⟨go, yl⟩ := it2.turn s2 hx
          split at q3
          · cases q3
          · rename_i ρ3 hg3
            obtain ⟨bv, S3, q4, q3⟩ := R.bind_eq q3
            refine .inr ⟨go, fun H' => ∃ θ2 S2 l dacc, Sim K cn ([dl] ++ P) H' θ2 S2 ∧ EvS [] H1 θ1 [dl] H' θ2 ∧ H' dl = some (SetXO Pg w dl l) ∧ (l.Nodup ∧ l.length ≤ dacc.length ∧ ∀ x, x ∈ l ↔ D.str x ∈ dacc) ∧ lcD src g c f vs n (i + 1) dacc ρ S2 = .ok res S',
              fun H' w => ⟨n, Nat.lt_succ_self n, w⟩, fun v H3 y => ?_⟩
            obtain ⟨s3, e3, r3⟩ := yl v H3 y
            have nil_r : ([dl] ++ P) ++ ([] : List Addr) = [dl] ++ P := List.append_nil _
            have re3 := (re2.evo s2 e3).wipe vs
            refine ⟨[], [dl] ++ P, θ2, S2, wipeR ρ vs, x, ρ3, ⟨by rw [nil_r]; exact s3, by rw [nil_r]; exact re3, fun k ds a h1 h2 => ?_, nofun⟩, by rw [nil_r]; exact r3, hg3, fun σ3 st3 hl3 ho3 => ⟨wipe_eq hj hl3 ho3, ?_⟩⟩
            · obtain ⟨w, hw, sr⟩ := re3.at_ k _ h1
              rw [h2] at hw
              cases sr with
              | own m _ _ => cases hw; exact m
            · have rep3 : RepE K cn ([dl] ++ P) H3 θ2 σ3 ρ3 := by have z := st3.rep; rw [nil_r] at z; exact z
              have e23 : EvS [] H1 θ1 [dl] H3 θ2 := e2.trans e3.s
              have nt : dl ∉ θ2 := (s2.pf dl (by simp)).1
              have hac3 := (e3.keep dl _ hac nt).1
              split at q3
              · refine ⟨[dl] ++ P, θ2, S2, ρ3, true, S3, s3, rep3, q4, fun H4 θ4 s4 e4 => ?_⟩
                obtain ⟨d, S5, q5, q3⟩ := R.bind_eq q3
                simp only [if_true]
                refine ⟨[dl] ++ P, θ4, S3, ρ3, d, S5, s4, rep3.evo s3 e4, q5, fun u H5 θ5 s5 e5 r5 => ?_⟩
                have e35 := e4.trans e5
                split at q3
                · obtain ⟨tl, etl⟩ := lcD_ext q3
                  obtain ⟨k, ek, hk⟩ := strsOf_mem (d := d) hzs (by rw [etl]; simp)
                  subst ek
                  have long : dacc.length + 1 ≤ zs.length := by
                    rw [← lenz, etl]
                    simp
                  refine ⟨k, l, r5.vstr, (e35.keep dl _ hac3 nt).1, by have : scanBound = 4096 := rfl; omega, θ5, S5, putS k l, dacc ++ [.str k], s5.set (by simp), (e23.trans e35.s).putMine, upd_same, ⟨putS_nodup nd, ?_, fun x => ?_⟩, q3⟩
                  · have z := putS_len (l := l) (k := k)
                    rw [List.length_append, List.length_singleton]
                    omega
                  · rw [putS_mem, List.mem_append, List.mem_singleton, hm]
                    exact ⟨fun z => z.elim (fun e => .inr (by rw [e])) .inl, fun z => z.elim .inr fun e => .inl (by cases e; rfl)⟩
                · cases q3
              · refine ⟨[dl] ++ P, θ2, S2, ρ3, false, S3, s3, rep3, q4, fun H4 θ4 s4 e4 => ?_⟩
                simp only [Bool.false_eq_true, if_false]
                exact ⟨θ4, S3, l, dacc, s4, e23.trans e4.s, (e4.keep dl _ hac3 nt).1, ⟨nd, ll, hm⟩, q3⟩
              · cases q3
    · cases qs
  · cases qs
section
variable {X : Cx} {cn : Nat → Addr}
theorem de_sortSc {elt tg iter : Expr} {ifs : List Expr} {scope : Scope} {p pos pos2 : Pos} {k : Nat} {fi : Rho → Sto → R Src} {b : Bool} {g : TgF} {c f : DX} {js : List Nat} (hm : X.mg "sorted" = none) (own : List (Str × Nat)) (hc : X.calm = true) (hN : X.N.Nodup) (hi : DI b X cn tg iter fi) (ok : BlkOk X.N X.env.scope scope own) (hj : ∀ j ∈ js, j ∈ own.map (·.2))
    (hg : ∀ (s : Shared) (H : Hp) (C : Addr) (cl : List (Str × Addr)) (fp : List Addr), DG (X.blk s H scope (compEnvC scope cl C X.env) fp) cn js tg g) (ht : ∀ (s : Shared) (H : Hp) (C : Addr) (cl : List (Str × Addr)) (fp : List Addr), DTs (X.blk s H scope (compEnvC scope cl C X.env) fp) cn ifs c)
    (he : ∀ (s : Shared) (H : Hp) (C : Addr) (cl : List (Str × Addr)) (fp : List Addr), DE (X.blk s H scope (compEnvC scope cl C X.env) fp) cn elt f) (hr : Room k X.A) (hs : ∀ x, foldedSetIterable iter X.env x = pure x := by intro _; rfl) (hgl : Gl X "sorted" := by rfl)
    (h2 : starEach [.SetComp elt [⟨tg, iter, ifs, 0⟩] scope pos2] X.env = (false, eval (.SetComp elt [⟨tg, iter, ifs, 0⟩] scope pos2) X.env) :: starEach [] X.env := by rfl) (hpl : (backTo pos (starEach [] X.env)).any (·.1) = false := by rfl) :
    DE X cn (.Call (.Name "sorted" p) [.SetComp elt [⟨tg, iter, ifs, 0⟩] scope pos2] [] pos) (xSortSc (xsLc fi g c f (own.map (·.2)))) :=
  ⟨(pe_callB (cr_sortedX hc) hgl hm boot_sorted (pa_cons (pe_scX hc hN hi.pi ok (fun s H C cl fp => (hg s H C cl fp).pg) (fun s H C cl fp => (ht s H C cl fp).pt) (fun s H C cl fp => (he s H C cl fp).pe) hs) pa_nil h2) (by decide) (by decide) h2 hpl).weak fun σ H Q h => sc_ok hj h⟩
end
end DL

set_option Elab.async false
set_option linter.all false
set_option maxRecDepth 100000
set_option maxHeartbeats 4000000
set_option autoImplicit false
namespace DL
open PySem PySem.Spec PyProof.Rows L2
/-! ### list of a text -/
section
variable {X : Cx}
theorem signs_vals {x : Str} {items : Array Value} (h : ItemsOf (SignAt x) items x.cps.size) : Vals ((signs x).map V.str) items.toList :=
  vals_of_strs (strs_at (by simp [h.1, signs]) fun j v hv => by
    obtain ⟨c, u, hc, rfl⟩ := h.2 j v (by simpa using hv)
    exact ⟨⟨#[c]⟩, _, by simp [signs, hc], rfl⟩)
theorem call_list_text (hc : X.calm = true) : CallR X (.type "list") (fun xs H Q => ∃ x, xs = [.str x] ∧ x.cps.size ≤ sizeLine ∧ ∀ l, H l = none → Q (.ref l) (upd H l (.lst ((signs x).map V.str)))) := by
  intro pins s σ H xs us Q I r h
  obtain ⟨x, rfl, few, q⟩ := h
  obtain ⟨u, rfl, rx⟩ := vals1 r
  obtain ⟨t, rfl⟩ := rx
  refine call_list_str (I.ok.hd hc) x t (hn := few) fun h' tk acc' c' hk hS' hacc => ?_
  exact ⟨.ref s.heap.objs.size, _, I.laid (t' := tk) hk (Nat.le_refl _) (show ObjOk X.prog X.w _ h' _ (.lst ((signs x).map V.str)) from ⟨by simpa [signs] using few, acc'.toList, c', signs_vals hacc, by simpa using hS'⟩), rfl, q _ (I.hok.fresh (Nat.le_refl _))⟩
end
def xsOfT (f : DX) : DXs := fun ρ S => (f ρ S).bind fun d S1 => match d with
  | .str x => if fits x.cps.size then .ok ((signs x).map D.str) S1 else .stuck
  | d => match seqOf S1 d with
    | some xs => .ok xs S1
    | none => .stuck
section
variable {X : Cx} {cn : Nat → Addr}
theorem df_listT {e : Expr} {f : DX} {p pos : Pos} (hc : X.calm = true) (hm : X.mg "list" = none) (ha : DB X cn e f) (hg : Gl X "list" := by rfl) (h1 : starEach [e] X.env = (false, eval e X.env) :: starEach [] X.env := by rfl) (hpl : (backTo pos (starEach [] X.env)).any (·.1) = false := by rfl) :
    DF X cn (.Call (.Name "list" p) [e] [] pos) (xsOfT f) :=
  ⟨(pe_callTy (call_list_of.or (call_list_text hc)) hg hm boot_list (pa_cons ha.pe pa_nil h1) (by decide) (by decide) h1 hpl).weak fun σ H Q ⟨P, θ, S, ρ, ds, S', s, r, q, p⟩ => by
    obtain ⟨d1, S1, q1, q⟩ := R.bind_eq q
    refine ⟨P, θ, S, ρ, d1, S1, s, r, q1, fun x H1 θ1 s1 e1 r1 => ?_⟩
    split at q
    · rename_i y
      split at q
      · rename_i hf
        cases q
        exact .inr ⟨y, by rw [r1.vstr], of_decide_eq_true hf, fun l hl => p _ H1 θ1 l s1 e1 Reps.strs hl⟩
      · cases q
    · split at q
      · rename_i zs hz
        cases q
        obtain ⟨a, ys, rfl, hy, rs⟩ := seqOf_rep s1 r1 hz
        exact .inl ⟨a, ys, rfl, hy.symm, fun l hl => p ys H1 θ1 l s1 e1 rs hl⟩
      · cases q⟩
end
end DL

set_option Elab.async false
set_option linter.all false
set_option maxRecDepth 100000
set_option maxHeartbeats 4000000
set_option autoImplicit false
namespace DL
open PySem PySem.Spec PyProof.Rows L2
theorem law_end {K : PySem.W.Frag} {H : Hp} {a : Addr} {ns : List Int} {g : DFn} (hO : Only H) (hS : SqL K H a (ns.map V.int)) (h : ∃ S', g [.scr ns] [] = .ok (.bl true) S') :
    spD K (fun _ => 0) 1 g [.ref a] H (fun v _ => v = .bl true) fun _ _ _ => False := by
  obtain ⟨S', h⟩ := h
  have rep : Rep K (fun _ => 0) [] H [] (.ref a) (.scr ns) := by
    rcases hS with (hS | ⟨o, hS⟩) | hS
    · rcases hO a with z | ⟨o, xs, z⟩
      · rw [z] at hS; cases hS
      · rw [z] at hS; cases hS
    · exact .scr hS (by simp) (by simp)
    · exact .scrK hS
  exact ⟨rfl, [], [], [], [.scr ns], .bl true, S', ⟨rfl, List.nodup_nil, nofun, nofun⟩, .cons rep .nil, h, fun v H' θ' _ _ r => r.vbl⟩
end DL

set_option Elab.async false
set_option linter.all false
set_option maxRecDepth 100000
set_option maxHeartbeats 4000000
set_option autoImplicit false
namespace DL
open PySem PySem.Spec PyProof.Rows L2

/-! ### what the mirrors say: plain lemmas -/
@[simp] theorem R.bind_ok1 {α β : Type} {a : α} {S : Sto} {k : α → Sto → R β} : (R.ok a S).bind k = k a S := id rfl
@[simp] theorem R.bind_st {α β : Type} {k : α → Sto → R β} : (R.stuck : R α).bind k = .stuck := id rfl
theorem ofString_iff {a b : String} : Str.ofString a = Str.ofString b ↔ a = b := by
  constructor
  · intro h
    rw [Str.ofString_eq_toList, Str.ofString_eq_toList] at h
    have h1 := congrArg Str.cps h
    have h2 : a.toList.map Char.toNat = b.toList.map Char.toNat := by simpa using h1
    have inj : ∀ x y : Char, x.toNat = y.toNat → x = y := fun x y e => Char.toNat_inj.mp e
    have h3 := List.map_inj_right inj |>.mp h2
    exact String.toList_inj.mp h3
  · intro h; rw [h]

/-! #### equality -/
theorem eqD_str (x y : Str) : eqD (.str x) (.str y) = decide (x = y) := by
  unfold eqD
  simp only [toPy, PyData.eqv]
  by_cases h : x = y
  · simp [h]
  · simp [h]
theorem eqD_int (x y : Int) : eqD (.int x) (.int y) = decide (x = y) := by
  unfold eqD
  simp only [toPy, PyData.eqv]
  by_cases h : x = y
  · simp [h]
  · simp [h]
theorem eqD_self {d : D} (h : lay d = true) : eqD d d = true := PySem.SeqAt.eqv_refl _ (lay_can d h)
theorem dep_str {x : Str} : dep (.str x) = 0 := by unfold dep; simp only [toPy, PyData.depth]
theorem dep_int {x : Int} : dep (.int x) = 0 := by unfold dep; simp only [toPy, PyData.depth]
theorem dep_non : dep .non = 0 := by unfold dep; simp only [toPy, PyData.depth]
theorem dep_bl {x : Bool} : dep (.bl x) = 0 := by unfold dep; simp only [toPy, PyData.depth]
theorem dep_tup {xs : List D} : dep (.tup xs) = deps xs + 1 := by unfold dep deps; simp only [toPy, PyData.depth]
theorem dep_lst {xs : List D} : dep (.lst xs) = deps xs + 1 := by unfold dep deps; simp only [toPy, PyData.depth]
theorem deps_nil : deps [] = 0 := by unfold deps; simp only [toPys, PyData.depthAll]
theorem deps_cons {d : D} {ds : List D} : deps (d :: ds) = max (dep d) (deps ds) := by unfold dep deps; simp only [toPys, PyData.depthAll]
theorem deps_le {ds : List D} {n : Nat} (h : ∀ d ∈ ds, dep d ≤ n) : deps ds ≤ n := by
  induction ds with
  | nil => rw [deps_nil]; omega
  | cons d ds ih =>
    rw [deps_cons]
    have h1 := h d List.mem_cons_self
    have h2 := ih fun e he => h e (List.mem_cons_of_mem _ he)
    omega
theorem lays_of {ds : List D} (h : ∀ d ∈ ds, lay d = true) : lays ds = true := by
  induction ds with
  | nil => rfl
  | cons d ds ih =>
    show (lay d && lays ds) = true
    rw [h d List.mem_cons_self, ih fun e he => h e (List.mem_cons_of_mem _ he)]
    rfl
def okStr (x : Str) : Prop := PyData.strOk x = true ∧ x.cps.size ≤ 1000
/-- data of that depth at most, that may be compared -/
def Lay (n : Nat) (d : D) : Prop := lay d = true ∧ dep d ≤ n
theorem Lay.mono {n m : Nat} {d : D} (h : Lay n d) (k : n ≤ m) : Lay m d := ⟨h.1, Nat.le_trans h.2 k⟩
theorem Lay.str {n : Nat} {x : Str} (h : okStr x) : Lay n (.str x) := ⟨h.1, by rw [dep_str]; omega⟩
theorem Lay.int {n : Nat} {x : Int} : Lay n (.int x) := ⟨rfl, by rw [dep_int]; omega⟩
theorem Lay.non {n : Nat} : Lay n .non := ⟨rfl, by rw [dep_non]; omega⟩
theorem Lay.bl {n : Nat} {x : Bool} : Lay n (.bl x) := ⟨rfl, by rw [dep_bl]; omega⟩
theorem Lay.tup {n : Nat} {xs : List D} (h : ∀ d ∈ xs, Lay n d) : Lay (n + 1) (.tup xs) := ⟨lays_of fun d hd => (h d hd).1, by rw [dep_tup]; exact Nat.succ_le_succ (deps_le fun d hd => (h d hd).2)⟩
theorem Lay.lst {n : Nat} {xs : List D} (h : ∀ d ∈ xs, Lay n d) : Lay (n + 1) (.lst xs) := ⟨lays_of fun d hd => (h d hd).1, by rw [dep_lst]; exact Nat.succ_le_succ (deps_le fun d hd => (h d hd).2)⟩
theorem deref_lay {n : Nat} {d : D} {S : Sto} (h : Lay n d) : deref S d = d := by
  cases d with
  | obj i => exact absurd h.1 (by simp [lay])
  | _ => rfl
theorem comparable_of {n m : Nat} {d e : D} (h : Lay n d) (k : Lay m e) (z : min n m ≤ 100) : comparable d e = true := by
  unfold comparable
  rw [h.1, k.1]
  have a := h.2
  have b := k.2
  simp only [Bool.true_and, decide_eq_true_eq]
  omega
theorem oEq_of {n m : Nat} {d e : D} {S : Sto} (h : Lay n d) (k : Lay m e) (z : min n m ≤ 100) : oEq S d e = .ok (.bl (eqD d e)) S := by
  unfold oEq
  rw [deref_lay h, deref_lay k, comparable_of h k z]
  rfl
theorem oNe_of {n m : Nat} {d e : D} {S : Sto} (h : Lay n d) (k : Lay m e) (z : min n m ≤ 100) : oNe S d e = .ok (.bl (!eqD d e)) S := by
  unfold oNe
  rw [deref_lay h, deref_lay k, comparable_of h k z]
  rfl
theorem oEq_same {n : Nat} {d : D} {S : Sto} (h : Lay n d) (z : n ≤ 100) : oEq S d d = .ok (.bl true) S := by rw [oEq_of h h (by omega), eqD_self h.1]
theorem oNe_same {n : Nat} {d : D} {S : Sto} (h : Lay n d) (z : n ≤ 100) : oNe S d d = .ok (.bl false) S := by rw [oNe_of h h (by omega), eqD_self h.1] <;> rfl
theorem oEq_str {x y : Str} {S : Sto} (h : okStr x) (k : okStr y) : oEq S (.str x) (.str y) = .ok (.bl (decide (x = y))) S := by rw [oEq_of (n := 0) (m := 0) (.str h) (.str k) (by omega), eqD_str]
@[simp] theorem oEq_int {x y : Int} {S : Sto} : oEq S (.int x) (.int y) = .ok (.bl (decide (x = y))) S := by rw [oEq_of (n := 0) (m := 0) .int .int (by omega), eqD_int]
@[simp] theorem oNe_int {x y : Int} {S : Sto} : oNe S (.int x) (.int y) = .ok (.bl (!decide (x = y))) S := by rw [oNe_of (n := 0) (m := 0) .int .int (by omega), eqD_int]

theorem strOk_lit (a : String) : PyData.strOk (Str.ofString a) = true := by
  unfold PyData.strOk
  rw [Str.ofString_eq_toList]
  simp only [Array.all_eq_true', decide_eq_true_eq]
  intro x hx
  have h2 : x ∈ a.toList.map Char.toNat := by simpa using hx
  obtain ⟨c, _, e⟩ := List.mem_map.mp h2
  rw [← e]
  have v := c.valid
  have z : c.toNat < 0x110000 := by
    rcases v with v | v
    · have : c.toNat < 0xd800 := v
      omega
    · exact v.2
  exact z
theorem okStr_lit (a : String) (h : (Str.ofString a).cps.size ≤ 1000 := by decide +kernel) : okStr (Str.ofString a) := ⟨strOk_lit a, h⟩
theorem Lay.lit {n : Nat} (a : String) : Lay n (.str (Str.ofString a)) := ⟨strOk_lit a, by rw [dep_str]; omega⟩
@[simp] theorem oEq_lit {a b : String} {S : Sto} : oEq S (.str (Str.ofString a)) (.str (Str.ofString b)) = .ok (.bl (decide (a = b))) S := by
  rw [oEq_of (n := 0) (m := 0) (.lit a) (.lit b) (by omega), eqD_str]
  simp only [ofString_iff]
/-! #### subscripts -/
theorem atI_nat {α : Type} {xs : List α} {n : Nat} : atI xs (n : Int) = xs[n]? := by
  unfold atI ixN
  by_cases h : n < xs.length
  · have h1 : (0 : Int) ≤ (n : Int) := by omega
    have h2 : (n : Int) < (xs.length : Int) := by omega
    rw [if_pos h1, if_pos h2]
    simp
  · have h1 : (0 : Int) ≤ (n : Int) := by omega
    have h2 : ¬ (n : Int) < (xs.length : Int) := by omega
    rw [if_pos h1, if_neg h2, List.getElem?_eq_none (by omega)]
    rfl
theorem oIx_seq {S : Sto} {d : D} {xs : List D} {n : Nat} {r : D} (h : seqOf S d = some xs) (e : xs[n]? = some r) : oIx S d (.int (n : Int)) = .ok r S := by
  unfold oIx
  cases d with
  | str z => cases h
  | _ => simp only [h, atI_nat, e]
@[simp] theorem oIx0 {S : Sto} {a : D} {l : List D} : oIx S (.tup (a :: l)) (.int 0) = .ok a S := oIx_seq (n := 0) rfl rfl
@[simp] theorem oIx1 {S : Sto} {a b : D} {l : List D} : oIx S (.tup (a :: b :: l)) (.int 1) = .ok b S := oIx_seq (n := 1) rfl rfl
@[simp] theorem oIx2 {S : Sto} {a b c : D} {l : List D} : oIx S (.tup (a :: b :: c :: l)) (.int 2) = .ok c S := oIx_seq (n := 2) rfl rfl
@[simp] theorem oIx3 {S : Sto} {a b c d : D} {l : List D} : oIx S (.tup (a :: b :: c :: d :: l)) (.int 3) = .ok d S := oIx_seq (n := 3) rfl rfl

/-! #### loops -/
def foldD (step : D → DS) : List D → DS
  | [] => fun ρ S => .ok (.next ρ) S
  | x :: xs => fun ρ S => (step x ρ S).bind fun o S1 => match o with
    | .next ρ1 => foldD step xs ρ1 S1
    | .cont ρ1 => foldD step xs ρ1 S1
    | .brk ρ1 => .ok (.next ρ1) S1
    | .ret d => .ok (.ret d) S1
/-- the items of what does not change -/
def Items (src : Src) (L : List D) : Prop := ∀ S i, srcAt S src i = some (L[i]?)
theorem items_tup (L : List D) : Items (.seq (.tup L)) L := fun _ _ => rfl
theorem items_lst (L : List D) : Items (.seq (.lst L)) L := fun _ _ => rfl
def enumL : Nat → List D → List D
  | _, [] => []
  | k, x :: xs => .tup [.int (k : Nat), x] :: enumL (k + 1) xs
theorem enumL_get : ∀ (L : List D) (k i : Nat), (enumL k L)[i]? = (L[i]?).map fun x => D.tup [.int ((k + i : Nat) : Int), x]
  | [], _, _ => by simp [enumL]
  | x :: xs, k, 0 => by simp [enumL]
  | x :: xs, k, i + 1 => by
    unfold enumL
    rw [List.getElem?_cons_succ, List.getElem?_cons_succ, enumL_get xs (k + 1) i]
    have e : k + 1 + i = k + (i + 1) := by omega
    rw [e]
theorem items_enum_tup (L : List D) : Items (.enum (.tup L)) (enumL 0 L) := fun S i => by
  rw [enumL_get]
  show (match L[i]? with | some x => some (some (D.tup [.int (i : Nat), x])) | none => some none) = _
  cases L[i]? with
  | none => rfl
  | some x => simp
theorem items_enum_lst (L : List D) : Items (.enum (.lst L)) (enumL 0 L) := fun S i => by
  rw [enumL_get]
  show (match L[i]? with | some x => some (some (D.tup [.int (i : Nat), x])) | none => some none) = _
  cases L[i]? with
  | none => rfl
  | some x => simp
def rngL (lo : Int) : Nat → List D
  | 0 => []
  | n + 1 => .int lo :: rngL (lo + 1) n
theorem rngL_get : ∀ (n i : Nat) (lo : Int), (rngL lo n)[i]? = if i < n then some (D.int (lo + (i : Nat))) else none
  | 0, i, lo => by simp [rngL]
  | n + 1, 0, lo => by simp [rngL]
  | n + 1, i + 1, lo => by
    unfold rngL
    rw [List.getElem?_cons_succ, rngL_get n i (lo + 1)]
    by_cases h : i < n
    · rw [if_pos h, if_pos (by omega)]
      congr 2
      omega
    · rw [if_neg h, if_neg (by omega)]
theorem items_rng (lo : Int) (n : Nat) : Items (.rng lo n) (rngL lo n) := fun S i => by
  rw [rngL_get]
  show (if i < n then some (some (D.int (lo + (i : Nat)))) else some none) = _
  split <;> rfl
theorem loop_fold {src : Src} {L : List D} (h : Items src L) (step : D → DS) : ∀ (n i : Nat) (ρ : Rho) (S : Sto), L.length < n + i → loopD src step n i ρ S = foldD step (L.drop i) ρ S ∨ L.length < i
  | 0, i, ρ, S, hl => .inr (by omega)
  | n + 1, i, ρ, S, hl => by
    by_cases hi : L.length < i
    · exact .inr hi
    · refine .inl ?_
      simp only [loopD]
      rw [h S i]
      by_cases hj : i < L.length
      · rw [List.getElem?_eq_getElem hj, List.drop_eq_getElem_cons hj]
        simp only [foldD]
        congr 1
        funext o S1
        have again : ∀ ρ1, loopD src step n (i + 1) ρ1 S1 = foldD step (L.drop (i + 1)) ρ1 S1 := fun ρ1 => (loop_fold h step n (i + 1) ρ1 S1 (by omega)).resolve_right (by omega)
        cases o with
        | next ρ1 => exact again ρ1
        | cont ρ1 => exact again ρ1
        | brk ρ1 => rfl
        | ret d => rfl
      · have e : i = L.length := by omega
        rw [e, List.getElem?_eq_none (Nat.le_refl _), List.drop_length]
        rfl
theorem for_fold {fi : Rho → Sto → R Src} {g : TgF} {h : DS} {ρ : Rho} {S S1 : Sto} {src : Src} {L : List D} (e : fi ρ S = .ok src S1) (hL : Items src L) (hn : L.length ≤ srcLen S1 src) : sFor fi g h ρ S = foldD (stepD g h) L ρ S1 := by
  unfold sFor
  rw [e]
  simp only [R.bind_ok1]
  have z := (loop_fold hL (stepD g h) (srcLen S1 src + 1) 0 ρ S1 (by omega)).resolve_right (by omega)
  rw [z, List.drop_zero]
theorem for_tup {f : DX} {g : TgF} {h : DS} {ρ : Rho} {S S1 : Sto} {L : List D} (e : f ρ S = .ok (.tup L) S1) : sFor (iSeq f) g h ρ S = foldD (stepD g h) L ρ S1 :=
  for_fold (src := .seq (.tup L)) (by unfold iSeq; rw [e]; rfl) (items_tup L) (by simp [srcLen, seqOf])
theorem for_lst {f : DX} {g : TgF} {h : DS} {ρ : Rho} {S S1 : Sto} {L : List D} (e : f ρ S = .ok (.lst L) S1) : sFor (iSeq f) g h ρ S = foldD (stepD g h) L ρ S1 :=
  for_fold (src := .seq (.lst L)) (by unfold iSeq; rw [e]; rfl) (items_lst L) (by simp [srcLen, seqOf])
theorem enumL_len : ∀ (L : List D) (k : Nat), (enumL k L).length = L.length
  | [], _ => rfl
  | _ :: xs, k => congrArg Nat.succ (enumL_len xs (k + 1))
theorem rngL_len : ∀ (n : Nat) (lo : Int), (rngL lo n).length = n
  | 0, _ => rfl
  | n + 1, lo => congrArg Nat.succ (rngL_len n (lo + 1))
theorem for_enumT {f : DX} {g : TgF} {h : DS} {ρ : Rho} {S S1 : Sto} {L : List D} (e : f ρ S = .ok (.tup L) S1) : sFor (iEnu f) g h ρ S = foldD (stepD g h) (enumL 0 L) ρ S1 :=
  for_fold (src := .enum (.tup L)) (by unfold iEnu; rw [e]; rfl) (items_enum_tup L) (by rw [enumL_len]; simp [srcLen, seqOf])
theorem for_enumL {f : DX} {g : TgF} {h : DS} {ρ : Rho} {S S1 : Sto} {L : List D} (e : f ρ S = .ok (.lst L) S1) : sFor (iEnu f) g h ρ S = foldD (stepD g h) (enumL 0 L) ρ S1 :=
  for_fold (src := .enum (.lst L)) (by unfold iEnu; rw [e]; rfl) (items_enum_lst L) (by rw [enumL_len]; simp [srcLen, seqOf])
theorem rng_ok {n : Nat} (h : n < 1000000) : lt62 (n : Int) = true := by
  have h1 : -4611686018427387904 ≤ (n : Int) := by omega
  have h2 : (n : Int) < 4611686018427387904 := by omega
  unfold lt62
  rw [decide_eq_true h1, decide_eq_true h2]
  rfl
theorem rep63 {n : Nat} (h : n < 1000000) : lt63 (n : Int) = true := by
  have h1 : -9223372036854775808 ≤ (n : Int) := by omega
  have h2 : (n : Int) < 9223372036854775808 := by omega
  unfold lt63
  rw [decide_eq_true h1, decide_eq_true h2]
  rfl
theorem iRg1_eq {f : DX} {ρ : Rho} {S S1 : Sto} {j : Int} (e : f ρ S = .ok (.int j) S1) (h : lt62 j = true) : iRg1 f ρ S = .ok (.rng 0 j.toNat) S1 := by
  unfold iRg1
  rw [e]
  simp only [R.bind_ok1]
  rw [h]
  rfl
theorem for_rng {f : DX} {g : TgF} {h : DS} {ρ : Rho} {S S1 : Sto} {n : Nat} (e : f ρ S = .ok (.int (n : Int)) S1) (hn : n < 1000000) : sFor (iRg1 f) g h ρ S = foldD (stepD g h) (rngL 0 n) ρ S1 :=
  for_fold (iRg1_eq e (rng_ok hn)) (items_rng 0 n) (by rw [rngL_len]; exact Nat.le_refl _)
/-- a comprehension over what does not change, each item by itself -/
theorem lc_fold {src : Src} {L : List D} (h : Items src L) {g : TgF} {c f : DX} {vs : List Nat} {ρ : Rho} {S : Sto} (t : srcSmall src = true) (k : D → Option D)
    (each : ∀ x ∈ L, ∃ ρ1, g x (wipeR ρ vs) = some ρ1 ∧ match k x with
      | some y => c ρ1 S = .ok (.bl true) S ∧ f ρ1 S = .ok y S
      | none => c ρ1 S = .ok (.bl false) S) :
    ∀ (n i : Nat) (acc : List D), L.length < n + i → i ≤ L.length → lcD src g c f vs n i acc ρ S = .ok (acc ++ (L.drop i).filterMap k) S
  | 0, i, acc, hl, hi => by omega
  | n + 1, i, acc, hl, hi => by
    simp only [lcD]
    rw [h S i]
    by_cases hj : i < L.length
    · rw [List.getElem?_eq_getElem hj, List.drop_eq_getElem_cons hj, List.filterMap_cons]
      obtain ⟨ρ1, h1, h2⟩ := each _ (List.getElem_mem hj)
      simp only [h1]
      cases e : k L[i] with
      | none =>
        rw [e] at h2
        rw [h2]
        simp only [R.bind_ok1]
        exact lc_fold h t k each n (i + 1) acc (by omega) hj
      | some y =>
        rw [e] at h2
        rw [h2.1]
        simp only [R.bind_ok1]
        rw [h2.2]
        simp only [R.bind_ok1, t, Bool.true_or, if_true]
        rw [lc_fold h t k each n (i + 1) (acc ++ [y]) (by omega) hj, List.append_assoc]
        rfl
    · have e : i = L.length := by omega
      rw [e, List.getElem?_eq_none (Nat.le_refl _), List.drop_length]
      simp
theorem xsLc_tup {fx : DX} {g : TgF} {c f : DX} {vs : List Nat} {ρ : Rho} {S S1 : Sto} {L : List D} (e : fx ρ S = .ok (.tup L) S1) (k : D → Option D)
    (each : ∀ x ∈ L, ∃ ρ1, g x (wipeR ρ vs) = some ρ1 ∧ match k x with
      | some y => c ρ1 S1 = .ok (.bl true) S1 ∧ f ρ1 S1 = .ok y S1
      | none => c ρ1 S1 = .ok (.bl false) S1) : xsLc (iSeq fx) g c f vs ρ S = .ok (L.filterMap k) S1 := by
  have e2 : iSeq fx ρ S = .ok (.seq (.tup L)) S1 := by unfold iSeq; rw [e]; rfl
  unfold xsLc
  rw [e2]
  simp only [R.bind_ok1]
  rw [lc_fold (items_tup L) rfl k each _ 0 [] (by simp [srcLen, seqOf]) (Nat.zero_le _)]
  simp
theorem xsLc_lst {fx : DX} {g : TgF} {c f : DX} {vs : List Nat} {ρ : Rho} {S S1 : Sto} {L : List D} (e : fx ρ S = .ok (.lst L) S1) (k : D → Option D)
    (each : ∀ x ∈ L, ∃ ρ1, g x (wipeR ρ vs) = some ρ1 ∧ match k x with
      | some y => c ρ1 S1 = .ok (.bl true) S1 ∧ f ρ1 S1 = .ok y S1
      | none => c ρ1 S1 = .ok (.bl false) S1) : xsLc (iSeq fx) g c f vs ρ S = .ok (L.filterMap k) S1 := by
  have e2 : iSeq fx ρ S = .ok (.seq (.lst L)) S1 := by unfold iSeq; rw [e]; rfl
  unfold xsLc
  rw [e2]
  simp only [R.bind_ok1]
  rw [lc_fold (items_lst L) rfl k each _ 0 [] (by simp [srcLen, seqOf]) (Nat.zero_le _)]
  simp
end DL

set_option Elab.async false
set_option linter.all false
set_option maxRecDepth 100000
set_option maxHeartbeats 4000000
set_option autoImplicit false
namespace DL
open PySem PySem.Spec PyProof.Rows L2

/-! ### the combinators, opened where they are applied -/
section
variable {ρ : Rho} {S : Sto} {f g h : DX} {fs gs : DXs} {o : Op2} {i j : Nat} {d e : D} {z z2 : DXz} {a b c : DS}
@[simp] theorem xVal_s : xVal i ρ S = match ρ[i]? with
  | some (.val d) => .ok d S
  | _ => .stuck := id rfl
@[simp] theorem xVar_s : xVar i ρ S = match ρ[i]? with
  | some (.val d) => .ok d S
  | some (.own ds) => .ok (.lst ds) S
  | _ => .stuck := id rfl
@[simp] theorem xC_s : xC d ρ S = .ok d S := id rfl
@[simp] theorem xsNil_s : xsNil ρ S = .ok [] S := id rfl
@[simp] theorem xsCons_s : xsCons f fs ρ S = (f ρ S).bind fun d S1 => (fs ρ S1).bind fun ds S2 => .ok (d :: ds) S2 := id rfl
@[simp] theorem xTup_s : xTup fs ρ S = (fs ρ S).bind fun ds S1 => .ok (.tup ds) S1 := id rfl
@[simp] theorem xLst_s : xLst fs ρ S = (fs ρ S).bind fun ds S1 => .ok (.lst ds) S1 := id rfl
@[simp] theorem xOp_s : xOp o f g ρ S = (f ρ S).bind fun d S1 => (g ρ S1).bind fun e S2 => o S2 d e := id rfl
@[simp] theorem xAnd_s : xAnd f g ρ S = (f ρ S).bind fun d S1 => match d with
  | .bl true => g ρ S1
  | .bl false => .ok (.bl false) S1
  | _ => .stuck := id rfl
@[simp] theorem xOr_s : xOr f g ρ S = (f ρ S).bind fun d S1 => match d with
  | .bl true => .ok (.bl true) S1
  | .bl false => g ρ S1
  | _ => .stuck := id rfl
@[simp] theorem xNot_s : xNot f ρ S = (f ρ S).bind fun d S1 => match d with
  | .bl b => .ok (.bl !b) S1
  | _ => .stuck := id rfl
@[simp] theorem xIf_s : xIf h f g ρ S = (h ρ S).bind fun d S1 => match d with
  | .bl true => f ρ S1
  | .bl false => g ρ S1
  | _ => .stuck := id rfl
@[simp] theorem zV_s : zV f ρ S = (f ρ S).bind fun d S1 => .ok (.val d) S1 := id rfl
@[simp] theorem zL_s : zL fs ρ S = (fs ρ S).bind fun ds S1 => .ok (.own ds) S1 := id rfl
@[simp] theorem xOfZ_s : xOfZ z ρ S = (z ρ S).bind fun t S1 => match t with
  | .own ds => .ok (.lst ds) S1
  | .val d => .ok d S1
  | _ => .stuck := id rfl
@[simp] theorem xNew_s : xNew z ρ S = (z ρ S).bind fun t S1 => match t with
  | .own ds => .ok (.obj S1.length) (S1 ++ [.lst ds])
  | _ => .stuck := id rfl
@[simp] theorem xFn_s {F : DFn} : xFn F fs ρ S = (fs ρ S).bind F := id rfl
@[simp] theorem xFnK_s {F : DFn} {ix : List Nat} : xFnK ix F fs gs ρ S = (fs ρ S).bind fun ds S1 => (gs ρ S1).bind fun es S2 => F (kwG ix ds es) S2 := id rfl
@[simp] theorem xCall_s {k : OpL} : xCall k fs ρ S = (fs ρ S).bind fun ds S1 => k S1 ds := id rfl
@[simp] theorem xsStar_s : xsStar f fs ρ S = (f ρ S).bind fun d S1 => match seqOf S1 d with
  | some xs => (fs ρ S1).bind fun ds S2 => .ok (xs ++ ds) S2
  | none => .stuck := id rfl
@[simp] theorem xTupS_s : xTupS fs ρ S = (fs ρ S).bind fun ds S1 => if fits ds.length then .ok (.tup ds) S1 else .stuck := id rfl
@[simp] theorem xLstS_s : xLstS fs ρ S = (fs ρ S).bind fun ds S1 => if fits ds.length then .ok (.lst ds) S1 else .stuck := id rfl
@[simp] theorem xDGet_s : xDGet f g ρ S = (f ρ S).bind fun d S1 => (g ρ S1).bind fun e S2 => match keyD e with
  | some k => match d with
    | .dic ks ds => match dicAt ks ds k with
      | some r => .ok r S2
      | none => .stuck
    | _ => .stuck
  | none => .stuck := id rfl
@[simp] theorem seqOf_tup {xs : List D} : seqOf S (.tup xs) = some xs := id rfl
@[simp] theorem seqOf_lst {xs : List D} : seqOf S (.lst xs) = some xs := id rfl
@[simp] theorem cTuple_tup {xs : List D} : cTuple S [.tup xs] = .ok (.tup xs) S := id rfl
@[simp] theorem cTuple_lst {xs : List D} : cTuple S [.lst xs] = .ok (.tup xs) S := id rfl
@[simp] theorem cLen_tup {xs : List D} : cLen S [.tup xs] = .ok (.int xs.length) S := id rfl
@[simp] theorem cLen_lst {xs : List D} : cLen S [.lst xs] = .ok (.int xs.length) S := id rfl
@[simp] theorem sNil_s : sNil ρ S = .ok (.next ρ) S := id rfl
@[simp] theorem sPass_s : sPass ρ S = .ok (.next ρ) S := id rfl
@[simp] theorem sCont_s : sCont ρ S = .ok (.cont ρ) S := id rfl
@[simp] theorem sSeq_s : sSeq a b ρ S = (a ρ S).bind fun o S1 => match o with
  | .next ρ1 => b ρ1 S1
  | .brk ρ1 => .ok (.brk ρ1) S1
  | .cont ρ1 => .ok (.cont ρ1) S1
  | .ret d => .ok (.ret d) S1 := id rfl
@[simp] theorem sIf_s : sIf f a b ρ S = (f ρ S).bind fun d S1 => match d with
  | .bl true => a ρ S1
  | .bl false => b ρ S1
  | _ => .stuck := id rfl
@[simp] theorem sRet_s : sRet f ρ S = (f ρ S).bind fun d S1 => .ok (.ret d) S1 := id rfl
@[simp] theorem sExpr_s : sExpr f ρ S = (f ρ S).bind fun _ S1 => .ok (.next ρ) S1 := id rfl
@[simp] theorem sLet_s : sLet i z ρ S = (z ρ S).bind fun t S1 => .ok (.next (ρ.set i t)) S1 := id rfl
@[simp] theorem sPar_s : sPar i j z z2 ρ S = (z ρ S).bind fun t S1 => (z2 ρ S1).bind fun u S2 => .ok (.next ((ρ.set i t).set j u)) S2 := id rfl
@[simp] theorem sUnp_s {t : TgF} : sUnp f t ρ S = (f ρ S).bind fun d S1 => match t d ρ with
  | some ρ1 => .ok (.next ρ1) S1
  | none => .stuck := id rfl
@[simp] theorem sRetO_s : sRetO i ρ S = match ρ[i]? with
  | some (.own ds) => .ok (.ret (.lst ds)) S
  | some (.val d) => .ok (.ret d) S
  | _ => .stuck := id rfl
@[simp] theorem sMod_s {k : Sto → D → List D → Option (List D)} : sMod i f k ρ S = match lookL i ρ S with
  | none => .stuck
  | some _ => (f ρ S).bind fun d S1 => modAt i (k S1 d) ρ S1 := id rfl
@[simp] theorem sPut_s : sPut i g f ρ S = (f ρ S).bind fun d S1 => (g ρ S1).bind fun e S2 => match e with
  | .int k => modAt i (kSet k d) ρ S2
  | _ => .stuck := id rfl
@[simp] theorem gSet_s : gSet i d ρ = some (ρ.set i (.val d)) := id rfl
@[simp] theorem gTup_s {t : TgsF} {ds : List D} : gTupD t (.tup ds) ρ = t ds ρ := id rfl
@[simp] theorem gsCons_s {t : TgF} {u : TgsF} {ds : List D} : gsCons t u (d :: ds) ρ = (t d ρ).bind (u ds) := id rfl
@[simp] theorem gsNil_s : gsNil [] ρ = some ρ := id rfl
@[simp] theorem wipe_nil : wipeR ρ [] = ρ := id rfl
@[simp] theorem wipe_cons {vs : List Nat} : wipeR ρ (i :: vs) = (wipeR ρ vs).set i .non := id rfl
@[simp] theorem stepD_s {t : TgF} {x : D} : stepD t a x ρ S = match t x ρ with
  | some ρ1 => a ρ1 S
  | none => .stuck := id rfl
theorem fnD_s {m : Nat} {ds : List D} : fnD m a ds S = (a (ds.map Slot.val ++ List.replicate m .non) S).bind fun o S1 => match o with
  | .ret d => .ok d S1
  | .next _ => .ok .non S1
  | _ => .stuck := id rfl
end

@[simp] theorem modAt_s {i : Nat} {k : List D → Option (List D)} {ρ : Rho} {S : Sto} : modAt i k ρ S = match ρ[i]? with
  | some (.own ds) => match k ds with
    | some es => .ok (.next (ρ.set i (.own es))) S
    | none => .stuck
  | some (.val (.obj j)) => match objOf S j with
    | some ds => match k ds with
      | some es => .ok (.next ρ) (S.set j (.lst es))
      | none => .stuck
    | none => .stuck
  | _ => .stuck := id rfl
@[simp] theorem lookL_s {i : Nat} {ρ : Rho} {S : Sto} : lookL i ρ S = match ρ[i]? with
  | some (.own ds) => some ds
  | some (.val (.obj j)) => objOf S j
  | _ => none := id rfl
@[simp] theorem kApp_s {S : Sto} {d : D} {ds : List D} : kApp S d ds = if fits (ds.length + 1) then some (ds ++ [d]) else none := id rfl
@[simp] theorem kExt_tup {S : Sto} {xs ds : List D} : kExt S (.tup xs) ds = if fits (ds.length + xs.length) then some (ds ++ xs) else none := id rfl
@[simp] theorem kExt_lst {S : Sto} {xs ds : List D} : kExt S (.lst xs) ds = if fits (ds.length + xs.length) then some (ds ++ xs) else none := id rfl
@[simp] theorem foldD_nil {step : D → DS} {ρ : Rho} {S : Sto} : foldD step [] ρ S = .ok (.next ρ) S := id rfl
@[simp] theorem foldD_cons {step : D → DS} {x : D} {xs : List D} {ρ : Rho} {S : Sto} : foldD step (x :: xs) ρ S = (step x ρ S).bind fun o S1 => match o with
  | .next ρ1 => foldD step xs ρ1 S1
  | .cont ρ1 => foldD step xs ρ1 S1
  | .brk ρ1 => .ok (.next ρ1) S1
  | .ret d => .ok (.ret d) S1 := id rfl
theorem foldD_next {step : D → DS} {x : D} {xs : List D} {ρ ρ1 : Rho} {S S1 : Sto} (h : step x ρ S = .ok (.next ρ1) S1) : foldD step (x :: xs) ρ S = foldD step xs ρ1 S1 := by
  rw [foldD_cons, h]
  rfl
theorem foldD_cont {step : D → DS} {x : D} {xs : List D} {ρ ρ1 : Rho} {S S1 : Sto} (h : step x ρ S = .ok (.cont ρ1) S1) : foldD step (x :: xs) ρ S = foldD step xs ρ1 S1 := by
  rw [foldD_cons, h]
  rfl
/-- each item by itself, all of them -/
theorem lc_mapT {fx f : DX} {g : TgF} {vs : List Nat} {ρ : Rho} {S S1 : Sto} {L : List D} (k : D → D) (e : fx ρ S = .ok (.tup L) S1) (each : ∀ x ∈ L, ∃ ρ1, g x (wipeR ρ vs) = some ρ1 ∧ f ρ1 S1 = .ok (k x) S1) :
    xsLc (iSeq fx) g (xC (.bl true)) f vs ρ S = .ok (L.map k) S1 := by
  rw [xsLc_tup e (fun x => some (k x)) fun x hx => by obtain ⟨ρ1, h1, h2⟩ := each x hx; exact ⟨ρ1, h1, rfl, h2⟩, List.filterMap_eq_map']
theorem lc_mapL {fx f : DX} {g : TgF} {vs : List Nat} {ρ : Rho} {S S1 : Sto} {L : List D} (k : D → D) (e : fx ρ S = .ok (.lst L) S1) (each : ∀ x ∈ L, ∃ ρ1, g x (wipeR ρ vs) = some ρ1 ∧ f ρ1 S1 = .ok (k x) S1) :
    xsLc (iSeq fx) g (xC (.bl true)) f vs ρ S = .ok (L.map k) S1 := by
  rw [xsLc_lst e (fun x => some (k x)) fun x hx => by obtain ⟨ρ1, h1, h2⟩ := each x hx; exact ⟨ρ1, h1, rfl, h2⟩, List.filterMap_eq_map']
theorem fits_small {n : Nat} (h : n ≤ 1000000) : fits n = true := decide_eq_true (by omega)
@[simp] theorem oAdd_int {S : Sto} {a b : Int} : oAdd S (.int a) (.int b) = .ok (.int (a + b)) S := id rfl
@[simp] theorem oSub_int {S : Sto} {a b : Int} : oSub S (.int a) (.int b) = .ok (.int (a - b)) S := id rfl
@[simp] theorem oGt_int {S : Sto} {a b : Int} : oGt S (.int a) (.int b) = .ok (.bl (decide (b < a))) S := id rfl
@[simp] theorem oLt_int {S : Sto} {a b : Int} : oLt S (.int a) (.int b) = .ok (.bl (decide (a < b))) S := id rfl
@[simp] theorem oLe_int {S : Sto} {a b : Int} : oLe S (.int a) (.int b) = .ok (.bl (decide (a ≤ b))) S := id rfl
@[simp] theorem oGe_int {S : Sto} {a b : Int} : oGe S (.int a) (.int b) = .ok (.bl (decide (b ≤ a))) S := id rfl
theorem xsRep_eq {f : DXs} {g : DX} {ρ : Rho} {S S1 S2 : Sto} {ds : List D} {k : Int} (e1 : f ρ S = .ok ds S1) (e2 : g ρ S1 = .ok (.int k) S2) (h : (lt63 k && fits (ds.length * k.toNat)) = true) :
    xsRep f g ρ S = .ok (List.replicate k.toNat ds).flatten S2 := by
  unfold xsRep
  rw [e1]
  simp only [R.bind_ok1]
  rw [e2]
  simp only [R.bind_ok1]
  rw [h]
  rfl
theorem rep_ok {n m : Nat} (h : n < 1000000) (k : m * n ≤ 1000000) : (lt63 (n : Int) && fits (m * (n : Int).toNat)) = true := by
  have h3 : fits (m * (n : Int).toNat) = true := by rw [Int.toNat_natCast]; exact fits_small k
  rw [rep63 h, h3]
  rfl
end DL

set_option Elab.async false
set_option linter.all false
set_option maxRecDepth 100000
set_option maxHeartbeats 4000000
set_option autoImplicit false
namespace DL
open PySem PySem.Spec PyProof.Rows L2

/-! ### over a list of the store that stays as it is -/
theorem lc_at {src : Src} {L : List D} {S : Sto} (h : ∀ i, srcAt S src i = some (L[i]?)) {g : TgF} {c f : DX} {vs : List Nat} {ρ : Rho} (few : L.length ≤ 1000000) (k : D → Option D)
    (each : ∀ x ∈ L, ∃ ρ1, g x (wipeR ρ vs) = some ρ1 ∧ match k x with
      | some y => c ρ1 S = .ok (.bl true) S ∧ f ρ1 S = .ok y S
      | none => c ρ1 S = .ok (.bl false) S) :
    ∀ (n i : Nat) (acc : List D), L.length < n + i → i ≤ L.length → acc.length ≤ i → lcD src g c f vs n i acc ρ S = .ok (acc ++ (L.drop i).filterMap k) S
  | 0, i, acc, hl, hi, _ => by omega
  | n + 1, i, acc, hl, hi, ha => by
    simp only [lcD]
    rw [h i]
    by_cases hj : i < L.length
    · rw [List.getElem?_eq_getElem hj, List.drop_eq_getElem_cons hj, List.filterMap_cons]
      obtain ⟨ρ1, h1, h2⟩ := each _ (List.getElem_mem hj)
      simp only [h1]
      cases e : k L[i] with
      | none =>
        rw [e] at h2
        rw [h2]
        simp only [R.bind_ok1]
        exact lc_at h few k each n (i + 1) acc (by omega) hj (by omega)
      | some y =>
        rw [e] at h2
        rw [h2.1]
        simp only [R.bind_ok1]
        rw [h2.2]
        simp only [R.bind_ok1]
        rw [fits_small (n := acc.length + 1) (by omega), Bool.or_true, if_pos rfl]
        rw [lc_at h few k each n (i + 1) (acc ++ [y]) (by omega) hj (by rw [List.length_append, List.length_singleton]; omega), List.append_assoc]
        rfl
    · have e : i = L.length := by omega
      rw [e, List.getElem?_eq_none (Nat.le_refl _), List.drop_length]
      simp
theorem lc_mapO {f : DX} {g : TgF} {vs : List Nat} {ρ : Rho} {S : Sto} {L : List D} {i j : Nat} (k : D → D) (hv : ρ[i]? = some (.val (.obj j))) (hj : objOf S j = some L) (few : L.length ≤ 1000000) (each : ∀ x ∈ L, ∃ ρ1, g x (wipeR ρ vs) = some ρ1 ∧ f ρ1 S = .ok (k x) S) :
    xsLc (iSeq (xVar i)) g (xC (.bl true)) f vs ρ S = .ok (L.map k) S := by
  have e : iSeq (xVar i) ρ S = .ok (.seq (.obj j)) S := by
    unfold iSeq xVar
    rw [hv]
    simp [seqOf, hj]
  unfold xsLc
  rw [e]
  simp only [R.bind_ok1]
  rw [lc_at (L := L) (fun i => by simp [srcAt, seqOf, hj]) few (fun x => some (k x)) (fun x hx => by obtain ⟨ρ1, h1, h2⟩ := each x hx; exact ⟨ρ1, h1, rfl, h2⟩) _ 0 [] (by simp [srcLen, seqOf, hj]) (Nat.zero_le _) (Nat.le_refl _)]
  simp
theorem for_obj {g : TgF} {h : DS} {ρ : Rho} {S : Sto} {L : List D} {i j : Nat} (hv : ρ[i]? = some (.val (.obj j))) (hj : objOf S j = some L) (I : Nat → Rho → Prop) (h0 : I 0 ρ)
    (each : ∀ n x ρ, L[n]? = some x → I n ρ → ∃ ρ2, stepD g h x ρ S = .ok (.next ρ2) S ∧ I (n + 1) ρ2) : ∃ ρ2, sFor (iSeq (xVal i)) g h ρ S = .ok (.next ρ2) S ∧ I L.length ρ2 := by
  have e : iSeq (xVal i) ρ S = .ok (.seq (.obj j)) S := by
    unfold iSeq xVal
    rw [hv]
    simp [seqOf, hj]
  unfold sFor
  rw [e]
  simp only [R.bind_ok1]
  have go : ∀ (m n : Nat) (ρ : Rho), L.length < m + n → n ≤ L.length → I n ρ → ∃ ρ2, loopD (.seq (.obj j)) (stepD g h) m n ρ S = .ok (.next ρ2) S ∧ I L.length ρ2 := by
    intro m
    induction m with
    | zero => intro n ρ h1 h2 _; omega
    | succ m ih =>
      intro n ρ h1 h2 hI
      simp only [loopD]
      have es : srcAt S (.seq (.obj j)) n = some (L[n]?) := by simp [srcAt, seqOf, hj]
      rw [es]
      by_cases hn : n < L.length
      · rw [List.getElem?_eq_getElem hn]
        obtain ⟨ρ2, e2, hI2⟩ := each n _ ρ (List.getElem?_eq_getElem hn) hI
        simp only
        rw [e2]
        exact ih (n + 1) ρ2 (by omega) hn hI2
      · have en : n = L.length := by omega
        subst en
        rw [List.getElem?_eq_none (Nat.le_refl _)]
        exact ⟨ρ, rfl, hI⟩
  exact go _ 0 ρ (by simp [srcLen, seqOf, hj]) (Nat.zero_le _) h0

/-! ### the drawing -/
def penC (L : List Int) (a r : Int) : Cell := .lst [.lst (L.map D.int), .int a, .int r]
/-- the pen at the store's head: at most n draws were made -/
def Pen (n : Nat) (rest S : Sto) : Prop := ∃ L a r, S = penC L a r :: rest ∧ 0 ≤ a ∧ a ≤ (n : Int) ∧ 0 ≤ r
theorem Pen.mono {n m : Nat} {rest S : Sto} (h : Pen n rest S) (k : n ≤ m) : Pen m rest S := by
  obtain ⟨L, a, r, e, h1, h2, h3⟩ := h
  exact ⟨L, a, r, e, h1, by omega, h3⟩
def gDraw (c1 c2 m1 m2 c3 m3 : Int) : DS :=
    sSeq (sIf (xOp oGt (xOp oIx (xVar 0) (xC (.int 2))) (xC (.int 0)))
      (sSeq (sLet 2 (zV (xCall cInt (xsCons (xOp oIx (xVar 0) (xC (.int 2))) (xsNil)))))
      (sSeq (sPut 0 (xC (.int 2)) (xOp oDiv (xVar 2) (xVar 1)))
      (sRet (xOp oMod (xCall cInt (xsCons (xVar 2) (xsNil))) (xVar 1)))))
      (sNil))
    (sSeq (sLet 3 (zV (xOp oIx (xVar 0) (xC (.int 1)))))
    (sSeq (sPut 0 (xC (.int 1)) (xOp oAdd (xVar 3) (xC (.int 1))))
    (sSeq (sLet 4 (zV (xOp oAdd (xOp oMul (xC (.int c1)) (xVar 3)) (xC (.int c2)))))
    (sSeq (sIf (xOp oNe (xOp oIx (xVar 0) (xC (.int 0))) (xLst (xsNil)))
      (sLet 4 (zV (xOp oIx (xOp oIx (xVar 0) (xC (.int 0))) (xOp oMod (xCall cInt (xsCons (xVar 3) (xsNil))) (xCall cLen (xsCons (xOp oIx (xVar 0) (xC (.int 0))) (xsNil)))))))
      (sNil))
    (sSeq (sIf (xAnd (xOp oLt (xVar 3) (xCall cLen (xsCons (xOp oIx (xVar 0) (xC (.int 0))) (xsNil)))) (xOp oGe (xCall cAbs (xsCons (xVar 4) (xsNil))) (xOp oPow (xC (.int 10)) (xC (.int 18)))))
      (sSeq (sLet 2 (zV (xOp oAdd (xOp oMul (xC (.int 2)) (xOp oSub (xCall cAbs (xsCons (xVar 4) (xsNil))) (xOp oPow (xC (.int 10)) (xC (.int 18))))) (xCall cInt (xsCons (xOp oLt (xVar 4) (xC (.int 0))) (xsNil))))))
      (sSeq (sPut 0 (xC (.int 2)) (xOp oDiv (xCall cInt (xsCons (xVar 2) (xsNil))) (xVar 1)))
      (sRet (xOp oMod (xCall cInt (xsCons (xVar 2) (xsNil))) (xVar 1)))))
      (sNil))
    (sSeq (sLet 5 (zV (xOp oMod (xCall cInt (xsCons (xOp oPow (xOp oAdd (xOp oAdd (xOp oMod (xCall cInt (xsCons (xVar 4) (xsNil))) (xC (.int m1))) (xOp oMul (xC (.int c1)) (xVar 3))) (xC (.int c2))) (xC (.int 5))) (xsNil))) (xC (.int m2)))))
    (sSeq (sLet 5 (zV (xOp oMod (xCall cInt (xsCons (xOp oPow (xOp oAdd (xOp oAdd (xOp oMul (xVar 5) (xOp oAdd (xOp oMul (xC (.int 2)) (xVar 3)) (xC (.int c2)))) (xOp oMul (xOp oMul (xC (.int c3)) (xVar 3)) (xVar 3))) (xC (.int c1))) (xC (.int 3))) (xsNil))) (xC (.int m3)))))
    (sRet (xOp oMod (xCall cInt (xsCons (xOp oDiv (xVar 5) (xC (.int 64))) (xsNil))) (xVar 1))))))))))
theorem oMul_a {S : Sto} {a b : Int} (h : small64 a = true) : oMul S (.int a) (.int b) = .ok (.int (a * b)) S := by
  show (if small64 a || small64 b then _ else _) = _
  rw [h]
  rfl
theorem small_of {a : Int} (h : -1000000000000000000 ≤ a) (k : a ≤ 1000000000000000000) : small64 a = true := by
  unfold small64
  rw [decide_eq_true (show -18446744073709551616 < a by omega), decide_eq_true (show a < 18446744073709551616 by omega)]
  rfl
theorem oDiv_of {S : Sto} {a b : Int} (h : 0 < b) (k : b < 1073741824) : oDiv S (.int a) (.int b) = .ok (.int (a / b)) S := by
  show (if decide (0 < b) && decide (b < 1073741824) then _ else _) = _
  rw [decide_eq_true h, decide_eq_true k]
  rfl
theorem oMod_of {S : Sto} {a b : Int} (h : 0 < b) : oMod S (.int a) (.int b) = .ok (.int (a % b)) S := by
  show (if decide (0 < b) then _ else _) = _
  rw [decide_eq_true h]
  rfl
theorem oPow_of {S : Sto} {a b : Int} (h : 0 ≤ b) (k : b ≤ 1000000) (l : a.natAbs < 18446744073709551616) : oPow S (.int a) (.int b) = .ok (.int (a ^ b.toNat)) S := by
  show (if decide (0 ≤ b) && (decide (b ≤ 1000000) && decide (a.natAbs < 18446744073709551616)) then _ else _) = _
  rw [decide_eq_true h, decide_eq_true k, decide_eq_true l]
  rfl
@[simp] theorem cInt_int {S : Sto} {a : Int} : cInt S [.int a] = .ok (.int a) S := id rfl
@[simp] theorem cInt_bl {S : Sto} {b : Bool} : cInt S [.bl b] = .ok (.int (if b then 1 else 0)) S := id rfl
@[simp] theorem cAbs_int {S : Sto} {a : Int} : cAbs S [.int a] = .ok (.int (if a < 0 then -a else a)) S := id rfl
section
variable {L : List Int} {a r : Int} {rest : Sto} {c : Int}
theorem pen_obj : objOf (penC L a r :: rest) 0 = some [.lst (L.map D.int), .int a, .int r] := rfl
theorem pen0 : oIx (penC L a r :: rest) (.obj 0) (.int 0) = .ok (.lst (L.map D.int)) (penC L a r :: rest) := oIx_seq (n := 0) (pen_obj (rest := rest)) rfl
theorem pen1 : oIx (penC L a r :: rest) (.obj 0) (.int 1) = .ok (.int a) (penC L a r :: rest) := oIx_seq (n := 1) (pen_obj (rest := rest)) rfl
theorem pen2 : oIx (penC L a r :: rest) (.obj 0) (.int 2) = .ok (.int r) (penC L a r :: rest) := oIx_seq (n := 2) (pen_obj (rest := rest)) rfl
theorem put1 {ρ : Rho} : modAt 0 (kSet 1 (.int c)) (.val (.obj 0) :: ρ) (penC L a r :: rest) = .ok (.next (.val (.obj 0) :: ρ)) (penC L c r :: rest) := rfl
theorem put2 {ρ : Rho} : modAt 0 (kSet 2 (.int c)) (.val (.obj 0) :: ρ) (penC L a r :: rest) = .ok (.next (.val (.obj 0) :: ρ)) (penC L a c :: rest) := rfl
end
theorem sSeq_next {a b : DS} {ρ ρ1 : Rho} {S S1 : Sto} (h : a ρ S = .ok (.next ρ1) S1) : sSeq a b ρ S = b ρ1 S1 := by
  unfold sSeq
  rw [h]
  rfl
theorem sSeq_ret {a b : DS} {ρ : Rho} {S S1 : Sto} {d : D} (h : a ρ S = .ok (.ret d) S1) : sSeq a b ρ S = .ok (.ret d) S1 := by
  unfold sSeq
  rw [h]
  rfl
theorem sIf_true {c : DX} {a b : DS} {ρ : Rho} {S S1 : Sto} (h : c ρ S = .ok (.bl true) S1) : sIf c a b ρ S = a ρ S1 := by
  unfold sIf
  rw [h]
  rfl
theorem sIf_false {c : DX} {a b : DS} {ρ : Rho} {S S1 : Sto} (h : c ρ S = .ok (.bl false) S1) : sIf c a b ρ S = b ρ S1 := by
  unfold sIf
  rw [h]
  rfl
end DL

set_option Elab.async false
set_option linter.all false
set_option maxRecDepth 100000
set_option maxHeartbeats 4000000
set_option autoImplicit false
namespace DL
open PySem PySem.Spec PyProof.Rows L2

theorem mod_lt {a b : Int} (h : 0 < b) : 0 ≤ a % b ∧ a % b < b := ⟨Int.emod_nonneg a (by omega), Int.emod_lt_of_pos a h⟩
theorem div_nn {a b : Int} (h : 0 ≤ a) (k : 0 < b) : 0 ≤ a / b := Int.ediv_nonneg h (by omega)
theorem mul_bd {a b : Int} {A B : Int} (h1 : 0 ≤ a) (h2 : a ≤ A) (k1 : 0 ≤ b) (k2 : b ≤ B) : 0 ≤ a * b ∧ a * b ≤ A * B :=
  ⟨Int.mul_nonneg h1 k1, Int.le_trans (Int.mul_le_mul_of_nonneg_right h2 k1) (Int.mul_le_mul_of_nonneg_left k2 (Int.le_trans h1 h2))⟩
theorem map_int_nil {L : List Int} : (L.map D.int = []) ↔ L = [] := List.map_eq_nil_iff
theorem lay_ints (L : List Int) : Lay 1 (.lst (L.map D.int)) := Lay.lst fun d hd => by
  obtain ⟨i, _, e⟩ := List.mem_map.mp hd
  rw [← e]
  exact Lay.int
theorem eqD_nil {L : List Int} : eqD (.lst (L.map D.int)) (.lst []) = decide (L = []) := by
  cases L with
  | nil => exact eqD_self rfl
  | cons x L =>
    unfold eqD
    simp [toPy, toPys, PyData.eqv, PyData.eqvAll]
section
variable {c1 c2 m1 m2 c3 m3 : Int} {rest : Sto}
theorem draw_ok (h1 : 0 ≤ c1) (h1' : c1 ≤ 100000) (h2 : 0 ≤ c2) (h2' : c2 ≤ 100000) (hm1 : 0 < m1) (hm1' : m1 ≤ 2147483648) (hm2 : 0 < m2) (hm2' : m2 ≤ 2147483648) (h3 : 0 ≤ c3) (h3' : c3 ≤ 100000) (hm3 : 0 < m3) (hm3' : m3 ≤ 2147483648)
    {n : Nat} {m : Int} {S : Sto} (hn : n ≤ 1000000) (hm : 0 < m) (hmb : m < 1073741824) (P : Pen n rest S) :
    ∃ v S', fnD 4 (gDraw c1 c2 m1 m2 c3 m3) [.obj 0, .int m] S = .ok (.int v) S' ∧ 0 ≤ v ∧ v < m ∧ Pen (n + 1) rest S' := by
  obtain ⟨L, a, r, rfl, ha, han, hr⟩ := P
  by_cases hr0 : 0 < r
  · refine ⟨r % m, penC L a (r / m) :: rest, ?_, (mod_lt hm).1, (mod_lt hm).2, L, a, r / m, rfl, ha, by omega, div_nn hr hm⟩
    simp [fnD_s, gDraw, pen2, hr0, oDiv_of hm hmb, put2, oMod_of hm, -modAt_s]
  · -- behind the count
    have sm1 : small64 c1 = true := small_of (by omega) (by omega)
    have a6 : a ≤ 1000000 := by omega
    have start : fnD 4 (gDraw c1 c2 m1 m2 c3 m3) [.obj 0, .int m] (penC L a r :: rest) =
        ((sSeq (sIf (xOp oNe (xOp oIx (xVar 0) (xC (.int 0))) (xLst (xsNil)))
      (sLet 4 (zV (xOp oIx (xOp oIx (xVar 0) (xC (.int 0))) (xOp oMod (xCall cInt (xsCons (xVar 3) (xsNil))) (xCall cLen (xsCons (xOp oIx (xVar 0) (xC (.int 0))) (xsNil)))))))
      (sNil))
    (sSeq (sIf (xAnd (xOp oLt (xVar 3) (xCall cLen (xsCons (xOp oIx (xVar 0) (xC (.int 0))) (xsNil)))) (xOp oGe (xCall cAbs (xsCons (xVar 4) (xsNil))) (xOp oPow (xC (.int 10)) (xC (.int 18)))))
      (sSeq (sLet 2 (zV (xOp oAdd (xOp oMul (xC (.int 2)) (xOp oSub (xCall cAbs (xsCons (xVar 4) (xsNil))) (xOp oPow (xC (.int 10)) (xC (.int 18))))) (xCall cInt (xsCons (xOp oLt (xVar 4) (xC (.int 0))) (xsNil))))))
      (sSeq (sPut 0 (xC (.int 2)) (xOp oDiv (xCall cInt (xsCons (xVar 2) (xsNil))) (xVar 1)))
      (sRet (xOp oMod (xCall cInt (xsCons (xVar 2) (xsNil))) (xVar 1)))))
      (sNil))
    (sSeq (sLet 5 (zV (xOp oMod (xCall cInt (xsCons (xOp oPow (xOp oAdd (xOp oAdd (xOp oMod (xCall cInt (xsCons (xVar 4) (xsNil))) (xC (.int m1))) (xOp oMul (xC (.int c1)) (xVar 3))) (xC (.int c2))) (xC (.int 5))) (xsNil))) (xC (.int m2)))))
    (sSeq (sLet 5 (zV (xOp oMod (xCall cInt (xsCons (xOp oPow (xOp oAdd (xOp oAdd (xOp oMul (xVar 5) (xOp oAdd (xOp oMul (xC (.int 2)) (xVar 3)) (xC (.int c2)))) (xOp oMul (xOp oMul (xC (.int c3)) (xVar 3)) (xVar 3))) (xC (.int c1))) (xC (.int 3))) (xsNil))) (xC (.int m3)))))
    (sRet (xOp oMod (xCall cInt (xsCons (xOp oDiv (xVar 5) (xC (.int 64))) (xsNil))) (xVar 1))))))) [.val (.obj 0), .val (.int m), .non, .val (.int a), .val (.int (c1 * a + c2)), .non] (penC L (a + 1) r :: rest)).bind fun o S1 => match o with
          | .ret d => .ok d S1
          | .next _ => .ok .non S1
          | _ => .stuck := by
      rw [fnD_s]
      congr 1
      unfold gDraw
      rw [sSeq_next (ρ1 := [.val (.obj 0), .val (.int m), .non, .non, .non, .non]) (S1 := penC L a r :: rest) (by simp [pen2, hr0])]
      rw [sSeq_next (ρ1 := [.val (.obj 0), .val (.int m), .non, .val (.int a), .non, .non]) (S1 := penC L a r :: rest) (by simp [pen1])]
      rw [sSeq_next (ρ1 := [.val (.obj 0), .val (.int m), .non, .val (.int a), .non, .non]) (S1 := penC L (a + 1) r :: rest) (by simp [put1, -modAt_s])]
      rw [sSeq_next (ρ1 := [.val (.obj 0), .val (.int m), .non, .val (.int a), .val (.int (c1 * a + c2)), .non]) (S1 := penC L (a + 1) r :: rest) (by simp [oMul_a sm1])]
    rw [start]
    have cell : ∃ x, sIf (xOp oNe (xOp oIx (xVar 0) (xC (.int 0))) (xLst (xsNil)))
      (sLet 4 (zV (xOp oIx (xOp oIx (xVar 0) (xC (.int 0))) (xOp oMod (xCall cInt (xsCons (xVar 3) (xsNil))) (xCall cLen (xsCons (xOp oIx (xVar 0) (xC (.int 0))) (xsNil)))))))
      (sNil) [.val (.obj 0), .val (.int m), .non, .val (.int a), .val (.int (c1 * a + c2)), .non] (penC L (a + 1) r :: rest) = .ok (.next [.val (.obj 0), .val (.int m), .non, .val (.int a), .val (.int x), .non]) (penC L (a + 1) r :: rest) := by
      have ne := oNe_of (S := penC L (a + 1) r :: rest) (lay_ints L) (Lay.lst (n := 0) (xs := []) (by simp)) (by omega)
      rw [eqD_nil] at ne
      by_cases hL : L = []
      · have ne2 : oNe (penC L (a + 1) r :: rest) (.lst (L.map D.int)) (.lst []) = .ok (.bl false) (penC L (a + 1) r :: rest) := by rw [ne, decide_eq_true hL]; rfl
        exact ⟨c1 * a + c2, by simp [pen0, ne2]⟩
      · have ne2 : oNe (penC L (a + 1) r :: rest) (.lst (L.map D.int)) (.lst []) = .ok (.bl true) (penC L (a + 1) r :: rest) := by rw [ne, decide_eq_false hL]; rfl
        have hpos : (0 : Int) < (L.length : Int) := by
          have z := List.length_pos_iff.mpr hL
          omega
        have hb := mod_lt (a := a) hpos
        obtain ⟨k, hk⟩ : ∃ k : Nat, a % (L.length : Int) = (k : Int) := ⟨(a % (L.length : Int)).toNat, by omega⟩
        have hkl : k < L.length := by omega
        have ix : oIx (penC L (a + 1) r :: rest) (.lst (L.map D.int)) (.int (k : Int)) = .ok (.int L[k]) (penC L (a + 1) r :: rest) := oIx_seq rfl (by rw [List.getElem?_map, List.getElem?_eq_getElem hkl]; rfl)
        exact ⟨L[k], by simp [pen0, ne2, oMod_of hpos, hk, ix]⟩
    obtain ⟨x, hx⟩ := cell
    rw [sSeq_next hx]
    have p18 : ∀ S, oPow S (.int 10) (.int 18) = .ok (.int 1000000000000000000) S := fun S => by rw [oPow_of (by omega) (by omega) (by decide)]; rfl
    have small2 : small64 2 = true := rfl
    by_cases hc : a < (L.length : Int) ∧ 1000000000000000000 ≤ (if x < 0 then -x else x)
    · obtain ⟨k1, k2⟩ := hc
      have nn : 0 ≤ 2 * ((if x < 0 then -x else x) - 1000000000000000000) + (if x < 0 then 1 else 0) := by
        split at k2 <;> split <;> omega
      generalize hw : 2 * ((if x < 0 then -x else x) - 1000000000000000000) + (if x < 0 then (1 : Int) else 0) = w at nn
      refine ⟨w % m, penC L (a + 1) (w / m) :: rest, ?_, (mod_lt hm).1, (mod_lt hm).2, L, a + 1, w / m, rfl, by omega, by omega, div_nn nn hm⟩
      rw [sSeq_ret (d := .int (w % m)) (S1 := penC L (a + 1) (w / m) :: rest)]
      · rfl
      · rw [sIf_true (S1 := penC L (a + 1) r :: rest) (by simp [pen0, p18, k1, k2])]
        rw [sSeq_next (ρ1 := [.val (.obj 0), .val (.int m), .val (.int w), .val (.int a), .val (.int x), .non]) (S1 := penC L (a + 1) r :: rest) (by simp [p18, oMul_a small2, hw])]
        rw [sSeq_next (ρ1 := [.val (.obj 0), .val (.int m), .val (.int w), .val (.int a), .val (.int x), .non]) (S1 := penC L (a + 1) (w / m) :: rest) (by simp [oDiv_of hm hmb, put2, -modAt_s])]
        simp [oMod_of hm]
    · have cond : (xAnd (xOp oLt (xVar 3) (xCall cLen (xsCons (xOp oIx (xVar 0) (xC (.int 0))) (xsNil)))) (xOp oGe (xCall cAbs (xsCons (xVar 4) (xsNil))) (xOp oPow (xC (.int 10)) (xC (.int 18))))) [.val (.obj 0), .val (.int m), .non, .val (.int a), .val (.int x), .non] (penC L (a + 1) r :: rest) = .ok (.bl false) (penC L (a + 1) r :: rest) := by
        by_cases k1 : a < (L.length : Int)
        · have k2 : ¬ 1000000000000000000 ≤ (if x < 0 then -x else x) := fun z => hc ⟨k1, z⟩
          simp [pen0, p18, k1]
          simpa using k2
        · simp [pen0, k1]
      rw [sSeq_next (ρ1 := [.val (.obj 0), .val (.int m), .non, .val (.int a), .val (.int x), .non]) (S1 := penC L (a + 1) r :: rest) (by rw [sIf_false cond]; rfl)]
      have b1 := mod_lt (a := x) hm1
      have q1 := mul_bd (A := 100000) (B := 1000000) h1 h1' ha a6
      have e1 : ∃ y, 0 ≤ y ∧ y < m2 ∧ sLet 5 (zV (xOp oMod (xCall cInt (xsCons (xOp oPow (xOp oAdd (xOp oAdd (xOp oMod (xCall cInt (xsCons (xVar 4) (xsNil))) (xC (.int m1))) (xOp oMul (xC (.int c1)) (xVar 3))) (xC (.int c2))) (xC (.int 5))) (xsNil))) (xC (.int m2))))
          [.val (.obj 0), .val (.int m), .non, .val (.int a), .val (.int x), .non] (penC L (a + 1) r :: rest) = .ok (.next [.val (.obj 0), .val (.int m), .non, .val (.int a), .val (.int x), .val (.int y)]) (penC L (a + 1) r :: rest) := by
        have pw : ∀ S, oPow S (.int (x % m1 + c1 * a + c2)) (.int 5) = .ok (.int ((x % m1 + c1 * a + c2) ^ 5)) S := fun S => oPow_of (by omega) (by omega) (by omega)
        exact ⟨(x % m1 + c1 * a + c2) ^ 5 % m2, (mod_lt hm2).1, (mod_lt hm2).2, by simp [oMod_of hm1, oMul_a sm1, pw, oMod_of hm2]⟩
      obtain ⟨y, y1, y2, ey⟩ := e1
      rw [sSeq_next ey]
      have smy : small64 y = true := small_of (by omega) (by omega)
      have sm3 : small64 c3 = true := small_of (by omega) (by omega)
      have q3 := mul_bd (A := 100000) (B := 1000000) h3 h3' ha a6
      have sm4 : small64 (c3 * a) = true := small_of (by omega) (by omega)
      have q4 := mul_bd (A := 100000 * 1000000) (B := 1000000) q3.1 q3.2 ha a6
      have q5 := mul_bd (a := y) (b := 2 * a + c2) (A := 2147483648) (B := 2100000) y1 (by omega) (by omega) (by omega)
      have e2 : ∃ z, 0 ≤ z ∧ sLet 5 (zV (xOp oMod (xCall cInt (xsCons (xOp oPow (xOp oAdd (xOp oAdd (xOp oMul (xVar 5) (xOp oAdd (xOp oMul (xC (.int 2)) (xVar 3)) (xC (.int c2)))) (xOp oMul (xOp oMul (xC (.int c3)) (xVar 3)) (xVar 3))) (xC (.int c1))) (xC (.int 3))) (xsNil))) (xC (.int m3))))
          [.val (.obj 0), .val (.int m), .non, .val (.int a), .val (.int x), .val (.int y)] (penC L (a + 1) r :: rest) = .ok (.next [.val (.obj 0), .val (.int m), .non, .val (.int a), .val (.int x), .val (.int z)]) (penC L (a + 1) r :: rest) := by
        have pw : ∀ S, oPow S (.int (y * (2 * a + c2) + c3 * a * a + c1)) (.int 3) = .ok (.int ((y * (2 * a + c2) + c3 * a * a + c1) ^ 3)) S := fun S => oPow_of (by omega) (by omega) (by omega)
        exact ⟨(y * (2 * a + c2) + c3 * a * a + c1) ^ 3 % m3, (mod_lt hm3).1, by simp [oMul_a smy, oMul_a small2, oMul_a sm3, oMul_a sm4, pw, oMod_of hm3]⟩
      obtain ⟨z, z1, ez⟩ := e2
      rw [sSeq_next ez]
      have d64 : ∀ S, oDiv S (.int z) (.int 64) = .ok (.int (z / 64)) S := fun S => oDiv_of (by omega) (by omega)
      refine ⟨z / 64 % m, penC L (a + 1) r :: rest, ?_, (mod_lt hm).1, (mod_lt hm).2, L, a + 1, r, rfl, by omega, by omega, hr⟩
      simp [d64, oMod_of hm]
end
end DL

set_option Elab.async false
set_option linter.all false
set_option maxRecDepth 100000
set_option maxHeartbeats 4000000
set_option autoImplicit false
namespace DL
open PySem PySem.Spec PyProof.Rows L2

def DrawOk (F : DFn) : Prop := ∀ {n : Nat} {m : Int} {rest S : Sto}, n ≤ 1000000 → 0 < m → m < 1073741824 → Pen n rest S → ∃ v S', F [.obj 0, .int m] S = .ok (.int v) S' ∧ 0 ≤ v ∧ v < m ∧ Pen (n + 1) rest S'
def gPick (F : DFn) : DS := sRet (xOp oIx (xVar 1) (xFn F (xsCons (xVal 0) (xsCons (xCall cLen (xsCons (xVar 1) (xsNil))) (xsNil)))))
theorem pick_ok {F : DFn} (hF : DrawOk F) {L : List D} {n : Nat} {rest S : Sto} (hL : L ≠ []) (few : L.length < 1000000) (hn : n ≤ 1000000) (P : Pen n rest S) :
    ∃ x S', fnD 0 (gPick F) [.obj 0, .lst L] S = .ok x S' ∧ x ∈ L ∧ Pen (n + 1) rest S' := by
  have pos := List.length_pos_iff.mpr hL
  obtain ⟨v, S', e, v0, v1, P'⟩ := hF (m := (L.length : Nat)) hn (by omega) (by omega) P
  obtain ⟨k, rfl⟩ : ∃ k : Nat, v = (k : Int) := ⟨v.toNat, by omega⟩
  have hk : k < L.length := by omega
  have ix : oIx S' (.lst L) (.int (k : Int)) = .ok L[k] S' := oIx_seq rfl (List.getElem?_eq_getElem hk)
  exact ⟨L[k], S', by simp [fnD_s, gPick, e, ix], List.getElem_mem hk, P'⟩
def gMixed (F : DFn) : DS :=
    sSeq (sPar 2 3 (zL (xsOf (xVar 1))) (zL (xsNil)))
    (sSeq (sFor (iRg1 (xCall cLen (xsCons (xVar 2) (xsNil)))) (gSet 4)
      (sAppPop 3 2 (xFn F (xsCons (xVal 0) (xsCons (xCall cLen (xsCons (xVar 2) (xsNil))) (xsNil))))))
    (sRetO 3))
theorem kPop_nat {ds : List D} {k : Nat} (h : k < ds.length) : kPop (k : Int) ds = some (ds[k], ds.eraseIdx k) := by
  have e : ixN ds.length (k : Int) = some k := by
    unfold ixN
    rw [if_pos (by omega), if_pos (by omega)]
    simp
  unfold kPop
  rw [e]
  simp only
  rw [List.getElem?_eq_getElem h]
theorem mixed_loop {F : DFn} (hF : DrawOk F) {d : D} {rest : Sto} : ∀ {k : Nat} {lo : Int} {left gained : List D} {n : Nat} {S : Sto} {t : Slot}, left.length = k → gained.length + k ≤ 100000 → n + k ≤ 1000000 → Pen n rest S →
    ∃ M S' l2 t2, foldD (stepD (gSet 4) (sAppPop 3 2 (xFn F (xsCons (xVal 0) (xsCons (xCall cLen (xsCons (xVar 2) (xsNil))) (xsNil)))))) (rngL lo k) [.val (.obj 0), .val d, .own left, .own gained, t] S =
      .ok (.next [.val (.obj 0), .val d, .own l2, .own M, t2]) S' ∧ M.Perm (gained ++ left) ∧ Pen (n + k) rest S'
  | 0, lo, left, gained, n, S, t, hl, _, _, P => ⟨gained, S, left, t, rfl, by rw [List.length_eq_zero_iff.mp hl, List.append_nil], P⟩
  | k + 1, lo, left, gained, n, S, t, hl, hg, hn, P => by
    obtain ⟨v, S1, e, v0, v1, P1⟩ := hF (m := (left.length : Nat)) (by omega) (by omega) (by omega) P
    obtain ⟨i, rfl⟩ : ∃ i : Nat, v = (i : Int) := ⟨v.toNat, by omega⟩
    have hi : i < left.length := by omega
    have step : stepD (gSet 4) (sAppPop 3 2 (xFn F (xsCons (xVal 0) (xsCons (xCall cLen (xsCons (xVar 2) (xsNil))) (xsNil))))) (.int lo) [.val (.obj 0), .val d, .own left, .own gained, t] S =
        .ok (.next [.val (.obj 0), .val d, .own (left.eraseIdx i), .own (gained ++ [left[i]]), .val (.int lo)]) S1 := by
      have l63 : lt63 (i : Int) = true := rep63 (by omega)
      simp only [stepD_s, gSet_s, List.set_cons_succ, List.set_cons_zero, sAppPop]
      simp [e, l63, kPop_nat hi, fits_small (n := gained.length + 1) (by omega)]
    obtain ⟨M, S2, l2, t2, e2, pm, P2⟩ := mixed_loop hF (d := d) (rest := rest) (k := k) (lo := lo + 1) (left := left.eraseIdx i) (gained := gained ++ [left[i]]) (n := n + 1) (S := S1) (t := .val (.int lo)) (by rw [List.length_eraseIdx, if_pos hi]; omega) (by rw [List.length_append, List.length_singleton]; omega) (by omega) P1
    refine ⟨M, S2, l2, t2, ?_, ?_, by rw [show n + (k + 1) = n + 1 + k by omega]; exact P2⟩
    · unfold rngL
      rw [foldD_next step, e2]
    · refine pm.trans ?_
      rw [List.append_assoc]
      exact (erase_perm left i left[i] (List.getElem?_eq_getElem hi)).append_left gained
theorem mixed_ok {F : DFn} (hF : DrawOk F) {L : List D} {n : Nat} {rest S : Sto} (few : L.length ≤ 1000) (hn : n + L.length ≤ 1000000) (P : Pen n rest S) :
    ∃ M S', fnD 3 (gMixed F) [.obj 0, .lst L] S = .ok (.lst M) S' ∧ M.Perm L ∧ Pen (n + L.length) rest S' := by
  obtain ⟨M, S', l2, t2, e, pm, P'⟩ := mixed_loop hF (d := .lst L) (rest := rest) (k := L.length) (lo := 0) (left := L) (gained := []) (n := n) (S := S) (t := .non) rfl (by simp; omega) hn P
  have fold0 : sFor (iRg1 (xCall cLen (xsCons (xVar 2) (xsNil)))) (gSet 4) (sAppPop 3 2 (xFn F (xsCons (xVal 0) (xsCons (xCall cLen (xsCons (xVar 2) (xsNil))) (xsNil))))) [.val (.obj 0), .val (.lst L), .own L, .own [], .non] S = _ := for_rng (n := L.length) (S1 := S) (by simp) (by omega)
  rw [e] at fold0
  exact ⟨M, S', by simp [fnD_s, gMixed, xsOf, fold0], pm, P'⟩
end DL

set_option Elab.async false
set_option linter.all false
set_option maxRecDepth 100000
set_option maxHeartbeats 4000000
set_option autoImplicit false
namespace DL
open PySem PySem.Spec PyProof.Rows L2

/-- each item in turn, the store changing -/
theorem lc_eff {src : Src} {L : List D} (h : Items src L) {g : TgF} {f : DX} {vs : List Nat} {ρ : Rho} (t : srcSmall src = true) (I : Nat → List D → Sto → Prop)
    (each : ∀ i x acc S, L[i]? = some x → I i acc S → ∃ ρ1 y S', g x (wipeR ρ vs) = some ρ1 ∧ f ρ1 S = .ok y S' ∧ I (i + 1) (acc ++ [y]) S') :
    ∀ (n i : Nat) (acc : List D) (S : Sto), L.length < n + i → i ≤ L.length → I i acc S → ∃ res S', lcD src g (xC (.bl true)) f vs n i acc ρ S = .ok res S' ∧ I L.length res S'
  | 0, i, acc, S, hl, hi, _ => by omega
  | n + 1, i, acc, S, hl, hi, hI => by
    simp only [lcD]
    rw [h S i]
    by_cases hj : i < L.length
    · rw [List.getElem?_eq_getElem hj]
      obtain ⟨ρ1, y, S', h1, h2, h3⟩ := each i _ acc S (List.getElem?_eq_getElem hj) hI
      simp only [h1, xC_s, R.bind_ok1]
      rw [h2]
      simp only [R.bind_ok1, t, Bool.true_or, if_true]
      exact lc_eff h t I each n (i + 1) (acc ++ [y]) S' (by omega) hj h3
    · have e : i = L.length := by omega
      subst e
      rw [List.getElem?_eq_none (Nat.le_refl _)]
      exact ⟨acc, S, rfl, hI⟩
theorem lc_effL {fx f : DX} {g : TgF} {vs : List Nat} {ρ : Rho} {S S1 : Sto} {L : List D} (e : fx ρ S = .ok (.lst L) S1) (I : Nat → List D → Sto → Prop) (h0 : I 0 [] S1)
    (each : ∀ i x acc S, L[i]? = some x → I i acc S → ∃ ρ1 y S', g x (wipeR ρ vs) = some ρ1 ∧ f ρ1 S = .ok y S' ∧ I (i + 1) (acc ++ [y]) S') : ∃ res S', xsLc (iSeq fx) g (xC (.bl true)) f vs ρ S = .ok res S' ∧ I L.length res S' := by
  have e2 : iSeq fx ρ S = .ok (.seq (.lst L)) S1 := by unfold iSeq; rw [e]; rfl
  unfold xsLc
  rw [e2]
  simp only [R.bind_ok1]
  exact lc_eff (items_lst L) rfl I each _ 0 [] S1 (by simp [srcLen, seqOf]) (Nat.zero_le _) h0
theorem lc_effR {fx f : DX} {g : TgF} {vs : List Nat} {ρ : Rho} {S S1 : Sto} {n : Nat} (e : fx ρ S = .ok (.int (n : Int)) S1) (hn : n < 1000000) (I : Nat → List D → Sto → Prop) (h0 : I 0 [] S1)
    (each : ∀ i x acc S, (rngL 0 n)[i]? = some x → I i acc S → ∃ ρ1 y S', g x (wipeR ρ vs) = some ρ1 ∧ f ρ1 S = .ok y S' ∧ I (i + 1) (acc ++ [y]) S') : ∃ res S', xsLc (iRg1 fx) g (xC (.bl true)) f vs ρ S = .ok res S' ∧ I n res S' := by
  have e2 := iRg1_eq e (rng_ok hn)
  unfold xsLc
  rw [e2]
  simp only [R.bind_ok1]
  have z := lc_eff (src := .rng 0 (n : Int).toNat) (L := rngL 0 n) (items_rng 0 n) (g := g) (f := f) (vs := vs) (ρ := ρ) (fits_small (by omega)) I each (srcLen S1 (.rng 0 (n : Int).toNat) + 1) 0 [] S1 (by rw [rngL_len]; show n < n + 1 + 0; omega) (Nat.zero_le _) h0
  rw [rngL_len] at z
  exact z
theorem eqD_emp {L : List D} : eqD (.lst L) (.lst []) = L.isEmpty := by
  cases L with
  | nil => exact eqD_self rfl
  | cons x L =>
    unfold eqD
    simp [toPy, toPys, PyData.eqv, PyData.eqvAll]
theorem oNe_emp {L : List D} {n : Nat} {S : Sto} (h : ∀ d ∈ L, Lay n d) : oNe S (.lst L) (.lst []) = .ok (.bl (!L.isEmpty)) S := by rw [oNe_of (Lay.lst h) (Lay.lst (n := 0) (xs := []) (by simp)) (by omega), eqD_emp]
/-- the first k -/
theorem cut_take {L : List D} {k : Nat} : cutG L none (some (k : Int)) = L.take k := by
  unfold cutG
  rw [HT.sIx_none, HT.sIx_nat, List.drop_zero, Nat.sub_zero]
  by_cases h : k ≤ L.length
  · rw [Nat.min_eq_left h]
  · rw [Nat.min_eq_right (by omega), List.take_of_length_le (by omega), List.take_of_length_le (by omega)]
theorem slc_lst {S : Sto} {L : List D} {k : Nat} : slc S (.lst L) none (some (k : Int)) = .ok (.lst (L.take k)) S := by
  show R.ok (D.lst (cutG L none (some (k : Int)))) S = _
  rw [cut_take]
@[simp] theorem xSl_s {f : DX} {lo hi : DO} {ρ : Rho} {S : Sto} : xSl f lo hi ρ S = (f ρ S).bind fun d S1 => (lo ρ S1).bind fun l S2 => (hi ρ S2).bind fun h S3 => slc S3 d l h := id rfl
@[simp] theorem xoNone_s {ρ : Rho} {S : Sto} : xoNone ρ S = .ok none S := id rfl
@[simp] theorem xoSome_s {f : DX} {ρ : Rho} {S : Sto} : xoSome f ρ S = (f ρ S).bind fun d S1 => match d with
  | .int i => .ok (some i) S1
  | _ => .stuck := id rfl
@[simp] theorem cMin_s {S : Sto} {i j : Int} : cMin2 S [.int i, .int j] = .ok (.int (if j < i then j else i)) S := id rfl
theorem cSorted_s {S : Sto} {zs : List Str} (h : zs.length < 64) : cSorted S [.lst (zs.map .str)] = .ok (.lst ((srtS zs).map .str)) S := by
  show sortD (zs.map .str) S = _
  unfold sortD
  rw [strsOf_map]
  simp only
  rw [decide_eq_true h]
  rfl
theorem sub_strs {zs : List Str} {M : List D} (h : ∀ d ∈ M, d ∈ zs.map D.str) : ∃ ys : List Str, M = ys.map .str ∧ ∀ y ∈ ys, y ∈ zs := by
  induction M with
  | nil => exact ⟨[], rfl, by simp⟩
  | cons d M ih =>
    obtain ⟨ys, e, k⟩ := ih fun x hx => h x (List.mem_cons_of_mem _ hx)
    obtain ⟨y, hy, ey⟩ := List.mem_map.mp (h d List.mem_cons_self)
    exact ⟨y :: ys, by rw [e, ← ey]; rfl, fun z hz => (List.mem_cons.mp hz).elim (fun e => e ▸ hy) (k z)⟩
end DL

set_option Elab.async false
set_option linter.all false
set_option maxRecDepth 100000
set_option maxHeartbeats 4000000
set_option autoImplicit false
namespace K02
open PySem PySem.Spec PyProof.Rows L2 DL
abbrev top (i : Nat) : Stmt := PySem.Challenge.pw_swapunseen_k02_parts_and_what_is_known_t.main.body.getD i (.Pass ⟨0, 0, 0, 0⟩)
structure Mg (mg : Str → Option Value) : Prop where
  b_tuple : mg "tuple" = none
  b_len : mg "len" = none
  b_enumerate : mg "enumerate" = none
  b_sorted : mg "sorted" = none
  b_set : mg "set" = none
  b_int : mg "int" = none
  b_abs : mg "abs" = none
  b_list : mg "list" = none
  b_range : mg "range" = none
  b_max : mg "max" = none
  b_sum : mg "sum" = none
  b_min : mg "min" = none
/-! ### inner -/
abbrev s_inner : Stmt := top 1
abbrev N_inner : List Str := ["expr", "row"]
abbrev P_inner : List Str := ["expr"]
def g_inner : DS :=
    sSeq (sIf (xOp oEq (xOp oIx (xVar 0) (xC (.int 0))) (xC (.str "let")))
      (sRet (xTup (xsCons (xOp oIx (xVar 0) (xC (.int 2))) (xsCons (xOp oIx (xVar 0) (xC (.int 3))) (xsNil)))))
      (sNil))
    (sSeq (sIf (xOp oEq (xOp oIx (xVar 0) (xC (.int 0))) (xC (.str "pick")))
      (sRet (xTupS (xsStar (xOfZ (zL (xsLc (iSeq (xOp oIx (xVar 0) (xC (.int 2)))) (gSet 1) (xC (.bl true)) (xOp oIx (xVar 1) (xC (.int 1))) [1]))) (xsCons (xOp oIx (xVar 0) (xC (.int 3))) (xsNil)))))
      (sNil))
    (sSeq (sIf (xOp oEq (xOp oIx (xVar 0) (xC (.int 0))) (xC (.str "try")))
      (sRet (xTupS (xsCons (xOp oIx (xVar 0) (xC (.int 1))) (xsStar (xOfZ (zL (xsLc (iSeq (xOp oIx (xVar 0) (xC (.int 2)))) (gSet 1) (xC (.bl true)) (xOp oIx (xVar 1) (xC (.int 2))) [1]))) (xsNil)))))
      (sNil))
    (sRet (xTup (xsNil)))))
theorem sc_inner : FnScope N_inner P_inner (defScope s_inner) := ⟨rfl, rfl, rfl, by decide +kernel, rfl, by decide +kernel, by decide +kernel⟩
theorem b_inner {P : Program} {w : World} {K : PySem.W.Frag} {mg : Str → Option Value} {base : Heap} {cn : Nat → Addr} {k : Nat} (M : Mg mg)
    {f : Addr} (cdv : Value) (A : Around) (outer : List Env) (s : Shared) (H : Hp) (E : XK) (hr : Room k (A.deeper (envOfC "inner" (defScope s_inner) s.heap.objs.size f cdv))) :
    DSs (cxOf CX0 P w K mg base N_inner "inner" (defScope s_inner) f cdv A outer s H E).nox cn (defBody s_inner) (g_inner) := by
  have hN := sc_inner.nd
  exact (dss_cons (ds_if (dt_cmp (opd_eq hr.u150) (de_ix (db_var 0) (de_int).db).db (de_str).db)
      (dss_one (ds_ret (de_tup (da_cons (de_ix (db_var 0) (de_int).db) (da_cons (de_ix (db_var 0) (de_int).db) da_nil)))))
      dss_nil)
    (dss_cons (ds_if (dt_cmp (opd_eq hr.u150) (de_ix (db_var 0) (de_int).db).db (de_str).db)
      (dss_one (ds_ret (de_tupS (da_star (dz_lc [("row", 1)] rfl hN (di_seq (de_ix (db_var 0) (de_int).db).db.dy) (blkOk_by (by kernel_rfl)) (by decide) (fun s H C cl fp => (dg_name 1 hN)) (fun s H C cl fp => dts_nil) (fun s H C cl fp => (de_ix (db_var 1) (de_int).db))).de.db (da_cons (de_ix (db_var 0) (de_int).db) da_nil)))))
      dss_nil)
    (dss_cons (ds_if (dt_cmp (opd_eq hr.u150) (de_ix (db_var 0) (de_int).db).db (de_str).db)
      (dss_one (ds_ret (de_tupS (da_cons (de_ix (db_var 0) (de_int).db) (da_star (dz_lc [("row", 1)] rfl hN (di_seq (de_ix (db_var 0) (de_int).db).db.dy) (blkOk_by (by kernel_rfl)) (by decide) (fun s H C cl fp => (dg_name 1 hN)) (fun s H C cl fp => dts_nil) (fun s H C cl fp => (de_ix (db_var 1) (de_int).db))).de.db da_nil)))))
      dss_nil)
    (dss_one (ds_ret (de_tup da_nil))))))
/-! ### parts -/
abbrev s_parts : Stmt := top 2
abbrev N_parts : List Str := ["expr", "found", "one"]
abbrev P_parts : List Str := ["expr"]
def g_parts (F_inner : DFn) (F_parts : DFn) : DS :=
    sSeq (sLet 1 (zL (xsCons (xVal 0) (xsNil))))
    (sSeq (sFor (iSeq (xFn F_inner (xsCons (xVal 0) (xsNil)))) (gSet 2)
      (sMod 1 (xFn F_parts (xsCons (xVal 2) (xsNil))) kExt))
    (sRet (xCall cTuple (xsCons (xVar 1) (xsNil)))))
theorem sc_parts : FnScope N_parts P_parts (defScope s_parts) := ⟨rfl, rfl, rfl, by decide +kernel, rfl, by decide +kernel, by decide +kernel⟩
theorem b_parts {P : Program} {w : World} {K : PySem.W.Frag} {mg : Str → Option Value} {base : Heap} {cn : Nat → Addr} {k : Nat} (M : Mg mg)
    {F_inner : DFn} (HF_inner : DFun P w K mg base cn k "inner" (defArgs s_inner) (defBody s_inner) (defScope s_inner) P_inner F_inner)
    {F_parts : DFn} (HF_parts : DFun P w K mg base cn k "parts" (defArgs s_parts) (defBody s_parts) (defScope s_parts) P_parts F_parts)
    {f : Addr} (cdv : Value) (A : Around) (outer : List Env) (s : Shared) (H : Hp) (E : XK) (hr : Room k (A.deeper (envOfC "parts" (defScope s_parts) s.heap.objs.size f cdv))) :
    DSs (cxOf CX0 P w K mg base N_parts "parts" (defScope s_parts) f cdv A outer s H E).nox cn (defBody s_parts) (g_parts F_inner F_parts) := by
  have hN := sc_parts.nd
  exact (dss_cons (ds_let 1 hN (df_lst (da_cons (de_var 0) da_nil)).dz)
    (dss_cons (ds_for (PassesOwn.never) rfl (di_seq (de_call HF_inner hr (da_cons (de_var 0) da_nil)).dy) (dg_name 2 hN)
      (dss_one (ds_extend 1 (de_call HF_parts hr (da_cons (de_var 2) da_nil)).db)))
    (dss_one (ds_ret (de_callTy cd_tuple M.b_tuple boot_tuple (dab_cons (db_var 1) dab_nil))))))
/-! ### places_within -/
abbrev s_places_within : Stmt := top 3
abbrev N_places_within : List Str := ["expr", "place", "found", "at", "one"]
abbrev P_places_within : List Str := ["expr", "place"]
def g_places_within (F_inner : DFn) (F_parts : DFn) : DS :=
    sSeq (sPar 2 3 (zL (xsNil)) (zV (xOp oAdd (xVar 1) (xC (.int 1)))))
    (sSeq (sFor (iSeq (xFn F_inner (xsCons (xVal 0) (xsNil)))) (gSet 4)
      (sSeq (sMod 2 (xVal 3) kApp)
      (sLet 3 (zV (xOp oAdd (xVar 3) (xCall cLen (xsCons (xFn F_parts (xsCons (xVal 4) (xsNil))) (xsNil))))))))
    (sRet (xCall cTuple (xsCons (xVar 2) (xsNil)))))
theorem sc_places_within : FnScope N_places_within P_places_within (defScope s_places_within) := ⟨rfl, rfl, rfl, by decide +kernel, rfl, by decide +kernel, by decide +kernel⟩
theorem b_places_within {P : Program} {w : World} {K : PySem.W.Frag} {mg : Str → Option Value} {base : Heap} {cn : Nat → Addr} {k : Nat} (M : Mg mg)
    {F_inner : DFn} (HF_inner : DFun P w K mg base cn k "inner" (defArgs s_inner) (defBody s_inner) (defScope s_inner) P_inner F_inner)
    {F_parts : DFn} (HF_parts : DFun P w K mg base cn k "parts" (defArgs s_parts) (defBody s_parts) (defScope s_parts) P_parts F_parts)
    {f : Addr} (cdv : Value) (A : Around) (outer : List Env) (s : Shared) (H : Hp) (E : XK) (hr : Room k (A.deeper (envOfC "places_within" (defScope s_places_within) s.heap.objs.size f cdv))) :
    DSs (cxOf CX0 P w K mg base N_places_within "places_within" (defScope s_places_within) f cdv A outer s H E).nox cn (defBody s_places_within) (g_places_within F_inner F_parts) := by
  have hN := sc_places_within.nd
  exact (dss_cons (ds_par 2 3 rfl hN (df_lst da_nil).dz (de_op opd_add (db_var 1) (de_int).db).dz)
    (dss_cons (ds_for (PassesOwn.never) rfl (di_seq (de_call HF_inner hr (da_cons (de_var 0) da_nil)).dy) (dg_name 4 hN)
      (dss_cons (ds_append 2 (de_var 3))
      (dss_one (ds_let 3 hN (de_op opd_add (db_var 3) (de_callB cd_len M.b_len boot_len (dab_cons (de_call HF_parts hr (da_cons (de_var 4) da_nil)).db dab_nil)).db).dz))))
    (dss_one (ds_ret (de_callTy cd_tuple M.b_tuple boot_tuple (dab_cons (db_var 2) dab_nil))))))
/-! ### links -/
abbrev s_links : Stmt := top 4
abbrev N_links : List Str := ["expr", "every", "found", "place", "one", "number", "its"]
abbrev P_links : List Str := ["expr"]
def g_links (F_parts : DFn) (F_places_within : DFn) : DS :=
    sSeq (sLet 1 (zV (xFn F_parts (xsCons (xVal 0) (xsNil)))))
    (sSeq (sLet 2 (zL (xsRep (xsCons (xC .non) (xsNil)) (xCall cLen (xsCons (xVar 1) (xsNil))))))
    (sSeq (sFor (iEnu (xVal 1)) (gTupD (gsCons (gSet 3) (gsCons (gSet 4) (gsNil))))
      (sFor (iEnu (xFn F_places_within (xsCons (xVal 4) (xsCons (xVal 3) (xsNil))))) (gTupD (gsCons (gSet 5) (gsCons (gSet 6) (gsNil))))
        (sPut 2 (xVal 6) (xTup (xsCons (xVal 3) (xsCons (xVal 5) (xsNil)))))))
    (sRet (xCall cTuple (xsCons (xVar 2) (xsNil))))))
theorem sc_links : FnScope N_links P_links (defScope s_links) := ⟨rfl, rfl, rfl, by decide +kernel, rfl, by decide +kernel, by decide +kernel⟩
theorem b_links {P : Program} {w : World} {K : PySem.W.Frag} {mg : Str → Option Value} {base : Heap} {cn : Nat → Addr} {k : Nat} (M : Mg mg)
    {F_parts : DFn} (HF_parts : DFun P w K mg base cn k "parts" (defArgs s_parts) (defBody s_parts) (defScope s_parts) P_parts F_parts)
    {F_places_within : DFn} (HF_places_within : DFun P w K mg base cn k "places_within" (defArgs s_places_within) (defBody s_places_within) (defScope s_places_within) P_places_within F_places_within)
    {f : Addr} (cdv : Value) (A : Around) (outer : List Env) (s : Shared) (H : Hp) (E : XK) (hr : Room k (A.deeper (envOfC "links" (defScope s_links) s.heap.objs.size f cdv))) :
    DSs (cxOf CX0 P w K mg base N_links "links" (defScope s_links) f cdv A outer s H E).nox cn (defBody s_links) (g_links F_parts F_places_within) := by
  have hN := sc_links.nd
  exact (dss_cons (ds_let 1 hN (de_call HF_parts hr (da_cons (de_var 0) da_nil)).dz)
    (dss_cons (ds_let 2 hN (df_rep (df_lst (da_cons de_non da_nil)) (de_callB cd_len M.b_len boot_len (dab_cons (db_var 1) dab_nil)).db).dz)
    (dss_cons (ds_for (PassesOwn.never) rfl (di_enum M.b_enumerate (de_var 1).dy) (dg_tup rfl (dgs_cons (dg_name 3 hN) (dgs_cons (dg_name 4 hN) dgs_nil)))
      (dss_one (ds_for (PassesOwn.never) rfl (di_enum M.b_enumerate (de_call HF_places_within hr (da_cons (de_var 4) (da_cons (de_var 3) da_nil))).dy) (dg_tup rfl (dgs_cons (dg_name 5 hN) (dgs_cons (dg_name 6 hN) dgs_nil)))
        (dss_one (ds_put 2 (de_tup (da_cons (de_var 3) (da_cons (de_var 5) da_nil))) (de_var 6))))))
    (dss_one (ds_ret (de_callTy cd_tuple M.b_tuple boot_tuple (dab_cons (db_var 2) dab_nil)))))))
/-! ### bound -/
abbrev s_bound : Stmt := top 5
abbrev N_bound : List Str := ["expr", "number"]
abbrev P_bound : List Str := ["expr", "number"]
def g_bound : DS :=
    sSeq (sIf (xAnd (xOp oEq (xOp oIx (xVar 0) (xC (.int 0))) (xC (.str "let"))) (xOp oEq (xVar 1) (xC (.int 1))))
      (sRet (xTup (xsCons (xOp oIx (xVar 0) (xC (.int 1))) (xsNil))))
      (sNil))
    (sSeq (sIf (xAnd (xOp oEq (xOp oIx (xVar 0) (xC (.int 0))) (xC (.str "try"))) (xOp oGt (xVar 1) (xC (.int 0))))
      (sRet (xTup (xsCons (xOp oIx (xOp oIx (xOp oIx (xVar 0) (xC (.int 2))) (xOp oSub (xVar 1) (xC (.int 1)))) (xC (.int 1))) (xsNil))))
      (sNil))
    (sRet (xTup (xsNil))))
theorem sc_bound : FnScope N_bound P_bound (defScope s_bound) := ⟨rfl, rfl, rfl, by decide +kernel, rfl, by decide +kernel, by decide +kernel⟩
theorem b_bound {P : Program} {w : World} {K : PySem.W.Frag} {mg : Str → Option Value} {base : Heap} {cn : Nat → Addr} {k : Nat} (M : Mg mg)
    {f : Addr} (cdv : Value) (A : Around) (outer : List Env) (s : Shared) (H : Hp) (E : XK) (hr : Room k (A.deeper (envOfC "bound" (defScope s_bound) s.heap.objs.size f cdv))) :
    DSs (cxOf CX0 P w K mg base N_bound "bound" (defScope s_bound) f cdv A outer s H E).nox cn (defBody s_bound) (g_bound) := by
  have hN := sc_bound.nd
  exact (dss_cons (ds_if (dw_and (dt_cmp (opd_eq hr.u150) (de_ix (db_var 0) (de_int).db).db (de_str).db) (dw_and1 (dt_cmp (opd_eq hr.u150) (db_var 1) (de_int).db))).dt
      (dss_one (ds_ret (de_tup (da_cons (de_ix (db_var 0) (de_int).db) da_nil))))
      dss_nil)
    (dss_cons (ds_if (dw_and (dt_cmp (opd_eq hr.u150) (de_ix (db_var 0) (de_int).db).db (de_str).db) (dw_and1 (dt_cmp opd_gt (db_var 1) (de_int).db))).dt
      (dss_one (ds_ret (de_tup (da_cons (de_ix (de_ix (de_ix (db_var 0) (de_int).db).db (de_op opd_sub (db_var 1) (de_int).db).db).db (de_int).db) da_nil))))
      dss_nil)
    (dss_one (ds_ret (de_tup da_nil)))))
/-! ### scopes -/
abbrev s_scopes : Stmt := top 6
abbrev N_scopes : List Str := ["params", "expr", "every", "found", "place", "link"]
abbrev P_scopes : List Str := ["params", "expr"]
def g_scopes (F_parts : DFn) (F_links : DFn) (F_bound : DFn) : DS :=
    sSeq (sPar 2 3 (zV (xFn F_parts (xsCons (xVal 1) (xsNil)))) (zL (xsNil)))
    (sSeq (sFor (iEnu (xFn F_links (xsCons (xVal 1) (xsNil)))) (gTupD (gsCons (gSet 4) (gsCons (gSet 5) (gsNil))))
      (sMod 3 (xIf (xOp oIs (xVar 5) (xC .non)) (xCall cTuple (xsCons (xVar 0) (xsNil))) (xOp oAdd (xOp oIx (xVar 3) (xOp oIx (xVar 5) (xC (.int 0)))) (xFn F_bound (xsCons (xOp oIx (xVar 2) (xOp oIx (xVar 5) (xC (.int 0)))) (xsCons (xOp oIx (xVar 5) (xC (.int 1))) (xsNil)))))) kApp))
    (sRet (xCall cTuple (xsCons (xVar 3) (xsNil)))))
theorem sc_scopes : FnScope N_scopes P_scopes (defScope s_scopes) := ⟨rfl, rfl, rfl, by decide +kernel, rfl, by decide +kernel, by decide +kernel⟩
theorem b_scopes {P : Program} {w : World} {K : PySem.W.Frag} {mg : Str → Option Value} {base : Heap} {cn : Nat → Addr} {k : Nat} (M : Mg mg)
    {F_parts : DFn} (HF_parts : DFun P w K mg base cn k "parts" (defArgs s_parts) (defBody s_parts) (defScope s_parts) P_parts F_parts)
    {F_links : DFn} (HF_links : DFun P w K mg base cn k "links" (defArgs s_links) (defBody s_links) (defScope s_links) P_links F_links)
    {F_bound : DFn} (HF_bound : DFun P w K mg base cn k "bound" (defArgs s_bound) (defBody s_bound) (defScope s_bound) P_bound F_bound)
    {f : Addr} (cdv : Value) (A : Around) (outer : List Env) (s : Shared) (H : Hp) (E : XK) (hr : Room k (A.deeper (envOfC "scopes" (defScope s_scopes) s.heap.objs.size f cdv))) :
    DSs (cxOf CX0 P w K mg base N_scopes "scopes" (defScope s_scopes) f cdv A outer s H E).nox cn (defBody s_scopes) (g_scopes F_parts F_links F_bound) := by
  have hN := sc_scopes.nd
  exact (dss_cons (ds_par 2 3 rfl hN (de_call HF_parts hr (da_cons (de_var 1) da_nil)).dz (df_lst da_nil).dz)
    (dss_cons (ds_for (PassesOwn.never) rfl (di_enum M.b_enumerate (de_call HF_links hr (da_cons (de_var 1) da_nil)).dy) (dg_tup rfl (dgs_cons (dg_name 4 hN) (dgs_cons (dg_name 5 hN) dgs_nil)))
      (dss_one (ds_append 3 (de_if (dt_cmp opd_is (db_var 5) (de_non).db) (de_callTy cd_tuple M.b_tuple boot_tuple (dab_cons (db_var 0) dab_nil)) (de_op opd_add (de_ix (db_var 3) (de_ix (db_var 5) (de_int).db).db).db (de_call HF_bound hr (da_cons (de_ix (db_var 2) (de_ix (db_var 5) (de_int).db).db) (da_cons (de_ix (db_var 5) (de_int).db) da_nil))).db)))))
    (dss_one (ds_ret (de_callTy cd_tuple M.b_tuple boot_tuple (dab_cons (db_var 3) dab_nil))))))
/-! ### atoms_of -/
abbrev s_atoms_of : Stmt := top 7
abbrev N_atoms_of : List Str := ["expr"]
abbrev P_atoms_of : List Str := ["expr"]
def g_atoms_of : DS :=
    sSeq (sIf (xOp oIn (xOp oIx (xVar 0) (xC (.int 0))) (xTup (xsCons (xC (.str "put")) (xsCons (xC (.str "raise")) (xsNil)))))
      (sRet (xTup (xsCons (xOp oIx (xVar 0) (xC (.int 2))) (xsNil))))
      (sNil))
    (sSeq (sIf (xOr (xOp oEq (xOp oIx (xVar 0) (xC (.int 0))) (xC (.str "say"))) (xOp oEq (xOp oIx (xVar 0) (xC (.int 0))) (xC (.str "pick"))))
      (sRet (xTup (xsCons (xOp oIx (xVar 0) (xC (.int 1))) (xsNil))))
      (sNil))
    (sSeq (sIf (xOp oEq (xOp oIx (xVar 0) (xC (.int 0))) (xC (.str "call")))
      (sRet (xCall cTuple (xsCons (xOp oIx (xVar 0) (xC (.int 2))) (xsNil))))
      (sNil))
    (sRet (xIf (xOp oEq (xOp oIx (xVar 0) (xC (.int 0))) (xC (.str "var"))) (xTup (xsCons (xVal 0) (xsNil))) (xTup (xsNil))))))
theorem sc_atoms_of : FnScope N_atoms_of P_atoms_of (defScope s_atoms_of) := ⟨rfl, rfl, rfl, by decide +kernel, rfl, by decide +kernel, by decide +kernel⟩
theorem b_atoms_of {P : Program} {w : World} {K : PySem.W.Frag} {mg : Str → Option Value} {base : Heap} {cn : Nat → Addr} {k : Nat} (M : Mg mg)
    {f : Addr} (cdv : Value) (A : Around) (outer : List Env) (s : Shared) (H : Hp) (E : XK) (hr : Room k (A.deeper (envOfC "atoms_of" (defScope s_atoms_of) s.heap.objs.size f cdv))) :
    DSs (cxOf CX0 P w K mg base N_atoms_of "atoms_of" (defScope s_atoms_of) f cdv A outer s H E).nox cn (defBody s_atoms_of) (g_atoms_of) := by
  have hN := sc_atoms_of.nd
  exact (dss_cons (ds_if (dt_cmp (opd_in hr.u150) (de_ix (db_var 0) (de_int).db).db (de_tup (da_cons de_str (da_cons de_str da_nil))).db)
      (dss_one (ds_ret (de_tup (da_cons (de_ix (db_var 0) (de_int).db) da_nil))))
      dss_nil)
    (dss_cons (ds_if (dw_or (dt_cmp (opd_eq hr.u150) (de_ix (db_var 0) (de_int).db).db (de_str).db) (dw_or1 (dt_cmp (opd_eq hr.u150) (de_ix (db_var 0) (de_int).db).db (de_str).db))).dt
      (dss_one (ds_ret (de_tup (da_cons (de_ix (db_var 0) (de_int).db) da_nil))))
      dss_nil)
    (dss_cons (ds_if (dt_cmp (opd_eq hr.u150) (de_ix (db_var 0) (de_int).db).db (de_str).db)
      (dss_one (ds_ret (de_callTy cd_tuple M.b_tuple boot_tuple (dab_cons (de_ix (db_var 0) (de_int).db).db dab_nil))))
      dss_nil)
    (dss_one (ds_ret (de_if (dt_cmp (opd_eq hr.u150) (de_ix (db_var 0) (de_int).db).db (de_str).db) (de_tup (da_cons (de_var 0) da_nil)) (de_tup da_nil)))))))
/-! ### names_in -/
abbrev s_names_in : Stmt := top 8
abbrev N_names_in : List Str := ["expr", "found", "one", "atom"]
abbrev P_names_in : List Str := ["expr"]
def g_names_in (F_parts : DFn) (F_atoms_of : DFn) : DS :=
    sSeq (sLet 1 (zL (xsNil)))
    (sSeq (sFor (iSeq (xFn F_parts (xsCons (xVal 0) (xsNil)))) (gSet 2)
      (sSeq (sMod 1 (xOfZ (zL (xsLc (iSeq (xFn F_atoms_of (xsCons (xVal 2) (xsNil)))) (gSet 3) (xOp oEq (xOp oIx (xVar 3) (xC (.int 0))) (xC (.str "value"))) (xOp oIx (xVar 3) (xC (.int 1))) [3]))) kExt)
      (sSeq (sIf (xOp oEq (xOp oIx (xVar 2) (xC (.int 0))) (xC (.str "value")))
        (sMod 1 (xOp oIx (xVar 2) (xC (.int 1))) kApp)
        (sNil))
      (sIf (xOp oEq (xOp oIx (xVar 2) (xC (.int 0))) (xC (.str "hear")))
        (sMod 1 (xOp oIx (xVar 2) (xC (.int 1))) kExt)
        (sNil)))))
    (sRet (xCall cTuple (xsCons (xSortSet (xVar 1)) (xsNil)))))
theorem sc_names_in : FnScope N_names_in P_names_in (defScope s_names_in) := ⟨rfl, rfl, rfl, by decide +kernel, rfl, by decide +kernel, by decide +kernel⟩
theorem b_names_in {P : Program} {w : World} {K : PySem.W.Frag} {mg : Str → Option Value} {base : Heap} {cn : Nat → Addr} {k : Nat} (M : Mg mg)
    {F_parts : DFn} (HF_parts : DFun P w K mg base cn k "parts" (defArgs s_parts) (defBody s_parts) (defScope s_parts) P_parts F_parts)
    {F_atoms_of : DFn} (HF_atoms_of : DFun P w K mg base cn k "atoms_of" (defArgs s_atoms_of) (defBody s_atoms_of) (defScope s_atoms_of) P_atoms_of F_atoms_of)
    {f : Addr} (cdv : Value) (A : Around) (outer : List Env) (s : Shared) (H : Hp) (E : XK) (hr : Room k (A.deeper (envOfC "names_in" (defScope s_names_in) s.heap.objs.size f cdv))) :
    DSs (cxOf CX0 P w K mg base N_names_in "names_in" (defScope s_names_in) f cdv A outer s H E).nox cn (defBody s_names_in) (g_names_in F_parts F_atoms_of) := by
  have hN := sc_names_in.nd
  exact (dss_cons (ds_let 1 hN (df_lst da_nil).dz)
    (dss_cons (ds_for (PassesOwn.never) rfl (di_seq (de_call HF_parts hr (da_cons (de_var 0) da_nil)).dy) (dg_name 2 hN)
      (dss_cons (ds_extend 1 (dz_lc [("atom", 3)] rfl hN (di_seq (de_call HF_atoms_of hr (da_cons (de_var 2) da_nil)).db.dy) (blkOk_by (by kernel_rfl)) (by decide) (fun s H C cl fp => (dg_name 3 hN)) (fun s H C cl fp => (dts_one (dt_cmp (opd_eq hr.u150) (de_ix (db_var 3) (de_int).db).db (de_str).db))) (fun s H C cl fp => (de_ix (db_var 3) (de_int).db))).de.db)
      (dss_cons (ds_if (dt_cmp (opd_eq hr.u150) (de_ix (db_var 2) (de_int).db).db (de_str).db)
        (dss_one (ds_append 1 (de_ix (db_var 2) (de_int).db)))
        dss_nil)
      (dss_one (ds_if (dt_cmp (opd_eq hr.u150) (de_ix (db_var 2) (de_int).db).db (de_str).db)
        (dss_one (ds_extend 1 (de_ix (db_var 2) (de_int).db).db))
        dss_nil)))))
    (dss_one (ds_ret (de_callTy cd_tuple M.b_tuple boot_tuple (dab_cons (de_sortSet rfl M.b_sorted M.b_set (db_var 1) hr).db dab_nil))))))
/-! ### calls_in -/
abbrev s_calls_in : Stmt := top 9
abbrev N_calls_in : List Str := ["expr", "one"]
abbrev P_calls_in : List Str := ["expr"]
def g_calls_in (F_parts : DFn) : DS :=
    sRet (xCall cTuple (xsCons (xSortSc (xsLc (iSeq (xFn F_parts (xsCons (xVal 0) (xsNil)))) (gSet 1) (xOp oEq (xOp oIx (xVar 1) (xC (.int 0))) (xC (.str "call"))) (xOp oIx (xVar 1) (xC (.int 1))) [1])) (xsNil)))
theorem sc_calls_in : FnScope N_calls_in P_calls_in (defScope s_calls_in) := ⟨rfl, rfl, rfl, by decide +kernel, rfl, by decide +kernel, by decide +kernel⟩
theorem b_calls_in {P : Program} {w : World} {K : PySem.W.Frag} {mg : Str → Option Value} {base : Heap} {cn : Nat → Addr} {k : Nat} (M : Mg mg)
    {F_parts : DFn} (HF_parts : DFun P w K mg base cn k "parts" (defArgs s_parts) (defBody s_parts) (defScope s_parts) P_parts F_parts)
    {f : Addr} (cdv : Value) (A : Around) (outer : List Env) (s : Shared) (H : Hp) (E : XK) (hr : Room k (A.deeper (envOfC "calls_in" (defScope s_calls_in) s.heap.objs.size f cdv))) :
    DSs (cxOf CX0 P w K mg base N_calls_in "calls_in" (defScope s_calls_in) f cdv A outer s H E).nox cn (defBody s_calls_in) (g_calls_in F_parts) := by
  have hN := sc_calls_in.nd
  exact (dss_one (ds_ret (de_callTy cd_tuple M.b_tuple boot_tuple (dab_cons (de_sortSc M.b_sorted [("one", 1)] rfl hN (di_seq (de_call HF_parts hr (da_cons (de_var 0) da_nil)).db.dy) (blkOk_by (by kernel_rfl)) (by decide) (fun s H C cl fp => (dg_name 1 hN)) (fun s H C cl fp => (dts_one (dt_cmp (opd_eq hr.u150) (de_ix (db_var 1) (de_int).db).db (de_str).db))) (fun s H C cl fp => (de_ix (db_var 1) (de_int).db)) hr).db dab_nil))))
/-! ### _law_pen -/
abbrev s_law_pen : Stmt := top 11
abbrev N_law_pen : List Str := ["script", "cell"]
abbrev P_law_pen : List Str := ["script"]
def g_law_pen : DS :=
    sRet (xNew (zL (xsCons (xOfZ (zL (xsLc (iSeq (xSl (xVar 0) (xoNone) (xoSome (xC (.int 60))))) (gSet 1) (xC (.bl true)) (xCall cInt (xsCons (xVar 1) (xsNil))) [1]))) (xsCons (xC (.int 0)) (xsCons (xC (.int 0)) (xsNil))))))
theorem sc_law_pen : FnScope N_law_pen P_law_pen (defScope s_law_pen) := ⟨rfl, rfl, rfl, by decide +kernel, rfl, by decide +kernel, by decide +kernel⟩
theorem b_law_pen {P : Program} {w : World} {K : PySem.W.Frag} {mg : Str → Option Value} {base : Heap} {cn : Nat → Addr} {k : Nat} (M : Mg mg)
    {f : Addr} (cdv : Value) (A : Around) (outer : List Env) (s : Shared) (H : Hp) (E : XK) (hr : Room k (A.deeper (envOfC "_law_pen" (defScope s_law_pen) s.heap.objs.size f cdv))) :
    DSs (cxOf CX0 P w K mg base N_law_pen "_law_pen" (defScope s_law_pen) f cdv A outer s H E).nox cn (defBody s_law_pen) (g_law_pen) := by
  have hN := sc_law_pen.nd
  exact (dss_one (ds_ret ((df_lst (da_cons (dz_lc [("cell", 1)] rfl hN (di_seq (de_slice (db_var 0) do_none (do_some de_int)).db.dy) (blkOk_by (by kernel_rfl)) (by decide) (fun s H C cl fp => (dg_name 1 hN)) (fun s H C cl fp => dts_nil) (fun s H C cl fp => (de_callTy cd_int M.b_int boot_int (dab_cons (db_var 1) dab_nil)))).de (da_cons de_int (da_cons de_int da_nil)))).dz).new))
/-! ### _law_draw -/
abbrev s_law_draw : Stmt := top 12
abbrev N_law_draw : List Str := ["pen", "many", "rest", "at", "cell", "mixed"]
abbrev P_law_draw : List Str := ["pen", "many"]
def g_law_draw : DS :=
    sSeq (sIf (xOp oGt (xOp oIx (xVar 0) (xC (.int 2))) (xC (.int 0)))
      (sSeq (sLet 2 (zV (xCall cInt (xsCons (xOp oIx (xVar 0) (xC (.int 2))) (xsNil)))))
      (sSeq (sPut 0 (xC (.int 2)) (xOp oDiv (xVar 2) (xVar 1)))
      (sRet (xOp oMod (xCall cInt (xsCons (xVar 2) (xsNil))) (xVar 1)))))
      (sNil))
    (sSeq (sLet 3 (zV (xOp oIx (xVar 0) (xC (.int 1)))))
    (sSeq (sPut 0 (xC (.int 1)) (xOp oAdd (xVar 3) (xC (.int 1))))
    (sSeq (sLet 4 (zV (xOp oAdd (xOp oMul (xC (.int 71655)) (xVar 3)) (xC (.int 9247)))))
    (sSeq (sIf (xOp oNe (xOp oIx (xVar 0) (xC (.int 0))) (xLst (xsNil)))
      (sLet 4 (zV (xOp oIx (xOp oIx (xVar 0) (xC (.int 0))) (xOp oMod (xCall cInt (xsCons (xVar 3) (xsNil))) (xCall cLen (xsCons (xOp oIx (xVar 0) (xC (.int 0))) (xsNil)))))))
      (sNil))
    (sSeq (sIf (xAnd (xOp oLt (xVar 3) (xCall cLen (xsCons (xOp oIx (xVar 0) (xC (.int 0))) (xsNil)))) (xOp oGe (xCall cAbs (xsCons (xVar 4) (xsNil))) (xOp oPow (xC (.int 10)) (xC (.int 18)))))
      (sSeq (sLet 2 (zV (xOp oAdd (xOp oMul (xC (.int 2)) (xOp oSub (xCall cAbs (xsCons (xVar 4) (xsNil))) (xOp oPow (xC (.int 10)) (xC (.int 18))))) (xCall cInt (xsCons (xOp oLt (xVar 4) (xC (.int 0))) (xsNil))))))
      (sSeq (sPut 0 (xC (.int 2)) (xOp oDiv (xCall cInt (xsCons (xVar 2) (xsNil))) (xVar 1)))
      (sRet (xOp oMod (xCall cInt (xsCons (xVar 2) (xsNil))) (xVar 1)))))
      (sNil))
    (sSeq (sLet 5 (zV (xOp oMod (xCall cInt (xsCons (xOp oPow (xOp oAdd (xOp oAdd (xOp oMod (xCall cInt (xsCons (xVar 4) (xsNil))) (xC (.int 2147483549))) (xOp oMul (xC (.int 71655)) (xVar 3))) (xC (.int 9247))) (xC (.int 5))) (xsNil))) (xC (.int 2147483563)))))
    (sSeq (sLet 5 (zV (xOp oMod (xCall cInt (xsCons (xOp oPow (xOp oAdd (xOp oAdd (xOp oMul (xVar 5) (xOp oAdd (xOp oMul (xC (.int 2)) (xVar 3)) (xC (.int 9247)))) (xOp oMul (xOp oMul (xC (.int 60013)) (xVar 3)) (xVar 3))) (xC (.int 71655))) (xC (.int 3))) (xsNil))) (xC (.int 2147483587)))))
    (sRet (xOp oMod (xCall cInt (xsCons (xOp oDiv (xVar 5) (xC (.int 64))) (xsNil))) (xVar 1))))))))))
theorem sc_law_draw : FnScope N_law_draw P_law_draw (defScope s_law_draw) := ⟨rfl, rfl, rfl, by decide +kernel, rfl, by decide +kernel, by decide +kernel⟩
theorem b_law_draw {P : Program} {w : World} {K : PySem.W.Frag} {mg : Str → Option Value} {base : Heap} {cn : Nat → Addr} {k : Nat} (M : Mg mg)
    {f : Addr} (cdv : Value) (A : Around) (outer : List Env) (s : Shared) (H : Hp) (E : XK) (hr : Room k (A.deeper (envOfC "_law_draw" (defScope s_law_draw) s.heap.objs.size f cdv))) :
    DSs (cxOf CX0 P w K mg base N_law_draw "_law_draw" (defScope s_law_draw) f cdv A outer s H E).nox cn (defBody s_law_draw) (g_law_draw) := by
  have hN := sc_law_draw.nd
  exact (dss_cons (ds_if (dt_cmp opd_gt (de_ix (db_var 0) (de_int).db).db (de_int).db)
      (dss_cons (ds_let 2 hN (de_callTy cd_int M.b_int boot_int (dab_cons (de_ix (db_var 0) (de_int).db).db dab_nil)).dz)
      (dss_cons (ds_put 0 (de_op opd_div (db_var 2) (db_var 1)) de_int)
      (dss_one (ds_ret (de_op opd_mod (de_callTy cd_int M.b_int boot_int (dab_cons (db_var 2) dab_nil)).db (db_var 1))))))
      dss_nil)
    (dss_cons (ds_let 3 hN (de_ix (db_var 0) (de_int).db).dz)
    (dss_cons (ds_put 0 (de_op opd_add (db_var 3) (de_int).db) de_int)
    (dss_cons (ds_let 4 hN (de_op opd_add (de_op opd_mul (de_int).db (db_var 3)).db (de_int).db).dz)
    (dss_cons (ds_if (dt_cmp (opd_ne hr.u150) (de_ix (db_var 0) (de_int).db).db (de_lst da_nil).db)
      (dss_one (ds_let 4 hN (de_ix (de_ix (db_var 0) (de_int).db).db (de_op opd_mod (de_callTy cd_int M.b_int boot_int (dab_cons (db_var 3) dab_nil)).db (de_callB cd_len M.b_len boot_len (dab_cons (de_ix (db_var 0) (de_int).db).db dab_nil)).db).db).dz))
      dss_nil)
    (dss_cons (ds_if (dw_and (dt_cmp opd_lt (db_var 3) (de_callB cd_len M.b_len boot_len (dab_cons (de_ix (db_var 0) (de_int).db).db dab_nil)).db) (dw_and1 (dt_cmp opd_ge (de_callB cd_abs M.b_abs boot_abs (dab_cons (db_var 4) dab_nil)).db (de_op opd_pow (de_int).db (de_int).db).db))).dt
      (dss_cons (ds_let 2 hN (de_op opd_add (de_op opd_mul (de_int).db (de_op opd_sub (de_callB cd_abs M.b_abs boot_abs (dab_cons (db_var 4) dab_nil)).db (de_op opd_pow (de_int).db (de_int).db).db).db).db (de_callTy cd_int M.b_int boot_int (dab_cons (de_cmp opd_lt (db_var 4) (de_int).db).db dab_nil)).db).dz)
      (dss_cons (ds_put 0 (de_op opd_div (de_callTy cd_int M.b_int boot_int (dab_cons (db_var 2) dab_nil)).db (db_var 1)) de_int)
      (dss_one (ds_ret (de_op opd_mod (de_callTy cd_int M.b_int boot_int (dab_cons (db_var 2) dab_nil)).db (db_var 1))))))
      dss_nil)
    (dss_cons (ds_let 5 hN (de_op opd_mod (de_callTy cd_int M.b_int boot_int (dab_cons (de_op opd_pow (de_op opd_add (de_op opd_add (de_op opd_mod (de_callTy cd_int M.b_int boot_int (dab_cons (db_var 4) dab_nil)).db (de_int).db).db (de_op opd_mul (de_int).db (db_var 3)).db).db (de_int).db).db (de_int).db).db dab_nil)).db (de_int).db).dz)
    (dss_cons (ds_let 5 hN (de_op opd_mod (de_callTy cd_int M.b_int boot_int (dab_cons (de_op opd_pow (de_op opd_add (de_op opd_add (de_op opd_mul (db_var 5) (de_op opd_add (de_op opd_mul (de_int).db (db_var 3)).db (de_int).db).db).db (de_op opd_mul (de_op opd_mul (de_int).db (db_var 3)).db (db_var 3)).db).db (de_int).db).db (de_int).db).db dab_nil)).db (de_int).db).dz)
    (dss_one (ds_ret (de_op opd_mod (de_callTy cd_int M.b_int boot_int (dab_cons (de_op opd_div (db_var 5) (de_int).db).db dab_nil)).db (db_var 1))))))))))))
/-! ### _law_pick -/
abbrev s_law_pick : Stmt := top 13
abbrev N_law_pick : List Str := ["pen", "some"]
abbrev P_law_pick : List Str := ["pen", "some"]
def g_law_pick (F_law_draw : DFn) : DS :=
    sRet (xOp oIx (xVar 1) (xFn F_law_draw (xsCons (xVal 0) (xsCons (xCall cLen (xsCons (xVar 1) (xsNil))) (xsNil)))))
theorem sc_law_pick : FnScope N_law_pick P_law_pick (defScope s_law_pick) := ⟨rfl, rfl, rfl, by decide +kernel, rfl, by decide +kernel, by decide +kernel⟩
theorem b_law_pick {P : Program} {w : World} {K : PySem.W.Frag} {mg : Str → Option Value} {base : Heap} {cn : Nat → Addr} {k : Nat} (M : Mg mg)
    {F_law_draw : DFn} (HF_law_draw : DFun P w K mg base cn k "_law_draw" (defArgs s_law_draw) (defBody s_law_draw) (defScope s_law_draw) P_law_draw F_law_draw)
    {f : Addr} (cdv : Value) (A : Around) (outer : List Env) (s : Shared) (H : Hp) (E : XK) (hr : Room k (A.deeper (envOfC "_law_pick" (defScope s_law_pick) s.heap.objs.size f cdv))) :
    DSs (cxOf CX0 P w K mg base N_law_pick "_law_pick" (defScope s_law_pick) f cdv A outer s H E).nox cn (defBody s_law_pick) (g_law_pick F_law_draw) := by
  have hN := sc_law_pick.nd
  exact (dss_one (ds_ret (de_ix (db_var 1) (de_call HF_law_draw hr (da_cons (de_var 0) (da_cons (de_callB cd_len M.b_len boot_len (dab_cons (db_var 1) dab_nil)) da_nil))).db)))
/-! ### _law_mixed -/
abbrev s_law_mixed : Stmt := top 14
abbrev N_law_mixed : List Str := ["pen", "some", "left", "gained", "lap"]
abbrev P_law_mixed : List Str := ["pen", "some"]
def g_law_mixed (F_law_draw : DFn) : DS :=
    sSeq (sPar 2 3 (zL (xsOf (xVar 1))) (zL (xsNil)))
    (sSeq (sFor (iRg1 (xCall cLen (xsCons (xVar 2) (xsNil)))) (gSet 4)
      (sAppPop 3 2 (xFn F_law_draw (xsCons (xVal 0) (xsCons (xCall cLen (xsCons (xVar 2) (xsNil))) (xsNil))))))
    (sRetO 3))
theorem sc_law_mixed : FnScope N_law_mixed P_law_mixed (defScope s_law_mixed) := ⟨rfl, rfl, rfl, by decide +kernel, rfl, by decide +kernel, by decide +kernel⟩
theorem b_law_mixed {P : Program} {w : World} {K : PySem.W.Frag} {mg : Str → Option Value} {base : Heap} {cn : Nat → Addr} {k : Nat} (M : Mg mg)
    {F_law_draw : DFn} (HF_law_draw : DFun P w K mg base cn k "_law_draw" (defArgs s_law_draw) (defBody s_law_draw) (defScope s_law_draw) P_law_draw F_law_draw)
    {f : Addr} (cdv : Value) (A : Around) (outer : List Env) (s : Shared) (H : Hp) (E : XK) (hr : Room k (A.deeper (envOfC "_law_mixed" (defScope s_law_mixed) s.heap.objs.size f cdv))) :
    DSs (cxOf CX0 P w K mg base N_law_mixed "_law_mixed" (defScope s_law_mixed) f cdv A outer s H E).nox cn (defBody s_law_mixed) (g_law_mixed F_law_draw) := by
  have hN := sc_law_mixed.nd
  exact (dss_cons (ds_par 2 3 rfl hN (df_list M.b_list (db_var 1)).dz (df_lst da_nil).dz)
    (dss_cons (ds_for (PassesOwn.never) rfl (di_range1 M.b_range (de_callB cd_len M.b_len boot_len (dab_cons (db_var 2) dab_nil))) (dg_name 4 hN)
      (dss_one (ds_appPop 3 2 (de_call HF_law_draw hr (da_cons (de_var 0) (da_cons (de_callB cd_len M.b_len boot_len (dab_cons (db_var 2) dab_nil)) da_nil))))))
    (dss_one (ds_retO 3))))
/-! ### _law_inner -/
abbrev s_law_inner : Stmt := top 15
abbrev N_law_inner : List Str := ["expr", "row"]
abbrev P_law_inner : List Str := ["expr"]
def g_law_inner : DS :=
    sSeq (sIf (xOp oEq (xOp oIx (xVar 0) (xC (.int 0))) (xC (.str "let")))
      (sRet (xLst (xsCons (xOp oIx (xVar 0) (xC (.int 2))) (xsCons (xOp oIx (xVar 0) (xC (.int 3))) (xsNil)))))
      (sNil))
    (sSeq (sIf (xOp oEq (xOp oIx (xVar 0) (xC (.int 0))) (xC (.str "pick")))
      (sRet (xOp oAdd (xOfZ (zL (xsLc (iSeq (xOp oIx (xVar 0) (xC (.int 2)))) (gSet 1) (xC (.bl true)) (xOp oIx (xVar 1) (xC (.int 1))) [1]))) (xLst (xsCons (xOp oIx (xVar 0) (xC (.int 3))) (xsNil)))))
      (sNil))
    (sRet (xIf (xOp oEq (xOp oIx (xVar 0) (xC (.int 0))) (xC (.str "try"))) (xOp oAdd (xLst (xsCons (xOp oIx (xVar 0) (xC (.int 1))) (xsNil))) (xOfZ (zL (xsLc (iSeq (xOp oIx (xVar 0) (xC (.int 2)))) (gSet 1) (xC (.bl true)) (xOp oIx (xVar 1) (xC (.int 2))) [1])))) (xLst (xsNil)))))
theorem sc_law_inner : FnScope N_law_inner P_law_inner (defScope s_law_inner) := ⟨rfl, rfl, rfl, by decide +kernel, rfl, by decide +kernel, by decide +kernel⟩
theorem b_law_inner {P : Program} {w : World} {K : PySem.W.Frag} {mg : Str → Option Value} {base : Heap} {cn : Nat → Addr} {k : Nat} (M : Mg mg)
    {f : Addr} (cdv : Value) (A : Around) (outer : List Env) (s : Shared) (H : Hp) (E : XK) (hr : Room k (A.deeper (envOfC "_law_inner" (defScope s_law_inner) s.heap.objs.size f cdv))) :
    DSs (cxOf CX0 P w K mg base N_law_inner "_law_inner" (defScope s_law_inner) f cdv A outer s H E).nox cn (defBody s_law_inner) (g_law_inner) := by
  have hN := sc_law_inner.nd
  exact (dss_cons (ds_if (dt_cmp (opd_eq hr.u150) (de_ix (db_var 0) (de_int).db).db (de_str).db)
      (dss_one (ds_ret (de_lst (da_cons (de_ix (db_var 0) (de_int).db) (da_cons (de_ix (db_var 0) (de_int).db) da_nil)))))
      dss_nil)
    (dss_cons (ds_if (dt_cmp (opd_eq hr.u150) (de_ix (db_var 0) (de_int).db).db (de_str).db)
      (dss_one (ds_ret (de_op opd_add (dz_lc [("row", 1)] rfl hN (di_seq (de_ix (db_var 0) (de_int).db).db.dy) (blkOk_by (by kernel_rfl)) (by decide) (fun s H C cl fp => (dg_name 1 hN)) (fun s H C cl fp => dts_nil) (fun s H C cl fp => (de_ix (db_var 1) (de_int).db))).de.db (de_lst (da_cons (de_ix (db_var 0) (de_int).db) da_nil)).db)))
      dss_nil)
    (dss_one (ds_ret (de_if (dt_cmp (opd_eq hr.u150) (de_ix (db_var 0) (de_int).db).db (de_str).db) (de_op opd_add (de_lst (da_cons (de_ix (db_var 0) (de_int).db) da_nil)).db (dz_lc [("row", 1)] rfl hN (di_seq (de_ix (db_var 0) (de_int).db).db.dy) (blkOk_by (by kernel_rfl)) (by decide) (fun s H C cl fp => (dg_name 1 hN)) (fun s H C cl fp => dts_nil) (fun s H C cl fp => (de_ix (db_var 1) (de_int).db))).de.db) (de_lst da_nil))))))
/-! ### _law_size -/
abbrev s_law_size : Stmt := top 16
abbrev N_law_size : List Str := ["expr", "some", "one", "many", "deep"]
abbrev P_law_size : List Str := ["expr"]
def g_law_size (F_law_inner : DFn) (F_law_size : DFn) : DS :=
    sSeq (sLet 1 (zV (xOfZ (zL (xsLc (iSeq (xFn F_law_inner (xsCons (xVal 0) (xsNil)))) (gSet 2) (xC (.bl true)) (xFn F_law_size (xsCons (xVal 2) (xsNil))) [2])))))
    (sRet (xTup (xsCons (xOp oAdd (xC (.int 1)) (xCall cSum (xsCons (xOfZ (zL (xsLc (iSeq (xVar 1)) (gTupD (gsCons (gSet 3) (gsCons (gSet 4) (gsNil)))) (xC (.bl true)) (xVal 3) [3, 4]))) (xsNil)))) (xsCons (xOp oAdd (xC (.int 1)) (xCall cMax (xsCons (xOp oAdd (xLst (xsCons (xC (.int 0)) (xsNil))) (xOfZ (zL (xsLc (iSeq (xVar 1)) (gTupD (gsCons (gSet 3) (gsCons (gSet 4) (gsNil)))) (xC (.bl true)) (xVal 4) [3, 4])))) (xsNil)))) (xsNil)))))
theorem sc_law_size : FnScope N_law_size P_law_size (defScope s_law_size) := ⟨rfl, rfl, rfl, by decide +kernel, rfl, by decide +kernel, by decide +kernel⟩
theorem b_law_size {P : Program} {w : World} {K : PySem.W.Frag} {mg : Str → Option Value} {base : Heap} {cn : Nat → Addr} {k : Nat} (M : Mg mg)
    {F_law_inner : DFn} (HF_law_inner : DFun P w K mg base cn k "_law_inner" (defArgs s_law_inner) (defBody s_law_inner) (defScope s_law_inner) P_law_inner F_law_inner)
    {F_law_size : DFn} (HF_law_size : DFun P w K mg base cn k "_law_size" (defArgs s_law_size) (defBody s_law_size) (defScope s_law_size) P_law_size F_law_size)
    {f : Addr} (cdv : Value) (A : Around) (outer : List Env) (s : Shared) (H : Hp) (E : XK) (hr : Room k (A.deeper (envOfC "_law_size" (defScope s_law_size) s.heap.objs.size f cdv))) :
    DSs (cxOf CX0 P w K mg base N_law_size "_law_size" (defScope s_law_size) f cdv A outer s H E).nox cn (defBody s_law_size) (g_law_size F_law_inner F_law_size) := by
  have hN := sc_law_size.nd
  exact (dss_cons (ds_letLcV 1 [("one", 2)] rfl hN (di_seq (de_call HF_law_inner hr (da_cons (de_var 0) da_nil)).db.dy) (blkOk_by (by kernel_rfl)) (by decide) (fun s H C cl fp => (dg_name 2 hN)) (fun s H C cl fp => dts_nil) (fun s H C cl fp => (de_call HF_law_size hr (da_cons (de_var 2) da_nil))))
    (dss_one (ds_ret (de_tup (da_cons (de_op opd_add (de_int).db (de_callB (cd_sum rfl) M.b_sum boot_sum (dab_cons (dz_lc [("many", 3), ("deep", 4)] rfl hN (di_seq (db_var 1).dy) (blkOk_by (by kernel_rfl)) (by decide) (fun s H C cl fp => (dg_tup rfl (dgs_cons (dg_name 3 hN) (dgs_cons (dg_name 4 hN) dgs_nil)))) (fun s H C cl fp => dts_nil) (fun s H C cl fp => (de_var 3))).de.db dab_nil)).db) (da_cons (de_op opd_add (de_int).db (de_callB (cd_max rfl) M.b_max boot_max (dab_cons (de_op opd_add (de_lst (da_cons de_int da_nil)).db (dz_lc [("many", 3), ("deep", 4)] rfl hN (di_seq (db_var 1).dy) (blkOk_by (by kernel_rfl)) (by decide) (fun s H C cl fp => (dg_tup rfl (dgs_cons (dg_name 3 hN) (dgs_cons (dg_name 4 hN) dgs_nil)))) (fun s H C cl fp => dts_nil) (fun s H C cl fp => (de_var 4))).de.db).db dab_nil)).db) da_nil))))))
/-! ### _law_atom -/
abbrev s_law_atom : Stmt := top 17
abbrev N_law_atom : List Str := ["pen", "kit", "scope"]
abbrev P_law_atom : List Str := ["pen", "kit", "scope"]
def g_law_atom (F_law_draw : DFn) (F_law_pick : DFn) : DS :=
    sSeq (sIf (xAnd (xOp oNe (xVar 2) (xLst (xsNil))) (xOp oGt (xFn F_law_draw (xsCons (xVal 0) (xsCons (xC (.int 3)) (xsNil)))) (xC (.int 0))))
      (sRet (xTup (xsCons (xC (.str "var")) (xsCons (xFn F_law_pick (xsCons (xVal 0) (xsCons (xVal 2) (xsNil)))) (xsNil)))))
      (sNil))
    (sRet (xTup (xsCons (xC (.str "value")) (xsCons (xFn F_law_pick (xsCons (xVal 0) (xsCons (xDGet (xVar 1) (xC (.str "values"))) (xsNil)))) (xsNil)))))
theorem sc_law_atom : FnScope N_law_atom P_law_atom (defScope s_law_atom) := ⟨rfl, rfl, rfl, by decide +kernel, rfl, by decide +kernel, by decide +kernel⟩
theorem b_law_atom {P : Program} {w : World} {K : PySem.W.Frag} {mg : Str → Option Value} {base : Heap} {cn : Nat → Addr} {k : Nat} (M : Mg mg)
    {F_law_draw : DFn} (HF_law_draw : DFun P w K mg base cn k "_law_draw" (defArgs s_law_draw) (defBody s_law_draw) (defScope s_law_draw) P_law_draw F_law_draw)
    {F_law_pick : DFn} (HF_law_pick : DFun P w K mg base cn k "_law_pick" (defArgs s_law_pick) (defBody s_law_pick) (defScope s_law_pick) P_law_pick F_law_pick)
    {f : Addr} (cdv : Value) (A : Around) (outer : List Env) (s : Shared) (H : Hp) (E : XK) (hr : Room k (A.deeper (envOfC "_law_atom" (defScope s_law_atom) s.heap.objs.size f cdv))) :
    DSs (cxOf CX0 P w K mg base N_law_atom "_law_atom" (defScope s_law_atom) f cdv A outer s H E).nox cn (defBody s_law_atom) (g_law_atom F_law_draw F_law_pick) := by
  have hN := sc_law_atom.nd
  exact (dss_cons (ds_if (dw_and (dt_cmp (opd_ne hr.u150) (db_var 2) (de_lst da_nil).db) (dw_and1 (dt_cmp opd_gt (de_call HF_law_draw hr (da_cons (de_var 0) (da_cons de_int da_nil))).db (de_int).db))).dt
      (dss_one (ds_ret (de_tup (da_cons de_str (da_cons (de_call HF_law_pick hr (da_cons (de_var 0) (da_cons (de_var 2) da_nil))) da_nil)))))
      dss_nil)
    (dss_one (ds_ret (de_tup (da_cons de_str (da_cons (de_call HF_law_pick hr (da_cons (de_var 0) (da_cons (de_dget hr.u150 (db_var 1) (de_str).db) da_nil))) da_nil))))))
/-! ### _law_leaf -/
abbrev s_law_leaf : Stmt := top 18
abbrev N_law_leaf : List Str := ["pen", "kit", "scope", "way", "name", "many", "one"]
abbrev P_law_leaf : List Str := ["pen", "kit", "scope"]
def g_law_leaf (F_law_draw : DFn) (F_law_atom : DFn) (F_law_pick : DFn) (F_law_mixed : DFn) : DS :=
    sSeq (sLet 3 (zV (xFn F_law_draw (xsCons (xVal 0) (xsCons (xC (.int 9)) (xsNil))))))
    (sSeq (sIf (xOp oLt (xVar 3) (xC (.int 2)))
      (sRet (xFn F_law_atom (xsCons (xVal 0) (xsCons (xVal 1) (xsCons (xVal 2) (xsNil))))))
      (sNil))
    (sSeq (sIf (xAnd (xOp oEq (xVar 3) (xC (.int 2))) (xOp oNe (xDGet (xVar 1) (xC (.str "slots"))) (xLst (xsNil))))
      (sRet (xTup (xsCons (xC (.str "get")) (xsCons (xFn F_law_pick (xsCons (xVal 0) (xsCons (xDGet (xVar 1) (xC (.str "slots"))) (xsNil)))) (xsNil)))))
      (sNil))
    (sSeq (sIf (xAnd (xOp oLt (xVar 3) (xC (.int 5))) (xOp oNe (xDGet (xVar 1) (xC (.str "slots"))) (xLst (xsNil))))
      (sRet (xTup (xsCons (xC (.str "put")) (xsCons (xFn F_law_pick (xsCons (xVal 0) (xsCons (xDGet (xVar 1) (xC (.str "slots"))) (xsNil)))) (xsCons (xFn F_law_atom (xsCons (xVal 0) (xsCons (xVal 1) (xsCons (xVal 2) (xsNil))))) (xsNil))))))
      (sNil))
    (sSeq (sIf (xOp oEq (xVar 3) (xC (.int 5)))
      (sRet (xTup (xsCons (xC (.str "hear")) (xsCons (xCall cTuple (xsCons (xCall cSorted (xsCons (xSl (xFn F_law_mixed (xsCons (xVal 0) (xsCons (xDGet (xVar 1) (xC (.str "values"))) (xsNil)))) (xoNone) (xoSome (xOp oAdd (xC (.int 1)) (xFn F_law_draw (xsCons (xVal 0) (xsCons (xCall cMin2 (xsCons (xC (.int 3)) (xsCons (xCall cLen (xsCons (xDGet (xVar 1) (xC (.str "values"))) (xsNil))) (xsNil)))) (xsNil))))))) (xsNil))) (xsNil))) (xsNil)))))
      (sNil))
    (sSeq (sIf (xAnd (xOp oEq (xVar 3) (xC (.int 6))) (xOp oNe (xDGet (xVar 1) (xC (.str "calls"))) (xLst (xsNil))))
      (sSeq (sUnp (xFn F_law_pick (xsCons (xVal 0) (xsCons (xDGet (xVar 1) (xC (.str "calls"))) (xsNil)))) (gTupD (gsCons (gSet 4) (gsCons (gSet 5) (gsNil)))))
      (sRet (xTup (xsCons (xC (.str "call")) (xsCons (xVal 4) (xsCons (xCall cTuple (xsCons (xOfZ (zL (xsLc (iRg1 (xVal 5)) (gSet 6) (xC (.bl true)) (xFn F_law_atom (xsCons (xVal 0) (xsCons (xVal 1) (xsCons (xVal 2) (xsNil))))) [6]))) (xsNil))) (xsNil)))))))
      (sNil))
    (sRet (xTup (xsCons (xC (.str "say")) (xsCons (xFn F_law_atom (xsCons (xVal 0) (xsCons (xVal 1) (xsCons (xVal 2) (xsNil))))) (xsNil))))))))))
theorem sc_law_leaf : FnScope N_law_leaf P_law_leaf (defScope s_law_leaf) := ⟨rfl, rfl, rfl, by decide +kernel, rfl, by decide +kernel, by decide +kernel⟩
theorem b_law_leaf {P : Program} {w : World} {K : PySem.W.Frag} {mg : Str → Option Value} {base : Heap} {cn : Nat → Addr} {k : Nat} (M : Mg mg)
    {F_law_draw : DFn} (HF_law_draw : DFun P w K mg base cn k "_law_draw" (defArgs s_law_draw) (defBody s_law_draw) (defScope s_law_draw) P_law_draw F_law_draw)
    {F_law_atom : DFn} (HF_law_atom : DFun P w K mg base cn k "_law_atom" (defArgs s_law_atom) (defBody s_law_atom) (defScope s_law_atom) P_law_atom F_law_atom)
    {F_law_pick : DFn} (HF_law_pick : DFun P w K mg base cn k "_law_pick" (defArgs s_law_pick) (defBody s_law_pick) (defScope s_law_pick) P_law_pick F_law_pick)
    {F_law_mixed : DFn} (HF_law_mixed : DFun P w K mg base cn k "_law_mixed" (defArgs s_law_mixed) (defBody s_law_mixed) (defScope s_law_mixed) P_law_mixed F_law_mixed)
    {f : Addr} (cdv : Value) (A : Around) (outer : List Env) (s : Shared) (H : Hp) (E : XK) (hr : Room k (A.deeper (envOfC "_law_leaf" (defScope s_law_leaf) s.heap.objs.size f cdv))) :
    DSs (cxOf CX0 P w K mg base N_law_leaf "_law_leaf" (defScope s_law_leaf) f cdv A outer s H E).nox cn (defBody s_law_leaf) (g_law_leaf F_law_draw F_law_atom F_law_pick F_law_mixed) := by
  have hN := sc_law_leaf.nd
  exact (dss_cons (ds_let 3 hN (de_call HF_law_draw hr (da_cons (de_var 0) (da_cons de_int da_nil))).dz)
    (dss_cons (ds_if (dt_cmp opd_lt (db_var 3) (de_int).db)
      (dss_one (ds_ret (de_call HF_law_atom hr (da_cons (de_var 0) (da_cons (de_var 1) (da_cons (de_var 2) da_nil))))))
      dss_nil)
    (dss_cons (ds_if (dw_and (dt_cmp (opd_eq hr.u150) (db_var 3) (de_int).db) (dw_and1 (dt_cmp (opd_ne hr.u150) (de_dget hr.u150 (db_var 1) (de_str).db).db (de_lst da_nil).db))).dt
      (dss_one (ds_ret (de_tup (da_cons de_str (da_cons (de_call HF_law_pick hr (da_cons (de_var 0) (da_cons (de_dget hr.u150 (db_var 1) (de_str).db) da_nil))) da_nil)))))
      dss_nil)
    (dss_cons (ds_if (dw_and (dt_cmp opd_lt (db_var 3) (de_int).db) (dw_and1 (dt_cmp (opd_ne hr.u150) (de_dget hr.u150 (db_var 1) (de_str).db).db (de_lst da_nil).db))).dt
      (dss_one (ds_ret (de_tup (da_cons de_str (da_cons (de_call HF_law_pick hr (da_cons (de_var 0) (da_cons (de_dget hr.u150 (db_var 1) (de_str).db) da_nil))) (da_cons (de_call HF_law_atom hr (da_cons (de_var 0) (da_cons (de_var 1) (da_cons (de_var 2) da_nil)))) da_nil))))))
      dss_nil)
    (dss_cons (ds_if (dt_cmp (opd_eq hr.u150) (db_var 3) (de_int).db)
      (dss_one (ds_ret (de_tup (da_cons de_str (da_cons (de_callTy cd_tuple M.b_tuple boot_tuple (dab_cons (de_callB cd_sorted M.b_sorted boot_sorted (dab_cons (de_slice (de_call HF_law_mixed hr (da_cons (de_var 0) (da_cons (de_dget hr.u150 (db_var 1) (de_str).db) da_nil))).db do_none (do_some (de_op opd_add (de_int).db (de_call HF_law_draw hr (da_cons (de_var 0) (da_cons (de_callB (cd_min2 rfl) M.b_min boot_min (dab_cons (de_int).db (dab_cons (de_callB cd_len M.b_len boot_len (dab_cons (de_dget hr.u150 (db_var 1) (de_str).db).db dab_nil)).db dab_nil))) da_nil))).db))).db dab_nil)).db dab_nil)) da_nil)))))
      dss_nil)
    (dss_cons (ds_if (dw_and (dt_cmp (opd_eq hr.u150) (db_var 3) (de_int).db) (dw_and1 (dt_cmp (opd_ne hr.u150) (de_dget hr.u150 (db_var 1) (de_str).db).db (de_lst da_nil).db))).dt
      (dss_cons (ds_unp (de_call HF_law_pick hr (da_cons (de_var 0) (da_cons (de_dget hr.u150 (db_var 1) (de_str).db) da_nil))) (dg_tup rfl (dgs_cons (dg_name 4 hN) (dgs_cons (dg_name 5 hN) dgs_nil))))
      (dss_one (ds_ret (de_tup (da_cons de_str (da_cons (de_var 4) (da_cons (de_callTy cd_tuple M.b_tuple boot_tuple (dab_cons (dz_lc [("one", 6)] rfl hN (di_range1 M.b_range (de_var 5)) (blkOk_by (by kernel_rfl)) (by decide) (fun s H C cl fp => (dg_name 6 hN)) (fun s H C cl fp => dts_nil) (fun s H C cl fp => (de_call HF_law_atom hr (da_cons (de_var 0) (da_cons (de_var 1) (da_cons (de_var 2) da_nil)))))).de.db dab_nil)) da_nil)))))))
      dss_nil)
    (dss_one (ds_ret (de_tup (da_cons de_str (da_cons (de_call HF_law_atom hr (da_cons (de_var 0) (da_cons (de_var 1) (da_cons (de_var 2) da_nil)))) da_nil)))))))))))
/-! ### _law_body -/
abbrev s_law_body : Stmt := top 19
abbrev N_law_body : List Str := ["pen", "kit", "scope", "deep", "way", "name", "arms", "rows", "value", "error"]
abbrev P_law_body : List Str := ["pen", "kit", "scope", "deep"]
def g_law_body (F_law_draw : DFn) (F_law_leaf : DFn) (F_law_pick : DFn) (F_law_body : DFn) (F_law_mixed : DFn) (F_law_atom : DFn) : DS :=
    sSeq (sLet 4 (zV (xFn F_law_draw (xsCons (xVal 0) (xsCons (xC (.int 8)) (xsNil))))))
    (sSeq (sIf (xOr (xOp oEq (xVar 3) (xC (.int 0))) (xOp oEq (xVar 4) (xC (.int 0))))
      (sRet (xFn F_law_leaf (xsCons (xVal 0) (xsCons (xVal 1) (xsCons (xVal 2) (xsNil))))))
      (sNil))
    (sSeq (sIf (xOp oLt (xVar 4) (xC (.int 5)))
      (sSeq (sLet 5 (zV (xFn F_law_pick (xsCons (xVal 0) (xsCons (xLst (xsCons (xC (.str "x")) (xsCons (xC (.str "y")) (xsCons (xC (.str "z")) (xsNil))))) (xsNil))))))
      (sRet (xTup (xsCons (xC (.str "let")) (xsCons (xVal 5) (xsCons (xFn F_law_body (xsCons (xVal 0) (xsCons (xVal 1) (xsCons (xVal 2) (xsCons (xOp oSub (xVar 3) (xC (.int 1))) (xsNil)))))) (xsCons (xFn F_law_body (xsCons (xVal 0) (xsCons (xVal 1) (xsCons (xOp oAdd (xVar 2) (xLst (xsCons (xVal 5) (xsNil)))) (xsCons (xOp oSub (xVar 3) (xC (.int 1))) (xsNil)))))) (xsNil))))))))
      (sNil))
    (sSeq (sIf (xOp oEq (xVar 4) (xC (.int 5)))
      (sSeq (sLet 6 (zV (xOfZ (zL (xsLc (iSeq (xSl (xFn F_law_mixed (xsCons (xVal 0) (xsCons (xOp oAdd (xDGet (xVar 1) (xC (.str "values"))) (xLst (xsCons (xC (.str "zy")) (xsCons (xC (.str "zz")) (xsNil))))) (xsNil)))) (xoNone) (xoSome (xOp oAdd (xC (.int 1)) (xFn F_law_pick (xsCons (xVal 0) (xsCons (xLst (xsCons (xC (.int 0)) (xsCons (xC (.int 0)) (xsCons (xC (.int 1)) (xsCons (xC (.int 1)) (xsCons (xC (.int 2)) (xsCons (xC (.int 3)) (xsNil)))))))) (xsNil)))))))) (gSet 8) (xC (.bl true)) (xTup (xsCons (xVal 8) (xsCons (xFn F_law_body (xsCons (xVal 0) (xsCons (xVal 1) (xsCons (xVal 2) (xsCons (xOp oSub (xVar 3) (xC (.int 1))) (xsNil)))))) (xsNil)))) [8])))))
      (sRet (xTup (xsCons (xC (.str "pick")) (xsCons (xFn F_law_atom (xsCons (xVal 0) (xsCons (xVal 1) (xsCons (xVal 2) (xsNil))))) (xsCons (xCall cTuple (xsCons (xVar 6) (xsNil))) (xsCons (xFn F_law_body (xsCons (xVal 0) (xsCons (xVal 1) (xsCons (xVal 2) (xsCons (xOp oSub (xVar 3) (xC (.int 1))) (xsNil)))))) (xsNil))))))))
      (sNil))
    (sSeq (sIf (xOp oEq (xVar 4) (xC (.int 6)))
      (sSeq (sLet 7 (zV (xOfZ (zL (xsLc (iSeq (xSl (xFn F_law_mixed (xsCons (xVal 0) (xsCons (xLst (xsCons (xC (.str "bad")) (xsCons (xC (.str "odd")) (xsCons (xC (.str "rare")) (xsCons (xC (.str "sad")) (xsNil)))))) (xsNil)))) (xoNone) (xoSome (xOp oAdd (xC (.int 1)) (xFn F_law_pick (xsCons (xVal 0) (xsCons (xLst (xsCons (xC (.int 0)) (xsCons (xC (.int 0)) (xsCons (xC (.int 1)) (xsCons (xC (.int 3)) (xsNil)))))) (xsNil)))))))) (gSet 9) (xC (.bl true)) (xTup (xsCons (xVal 9) (xsCons (xC (.str "x")) (xsCons (xFn F_law_body (xsCons (xVal 0) (xsCons (xVal 1) (xsCons (xOp oAdd (xVar 2) (xLst (xsCons (xC (.str "x")) (xsNil)))) (xsCons (xOp oSub (xVar 3) (xC (.int 1))) (xsNil)))))) (xsNil))))) [9])))))
      (sRet (xTup (xsCons (xC (.str "try")) (xsCons (xFn F_law_body (xsCons (xVal 0) (xsCons (xVal 1) (xsCons (xVal 2) (xsCons (xOp oSub (xVar 3) (xC (.int 1))) (xsNil)))))) (xsCons (xCall cTuple (xsCons (xVar 7) (xsNil))) (xsNil)))))))
      (sNil))
    (sRet (xIf (xOp oEq (xFn F_law_draw (xsCons (xVal 0) (xsCons (xC (.int 3)) (xsNil)))) (xC (.int 0))) (xTup (xsCons (xC (.str "raise")) (xsCons (xFn F_law_pick (xsCons (xVal 0) (xsCons (xLst (xsCons (xC (.str "bad")) (xsCons (xC (.str "odd")) (xsCons (xC (.str "odd")) (xsCons (xC (.str "sad")) (xsNil)))))) (xsNil)))) (xsCons (xFn F_law_atom (xsCons (xVal 0) (xsCons (xVal 1) (xsCons (xVal 2) (xsNil))))) (xsNil))))) (xTup (xsCons (xC (.str "say")) (xsCons (xFn F_law_atom (xsCons (xVal 0) (xsCons (xVal 1) (xsCons (xVal 2) (xsNil))))) (xsNil))))))))))
theorem sc_law_body : FnScope N_law_body P_law_body (defScope s_law_body) := ⟨rfl, rfl, rfl, by decide +kernel, rfl, by decide +kernel, by decide +kernel⟩
theorem b_law_body {P : Program} {w : World} {K : PySem.W.Frag} {mg : Str → Option Value} {base : Heap} {cn : Nat → Addr} {k : Nat} (M : Mg mg)
    {F_law_draw : DFn} (HF_law_draw : DFun P w K mg base cn k "_law_draw" (defArgs s_law_draw) (defBody s_law_draw) (defScope s_law_draw) P_law_draw F_law_draw)
    {F_law_leaf : DFn} (HF_law_leaf : DFun P w K mg base cn k "_law_leaf" (defArgs s_law_leaf) (defBody s_law_leaf) (defScope s_law_leaf) P_law_leaf F_law_leaf)
    {F_law_pick : DFn} (HF_law_pick : DFun P w K mg base cn k "_law_pick" (defArgs s_law_pick) (defBody s_law_pick) (defScope s_law_pick) P_law_pick F_law_pick)
    {F_law_body : DFn} (HF_law_body : DFun P w K mg base cn k "_law_body" (defArgs s_law_body) (defBody s_law_body) (defScope s_law_body) P_law_body F_law_body)
    {F_law_mixed : DFn} (HF_law_mixed : DFun P w K mg base cn k "_law_mixed" (defArgs s_law_mixed) (defBody s_law_mixed) (defScope s_law_mixed) P_law_mixed F_law_mixed)
    {F_law_atom : DFn} (HF_law_atom : DFun P w K mg base cn k "_law_atom" (defArgs s_law_atom) (defBody s_law_atom) (defScope s_law_atom) P_law_atom F_law_atom)
    {f : Addr} (cdv : Value) (A : Around) (outer : List Env) (s : Shared) (H : Hp) (E : XK) (hr : Room k (A.deeper (envOfC "_law_body" (defScope s_law_body) s.heap.objs.size f cdv))) :
    DSs (cxOf CX0 P w K mg base N_law_body "_law_body" (defScope s_law_body) f cdv A outer s H E).nox cn (defBody s_law_body) (g_law_body F_law_draw F_law_leaf F_law_pick F_law_body F_law_mixed F_law_atom) := by
  have hN := sc_law_body.nd
  exact (dss_cons (ds_let 4 hN (de_call HF_law_draw hr (da_cons (de_var 0) (da_cons de_int da_nil))).dz)
    (dss_cons (ds_if (dw_or (dt_cmp (opd_eq hr.u150) (db_var 3) (de_int).db) (dw_or1 (dt_cmp (opd_eq hr.u150) (db_var 4) (de_int).db))).dt
      (dss_one (ds_ret (de_call HF_law_leaf hr (da_cons (de_var 0) (da_cons (de_var 1) (da_cons (de_var 2) da_nil))))))
      dss_nil)
    (dss_cons (ds_if (dt_cmp opd_lt (db_var 4) (de_int).db)
      (dss_cons (ds_let 5 hN (de_call HF_law_pick hr (da_cons (de_var 0) (da_cons (de_lst (da_cons de_str (da_cons de_str (da_cons de_str da_nil)))) da_nil))).dz)
      (dss_one (ds_ret (de_tup (da_cons de_str (da_cons (de_var 5) (da_cons (de_call HF_law_body hr (da_cons (de_var 0) (da_cons (de_var 1) (da_cons (de_var 2) (da_cons (de_op opd_sub (db_var 3) (de_int).db) da_nil))))) (da_cons (de_call HF_law_body hr (da_cons (de_var 0) (da_cons (de_var 1) (da_cons (de_op opd_add (db_var 2) (de_lst (da_cons (de_var 5) da_nil)).db) (da_cons (de_op opd_sub (db_var 3) (de_int).db) da_nil))))) da_nil))))))))
      dss_nil)
    (dss_cons (ds_if (dt_cmp (opd_eq hr.u150) (db_var 4) (de_int).db)
      (dss_cons (ds_letLcV 6 [("value", 8)] rfl hN (di_seq (de_slice (de_call HF_law_mixed hr (da_cons (de_var 0) (da_cons (de_op opd_add (de_dget hr.u150 (db_var 1) (de_str).db).db (de_lst (da_cons de_str (da_cons de_str da_nil))).db) da_nil))).db do_none (do_some (de_op opd_add (de_int).db (de_call HF_law_pick hr (da_cons (de_var 0) (da_cons (de_lst (da_cons de_int (da_cons de_int (da_cons de_int (da_cons de_int (da_cons de_int (da_cons de_int da_nil))))))) da_nil))).db))).db.dy) (blkOk_by (by kernel_rfl)) (by decide) (fun s H C cl fp => (dg_name 8 hN)) (fun s H C cl fp => dts_nil) (fun s H C cl fp => (de_tup (da_cons (de_var 8) (da_cons (de_call HF_law_body hr (da_cons (de_var 0) (da_cons (de_var 1) (da_cons (de_var 2) (da_cons (de_op opd_sub (db_var 3) (de_int).db) da_nil))))) da_nil)))))
      (dss_one (ds_ret (de_tup (da_cons de_str (da_cons (de_call HF_law_atom hr (da_cons (de_var 0) (da_cons (de_var 1) (da_cons (de_var 2) da_nil)))) (da_cons (de_callTy cd_tuple M.b_tuple boot_tuple (dab_cons (db_var 6) dab_nil)) (da_cons (de_call HF_law_body hr (da_cons (de_var 0) (da_cons (de_var 1) (da_cons (de_var 2) (da_cons (de_op opd_sub (db_var 3) (de_int).db) da_nil))))) da_nil))))))))
      dss_nil)
    (dss_cons (ds_if (dt_cmp (opd_eq hr.u150) (db_var 4) (de_int).db)
      (dss_cons (ds_letLcV 7 [("error", 9)] rfl hN (di_seq (de_slice (de_call HF_law_mixed hr (da_cons (de_var 0) (da_cons (de_lst (da_cons de_str (da_cons de_str (da_cons de_str (da_cons de_str da_nil))))) da_nil))).db do_none (do_some (de_op opd_add (de_int).db (de_call HF_law_pick hr (da_cons (de_var 0) (da_cons (de_lst (da_cons de_int (da_cons de_int (da_cons de_int (da_cons de_int da_nil))))) da_nil))).db))).db.dy) (blkOk_by (by kernel_rfl)) (by decide) (fun s H C cl fp => (dg_name 9 hN)) (fun s H C cl fp => dts_nil) (fun s H C cl fp => (de_tup (da_cons (de_var 9) (da_cons de_str (da_cons (de_call HF_law_body hr (da_cons (de_var 0) (da_cons (de_var 1) (da_cons (de_op opd_add (db_var 2) (de_lst (da_cons de_str da_nil)).db) (da_cons (de_op opd_sub (db_var 3) (de_int).db) da_nil))))) da_nil))))))
      (dss_one (ds_ret (de_tup (da_cons de_str (da_cons (de_call HF_law_body hr (da_cons (de_var 0) (da_cons (de_var 1) (da_cons (de_var 2) (da_cons (de_op opd_sub (db_var 3) (de_int).db) da_nil))))) (da_cons (de_callTy cd_tuple M.b_tuple boot_tuple (dab_cons (db_var 7) dab_nil)) da_nil)))))))
      dss_nil)
    (dss_one (ds_ret (de_if (dt_cmp (opd_eq hr.u150) (de_call HF_law_draw hr (da_cons (de_var 0) (da_cons de_int da_nil))).db (de_int).db) (de_tup (da_cons de_str (da_cons (de_call HF_law_pick hr (da_cons (de_var 0) (da_cons (de_lst (da_cons de_str (da_cons de_str (da_cons de_str (da_cons de_str da_nil))))) da_nil))) (da_cons (de_call HF_law_atom hr (da_cons (de_var 0) (da_cons (de_var 1) (da_cons (de_var 2) da_nil)))) da_nil)))) (de_tup (da_cons de_str (da_cons (de_call HF_law_atom hr (da_cons (de_var 0) (da_cons (de_var 1) (da_cons (de_var 2) da_nil)))) da_nil)))))))))))
/-! ### _law_fit_body -/
abbrev s_law_fit_body : Stmt := top 20
abbrev N_law_fit_body : List Str := ["pen", "kit", "scope", "deep", "lap", "gained"]
abbrev P_law_fit_body : List Str := ["pen", "kit", "scope", "deep"]
def g_law_fit_body (F_law_body : DFn) (F_law_size : DFn) (F_law_leaf : DFn) : DS :=
    sSeq (sFor (iRg1 (xC (.int 4))) (gSet 4)
      (sSeq (sLet 5 (zV (xFn F_law_body (xsCons (xVal 0) (xsCons (xVal 1) (xsCons (xVal 2) (xsCons (xVal 3) (xsNil))))))))
      (sIf (xOp oLe (xOp oIx (xFn F_law_size (xsCons (xVal 5) (xsNil))) (xC (.int 0))) (xC (.int 40)))
        (sRet (xVal 5))
        (sNil))))
    (sRet (xFn F_law_leaf (xsCons (xVal 0) (xsCons (xVal 1) (xsCons (xVal 2) (xsNil))))))
theorem sc_law_fit_body : FnScope N_law_fit_body P_law_fit_body (defScope s_law_fit_body) := ⟨rfl, rfl, rfl, by decide +kernel, rfl, by decide +kernel, by decide +kernel⟩
theorem b_law_fit_body {P : Program} {w : World} {K : PySem.W.Frag} {mg : Str → Option Value} {base : Heap} {cn : Nat → Addr} {k : Nat} (M : Mg mg)
    {F_law_body : DFn} (HF_law_body : DFun P w K mg base cn k "_law_body" (defArgs s_law_body) (defBody s_law_body) (defScope s_law_body) P_law_body F_law_body)
    {F_law_size : DFn} (HF_law_size : DFun P w K mg base cn k "_law_size" (defArgs s_law_size) (defBody s_law_size) (defScope s_law_size) P_law_size F_law_size)
    {F_law_leaf : DFn} (HF_law_leaf : DFun P w K mg base cn k "_law_leaf" (defArgs s_law_leaf) (defBody s_law_leaf) (defScope s_law_leaf) P_law_leaf F_law_leaf)
    {f : Addr} (cdv : Value) (A : Around) (outer : List Env) (s : Shared) (H : Hp) (E : XK) (hr : Room k (A.deeper (envOfC "_law_fit_body" (defScope s_law_fit_body) s.heap.objs.size f cdv))) :
    DSs (cxOf CX0 P w K mg base N_law_fit_body "_law_fit_body" (defScope s_law_fit_body) f cdv A outer s H E).nox cn (defBody s_law_fit_body) (g_law_fit_body F_law_body F_law_size F_law_leaf) := by
  have hN := sc_law_fit_body.nd
  exact (dss_cons (ds_for (PassesOwn.never) rfl (di_range1 M.b_range de_int) (dg_name 4 hN)
      (dss_cons (ds_let 5 hN (de_call HF_law_body hr (da_cons (de_var 0) (da_cons (de_var 1) (da_cons (de_var 2) (da_cons (de_var 3) da_nil))))).dz)
      (dss_one (ds_if (dt_cmp opd_le (de_ix (de_call HF_law_size hr (da_cons (de_var 5) da_nil)).db (de_int).db).db (de_int).db)
        (dss_one (ds_ret (de_var 5)))
        dss_nil))))
    (dss_one (ds_ret (de_call HF_law_leaf hr (da_cons (de_var 0) (da_cons (de_var 1) (da_cons (de_var 2) da_nil)))))))
/-! ### _law_walk -/
abbrev s_law_walk : Stmt := top 21
abbrev N_law_walk : List Str := ["expr", "place", "link", "known", "rows", "following", "number", "one", "more"]
abbrev P_law_walk : List Str := ["expr", "place", "link", "known", "rows"]
def g_law_walk (F_law_inner : DFn) (F_law_walk : DFn) : DS :=
    sSeq (sMod 4 (xTup (xsCons (xVal 0) (xsCons (xVal 2) (xsCons (xVal 3) (xsNil))))) kApp)
    (sSeq (sLet 5 (zV (xOp oAdd (xVar 1) (xC (.int 1)))))
    (sSeq (sFor (iEnu (xFn F_law_inner (xsCons (xVal 0) (xsNil)))) (gTupD (gsCons (gSet 6) (gsCons (gSet 7) (gsNil))))
      (sSeq (sLet 8 (zV (xTup (xsNil))))
      (sSeq (sIf (xAnd (xOp oEq (xOp oIx (xVar 0) (xC (.int 0))) (xC (.str "let"))) (xOp oEq (xVar 6) (xC (.int 1))))
        (sLet 8 (zV (xTup (xsCons (xOp oIx (xVar 0) (xC (.int 1))) (xsNil)))))
        (sNil))
      (sSeq (sIf (xAnd (xOp oEq (xOp oIx (xVar 0) (xC (.int 0))) (xC (.str "try"))) (xOp oGt (xVar 6) (xC (.int 0))))
        (sLet 8 (zV (xTup (xsCons (xOp oIx (xOp oIx (xOp oIx (xVar 0) (xC (.int 2))) (xOp oSub (xVar 6) (xC (.int 1)))) (xC (.int 1))) (xsNil)))))
        (sNil))
      (sLet 5 (zV (xFn F_law_walk (xsCons (xVal 7) (xsCons (xVal 5) (xsCons (xTup (xsCons (xVal 1) (xsCons (xVal 6) (xsNil)))) (xsCons (xOp oAdd (xVar 3) (xVar 8)) (xsCons (xVal 4) (xsNil)))))))))))))
    (sRet (xVal 5))))
theorem sc_law_walk : FnScope N_law_walk P_law_walk (defScope s_law_walk) := ⟨rfl, rfl, rfl, by decide +kernel, rfl, by decide +kernel, by decide +kernel⟩
theorem b_law_walk {P : Program} {w : World} {K : PySem.W.Frag} {mg : Str → Option Value} {base : Heap} {cn : Nat → Addr} {k : Nat} (M : Mg mg)
    {F_law_inner : DFn} (HF_law_inner : DFun P w K mg base cn k "_law_inner" (defArgs s_law_inner) (defBody s_law_inner) (defScope s_law_inner) P_law_inner F_law_inner)
    {F_law_walk : DFn} (HF_law_walk : DFun P w K mg base cn k "_law_walk" (defArgs s_law_walk) (defBody s_law_walk) (defScope s_law_walk) P_law_walk F_law_walk)
    {f : Addr} (cdv : Value) (A : Around) (outer : List Env) (s : Shared) (H : Hp) (E : XK) (hr : Room k (A.deeper (envOfC "_law_walk" (defScope s_law_walk) s.heap.objs.size f cdv))) :
    DSs (cxOf CX0 P w K mg base N_law_walk "_law_walk" (defScope s_law_walk) f cdv A outer s H E).nox cn (defBody s_law_walk) (g_law_walk F_law_inner F_law_walk) := by
  have hN := sc_law_walk.nd
  exact (dss_cons (ds_append 4 (de_tup (da_cons (de_var 0) (da_cons (de_var 2) (da_cons (de_var 3) da_nil)))))
    (dss_cons (ds_let 5 hN (de_op opd_add (db_var 1) (de_int).db).dz)
    (dss_cons (ds_for (PassesOwn.never) rfl (di_enum M.b_enumerate (de_call HF_law_inner hr (da_cons (de_var 0) da_nil)).dy) (dg_tup rfl (dgs_cons (dg_name 6 hN) (dgs_cons (dg_name 7 hN) dgs_nil)))
      (dss_cons (ds_let 8 hN (de_tup da_nil).dz)
      (dss_cons (ds_if (dw_and (dt_cmp (opd_eq hr.u150) (de_ix (db_var 0) (de_int).db).db (de_str).db) (dw_and1 (dt_cmp (opd_eq hr.u150) (db_var 6) (de_int).db))).dt
        (dss_one (ds_let 8 hN (de_tup (da_cons (de_ix (db_var 0) (de_int).db) da_nil)).dz))
        dss_nil)
      (dss_cons (ds_if (dw_and (dt_cmp (opd_eq hr.u150) (de_ix (db_var 0) (de_int).db).db (de_str).db) (dw_and1 (dt_cmp opd_gt (db_var 6) (de_int).db))).dt
        (dss_one (ds_let 8 hN (de_tup (da_cons (de_ix (de_ix (de_ix (db_var 0) (de_int).db).db (de_op opd_sub (db_var 6) (de_int).db).db).db (de_int).db) da_nil)).dz))
        dss_nil)
      (dss_one (ds_let 5 hN (de_call HF_law_walk hr (da_cons (de_var 7) (da_cons (de_var 5) (da_cons (de_tup (da_cons (de_var 1) (da_cons (de_var 6) da_nil))) (da_cons (de_op opd_add (db_var 3) (db_var 8)) (da_cons (de_var 4) da_nil)))))).dz))))))
    (dss_one (ds_ret (de_var 5))))))
/-! ### law -/
abbrev s_law : Stmt := top 22
abbrev N_law : List Str := ["script", "pen", "kit", "lap", "params", "expr", "rows", "values", "calls", "one", "link", "known", "atoms", "both", "many", "atom", "row"]
abbrev P_law : List Str := ["script"]
def g_law (F_law_pen : DFn) (F_law_mixed : DFn) (F_law_draw : DFn) (F_law_fit_body : DFn) (F_law_walk : DFn) (F_parts : DFn) (F_links : DFn) (F_scopes : DFn) (F_names_in : DFn) (F_calls_in : DFn) : DS :=
    sSeq (sLet 1 (zV (xFn F_law_pen (xsCons (xVal 0) (xsNil)))))
    (sSeq (sLet 2 (zV (xDic (xpCons (xC (.str "values")) (xLst (xsCons (xC (.str "a")) (xsCons (xC (.str "b")) (xsCons (xC (.str "c")) (xsNil))))) (xpCons (xC (.str "slots")) (xLst (xsCons (xC (.str "m")) (xsCons (xC (.str "n")) (xsNil)))) (xpCons (xC (.str "calls")) (xLst (xsCons (xTup (xsCons (xC (.str "f")) (xsCons (xC (.int 0)) (xsNil)))) (xsCons (xTup (xsCons (xC (.str "g")) (xsCons (xC (.int 2)) (xsNil)))) (xsCons (xTup (xsCons (xC (.str "h")) (xsCons (xC (.int 1)) (xsNil)))) (xsNil))))) (xpNil)))))))
    (sSeq (sFor (iRg1 (xC (.int 8))) (gSet 3)
      (sSeq (sLet 4 (zV (xSl (xFn F_law_mixed (xsCons (xVal 1) (xsCons (xLst (xsCons (xC (.str "x")) (xsCons (xC (.str "y")) (xsCons (xC (.str "p")) (xsCons (xC (.str "z")) (xsNil)))))) (xsNil)))) (xoNone) (xoSome (xFn F_law_draw (xsCons (xVal 1) (xsCons (xC (.int 4)) (xsNil))))))))
      (sSeq (sPar 5 6 (zV (xFn F_law_fit_body (xsCons (xVal 1) (xsCons (xVal 2) (xsCons (xVal 4) (xsCons (xC (.int 4)) (xsNil))))))) (zV (xNew (zL (xsNil)))))
      (sSeq (sIf (xOr (xOp oNe (xFn F_law_walk (xsCons (xVal 5) (xsCons (xC (.int 0)) (xsCons (xC .non) (xsCons (xCall cTuple (xsCons (xVar 4) (xsNil))) (xsCons (xVal 6) (xsNil))))))) (xCall cLen (xsCons (xVar 6) (xsNil)))) (xOp oNe (xFn F_parts (xsCons (xVal 5) (xsNil))) (xCall cTuple (xsCons (xOfZ (zL (xsLc (iSeq (xVar 6)) (gSet 16) (xC (.bl true)) (xOp oIx (xVar 16) (xC (.int 0))) [16]))) (xsNil)))))
        (sRet (xC (.bl false)))
        (sNil))
      (sSeq (sIf (xOr (xOp oNe (xFnK [0] F_links xsNil (xsCons (xVal 5) (xsNil))) (xCall cTuple (xsCons (xOfZ (zL (xsLc (iSeq (xVar 6)) (gSet 16) (xC (.bl true)) (xOp oIx (xVar 16) (xC (.int 1))) [16]))) (xsNil)))) (xOr (xOp oNe (xFnK [1, 0] F_scopes xsNil (xsCons (xVal 5) (xsCons (xVal 4) (xsNil)))) (xCall cTuple (xsCons (xOfZ (zL (xsLc (iSeq (xVar 6)) (gSet 16) (xC (.bl true)) (xOp oIx (xVar 16) (xC (.int 2))) [16]))) (xsNil)))) (xOp oNe (xOp oIx (xFn F_scopes (xsCons (xTup (xsNil)) (xsCons (xVal 5) (xsNil)))) (xC (.int 0))) (xTup (xsNil)))))
        (sRet (xC (.bl false)))
        (sNil))
      (sSeq (sPar 7 8 (zL (xsNil)) (zV (xLst (xsNil))))
      (sSeq (sFor (iSeq (xVal 6)) (gTupD (gsCons (gSet 9) (gsCons (gSet 10) (gsCons (gSet 11) (gsNil)))))
        (sSeq (sIf (xOp oEq (xOp oIx (xVar 9) (xC (.int 0))) (xC (.str "value")))
          (sMod 7 (xOp oIx (xVar 9) (xC (.int 1))) kApp)
          (sNil))
        (sSeq (sIf (xOp oEq (xOp oIx (xVar 9) (xC (.int 0))) (xC (.str "hear")))
          (sLet 7 (zL (xsAdd (xVar 7) (xOfZ (zL (xsOfT (xOp oIx (xVar 9) (xC (.int 1)))))))))
          (sNil))
        (sSeq (sLet 12 (zV (xDGet2 (xDic (xpCons (xC (.str "put")) (xLst (xsCons (xOp oIx (xVar 9) (xNeg (xC (.int 1)))) (xsNil))) (xpCons (xC (.str "raise")) (xLst (xsCons (xOp oIx (xVar 9) (xNeg (xC (.int 1)))) (xsNil))) (xpCons (xC (.str "say")) (xLst (xsCons (xOp oIx (xVar 9) (xNeg (xC (.int 1)))) (xsNil))) (xpCons (xC (.str "pick")) (xLst (xsCons (xOp oIx (xVar 9) (xC (.int 1))) (xsNil))) (xpCons (xC (.str "call")) (xOfZ (zL (xsOfT (xOp oIx (xVar 9) (xNeg (xC (.int 1))))))) (xpNil))))))) (xOp oIx (xVar 9) (xC (.int 0))) (xLst (xsNil)))))
        (sSeq (sLet 7 (zL (xsAdd (xVar 7) (xOfZ (zL (xsLc (iSeq (xVar 12)) (gSet 15) (xOp oEq (xOp oIx (xVar 15) (xC (.int 0))) (xC (.str "value"))) (xOp oIx (xVar 15) (xC (.int 1))) [15]))))))
        (sLet 8 (zV (xOp oAdd (xVar 8) (xIf (xOp oEq (xOp oIx (xVar 9) (xC (.int 0))) (xC (.str "call"))) (xLst (xsCons (xOp oIx (xVar 9) (xC (.int 1))) (xsNil))) (xLst (xsNil)))))))))))
      (sSeq (sIf (xOr (xOp oNe (xFn F_names_in (xsCons (xVal 5) (xsNil))) (xCall cTuple (xsCons (xSortSet (xVar 7)) (xsNil)))) (xOp oNe (xFnK [0] F_calls_in xsNil (xsCons (xVal 5) (xsNil))) (xCall cTuple (xsCons (xSortSet (xVar 8)) (xsNil)))))
        (sRet (xC (.bl false)))
        (sNil))
      (sSeq (sPar 13 14 (zV (xTup (xsCons (xC (.str "let")) (xsCons (xC (.str "q")) (xsCons (xVal 5) (xsCons (xVal 5) (xsNil))))))) (zV (xCall cLen (xsCons (xVar 6) (xsNil)))))
      (sSeq (sIf (xOp oGt (xOp oAdd (xOp oMul (xC (.int 2)) (xVar 14)) (xC (.int 1))) (xC (.int 60)))
        (sCont)
        (sNil))
      (sIf (xOr (xOp oNe (xSl (xFn F_parts (xsCons (xVal 13) (xsNil))) (xoSome (xC (.int 1))) (xoSome (xOp oAdd (xVar 14) (xC (.int 1))))) (xFn F_parts (xsCons (xVal 5) (xsNil)))) (xOr (xOp oNe (xSl (xFn F_parts (xsCons (xVal 13) (xsNil))) (xoSome (xOp oAdd (xVar 14) (xC (.int 1)))) (xoNone)) (xFn F_parts (xsCons (xVal 5) (xsNil)))) (xOr (xOp oNe (xOp oIx (xFn F_links (xsCons (xVal 13) (xsNil))) (xOp oAdd (xVar 14) (xC (.int 1)))) (xTup (xsCons (xC (.int 0)) (xsCons (xC (.int 1)) (xsNil))))) (xOp oNe (xOp oIx (xFn F_scopes (xsCons (xVal 4) (xsCons (xVal 13) (xsNil)))) (xOp oAdd (xVar 14) (xC (.int 1)))) (xOp oAdd (xCall cTuple (xsCons (xVar 4) (xsNil))) (xTup (xsCons (xC (.str "q")) (xsNil))))))))
        (sRet (xC (.bl false)))
        (sNil))))))))))))
    (sRet (xC (.bl true)))))
theorem sc_law : FnScope N_law P_law (defScope s_law) := ⟨rfl, rfl, rfl, by decide +kernel, rfl, by decide +kernel, by decide +kernel⟩
theorem b_law {P : Program} {w : World} {K : PySem.W.Frag} {mg : Str → Option Value} {base : Heap} {cn : Nat → Addr} {k : Nat} (M : Mg mg)
    {F_law_pen : DFn} (HF_law_pen : DFun P w K mg base cn k "_law_pen" (defArgs s_law_pen) (defBody s_law_pen) (defScope s_law_pen) P_law_pen F_law_pen)
    {F_law_mixed : DFn} (HF_law_mixed : DFun P w K mg base cn k "_law_mixed" (defArgs s_law_mixed) (defBody s_law_mixed) (defScope s_law_mixed) P_law_mixed F_law_mixed)
    {F_law_draw : DFn} (HF_law_draw : DFun P w K mg base cn k "_law_draw" (defArgs s_law_draw) (defBody s_law_draw) (defScope s_law_draw) P_law_draw F_law_draw)
    {F_law_fit_body : DFn} (HF_law_fit_body : DFun P w K mg base cn k "_law_fit_body" (defArgs s_law_fit_body) (defBody s_law_fit_body) (defScope s_law_fit_body) P_law_fit_body F_law_fit_body)
    {F_law_walk : DFn} (HF_law_walk : DFun P w K mg base cn k "_law_walk" (defArgs s_law_walk) (defBody s_law_walk) (defScope s_law_walk) P_law_walk F_law_walk)
    {F_parts : DFn} (HF_parts : DFun P w K mg base cn k "parts" (defArgs s_parts) (defBody s_parts) (defScope s_parts) P_parts F_parts)
    {F_links : DFn} (HF_links : DFun P w K mg base cn k "links" (defArgs s_links) (defBody s_links) (defScope s_links) P_links F_links)
    {F_scopes : DFn} (HF_scopes : DFun P w K mg base cn k "scopes" (defArgs s_scopes) (defBody s_scopes) (defScope s_scopes) P_scopes F_scopes)
    {F_names_in : DFn} (HF_names_in : DFun P w K mg base cn k "names_in" (defArgs s_names_in) (defBody s_names_in) (defScope s_names_in) P_names_in F_names_in)
    {F_calls_in : DFn} (HF_calls_in : DFun P w K mg base cn k "calls_in" (defArgs s_calls_in) (defBody s_calls_in) (defScope s_calls_in) P_calls_in F_calls_in)
    {f : Addr} (cdv : Value) (A : Around) (outer : List Env) (s : Shared) (H : Hp) (E : XK) (hr : Room k (A.deeper (envOfC "law" (defScope s_law) s.heap.objs.size f cdv))) :
    DSs (cxOf CX0 P w K mg base N_law "law" (defScope s_law) f cdv A outer s H E).nox cn (defBody s_law) (g_law F_law_pen F_law_mixed F_law_draw F_law_fit_body F_law_walk F_parts F_links F_scopes F_names_in F_calls_in) := by
  have hN := sc_law.nd
  exact (dss_cons (ds_let 1 hN (de_call HF_law_pen hr (da_cons (de_var 0) da_nil)).dz)
    (dss_cons (ds_let 2 hN (de_dic (dp_cons de_str (de_lst (da_cons de_str (da_cons de_str (da_cons de_str da_nil)))) (dp_cons de_str (de_lst (da_cons de_str (da_cons de_str da_nil))) (dp_cons de_str (de_lst (da_cons (de_tup (da_cons de_str (da_cons de_int da_nil))) (da_cons (de_tup (da_cons de_str (da_cons de_int da_nil))) (da_cons (de_tup (da_cons de_str (da_cons de_int da_nil))) da_nil)))) dp_nil)))).dz)
    (dss_cons (ds_for (PassesOwn.never) rfl (di_range1 M.b_range de_int) (dg_name 3 hN)
      (dss_cons (ds_let 4 hN (de_slice (de_call HF_law_mixed hr (da_cons (de_var 1) (da_cons (de_lst (da_cons de_str (da_cons de_str (da_cons de_str (da_cons de_str da_nil))))) da_nil))).db do_none (do_some (de_call HF_law_draw hr (da_cons (de_var 1) (da_cons de_int da_nil))))).dz)
      (dss_cons (ds_par 5 6 rfl hN (de_call HF_law_fit_body hr (da_cons (de_var 1) (da_cons (de_var 2) (da_cons (de_var 4) (da_cons de_int da_nil))))).dz ((df_lst da_nil).dz).new.dz)
      (dss_cons (ds_if (dw_or (dt_cmp (opd_ne hr.u150) (de_call HF_law_walk hr (da_cons (de_var 5) (da_cons de_int (da_cons de_non (da_cons (de_callTy cd_tuple M.b_tuple boot_tuple (dab_cons (db_var 4) dab_nil)) (da_cons (de_var 6) da_nil)))))).db (de_callB cd_len M.b_len boot_len (dab_cons (db_var 6) dab_nil)).db) (dw_or1 (dt_cmp (opd_ne hr.u150) (de_call HF_parts hr (da_cons (de_var 5) da_nil)).db (de_callTy cd_tuple M.b_tuple boot_tuple (dab_cons (dz_lc [("row", 16)] rfl hN (di_seq (db_var 6).dy) (blkOk_by (by kernel_rfl)) (by decide) (fun s H C cl fp => (dg_name 16 hN)) (fun s H C cl fp => dts_nil) (fun s H C cl fp => (de_ix (db_var 16) (de_int).db))).de.db dab_nil)).db))).dt
        (dss_one (ds_ret de_bl))
        dss_nil)
      (dss_cons (ds_if (dw_or (dt_cmp (opd_ne hr.u150) (de_callK0 (kn := ["expr"]) [0] HF_links hr (dk_cons (de_var 5) dk_nil) (fun _ _ _ _ _ _ us ws h1 h2 => match us, ws, h1, h2 with | [], [_], _, _ => rfl) (fun us ws h1 h2 => match us, ws, h1, h2 with | [], [_], _, _ => rfl)).db (de_callTy cd_tuple M.b_tuple boot_tuple (dab_cons (dz_lc [("row", 16)] rfl hN (di_seq (db_var 6).dy) (blkOk_by (by kernel_rfl)) (by decide) (fun s H C cl fp => (dg_name 16 hN)) (fun s H C cl fp => dts_nil) (fun s H C cl fp => (de_ix (db_var 16) (de_int).db))).de.db dab_nil)).db) (dw_or (dt_cmp (opd_ne hr.u150) (de_callK0 (kn := ["expr", "params"]) [1, 0] HF_scopes hr (dk_cons (de_var 5) (dk_cons (de_var 4) dk_nil)) (fun _ _ _ _ _ _ us ws h1 h2 => match us, ws, h1, h2 with | [], [_, _], _, _ => rfl) (fun us ws h1 h2 => match us, ws, h1, h2 with | [], [_, _], _, _ => rfl)).db (de_callTy cd_tuple M.b_tuple boot_tuple (dab_cons (dz_lc [("row", 16)] rfl hN (di_seq (db_var 6).dy) (blkOk_by (by kernel_rfl)) (by decide) (fun s H C cl fp => (dg_name 16 hN)) (fun s H C cl fp => dts_nil) (fun s H C cl fp => (de_ix (db_var 16) (de_int).db))).de.db dab_nil)).db) (dw_or1 (dt_cmp (opd_ne hr.u150) (de_ix (de_call HF_scopes hr (da_cons (de_tup da_nil) (da_cons (de_var 5) da_nil))).db (de_int).db).db (de_tup da_nil).db)))).dt
        (dss_one (ds_ret de_bl))
        dss_nil)
      (dss_cons (ds_par 7 8 rfl hN (df_lst da_nil).dz (de_lst da_nil).dz)
      (dss_cons (ds_for (PassesOwn.never) rfl (di_seq (de_var 6).dy) (dg_tup rfl (dgs_cons (dg_name 9 hN) (dgs_cons (dg_name 10 hN) (dgs_cons (dg_name 11 hN) dgs_nil))))
        (dss_cons (ds_if (dt_cmp (opd_eq hr.u150) (de_ix (db_var 9) (de_int).db).db (de_str).db)
          (dss_one (ds_append 7 (de_ix (db_var 9) (de_int).db)))
          dss_nil)
        (dss_cons (ds_if (dt_cmp (opd_eq hr.u150) (de_ix (db_var 9) (de_int).db).db (de_str).db)
          (dss_one (ds_let 7 hN (df_add (db_var 7) ((df_listT rfl M.b_list (de_ix (db_var 9) (de_int).db).db).dz).de.db).dz))
          dss_nil)
        (dss_cons (ds_let 12 hN (de_dget2 hr.u150 (de_dic (dp_cons de_str (de_lst (da_cons (de_ix (db_var 9) (de_neg de_int).db) da_nil)) (dp_cons de_str (de_lst (da_cons (de_ix (db_var 9) (de_neg de_int).db) da_nil)) (dp_cons de_str (de_lst (da_cons (de_ix (db_var 9) (de_neg de_int).db) da_nil)) (dp_cons de_str (de_lst (da_cons (de_ix (db_var 9) (de_int).db) da_nil)) (dp_cons de_str ((df_listT rfl M.b_list (de_ix (db_var 9) (de_neg de_int).db).db).dz).de dp_nil)))))).db (de_ix (db_var 9) (de_int).db).db (de_lst da_nil) ⟨rfl, rfl, rfl, rfl⟩).dz)
        (dss_cons (ds_let 7 hN (df_add (db_var 7) (dz_lc [("atom", 15)] rfl hN (di_seq (db_var 12).dy) (blkOk_by (by kernel_rfl)) (by decide) (fun s H C cl fp => (dg_name 15 hN)) (fun s H C cl fp => (dts_one (dt_cmp (opd_eq hr.u150) (de_ix (db_var 15) (de_int).db).db (de_str).db))) (fun s H C cl fp => (de_ix (db_var 15) (de_int).db))).de.db).dz)
        (dss_one (ds_let 8 hN (de_op opd_add (db_var 8) (de_if (dt_cmp (opd_eq hr.u150) (de_ix (db_var 9) (de_int).db).db (de_str).db) (de_lst (da_cons (de_ix (db_var 9) (de_int).db) da_nil)) (de_lst da_nil)).db).dz)))))))
      (dss_cons (ds_if (dw_or (dt_cmp (opd_ne hr.u150) (de_call HF_names_in hr (da_cons (de_var 5) da_nil)).db (de_callTy cd_tuple M.b_tuple boot_tuple (dab_cons (de_sortSet rfl M.b_sorted M.b_set (db_var 7) hr).db dab_nil)).db) (dw_or1 (dt_cmp (opd_ne hr.u150) (de_callK0 (kn := ["expr"]) [0] HF_calls_in hr (dk_cons (de_var 5) dk_nil) (fun _ _ _ _ _ _ us ws h1 h2 => match us, ws, h1, h2 with | [], [_], _, _ => rfl) (fun us ws h1 h2 => match us, ws, h1, h2 with | [], [_], _, _ => rfl)).db (de_callTy cd_tuple M.b_tuple boot_tuple (dab_cons (de_sortSet rfl M.b_sorted M.b_set (db_var 8) hr).db dab_nil)).db))).dt
        (dss_one (ds_ret de_bl))
        dss_nil)
      (dss_cons (ds_par 13 14 rfl hN (de_tup (da_cons de_str (da_cons de_str (da_cons (de_var 5) (da_cons (de_var 5) da_nil))))).dz (de_callB cd_len M.b_len boot_len (dab_cons (db_var 6) dab_nil)).dz)
      (dss_cons (ds_if (dt_cmp opd_gt (de_op opd_add (de_op opd_mul (de_int).db (db_var 14)).db (de_int).db).db (de_int).db)
        (dss_one ds_continue)
        dss_nil)
      (dss_one (ds_if (dw_or (dt_cmp (opd_ne hr.u150) (de_slice (de_call HF_parts hr (da_cons (de_var 13) da_nil)).db (do_some de_int) (do_some (de_op opd_add (db_var 14) (de_int).db))).db (de_call HF_parts hr (da_cons (de_var 5) da_nil)).db) (dw_or (dt_cmp (opd_ne hr.u150) (de_slice (de_call HF_parts hr (da_cons (de_var 13) da_nil)).db (do_some (de_op opd_add (db_var 14) (de_int).db)) do_none).db (de_call HF_parts hr (da_cons (de_var 5) da_nil)).db) (dw_or (dt_cmp (opd_ne hr.u150) (de_ix (de_call HF_links hr (da_cons (de_var 13) da_nil)).db (de_op opd_add (db_var 14) (de_int).db).db).db (de_tup (da_cons de_int (da_cons de_int da_nil))).db) (dw_or1 (dt_cmp (opd_ne hr.u150) (de_ix (de_call HF_scopes hr (da_cons (de_var 4) (da_cons (de_var 13) da_nil))).db (de_op opd_add (db_var 14) (de_int).db).db).db (de_op opd_add (de_callTy cd_tuple M.b_tuple boot_tuple (dab_cons (db_var 4) dab_nil)).db (de_tup (da_cons de_str da_nil)).db).db))))).dt
        (dss_one (ds_ret de_bl))
        dss_nil))))))))))))
    (dss_one (ds_ret de_bl)))))
end K02

set_option Elab.async false
set_option linter.all false
set_option maxRecDepth 100000
set_option maxHeartbeats 4000000
set_option autoImplicit false
namespace K02
open PySem PySem.Spec PyProof.Rows L2 DL
def F_inner : DFn := fnD (N_inner.length - P_inner.length) (g_inner)
def F_parts : Nat → DFn
  | 0 => fun _ _ => .stuck
  | n + 1 => fnD (N_parts.length - P_parts.length) (g_parts F_inner (F_parts n))
def F_places_within : DFn := fnD (N_places_within.length - P_places_within.length) (g_places_within F_inner (F_parts 12))
def F_links : DFn := fnD (N_links.length - P_links.length) (g_links (F_parts 12) F_places_within)
def F_bound : DFn := fnD (N_bound.length - P_bound.length) (g_bound)
def F_scopes : DFn := fnD (N_scopes.length - P_scopes.length) (g_scopes (F_parts 12) F_links F_bound)
def F_atoms_of : DFn := fnD (N_atoms_of.length - P_atoms_of.length) (g_atoms_of)
def F_names_in : DFn := fnD (N_names_in.length - P_names_in.length) (g_names_in (F_parts 12) F_atoms_of)
def F_calls_in : DFn := fnD (N_calls_in.length - P_calls_in.length) (g_calls_in (F_parts 12))
def F_law_pen : DFn := fnD (N_law_pen.length - P_law_pen.length) (g_law_pen)
def F_law_draw : DFn := fnD (N_law_draw.length - P_law_draw.length) (g_law_draw)
def F_law_pick : DFn := fnD (N_law_pick.length - P_law_pick.length) (g_law_pick F_law_draw)
def F_law_mixed : DFn := fnD (N_law_mixed.length - P_law_mixed.length) (g_law_mixed F_law_draw)
def F_law_inner : DFn := fnD (N_law_inner.length - P_law_inner.length) (g_law_inner)
def F_law_size : Nat → DFn
  | 0 => fun _ _ => .stuck
  | n + 1 => fnD (N_law_size.length - P_law_size.length) (g_law_size F_law_inner (F_law_size n))
def F_law_atom : DFn := fnD (N_law_atom.length - P_law_atom.length) (g_law_atom F_law_draw F_law_pick)
def F_law_leaf : DFn := fnD (N_law_leaf.length - P_law_leaf.length) (g_law_leaf F_law_draw F_law_atom F_law_pick F_law_mixed)
def F_law_body : Nat → DFn
  | 0 => fun _ _ => .stuck
  | n + 1 => fnD (N_law_body.length - P_law_body.length) (g_law_body F_law_draw F_law_leaf F_law_pick (F_law_body n) F_law_mixed F_law_atom)
def F_law_fit_body : DFn := fnD (N_law_fit_body.length - P_law_fit_body.length) (g_law_fit_body (F_law_body 12) (F_law_size 12) F_law_leaf)
def F_law_walk : Nat → DFn
  | 0 => fun _ _ => .stuck
  | n + 1 => fnD (N_law_walk.length - P_law_walk.length) (g_law_walk F_law_inner (F_law_walk n))
def F_law : DFn := fnD (N_law.length - P_law.length) (g_law F_law_pen F_law_mixed F_law_draw F_law_fit_body (F_law_walk 12) (F_parts 12) F_links F_scopes F_names_in F_calls_in)
structure Defs (K : PySem.W.Frag) (mg : Str → Option Value) : Prop where
  d_inner : ∃ f fd, mg "inner" = some (.ref f) ∧ FunD K "inner" "inner" (defArgs s_inner) (defBody s_inner) (defScope s_inner) [] [] f fd
  d_parts : ∃ f fd, mg "parts" = some (.ref f) ∧ FunD K "parts" "parts" (defArgs s_parts) (defBody s_parts) (defScope s_parts) [] [] f fd
  d_places_within : ∃ f fd, mg "places_within" = some (.ref f) ∧ FunD K "places_within" "places_within" (defArgs s_places_within) (defBody s_places_within) (defScope s_places_within) [] [] f fd
  d_links : ∃ f fd, mg "links" = some (.ref f) ∧ FunD K "links" "links" (defArgs s_links) (defBody s_links) (defScope s_links) [] [] f fd
  d_bound : ∃ f fd, mg "bound" = some (.ref f) ∧ FunD K "bound" "bound" (defArgs s_bound) (defBody s_bound) (defScope s_bound) [] [] f fd
  d_scopes : ∃ f fd, mg "scopes" = some (.ref f) ∧ FunD K "scopes" "scopes" (defArgs s_scopes) (defBody s_scopes) (defScope s_scopes) [] [] f fd
  d_atoms_of : ∃ f fd, mg "atoms_of" = some (.ref f) ∧ FunD K "atoms_of" "atoms_of" (defArgs s_atoms_of) (defBody s_atoms_of) (defScope s_atoms_of) [] [] f fd
  d_names_in : ∃ f fd, mg "names_in" = some (.ref f) ∧ FunD K "names_in" "names_in" (defArgs s_names_in) (defBody s_names_in) (defScope s_names_in) [] [] f fd
  d_calls_in : ∃ f fd, mg "calls_in" = some (.ref f) ∧ FunD K "calls_in" "calls_in" (defArgs s_calls_in) (defBody s_calls_in) (defScope s_calls_in) [] [] f fd
  d_law_pen : ∃ f fd, mg "_law_pen" = some (.ref f) ∧ FunD K "_law_pen" "_law_pen" (defArgs s_law_pen) (defBody s_law_pen) (defScope s_law_pen) [] [] f fd
  d_law_draw : ∃ f fd, mg "_law_draw" = some (.ref f) ∧ FunD K "_law_draw" "_law_draw" (defArgs s_law_draw) (defBody s_law_draw) (defScope s_law_draw) [] [] f fd
  d_law_pick : ∃ f fd, mg "_law_pick" = some (.ref f) ∧ FunD K "_law_pick" "_law_pick" (defArgs s_law_pick) (defBody s_law_pick) (defScope s_law_pick) [] [] f fd
  d_law_mixed : ∃ f fd, mg "_law_mixed" = some (.ref f) ∧ FunD K "_law_mixed" "_law_mixed" (defArgs s_law_mixed) (defBody s_law_mixed) (defScope s_law_mixed) [] [] f fd
  d_law_inner : ∃ f fd, mg "_law_inner" = some (.ref f) ∧ FunD K "_law_inner" "_law_inner" (defArgs s_law_inner) (defBody s_law_inner) (defScope s_law_inner) [] [] f fd
  d_law_size : ∃ f fd, mg "_law_size" = some (.ref f) ∧ FunD K "_law_size" "_law_size" (defArgs s_law_size) (defBody s_law_size) (defScope s_law_size) [] [] f fd
  d_law_atom : ∃ f fd, mg "_law_atom" = some (.ref f) ∧ FunD K "_law_atom" "_law_atom" (defArgs s_law_atom) (defBody s_law_atom) (defScope s_law_atom) [] [] f fd
  d_law_leaf : ∃ f fd, mg "_law_leaf" = some (.ref f) ∧ FunD K "_law_leaf" "_law_leaf" (defArgs s_law_leaf) (defBody s_law_leaf) (defScope s_law_leaf) [] [] f fd
  d_law_body : ∃ f fd, mg "_law_body" = some (.ref f) ∧ FunD K "_law_body" "_law_body" (defArgs s_law_body) (defBody s_law_body) (defScope s_law_body) [] [] f fd
  d_law_fit_body : ∃ f fd, mg "_law_fit_body" = some (.ref f) ∧ FunD K "_law_fit_body" "_law_fit_body" (defArgs s_law_fit_body) (defBody s_law_fit_body) (defScope s_law_fit_body) [] [] f fd
  d_law_walk : ∃ f fd, mg "_law_walk" = some (.ref f) ∧ FunD K "_law_walk" "_law_walk" (defArgs s_law_walk) (defBody s_law_walk) (defScope s_law_walk) [] [] f fd
  d_law : ∃ f fd, mg "law" = some (.ref f) ∧ FunD K "law" "law" (defArgs s_law) (defBody s_law) (defScope s_law) [] [] f fd
section
variable {P : Program} {w : World} {K : PySem.W.Frag} {mg : Str → Option Value} {base : Heap} {cn : Nat → Addr}
theorem D_inner (M : Mg mg) (T : Defs K mg) : DFun P w K mg base cn (0 + 1) "inner" (defArgs s_inner) (defBody s_inner) (defScope s_inner) P_inner F_inner := by
  obtain ⟨f, fd, hm, F⟩ := T.d_inner
  exact ⟨f, fd, fn_ok (k := 0) F sc_inner (fun cdv A outer s H E hr => b_inner M cdv A outer s H E hr), hm, F, F.bindsN fun _ _ _ _ _ _ us hl => match us, hl with | [_], _ => rfl⟩
theorem D_parts (M : Mg mg) (T : Defs K mg) : ∀ n, DFun P w K mg base cn (1 + n) "parts" (defArgs s_parts) (defBody s_parts) (defScope s_parts) P_parts (F_parts n)
  | 0 => by
    obtain ⟨f, fd, hm, F⟩ := T.d_parts
    exact ⟨f, fd, fn_stuck, hm, F, F.bindsN fun _ _ _ _ _ _ us hl => match us, hl with | [_], _ => rfl⟩
  | n + 1 => by
    obtain ⟨f, fd, hm, F⟩ := T.d_parts
    have ih := D_parts M T n
    exact ⟨f, fd, fn_ok (k := 1 + n) F sc_parts (fun cdv A outer s H E hr => b_parts M ((D_inner M T).mono (by omega)) ih cdv A outer s H E hr), hm, F, F.bindsN fun _ _ _ _ _ _ us hl => match us, hl with | [_], _ => rfl⟩
theorem D_places_within (M : Mg mg) (T : Defs K mg) : DFun P w K mg base cn (13 + 1) "places_within" (defArgs s_places_within) (defBody s_places_within) (defScope s_places_within) P_places_within F_places_within := by
  obtain ⟨f, fd, hm, F⟩ := T.d_places_within
  exact ⟨f, fd, fn_ok (k := 13) F sc_places_within (fun cdv A outer s H E hr => b_places_within M ((D_inner M T).mono (by omega)) ((D_parts M T 12).mono (by omega)) cdv A outer s H E hr), hm, F, F.bindsN fun _ _ _ _ _ _ us hl => match us, hl with | [_, _], _ => rfl⟩
theorem D_links (M : Mg mg) (T : Defs K mg) : DFun P w K mg base cn (14 + 1) "links" (defArgs s_links) (defBody s_links) (defScope s_links) P_links F_links := by
  obtain ⟨f, fd, hm, F⟩ := T.d_links
  exact ⟨f, fd, fn_ok (k := 14) F sc_links (fun cdv A outer s H E hr => b_links M ((D_parts M T 12).mono (by omega)) ((D_places_within M T).mono (by omega)) cdv A outer s H E hr), hm, F, F.bindsN fun _ _ _ _ _ _ us hl => match us, hl with | [_], _ => rfl⟩
theorem D_bound (M : Mg mg) (T : Defs K mg) : DFun P w K mg base cn (0 + 1) "bound" (defArgs s_bound) (defBody s_bound) (defScope s_bound) P_bound F_bound := by
  obtain ⟨f, fd, hm, F⟩ := T.d_bound
  exact ⟨f, fd, fn_ok (k := 0) F sc_bound (fun cdv A outer s H E hr => b_bound M cdv A outer s H E hr), hm, F, F.bindsN fun _ _ _ _ _ _ us hl => match us, hl with | [_, _], _ => rfl⟩
theorem D_scopes (M : Mg mg) (T : Defs K mg) : DFun P w K mg base cn (15 + 1) "scopes" (defArgs s_scopes) (defBody s_scopes) (defScope s_scopes) P_scopes F_scopes := by
  obtain ⟨f, fd, hm, F⟩ := T.d_scopes
  exact ⟨f, fd, fn_ok (k := 15) F sc_scopes (fun cdv A outer s H E hr => b_scopes M ((D_parts M T 12).mono (by omega)) ((D_links M T).mono (by omega)) ((D_bound M T).mono (by omega)) cdv A outer s H E hr), hm, F, F.bindsN fun _ _ _ _ _ _ us hl => match us, hl with | [_, _], _ => rfl⟩
theorem D_atoms_of (M : Mg mg) (T : Defs K mg) : DFun P w K mg base cn (0 + 1) "atoms_of" (defArgs s_atoms_of) (defBody s_atoms_of) (defScope s_atoms_of) P_atoms_of F_atoms_of := by
  obtain ⟨f, fd, hm, F⟩ := T.d_atoms_of
  exact ⟨f, fd, fn_ok (k := 0) F sc_atoms_of (fun cdv A outer s H E hr => b_atoms_of M cdv A outer s H E hr), hm, F, F.bindsN fun _ _ _ _ _ _ us hl => match us, hl with | [_], _ => rfl⟩
theorem D_names_in (M : Mg mg) (T : Defs K mg) : DFun P w K mg base cn (13 + 1) "names_in" (defArgs s_names_in) (defBody s_names_in) (defScope s_names_in) P_names_in F_names_in := by
  obtain ⟨f, fd, hm, F⟩ := T.d_names_in
  exact ⟨f, fd, fn_ok (k := 13) F sc_names_in (fun cdv A outer s H E hr => b_names_in M ((D_parts M T 12).mono (by omega)) ((D_atoms_of M T).mono (by omega)) cdv A outer s H E hr), hm, F, F.bindsN fun _ _ _ _ _ _ us hl => match us, hl with | [_], _ => rfl⟩
theorem D_calls_in (M : Mg mg) (T : Defs K mg) : DFun P w K mg base cn (13 + 1) "calls_in" (defArgs s_calls_in) (defBody s_calls_in) (defScope s_calls_in) P_calls_in F_calls_in := by
  obtain ⟨f, fd, hm, F⟩ := T.d_calls_in
  exact ⟨f, fd, fn_ok (k := 13) F sc_calls_in (fun cdv A outer s H E hr => b_calls_in M ((D_parts M T 12).mono (by omega)) cdv A outer s H E hr), hm, F, F.bindsN fun _ _ _ _ _ _ us hl => match us, hl with | [_], _ => rfl⟩
theorem D_law_pen (M : Mg mg) (T : Defs K mg) : DFun P w K mg base cn (0 + 1) "_law_pen" (defArgs s_law_pen) (defBody s_law_pen) (defScope s_law_pen) P_law_pen F_law_pen := by
  obtain ⟨f, fd, hm, F⟩ := T.d_law_pen
  exact ⟨f, fd, fn_ok (k := 0) F sc_law_pen (fun cdv A outer s H E hr => b_law_pen M cdv A outer s H E hr), hm, F, F.bindsN fun _ _ _ _ _ _ us hl => match us, hl with | [_], _ => rfl⟩
theorem D_law_draw (M : Mg mg) (T : Defs K mg) : DFun P w K mg base cn (0 + 1) "_law_draw" (defArgs s_law_draw) (defBody s_law_draw) (defScope s_law_draw) P_law_draw F_law_draw := by
  obtain ⟨f, fd, hm, F⟩ := T.d_law_draw
  exact ⟨f, fd, fn_ok (k := 0) F sc_law_draw (fun cdv A outer s H E hr => b_law_draw M cdv A outer s H E hr), hm, F, F.bindsN fun _ _ _ _ _ _ us hl => match us, hl with | [_, _], _ => rfl⟩
theorem D_law_pick (M : Mg mg) (T : Defs K mg) : DFun P w K mg base cn (1 + 1) "_law_pick" (defArgs s_law_pick) (defBody s_law_pick) (defScope s_law_pick) P_law_pick F_law_pick := by
  obtain ⟨f, fd, hm, F⟩ := T.d_law_pick
  exact ⟨f, fd, fn_ok (k := 1) F sc_law_pick (fun cdv A outer s H E hr => b_law_pick M ((D_law_draw M T).mono (by omega)) cdv A outer s H E hr), hm, F, F.bindsN fun _ _ _ _ _ _ us hl => match us, hl with | [_, _], _ => rfl⟩
theorem D_law_mixed (M : Mg mg) (T : Defs K mg) : DFun P w K mg base cn (1 + 1) "_law_mixed" (defArgs s_law_mixed) (defBody s_law_mixed) (defScope s_law_mixed) P_law_mixed F_law_mixed := by
  obtain ⟨f, fd, hm, F⟩ := T.d_law_mixed
  exact ⟨f, fd, fn_ok (k := 1) F sc_law_mixed (fun cdv A outer s H E hr => b_law_mixed M ((D_law_draw M T).mono (by omega)) cdv A outer s H E hr), hm, F, F.bindsN fun _ _ _ _ _ _ us hl => match us, hl with | [_, _], _ => rfl⟩
theorem D_law_inner (M : Mg mg) (T : Defs K mg) : DFun P w K mg base cn (0 + 1) "_law_inner" (defArgs s_law_inner) (defBody s_law_inner) (defScope s_law_inner) P_law_inner F_law_inner := by
  obtain ⟨f, fd, hm, F⟩ := T.d_law_inner
  exact ⟨f, fd, fn_ok (k := 0) F sc_law_inner (fun cdv A outer s H E hr => b_law_inner M cdv A outer s H E hr), hm, F, F.bindsN fun _ _ _ _ _ _ us hl => match us, hl with | [_], _ => rfl⟩
theorem D_law_size (M : Mg mg) (T : Defs K mg) : ∀ n, DFun P w K mg base cn (1 + n) "_law_size" (defArgs s_law_size) (defBody s_law_size) (defScope s_law_size) P_law_size (F_law_size n)
  | 0 => by
    obtain ⟨f, fd, hm, F⟩ := T.d_law_size
    exact ⟨f, fd, fn_stuck, hm, F, F.bindsN fun _ _ _ _ _ _ us hl => match us, hl with | [_], _ => rfl⟩
  | n + 1 => by
    obtain ⟨f, fd, hm, F⟩ := T.d_law_size
    have ih := D_law_size M T n
    exact ⟨f, fd, fn_ok (k := 1 + n) F sc_law_size (fun cdv A outer s H E hr => b_law_size M ((D_law_inner M T).mono (by omega)) ih cdv A outer s H E hr), hm, F, F.bindsN fun _ _ _ _ _ _ us hl => match us, hl with | [_], _ => rfl⟩
theorem D_law_atom (M : Mg mg) (T : Defs K mg) : DFun P w K mg base cn (2 + 1) "_law_atom" (defArgs s_law_atom) (defBody s_law_atom) (defScope s_law_atom) P_law_atom F_law_atom := by
  obtain ⟨f, fd, hm, F⟩ := T.d_law_atom
  exact ⟨f, fd, fn_ok (k := 2) F sc_law_atom (fun cdv A outer s H E hr => b_law_atom M ((D_law_draw M T).mono (by omega)) ((D_law_pick M T).mono (by omega)) cdv A outer s H E hr), hm, F, F.bindsN fun _ _ _ _ _ _ us hl => match us, hl with | [_, _, _], _ => rfl⟩
theorem D_law_leaf (M : Mg mg) (T : Defs K mg) : DFun P w K mg base cn (3 + 1) "_law_leaf" (defArgs s_law_leaf) (defBody s_law_leaf) (defScope s_law_leaf) P_law_leaf F_law_leaf := by
  obtain ⟨f, fd, hm, F⟩ := T.d_law_leaf
  exact ⟨f, fd, fn_ok (k := 3) F sc_law_leaf (fun cdv A outer s H E hr => b_law_leaf M ((D_law_draw M T).mono (by omega)) ((D_law_atom M T).mono (by omega)) ((D_law_pick M T).mono (by omega)) ((D_law_mixed M T).mono (by omega)) cdv A outer s H E hr), hm, F, F.bindsN fun _ _ _ _ _ _ us hl => match us, hl with | [_, _, _], _ => rfl⟩
theorem D_law_body (M : Mg mg) (T : Defs K mg) : ∀ n, DFun P w K mg base cn (4 + n) "_law_body" (defArgs s_law_body) (defBody s_law_body) (defScope s_law_body) P_law_body (F_law_body n)
  | 0 => by
    obtain ⟨f, fd, hm, F⟩ := T.d_law_body
    exact ⟨f, fd, fn_stuck, hm, F, F.bindsN fun _ _ _ _ _ _ us hl => match us, hl with | [_, _, _, _], _ => rfl⟩
  | n + 1 => by
    obtain ⟨f, fd, hm, F⟩ := T.d_law_body
    have ih := D_law_body M T n
    exact ⟨f, fd, fn_ok (k := 4 + n) F sc_law_body (fun cdv A outer s H E hr => b_law_body M ((D_law_draw M T).mono (by omega)) ((D_law_leaf M T).mono (by omega)) ((D_law_pick M T).mono (by omega)) ih ((D_law_mixed M T).mono (by omega)) ((D_law_atom M T).mono (by omega)) cdv A outer s H E hr), hm, F, F.bindsN fun _ _ _ _ _ _ us hl => match us, hl with | [_, _, _, _], _ => rfl⟩
theorem D_law_fit_body (M : Mg mg) (T : Defs K mg) : DFun P w K mg base cn (16 + 1) "_law_fit_body" (defArgs s_law_fit_body) (defBody s_law_fit_body) (defScope s_law_fit_body) P_law_fit_body F_law_fit_body := by
  obtain ⟨f, fd, hm, F⟩ := T.d_law_fit_body
  exact ⟨f, fd, fn_ok (k := 16) F sc_law_fit_body (fun cdv A outer s H E hr => b_law_fit_body M ((D_law_body M T 12).mono (by omega)) ((D_law_size M T 12).mono (by omega)) ((D_law_leaf M T).mono (by omega)) cdv A outer s H E hr), hm, F, F.bindsN fun _ _ _ _ _ _ us hl => match us, hl with | [_, _, _, _], _ => rfl⟩
theorem D_law_walk (M : Mg mg) (T : Defs K mg) : ∀ n, DFun P w K mg base cn (1 + n) "_law_walk" (defArgs s_law_walk) (defBody s_law_walk) (defScope s_law_walk) P_law_walk (F_law_walk n)
  | 0 => by
    obtain ⟨f, fd, hm, F⟩ := T.d_law_walk
    exact ⟨f, fd, fn_stuck, hm, F, F.bindsN fun _ _ _ _ _ _ us hl => match us, hl with | [_, _, _, _, _], _ => rfl⟩
  | n + 1 => by
    obtain ⟨f, fd, hm, F⟩ := T.d_law_walk
    have ih := D_law_walk M T n
    exact ⟨f, fd, fn_ok (k := 1 + n) F sc_law_walk (fun cdv A outer s H E hr => b_law_walk M ((D_law_inner M T).mono (by omega)) ih cdv A outer s H E hr), hm, F, F.bindsN fun _ _ _ _ _ _ us hl => match us, hl with | [_, _, _, _, _], _ => rfl⟩
theorem D_law (M : Mg mg) (T : Defs K mg) : DFun P w K mg base cn (17 + 1) "law" (defArgs s_law) (defBody s_law) (defScope s_law) P_law F_law := by
  obtain ⟨f, fd, hm, F⟩ := T.d_law
  exact ⟨f, fd, fn_ok (k := 17) F sc_law (fun cdv A outer s H E hr => b_law M ((D_law_pen M T).mono (by omega)) ((D_law_mixed M T).mono (by omega)) ((D_law_draw M T).mono (by omega)) ((D_law_fit_body M T).mono (by omega)) ((D_law_walk M T 12).mono (by omega)) ((D_parts M T 12).mono (by omega)) ((D_links M T).mono (by omega)) ((D_scopes M T).mono (by omega)) ((D_names_in M T).mono (by omega)) ((D_calls_in M T).mono (by omega)) cdv A outer s H E hr), hm, F, F.bindsN fun _ _ _ _ _ _ us hl => match us, hl with | [_], _ => rfl⟩
end
def D__inner : He.DefD := ⟨("inner", none), "inner", "inner", defArgs s_inner, defBody s_inner, defScope s_inner, [], []⟩
def D__parts : He.DefD := ⟨("parts", none), "parts", "parts", defArgs s_parts, defBody s_parts, defScope s_parts, [], []⟩
def D__places_within : He.DefD := ⟨("places_within", none), "places_within", "places_within", defArgs s_places_within, defBody s_places_within, defScope s_places_within, [], []⟩
def D__links : He.DefD := ⟨("links", none), "links", "links", defArgs s_links, defBody s_links, defScope s_links, [], []⟩
def D__bound : He.DefD := ⟨("bound", none), "bound", "bound", defArgs s_bound, defBody s_bound, defScope s_bound, [], []⟩
def D__scopes : He.DefD := ⟨("scopes", none), "scopes", "scopes", defArgs s_scopes, defBody s_scopes, defScope s_scopes, [], []⟩
def D__atoms_of : He.DefD := ⟨("atoms_of", none), "atoms_of", "atoms_of", defArgs s_atoms_of, defBody s_atoms_of, defScope s_atoms_of, [], []⟩
def D__names_in : He.DefD := ⟨("names_in", none), "names_in", "names_in", defArgs s_names_in, defBody s_names_in, defScope s_names_in, [], []⟩
def D__calls_in : He.DefD := ⟨("calls_in", none), "calls_in", "calls_in", defArgs s_calls_in, defBody s_calls_in, defScope s_calls_in, [], []⟩
def D__law_pen : He.DefD := ⟨("_law_pen", none), "_law_pen", "_law_pen", defArgs s_law_pen, defBody s_law_pen, defScope s_law_pen, [], []⟩
def D__law_draw : He.DefD := ⟨("_law_draw", none), "_law_draw", "_law_draw", defArgs s_law_draw, defBody s_law_draw, defScope s_law_draw, [], []⟩
def D__law_pick : He.DefD := ⟨("_law_pick", none), "_law_pick", "_law_pick", defArgs s_law_pick, defBody s_law_pick, defScope s_law_pick, [], []⟩
def D__law_mixed : He.DefD := ⟨("_law_mixed", none), "_law_mixed", "_law_mixed", defArgs s_law_mixed, defBody s_law_mixed, defScope s_law_mixed, [], []⟩
def D__law_inner : He.DefD := ⟨("_law_inner", none), "_law_inner", "_law_inner", defArgs s_law_inner, defBody s_law_inner, defScope s_law_inner, [], []⟩
def D__law_size : He.DefD := ⟨("_law_size", none), "_law_size", "_law_size", defArgs s_law_size, defBody s_law_size, defScope s_law_size, [], []⟩
def D__law_atom : He.DefD := ⟨("_law_atom", none), "_law_atom", "_law_atom", defArgs s_law_atom, defBody s_law_atom, defScope s_law_atom, [], []⟩
def D__law_leaf : He.DefD := ⟨("_law_leaf", none), "_law_leaf", "_law_leaf", defArgs s_law_leaf, defBody s_law_leaf, defScope s_law_leaf, [], []⟩
def D__law_body : He.DefD := ⟨("_law_body", none), "_law_body", "_law_body", defArgs s_law_body, defBody s_law_body, defScope s_law_body, [], []⟩
def D__law_fit_body : He.DefD := ⟨("_law_fit_body", none), "_law_fit_body", "_law_fit_body", defArgs s_law_fit_body, defBody s_law_fit_body, defScope s_law_fit_body, [], []⟩
def D__law_walk : He.DefD := ⟨("_law_walk", none), "_law_walk", "_law_walk", defArgs s_law_walk, defBody s_law_walk, defScope s_law_walk, [], []⟩
def D__law : He.DefD := ⟨("law", none), "law", "law", defArgs s_law, defBody s_law, defScope s_law, [], []⟩
def fns : List He.DefD := [D__inner, D__parts, D__places_within, D__links, D__bound, D__scopes, D__atoms_of, D__names_in, D__calls_in, D__law_pen, D__law_draw, D__law_pick, D__law_mixed, D__law_inner, D__law_size, D__law_atom, D__law_leaf, D__law_body, D__law_fit_body, D__law_walk, D__law]
def fas : List He.Fa := [.glo "inner", .glo "parts", .glo "places_within", .glo "links", .glo "bound", .glo "scopes", .glo "atoms_of", .glo "names_in", .glo "calls_in", .glo "_law_pen", .glo "_law_draw", .glo "_law_pick", .glo "_law_mixed", .glo "_law_inner", .glo "_law_size", .glo "_law_atom", .glo "_law_leaf", .glo "_law_body", .glo "_law_fit_body", .glo "_law_walk", .glo "law", .free "tuple", .free "len", .free "enumerate", .free "sorted", .free "set", .free "int", .free "abs", .free "list", .free "range", .free "max", .free "sum", .free "min"]
abbrev R : PySem.W.OpenRow := PySem.W.OpenLaw.row PySem.Challenge.rw_swapunseen_k02_parts_and_what_is_known_t
abbrev hk : PySem.W.Hook := He.hookD 4 fas fns
def ob (s : PySem.W.SharedT) : He.AlD := He.obsDG 4 fas fns (HandSHeadRun.getT s)
theorem ob_eq (s : PySem.W.SharedT) : ob s = hk.obs s.abs := He.obsDG_eq (HandSHeadRun.getT_eq s)
theorem run (w : World) : HandSHeadRun.RunEq R (PySem.W.view R.prog [22]) hk ob 2000 ["inner", "parts", "places_within", "links", "bound", "scopes", "atoms_of", "names_in", "calls_in", "_law_pen", "_law_draw", "_law_pick", "_law_mixed", "_law_inner", "_law_size", "_law_atom", "_law_leaf", "_law_body", "_law_fit_body", "_law_walk"] w := by
  intro os
  kernel_rfl
theorem facts {P : Program} {w : World} {K : PySem.W.Frag} {h : Heap} {mg : Str → Option Value} {f : Addr} (X : K.In h) (G : h.Ns mainGlobals mg) (hfa : mg ("law" : Str) = some (.ref f)) (c : He.SaysD fas fns K) :
    ∃ fd : FuncData, (∀ (s : Shared) (v : Value), BindsTo s fd ⟨[v], []⟩ [("script", v)]) ∧ ∀ base : Heap, K.In base → base.Ns mainGlobals mg → FnOk P w K mg base CX0 18 f fd ["script"] (spD K (fun _ => 0) 1 F_law) := by
  have M : Mg mg := ⟨He.free_ok X G (c.fact 21 (f := .free "tuple") rfl), He.free_ok X G (c.fact 22 (f := .free "len") rfl), He.free_ok X G (c.fact 23 (f := .free "enumerate") rfl), He.free_ok X G (c.fact 24 (f := .free "sorted") rfl), He.free_ok X G (c.fact 25 (f := .free "set") rfl), He.free_ok X G (c.fact 26 (f := .free "int") rfl), He.free_ok X G (c.fact 27 (f := .free "abs") rfl), He.free_ok X G (c.fact 28 (f := .free "list") rfl), He.free_ok X G (c.fact 29 (f := .free "range") rfl), He.free_ok X G (c.fact 30 (f := .free "max") rfl), He.free_ok X G (c.fact 31 (f := .free "sum") rfl), He.free_ok X G (c.fact 32 (f := .free "min") rfl)⟩
  obtain ⟨fd0, F0⟩ := c.def_ 0 (d := D__inner) rfl
  obtain ⟨fd1, F1⟩ := c.def_ 1 (d := D__parts) rfl
  obtain ⟨fd2, F2⟩ := c.def_ 2 (d := D__places_within) rfl
  obtain ⟨fd3, F3⟩ := c.def_ 3 (d := D__links) rfl
  obtain ⟨fd4, F4⟩ := c.def_ 4 (d := D__bound) rfl
  obtain ⟨fd5, F5⟩ := c.def_ 5 (d := D__scopes) rfl
  obtain ⟨fd6, F6⟩ := c.def_ 6 (d := D__atoms_of) rfl
  obtain ⟨fd7, F7⟩ := c.def_ 7 (d := D__names_in) rfl
  obtain ⟨fd8, F8⟩ := c.def_ 8 (d := D__calls_in) rfl
  obtain ⟨fd9, F9⟩ := c.def_ 9 (d := D__law_pen) rfl
  obtain ⟨fd10, F10⟩ := c.def_ 10 (d := D__law_draw) rfl
  obtain ⟨fd11, F11⟩ := c.def_ 11 (d := D__law_pick) rfl
  obtain ⟨fd12, F12⟩ := c.def_ 12 (d := D__law_mixed) rfl
  obtain ⟨fd13, F13⟩ := c.def_ 13 (d := D__law_inner) rfl
  obtain ⟨fd14, F14⟩ := c.def_ 14 (d := D__law_size) rfl
  obtain ⟨fd15, F15⟩ := c.def_ 15 (d := D__law_atom) rfl
  obtain ⟨fd16, F16⟩ := c.def_ 16 (d := D__law_leaf) rfl
  obtain ⟨fd17, F17⟩ := c.def_ 17 (d := D__law_body) rfl
  obtain ⟨fd18, F18⟩ := c.def_ 18 (d := D__law_fit_body) rfl
  obtain ⟨fd19, F19⟩ := c.def_ 19 (d := D__law_walk) rfl
  obtain ⟨fd20, F20⟩ := c.def_ 20 (d := D__law) rfl
  have T : Defs K mg := ⟨⟨_, fd0, He.glo_ok X G (c.fact 0 (f := .glo "inner") rfl), F0⟩, ⟨_, fd1, He.glo_ok X G (c.fact 1 (f := .glo "parts") rfl), F1⟩, ⟨_, fd2, He.glo_ok X G (c.fact 2 (f := .glo "places_within") rfl), F2⟩, ⟨_, fd3, He.glo_ok X G (c.fact 3 (f := .glo "links") rfl), F3⟩, ⟨_, fd4, He.glo_ok X G (c.fact 4 (f := .glo "bound") rfl), F4⟩, ⟨_, fd5, He.glo_ok X G (c.fact 5 (f := .glo "scopes") rfl), F5⟩, ⟨_, fd6, He.glo_ok X G (c.fact 6 (f := .glo "atoms_of") rfl), F6⟩, ⟨_, fd7, He.glo_ok X G (c.fact 7 (f := .glo "names_in") rfl), F7⟩, ⟨_, fd8, He.glo_ok X G (c.fact 8 (f := .glo "calls_in") rfl), F8⟩, ⟨_, fd9, He.glo_ok X G (c.fact 9 (f := .glo "_law_pen") rfl), F9⟩, ⟨_, fd10, He.glo_ok X G (c.fact 10 (f := .glo "_law_draw") rfl), F10⟩, ⟨_, fd11, He.glo_ok X G (c.fact 11 (f := .glo "_law_pick") rfl), F11⟩, ⟨_, fd12, He.glo_ok X G (c.fact 12 (f := .glo "_law_mixed") rfl), F12⟩, ⟨_, fd13, He.glo_ok X G (c.fact 13 (f := .glo "_law_inner") rfl), F13⟩, ⟨_, fd14, He.glo_ok X G (c.fact 14 (f := .glo "_law_size") rfl), F14⟩, ⟨_, fd15, He.glo_ok X G (c.fact 15 (f := .glo "_law_atom") rfl), F15⟩, ⟨_, fd16, He.glo_ok X G (c.fact 16 (f := .glo "_law_leaf") rfl), F16⟩, ⟨_, fd17, He.glo_ok X G (c.fact 17 (f := .glo "_law_body") rfl), F17⟩, ⟨_, fd18, He.glo_ok X G (c.fact 18 (f := .glo "_law_fit_body") rfl), F18⟩, ⟨_, fd19, He.glo_ok X G (c.fact 19 (f := .glo "_law_walk") rfl), F19⟩, ⟨_, fd20, He.glo_ok X G (c.fact 20 (f := .glo "law") rfl), F20⟩⟩
  have e := hfa.symm.trans (He.glo_ok X G (c.fact 20 (f := .glo "law") rfl))
  cases e
  refine ⟨fd20, fun s v => FunD.bindsA (ps := ["script"]) F20 (fun _ _ _ _ _ _ us hl => match us, hl with | [_], _ => rfl) s [v] rfl, fun base _ _ => ?_⟩
  exact fn_ok (k := 17) F20 sc_law (fun cdv A outer s H E hr => b_law M ((D_law_pen M T).mono (by omega)) ((D_law_mixed M T).mono (by omega)) ((D_law_draw M T).mono (by omega)) ((D_law_fit_body M T).mono (by omega)) ((D_law_walk M T 12).mono (by omega)) ((D_parts M T 12).mono (by omega)) ((D_links M T).mono (by omega)) ((D_scopes M T).mono (by omega)) ((D_names_in M T).mono (by omega)) ((D_calls_in M T).mono (by omega)) cdv A outer s H E hr)
theorem holds_by (pure_law : ∀ ns : List Int, ns.length ≤ 63 → ∃ S', F_law [.scr ns] [] = .ok (.bl true) S') : PySem.Challenge.rw_swapunseen_k02_parts_and_what_is_known_t.Holds := by
  w_on; o_law
  refine HandSHeadRun.head_any (r := PySem.W.OpenLaw.row PySem.Challenge.rw_swapunseen_k02_parts_and_what_is_known_t) (q := PySem.W.view (PySem.W.OpenLaw.row PySem.Challenge.rw_swapunseen_k02_parts_and_what_is_known_t).prog [22]) (H := hk) (ob := ob) (M := 2000) (loose := ["inner", "parts", "places_within", "links", "bound", "scopes", "atoms_of", "names_in", "calls_in", "_law_pen", "_law_draw", "_law_pick", "_law_mixed", "_law_inner", "_law_size", "_law_atom", "_law_leaf", "_law_body", "_law_fit_body", "_law_walk"]) (d := HandSHeadRun.topDef (PySem.W.OpenLaw.row PySem.Challenge.rw_swapunseen_k02_parts_and_what_is_known_t).prog 22) (kwd := []) ob_eq
    (by kernel_rfl) (fun s => by kernel_rfl) run (by kernel_rfl) (by kernel_rfl) (by kernel_rfl) (by rfl) (by first | assumption | decide +kernel) (by decide +kernel) ⟨rfl, rfl, rfl, rfl, rfl, by decide +kernel⟩ ?hw ?hc
  case hw => w_witness2
  case hc =>
    refine L2.walk_ofE (l := PySem.Challenge.rw_swapunseen_k02_parts_and_what_is_known_t) (n := 63) (k := 18) (x := "script") (CX := L2.CX0) rfl (by decide) (by kernel_rfl) ⟨rfl, by decide, by decide⟩ ?F (fun _ _ _ _ z => z)
    intro w mg fa h Y G hmg0
    obtain ⟨K, KX, c⟩ := Y
    have hmg : mg ("law" : PySem.Str) = some (.ref fa) := by
      have e : (HandSHeadRun.topDef (PySem.W.OpenLaw.row PySem.Challenge.rw_swapunseen_k02_parts_and_what_is_known_t).prog 22).name = ("law" : PySem.Str) := by kernel_rfl
      rw [← e]
      exact hmg0
    obtain ⟨fd, hb, hF⟩ := facts (P := (PySem.Challenge.rw_swapunseen_k02_parts_and_what_is_known_t).prog) (w := w) KX G hmg c
    exact ⟨K, fd, spD K (fun _ => 0) 1 F_law, KX, hb, fun H a ns hl hO hS => law_end hO hS (pure_law ns hl), hF⟩
end K02

set_option Elab.async false
set_option linter.all false
set_option maxRecDepth 100000
set_option maxHeartbeats 4000000
set_option autoImplicit false
namespace K02
open PySem PySem.Spec PyProof.Rows L2 DL
/-! ### the expressions -/
def Atom (V : List Str) (d : D) : Prop := (∃ x, okStr x ∧ d = .tup [.str "var", .str x]) ∨ ∃ v, okStr v ∧ v ∈ V ∧ d = .tup [.str "value", .str v]
inductive Leaf (V C : List Str) : D → Prop
  | atom {d : D} : Atom V d → Leaf V C d
  | get {x : Str} : okStr x → Leaf V C (.tup [.str "get", .str x])
  | put {x : Str} {a : D} : okStr x → Atom V a → Leaf V C (.tup [.str "put", .str x, a])
  | hear {L : List Str} : (∀ v ∈ L, okStr v ∧ v ∈ V) → L.length ≤ 3 → Leaf V C (.tup [.str "hear", .tup (L.map .str)])
  | call {n : Str} {as : List D} : okStr n → n ∈ C → (∀ a ∈ as, Atom V a) → as.length ≤ 2 → Leaf V C (.tup [.str "call", .str n, .tup as])
  | say {a : D} : Atom V a → Leaf V C (.tup [.str "say", a])
  | raise {x : Str} {a : D} : okStr x → Atom V a → Leaf V C (.tup [.str "raise", .str x, a])
def Wf (V C : List Str) : Nat → D → Prop
  | 0, d => Leaf V C d
  | n + 1, d => Leaf V C d ∨ (∃ x a b, d = .tup [.str "let", .str x, a, b] ∧ okStr x ∧ Wf V C n a ∧ Wf V C n b) ∨
      (∃ a rows e, d = .tup [.str "pick", a, .tup rows, e] ∧ Atom V a ∧ rows.length ≤ 5 ∧ (∀ r ∈ rows, ∃ v x, r = .tup [.str v, x] ∧ okStr v ∧ Wf V C n x) ∧ Wf V C n e) ∨
      ∃ e rows, d = .tup [.str "try", e, .tup rows] ∧ Wf V C n e ∧ rows.length ≤ 4 ∧ ∀ r ∈ rows, ∃ v y x, r = .tup [.str v, .str y, x] ∧ okStr v ∧ okStr y ∧ Wf V C n x
def at1 : D → D
  | .tup (_ :: b :: _) => b
  | d => d
def at2 : D → D
  | .tup (_ :: _ :: c :: _) => c
  | d => d
/-- the expressions within -/
inductive Kids (V C : List Str) : Nat → D → List D → Prop
  | leaf {n : Nat} {d : D} : Leaf V C d → Kids V C n d []
  | lt {n : Nat} {x : Str} {a b : D} : okStr x → Wf V C n a → Wf V C n b → Kids V C (n + 1) (.tup [.str "let", .str x, a, b]) [a, b]
  | pick {n : Nat} {a : D} {rows : List D} {e : D} : Atom V a → rows.length ≤ 5 → (∀ r ∈ rows, ∃ v x, r = .tup [.str v, x] ∧ okStr v ∧ Wf V C n x) → Wf V C n e → Kids V C (n + 1) (.tup [.str "pick", a, .tup rows, e]) (rows.map at1 ++ [e])
  | tr {n : Nat} {e : D} {rows : List D} : Wf V C n e → rows.length ≤ 4 → (∀ r ∈ rows, ∃ v y x, r = .tup [.str v, .str y, x] ∧ okStr v ∧ okStr y ∧ Wf V C n x) → Kids V C (n + 1) (.tup [.str "try", e, .tup rows]) (e :: rows.map at2)
section
variable {V C : List Str}
theorem Wf.kids {n : Nat} {d : D} (h : Wf V C n d) : ∃ ks, Kids V C n d ks := by
  cases n with
  | zero => exact ⟨[], .leaf h⟩
  | succ n =>
    rcases h with h | ⟨x, a, b, rfl, h1, h2, h3⟩ | ⟨a, rows, e, rfl, h1, h2, h3, h4⟩ | ⟨e, rows, rfl, h1, h2, h3⟩
    · exact ⟨[], .leaf h⟩
    · exact ⟨_, .lt h1 h2 h3⟩
    · exact ⟨_, .pick h1 h2 h3 h4⟩
    · exact ⟨_, .tr h1 h2 h3⟩
theorem Atom.shape {d : D} (h : Atom V d) : ∃ (t : String) (x : Str), okStr x ∧ (t = "var" ∨ t = "value") ∧ d = .tup [.str (Str.ofString t), .str x] := by
  rcases h with ⟨x, h1, h2⟩ | ⟨x, h1, _, h2⟩
  · exact ⟨"var", x, h1, .inl rfl, h2⟩
  · exact ⟨"value", x, h1, .inr rfl, h2⟩
theorem Leaf.shape {d : D} (h : Leaf V C d) : ∃ (t : String) (l : List D), t ≠ "let" ∧ t ≠ "pick" ∧ t ≠ "try" ∧ d = .tup (.str (Str.ofString t) :: l) := by
  cases h with
  | atom h =>
    obtain ⟨t, x, _, ht, e⟩ := h.shape
    exact ⟨t, _, by rcases ht with rfl | rfl <;> decide, by rcases ht with rfl | rfl <;> decide, by rcases ht with rfl | rfl <;> decide, e⟩
  | get _ => exact ⟨"get", _, by decide, by decide, by decide, rfl⟩
  | put _ _ => exact ⟨"put", _, by decide, by decide, by decide, rfl⟩
  | hear _ _ => exact ⟨"hear", _, by decide, by decide, by decide, rfl⟩
  | call _ _ _ _ => exact ⟨"call", _, by decide, by decide, by decide, rfl⟩
  | say _ => exact ⟨"say", _, by decide, by decide, by decide, rfl⟩
  | raise _ _ => exact ⟨"raise", _, by decide, by decide, by decide, rfl⟩
theorem inner_ok {n : Nat} {d : D} {ks : List D} {S : Sto} (h : Kids V C n d ks) : F_inner [d] S = .ok (.tup ks) S := by
  cases h with
  | leaf h =>
    obtain ⟨t, l, h1, h2, h3, rfl⟩ := h.shape
    simp [F_inner, fnD_s, g_inner, h1, h2, h3]
  | lt h1 h2 h3 => simp [F_inner, fnD_s, g_inner]
  | @pick n a rows e h1 h2 h3 h4 =>
    have z := lc_mapT (fx := xOp oIx (xVar 0) (xC (.int 2))) (f := xOp oIx (xVar 1) (xC (.int 1))) (g := gSet 1) (vs := [1]) (ρ := [.val (.tup [.str "pick", a, .tup rows, e]), .non]) (S := S) (S1 := S) (L := rows) at1 (by simp) fun r hr => by
      obtain ⟨v, x, rfl, _, _⟩ := h3 r hr
      exact ⟨_, rfl, by simp [at1]⟩
    simp [F_inner, fnD_s, g_inner, z, fits_small (n := rows.length + 1) (by omega)]
  | @tr n e rows h1 h2 h3 =>
    have z := lc_mapT (fx := xOp oIx (xVar 0) (xC (.int 2))) (f := xOp oIx (xVar 1) (xC (.int 2))) (g := gSet 1) (vs := [1]) (ρ := [.val (.tup [.str "try", e, .tup rows]), .non]) (S := S) (S1 := S) (L := rows) at2 (by simp) fun r hr => by
      obtain ⟨v, y, x, rfl, _, _, _⟩ := h3 r hr
      exact ⟨_, rfl, by simp [at2]⟩
    simp [F_inner, fnD_s, g_inner, z, fits_small (n := rows.length + 1) (by omega)]

/-! ### parts -/
def kidsOf (d : D) : List D := match d with
  | .tup [.str t, b, c, e] => if t = "let" then [c, e] else if t = "pick" then (match c with
    | .tup rows => rows.map at1 ++ [e]
    | _ => []) else []
  | .tup [.str t, b, c] => if t = "try" then (match c with
    | .tup rows => b :: rows.map at2
    | _ => []) else []
  | _ => []
theorem kidsOf_leaf {d : D} (h : Leaf V C d) : kidsOf d = [] := by
  cases h with
  | atom h =>
    obtain ⟨t, x, _, ht, rfl⟩ := h.shape
    rfl
  | get _ => rfl
  | put _ _ => simp [kidsOf, ofString_iff]
  | hear _ _ => rfl
  | call _ _ _ _ => simp [kidsOf, ofString_iff]
  | say _ => rfl
  | raise _ _ => simp [kidsOf, ofString_iff]
theorem Kids.eq {n : Nat} {d : D} {ks : List D} (h : Kids V C n d ks) : ks = kidsOf d := by
  cases h with
  | leaf h => exact (kidsOf_leaf h).symm
  | lt _ _ _ => simp [kidsOf]
  | pick _ _ _ _ => simp [kidsOf, ofString_iff]
  | tr _ _ _ => simp [kidsOf]
/-- the expression and all within, as they stand -/
def pre : Nat → D → List D
  | 0, d => [d]
  | n + 1, d => d :: (kidsOf d).flatMap (pre n)
def big : Nat → Nat
  | 0 => 1
  | n + 1 => 1 + 6 * big n
theorem Kids.wf {n : Nat} {d : D} {ks : List D} (h : Kids V C (n + 1) d ks) : ∀ k ∈ ks, Wf V C n k := by
  intro k hk
  cases h with
  | leaf h => cases hk
  | lt h1 h2 h3 =>
    rcases List.mem_cons.mp hk with e | hk
    · rw [e]; exact h2
    · rw [List.mem_singleton.mp hk]; exact h3
  | pick h1 h2 h3 h4 =>
    rcases List.mem_append.mp hk with hk | hk
    · obtain ⟨r, hr, e⟩ := List.mem_map.mp hk
      obtain ⟨v, x, rfl, _, w⟩ := h3 r hr
      rw [← e]
      exact w
    · rw [List.mem_singleton.mp hk]; exact h4
  | tr h1 h2 h3 =>
    rcases List.mem_cons.mp hk with e | hk
    · rw [e]; exact h1
    · obtain ⟨r, hr, e⟩ := List.mem_map.mp hk
      obtain ⟨v, y, x, rfl, _, _, w⟩ := h3 r hr
      rw [← e]
      exact w
theorem Kids.few {n : Nat} {d : D} {ks : List D} (h : Kids V C n d ks) : ks.length ≤ 6 := by
  cases h with
  | leaf h => simp
  | lt h1 h2 h3 => simp
  | pick h1 h2 h3 h4 => simp; omega
  | tr h1 h2 h3 => simp; omega
theorem flat_len {n : Nat} {p : D → List D} : ∀ {ks : List D}, (∀ k ∈ ks, (p k).length ≤ n) → (ks.flatMap p).length ≤ ks.length * n
  | [], _ => by simp
  | k :: ks, h => by
    rw [List.flatMap_cons, List.length_append, List.length_cons, Nat.succ_mul]
    have h1 := h k List.mem_cons_self
    have h2 := flat_len (ks := ks) fun x hx => h x (List.mem_cons_of_mem _ hx)
    omega
theorem pre_len : ∀ {n : Nat} {d : D}, Wf V C n d → (pre n d).length ≤ big n
  | 0, d, _ => by simp [pre, big]
  | n + 1, d, h => by
    obtain ⟨ks, hk⟩ := h.kids
    have e := hk.eq
    subst e
    have h1 := flat_len (p := pre n) (n := big n) fun k hk2 => pre_len (hk.wf k hk2)
    have h2 := hk.few
    simp only [pre, big, List.length_cons]
    have h3 : (kidsOf d).length * big n ≤ 6 * big n := Nat.mul_le_mul_right _ h2
    omega
theorem big_le : ∀ {n : Nat}, n ≤ 6 → big n ≤ 60000
  | 0, _ => by decide
  | 1, _ => by decide
  | 2, _ => by decide
  | 3, _ => by decide
  | 4, _ => by decide
  | 5, _ => by decide
  | 6, _ => by decide
  | n + 7, h => by omega
theorem parts_loop {K : DFn} {p : D → List D} {d : D} {S : Sto} : ∀ {ks acc : List D} {t : Slot}, (∀ k ∈ ks, K [k] S = .ok (.tup (p k)) S) → acc.length + (ks.flatMap p).length ≤ 1000000 →
    ∃ t2, foldD (stepD (gSet 2) (sMod 1 (xFn K (xsCons (xVal 2) xsNil)) kExt)) ks [.val d, .own acc, t] S = .ok (.next [.val d, .own (acc ++ ks.flatMap p), t2]) S
  | [], acc, t, _, _ => ⟨t, by simp⟩
  | k :: ks, acc, t, h, hz => by
    rw [List.flatMap_cons, List.length_append] at hz
    have h1 := h k List.mem_cons_self
    obtain ⟨t2, e⟩ := parts_loop (K := K) (p := p) (d := d) (ks := ks) (acc := acc ++ p k) (t := .val k) (fun x hx => h x (List.mem_cons_of_mem _ hx)) (by rw [List.length_append]; omega)
    refine ⟨t2, ?_⟩
    rw [foldD_next (ρ1 := [.val d, .own (acc ++ p k), .val k]) (S1 := S), e, List.flatMap_cons, List.append_assoc]
    simp [h1, fits_small (n := acc.length + (p k).length) (by omega)]
theorem parts_ok : ∀ {n : Nat} {d : D} {fu : Nat} {S : Sto}, Wf V C n d → n ≤ 6 → n < fu → F_parts fu [d] S = .ok (.tup (pre n d)) S
  | n, d, 0, S, _, _, hf => by omega
  | n, d, fu + 1, S, h, hn, hf => by
    obtain ⟨ks, hk⟩ := h.kids
    have e := hk.eq
    subst e
    have hi := inner_ok (S := S) hk
    have hp := pre_len h
    have hb := big_le hn
    have fold0 : sFor (iSeq (xFn F_inner (xsCons (xVal 0) xsNil))) (gSet 2) (sMod 1 (xFn (F_parts fu) (xsCons (xVal 2) xsNil)) kExt) [.val d, .own [d], .non] S = _ := for_tup (L := kidsOf d) (S1 := S) (by simp [hi])
    cases n with
    | zero =>
      have e0 : kidsOf d = [] := kidsOf_leaf h
      rw [e0] at fold0
      simp [F_parts, fnD_s, g_parts, fold0, pre]
    | succ n =>
      obtain ⟨t2, e2⟩ := parts_loop (K := F_parts fu) (p := pre n) (d := d) (S := S) (ks := kidsOf d) (acc := [d]) (t := .non) (fun k hk2 => parts_ok (hk.wf k hk2) (by omega) (by omega)) (by simp only [pre, List.length_cons] at hp; simp only [List.length_cons, List.length_nil]; omega)
      rw [e2] at fold0
      simp [F_parts, fnD_s, g_parts, fold0, pre]
end
end K02

set_option Elab.async false
set_option linter.all false
set_option maxRecDepth 100000
set_option maxHeartbeats 4000000
set_option autoImplicit false
namespace K02
open PySem PySem.Spec PyProof.Rows L2 DL
section
variable {V C : List Str}
/-! ### the law's own reading of what is within -/
theorem linner_ok {n : Nat} {d : D} {ks : List D} {S : Sto} (h : Kids V C n d ks) : F_law_inner [d] S = .ok (.lst ks) S := by
  cases h with
  | leaf h =>
    obtain ⟨t, l, h1, h2, h3, rfl⟩ := h.shape
    simp [F_law_inner, fnD_s, g_law_inner, h1, h2, h3]
  | lt h1 h2 h3 => simp [F_law_inner, fnD_s, g_law_inner]
  | @pick n a rows e h1 h2 h3 h4 =>
    have z := lc_mapT (fx := xOp oIx (xVar 0) (xC (.int 2))) (f := xOp oIx (xVar 1) (xC (.int 1))) (g := gSet 1) (vs := [1]) (ρ := [.val (.tup [.str "pick", a, .tup rows, e]), .non]) (S := S) (S1 := S) (L := rows) at1 (by simp) fun r hr => by
      obtain ⟨v, x, rfl, _, _⟩ := h3 r hr
      exact ⟨_, rfl, by simp [at1]⟩
    simp [F_law_inner, fnD_s, g_law_inner, z, oAdd, fits_small (n := rows.length + 1) (by omega)]
  | @tr n e rows h1 h2 h3 =>
    have z := lc_mapT (fx := xOp oIx (xVar 0) (xC (.int 2))) (f := xOp oIx (xVar 1) (xC (.int 2))) (g := gSet 1) (vs := [1]) (ρ := [.val (.tup [.str "try", e, .tup rows]), .non]) (S := S) (S1 := S) (L := rows) at2 (by simp) fun r hr => by
      obtain ⟨v, y, x, rfl, _, _, _⟩ := h3 r hr
      exact ⟨_, rfl, by simp [at2]⟩
    simp [F_law_inner, fnD_s, g_law_inner, z, oAdd, fits_small (n := 1 + rows.length) (by omega)]
/-! ### places -/
/-- where each begins -/
def begins (n : Nat) : Nat → List D → List D
  | _, [] => []
  | p, k :: ks => .int (p : Nat) :: begins n (p + (pre n k).length) ks
theorem begins_len (n : Nat) : ∀ (ks : List D) (p : Nat), (begins n p ks).length = ks.length
  | [], _ => rfl
  | k :: ks, p => congrArg Nat.succ (begins_len n ks _)
theorem places_loop {n : Nat} {d : D} {p0 : D} {S : Sto} (hn : n ≤ 6) : ∀ {ks acc : List D} {p : Nat} {t : Slot}, (∀ k ∈ ks, Wf V C n k) → acc.length + ks.length ≤ 1000 →
    ∃ t2 t3, foldD (stepD (gSet 4) (sSeq (sMod 2 (xVal 3) kApp) (sLet 3 (zV (xOp oAdd (xVar 3) (xCall cLen (xsCons (xFn (F_parts 12) (xsCons (xVal 4) xsNil)) xsNil))))))) ks [.val d, .val p0, .own acc, .val (.int (p : Nat)), t] S =
      .ok (.next [.val d, .val p0, .own (acc ++ begins n p ks), t2, t3]) S
  | [], acc, p, t, _, _ => ⟨.val (.int (p : Nat)), t, by simp [begins]⟩
  | k :: ks, acc, p, t, h, hz => by
    have hp := parts_ok (S := S) (fu := 12) (h k List.mem_cons_self) hn (by omega)
    simp only [List.length_cons] at hz
    obtain ⟨t2, t3, e⟩ := places_loop (d := d) (p0 := p0) (S := S) hn (ks := ks) (acc := acc ++ [.int (p : Nat)]) (p := p + (pre n k).length) (t := .val k) (fun x hx => h x (List.mem_cons_of_mem _ hx)) (by simp; omega)
    refine ⟨t2, t3, ?_⟩
    rw [foldD_next (ρ1 := [.val d, .val p0, .own (acc ++ [.int (p : Nat)]), .val (.int ((p + (pre n k).length : Nat) : Int)), .val k]) (S1 := S), e]
    · simp [begins]
    · simp [hp, fits_small (n := acc.length + 1) (by omega)]
theorem places_ok {n : Nat} {d : D} {p : Nat} {S : Sto} (h : Wf V C (n + 1) d) (hn : n ≤ 5) : F_places_within [d, .int (p : Nat)] S = .ok (.tup (begins n (p + 1) (kidsOf d))) S := by
  obtain ⟨ks, hk⟩ := h.kids
  have e := hk.eq
  subst e
  have hi := inner_ok (S := S) hk
  have hf := hk.few
  obtain ⟨t2, t3, e2⟩ := places_loop (d := d) (p0 := .int (p : Nat)) (S := S) (n := n) (by omega) (ks := kidsOf d) (acc := []) (p := p + 1) (t := .non) hk.wf (by simp; omega)
  have fold0 : sFor (iSeq (xFn F_inner (xsCons (xVal 0) xsNil))) (gSet 4) (sSeq (sMod 2 (xVal 3) kApp) (sLet 3 (zV (xOp oAdd (xVar 3) (xCall cLen (xsCons (xFn (F_parts 12) (xsCons (xVal 4) xsNil)) xsNil)))))) [.val d, .val (.int (p : Nat)), .own [], .val (.int ((p + 1 : Nat) : Int)), .non] S = _ :=
    for_tup (L := kidsOf d) (S1 := S) (by simp [hi])
  rw [e2] at fold0
  have c1 : ((p + 1 : Nat) : Int) = (p : Int) + 1 := by omega
  rw [c1] at fold0
  simp [F_places_within, fnD_s, g_places_within, fold0]
theorem places_leaf {d : D} {p : Nat} {S : Sto} (h : Leaf V C d) : F_places_within [d, .int (p : Nat)] S = .ok (.tup []) S := by
  have hi := inner_ok (S := S) (Kids.leaf (V := V) (C := C) (n := 0) h)
  have fold0 : sFor (iSeq (xFn F_inner (xsCons (xVal 0) xsNil))) (gSet 4) (sSeq (sMod 2 (xVal 3) kApp) (sLet 3 (zV (xOp oAdd (xVar 3) (xCall cLen (xsCons (xFn (F_parts 12) (xsCons (xVal 4) xsNil)) xsNil)))))) [.val d, .val (.int (p : Nat)), .own [], .val (.int ((p : Int) + 1)), .non] S = _ :=
    for_tup (L := []) (S1 := S) (by simp [hi])
  simp [F_places_within, fnD_s, g_places_within, fold0]
end
end K02

set_option Elab.async false
set_option linter.all false
set_option maxRecDepth 100000
set_option maxHeartbeats 4000000
set_option autoImplicit false
namespace K02
open PySem PySem.Spec PyProof.Rows L2 DL
section
variable {V C : List Str}
theorem pre_pos {n : Nat} {d : D} : ∃ T, pre n d = d :: T := by
  cases n with
  | zero => exact ⟨[], rfl⟩
  | succ n => exact ⟨_, rfl⟩
theorem enumL_app : ∀ (xs ys : List D) (k : Nat), enumL k (xs ++ ys) = enumL k xs ++ enumL (k + xs.length) ys
  | [], ys, k => rfl
  | x :: xs, ys, k => by
    rw [List.cons_append]
    unfold enumL
    rw [enumL_app xs ys (k + 1), List.cons_append, List.length_cons]
    have e : k + 1 + xs.length = k + (xs.length + 1) := by omega
    rw [e]
    cases xs ++ ys <;> cases ys <;> simp [enumL]
theorem kSet_at {A T : List D} {x d : D} {j : Nat} (h : A.length = j) : kSet (j : Int) d (A ++ x :: T) = some (A ++ d :: T) := by
  have e : ixN (A ++ x :: T).length (j : Int) = some j := by
    unfold ixN
    rw [if_pos (by omega), if_pos (by simp; omega)]
    simp
  unfold kSet
  rw [e]
  simp only
  rw [← h, List.set_append_right _ _ (Nat.le_refl _), Nat.sub_self]
  rfl

/-! ### links -/
def lk (p i : Nat) : D := .tup [.int (p : Nat), .int (i : Nat)]
def marks (n p : Nat) : Nat → List D → List D → List D
  | _, [], X => X
  | i, k :: ks, X => lk p i :: ((X.take (pre n k).length).drop 1 ++ marks n p (i + 1) ks (X.drop (pre n k).length))
def linkKs (f : D → Nat → D → List D) (n p : Nat) : Nat → Nat → List D → List D
  | _, _, [] => []
  | i, q, k :: ks => f k q (lk p i) ++ linkKs f n p (i + 1) (q + (pre n k).length) ks
/-- how each hangs on what is around it -/
def linkL : Nat → D → Nat → D → List D
  | 0, _, _, l => [l]
  | n + 1, d, p, l => l :: linkKs (linkL n) n p 0 (p + 1) (kidsOf d)
abbrev tg56 : TgF := gTupD (gsCons (gSet 5) (gsCons (gSet 6) gsNil))
abbrev putB : DS := sPut 2 (xVal 6) (xTup (xsCons (xVal 3) (xsCons (xVal 5) xsNil)))
theorem put_loop {n p : Nat} {e ev d : D} {S : Sto} : ∀ {ks : List D} {i q : Nat} {A X B : List D} {t5 t6 : Slot}, A.length = q → X.length = (ks.flatMap (pre n)).length →
    ∃ u5 u6, foldD (stepD tg56 putB) (enumL i (begins n q ks)) [.val e, .val ev, .own (A ++ (X ++ B)), .val (.int (p : Nat)), .val d, t5, t6] S =
      .ok (.next [.val e, .val ev, .own (A ++ (marks n p i ks X ++ B)), .val (.int (p : Nat)), .val d, u5, u6]) S
  | [], i, q, A, X, B, t5, t6, _, _ => ⟨t5, t6, rfl⟩
  | k :: ks, i, q, A, X, B, t5, t6, hA, hX => by
    obtain ⟨T, eT⟩ := pre_pos (n := n) (d := k)
    rw [List.flatMap_cons, List.length_append] at hX
    have hk : 1 ≤ (pre n k).length := by rw [eT]; simp
    cases X with
    | nil => simp only [List.length_nil] at hX; omega
    | cons x X =>
      have step : stepD tg56 putB (.tup [.int (i : Nat), .int (q : Nat)]) [.val e, .val ev, .own (A ++ ((x :: X) ++ B)), .val (.int (p : Nat)), .val d, t5, t6] S =
          .ok (.next [.val e, .val ev, .own (A ++ lk p i :: (X ++ B)), .val (.int (p : Nat)), .val d, .val (.int (i : Nat)), .val (.int (q : Nat))]) S := by
        have z := kSet_at (T := X ++ B) (x := x) (d := lk p i) hA
        simp [z, lk]
        rw [show A ++ x :: (X ++ B) = A ++ x :: (X ++ B) from rfl]
        unfold lk at z
        simp [z]
      have split : x :: X = x :: (X.take ((pre n k).length - 1) ++ X.drop ((pre n k).length - 1)) := by rw [List.take_append_drop]
      obtain ⟨u5, u6, e2⟩ := put_loop (n := n) (p := p) (e := e) (ev := ev) (d := d) (S := S) (ks := ks) (i := i + 1) (q := q + (pre n k).length) (A := A ++ lk p i :: X.take ((pre n k).length - 1)) (X := X.drop ((pre n k).length - 1)) (B := B) (t5 := .val (.int (i : Nat))) (t6 := .val (.int (q : Nat)))
        (by simp only [List.length_append, List.length_cons, List.length_take]; simp only [List.length_cons] at hX; omega) (by simp only [List.length_drop]; simp only [List.length_cons] at hX; omega)
      refine ⟨u5, u6, ?_⟩
      unfold begins enumL
      rw [foldD_next step]
      have eq1 : A ++ lk p i :: (X ++ B) = (A ++ lk p i :: X.take ((pre n k).length - 1)) ++ (X.drop ((pre n k).length - 1) ++ B) := by
        rw [List.append_assoc, List.cons_append, ← List.append_assoc (X.take _), List.take_append_drop]
      rw [eq1, e2]
      congr 1
      have eq2 : (x :: X).take (pre n k).length = x :: X.take ((pre n k).length - 1) := by
        cases h : (pre n k).length with
        | zero => omega
        | succ m => simp
      have eq3 : (x :: X).drop (pre n k).length = X.drop ((pre n k).length - 1) := by
        cases h : (pre n k).length with
        | zero => omega
        | succ m => simp
      rw [show marks n p i (k :: ks) (x :: X) = lk p i :: (((x :: X).take (pre n k).length).drop 1 ++ marks n p (i + 1) ks ((x :: X).drop (pre n k).length)) from rfl, eq2, eq3]
      simp

theorem places_any {n : Nat} {d : D} {p : Nat} {S : Sto} (h : Wf V C n d) (hn : n ≤ 6) : F_places_within [d, .int (p : Nat)] S = .ok (.tup (begins (n - 1) (p + 1) (kidsOf d))) S := by
  cases n with
  | zero =>
    rw [kidsOf_leaf h]
    exact places_leaf h
  | succ n => exact places_ok h (by omega)
theorem marks_len {n p : Nat} : ∀ {ks : List D} {i : Nat} {X : List D}, X.length = (ks.flatMap (pre n)).length → (marks n p i ks X).length = X.length
  | [], _, _, _ => rfl
  | k :: ks, i, X, h => by
    obtain ⟨T, eT⟩ := pre_pos (n := n) (d := k)
    rw [List.flatMap_cons, List.length_append] at h
    have hk : 1 ≤ (pre n k).length := by rw [eT]; simp
    rw [show marks n p i (k :: ks) X = lk p i :: ((X.take (pre n k).length).drop 1 ++ marks n p (i + 1) ks (X.drop (pre n k).length)) from rfl]
    rw [List.length_cons, List.length_append, marks_len (ks := ks) (by rw [List.length_drop]; omega), List.length_drop, List.length_drop, List.length_take]
    omega
abbrev tg34 : TgF := gTupD (gsCons (gSet 3) (gsCons (gSet 4) gsNil))
abbrev linkB : DS := sFor (iEnu (xFn F_places_within (xsCons (xVal 4) (xsCons (xVal 3) xsNil)))) tg56 putB
theorem linkKs_len {n p : Nat} {f : D → Nat → D → List D} : ∀ {ks : List D} {i q : Nat}, (∀ k ∈ ks, ∀ q l, (f k q l).length = (pre n k).length) → (linkKs f n p i q ks).length = (ks.flatMap (pre n)).length
  | [], _, _, _ => rfl
  | k :: ks, i, q, h => by
    rw [show linkKs f n p i q (k :: ks) = f k q (lk p i) ++ linkKs f n p (i + 1) (q + (pre n k).length) ks from rfl, List.length_append, List.flatMap_cons, List.length_append, h k List.mem_cons_self, linkKs_len fun x hx => h x (List.mem_cons_of_mem _ hx)]
theorem linkL_len : ∀ {n p : Nat} {d l : D}, Wf V C n d → (linkL n d p l).length = (pre n d).length
  | 0, _, _, _, _ => rfl
  | n + 1, p, d, l, h => by
    obtain ⟨ks, hk⟩ := h.kids
    have ek := hk.eq
    subst ek
    simp only [linkL, pre, List.length_cons]
    rw [linkKs_len fun k hk2 q l => linkL_len (hk.wf k hk2)]
/-- one node's turn -/
theorem link_turn {n p : Nat} {e ev d l : D} {S : Sto} {A X B : List D} {t3 t4 t5 t6 : Slot} (h : Wf V C n d) (hn : n ≤ 6) (hA : A.length = p) (hX : X.length + 1 = (pre n d).length) :
    ∃ u5 u6, stepD tg34 linkB (.tup [.int (p : Nat), d]) [.val e, .val ev, .own (A ++ l :: (X ++ B)), t3, t4, t5, t6] S =
      .ok (.next [.val e, .val ev, .own (A ++ l :: (marks (n - 1) p 0 (kidsOf d) X ++ B)), .val (.int (p : Nat)), .val d, u5, u6]) S := by
  have hx : X.length = ((kidsOf d).flatMap (pre (n - 1))).length := by
    cases n with
    | zero =>
      rw [kidsOf_leaf h]
      simp only [pre, List.length_singleton] at hX
      simp
      exact List.length_eq_zero_iff.mp (by omega)
    | succ n =>
      simp only [pre, List.length_cons] at hX
      exact Nat.succ.inj hX
  obtain ⟨u5, u6, e2⟩ := put_loop (n := n - 1) (p := p) (e := e) (ev := ev) (d := d) (S := S) (ks := kidsOf d) (i := 0) (q := p + 1) (A := A ++ [l]) (X := X) (B := B) (t5 := t5) (t6 := t6) (by simp [hA]) hx
  have hp := places_any (p := p) (S := S) h hn
  have fold0 : linkB [.val e, .val ev, .own (A ++ l :: (X ++ B)), .val (.int (p : Nat)), .val d, t5, t6] S = _ := for_enumT (L := begins (n - 1) (p + 1) (kidsOf d)) (S1 := S) (by simp [hp])
  refine ⟨u5, u6, ?_⟩
  rw [List.append_assoc, List.append_assoc, List.singleton_append, List.singleton_append] at e2
  rw [e2] at fold0
  simp only [stepD_s, gTup_s, gsCons_s, gSet_s, gsNil_s, Option.bind_some, List.set_cons_succ, List.set_cons_zero]
  exact fold0
/-- all that is within -/
theorem links_sub {e ev : D} {S : Sto} : ∀ {n p : Nat} {d l : D} {A X B R : List D} {t3 t4 t5 t6 : Slot}, Wf V C n d → n ≤ 6 → A.length = p → X.length + 1 = (pre n d).length →
    ∃ u3 u4 u5 u6, foldD (stepD tg34 linkB) (enumL p (pre n d) ++ R) [.val e, .val ev, .own (A ++ l :: (X ++ B)), t3, t4, t5, t6] S =
      foldD (stepD tg34 linkB) R [.val e, .val ev, .own (A ++ (linkL n d p l ++ B)), u3, u4, u5, u6] S
  | 0, p, d, l, A, X, B, R, t3, t4, t5, t6, h, hn, hA, hX => by
    obtain ⟨u5, u6, e1⟩ := link_turn (e := e) (ev := ev) (l := l) (S := S) (X := X) (B := B) (t3 := t3) (t4 := t4) (t5 := t5) (t6 := t6) h hn hA hX
    have hx : X = [] := by
      simp only [pre, List.length_singleton] at hX
      exact List.length_eq_zero_iff.mp (by omega)
    subst hx
    rw [kidsOf_leaf h] at e1
    refine ⟨.val (.int (p : Nat)), .val d, u5, u6, ?_⟩
    show foldD (stepD tg34 linkB) (.tup [.int (p : Nat), d] :: R) _ S = _
    rw [foldD_next e1]
    rfl
  | n + 1, p, d, l, A, X, B, R, t3, t4, t5, t6, h, hn, hA, hX => by
    obtain ⟨ks, hk⟩ := h.kids
    have ek := hk.eq
    subst ek
    obtain ⟨u5, u6, e1⟩ := link_turn (e := e) (ev := ev) (l := l) (S := S) (X := X) (B := B) (t3 := t3) (t4 := t4) (t5 := t5) (t6 := t6) h hn hA hX
    have kids : ∀ {ks : List D} {i q : Nat} {A X B : List D} {t3 t4 t5 t6 : Slot}, (∀ k ∈ ks, Wf V C n k) → A.length = q → X.length = (ks.flatMap (pre n)).length →
        ∃ u3 u4 u5 u6, foldD (stepD tg34 linkB) (enumL q (ks.flatMap (pre n)) ++ R) [.val e, .val ev, .own (A ++ (marks n p i ks X ++ B)), t3, t4, t5, t6] S =
          foldD (stepD tg34 linkB) R [.val e, .val ev, .own (A ++ (linkKs (linkL n) n p i q ks ++ B)), u3, u4, u5, u6] S := by
      intro ks
      induction ks with
      | nil =>
        intro i q A X B t3 t4 t5 t6 _ _ hX
        have hx : X = [] := List.length_eq_zero_iff.mp (by rw [hX]; rfl)
        subst hx
        exact ⟨t3, t4, t5, t6, rfl⟩
      | cons k ks ih =>
        intro i q A X B t3 t4 t5 t6 hw hA hX
        rw [List.flatMap_cons, List.length_append] at hX
        obtain ⟨T, eT⟩ := pre_pos (n := n) (d := k)
        have hk : 1 ≤ (pre n k).length := by rw [eT]; simp
        rw [List.flatMap_cons, enumL_app, List.append_assoc]
        obtain ⟨v3, v4, v5, v6, s1⟩ := links_sub (e := e) (ev := ev) (S := S) (n := n) (p := q) (d := k) (l := lk p i) (A := A) (X := (X.take (pre n k).length).drop 1) (B := marks n p (i + 1) ks (X.drop (pre n k).length) ++ B)
          (R := enumL (q + (pre n k).length) (ks.flatMap (pre n)) ++ R) (t3 := t3) (t4 := t4) (t5 := t5) (t6 := t6) (hw k List.mem_cons_self) (by omega) hA (by rw [List.length_drop, List.length_take]; omega)
        have len1 : (linkL n k q (lk p i)).length = (pre n k).length := linkL_len (hw k List.mem_cons_self)
        obtain ⟨w3, w4, w5, w6, s2⟩ := ih (i := i + 1) (q := q + (pre n k).length) (A := A ++ linkL n k q (lk p i)) (X := X.drop (pre n k).length) (B := B) (t3 := v3) (t4 := v4) (t5 := v5) (t6 := v6) (fun x hx => hw x (List.mem_cons_of_mem _ hx)) (by rw [List.length_append, hA, len1]) (by rw [List.length_drop]; omega)
        refine ⟨w3, w4, w5, w6, ?_⟩
        rw [show marks n p i (k :: ks) X = lk p i :: ((X.take (pre n k).length).drop 1 ++ marks n p (i + 1) ks (X.drop (pre n k).length)) from rfl, List.cons_append, List.append_assoc, s1]
        rw [List.append_assoc] at s2
        rw [s2]
        simp [linkKs]
    obtain ⟨v3, v4, v5, v6, e2⟩ := kids (ks := kidsOf d) (i := 0) (q := p + 1) (A := A ++ [l]) (X := X) (B := B) (t3 := .val (.int (p : Nat))) (t4 := .val d) (t5 := u5) (t6 := u6) hk.wf (by simp [hA]) (by simp only [pre, List.length_cons] at hX; exact Nat.succ.inj hX)
    refine ⟨v3, v4, v5, v6, ?_⟩
    show foldD (stepD tg34 linkB) (.tup [.int (p : Nat), d] :: (enumL (p + 1) ((kidsOf d).flatMap (pre n)) ++ R)) _ S = _
    rw [foldD_next e1]
    rw [List.append_assoc, List.append_assoc, List.singleton_append, List.singleton_append] at e2
    exact e2

theorem rep_flat {n : Nat} : (List.replicate n [D.non]).flatten = List.replicate n D.non := by
  induction n with
  | zero => rfl
  | succ n ih => rw [List.replicate_succ, List.flatten_cons, ih, List.replicate_succ]; rfl
end
end K02

set_option Elab.async false
set_option linter.all false
set_option maxRecDepth 100000
set_option maxHeartbeats 4000000
set_option autoImplicit false
namespace K02
open PySem PySem.Spec PyProof.Rows L2 DL
section
variable {V C : List Str}
theorem rep1_test {n : Nat} {d : D} {T : List D} {S : Sto} (hb : (pre n d).length ≤ 60000) (rep0 : (List.replicate (pre n d).length [D.non]).flatten = .non :: List.replicate T.length .non) :
    xsRep (xsCons (xC .non) xsNil) (xCall cLen (xsCons (xVar 1) xsNil)) [.val d, .val (.tup (pre n d)), .non, .non, .non, .non, .non] S = .ok (.non :: List.replicate T.length .non) S := by
  have z := xsRep_eq (f := xsCons (xC .non) xsNil) (g := xCall cLen (xsCons (xVar 1) xsNil)) (ρ := [.val d, .val (.tup (pre n d)), .non, .non, .non, .non, .non]) (S := S) (ds := [.non]) (k := ((pre n d).length : Nat)) (S1 := S) (S2 := S) rfl rfl (rep_ok (m := 1) (by omega) (by omega))
  rw [z, Int.toNat_natCast, rep0]
theorem links_ok {n : Nat} {d : D} {S : Sto} (h : Wf V C n d) (hn : n ≤ 6) : F_links [d] S = .ok (.tup (linkL n d 0 .non)) S := by
  have hp := parts_ok (S := S) (fu := 12) h hn (by omega)
  have hl := pre_len h
  have hb := big_le hn
  obtain ⟨T, eT⟩ := pre_pos (n := n) (d := d)
  have rep0 : (List.replicate (pre n d).length [D.non]).flatten = .non :: List.replicate T.length .non := by rw [rep_flat, eT, List.length_cons, List.replicate_succ]
  obtain ⟨u3, u4, u5, u6, e2⟩ := links_sub (e := d) (ev := .tup (pre n d)) (S := S) (n := n) (p := 0) (d := d) (l := .non) (A := []) (X := List.replicate T.length .non) (B := []) (R := []) (t3 := .non) (t4 := .non) (t5 := .non) (t6 := .non) h hn rfl (by rw [eT]; simp)
  rw [List.append_nil, List.nil_append, List.append_nil, List.append_nil, List.nil_append, foldD_nil] at e2
  have fold0 : sFor (iEnu (xVal 1)) tg34 linkB [.val d, .val (.tup (pre n d)), .own (.non :: List.replicate T.length .non), .non, .non, .non, .non] S = _ := for_enumT (L := pre n d) (S1 := S) (by simp)
  rw [e2] at fold0
  have rep1 := rep1_test (d := d) (S := S) (T := T) (n := n) (by omega) rep0
  simp [F_links, fnD_s, g_links, hp, rep1, fold0]
end
end K02

set_option Elab.async false
set_option linter.all false
set_option maxRecDepth 100000
set_option maxHeartbeats 4000000
set_option autoImplicit false
namespace K02
open PySem PySem.Spec PyProof.Rows L2 DL
section
variable {V C : List Str}
/-! ### what is known where -/
def boundOf (d : D) (i : Nat) : List D := match d with
  | .tup [.str t, b, _, _] => if t = "let" then (if i = 1 then [b] else []) else []
  | .tup [.str t, _, c] => if t = "try" then (match c with
    | .tup rows => if 0 < i then (match rows[i - 1]? with
      | some r => [at1 r]
      | none => []) else []
    | _ => []) else []
  | _ => []
theorem bound_ok {n i : Nat} {d : D} {ks : List D} {S : Sto} (h : Kids V C n d ks) (hi : i < ks.length) : F_bound [d, .int (i : Nat)] S = .ok (.tup (boundOf d i)) S := by
  cases h with
  | leaf h => simp at hi
  | lt h1 h2 h3 =>
    by_cases e : i = 1
    · subst e
      simp [F_bound, fnD_s, g_bound, boundOf]
    · have e2 : ¬ (i : Int) = 1 := by omega
      simp [F_bound, fnD_s, g_bound, boundOf, e, e2]
  | pick h1 h2 h3 h4 => simp [F_bound, fnD_s, g_bound, boundOf, ofString_iff]
  | @tr n e rows h1 h2 h3 =>
    by_cases e0 : i = 0
    · subst e0
      simp [F_bound, fnD_s, g_bound, boundOf]
    · have e2 : (0 : Int) < (i : Int) := by omega
      have e3 : 0 < i := by omega
      have hr : i - 1 < rows.length := by simp at hi; omega
      obtain ⟨v, y, x, er, _, _, _⟩ := h3 rows[i - 1] (List.getElem_mem hr)
      have c1 : (i : Int) - 1 = ((i - 1 : Nat) : Int) := by omega
      have ix : oIx S (.tup rows) (.int ((i - 1 : Nat) : Int)) = .ok rows[i - 1] S := oIx_seq rfl (List.getElem?_eq_getElem hr)
      simp [F_bound, fnD_s, g_bound, boundOf, e2, e3, c1, ix, List.getElem?_eq_getElem hr]
      rw [er]
      simp [at1]
theorem bound_len {d : D} {i : Nat} : (boundOf d i).length ≤ 1 := by
  unfold boundOf
  split
  · split
    · split <;> simp
    · simp
  · split
    · split
      · split
        · split <;> simp
        · simp
      · simp
    · simp
  · simp
def knownKs (f : D → List D → List D) (d : D) (kn : List D) : Nat → List D → List D
  | _, [] => []
  | i, k :: ks => f k (kn ++ boundOf d i) ++ knownKs f d kn (i + 1) ks
def knownL : Nat → D → List D → List D
  | 0, _, kn => [.tup kn]
  | n + 1, d, kn => .tup kn :: knownKs (knownL n) d kn 0 (kidsOf d)
theorem knownKs_len {n : Nat} {d : D} {kn : List D} {f : D → List D → List D} : ∀ {ks : List D} {i : Nat}, (∀ k ∈ ks, ∀ kn, (f k kn).length = (pre n k).length) → (knownKs f d kn i ks).length = (ks.flatMap (pre n)).length
  | [], _, _ => rfl
  | k :: ks, i, h => by
    rw [show knownKs f d kn i (k :: ks) = f k (kn ++ boundOf d i) ++ knownKs f d kn (i + 1) ks from rfl, List.length_append, List.flatMap_cons, List.length_append, h k List.mem_cons_self, knownKs_len fun x hx => h x (List.mem_cons_of_mem _ hx)]
theorem knownL_len : ∀ {n : Nat} {d : D} {kn : List D}, Wf V C n d → (knownL n d kn).length = (pre n d).length
  | 0, _, _, _ => rfl
  | n + 1, d, kn, h => by
    obtain ⟨ks, hk⟩ := h.kids
    have ek := hk.eq
    subst ek
    simp only [knownL, pre, List.length_cons]
    rw [knownKs_len fun k hk2 kn => knownL_len (hk.wf k hk2)]
@[simp] theorem oIs_non {S : Sto} {d : D} : oIs S d .non = .ok (.bl (isNon d)) S := id rfl
@[simp] theorem isNon_lk {p i : Nat} : isNon (lk p i) = false := rfl
theorem ix_lst {S : Sto} {A T : List D} {x : D} {p : Nat} (h : A.length = p) : oIx S (.lst (A ++ x :: T)) (.int (p : Nat)) = .ok x S := oIx_seq rfl (by rw [List.getElem?_append_right (by omega), h, Nat.sub_self]; rfl)
theorem ix_tup {S : Sto} {A T : List D} {x : D} {p : Nat} (h : A.length = p) : oIx S (.tup (A ++ x :: T)) (.int (p : Nat)) = .ok x S := oIx_seq rfl (by rw [List.getElem?_append_right (by omega), h, Nat.sub_self]; rfl)
abbrev tg45 : TgF := gTupD (gsCons (gSet 4) (gsCons (gSet 5) gsNil))
abbrev scB : DS := sMod 3 (xIf (xOp oIs (xVar 5) (xC .non)) (xCall cTuple (xsCons (xVar 0) xsNil)) (xOp oAdd (xOp oIx (xVar 3) (xOp oIx (xVar 5) (xC (.int 0)))) (xFn F_bound (xsCons (xOp oIx (xVar 2) (xOp oIx (xVar 5) (xC (.int 0)))) (xsCons (xOp oIx (xVar 5) (xC (.int 1))) xsNil))))) kApp
/-- one link's turn -/
theorem scope_turn {n p i q : Nat} {pm e d : D} {E F G kn ks A B : List D} {S : Sto} {t4 t5 : Slot} (hk : Kids V C n d ks) (hi : i < ks.length) (hE : E = A ++ d :: B) (hA : A.length = p) (hF : F.length = p) (small : F.length + G.length ≤ 100000) (hkn : kn.length ≤ 1000) :
    stepD tg45 scB (.tup [.int (q : Nat), lk p i]) [.val pm, .val e, .val (.tup E), .own (F ++ .tup kn :: G), t4, t5] S =
      .ok (.next [.val pm, .val e, .val (.tup E), .own (F ++ .tup kn :: (G ++ [.tup (kn ++ boundOf d i)])), .val (.int (q : Nat)), .val (lk p i)]) S := by
  have b1 := bound_ok (S := S) hk hi
  have x1 : oIx S (.lst (F ++ .tup kn :: G)) (.int (p : Nat)) = .ok (.tup kn) S := ix_lst hF
  have x2 : oIx S (.tup E) (.int (p : Nat)) = .ok d S := by rw [hE]; exact ix_tup hA
  have l0 : oIx S (lk p i) (.int 0) = .ok (.int (p : Nat)) S := oIx0
  have l1 : oIx S (lk p i) (.int 1) = .ok (.int (i : Nat)) S := oIx1
  have lb := bound_len (d := d) (i := i)
  have ad : oAdd S (.tup kn) (.tup (boundOf d i)) = .ok (.tup (kn ++ boundOf d i)) S := by
    show (if fits (kn.length + (boundOf d i).length) then _ else _) = _
    rw [if_pos (fits_small (by omega))]
  simp [b1, x1, x2, l0, l1, ad, fits_small (n := F.length + (G.length + 1) + 1) (by omega)]
theorem scopes_sub {pm e : D} {E : List D} {S : Sto} : ∀ {n p : Nat} {d : D} {kn F A B R : List D} {t4 t5 : Slot}, Wf V C n d → E = A ++ (pre n d ++ B) → A.length = p → F.length = p → F.length + (pre n d).length ≤ 100000 → kn.length + n ≤ 1000 →
    ∃ u4 u5, foldD (stepD tg45 scB) (enumL (p + 1) (linkL n d p .non).tail ++ R) [.val pm, .val e, .val (.tup E), .own (F ++ [.tup kn]), t4, t5] S =
      foldD (stepD tg45 scB) R [.val pm, .val e, .val (.tup E), .own (F ++ knownL n d kn), u4, u5] S
  | 0, p, d, kn, F, A, B, R, t4, t5, h, hE, hA, hF, small, hkn => ⟨t4, t5, rfl⟩
  | n + 1, p, d, kn, F, A, B, R, t4, t5, h, hE, hA, hF, small, hkn => by
    obtain ⟨all, hk⟩ := h.kids
    have ek := hk.eq
    subst ek
    have hE2 : E = A ++ d :: ((kidsOf d).flatMap (pre n) ++ B) := by rw [hE]; rfl
    have kids : ∀ {ks : List D} {i q : Nat} {G Z : List D} {t4 t5 : Slot}, (∀ k ∈ ks, Wf V C n k) → i + ks.length ≤ (kidsOf d).length → (∃ A2, E = A2 ++ (ks.flatMap (pre n) ++ Z) ∧ A2.length = q) → F.length + 1 + G.length = q → q + (ks.flatMap (pre n)).length ≤ 100000 →
        ∃ u4 u5, foldD (stepD tg45 scB) (enumL q (linkKs (linkL n) n p i q ks) ++ R) [.val pm, .val e, .val (.tup E), .own (F ++ .tup kn :: G), t4, t5] S =
          foldD (stepD tg45 scB) R [.val pm, .val e, .val (.tup E), .own (F ++ .tup kn :: (G ++ knownKs (knownL n) d kn i ks)), u4, u5] S := by
      intro ks
      induction ks with
      | nil =>
        intro i q G Z t4 t5 _ _ _ _ _
        exact ⟨t4, t5, by simp [linkKs, knownKs, enumL]⟩
      | cons k ks ih =>
        intro i q G Z t4 t5 hw hi hEq hq sm
        obtain ⟨A2, hA2, hA2q⟩ := hEq
        rw [List.flatMap_cons, List.length_append] at sm
        simp only [List.length_cons] at hi
        have hkw := hw k List.mem_cons_self
        have lenk : (linkL n k q (lk p i)).length = (pre n k).length := linkL_len hkw
        have hd : ∃ T, linkL n k q (lk p i) = lk p i :: T ∧ T = (linkL n k q .non).tail := by
          cases n with
          | zero => exact ⟨[], rfl, rfl⟩
          | succ n => exact ⟨_, rfl, rfl⟩
        obtain ⟨T, eT, eT2⟩ := hd
        have turn := scope_turn (q := q) (pm := pm) (e := e) (E := E) (F := F) (G := G) (kn := kn) (S := S) (t4 := t4) (t5 := t5) hk (i := i) (by omega) hE2 hA hF (by omega) (by omega)
        have lb := bound_len (d := d) (i := i)
        obtain ⟨v4, v5, s1⟩ := scopes_sub (pm := pm) (e := e) (E := E) (S := S) (n := n) (p := q) (d := k) (kn := kn ++ boundOf d i) (F := F ++ .tup kn :: G) (A := A2) (B := ks.flatMap (pre n) ++ Z) (R := enumL (q + (pre n k).length) (linkKs (linkL n) n p (i + 1) (q + (pre n k).length) ks) ++ R)
          (t4 := .val (.int (q : Nat))) (t5 := .val (lk p i)) hkw (by rw [hA2, List.flatMap_cons, List.append_assoc]) hA2q (by simp; omega) (by simp; omega) (by simp; omega)
        obtain ⟨w4, w5, s2⟩ := ih (i := i + 1) (q := q + (pre n k).length) (G := G ++ knownL n k (kn ++ boundOf d i)) (Z := Z) (t4 := v4) (t5 := v5) (fun x hx => hw x (List.mem_cons_of_mem _ hx)) (by omega) ⟨A2 ++ pre n k, by rw [hA2, List.flatMap_cons]; simp, by simp [hA2q]⟩ (by rw [List.length_append, knownL_len hkw]; omega) (by omega)
        refine ⟨w4, w5, ?_⟩
        rw [show linkKs (linkL n) n p i q (k :: ks) = linkL n k q (lk p i) ++ linkKs (linkL n) n p (i + 1) (q + (pre n k).length) ks from rfl, enumL_app, lenk, List.append_assoc, eT]
        show foldD (stepD tg45 scB) (.tup [.int (q : Nat), lk p i] :: (enumL (q + 1) T ++ _)) _ S = _
        rw [foldD_next turn, eT2]
        have c1 : F ++ D.tup kn :: (G ++ [D.tup (kn ++ boundOf d i)]) = (F ++ D.tup kn :: G) ++ [D.tup (kn ++ boundOf d i)] := by simp
        rw [c1, s1]
        have c2 : (F ++ D.tup kn :: G) ++ knownL n k (kn ++ boundOf d i) = F ++ D.tup kn :: (G ++ knownL n k (kn ++ boundOf d i)) := by simp
        rw [c2, s2]
        simp [knownKs]
    obtain ⟨u4, u5, e1⟩ := kids (ks := kidsOf d) (i := 0) (q := p + 1) (G := []) (Z := B) (t4 := t4) (t5 := t5) hk.wf (by omega) ⟨A ++ [d], by rw [hE2]; simp, by simp [hA]⟩ (by simp; omega) (by simp only [pre, List.length_cons] at small; omega)
    refine ⟨u4, u5, ?_⟩
    rw [show (linkL (n + 1) d p .non).tail = linkKs (linkL n) n p 0 (p + 1) (kidsOf d) from rfl, e1]
    rfl
end
end K02

set_option Elab.async false
set_option linter.all false
set_option maxRecDepth 100000
set_option maxHeartbeats 4000000
set_option autoImplicit false
namespace K02
open PySem PySem.Spec PyProof.Rows L2 DL
section
variable {V C : List Str}
theorem scopes_ok {n : Nat} {d pm : D} {pl : List D} {S : Sto} (h : Wf V C n d) (hn : n ≤ 6) (hp : cTuple S [pm] = .ok (.tup pl) S) (few : pl.length ≤ 900) : F_scopes [pm, d] S = .ok (.tup (knownL n d pl)) S := by
  have hpa := parts_ok (S := S) (fu := 12) h hn (by omega)
  have hli := links_ok (S := S) h hn
  have hl := pre_len h
  have hb := big_le hn
  have eL : linkL n d 0 .non = .non :: (linkL n d 0 .non).tail := by
    cases n with
    | zero => rfl
    | succ n => rfl
  have turn : stepD tg45 scB (.tup [.int 0, .non]) [.val pm, .val d, .val (.tup (pre n d)), .own [], .non, .non] S = .ok (.next [.val pm, .val d, .val (.tup (pre n d)), .own [.tup pl], .val (.int 0), .val .non]) S := by
    simp [hp, DL.isNon, fits_small (n := 1) (by omega)]
  obtain ⟨u4, u5, e1⟩ := scopes_sub (pm := pm) (e := d) (E := pre n d) (S := S) (n := n) (p := 0) (d := d) (kn := pl) (F := []) (A := []) (B := []) (R := []) (t4 := .val (.int 0)) (t5 := .val .non) h (by simp) rfl rfl (by simp; omega) (by omega)
  have fold0 : sFor (iEnu (xFn F_links (xsCons (xVal 1) xsNil))) tg45 scB [.val pm, .val d, .val (.tup (pre n d)), .own [], .non, .non] S = _ := for_enumT (L := linkL n d 0 .non) (S1 := S) (by simp [hli])
  rw [eL] at fold0
  have fold1 : sFor (iEnu (xFn F_links (xsCons (xVal 1) xsNil))) tg45 scB [.val pm, .val d, .val (.tup (pre n d)), .own [], .non, .non] S = foldD (stepD tg45 scB) (.tup [.int 0, .non] :: enumL 1 (linkL n d 0 .non).tail) [.val pm, .val d, .val (.tup (pre n d)), .own [], .non, .non] S := fold0
  rw [List.append_nil, List.nil_append, foldD_nil, List.nil_append] at e1
  rw [foldD_next turn, e1] at fold1
  simp [F_scopes, fnD_s, g_scopes, hpa, fold1]
/-! ### the law's own walk -/
def rowsKs (f : D → Nat → D → List D → List D) (n p : Nat) (d : D) (kn : List D) : Nat → Nat → List D → List D
  | _, _, [] => []
  | i, q, k :: ks => f k q (lk p i) (kn ++ boundOf d i) ++ rowsKs f n p d kn (i + 1) (q + (pre n k).length) ks
def rowsL : Nat → D → Nat → D → List D → List D
  | 0, d, _, l, kn => [.tup [d, l, .tup kn]]
  | n + 1, d, p, l, kn => .tup [d, l, .tup kn] :: rowsKs (rowsL n) n p d kn 0 (p + 1) (kidsOf d)
theorem rowsKs_len {n p : Nat} {d : D} {kn : List D} {f : D → Nat → D → List D → List D} : ∀ {ks : List D} {i q : Nat}, (∀ k ∈ ks, ∀ q l kn, (f k q l kn).length = (pre n k).length) → (rowsKs f n p d kn i q ks).length = (ks.flatMap (pre n)).length
  | [], _, _, _ => rfl
  | k :: ks, i, q, h => by
    rw [show rowsKs f n p d kn i q (k :: ks) = f k q (lk p i) (kn ++ boundOf d i) ++ rowsKs f n p d kn (i + 1) (q + (pre n k).length) ks from rfl, List.length_append, List.flatMap_cons, List.length_append, h k List.mem_cons_self, rowsKs_len fun x hx => h x (List.mem_cons_of_mem _ hx)]
theorem rowsL_len : ∀ {n p : Nat} {d l : D} {kn : List D}, Wf V C n d → (rowsL n d p l kn).length = (pre n d).length
  | 0, _, _, _, _, _ => rfl
  | n + 1, p, d, l, kn, h => by
    obtain ⟨ks, hk⟩ := h.kids
    have ek := hk.eq
    subst ek
    simp only [rowsL, pre, List.length_cons]
    rw [rowsKs_len fun k hk2 q l kn => rowsL_len (hk.wf k hk2)]
theorem objOf_set {S : Sto} {j : Nat} {xs ys : List D} (h : objOf S j = some xs) : objOf (S.set j (.lst ys)) j = some ys := by
  have z := objOf_eq h
  unfold objOf
  rw [List.getElem?_set_self (List.getElem?_eq_some_iff.mp z).1]
theorem set_set {S : Sto} {j : Nat} {a b : Cell} : (S.set j a).set j b = S.set j b := by simp
abbrev tg67 : TgF := gTupD (gsCons (gSet 6) (gsCons (gSet 7) gsNil))
abbrev wkM : DS := sSeq (sLet 8 (zV (xTup xsNil)))
      (sSeq (sIf (xAnd (xOp oEq (xOp oIx (xVar 0) (xC (.int 0))) (xC (.str "let"))) (xOp oEq (xVar 6) (xC (.int 1))))
        (sLet 8 (zV (xTup (xsCons (xOp oIx (xVar 0) (xC (.int 1))) (xsNil)))))
        (sNil))
      (sIf (xAnd (xOp oEq (xOp oIx (xVar 0) (xC (.int 0))) (xC (.str "try"))) (xOp oGt (xVar 6) (xC (.int 0))))
        (sLet 8 (zV (xTup (xsCons (xOp oIx (xOp oIx (xOp oIx (xVar 0) (xC (.int 2))) (xOp oSub (xVar 6) (xC (.int 1)))) (xC (.int 1))) (xsNil)))))
        (sNil)))
abbrev wkC (F : DFn) : DS := sLet 5 (zV (xFn F (xsCons (xVal 7) (xsCons (xVal 5) (xsCons (xTup (xsCons (xVal 1) (xsCons (xVal 6) (xsNil)))) (xsCons (xOp oAdd (xVar 3) (xVar 8)) (xsCons (xVal 4) (xsNil))))))))
abbrev wkB (F : DFn) : DS := sSeq (sLet 8 (zV (xTup (xsNil))))
      (sSeq (sIf (xAnd (xOp oEq (xOp oIx (xVar 0) (xC (.int 0))) (xC (.str "let"))) (xOp oEq (xVar 6) (xC (.int 1))))
        (sLet 8 (zV (xTup (xsCons (xOp oIx (xVar 0) (xC (.int 1))) (xsNil)))))
        (sNil))
      (sSeq (sIf (xAnd (xOp oEq (xOp oIx (xVar 0) (xC (.int 0))) (xC (.str "try"))) (xOp oGt (xVar 6) (xC (.int 0))))
        (sLet 8 (zV (xTup (xsCons (xOp oIx (xOp oIx (xOp oIx (xVar 0) (xC (.int 2))) (xOp oSub (xVar 6) (xC (.int 1)))) (xC (.int 1))) (xsNil)))))
        (sNil))
      (wkC F)))
/-- what is bound, as the walk reads it -/
theorem wk_more {n i : Nat} {d : D} {ks : List D} {a b c e f g h : Slot} {S : Sto} (hk : Kids V C n d ks) (hi : i < ks.length) {F : DFn} :
    wkB F [.val d, a, b, c, e, f, .val (.int (i : Nat)), g, h] S = wkC F [.val d, a, b, c, e, f, .val (.int (i : Nat)), g, .val (.tup (boundOf d i))] S := by
  cases hk with
  | leaf h => simp at hi
  | lt h1 h2 h3 =>
    by_cases e : i = 1
    · subst e
      simp only [wkB, sSeq_s, sIf_s, sLet_s, zV_s, xTup_s, xsNil_s, R.bind_ok1, xAnd_s, xOp_s]
      simp [boundOf]
    · have e2 : ¬ (i : Int) = 1 := by omega
      simp only [wkB, sSeq_s, sIf_s, sLet_s, zV_s, xTup_s, xsNil_s, R.bind_ok1, xAnd_s, xOp_s]
      simp [boundOf, e, e2]
  | pick h1 h2 h3 h4 =>
    simp only [wkB, sSeq_s, sIf_s, sLet_s, zV_s, xTup_s, xsNil_s, R.bind_ok1, xAnd_s, xOp_s]
    simp [boundOf, ofString_iff]
  | @tr n e rows h1 h2 h3 =>
    by_cases e0 : i = 0
    · subst e0
      simp only [wkB, sSeq_s, sIf_s, sLet_s, zV_s, xTup_s, xsNil_s, R.bind_ok1, xAnd_s, xOp_s]
      simp [boundOf]
    · have e2 : (0 : Int) < (i : Int) := by omega
      have e3 : 0 < i := by omega
      have hr : i - 1 < rows.length := by simp at hi; omega
      obtain ⟨v, y, x, er, _, _, _⟩ := h3 rows[i - 1] (List.getElem_mem hr)
      have c1 : (i : Int) - 1 = ((i - 1 : Nat) : Int) := by omega
      have ix : oIx S (.tup rows) (.int ((i - 1 : Nat) : Int)) = .ok rows[i - 1] S := oIx_seq rfl (List.getElem?_eq_getElem hr)
      have x1 : oIx S rows[i - 1] (.int 1) = .ok (at1 rows[i - 1]) S := by rw [er]; simp [at1]
      simp only [wkB, sSeq_s, sIf_s, sLet_s, zV_s, xTup_s, xsNil_s, R.bind_ok1, xAnd_s, xOp_s]
      simp [boundOf, e2, e3, c1, ix, x1, List.getElem?_eq_getElem hr]

theorem walk_loop {F : DFn} {n p j : Nat} {d l : D} {kn : List D} (hw : ∀ {k : D} {q : Nat} {l : D} {kn : List D} {S : Sto} {rows : List D}, Wf V C n k → objOf S j = some rows → rows.length + (pre n k).length ≤ 100000 → kn.length + n ≤ 900 →
      F [k, .int (q : Nat), l, .tup kn, .obj j] S = .ok (.int ((q + (pre n k).length : Nat) : Int)) (S.set j (.lst (rows ++ rowsL n k q l kn)))) (hk : Kids V C (n + 1) d (kidsOf d)) (hkn : kn.length + (n + 1) ≤ 900) :
    ∀ {ks : List D} {i q : Nat} {S : Sto} {rows : List D} {t6 t7 t8 : Slot}, (∀ k ∈ ks, Wf V C n k) → i + ks.length ≤ (kidsOf d).length → objOf S j = some rows → rows.length + (ks.flatMap (pre n)).length ≤ 100000 →
      ∃ u6 u7 u8, foldD (stepD tg67 (wkB F)) (enumL i ks) [.val d, .val (.int (p : Nat)), .val l, .val (.tup kn), .val (.obj j), .val (.int (q : Nat)), t6, t7, t8] S =
        .ok (.next [.val d, .val (.int (p : Nat)), .val l, .val (.tup kn), .val (.obj j), .val (.int ((q + (ks.flatMap (pre n)).length : Nat) : Int)), u6, u7, u8]) (S.set j (.lst (rows ++ rowsKs (rowsL n) n p d kn i q ks)))
  | [], i, q, S, rows, t6, t7, t8, _, _, hr, _ => by
    refine ⟨t6, t7, t8, ?_⟩
    have e : S.set j (.lst rows) = S := by
      have z := objOf_eq hr
      obtain ⟨z1, z2⟩ := List.getElem?_eq_some_iff.mp z
      rw [← z2]
      exact List.set_getElem_self z1
    simp [enumL, rowsKs, e]
  | k :: ks, i, q, S, rows, t6, t7, t8, h, hi, hr, sm => by
    rw [List.flatMap_cons, List.length_append] at sm
    simp only [List.length_cons] at hi
    have hkw := h k List.mem_cons_self
    have lb := bound_len (d := d) (i := i)
    have one := hw (q := q) (l := lk p i) (kn := kn ++ boundOf d i) hkw hr (by omega) (by rw [List.length_append]; omega)
    have ad : oAdd S (.tup kn) (.tup (boundOf d i)) = .ok (.tup (kn ++ boundOf d i)) S := by
      show (if fits (kn.length + (boundOf d i).length) then _ else _) = _
      rw [if_pos (fits_small (by omega))]
    have step : stepD tg67 (wkB F) (.tup [.int (i : Nat), k]) [.val d, .val (.int (p : Nat)), .val l, .val (.tup kn), .val (.obj j), .val (.int (q : Nat)), t6, t7, t8] S =
        .ok (.next [.val d, .val (.int (p : Nat)), .val l, .val (.tup kn), .val (.obj j), .val (.int ((q + (pre n k).length : Nat) : Int)), .val (.int (i : Nat)), .val k, .val (.tup (boundOf d i))]) (S.set j (.lst (rows ++ rowsL n k q (lk p i) (kn ++ boundOf d i)))) := by
      simp only [stepD_s, gTup_s, gsCons_s, gSet_s, gsNil_s, Option.bind_some, List.set_cons_succ, List.set_cons_zero]
      rw [wk_more hk (by omega)]
      unfold lk at one
      simp [wkC, ad, one, lk]
    obtain ⟨u6, u7, u8, e2⟩ := walk_loop (F := F) (p := p) (l := l) hw hk hkn (ks := ks) (i := i + 1) (q := q + (pre n k).length) (S := S.set j (.lst (rows ++ rowsL n k q (lk p i) (kn ++ boundOf d i)))) (rows := rows ++ rowsL n k q (lk p i) (kn ++ boundOf d i)) (t6 := .val (.int (i : Nat))) (t7 := .val k) (t8 := .val (.tup (boundOf d i)))
      (fun x hx => h x (List.mem_cons_of_mem _ hx)) (by omega) (objOf_set hr) (by rw [List.length_append, rowsL_len hkw]; omega)
    refine ⟨u6, u7, u8, ?_⟩
    show foldD (stepD tg67 (wkB F)) (.tup [.int (i : Nat), k] :: enumL (i + 1) ks) _ S = _
    rw [foldD_next step, e2, set_set]
    simp [rowsKs, Nat.add_assoc]
theorem walk_ok : ∀ {n p : Nat} {d l : D} {kn : List D} {S : Sto} {j fu : Nat} {rows : List D}, Wf V C n d → n < fu → objOf S j = some rows → rows.length + (pre n d).length ≤ 100000 → kn.length + n ≤ 900 →
    F_law_walk fu [d, .int (p : Nat), l, .tup kn, .obj j] S = .ok (.int ((p + (pre n d).length : Nat) : Int)) (S.set j (.lst (rows ++ rowsL n d p l kn)))
  | n, p, d, l, kn, S, j, 0, rows, h, hf, hr, sm, hkn => by omega
  | n, p, d, l, kn, S, j, fu + 1, rows, h, hf, hr, sm, hkn => by
    obtain ⟨ks, hk⟩ := h.kids
    have ek := hk.eq
    subst ek
    have hli := fun S => linner_ok (S := S) hk
    obtain ⟨T, eT⟩ := pre_pos (n := n) (d := d)
    have s1 : (pre n d).length ≥ 1 := by rw [eT]; simp
    have hr2 := objOf_set (ys := rows ++ [.tup [d, l, .tup kn]]) hr
    have fold0 : sFor (iEnu (xFn F_law_inner (xsCons (xVal 0) xsNil))) tg67 (wkB (F_law_walk fu)) [.val d, .val (.int (p : Nat)), .val l, .val (.tup kn), .val (.obj j), .val (.int ((p : Int) + 1)), .non, .non, .non] (S.set j (.lst (rows ++ [.tup [d, l, .tup kn]]))) = _ :=
      for_enumL (L := kidsOf d) (S1 := S.set j (.lst (rows ++ [.tup [d, l, .tup kn]]))) (by simp [hli])
    have c1 : (p : Int) + 1 = ((p + 1 : Nat) : Int) := by omega
    cases n with
    | zero =>
      have ek := kidsOf_leaf h
      rw [ek] at fold0
      simp only [enumL, foldD_nil] at fold0
      simp [F_law_walk, fnD_s, g_law_walk, hr, fits_small (n := rows.length + 1) (by omega), fold0, pre, rowsL]
    | succ n =>
      obtain ⟨u6, u7, u8, e2⟩ := walk_loop (F := F_law_walk fu) (p := p) (l := l) (kn := kn) (n := n) (j := j) (d := d) (fun hk2 hr sm hkn => walk_ok hk2 (by omega) hr sm hkn) hk (by omega) (ks := kidsOf d) (i := 0) (q := p + 1) (S := S.set j (.lst (rows ++ [.tup [d, l, .tup kn]]))) (rows := rows ++ [.tup [d, l, .tup kn]]) (t6 := .non) (t7 := .non) (t8 := .non)
        hk.wf (by omega) hr2 (by simp only [pre, List.length_cons] at sm; rw [List.length_append, List.length_singleton]; omega)
      rw [c1, e2, set_set] at fold0
      simp only [pre, List.length_cons]
      have c2 : ((p + 1 + ((kidsOf d).flatMap (pre n)).length : Nat) : Int) = ((p + (((kidsOf d).flatMap (pre n)).length + 1) : Nat) : Int) := by omega
      rw [c2] at fold0
      rw [← c1] at fold0
      have rows0 : rows ++ [D.tup [d, l, .tup kn]] ++ rowsKs (rowsL n) n p d kn 0 (p + 1) (kidsOf d) = rows ++ rowsL (n + 1) d p l kn := by simp [rowsL]
      rw [rows0] at fold0
      simp [F_law_walk, fnD_s, g_law_walk, hr, fits_small (n := rows.length + 1) (by omega), fold0]
end
end K02

set_option Elab.async false
set_option linter.all false
set_option maxRecDepth 100000
set_option maxHeartbeats 4000000
set_option autoImplicit false
namespace K02
open PySem PySem.Spec PyProof.Rows L2 DL
/-! ### the law's own making -/
abbrev vs3 : List Str := ["a", "b", "c"]
abbrev sl2 : List Str := ["m", "n"]
abbrev cl3 : List Str := ["f", "g", "h"]
def callsD : List D := [.tup [.str "f", .int 0], .tup [.str "g", .int 2], .tup [.str "h", .int 1]]
def kitD : D := .dic [.inr "values", .inr "slots", .inr "calls"] [.lst (vs3.map .str), .lst (sl2.map .str), .lst callsD]
theorem draw_k : DrawOk F_law_draw := fun hn hm hmb P => draw_ok (c1 := 71655) (c2 := 9247) (m1 := 2147483549) (m2 := 2147483563) (c3 := 60013) (m3 := 2147483587) (by omega) (by omega) (by omega) (by omega) (by omega) (by omega) (by omega) (by omega) (by omega) (by omega) (by omega) (by omega) hn hm hmb P
theorem kit_values {g : DX} {ρ : Rho} {S : Sto} (h : ρ[1]? = some (.val kitD)) : xDGet (xVar 1) (xC (.str "values")) ρ S = .ok (.lst (vs3.map .str)) S := by
  have e : xVar 1 ρ S = .ok kitD S := by unfold xVar; rw [h]
  unfold xDGet
  rw [e]
  rfl
theorem kit_slots {ρ : Rho} {S : Sto} (h : ρ[1]? = some (.val kitD)) : xDGet (xVar 1) (xC (.str "slots")) ρ S = .ok (.lst (sl2.map .str)) S := by
  have e : xVar 1 ρ S = .ok kitD S := by unfold xVar; rw [h]
  unfold xDGet
  rw [e]
  rfl
theorem kit_calls {ρ : Rho} {S : Sto} (h : ρ[1]? = some (.val kitD)) : xDGet (xVar 1) (xC (.str "calls")) ρ S = .ok (.lst callsD) S := by
  have e : xVar 1 ρ S = .ok kitD S := by unfold xVar; rw [h]
  unfold xDGet
  rw [e]
  rfl
theorem ok_lits : ∀ x ∈ vs3 ++ sl2 ++ cl3, okStr x := by
  intro x hx
  simp at hx
  rcases hx with h | h | h | h | h | h | h | h <;> rw [h] <;> exact okStr_lit _
/-- names that are known -/
def Scope (sc : List D) : Prop := sc.length ≤ 100 ∧ ∀ d ∈ sc, ∃ x, okStr x ∧ d = .str x
theorem Scope.lay {sc : List D} (h : Scope sc) : ∀ d ∈ sc, Lay 0 d := fun d hd => by
  obtain ⟨x, h1, h2⟩ := h.2 d hd
  rw [h2]
  exact Lay.str h1
theorem pick_k {L : List D} {n : Nat} {rest S : Sto} (hL : L ≠ []) (few : L.length < 1000000) (hn : n ≤ 1000000) (P : Pen n rest S) : ∃ x S', F_law_pick [.obj 0, .lst L] S = .ok x S' ∧ x ∈ L ∧ Pen (n + 1) rest S' := pick_ok draw_k hL few hn P
theorem mixed_k {L : List D} {n : Nat} {rest S : Sto} (few : L.length ≤ 1000) (hn : n + L.length ≤ 1000000) (P : Pen n rest S) : ∃ M S', F_law_mixed [.obj 0, .lst L] S = .ok (.lst M) S' ∧ M.Perm L ∧ Pen (n + L.length) rest S' := mixed_ok draw_k few hn P
theorem value_of {n : Nat} {rest S : Sto} (hn : n ≤ 1000000) (P : Pen n rest S) : ∃ v S', F_law_pick [.obj 0, .lst (vs3.map .str)] S = .ok (.str v) S' ∧ v ∈ vs3 ∧ Pen (n + 1) rest S' := by
  obtain ⟨x, S', e, hx, P'⟩ := pick_k (L := vs3.map .str) (by simp) (by simp) hn P
  obtain ⟨v, hv, rfl⟩ := List.mem_map.mp hx
  exact ⟨v, S', e, hv, P'⟩
theorem atom_ok {sc : List D} {n : Nat} {rest S : Sto} (hs : Scope sc) (hn : n + 2 ≤ 1000000) (P : Pen n rest S) : ∃ d S', F_law_atom [.obj 0, kitD, .lst sc] S = .ok d S' ∧ Atom vs3 d ∧ Pen (n + 2) rest S' := by
  have ne := oNe_emp (S := S) hs.lay
  have byValue : ∀ {S1 : Sto} {k : Nat}, k ≤ n + 1 → Pen k rest S1 → ∃ v S', F_law_pick [.obj 0, .lst (vs3.map .str)] S1 = .ok (.str v) S' ∧ Atom vs3 (.tup [.str "value", .str v]) ∧ Pen (n + 2) rest S' := fun {S1 k} hk P1 => by
    obtain ⟨v, S', e, hv, P'⟩ := value_of (by omega) P1
    exact ⟨v, S', e, .inr ⟨v, ok_lits v (List.mem_append_left _ (List.mem_append_left _ hv)), hv, rfl⟩, P'.mono (by omega)⟩
  have gv : ∀ S, xDGet (xVar 1) (xC (.str "values")) [.val (.obj 0), .val kitD, .val (.lst sc)] S = .ok (.lst (vs3.map .str)) S := fun S => kit_values (g := xC .non) rfl
  cases hsc : sc with
  | nil =>
    subst hsc
    obtain ⟨v, S', e, ha, P'⟩ := byValue (Nat.le_succ n) P
    refine ⟨_, S', ?_, ha, P'⟩
    simp only [List.isEmpty_nil, Bool.not_true] at ne
    simp [F_law_atom, fnD_s, g_law_atom, ne, gv, -xDGet_s]
    simp at e
    rw [e]
    rfl
  | cons x0 sc0 =>
    rw [← hsc]
    have ne2 : oNe S (.lst sc) (.lst []) = .ok (.bl true) S := by rw [ne, hsc]; rfl
    obtain ⟨v, S1, e1, v0, v1, P1⟩ := draw_k (m := 3) (by omega) (by omega) (by omega) P
    by_cases hv : 0 < v
    · obtain ⟨x, S2, e2, hx, P2⟩ := pick_k (L := sc) (by rw [hsc]; simp) (by have := hs.1; omega) (by omega) P1
      obtain ⟨y, hy, rfl⟩ := hs.2 x hx
      refine ⟨_, S2, ?_, .inl ⟨y, hy, rfl⟩, P2⟩
      simp [F_law_atom, fnD_s, g_law_atom, ne2, e1, hv, e2]
    · obtain ⟨w, S2, e2, ha, P2⟩ := byValue (Nat.le_refl _) P1
      refine ⟨_, S2, ?_, ha, P2⟩
      simp [F_law_atom, fnD_s, g_law_atom, ne2, e1, hv, gv, -xDGet_s]
      simp at e2
      rw [e2]
      rfl
end K02

set_option Elab.async false
set_option linter.all false
set_option maxRecDepth 100000
set_option maxHeartbeats 4000000
set_option autoImplicit false
namespace K02
open PySem PySem.Spec PyProof.Rows L2 DL
theorem slots_ne {S : Sto} : oNe S (.lst (sl2.map .str)) (.lst []) = .ok (.bl true) S := oNe_emp (n := 0) fun d hd => by
  obtain ⟨x, hx, rfl⟩ := List.mem_map.mp hd
  exact Lay.str (ok_lits x (List.mem_append_left _ (List.mem_append_right _ hx)))
theorem calls_ne {S : Sto} : oNe S (.lst callsD) (.lst []) = .ok (.bl true) S := oNe_emp (n := 1) fun d hd => by
  simp [callsD] at hd
  rcases hd with rfl | rfl | rfl <;> exact Lay.tup fun d hd => by
    simp at hd
    rcases hd with rfl | rfl
    · exact Lay.str (okStr_lit _)
    · exact Lay.int
theorem slot_of {n : Nat} {rest S : Sto} (hn : n ≤ 1000000) (P : Pen n rest S) : ∃ v S', F_law_pick [.obj 0, .lst (sl2.map .str)] S = .ok (.str v) S' ∧ okStr v ∧ Pen (n + 1) rest S' := by
  obtain ⟨x, S', e, hx, P'⟩ := pick_k (L := sl2.map .str) (by simp) (by simp) hn P
  obtain ⟨v, hv, rfl⟩ := List.mem_map.mp hx
  exact ⟨v, S', e, ok_lits v (List.mem_append_left _ (List.mem_append_right _ hv)), P'⟩
theorem hear_of {n : Nat} {rest S : Sto} {ρ : Rho} (h0 : ρ[0]? = some (.val (.obj 0))) (h1 : ρ[1]? = some (.val kitD)) (hn : n + 4 ≤ 1000000) (P : Pen n rest S) :
    ∃ (L : List Str) (S' : Sto), (xCall cTuple (xsCons (xCall cSorted (xsCons (xSl (xFn F_law_mixed (xsCons (xVal 0) (xsCons (xDGet (xVar 1) (xC (.str "values"))) (xsNil)))) (xoNone) (xoSome (xOp oAdd (xC (.int 1)) (xFn F_law_draw (xsCons (xVal 0) (xsCons (xCall cMin2 (xsCons (xC (.int 3)) (xsCons (xCall cLen (xsCons (xDGet (xVar 1) (xC (.str "values"))) (xsNil))) (xsNil)))) (xsNil))))))) (xsNil))) (xsNil))) ρ S =
      .ok (.tup (L.map .str)) S' ∧ (∀ v ∈ L, okStr v ∧ v ∈ vs3) ∧ L.length ≤ 3 ∧ Pen (n + 4) rest S' := by
  obtain ⟨M, S1, e1, pm, P1⟩ := mixed_k (L := vs3.map .str) (by simp) (by simp; omega) P
  have P1' : Pen (n + 3) rest S1 := P1
  obtain ⟨v, S2, e2, v0, v1, P2⟩ := draw_k (m := 3) (by omega) (by omega) (by omega) P1'
  obtain ⟨k, hk⟩ : ∃ k : Nat, 1 + v = (k : Int) := ⟨(1 + v).toNat, by omega⟩
  obtain ⟨ys, ey, hy⟩ := sub_strs (zs := vs3) (M := M.take k) fun d hd => pm.mem_iff.mp (List.mem_of_mem_take hd)
  have len : ys.length ≤ 3 := by
    have z := congrArg List.length ey
    rw [List.length_map, List.length_take, pm.length_eq] at z
    simp at z
    omega
  have gv : ∀ S, xDGet (xVar 1) (xC (.str "values")) ρ S = .ok (.lst (vs3.map .str)) S := fun S => kit_values (g := xC .non) h1
  have sl : slc S2 (.lst M) none (some (k : Int)) = .ok (.lst (ys.map .str)) S2 := by rw [slc_lst, ey]
  have so : cSorted S2 [.lst (ys.map .str)] = .ok (.lst ((srtS ys).map .str)) S2 := cSorted_s (by omega)
  refine ⟨srtS ys, S2, ?_, fun v hv => ?_, by rw [(srtS_perm ys).length_eq]; exact len, P2⟩
  · simp only [xCall_s, xsCons_s, xSl_s, xFn_s, xVal_s, h0, R.bind_ok1, xsNil_s, gv, e1, xoNone_s, xoSome_s, xOp_s, xC_s, cLen_lst, List.length_map]
    simp only [List.length_cons, List.length_nil]
    have c3 : cMin2 S1 [.int 3, .int ((0 + 1 + 1 + 1 : Nat) : Int)] = .ok (.int 3) S1 := rfl
    simp only [c3, R.bind_ok1, e2, oAdd_int, hk, sl, so, cTuple_lst]
  · have z := hy v ((srtS_perm ys).mem_iff.mp hv)
    exact ⟨ok_lits v (List.mem_append_left _ (List.mem_append_left _ z)), z⟩
theorem call_of {n : Nat} {rest S : Sto} {sc : List D} {w a6 : Slot} {name : Str} {many : Nat} (hs : Scope sc) (hm : many ≤ 2) (hn : n + 2 * many ≤ 1000000) (P : Pen n rest S) :
    ∃ as S', xsLc (iRg1 (xVal 5)) (gSet 6) (xC (.bl true)) (xFn F_law_atom (xsCons (xVal 0) (xsCons (xVal 1) (xsCons (xVal 2) (xsNil))))) [6] [.val (.obj 0), .val kitD, .val (.lst sc), w, .val (.str name), .val (.int (many : Nat)), a6] S = .ok as S' ∧
      (∀ a ∈ as, Atom vs3 a) ∧ as.length ≤ 2 ∧ Pen (n + 2 * many) rest S' := by
  obtain ⟨as, S', e, h1, h2, h3⟩ := lc_effR (fx := xVal 5) (g := gSet 6) (vs := [6]) (f := xFn F_law_atom (xsCons (xVal 0) (xsCons (xVal 1) (xsCons (xVal 2) (xsNil))))) (ρ := [.val (.obj 0), .val kitD, .val (.lst sc), w, .val (.str name), .val (.int (many : Nat)), a6]) (S := S) (S1 := S) (n := many) (by simp) (by omega)
    (fun i acc S => acc.length = i ∧ (∀ a ∈ acc, Atom vs3 a) ∧ Pen (n + 2 * i) rest S) ⟨rfl, by simp, P⟩ fun i x acc S hx ⟨h1, h2, h3⟩ => by
      have hi : i < many := by
        have z := (List.getElem?_eq_some_iff.mp hx).1
        rwa [rngL_len] at z
      obtain ⟨d, S', e, ha, P'⟩ := atom_ok hs (by omega) h3
      refine ⟨_, d, S', rfl, by simp [e], by rw [List.length_append, h1]; rfl, fun a ha2 => ?_, P'⟩
      rcases List.mem_append.mp ha2 with z | z
      · exact h2 a z
      · rw [List.mem_singleton.mp z]; exact ha
  exact ⟨as, S', e, h2, by omega, h3⟩
theorem leaf_ok {sc : List D} {n : Nat} {rest S : Sto} (hs : Scope sc) (hn : n + 8 ≤ 1000000) (P : Pen n rest S) : ∃ d S', F_law_leaf [.obj 0, kitD, .lst sc] S = .ok d S' ∧ Leaf vs3 cl3 d ∧ Pen (n + 8) rest S' := by
  obtain ⟨w, S1, e1, w0, w1, P1⟩ := draw_k (m := 9) (by omega) (by omega) (by omega) P
  have gs : ∀ S a b c d, xDGet (xVar 1) (xC (.str "slots")) [.val (.obj 0), .val kitD, .val (.lst sc), a, b, c, d] S = .ok (.lst (sl2.map .str)) S := fun S a b c d => kit_slots rfl
  have gc : ∀ S a b c d, xDGet (xVar 1) (xC (.str "calls")) [.val (.obj 0), .val kitD, .val (.lst sc), a, b, c, d] S = .ok (.lst callsD) S := fun S a b c d => kit_calls rfl
  have start : F_law_leaf [.obj 0, kitD, .lst sc] S = _ := fnD_s (S := S) (m := 4) (ds := [.obj 0, kitD, .lst sc]) (a := g_law_leaf F_law_draw F_law_atom F_law_pick F_law_mixed)
  rw [start]
  unfold g_law_leaf
  rw [sSeq_next (ρ1 := [.val (.obj 0), .val kitD, .val (.lst sc), .val (.int w), .non, .non, .non]) (S1 := S1) (by simp [e1])]
  by_cases c1 : w < 2
  · obtain ⟨d, S2, e2, ha, P2⟩ := atom_ok hs (by omega) P1
    exact ⟨d, S2, by rw [sSeq_ret (d := d) (S1 := S2) (by rw [sIf_true (S1 := S1) (by simp [c1])]; simp [e2])]; rfl, .atom ha, P2.mono (by omega)⟩
  rw [sSeq_next (ρ1 := [.val (.obj 0), .val kitD, .val (.lst sc), .val (.int w), .non, .non, .non]) (S1 := S1) (by rw [sIf_false (S1 := S1) (by simp; omega)]; rfl)]
  by_cases c2 : w = 2
  · obtain ⟨v, S2, e2, hv, P2⟩ := slot_of (by omega) P1
    have cond : (xAnd (xOp oEq (xVar 3) (xC (.int 2))) (xOp oNe (xDGet (xVar 1) (xC (.str "slots"))) (xLst (xsNil)))) [.val (.obj 0), .val kitD, .val (.lst sc), .val (.int w), .non, .non, .non] S1 = .ok (.bl true) S1 := by
      simp only [xAnd_s, xOp_s, gs]
      simp only [xVar_s, List.getElem?_cons_succ, List.getElem?_cons_zero, R.bind_ok1, xC_s, oEq_int, c2, decide_true, xLst_s, xsNil_s, slots_ne]
    exact ⟨_, S2, by rw [sSeq_ret (d := .tup [.str "get", .str v]) (S1 := S2) (by rw [sIf_true cond]; simp only [sRet_s, xTup_s, xsCons_s, xFn_s, gs, xsNil_s, xC_s, R.bind_ok1, xVal_s, List.getElem?_cons_zero, e2])]; rfl, .get hv, P2.mono (by omega)⟩
  rw [sSeq_next (ρ1 := [.val (.obj 0), .val kitD, .val (.lst sc), .val (.int w), .non, .non, .non]) (S1 := S1) (by rw [sIf_false (S1 := S1) (by simp [c2])]; rfl)]
  by_cases c3 : w < 5
  · obtain ⟨v, S2, e2, hv, P2⟩ := slot_of (by omega) P1
    obtain ⟨d, S3, e3, ha, P3⟩ := atom_ok hs (by omega) P2
    have cond : (xAnd (xOp oLt (xVar 3) (xC (.int 5))) (xOp oNe (xDGet (xVar 1) (xC (.str "slots"))) (xLst (xsNil)))) [.val (.obj 0), .val kitD, .val (.lst sc), .val (.int w), .non, .non, .non] S1 = .ok (.bl true) S1 := by
      simp only [xAnd_s, xOp_s, gs]
      simp only [xVar_s, List.getElem?_cons_succ, List.getElem?_cons_zero, R.bind_ok1, xC_s, oLt_int, decide_eq_true c3, xLst_s, xsNil_s, slots_ne]
    exact ⟨_, S3, by rw [sSeq_ret (d := .tup [.str "put", .str v, d]) (S1 := S3) (by rw [sIf_true cond]; simp only [sRet_s, xTup_s, xsCons_s, xFn_s, gs, xsNil_s, xC_s, R.bind_ok1, xVal_s, List.getElem?_cons_zero, List.getElem?_cons_succ, e2, e3])]; rfl, .put hv ha, P3.mono (by omega)⟩
  rw [sSeq_next (ρ1 := [.val (.obj 0), .val kitD, .val (.lst sc), .val (.int w), .non, .non, .non]) (S1 := S1) (by rw [sIf_false (S1 := S1) (by simp [c3])]; rfl)]
  by_cases c4 : w = 5
  · obtain ⟨L, S2, e2, hL, len, P2⟩ := hear_of (ρ := [.val (.obj 0), .val kitD, .val (.lst sc), .val (.int w), .non, .non, .non]) rfl rfl (by omega) P1
    refine ⟨_, S2, by rw [sSeq_ret (d := .tup [.str "hear", .tup (L.map .str)]) (S1 := S2) (by rw [sIf_true (S1 := S1) (by simp [c4])]; rw [sRet_s, xTup_s, xsCons_s, xC_s, R.bind_ok1, xsCons_s, e2]; rfl)]; rfl, .hear hL len, P2.mono (by omega)⟩
  rw [sSeq_next (ρ1 := [.val (.obj 0), .val kitD, .val (.lst sc), .val (.int w), .non, .non, .non]) (S1 := S1) (by rw [sIf_false (S1 := S1) (by simp [c4])]; rfl)]
  by_cases c5 : w = 6
  · obtain ⟨x, S2, e2, hx, P2⟩ := pick_k (L := callsD) (by simp [callsD]) (by simp [callsD]) (by omega) P1
    have shape : ∃ (name : Str) (many : Nat), x = .tup [.str name, .int (many : Nat)] ∧ many ≤ 2 ∧ okStr name ∧ name ∈ cl3 := by
      simp [callsD] at hx
      rcases hx with rfl | rfl | rfl
      · exact ⟨"f", 0, rfl, by omega, okStr_lit _, by simp⟩
      · exact ⟨"g", 2, rfl, by omega, okStr_lit _, by simp⟩
      · exact ⟨"h", 1, rfl, by omega, okStr_lit _, by simp⟩
    obtain ⟨name, many, rfl, hm, ok, hmem⟩ := shape
    obtain ⟨as, S3, e3, ha, len, P3⟩ := call_of (w := .val (.int w)) (a6 := .non) (name := name) hs hm (by omega) P2
    have cond : (xAnd (xOp oEq (xVar 3) (xC (.int 6))) (xOp oNe (xDGet (xVar 1) (xC (.str "calls"))) (xLst (xsNil)))) [.val (.obj 0), .val kitD, .val (.lst sc), .val (.int w), .non, .non, .non] S1 = .ok (.bl true) S1 := by
      simp only [xAnd_s, xOp_s, gc]
      simp only [xVar_s, List.getElem?_cons_succ, List.getElem?_cons_zero, R.bind_ok1, xC_s, oEq_int, c5, decide_true, xLst_s, xsNil_s, calls_ne]
    refine ⟨.tup [.str "call", .str name, .tup as], S3, ?_, .call ok hmem ha len, P3.mono (by omega)⟩
    rw [sSeq_ret (d := .tup [.str "call", .str name, .tup as]) (S1 := S3)]
    · rfl
    · rw [sIf_true cond, sSeq_next (ρ1 := [.val (.obj 0), .val kitD, .val (.lst sc), .val (.int w), .val (.str name), .val (.int (many : Nat)), .non]) (S1 := S2) (by
        simp only [sUnp_s, xFn_s, xsCons_s, gc, xsNil_s, R.bind_ok1, xVal_s, List.getElem?_cons_zero, e2]
        rfl)]
      simp only [sRet_s, xTup_s, xsCons_s, xC_s, R.bind_ok1, xVal_s, List.getElem?_cons_zero, List.getElem?_cons_succ, xCall_s, xOfZ_s, zL_s, e3, xsNil_s, cTuple_lst]
  rw [sSeq_next (ρ1 := [.val (.obj 0), .val kitD, .val (.lst sc), .val (.int w), .non, .non, .non]) (S1 := S1) (by rw [sIf_false (S1 := S1) (by simp [c5])]; rfl)]
  obtain ⟨d, S2, e2, ha, P2⟩ := atom_ok hs (by omega) P1
  exact ⟨.tup [.str "say", d], S2, by simp [e2], .say ha, P2.mono (by omega)⟩
end K02

set_option Elab.async false
set_option linter.all false
set_option maxRecDepth 100000
set_option maxHeartbeats 4000000
set_option autoImplicit false
namespace K02
open PySem PySem.Spec PyProof.Rows L2 DL
section
variable {V C : List Str}
/-! ### the size -/
def deepF : Nat → D → Int
  | 0, _ => 1
  | n + 1, d => 1 + maxI 0 ((kidsOf d).map (deepF n))
def szF (n : Nat) (d : D) : D := .tup [.int (pre n d).length, .int (deepF n d)]
theorem sumI_flat {n : Nat} : ∀ ks : List D, sumI (ks.map fun k => (((pre n k).length : Nat) : Int)) = (((ks.flatMap (pre n)).length : Nat) : Int)
  | [] => rfl
  | k :: ks => by
    rw [List.map_cons, List.flatMap_cons, List.length_append]
    show (((pre n k).length : Nat) : Int) + sumI (ks.map fun k => (((pre n k).length : Nat) : Int)) = _
    rw [sumI_flat ks]
    omega
@[simp] theorem cSum_s {S : Sto} {is : List Int} : cSum S [.lst (is.map .int)] = .ok (.int (sumI is)) S := by
  unfold cSum
  simp only [lstOf, intsOf_map]
theorem cMax_s {S : Sto} {i : Int} {is : List Int} : cMax S [.lst (.int i :: is.map .int)] = .ok (.int (maxI i is)) S := by
  have e : D.int i :: is.map D.int = (i :: is).map D.int := rfl
  unfold cMax
  rw [e]
  simp only [lstOf, intsOf_map]
theorem size_ok : ∀ {n fu : Nat} {d : D} {S : Sto}, Wf V C n d → n < fu → F_law_size fu [d] S = .ok (szF n d) S
  | n, 0, d, S, h, hf => by omega
  | n, fu + 1, d, S, h, hf => by
    obtain ⟨ks, hk⟩ := h.kids
    have ek := hk.eq
    subst ek
    have hli := linner_ok (S := S) hk
    have few := hk.few
    have fin : ∀ (f : D → D) (g1 : D → Int) (g2 : D → Int), (∀ k ∈ kidsOf d, F_law_size fu [k] S = .ok (f k) S) → (∀ k, f k = .tup [.int (g1 k), .int (g2 k)]) →
        F_law_size (fu + 1) [d] S = .ok (.tup [.int (1 + sumI ((kidsOf d).map g1)), .int (1 + maxI 0 ((kidsOf d).map g2))]) S := fun f g1 g2 hf he => by
      have z1 := lc_mapL (fx := xFn F_law_inner (xsCons (xVal 0) xsNil)) (f := xFn (F_law_size fu) (xsCons (xVal 2) xsNil)) (g := gSet 2) (vs := [2]) (ρ := [.val d, .non, .non, .non, .non]) (S := S) (S1 := S) (L := kidsOf d) f (by simp [hli]) fun k hk => ⟨_, rfl, by simp [hf k hk]⟩
      have z2 := lc_mapL (fx := xVar 1) (f := xVal 3) (g := gTupD (gsCons (gSet 3) (gsCons (gSet 4) gsNil))) (vs := [3, 4]) (ρ := [.val d, .val (.lst ((kidsOf d).map f)), .non, .non, .non]) (S := S) (S1 := S) (L := (kidsOf d).map f) (fun t => match t with | .tup [a, _] => a | t => t) (by simp) fun x hx => by
        obtain ⟨k, _, rfl⟩ := List.mem_map.mp hx
        exact ⟨_, by rw [he k]; rfl, by rw [he k]; rfl⟩
      have z3 := lc_mapL (fx := xVar 1) (f := xVal 4) (g := gTupD (gsCons (gSet 3) (gsCons (gSet 4) gsNil))) (vs := [3, 4]) (ρ := [.val d, .val (.lst ((kidsOf d).map f)), .non, .non, .non]) (S := S) (S1 := S) (L := (kidsOf d).map f) (fun t => match t with | .tup [_, a] => a | t => t) (by simp) fun x hx => by
        obtain ⟨k, _, rfl⟩ := List.mem_map.mp hx
        exact ⟨_, by rw [he k]; rfl, by rw [he k]; rfl⟩
      have m2 : ((kidsOf d).map f).map (fun t => match t with | .tup [a, _] => a | t => t) = ((kidsOf d).map g1).map D.int := by
        rw [List.map_map, List.map_map]
        exact List.map_congr_left fun k _ => by simp [he k]
      have m3 : ((kidsOf d).map f).map (fun t => match t with | .tup [_, a] => a | t => t) = ((kidsOf d).map g2).map D.int := by
        rw [List.map_map, List.map_map]
        exact List.map_congr_left fun k _ => by simp [he k]
      rw [m2] at z2
      rw [m3] at z3
      have ad : oAdd S (.lst [.int 0]) (.lst (((kidsOf d).map g2).map D.int)) = .ok (.lst (.int 0 :: ((kidsOf d).map g2).map D.int)) S := by
        show (if fits ([D.int 0].length + (((kidsOf d).map g2).map D.int).length) then _ else _) = _
        rw [if_pos (fits_small (by simp; omega))]
        rfl
      have start : F_law_size (fu + 1) [d] S = _ := fnD_s (S := S) (m := 4) (ds := [d]) (a := g_law_size F_law_inner (F_law_size fu))
      rw [start]
      unfold g_law_size
      rw [sSeq_next (ρ1 := [.val d, .val (.lst ((kidsOf d).map f)), .non, .non, .non]) (S1 := S) (by rw [sLet_s, zV_s, xOfZ_s, zL_s]; show ((((xsLc _ _ _ _ _ [.val d, .non, .non, .non, .non] S).bind _).bind _).bind _).bind _ = _; rw [z1]; rfl)]
      simp only [sRet_s, xTup_s, xsCons_s, xOp_s, xC_s, R.bind_ok1, xCall_s, xOfZ_s, zL_s, z2, z3, xsNil_s, cSum_s, oAdd_int, xLst_s, ad, cMax_s]
    cases n with
    | zero =>
      have e0 := kidsOf_leaf h
      have z := fin (fun _ => .tup [.int 0, .int 0]) (fun _ => 0) (fun _ => 0) (fun k hk => by rw [e0] at hk; cases hk) (fun _ => rfl)
      rw [z, e0]
      rfl
    | succ n =>
      rw [fin (szF n) (fun k => (((pre n k).length : Nat) : Int)) (deepF n) (fun k hk2 => size_ok (hk.wf k hk2) (by omega)) (fun _ => rfl), sumI_flat]
      unfold szF
      simp only [pre, List.length_cons, deepF]
      have c : 1 + ((((kidsOf d).flatMap (pre n)).length : Nat) : Int) = ((((kidsOf d).flatMap (pre n)).length + 1 : Nat) : Int) := by omega
      rw [c]
end
end K02

set_option Elab.async false
set_option linter.all false
set_option maxRecDepth 100000
set_option maxHeartbeats 4000000
set_option autoImplicit false
namespace K02
open PySem PySem.Spec PyProof.Rows L2 DL
def Bd : Nat → Nat
  | 0 => 10
  | n + 1 => 20 + 6 * Bd n
theorem Wf.leaf {V C : List Str} {n : Nat} {d : D} (h : Leaf V C d) : Wf V C n d := by
  cases n with
  | zero => exact h
  | succ n => exact .inl h
theorem strs_of {L : List Str} (h : ∀ x ∈ L, okStr x) {n : Nat} {rest S : Sto} (hL : L ≠ []) (few : L.length < 1000) (hn : n ≤ 1000000) (P : Pen n rest S) : ∃ v S', F_law_pick [.obj 0, .lst (L.map .str)] S = .ok (.str v) S' ∧ okStr v ∧ Pen (n + 1) rest S' := by
  obtain ⟨x, S', e, hx, P'⟩ := pick_k (L := L.map .str) (by simpa using hL) (by simp; omega) hn P
  obtain ⟨v, hv, rfl⟩ := List.mem_map.mp hx
  exact ⟨v, S', e, h v hv, P'⟩
theorem int_of {L : List Nat} {b : Nat} (h : ∀ x ∈ L, x ≤ b) {n : Nat} {rest S : Sto} (hL : L ≠ []) (few : L.length < 1000) (hn : n ≤ 1000000) (P : Pen n rest S) : ∃ (v : Nat) (S' : Sto), F_law_pick [.obj 0, .lst (L.map fun x => .int (x : Nat))] S = .ok (.int (v : Nat)) S' ∧ v ≤ b ∧ Pen (n + 1) rest S' := by
  obtain ⟨x, S', e, hx, P'⟩ := pick_k (L := L.map fun x => .int (x : Nat)) (by simpa using hL) (by simp; omega) hn P
  obtain ⟨v, hv, rfl⟩ := List.mem_map.mp hx
  exact ⟨v, S', e, h v hv, P'⟩
/-- what a body at depth k does -/
def BodyAt (F : DFn) (k : Nat) : Prop := ∀ {n : Nat} {sc : List D} {rest S : Sto}, Scope sc → sc.length + k ≤ 90 → n + Bd k ≤ 1000000 → Pen n rest S → ∃ d S', F [.obj 0, kitD, .lst sc, .int (k : Nat)] S = .ok d S' ∧ Wf vs3 cl3 k d ∧ Pen (n + Bd k) rest S'
theorem Scope.add {sc : List D} {x : Str} (h : Scope sc) (hx : okStr x) (hl : sc.length + 1 ≤ 90) : Scope (sc ++ [.str x]) := ⟨by simp; omega, fun d hd => by
  rcases List.mem_append.mp hd with z | z
  · exact h.2 d z
  · rw [List.mem_singleton.mp z]; exact ⟨x, hx, rfl⟩⟩
/-- the arms -/
theorem arms_of {F : DFn} {k : Nat} (hF : BodyAt F k) {sc : List D} {n m : Nat} {rest S : Sto} {fx : DX} {deep : D} {w a5 a6 a7 a8 a9 : Slot} {L : List D} {S1 : Sto} (hs : Scope sc) (hl : sc.length + (k + 1) ≤ 90) (hd : deep = .int ((k : Int) + 1)) (hL : ∀ d ∈ L, ∃ x, okStr x ∧ d = .str x) (few : L.length ≤ m) (hn : n + m * Bd k ≤ 1000000)
    (e : fx [.val (.obj 0), .val kitD, .val (.lst sc), .val deep, w, a5, a6, a7, a8, a9] S = .ok (.lst L) S1) (P : Pen n rest S1) :
    ∃ rows S', xsLc (iSeq fx) (gSet 8) (xC (.bl true)) (xTup (xsCons (xVal 8) (xsCons (xFn F (xsCons (xVal 0) (xsCons (xVal 1) (xsCons (xVal 2) (xsCons (xOp oSub (xVar 3) (xC (.int 1))) (xsNil)))))) (xsNil)))) [8] [.val (.obj 0), .val kitD, .val (.lst sc), .val deep, w, a5, a6, a7, a8, a9] S = .ok rows S' ∧
      rows.length = L.length ∧ (∀ r ∈ rows, ∃ v x, r = .tup [.str v, x] ∧ okStr v ∧ Wf vs3 cl3 k x) ∧ Pen (n + m * Bd k) rest S' := by
  subst hd
  obtain ⟨rows, S', h, h1, h2, h3⟩ := lc_effL (f := xTup (xsCons (xVal 8) (xsCons (xFn F (xsCons (xVal 0) (xsCons (xVal 1) (xsCons (xVal 2) (xsCons (xOp oSub (xVar 3) (xC (.int 1))) (xsNil)))))) (xsNil)))) (g := gSet 8) (vs := [8]) e
    (fun i acc S => acc.length = i ∧ (∀ r ∈ acc, ∃ v x, r = .tup [.str v, x] ∧ okStr v ∧ Wf vs3 cl3 k x) ∧ Pen (n + i * Bd k) rest S) ⟨rfl, by simp, by simpa using P⟩ fun i x acc S hx ⟨h1, h2, h3⟩ => by
      obtain ⟨y, hy, rfl⟩ := hL x (List.mem_of_getElem? hx)
      have hi := (List.getElem?_eq_some_iff.mp hx).1
      have him : i + 1 ≤ m := by omega
      have hmul : (i + 1) * Bd k ≤ m * Bd k := Nat.mul_le_mul_right _ him
      rw [Nat.succ_mul] at hmul
      obtain ⟨d, S', ed, wd, P'⟩ := hF hs (by omega) (by omega) h3
      refine ⟨_, .tup [.str y, d], S', rfl, ?_, by rw [List.length_append, h1]; rfl, fun r hr => ?_, by rw [Nat.succ_mul, ← Nat.add_assoc]; exact P'⟩
      · have c : (k : Int) + 1 - 1 = (k : Int) := by omega
        simp [c, ed]
      · rcases List.mem_append.mp hr with z | z
        · exact h2 r z
        · rw [List.mem_singleton.mp z]; exact ⟨y, d, rfl, hy, wd⟩
  exact ⟨rows, S', h, h1, h2, h3.mono (by have := Nat.mul_le_mul_right (Bd k) few; omega)⟩
/-- the rows of a try -/
theorem rows_of {F : DFn} {k : Nat} (hF : BodyAt F k) {sc : List D} {n m : Nat} {rest S : Sto} {fx : DX} {deep : D} {w a5 a6 a7 a8 a9 : Slot} {L : List D} {S1 : Sto} (hs : Scope sc) (hl : sc.length + (k + 1) ≤ 90) (hd : deep = .int ((k : Int) + 1)) (hL : ∀ d ∈ L, ∃ x, okStr x ∧ d = .str x) (few : L.length ≤ m) (hn : n + m * Bd k ≤ 1000000)
    (e : fx [.val (.obj 0), .val kitD, .val (.lst sc), .val deep, w, a5, a6, a7, a8, a9] S = .ok (.lst L) S1) (P : Pen n rest S1) :
    ∃ rows S', xsLc (iSeq fx) (gSet 9) (xC (.bl true)) (xTup (xsCons (xVal 9) (xsCons (xC (.str "x")) (xsCons (xFn F (xsCons (xVal 0) (xsCons (xVal 1) (xsCons (xOp oAdd (xVar 2) (xLst (xsCons (xC (.str "x")) (xsNil)))) (xsCons (xOp oSub (xVar 3) (xC (.int 1))) (xsNil)))))) (xsNil))))) [9] [.val (.obj 0), .val kitD, .val (.lst sc), .val deep, w, a5, a6, a7, a8, a9] S = .ok rows S' ∧
      rows.length = L.length ∧ (∀ r ∈ rows, ∃ v y x, r = .tup [.str v, .str y, x] ∧ okStr v ∧ okStr y ∧ Wf vs3 cl3 k x) ∧ Pen (n + m * Bd k) rest S' := by
  subst hd
  obtain ⟨rows, S', h, h1, h2, h3⟩ := lc_effL (f := xTup (xsCons (xVal 9) (xsCons (xC (.str "x")) (xsCons (xFn F (xsCons (xVal 0) (xsCons (xVal 1) (xsCons (xOp oAdd (xVar 2) (xLst (xsCons (xC (.str "x")) (xsNil)))) (xsCons (xOp oSub (xVar 3) (xC (.int 1))) (xsNil)))))) (xsNil))))) (g := gSet 9) (vs := [9]) e
    (fun i acc S => acc.length = i ∧ (∀ r ∈ acc, ∃ v y x, r = .tup [.str v, .str y, x] ∧ okStr v ∧ okStr y ∧ Wf vs3 cl3 k x) ∧ Pen (n + i * Bd k) rest S) ⟨rfl, by simp, by simpa using P⟩ fun i x acc S hx ⟨h1, h2, h3⟩ => by
      obtain ⟨y, hy, rfl⟩ := hL x (List.mem_of_getElem? hx)
      have hi := (List.getElem?_eq_some_iff.mp hx).1
      have him : i + 1 ≤ m := by omega
      have hmul : (i + 1) * Bd k ≤ m * Bd k := Nat.mul_le_mul_right _ him
      rw [Nat.succ_mul] at hmul
      obtain ⟨d, S', ed, wd, P'⟩ := hF (hs.add (okStr_lit "x") (by omega)) (by rw [List.length_append, List.length_singleton]; omega) (by omega) h3
      have ad : ∀ S, oAdd S (.lst sc) (.lst [.str "x"]) = .ok (.lst (sc ++ [.str "x"])) S := fun S => by
        show (if fits (sc.length + [D.str "x"].length) then _ else _) = _
        rw [if_pos (fits_small (by have := hs.1; simp; omega))]
      refine ⟨_, .tup [.str y, .str "x", d], S', rfl, ?_, by rw [List.length_append, h1]; rfl, fun r hr => ?_, by rw [Nat.succ_mul, ← Nat.add_assoc]; exact P'⟩
      · have c : (k : Int) + 1 - 1 = (k : Int) := by omega
        simp [c, ad, ed]
      · rcases List.mem_append.mp hr with z | z
        · exact h2 r z
        · rw [List.mem_singleton.mp z]; exact ⟨y, "x", d, rfl, hy, okStr_lit _, wd⟩
  exact ⟨rows, S', h, h1, h2, h3.mono (by have := Nat.mul_le_mul_right (Bd k) few; omega)⟩
end K02

set_option Elab.async false
set_option linter.all false
set_option maxRecDepth 100000
set_option maxHeartbeats 4000000
set_option autoImplicit false
namespace K02
open PySem PySem.Spec PyProof.Rows L2 DL
theorem body_zero {fu n : Nat} {sc : List D} {rest S : Sto} (hs : Scope sc) (hn : n + 10 ≤ 1000000) (P : Pen n rest S) : ∃ d S', F_law_body (fu + 1) [.obj 0, kitD, .lst sc, .int 0] S = .ok d S' ∧ Wf vs3 cl3 0 d ∧ Pen (n + 10) rest S' := by
  obtain ⟨w, S1, e1, w0, w1, P1⟩ := draw_k (m := 8) (by omega) (by omega) (by omega) P
  obtain ⟨d, S2, e2, hd, P2⟩ := leaf_ok hs (by omega) P1
  have start : F_law_body (fu + 1) [.obj 0, kitD, .lst sc, .int 0] S = _ := fnD_s (S := S) (m := 6) (ds := [.obj 0, kitD, .lst sc, .int 0]) (a := g_law_body F_law_draw F_law_leaf F_law_pick (F_law_body fu) F_law_mixed F_law_atom)
  rw [start]
  unfold g_law_body
  rw [sSeq_next (ρ1 := [.val (.obj 0), .val kitD, .val (.lst sc), .val (.int 0), .val (.int w), .non, .non, .non, .non, .non]) (S1 := S1) (by simp [e1])]
  exact ⟨d, S2, by rw [sSeq_ret (d := d) (S1 := S2) (by rw [sIf_true (S1 := S1) (by simp)]; simp [e2])]; rfl, hd, P2.mono (by omega)⟩
theorem body_succ {fu k n : Nat} {sc : List D} {rest S : Sto} (hF : BodyAt (F_law_body fu) k) (hs : Scope sc) (hl : sc.length + (k + 1) ≤ 90) (hn : n + Bd (k + 1) ≤ 1000000) (P : Pen n rest S) :
    ∃ d S', F_law_body (fu + 1) [.obj 0, kitD, .lst sc, .int ((k : Int) + 1)] S = .ok d S' ∧ Wf vs3 cl3 (k + 1) d ∧ Pen (n + Bd (k + 1)) rest S' := by
  have hb : Bd (k + 1) = 20 + 6 * Bd k := rfl
  obtain ⟨w, S1, e1, w0, w1, P1⟩ := draw_k (m := 8) (by omega) (by omega) (by omega) P
  have start : F_law_body (fu + 1) [.obj 0, kitD, .lst sc, .int ((k : Int) + 1)] S = _ := fnD_s (S := S) (m := 6) (ds := [.obj 0, kitD, .lst sc, .int ((k : Int) + 1)]) (a := g_law_body F_law_draw F_law_leaf F_law_pick (F_law_body fu) F_law_mixed F_law_atom)
  rw [start]
  unfold g_law_body
  rw [sSeq_next (ρ1 := [.val (.obj 0), .val kitD, .val (.lst sc), .val (.int ((k : Int) + 1)), .val (.int w), .non, .non, .non, .non, .non]) (S1 := S1) (by simp [e1])]
  have k1 : ¬ (k : Int) + 1 = 0 := by omega
  have down : (k : Int) + 1 - 1 = (k : Int) := by omega
  by_cases c0 : w = 0
  · obtain ⟨d, S2, e2, hd, P2⟩ := leaf_ok hs (by omega) P1
    exact ⟨d, S2, by rw [sSeq_ret (d := d) (S1 := S2) (by rw [sIf_true (S1 := S1) (by simp [k1, c0])]; simp [e2])]; rfl, Wf.leaf hd, P2.mono (by omega)⟩
  rw [sSeq_next (ρ1 := [.val (.obj 0), .val kitD, .val (.lst sc), .val (.int ((k : Int) + 1)), .val (.int w), .non, .non, .non, .non, .non]) (S1 := S1) (by rw [sIf_false (S1 := S1) (by simp [k1, c0])]; rfl)]
  by_cases c1 : w < 5
  · obtain ⟨v, S2, e2, hv, P2⟩ := strs_of (L := ["x", "y", "z"]) (by intro x hx; simp at hx; rcases hx with h | h | h <;> rw [h] <;> exact okStr_lit _) (by simp) (by simp) (by omega) P1
    obtain ⟨a, S3, e3, wa, P3⟩ := hF hs (by omega) (by omega) P2
    obtain ⟨b, S4, e4, wb, P4⟩ := hF (hs.add hv (by omega)) (by rw [List.length_append, List.length_singleton]; omega) (by omega) P3
    have ad : ∀ S, oAdd S (.lst sc) (.lst [.str v]) = .ok (.lst (sc ++ [.str v])) S := fun S => by
      show (if fits (sc.length + [D.str v].length) then _ else _) = _
      rw [if_pos (fits_small (by have := hs.1; simp; omega))]
    refine ⟨.tup [.str "let", .str v, a, b], S4, ?_, .inr (.inl ⟨v, a, b, rfl, hv, wa, wb⟩), P4.mono (by omega)⟩
    rw [sSeq_ret (d := .tup [.str "let", .str v, a, b]) (S1 := S4)]
    · rfl
    · rw [sIf_true (S1 := S1) (by simp [c1]), sSeq_next (ρ1 := [.val (.obj 0), .val kitD, .val (.lst sc), .val (.int ((k : Int) + 1)), .val (.int w), .val (.str v), .non, .non, .non, .non]) (S1 := S2) (by simp at e2; simp [e2])]
      simp [down, e3, ad, e4]
  rw [sSeq_next (ρ1 := [.val (.obj 0), .val kitD, .val (.lst sc), .val (.int ((k : Int) + 1)), .val (.int w), .non, .non, .non, .non, .non]) (S1 := S1) (by rw [sIf_false (S1 := S1) (by simp; omega)]; rfl)]
  by_cases c5 : w = 5
  · obtain ⟨M, S2, e2, pm, P2⟩ := mixed_k (L := (["a", "b", "c", "zy", "zz"] : List Str).map .str) (by simp) (by simp; omega) P1
    have P2' : Pen (n + 6) rest S2 := P2
    obtain ⟨v, S3, e3, hv, P3⟩ := int_of (L := [0, 0, 1, 1, 2, 3]) (b := 3) (by intro x hx; simp at hx; omega) (by simp) (by simp) (by omega) P2'
    have gv : ∀ S, xDGet (xVar 1) (xC (.str "values")) [.val (.obj 0), .val kitD, .val (.lst sc), .val (.int ((k : Int) + 1)), .val (.int w), .non, .non, .non, .non, .non] S = .ok (.lst (vs3.map .str)) S := fun S => kit_values (g := xC .non) rfl
    have ad : oAdd S1 (.lst (vs3.map .str)) (.lst [.str "zy", .str "zz"]) = .ok (.lst ((["a", "b", "c", "zy", "zz"] : List Str).map .str)) S1 := rfl
    have cv : (1 : Int) + (v : Int) = ((1 + v : Nat) : Int) := by omega
    have ex : (xSl (xFn F_law_mixed (xsCons (xVal 0) (xsCons (xOp oAdd (xDGet (xVar 1) (xC (.str "values"))) (xLst (xsCons (xC (.str "zy")) (xsCons (xC (.str "zz")) (xsNil))))) (xsNil)))) (xoNone) (xoSome (xOp oAdd (xC (.int 1)) (xFn F_law_pick (xsCons (xVal 0) (xsCons (xLst (xsCons (xC (.int 0)) (xsCons (xC (.int 0)) (xsCons (xC (.int 1)) (xsCons (xC (.int 1)) (xsCons (xC (.int 2)) (xsCons (xC (.int 3)) (xsNil)))))))) (xsNil))))))) [.val (.obj 0), .val kitD, .val (.lst sc), .val (.int ((k : Int) + 1)), .val (.int w), .non, .non, .non, .non, .non] S1 = .ok (.lst (M.take (1 + v))) S3 := by
      simp only [xSl_s, xFn_s, xsCons_s, xVal_s, List.getElem?_cons_zero, R.bind_ok1, xOp_s, gv, xLst_s, xC_s, xsNil_s, ad, e2, xoNone_s, xoSome_s]
      simp at e3
      simp only [e3, R.bind_ok1, oAdd_int, cv, slc_lst]
    obtain ⟨rows, S4, e4, len, hr, P4⟩ := arms_of (m := 4) (deep := .int ((k : Int) + 1)) (w := .val (.int w)) (a5 := .non) (a6 := .non) (a7 := .non) (a8 := .non) (a9 := .non) hF hs hl rfl (fun d hd => by
      have z := pm.mem_iff.mp (List.mem_of_mem_take hd)
      obtain ⟨x, hx, rfl⟩ := List.mem_map.mp z
      refine ⟨x, ?_, rfl⟩
      simp at hx
      rcases hx with h | h | h | h | h <;> rw [h] <;> exact okStr_lit _) (by rw [List.length_take]; omega) (by omega) ex P3
    obtain ⟨a, S5, e5, ha, P5⟩ := atom_ok hs (by omega) P4
    obtain ⟨b, S6, e6, wb, P6⟩ := hF hs (by omega) (by omega) P5
    refine ⟨.tup [.str "pick", a, .tup rows, b], S6, ?_, .inr (.inr (.inl ⟨a, rows, b, rfl, ha, by rw [len, List.length_take]; omega, hr, wb⟩)), P6.mono (by omega)⟩
    rw [sSeq_ret (d := .tup [.str "pick", a, .tup rows, b]) (S1 := S6)]
    · rfl
    · rw [sIf_true (S1 := S1) (by simp [c5]), sSeq_next (ρ1 := [.val (.obj 0), .val kitD, .val (.lst sc), .val (.int ((k : Int) + 1)), .val (.int w), .non, .val (.lst rows), .non, .non, .non]) (S1 := S4) (by rw [sLet_s, zV_s, xOfZ_s, zL_s, e4]; rfl)]
      simp [down, e5, e6]
  rw [sSeq_next (ρ1 := [.val (.obj 0), .val kitD, .val (.lst sc), .val (.int ((k : Int) + 1)), .val (.int w), .non, .non, .non, .non, .non]) (S1 := S1) (by rw [sIf_false (S1 := S1) (by simp [c5])]; rfl)]
  by_cases c6 : w = 6
  · obtain ⟨M, S2, e2, pm, P2⟩ := mixed_k (L := (["bad", "odd", "rare", "sad"] : List Str).map .str) (by simp) (by simp; omega) P1
    have P2' : Pen (n + 5) rest S2 := P2
    obtain ⟨v, S3, e3, hv, P3⟩ := int_of (L := [0, 0, 1, 3]) (b := 3) (by intro x hx; simp at hx; omega) (by simp) (by simp) (by omega) P2'
    have cv : (1 : Int) + (v : Int) = ((1 + v : Nat) : Int) := by omega
    have ex : (xSl (xFn F_law_mixed (xsCons (xVal 0) (xsCons (xLst (xsCons (xC (.str "bad")) (xsCons (xC (.str "odd")) (xsCons (xC (.str "rare")) (xsCons (xC (.str "sad")) (xsNil)))))) (xsNil)))) (xoNone) (xoSome (xOp oAdd (xC (.int 1)) (xFn F_law_pick (xsCons (xVal 0) (xsCons (xLst (xsCons (xC (.int 0)) (xsCons (xC (.int 0)) (xsCons (xC (.int 1)) (xsCons (xC (.int 3)) (xsNil)))))) (xsNil))))))) [.val (.obj 0), .val kitD, .val (.lst sc), .val (.int ((k : Int) + 1)), .val (.int w), .non, .non, .non, .non, .non] S1 = .ok (.lst (M.take (1 + v))) S3 := by
      simp at e2
      simp only [xSl_s, xFn_s, xsCons_s, xVal_s, List.getElem?_cons_zero, R.bind_ok1, xOp_s, xLst_s, xC_s, xsNil_s, e2, xoNone_s, xoSome_s]
      simp at e3
      simp only [e3, R.bind_ok1, oAdd_int, cv, slc_lst]
    obtain ⟨rows, S4, e4, len, hr, P4⟩ := rows_of (m := 4) (deep := .int ((k : Int) + 1)) (w := .val (.int w)) (a5 := .non) (a6 := .non) (a7 := .non) (a8 := .non) (a9 := .non) hF hs hl rfl (fun d hd => by
      have z := pm.mem_iff.mp (List.mem_of_mem_take hd)
      obtain ⟨x, hx, rfl⟩ := List.mem_map.mp z
      refine ⟨x, ?_, rfl⟩
      simp at hx
      rcases hx with h | h | h | h <;> rw [h] <;> exact okStr_lit _) (by rw [List.length_take]; omega) (by omega) ex P3
    obtain ⟨b, S6, e6, wb, P6⟩ := hF hs (by omega) (by omega) P4
    refine ⟨.tup [.str "try", b, .tup rows], S6, ?_, .inr (.inr (.inr ⟨b, rows, rfl, wb, by rw [len, List.length_take]; omega, hr⟩)), P6.mono (by omega)⟩
    rw [sSeq_ret (d := .tup [.str "try", b, .tup rows]) (S1 := S6)]
    · rfl
    · rw [sIf_true (S1 := S1) (by simp [c6]), sSeq_next (ρ1 := [.val (.obj 0), .val kitD, .val (.lst sc), .val (.int ((k : Int) + 1)), .val (.int w), .non, .non, .val (.lst rows), .non, .non]) (S1 := S4) (by rw [sLet_s, zV_s, xOfZ_s, zL_s, e4]; rfl)]
      simp [down, e6]
  rw [sSeq_next (ρ1 := [.val (.obj 0), .val kitD, .val (.lst sc), .val (.int ((k : Int) + 1)), .val (.int w), .non, .non, .non, .non, .non]) (S1 := S1) (by rw [sIf_false (S1 := S1) (by simp [c6])]; rfl)]
  obtain ⟨v, S2, e2, v0, v1, P2⟩ := draw_k (m := 3) (by omega) (by omega) (by omega) P1
  by_cases cz : v = 0
  · obtain ⟨x, S3, e3, hx, P3⟩ := strs_of (L := ["bad", "odd", "odd", "sad"]) (by intro x hx; simp at hx; rcases hx with h | h | h <;> rw [h] <;> exact okStr_lit _) (by simp) (by simp) (by omega) P2
    obtain ⟨a, S4, e4, ha, P4⟩ := atom_ok hs (by omega) P3
    simp at e3
    exact ⟨.tup [.str "raise", .str x, a], S4, by simp [e2, cz, e3, e4], Wf.leaf (.raise hx ha), P4.mono (by omega)⟩
  · obtain ⟨a, S4, e4, ha, P4⟩ := atom_ok hs (by omega) P2
    exact ⟨.tup [.str "say", a], S4, by simp [e2, cz, e4], Wf.leaf (.say ha), P4.mono (by omega)⟩
theorem body_at : ∀ {k fu : Nat}, k < fu → BodyAt (F_law_body fu) k
  | k, 0, h => by omega
  | 0, fu + 1, h => fun hs hl hn P => body_zero hs hn P
  | k + 1, fu + 1, h => fun hs hl hn P => by
    obtain ⟨d, S', e, w, P'⟩ := body_succ (fu := fu) (body_at (k := k) (by omega)) hs hl hn P
    exact ⟨d, S', e, w, P'⟩
end K02

set_option Elab.async false
set_option linter.all false
set_option maxRecDepth 100000
set_option maxHeartbeats 4000000
set_option autoImplicit false
namespace K02
open PySem PySem.Spec PyProof.Rows L2 DL
def fitStep : D → DS := stepD (gSet 4)
      (sSeq (sLet 5 (zV (xFn (F_law_body 12) (xsCons (xVal 0) (xsCons (xVal 1) (xsCons (xVal 2) (xsCons (xVal 3) (xsNil))))))))
      (sIf (xOp oLe (xOp oIx (xFn (F_law_size 12) (xsCons (xVal 5) (xsNil))) (xC (.int 0))) (xC (.int 40)))
        (sRet (xVal 5))
        (sNil)))
theorem fit_laps {sc : List D} {rest : Sto} (hs : Scope sc) (hl : sc.length + 4 ≤ 90) : ∀ (L : List D) {n : Nat} {t u : Slot} {S : Sto}, n + L.length * Bd 4 ≤ 1000000 → Pen n rest S →
    (∃ d S', foldD fitStep L [.val (.obj 0), .val kitD, .val (.lst sc), .val (.int 4), t, u] S = .ok (.ret d) S' ∧ Wf vs3 cl3 4 d ∧ (pre 4 d).length ≤ 40 ∧ Pen (n + L.length * Bd 4) rest S') ∨
    (∃ t' u' S', foldD fitStep L [.val (.obj 0), .val kitD, .val (.lst sc), .val (.int 4), t, u] S = .ok (.next [.val (.obj 0), .val kitD, .val (.lst sc), .val (.int 4), t', u']) S' ∧ Pen (n + L.length * Bd 4) rest S')
  | [], n, t, u, S, hn, P => .inr ⟨t, u, S, rfl, P.mono (by simp)⟩
  | x :: L, n, t, u, S, hn, P => by
    rw [List.length_cons, Nat.succ_mul] at hn
    obtain ⟨d, S1, e, w, P1⟩ := body_at (k := 4) (fu := 12) (by omega) hs hl (by omega) P
    have es := size_ok (fu := 12) (S := S1) w (by omega)
    have e' : F_law_body 12 [.obj 0, kitD, .lst sc, .int 4] S = .ok d S1 := e
    by_cases c : (pre 4 d).length ≤ 40
    · refine .inl ⟨d, S1, ?_, w, c, P1.mono (by rw [List.length_cons, Nat.succ_mul]; omega)⟩
      have c' : decide ((((pre 4 d).length : Nat) : Int) ≤ 40) = true := decide_eq_true (by omega)
      have : fitStep x [.val (.obj 0), .val kitD, .val (.lst sc), .val (.int 4), t, u] S = .ok (.ret d) S1 := by
        unfold fitStep
        simp [e', es, szF, c']
      rw [foldD_cons, this]; rfl
    · have c' : decide ((((pre 4 d).length : Nat) : Int) ≤ 40) = false := decide_eq_false (by omega)
      have : fitStep x [.val (.obj 0), .val kitD, .val (.lst sc), .val (.int 4), t, u] S = .ok (.next [.val (.obj 0), .val kitD, .val (.lst sc), .val (.int 4), .val x, .val d]) S1 := by
        unfold fitStep
        simp [e', es, szF, c']
      rw [foldD_next this]
      have ih := fit_laps hs hl L (n := n + Bd 4) (t := .val x) (u := .val d) (S := S1) (by omega) P1
      have en : n + Bd 4 + L.length * Bd 4 = n + (x :: L).length * Bd 4 := by rw [List.length_cons, Nat.succ_mul]; omega
      rw [en] at ih
      exact ih
theorem leaf_pre {V C : List Str} {d : D} {n : Nat} (h : Leaf V C d) : (pre n d).length = 1 := by
  cases n with
  | zero => rfl
  | succ n =>
    show (d :: (kidsOf d).flatMap (pre n)).length = 1
    rw [kidsOf_leaf h]; rfl
theorem fit_ok {sc : List D} {n : Nat} {rest S : Sto} (hs : Scope sc) (hl : sc.length + 4 ≤ 90) (hn : n + (4 * Bd 4 + 8) ≤ 1000000) (P : Pen n rest S) :
    ∃ d S', F_law_fit_body [.obj 0, kitD, .lst sc, .int 4] S = .ok d S' ∧ Wf vs3 cl3 4 d ∧ (pre 4 d).length ≤ 40 ∧ Pen (n + (4 * Bd 4 + 8)) rest S' := by
  have start : F_law_fit_body [.obj 0, kitD, .lst sc, .int 4] S = _ := fnD_s (S := S) (m := 2) (ds := [.obj 0, kitD, .lst sc, .int 4]) (a := g_law_fit_body (F_law_body 12) (F_law_size 12) F_law_leaf)
  rw [start]
  have fr := for_rng (f := xC (.int 4)) (g := gSet 4) (n := 4) (ρ := [.val (.obj 0), .val kitD, .val (.lst sc), .val (.int 4), .non, .non]) (S := S) (S1 := S) (h := (sSeq (sLet 5 (zV (xFn (F_law_body 12) (xsCons (xVal 0) (xsCons (xVal 1) (xsCons (xVal 2) (xsCons (xVal 3) (xsNil))))))))
      (sIf (xOp oLe (xOp oIx (xFn (F_law_size 12) (xsCons (xVal 5) (xsNil))) (xC (.int 0))) (xC (.int 40)))
        (sRet (xVal 5))
        (sNil)))) rfl (by omega)
  have rl : (rngL 0 4).length = 4 := rngL_len 4 0
  rcases fit_laps hs hl (rngL 0 4) (t := .non) (u := .non) (by rw [rl]; omega) P with ⟨d, S1, e, w, c, P1⟩ | ⟨t, u, S1, e, P1⟩
  · refine ⟨d, S1, ?_, w, c, P1.mono (by rw [rl]; omega)⟩
    unfold g_law_fit_body
    rw [show ([D.obj 0, kitD, .lst sc, .int 4].map Slot.val ++ List.replicate 2 Slot.non) = [.val (.obj 0), .val kitD, .val (.lst sc), .val (.int 4), .non, .non] from rfl]
    rw [sSeq_ret (fr.trans e)]
    rfl
  · obtain ⟨d, S2, e2, lf, P2⟩ := leaf_ok hs (by rw [rl]; omega) P1
    refine ⟨d, S2, ?_, Wf.leaf lf, by rw [leaf_pre lf]; omega, P2.mono (by rw [rl]; omega)⟩
    unfold g_law_fit_body
    rw [show ([D.obj 0, kitD, .lst sc, .int 4].map Slot.val ++ List.replicate 2 Slot.non) = [.val (.obj 0), .val kitD, .val (.lst sc), .val (.int 4), .non, .non] from rfl]
    rw [sSeq_next (fr.trans e)]
    simp [e2]
end K02

set_option Elab.async false
set_option linter.all false
set_option maxRecDepth 100000
set_option maxHeartbeats 4000000
set_option autoImplicit false
namespace K02
open PySem PySem.Spec PyProof.Rows L2 DL
def c0 : D → D
  | .tup [a, _, _] => a
  | d => d
def c1 : D → D
  | .tup [_, a, _] => a
  | d => d
def c2 : D → D
  | .tup [_, _, a] => a
  | d => d
theorem col0_ks {f : D → Nat → D → List D → List D} {n p : Nat} {d : D} {kn : List D} (hf : ∀ k q l kn, (f k q l kn).map c0 = pre n k) : ∀ {ks : List D} {i q : Nat}, (rowsKs f n p d kn i q ks).map c0 = ks.flatMap (pre n)
  | [], i, q => rfl
  | k :: ks, i, q => by
    rw [show rowsKs f n p d kn i q (k :: ks) = f k q (lk p i) (kn ++ boundOf d i) ++ rowsKs f n p d kn (i + 1) (q + (pre n k).length) ks from rfl, List.map_append, hf, col0_ks hf, List.flatMap_cons]
theorem col0 : ∀ {n p : Nat} {d l : D} {kn : List D}, (rowsL n d p l kn).map c0 = pre n d
  | 0, p, d, l, kn => rfl
  | n + 1, p, d, l, kn => by
    show d :: (rowsKs (rowsL n) n p d kn 0 (p + 1) (kidsOf d)).map c0 = d :: (kidsOf d).flatMap (pre n)
    rw [col0_ks fun k q l kn => col0]
theorem col1_ks {f : D → Nat → D → List D → List D} {g : D → Nat → D → List D} {n p : Nat} {d : D} {kn : List D} (hf : ∀ k q l kn, (f k q l kn).map c1 = g k q l) : ∀ {ks : List D} {i q : Nat}, (rowsKs f n p d kn i q ks).map c1 = linkKs g n p i q ks
  | [], i, q => rfl
  | k :: ks, i, q => by
    rw [show rowsKs f n p d kn i q (k :: ks) = f k q (lk p i) (kn ++ boundOf d i) ++ rowsKs f n p d kn (i + 1) (q + (pre n k).length) ks from rfl, List.map_append, hf, col1_ks hf]
    rfl
theorem col1 : ∀ {n p : Nat} {d l : D} {kn : List D}, (rowsL n d p l kn).map c1 = linkL n d p l
  | 0, p, d, l, kn => rfl
  | n + 1, p, d, l, kn => by
    show l :: (rowsKs (rowsL n) n p d kn 0 (p + 1) (kidsOf d)).map c1 = l :: linkKs (linkL n) n p 0 (p + 1) (kidsOf d)
    rw [col1_ks (f := rowsL n) (g := linkL n) fun k q l kn => col1]
theorem col2_ks {f : D → Nat → D → List D → List D} {g : D → List D → List D} {n p : Nat} {d : D} {kn : List D} (hf : ∀ k q l kn, (f k q l kn).map c2 = g k kn) : ∀ {ks : List D} {i q : Nat}, (rowsKs f n p d kn i q ks).map c2 = knownKs g d kn i ks
  | [], i, q => rfl
  | k :: ks, i, q => by
    rw [show rowsKs f n p d kn i q (k :: ks) = f k q (lk p i) (kn ++ boundOf d i) ++ rowsKs f n p d kn (i + 1) (q + (pre n k).length) ks from rfl, List.map_append, hf, col2_ks hf]
    rfl
theorem col2 : ∀ {n p : Nat} {d l : D} {kn : List D}, (rowsL n d p l kn).map c2 = knownL n d kn
  | 0, p, d, l, kn => rfl
  | n + 1, p, d, l, kn => by
    show .tup kn :: (rowsKs (rowsL n) n p d kn 0 (p + 1) (kidsOf d)).map c2 = .tup kn :: knownKs (knownL n) d kn 0 (kidsOf d)
    rw [col2_ks (f := rowsL n) (g := knownL n) fun k q l kn => col2]
theorem rows_shape_ks {f : D → Nat → D → List D → List D} {n p : Nat} {d : D} {kn : List D} (hf : ∀ k q l kn, ∀ r ∈ f k q l kn, ∃ a b c, r = .tup [a, b, .tup c]) : ∀ {ks : List D} {i q : Nat}, ∀ r ∈ rowsKs f n p d kn i q ks, ∃ a b c, r = .tup [a, b, .tup c]
  | [], i, q => fun r hr => by cases hr
  | k :: ks, i, q => fun r hr => by
    rcases List.mem_append.mp (show r ∈ f k q (lk p i) (kn ++ boundOf d i) ++ rowsKs f n p d kn (i + 1) (q + (pre n k).length) ks from hr) with h | h
    · exact hf _ _ _ _ r h
    · exact rows_shape_ks hf r h
theorem rows_shape : ∀ {n p : Nat} {d l : D} {kn : List D}, ∀ r ∈ rowsL n d p l kn, ∃ a b c, r = .tup [a, b, .tup c]
  | 0, p, d, l, kn => fun r hr => ⟨d, l, kn, List.mem_singleton.mp hr⟩
  | n + 1, p, d, l, kn => fun r hr => by
    rcases List.mem_cons.mp (show r ∈ .tup [d, l, .tup kn] :: rowsKs (rowsL n) n p d kn 0 (p + 1) (kidsOf d) from hr) with h | h
    · exact ⟨_, _, _, h⟩
    · exact rows_shape_ks (fun k q l kn => rows_shape) r h
section
variable {V C : List Str}
theorem parts_wf : ∀ {n : Nat} {d : D}, Wf V C n d → ∀ e ∈ pre n d, ∃ m, Wf V C m e
  | 0, d, h => fun e he => by rw [List.mem_singleton.mp he]; exact ⟨0, h⟩
  | n + 1, d, h => fun e he => by
    rcases List.mem_cons.mp (show e ∈ d :: (kidsOf d).flatMap (pre n) from he) with z | z
    · rw [z]; exact ⟨n + 1, h⟩
    · obtain ⟨ks, hk⟩ := h.kids
      have ek := hk.eq
      subst ek
      obtain ⟨k, hk1, hk2⟩ := List.mem_flatMap.mp z
      exact parts_wf (hk.wf k hk1) e hk2
theorem Atom.lay {d : D} (h : Atom V d) : Lay 1 d := by
  rcases h with ⟨x, h1, rfl⟩ | ⟨x, h1, _, rfl⟩
  · exact Lay.tup (n := 0) fun d hd => by
      simp only [List.mem_cons, List.not_mem_nil, or_false] at hd
      rcases hd with z | z <;> rw [z]
      · exact .str (okStr_lit _)
      · exact .str h1
  · exact Lay.tup (n := 0) fun d hd => by
      simp only [List.mem_cons, List.not_mem_nil, or_false] at hd
      rcases hd with z | z <;> rw [z]
      · exact .str (okStr_lit _)
      · exact .str h1
theorem lay2 {n : Nat} {a b : D} (h1 : Lay n a) (h2 : Lay n b) : Lay (n + 1) (.tup [a, b]) := Lay.tup fun d hd => by
  simp only [List.mem_cons, List.not_mem_nil, or_false] at hd
  rcases hd with z | z <;> rw [z] <;> assumption
theorem lay3 {n : Nat} {a b c : D} (h1 : Lay n a) (h2 : Lay n b) (h3 : Lay n c) : Lay (n + 1) (.tup [a, b, c]) := Lay.tup fun d hd => by
  simp only [List.mem_cons, List.not_mem_nil, or_false] at hd
  rcases hd with z | z | z <;> rw [z] <;> assumption
theorem lay4 {n : Nat} {a b c e : D} (h1 : Lay n a) (h2 : Lay n b) (h3 : Lay n c) (h4 : Lay n e) : Lay (n + 1) (.tup [a, b, c, e]) := Lay.tup fun d hd => by
  simp only [List.mem_cons, List.not_mem_nil, or_false] at hd
  rcases hd with z | z | z | z <;> rw [z] <;> assumption
theorem Leaf.lay {d : D} (h : Leaf V C d) : Lay 3 d := by
  cases h with
  | atom h => exact h.lay.mono (by omega)
  | get h => exact lay2 (.str (okStr_lit _)) (.str h)
  | put h k => exact lay3 (.str (okStr_lit _)) (.str h) (k.lay.mono (by omega))
  | @hear L h k => exact lay2 (.str (okStr_lit _)) ((Lay.tup (n := 1) fun d hd => by
      obtain ⟨v, hv, rfl⟩ := List.mem_map.mp hd
      exact .str (h v hv).1))
  | call h _ k _ => exact lay3 (.str (okStr_lit _)) (.str h) (Lay.tup (n := 1) fun d hd => (k d hd).lay)
  | say k => exact lay2 (.str (okStr_lit _)) (k.lay.mono (by omega))
  | raise h k => exact lay3 (.str (okStr_lit _)) (.str h) (k.lay.mono (by omega))
theorem Wf.lay : ∀ {n : Nat} {d : D}, Wf V C n d → Lay (3 + 3 * n) d
  | 0, d, h => Leaf.lay h
  | n + 1, d, h => by
    rcases h with h | ⟨x, a, b, rfl, h1, h2, h3⟩ | ⟨a, rows, e, rfl, h1, h2, h3, h4⟩ | ⟨e, rows, rfl, h1, h2, h3⟩
    · exact h.lay.mono (by omega)
    · exact (lay4 (n := 3 + 3 * n) (.str (okStr_lit _)) (.str h1) (Wf.lay h2) (Wf.lay h3)).mono (by omega)
    · exact lay4 (n := 3 + 3 * n + 2) (.str (okStr_lit _)) (h1.lay.mono (by omega)) (Lay.tup (n := 3 + 3 * n + 1) fun r hr => by
        obtain ⟨v, x, rfl, hv, hx⟩ := h3 r hr
        exact lay2 (.str hv) (Wf.lay hx)) ((Wf.lay h4).mono (by omega))
    · exact lay3 (n := 3 + 3 * n + 2) (.str (okStr_lit _)) ((Wf.lay h1).mono (by omega)) (Lay.tup (n := 3 + 3 * n + 1) fun r hr => by
        obtain ⟨v, y, x, rfl, hv, hy, hx⟩ := h3 r hr
        exact lay3 (.str hv) (.str hy) (Wf.lay hx))
end
end K02

set_option Elab.async false
set_option linter.all false
set_option maxRecDepth 100000
set_option maxHeartbeats 4000000
set_option autoImplicit false
namespace K02
open PySem PySem.Spec PyProof.Rows L2 DL
section
variable {V C : List Str}
/-- the values of an atom -/
inductive AV (V : List Str) : D → List Str → Prop
  | var {x : Str} : okStr x → AV V (.tup [.str "var", .str x]) []
  | value {v : Str} : okStr v → v ∈ V → AV V (.tup [.str "value", .str v]) [v]
/-- what a part says: values in atoms, own values, calls -/
inductive Part (V C : List Str) : D → List Str → List Str → List Str → Prop
  | var {x : Str} : okStr x → Part V C (.tup [.str "var", .str x]) [] [] []
  | value {v : Str} : okStr v → v ∈ V → Part V C (.tup [.str "value", .str v]) [] [v] []
  | get {x : Str} : okStr x → Part V C (.tup [.str "get", .str x]) [] [] []
  | put {x : Str} {a : D} {w : List Str} : okStr x → AV V a w → Part V C (.tup [.str "put", .str x, a]) w [] []
  | hear {L : List Str} : (∀ v ∈ L, okStr v ∧ v ∈ V) → L.length ≤ 3 → Part V C (.tup [.str "hear", .tup (L.map .str)]) [] L []
  | call {n : Str} {as : List D} {f : D → List Str} : okStr n → n ∈ C → (∀ a ∈ as, AV V a (f a)) → as.length ≤ 2 → Part V C (.tup [.str "call", .str n, .tup as]) (as.flatMap f) [] [n]
  | say {a : D} {w : List Str} : AV V a w → Part V C (.tup [.str "say", a]) w [] []
  | raise {x : Str} {a : D} {w : List Str} : okStr x → AV V a w → Part V C (.tup [.str "raise", .str x, a]) w [] []
  | lt {x a : D} {zs : List D} : Part V C (.tup [.str "let", x, a, .tup zs]) [] [] []
  | pick {a x : D} {zs : List D} {w : List Str} : AV V a w → Part V C (.tup [.str "pick", a, x, .tup zs]) w [] []
  | tr {a : D} {zs : List D} : Part V C (.tup [.str "try", a, .tup zs]) [] [] []
theorem Atom.av {d : D} (h : Atom V d) : ∃ w, AV V d w := by
  rcases h with ⟨x, h1, rfl⟩ | ⟨x, h1, h2, rfl⟩
  · exact ⟨_, .var h1⟩
  · exact ⟨_, .value h1 h2⟩
theorem AV.sub {d : D} {w : List Str} (h : AV V d w) : w.length ≤ 1 ∧ ∀ x ∈ w, okStr x ∧ x ∈ V := by
  cases h with
  | var _ => simp
  | value h k => exact ⟨by simp, fun x hx => by rw [List.mem_singleton.mp hx]; exact ⟨h, k⟩⟩
open Classical in
theorem Leaf.part {d : D} (h : Leaf V C d) : ∃ a b c, Part V C d a b c := by
  cases h with
  | atom k =>
    rcases k with ⟨x, h1, rfl⟩ | ⟨x, h1, h2, rfl⟩
    · exact ⟨_, _, _, .var h1⟩
    · exact ⟨_, _, _, .value h1 h2⟩
  | get z => exact ⟨_, _, _, .get z⟩
  | put z k => obtain ⟨w, hw⟩ := k.av; exact ⟨_, _, _, .put z hw⟩
  | hear z k => exact ⟨_, _, _, .hear z k⟩
  | @call n as z k l m =>
    refine ⟨_, _, _, .call (f := fun a => if z : Atom V a then Classical.choose z.av else []) z k (fun a ha => ?_) m⟩
    show AV V a (if z : Atom V a then Classical.choose z.av else [])
    rw [dif_pos (l a ha)]
    exact Classical.choose_spec (l a ha).av
  | say k => obtain ⟨w, hw⟩ := k.av; exact ⟨_, _, _, .say hw⟩
  | raise z k => obtain ⟨w, hw⟩ := k.av; exact ⟨_, _, _, .raise z hw⟩
theorem Wf.tupd {n : Nat} {d : D} (h : Wf V C n d) : ∃ zs, d = .tup zs := by
  have lf : Leaf V C d → ∃ zs, d = .tup zs := fun z => by
    obtain ⟨t, l, _, _, _, e⟩ := z.shape
    exact ⟨_, e⟩
  cases n with
  | zero => exact lf h
  | succ n =>
    rcases h with h | ⟨x, a, b, rfl, h1, h2, h3⟩ | ⟨a, rows, e, rfl, h1, h2, h3, h4⟩ | ⟨e, rows, rfl, h1, h2, h3⟩
    · exact lf h
    · exact ⟨_, rfl⟩
    · exact ⟨_, rfl⟩
    · exact ⟨_, rfl⟩
theorem Wf.part {n : Nat} {d : D} (h : Wf V C n d) : ∃ a b c, Part V C d a b c := by
  cases n with
  | zero => exact Leaf.part h
  | succ n =>
    rcases h with h | ⟨x, a, b, rfl, h1, h2, h3⟩ | ⟨a, rows, e, rfl, h1, h2, h3, h4⟩ | ⟨e, rows, rfl, h1, h2, h3⟩
    · exact Leaf.part h
    · obtain ⟨zs, rfl⟩ := h3.tupd; exact ⟨_, _, _, .lt⟩
    · obtain ⟨w, hw⟩ := h1.av; obtain ⟨zs, rfl⟩ := h4.tupd; exact ⟨_, _, _, .pick hw⟩
    · exact ⟨_, _, _, .tr⟩
theorem avs_sub {as : List D} {f : D → List Str} (h : ∀ a ∈ as, AV V a (f a)) : (as.flatMap f).length ≤ as.length ∧ ∀ x ∈ as.flatMap f, okStr x ∧ x ∈ V := by
  refine ⟨?_, fun x hx => ?_⟩
  · have := flat_len (n := 1) (p := fun a => (f a).map D.str) (ks := as) (fun k hk => by rw [List.length_map]; exact (h k hk).sub.1)
    rw [Nat.mul_one] at this
    have e : (as.flatMap fun a => (f a).map D.str) = (as.flatMap f).map D.str := by rw [List.map_flatMap]
    rw [e, List.length_map] at this
    exact this
  · obtain ⟨a, ha, hx⟩ := List.mem_flatMap.mp hx
    exact (h a ha).sub.2 x hx
theorem Part.sub {d : D} {a b c : List Str} (h : Part V C d a b c) : a.length ≤ 2 ∧ b.length ≤ 3 ∧ c.length ≤ 1 ∧ (∀ x ∈ a, okStr x ∧ x ∈ V) ∧ (∀ x ∈ b, okStr x ∧ x ∈ V) ∧ ∀ x ∈ c, okStr x ∧ x ∈ C := by
  cases h with
  | var _ => simp
  | value h k => exact ⟨by simp, by simp, by simp, by simp, fun x hx => by rw [List.mem_singleton.mp hx]; exact ⟨h, k⟩, by simp⟩
  | get _ => simp
  | put _ w => exact ⟨Nat.le_trans w.sub.1 (by omega), by simp, by simp, w.sub.2, by simp, by simp⟩
  | hear h k => exact ⟨by simp, k, by simp, by simp, h, by simp⟩
  | call h k l m => exact ⟨Nat.le_trans (avs_sub l).1 m, by simp, by simp, (avs_sub l).2, by simp, fun x hx => by rw [List.mem_singleton.mp hx]; exact ⟨h, k⟩⟩
  | say w => exact ⟨Nat.le_trans w.sub.1 (by omega), by simp, by simp, w.sub.2, by simp, by simp⟩
  | raise _ w => exact ⟨Nat.le_trans w.sub.1 (by omega), by simp, by simp, w.sub.2, by simp, by simp⟩
  | lt => simp
  | pick w => exact ⟨Nat.le_trans w.sub.1 (by omega), by simp, by simp, w.sub.2, by simp, by simp⟩
  | tr => simp
/-- the atoms of a part, as the filter of their values -/
def avalF (t : D) : Option D := match t with
  | .tup [.str t, v] => if t = Str.ofString "value" then some v else none
  | _ => none
theorem av_filter {a : D} {w : List Str} (h : AV V a w) : [a].filterMap avalF = w.map .str := by
  cases h with
  | var _ => simp [avalF, ofString_iff]
  | value _ _ => simp [avalF]
theorem avs_filter {f : D → List Str} : ∀ {as : List D}, (∀ a ∈ as, AV V a (f a)) → as.filterMap avalF = (as.flatMap f).map .str
  | [], h => rfl
  | a :: as, h => by
    have e := av_filter (h a List.mem_cons_self)
    rw [show a :: as = [a] ++ as from rfl, List.filterMap_append, e, avs_filter fun b hb => h b (List.mem_cons_of_mem _ hb), List.flatMap_append, List.map_append]
    simp
theorem AV.tag {a : D} {w : List Str} (h : AV V a w) : ∃ (t : String) (x : Str), a = .tup [.str (Str.ofString t), .str x] ∧ (t = "var" ∨ t = "value") := by
  cases h with
  | var _ => exact ⟨"var", _, rfl, .inl rfl⟩
  | value _ _ => exact ⟨"value", _, rfl, .inr rfl⟩
theorem oIn_lit2 {a b c : String} {S : Sto} : oIn S (.str (Str.ofString a)) (.tup [.str (Str.ofString b), .str (Str.ofString c)]) = .ok (.bl (decide (a = b) || decide (a = c))) S := by
  have l : ∀ x : String, Lay 0 (.str (Str.ofString x)) := fun x => .lit x
  have w : within [.str (Str.ofString b), .str (Str.ofString c)] (.str (Str.ofString a)) = true := by
    unfold within
    rw [lays_of fun d hd => by
      simp only [List.mem_cons, List.not_mem_nil, or_false] at hd
      rcases hd with z | z <;> rw [z] <;> exact (l _).1, (l a).1, dep_str]
    simp
  unfold oIn
  simp only [seqOf_tup, deref_lay (l a), w, if_true]
  simp only [anyEq, List.any_cons, List.any_nil, eqD_str, ofString_iff, Bool.or_false]
  have e : ∀ x y : String, decide (x = y) = decide (y = x) := fun x y => decide_eq_decide.mpr ⟨Eq.symm, Eq.symm⟩
  rw [e b a, e c a]
theorem atoms_part {d : D} {a b c : List Str} {S : Sto} (h : Part V C d a b c) : ∃ as, F_atoms_of [d] S = .ok (.tup as) S ∧ as.filterMap avalF = a.map .str ∧ ∀ t ∈ as, ∃ (s : String) (x : Str), t = .tup [.str (Str.ofString s), .str x] := by
  cases h with
  | var k => exact ⟨[_], by simp [F_atoms_of, fnD_s, g_atoms_of, oIn_lit2]; rfl, by simp [avalF, ofString_iff], fun t ht => by rw [List.mem_singleton.mp ht]; exact ⟨_, _, rfl⟩⟩
  | value _ _ => exact ⟨[], by simp [F_atoms_of, fnD_s, g_atoms_of, oIn_lit2], rfl, by simp⟩
  | get _ => exact ⟨[], by simp [F_atoms_of, fnD_s, g_atoms_of, oIn_lit2], rfl, by simp⟩
  | put _ w => exact ⟨[_], by simp [F_atoms_of, fnD_s, g_atoms_of, oIn_lit2], av_filter w, fun t ht => by obtain ⟨s, x, e, _⟩ := w.tag; rw [List.mem_singleton.mp ht]; exact ⟨s, x, e⟩⟩
  | hear _ _ => exact ⟨[], by simp [F_atoms_of, fnD_s, g_atoms_of, oIn_lit2], rfl, by simp⟩
  | call _ _ l _ => exact ⟨_, by simp [F_atoms_of, fnD_s, g_atoms_of, oIn_lit2], avs_filter l, fun t ht => by obtain ⟨s, x, e, _⟩ := (l t ht).tag; exact ⟨s, x, e⟩⟩
  | say w => exact ⟨[_], by simp [F_atoms_of, fnD_s, g_atoms_of, oIn_lit2], av_filter w, fun t ht => by obtain ⟨s, x, e, _⟩ := w.tag; rw [List.mem_singleton.mp ht]; exact ⟨s, x, e⟩⟩
  | raise _ w => exact ⟨[_], by simp [F_atoms_of, fnD_s, g_atoms_of, oIn_lit2], av_filter w, fun t ht => by obtain ⟨s, x, e, _⟩ := w.tag; rw [List.mem_singleton.mp ht]; exact ⟨s, x, e⟩⟩
  | lt => exact ⟨[], by simp [F_atoms_of, fnD_s, g_atoms_of, oIn_lit2], rfl, by simp⟩
  | pick w => exact ⟨[_], by simp [F_atoms_of, fnD_s, g_atoms_of, oIn_lit2], av_filter w, fun t ht => by obtain ⟨s, x, e, _⟩ := w.tag; rw [List.mem_singleton.mp ht]; exact ⟨s, x, e⟩⟩
  | tr => exact ⟨[], by simp [F_atoms_of, fnD_s, g_atoms_of, oIn_lit2], rfl, by simp⟩
end
end K02

set_option Elab.async false
set_option linter.all false
set_option maxRecDepth 100000
set_option maxHeartbeats 4000000
set_option autoImplicit false
namespace K02
open PySem PySem.Spec PyProof.Rows L2 DL
section
variable {V C : List Str}
open Classical in
noncomputable def trip (V C : List Str) (e : D) : List Str × List Str × List Str := if h : ∃ p : List Str × List Str × List Str, Part V C e p.1 p.2.1 p.2.2 then Classical.choose h else ([], [], [])
def PartOk (V C : List Str) (e : D) : Prop := Part V C e (trip V C e).1 (trip V C e).2.1 (trip V C e).2.2
theorem Wf.trip {n : Nat} {e : D} (h : Wf V C n e) : PartOk V C e := by
  obtain ⟨a, b, c, p⟩ := h.part
  have z : ∃ p : List Str × List Str × List Str, Part V C e p.1 p.2.1 p.2.2 := ⟨(a, b, c), p⟩
  unfold PartOk K02.trip
  rw [dif_pos z]
  exact Classical.choose_spec z
/-- the values in the atoms -/
theorem vals_lc {fx : DX} {i : Nat} {ρ : Rho} {S : Sto} {as : List D} (hx : fx ρ S = .ok (.tup as) S ∨ fx ρ S = .ok (.lst as) S) (hi : ∀ t : D, ((wipeR ρ [i]).set i (.val t))[i]? = some (.val t)) (sh : ∀ t ∈ as, ∃ (s : String) (x : Str), t = .tup [.str (Str.ofString s), .str x]) :
    xsLc (iSeq fx) (gSet i) (xOp oEq (xOp oIx (xVar i) (xC (.int 0))) (xC (.str "value"))) (xOp oIx (xVar i) (xC (.int 1))) [i] ρ S = .ok (as.filterMap avalF) S := by
  have each : ∀ x ∈ as, ∃ ρ1, gSet i x (wipeR ρ [i]) = some ρ1 ∧ match avalF x with
      | some y => (xOp oEq (xOp oIx (xVar i) (xC (.int 0))) (xC (.str "value"))) ρ1 S = .ok (.bl true) S ∧ (xOp oIx (xVar i) (xC (.int 1))) ρ1 S = .ok y S
      | none => (xOp oEq (xOp oIx (xVar i) (xC (.int 0))) (xC (.str "value"))) ρ1 S = .ok (.bl false) S := fun x hx => by
    obtain ⟨s, y, rfl⟩ := sh x hx
    refine ⟨_, rfl, ?_⟩
    have g : xVar i ((wipeR ρ [i]).set i (.val (.tup [.str (Str.ofString s), .str y]))) S = .ok (.tup [.str (Str.ofString s), .str y]) S := by
      unfold xVar; rw [hi]
    have g0 : xOp oEq (xOp oIx (xVar i) (xC (.int 0))) (xC (.str "value")) ((wipeR ρ [i]).set i (.val (.tup [.str (Str.ofString s), .str y]))) S = .ok (.bl (decide (s = "value"))) S := by rw [xOp_s, xOp_s, g]; simp
    have g1 : xOp oIx (xVar i) (xC (.int 1)) ((wipeR ρ [i]).set i (.val (.tup [.str (Str.ofString s), .str y]))) S = .ok (.str y) S := by rw [xOp_s, g]; simp
    by_cases c : s = "value"
    · have av : avalF (.tup [.str (Str.ofString s), .str y]) = some (.str y) := by simp [avalF, c]
      rw [av]
      exact ⟨by rw [g0, decide_eq_true c], g1⟩
    · have av : avalF (.tup [.str (Str.ofString s), .str y]) = none := by simp [avalF, c, ofString_iff]
      rw [av]
      show _ = _
      rw [g0, decide_eq_false c]
  rcases hx with hx | hx
  · exact xsLc_tup hx avalF each
  · exact xsLc_lst hx avalF each
abbrev nmB : DS := (sSeq (sMod 1 (xOfZ (zL (xsLc (iSeq (xFn F_atoms_of (xsCons (xVal 2) (xsNil)))) (gSet 3) (xOp oEq (xOp oIx (xVar 3) (xC (.int 0))) (xC (.str "value"))) (xOp oIx (xVar 3) (xC (.int 1))) [3]))) kExt)
      (sSeq (sIf (xOp oEq (xOp oIx (xVar 2) (xC (.int 0))) (xC (.str "value")))
        (sMod 1 (xOp oIx (xVar 2) (xC (.int 1))) kApp)
        (sNil))
      (sIf (xOp oEq (xOp oIx (xVar 2) (xC (.int 0))) (xC (.str "hear")))
        (sMod 1 (xOp oIx (xVar 2) (xC (.int 1))) kExt)
        (sNil))))
theorem names_step {e d : D} {F a b c : List Str} {t2 t3 : Slot} {S : Sto} (h : Part V C e a b c) (few : F.length ≤ 10000) :
    stepD (gSet 2) nmB e [.val d, .own (F.map .str), t2, t3] S = .ok (.next [.val d, .own ((F ++ (a ++ b)).map .str), .val e, t3]) S := by
  obtain ⟨as, e1, e2, e3⟩ := atoms_part (S := S) h
  have l := vals_lc (fx := xFn F_atoms_of (xsCons (xVal 2) xsNil)) (i := 3) (ρ := [.val d, .own (F.map .str), .val e, t3]) (S := S) (as := as) (.inl (by simp [e1])) (fun t => rfl) e3
  rw [e2] at l
  have sb := h.sub
  have f1 : fits ((F.map D.str).length + (a.map D.str).length) = true := fits_small (by simp; omega)
  have m : sMod 1 (xOfZ (zL (xsLc (iSeq (xFn F_atoms_of (xsCons (xVal 2) (xsNil)))) (gSet 3) (xOp oEq (xOp oIx (xVar 3) (xC (.int 0))) (xC (.str "value"))) (xOp oIx (xVar 3) (xC (.int 1))) [3]))) kExt [.val d, .own (F.map .str), .val e, t3] S = .ok (.next [.val d, .own ((F ++ a).map .str), .val e, t3]) S := by
    simp at f1
    simp [l, f1]
  have f2 : fits (((F ++ a).map D.str).length + 1) = true := fits_small (by simp; omega)
  have f3 : fits (((F ++ a).map D.str).length + (b.map D.str).length) = true := fits_small (by simp; omega)
  show nmB [.val d, .own (F.map .str), .val e, t3] S = _
  unfold nmB
  rw [sSeq_next m]
  cases h with
  | value _ _ => simp at f2; simp [f2]
  | hear _ _ => simp at f3; simp [f3]
  | _ => simp
end
end K02

set_option Elab.async false
set_option linter.all false
set_option maxRecDepth 100000
set_option maxHeartbeats 4000000
set_option autoImplicit false
namespace K02
open PySem PySem.Spec PyProof.Rows L2 DL
theorem sortSet_ok {L V : List Str} {S : Sto} (few : L.length < 4096) (hV : ∀ x ∈ L, x ∈ V) (hv : V.length < 64) : sortSetD (L.map .str) S = .ok (.lst ((srtS (uniqS L)).map .str)) S := by
  have n : (uniqS L).length < 64 := Nat.lt_of_le_of_lt (len_sub (uniqS_nodup L) fun x hx => hV x (uniqS_mem.mp hx)) hv
  unfold sortSetD
  rw [strsOf_map]
  simp only [decide_eq_true few, decide_eq_true n, Bool.and_self, if_true]
theorem sets_eq {L M : List Str} (e : ∀ x, x ∈ L ↔ x ∈ M) : srtS (uniqS L) = srtS (uniqS M) :=
  srtS_of_perm (same_set (uniqS_nodup L) (uniqS_nodup M) fun x => by rw [uniqS_mem, uniqS_mem]; exact e x)
section
variable {V C : List Str}
theorem names_loop {d : D} {S : Sto} : ∀ {es : List D} {F : List Str} {t2 t3 : Slot}, (∀ e ∈ es, PartOk V C e) → F.length + 5 * es.length ≤ 10000 →
    ∃ u2 u3, foldD (stepD (gSet 2) nmB) es [.val d, .own (F.map .str), t2, t3] S = .ok (.next [.val d, .own ((F ++ es.flatMap fun e => (trip V C e).1 ++ (trip V C e).2.1).map .str), u2, u3]) S
  | [], F, t2, t3, h, few => ⟨t2, t3, by simp⟩
  | e :: es, F, t2, t3, h, few => by
    have p := h e List.mem_cons_self
    have sb := p.sub
    rw [List.length_cons] at few
    obtain ⟨u2, u3, ih⟩ := names_loop (S := S) (d := d) (es := es) (F := F ++ ((trip V C e).1 ++ (trip V C e).2.1)) (t2 := .val e) (t3 := t3) (fun x hx => h x (List.mem_cons_of_mem _ hx)) (by simp; omega)
    refine ⟨u2, u3, ?_⟩
    rw [foldD_next (names_step p (by omega)), ih, List.flatMap_cons, List.append_assoc]
noncomputable def nms (V C : List Str) (es : List D) : List Str := es.flatMap fun e => (trip V C e).1 ++ (trip V C e).2.1
noncomputable def cls (V C : List Str) (es : List D) : List Str := es.flatMap fun e => (trip V C e).2.2
theorem flat_len' {f : D → List Str} {n : Nat} : ∀ {ks : List D}, (∀ k ∈ ks, (f k).length ≤ n) → (ks.flatMap f).length ≤ ks.length * n
  | [], h => by simp
  | k :: ks, h => by
    have a := h k List.mem_cons_self
    have b := flat_len' (f := f) (n := n) (ks := ks) fun x hx => h x (List.mem_cons_of_mem _ hx)
    rw [List.flatMap_cons, List.length_append, List.length_cons, Nat.succ_mul]
    omega
theorem nms_sub {es : List D} (h : ∀ e ∈ es, PartOk V C e) : (nms V C es).length ≤ es.length * 5 ∧ ∀ x ∈ nms V C es, okStr x ∧ x ∈ V :=
  ⟨flat_len' fun k hk => by have := (h k hk).sub; rw [List.length_append]; omega, fun x hx => by
    obtain ⟨e, he, hx⟩ := List.mem_flatMap.mp hx
    have sb := (h e he).sub
    rcases List.mem_append.mp hx with z | z
    · exact sb.2.2.2.1 x z
    · exact sb.2.2.2.2.1 x z⟩
theorem cls_sub {es : List D} (h : ∀ e ∈ es, PartOk V C e) : (cls V C es).length ≤ es.length * 1 ∧ ∀ x ∈ cls V C es, okStr x ∧ x ∈ C :=
  ⟨flat_len' fun k hk => (h k hk).sub.2.2.1, fun x hx => by
    obtain ⟨e, he, hx⟩ := List.mem_flatMap.mp hx
    exact (h e he).sub.2.2.2.2.2 x hx⟩
theorem parts_pok {n : Nat} {d : D} (h : Wf V C n d) : ∀ e ∈ pre n d, PartOk V C e := fun e he => by
  obtain ⟨m, hm⟩ := parts_wf h e he
  exact hm.trip
theorem names_ok {n : Nat} {d : D} {S : Sto} (h : Wf V C n d) (hn : n ≤ 6) (few : (pre n d).length ≤ 500) (hv : V.length < 64) :
    F_names_in [d] S = .ok (.tup ((srtS (uniqS (nms V C (pre n d)))).map .str)) S := by
  have start : F_names_in [d] S = _ := fnD_s (S := S) (m := 3) (ds := [d]) (a := g_names_in (F_parts 12) F_atoms_of)
  rw [start]
  have ep := parts_ok (fu := 12) (S := S) h hn (by omega)
  obtain ⟨u2, u3, lp⟩ := names_loop (S := S) (d := d) (F := []) (t2 := .non) (t3 := .non) (parts_pok h) (by simp; omega)
  have fr := for_tup (f := xFn (F_parts 12) (xsCons (xVal 0) xsNil)) (g := gSet 2) (h := nmB) (ρ := [.val d, .own [], .non, .non]) (S := S) (S1 := S) (L := pre n d) (by simp [ep])
  have sub := nms_sub (parts_pok h)
  have so := sortSet_ok (S := S) (L := nms V C (pre n d)) (by omega) (fun x hx => (sub.2 x hx).2) hv
  unfold g_names_in
  rw [show ([d].map Slot.val ++ List.replicate 3 Slot.non) = [.val d, .non, .non, .non] from rfl]
  rw [sSeq_next (ρ1 := [.val d, .own [], .non, .non]) (S1 := S) rfl, sSeq_next (fr.trans lp)]
  simp [xSortSet]
  unfold nms at so
  rw [so]
  rfl
theorem calls_ok {n : Nat} {d : D} {S : Sto} (h : Wf V C n d) (hn : n ≤ 6) (few : (pre n d).length ≤ 500) (hv : C.length < 64) :
    F_calls_in [d] S = .ok (.tup ((srtS (uniqS (cls V C (pre n d)))).map .str)) S := by
  have start : F_calls_in [d] S = _ := fnD_s (S := S) (m := 1) (ds := [d]) (a := g_calls_in (F_parts 12))
  rw [start]
  have ep := parts_ok (fu := 12) (S := S) h hn (by omega)
  have lc := xsLc_tup (fx := xFn (F_parts 12) (xsCons (xVal 0) xsNil)) (g := gSet 1) (c := xOp oEq (xOp oIx (xVar 1) (xC (.int 0))) (xC (.str "call"))) (f := xOp oIx (xVar 1) (xC (.int 1))) (vs := [1]) (ρ := [.val d, .non]) (S := S) (S1 := S) (L := pre n d) (by simp [ep])
    (fun e => ((trip V C e).2.2.map D.str).head?) fun e he => ⟨[.val d, .val e], rfl, by
      have p := parts_pok h e he
      unfold PartOk at p
      revert p
      generalize (trip V C e).1 = a
      generalize (trip V C e).2.1 = b
      generalize (trip V C e).2.2 = c
      intro p
      cases p <;> simp⟩
  have fm : (pre n d).filterMap (fun e => ((trip V C e).2.2.map D.str).head?) = (cls V C (pre n d)).map .str := by
    have pk := parts_pok h
    revert pk
    generalize pre n d = es
    intro pk
    induction es with
    | nil => rfl
    | cons e es ih =>
      have ih := ih fun x hx => pk x (List.mem_cons_of_mem _ hx)
      have sb := (pk e List.mem_cons_self).sub.2.2.1
      unfold cls
      rw [List.flatMap_cons, List.map_append]
      unfold cls at ih
      rw [← ih]
      match hc : (trip V C e).2.2, sb with
      | [], _ => simp [hc]
      | [x], _ => simp [hc]
      | _ :: _ :: _, sb => simp at sb
  rw [fm] at lc
  have sub := cls_sub (parts_pok h)
  have so := sortSet_ok (S := S) (L := cls V C (pre n d)) (by omega) (fun x hx => (sub.2 x hx).2) hv
  unfold g_calls_in
  rw [show ([d].map Slot.val ++ List.replicate 1 Slot.non) = [.val d, .non] from rfl]
  simp [xSortSc, lc, so]
end
end K02

set_option Elab.async false
set_option linter.all false
set_option maxRecDepth 100000
set_option maxHeartbeats 4000000
set_option autoImplicit false
namespace K02
open PySem PySem.Spec PyProof.Rows L2 DL
section
variable {f g h : DX} {ρ : Rho} {S : Sto}
@[simp] theorem xNeg_s : xNeg f ρ S = (f ρ S).bind fun d S1 => match d with
  | .int i => .ok (.int (-i)) S1
  | _ => .stuck := id rfl
@[simp] theorem xsAdd_s : xsAdd f g ρ S = (f ρ S).bind fun d S1 => (g ρ S1).bind fun e S2 => match d, e with
  | .lst xs, .lst ys => if fits (xs.length + ys.length) then .ok (xs ++ ys) S2 else .stuck
  | _, _ => .stuck := id rfl
@[simp] theorem xsOfT_s : xsOfT f ρ S = (f ρ S).bind fun d S1 => match d with
  | .str x => if fits x.cps.size then .ok ((signs x).map D.str) S1 else .stuck
  | d => match seqOf S1 d with
    | some xs => .ok xs S1
    | none => .stuck := id rfl
@[simp] theorem oIxl1 {a : D} : oIx S (.tup [a]) (.int (-1)) = .ok a S := id rfl
@[simp] theorem oIxl2 {a b : D} : oIx S (.tup [a, b]) (.int (-1)) = .ok b S := id rfl
@[simp] theorem oIxl3 {a b c : D} : oIx S (.tup [a, b, c]) (.int (-1)) = .ok c S := id rfl
@[simp] theorem oIxl4 {a b c d : D} : oIx S (.tup [a, b, c, d]) (.int (-1)) = .ok d S := id rfl
abbrev atD (i : Nat) : DX := (xDGet2 (xDic (xpCons (xC (.str "put")) (xLst (xsCons (xOp oIx (xVar i) (xNeg (xC (.int 1)))) (xsNil))) (xpCons (xC (.str "raise")) (xLst (xsCons (xOp oIx (xVar i) (xNeg (xC (.int 1)))) (xsNil))) (xpCons (xC (.str "say")) (xLst (xsCons (xOp oIx (xVar i) (xNeg (xC (.int 1)))) (xsNil))) (xpCons (xC (.str "pick")) (xLst (xsCons (xOp oIx (xVar i) (xC (.int 1))) (xsNil))) (xpCons (xC (.str "call")) (xOfZ (zL (xsOfT (xOp oIx (xVar i) (xNeg (xC (.int 1))))))) (xpNil))))))) (xOp oIx (xVar i) (xC (.int 0))) (xLst (xsNil)))
def dk (z y zs : D) : D := .dic [.inr "put", .inr "raise", .inr "say", .inr "pick", .inr "call"] [z, z, z, y, zs]
theorem atD_ok {i : Nat} {e t z y : D} {zs : List D} (h : ρ[i]? = some (.val e)) (e0 : oIx S e (.int 0) = .ok t S) (e1 : oIx S e (.int 1) = .ok y S) (el : oIx S e (.int (-1)) = .ok z S)
    (ez : xsOfT (xC z) ρ S = .ok zs S) : atD i ρ S = (match keyD t with
      | some k => match dk (.lst [z]) (.lst [y]) (.lst zs) with
        | .dic ks ds => match dicAt ks ds k with
          | some r => .ok r S
          | none => .ok (.lst []) S
        | _ => .stuck
      | none => .stuck) := by
  have v : xVar i ρ S = .ok e S := by unfold xVar; rw [h]
  have l : xOp oIx (xVar i) (xNeg (xC (.int 1))) ρ S = .ok z S := by rw [xOp_s, v]; simpa using el
  have o : xOp oIx (xVar i) (xC (.int 1)) ρ S = .ok y S := by rw [xOp_s, v]; simpa using e1
  have o0 : xOp oIx (xVar i) (xC (.int 0)) ρ S = .ok t S := by rw [xOp_s, v]; simpa using e0
  have zl : xsOfT (xOp oIx (xVar i) (xNeg (xC (.int 1)))) ρ S = .ok zs S := by
    rw [← ez, xsOfT_s, xsOfT_s, l]; rfl
  unfold atD xDGet2 xDic xpCons
  simp only [xLst_s, xsCons_s, xsNil_s, l, o, o0, zl, xOfZ_s, zL_s, R.bind_ok1, xC_s, xpCons, xpNil, keyD]
  rfl
end
end K02

set_option Elab.async false
set_option linter.all false
set_option maxRecDepth 100000
set_option maxHeartbeats 4000000
set_option autoImplicit false
namespace K02
open PySem PySem.Spec PyProof.Rows L2 DL
section
variable {V C : List Str} {ρ : Rho} {S : Sto}
theorem ofT_str {x : Str} (h : okStr x) : xsOfT (xC (.str x)) ρ S = .ok ((signs x).map D.str) S := by
  have f : fits x.cps.size = true := fits_small (by have := h.2; omega)
  rw [xsOfT_s, xC_s, R.bind_ok1]
  simp only [f, if_true]
theorem ofT_tup {zs : List D} : xsOfT (xC (.tup zs)) ρ S = .ok zs S := rfl
theorem AV.tupd {a : D} {w : List Str} (h : AV V a w) : ∃ zs, a = .tup zs := by
  cases h with
  | var _ => exact ⟨_, rfl⟩
  | value _ _ => exact ⟨_, rfl⟩
theorem atD_part {e : D} {a b c : List Str} {i : Nat} (h : Part V C e a b c) (hi : ρ[i]? = some (.val e)) : ∃ as, atD i ρ S = .ok (.lst as) S ∧ as.filterMap avalF = a.map .str ∧ ∀ t ∈ as, ∃ (s : String) (x : Str), t = .tup [.str (Str.ofString s), .str x] := by
  have one : ∀ {a : D} {w : List Str}, AV V a w → ∀ t ∈ [a], ∃ (s : String) (x : Str), t = .tup [.str (Str.ofString s), .str x] := fun w t ht => by
    obtain ⟨s, x, e, _⟩ := w.tag; rw [List.mem_singleton.mp ht]; exact ⟨s, x, e⟩
  cases h with
  | var k => exact ⟨[], (atD_ok hi oIx0 oIx1 oIxl2 (ofT_str k)).trans rfl, rfl, by simp⟩
  | value k _ => exact ⟨[], (atD_ok hi oIx0 oIx1 oIxl2 (ofT_str k)).trans rfl, rfl, by simp⟩
  | get k => exact ⟨[], (atD_ok hi oIx0 oIx1 oIxl2 (ofT_str k)).trans rfl, rfl, by simp⟩
  | put _ w => obtain ⟨zs, ez⟩ := w.tupd; exact ⟨[_], (atD_ok hi oIx0 oIx1 oIxl3 (by rw [ez]; exact ofT_tup)).trans rfl, av_filter w, one w⟩
  | hear _ _ => exact ⟨[], (atD_ok hi oIx0 oIx1 oIxl2 ofT_tup).trans rfl, rfl, by simp⟩
  | call _ _ l _ => exact ⟨_, (atD_ok hi oIx0 oIx1 oIxl3 ofT_tup).trans rfl, avs_filter l, fun t ht => by obtain ⟨s, x, e, _⟩ := (l t ht).tag; exact ⟨s, x, e⟩⟩
  | say w => obtain ⟨zs, ez⟩ := w.tupd; exact ⟨[_], (atD_ok hi oIx0 oIx1 oIxl2 (by rw [ez]; exact ofT_tup)).trans rfl, av_filter w, one w⟩
  | raise _ w => obtain ⟨zs, ez⟩ := w.tupd; exact ⟨[_], (atD_ok hi oIx0 oIx1 oIxl3 (by rw [ez]; exact ofT_tup)).trans rfl, av_filter w, one w⟩
  | lt => exact ⟨[], (atD_ok hi oIx0 oIx1 oIxl4 ofT_tup).trans rfl, rfl, by simp⟩
  | pick w => exact ⟨[_], (atD_ok hi oIx0 oIx1 oIxl4 ofT_tup).trans rfl, av_filter w, one w⟩
  | tr => exact ⟨[], (atD_ok hi oIx0 oIx1 oIxl3 ofT_tup).trans rfl, rfl, by simp⟩
end
end K02

set_option Elab.async false
set_option linter.all false
set_option maxRecDepth 100000
set_option maxHeartbeats 4000000
set_option autoImplicit false
namespace K02
open PySem PySem.Spec PyProof.Rows L2 DL
section
variable {V C : List Str}
abbrev rowB : DS := (sSeq (sIf (xOp oEq (xOp oIx (xVar 9) (xC (.int 0))) (xC (.str "value")))
          (sMod 7 (xOp oIx (xVar 9) (xC (.int 1))) kApp)
          (sNil))
        (sSeq (sIf (xOp oEq (xOp oIx (xVar 9) (xC (.int 0))) (xC (.str "hear")))
          (sLet 7 (zL (xsAdd (xVar 7) (xOfZ (zL (xsOfT (xOp oIx (xVar 9) (xC (.int 1)))))))))
          (sNil))
        (sSeq (sLet 12 (zV (atD 9)))
        (sSeq (sLet 7 (zL (xsAdd (xVar 7) (xOfZ (zL (xsLc (iSeq (xVar 12)) (gSet 15) (xOp oEq (xOp oIx (xVar 15) (xC (.int 0))) (xC (.str "value"))) (xOp oIx (xVar 15) (xC (.int 1))) [15]))))))
        (sLet 8 (zV (xOp oAdd (xVar 8) (xIf (xOp oEq (xOp oIx (xVar 9) (xC (.int 0))) (xC (.str "call"))) (xLst (xsCons (xOp oIx (xVar 9) (xC (.int 1))) (xsNil))) (xLst (xsNil))))))))))
abbrev tg911 : TgF := gTupD (gsCons (gSet 9) (gsCons (gSet 10) (gsCons (gSet 11) (gsNil))))
theorem row_step {e l k : D} {F G a b c : List Str} {s0 s1 s2 s3 s4 s5 s6 s9 s10 s11 s12 s13 s14 s15 s16 : Slot} {S : Sto} (h : Part V C e a b c) (few : F.length ≤ 10000) (few2 : G.length ≤ 10000) :
    ∃ t12, stepD tg911 rowB (.tup [e, l, k]) [s0, s1, s2, s3, s4, s5, s6, .own (F.map .str), .val (.lst (G.map .str)), s9, s10, s11, s12, s13, s14, s15, s16] S =
      .ok (.next [s0, s1, s2, s3, s4, s5, s6, .own ((F ++ (b ++ a)).map .str), .val (.lst ((G ++ c).map .str)), .val e, .val l, .val k, t12, s13, s14, s15, s16]) S := by
  have sb := h.sub
  obtain ⟨as, e1, e2, e3⟩ := atD_part (ρ := [s0, s1, s2, s3, s4, s5, s6, .own ((F ++ b).map .str), .val (.lst (G.map .str)), .val e, .val l, .val k, s12, s13, s14, s15, s16]) (S := S) (i := 9) h rfl
  refine ⟨.val (.lst as), ?_⟩
  show rowB [s0, s1, s2, s3, s4, s5, s6, .own (F.map .str), .val (.lst (G.map .str)), .val e, .val l, .val k, s12, s13, s14, s15, s16] S = _
  have lc := vals_lc (fx := xVar 12) (i := 15) (ρ := [s0, s1, s2, s3, s4, s5, s6, .own ((F ++ b).map .str), .val (.lst (G.map .str)), .val e, .val l, .val k, .val (.lst as), s13, s14, s15, s16]) (S := S) (as := as) (.inr rfl) (fun t => rfl) e3
  rw [e2] at lc
  have f1 : fits ((F.map D.str).length + 1) = true := fits_small (by simp; omega)
  have f2 : fits ((F.map D.str).length + (b.map D.str).length) = true := fits_small (by simp; omega)
  have f3 : fits (((F ++ b).map D.str).length + (a.map D.str).length) = true := fits_small (by simp; omega)
  have f4 : fits ((G.map D.str).length + (c.map D.str).length) = true := fits_small (by simp; omega)
  have two : ∃ ρ1, (sIf (xOp oEq (xOp oIx (xVar 9) (xC (.int 0))) (xC (.str "value")))
          (sMod 7 (xOp oIx (xVar 9) (xC (.int 1))) kApp)
          (sNil)) [s0, s1, s2, s3, s4, s5, s6, .own (F.map .str), .val (.lst (G.map .str)), .val e, .val l, .val k, s12, s13, s14, s15, s16] S = .ok (.next ρ1) S ∧
        (sIf (xOp oEq (xOp oIx (xVar 9) (xC (.int 0))) (xC (.str "hear")))
          (sLet 7 (zL (xsAdd (xVar 7) (xOfZ (zL (xsOfT (xOp oIx (xVar 9) (xC (.int 1)))))))))
          (sNil)) ρ1 S = .ok (.next [s0, s1, s2, s3, s4, s5, s6, .own ((F ++ b).map .str), .val (.lst (G.map .str)), .val e, .val l, .val k, s12, s13, s14, s15, s16]) S := by
    clear lc e1 e2 e3 f3 f4
    simp at f1 f2
    obtain ⟨e', he⟩ : ∃ e', e' = e := ⟨_, rfl⟩
    cases h with
    | @value v _ _ => refine ⟨[s0, s1, s2, s3, s4, s5, s6, .own ((F ++ [v]).map .str), .val (.lst (G.map .str)), .val e', .val l, .val k, s12, s13, s14, s15, s16], ?_, ?_⟩ <;> subst he <;> simp [f1]
    | hear _ _ => refine ⟨[s0, s1, s2, s3, s4, s5, s6, .own (F.map .str), .val (.lst (G.map .str)), .val e', .val l, .val k, s12, s13, s14, s15, s16], ?_, ?_⟩ <;> subst he <;> simp [f2]
    | _ => refine ⟨[s0, s1, s2, s3, s4, s5, s6, .own (F.map .str), .val (.lst (G.map .str)), .val e', .val l, .val k, s12, s13, s14, s15, s16], ?_, ?_⟩ <;> subst he <;> simp
  obtain ⟨ρ1, q1, q2⟩ := two
  have q3 : (sLet 12 (zV (atD 9))) [s0, s1, s2, s3, s4, s5, s6, .own ((F ++ b).map .str), .val (.lst (G.map .str)), .val e, .val l, .val k, s12, s13, s14, s15, s16] S = .ok (.next [s0, s1, s2, s3, s4, s5, s6, .own ((F ++ b).map .str), .val (.lst (G.map .str)), .val e, .val l, .val k, .val (.lst as), s13, s14, s15, s16]) S := by
    rw [sLet_s, zV_s, e1]; rfl
  have q4 : (sLet 7 (zL (xsAdd (xVar 7) (xOfZ (zL (xsLc (iSeq (xVar 12)) (gSet 15) (xOp oEq (xOp oIx (xVar 15) (xC (.int 0))) (xC (.str "value"))) (xOp oIx (xVar 15) (xC (.int 1))) [15])))))) [s0, s1, s2, s3, s4, s5, s6, .own ((F ++ b).map .str), .val (.lst (G.map .str)), .val e, .val l, .val k, .val (.lst as), s13, s14, s15, s16] S =
      .ok (.next [s0, s1, s2, s3, s4, s5, s6, .own ((F ++ (b ++ a)).map .str), .val (.lst (G.map .str)), .val e, .val l, .val k, .val (.lst as), s13, s14, s15, s16]) S := by
    have e8 : xOfZ (zL (xsLc (iSeq (xVar 12)) (gSet 15) (xOp oEq (xOp oIx (xVar 15) (xC (.int 0))) (xC (.str "value"))) (xOp oIx (xVar 15) (xC (.int 1))) [15])) [s0, s1, s2, s3, s4, s5, s6, .own ((F ++ b).map .str), .val (.lst (G.map .str)), .val e, .val l, .val k, .val (.lst as), s13, s14, s15, s16] S = .ok (.lst (a.map .str)) S := by
      rw [xOfZ_s, zL_s, lc]; rfl
    rw [sLet_s, zL_s, xsAdd_s]
    simp only [xVar_s, List.getElem?_cons_succ, List.getElem?_cons_zero, R.bind_ok1, e8, f3, if_true]
    rw [← List.map_append, List.append_assoc]
    rfl
  have q5 : (sLet 8 (zV (xOp oAdd (xVar 8) (xIf (xOp oEq (xOp oIx (xVar 9) (xC (.int 0))) (xC (.str "call"))) (xLst (xsCons (xOp oIx (xVar 9) (xC (.int 1))) (xsNil))) (xLst (xsNil)))))) [s0, s1, s2, s3, s4, s5, s6, .own ((F ++ (b ++ a)).map .str), .val (.lst (G.map .str)), .val e, .val l, .val k, .val (.lst as), s13, s14, s15, s16] S =
      .ok (.next [s0, s1, s2, s3, s4, s5, s6, .own ((F ++ (b ++ a)).map .str), .val (.lst ((G ++ c).map .str)), .val e, .val l, .val k, .val (.lst as), s13, s14, s15, s16]) S := by
    have ad : oAdd S (.lst (G.map .str)) (.lst (c.map .str)) = .ok (.lst ((G ++ c).map .str)) S := by
      show (if fits ((G.map D.str).length + (c.map D.str).length) then _ else _) = _
      rw [if_pos f4, List.map_append]
    have xi : (xIf (xOp oEq (xOp oIx (xVar 9) (xC (.int 0))) (xC (.str "call"))) (xLst (xsCons (xOp oIx (xVar 9) (xC (.int 1))) (xsNil))) (xLst (xsNil))) [s0, s1, s2, s3, s4, s5, s6, .own ((F ++ (b ++ a)).map .str), .val (.lst (G.map .str)), .val e, .val l, .val k, .val (.lst as), s13, s14, s15, s16] S = .ok (.lst (c.map .str)) S := by
      clear lc e1 e2 e3 f3 f4 f1 f2 q1 q2 q3 q4 ad
      cases h <;> simp
    rw [sLet_s, zV_s, xOp_s]
    simp only [xVar_s, List.getElem?_cons_succ, List.getElem?_cons_zero, R.bind_ok1, xi, ad]
    rfl
  unfold rowB
  rw [sSeq_next q1, sSeq_next q2, sSeq_next q3, sSeq_next q4, q5]
end
end K02

set_option Elab.async false
set_option linter.all false
set_option maxRecDepth 100000
set_option maxHeartbeats 4000000
set_option autoImplicit false
namespace K02
open PySem PySem.Spec PyProof.Rows L2 DL
section
variable {V C : List Str}
noncomputable def nm2 (V C : List Str) (es : List D) : List Str := es.flatMap fun e => (trip V C e).2.1 ++ (trip V C e).1
theorem nm2_mem {es : List D} {x : Str} : x ∈ nms V C es ↔ x ∈ nm2 V C es := by
  unfold nms nm2
  rw [List.mem_flatMap, List.mem_flatMap]
  constructor
  · rintro ⟨e, he, h⟩
    exact ⟨e, he, List.mem_append.mpr (List.mem_append.mp h).symm⟩
  · rintro ⟨e, he, h⟩
    exact ⟨e, he, List.mem_append.mpr (List.mem_append.mp h).symm⟩
theorem nm2_len {es : List D} (h : ∀ e ∈ es, PartOk V C e) : (nm2 V C es).length ≤ es.length * 5 :=
  flat_len' fun k hk => by have := (h k hk).sub; rw [List.length_append]; omega
theorem rows_loop {n p j : Nat} {d l : D} {kn : List D} {s0 s1 s2 s3 s4 s5 s9 s10 s11 s12 s13 s14 s15 s16 : Slot} {S : Sto} (h : Wf V C n d) (few : (pre n d).length ≤ 500) (hj : objOf S j = some (rowsL n d p l kn)) :
    ∃ t9 t10 t11 t12 t13 t14 t15 t16, sFor (iSeq (xVal 6)) tg911 rowB [s0, s1, s2, s3, s4, s5, .val (.obj j), .own [], .val (.lst []), s9, s10, s11, s12, s13, s14, s15, s16] S =
      .ok (.next [s0, s1, s2, s3, s4, s5, .val (.obj j), .own ((nm2 V C (pre n d)).map .str), .val (.lst ((cls V C (pre n d)).map .str)), t9, t10, t11, t12, t13, t14, t15, t16]) S := by
  have pk := parts_pok h
  have c0e := col0 (n := n) (p := p) (d := d) (l := l) (kn := kn)
  have sh := rows_shape (n := n) (p := p) (d := d) (l := l) (kn := kn)
  have len := rowsL_len (p := p) (l := l) (kn := kn) h
  obtain ⟨ρ2, e, t9, t10, t11, t12, t13, t14, t15, t16, hρ⟩ := for_obj (g := tg911) (h := rowB) (i := 6) (ρ := [s0, s1, s2, s3, s4, s5, .val (.obj j), .own [], .val (.lst []), s9, s10, s11, s12, s13, s14, s15, s16]) (S := S) (j := j) rfl hj
    (fun m ρ => ∃ t9 t10 t11 t12 t13 t14 t15 t16, ρ = [s0, s1, s2, s3, s4, s5, .val (.obj j), .own ((nm2 V C ((pre n d).take m)).map .str), .val (.lst ((cls V C ((pre n d).take m)).map .str)), t9, t10, t11, t12, t13, t14, t15, t16])
    ⟨s9, s10, s11, s12, s13, s14, s15, s16, rfl⟩ fun m x ρ hx ⟨t9, t10, t11, t12, t13, t14, t15, t16, hρ⟩ => by
      subst hρ
      obtain ⟨a, b, c, rfl⟩ := sh x (List.mem_of_getElem? hx)
      have ea : (pre n d)[m]? = some a := by rw [← c0e, List.getElem?_map, hx]; rfl
      have ma : a ∈ pre n d := List.mem_of_getElem? ea
      have pa := pk a ma
      have tk : (pre n d).take (m + 1) = (pre n d).take m ++ [a] := by rw [List.take_add_one, ea]; rfl
      have tl : ((pre n d).take m).length ≤ 500 := by rw [List.length_take]; omega
      have tp : ∀ e ∈ (pre n d).take m, PartOk V C e := fun e he => pk e (List.mem_of_mem_take he)
      have l1 := nm2_len tp
      have l2 := (cls_sub tp).1
      obtain ⟨t12', es⟩ := row_step (l := b) (k := .tup c) (F := nm2 V C ((pre n d).take m)) (G := cls V C ((pre n d).take m)) (s0 := s0) (s1 := s1) (s2 := s2) (s3 := s3) (s4 := s4) (s5 := s5) (s6 := .val (.obj j)) (s9 := t9) (s10 := t10) (s11 := t11) (s12 := t12) (s13 := t13) (s14 := t14) (s15 := t15) (s16 := t16) (S := S) pa (by omega) (by omega)
      refine ⟨_, es, .val a, .val b, .val (.tup c), t12', t13, t14, t15, t16, ?_⟩
      rw [tk]
      unfold nm2 cls
      simp only [List.flatMap_append, List.flatMap_cons, List.flatMap_nil, List.append_nil]
  refine ⟨t9, t10, t11, t12, t13, t14, t15, t16, ?_⟩
  rw [len, List.take_length] at hρ
  rw [e, hρ]
end
end K02

set_option Elab.async false
set_option linter.all false
set_option maxRecDepth 100000
set_option maxHeartbeats 4000000
set_option autoImplicit false
namespace K02
open PySem PySem.Spec PyProof.Rows L2 DL
section
variable {V C : List Str}
theorem col_lc {n p j k : Nat} {d l : D} {kn : List D} {ρ : Rho} {S : Sto} {f : D → D} (h : Wf V C n d) (hn : n ≤ 6) (hv : ρ[6]? = some (.val (.obj j))) (hi : ∀ t : D, ((wipeR ρ [16]).set 16 (.val t))[16]? = some (.val t)) (hj : objOf S j = some (rowsL n d p l kn))
    (hf : ∀ a b c S, oIx S (.tup [a, b, .tup c]) (.int (k : Nat)) = .ok (f (.tup [a, b, .tup c])) S) :
    xCall cTuple (xsCons (xOfZ (zL (xsLc (iSeq (xVar 6)) (gSet 16) (xC (.bl true)) (xOp oIx (xVar 16) (xC (.int (k : Nat)))) [16]))) xsNil) ρ S = .ok (.tup ((rowsL n d p l kn).map f)) S := by
  have len := rowsL_len (p := p) (l := l) (kn := kn) h
  have b1 := pre_len h
  have b2 := big_le hn
  have lc := lc_mapO (f := xOp oIx (xVar 16) (xC (.int (k : Nat)))) (g := gSet 16) (vs := [16]) f hv hj (by omega) fun x hx => by
    obtain ⟨a, b, c, rfl⟩ := rows_shape x hx
    refine ⟨_, rfl, ?_⟩
    have v : xVar 16 ((wipeR ρ [16]).set 16 (.val (.tup [a, b, .tup c]))) S = .ok (.tup [a, b, .tup c]) S := by unfold xVar; rw [hi]
    rw [xOp_s, v]
    exact hf a b c S
  rw [xCall_s, xsCons_s, xOfZ_s, zL_s, lc]
  rfl
theorem lay_list {m : Nat} {L : List D} {S : Sto} (h : ∀ d ∈ L, Lay m d) (hm : m ≤ 90) : oNe S (.tup L) (.tup L) = .ok (.bl false) S := oNe_same (Lay.tup h) (by omega)
theorem pre_lay {n : Nat} {d : D} (h : Wf V C n d) : ∀ {m : Nat}, n ≤ m → ∀ e ∈ pre n d, Lay (3 + 3 * m) e := by
  induction n generalizing d with
  | zero => intro m hm e he; rw [List.mem_singleton.mp he]; exact (Wf.lay h).mono (by omega)
  | succ n ih =>
    intro m hm e he
    rcases List.mem_cons.mp (show e ∈ d :: (kidsOf d).flatMap (pre n) from he) with z | z
    · rw [z]; exact (Wf.lay h).mono (by omega)
    · obtain ⟨ks, hk⟩ := h.kids
      have ek := hk.eq
      subst ek
      obtain ⟨k, hk1, hk2⟩ := List.mem_flatMap.mp z
      exact ih (hk.wf k hk1) (by omega) e hk2
theorem link_lay_ks {f : D → Nat → D → List D} {n p : Nat} (hf : ∀ k q l, Lay 1 l → ∀ e ∈ f k q l, Lay 1 e) : ∀ {ks : List D} {i q : Nat}, ∀ e ∈ linkKs f n p i q ks, Lay 1 e
  | [], i, q => fun e he => by cases he
  | k :: ks, i, q => fun e he => by
    rcases List.mem_append.mp (show e ∈ f k q (lk p i) ++ linkKs f n p (i + 1) (q + (pre n k).length) ks from he) with z | z
    · exact hf k q _ (lay2 (n := 0) .int .int) e z
    · exact link_lay_ks hf e z
theorem link_lay : ∀ {n p : Nat} {d l : D}, Lay 1 l → ∀ e ∈ linkL n d p l, Lay 1 e
  | 0, p, d, l, h => fun e he => by rw [List.mem_singleton.mp he]; exact h
  | n + 1, p, d, l, h => fun e he => by
    rcases List.mem_cons.mp (show e ∈ l :: linkKs (linkL n) n p 0 (p + 1) (kidsOf d) from he) with z | z
    · rw [z]; exact h
    · exact link_lay_ks (fun k q l hl => link_lay hl) e z
end
end K02

set_option Elab.async false
set_option linter.all false
set_option maxRecDepth 100000
set_option maxHeartbeats 4000000
set_option autoImplicit false
namespace K02
open PySem PySem.Spec PyProof.Rows L2 DL
section
variable {V C : List Str}
theorem bound_lay {n i : Nat} {d : D} {ks : List D} (hk : Kids V C n d ks) : ∀ e ∈ boundOf d i, Lay 0 e := by
  cases hk with
  | leaf h => cases h with
    | atom h => rcases h with ⟨x, h1, rfl⟩ | ⟨x, h1, h2, rfl⟩ <;> simp [boundOf]
    | get h => simp [boundOf]
    | put _ _ => simp [boundOf, ofString_iff]
    | hear _ _ => simp [boundOf]
    | call _ _ _ _ => simp [boundOf, ofString_iff]
    | say _ => simp [boundOf]
    | raise _ _ => simp [boundOf, ofString_iff]
  | lt h1 _ _ =>
    intro e he
    unfold boundOf at he
    simp only at he
    split at he
    · split at he
      · rw [List.mem_singleton.mp he]; exact .str h1
      · cases he
    · cases he
  | pick _ _ _ _ => simp [boundOf, ofString_iff]
  | tr h1 h2 h3 =>
    intro e he
    unfold boundOf at he
    simp only at he
    split at he
    · split at he
      · split at he
        · rename_i r hr
          obtain ⟨v, y, x, rfl, hv, hy, _⟩ := h3 r (List.mem_of_getElem? hr)
          rw [List.mem_singleton.mp he]
          exact .str hy
        · cases he
      · cases he
    · cases he
theorem known_lay_ks {f : D → List D → List D} {n : Nat} {d : D} {kn : List D} (hkn : ∀ e ∈ kn, Lay 0 e) (hb : ∀ i, ∀ e ∈ boundOf d i, Lay 0 e) : ∀ {ks : List D} {i : Nat}, (∀ k ∈ ks, ∀ kn, (∀ e ∈ kn, Lay 0 e) → ∀ e ∈ f k kn, Lay 1 e) → ∀ e ∈ knownKs f d kn i ks, Lay 1 e
  | [], i, hf => fun e he => by cases he
  | k :: ks, i, hf => fun e he => by
    rcases List.mem_append.mp (show e ∈ f k (kn ++ boundOf d i) ++ knownKs f d kn (i + 1) ks from he) with z | z
    · exact hf k List.mem_cons_self _ (fun x hx => by
        rcases List.mem_append.mp hx with y | y
        · exact hkn x y
        · exact hb i x y) e z
    · exact known_lay_ks (n := n) hkn hb (fun x hx => hf x (List.mem_cons_of_mem _ hx)) e z
theorem known_lay : ∀ {n : Nat} {d : D} {kn : List D}, Wf V C n d → (∀ e ∈ kn, Lay 0 e) → ∀ e ∈ knownL n d kn, Lay 1 e
  | 0, d, kn, h, hkn => fun e he => by rw [List.mem_singleton.mp he]; exact Lay.tup hkn
  | n + 1, d, kn, h, hkn => fun e he => by
    rcases List.mem_cons.mp (show e ∈ .tup kn :: knownKs (knownL n) d kn 0 (kidsOf d) from he) with z | z
    · rw [z]; exact Lay.tup hkn
    · obtain ⟨ks, hk⟩ := h.kids
      have ek := hk.eq
      subst ek
      exact known_lay_ks (n := n) hkn (fun i => bound_lay hk) (fun k hk1 kn hkn => known_lay (hk.wf k hk1) hkn) e z
end
theorem cut_takeG {α : Type} {L : List α} {k : Nat} : cutG L none (some (k : Int)) = L.take k := by
  unfold cutG
  rw [HT.sIx_none, HT.sIx_nat, List.drop_zero, Nat.sub_zero]
  by_cases h : k ≤ L.length
  · rw [Nat.min_eq_left h]
  · rw [Nat.min_eq_right (by omega), List.take_of_length_le (by omega), List.take_of_length_le (by omega)]
theorem pen_new {ns : List Int} : F_law_pen [.scr ns] [] = .ok (.obj 0) [penC (ns.take 60) 0 0] := by
  have start : F_law_pen [.scr ns] [] = _ := fnD_s (S := []) (m := 1) (ds := [.scr ns]) (a := g_law_pen)
  rw [start]
  have sl : slc [] (.scr ns) none (some 60) = .ok (.lst ((ns.take 60).map .int)) [] := by
    show R.ok (D.lst ((cutG ns none (some ((60 : Nat) : Int))).map D.int)) [] = _
    rw [cut_takeG]
  have lc := lc_mapL (fx := xSl (xVar 0) xoNone (xoSome (xC (.int 60)))) (f := xCall cInt (xsCons (xVar 1) xsNil)) (g := gSet 1) (vs := [1]) (ρ := [.val (.scr ns), .non]) (S := []) (S1 := []) (L := (ns.take 60).map .int) (fun d => d) (by simp [sl]) fun x hx => by
    obtain ⟨i, _, rfl⟩ := List.mem_map.mp hx
    exact ⟨_, rfl, by simp⟩
  rw [List.map_id'] at lc
  unfold g_law_pen
  rw [show ([D.scr ns].map Slot.val ++ List.replicate 1 Slot.non) = [.val (.scr ns), .non] from rfl]
  simp [lc, penC]
end K02

set_option Elab.async false
set_option linter.all false
set_option maxRecDepth 100000
set_option maxHeartbeats 4000000
set_option autoImplicit false
namespace K02
open PySem PySem.Spec PyProof.Rows L2 DL
section
variable {V C : List Str}
theorem cLen_obj {S : Sto} {j : Nat} {xs : List D} (h : objOf S j = some xs) : cLen S [.obj j] = .ok (.int xs.length) S := by
  unfold cLen
  have e : seqOf S (.obj j) = some xs := h
  simp only [e]
theorem chk1 {d : D} {ps : List D} {j : Nat} {s0 s1 s2 s3 s7 s8 s9 s10 s11 s12 s13 s14 s15 s16 : Slot} {S : Sto} (h : Wf V C 4 d) (hp : ps.length ≤ 100) (hj : objOf S j = some []) :
    (xOr (xOp oNe (xFn (F_law_walk 12) (xsCons (xVal 5) (xsCons (xC (.int 0)) (xsCons (xC .non) (xsCons (xCall cTuple (xsCons (xVar 4) (xsNil))) (xsCons (xVal 6) (xsNil))))))) (xCall cLen (xsCons (xVar 6) (xsNil)))) (xOp oNe (xFn (F_parts 12) (xsCons (xVal 5) (xsNil))) (xCall cTuple (xsCons (xOfZ (zL (xsLc (iSeq (xVar 6)) (gSet 16) (xC (.bl true)) (xOp oIx (xVar 16) (xC (.int 0))) [16]))) (xsNil)))))
      [s0, s1, s2, s3, .val (.lst ps), .val d, .val (.obj j), s7, s8, s9, s10, s11, s12, s13, s14, s15, s16] S = .ok (.bl false) (S.set j (.lst (rowsL 4 d 0 .non ps))) := by
  have b1 := pre_len h
  have b2 := big_le (n := 4) (by omega)
  have w : F_law_walk 12 [d, .int 0, .non, .tup ps, .obj j] S = .ok (.int ((0 + (pre 4 d).length : Nat) : Int)) (S.set j (.lst ([] ++ rowsL 4 d 0 .non ps))) := walk_ok (p := 0) h (by omega) hj (by simp; omega) (by omega)
  rw [List.nil_append] at w
  have oj : objOf (S.set j (.lst (rowsL 4 d 0 .non ps))) j = some (rowsL 4 d 0 .non ps) := objOf_set hj
  have len := rowsL_len (p := 0) (l := .non) (kn := ps) h
  have a1 : (xOp oNe (xFn (F_law_walk 12) (xsCons (xVal 5) (xsCons (xC (.int 0)) (xsCons (xC .non) (xsCons (xCall cTuple (xsCons (xVar 4) (xsNil))) (xsCons (xVal 6) (xsNil))))))) (xCall cLen (xsCons (xVar 6) (xsNil)))) [s0, s1, s2, s3, .val (.lst ps), .val d, .val (.obj j), s7, s8, s9, s10, s11, s12, s13, s14, s15, s16] S = .ok (.bl false) (S.set j (.lst (rowsL 4 d 0 .non ps))) := by
    have cl := cLen_obj oj
    rw [len] at cl
    have c : ((0 + (pre 4 d).length : Nat) : Int) = (((pre 4 d).length : Nat) : Int) := by omega
    rw [c] at w
    simp [w, cl]
  have cl := col_lc (f := c0) (k := 0) (ρ := [s0, s1, s2, s3, .val (.lst ps), .val d, .val (.obj j), s7, s8, s9, s10, s11, s12, s13, s14, s15, s16]) h (by omega) rfl (fun t => rfl) oj (fun a b c S => oIx0)
  rw [col0] at cl
  have pa := parts_ok (fu := 12) (S := S.set j (.lst (rowsL 4 d 0 .non ps))) h (by omega) (by omega)
  have e1 : (xFn (F_parts 12) (xsCons (xVal 5) (xsNil))) [s0, s1, s2, s3, .val (.lst ps), .val d, .val (.obj j), s7, s8, s9, s10, s11, s12, s13, s14, s15, s16] (S.set j (.lst (rowsL 4 d 0 .non ps))) = .ok (.tup (pre 4 d)) (S.set j (.lst (rowsL 4 d 0 .non ps))) := by
    rw [xFn_s]; exact pa
  rw [xOr_s, a1, R.bind_ok1]
  show (xOp oNe _ _ _ _) = _
  rw [xOp_s, e1, R.bind_ok1]
  have cl' : (xCall cTuple (xsCons (xOfZ (zL (xsLc (iSeq (xVar 6)) (gSet 16) (xC (.bl true)) (xOp oIx (xVar 16) (xC (.int 0))) [16]))) xsNil)) [s0, s1, s2, s3, .val (.lst ps), .val d, .val (.obj j), s7, s8, s9, s10, s11, s12, s13, s14, s15, s16] (S.set j (.lst (rowsL 4 d 0 .non ps))) = .ok (.tup (pre 4 d)) (S.set j (.lst (rowsL 4 d 0 .non ps))) := cl
  rw [cl', R.bind_ok1]
  exact lay_list (m := 15) (pre_lay h (Nat.le_refl 4)) (by omega)
end
end K02

set_option Elab.async false
set_option linter.all false
set_option maxRecDepth 100000
set_option maxHeartbeats 4000000
set_option autoImplicit false
namespace K02
open PySem PySem.Spec PyProof.Rows L2 DL
section
variable {V C : List Str}
theorem known_head {n : Nat} {d : D} {kn : List D} : ∃ T, knownL n d kn = .tup kn :: T := by
  cases n with
  | zero => exact ⟨_, rfl⟩
  | succ n => exact ⟨_, rfl⟩
theorem chk2 {d : D} {ps : List D} {j : Nat} {s0 s1 s2 s3 s7 s8 s9 s10 s11 s12 s13 s14 s15 s16 : Slot} {S : Sto} (h : Wf V C 4 d) (hp : ps.length ≤ 100) (hl : ∀ e ∈ ps, Lay 0 e) (oj : objOf S j = some (rowsL 4 d 0 .non ps)) :
    (xOr (xOp oNe (xFnK [0] F_links xsNil (xsCons (xVal 5) (xsNil))) (xCall cTuple (xsCons (xOfZ (zL (xsLc (iSeq (xVar 6)) (gSet 16) (xC (.bl true)) (xOp oIx (xVar 16) (xC (.int 1))) [16]))) (xsNil)))) (xOr (xOp oNe (xFnK [1, 0] F_scopes xsNil (xsCons (xVal 5) (xsCons (xVal 4) (xsNil)))) (xCall cTuple (xsCons (xOfZ (zL (xsLc (iSeq (xVar 6)) (gSet 16) (xC (.bl true)) (xOp oIx (xVar 16) (xC (.int 2))) [16]))) (xsNil)))) (xOp oNe (xOp oIx (xFn F_scopes (xsCons (xTup (xsNil)) (xsCons (xVal 5) (xsNil)))) (xC (.int 0))) (xTup (xsNil)))))
      [s0, s1, s2, s3, .val (.lst ps), .val d, .val (.obj j), s7, s8, s9, s10, s11, s12, s13, s14, s15, s16] S = .ok (.bl false) S := by
  have c1' : (xCall cTuple (xsCons (xOfZ (zL (xsLc (iSeq (xVar 6)) (gSet 16) (xC (.bl true)) (xOp oIx (xVar 16) (xC (.int 1))) [16]))) xsNil)) [s0, s1, s2, s3, .val (.lst ps), .val d, .val (.obj j), s7, s8, s9, s10, s11, s12, s13, s14, s15, s16] S = .ok (.tup (linkL 4 d 0 .non)) S := by
    rw [← col1 (n := 4) (p := 0) (d := d) (l := .non) (kn := ps)]
    exact col_lc (f := c1) (k := 1) h (by omega) rfl (fun t => rfl) oj (fun a b c S => oIx1)
  have c2' : (xCall cTuple (xsCons (xOfZ (zL (xsLc (iSeq (xVar 6)) (gSet 16) (xC (.bl true)) (xOp oIx (xVar 16) (xC (.int 2))) [16]))) xsNil)) [s0, s1, s2, s3, .val (.lst ps), .val d, .val (.obj j), s7, s8, s9, s10, s11, s12, s13, s14, s15, s16] S = .ok (.tup (knownL 4 d ps)) S := by
    rw [← col2 (n := 4) (p := 0) (d := d) (l := .non) (kn := ps)]
    exact col_lc (f := c2) (k := 2) h (by omega) rfl (fun t => rfl) oj (fun a b c S => oIx2)
  have li := links_ok (S := S) h (by omega)
  have sc := scopes_ok (S := S) (pm := .lst ps) (pl := ps) h (by omega) cTuple_lst (by omega)
  have sc0 := scopes_ok (S := S) (pm := .tup []) (pl := []) h (by omega) cTuple_tup (by simp)
  obtain ⟨T, eT⟩ := known_head (n := 4) (d := d) (kn := [])
  rw [eT] at sc0
  have e1 : (xFnK [0] F_links xsNil (xsCons (xVal 5) (xsNil))) [s0, s1, s2, s3, .val (.lst ps), .val d, .val (.obj j), s7, s8, s9, s10, s11, s12, s13, s14, s15, s16] S = .ok (.tup (linkL 4 d 0 .non)) S := by
    rw [xFnK_s]; exact li
  have e2 : (xFnK [1, 0] F_scopes xsNil (xsCons (xVal 5) (xsCons (xVal 4) (xsNil)))) [s0, s1, s2, s3, .val (.lst ps), .val d, .val (.obj j), s7, s8, s9, s10, s11, s12, s13, s14, s15, s16] S = .ok (.tup (knownL 4 d ps)) S := by
    rw [xFnK_s]; exact sc
  have e3 : (xOp oIx (xFn F_scopes (xsCons (xTup (xsNil)) (xsCons (xVal 5) (xsNil)))) (xC (.int 0))) [s0, s1, s2, s3, .val (.lst ps), .val d, .val (.obj j), s7, s8, s9, s10, s11, s12, s13, s14, s15, s16] S = .ok (.tup []) S := by
    have z : (xFn F_scopes (xsCons (xTup (xsNil)) (xsCons (xVal 5) (xsNil)))) [s0, s1, s2, s3, .val (.lst ps), .val d, .val (.obj j), s7, s8, s9, s10, s11, s12, s13, s14, s15, s16] S = .ok (.tup (.tup [] :: T)) S := by rw [xFn_s]; exact sc0
    rw [xOp_s, z]
    exact oIx0
  rw [xOr_s, xOp_s, e1, R.bind_ok1, c1', R.bind_ok1, lay_list (m := 1) (link_lay .non) (by omega), R.bind_ok1]
  show (xOr _ _ _ _) = _
  rw [xOr_s, xOp_s, e2, R.bind_ok1, c2', R.bind_ok1, lay_list (m := 1) (known_lay h hl) (by omega), R.bind_ok1]
  show (xOp oNe _ _ _ _) = _
  rw [xOp_s, e3, R.bind_ok1]
  exact lay_list (m := 0) (L := []) (by simp) (by omega)
theorem chk3 {d : D} {ps : List D} {j : Nat} {s0 s1 s2 s3 s9 s10 s11 s12 s13 s14 s15 s16 : Slot} {S : Sto} (h : Wf V C 4 d) (few : (pre 4 d).length ≤ 500) (hv : V.length < 64) (hc : C.length < 64) :
    (xOr (xOp oNe (xFn F_names_in (xsCons (xVal 5) (xsNil))) (xCall cTuple (xsCons (xSortSet (xVar 7)) (xsNil)))) (xOp oNe (xFnK [0] F_calls_in xsNil (xsCons (xVal 5) (xsNil))) (xCall cTuple (xsCons (xSortSet (xVar 8)) (xsNil)))))
      [s0, s1, s2, s3, .val (.lst ps), .val d, .val (.obj j), .own ((nm2 V C (pre 4 d)).map .str), .val (.lst ((cls V C (pre 4 d)).map .str)), s9, s10, s11, s12, s13, s14, s15, s16] S = .ok (.bl false) S := by
  have pk := parts_pok h
  have n1 := names_ok (S := S) h (by omega) few hv
  have k1 := calls_ok (S := S) h (by omega) few hc
  have nl := nm2_len pk
  have so := sortSet_ok (S := S) (L := nm2 V C (pre 4 d)) (V := V) (by omega) (fun x hx => ((nms_sub pk).2 x (nm2_mem.mpr hx)).2) hv
  have cs := cls_sub pk
  have so2 := sortSet_ok (S := S) (L := cls V C (pre 4 d)) (V := C) (by omega) (fun x hx => (cs.2 x hx).2) hc
  rw [← sets_eq fun x => nm2_mem (es := pre 4 d) (x := x)] at so
  have ly : ∀ {L : List Str}, (∀ x ∈ L, okStr x) → ∀ e ∈ (srtS (uniqS L)).map D.str, Lay 0 e := fun {L} hL e he => by
    obtain ⟨x, hx, rfl⟩ := List.mem_map.mp he
    exact .str (hL x (uniqS_mem.mp ((srtS_perm _).mem_iff.mp hx)))
  have e1 := lay_list (S := S) (ly fun x hx => ((nms_sub pk).2 x hx).1) (by omega)
  have e2 := lay_list (S := S) (ly fun x hx => (cs.2 x hx).1) (by omega)
  simp [n1, xSortSet, so, e1, kwG, k1, so2, e2]
end
end K02

set_option Elab.async false
set_option linter.all false
set_option maxRecDepth 100000
set_option maxHeartbeats 4000000
set_option autoImplicit false
namespace K02
open PySem PySem.Spec PyProof.Rows L2 DL
section
variable {V C : List Str}
def bothD (d : D) : D := .tup [.str "let", .str "q", d, d]
theorem both_wf {n : Nat} {d : D} (h : Wf V C n d) : Wf V C (n + 1) (bothD d) := .inr (.inl ⟨_, d, d, rfl, okStr_lit "q", h, h⟩)
theorem both_pre {n : Nat} {d : D} : pre (n + 1) (bothD d) = bothD d :: (pre n d ++ pre n d) := by
  show bothD d :: (kidsOf (bothD d)).flatMap (pre n) = _
  have k : kidsOf (bothD d) = [d, d] := by simp [kidsOf, bothD]
  rw [k]
  simp
theorem both_link {n : Nat} {d : D} : ∃ T, linkL (n + 1) (bothD d) 0 .non = (.non :: linkL n d 1 (lk 0 0)) ++ (lk 0 1 :: T) := by
  have k : kidsOf (bothD d) = [d, d] := by simp [kidsOf, bothD]
  have hd : ∀ {p : Nat}, ∃ T, linkL n d p (lk 0 1) = lk 0 1 :: T := fun {p} => by
    cases n with
    | zero => exact ⟨_, rfl⟩
    | succ n => exact ⟨_, rfl⟩
  obtain ⟨T, eT⟩ := hd (p := 1 + (pre n d).length)
  refine ⟨T, ?_⟩
  show .non :: linkKs (linkL n) n 0 0 (0 + 1) (kidsOf (bothD d)) = _
  rw [k]
  show .non :: (linkL n d (0 + 1) (lk 0 0) ++ (linkL n d (0 + 1 + (pre n d).length) (lk 0 (0 + 1)) ++ [])) = _
  rw [List.append_nil, show 0 + 1 + (pre n d).length = 1 + (pre n d).length from by omega, show lk 0 (0 + 1) = lk 0 1 from rfl, eT]
  rfl
theorem both_known {n : Nat} {d : D} {kn : List D} : ∃ T, knownL (n + 1) (bothD d) kn = (.tup kn :: knownL n d kn) ++ (.tup (kn ++ [.str "q"]) :: T) := by
  have k : kidsOf (bothD d) = [d, d] := by simp [kidsOf, bothD]
  have b0 : boundOf (bothD d) 0 = [] := by simp [boundOf, bothD]
  have b1 : boundOf (bothD d) 1 = [.str "q"] := by simp [boundOf, bothD]
  obtain ⟨T, eT⟩ := known_head (n := n) (d := d) (kn := kn ++ [.str "q"])
  refine ⟨T, ?_⟩
  show .tup kn :: knownKs (knownL n) (bothD d) kn 0 (kidsOf (bothD d)) = _
  rw [k]
  show .tup kn :: (knownL n d (kn ++ boundOf (bothD d) 0) ++ (knownL n d (kn ++ boundOf (bothD d) (0 + 1)) ++ [])) = _
  rw [b0, show boundOf (bothD d) (0 + 1) = boundOf (bothD d) 1 from rfl, b1, List.append_nil, List.append_nil, eT]
  rfl
end
end K02

set_option Elab.async false
set_option linter.all false
set_option maxRecDepth 100000
set_option maxHeartbeats 4000000
set_option autoImplicit false
namespace K02
open PySem PySem.Spec PyProof.Rows L2 DL
section
variable {V C : List Str}
theorem cut_mid {x : D} {A B : List D} {m : Nat} (h : A.length = m) : cutG (x :: (A ++ B)) (some ((1 : Nat) : Int)) (some ((m + 1 : Nat) : Int)) = A := by
  unfold cutG
  rw [HT.sIx_nat, HT.sIx_nat]
  have l : (x :: (A ++ B)).length = m + B.length + 1 := by rw [List.length_cons, List.length_append, h]
  rw [l, Nat.min_eq_left (by omega), Nat.min_eq_left (by omega)]
  simp [← h]
theorem cut_end {x : D} {A B : List D} {m : Nat} (h : A.length = m) : cutG (x :: (A ++ B)) (some ((m + 1 : Nat) : Int)) none = B := by
  unfold cutG
  rw [HT.sIx_nat, HT.sIx_none]
  have l : (x :: (A ++ B)).length = m + B.length + 1 := by rw [List.length_cons, List.length_append, h]
  rw [l, Nat.min_eq_left (by omega)]
  simp [← h]
theorem slc_tup {S : Sto} {L M : List D} {lo hi : Option Int} (h : cutG L lo hi = M) : slc S (.tup L) lo hi = .ok (.tup M) S := by
  show R.ok (D.tup (cutG L lo hi)) S = _
  rw [h]
end
end K02

set_option Elab.async false
set_option linter.all false
set_option maxRecDepth 100000
set_option maxHeartbeats 4000000
set_option autoImplicit false
namespace K02
open PySem PySem.Spec PyProof.Rows L2 DL
section
variable {V C : List Str}
theorem chk4 {d : D} {ps : List D} {s0 s1 s2 s3 s6 s7 s8 s9 s10 s11 s12 s15 s16 : Slot} {S : Sto} (h : Wf V C 4 d) (hp : ps.length ≤ 100) (hl : ∀ e ∈ ps, Lay 0 e) :
    (xOr (xOp oNe (xSl (xFn (F_parts 12) (xsCons (xVal 13) (xsNil))) (xoSome (xC (.int 1))) (xoSome (xOp oAdd (xVar 14) (xC (.int 1))))) (xFn (F_parts 12) (xsCons (xVal 5) (xsNil)))) (xOr (xOp oNe (xSl (xFn (F_parts 12) (xsCons (xVal 13) (xsNil))) (xoSome (xOp oAdd (xVar 14) (xC (.int 1)))) (xoNone)) (xFn (F_parts 12) (xsCons (xVal 5) (xsNil)))) (xOr (xOp oNe (xOp oIx (xFn F_links (xsCons (xVal 13) (xsNil))) (xOp oAdd (xVar 14) (xC (.int 1)))) (xTup (xsCons (xC (.int 0)) (xsCons (xC (.int 1)) (xsNil))))) (xOp oNe (xOp oIx (xFn F_scopes (xsCons (xVal 4) (xsCons (xVal 13) (xsNil)))) (xOp oAdd (xVar 14) (xC (.int 1)))) (xOp oAdd (xCall cTuple (xsCons (xVar 4) (xsNil))) (xTup (xsCons (xC (.str "q")) (xsNil))))))))
      [s0, s1, s2, s3, .val (.lst ps), .val d, s6, s7, s8, s9, s10, s11, s12, .val (bothD d), .val (.int (((pre 4 d).length : Nat) : Int)), s15, s16] S = .ok (.bl false) S := by
  have hb := both_wf h
  have pa := parts_ok (fu := 12) (S := S) h (by omega) (by omega)
  have pb := parts_ok (fu := 12) (S := S) hb (by omega) (by omega)
  have lb := links_ok (S := S) hb (by omega)
  have sb := scopes_ok (S := S) (pm := .lst ps) (pl := ps) hb (by omega) cTuple_lst (by omega)
  rw [both_pre] at pb
  have e1 := slc_tup (S := S) (cut_mid (x := bothD d) (A := pre 4 d) (B := pre 4 d) rfl)
  have e2 := slc_tup (S := S) (cut_end (x := bothD d) (A := pre 4 d) (B := pre 4 d) rfl)
  obtain ⟨T1, t1⟩ := both_link (n := 4) (d := d)
  obtain ⟨T2, t2⟩ := both_known (n := 4) (d := d) (kn := ps)
  have i1 : oIx S (.tup (linkL 5 (bothD d) 0 .non)) (.int (((pre 4 d).length + 1 : Nat) : Int)) = .ok (lk 0 1) S := by
    rw [t1]; exact ix_tup (by rw [List.length_cons, linkL_len h])
  have i2 : oIx S (.tup (knownL 5 (bothD d) ps)) (.int (((pre 4 d).length + 1 : Nat) : Int)) = .ok (.tup (ps ++ [.str "q"])) S := by
    rw [t2]; exact ix_tup (by rw [List.length_cons, knownL_len h])
  have ad : oAdd S (.tup ps) (.tup [.str "q"]) = .ok (.tup (ps ++ [.str "q"])) S := by
    show (if fits (ps.length + 1) then _ else _) = _
    rw [if_pos (fits_small (by omega))]
  have n1 := lay_list (S := S) (pre_lay h (Nat.le_refl 4)) (by omega)
  have n2 : oNe S (lk 0 1) (.tup [.int 0, .int 1]) = .ok (.bl false) S := oNe_same (n := 1) (lay2 (n := 0) .int .int) (by omega)
  have n3 : oNe S (.tup (ps ++ [.str "q"])) (.tup (ps ++ [.str "q"])) = .ok (.bl false) S := lay_list (m := 0) (fun e he => by
    rcases List.mem_append.mp he with z | z
    · exact hl e z
    · rw [List.mem_singleton.mp z]; exact .str (okStr_lit _)) (by omega)
  have c : (((pre 4 d).length : Nat) : Int) + 1 = (((pre 4 d).length + 1 : Nat) : Int) := by omega
  have e1' : slc S (.tup (bothD d :: (pre 4 d ++ pre 4 d))) (some 1) (some (((pre 4 d).length + 1 : Nat) : Int)) = .ok (.tup (pre 4 d)) S := e1
  simp only [xOr_s, xOp_s, xSl_s, xFn_s, xsCons_s, xsNil_s, xVal_s, xVar_s, List.getElem?_cons_succ, List.getElem?_cons_zero, R.bind_ok1, xC_s, xoSome_s, xoNone_s, oAdd_int, c, pa, pb, lb, sb, e1', e2, n1, i1, i2, xTup_s, n2, xCall_s, cTuple_lst, ad, n3]
end
end K02

set_option Elab.async false
set_option linter.all false
set_option maxRecDepth 100000
set_option maxHeartbeats 4000000
set_option autoImplicit false
namespace K02
open PySem PySem.Spec PyProof.Rows L2 DL
theorem obj_new {S : Sto} {xs : List D} : objOf (S ++ [.lst xs]) S.length = some xs := by
  unfold objOf
  rw [List.getElem?_append_right (Nat.le_refl _), Nat.sub_self]
  rfl
theorem pen_new_set {n : Nat} {rest S : Sto} {c c' : Cell} (P : Pen n rest S) : Pen n (rest ++ [c']) ((S ++ [c]).set S.length c') := by
  obtain ⟨L, a, r, e, h⟩ := P
  subst e
  refine ⟨L, a, r, ?_, h⟩
  simp
end K02

set_option Elab.async false
set_option linter.all false
set_option maxRecDepth 100000
set_option maxHeartbeats 4000000
set_option autoImplicit false
namespace K02
open PySem PySem.Spec PyProof.Rows L2 DL
theorem params_ok {n : Nat} {rest S : Sto} {s0 : Slot} {t : List Slot} (hn : n + 5 ≤ 1000000) (P : Pen n rest S) :
    ∃ ps S', (xSl (xFn F_law_mixed (xsCons (xVal 1) (xsCons (xLst (xsCons (xC (.str "x")) (xsCons (xC (.str "y")) (xsCons (xC (.str "p")) (xsCons (xC (.str "z")) (xsNil)))))) (xsNil)))) (xoNone) (xoSome (xFn F_law_draw (xsCons (xVal 1) (xsCons (xC (.int 4)) (xsNil)))))) (s0 :: .val (.obj 0) :: t) S = .ok (.lst ps) S' ∧ Scope ps ∧ ps.length ≤ 4 ∧ Pen (n + 5) rest S' := by
  obtain ⟨M, S1, e1, pm, P1⟩ := mixed_k (L := (["x", "y", "p", "z"] : List Str).map .str) (by simp) (by simp; omega) P
  have P1' : Pen (n + 4) rest S1 := P1
  obtain ⟨v, S2, e2, v0, v1, P2⟩ := draw_k (m := 4) (by omega) (by omega) (by omega) P1'
  obtain ⟨k, rfl⟩ := Int.eq_ofNat_of_zero_le v0
  have len : M.length = 4 := pm.length_eq
  refine ⟨M.take k, S2, ?_, ⟨by rw [List.length_take]; omega, fun d hd => ?_⟩, by rw [List.length_take]; omega, P2⟩
  · simp at e1
    simp only [xSl_s, xFn_s, xsCons_s, xVal_s, List.getElem?_cons_succ, List.getElem?_cons_zero, R.bind_ok1, xLst_s, xC_s, xsNil_s, e1, xoNone_s, xoSome_s, e2, slc_lst]
  · obtain ⟨x, hx, rfl⟩ := List.mem_map.mp (pm.mem_iff.mp (List.mem_of_mem_take hd))
    refine ⟨x, ?_, rfl⟩
    simp at hx
    rcases hx with h | h | h | h <;> rw [h] <;> exact okStr_lit _
end K02

set_option Elab.async false
set_option linter.all false
set_option maxRecDepth 100000
set_option maxHeartbeats 4000000
set_option autoImplicit false
namespace K02
open PySem PySem.Spec PyProof.Rows L2 DL
abbrev lastB : DS :=
        (sIf (xOr (xOp oNe (xSl (xFn (F_parts 12) (xsCons (xVal 13) (xsNil))) (xoSome (xC (.int 1))) (xoSome (xOp oAdd (xVar 14) (xC (.int 1))))) (xFn (F_parts 12) (xsCons (xVal 5) (xsNil)))) (xOr (xOp oNe (xSl (xFn (F_parts 12) (xsCons (xVal 13) (xsNil))) (xoSome (xOp oAdd (xVar 14) (xC (.int 1)))) (xoNone)) (xFn (F_parts 12) (xsCons (xVal 5) (xsNil)))) (xOr (xOp oNe (xOp oIx (xFn F_links (xsCons (xVal 13) (xsNil))) (xOp oAdd (xVar 14) (xC (.int 1)))) (xTup (xsCons (xC (.int 0)) (xsCons (xC (.int 1)) (xsNil))))) (xOp oNe (xOp oIx (xFn F_scopes (xsCons (xVal 4) (xsCons (xVal 13) (xsNil)))) (xOp oAdd (xVar 14) (xC (.int 1)))) (xOp oAdd (xCall cTuple (xsCons (xVar 4) (xsNil))) (xTup (xsCons (xC (.str "q")) (xsNil))))))))
          (sRet (xC (.bl false)))
          (sNil))
def lapB : DS :=
  (sSeq (sLet 4 (zV (xSl (xFn F_law_mixed (xsCons (xVal 1) (xsCons (xLst (xsCons (xC (.str "x")) (xsCons (xC (.str "y")) (xsCons (xC (.str "p")) (xsCons (xC (.str "z")) (xsNil)))))) (xsNil)))) (xoNone) (xoSome (xFn F_law_draw (xsCons (xVal 1) (xsCons (xC (.int 4)) (xsNil))))))))
        (sSeq (sPar 5 6 (zV (xFn F_law_fit_body (xsCons (xVal 1) (xsCons (xVal 2) (xsCons (xVal 4) (xsCons (xC (.int 4)) (xsNil))))))) (zV (xNew (zL (xsNil)))))
        (sSeq (sIf (xOr (xOp oNe (xFn (F_law_walk 12) (xsCons (xVal 5) (xsCons (xC (.int 0)) (xsCons (xC .non) (xsCons (xCall cTuple (xsCons (xVar 4) (xsNil))) (xsCons (xVal 6) (xsNil))))))) (xCall cLen (xsCons (xVar 6) (xsNil)))) (xOp oNe (xFn (F_parts 12) (xsCons (xVal 5) (xsNil))) (xCall cTuple (xsCons (xOfZ (zL (xsLc (iSeq (xVar 6)) (gSet 16) (xC (.bl true)) (xOp oIx (xVar 16) (xC (.int 0))) [16]))) (xsNil)))))
          (sRet (xC (.bl false)))
          (sNil))
        (sSeq (sIf (xOr (xOp oNe (xFnK [0] F_links xsNil (xsCons (xVal 5) (xsNil))) (xCall cTuple (xsCons (xOfZ (zL (xsLc (iSeq (xVar 6)) (gSet 16) (xC (.bl true)) (xOp oIx (xVar 16) (xC (.int 1))) [16]))) (xsNil)))) (xOr (xOp oNe (xFnK [1, 0] F_scopes xsNil (xsCons (xVal 5) (xsCons (xVal 4) (xsNil)))) (xCall cTuple (xsCons (xOfZ (zL (xsLc (iSeq (xVar 6)) (gSet 16) (xC (.bl true)) (xOp oIx (xVar 16) (xC (.int 2))) [16]))) (xsNil)))) (xOp oNe (xOp oIx (xFn F_scopes (xsCons (xTup (xsNil)) (xsCons (xVal 5) (xsNil)))) (xC (.int 0))) (xTup (xsNil)))))
          (sRet (xC (.bl false)))
          (sNil))
        (sSeq (sPar 7 8 (zL (xsNil)) (zV (xLst (xsNil))))
        (sSeq (sFor (iSeq (xVal 6)) (gTupD (gsCons (gSet 9) (gsCons (gSet 10) (gsCons (gSet 11) (gsNil)))))
          (sSeq (sIf (xOp oEq (xOp oIx (xVar 9) (xC (.int 0))) (xC (.str "value")))
            (sMod 7 (xOp oIx (xVar 9) (xC (.int 1))) kApp)
            (sNil))
          (sSeq (sIf (xOp oEq (xOp oIx (xVar 9) (xC (.int 0))) (xC (.str "hear")))
            (sLet 7 (zL (xsAdd (xVar 7) (xOfZ (zL (xsOfT (xOp oIx (xVar 9) (xC (.int 1)))))))))
            (sNil))
          (sSeq (sLet 12 (zV (xDGet2 (xDic (xpCons (xC (.str "put")) (xLst (xsCons (xOp oIx (xVar 9) (xNeg (xC (.int 1)))) (xsNil))) (xpCons (xC (.str "raise")) (xLst (xsCons (xOp oIx (xVar 9) (xNeg (xC (.int 1)))) (xsNil))) (xpCons (xC (.str "say")) (xLst (xsCons (xOp oIx (xVar 9) (xNeg (xC (.int 1)))) (xsNil))) (xpCons (xC (.str "pick")) (xLst (xsCons (xOp oIx (xVar 9) (xC (.int 1))) (xsNil))) (xpCons (xC (.str "call")) (xOfZ (zL (xsOfT (xOp oIx (xVar 9) (xNeg (xC (.int 1))))))) (xpNil))))))) (xOp oIx (xVar 9) (xC (.int 0))) (xLst (xsNil)))))
          (sSeq (sLet 7 (zL (xsAdd (xVar 7) (xOfZ (zL (xsLc (iSeq (xVar 12)) (gSet 15) (xOp oEq (xOp oIx (xVar 15) (xC (.int 0))) (xC (.str "value"))) (xOp oIx (xVar 15) (xC (.int 1))) [15]))))))
          (sLet 8 (zV (xOp oAdd (xVar 8) (xIf (xOp oEq (xOp oIx (xVar 9) (xC (.int 0))) (xC (.str "call"))) (xLst (xsCons (xOp oIx (xVar 9) (xC (.int 1))) (xsNil))) (xLst (xsNil)))))))))))
        (sSeq (sIf (xOr (xOp oNe (xFn F_names_in (xsCons (xVal 5) (xsNil))) (xCall cTuple (xsCons (xSortSet (xVar 7)) (xsNil)))) (xOp oNe (xFnK [0] F_calls_in xsNil (xsCons (xVal 5) (xsNil))) (xCall cTuple (xsCons (xSortSet (xVar 8)) (xsNil)))))
          (sRet (xC (.bl false)))
          (sNil))
        (sSeq (sPar 13 14 (zV (xTup (xsCons (xC (.str "let")) (xsCons (xC (.str "q")) (xsCons (xVal 5) (xsCons (xVal 5) (xsNil))))))) (zV (xCall cLen (xsCons (xVar 6) (xsNil)))))
        (sSeq (sIf (xOp oGt (xOp oAdd (xOp oMul (xC (.int 2)) (xVar 14)) (xC (.int 1))) (xC (.int 60)))
          (sCont)
          (sNil))
        lastB)))))))))
abbrev lapN : Nat := 5 + (4 * Bd 4 + 8)
theorem lap_ok {x : D} {n : Nat} {rest S : Sto} {s0 t3 t4 t5 t6 t7 t8 t9 t10 t11 t12 t13 t14 t15 t16 : Slot} (hn : n + lapN ≤ 1000000) (P : Pen n rest S) :
    ∃ u4 u5 u6 u7 u8 u9 u10 u11 u12 u13 u14 u15 u16 rest' S', (stepD (gSet 3) lapB x [s0, .val (.obj 0), .val kitD, t3, t4, t5, t6, t7, t8, t9, t10, t11, t12, t13, t14, t15, t16] S = .ok (.next [s0, .val (.obj 0), .val kitD, .val x, u4, u5, u6, u7, u8, u9, u10, u11, u12, u13, u14, u15, u16]) S' ∨
      stepD (gSet 3) lapB x [s0, .val (.obj 0), .val kitD, t3, t4, t5, t6, t7, t8, t9, t10, t11, t12, t13, t14, t15, t16] S = .ok (.cont [s0, .val (.obj 0), .val kitD, .val x, u4, u5, u6, u7, u8, u9, u10, u11, u12, u13, u14, u15, u16]) S') ∧ Pen (n + lapN) rest' S' := by
  unfold lapN at *
  obtain ⟨ps, S1, e1, sc, few, P1⟩ := params_ok (s0 := s0) (t := [.val kitD, .val x, t4, t5, t6, t7, t8, t9, t10, t11, t12, t13, t14, t15, t16]) (by omega) P
  obtain ⟨d, S2, e2, w, sz, P2⟩ := fit_ok sc (by omega) (by omega) P1
  have oj : objOf (S2 ++ [.lst []]) S2.length = some [] := obj_new
  have k1 := chk1 (s0 := s0) (s1 := .val (.obj 0)) (s2 := .val kitD) (s3 := .val x) (s7 := t7) (s8 := t8) (s9 := t9) (s10 := t10) (s11 := t11) (s12 := t12) (s13 := t13) (s14 := t14) (s15 := t15) (s16 := t16) (ps := ps) w (by omega) oj
  have oj' := objOf_set (ys := rowsL 4 d 0 .non ps) oj
  have k2 := chk2 (s0 := s0) (s1 := .val (.obj 0)) (s2 := .val kitD) (s3 := .val x) (s7 := t7) (s8 := t8) (s9 := t9) (s10 := t10) (s11 := t11) (s12 := t12) (s13 := t13) (s14 := t14) (s15 := t15) (s16 := t16) (ps := ps) w (by omega) sc.lay oj'
  obtain ⟨v9, v10, v11, v12, v13, v14, v15, v16, lp⟩ := rows_loop (s0 := s0) (s1 := .val (.obj 0)) (s2 := .val kitD) (s3 := .val x) (s4 := .val (.lst ps)) (s5 := .val d) (s9 := t9) (s10 := t10) (s11 := t11) (s12 := t12) (s13 := t13) (s14 := t14) (s15 := t15) (s16 := t16) w (by omega) oj'
  have k3 := chk3 (ps := ps) (j := S2.length) (s0 := s0) (s1 := .val (.obj 0)) (s2 := .val kitD) (s3 := .val x) (s9 := v9) (s10 := v10) (s11 := v11) (s12 := v12) (s13 := v13) (s14 := v14) (s15 := v15) (s16 := v16) (S := (S2 ++ [Cell.lst []]).set S2.length (Cell.lst (rowsL 4 d 0 .non ps))) w (by omega) (by simp) (by simp)
  have PP := pen_new_set (c := .lst []) (c' := .lst (rowsL 4 d 0 .non ps)) P2
  have PP' := PP.mono (m := n + (5 + (4 * Bd 4 + 8))) (by omega)
  have len := rowsL_len (p := 0) (l := .non) (kn := ps) w
  have cl := cLen_obj oj'
  rw [len] at cl
  have k4 := chk4 (s0 := s0) (s1 := .val (.obj 0)) (s2 := .val kitD) (s3 := .val x) (s6 := .val (.obj S2.length)) (s7 := .own ((nm2 vs3 cl3 (pre 4 d)).map .str)) (s8 := .val (.lst ((cls vs3 cl3 (pre 4 d)).map .str))) (s9 := v9) (s10 := v10) (s11 := v11) (s12 := v12) (s15 := v15) (s16 := v16) (S := (S2 ++ [Cell.lst []]).set S2.length (Cell.lst (rowsL 4 d 0 .non ps))) w (ps := ps) (by omega) sc.lay
  generalize hT : (S2 ++ [Cell.lst []]).set S2.length (Cell.lst (rowsL 4 d 0 .non ps)) = T at *
  have big : decide (60 < 2 * (((pre 4 d).length : Nat) : Int) + 1) = decide (60 < 2 * (pre 4 d).length + 1) := by
    by_cases c : 60 < 2 * (pre 4 d).length + 1
    · rw [decide_eq_true c, decide_eq_true (by omega)]
    · rw [decide_eq_false c, decide_eq_false (by omega)]
  have gt : (xOp oGt (xOp oAdd (xOp oMul (xC (.int 2)) (xVar 14)) (xC (.int 1))) (xC (.int 60))) [s0, .val (.obj 0), .val kitD, .val x, .val (.lst ps), .val d, .val (.obj S2.length), .own ((nm2 vs3 cl3 (pre 4 d)).map .str), .val (.lst ((cls vs3 cl3 (pre 4 d)).map .str)), v9, v10, v11, v12, .val (bothD d), .val (.int (((pre 4 d).length : Nat) : Int)), v15, v16] T = .ok (.bl (decide (60 < 2 * (pre 4 d).length + 1))) T := by
    have m := oMul_a (S := T) (a := 2) (b := (((pre 4 d).length : Nat) : Int)) (small_of (by omega) (by omega))
    simp only [xOp_s, xC_s, xVar_s, List.getElem?_cons_succ, List.getElem?_cons_zero, R.bind_ok1, m, oAdd_int]
    show R.ok (D.bl (decide ((60 : Int) < 2 * (((pre 4 d).length : Nat) : Int) + 1))) T = _
    rw [big]
  have go : lapB [s0, .val (.obj 0), .val kitD, .val x, t4, t5, t6, t7, t8, t9, t10, t11, t12, t13, t14, t15, t16] S =
      (sSeq (sIf (xOp oGt (xOp oAdd (xOp oMul (xC (.int 2)) (xVar 14)) (xC (.int 1))) (xC (.int 60)))
          (sCont)
          (sNil)) lastB) [s0, .val (.obj 0), .val kitD, .val x, .val (.lst ps), .val d, .val (.obj S2.length), .own ((nm2 vs3 cl3 (pre 4 d)).map .str), .val (.lst ((cls vs3 cl3 (pre 4 d)).map .str)), v9, v10, v11, v12, .val (bothD d), .val (.int (((pre 4 d).length : Nat) : Int)), v15, v16] T := by
    unfold lapB
    refine (sSeq_next (ρ1 := [s0, .val (.obj 0), .val kitD, .val x, .val (.lst ps), t5, t6, t7, t8, t9, t10, t11, t12, t13, t14, t15, t16]) (S1 := S1) (by rw [sLet_s, zV_s, e1]; rfl)).trans ?_
    refine (sSeq_next (ρ1 := [s0, .val (.obj 0), .val kitD, .val x, .val (.lst ps), .val d, .val (.obj S2.length), t7, t8, t9, t10, t11, t12, t13, t14, t15, t16]) (S1 := S2 ++ [.lst []]) (by simp [e2])).trans ?_
    refine (sSeq_next (ρ1 := [s0, .val (.obj 0), .val kitD, .val x, .val (.lst ps), .val d, .val (.obj S2.length), t7, t8, t9, t10, t11, t12, t13, t14, t15, t16]) (S1 := T) (by rw [sIf_false k1]; rfl)).trans ?_
    refine (sSeq_next (ρ1 := [s0, .val (.obj 0), .val kitD, .val x, .val (.lst ps), .val d, .val (.obj S2.length), t7, t8, t9, t10, t11, t12, t13, t14, t15, t16]) (S1 := T) (by rw [sIf_false k2]; rfl)).trans ?_
    refine (sSeq_next (ρ1 := [s0, .val (.obj 0), .val kitD, .val x, .val (.lst ps), .val d, .val (.obj S2.length), .own [], .val (.lst []), t9, t10, t11, t12, t13, t14, t15, t16]) (S1 := T) (by simp)).trans ?_
    refine (sSeq_next lp).trans ?_
    refine (sSeq_next (by rw [sIf_false k3]; rfl)).trans ?_
    exact sSeq_next (by simp [cl, bothD])
  have k5 : lastB [s0, .val (.obj 0), .val kitD, .val x, .val (.lst ps), .val d, .val (.obj S2.length), .own ((nm2 vs3 cl3 (pre 4 d)).map .str), .val (.lst ((cls vs3 cl3 (pre 4 d)).map .str)), v9, v10, v11, v12, .val (bothD d), .val (.int (((pre 4 d).length : Nat) : Int)), v15, v16] T = .ok (.next [s0, .val (.obj 0), .val kitD, .val x, .val (.lst ps), .val d, .val (.obj S2.length), .own ((nm2 vs3 cl3 (pre 4 d)).map .str), .val (.lst ((cls vs3 cl3 (pre 4 d)).map .str)), v9, v10, v11, v12, .val (bothD d), .val (.int (((pre 4 d).length : Nat) : Int)), v15, v16]) T := by
    unfold lastB
    rw [sIf_false k4]
    rfl
  refine ⟨.val (.lst ps), .val d, .val (.obj S2.length), .own ((nm2 vs3 cl3 (pre 4 d)).map .str), .val (.lst ((cls vs3 cl3 (pre 4 d)).map .str)), v9, v10, v11, v12, .val (bothD d), .val (.int (((pre 4 d).length : Nat) : Int)), v15, v16, _, T, ?_, PP'⟩
  show lapB [s0, .val (.obj 0), .val kitD, .val x, t4, t5, t6, t7, t8, t9, t10, t11, t12, t13, t14, t15, t16] S = _ ∨ lapB [s0, .val (.obj 0), .val kitD, .val x, t4, t5, t6, t7, t8, t9, t10, t11, t12, t13, t14, t15, t16] S = _
  rw [go]
  by_cases c : 60 < 2 * (pre 4 d).length + 1
  · rw [decide_eq_true c] at gt
    right
    unfold sSeq
    rw [sIf_true gt]
    rfl
  · rw [decide_eq_false c] at gt
    left
    rw [sSeq_next (by rw [sIf_false gt]; rfl), k5]
end K02

set_option Elab.async false
set_option linter.all false
set_option maxRecDepth 100000
set_option maxHeartbeats 4000000
set_option autoImplicit false
namespace K02
open PySem PySem.Spec PyProof.Rows L2 DL
theorem laps_ok {rest : Sto} {s0 : Slot} : ∀ (L : List D) {n : Nat} {S : Sto} {t3 t4 t5 t6 t7 t8 t9 t10 t11 t12 t13 t14 t15 t16 : Slot}, n + L.length * lapN ≤ 1000000 → Pen n rest S →
    ∃ ρ' S', foldD (stepD (gSet 3) lapB) L [s0, .val (.obj 0), .val kitD, t3, t4, t5, t6, t7, t8, t9, t10, t11, t12, t13, t14, t15, t16] S = .ok (.next ρ') S'
  | [], n, S, _, _, _, _, _, _, _, _, _, _, _, _, _, _, hn, P => ⟨_, _, rfl⟩
  | x :: L, n, S, t3, t4, t5, t6, t7, t8, t9, t10, t11, t12, t13, t14, t15, t16, hn, P => by
    rw [List.length_cons, Nat.succ_mul] at hn
    obtain ⟨u4, u5, u6, u7, u8, u9, u10, u11, u12, u13, u14, u15, u16, rest', S', e, P'⟩ := lap_ok (x := x) (s0 := s0) (t3 := t3) (t4 := t4) (t5 := t5) (t6 := t6) (t7 := t7) (t8 := t8) (t9 := t9) (t10 := t10) (t11 := t11) (t12 := t12) (t13 := t13) (t14 := t14) (t15 := t15) (t16 := t16) (by omega) P
    obtain ⟨ρ', S2, ih⟩ := laps_ok (rest := rest') (s0 := s0) L (n := n + lapN) (t3 := .val x) (t4 := u4) (t5 := u5) (t6 := u6) (t7 := u7) (t8 := u8) (t9 := u9) (t10 := u10) (t11 := u11) (t12 := u12) (t13 := u13) (t14 := u14) (t15 := u15) (t16 := u16) (by omega) P'
    refine ⟨ρ', S2, ?_⟩
    rcases e with e | e
    · unfold foldD
      rw [e]
      exact ih
    · unfold foldD
      rw [e]
      exact ih
theorem pure_law (ns : List Int) (_ : ns.length ≤ 63) : ∃ S', F_law [.scr ns] [] = .ok (.bl true) S' := by
  have P0 : Pen 0 [] [penC (ns.take 60) 0 0] := ⟨_, _, _, rfl, by omega, by omega, by omega⟩
  have fr := for_rng (f := xC (.int 8)) (g := gSet 3) (h := lapB) (n := 8) (ρ := [.val (.scr ns), .val (.obj 0), .val kitD, .non, .non, .non, .non, .non, .non, .non, .non, .non, .non, .non, .non, .non, .non]) (S := [penC (ns.take 60) 0 0]) (S1 := [penC (ns.take 60) 0 0]) rfl (by omega)
  have rl : (rngL 0 8).length = 8 := rngL_len 8 0
  obtain ⟨ρ', S', e⟩ := laps_ok (rest := []) (s0 := .val (.scr ns)) (rngL 0 8) (n := 0) (S := [penC (ns.take 60) 0 0]) (t3 := .non) (t4 := .non) (t5 := .non) (t6 := .non) (t7 := .non) (t8 := .non) (t9 := .non) (t10 := .non) (t11 := .non) (t12 := .non) (t13 := .non) (t14 := .non) (t15 := .non) (t16 := .non) (by rw [rl]; unfold lapN; decide +kernel) P0
  refine ⟨S', ?_⟩
  have start : F_law [.scr ns] [] = _ := fnD_s (S := []) (m := 16) (ds := [.scr ns]) (a := g_law F_law_pen F_law_mixed F_law_draw F_law_fit_body (F_law_walk 12) (F_parts 12) F_links F_scopes F_names_in F_calls_in)
  rw [start]
  have go : g_law F_law_pen F_law_mixed F_law_draw F_law_fit_body (F_law_walk 12) (F_parts 12) F_links F_scopes F_names_in F_calls_in ([D.scr ns].map Slot.val ++ List.replicate 16 Slot.non) [] = .ok (.ret (.bl true)) S' := by
    unfold g_law
    refine (sSeq_next (ρ1 := [.val (.scr ns), .val (.obj 0), .non, .non, .non, .non, .non, .non, .non, .non, .non, .non, .non, .non, .non, .non, .non]) (S1 := [penC (ns.take 60) 0 0]) ?_).trans ?_
    · rw [sLet_s, zV_s, xFn_s]
      have a : xsCons (xVal 0) xsNil ([D.scr ns].map Slot.val ++ List.replicate 16 Slot.non) [] = .ok [.scr ns] [] := rfl
      rw [a, R.bind_ok1, pen_new]
      rfl
    refine (sSeq_next (ρ1 := [.val (.scr ns), .val (.obj 0), .val kitD, .non, .non, .non, .non, .non, .non, .non, .non, .non, .non, .non, .non, .non, .non]) (S1 := [penC (ns.take 60) 0 0]) rfl).trans ?_
    refine (sSeq_next (ρ1 := ρ') (S1 := S') (fr.trans e)).trans ?_
    rfl
  rw [go]
  rfl
theorem holds : PySem.Challenge.rw_swapunseen_k02_parts_and_what_is_known_t.Holds := holds_by pure_law
end K02
theorem PySem.Challenge.cw_swapunseen_k02_parts_and_what_is_known_t_holds : PySem.Challenge.rw_swapunseen_k02_parts_and_what_is_known_t.Holds := by
  exact K02.holds
