import PyProof.Rows.All
import Wide.All
import OpenK.AllK
import Wide.FinOn
import HandS.ForMost
import HandS.Exc
import HandS.TryOnly
import HandS.ExcOwn
import HandS.ExcInit
import HandS.Lambda
import HandS.EndTab
import HandS.Walk
import HandS.Wide
import HandS.TupAny
import HandS.TupMul
import HandS.IsInst
import HandS.Conv
import HandS.NoneIn
import HandS.TupLe
import HandS.DictComp
import HandS.SortInts
import HandS.More
import HandS.WordsDict
import HandS.ExcCtx
import KE.GoesMore
import KE.GoesEnum
import HandS.Zip
import HandS.Style
import HandS.Small
import KE.KRevSl
import HandS.TupSets
import HandS.HotCalls
import HandS.ExcField
import HandS.Text
import HandS.ExcIs
import KE.KExcIs
import HandS.WordsExc
import HandS.HeadWalk
import HandS.ForExc
import HandS.Ends
import PySem.Challenge.RW_webofrooms_k02_books_bounds_and_prices_b
set_option Elab.async false
set_option linter.all false
set_option maxRecDepth 100000
set_option maxHeartbeats 4000000
/-! Values as trees: what stands where, and the addresses that are one's own. -/
namespace PL
open PySem PySem.Spec PyProof.Rows L2
abbrev SL := L2.St
/-- data that nobody changes any more -/
inductive P where
  | non | bl (b : Bool) | int (i : Int) | str (x : Str)
  | tup (xs : List P) | lst (xs : List P) | dic (ks : List Key) (xs : List P)
  /-- a list that is only read (the script) -/
  | rdl (xs : List P)
/-- a value: such data, or a list or dict of one's own -/
inductive D where
  | p (x : P) | lst (xs : List P) | dic (ks : List Key) (xs : List D)
mutual
def frz : D → P
  | .p x => x
  | .lst xs => .lst xs
  | .dic ks xs => .dic ks (frzL xs)
def frzL : List D → List P
  | [] => []
  | d :: ds => frz d :: frzL ds
end
abbrev FzT := Addr → Prop
/-- a list of the program's own text -/
def CstL (K : PySem.W.Frag) (a : Addr) (xs : List V) : Prop := ∃ (o : Obj) (its : Array Value) (n : Nat), K.lookup a = some o ∧ o.cls = .type "list" ∧ o.dict = none ∧ o.data = .seq its n ∧ its.size ≤ sizeLine ∧ Vals xs its.toList
section
variable (K : PySem.W.Frag) (Fz : FzT) (H : Hp)
mutual
def Fr : P → V → Prop
  | .non, v => v = .non
  | .bl b, v => v = .bl b
  | .int i, v => v = .int i
  | .str x, v => v = .str x
  | .tup ps, v => ∃ a vs, v = .ref a ∧ SqT K H a vs ∧ FrL ps vs
  | .lst ps, v => ∃ a vs, v = .ref a ∧ H a = some (.lst vs) ∧ Fz a ∧ FrL ps vs
  | .rdl ps, v => ∃ a vs, v = .ref a ∧ ((Rd H a (.lst vs) ∧ Fz a) ∨ CstL K a vs) ∧ FrL ps vs
  | .dic ks ps, v => ∃ a kvs, v = .ref a ∧ Rd H a (.dK kvs) ∧ Fz a ∧ kvs.map (·.1) = ks ∧ FrL ps (kvs.map (·.2))
def FrL : List P → List V → Prop
  | [], vs => vs = []
  | p :: ps, vs => ∃ v vr, vs = v :: vr ∧ Fr p v ∧ FrL ps vr
end
mutual
/-- d stands at v; the addresses of its own lists and dicts -/
def Own : D → V → List Addr → Prop
  | .p x, v, f => f = [] ∧ Fr K Fz H x v
  | .lst ps, v, f => ∃ a vs, v = .ref a ∧ f = [a] ∧ H a = some (.lst vs) ∧ ¬ Fz a ∧ FrL K Fz H ps vs
  | .dic ks ds, v, f => ∃ a kvs g, v = .ref a ∧ f = a :: g ∧ H a = some (.dK kvs) ∧ ¬ Fz a ∧ a ∉ g ∧ kvs.map (·.1) = ks ∧ OwnL ds (kvs.map (·.2)) g
def OwnL : List D → List V → List Addr → Prop
  | [], vs, f => vs = [] ∧ f = []
  | d :: ds, vs, f => ∃ v vr f1 f2, vs = v :: vr ∧ f = f1 ++ f2 ∧ Own d v f1 ∧ OwnL ds vr f2 ∧ ∀ a ∈ f1, a ∉ f2
end
end
/-- what an own address bears -/
def OwnO : HO → Prop
  | .lst _ => True
  | .dK _ => True
  | _ => False
/-- own addresses: tracked, not frozen -/
def Fp (Fz : FzT) (H : Hp) (f : List Addr) : Prop := ∀ a ∈ f, ¬ Fz a ∧ ∃ o, H a = some o ∧ OwnO o
section
variable {K : PySem.W.Frag} {Fz Fz' : FzT} {H H' : Hp}
theorem FrL.len : ∀ {ps : List P} {vs : List V}, FrL K Fz H ps vs → vs.length = ps.length
  | [], _, h => by have e : _ = [] := h; subst e; rfl
  | p :: ps, _, h => by
    obtain ⟨v, vr, e, _, ol⟩ := h
    subst e
    simp [FrL.len ol]
theorem FrL.get : ∀ {ps : List P} {vs : List V} {i : Nat} {p : P}, FrL K Fz H ps vs → ps[i]? = some p → ∃ v, vs[i]? = some v ∧ Fr K Fz H p v
  | [], _, _, _, _, e => by simp at e
  | p :: ps, _, 0, q, h, e => by
    obtain ⟨v, vr, ev, hp, ol⟩ := h
    have e' : p = q := by simpa using e
    subst e' ev
    exact ⟨v, rfl, hp⟩
  | p :: ps, _, i + 1, q, h, e => by
    obtain ⟨v, vr, ev, hp, ol⟩ := h
    subst ev
    obtain ⟨u, h1, h2⟩ := FrL.get (i := i) ol (by simpa using e)
    exact ⟨u, by simpa using h1, h2⟩
theorem FrL.get' {ps : List P} {vs : List V} {i : Nat} {v : V} (h : FrL K Fz H ps vs) (e : vs[i]? = some v) : ∃ p, ps[i]? = some p ∧ Fr K Fz H p v := by
  have hl := h.len
  have hi : i < ps.length := by rw [← hl]; exact (List.getElem?_eq_some_iff.mp e).1
  obtain ⟨u, h1, h2⟩ := h.get (List.getElem?_eq_getElem hi)
  rw [e] at h1; cases h1
  exact ⟨_, List.getElem?_eq_getElem hi, h2⟩
theorem FrL.of : ∀ {ps : List P} {vs : List V}, vs.length = ps.length → (∀ (i : Nat) (p : P) (v : V), ps[i]? = some p → vs[i]? = some v → Fr K Fz H p v) → FrL K Fz H ps vs
  | [], vs, hl, _ => List.eq_nil_of_length_eq_zero hl
  | p :: ps, [], hl, _ => by simp at hl
  | p :: ps, v :: vs, hl, h => ⟨v, vs, rfl, h 0 p v rfl rfl, FrL.of (by simpa using hl) fun i q u h1 h2 => h (i + 1) q u (by simpa using h1) (by simpa using h2)⟩
theorem FrL.append {ps qs : List P} {vs us : List V} (h : FrL K Fz H ps vs) (h' : FrL K Fz H qs us) : FrL K Fz H (ps ++ qs) (vs ++ us) := by
  induction ps generalizing vs with
  | nil => have e : vs = [] := h; subst e; exact h'
  | cons p ps ih =>
    obtain ⟨v, vr, e, hp, ol⟩ := h
    subst e
    exact ⟨v, vr ++ us, rfl, hp, ih ol⟩
theorem FrL.one {p : P} {v : V} (h : Fr K Fz H p v) : FrL K Fz H [p] [v] := ⟨v, [], rfl, h, rfl⟩
theorem FrL.take {ps : List P} {vs : List V} (h : FrL K Fz H ps vs) (n : Nat) : FrL K Fz H (ps.take n) (vs.take n) := by
  induction ps generalizing vs n with
  | nil => have e : vs = [] := h; subst e; simp; exact rfl
  | cons p ps ih =>
    obtain ⟨v, vr, e, hp, ol⟩ := h
    subst e
    cases n with
    | zero => exact rfl
    | succ n => exact ⟨v, vr.take n, rfl, hp, ih ol n⟩
theorem FrL.drop {ps : List P} {vs : List V} (h : FrL K Fz H ps vs) (n : Nat) : FrL K Fz H (ps.drop n) (vs.drop n) := by
  induction ps generalizing vs n with
  | nil => have e : vs = [] := h; subst e; simp; exact rfl
  | cons p ps ih =>
    obtain ⟨v, vr, e, hp, ol⟩ := h
    subst e
    cases n with
    | zero => exact ⟨v, vr, rfl, hp, ol⟩
    | succ n => exact ih ol n
theorem FrL.set {ps : List P} {vs : List V} (h : FrL K Fz H ps vs) {p : P} {v : V} (hp : Fr K Fz H p v) (n : Nat) : FrL K Fz H (ps.set n p) (vs.set n v) := by
  induction ps generalizing vs n with
  | nil => have e : vs = [] := h; subst e; exact rfl
  | cons q ps ih =>
    obtain ⟨u, vr, e, hq, ol⟩ := h
    subst e
    cases n with
    | zero => exact ⟨v, vr, rfl, hp, ol⟩
    | succ n => exact ⟨u, vr.set n v, rfl, hq, ih ol n⟩
theorem FrL.erase {ps : List P} {vs : List V} (h : FrL K Fz H ps vs) (n : Nat) : FrL K Fz H (ps.eraseIdx n) (vs.eraseIdx n) := by
  induction ps generalizing vs n with
  | nil => have e : vs = [] := h; subst e; exact rfl
  | cons q ps ih =>
    obtain ⟨u, vr, e, hq, ol⟩ := h
    subst e
    cases n with
    | zero => exact ol
    | succ n => exact ⟨u, vr.eraseIdx n, rfl, hq, ih ol n⟩
theorem FrL.reverse {ps : List P} {vs : List V} (h : FrL K Fz H ps vs) : FrL K Fz H ps.reverse vs.reverse := by
  induction ps generalizing vs with
  | nil => have e : vs = [] := h; subst e; exact rfl
  | cons q ps ih =>
    obtain ⟨u, vr, e, hq, ol⟩ := h
    subst e
    rw [List.reverse_cons, List.reverse_cons]
    exact (ih ol).append (.one hq)
theorem FrL.mem {ps : List P} {vs : List V} (h : FrL K Fz H ps vs) : ∀ v ∈ vs, ∃ p ∈ ps, Fr K Fz H p v := fun v hv => by
  obtain ⟨i, hi⟩ := List.mem_iff_getElem?.mp hv
  obtain ⟨p, h1, h2⟩ := h.get' hi
  exact ⟨p, List.mem_of_getElem? h1, h2⟩
mutual
theorem Own.fp : ∀ {d : D} {v : V} {f : List Addr}, Own K Fz H d v f → Fp Fz H f
  | .p _, _, _, h => by obtain ⟨e, _⟩ := h; subst e; intro a ha; cases ha
  | .lst ps, _, _, h => by
    obtain ⟨a, vs, _, e, ha, nf, o⟩ := h
    subst e
    intro b hb
    have e : b = a := by simpa using hb
    subst e; exact ⟨nf, _, ha, True.intro⟩
  | .dic ks ds, _, _, h => by
    obtain ⟨a, kvs, g, _, e, ha, nf, _, _, o⟩ := h
    subst e
    intro b hb
    rcases List.mem_cons.mp hb with z | z
    · subst z; exact ⟨nf, _, ha, True.intro⟩
    · exact OwnL.fp o b z
theorem OwnL.fp : ∀ {ds : List D} {vs : List V} {f : List Addr}, OwnL K Fz H ds vs f → Fp Fz H f
  | [], _, _, h => by obtain ⟨_, e⟩ := h; subst e; intro a ha; cases ha
  | d :: ds, _, _, h => by
    obtain ⟨v, vr, f1, f2, _, e, o, ol, _⟩ := h
    subst e
    intro b hb
    rcases List.mem_append.mp hb with z | z
    · exact Own.fp o b z
    · exact OwnL.fp ol b z
end
theorem OwnL.len : ∀ {ds : List D} {vs : List V} {f : List Addr}, OwnL K Fz H ds vs f → vs.length = ds.length
  | [], _, _, h => by obtain ⟨e, _⟩ := h; subst e; rfl
  | d :: ds, _, _, h => by
    obtain ⟨v, vr, f1, f2, e, _, _, ol, _⟩ := h
    subst e
    simp [OwnL.len ol]
end
/-- the tables of lambdas, with their names -/
class QN where
  tb : List (Addr × Str)
variable [QN]
def TbOk (TB : List (Addr × Str)) (H : Hp) : Prop := TB = QN.tb ∧ LamX.Tabs TB H
/-- from (fp, Fz, H) one came to (Fz', H'): only what stands at fp may have changed -/
structure Reach (fp : List Addr) (Fz : FzT) (H : Hp) (Fz' : FzT) (H' : Hp) : Prop where
  keep : ∀ a o, H a = some o → a ∉ fp → (∀ ps, o ≠ .tbl ps) → H' a = some o
  tabs : LamX.Tabs QN.tb H → LamX.Tabs QN.tb H'
  fz : ∀ a, Fz a → Fz' a
  fz' : ∀ a, Fz' a → Fz a ∨ a ∈ fp ∨ H a = none
  dom : ∀ a, H' a = none → H a = none
  live : ∀ a, Fz' a → Fz a ∨ H' a ≠ none
/-- new own addresses are old ones or fresh -/
def Sub (fp : List Addr) (H : Hp) (fp' : List Addr) : Prop := ∀ a ∈ fp', a ∈ fp ∨ H a = none
def Dis (f g : List Addr) : Prop := ∀ a ∈ f, a ∉ g
/-- the ghost step: what is one's own at f is frozen -/
def FzPlus (Fz : FzT) (f : List Addr) : FzT := fun a => Fz a ∨ a ∈ f
section
variable {K : PySem.W.Frag} {fp fp' f g : List Addr} {Fz Fz1 Fz2 : FzT} {H H1 H2 : Hp}
theorem Reach.refl : Reach fp Fz H Fz H := ⟨fun _ _ h _ _ => h, fun h => h, fun _ h => h, fun _ h => .inl h, fun _ h => h, fun _ h => .inl h⟩
theorem Sub.refl : Sub fp H fp := fun _ h => .inl h
theorem Sub.nil : Sub fp H [] := fun _ h => nomatch h
theorem Dis.nil : Dis [] g := fun _ h => nomatch h
theorem Dis.nil' : Dis g [] := fun _ _ h => nomatch h
theorem Dis.symm (h : Dis f g) : Dis g f := fun a ha hb => h a hb ha
theorem Dis.app (h : Dis f fp) (h' : Dis g fp) : Dis (f ++ g) fp := fun a ha => (List.mem_append.mp ha).elim (h a) (h' a)
theorem Dis.app' (h : Dis fp f) (h' : Dis fp g) : Dis fp (f ++ g) := fun a ha hb => (List.mem_append.mp hb).elim (h a ha) (h' a ha)
theorem Dis.left (h : Dis (f ++ g) fp) : Dis f fp := fun a ha => h a (List.mem_append_left _ ha)
theorem Dis.right (h : Dis (f ++ g) fp) : Dis g fp := fun a ha => h a (List.mem_append_right _ ha)
theorem Dis.left' (h : Dis fp (f ++ g)) : Dis fp f := fun a ha hb => h a ha (List.mem_append_left _ hb)
theorem Dis.right' (h : Dis fp (f ++ g)) : Dis fp g := fun a ha hb => h a ha (List.mem_append_right _ hb)
theorem Dis.sub (h : Dis f g) (hf : ∀ a ∈ fp, a ∈ f) (hg : ∀ a ∈ fp', a ∈ g) : Dis fp fp' := fun a ha hb => h a (hf a ha) (hg a hb)
theorem Sub.app (h : Sub fp H f) (h' : Sub fp H g) : Sub fp H (f ++ g) := fun a ha => (List.mem_append.mp ha).elim (h a) (h' a)
theorem Sub.left (h : Sub fp H (f ++ g)) : Sub fp H f := fun a ha => h a (List.mem_append_left _ ha)
theorem Sub.right (h : Sub fp H (f ++ g)) : Sub fp H g := fun a ha => h a (List.mem_append_right _ ha)
theorem Sub.of (h : ∀ a ∈ f, a ∈ fp) : Sub fp H f := fun a ha => .inl (h a ha)
theorem Fp.nil : Fp Fz H [] := fun _ h => nomatch h
theorem Fp.app (h : Fp Fz H f) (h' : Fp Fz H g) : Fp Fz H (f ++ g) := fun a ha => (List.mem_append.mp ha).elim (h a) (h' a)
theorem Fp.sub (h : Fp Fz H f) (hs : ∀ a ∈ g, a ∈ f) : Fp Fz H g := fun a ha => h a (hs a ha)
theorem Fp.live (h : Fp Fz H f) {a : Addr} (ha : a ∈ f) : H a ≠ none := by
  obtain ⟨_, o, e, _⟩ := h a ha
  rw [e]; intro z; cases z
theorem Reach.trans (r : Reach fp Fz H Fz1 H1) (s : Sub fp H fp') (r' : Reach fp' Fz1 H1 Fz2 H2) : Reach fp Fz H Fz2 H2 where
  keep := fun a o h hn ht => r'.keep a o (r.keep a o h hn ht) (fun hz => (s a hz).elim hn fun z => by rw [h] at z; cases z) ht
  tabs := fun h => r'.tabs (r.tabs h)
  fz := fun a h => r'.fz a (r.fz a h)
  fz' := fun a h => (r'.fz' a h).elim (r.fz' a) fun h => h.elim (fun h => .inr (s a h)) fun h => .inr (.inr (r.dom a h))
  dom := fun a h => r.dom a (r'.dom a h)
  live := fun a h => (r'.live a h).elim (fun h => (r.live a h).imp_right fun n z => n (r'.dom a z)) .inr
theorem Sub.trans (s : Sub fp H fp') (r : Reach fp Fz H Fz1 H1) (s' : Sub fp' H1 f) : Sub fp H f := fun a ha => (s' a ha).elim (s a) fun h => .inr (r.dom a h)
theorem Reach.more (r : Reach fp Fz H Fz1 H1) (h : ∀ a ∈ fp, a ∈ fp') : Reach fp' Fz H Fz1 H1 :=
  ⟨fun a o e hn => r.keep a o e fun z => hn (h a z), r.tabs, r.fz, fun a z => (r.fz' a z).imp_right fun z => z.imp_left (h a), r.dom, r.live⟩
/-- what stands apart from f stays apart, and live -/
theorem Fp.stay (h : Fp Fz H f) (hfp : Dis f fp) (r : Reach fp Fz H Fz1 H1) : Fp Fz1 H1 f := fun a ha => by
  obtain ⟨nf, o, e, ho⟩ := h a ha
  refine ⟨fun z => (r.fz' a z).elim nf fun z => z.elim (hfp a ha) fun z => (by rw [e] at z; cases z), o, r.keep a o e (hfp a ha) (fun ps z => by subst z; exact ho), ho⟩
theorem Fp.dis (h : Fp Fz H f) (hfp : Dis f fp) (s : Sub fp H fp') : Dis f fp' := fun a ha hb => (s a hb).elim (hfp a ha) (h.live ha)
theorem Reach.rd (r : Reach fp Fz H Fz1 H1) {a : Addr} {u : HO} (hn : a ∉ fp) (ht : ∀ ps, u ≠ .tbl ps) (h : Rd H a u) : Rd H1 a u := by
  rcases h with h | ⟨o, h⟩
  · exact .inl (r.keep a u h hn ht)
  · exact .inr ⟨o, r.keep a _ h hn fun ps z => by cases z⟩
theorem Fp.notTup (hfp : Fp Fz H fp) {a : Addr} {u : HO} (h : Rd H a u) (hu : ¬ OwnO u) : a ∉ fp := fun z => by
  obtain ⟨_, o, e, ho⟩ := hfp a z
  rcases h with h | ⟨ob, h⟩
  · rw [e] at h; cases h; exact hu ho
  · rw [e] at h; cases h; exact ho
theorem Reach.sqt (r : Reach fp Fz H Fz1 H1) (hfp : Fp Fz H fp) {a : Addr} {vs : List V} (h : SqT K H a vs) : SqT K H1 a vs := by
  rcases h with h | h
  · exact .inl (r.rd (hfp.notTup h id) (fun ps z => by cases z) h)
  · exact .inr h
mutual
/-- frozen data stands -/
theorem Fr.stay (r : Reach fp Fz H Fz1 H1) (hfp : Fp Fz H fp) : ∀ {p : P} {v : V}, Fr K Fz H p v → Fr K Fz1 H1 p v
  | .non, _, h => h
  | .bl _, _, h => h
  | .int _, _, h => h
  | .str _, _, h => h
  | .tup ps, _, h => by
    obtain ⟨a, vs, e, ht, o⟩ := h
    exact ⟨a, vs, e, r.sqt hfp ht, FrL.stay r hfp o⟩
  | .lst ps, _, h => by
    obtain ⟨a, vs, e, ha, nf, o⟩ := h
    exact ⟨a, vs, e, r.keep a _ ha (fun z => (hfp a z).1 nf) (fun ps z => by cases z), r.fz a nf, FrL.stay r hfp o⟩
  | .rdl ps, _, h => by
    obtain ⟨a, vs, e, ha, o⟩ := h
    exact ⟨a, vs, e, ha.imp_left fun ⟨ha, nf⟩ => ⟨r.rd (fun z => (hfp a z).1 nf) (fun ps z => by cases z) ha, r.fz a nf⟩, FrL.stay r hfp o⟩
  | .dic ks ps, _, h => by
    obtain ⟨a, kvs, e, ha, nf, ek, o⟩ := h
    exact ⟨a, kvs, e, r.rd (fun z => (hfp a z).1 nf) (fun ps z => by cases z) ha, r.fz a nf, ek, FrL.stay r hfp o⟩
theorem FrL.stay (r : Reach fp Fz H Fz1 H1) (hfp : Fp Fz H fp) : ∀ {ps : List P} {vs : List V}, FrL K Fz H ps vs → FrL K Fz1 H1 ps vs
  | [], _, h => h
  | p :: ps, _, h => by
    obtain ⟨v, vr, e, o, ol⟩ := h
    exact ⟨v, vr, e, Fr.stay r hfp o, FrL.stay r hfp ol⟩
end
mutual
/-- what stands apart from what may have changed stands there still -/
theorem Own.stay (r : Reach fp Fz H Fz1 H1) (hfp : Fp Fz H fp) : ∀ {d : D} {v : V} {f : List Addr}, Own K Fz H d v f → Dis f fp → Own K Fz1 H1 d v f
  | .p x, _, _, h, _ => ⟨h.1, Fr.stay r hfp h.2⟩
  | .lst ps, _, _, h, hd => by
    obtain ⟨a, vs, e, ef, ha, nf, o⟩ := h
    subst ef
    have hna : a ∉ fp := hd a (List.mem_cons_self ..)
    exact ⟨a, vs, e, rfl, r.keep a _ ha hna (fun ps z => by cases z), fun z => (r.fz' a z).elim nf fun z => z.elim hna fun z => (by rw [ha] at z; cases z), FrL.stay r hfp o⟩
  | .dic ks ds, _, _, h, hd => by
    obtain ⟨a, kvs, g, e, ef, ha, nf, ng, ek, o⟩ := h
    subst ef
    have hna : a ∉ fp := hd a (List.mem_cons_self ..)
    exact ⟨a, kvs, g, e, rfl, r.keep a _ ha hna (fun ps z => by cases z), fun z => (r.fz' a z).elim nf fun z => z.elim hna fun z => (by rw [ha] at z; cases z), ng, ek, OwnL.stay r hfp o fun b hb => hd b (List.mem_cons_of_mem _ hb)⟩
theorem OwnL.stay (r : Reach fp Fz H Fz1 H1) (hfp : Fp Fz H fp) : ∀ {ds : List D} {vs : List V} {f : List Addr}, OwnL K Fz H ds vs f → Dis f fp → OwnL K Fz1 H1 ds vs f
  | [], _, _, h, _ => ⟨h.1, h.2⟩
  | d :: ds, _, _, h, hd => by
    obtain ⟨v, vr, f1, f2, e, ef, o, ol, dj⟩ := h
    subst ef
    exact ⟨v, vr, f1, f2, e, rfl, Own.stay r hfp o hd.left, OwnL.stay r hfp ol hd.right, dj⟩
end
theorem Reach.freeze (h : ∀ a ∈ f, a ∈ fp) (hf : Fp Fz H f) : Reach fp Fz H (FzPlus Fz f) H :=
  ⟨fun _ _ e _ _ => e, fun e => e, fun _ e => .inl e, fun a e => e.imp_right fun z => .inl (h a z), fun _ e => e, fun a e => e.imp_right fun z => hf.live z⟩
/-- what was just made is frozen -/
theorem Reach.freezeN (r : Reach fp Fz H Fz1 H1) (h : ∀ a ∈ f, a ∈ fp ∨ H a = none) (hf : Fp Fz1 H1 f) : Reach fp Fz H (FzPlus Fz1 f) H1 :=
  ⟨r.keep, r.tabs, fun a z => .inl (r.fz a z), fun a z => z.elim (r.fz' a) fun z => .inr (h a z), r.dom, fun a z => z.elim (r.live a) fun z => .inr (hf.live z)⟩
mutual
theorem Fr.more (h1 : ∀ a, Fz a → Fz1 a) : ∀ {p : P} {v : V}, Fr K Fz H p v → Fr K Fz1 H p v
  | .non, _, h => h
  | .bl _, _, h => h
  | .int _, _, h => h
  | .str _, _, h => h
  | .tup ps, _, h => by
    obtain ⟨a, vs, e, ht, o⟩ := h
    exact ⟨a, vs, e, ht, FrL.more h1 o⟩
  | .lst ps, _, h => by
    obtain ⟨a, vs, e, ha, nf, o⟩ := h
    exact ⟨a, vs, e, ha, h1 a nf, FrL.more h1 o⟩
  | .rdl ps, _, h => by
    obtain ⟨a, vs, e, ha, o⟩ := h
    exact ⟨a, vs, e, ha.imp_left fun ⟨ha, nf⟩ => ⟨ha, h1 a nf⟩, FrL.more h1 o⟩
  | .dic ks ps, _, h => by
    obtain ⟨a, kvs, e, ha, nf, ek, o⟩ := h
    exact ⟨a, kvs, e, ha, h1 a nf, ek, FrL.more h1 o⟩
theorem FrL.more (h1 : ∀ a, Fz a → Fz1 a) : ∀ {ps : List P} {vs : List V}, FrL K Fz H ps vs → FrL K Fz1 H ps vs
  | [], _, h => h
  | p :: ps, _, h => by
    obtain ⟨v, vr, e, o, ol⟩ := h
    exact ⟨v, vr, e, Fr.more h1 o, FrL.more h1 ol⟩
end
mutual
/-- frozen: all that was its own is so no longer -/
theorem Own.frz : ∀ {d : D} {v : V} {f : List Addr}, Own K Fz H d v f → (∀ a, Fz a → Fz1 a) → (∀ a ∈ f, Fz1 a) → Fr K Fz1 H (frz d) v
  | .p x, _, _, h, h1, _ => Fr.more h1 h.2
  | .lst ps, _, _, h, h1, h2 => by
    obtain ⟨a, vs, e, ef, ha, nf, o⟩ := h
    subst ef
    exact ⟨a, vs, e, ha, h2 a (List.mem_cons_self ..), FrL.more h1 o⟩
  | .dic ks ds, _, _, h, h1, h2 => by
    obtain ⟨a, kvs, g, e, ef, ha, nf, ng, ek, o⟩ := h
    subst ef
    exact ⟨a, kvs, e, .inl ha, h2 a (List.mem_cons_self ..), ek, OwnL.frz o h1 fun b hb => h2 b (List.mem_cons_of_mem _ hb)⟩
theorem OwnL.frz : ∀ {ds : List D} {vs : List V} {f : List Addr}, OwnL K Fz H ds vs f → (∀ a, Fz a → Fz1 a) → (∀ a ∈ f, Fz1 a) → FrL K Fz1 H (frzL ds) vs
  | [], _, _, h, _, _ => h.1
  | d :: ds, _, _, h, h1, h2 => by
    obtain ⟨v, vr, f1, f2, e, ef, o, ol, dj⟩ := h
    subst ef
    exact ⟨v, vr, e, Own.frz o h1 fun a ha => h2 a (List.mem_append_left _ ha), OwnL.frz ol h1 fun a ha => h2 a (List.mem_append_right _ ha)⟩
end
theorem Reach.tb (r : Reach fp Fz H Fz1 H1) {TB : List (Addr × Str)} (h : TbOk TB H) : TbOk TB H1 := by
  obtain ⟨e, t⟩ := h
  subst e
  exact ⟨rfl, r.tabs t⟩
/-- a new object -/
theorem Reach.new {p : Addr} {o : HO} (h : H p = none) : Reach fp Fz H Fz (upd H p o) where
  keep := fun a u e _ _ => by rw [upd_ne (ne_of_none e h)]; exact e
  tabs := fun t p hp => (t p hp).ext fun b u e => by rw [upd_ne (ne_of_none e h)]; exact e
  fz := fun _ e => e
  fz' := fun _ e => .inl e
  dom := fun a e => by
    by_cases z : a = p
    · subst z; exact h
    · rw [upd_ne z] at e; exact e
  live := fun _ e => .inl e
/-- an own object is changed -/
theorem Reach.write {p : Addr} {o u : HO} (hp : p ∈ fp) (h : H p = some u) (hu : OwnO u) : Reach fp Fz H Fz (upd H p o) where
  keep := fun a w e hn _ => by rw [upd_ne (show a ≠ p from fun z => hn (by rw [z]; exact hp))]; exact e
  tabs := fun t Pq hPq => by
    obtain ⟨ps, h1, h2, h3⟩ := t Pq hPq
    have nP : Pq.1 ≠ p := fun z => by rw [z, h] at h1; cases h1; exact hu
    refine ⟨ps, by rw [upd_ne nP]; exact h1, h2, fun pos cv hc => ?_⟩
    obtain ⟨c, e1, e2⟩ := h3 pos cv hc
    refine ⟨c, e1, ?_⟩
    have nc : c ≠ p := fun z => by subst z; rw [h] at e2; cases e2; exact hu
    rw [upd_ne nc]; exact e2
  fz := fun _ e => e
  fz' := fun _ e => .inl e
  dom := fun a e => by
    by_cases z : a = p
    · subst z; rw [upd_same] at e; cases e
    · rw [upd_ne z] at e; exact e
  live := fun _ e => .inl e
/-- frozen data do not hang on what is not frozen -/
theorem FrL.upd {ps : List P} {vs : List V} {p : Addr} {o u : HO} (h : FrL K Fz H ps vs) (hp : H p = some u) (hu : OwnO u) (hn : ¬ Fz p) : FrL K Fz (upd H p o) ps vs :=
  h.stay (Reach.write (fp := [p]) (Fz := Fz) (by simp) hp hu) fun a ha => by
    have e : a = p := by simpa using ha
    subst e; exact ⟨hn, _, hp, hu⟩
theorem FrL.new {ps : List P} {vs : List V} {p : Addr} {o : HO} (h : FrL K Fz H ps vs) (hp : H p = none) : FrL K Fz (L2.upd H p o) ps vs := h.stay (Reach.new (fp := []) hp) Fp.nil
theorem Fr.new {x : P} {v : V} {p : Addr} {o : HO} (h : Fr K Fz H x v) (hp : H p = none) : Fr K Fz (L2.upd H p o) x v := h.stay (Reach.new (fp := []) hp) Fp.nil
end
/-! ### the slots -/
abbrev Env' := List (Option D)
section
variable (K : PySem.W.Frag) (Fz : FzT) (H : Hp)
def OwnE : Env' → SL → List Addr → Prop
  | [], σ, f => σ = [] ∧ f = []
  | none :: ρ, σ, f => ∃ x σ', σ = x :: σ' ∧ OwnE ρ σ' f
  | some d :: ρ, σ, f => ∃ v σ' f1 f2, σ = some v :: σ' ∧ f = f1 ++ f2 ∧ Own K Fz H d v f1 ∧ OwnE ρ σ' f2 ∧ Dis f1 f2
end
section
variable {K : PySem.W.Frag} {fp f : List Addr} {Fz Fz1 : FzT} {H H1 : Hp}
theorem OwnE.fpO : ∀ {ρ : Env'} {σ : SL} {f : List Addr}, OwnE K Fz H ρ σ f → Fp Fz H f
  | [], _, _, h => by obtain ⟨_, e⟩ := h; subst e; intro a ha; cases ha
  | none :: ρ, _, _, h => by obtain ⟨x, σ', _, o⟩ := h; exact OwnE.fpO o
  | some d :: ρ, _, _, h => by
    obtain ⟨v, σ', f1, f2, _, e, o, ol, _⟩ := h
    subst e
    exact (Own.fp o).app (OwnE.fpO ol)
theorem OwnE.len : ∀ {ρ : Env'} {σ : SL} {f : List Addr}, OwnE K Fz H ρ σ f → σ.length = ρ.length
  | [], _, _, h => by obtain ⟨e, _⟩ := h; subst e; rfl
  | none :: ρ, _, _, h => by obtain ⟨x, σ', e, o⟩ := h; subst e; simp [OwnE.len o]
  | some d :: ρ, _, _, h => by
    obtain ⟨v, σ', f1, f2, e, _, o, ol, _⟩ := h
    subst e
    simp [OwnE.len ol]
theorem OwnE.stay (r : Reach fp Fz H Fz1 H1) (hfp : Fp Fz H fp) : ∀ {ρ : Env'} {σ : SL} {f : List Addr}, OwnE K Fz H ρ σ f → Dis f fp → OwnE K Fz1 H1 ρ σ f
  | [], _, _, h, _ => ⟨h.1, h.2⟩
  | none :: ρ, _, _, h, hd => by obtain ⟨x, σ', e, o⟩ := h; exact ⟨x, σ', e, OwnE.stay r hfp o hd⟩
  | some d :: ρ, _, _, h, hd => by
    obtain ⟨v, σ', f1, f2, e, ef, o, ol, dj⟩ := h
    subst ef
    exact ⟨v, σ', f1, f2, e, rfl, Own.stay r hfp o hd.left, OwnE.stay r hfp ol hd.right, dj⟩
/-- taking slot i out: its value, and the rest -/
theorem OwnE.take : ∀ {ρ : Env'} {σ : SL} {f : List Addr} {i : Nat} {d : D}, OwnE K Fz H ρ σ f → ρ[i]? = some (some d) →
    ∃ v f1 f2, σ[i]? = some (some v) ∧ Own K Fz H d v f1 ∧ OwnE K Fz H (ρ.set i none) σ f2 ∧ Dis f1 f2 ∧ (∀ a, a ∈ f ↔ a ∈ f1 ∨ a ∈ f2)
  | [], _, _, _, _, _, h => by simp at h
  | none :: ρ, _, _, 0, _, _, h => by simp at h
  | none :: ρ, _, _, i + 1, d, ho, h => by
    obtain ⟨x, σ', e, o⟩ := ho
    subst e
    obtain ⟨v, f1, f2, h1, h2, h3, h4, h5⟩ := OwnE.take (i := i) o (by simpa using h)
    exact ⟨v, f1, f2, by simpa using h1, h2, ⟨x, σ', rfl, h3⟩, h4, h5⟩
  | some d' :: ρ, _, _, 0, d, ho, h => by
    obtain ⟨v, σ', f1, f2, e, ef, o, ol, dj⟩ := ho
    have ed : d' = d := by simpa using h
    subst ed
    subst e
    refine ⟨v, f1, f2, rfl, o, ⟨some v, σ', rfl, ol⟩, dj, fun a => ?_⟩
    rw [ef]; exact List.mem_append
  | some d' :: ρ, _, _, i + 1, d, ho, h => by
    obtain ⟨v, σ', f1, f2, e, ef, o, ol, dj⟩ := ho
    subst e ef
    obtain ⟨v2, g1, g2, h1, h2, h3, h4, h5⟩ := OwnE.take (i := i) ol (by simpa using h)
    refine ⟨v2, g1, f1 ++ g2, by simpa using h1, h2, ⟨v, σ', f1, g2, rfl, rfl, o, h3, fun a ha hb => dj a ha ((h5 a).mpr (.inr hb))⟩, fun a ha hb => ?_, fun a => ?_⟩
    · rcases List.mem_append.mp hb with z | z
      · exact dj a z ((h5 a).mpr (.inl ha))
      · exact h4 a ha z
    · rw [List.mem_append, List.mem_append, h5 a]
      constructor
      · rintro (z | z | z)
        · exact .inr (.inl z)
        · exact .inl z
        · exact .inr (.inr z)
      · rintro (z | z | z)
        · exact .inr (.inl z)
        · exact .inl z
        · exact .inr (.inr z)
/-- putting a value into slot i -/
theorem OwnE.put : ∀ {ρ : Env'} {σ : SL} {f g : List Addr} {i : Nat} {d : D} {v : V}, OwnE K Fz H ρ σ f → i < ρ.length → Own K Fz H d v g → Dis g f →
    ∃ f', OwnE K Fz H (ρ.set i (some d)) (σ.set i (some v)) f' ∧ ∀ a ∈ f', a ∈ g ∨ a ∈ f
  | [], _, _, _, _, _, _, _, h, _, _ => by simp at h
  | none :: ρ, _, f, g, 0, d, v, ho, _, h, dj => by
    obtain ⟨x, σ', e, o⟩ := ho
    subst e
    exact ⟨g ++ f, ⟨v, σ', g, f, rfl, rfl, h, o, dj⟩, fun a ha => List.mem_append.mp ha⟩
  | none :: ρ, _, f, g, i + 1, d, v, ho, hi, h, dj => by
    obtain ⟨x, σ', e, o⟩ := ho
    subst e
    obtain ⟨f', h1, h2⟩ := OwnE.put (i := i) o (by simpa using hi) h dj
    exact ⟨f', ⟨x, _, rfl, h1⟩, h2⟩
  | some d' :: ρ, _, f, g, 0, d, v, ho, _, h, dj => by
    obtain ⟨v', σ', f1, f2, e, ef, o, ol, dj'⟩ := ho
    subst e ef
    exact ⟨g ++ f2, ⟨v, σ', g, f2, rfl, rfl, h, ol, dj.right'⟩, fun a ha => (List.mem_append.mp ha).imp_right (List.mem_append_right _)⟩
  | some d' :: ρ, _, f, g, i + 1, d, v, ho, hi, h, dj => by
    obtain ⟨v', σ', f1, f2, e, ef, o, ol, dj'⟩ := ho
    subst e ef
    obtain ⟨f', h1, h2⟩ := OwnE.put (i := i) ol (by simpa using hi) h dj.right'
    refine ⟨f1 ++ f', ⟨v', _, f1, f', rfl, rfl, o, h1, fun a ha hb => (h2 a hb).elim (fun z => dj a z (List.mem_append_left _ ha)) (dj' a ha)⟩, fun a ha => ?_⟩
    rcases List.mem_append.mp ha with z | z
    · exact .inr (List.mem_append_left _ z)
    · exact (h2 a z).imp_right (List.mem_append_right _)
/-- the same value back (σ as it was) -/
theorem OwnE.back : ∀ {ρ : Env'} {σ : SL} {f g : List Addr} {i : Nat} {d : D} {v : V}, OwnE K Fz H ρ σ f → i < ρ.length → σ[i]? = some (some v) → Own K Fz H d v g → Dis g f →
    ∃ f', OwnE K Fz H (ρ.set i (some d)) σ f' ∧ ∀ a ∈ f', a ∈ g ∨ a ∈ f := fun {ρ σ f g i d v} o hi hs h dj => by
  obtain ⟨f', h1, h2⟩ := OwnE.put o hi h dj
  refine ⟨f', ?_, h2⟩
  have e : σ.set i (some v) = σ := by
    apply List.ext_getElem?
    intro j
    by_cases hj : i = j
    · subst hj
      have hl : i < σ.length := (List.getElem?_eq_some_iff.mp hs).1
      rw [List.getElem?_set_self hl, hs]
    · rw [List.getElem?_set_ne hj]
  rw [e] at h1; exact h1
/-- forgetting slot i -/
theorem OwnE.drop : ∀ {ρ : Env'} {σ : SL} {f : List Addr} (i : Nat), OwnE K Fz H ρ σ f → ∃ f', OwnE K Fz H (ρ.set i none) σ f' ∧ ∀ a ∈ f', a ∈ f
  | [], _, f, _, h => ⟨f, h, fun _ h => h⟩
  | none :: ρ, _, f, 0, h => ⟨f, h, fun _ h => h⟩
  | none :: ρ, _, f, i + 1, h => by
    obtain ⟨x, σ', e, o⟩ := h
    obtain ⟨f', h1, h2⟩ := OwnE.drop i o
    exact ⟨f', ⟨x, σ', e, h1⟩, h2⟩
  | some d :: ρ, _, f, 0, h => by
    obtain ⟨v, σ', f1, f2, e, ef, o, ol, dj⟩ := h
    subst ef
    exact ⟨f2, ⟨some v, σ', e, ol⟩, fun a ha => List.mem_append_right _ ha⟩
  | some d :: ρ, _, f, i + 1, h => by
    obtain ⟨v, σ', f1, f2, e, ef, o, ol, dj⟩ := h
    subst ef
    obtain ⟨f', h1, h2⟩ := OwnE.drop i ol
    exact ⟨f1 ++ f', ⟨v, σ', f1, f', e, rfl, o, h1, fun a ha hb => dj a ha (h2 a hb)⟩, fun a ha => (List.mem_append.mp ha).elim (List.mem_append_left _) fun z => List.mem_append_right _ (h2 a z)⟩
/-- the slot's value changes, its place is as it was -/
theorem OwnE.drop' {ρ : Env'} {σ σ' : SL} {f : List Addr} : ∀ (i : Nat), OwnE K Fz H ρ σ f → (∀ j, j ≠ i → σ'[j]? = σ[j]?) → σ'.length = σ.length → ∃ f', OwnE K Fz H (ρ.set i none) σ' f' ∧ ∀ a ∈ f', a ∈ f := by
  induction ρ generalizing σ σ' f with
  | nil =>
    intro i h hs hl
    obtain ⟨e1, e2⟩ := h
    subst e1 e2
    have e : σ' = [] := List.eq_nil_of_length_eq_zero hl
    exact ⟨[], ⟨e, rfl⟩, fun _ h => h⟩
  | cons x ρ ih =>
    intro i h hs hl
    have hc : ∃ y τ, σ' = y :: τ := by
      cases σ' with
      | nil =>
        have := OwnE.len h
        rw [← hl] at this
        simp at this
      | cons y τ => exact ⟨y, τ, rfl⟩
    obtain ⟨y, τ, eτ⟩ := hc
    subst eτ
    cases x with
    | none =>
      obtain ⟨x, σ1, e, o⟩ := h
      subst e
      cases i with
      | zero =>
        have e : τ = σ1 := List.ext_getElem? fun j => by simpa using hs (j + 1) (by omega)
        subst e
        exact ⟨f, ⟨y, τ, rfl, o⟩, fun _ h => h⟩
      | succ i =>
        obtain ⟨f', h1, h2⟩ := ih i o (fun j hj => by simpa using hs (j + 1) (by omega)) (by simpa using hl)
        exact ⟨f', ⟨y, τ, rfl, h1⟩, h2⟩
    | some d =>
      obtain ⟨v, σ1, f1, f2, e, ef, o, ol, dj⟩ := h
      subst e ef
      cases i with
      | zero =>
        have e : τ = σ1 := List.ext_getElem? fun j => by simpa using hs (j + 1) (by omega)
        subst e
        exact ⟨f2, ⟨y, τ, rfl, ol⟩, fun a ha => List.mem_append_right _ ha⟩
      | succ i =>
        obtain ⟨f', h1, h2⟩ := ih i ol (fun j hj => by simpa using hs (j + 1) (by omega)) (by simpa using hl)
        have ey : y = some v := by simpa using hs 0 (by omega)
        subst ey
        exact ⟨f1 ++ f', ⟨v, τ, f1, f', rfl, rfl, o, h1, fun a ha hb => dj a ha (h2 a hb)⟩, fun a ha => (List.mem_append.mp ha).elim (List.mem_append_left _) fun z => List.mem_append_right _ (h2 a z)⟩
theorem OwnE.get {ρ : Env'} {σ : SL} {i : Nat} {d : D} (h : OwnE K Fz H ρ σ f) (e : ρ[i]? = some (some d)) : ∃ v f1, σ[i]? = some (some v) ∧ Own K Fz H d v f1 ∧ ∀ a ∈ f1, a ∈ f := by
  obtain ⟨v, f1, f2, h1, h2, _, _, h5⟩ := OwnE.take h e
  exact ⟨v, f1, h1, h2, fun a ha => (h5 a).mpr (.inl ha)⟩
end
end PL
set_option Elab.async false
set_option linter.all false
set_option maxRecDepth 100000
set_option maxHeartbeats 4000000
/-! The small language, how a text is turned to it, and what it means. -/
namespace PL
open PySem PySem.Spec PyProof.Rows L2
inductive BOp where | add | sub | mul | fdiv | mod | pow deriving DecidableEq
inductive COp where | eq | ne | lt | le | gt | ge | isIn | notIn deriving DecidableEq
inductive Ty where | int | bool | str | tuple | list deriving DecidableEq
inductive Blt where | len | max2 | min2 | int1 | bool1 | str1 | abs1 | sorted1 | tuple1 | list1 | sum1 | any1 | all1 | range1 | tupleR | listR | lenset | join deriving DecidableEq
inductive Mth where | append | extend | pop | popAt | update deriving DecidableEq
inductive ItK where | seq | rng1 | rng2 | enum | zip | keys deriving DecidableEq
inductive Tg where | name (i : Nat) | tup (ts : List Tg)
inductive T where
  | var (i : Nat) | int (i : Int) | bl (b : Bool) | non | str (x : Str)
  | bin (op : BOp) (a b : T) | neg (a : T)
  | cmp (op : COp) (a b : T) | isN (neg : Bool) (a : T) | isB (neg : Bool) (a : T) (b : Bool)
  | chain (o1 o2 : COp) (a b c : T)
  | and (a b : T) | or (a b : T) | not (a : T) | tru (a : T) | ite (c a b : T)
  | tup (es : List T) | lst (es : List T) | dic0
  | sub (a i : T) | slc (a lo hi : T) | rev (a : T)
  | call (f : Nat) (es : List T)
  | blt (b : Blt) (es : List T)
  | isi (a : T) (t : Ty)
  | mth (m : Mth) (i : Nat) (es : List T)
  | lc (elt : T) (tg : Tg) (k : ItK) (srcs : List T) (cond : T) (own : List Nat)
  | dc (kx vx : T) (tg : Tg) (k : ItK) (srcs : List T) (cond : T) (own : List Nat)
  | heard (tab : List (Nat × Str)) (e : T) (caps : List Nat)
inductive S where
  | set (i : Nat) (e : T) | par (is : List Nat) (es : List T) | asg (tg : Tg) (e : T) | sst (i : Nat) (ix e : T)
  | aug (i : Nat) (op : BOp) (e : T) | ex (e : T) | ret (e : T) | retN
  | ite (c : T) (a b : List S) | forS (tg : Tg) (k : ItK) (srcs : List T) (body : List S) | whl (c : T) (body : List S)
  | rais (c : Nat) (e : T) | brk | cnt | pas
/-! ### what it means -/
inductive Opd where | val (d : D) | late (i : Nat)
structure Fn where
  n : Nat
  lent : List Nat
  run : List D → (D → List D → Prop) → (Nat → P → Prop) → Prop
abbrev KE := D → Env' → Prop
def opd (a : T) (wa : Env' → KE → Prop) (ρ : Env') (Q : Opd → Env' → Prop) : Prop :=
  match a with
  | .var i => (∃ d, ρ[i]? = some (some d)) ∧ Q (.late i) ρ
  | _ => wa ρ fun d ρ' => Q (.val d) ρ'
/-- as it is now -/
def look (ρ : Env') : Opd → Option D
  | .val d => some d
  | .late i => (ρ[i]?).join
def vwO (ρ : Env') (o : Opd) (Q : P → Prop) : Prop :=
  match look ρ o with
  | some d => Q (frz d)
  | none => False
def vwOs (ρ : Env') : List Opd → (List P → Prop) → Prop
  | [], Q => Q []
  | o :: os, Q => vwO ρ o fun x => vwOs ρ os fun xs => Q (x :: xs)
/-- frozen -/
def frV (ρ : Env') (i : Nat) (Q : P → Env' → Prop) : Prop :=
  match (ρ[i]?).join with
  | some (.p x) => Q x ρ
  | some d => Q (frz d) (ρ.set i (some (.p (frz d))))
  | none => False
def frO (ρ : Env') (o : Opd) (Q : P → Env' → Prop) : Prop :=
  match o with
  | .val d => Q (frz d) ρ
  | .late i => frV ρ i Q
def frOs : Env' → List Opd → (List P → Env' → Prop) → Prop
  | ρ, [], Q => Q [] ρ
  | ρ, o :: os, Q => frO ρ o fun x ρ1 => frOs ρ1 os fun xs ρ2 => Q (x :: xs) ρ2
def frVs : Env' → List Nat → (Env' → Prop) → Prop
  | ρ, [], Q => Q ρ
  | ρ, i :: is, Q => frV ρ i fun _ ρ' => frVs ρ' is Q
/-- what is frozen -/
def pOnly (ρ : Env') : Env' := ρ.map fun o => match o with
  | some (.p x) => some (.p x)
  | _ => none
/-- moved: what was just made stays one's own -/
def mvO (ρ : Env') (o : Opd) (Q : KE) : Prop :=
  match o with
  | .val d => Q d ρ
  | .late i => frV ρ i fun x ρ' => Q (.p x) ρ'
def mvOs : Env' → List Opd → (List D → Env' → Prop) → Prop
  | ρ, [], Q => Q [] ρ
  | ρ, o :: os, Q => mvO ρ o fun x ρ1 => mvOs ρ1 os fun xs ρ2 => Q (x :: xs) ρ2
/-- a call's arguments: those at the places lent are lent, the others frozen -/
def args (lent : List Nat) : Nat → Env' → List Opd → (List D → List Nat → Env' → Prop) → Prop
  | _, ρ, [], Q => Q [] [] ρ
  | j, ρ, o :: os, Q =>
    if j ∈ lent then
      match o with
      | .late i => match (ρ[i]?).join with
        | some d => args lent (j + 1) (ρ.set i none) os fun ds is ρ' => Q (d :: ds) (i :: is) ρ'
        | none => False
      | .val d => args lent (j + 1) ρ os fun ds is ρ' => Q (d :: ds) (ρ'.length :: is) ρ'
    else frO ρ o fun x ρ1 => args lent (j + 1) ρ1 os fun ds is ρ' => Q (.p x :: ds) is ρ'
def putBack : Env' → List Nat → List D → (Env' → Prop) → Prop
  | ρ, [], [], Q => Q ρ
  | ρ, i :: is, d :: ds, Q => putBack (ρ.set i (some d)) is ds Q
  | _, _, _, _ => False
mutual
/-- == of data -/
def peq : P → P → Bool
  | .non, .non => true
  | .bl a, .bl b => a == b
  | .bl a, .int j => (if a then 1 else 0) == j
  | .int i, .bl b => i == (if b then 1 else 0)
  | .int i, .int j => i == j
  | .str x, .str y => x == y
  | .lst xs, .lst ys => peqL xs ys
  | .tup xs, .tup ys => peqL xs ys
  | _, _ => false
def peqL : List P → List P → Bool
  | [], [] => true
  | x :: xs, y :: ys => peq x y && peqL xs ys
  | _, _ => false
end
mutual
/-- data that == may be asked of: no dicts -/
def okP : P → Bool
  | .non | .bl _ | .int _ => true
  | .str x => x.cps.all (· < 0x110000)
  | .tup xs | .lst xs => okL xs
  | .dic _ _ | .rdl _ => false
def okL : List P → Bool
  | [] => true
  | x :: xs => okP x && okL xs
end
mutual
def dep : P → Nat
  | .tup xs | .lst xs => depL xs + 1
  | .dic _ xs => depL xs + 1
  | _ => 0
def depL : List P → Nat
  | [] => 0
  | x :: xs => max (dep x) (depL xs)
end
def eqOk (a b : P) : Bool := okP a && okP b && decide (min (dep a) (dep b) ≤ 60)
def flat : P → Bool
  | .non | .bl _ | .int _ | .str _ => true
  | _ => false
def feq : P → P → Bool
  | .non, .non => true
  | .bl a, .bl b => a == b
  | .int i, .int j => i == j
  | .str x, .str y => x == y
  | .bl a, .int j => (if a then 1 else 0) == j
  | .int i, .bl b => i == (if b then 1 else 0)
  | _, _ => false
def idxK (ks : List Key) (k : Key) : Option Nat := ks.findIdx? fun q => decide (q = k)
def asKey : P → Option Key
  | .int i => some (.inl i)
  | .str x => some (.inr x)
  | _ => none
def kP : Key → P
  | .inl i => .int i
  | .inr x => .str x
def opB : BOp → P → P → (D → Prop) → Prop
  | .add, .int i, .int j, Q => Q (.p (.int (i + j)))
  | .add, .str x, .str y, Q => x.length + y.length ≤ sizeLine ∧ Q (.p (.str (x ++ y)))
  | .add, .tup xs, .tup ys, Q => xs.length + ys.length ≤ sizeLine ∧ Q (.p (.tup (xs ++ ys)))
  | .add, .lst xs, .lst ys, Q => xs.length + ys.length ≤ sizeLine ∧ Q (.lst (xs ++ ys))
  | .sub, .int i, .int j, Q => Q (.p (.int (i - j)))
  | .mul, .int i, .int j, Q => (CMul i j ∨ CMulW i j) ∧ Q (.p (.int (i * j)))
  | .mul, .tup xs, .int k, Q => (0 ≤ k ∧ k ≤ 1000 ∧ xs.length ≤ 1000) ∧ Q (.p (.tup (List.replicate k.toNat xs).flatten))
  | .mul, .lst xs, .int k, Q => (-(2 ^ 63) ≤ k ∧ k < 2 ^ 63 ∧ xs.length * k.toNat ≤ sizeLine) ∧ Q (.lst (List.replicate k.toNat xs).flatten)
  | .fdiv, .int i, .int j, Q => (0 < j ∧ j.natAbs.log2 < 9000) ∧ Q (.p (.int (i / j)))
  | .mod, .int i, .int j, Q => 0 < j ∧ Q (.p (.int (i % j)))
  | .pow, .int i, .int j, Q => CPow i j ∧ Q (.p (.int (i ^ j.toNat)))
  | _, _, _, _ => False
def inS (neg : Bool) (x : P) (xs : List P) (Q : Bool → Prop) : Prop := flat x = true ∧ xs.all flat = true ∧ Q (neg ^^ xs.any fun y => feq y x)
def inO (neg : Bool) : P → P → (Bool → Prop) → Prop
  | x, .tup ys, Q => inS neg x ys Q
  | x, .lst ys, Q => inS neg x ys Q
  | x, .dic ks _, Q => ∃ k : Key, asKey x = some k ∧ Q (neg ^^ ks.any fun q => decide (q = k))
  | _, _, _ => False
def opC : COp → P → P → (Bool → Prop) → Prop
  | .eq, a, b, Q => eqOk a b = true ∧ Q (peq a b)
  | .ne, a, b, Q => eqOk a b = true ∧ Q (!peq a b)
  | .lt, .int i, .int j, Q => Q (decide (i < j))
  | .le, .int i, .int j, Q => Q (decide (i ≤ j))
  | .gt, .int i, .int j, Q => Q (decide (j < i))
  | .ge, .int i, .int j, Q => Q (decide (j ≤ i))
  | .isIn, a, b, Q => inO false a b Q
  | .notIn, a, b, Q => inO true a b Q
  | _, _, _, _ => False
def truP : P → (Bool → Prop) → Prop
  | .bl b, Q => Q b
  | .non, Q => Q false
  | .int i, Q => Q (i != 0)
  | .tup xs, Q => Q (!xs.isEmpty)
  | .lst xs, Q => Q (!xs.isEmpty)
  | _, _ => False
def isTy : Ty → P → Bool
  | .int, .int _ | .int, .bl _ | .bool, .bl _ | .str, .str _ | .tuple, .tup _ | .list, .lst _ | .list, .rdl _ => true
  | _, _ => false
def isNon : P → Bool
  | .non => true
  | _ => false
def idx (n : Nat) (i : Int) : Option Nat := ixN n i
def subP : P → P → (P → Prop) → Prop
  | .tup xs, .int i, Q => ∃ x, atI xs i = some x ∧ Q x
  | .lst xs, .int i, Q => ∃ x, atI xs i = some x ∧ Q x
  | .rdl xs, .int i, Q => ∃ x, atI xs i = some x ∧ Q x
  | _, _, _ => False
/-- d[k], where d is a dict of one's own: what isn't frozen there is frozen with all of it -/
def subO (ρ : Env') (o : Opd) (y : P) (Q : KE) : Prop :=
  match look ρ o with
  | some (.dic ks ds) => ∃ k' j d, asKey y = some k' ∧ idxK ks k' = some j ∧ ds[j]? = some d ∧ (match d with | .p z => Q (.p z) ρ | d => frO ρ o fun _ ρ' => Q (.p (frz d)) ρ')
  | some (.p (.dic ks ds)) => ∃ k' j z, asKey y = some k' ∧ idxK ks k' = some j ∧ ds[j]? = some z ∧ Q (.p z) ρ
  | some d => subP (frz d) y fun z => Q (.p z) ρ
  | none => False
def cutP (xs : List P) (lo hi : Option Int) : List P := (xs.drop (HT.sIx xs.length 0 lo)).take (HT.sIx xs.length xs.length hi - HT.sIx xs.length 0 lo)
def slcP : P → Option Int → Option Int → (D → Prop) → Prop
  | .tup xs, lo, hi, Q => Q (.p (.tup (cutP xs lo hi)))
  | .lst xs, lo, hi, Q => Q (.lst (cutP xs lo hi))
  | _, _, _, _ => False
def revP : P → (D → Prop) → Prop
  | .tup xs, Q => Q (.p (.tup xs.reverse))
  | .lst xs, Q => Q (.lst xs.reverse)
  | _, _ => False
def isort : List Int → List Int
  | [] => []
  | x :: xs => ins x (isort xs)
where ins (x : Int) : List Int → List Int
  | [] => [x]
  | y :: ys => if x ≤ y then x :: y :: ys else y :: ins x ys
def intsP : List P → Option (List Int)
  | [] => some []
  | .int i :: r => (intsP r).map (i :: ·)
  | _ => none
def strsP : List P → Option (List Str)
  | [] => some []
  | .str x :: r => (strsP r).map (x :: ·)
  | _ => none
def blsP : List P → Option (List Bool)
  | [] => some []
  | .bl x :: r => (blsP r).map (x :: ·)
  | _ => none
def keysI : List Key → Option (List Int)
  | [] => some []
  | .inl i :: r => (keysI r).map (i :: ·)
  | _ => none
def addNew (l : List Int) (k : Int) : List Int := if l.any (· == k) then l else l ++ [k]
/-- each once, as first met -/
def dedupI (ns : List Int) : List Int := ns.foldl addNew []
def iota (lo : Int) (n : Nat) : List P := (List.range n).map fun (j : Nat) => .int (lo + j)
def bltS : Blt → List P → (D → Prop) → Prop
  | .len, [.tup xs], Q => Q (.p (.int xs.length))
  | .len, [.lst xs], Q => Q (.p (.int xs.length))
  | .len, [.rdl xs], Q => Q (.p (.int xs.length))
  | .len, [.dic ks _], Q => Q (.p (.int ks.length))
  | .len, [.str x], Q => x.length ≤ sizeLine ∧ Q (.p (.int x.length))
  | .max2, [.int i, .int j], Q => Q (.p (.int (if j > i then j else i)))
  | .min2, [.int i, .int j], Q => Q (.p (.int (if j < i then j else i)))
  | .int1, [.int i], Q => Q (.p (.int i))
  | .int1, [.bl b], Q => Q (.p (.int (if b then 1 else 0)))
  | .bool1, [.bl b], Q => Q (.p (.bl b))
  | .str1, [.int i], Q => i.natAbs.log2 < 1920 ∧ Q (.p (.str (toString i)))
  | .abs1, [.int i], Q => Q (.p (.int (if i < 0 then -i else i)))
  | .tuple1, [.tup xs], Q => Q (.p (.tup xs))
  | .tuple1, [.lst xs], Q => Q (.p (.tup xs))
  | .list1, [.tup xs], Q => Q (.lst xs)
  | .list1, [.lst xs], Q => Q (.lst xs)
  | .list1, [.rdl xs], Q => Q (.lst xs)
  | .list1, [.dic ks _], Q => Q (.lst (ks.map kP))
  | .sorted1, [.lst xs], Q => ∃ ns, intsP xs = some ns ∧ Q (.lst ((isort ns).map .int))
  | .sorted1, [.dic ks _], Q => ∃ ns, keysI ks = some ns ∧ ns.length < 64 ∧ Q (.lst ((isort ns).map .int))
  | .sum1, [.lst xs], Q => ∃ ns, intsP xs = some ns ∧ Q (.p (.int ns.sum))
  | .any1, [.lst xs], Q => ∃ bs, blsP xs = some bs ∧ Q (.p (.bl (bs.any id)))
  | .all1, [.lst xs], Q => ∃ bs, blsP xs = some bs ∧ Q (.p (.bl (bs.all id)))
  | .lenset, [.tup xs], Q => ∃ ns, intsP xs = some ns ∧ ns.length < 4000 ∧ Q (.p (.int (dedupI ns).length))
  | .lenset, [.lst xs], Q => ∃ ns, intsP xs = some ns ∧ ns.length < 4000 ∧ Q (.p (.int (dedupI ns).length))
  | .listR, [.int n], Q => (-(2 ^ 62) ≤ n ∧ n < 2 ^ 20) ∧ Q (.lst (iota 0 n.toNat))
  | .tupleR, [.int n], Q => (-(2 ^ 62) ≤ n ∧ n < 2 ^ 20) ∧ Q (.p (.tup (iota 0 n.toNat)))
  | _, _, _ => False
def mthA (m : Mth) (ρ : Env') (os : List Opd) (Q : List P → Env' → Prop) : Prop :=
  match m with
  | .extend | .update => vwOs ρ os fun xs => Q xs ρ
  | _ => frOs ρ os Q
/-- what a method of one's own list tells, and what the list is then -/
def mthS : Mth → D → List P → (D → D → Prop) → Prop
  | .append, .lst xs, [y], Q => xs.length < sizeLine ∧ Q (.p .non) (.lst (xs ++ [y]))
  | .extend, .lst xs, [.lst ys], Q => xs.length + ys.length ≤ sizeLine ∧ Q (.p .non) (.lst (xs ++ ys))
  | .pop, .lst xs, [], Q => ∃ y, xs[xs.length - 1]? = some y ∧ Q (.p y) (.lst xs.dropLast)
  | .popAt, .lst xs, [.int i], Q => (-(2 ^ 63) ≤ i ∧ i < 2 ^ 63) ∧ ∃ j y, idx xs.length i = some j ∧ xs[j]? = some y ∧ Q (.p y) (.lst (xs.eraseIdx j))
  | _, _, _, _ => False
/-- what a loop walks -/
def itP : ItK → List P → (List P → Prop) → Prop
  | .seq, [.tup xs], Q => Q xs
  | .seq, [.lst xs], Q => Q xs
  | .rng1, [.int n], Q => (-(2 ^ 62) ≤ n ∧ n < 2 ^ 62) ∧ Q (iota 0 n.toNat)
  | .rng2, [.int a, .int b], Q => (-(2 ^ 62) ≤ a ∧ a < 2 ^ 62 ∧ -(2 ^ 62) ≤ b ∧ b < 2 ^ 62) ∧ Q (iota a (b - a).toNat)
  | .enum, [.tup xs], Q => Q ((List.range xs.length).zipWith (fun (j : Nat) x => .tup [.int j, x]) xs)
  | .enum, [.lst xs], Q => Q ((List.range xs.length).zipWith (fun (j : Nat) x => .tup [.int j, x]) xs)
  | .zip, [.lst xs, .lst ys], Q => Q (xs.zipWith (fun x y => .tup [x, y]) ys)
  | _, _, _ => False
def brw (ρ : Env') : Opd → Option (Nat × D)
  | .late i => match (ρ[i]?).join with
    | some (.p _) => none
    | some d => some (i, d)
    | none => none
  | .val _ => none
/-- the slots that a loop's source borrows, with what stands there -/
def brws (ρ : Env') (os : List Opd) : List (Nat × D) := os.filterMap (brw ρ)
def holds (ρ : Env') (bs : List (Nat × D)) : Prop := ∀ b ∈ bs, ρ[b.1]? = some (some b.2)
mutual
def tgS (fx : List Nat) : Tg → P → Env' → (Env' → Prop) → Prop
  | .name i, x, ρ, Q => i ∉ fx ∧ i < ρ.length ∧ Q (ρ.set i (some (.p x)))
  | .tup ts, x, ρ, Q => ∃ xs, x = .tup xs ∧ xs.length = ts.length ∧ tgsS fx ts xs ρ Q
def tgsS (fx : List Nat) : List Tg → List P → Env' → (Env' → Prop) → Prop
  | [], xs, ρ, Q => xs = [] ∧ Q ρ
  | t :: ts, xs, ρ, Q => ∃ x r, xs = x :: r ∧ tgS fx t x ρ fun ρ1 => tgsS fx ts r ρ1 Q
end
def wip (ρ : Env') : List Nat → Env'
  | [] => ρ
  | v :: vs => (wip ρ vs).set v none
/-- a list comprehension's turns -/
def lcT (tg : Tg) (wc we : Env' → KE → Prop) (own : List Nat) (bs : List (Nat × D)) : List P → List P → Env' → (List P → Env' → Prop) → Prop
  | [], acc, ρ, Q => Q acc ρ
  | x :: xs, acc, ρ, Q => tgS [] tg x ρ fun ρ1 => wc ρ1 fun c ρ2 => ∃ b, c = .p (.bl b) ∧
      if b = true then we ρ2 fun d ρ3 => acc.length < sizeLine ∧ holds (wip ρ3 own) bs ∧ lcT tg wc we own bs xs (acc ++ [frz d]) (wip ρ3 own) Q
      else holds (wip ρ2 own) bs ∧ lcT tg wc we own bs xs acc (wip ρ2 own) Q
/-- a slice's bound -/
def partOk (t : T) (d : D) (i : Option Int) : Prop :=
  match t with
  | .non => i = none
  | _ => ∃ j, d = .p (.int j) ∧ i = some j
def EX0 : Nat → P → Prop := fun _ _ => False
mutual
def w (G : List Fn) (EX : Nat → P → Prop) : T → Env' → KE → Prop
  | .var i, ρ, Q => frV ρ i fun x ρ' => Q (.p x) ρ'
  | .int i, ρ, Q => Q (.p (.int i)) ρ
  | .bl b, ρ, Q => Q (.p (.bl b)) ρ
  | .non, ρ, Q => Q (.p .non) ρ
  | .str x, ρ, Q => Q (.p (.str x)) ρ
  | .bin op a b, ρ, Q => opd a (w G EX a) ρ fun o1 ρ1 => opd b (w G EX b) ρ1 fun o2 ρ2 => vwO ρ2 o1 fun x => vwO ρ2 o2 fun y => opB op x y fun d => Q d ρ2
  | .neg a, ρ, Q => opd a (w G EX a) ρ fun o1 ρ1 => vwO ρ1 o1 fun x => ∃ i, x = .int i ∧ Q (.p (.int (-i))) ρ1
  | .cmp op a b, ρ, Q => opd a (w G EX a) ρ fun o1 ρ1 => opd b (w G EX b) ρ1 fun o2 ρ2 => vwO ρ2 o1 fun x => vwO ρ2 o2 fun y => opC op x y fun c => Q (.p (.bl c)) ρ2
  | .isN neg a, ρ, Q => opd a (w G EX a) ρ fun o1 ρ1 => vwO ρ1 o1 fun x => Q (.p (.bl (neg ^^ isNon x))) ρ1
  | .isB neg a b, ρ, Q => opd a (w G EX a) ρ fun o1 ρ1 => vwO ρ1 o1 fun x => ∃ c, x = .bl c ∧ Q (.p (.bl (neg ^^ decide (c = b)))) ρ1
  | .chain op op' a b c, ρ, Q => opd a (w G EX a) ρ fun o1 ρ1 => opd b (w G EX b) ρ1 fun o2 ρ2 => vwO ρ2 o1 fun x => vwO ρ2 o2 fun y => opC op x y fun k =>
      if k = true then opd c (w G EX c) ρ2 fun o3 ρ3 => vwO ρ3 o2 fun y' => vwO ρ3 o3 fun z => opC op' y' z fun k' => Q (.p (.bl k')) ρ3 else Q (.p (.bl false)) ρ2
  | .and a b, ρ, Q => w G EX a ρ fun d ρ1 => ∃ c, d = .p (.bl c) ∧ if c = true then w G EX b ρ1 Q else Q (.p (.bl false)) ρ1
  | .or a b, ρ, Q => w G EX a ρ fun d ρ1 => ∃ c, d = .p (.bl c) ∧ if c = true then Q (.p (.bl true)) ρ1 else w G EX b ρ1 Q
  | .not a, ρ, Q => w G EX a ρ fun d ρ1 => ∃ c, d = .p (.bl c) ∧ Q (.p (.bl (!c))) ρ1
  | .tru a, ρ, Q => opd a (w G EX a) ρ fun o ρ1 => vwO ρ1 o fun x => truP x fun b => Q (.p (.bl b)) ρ1
  | .ite c a b, ρ, Q => w G EX c ρ fun d ρ1 => ∃ k, d = .p (.bl k) ∧ if k = true then w G EX a ρ1 Q else w G EX b ρ1 Q
  | .tup es, ρ, Q => wOs G EX es ρ fun os ρ1 => frOs ρ1 os fun xs ρ2 => xs.length ≤ sizeLine ∧ Q (.p (.tup xs)) ρ2
  | .lst es, ρ, Q => wOs G EX es ρ fun os ρ1 => frOs ρ1 os fun xs ρ2 => xs.length ≤ sizeLine ∧ Q (.lst xs) ρ2
  | .dic0, ρ, Q => Q (.dic [] []) ρ
  | .sub a i, ρ, Q => opd a (w G EX a) ρ fun o1 ρ1 => opd i (w G EX i) ρ1 fun o2 ρ2 => vwO ρ2 o2 fun y => subO ρ2 o1 y Q
  | .slc a lo hi, ρ, Q => opd a (w G EX a) ρ fun o1 ρ1 => w G EX lo ρ1 fun l ρ2 => ∃ l' : Option Int, partOk lo l l' ∧ w G EX hi ρ2 fun h ρ3 => ∃ h' : Option Int, partOk hi h h' ∧ vwO ρ3 o1 fun x => slcP x l' h' fun d => Q d ρ3
  | .rev a, ρ, Q => opd a (w G EX a) ρ fun o1 ρ1 => vwO ρ1 o1 fun x => revP x fun d => Q d ρ1
  | .call f es, ρ, Q => ∃ g, G[f]? = some g ∧ wOs G EX es ρ fun os ρ1 => args g.lent 0 ρ1 os fun ds is ρ2 => ds.length = g.n ∧ g.run ds (fun r ls => putBack ρ2 is ls fun ρ3 => Q r ρ3) EX
  | .blt b es, ρ, Q => wOs G EX es ρ fun os ρ1 => vwOs ρ1 os fun xs => bltS b xs fun d => Q d ρ1
  | .isi a t, ρ, Q => opd a (w G EX a) ρ fun o1 ρ1 => vwO ρ1 o1 fun x => Q (.p (.bl (isTy t x))) ρ1
  | .mth m i es, ρ, Q => (∃ xs, ρ[i]? = some (some (.lst xs))) ∧ wOs G EX es ρ fun os ρ1 => mthA m ρ1 os fun xs ρ2 => ∃ d, ρ2[i]? = some (some d) ∧ mthS m d xs fun r d' => Q r (ρ2.set i (some d'))
  | .lc elt tg k srcs cond own, ρ, Q => wOs G EX srcs ρ fun os ρ1 => (∀ b ∈ brws ρ1 os, b.1 ∉ own) ∧ vwOs ρ1 os fun xs => itP k xs fun its =>
      lcT tg (fun r q => w G EX0 cond r q) (fun r q => w G EX0 elt r q) own (brws ρ1 os) its [] (wip ρ1 own) fun acc ρ2 => Q (.lst acc) ρ2
  | .dc kx vx tg k srcs cond own, ρ, Q => False
  | .heard tab e caps, ρ, Q => frVs ρ caps fun ρ' => w G (fun c x => ∃ n, tab.lookup c = some n ∧ Q (.p (.tup [.str n, x])) ρ') e (pOnly ρ') fun d _ => Q (.p (.tup [.str "told", frz d])) ρ'
def wOs (G : List Fn) (EX : Nat → P → Prop) : List T → Env' → (List Opd → Env' → Prop) → Prop
  | [], ρ, Q => Q [] ρ
  | e :: es, ρ, Q => opd e (w G EX e) ρ fun o ρ1 => wOs G EX es ρ1 fun os ρ2 => Q (o :: os) ρ2
end
structure En where
  nx : Env' → Prop
  rt : KE
  bk : Env' → Prop := fun _ => False
  ct : Env' → Prop := fun _ => False
def forT (fx : List Nat) (tg : Tg) (wb : Env' → En → Prop) (bs : List (Nat × D)) : List P → Env' → En → Prop
  | [], ρ, D => D.nx ρ
  | x :: xs, ρ, D => tgS fx tg x ρ fun ρ1 => wb ρ1 { nx := fun ρ2 => holds ρ2 bs ∧ forT fx tg wb bs xs ρ2 D, ct := fun ρ2 => holds ρ2 bs ∧ forT fx tg wb bs xs ρ2 D, bk := D.nx, rt := D.rt }
def whlT (wc : Env' → KE → Prop) (wb : Env' → En → Prop) (ρ : Env') (D : En) : Prop :=
  ∃ I : Nat → Env' → Prop, (∃ m, I m ρ) ∧ ∀ m ρ, I m ρ → wc ρ fun d ρ1 => ∃ b, d = .p (.bl b) ∧
    if b = true then wb ρ1 { nx := fun ρ2 => ∃ m', m' < m ∧ I m' ρ2, ct := fun ρ2 => ∃ m', m' < m ∧ I m' ρ2, bk := D.nx, rt := D.rt } else D.nx ρ1
def setAll : List Nat → List Nat → List D → Env' → (Env' → Prop) → Prop
  | _, [], [], ρ, Q => Q ρ
  | fx, i :: is, d :: ds, ρ, Q => i ∉ fx ∧ i < ρ.length ∧ setAll fx is ds (ρ.set i (some d)) Q
  | _, _, _, _, _ => False
def sstS : D → P → P → (D → Prop) → Prop
  | .lst xs, .int i, y, Q => ∃ j, idx xs.length i = some j ∧ Q (.lst (xs.set j y))
  | .dic ks xs, k, y, Q => ∃ k', asKey k = some k' ∧ ks.length < sizeLine ∧ Q (if (ks.any fun q => decide (q = k')) = true then .dic ks (ks.zipWith (fun q d => if q = k' then .p y else d) xs) else .dic (ks ++ [k']) (xs ++ [.p y]))
  | _, _, _, _ => False
/-- x op= e -/
def augS : BOp → P → P → (D → Prop) → Prop
  | .add, .int i, .int j, Q => Q (.p (.int (i + j)))
  | .sub, .int i, .int j, Q => Q (.p (.int (i - j)))
  | _, _, _, _ => False
mutual
def wS (G : List Fn) (EX : Nat → P → Prop) (fx : List Nat) : S → Env' → En → Prop
  | .set i e, ρ, D => w G EX e ρ fun d ρ1 => i ∉ fx ∧ i < ρ1.length ∧ D.nx (ρ1.set i (some d))
  | .par is es, ρ, D => wOs G EX es ρ fun os ρ1 => mvOs ρ1 os fun ds ρ2 => setAll fx is ds ρ2 D.nx
  | .asg tg e, ρ, D => w G EX e ρ fun d ρ1 => (match d with | .lst xs => ∃ ts, tg = .tup ts ∧ xs.length = ts.length ∧ tgsS fx ts xs ρ1 D.nx | d => tgS fx tg (frz d) ρ1 D.nx)
  | .sst i ix e, ρ, D => w G EX e ρ fun d ρ1 => (∃ c, ρ1[i]? = some (some c)) ∧ opd ix (w G EX ix) ρ1 fun o ρ2 => vwO ρ2 o fun x => ∃ c, ρ2[i]? = some (some c) ∧ sstS c x (frz d) fun c' => D.nx (ρ2.set i (some c'))
  | .aug i op e, ρ, D => (∃ d, ρ[i]? = some (some d)) ∧ opd e (w G EX e) ρ fun o ρ1 => vwO ρ1 o fun y => i ∉ fx ∧ ∃ x, ρ1[i]? = some (some (.p x)) ∧ augS op x y fun d => D.nx (ρ1.set i (some d))
  | .ex e, ρ, D => w G EX e ρ fun _ ρ1 => D.nx ρ1
  | .ret e, ρ, D => (match e with
    | .var i => if i ∈ fx then frV ρ i fun x ρ' => D.rt (.p x) ρ' else ∃ d, ρ[i]? = some (some d) ∧ D.rt d (ρ.set i none)
    | e => w G EX e ρ D.rt)
  | .retN, ρ, D => D.rt (.p .non) ρ
  | .ite c a b, ρ, D => w G EX c ρ fun d ρ1 => ∃ k, d = .p (.bl k) ∧ if k = true then wSs G EX fx a ρ1 D else wSs G EX fx b ρ1 D
  | .forS tg k srcs body, ρ, D => wOs G EX srcs ρ fun os ρ1 => vwOs ρ1 os fun xs => itP k xs fun its =>
      forT ((brws ρ1 os).map (·.1) ++ fx) tg (fun r d => wSs G EX ((brws ρ1 os).map (·.1) ++ fx) body r d) (brws ρ1 os) its ρ1 D
  | .whl c body, ρ, D => whlT (fun r q => w G EX c r q) (fun r d => wSs G EX fx body r d) ρ D
  | .rais c e, ρ, D => w G EX e ρ fun d _ => EX c (frz d)
  | .brk, ρ, D => D.bk ρ
  | .cnt, ρ, D => D.ct ρ
  | .pas, ρ, D => D.nx ρ
def wSs (G : List Fn) (EX : Nat → P → Prop) (fx : List Nat) : List S → Env' → En → Prop
  | [], ρ, D => D.nx ρ
  | s :: ss, ρ, D => wS G EX fx s ρ { D with nx := fun ρ1 => wSs G EX fx ss ρ1 D }
end
end PL
set_option Elab.async false
set_option linter.all false
set_option maxRecDepth 100000
set_option maxHeartbeats 4000000
/-! The rules: expressions. -/
namespace PL
open PySem PySem.Spec PyProof.Rows L2
variable [QN]
/-- what is wanted of exceptions, from here on -/
def EL (K : PySem.W.Frag) (cls : Nat → Option Addr) (E : XK) (EX : Nat → P → Prop) (fp : List Addr) (Fz : FzT) (H : Hp) : Prop :=
  ∀ c x, EX c x → ∀ C d v H' Fz', Reach fp Fz H Fz' H' → cls c = some C → H' d = some (.xd [("what", v)]) → Fr K Fz' H' x v → E (.ref C) (some d) H'
/-- one came from (fp, Fz, H) to these -/
structure Stp (K : PySem.W.Frag) (σ : SL) (fp : List Addr) (Fz : FzT) (H : Hp) (ρ : Env') (Fz' : FzT) (H' : Hp) (fp' : List Addr) : Prop where
  r : Reach fp Fz H Fz' H'
  e : OwnE K Fz' H' ρ σ fp'
  s : Sub fp H fp'
def OpdOk (K : PySem.W.Frag) (Fz : FzT) (H : Hp) (σ : SL) : Opd → V → List Addr → Prop
  | .val d, v, f => Own K Fz H d v f
  | .late i, v, f => σ[i]? = some (some v) ∧ f = []
def OpdsOk (K : PySem.W.Frag) (Fz : FzT) (H : Hp) (σ : SL) : List Opd → List V → List Addr → Prop
  | [], vs, f => vs = [] ∧ f = []
  | o :: os, vs, f => ∃ v vr f1 f2, vs = v :: vr ∧ f = f1 ++ f2 ∧ OpdOk K Fz H σ o v f1 ∧ OpdsOk K Fz H σ os vr f2 ∧ Dis f1 f2
/-- x is to be read at v -/
def See (K : PySem.W.Frag) (Fz : FzT) (H : Hp) (x : P) (v : V) : Prop := ∃ d f, Own K Fz H d v f ∧ frz d = x
/-- what holds of the state: the slots, the exceptions' wish, the tables -/
structure Stt (K : PySem.W.Frag) (cls : Nat → Option Addr) (TB : List (Addr × Str)) (E : XK) (EX : Nat → P → Prop) (ρ : Env') (σ : SL) (Fz : FzT) (H : Hp) (fp : List Addr) : Prop where
  own : OwnE K Fz H ρ σ fp
  el : EL K cls E EX fp Fz H
  tb : TbOk TB H
  fl : ∀ a, Fz a → H a ≠ none
section
variable {K : PySem.W.Frag} {cls : Nat → Option Addr} {TB : List (Addr × Str)} {E : XK} {EX : Nat → P → Prop} {ρ ρ1 ρ2 ρ' : Env'} {σ : SL} {Fz Fz1 Fz2 Fz' : FzT} {H H1 H2 H' : Hp} {fp fp1 fp2 fp' f g fv : List Addr}
theorem EL.step (h : EL K cls E EX fp Fz H) (r : Reach fp Fz H Fz1 H1) (s : Sub fp H fp1) : EL K cls E EX fp1 Fz1 H1 :=
  fun c x hx C d v H' Fz' r' hc hd hv => h c x hx C d v H' Fz' (r.trans s r') hc hd hv
theorem Stt.step (h : Stt K cls TB E EX ρ σ Fz H fp) (p : Stp K σ fp Fz H ρ1 Fz1 H1 fp1) : Stt K cls TB E EX ρ1 σ Fz1 H1 fp1 :=
  ⟨p.e, h.el.step p.r p.s, p.r.tb h.tb, fun a z => (p.r.live a z).elim (fun z y => h.fl a z (p.r.dom a y)) id⟩
theorem Stp.refl (h : OwnE K Fz H ρ σ fp) : Stp K σ fp Fz H ρ Fz H fp := ⟨.refl, h, .refl⟩
theorem Stp.trans (p : Stp K σ fp Fz H ρ1 Fz1 H1 fp1) (q : Stp K σ fp1 Fz1 H1 ρ2 Fz2 H2 fp2) : Stp K σ fp Fz H ρ2 Fz2 H2 fp2 := ⟨p.r.trans p.s q.r, q.e, p.s.trans p.r q.s⟩
/-- a step that touches nothing of one's own -/
theorem Stp.alloc (h : OwnE K Fz H ρ σ fp) (r : Reach [] Fz H Fz1 H1) : Stp K σ fp Fz H ρ Fz1 H1 fp := ⟨r.more (fun _ h => nomatch h), h.stay r Fp.nil Dis.nil', .refl⟩
theorem OpdOk.fpO {o : Opd} {v : V} (h : OpdOk K Fz H σ o v f) : Fp Fz H f := by
  cases o with
  | val d => exact Own.fp h
  | late i => rw [h.2]; exact Fp.nil
theorem OpdsOk.fpO : ∀ {os : List Opd} {vs : List V} {f : List Addr}, OpdsOk K Fz H σ os vs f → Fp Fz H f
  | [], _, _, h => by rw [h.2]; exact Fp.nil
  | o :: os, _, _, h => by
    obtain ⟨v, vr, f1, f2, _, e, h1, h2, _⟩ := h
    rw [e]; exact h1.fpO.app (OpdsOk.fpO h2)
theorem OpdOk.stay {o : Opd} {v : V} (h : OpdOk K Fz H σ o v f) (r : Reach fp Fz H Fz1 H1) (hfp : Fp Fz H fp) (hd : Dis f fp) : OpdOk K Fz1 H1 σ o v f := by
  cases o with
  | val d => exact Own.stay r hfp h hd
  | late i => exact h
theorem OpdsOk.stay (r : Reach fp Fz H Fz1 H1) (hfp : Fp Fz H fp) : ∀ {os : List Opd} {vs : List V} {f : List Addr}, OpdsOk K Fz H σ os vs f → Dis f fp → OpdsOk K Fz1 H1 σ os vs f
  | [], _, _, h, _ => h
  | o :: os, _, _, h, hd => by
    obtain ⟨v, vr, f1, f2, e, ef, h1, h2, dj⟩ := h
    subst ef
    exact ⟨v, vr, f1, f2, e, rfl, h1.stay r hfp hd.left, OpdsOk.stay r hfp h2 hd.right, dj⟩
theorem OpdsOk.len : ∀ {os : List Opd} {vs : List V} {f : List Addr}, OpdsOk K Fz H σ os vs f → vs.length = os.length
  | [], _, _, h => by rw [h.1]; rfl
  | o :: os, _, _, h => by
    obtain ⟨v, vr, f1, f2, e, _, _, h2, _⟩ := h
    rw [e]; simp [OpdsOk.len h2]
theorem OpdOk.own {o : Opd} {v : V} {d : D} (h : OpdOk K Fz H σ o v f) (he : OwnE K Fz H ρ σ fp) (hl : look ρ o = some d) : ∃ g, Own K Fz H d v g ∧ ∀ a ∈ g, a ∈ f ∨ a ∈ fp := by
  cases o with
  | val d' =>
    have e : d' = d := by simpa [look] using hl
    subst e
    exact ⟨f, h, fun a ha => .inl ha⟩
  | late i =>
    have e : ρ[i]? = some (some d) := by
      have hl : (ρ[i]?).join = some d := hl
      cases q : ρ[i]? with
      | none => rw [q] at hl; cases hl
      | some x => rw [q] at hl; cases x with
        | none => cases hl
        | some y => cases hl; rfl
    obtain ⟨v', f1, h1, h2, h3⟩ := he.get e
    rw [h.1] at h1; cases h1
    exact ⟨f1, h2, fun a ha => .inr (h3 a ha)⟩
theorem OpdOk.see {o : Opd} {v : V} {Q : P → Prop} (h : OpdOk K Fz H σ o v f) (he : OwnE K Fz H ρ σ fp) (hq : vwO ρ o Q) : ∃ x, See K Fz H x v ∧ Q x := by
  unfold vwO at hq
  cases e : look ρ o with
  | none => rw [e] at hq; exact hq.elim
  | some d =>
    rw [e] at hq
    obtain ⟨g, h1, _⟩ := h.own he e
    exact ⟨frz d, ⟨d, g, h1, rfl⟩, hq⟩
def Sees (K : PySem.W.Frag) (Fz : FzT) (H : Hp) : List P → List V → Prop
  | [], vs => vs = []
  | x :: xs, vs => ∃ v vr, vs = v :: vr ∧ See K Fz H x v ∧ Sees K Fz H xs vr
theorem OpdsOk.see (he : OwnE K Fz H ρ σ fp) : ∀ {os : List Opd} {vs : List V} {f : List Addr} {Q : List P → Prop}, OpdsOk K Fz H σ os vs f → vwOs ρ os Q → ∃ xs, Sees K Fz H xs vs ∧ Q xs
  | [], _, _, _, h, hq => ⟨[], h.1, hq⟩
  | o :: os, _, _, _, h, hq => by
    obtain ⟨v, vr, f1, f2, e, ef, h1, h2, dj⟩ := h
    obtain ⟨x, s1, q1⟩ := h1.see he (show vwO ρ o _ from hq)
    obtain ⟨xs, s2, q2⟩ := OpdsOk.see he h2 q1
    exact ⟨x :: xs, ⟨v, vr, e, s1, s2⟩, q2⟩
/-! what is seen -/
theorem OwnL.seeAt : ∀ {ds : List D} {vs : List V} {f : List Addr} {j : Nat} {x : P}, OwnL K Fz H ds vs f → (PL.frzL ds)[j]? = some x → ∃ u, vs[j]? = some u ∧ See K Fz H x u
  | [], _, _, _, _, _, e => by simp [PL.frzL] at e
  | d :: ds, _, _, 0, x, h, e => by
    obtain ⟨v, vr, f1, f2, ev, _, o, ol, _⟩ := h
    subst ev
    have e : PL.frz d = x := by simpa [PL.frzL] using e
    exact ⟨v, rfl, d, f1, o, e⟩
  | d :: ds, _, _, j + 1, x, h, e => by
    obtain ⟨v, vr, f1, f2, ev, _, o, ol, _⟩ := h
    subst ev
    exact OwnL.seeAt (j := j) ol (by simpa [PL.frzL] using e)
theorem See.non {v : V} (h : See K Fz H .non v) : v = .non := by
  obtain ⟨d, f, o, e⟩ := h
  cases d <;> cases e
  exact o.2
theorem See.int {v : V} {i : Int} (h : See K Fz H (.int i) v) : v = .int i := by
  obtain ⟨d, f, o, e⟩ := h
  cases d <;> cases e
  exact o.2
theorem See.bl {v : V} {i : Bool} (h : See K Fz H (.bl i) v) : v = .bl i := by
  obtain ⟨d, f, o, e⟩ := h
  cases d <;> cases e
  exact o.2
theorem See.str {v : V} {i : Str} (h : See K Fz H (.str i) v) : v = .str i := by
  obtain ⟨d, f, o, e⟩ := h
  cases d <;> cases e
  exact o.2
theorem See.tup {v : V} {ps : List P} (h : See K Fz H (.tup ps) v) : ∃ a vs, v = .ref a ∧ SqT K H a vs ∧ FrL K Fz H ps vs := by
  obtain ⟨d, f, o, e⟩ := h
  cases d <;> cases e
  exact o.2
theorem See.lst {v : V} {ps : List P} (h : See K Fz H (.lst ps) v) : ∃ a vs, v = .ref a ∧ H a = some (.lst vs) ∧ FrL K Fz H ps vs := by
  obtain ⟨d, f, o, e⟩ := h
  cases d with
  | p x =>
    cases e
    obtain ⟨a, vs, h1, h2, _, h4⟩ := o.2
    exact ⟨a, vs, h1, h2, h4⟩
  | lst xs =>
    cases e
    obtain ⟨a, vs, h1, _, h2, _, h4⟩ := o
    exact ⟨a, vs, h1, h2, h4⟩
  | dic ks xs => cases e
theorem See.rdl {v : V} {ps : List P} (h : See K Fz H (.rdl ps) v) : ∃ a vs, v = .ref a ∧ SqL K H a vs ∧ FrL K Fz H ps vs := by
  obtain ⟨d, f, o, e⟩ := h
  cases d <;> cases e
  obtain ⟨a, vs, h1, h2, h4⟩ := o.2
  exact ⟨a, vs, h1, h2.imp_left fun z => z.1, h4⟩
theorem See.dic {v : V} {ks : List Key} {ps : List P} (h : See K Fz H (.dic ks ps) v) : ∃ a kvs, v = .ref a ∧ Rd H a (.dK kvs) ∧ kvs.map (·.1) = ks ∧ ∀ (j : Nat) (x : P), ps[j]? = some x → ∃ u, (kvs.map (·.2))[j]? = some u ∧ See K Fz H x u := by
  obtain ⟨d, f, o, e⟩ := h
  cases d with
  | p x =>
    cases e
    obtain ⟨a, vs, h1, h2, _, h3, h4⟩ := o.2
    exact ⟨a, vs, h1, h2, h3, fun j x hx => by
      obtain ⟨u, e1, e2⟩ := h4.get hx
      exact ⟨u, e1, .p x, [], ⟨rfl, e2⟩, rfl⟩⟩
  | lst xs => cases e
  | dic ks xs =>
    cases e
    obtain ⟨a, kvs, g, h1, _, h2, _, _, h3, h4⟩ := o
    exact ⟨a, kvs, h1, .inl h2, h3, fun j x hx => OwnL.seeAt h4 hx⟩
theorem Fr.see {x : P} {v : V} (h : Fr K Fz H x v) : See K Fz H x v := ⟨.p x, [], ⟨rfl, h⟩, rfl⟩
end
/-! ### the readings -/
section
variable (K : PySem.W.Frag) (cls : Nat → Option Addr) (TB : List (Addr × Str)) (E : XK) (EX : Nat → P → Prop)
def LE (we : Env' → KE → Prop) : TE := fun σ H Q => ∃ ρ Fz fp P', Stt K cls TB E EX ρ σ Fz H fp ∧ we ρ P' ∧
  ∀ d ρ' v H' Fz' fv fp', P' d ρ' → Stp K σ fp Fz H ρ' Fz' H' fp' → Own K Fz' H' d v fv → Dis fv fp' → Sub fp H fv → Q v H'
def LO (wo : Env' → (Opd → Env' → Prop) → Prop) : TE := fun σ H Q => ∃ ρ Fz fp P', Stt K cls TB E EX ρ σ Fz H fp ∧ wo ρ P' ∧
  ∀ o ρ' v H' Fz' fv fp', P' o ρ' → Stp K σ fp Fz H ρ' Fz' H' fp' → OpdOk K Fz' H' σ o v fv → Dis fv fp' → Sub fp H fv → Q v H'
def LOs (wo : Env' → (List Opd → Env' → Prop) → Prop) : TA := fun σ H Q => ∃ ρ Fz fp P', Stt K cls TB E EX ρ σ Fz H fp ∧ wo ρ P' ∧
  ∀ os ρ' vs H' Fz' fv fp', P' os ρ' → Stp K σ fp Fz H ρ' Fz' H' fp' → OpdsOk K Fz' H' σ os vs fv → Dis fv fp' → Sub fp H fv → Q vs H'
/-- a test -/
def LT (we : Env' → KE → Prop) : TT := fun σ H Q => ∃ ρ Fz fp P', Stt K cls TB E EX ρ σ Fz H fp ∧ we ρ P' ∧
  ∀ d ρ' H' Fz' fp', P' d ρ' → Stp K σ fp Fz H ρ' Fz' H' fp' → ∃ b, d = .p (.bl b) ∧ Q b H'
end
theorem _root_.L2.PE.imp {X : Cx} {e : Expr} {t t' : TE} (h : PE X e t) (hi : ∀ σ H Q, t' σ H Q → t σ H Q) : PE X e t' := ⟨fun pins s σ H Q I q => h.run pins s σ H Q I (hi σ H Q q)⟩
theorem _root_.L2.PT.imp {X : Cx} {e : Expr} {t t' : TT} (h : PT X e t) (hi : ∀ σ H Q, t' σ H Q → t σ H Q) : PT X e t' := ⟨fun pins s σ H Q I q => h.run pins s σ H Q I (hi σ H Q q)⟩
theorem _root_.L2.PW.imp {X : Cx} {e : Expr} {t t' : TT} (h : PW X e t) (hi : ∀ σ H Q, t' σ H Q → t σ H Q) : PW X e t' := ⟨fun wh pins s σ H Q I q => h.run wh pins s σ H Q I (hi σ H Q q)⟩
theorem _root_.L2.PA.imp {X : Cx} {e : List Expr} {t t' : TA} (h : PA X e t) (hi : ∀ σ H Q, t' σ H Q → t σ H Q) : PA X e t' := ⟨fun pos pins s σ H Q I q => h.run pos pins s σ H Q I (hi σ H Q q)⟩
theorem _root_.L2.PS.imp {X : Cx} {e : Stmt} {t t' : TS} (h : PS X e t) (hi : ∀ D σ H, t' D σ H → t D σ H) : PS X e t' := ⟨fun pins s σ H D I q => h.run pins s σ H D I (hi D σ H q)⟩
theorem _root_.L2.PSs.imp {X : Cx} {e : List Stmt} {t t' : TS} (h : PSs X e t) (hi : ∀ D σ H, t' D σ H → t D σ H) : PSs X e t' := ⟨fun pins s σ H D I q => h.run pins s σ H D I (hi D σ H q)⟩
section
variable {X : Cx} {cls : Nat → Option Addr} {TB : List (Addr × Str)} {E : XK} {EX : Nat → P → Prop} {G : List Fn}
/-- soundness of a value -/
structure SE (X : Cx) (cls : Nat → Option Addr) (TB : List (Addr × Str)) (E : XK) (EX : Nat → P → Prop) (G : List Fn) (e : Expr) (t : T) : Prop where
  pe : PE X e (LE X.K cls TB E EX (w G EX t))
  var : ∀ i, t = .var i → PE X e (tVar i)
  star : ∀ es : List Expr, starEach (e :: es) X.env = (false, eval e X.env) :: starEach es X.env
variable {e a b c : Expr} {t ta tb tc : T} {pos : Pos}
theorem SE.lo (h : SE X cls TB E EX G e t) : PE X e (LO X.K cls TB E EX (opd t (w G EX t))) := by
  by_cases hv : ∃ i, t = .var i
  · obtain ⟨i, rfl⟩ := hv
    refine (h.var i rfl).imp fun σ H Q q => ?_
    obtain ⟨ρ, Fz, fp, P', st, ⟨⟨d, hd⟩, hp⟩, k⟩ := q
    obtain ⟨v, f1, h1, _, _⟩ := st.own.get hd
    exact ⟨v, h1, k (.late i) ρ v H Fz [] fp hp (.refl st.own) ⟨h1, rfl⟩ Dis.nil Sub.nil⟩
  · refine h.pe.imp fun σ H Q q => ?_
    obtain ⟨ρ, Fz, fp, P', st, hw, k⟩ := q
    have e1 : opd t (w G EX t) ρ P' = w G EX t ρ fun d ρ' => P' (.val d) ρ' := by
      cases t <;> first | rfl | exact absurd ⟨_, rfl⟩ hv
    rw [e1] at hw
    exact ⟨ρ, Fz, fp, _, st, hw, fun d ρ' v H' Fz' fv fp' hp s o dj sb => k (.val d) ρ' v H' Fz' fv fp' hp s o dj sb⟩
/-- the end of a rule: what is new is laid on top -/
theorem fin {K : PySem.W.Frag} {ρ1 : Env'} {σ : SL} {Fz Fz1 Fz2 : FzT} {H H1 H2 : Hp} {fp fp1 fv : List Addr} {d : D} {v : V} {P' : KE} {Q : VK}
    (k : ∀ d ρ' v H' Fz' fv fp', P' d ρ' → Stp K σ fp Fz H ρ' Fz' H' fp' → Own K Fz' H' d v fv → Dis fv fp' → Sub fp H fv → Q v H')
    (p : Stp K σ fp Fz H ρ1 Fz1 H1 fp1) (hp : P' d ρ1) (r : Reach [] Fz1 H1 Fz2 H2) (o : Own K Fz2 H2 d v fv) (hf : ∀ a ∈ fv, H1 a = none) : Q v H2 := by
  refine k d ρ1 v H2 Fz2 fv fp1 hp (p.trans (.alloc p.e r)) o (fun a ha hb => (p.e.fpO.live hb) (hf a ha)) fun a ha => .inr (p.r.dom a (hf a ha))
/-- .. of a value that was there -/
theorem finP {K : PySem.W.Frag} {ρ1 : Env'} {σ : SL} {Fz Fz1 : FzT} {H H1 : Hp} {fp fp1 : List Addr} {x : P} {v : V} {P' : KE} {Q : VK}
    (k : ∀ d ρ' v H' Fz' fv fp', P' d ρ' → Stp K σ fp Fz H ρ' Fz' H' fp' → Own K Fz' H' d v fv → Dis fv fp' → Sub fp H fv → Q v H')
    (p : Stp K σ fp Fz H ρ1 Fz1 H1 fp1) (hp : P' (.p x) ρ1) (o : Fr K Fz1 H1 x v) : Q v H1 :=
  k (.p x) ρ1 v H1 Fz1 [] fp1 hp p ⟨rfl, o⟩ Dis.nil Sub.nil
end
end PL
set_option Elab.async false
set_option linter.all false
set_option maxRecDepth 100000
set_option maxHeartbeats 4000000
/-! The rules of expressions. -/
namespace PL
open PySem PySem.Spec PyProof.Rows L2
variable [QN]
section
variable {X : Cx} {cls : Nat → Option Addr} {TB : List (Addr × Str)} {E : XK} {EX : Nat → P → Prop} {G : List Fn}
variable {e a b c : Expr} {t ta tb tc : T} {pos : Pos}
abbrev ST (X : Cx) (cls : Nat → Option Addr) (TB : List (Addr × Str)) (E : XK) (EX : Nat → P → Prop) (G : List Fn) (e : Expr) (t : T) : Prop := PT X e (LT X.K cls TB E EX (w G EX t))
theorem starN {e : Expr} {env : Env} (h : ∀ x p, e ≠ .Starred x p) (es : List Expr) : starEach (e :: es) env = (false, eval e env) :: starEach es env := by
  cases e <;> first | rfl | exact absurd rfl (h _ _)
/-- names and constants -/
theorem r_var {i : Nat} {x : Str} (hN : X.N[i]? = some x) (hv : Vis X.env.scope x) (hd : (x == ("__debug__" : Str)) = false) (hcd : (x == ("__classdict__" : Str)) = false) : SE X cls TB E EX G (.Name x pos) (.var i) := by
  refine ⟨(pe_var (i := i) hN hv hd hcd).imp fun σ H Q q => ?_, fun j ej => ?_, fun _ => rfl⟩
  · obtain ⟨ρ, Fz, fp, P', st, hw, k⟩ := q
    have hw : frV ρ i (fun x ρ' => P' (.p x) ρ') := hw
    unfold frV at hw
    cases ej : (ρ[i]?).join with
    | none => rw [ej] at hw; exact hw.elim
    | some d =>
      have ed : ρ[i]? = some (some d) := by
        cases q : ρ[i]? with
        | none => rw [q] at ej; cases ej
        | some x => rw [q] at ej; cases x with
          | none => cases ej
          | some y => cases ej; rfl
      rw [ej] at hw
      obtain ⟨v, f1, f2, h1, h2, h3, h4, h5⟩ := st.own.take ed
      refine ⟨v, h1, ?_⟩
      have hi : i < ρ.length := (List.getElem?_eq_some_iff.mp ed).1
      have go : ∀ hw : P' (.p (frz d)) (ρ.set i (some (.p (frz d)))), Q v H := fun hw => by
        have r : Reach fp Fz H (FzPlus Fz f1) H := .freeze (fun a ha => (h5 a).mpr (.inl ha)) h2.fp
        have o1 : Own X.K (FzPlus Fz f1) H (.p (frz d)) v [] := ⟨rfl, h2.frz (fun _ z => .inl z) fun _ z => .inr z⟩
        have e2 : OwnE X.K (FzPlus Fz f1) H (ρ.set i none) σ f2 := h3.stay (.freeze (fp := f1) (fun a ha => ha) h2.fp) h2.fp h4.symm
        obtain ⟨f', e3, hs⟩ := e2.back (i := i) (by simpa using hi) h1 o1 Dis.nil
        have e4 : (ρ.set i none).set i (some (D.p (frz d))) = ρ.set i (some (D.p (frz d))) := by simp
        rw [e4] at e3
        exact k (.p (frz d)) _ v H _ [] f' hw ⟨r, e3, fun a ha => .inl ((h5 a).mpr (.inr ((hs a ha).elim (fun z => nomatch z) id)))⟩ o1 Dis.nil Sub.nil
      cases d with
      | p x => exact k (.p x) ρ v H Fz [] fp hw (.refl st.own) ⟨rfl, h2.2⟩ Dis.nil Sub.nil
      | lst xs => exact go hw
      | dic ks xs => exact go hw
  · cases ej
    exact pe_var hN hv hd hcd
theorem r_const {v : V} {x : P} {t : T} (h : PE X e (tC v)) (hs : ∀ es : List Expr, starEach (e :: es) X.env = (false, eval e X.env) :: starEach es X.env) (hx : ∀ Fz H, Fr X.K Fz H x v) (hw : ∀ ρ Q, w G EX t ρ Q → Q (.p x) ρ) (hv : ∀ i, t ≠ .var i) : SE X cls TB E EX G e t := by
  refine ⟨h.imp fun σ H Q q => ?_, fun j ej => absurd ej (hv j), hs⟩
  obtain ⟨ρ, Fz, fp, P', st, hp, k⟩ := q
  exact k (.p x) ρ v H Fz [] fp (hw _ _ hp) (.refl st.own) ⟨rfl, hx Fz H⟩ Dis.nil Sub.nil
theorem r_int {i : Int} {j : Nat} : SE X cls TB E EX G (.Constant (.int i) j pos) (.int i) := r_const (x := .int i) pe_int (fun _ => rfl) (fun _ _ => rfl) (fun _ _ h => h) (fun _ z => nomatch z)
theorem r_bl {i : Bool} {j : Nat} : SE X cls TB E EX G (.Constant (.bool i) j pos) (.bl i) := r_const (x := .bl i) pe_bl (fun _ => rfl) (fun _ _ => rfl) (fun _ _ h => h) (fun _ z => nomatch z)
theorem r_non {j : Nat} : SE X cls TB E EX G (.Constant .none j pos) .non := r_const (x := .non) pe_non (fun _ => rfl) (fun _ _ => rfl) (fun _ _ h => h) (fun _ z => nomatch z)
theorem r_str {x : Str} {j : Nat} : SE X cls TB E EX G (.Constant (.str x) j pos) (.str x) := r_const (x := .str x) pe_str (fun _ => rfl) (fun _ _ => rfl) (fun _ _ h => h) (fun _ z => nomatch z)
theorem r_glob {x : Str} {i : Int} {u : Tok} (hg : Gl X x) (hm : X.mg x = some (.int i u)) (hd : (x == ("__debug__" : Str)) = false) : SE X cls TB E EX G (.Name x pos) (.int i) :=
  r_const (x := .int i) (pe_glob hg hm (v := .int i) ⟨u, rfl⟩ hd) (fun _ => rfl) (fun _ _ => rfl) (fun _ _ h => h) (fun _ z => nomatch z)
/-! ### one operand, two operands -/
/-- what an operation by values tells: something new, or something that was there -/
def Tells (K : PySem.W.Frag) (Fz : FzT) (H : Hp) (Qd : D → Prop) (Q : VK) : Prop :=
  ∀ d v H' Fz' fv, Qd d → Reach [] Fz H Fz' H' → Own K Fz' H' d v fv → (∀ a ∈ fv, H a = none) → Q v H'
theorem Tells.p {K : PySem.W.Frag} {Fz : FzT} {H : Hp} {Qd : D → Prop} {Q : VK} (h : Tells K Fz H Qd Q) {x : P} {v : V} (q : Qd (.p x)) (o : Fr K Fz H x v) : Q v H := h (.p x) v H Fz [] q .refl ⟨rfl, o⟩ fun _ z => nomatch z
theorem Tells.lst {K : PySem.W.Frag} {Fz : FzT} {H : Hp} {Qd : D → Prop} {Q : VK} (h : Tells K Fz H Qd Q) {ps : List P} {vs : List V} (q : Qd (.lst ps)) (o : FrL K Fz H ps vs) (fz : ∀ a, Fz a → H a ≠ none) {p : Addr} (hp : H p = none) : Q (.ref p) (upd H p (.lst vs)) :=
  h (.lst ps) (.ref p) _ Fz [p] q (.new hp) ⟨p, vs, rfl, rfl, upd_same, fun z => fz p z hp, o.new hp⟩ fun a ha => by
    have e : a = p := by simpa using ha
    subst e; exact hp
theorem Tells.tup {K : PySem.W.Frag} {Fz : FzT} {H : Hp} {Qd : D → Prop} {Q : VK} (h : Tells K Fz H Qd Q) {ps : List P} {vs : List V} (q : Qd (.p (.tup ps))) (o : FrL K Fz H ps vs) {p : Addr} (hp : H p = none) : Q (.ref p) (upd H p (.tup vs)) :=
  h (.p (.tup ps)) (.ref p) _ Fz [] q (.new hp) ⟨rfl, p, vs, rfl, .of upd_same, o.new hp⟩ fun _ z => nomatch z
/-- two operands are evaluated -/
theorem two (ha : SE X cls TB E EX G a ta) (hb : SE X cls TB E EX G b tb) {σ : SL} {H : Hp} {Q : VK} {r : R2} {opX : P → P → (D → Prop) → Prop} {ρ : Env'} {Fz : FzT} {fp : List Addr} {P' : KE} (st : Stt X.K cls TB E EX ρ σ Fz H fp)
    (hw : opd ta (w G EX ta) ρ fun o1 ρ1 => opd tb (w G EX tb) ρ1 fun o2 ρ2 => vwO ρ2 o1 fun x => vwO ρ2 o2 fun y => opX x y fun d => P' d ρ2)
    (k : ∀ d ρ' v H' Fz' fv fp', P' d ρ' → Stp X.K σ fp Fz H ρ' Fz' H' fp' → Own X.K Fz' H' d v fv → Dis fv fp' → Sub fp H fv → Q v H')
    (snd : ∀ x y Qd v u H Fz Q, (∀ a, Fz a → H a ≠ none) → See X.K Fz H x v → See X.K Fz H y u → opX x y Qd → Tells X.K Fz H Qd Q → r v u H Q) :
    LO X.K cls TB E EX (opd ta (w G EX ta)) σ H fun x H1 => LO X.K cls TB E EX (opd tb (w G EX tb)) σ H1 fun y H2 => r x y H2 Q := by
  refine ⟨ρ, Fz, fp, _, st, hw, fun o1 ρ1 v1 H1 Fz1 f1 fp1 q1 s1 ok1 dj1 sb1 => ?_⟩
  refine ⟨ρ1, Fz1, fp1, _, st.step s1, q1, fun o2 ρ2 v2 H2 Fz2 f2 fp2 q2 s2 ok2 dj2 sb2 => ?_⟩
  have ok1' := ok1.stay s2.r s1.e.fpO dj1
  obtain ⟨x, sx, qx⟩ := ok1'.see s2.e q2
  obtain ⟨y, sy, qy⟩ := ok2.see s2.e qx
  have p := s1.trans s2
  exact snd x y _ v1 v2 H2 Fz2 Q (st.step p).fl sx sy qy fun d v H' Fz' fv hd r o hf => fin k p hd r o hf
theorem r_bin {op : Operator} {o : BOp} {r : R2} (ho : OpR X (binaryOp op) r)
    (snd : ∀ x y Qd v u H Fz Q, (∀ a, Fz a → H a ≠ none) → See X.K Fz H x v → See X.K Fz H y u → opB o x y Qd → Tells X.K Fz H Qd Q → r v u H Q) (ha : SE X cls TB E EX G a ta) (hb : SE X cls TB E EX G b tb) : SE X cls TB E EX G (.BinOp a op b pos) (.bin o ta tb) :=
  ⟨(pe_op ho ha.lo hb.lo).imp fun σ H Q ⟨ρ, Fz, fp, P', st, hw, k⟩ => two ha hb st hw k snd, (fun i z => nomatch z), fun _ => rfl⟩
theorem snd_add {x y : P} {Qd : D → Prop} {v u : V} {H : Hp} {Fz : FzT} {Q : VK} (fl : ∀ a, Fz a → H a ≠ none) (sx : See X.K Fz H x v) (sy : See X.K Fz H y u) (h : opB .add x y Qd) (q : Tells X.K Fz H Qd Q) :
    (fun x y H Q => (rI0 (fun i j => .int (i + j))) x y H Q ∨ (∃ i j, x = .str i ∧ y = .str j ∧ i.length + j.length ≤ sizeLine ∧ Q (.str (i ++ j)) H) ∨ rCatA X.K x y H Q ∨ rCat x y H Q ∨ False) v u H Q := by
  cases x <;> cases y <;> first | exact (show False from h).elim | skip
  case int.int i j => exact .inl ⟨i, j, sx.int, sy.int, q.p (x := .int (i + j)) h rfl⟩
  case str.str i j => exact .inr (.inl ⟨i, j, sx.str, sy.str, h.1, q.p (x := .str (i ++ j)) h.2 rfl⟩)
  case tup.tup xs ys =>
    obtain ⟨a, vs, e1, t1, o1⟩ := sx.tup
    obtain ⟨b, us, e2, t2, o2⟩ := sy.tup
    obtain ⟨hz, hq⟩ : xs.length + ys.length ≤ sizeLine ∧ Qd (.p (.tup (xs ++ ys))) := h
    refine .inr (.inr (.inl ⟨a, b, vs, us, e1, e2, t1, t2, by rw [o1.len, o2.len]; exact hz, fun z => ?_, fun _ z => ?_, fun _ _ p hp => ?_⟩))
    · have e : xs = [] := by
        have := o1.len
        rw [z] at this
        exact List.eq_nil_of_length_eq_zero this.symm
      subst e
      exact q.p (x := .tup ([] ++ ys)) hq ⟨b, us, rfl, t2, o2⟩
    · have e : ys = [] := by
        have := o2.len
        rw [z] at this
        exact List.eq_nil_of_length_eq_zero this.symm
      subst e
      rw [List.append_nil] at hq
      exact q.p (x := .tup xs) hq ⟨a, vs, rfl, t1, o1⟩
    · exact q.tup hq (o1.append o2) hp
  case lst.lst xs ys =>
    obtain ⟨a, vs, e1, t1, o1⟩ := sx.lst
    obtain ⟨b, us, e2, t2, o2⟩ := sy.lst
    obtain ⟨hz, hq⟩ : xs.length + ys.length ≤ sizeLine ∧ Qd (.lst (xs ++ ys)) := h
    exact .inr (.inr (.inr (.inl ⟨a, b, vs, us, e1, e2, t1, t2, by rw [o1.len, o2.len]; exact hz, fun p hp => q.lst hq (o1.append o2) fl hp⟩)))
theorem op_addX : OpR X (binaryOp .Add) (fun x y H Q => (rI0 (fun i j => .int (i + j))) x y H Q ∨ (∃ i j, x = .str i ∧ y = .str j ∧ i.length + j.length ≤ sizeLine ∧ Q (.str (i ++ j)) H) ∨ rCatA X.K x y H Q ∨ rCat x y H Q ∨ False) := by
  intro pins s σ H x y v u Q I rx ry h
  rcases h with h | h | h | h | h
  · exact op_add pins s σ H x y v u Q I rx ry h
  · exact op_add_str pins s σ H x y v u Q I rx ry h
  · exact op_catA pins s σ H x y v u Q I rx ry h
  · exact op_cat pins s σ H x y v u Q I rx ry h
  · exact h.elim
theorem r_add (ha : SE X cls TB E EX G a ta) (hb : SE X cls TB E EX G b tb) : SE X cls TB E EX G (.BinOp a .Add b pos) (.bin .add ta tb) := r_bin op_addX (fun _ _ _ _ _ _ _ _ fl sx sy h q => snd_add fl sx sy h q) ha hb
theorem r_sub (ha : SE X cls TB E EX G a ta) (hb : SE X cls TB E EX G b tb) : SE X cls TB E EX G (.BinOp a .Sub b pos) (.bin .sub ta tb) := r_bin op_sub (fun x y Qd v u H Fz Q fl sx sy h q => by
  cases x <;> cases y <;> first | exact (show False from h).elim | skip
  case int.int i j => exact ⟨i, j, sx.int, sy.int, q.p (x := .int (i - j)) h rfl⟩) ha hb
theorem r_mod (ha : SE X cls TB E EX G a ta) (hb : SE X cls TB E EX G b tb) : SE X cls TB E EX G (.BinOp a .Mod b pos) (.bin .mod ta tb) := r_bin op_mod (fun x y Qd v u H Fz Q fl sx sy h q => by
  cases x <;> cases y <;> first | exact (show False from h).elim | skip
  case int.int i j => exact ⟨i, j, sx.int, sy.int, h.1, q.p (x := .int (i % j)) h.2 rfl⟩) ha hb
theorem r_fdiv (ha : SE X cls TB E EX G a ta) (hb : SE X cls TB E EX G b tb) : SE X cls TB E EX G (.BinOp a .FloorDiv b pos) (.bin .fdiv ta tb) := r_bin op_fdivW (fun x y Qd v u H Fz Q fl sx sy h q => by
  cases x <;> cases y <;> first | exact (show False from h).elim | skip
  case int.int i j => exact ⟨i, j, sx.int, sy.int, h.1, q.p (x := .int (i / j)) h.2 rfl⟩) ha hb
theorem r_pow (ha : SE X cls TB E EX G a ta) (hb : SE X cls TB E EX G b tb) : SE X cls TB E EX G (.BinOp a .Pow b pos) (.bin .pow ta tb) := r_bin op_pow (fun x y Qd v u H Fz Q fl sx sy h q => by
  cases x <;> cases y <;> first | exact (show False from h).elim | skip
  case int.int i j => exact ⟨i, j, sx.int, sy.int, h.1, q.p (x := .int (i ^ j.toNat)) h.2 rfl⟩) ha hb
end
end PL
set_option Elab.async false
set_option linter.all false
set_option maxRecDepth 100000
set_option maxHeartbeats 4000000
/-! More rules of expressions: comparisons, tests, displays, subscripts. -/
namespace PL
open PySem PySem.Spec PyProof.Rows L2
variable [QN]
/-! ### == of data -/
mutual
def toPy : P → PyData
  | .non => .none | .bl b => .bool b | .int i => .int i | .str x => .str x
  | .tup xs => .tuple (toPyL xs)
  | .lst xs => .list (toPyL xs)
  | .dic _ _ => .dict []
  | .rdl _ => .dict []
def toPyL : List P → List PyData
  | [] => []
  | x :: xs => toPy x :: toPyL xs
end
mutual
theorem lay_toPy : ∀ x : P, okP x = true → (toPy x).canLay0 = true
  | .non, _ => rfl
  | .bl _, _ => rfl
  | .int _, _ => rfl
  | .str x, h => h
  | .tup xs, h => by show PyData.canLay0 (.tuple (toPyL xs)) = true; rw [PyData.canLay0]; exact lay_toPyL xs h
  | .lst xs, h => by show PyData.canLay0 (.list (toPyL xs)) = true; rw [PyData.canLay0]; exact lay_toPyL xs h
  | .dic _ _, h => absurd (show false = true from h) Bool.false_ne_true
  | .rdl _, h => absurd (show false = true from h) Bool.false_ne_true
theorem lay_toPyL : ∀ xs : List P, okL xs = true → PyData.canLayAll0 (toPyL xs) = true
  | [], _ => rfl
  | x :: xs, h => by
    have h : (okP x && okL xs) = true := h
    rw [Bool.and_eq_true] at h
    show PyData.canLayAll0 (toPy x :: toPyL xs) = true
    rw [PyData.canLayAll0, lay_toPy x h.1, lay_toPyL xs h.2] <;> rfl
end
mutual
theorem dep_toPy : ∀ x : P, okP x = true → (toPy x).depth = dep x
  | .non, _ => rfl
  | .bl _, _ => rfl
  | .int _, _ => rfl
  | .str x, h => rfl
  | .tup xs, h => by show PyData.depth (.tuple (toPyL xs)) = depL xs + 1; rw [PyData.depth, dep_toPyL xs h]
  | .lst xs, h => by show PyData.depth (.list (toPyL xs)) = depL xs + 1; rw [PyData.depth, dep_toPyL xs h]
  | .dic _ _, h => absurd (show false = true from h) Bool.false_ne_true
  | .rdl _, h => absurd (show false = true from h) Bool.false_ne_true
theorem dep_toPyL : ∀ xs : List P, okL xs = true → PyData.depthAll (toPyL xs) = depL xs
  | [], _ => rfl
  | x :: xs, h => by
    have h : (okP x && okL xs) = true := h
    rw [Bool.and_eq_true] at h
    show PyData.depthAll (toPy x :: toPyL xs) = max (dep x) (depL xs)
    rw [PyData.depthAll, dep_toPy x h.1, dep_toPyL xs h.2]
end
mutual
theorem eqv_toPy : ∀ x y : P, okP x = true → okP y = true → PyData.eqv (toPy x) (toPy y) = peq x y
  | .tup xs, .tup ys, h, h' => by show PyData.eqv (.tuple (toPyL xs)) (.tuple (toPyL ys)) = peqL xs ys; rw [PyData.eqv, eqv_toPyL xs ys h h']
  | .lst xs, .lst ys, h, h' => by show PyData.eqv (.list (toPyL xs)) (.list (toPyL ys)) = peqL xs ys; rw [PyData.eqv, eqv_toPyL xs ys h h']
  | .dic _ _, _, h, _ => absurd (show false = true from h) Bool.false_ne_true
  | .rdl _, _, h, _ => absurd (show false = true from h) Bool.false_ne_true
  | x, .dic _ _, _, h => absurd (show false = true from h) Bool.false_ne_true
  | x, .rdl _, _, h => absurd (show false = true from h) Bool.false_ne_true
  | .non, .non, _, _ => by simp [toPy, PyData.eqv, peq]
  | .non, .bl _, _, _ => by simp [toPy, PyData.eqv, peq]
  | .non, .int _, _, _ => by simp [toPy, PyData.eqv, peq]
  | .non, .str _, _, _ => by simp [toPy, PyData.eqv, peq]
  | .non, .tup _, _, _ => by simp [toPy, PyData.eqv, peq]
  | .non, .lst _, _, _ => by simp [toPy, PyData.eqv, peq]
  | .bl _, .non, _, _ => by simp [toPy, PyData.eqv, peq]
  | .bl _, .bl _, _, _ => by simp [toPy, PyData.eqv, peq]
  | .bl _, .int _, _, _ => by simp [toPy, PyData.eqv, peq]
  | .bl _, .str _, _, _ => by simp [toPy, PyData.eqv, peq]
  | .bl _, .tup _, _, _ => by simp [toPy, PyData.eqv, peq]
  | .bl _, .lst _, _, _ => by simp [toPy, PyData.eqv, peq]
  | .int _, .non, _, _ => by simp [toPy, PyData.eqv, peq]
  | .int _, .bl _, _, _ => by simp [toPy, PyData.eqv, peq]
  | .int _, .int _, _, _ => by simp [toPy, PyData.eqv, peq]
  | .int _, .str _, _, _ => by simp [toPy, PyData.eqv, peq]
  | .int _, .tup _, _, _ => by simp [toPy, PyData.eqv, peq]
  | .int _, .lst _, _, _ => by simp [toPy, PyData.eqv, peq]
  | .str _, .non, _, _ => by simp [toPy, PyData.eqv, peq]
  | .str _, .bl _, _, _ => by simp [toPy, PyData.eqv, peq]
  | .str _, .int _, _, _ => by simp [toPy, PyData.eqv, peq]
  | .str _, .str _, _, _ => by simp [toPy, PyData.eqv, peq]
  | .str _, .tup _, _, _ => by simp [toPy, PyData.eqv, peq]
  | .str _, .lst _, _, _ => by simp [toPy, PyData.eqv, peq]
  | .tup _, .non, _, _ => by simp [toPy, PyData.eqv, peq]
  | .tup _, .bl _, _, _ => by simp [toPy, PyData.eqv, peq]
  | .tup _, .int _, _, _ => by simp [toPy, PyData.eqv, peq]
  | .tup _, .str _, _, _ => by simp [toPy, PyData.eqv, peq]
  | .tup _, .lst _, _, _ => by simp [toPy, PyData.eqv, peq]
  | .lst _, .non, _, _ => by simp [toPy, PyData.eqv, peq]
  | .lst _, .bl _, _, _ => by simp [toPy, PyData.eqv, peq]
  | .lst _, .int _, _, _ => by simp [toPy, PyData.eqv, peq]
  | .lst _, .str _, _, _ => by simp [toPy, PyData.eqv, peq]
  | .lst _, .tup _, _, _ => by simp [toPy, PyData.eqv, peq]
theorem eqv_toPyL : ∀ xs ys : List P, okL xs = true → okL ys = true → PyData.eqvAll (toPyL xs) (toPyL ys) = peqL xs ys
  | [], [], _, _ => by simp [toPyL, PyData.eqvAll, peqL]
  | [], y :: ys, _, _ => by simp [toPyL, PyData.eqvAll, peqL]
  | x :: xs, [], _, _ => by simp [toPyL, PyData.eqvAll, peqL]
  | x :: xs, y :: ys, h, h' => by
    have h : (okP x && okL xs) = true := h
    have h' : (okP y && okL ys) = true := h'
    rw [Bool.and_eq_true] at h h'
    show PyData.eqvAll (toPy x :: toPyL xs) (toPy y :: toPyL ys) = (peq x y && peqL xs ys)
    rw [PyData.eqvAll, eqv_toPy x y h.1 h'.1, eqv_toPyL xs ys h.2 h'.2]
end
section
variable {K : PySem.W.Frag} {Fz : FzT} {H : Hp}
mutual
theorem Fr.dp : ∀ {x : P} {v : V}, Fr K Fz H x v → okP x = true → Dp K H v (toPy x)
  | .non, v, h, _ => by have h : v = .non := h; subst h; exact .non
  | .bl b, v, h, _ => by have h : v = .bl b := h; subst h; exact .bl b
  | .int b, v, h, _ => by have h : v = .int b := h; subst h; exact .int b
  | .str b, v, h, _ => by have h : v = .str b := h; subst h; exact .str b
  | .tup ps, v, h, o => by
    obtain ⟨a, vs, e, ht, hl⟩ := h
    subst e
    exact .tup ht (FrL.dp hl o)
  | .lst ps, v, h, o => by
    obtain ⟨a, vs, e, ht, _, hl⟩ := h
    subst e
    exact .lst (.of ht) (FrL.dp hl o)
  | .dic _ _, _, _, o => absurd (show false = true from o) Bool.false_ne_true
  | .rdl _, _, _, o => absurd (show false = true from o) Bool.false_ne_true
theorem FrL.dp : ∀ {xs : List P} {vs : List V}, FrL K Fz H xs vs → okL xs = true → DpAll K H vs (toPyL xs)
  | [], vs, h, _ => by have h : vs = [] := h; subst h; exact .nil
  | x :: xs, vs, h, o => by
    obtain ⟨v, vr, e, h1, h2⟩ := h
    subst e
    have o : (okP x && okL xs) = true := o
    rw [Bool.and_eq_true] at o
    exact .cons (Fr.dp h1 o.1) (FrL.dp h2 o.2)
end
theorem See.dp {x : P} {v : V} (h : See K Fz H x v) (o : okP x = true) : Dp K H v (toPy x) := by
  obtain ⟨d, f, ow, e⟩ := h
  cases d with
  | p y => cases e; exact ow.2.dp o
  | lst xs =>
    cases e
    obtain ⟨a, vs, e1, _, h2, _, h4⟩ := ow
    subst e1
    exact .lst (.of h2) (h4.dp o)
  | dic ks xs => cases e; exact absurd (show false = true from o) Bool.false_ne_true
end
def rEqM (K : PySem.W.Frag) (neg : Bool) : R2 := fun x y H Q => ∃ d e, Dp K H x d ∧ Dp K H y e ∧ d.canLay0 = true ∧ e.canLay0 = true ∧ min d.depth e.depth ≤ 60 ∧ Q (.bl (neg ^^ PyData.eqv d e)) H
theorem op_eqM {X : Cx} (hu : X.A.units + 64 < cLine) : OpR X (compareOp .Eq) (rEqM X.K false) := by
  intro pins s σ H x y v u Q I rx ry h
  obtain ⟨d, e, hd, he, ld, le, hm, q⟩ := h
  obtain ⟨as, r1⟩ := Dp.reads I d x v hd rx
  obtain ⟨bs, r2⟩ := Dp.reads I e y u he ry
  exact SeqAt.compareEq_reads r1 r2 ld le (by omega) ⟨.bl _, H, I, by simp [L2.RelV], q⟩
theorem op_neM {X : Cx} (hu : X.A.units + 64 < cLine) : OpR X (compareOp .NotEq) (rEqM X.K true) := by
  intro pins s σ H x y v u Q I rx ry h
  obtain ⟨d, e, hd, he, ld, le, hm, q⟩ := h
  obtain ⟨as, r1⟩ := Dp.reads I d x v hd rx
  obtain ⟨bs, r2⟩ := Dp.reads I e y u he ry
  exact SeqAt.compareNe_reads r1 r2 ld le (by omega) ⟨.bl _, H, I, by simp [L2.RelV], q⟩
section
variable {X : Cx} {cls : Nat → Option Addr} {TB : List (Addr × Str)} {E : XK} {EX : Nat → P → Prop} {G : List Fn}
variable {e a b c : Expr} {t ta tb tc : T} {pos : Pos}
/-- a comparison's rule, by values -/
structure CmpOk (X : Cx) (op : CmpOp) (o : COp) : Prop where
  ok : ∃ r : R2, OpR X (compareOp op) r ∧ ∀ x y Qb v u H Fz Q, See X.K Fz H x v → See X.K Fz H y u → opC o x y Qb → (∀ b, Qb b → Q (.bl b) H) → r v u H Q
theorem cmp_eq (hu : X.A.units + 64 < cLine) : CmpOk X .Eq .eq := ⟨_, op_eqM hu, fun x y Qb v u H Fz Q sx sy h q => by
  obtain ⟨h1, h2⟩ : eqOk x y = true ∧ Qb (peq x y) := h
  unfold eqOk at h1
  rw [Bool.and_eq_true, Bool.and_eq_true, decide_eq_true_eq] at h1
  exact ⟨toPy x, toPy y, sx.dp h1.1.1, sy.dp h1.1.2, lay_toPy _ h1.1.1, lay_toPy _ h1.1.2, by rw [dep_toPy _ h1.1.1, dep_toPy _ h1.1.2]; exact h1.2, by rw [eqv_toPy _ _ h1.1.1 h1.1.2, Bool.false_xor]; exact q _ h2⟩⟩
theorem cmp_ne (hu : X.A.units + 64 < cLine) : CmpOk X .NotEq .ne := ⟨_, op_neM hu, fun x y Qb v u H Fz Q sx sy h q => by
  obtain ⟨h1, h2⟩ : eqOk x y = true ∧ Qb (!peq x y) := h
  unfold eqOk at h1
  rw [Bool.and_eq_true, Bool.and_eq_true, decide_eq_true_eq] at h1
  exact ⟨toPy x, toPy y, sx.dp h1.1.1, sy.dp h1.1.2, lay_toPy _ h1.1.1, lay_toPy _ h1.1.2, by rw [dep_toPy _ h1.1.1, dep_toPy _ h1.1.2]; exact h1.2, by rw [eqv_toPy _ _ h1.1.1 h1.1.2, Bool.true_xor]; exact q _ h2⟩⟩
theorem cmp_int {op : CmpOp} {o : COp} {g : Int → Int → Bool} (ho : OpR X (compareOp op) (rI0 fun i j => .bl (g i j))) (hi : ∀ x y Qb, opC o x y Qb → ∃ i j, x = .int i ∧ y = .int j ∧ Qb (g i j)) : CmpOk X op o := ⟨_, ho, fun x y Qb v u H Fz Q sx sy h q => by
  obtain ⟨i, j, rfl, rfl, hq⟩ := hi x y Qb h
  exact ⟨i, j, sx.int, sy.int, q _ hq⟩⟩
theorem cmp_lt : CmpOk X .Lt .lt := cmp_int op_lt fun x y Qb h => by
  cases x <;> cases y <;> first | exact (show False from h).elim | exact ⟨_, _, rfl, rfl, h⟩
theorem cmp_le : CmpOk X .LtE .le := cmp_int op_le fun x y Qb h => by
  cases x <;> cases y <;> first | exact (show False from h).elim | exact ⟨_, _, rfl, rfl, h⟩
theorem cmp_gt : CmpOk X .Gt .gt := cmp_int op_gt fun x y Qb h => by
  cases x <;> cases y <;> first | exact (show False from h).elim | exact ⟨_, _, rfl, rfl, h⟩
theorem cmp_ge : CmpOk X .GtE .ge := cmp_int op_ge fun x y Qb h => by
  cases x <;> cases y <;> first | exact (show False from h).elim | exact ⟨_, _, rfl, rfl, h⟩
theorem r_cmp {op : CmpOp} {o : COp} (hc : CmpOk X op o) (ha : SE X cls TB E EX G a ta) (hb : SE X cls TB E EX G b tb) (hm : behindInMarks op b = false) : SE X cls TB E EX G (.Compare a [op] [b] pos) (.cmp o ta tb) := by
  obtain ⟨r, ho, snd⟩ := hc.ok
  refine ⟨(pe_cmpR ho ha.lo hb.lo hm).imp fun σ H Q ⟨ρ, Fz, fp, P', st, hw, k⟩ => ?_, (fun i z => nomatch z), fun _ => rfl⟩
  exact two ha hb (opX := fun x y Qd => opC o x y fun c => Qd (.p (.bl c))) st hw k fun x y Qd v u H Fz Q fl sx sy h q => snd x y _ v u H Fz Q sx sy h fun c hc => q.p (x := .bl c) hc rfl
/-- a comparison as a test -/
theorem t_cmp {op : CmpOp} {o : COp} (hc : CmpOk X op o) (ha : SE X cls TB E EX G a ta) (hb : SE X cls TB E EX G b tb) (hm : behindInMarks op b = false) : ST X cls TB E EX G (.Compare a [op] [b] pos) (.cmp o ta tb) := by
  obtain ⟨r, ho, snd⟩ := hc.ok
  refine (pt_cmpR ho ha.lo hb.lo hm).imp fun σ H Q ⟨ρ, Fz, fp, P', st, hw, k⟩ => ?_
  refine two ha hb (P' := P') (opX := fun x y Qd => opC o x y fun c => Qd (.p (.bl c))) st hw (fun d ρ' v H' Fz' fv fp' hp s ow dj sb => ?_) fun x y Qd v u H Fz Q fl sx sy h q => snd x y _ v u H Fz Q sx sy h fun c hc => q.p (x := .bl c) hc rfl
  obtain ⟨b, e, q⟩ := k d ρ' H' Fz' fp' hp s
  subst e
  exact ⟨b, ow.2, q⟩
/-! ### one operand -/
theorem one (ha : SE X cls TB E EX G a ta) {σ : SL} {H : Hp} {Q : VK} {r : V → Hp → VK → Prop} {opX : P → (D → Prop) → Prop} {ρ : Env'} {Fz : FzT} {fp : List Addr} {P' : KE} (st : Stt X.K cls TB E EX ρ σ Fz H fp)
    (hw : opd ta (w G EX ta) ρ fun o1 ρ1 => vwO ρ1 o1 fun x => opX x fun d => P' d ρ1)
    (k : ∀ d ρ' v H' Fz' fv fp', P' d ρ' → Stp X.K σ fp Fz H ρ' Fz' H' fp' → Own X.K Fz' H' d v fv → Dis fv fp' → Sub fp H fv → Q v H')
    (snd : ∀ x Qd v H Fz Q, (∀ a, Fz a → H a ≠ none) → See X.K Fz H x v → opX x Qd → Tells X.K Fz H Qd Q → r v H Q) :
    LO X.K cls TB E EX (opd ta (w G EX ta)) σ H fun x H1 => r x H1 Q := by
  refine ⟨ρ, Fz, fp, _, st, hw, fun o1 ρ1 v1 H1 Fz1 f1 fp1 q1 s1 ok1 dj1 sb1 => ?_⟩
  obtain ⟨x, sx, qx⟩ := ok1.see s1.e q1
  exact snd x _ v1 H1 Fz1 Q (st.step s1).fl sx qx fun d v H' Fz' fv hd r o hf => fin k s1 hd r o hf
theorem r_neg (ha : SE X cls TB E EX G a ta) : SE X cls TB E EX G (.UnaryOp .USub a pos) (.neg ta) := by
  refine ⟨(pe_un un_neg ha.lo).imp fun σ H Q ⟨ρ, Fz, fp, P', st, hw, k⟩ => ?_, (fun i z => nomatch z), fun _ => rfl⟩
  refine one ha (opX := fun x Qd => ∃ i, x = .int i ∧ Qd (.p (.int (-i)))) st hw k fun x Qd v H Fz Q fl sx h q => ?_
  obtain ⟨i, rfl, h⟩ := h
  exact ⟨i, sx.int, q.p (x := .int (-i)) h rfl⟩
theorem See.isNon {K : PySem.W.Frag} {Fz : FzT} {H : Hp} {x : P} {v : V} (h : See K Fz H x v) : decide (v = .non) = isNon x := by
  cases x with
  | non => rw [h.non]; rfl
  | bl b => rw [h.bl]; rfl
  | int b => rw [h.int]; rfl
  | str b => rw [h.str]; rfl
  | tup b => obtain ⟨a, vs, e, _⟩ := h.tup; rw [e]; rfl
  | lst b => obtain ⟨a, vs, e, _⟩ := h.lst; rw [e]; rfl
  | dic ks b => obtain ⟨a, vs, e, _⟩ := h.dic; rw [e]; rfl
  | rdl b => obtain ⟨a, vs, e, _⟩ := h.rdl; rw [e]; rfl
theorem r_isN {j : Nat} {p : Pos} (ha : SE X cls TB E EX G a ta) : SE X cls TB E EX G (.Compare a [.Is] [.Constant .none j p] pos) (.isN false ta) := by
  refine ⟨(pe_cmp (pc_isN ha.lo)).imp fun σ H Q ⟨ρ, Fz, fp, P', st, hw, k⟩ => ?_, (fun i z => nomatch z), fun _ => rfl⟩
  refine one ha (opX := fun x Qd => Qd (.p (.bl (false ^^ isNon x)))) (r := fun x H1 Q => Q (.bl (decide (x = .non))) H1) st hw k fun x Qd v H Fz Q fl sx h q => ?_
  exact q.p (x := .bl (false ^^ isNon x)) h (by rw [sx.isNon, Bool.false_xor]; rfl)
theorem r_notN {j : Nat} {p : Pos} (ha : SE X cls TB E EX G a ta) : SE X cls TB E EX G (.Compare a [.IsNot] [.Constant .none j p] pos) (.isN true ta) := by
  refine ⟨(pe_cmp (pc_notN ha.lo)).imp fun σ H Q ⟨ρ, Fz, fp, P', st, hw, k⟩ => ?_, (fun i z => nomatch z), fun _ => rfl⟩
  refine one ha (opX := fun x Qd => Qd (.p (.bl (true ^^ isNon x)))) (r := fun x H1 Q => Q (.bl (!decide (x = .non))) H1) st hw k fun x Qd v H Fz Q fl sx h q => ?_
  exact q.p (x := .bl (true ^^ isNon x)) h (by rw [sx.isNon, Bool.true_xor]; rfl)
/-- a test whose value is a bool -/
theorem t_val (ha : SE X cls TB E EX G e t) (hb : ∀ ρ Q, w G EX t ρ Q → w G EX t ρ fun d ρ' => (∃ b, d = .p (.bl b)) ∧ Q d ρ') (he : ∀ whole, isTrue e X.env whole = (do let v ← whole; standAt e.pos; holding [v] (truthy v))) : ST X cls TB E EX G e t := by
  refine (pt_val ha.pe he).imp fun σ H Q ⟨ρ, Fz, fp, P', st, hw, k⟩ => ?_
  refine ⟨ρ, Fz, fp, _, st, hb _ _ hw, fun d ρ' v H' Fz' fv fp' hp s o dj sb => ?_⟩
  obtain ⟨⟨b, e1⟩, hp⟩ := hp
  subst e1
  obtain ⟨b', e2, q⟩ := k _ ρ' H' Fz' fp' hp s
  cases e2
  exact ⟨b, o.2, q⟩
theorem t_isN {j : Nat} {p : Pos} (ha : SE X cls TB E EX G a ta) : ST X cls TB E EX G (.Compare a [.Is] [.Constant .none j p] pos) (.isN false ta) := by
  refine (pt_cmp (pc_isN ha.lo)).imp fun σ H Q ⟨ρ, Fz, fp, P', st, hw, k⟩ => ?_
  refine one ha (P' := P') (opX := fun x Qd => Qd (.p (.bl (false ^^ isNon x)))) (r := fun x H1 Q => Q (.bl (decide (x = .non))) H1) (Q := fun x H1 => ∃ c, x = .bl c ∧ Q c H1) st hw (fun d ρ' v H' Fz' fv fp' hp s ow dj sb => ?_) fun x Qd v H Fz Q fl sx h q => ?_
  · obtain ⟨b, e, q⟩ := k d ρ' H' Fz' fp' hp s
    subst e
    exact ⟨b, ow.2, q⟩
  · exact q.p (x := .bl (false ^^ isNon x)) h (by rw [sx.isNon, Bool.false_xor]; rfl)
theorem t_notN {j : Nat} {p : Pos} (ha : SE X cls TB E EX G a ta) : ST X cls TB E EX G (.Compare a [.IsNot] [.Constant .none j p] pos) (.isN true ta) := by
  refine (pt_cmp (pc_notN ha.lo)).imp fun σ H Q ⟨ρ, Fz, fp, P', st, hw, k⟩ => ?_
  refine one ha (P' := P') (opX := fun x Qd => Qd (.p (.bl (true ^^ isNon x)))) (r := fun x H1 Q => Q (.bl (!decide (x = .non))) H1) (Q := fun x H1 => ∃ c, x = .bl c ∧ Q c H1) st hw (fun d ρ' v H' Fz' fv fp' hp s ow dj sb => ?_) fun x Qd v H Fz Q fl sx h q => ?_
  · obtain ⟨b, e, q⟩ := k d ρ' H' Fz' fp' hp s
    subst e
    exact ⟨b, ow.2, q⟩
  · exact q.p (x := .bl (true ^^ isNon x)) h (by rw [sx.isNon, Bool.true_xor]; rfl)
/-- any value's truth -/
theorem See.tru {x : P} {v : V} {H : Hp} {Fz : FzT} {Qb : Bool → Prop} (h : See X.K Fz H x v) (ht : truP x Qb) : ∃ k, TruV X.K v H k ∧ Qb k := by
  cases x with
  | non => rw [h.non]; exact ⟨false, rfl, ht⟩
  | bl b => rw [h.bl]; exact ⟨b, rfl, ht⟩
  | int b => rw [h.int]; exact ⟨_, rfl, ht⟩
  | str b => exact (show False from ht).elim
  | tup b =>
    obtain ⟨a, vs, e, h1, h2⟩ := h.tup
    rw [e]
    refine ⟨_, .inr (.inl ⟨vs, h1, rfl⟩), ?_⟩
    have e2 : vs.isEmpty = b.isEmpty := by
      have := h2.len
      cases vs <;> cases b <;> simp at this ⊢
    rw [e2]; exact ht
  | lst b =>
    obtain ⟨a, vs, e, h1, h2⟩ := h.lst
    rw [e]
    refine ⟨_, .inl ⟨vs, .of h1, rfl⟩, ?_⟩
    have e2 : vs.isEmpty = b.isEmpty := by
      have := h2.len
      cases vs <;> cases b <;> simp at this ⊢
    rw [e2]; exact ht
  | dic ks b => exact (show False from ht).elim
  | rdl b => exact (show False from ht).elim
theorem t_tru (ha : SE X cls TB E EX G e t) (he : ∀ whole, isTrue e X.env whole = (do let v ← whole; standAt e.pos; holding [v] (truthy v))) : ST X cls TB E EX G e (.tru t) := by
  refine (pt_truth ha.lo he).imp fun σ H Q ⟨ρ, Fz, fp, P', st, hw, k⟩ => ?_
  refine ⟨ρ, Fz, fp, _, st, hw, fun o1 ρ1 v1 H1 Fz1 f1 fp1 q1 s1 ok1 dj1 sb1 => ?_⟩
  obtain ⟨x, sx, qx⟩ := ok1.see s1.e q1
  obtain ⟨b, h1, h2⟩ := sx.tru qx
  obtain ⟨b', e, q⟩ := k _ ρ1 H1 Fz1 fp1 h2 s1
  cases e
  exact ⟨b, h1, q⟩
/-! ### and, or, not -/
theorem r_and {rest : List Expr} (ha : SE X cls TB E EX G a ta) (hb : SE X cls TB E EX G (.BoolOp .And (b :: rest) pos) tb) : SE X cls TB E EX G (.BoolOp .And (a :: b :: rest) pos) (.and ta tb) := by
  refine ⟨(pe_and ha.pe hb.pe).imp fun σ H Q ⟨ρ, Fz, fp, P', st, hw, k⟩ => ?_, (fun i z => nomatch z), fun _ => rfl⟩
  refine ⟨ρ, Fz, fp, _, st, hw, fun d ρ' v H' Fz' fv fp' hp s o dj sb => ?_⟩
  obtain ⟨c, e, hp⟩ := hp
  subst e
  refine ⟨c, o.2, ?_⟩
  cases c with
  | true => exact ⟨ρ', Fz', fp', P', st.step s, hp, fun d ρ2 v H2 Fz2 fv fp2 h1 s2 h3 h4 h5 => k d ρ2 v H2 Fz2 fv fp2 h1 (s.trans s2) h3 h4 (s.s.trans s.r h5)⟩
  | false => exact finP (x := .bl false) k s hp rfl
theorem r_or {rest : List Expr} (ha : SE X cls TB E EX G a ta) (hb : SE X cls TB E EX G (.BoolOp .Or (b :: rest) pos) tb) : SE X cls TB E EX G (.BoolOp .Or (a :: b :: rest) pos) (.or ta tb) := by
  refine ⟨(pe_or ha.pe hb.pe).imp fun σ H Q ⟨ρ, Fz, fp, P', st, hw, k⟩ => ?_, (fun i z => nomatch z), fun _ => rfl⟩
  refine ⟨ρ, Fz, fp, _, st, hw, fun d ρ' v H' Fz' fv fp' hp s o dj sb => ?_⟩
  obtain ⟨c, e, hp⟩ := hp
  subst e
  refine ⟨c, o.2, ?_⟩
  cases c with
  | true => exact finP (x := .bl true) k s hp rfl
  | false => exact ⟨ρ', Fz', fp', P', st.step s, hp, fun d ρ2 v H2 Fz2 fv fp2 h1 s2 h3 h4 h5 => k d ρ2 v H2 Fz2 fv fp2 h1 (s.trans s2) h3 h4 (s.s.trans s.r h5)⟩
theorem r_one {op : BoolOp} (ha : SE X cls TB E EX G a ta) (hv : ∀ i, ta ≠ .var i) : SE X cls TB E EX G (.BoolOp op [a] pos) ta := ⟨pe_one ha.pe, (fun i z => absurd z (hv i)), fun _ => rfl⟩
theorem r_oneP {op : BoolOp} (ha : SE X cls TB E EX G a ta) : PE X (.BoolOp op [a] pos) (LE X.K cls TB E EX (w G EX ta)) := pe_one ha.pe
theorem r_not (ha : SE X cls TB E EX G a ta) : SE X cls TB E EX G (.UnaryOp .Not a pos) (.not ta) := by
  refine ⟨(pe_not ha.pe).imp fun σ H Q ⟨ρ, Fz, fp, P', st, hw, k⟩ => ?_, (fun i z => nomatch z), fun _ => rfl⟩
  refine ⟨ρ, Fz, fp, _, st, hw, fun d ρ' v H' Fz' fv fp' hp s o dj sb => ?_⟩
  obtain ⟨c, e, hp⟩ := hp
  subst e
  exact ⟨c, o.2, finP (x := .bl (!c)) k s hp rfl⟩
def LTW (X : Cx) (cls : Nat → Option Addr) (TB : List (Addr × Str)) (E : XK) (EX : Nat → P → Prop) (G : List Fn) (e : Expr) (t : T) : Prop := PW X e (LT X.K cls TB E EX (w G EX t))
theorem t_one {op : BoolOp} (ha : ST X cls TB E EX G a ta) : LTW X cls TB E EX G (.BoolOp op [a] pos) ta := by
  cases op
  · exact pw_and1 ha
  · exact pw_or1 ha
theorem t_and {rest : List Expr} (ha : ST X cls TB E EX G a ta) (hb : LTW X cls TB E EX G (.BoolOp .And (b :: rest) pos) tb) : LTW X cls TB E EX G (.BoolOp .And (a :: b :: rest) pos) (.and ta tb) := by
  refine (pw_and ha hb).imp fun σ H Q ⟨ρ, Fz, fp, P', st, hw, k⟩ => ?_
  refine ⟨ρ, Fz, fp, _, st, hw, fun d ρ' H' Fz' fp' hp s => ?_⟩
  obtain ⟨c, e, hp⟩ := hp
  refine ⟨c, e, ?_⟩
  cases c with
  | true => exact ⟨ρ', Fz', fp', P', st.step s, hp, fun d ρ2 H2 Fz2 fp2 h1 s2 => k d ρ2 H2 Fz2 fp2 h1 (s.trans s2)⟩
  | false =>
    obtain ⟨b, e2, q⟩ := k _ ρ' H' Fz' fp' hp s
    cases e2
    exact q
theorem t_or {rest : List Expr} (ha : ST X cls TB E EX G a ta) (hb : LTW X cls TB E EX G (.BoolOp .Or (b :: rest) pos) tb) : LTW X cls TB E EX G (.BoolOp .Or (a :: b :: rest) pos) (.or ta tb) := by
  refine (pw_or ha hb).imp fun σ H Q ⟨ρ, Fz, fp, P', st, hw, k⟩ => ?_
  refine ⟨ρ, Fz, fp, _, st, hw, fun d ρ' H' Fz' fp' hp s => ?_⟩
  obtain ⟨c, e, hp⟩ := hp
  refine ⟨c, e, ?_⟩
  cases c with
  | false => exact ⟨ρ', Fz', fp', P', st.step s, hp, fun d ρ2 H2 Fz2 fp2 h1 s2 => k d ρ2 H2 Fz2 fp2 h1 (s.trans s2)⟩
  | true =>
    obtain ⟨b, e2, q⟩ := k _ ρ' H' Fz' fp' hp s
    cases e2
    exact q
theorem t_not (ha : ST X cls TB E EX G a ta) : ST X cls TB E EX G (.UnaryOp .Not a pos) (.not ta) := by
  refine (pt_not ha).imp fun σ H Q ⟨ρ, Fz, fp, P', st, hw, k⟩ => ?_
  refine ⟨ρ, Fz, fp, _, st, hw, fun d ρ' H' Fz' fp' hp s => ?_⟩
  obtain ⟨c, e, hp⟩ := hp
  refine ⟨c, e, ?_⟩
  obtain ⟨b, e2, q⟩ := k _ ρ' H' Fz' fp' hp s
  cases e2
  exact q
theorem r_ite (hc : ST X cls TB E EX G c tc) (ha : SE X cls TB E EX G a ta) (hb : SE X cls TB E EX G b tb) : SE X cls TB E EX G (.IfExp c a b pos) (.ite tc ta tb) := by
  refine ⟨(pe_ifExp hc ha.pe hb.pe).imp fun σ H Q ⟨ρ, Fz, fp, P', st, hw, k⟩ => ?_, (fun i z => nomatch z), fun _ => rfl⟩
  refine ⟨ρ, Fz, fp, _, st, hw, fun d ρ' H' Fz' fp' hp s => ?_⟩
  obtain ⟨c, e, hp⟩ := hp
  refine ⟨c, e, ?_⟩
  cases c with
  | true => exact ⟨ρ', Fz', fp', P', st.step s, hp, fun d ρ2 v H2 Fz2 fv fp2 h1 s2 h3 h4 h5 => k d ρ2 v H2 Fz2 fv fp2 h1 (s.trans s2) h3 h4 (s.s.trans s.r h5)⟩
  | false => exact ⟨ρ', Fz', fp', P', st.step s, hp, fun d ρ2 v H2 Fz2 fv fp2 h1 s2 h3 h4 h5 => k d ρ2 v H2 Fz2 fv fp2 h1 (s.trans s2) h3 h4 (s.s.trans s.r h5)⟩
end
end PL
set_option Elab.async false
set_option linter.all false
set_option maxRecDepth 100000
set_option maxHeartbeats 4000000
/-! Rules: rows of operands, displays, subscripts, calls of built-ins. -/
namespace PL
open PySem PySem.Spec PyProof.Rows L2
variable [QN]
/-- a row of values -/
inductive SEs (X : Cx) (cls : Nat → Option Addr) (TB : List (Addr × Str)) (E : XK) (EX : Nat → P → Prop) (G : List Fn) : List Expr → List T → Prop
  | nil : SEs X cls TB E EX G [] []
  | cons {e es t ts} : SE X cls TB E EX G e t → SEs X cls TB E EX G es ts → SEs X cls TB E EX G (e :: es) (t :: ts)
section
variable {X : Cx} {cls : Nat → Option Addr} {TB : List (Addr × Str)} {E : XK} {EX : Nat → P → Prop} {G : List Fn}
variable {e a b c : Expr} {es : List Expr} {t ta tb tc : T} {ts : List T} {pos : Pos}
theorem SEs.star (h : SEs X cls TB E EX G es ts) : starEach es X.env = es.map fun e => (false, eval e X.env) := by
  induction h with
  | nil => rfl
  | cons h _ ih => rw [h.star, ih]; rfl
theorem SEs.plain (h : SEs X cls TB E EX G es ts) : (backTo pos (starEach es X.env)).any (·.1) = false := by
  rw [h.star]
  unfold backTo
  rw [List.any_eq_false]
  intro x hx
  simp only [List.mem_map] at hx
  obtain ⟨y, ⟨z, _, e1⟩, e2⟩ := hx
  subst e1 e2
  simp
theorem SEs.plain' (h : SEs X cls TB E EX G es ts) : (backTo pos (starEach es X.env)).all (fun x => !x.1) = true := by
  rw [h.star]
  unfold backTo
  rw [List.all_eq_true]
  intro x hx
  simp only [List.mem_map] at hx
  obtain ⟨y, ⟨z, _, e1⟩, e2⟩ := hx
  subst e1 e2
  simp
theorem SEs.len (h : SEs X cls TB E EX G es ts) : es.length = ts.length := by
  induction h with
  | nil => rfl
  | cons h _ ih => simp [ih]
theorem SEs.pa (h : SEs X cls TB E EX G es ts) : PA X es (LOs X.K cls TB E EX (wOs G EX ts)) := by
  induction h with
  | nil =>
    refine pa_nil.imp fun σ H Q ⟨ρ, Fz, fp, P', st, hw, k⟩ => ?_
    exact k [] ρ [] H Fz [] fp hw (.refl st.own) ⟨rfl, rfl⟩ Dis.nil Sub.nil
  | cons h hs ih =>
    refine (pa_cons h.lo ih (h.star _)).imp fun σ H Q ⟨ρ, Fz, fp, P', st, hw, k⟩ => ?_
    refine ⟨ρ, Fz, fp, _, st, hw, fun o1 ρ1 v1 H1 Fz1 f1 fp1 q1 s1 ok1 dj1 sb1 => ?_⟩
    refine ⟨ρ1, Fz1, fp1, _, st.step s1, q1, fun os ρ2 vs H2 Fz2 f2 fp2 q2 s2 ok2 dj2 sb2 => ?_⟩
    refine k (o1 :: os) ρ2 (v1 :: vs) H2 Fz2 (f1 ++ f2) fp2 q2 (s1.trans s2) ⟨v1, vs, f1, f2, rfl, rfl, ok1.stay s2.r s1.e.fpO dj1, ok2, ?_⟩ ?_ ?_
    · exact ok1.fpO.dis dj1 sb2
    · exact (ok1.fpO.dis dj1 s2.s).app dj2
    · exact sb1.app (s1.s.trans s1.r sb2)
/-! ### freezing a row of operands -/
section
variable {K : PySem.W.Frag} {ρ ρ1 ρ2 ρ' : Env'} {σ : SL} {Fz Fz1 Fz2 Fz' : FzT} {H H1 H2 H' : Hp} {fp fp1 fp2 fp' f g fv : List Addr}
/-- one operand is frozen -/
theorem OpdOk.fr {o : Opd} {v : V} {Q : P → Env' → Prop} (h : OpdOk K Fz H σ o v f) (he : OwnE K Fz H ρ σ fp) (dj : Dis f fp) (hq : frO ρ o Q) :
    ∃ x ρ' Fz' fp', Q x ρ' ∧ Reach (f ++ fp) Fz H Fz' H ∧ OwnE K Fz' H ρ' σ fp' ∧ (∀ a ∈ fp', a ∈ fp) ∧ Fr K Fz' H x v ∧ (∀ a, Fz' a → Fz a ∨ a ∈ f ∨ a ∈ fp) := by
  have late : ∀ i, σ[i]? = some (some v) → frV ρ i Q → ∃ x ρ' Fz' fp', Q x ρ' ∧ Reach (f ++ fp) Fz H Fz' H ∧ OwnE K Fz' H ρ' σ fp' ∧ (∀ a ∈ fp', a ∈ fp) ∧ Fr K Fz' H x v ∧ (∀ a, Fz' a → Fz a ∨ a ∈ f ∨ a ∈ fp) := fun i h0 hq => by
    unfold frV at hq
    cases ej : (ρ[i]?).join with
    | none => rw [ej] at hq; exact hq.elim
    | some d =>
      have ed : ρ[i]? = some (some d) := by
        cases q : ρ[i]? with
        | none => rw [q] at ej; cases ej
        | some x => rw [q] at ej; cases x with
          | none => cases ej
          | some y => cases ej; rfl
      rw [ej] at hq
      obtain ⟨v', f1, f2, h1, h2, h3, h4, h5⟩ := he.take ed
      rw [h0] at h1; cases h1
      have hi : i < ρ.length := (List.getElem?_eq_some_iff.mp ed).1
      have go : ∀ hq : Q (frz d) (ρ.set i (some (.p (frz d)))), ∃ x ρ' Fz' fp', Q x ρ' ∧ Reach (f ++ fp) Fz H Fz' H ∧ OwnE K Fz' H ρ' σ fp' ∧ (∀ a ∈ fp', a ∈ fp) ∧ Fr K Fz' H x v ∧ (∀ a, Fz' a → Fz a ∨ a ∈ f ∨ a ∈ fp) := fun hq => by
        have r : Reach (f ++ fp) Fz H (FzPlus Fz f1) H := .freeze (fun a ha => List.mem_append_right _ ((h5 a).mpr (.inl ha))) h2.fp
        have o1 : Own K (FzPlus Fz f1) H (.p (frz d)) v [] := ⟨rfl, h2.frz (fun _ z => .inl z) fun _ z => .inr z⟩
        have e2 : OwnE K (FzPlus Fz f1) H (ρ.set i none) σ f2 := h3.stay (.freeze (fp := f1) (fun a ha => ha) h2.fp) h2.fp h4.symm
        obtain ⟨f', e3, hs⟩ := e2.back (i := i) (by simpa using hi) h0 o1 Dis.nil
        have e4 : (ρ.set i none).set i (some (D.p (frz d))) = ρ.set i (some (D.p (frz d))) := by simp
        rw [e4] at e3
        exact ⟨frz d, _, _, f', hq, r, e3, fun a ha => (h5 a).mpr (.inr ((hs a ha).elim (fun z => nomatch z) id)), o1.2, fun a z => z.imp_right fun z => .inr ((h5 a).mpr (.inl z))⟩
      cases d with
      | p x => exact ⟨x, ρ, Fz, fp, hq, .refl, he, fun _ z => z, h2.2, fun _ z => .inl z⟩
      | lst xs => exact go hq
      | dic ks xs => exact go hq
  cases o with
  | late i => exact late i h.1 hq
  | val d =>
    have hq : Q (frz d) ρ := hq
    have hf : Fp Fz H f := Own.fp h
    exact ⟨frz d, ρ, FzPlus Fz f, fp, hq, .freeze (fun a ha => List.mem_append_left _ ha) hf, he.stay (.freeze (fp := f) (fun a ha => ha) hf) hf dj.symm, fun _ z => z, Own.frz h (fun _ z => .inl z) (fun _ z => .inr z), fun a z => z.imp_right .inl⟩
theorem OpdsOk.fr : ∀ {os : List Opd} {vs : List V} {f fp : List Addr} {Fz : FzT} {ρ : Env'} {Q : List P → Env' → Prop}, OpdsOk K Fz H σ os vs f → OwnE K Fz H ρ σ fp → Dis f fp → frOs ρ os Q →
    ∃ xs ρ' Fz' fp', Q xs ρ' ∧ Reach (f ++ fp) Fz H Fz' H ∧ OwnE K Fz' H ρ' σ fp' ∧ (∀ a ∈ fp', a ∈ fp) ∧ FrL K Fz' H xs vs ∧ (∀ a, Fz' a → Fz a ∨ a ∈ f ∨ a ∈ fp)
  | [], _, f, fp, Fz, ρ, _, h, he, dj, hq => ⟨[], ρ, Fz, fp, hq, .refl, he, fun _ z => z, h.1, fun _ z => .inl z⟩
  | o :: os, vs, f, fp, Fz, ρ, Q, h, he, dj, hq => by
    obtain ⟨v, vr, f1, f2, e, ef, h1, h2, dj2⟩ := h
    subst ef
    obtain ⟨x, ρ1, Fz1, fp1, q1, r1, e1, sb1, fr1, hz1⟩ := h1.fr he dj.left (show frO ρ o _ from hq)
    have hfp1 : Fp Fz H (f1 ++ fp) := h1.fpO.app he.fpO
    have h2' : OpdsOk K Fz1 H σ os vr f2 := h2.stay r1 hfp1 (Dis.app' dj2.symm dj.right)
    obtain ⟨xs, ρ2, Fz2, fp2, q2, r2, e2, sb2, fr2, hz2⟩ := OpdsOk.fr h2' e1 (fun a ha hb => dj.right a ha (sb1 a hb)) q1
    refine ⟨x :: xs, ρ2, Fz2, fp2, q2, ?_, e2, fun a ha => sb1 a (sb2 a ha), ⟨v, vr, e, fr1.stay r2 (h2'.fpO.app e1.fpO), fr2⟩, fun a z => ?_⟩
    · refine (r1.more fun a ha => ?_).trans (fun a ha => .inl ?_) r2
      · rcases List.mem_append.mp ha with z | z
        · exact List.mem_append_left _ (List.mem_append_left _ z)
        · exact List.mem_append_right _ z
      · rcases List.mem_append.mp ha with z | z
        · exact List.mem_append_left _ (List.mem_append_right _ z)
        · exact List.mem_append_right _ (sb1 a z)
    · rcases hz2 a z with z | z | z
      · rcases hz1 a z with z | z | z
        · exact .inl z
        · exact .inr (.inl (List.mem_append_left _ z))
        · exact .inr (.inr z)
      · exact .inr (.inl (List.mem_append_right _ z))
      · exact .inr (.inr (sb1 a z))
end
/-- behind the freezing of a row -/
theorem Stp.fr {σ : SL} {fp fp1 fp2 f : List Addr} {Fz Fz1 Fz2 : FzT} {H H1 : Hp} {ρ1 ρ2 : Env'} {K : PySem.W.Frag} (s : Stp K σ fp Fz H ρ1 Fz1 H1 fp1) (r : Reach (f ++ fp1) Fz1 H1 Fz2 H1) (e : OwnE K Fz2 H1 ρ2 σ fp2) (sb : ∀ a ∈ fp2, a ∈ fp1) (sf : Sub fp H f) : Stp K σ fp Fz H ρ2 Fz2 H1 fp2 :=
  ⟨s.r.trans (sf.app s.s) r, e, fun a ha => s.s a (sb a ha)⟩
/-! ### displays -/
theorem r_tup {x1 : Nat} (h : SEs X cls TB E EX G es ts) : SE X cls TB E EX G (.Tuple es x1 pos) (.tup ts) := by
  refine ⟨(pe_tup h.pa).imp fun σ H Q ⟨ρ, Fz, fp, P', st, hw, k⟩ => ?_, (fun i z => nomatch z), fun _ => rfl⟩
  refine ⟨ρ, Fz, fp, _, st, hw, fun os ρ1 vs H1 Fz1 f1 fp1 q1 s1 ok1 dj1 sb1 => ?_⟩
  obtain ⟨xs, ρ2, Fz2, fp2, ⟨hz, q2⟩, r2, e2, sb2, fr2, hz2⟩ := ok1.fr s1.e dj1 q1
  have s2 := s1.fr r2 e2 sb2 sb1
  refine ⟨by rw [fr2.len]; exact hz, fun p hp => ?_⟩
  exact fin k s2 q2 (.new hp) (fv := []) ⟨rfl, p, vs, rfl, .of upd_same, fr2.new hp⟩ fun _ z => nomatch z
theorem r_lst (h : SEs X cls TB E EX G es ts) : SE X cls TB E EX G (.List es pos) (.lst ts) := by
  refine ⟨(pe_lst h.pa).imp fun σ H Q ⟨ρ, Fz, fp, P', st, hw, k⟩ => ?_, (fun i z => nomatch z), fun _ => rfl⟩
  refine ⟨ρ, Fz, fp, _, st, hw, fun os ρ1 vs H1 Fz1 f1 fp1 q1 s1 ok1 dj1 sb1 => ?_⟩
  obtain ⟨xs, ρ2, Fz2, fp2, ⟨hz, q2⟩, r2, e2, sb2, fr2, hz2⟩ := ok1.fr s1.e dj1 q1
  have s2 := s1.fr r2 e2 sb2 sb1
  refine ⟨by rw [fr2.len]; exact hz, fun p hp => ?_⟩
  refine fin k s2 q2 (.new hp) (fv := [p]) ⟨p, vs, rfl, rfl, upd_same, fun z => (st.step s2).fl p z hp, fr2.new hp⟩ fun a ha => ?_
  have e : a = p := by simpa using ha
  subst e; exact hp
theorem r_dic0 : SE X cls TB E EX G (.Dict [] [] pos) .dic0 := by
  refine ⟨pe_dnewK.imp fun σ H Q ⟨ρ, Fz, fp, P', st, hw, k⟩ => ?_, (fun i z => nomatch z), fun _ => rfl⟩
  intro p hp
  refine fin k (.refl st.own) hw (.new hp) (fv := [p]) ⟨p, [], [], rfl, rfl, upd_same, fun z => st.fl p z hp, by simp, rfl, rfl, rfl⟩ fun a ha => ?_
  have e : a = p := by simpa using ha
  subst e; exact hp
/-! ### calls of built-ins, by values -/
theorem many (h : SEs X cls TB E EX G es ts) {σ : SL} {H : Hp} {Q : VK} {r : List V → Hp → VK → Prop} {opX : List P → (D → Prop) → Prop} {ρ : Env'} {Fz : FzT} {fp : List Addr} {P' : KE} (st : Stt X.K cls TB E EX ρ σ Fz H fp)
    (hw : wOs G EX ts ρ fun os ρ1 => vwOs ρ1 os fun xs => opX xs fun d => P' d ρ1)
    (k : ∀ d ρ' v H' Fz' fv fp', P' d ρ' → Stp X.K σ fp Fz H ρ' Fz' H' fp' → Own X.K Fz' H' d v fv → Dis fv fp' → Sub fp H fv → Q v H')
    (snd : ∀ xs Qd vs H Fz Q, (∀ a, Fz a → H a ≠ none) → Sees X.K Fz H xs vs → opX xs Qd → Tells X.K Fz H Qd Q → r vs H Q) :
    LOs X.K cls TB E EX (wOs G EX ts) σ H fun vs H1 => r vs H1 Q := by
  refine ⟨ρ, Fz, fp, _, st, hw, fun os ρ1 vs H1 Fz1 f1 fp1 q1 s1 ok1 dj1 sb1 => ?_⟩
  obtain ⟨xs, sx, qx⟩ := ok1.see s1.e q1
  exact snd xs _ vs H1 Fz1 Q (st.step s1).fl sx qx fun d v H' Fz' fv hd r o hf => fin k s1 hd r o hf
/-- a built-in's rule -/
structure BltOk (X : Cx) (f : Value) (o : Blt) : Prop where
  ok : ∃ r : List V → Hp → VK → Prop, CallR X f r ∧ ∀ xs Qd vs H Fz Q, (∀ a, Fz a → H a ≠ none) → Sees X.K Fz H xs vs → bltS o xs Qd → Tells X.K Fz H Qd Q → r vs H Q
theorem r_blt {x : Str} {p : Pos} {id : String} {o : Blt} (hb : BltOk X (.builtin id) o) (hg : Gl X x) (hm : X.mg x = none) (hv : bootBuiltins x = some (.builtin id)) (hn : x ≠ "__name__") (hdb : (x == ("__debug__" : Str)) = false) (h : SEs X cls TB E EX G (e :: es) ts) : SE X cls TB E EX G (.Call (.Name x p) (e :: es) [] pos) (.blt o ts) := by
  obtain ⟨r, hc, snd⟩ := hb.ok
  have he : starEach (e :: es) X.env = (false, eval e X.env) :: starEach es X.env := by cases h with | cons h _ => exact h.star es
  have hpl : (backTo pos (starEach es X.env)).any (·.1) = false := by cases h with | cons _ h => exact h.plain
  refine ⟨(pe_callB hc hg hm hv h.pa hn hdb he hpl).imp fun σ H Q ⟨ρ, Fz, fp, P', st, hw, k⟩ => ?_, (fun i z => nomatch z), fun _ => rfl⟩
  exact many h st hw k snd
theorem r_bltT {x : Str} {p : Pos} {id : String} {o : Blt} (hb : BltOk X (.type id) o) (hg : Gl X x) (hm : X.mg x = none) (hv : bootBuiltins x = some (.type id)) (hn : x ≠ "__name__") (hdb : (x == ("__debug__" : Str)) = false) (h : SEs X cls TB E EX G (e :: es) ts) : SE X cls TB E EX G (.Call (.Name x p) (e :: es) [] pos) (.blt o ts) := by
  obtain ⟨r, hc, snd⟩ := hb.ok
  have he : starEach (e :: es) X.env = (false, eval e X.env) :: starEach es X.env := by cases h with | cons h _ => exact h.star es
  have hpl : (backTo pos (starEach es X.env)).any (·.1) = false := by cases h with | cons _ h => exact h.plain
  refine ⟨(pe_callTy hc hg hm hv h.pa hn hdb he hpl).imp fun σ H Q ⟨ρ, Fz, fp, P', st, hw, k⟩ => ?_, (fun i z => nomatch z), fun _ => rfl⟩
  exact many h st hw k snd
end
end PL
set_option Elab.async false
set_option linter.all false
set_option maxRecDepth 100000
set_option maxHeartbeats 4000000
/-! Rules: the built-ins, subscripts, isinstance, calls of defs, methods of one's own list. -/
namespace PL
open PySem PySem.Spec PyProof.Rows L2
variable [QN]
section
variable {K : PySem.W.Frag} {Fz : FzT} {H : Hp}
theorem Sees.one {x : P} {vs : List V} (h : Sees K Fz H [x] vs) : ∃ v, vs = [v] ∧ See K Fz H x v := by
  obtain ⟨v, vr, e, s, e2⟩ := h
  have e2 : vr = [] := e2
  subst e e2
  exact ⟨v, rfl, s⟩
theorem Sees.two {x y : P} {vs : List V} (h : Sees K Fz H [x, y] vs) : ∃ v u, vs = [v, u] ∧ See K Fz H x v ∧ See K Fz H y u := by
  obtain ⟨v, vr, e, s, h⟩ := h
  obtain ⟨u, e2, s2⟩ := Sees.one h
  subst e e2
  exact ⟨v, u, rfl, s, s2⟩
theorem Sees.nil {vs : List V} (h : Sees K Fz H [] vs) : vs = [] := h
theorem FrL.ints : ∀ {xs : List P} {vs : List V} {ns : List Int}, FrL K Fz H xs vs → intsP xs = some ns → vs = ns.map V.int
  | [], vs, ns, h, e => by
    have h : vs = [] := h
    have e : ([] : List Int) = ns := Option.some.inj e
    rw [h, ← e]; rfl
  | x :: xs, vs, ns, h, e => by
    obtain ⟨v, vr, ev, h1, h2⟩ := h
    cases x <;> first | cases e | skip
    rename_i i
    have e : (intsP xs).map (i :: ·) = some ns := e
    cases q : intsP xs with
    | none => rw [q] at e; cases e
    | some ms =>
      rw [q] at e
      have e : i :: ms = ns := Option.some.inj e
      have h1 : v = .int i := h1
      rw [ev, h1, ← e, FrL.ints h2 q]; rfl
theorem FrL.bls : ∀ {xs : List P} {vs : List V} {ns : List Bool}, FrL K Fz H xs vs → blsP xs = some ns → vs = ns.map V.bl
  | [], vs, ns, h, e => by
    have h : vs = [] := h
    have e : ([] : List Bool) = ns := Option.some.inj e
    rw [h, ← e]; rfl
  | x :: xs, vs, ns, h, e => by
    obtain ⟨v, vr, ev, h1, h2⟩ := h
    cases x <;> first | cases e | skip
    rename_i i
    have e : (blsP xs).map (i :: ·) = some ns := e
    cases q : blsP xs with
    | none => rw [q] at e; cases e
    | some ms =>
      rw [q] at e
      have e : i :: ms = ns := Option.some.inj e
      have h1 : v = .bl i := h1
      rw [ev, h1, ← e, FrL.bls h2 q]; rfl
theorem FrL.ofInts : ∀ ns : List Int, FrL K Fz H (ns.map P.int) (ns.map V.int)
  | [] => rfl
  | n :: ns => ⟨.int n, ns.map V.int, rfl, rfl, FrL.ofInts ns⟩
end
theorem ins_perm (x : Int) : ∀ l : List Int, (isort.ins x l).Perm (x :: l)
  | [] => .refl _
  | y :: ys => by
    unfold isort.ins
    split
    · exact .refl _
    · exact (List.Perm.cons y (ins_perm x ys)).trans (.swap x y ys)
theorem isort_perm : ∀ l : List Int, (isort l).Perm l
  | [] => .refl _
  | x :: xs => (ins_perm x _).trans ((isort_perm xs).cons x)
theorem ins_sorted (x : Int) : ∀ l : List Int, l.Pairwise (· ≤ ·) → (isort.ins x l).Pairwise (· ≤ ·)
  | [], _ => by simp [isort.ins]
  | y :: ys, h => by
    unfold isort.ins
    rw [List.pairwise_cons] at h
    split
    · rename_i hx
      refine List.pairwise_cons.mpr ⟨fun z hz => ?_, List.pairwise_cons.mpr h⟩
      rcases List.mem_cons.mp hz with e | hz
      · rw [e]; exact hx
      · exact Int.le_trans hx (h.1 z hz)
    · rename_i hx
      refine List.pairwise_cons.mpr ⟨fun z hz => ?_, ins_sorted x ys h.2⟩
      rcases List.mem_cons.mp ((ins_perm x ys).mem_iff.mp hz) with e | hz
      · rw [e]; omega
      · exact h.1 z hz
theorem isort_sorted : ∀ l : List Int, (isort l).Pairwise (· ≤ ·)
  | [] => .nil
  | x :: xs => ins_sorted x _ (isort_sorted xs)
theorem isort_uniq {ns l : List Int} (hp : ns.Perm l) (hs : ns.Pairwise (· ≤ ·)) : ns = isort l :=
  List.Perm.eq_of_pairwise (fun a b _ _ h1 h2 => Int.le_antisymm h1 h2) hs (isort_sorted l) (hp.trans (isort_perm l).symm)
theorem keysI_eq : ∀ {ks : List Key} {ns : List Int}, keysI ks = some ns → ks = ns.map Sum.inl
  | [], ns, e => by
    have e : ([] : List Int) = ns := Option.some.inj e
    rw [← e]; rfl
  | .inl i :: ks, ns, e => by
    have e : (keysI ks).map (i :: ·) = some ns := e
    cases q : keysI ks with
    | none => rw [q] at e; cases e
    | some ms =>
      rw [q] at e
      have e : i :: ms = ns := Option.some.inj e
      rw [← e, keysI_eq q]; rfl
  | .inr _ :: ks, ns, e => by cases e
theorem FrL.ofKeys {K : PySem.W.Frag} {Fz : FzT} {H : Hp} : ∀ ks : List Key, FrL K Fz H (ks.map kP) (ks.map kV)
  | [] => rfl
  | .inl i :: ks => ⟨.int i, ks.map kV, rfl, rfl, FrL.ofKeys ks⟩
  | .inr x :: ks => ⟨.str x, ks.map kV, rfl, rfl, FrL.ofKeys ks⟩
section
variable {X : Cx}
theorem blt_of {f : Value} {o : Blt} {r : List V → Hp → VK → Prop} (h : CallR X f r) (h1 : ∀ x Qd v H Fz Q, (∀ a, Fz a → H a ≠ none) → See X.K Fz H x v → bltS o [x] Qd → Tells X.K Fz H Qd Q → r [v] H Q) (h0 : ∀ Qd, ¬ bltS o [] Qd) (h2 : ∀ x y l Qd, ¬ bltS o (x :: y :: l) Qd) : BltOk X f o := ⟨r, h, fun xs Qd vs H Fz Q fl sx hh q => by
  rcases xs with _ | ⟨x, _ | ⟨y, l⟩⟩
  · exact absurd hh (h0 _)
  · obtain ⟨v, rfl, s⟩ := sx.one
    exact h1 x Qd v H Fz Q fl s hh q
  · exact absurd hh (h2 _ _ _ _)⟩
theorem blt_of2 {f : Value} {o : Blt} {r : List V → Hp → VK → Prop} (h : CallR X f r) (h1 : ∀ x y Qd v u H Fz Q, (∀ a, Fz a → H a ≠ none) → See X.K Fz H x v → See X.K Fz H y u → bltS o [x, y] Qd → Tells X.K Fz H Qd Q → r [v, u] H Q) (h0 : ∀ Qd, ¬ bltS o [] Qd) (h2 : ∀ x Qd, ¬ bltS o [x] Qd) (h3 : ∀ x y z l Qd, ¬ bltS o (x :: y :: z :: l) Qd) : BltOk X f o := ⟨r, h, fun xs Qd vs H Fz Q fl sx hh q => by
  rcases xs with _ | ⟨x, _ | ⟨y, _ | ⟨z, l⟩⟩⟩
  · exact absurd hh (h0 _)
  · exact absurd hh (h2 _ _)
  · obtain ⟨v, u, rfl, s1, s2⟩ := sx.two
    exact h1 x y Qd v u H Fz Q fl s1 s2 hh q
  · exact absurd hh (h3 _ _ _ _ _)⟩
theorem call_lenR : CallR X (.builtin "len") (fun xs H Q => ∃ a kvs, xs = [V.ref a] ∧ Rd H a (.dK kvs) ∧ Q (.int kvs.length) H) := by
  intro pins s σ H xs us Q I r h
  obtain ⟨a, kvs, rfl, ha, q⟩ := h
  obtain ⟨u, rfl, ru⟩ := vals1 r
  cases ru
  exact d_len I ha fun t s' I' => ⟨.int kvs.length, H, I', ⟨t, rfl⟩, q⟩
theorem blt_len : BltOk X (.builtin "len") .len := blt_of (call_len.or call_lenR) (fun x Qd v H Fz Q fl s h q => by
  cases x <;> first | exact (show False from h).elim | skip
  case str x => rw [s.str]; exact .inl ⟨_, x.length, rfl, ⟨h.1, rfl⟩, q.p (x := .int x.length) h.2 rfl⟩
  case tup ps =>
    obtain ⟨a, vs, e, h1, h2⟩ := s.tup
    subst e
    exact .inl ⟨_, ps.length, rfl, .inr ⟨vs, h1, h2.len.symm⟩, q.p (x := .int ps.length) h rfl⟩
  case lst ps =>
    obtain ⟨a, vs, e, h1, h2⟩ := s.lst
    subst e
    exact .inl ⟨_, ps.length, rfl, .inl ⟨vs, .of h1, h2.len.symm⟩, q.p (x := .int ps.length) h rfl⟩
  case rdl ps =>
    obtain ⟨a, vs, e, h1, h2⟩ := s.rdl
    subst e
    exact .inl ⟨_, ps.length, rfl, .inl ⟨vs, h1, h2.len.symm⟩, q.p (x := .int ps.length) h rfl⟩
  case dic ks ps =>
    obtain ⟨a, kvs, e, h1, h2, _⟩ := s.dic
    subst e
    refine .inr ⟨a, kvs, rfl, h1, ?_⟩
    have e2 : kvs.length = ks.length := by rw [← h2, List.length_map]
    rw [e2]
    exact q.p (x := .int ks.length) h rfl) (fun _ h => h) (fun x y l _ h => by cases x <;> exact h)
theorem blt_max2 (hc : X.calm = true) : BltOk X (.builtin "max") .max2 := blt_of2 (call_max2 hc) (fun x y Qd v u H Fz Q fl s1 s2 h q => by
  cases x <;> first | exact (show False from h).elim | skip
  case int i =>
    cases y <;> first | exact (show False from h).elim | skip
    case int j => rw [s1.int, s2.int]; exact ⟨i, j, rfl, q.p (x := .int (if j > i then j else i)) h rfl⟩) (fun _ h => h) (fun x _ h => by cases x <;> exact h) (fun x y z l _ h => by cases x <;> first | exact h | (cases y <;> exact h))
theorem blt_min2 (hc : X.calm = true) : BltOk X (.builtin "min") .min2 := blt_of2 (call_min2 hc) (fun x y Qd v u H Fz Q fl s1 s2 h q => by
  cases x <;> first | exact (show False from h).elim | skip
  case int i =>
    cases y <;> first | exact (show False from h).elim | skip
    case int j => rw [s1.int, s2.int]; exact ⟨i, j, rfl, q.p (x := .int (if j < i then j else i)) h rfl⟩) (fun _ h => h) (fun x _ h => by cases x <;> exact h) (fun x y z l _ h => by cases x <;> first | exact h | (cases y <;> exact h))
theorem blt_int1 : BltOk X (.type "int") .int1 := blt_of call_int1 (fun x Qd v H Fz Q fl s h q => by
  cases x <;> first | exact (show False from h).elim | skip
  case int i => rw [s.int]; exact .inl ⟨i, rfl, q.p (x := .int i) h rfl⟩
  case bl b => rw [s.bl]; exact .inr ⟨b, rfl, q.p (x := .int (if b then 1 else 0)) h rfl⟩) (fun _ h => h) (fun x y l _ h => by cases x <;> exact h)
theorem blt_bool1 : BltOk X (.type "bool") .bool1 := blt_of call_bool1 (fun x Qd v H Fz Q fl s h q => by
  cases x <;> first | exact (show False from h).elim | skip
  case bl b => rw [s.bl]; exact .inr ⟨b, rfl, q.p (x := .bl b) h rfl⟩) (fun _ h => h) (fun x y l _ h => by cases x <;> exact h)
theorem blt_str1 : BltOk X (.type "str") .str1 := blt_of call_str_int (fun x Qd v H Fz Q fl s h q => by
  cases x <;> first | exact (show False from h).elim | skip
  case int i => rw [s.int]; exact ⟨i, rfl, h.1, q.p (x := .str (toString i)) h.2 rfl⟩) (fun _ h => h) (fun x y l _ h => by cases x <;> exact h)
theorem blt_abs1 : BltOk X (.builtin "abs") .abs1 := blt_of call_abs (fun x Qd v H Fz Q fl s h q => by
  cases x <;> first | exact (show False from h).elim | skip
  case int i => rw [s.int]; exact ⟨i, rfl, q.p (x := .int (if i < 0 then -i else i)) h rfl⟩) (fun _ h => h) (fun x y l _ h => by cases x <;> exact h)
theorem blt_tuple1 : BltOk X (.type "tuple") .tuple1 := blt_of call_tuple_of (fun x Qd v H Fz Q fl s h q => by
  cases x <;> first | exact (show False from h).elim | skip
  case tup ps =>
    obtain ⟨a, vs, e, h1, h2⟩ := s.tup
    subst e
    exact ⟨a, vs, rfl, .inr ⟨h1, q.p (x := .tup ps) h ⟨a, vs, rfl, h1, h2⟩⟩⟩
  case lst ps =>
    obtain ⟨a, vs, e, h1, h2⟩ := s.lst
    subst e
    exact ⟨a, vs, rfl, .inl ⟨.of h1, fun p hp => q.tup h h2 hp⟩⟩) (fun _ h => h) (fun x y l _ h => by cases x <;> exact h)
theorem blt_list1 (hc : X.calm = true) : BltOk X (.type "list") .list1 := blt_of (call_list_of.or (call_listD hc)) (fun x Qd v H Fz Q fl s h q => by
  cases x <;> first | exact (show False from h).elim | skip
  case tup ps =>
    obtain ⟨a, vs, e, h1, h2⟩ := s.tup
    subst e
    exact .inl ⟨a, vs, rfl, .inr h1, fun p hp => q.lst h h2 fl hp⟩
  case lst ps =>
    obtain ⟨a, vs, e, h1, h2⟩ := s.lst
    subst e
    exact .inl ⟨a, vs, rfl, .inl (.of h1), fun p hp => q.lst h h2 fl hp⟩
  case rdl ps =>
    obtain ⟨a, vs, e, h1, h2⟩ := s.rdl
    subst e
    exact .inl ⟨a, vs, rfl, .inl h1, fun p hp => q.lst h h2 fl hp⟩
  case dic ks ps =>
    obtain ⟨a, kvs, e, h1, h2, _⟩ := s.dic
    subst e
    refine .inr ⟨a, kvs, rfl, h1, fun p hp => ?_⟩
    have e2 : (kvs.map fun kv => kV kv.1) = ks.map kV := by rw [← h2, List.map_map]; rfl
    rw [e2]
    exact q.lst h (FrL.ofKeys ks) fl hp) (fun _ h => h) (fun x y l _ h => by cases x <;> exact h)
theorem blt_sorted1 (hc : X.calm = true) : BltOk X (.builtin "sorted") .sorted1 := blt_of (cr_sortedI.or (call_sortedDI hc)) (fun x Qd v H Fz Q fl s h q => by
  cases x <;> first | exact (show False from h).elim | skip
  case lst ps =>
    obtain ⟨a, vs, e, h1, h2⟩ := s.lst
    subst e
    obtain ⟨ns, e2, h⟩ : ∃ ns, intsP ps = some ns ∧ Qd (.lst ((isort ns).map .int)) := h
    have e3 := h2.ints e2
    subst e3
    refine .inl ⟨a, ns, rfl, .of h1, fun ns' p hp hs hn => ?_⟩
    rw [isort_uniq hp hs]
    exact q.lst h (FrL.ofInts _) fl hn
  case dic ks ps =>
    obtain ⟨a, kvs, e, h1, h2, _⟩ := s.dic
    subst e
    obtain ⟨ns, e2, h64, h⟩ : ∃ ns, keysI ks = some ns ∧ ns.length < 64 ∧ Qd (.lst ((isort ns).map .int)) := h
    refine .inr ⟨a, kvs, ns, rfl, h1, by rw [h2, keysI_eq e2], h64, fun ys p hp hs hn => ?_⟩
    rw [isort_uniq hp hs]
    exact q.lst h (FrL.ofInts _) fl hn) (fun _ h => h) (fun x y l _ h => by cases x <;> exact h)
theorem blt_sum1 (hc : X.calm = true) : BltOk X (.builtin "sum") .sum1 := blt_of (cr_sum hc) (fun x Qd v H Fz Q fl s h q => by
  cases x <;> first | exact (show False from h).elim | skip
  case lst ps =>
    obtain ⟨a, vs, e, h1, h2⟩ := s.lst
    subst e
    obtain ⟨ns, e2, h⟩ : ∃ ns, intsP ps = some ns ∧ Qd (.p (.int ns.sum)) := h
    have e3 := h2.ints e2
    subst e3
    exact ⟨a, ns, rfl, .of h1, q.p (x := .int ns.sum) h rfl⟩) (fun _ h => h) (fun x y l _ h => by cases x <;> exact h)
theorem blt_any1 (hc : X.calm = true) : BltOk X (.builtin "any") .any1 := blt_of (cr_any hc) (fun x Qd v H Fz Q fl s h q => by
  cases x <;> first | exact (show False from h).elim | skip
  case lst ps =>
    obtain ⟨a, vs, e, h1, h2⟩ := s.lst
    subst e
    obtain ⟨ns, e2, h⟩ : ∃ ns, blsP ps = some ns ∧ Qd (.p (.bl (ns.any id))) := h
    have e3 := h2.bls e2
    subst e3
    exact ⟨a, ns, rfl, .of h1, q.p (x := .bl (ns.any id)) h rfl⟩) (fun _ h => h) (fun x y l _ h => by cases x <;> exact h)
theorem blt_all1 (hc : X.calm = true) : BltOk X (.builtin "all") .all1 := blt_of (cr_all hc) (fun x Qd v H Fz Q fl s h q => by
  cases x <;> first | exact (show False from h).elim | skip
  case lst ps =>
    obtain ⟨a, vs, e, h1, h2⟩ := s.lst
    subst e
    obtain ⟨ns, e2, h⟩ : ∃ ns, blsP ps = some ns ∧ Qd (.p (.bl (ns.all id))) := h
    have e3 := h2.bls e2
    subst e3
    exact ⟨a, ns, rfl, .of h1, q.p (x := .bl (ns.all id)) h rfl⟩) (fun _ h => h) (fun x y l _ h => by cases x <;> exact h)
end
end PL
set_option Elab.async false
set_option linter.all false
set_option maxRecDepth 100000
set_option maxHeartbeats 4000000
/-! Rules: subscripts, slices, isinstance, membership, products, methods of one's own list. -/
namespace PL
open PySem PySem.Spec PyProof.Rows L2
variable [QN]
section
variable {X : Cx} {cls : Nat → Option Addr} {TB : List (Addr × Str)} {E : XK} {EX : Nat → P → Prop} {G : List Fn}
variable {e a b c : Expr} {es : List Expr} {t ta tb tc : T} {ts : List T} {pos : Pos}
/-! ### subscripts -/
theorem atI_get {α : Type} {xs : List α} {i : Int} {x : α} (h : atI xs i = some x) : ∃ j, ixN xs.length i = some j ∧ xs[j]? = some x := by
  unfold atI at h
  cases e : ixN xs.length i with
  | none => rw [e] at h; cases h
  | some j => rw [e] at h; exact ⟨j, rfl, h⟩
theorem FrL.atI {K : PySem.W.Frag} {Fz : FzT} {H : Hp} {ps : List P} {vs : List V} {i : Int} {x : P} (h : FrL K Fz H ps vs) (e : L2.atI ps i = some x) : ∃ v, L2.atI vs i = some v ∧ Fr K Fz H x v := by
  obtain ⟨j, h1, h2⟩ := atI_get e
  obtain ⟨v, h3, h4⟩ := h.get h2
  refine ⟨v, ?_, h4⟩
  unfold L2.atI
  rw [h.len, h1]
  exact h3
theorem idxOf_get : ∀ {ks : List Key} {k : Key} {j : Nat} {kvs : List (Key × V)} {u : V}, kvs.map (·.1) = ks → idxK ks k = some j → (kvs.map (·.2))[j]? = some u → valV kvs k = some u
  | _, k, j, [], u, e, h, _ => by subst e; cases h
  | _, k, j, (k', v) :: kvs, u, e, h, hu => by
    subst e
    unfold idxK at h
    rw [List.map_cons, List.findIdx?_cons] at h
    by_cases hk : k' = k
    · subst hk
      rw [if_pos (by simp)] at h
      cases h
      rw [valV_pos rfl]
      simpa using hu
    · rw [if_neg (by simpa using hk)] at h
      rw [valV_neg hk]
      cases q : List.findIdx? (fun q => decide (q = k)) (kvs.map (·.1)) with
      | none => rw [q] at h; cases h
      | some i =>
        rw [q] at h
        have h : i + 1 = j := Option.some.inj h
        subst h
        exact idxOf_get rfl q (by simpa using hu)
theorem frO_eq {ρ : Env'} {o : Opd} {d : D} {Q : P → Env' → Prop} (h : frO ρ o Q) (e : look ρ o = some d) : frO ρ o fun x ρ' => x = frz d ∧ Q x ρ' := by
  cases o with
  | val d' =>
    have e : d' = d := by simpa [look] using e
    subst e
    exact ⟨rfl, h⟩
  | late i =>
    have e : (ρ[i]?).join = some d := e
    simp only [frO, frV, e] at h ⊢
    cases d <;> exact ⟨rfl, h⟩
theorem ix_dict (hu : X.A.units + 1 < cLine) : IxR X (fun x y H Q => ∃ a v, x = .ref a ∧ DGet H a y (some v) ∧ Q v H) := by
  intro value slice pins s σ H x y v u Q I rx ry h hs
  obtain ⟨a, z, rfl, g, q⟩ := h
  obtain rfl : v = Value.ref a := rx
  exact tail_any (dict_typeIs I g) PySem.F.slot_dict_getitem.lookup (d_getItem hu I g ry fun w' s3 I3 rw' => ⟨z, H, I3, rw', q⟩) hs
theorem OwnL.at {K : PySem.W.Frag} {Fz : FzT} {H : Hp} : ∀ {ds : List D} {vs : List V} {f : List Addr} {j : Nat} {d : D}, OwnL K Fz H ds vs f → ds[j]? = some d → ∃ u g, vs[j]? = some u ∧ Own K Fz H d u g
  | [], _, _, _, _, _, e => by simp at e
  | d :: ds, _, _, 0, x, h, e => by
    obtain ⟨v, vr, f1, f2, ev, _, o, ol, _⟩ := h
    subst ev
    have e : d = x := by simpa using e
    subst e
    exact ⟨v, f1, rfl, o⟩
  | d :: ds, _, _, j + 1, x, h, e => by
    obtain ⟨v, vr, f1, f2, ev, _, o, ol, _⟩ := h
    subst ev
    exact OwnL.at (j := j) ol (by simpa using e)
theorem frzL_map : ∀ ds : List D, frzL ds = ds.map frz
  | [] => rfl
  | d :: ds => by rw [frzL, frzL_map ds]; rfl
theorem asKey_see {x : P} {v : V} {k : Key} {K : PySem.W.Frag} {Fz : FzT} {H : Hp} (h : See K Fz H x v) (e : asKey x = some k) : v = kV k := by
  cases x <;> cases e
  · exact h.int
  · exact h.str
/-- an element of frozen data is frozen; of one's own dict: those that are frozen -/
theorem r_sub' (hu : X.A.units + 1 < cLine) (ha : SE X cls TB E EX G a ta) (hb : SE X cls TB E EX G b tb) (hs : PlainIx b) : SE X cls TB E EX G (.Subscript a b pos) (.sub ta tb) := by
  refine ⟨(pe_ix (ix_seq.or (ix_dict hu)) ha.lo hb.lo hs).imp fun σ H Q ⟨ρ, Fz, fp, P', st, hw, k⟩ => ?_, (fun i z => nomatch z), fun _ => rfl⟩
  refine ⟨ρ, Fz, fp, _, st, hw, fun o1 ρ1 v1 H1 Fz1 f1 fp1 q1 s1 ok1 dj1 sb1 => ?_⟩
  refine ⟨ρ1, Fz1, fp1, _, st.step s1, q1, fun o2 ρ2 v2 H2 Fz2 f2 fp2 q2 s2 ok2 dj2 sb2 => ?_⟩
  have ok1' := ok1.stay s2.r s1.e.fpO dj1
  obtain ⟨y, sy, h⟩ := ok2.see s2.e q2
  have p := s1.trans s2
  unfold subO at h
  cases e1 : look ρ2 o1 with
  | none => rw [e1] at h; exact h.elim
  | some d =>
    rw [e1] at h
    obtain ⟨g, ow, hg⟩ := ok1'.own s2.e e1
    cases d with
    | lst ps =>
      cases y <;> first | exact (show False from h).elim | skip
      case int i =>
        obtain ⟨a, vs, e, _, h1, _, h2⟩ := ow
        obtain ⟨z, e1, hz⟩ : ∃ z, atI ps i = some z ∧ P' (.p z) ρ2 := h
        obtain ⟨v', e2, f2⟩ := h2.atI e1
        exact .inl (.inl ⟨a, vs, i, v', e, sy.int, .of h1, e2, finP k p hz f2⟩)
    | dic ks ds =>
      obtain ⟨a, kvs, g', e, eg, ha, nf, ng, ek, ol⟩ := id ow
      obtain ⟨k', j, d, hk, hj, hd, hq⟩ := h
      obtain ⟨u, gu, hu1, hu2⟩ := ol.at hd
      have hv : valV kvs k' = some u := idxOf_get ek hj hu1
      refine .inr ⟨a, u, e, .inl ⟨kvs, k', .inl ha, asKey_see sy hk, hv.symm⟩, ?_⟩
      have go : ∀ hq : frO ρ2 o1 fun _ ρ' => P' (.p (frz d)) ρ', Q u H2 := fun hq => by
        obtain ⟨x, ρ3, Fz3, fp3, ⟨ex, q3⟩, r3, e3, sb3, fr3, _⟩ := ok1'.fr s2.e (ok1.fpO.dis dj1 s2.s) (frO_eq hq e1)
        subst ex
        have s3 := p.fr r3 e3 sb3 sb1
        refine finP k s3 q3 ?_
        obtain ⟨a', kvs', e', ha', _, _, ol'⟩ := fr3
        rw [e] at e'
        cases e'
        have ekv : kvs' = kvs := by
          rcases ha' with ha' | ⟨ob, ha'⟩
          · rw [ha] at ha'; cases ha'; rfl
          · rw [ha] at ha'; cases ha'
        subst ekv
        obtain ⟨u', h1, h2⟩ := ol'.get (p := frz d) (i := j) (by rw [frzL_map, List.getElem?_map, hd]; rfl)
        rw [hu1] at h1; cases h1
        exact h2
      cases d with
      | p z => exact finP k p hq hu2.2
      | lst xs => exact go hq
      | dic ks' xs => exact go hq
    | p x =>
      cases x <;> first | exact (show False from h).elim | skip
      case tup ps =>
        cases y <;> first | exact (show False from h).elim | skip
        case int i =>
          obtain ⟨a, vs, e, h1, h2⟩ := ow.2
          obtain ⟨z, e1, hz⟩ : ∃ z, atI ps i = some z ∧ P' (.p z) ρ2 := h
          obtain ⟨v', e2, f2⟩ := h2.atI e1
          exact .inl (.inr (.inl ⟨a, vs, i, v', e, sy.int, h1, e2, finP k p hz f2⟩))
      case lst ps =>
        cases y <;> first | exact (show False from h).elim | skip
        case int i =>
          obtain ⟨a, vs, e, h1, _, h2⟩ := ow.2
          obtain ⟨z, e1, hz⟩ : ∃ z, atI ps i = some z ∧ P' (.p z) ρ2 := h
          obtain ⟨v', e2, f2⟩ := h2.atI e1
          exact .inl (.inl ⟨a, vs, i, v', e, sy.int, .of h1, e2, finP k p hz f2⟩)
      case rdl ps =>
        cases y <;> first | exact (show False from h).elim | skip
        case int i =>
          obtain ⟨a, vs, e, h1, h2⟩ := ow.2
          obtain ⟨z, e1, hz⟩ : ∃ z, atI ps i = some z ∧ P' (.p z) ρ2 := h
          obtain ⟨v', e2, f2⟩ := h2.atI e1
          exact .inl (.inl ⟨a, vs, i, v', e, sy.int, h1.imp_left (fun z => z.1), e2, finP k p hz f2⟩)
      case dic ks ps =>
        obtain ⟨a, kvs, e, ha, _, ek, ol⟩ := ow.2
        obtain ⟨k', j, z, hk, hj, hd, hq⟩ := h
        obtain ⟨u, hu1, hu2⟩ := ol.get hd
        have hv : valV kvs k' = some u := idxOf_get ek hj hu1
        exact .inr ⟨a, u, e, .inl ⟨kvs, k', ha, asKey_see sy hk, hv.symm⟩, finP k p hq hu2⟩
/-! ### isinstance -/
def tyN : Ty → String
  | .int => "int" | .bool => "bool" | .str => "str" | .tuple => "tuple" | .list => "list"
theorem See.tyx {K : PySem.W.Frag} {Fz : FzT} {H : Hp} {x : P} {v : V} (h : See K Fz H x v) (t : Ty) : ∃ u : String, TyX K H v (.type u) ∧ kitB u (tyN t) = some (isTy t x) := by
  cases x with
  | non => rw [h.non]; exact ⟨"NoneType", .base .non, by cases t <;> decide +kernel⟩
  | bl b => rw [h.bl]; exact ⟨"bool", .base (.bl b), by cases t <;> first | (show kitB _ _ = some true; decide +kernel) | (show kitB _ _ = some false; decide +kernel)⟩
  | int b => rw [h.int]; exact ⟨"int", .base (.int b), by cases t <;> first | (show kitB _ _ = some true; decide +kernel) | (show kitB _ _ = some false; decide +kernel)⟩
  | str b => rw [h.str]; exact ⟨"str", .base (.str b), by cases t <;> first | (show kitB _ _ = some true; decide +kernel) | (show kitB _ _ = some false; decide +kernel)⟩
  | tup b =>
    obtain ⟨a, vs, e, h1, _⟩ := h.tup
    subst e
    have hk : kitB "tuple" (tyN t) = some (isTy t (.tup b)) := by cases t <;> first | (show kitB _ _ = some true; decide +kernel) | (show kitB _ _ = some false; decide +kernel)
    rcases h1 with (h1 | ⟨o, h1⟩) | ⟨o, h1⟩
    · exact ⟨"tuple", .base (.tup h1), hk⟩
    · exact ⟨"tuple", .fTuple h1, hk⟩
    · obtain ⟨its, n, h2, h3, _⟩ := h1
      exact ⟨"tuple", .kTuple h2 h3, hk⟩
  | lst b =>
    obtain ⟨a, vs, e, h1, _⟩ := h.lst
    subst e
    exact ⟨"list", .base (.lst h1), by cases t <;> first | (show kitB _ _ = some true; decide +kernel) | (show kitB _ _ = some false; decide +kernel)⟩
  | rdl b =>
    obtain ⟨a, vs, e, h1, _⟩ := h.rdl
    subst e
    have hk : kitB "list" (tyN t) = some (isTy t (.rdl b)) := by cases t <;> first | (show kitB _ _ = some true; decide +kernel) | (show kitB _ _ = some false; decide +kernel)
    rcases h1 with (h1 | ⟨o, h1⟩) | ⟨o, h1⟩
    · exact ⟨"list", .base (.lst h1), hk⟩
    · exact ⟨"list", .base (.frz h1), hk⟩
    · obtain ⟨its, n, h2, h3, _⟩ := h1
      exact ⟨"list", .kList h2 h3, hk⟩
  | dic ks b =>
    obtain ⟨a, vs, e, h1, _⟩ := h.dic
    subst e
    have hk : kitB "dict" (tyN t) = some (isTy t (.dic ks b)) := by cases t <;> first | (show kitB _ _ = some true; decide +kernel) | (show kitB _ _ = some false; decide +kernel)
    rcases h1 with h1 | ⟨o, h1⟩
    · exact ⟨"dict", .base (.dK h1), hk⟩
    · exact ⟨"dict", .fDict h1, hk⟩
theorem pe_tyname {x : Str} {t : Ty} {p : Pos} (hg : Gl X x) (hm : X.mg x = none) (hv : bootBuiltins x = some (.type (tyN t))) (hn : x ≠ "__name__") (hdb : (x == ("__debug__" : Str)) = false) : PE X (.Name x p) (tC (.ty (tyN t))) := pe_bltn hg hm hv rfl hn hdb
theorem r_isi {x : Str} {t : Ty} {p p2 : Pos} (hg : Gl X "isinstance") (hm : X.mg "isinstance" = none) (hg2 : Gl X x) (hm2 : X.mg x = none) (hv : bootBuiltins x = some (.type (tyN t))) (hn : x ≠ "__name__") (hdb : (x == ("__debug__" : Str)) = false) (ha : SE X cls TB E EX G a ta) :
    SE X cls TB E EX G (.Call (.Name "isinstance" p) [a, .Name x p2] [] pos) (.isi ta t) := by
  have hp : PA X [a, .Name x p2] (tCons (LO X.K cls TB E EX (opd ta (w G EX ta))) (tCons (tC (.ty (tyN t))) tNil)) := pa_cons ha.lo (pa_cons (pe_tyname hg2 hm2 hv hn hdb) pa_nil rfl) (ha.star _)
  refine ⟨(pe_callB call_isi hg hm PyProof.Rows.boot_isinstance hp (by decide) (by decide) (ha.star _) rfl).imp fun σ H Q ⟨ρ, Fz, fp, P', st, hw, k⟩ => ?_, (fun i z => nomatch z), fun _ => rfl⟩
  refine ⟨ρ, Fz, fp, _, st, hw, fun o1 ρ1 v1 H1 Fz1 f1 fp1 q1 s1 ok1 dj1 sb1 => ?_⟩
  obtain ⟨y, sy, h⟩ := ok1.see s1.e q1
  obtain ⟨u, h1, h2⟩ := sy.tyx t
  exact ⟨v1, .ty (tyN t), .type u, .type (tyN t), isTy t y, rfl, .ty _, h1, kit_ty h2, finP (x := .bl (isTy t y)) k s1 h rfl⟩
/-! ### membership -/
theorem any_eqV {x : P} {v : V} {K : PySem.W.Frag} {Fz : FzT} {H : Hp} (h : See K Fz H x v) (hf : flat x = true) : flatV v = true ∧ ∀ {y : P} {u : V}, Fr K Fz H y u → flat y = true → flatV u = true ∧ eqV u v = feq y x := by
  cases x <;> first | exact absurd hf Bool.false_ne_true | skip
  all_goals
    first
    | (have e := h.non; subst e)
    | (have e := h.bl; subst e)
    | (have e := h.int; subst e)
    | (have e := h.str; subst e)
    refine ⟨rfl, fun {y u} hy fy => ?_⟩
    cases y <;> first | exact absurd fy Bool.false_ne_true | skip
    all_goals
      have e : u = _ := hy
      subst e
      exact ⟨rfl, rfl⟩
theorem FrL.flat {K : PySem.W.Frag} {Fz : FzT} {H : Hp} {x : P} {v : V} (h : See K Fz H x v) (hf : PL.flat x = true) : ∀ {ys : List P} {us : List V}, FrL K Fz H ys us → ys.all PL.flat = true → us.all flatV = true ∧ inV v us = ys.any fun y => feq y x
  | [], us, hy, _ => by have e : us = [] := hy; subst e; exact ⟨rfl, rfl⟩
  | y :: ys, us, hy, fy => by
    obtain ⟨u, ur, e, h1, h2⟩ := hy
    subst e
    rw [List.all_cons, Bool.and_eq_true] at fy
    obtain ⟨a1, a2⟩ := (any_eqV h hf).2 h1 fy.1
    obtain ⟨b1, b2⟩ := FrL.flat h hf h2 fy.2
    refine ⟨by rw [List.all_cons, a1, b1]; rfl, ?_⟩
    unfold inV at b2 ⊢
    rw [List.any_cons, List.any_cons, a2, b2]
theorem op_dinX (hu : X.A.units + 1 < cLine) : OpR X (compareOp .In) (fun y x H Q => ∃ a o, x = .ref a ∧ DGet H a y o ∧ Q (.bl o.isSome) H) := by
  intro pins s σ H y x iv u Q I ry rx ⟨a, o, ex, g, q⟩
  subst ex
  obtain rfl : u = Value.ref a := rx
  exact d_in hu I g ry fun s3 I3 => ⟨.bl o.isSome, H, I3, rfl, q⟩
theorem op_dnotinX (hu : X.A.units + 1 < cLine) : OpR X (compareOp .NotIn) (fun y x H Q => ∃ a o, x = .ref a ∧ DGet H a y o ∧ Q (.bl (!o.isSome)) H) := by
  intro pins s σ H y x iv u Q I ry rx ⟨a, o, ex, g, q⟩
  subst ex
  obtain rfl : u = Value.ref a := rx
  exact d_notIn hu I g ry fun s3 I3 => ⟨.bl (!o.isSome), H, I3, rfl, q⟩
theorem OpR.or {op : Value → Value → Sem Value} {r r' : R2} (h : OpR X op r) (h' : OpR X op r') : OpR X op (fun x y H Q => r x y H Q ∨ r' x y H Q) := by
  intro pins s σ H x y v u Q I rx ry q
  rcases q with q | q
  · exact h pins s σ H x y v u Q I rx ry q
  · exact h' pins s σ H x y v u Q I rx ry q
theorem snd_in (neg : Bool) {x y : P} {Qb : Bool → Prop} {v u : V} {H : Hp} {Fz : FzT} {Q : VK} (sx : See X.K Fz H x v) (sy : See X.K Fz H y u) (h : inO neg x y Qb) (q : ∀ b, Qb b → Q (.bl b) H) :
    rIn X.K neg v u H Q ∨ ∃ a o, u = .ref a ∧ DGet H a v o ∧ Q (.bl (neg ^^ o.isSome)) H := by
  have seq : ∀ {ys : List P} {a : Addr} {us : List V}, (SqL X.K H a us ∨ SqT X.K H a us) → FrL X.K Fz H ys us → inS neg x ys Qb → rIn X.K neg v (.ref a) H Q := fun {ys a us} h1 h2 ⟨fx, fy, hq⟩ => by
    obtain ⟨b1, b2⟩ := h2.flat sx fx fy
    refine ⟨a, us, rfl, h1, (any_eqV sx fx).1, b1, ?_⟩
    rw [b2]
    have := q _ hq
    cases neg
    · rw [Bool.false_xor] at this
      exact this
    · rw [Bool.true_xor] at this
      exact this
  cases y <;> first | exact (show False from h).elim | skip
  case tup ys =>
    obtain ⟨a, us, e, h1, h2⟩ := sy.tup
    subst e
    exact .inl (seq (.inr h1) h2 h)
  case lst ys =>
    obtain ⟨a, us, e, h1, h2⟩ := sy.lst
    subst e
    exact .inl (seq (.inl (.of h1)) h2 h)
  case dic ks ys =>
    obtain ⟨a, kvs, e, h1, h2, _⟩ := sy.dic
    subst e
    obtain ⟨k, hk, hq⟩ : ∃ k : Key, asKey x = some k ∧ Qb (neg ^^ ks.any fun q => decide (q = k)) := h
    refine .inr ⟨a, valV kvs k, rfl, .inl ⟨kvs, k, h1, asKey_see sx hk, rfl⟩, ?_⟩
    have e2 : (kvs.any fun kv => decide (kv.1 = k)) = ks.any fun q => decide (q = k) := by rw [← h2, List.any_map]; rfl
    rw [← valV_any, e2]
    exact q _ hq
theorem cmp_in (hu : X.A.units + 1 < cLine) : CmpOk X .In .isIn := ⟨_, op_in_seq.or (op_dinX hu), fun x y Qb v u H Fz Q sx sy h q => by
  rcases snd_in false sx sy h q with h | ⟨a, o, e, g, h⟩
  · exact .inl h
  · exact .inr ⟨a, o, e, g, by rw [Bool.false_xor] at h; exact h⟩⟩
theorem cmp_notin (hu : X.A.units + 1 < cLine) : CmpOk X .NotIn .notIn := ⟨_, op_notIn_seq.or (op_dnotinX hu), fun x y Qb v u H Fz Q sx sy h q => by
  rcases snd_in true sx sy h q with h | ⟨a, o, e, g, h⟩
  · exact .inl h
  · exact .inr ⟨a, o, e, g, by rw [Bool.true_xor] at h; exact h⟩⟩
/-! ### products -/
theorem tuple_mulS (l : Addr) (items : Array Value) (n : Nat) (dd : Option Addr) (sl : Array (Option Value)) (x : Int) (u : Tok) (c0 : (decide (x < -(2 ^ 63)) || decide (x ≥ 2 ^ 63)) = false) (c1 : (items.isEmpty || x == 1) = true) :
    Meets (Builtin.«tuple.__mul__» ⟨[.ref l, .int x u], []⟩) (fun _ R s => s.heap.get? l = some { cls := .type "tuple", dict := dd, data := .seq items n, slots := sl } ∧ R (.ok (.ret (Value.ref l))) s) :=
  .of_wp fun prog w A R s h => by
    obtain ⟨hp, g, d, tk, os⟩ := s
    obtain ⟨hl, h⟩ := h
    have f1 := AutoSeq1.idx_int
    wp_walk using wpAny_loadPart' hl
    repeat (first
      | (refine wpAny_ite_false (decide_eq_false (by rw [c0]; exact Bool.false_ne_true)) ?_; wp_walk using wpAny_loadPart' hl)
      | (refine wpAny_ite_true (decide_eq_true c1) ?_; wp_walk using wpAny_loadPart' hl)
      | (refine wpAny_ite_true (by rfl) ?_; wp_walk using wpAny_loadPart' hl))
    exact ⟨_, rfl, h⟩
theorem tuple_mulN (l : Addr) (items : Array Value) (n : Nat) (dd : Option Addr) (sl : Array (Option Value)) (x : Int) (u : Tok) (c0 : (decide (x < -(2 ^ 63)) || decide (x ≥ 2 ^ 63)) = false) (c1 : (items.isEmpty || x == 1) = false) (c2 : (decide (x ≤ 0) || items.isEmpty) = true) :
    Meets (Builtin.«tuple.__mul__» ⟨[.ref l, .int x u], []⟩) (fun _ R s => s.heap.get? l = some { cls := .type "tuple", dict := dd, data := .seq items n, slots := sl } ∧
      R (.ok (.ret (Value.ref s.heap.objs.size))) { s with heap := s.heap.push { cls := Value.type "tuple", data := Data.seq #[] }, toks := s.toks }) :=
  .of_wp fun prog w A R s h => by
    obtain ⟨hp, g, d, tk, os⟩ := s
    obtain ⟨hl, h⟩ := h
    have f1 := AutoSeq1.idx_int
    wp_walk using wpAny_loadPart' hl
    repeat (first
      | (refine wpAny_ite_false (decide_eq_false (by rw [c0]; exact Bool.false_ne_true)) ?_; wp_walk using wpAny_loadPart' hl)
      | (refine wpAny_ite_false (decide_eq_false (by rw [c1]; exact Bool.false_ne_true)) ?_; wp_walk using wpAny_loadPart' hl)
      | (refine wpAny_ite_true (decide_eq_true c2) ?_; wp_walk using wpAny_loadPart' hl)
      | (refine wpAny_ite_true (by rfl) ?_; wp_walk using wpAny_loadPart' hl))
    exact ⟨_, rfl, h⟩
theorem op_repS : OpR X (binaryOp .Mult) (fun x y H Q => ∃ l k xs, x = .ref l ∧ y = .int k ∧ SqT X.K H l xs ∧ (0 ≤ k ∧ k ≤ 1000) ∧ (xs = [] ∨ k = 1) ∧ Q (.ref l) H) := by
  intro pins s σ H x y v u Q I rx ry h
  obtain ⟨l, k, xs, rfl, rfl, hT, h1, h2, q⟩ := h
  cases rx
  obtain ⟨t, rfl⟩ := ry
  obtain ⟨its, r, ⟨⟨cls, dd, data, sl⟩, ho, hc, n, hd⟩, hs⟩ := I.tuple hT
  simp only at hc hd
  subst hc hd
  have hle : its.length = xs.length := r.length.symm
  have c0 : (decide (k < -(2 ^ 63)) || decide (k ≥ 2 ^ 63)) = false := by
    rw [decide_eq_false (by omega), decide_eq_false (by omega)] <;> rfl
  have c1 : (its.toArray.isEmpty || k == 1) = true := by
    rcases h2 with e | e
    · rw [e] at hle
      have : its = [] := List.eq_nil_of_length_eq_zero hle
      rw [this]
      rfl
    · rw [e, beq_self_eq_true, Bool.or_true]
  exact wpAny_binaryOp_repeat_ref (T := "tuple") (U := "int") (by decide) ⟨_, ho, rfl⟩ (fun s' => typeIs_int s' k t) noFill_tuple_mul F.fills_int_mul F.slot_int_rmul repeat_tuple F.slot_int_index.lookup
    (call_meets F.slot_int_rmul (typeIs_int s k t) F.entry_int_rmul (F.args_int_rmul_2 _ _) (int_rmul_tuple k t l _ n dd sl)
      ⟨ho, rfl, ⟨_, ho, rfl⟩, call_meets F.slot_tuple_mul ⟨_, ho, rfl⟩ F.entry_tuple_mul (F.args_tuple_mul_2 _ _) (tuple_mulS l its.toArray n dd sl k t c0 c1) ⟨ho, ⟨.ref l, H, I, rfl, q⟩⟩⟩)
theorem op_repN : OpR X (binaryOp .Mult) (fun x y H Q => ∃ l k xs, x = .ref l ∧ y = .int k ∧ SqT X.K H l xs ∧ k = 0 ∧ xs ≠ [] ∧ ∀ p, H p = none → Q (.ref p) (upd H p (.tup []))) := by
  intro pins s σ H x y v u Q I rx ry h
  obtain ⟨l, k, xs, rfl, rfl, hT, h1, h2, q⟩ := h
  cases rx
  obtain ⟨t, rfl⟩ := ry
  obtain ⟨its, r, ⟨⟨cls, dd, data, sl⟩, ho, hc, n, hd⟩, hs⟩ := I.tuple hT
  simp only at hc hd
  subst hc hd
  have hle : its.length = xs.length := r.length.symm
  have c0 : (decide (k < -(2 ^ 63)) || decide (k ≥ 2 ^ 63)) = false := by
    rw [decide_eq_false (by omega), decide_eq_false (by omega)] <;> rfl
  have hi : its.toArray.isEmpty = false := by
    cases its with
    | nil => exact absurd (List.eq_nil_of_length_eq_zero hle.symm) h2
    | cons a b => rfl
  have c1 : (its.toArray.isEmpty || k == 1) = false := by
    rw [hi, h1]
    rfl
  have c2 : (decide (k ≤ 0) || its.toArray.isEmpty) = true := by
    rw [hi, h1]
    rfl
  refine wpAny_binaryOp_repeat_ref (T := "tuple") (U := "int") (by decide) ⟨_, ho, rfl⟩ (fun s' => typeIs_int s' k t) noFill_tuple_mul F.fills_int_mul F.slot_int_rmul repeat_tuple F.slot_int_index.lookup
    (call_meets F.slot_int_rmul (typeIs_int s k t) F.entry_int_rmul (F.args_int_rmul_2 _ _) (int_rmul_tuple k t l _ n dd sl)
      ⟨ho, rfl, ⟨_, ho, rfl⟩, call_meets F.slot_tuple_mul ⟨_, ho, rfl⟩ F.entry_tuple_mul (F.args_tuple_mul_2 _ _) (tuple_mulN l its.toArray n dd sl k t c0 c1 c2) ⟨ho, ?_⟩⟩)
  refine ⟨.ref s.heap.objs.size, _, I.laid (t' := s.toks) (o := .tup []) (fun b ob q => Heap.get?_push_of_some _ q) (Nat.le_refl _) ?_, rfl, q _ (I.hok.fresh (Nat.le_refl _))⟩
  exact ⟨by simp, [], .nil, IsTup.new _ _⟩
theorem op_mulA : OpR X (binaryOp .Mult) (fun x y H Q => rI CMul (fun i j => .int (i * j)) x y H Q ∨ rI CMulW (fun i j => .int (i * j)) x y H Q ∨ rRepT X.K x y H Q ∨ (∃ l k xs, x = .ref l ∧ y = .int k ∧ SqT X.K H l xs ∧ (0 ≤ k ∧ k ≤ 1000) ∧ (xs = [] ∨ k = 1) ∧ Q (.ref l) H) ∨ (∃ l k xs, x = .ref l ∧ y = .int k ∧ SqT X.K H l xs ∧ k = 0 ∧ xs ≠ [] ∧ ∀ p, H p = none → Q (.ref p) (upd H p (.tup []))) ∨ rRep x y H Q) := op_mul.or (op_mulW.or (op_repT.or (op_repS.or (op_repN.or op_rep))))
theorem FrL.flatten {K : PySem.W.Frag} {Fz : FzT} {H : Hp} {ps : List P} {vs : List V} (h : FrL K Fz H ps vs) : ∀ n : Nat, FrL K Fz H (List.replicate n ps).flatten (List.replicate n vs).flatten
  | 0 => rfl
  | n + 1 => by
    rw [List.replicate_succ, List.replicate_succ, List.flatten_cons, List.flatten_cons]
    exact h.append (FrL.flatten h n)
theorem r_mul (ha : SE X cls TB E EX G a ta) (hb : SE X cls TB E EX G b tb) : SE X cls TB E EX G (.BinOp a .Mult b pos) (.bin .mul ta tb) := r_bin op_mulA (fun x y Qd v u H Fz Q fl sx sy h q => by
  cases x <;> cases y <;> first | exact (show False from h).elim | skip
  case int.int i j =>
    rw [sx.int, sy.int]
    rcases h.1 with z | z
    · exact .inl ⟨i, j, rfl, rfl, z, q.p (x := .int (i * j)) h.2 rfl⟩
    · exact .inr (.inl ⟨i, j, rfl, rfl, z, q.p (x := .int (i * j)) h.2 rfl⟩)
  case tup.int xs k =>
    obtain ⟨⟨h1, h2, h3⟩, hq⟩ := h
    obtain ⟨a, vs, e, t1, o1⟩ := sx.tup
    subst e
    rw [sy.int]
    by_cases hx : xs = []
    · subst hx
      have e : vs = [] := o1
      subst e
      refine .inr (.inr (.inr (.inl ⟨a, k, [], rfl, rfl, t1, ⟨h1, h2⟩, .inl rfl, q.p (x := .tup (List.replicate k.toNat ([] : List P)).flatten) hq ?_⟩)))
      have e : (List.replicate k.toNat ([] : List P)).flatten = [] := by simp
      rw [e]
      exact ⟨a, [], rfl, t1, rfl⟩
    have hv : vs ≠ [] := fun z => by
      have := o1.len
      rw [z] at this
      exact hx (List.eq_nil_of_length_eq_zero this.symm)
    by_cases k1 : k = 1
    · subst k1
      refine .inr (.inr (.inr (.inl ⟨a, 1, vs, rfl, rfl, t1, ⟨h1, h2⟩, .inr rfl, q.p (x := .tup (List.replicate (1 : Int).toNat xs).flatten) hq ?_⟩)))
      have e : (List.replicate (1 : Int).toNat xs).flatten = xs := by simp
      rw [e]
      exact ⟨a, vs, rfl, t1, o1⟩
    by_cases k0 : k = 0
    · subst k0
      refine .inr (.inr (.inr (.inr (.inl ⟨a, 0, vs, rfl, rfl, t1, rfl, hv, fun p hp => ?_⟩))))
      have e : (List.replicate (0 : Int).toNat xs).flatten = [] := by simp
      rw [e] at hq
      exact q.tup hq rfl hp
    · exact .inr (.inr (.inl ⟨a, k, vs, rfl, rfl, t1, hv, by omega, h2, by rw [o1.len]; exact h3, fun p hp => q.tup hq (o1.flatten _) hp⟩))
  case lst.int xs k =>
    obtain ⟨⟨h1, h2, h3⟩, hq⟩ := h
    obtain ⟨a, vs, e, t1, o1⟩ := sx.lst
    subst e
    rw [sy.int]
    exact .inr (.inr (.inr (.inr (.inr ⟨a, k, vs, rfl, rfl, t1, h1, h2, by rw [o1.len]; exact h3, fun p hp => q.lst hq (o1.flatten _) fl hp⟩))))) ha hb
end
end PL
set_option Elab.async false
set_option linter.all false
set_option maxRecDepth 100000
set_option maxHeartbeats 4000000
/-! Rules: slices, chains, methods of one's own list, calls of defs. -/
namespace PL
open PySem PySem.Spec PyProof.Rows L2
variable [QN]
section
variable {X : Cx} {cls : Nat → Option Addr} {TB : List (Addr × Str)} {E : XK} {EX : Nat → P → Prop} {G : List Fn}
variable {e a b c : Expr} {es : List Expr} {t ta tb tc : T} {ts : List T} {pos : Pos}
/-! ### slices -/
def LP (K : PySem.W.Frag) (cls : Nat → Option Addr) (TB : List (Addr × Str)) (E : XK) (EX : Nat → P → Prop) (t : T) (we : Env' → KE → Prop) : TO := fun σ H Q => ∃ ρ Fz fp P', Stt K cls TB E EX ρ σ Fz H fp ∧ we ρ P' ∧
  ∀ d ρ' H' Fz' fp', P' d ρ' → Stp K σ fp Fz H ρ' Fz' H' fp' → ∃ i, partOk t d i ∧ Q i H'
inductive SEo (X : Cx) (cls : Nat → Option Addr) (TB : List (Addr × Str)) (E : XK) (EX : Nat → P → Prop) (G : List Fn) : Option Expr → T → Prop
  | no : SEo X cls TB E EX G none .non
  | yes {e : Expr} {t : T} : SE X cls TB E EX G e t → t ≠ .non → SEo X cls TB E EX G (some e) t
theorem _root_.L2.PO.imp {X : Cx} {e : Option Expr} {t t' : TO} (h : PO X e t) (hi : ∀ σ H Q, t' σ H Q → t σ H Q) : PO X e t' := ⟨fun pins s σ H Q I q => h.run pins s σ H Q I (hi σ H Q q)⟩
theorem partOk_int {t : T} {d : D} {i : Option Int} (ht : t ≠ .non) (h : partOk t d i) : ∃ j, d = .p (.int j) ∧ i = some j := by
  cases t <;> first | exact absurd rfl ht | exact h
theorem SEo.po {lo : Option Expr} {tl : T} (h : SEo X cls TB E EX G lo tl) : PO X lo (LP X.K cls TB E EX tl (w G EX tl)) := by
  cases h with
  | no =>
    refine po_none.imp fun σ H Q ⟨ρ, Fz, fp, P', st, hw, k⟩ => ?_
    obtain ⟨i, e, q⟩ := k _ ρ H Fz fp hw (.refl st.own)
    have e : i = none := e
    subst e
    exact q
  | yes h ht =>
    refine (po_some h.pe).imp fun σ H Q ⟨ρ, Fz, fp, P', st, hw, k⟩ => ?_
    refine ⟨ρ, Fz, fp, _, st, hw, fun d ρ' v H' Fz' fv fp' hp s o dj sb => ?_⟩
    obtain ⟨i, e, q⟩ := k _ ρ' H' Fz' fp' hp s
    obtain ⟨j, e1, e2⟩ := partOk_int ht e
    subst e1 e2
    exact ⟨j, o.2, q⟩
theorem FrL.cut {K : PySem.W.Frag} {Fz : FzT} {H : Hp} {ps : List P} {vs : List V} (h : FrL K Fz H ps vs) (lo hi : Option Int) : FrL K Fz H (cutP ps lo hi) (cutV vs lo hi) := by
  unfold cutP cutV
  rw [h.len]
  exact (h.drop _).take _
theorem cutP_whole {ps : List P} {lo hi : Option Int} (h1 : HT.sIx ps.length 0 lo = 0) (h2 : HT.sIx ps.length ps.length hi = ps.length) : cutP ps lo hi = ps := by
  unfold cutP
  rw [h1, h2]
  simp
theorem r_slc {lo hi : Option Expr} {tl th : T} {p2 : Pos} (ha : SE X cls TB E EX G a ta) (hl : SEo X cls TB E EX G lo tl) (hh : SEo X cls TB E EX G hi th) : SE X cls TB E EX G (.Subscript a (.Slice lo hi none p2) pos) (.slc ta tl th) := by
  refine ⟨(pe_slice (sl_list.or sl_tupA) ha.lo hl.po hh.po).imp fun σ H Q ⟨ρ, Fz, fp, P', st, hw, k⟩ => ?_, (fun i z => nomatch z), fun _ => rfl⟩
  refine ⟨ρ, Fz, fp, _, st, hw, fun o1 ρ1 v1 H1 Fz1 f1 fp1 q1 s1 ok1 dj1 sb1 => ?_⟩
  refine ⟨ρ1, Fz1, fp1, _, st.step s1, q1, fun d2 ρ2 H2 Fz2 fp2 q2 s2 => ?_⟩
  obtain ⟨l', pl, q2⟩ := q2
  refine ⟨l', pl, ?_⟩
  refine ⟨ρ2, Fz2, fp2, _, st.step (s1.trans s2), q2, fun d3 ρ3 H3 Fz3 fp3 q3 s3 => ?_⟩
  obtain ⟨h', ph, q3⟩ := q3
  refine ⟨h', ph, ?_⟩
  have p := (s1.trans s2).trans s3
  have ok3 := (ok1.stay s2.r s1.e.fpO dj1).stay s3.r s2.e.fpO (ok1.fpO.dis dj1 s2.s)
  obtain ⟨x, sx, h⟩ := ok3.see p.e q3
  cases x <;> first | exact (show False from h).elim | skip
  case tup ps =>
    obtain ⟨a, vs, e, h1, h2⟩ := sx.tup
    have h : P' (.p (.tup (cutP ps l' h'))) ρ3 := h
    refine .inr ⟨a, vs, e, h1, fun ⟨z1, z2⟩ => ?_, fun _ p1 hp => ?_⟩
    · rw [h2.len] at z1 z2
      rw [cutP_whole z1 z2] at h
      exact finP k p h ⟨a, vs, rfl, h1, h2⟩
    · exact fin k p h (.new hp) (fv := []) ⟨rfl, p1, cutV vs l' h', rfl, .of upd_same, (h2.cut l' h').new hp⟩ fun _ z => nomatch z
  case lst ps =>
    obtain ⟨a, vs, e, h1, h2⟩ := sx.lst
    have h : P' (.lst (cutP ps l' h')) ρ3 := h
    refine .inl ⟨a, vs, e, .of h1, fun p1 hp => ?_⟩
    refine fin k p h (.new hp) (fv := [p1]) ⟨p1, cutV vs l' h', rfl, rfl, upd_same, fun z => (st.step p).fl p1 z hp, (h2.cut l' h').new hp⟩ fun a ha => ?_
    have e : a = p1 := by simpa using ha
    subst e; exact hp
/-! ### chains -/
theorem r_chain {op op' : CmpOp} {o o' : COp} (hc : CmpOk X op o) (hc' : CmpOk X op' o') (ha : SE X cls TB E EX G a ta) (hb : SE X cls TB E EX G b tb) (hd : SE X cls TB E EX G c tc) (hm : lastMarks [op, op'] [b, c] = false) : SE X cls TB E EX G (.Compare a [op, op'] [b, c] pos) (.chain o o' ta tb tc) := by
  obtain ⟨r, ho, snd⟩ := hc.ok
  obtain ⟨r', ho', snd'⟩ := hc'.ok
  refine ⟨(pe_chain ho ho' ha.lo hb.lo hd.lo hm).imp fun σ H Q ⟨ρ, Fz, fp, P', st, hw, k⟩ => ?_, (fun i z => nomatch z), fun _ => rfl⟩
  refine ⟨ρ, Fz, fp, _, st, hw, fun o1 ρ1 v1 H1 Fz1 f1 fp1 q1 s1 ok1 dj1 sb1 => ?_⟩
  refine ⟨ρ1, Fz1, fp1, _, st.step s1, q1, fun o2 ρ2 v2 H2 Fz2 f2 fp2 q2 s2 ok2 dj2 sb2 => ?_⟩
  have ok1' := ok1.stay s2.r s1.e.fpO dj1
  obtain ⟨x, sx, qx⟩ := ok1'.see s2.e q2
  obtain ⟨y, sy, qy⟩ := ok2.see s2.e qx
  refine snd x y _ v1 v2 H2 Fz2 _ sx sy qy fun b hb => ⟨b, rfl, ?_⟩
  have p := s1.trans s2
  cases b with
  | false => exact finP (x := .bl false) k p hb rfl
  | true =>
    rw [if_pos rfl] at hb
    refine ⟨ρ2, Fz2, fp2, _, st.step p, hb, fun o3 ρ3 v3 H3 Fz3 f3 fp3 q3 s3 ok3 dj3 sb3 => ?_⟩
    have ok2' := ok2.stay s3.r s2.e.fpO dj2
    obtain ⟨y', sy', qy'⟩ := ok2'.see s3.e q3
    obtain ⟨z, sz, qz⟩ := ok3.see s3.e qy'
    exact snd' y' z _ v2 v3 H3 Fz3 Q sy' sz qz fun b hb => finP (x := .bl b) k (p.trans s3) hb rfl
theorem t_chain {op op' : CmpOp} {o o' : COp} (hc : CmpOk X op o) (hc' : CmpOk X op' o') (ha : SE X cls TB E EX G a ta) (hb : SE X cls TB E EX G b tb) (hd : SE X cls TB E EX G c tc) (hm : lastMarks [op, op'] [b, c] = false) : ST X cls TB E EX G (.Compare a [op, op'] [b, c] pos) (.chain o o' ta tb tc) := by
  obtain ⟨r, ho, snd⟩ := hc.ok
  obtain ⟨r', ho', snd'⟩ := hc'.ok
  refine (pt_chain ho ho' ha.lo hb.lo hd.lo hm).imp fun σ H Q ⟨ρ, Fz, fp, P', st, hw, k⟩ => ?_
  have fb : ∀ {b : Bool} {ρ1 : Env'} {Fz1 : FzT} {H1 : Hp} {fp1 : List Addr}, P' (.p (.bl b)) ρ1 → Stp X.K σ fp Fz H ρ1 Fz1 H1 fp1 → ∃ c, V.bl b = .bl c ∧ Q c H1 := fun {b ρ1 Fz1 H1 fp1} hp s => by
    obtain ⟨c, e, q⟩ := k _ ρ1 H1 Fz1 fp1 hp s
    cases e
    exact ⟨b, rfl, q⟩
  refine ⟨ρ, Fz, fp, _, st, hw, fun o1 ρ1 v1 H1 Fz1 f1 fp1 q1 s1 ok1 dj1 sb1 => ?_⟩
  refine ⟨ρ1, Fz1, fp1, _, st.step s1, q1, fun o2 ρ2 v2 H2 Fz2 f2 fp2 q2 s2 ok2 dj2 sb2 => ?_⟩
  have ok1' := ok1.stay s2.r s1.e.fpO dj1
  obtain ⟨x, sx, qx⟩ := ok1'.see s2.e q2
  obtain ⟨y, sy, qy⟩ := ok2.see s2.e qx
  refine snd x y _ v1 v2 H2 Fz2 _ sx sy qy fun b hb => ⟨b, rfl, ?_⟩
  have p := s1.trans s2
  cases b with
  | false => exact fb hb p
  | true =>
    rw [if_pos rfl] at hb
    refine ⟨ρ2, Fz2, fp2, _, st.step p, hb, fun o3 ρ3 v3 H3 Fz3 f3 fp3 q3 s3 ok3 dj3 sb3 => ?_⟩
    have ok2' := ok2.stay s3.r s2.e.fpO dj2
    obtain ⟨y', sy', qy'⟩ := ok2'.see s3.e q3
    obtain ⟨z, sz, qz⟩ := ok3.see s3.e qy'
    exact snd' y' z _ v2 v3 H3 Fz3 _ sy' sz qz fun b hb => fb hb (p.trans s3)
/-! ### methods of one's own list -/
theorem FrL.sees {K : PySem.W.Frag} {Fz : FzT} {H : Hp} : ∀ {xs : List P} {vs : List V}, FrL K Fz H xs vs → Sees K Fz H xs vs
  | [], _, h => h
  | x :: xs, _, h => by
    obtain ⟨v, vr, e, h1, h2⟩ := h
    exact ⟨v, vr, e, h1.see, FrL.sees h2⟩
/-- a method of one's own list, by values -/
structure MthOk (X : Cx) (m : Mth) (id : String) : Prop where
  ok : ∃ r : V → List V → Hp → VK → Prop, MtR X id r ∧ ∀ ps xs Qd a vs us H Fz Q, H a = some (.lst vs) → FrL X.K Fz H ps vs → Sees X.K Fz H xs us → (m = .append → FrL X.K Fz H xs us) → mthS m (.lst ps) xs Qd →
    (∀ y v ps' vs', Qd (.p y) (.lst ps') → FrL X.K Fz H ps' vs' → Fr X.K Fz H y v → Q v (upd H a (.lst vs'))) → r (.ref a) us H Q
theorem mth_append : MthOk X .append "list.append" := ⟨_, mt_append, fun ps xs Qd a vs us H Fz Q ha hf hs hx h q => by
  rcases xs with _ | ⟨x, _ | ⟨y, l⟩⟩
  · exact (show False from h).elim
  · obtain ⟨v, vr, e, h1, h2⟩ := hx rfl
    have h2 : vr = [] := h2
    subst e h2
    obtain ⟨hz, hq⟩ : ps.length < sizeLine ∧ Qd (.p .non) (.lst (ps ++ [x])) := h
    exact ⟨a, vs, v, rfl, rfl, ha, by rw [hf.len]; exact hz, q .non .non _ _ hq (hf.append (.one h1)) rfl⟩
  · exact (show False from h).elim⟩
theorem mth_extend : MthOk X .extend "list.extend" := ⟨_, mt_extend, fun ps xs Qd a vs us H Fz Q ha hf hs hx h q => by
  rcases xs with _ | ⟨x, _ | ⟨y, l⟩⟩
  · exact (show False from h).elim
  · cases x <;> first | exact (show False from h).elim | skip
    case lst ys =>
      obtain ⟨v, e, s⟩ := hs.one
      obtain ⟨b, zs, e2, h1, h2⟩ := s.lst
      subst e e2
      obtain ⟨hz, hq⟩ : ps.length + ys.length ≤ sizeLine ∧ Qd (.p .non) (.lst (ps ++ ys)) := h
      exact ⟨a, b, vs, zs, rfl, rfl, ha, h1, by rw [hf.len, h2.len]; exact hz, q .non .non _ _ hq (hf.append h2) rfl⟩
  · cases x <;> exact (show False from h).elim⟩
theorem FrL.dropLast {K : PySem.W.Frag} {Fz : FzT} {H : Hp} {ps : List P} {vs : List V} (h : FrL K Fz H ps vs) : FrL K Fz H ps.dropLast vs.dropLast := by
  rw [List.dropLast_eq_take, List.dropLast_eq_take, h.len]
  exact h.take _
theorem mth_pop : MthOk X .pop "list.pop" := ⟨_, mt_pop, fun ps xs Qd a vs us H Fz Q ha hf hs hx h q => by
  cases xs with
  | nil =>
    have e := hs.nil
    subst e
    obtain ⟨y, hy, hq⟩ : ∃ y, ps[ps.length - 1]? = some y ∧ Qd (.p y) (.lst ps.dropLast) := h
    obtain ⟨v, h1, h2⟩ := hf.get hy
    exact ⟨a, vs, v, rfl, rfl, ha, by rw [hf.len]; exact h1, q y v _ _ hq hf.dropLast h2⟩
  | cons x l => cases x <;> exact (show False from h).elim⟩
theorem mth_popAt : MthOk X .popAt "list.pop" := ⟨_, mt_popAt, fun ps xs Qd a vs us H Fz Q ha hf hs hx h q => by
  rcases xs with _ | ⟨x, _ | ⟨y, l⟩⟩
  · exact (show False from h).elim
  · cases x <;> first | exact (show False from h).elim | skip
    case int i =>
      obtain ⟨v, e, s⟩ := hs.one
      have e2 := s.int
      subst e e2
      obtain ⟨hi, j, y, h1, h2, hq⟩ : (-(2 ^ 63) ≤ i ∧ i < 2 ^ 63) ∧ ∃ j y, idx ps.length i = some j ∧ ps[j]? = some y ∧ Qd (.p y) (.lst (ps.eraseIdx j)) := h
      obtain ⟨v, h3, h4⟩ := hf.get h2
      exact ⟨a, vs, i, j, v, rfl, rfl, ha, hi.1, hi.2, by rw [hf.len]; exact (ixN_seq h1).1, h3, q y v _ _ hq (hf.erase j) h4⟩
  · cases x <;> exact (show False from h).elim⟩
/-- behind the arguments -/
theorem mth_end {m : Mth} {r : V → List V → Hp → VK → Prop} (snd : ∀ ps xs Qd a vs us H Fz Q, H a = some (.lst vs) → FrL X.K Fz H ps vs → Sees X.K Fz H xs us → (m = .append → FrL X.K Fz H xs us) → mthS m (.lst ps) xs Qd →
    (∀ y v ps' vs', Qd (.p y) (.lst ps') → FrL X.K Fz H ps' vs' → Fr X.K Fz H y v → Q v (upd H a (.lst vs'))) → r (.ref a) us H Q) {i : Nat} {σ : SL} {ρ1 : Env'} {Fz Fz1 : FzT} {H H1 : Hp} {fp fp1 : List Addr} {a : Addr} {P' : KE} {Q : VK}
    (k : ∀ d ρ' v H' Fz' fv fp', P' d ρ' → Stp X.K σ fp Fz H ρ' Fz' H' fp' → Own X.K Fz' H' d v fv → Dis fv fp' → Sub fp H fv → Q v H')
    (p : Stp X.K σ fp Fz H ρ1 Fz1 H1 fp1) (hi : σ[i]? = some (some (.ref a))) {xs : List P} {us : List V} (hs : Sees X.K Fz1 H1 xs us) (hx : m = .append → FrL X.K Fz1 H1 xs us)
    (h : ∃ d, ρ1[i]? = some (some d) ∧ mthS m d xs fun r d' => P' r (ρ1.set i (some d'))) : r (.ref a) us H1 Q := by
  obtain ⟨d, hd, h⟩ := h
  cases d with
  | p x => cases m <;> cases xs <;> exact (show False from h).elim
  | dic ks xs => cases m <;> cases xs <;> exact (show False from h).elim
  | lst ps =>
    obtain ⟨v, f1, f2, h1, ow, h3, h4, h5⟩ := p.e.take hd
    rw [hi] at h1; cases h1
    obtain ⟨b, vs, e, ef, ha, nf, hf⟩ := ow
    cases e
    subst ef
    refine snd ps xs _ a vs us H1 Fz1 Q ha hf hs hx h fun y v ps' vs' hq fr' fy => ?_
    have hin : a ∈ fp1 := (h5 a).mpr (.inl (List.mem_cons_self ..))
    have r1 : Reach [a] Fz1 H1 Fz1 (upd H1 a (.lst vs')) := .write (List.mem_cons_self ..) ha True.intro
    have fpa : Fp Fz1 H1 [a] := fun b hb => by
      have e : b = a := by simpa using hb
      subst e; exact ⟨nf, _, ha, True.intro⟩
    have e3 := h3.stay r1 fpa h4.symm
    have o1 : Own X.K Fz1 (upd H1 a (.lst vs')) (.lst ps') (.ref a) [a] := ⟨a, vs', rfl, rfl, upd_same, nf, fr'.stay r1 fpa⟩
    obtain ⟨f', e4, hs4⟩ := e3.back (i := i) (by
      have := (List.getElem?_eq_some_iff.mp hd).1
      simpa using this) hi o1 h4
    rw [List.set_set] at e4
    refine k (.p y) _ v _ Fz1 [] f' hq ⟨p.r.trans p.s (r1.more fun b hb => ?_), e4, fun b hb => ?_⟩ ⟨rfl, fy.stay r1 fpa⟩ Dis.nil Sub.nil
    · have e : b = a := by simpa using hb
      subst e; exact hin
    · rcases hs4 b hb with z | z
      · have e : b = a := by simpa using z
        subst e; exact p.s _ hin
      · exact p.s b ((h5 b).mpr (.inr z))
theorem r_mth {m : Mth} {x name : Str} {id : String} {i : Nat} {p apos : Pos} (hm : MthOk X m id) (hN : X.N[i]? = some x) (hv : Vis X.env.scope x) (hd : (x == ("__debug__" : Str)) = false) (hcd : (x == ("__classdict__" : Str)) = false)
    (slot : Slot "list" name id) (hty : typeOf (.builtin id) = pure (.type "method_descriptor")) (h : SEs X cls TB E EX G (e :: es) ts)
    (hfew : ((backTo pos (starEach (e :: es) X.env)).all (fun x => !x.1) && (backToKw pos (keywordEach [] X.env)).all (fun x => x.1.isSome)
      && decide ((e :: es).length + ([] : List Keyword).length + (if ([] : List Keyword).isEmpty then 0 else 1) < 30)) = true) (hline : (apos.endLine == pos.line) = true) :
    SE X cls TB E EX G (.Call (.Attribute (.Name x p) name apos) (e :: es) [] pos) (.mth m i ts) := by
  obtain ⟨r, hr, snd⟩ := hm.ok
  have he : starEach (e :: es) X.env = (false, eval e X.env) :: starEach es X.env := by cases h with | cons h _ => exact h.star es
  have hpl : (backTo pos (starEach es X.env)).any (·.1) = false := by cases h with | cons _ h => exact h.plain
  refine ⟨(pe_bm PySem.F.plainAttrs_list slot hty hr (pe_var hN hv hd hcd) h.pa rfl hfew hline he hpl).imp fun σ H Q ⟨ρ, Fz, fp, P', st, ⟨⟨xs, hx⟩, hw⟩, k⟩ => ?_, (fun i z => nomatch z), fun _ => rfl⟩
  obtain ⟨v, f1, h1, ow, h3⟩ := st.own.get hx
  obtain ⟨a, vs, e, ef, ha, nf, hf⟩ := ow
  subst e
  refine ⟨.ref a, h1, .inl ⟨rfl, vs, .of ha⟩, ρ, Fz, fp, _, st, hw, fun os ρ1 us H1 Fz1 f1 fp1 q1 s1 ok1 dj1 sb1 => ?_⟩
  by_cases hxt : m = .extend ∨ m = .update
  · have q1 : vwOs ρ1 os fun xs => ∃ d, ρ1[i]? = some (some d) ∧ mthS m d xs fun r d' => P' r (ρ1.set i (some d')) := by
      rcases hxt with e | e <;> (subst e; exact q1)
    obtain ⟨ys, sy, q2⟩ := ok1.see s1.e q1
    exact mth_end snd k s1 h1 sy (fun e => by rcases hxt with z | z <;> (rw [e] at z; cases z)) q2
  · have q1 : frOs ρ1 os fun xs ρ2 => ∃ d, ρ2[i]? = some (some d) ∧ mthS m d xs fun r d' => P' r (ρ2.set i (some d')) := by
      cases m <;> first | exact q1 | exact absurd (.inl rfl) hxt | exact absurd (.inr rfl) hxt
    obtain ⟨ys, ρ2, Fz2, fp2, q2, r2, e2, sb2, fr2, hz2⟩ := ok1.fr s1.e dj1 q1
    exact mth_end snd k (s1.fr r2 e2 sb2 sb1) h1 fr2.sees (fun _ => fr2) q2
theorem r_mth0 {m : Mth} {x name : Str} {id : String} {i : Nat} {p apos : Pos} (hm : MthOk X m id) (hN : X.N[i]? = some x) (hv : Vis X.env.scope x) (hd : (x == ("__debug__" : Str)) = false) (hcd : (x == ("__classdict__" : Str)) = false)
    (slot : Slot "list" name id) (hty : typeOf (.builtin id) = pure (.type "method_descriptor")) (hline : (apos.endLine == pos.line) = true) (hme : m = .pop) :
    SE X cls TB E EX G (.Call (.Attribute (.Name x p) name apos) [] [] pos) (.mth m i []) := by
  obtain ⟨r, hr, snd⟩ := hm.ok
  refine ⟨(pe_bm0 PySem.F.plainAttrs_list slot hty hr (pe_var hN hv hd hcd) rfl hline).imp fun σ H Q ⟨ρ, Fz, fp, P', st, ⟨⟨xs, hx⟩, hw⟩, k⟩ => ?_, (fun i z => nomatch z), fun _ => rfl⟩
  obtain ⟨v, f1, h1, ow, h3⟩ := st.own.get hx
  obtain ⟨a, vs, e, ef, ha, nf, hf⟩ := ow
  subst e
  subst hme
  exact ⟨.ref a, h1, .inl ⟨rfl, vs, .of ha⟩, mth_end snd k (.refl st.own) h1 (xs := []) (us := []) rfl (fun e => nomatch e) hw⟩
end
end PL
set_option Elab.async false
set_option linter.all false
set_option maxRecDepth 100000
set_option maxHeartbeats 4000000
/-! Calls of defs. -/
namespace PL
open PySem PySem.Spec PyProof.Rows L2
variable [QN]
def lentV (lent : List Nat) : Nat → List V → List V
  | _, [] => []
  | j, v :: vs => if j ∈ lent then v :: lentV lent (j + 1) vs else lentV lent (j + 1) vs
section
variable {K : PySem.W.Frag} {σ : SL} {H : Hp}
/-- the slots is bear these values -/
def Bear (σ : SL) : List Nat → List V → Prop
  | [], vs => vs = []
  | i :: is, vs => ∃ v vr, vs = v :: vr ∧ σ[i]? = some (some v) ∧ Bear σ is vr
/-- the same, where slots that are none take what was just made -/
def BearO (σ : SL) : List Nat → List V → Prop
  | [], vs => vs = []
  | i :: is, vs => ∃ v vr, vs = v :: vr ∧ (σ[i]? = some (some v) ∨ σ.length ≤ i) ∧ BearO σ is vr
theorem OwnL.p {Fz : FzT} {x : P} {v : V} {ds : List D} {vs : List V} {f : List Addr} (h : Fr K Fz H x v) (hs : OwnL K Fz H ds vs f) : OwnL K Fz H (.p x :: ds) (v :: vs) f := ⟨v, vs, [], f, rfl, rfl, ⟨rfl, h⟩, hs, fun _ z => nomatch z⟩
theorem OpdsOk.args {lent : List Nat} : ∀ {os : List Opd} {vs : List V} {f fp : List Addr} {Fz : FzT} {ρ : Env'} {j : Nat} {Q : List D → List Nat → Env' → Prop}, OpdsOk K Fz H σ os vs f → OwnE K Fz H ρ σ fp → Dis f fp → PL.args lent j ρ os Q →
    ∃ ds is ρ' Fz' fpa fp', Q ds is ρ' ∧ Reach (f ++ fp) Fz H Fz' H ∧ OwnE K Fz' H ρ' σ fp' ∧ (∀ a ∈ fp', a ∈ fp) ∧ OwnL K Fz' H ds vs fpa ∧ (∀ a ∈ fpa, a ∈ f ∨ a ∈ fp) ∧ Dis fpa fp' ∧ (∀ a, Fz' a → Fz a ∨ a ∈ f ∨ a ∈ fp) ∧ BearO σ is (lentV lent j vs)
  | [], _, f, fp, Fz, ρ, j, _, h, he, dj, hq => by
    obtain ⟨e1, e2⟩ := h
    subst e1 e2
    exact ⟨[], [], ρ, Fz, [], fp, hq, .refl, he, fun _ z => z, ⟨rfl, rfl⟩, (fun _ z => nomatch z), Dis.nil, fun _ z => .inl z, rfl⟩
  | o :: os, vs, f, fp, Fz, ρ, j, Q, h, he, dj, hq => by
    obtain ⟨v, vr, f1, f2, e, ef, h1, h2, dj2⟩ := h
    subst e ef
    unfold PL.args at hq
    by_cases hj : j ∈ lent
    · rw [if_pos hj] at hq
      cases o with
      | val d =>
        have h1 : Own K Fz H d v f1 := h1
        obtain ⟨ds, is, ρ', Fz', fpa, fp', q', r', e', sb', o', sa', dj', hz', b'⟩ := OpdsOk.args h2 he dj.right hq
        have ow : Own K Fz' H d v f1 := h1.stay r' (h2.fpO.app he.fpO) (Dis.app' dj2 dj.left)
        refine ⟨d :: ds, ρ'.length :: is, ρ', Fz', f1 ++ fpa, fp', q', r'.more fun a ha => ?_, e', sb', ⟨v, vr, f1, fpa, rfl, rfl, ow, o', fun a ha hb => (sa' a hb).elim (dj2 a ha) (dj.left a ha)⟩, fun a ha => ?_, ?_, fun a ha => ?_, ?_⟩
        · rcases List.mem_append.mp ha with z | z
          · exact List.mem_append_left _ (List.mem_append_right _ z)
          · exact List.mem_append_right _ z
        · rcases List.mem_append.mp ha with z | z
          · exact .inl (List.mem_append_left _ z)
          · exact (sa' a z).imp_left (List.mem_append_right _)
        · exact Dis.app (fun a ha hb => dj.left a ha (sb' a hb)) dj'
        · rcases hz' a ha with z | z | z
          · exact .inl z
          · exact .inr (.inl (List.mem_append_right _ z))
          · exact .inr (.inr z)
        · unfold lentV
          rw [if_pos hj]
          exact ⟨v, _, rfl, .inr (Nat.le_of_eq e'.len), b'⟩
      | late i =>
        cases ej : (ρ[i]?).join with
        | none => simp only [ej] at hq
        | some d =>
          simp only [ej] at hq
          have ed : ρ[i]? = some (some d) := by
            cases q : ρ[i]? with
            | none => rw [q] at ej; cases ej
            | some x => rw [q] at ej; cases x with
              | none => cases ej
              | some y => cases ej; rfl
          obtain ⟨v', g1, g2, k1, k2, k3, k4, k5⟩ := he.take ed
          obtain ⟨k0, kf⟩ := h1
          rw [k0] at k1; cases k1
          subst kf
          obtain ⟨ds, is, ρ', Fz', fpa, fp', q', r', e', sb', o', sa', dj', hz', b'⟩ := OpdsOk.args h2 k3 (fun a ha hb => dj.right a ha ((k5 a).mpr (.inr hb))) hq
          have ow : Own K Fz' H d v g1 := k2.stay r' (h2.fpO.app k3.fpO) (Dis.app' (fun a ha hb => dj.right a hb ((k5 a).mpr (.inl ha))) k4)
          refine ⟨d :: ds, i :: is, ρ', Fz', g1 ++ fpa, fp', q', r'.more fun a ha => ?_, e', fun a ha => (k5 a).mpr (.inr (sb' a ha)), ⟨v, vr, g1, fpa, rfl, rfl, ow, o', fun a ha hb => (sa' a hb).elim (fun z => dj.right a z ((k5 a).mpr (.inl ha))) (k4 a ha)⟩, fun a ha => ?_, ?_, fun a ha => ?_, ?_⟩
          · rcases List.mem_append.mp ha with z | z
            · exact List.mem_append_left _ (by simpa using z)
            · exact List.mem_append_right _ ((k5 a).mpr (.inr z))
          · rcases List.mem_append.mp ha with z | z
            · exact .inr ((k5 a).mpr (.inl z))
            · exact (sa' a z).imp (List.mem_append_right _) fun z => (k5 a).mpr (.inr z)
          · exact Dis.app (fun a ha hb => k4 a ha (sb' a hb)) dj'
          · rcases hz' a ha with z | z | z
            · exact .inl z
            · exact .inr (.inl (by simpa using z))
            · exact .inr (.inr ((k5 a).mpr (.inr z)))
          · unfold lentV
            rw [if_pos hj]
            exact ⟨v, _, rfl, .inl k0, b'⟩
    · rw [if_neg hj] at hq
      obtain ⟨x, ρ1, Fz1, fp1, q1, r1, e1, sb1, fr1, hz1⟩ := h1.fr he dj.left hq
      have hfp1 : Fp Fz H (f1 ++ fp) := h1.fpO.app he.fpO
      have h2' : OpdsOk K Fz1 H σ os vr f2 := h2.stay r1 hfp1 (Dis.app' dj2.symm dj.right)
      obtain ⟨ds, is, ρ', Fz', fpa, fp', q', r', e', sb', o', sa', dj', hz', b'⟩ := OpdsOk.args h2' e1 (fun a ha hb => dj.right a ha (sb1 a hb)) q1
      refine ⟨.p x :: ds, is, ρ', Fz', fpa, fp', q', ?_, e', fun a ha => sb1 a (sb' a ha), .p (fr1.stay r' (h2'.fpO.app e1.fpO)) o', fun a ha => (sa' a ha).imp (List.mem_append_right _) (sb1 a), dj', fun a z => ?_, ?_⟩
      · refine (r1.more fun a ha => ?_).trans (fun a ha => .inl ?_) r'
        · rcases List.mem_append.mp ha with z | z
          · exact List.mem_append_left _ (List.mem_append_left _ z)
          · exact List.mem_append_right _ z
        · rcases List.mem_append.mp ha with z | z
          · exact List.mem_append_left _ (List.mem_append_right _ z)
          · exact List.mem_append_right _ (sb1 a z)
      · rcases hz' a z with z | z | z
        · rcases hz1 a z with z | z | z
          · exact .inl z
          · exact .inr (.inl (List.mem_append_left _ z))
          · exact .inr (.inr z)
        · exact .inr (.inl (List.mem_append_right _ z))
        · exact .inr (.inr (sb1 a z))
      · unfold lentV
        rw [if_neg hj]
        exact b'
theorem putBack_ok {Fz : FzT} : ∀ {is : List Nat} {ls : List D} {vs : List V} {fl fp : List Addr} {ρ : Env'} {Q : Env' → Prop}, OwnE K Fz H ρ σ fp → OwnL K Fz H ls vs fl → Dis fl fp → BearO σ is vs → putBack ρ is ls Q →
    ∃ ρ' fp', Q ρ' ∧ OwnE K Fz H ρ' σ fp' ∧ ∀ a ∈ fp', a ∈ fl ∨ a ∈ fp
  | [], [], vs, fl, fp, ρ, Q, he, ho, dj, b, h => ⟨ρ, fp, h, he, fun _ z => .inr z⟩
  | [], d :: ds, vs, fl, fp, ρ, Q, he, ho, dj, b, h => (show False from h).elim
  | i :: is, [], vs, fl, fp, ρ, Q, he, ho, dj, b, h => (show False from h).elim
  | i :: is, d :: ds, vs, fl, fp, ρ, Q, he, ho, dj, b, h => by
    obtain ⟨v, vr, f1, f2, e, ef, o, ol, dj2⟩ := ho
    subst e ef
    obtain ⟨v', vr', e, hs, b⟩ := b
    cases e
    rcases hs with hs | hs
    case inr =>
      have es : ρ.set i (some d) = ρ := List.set_eq_of_length_le (by rw [← he.len]; exact hs)
      have h : putBack (ρ.set i (some d)) is ds Q := h
      rw [es] at h
      obtain ⟨ρ', fp', q, e2, sb2⟩ := putBack_ok he ol dj.right b h
      exact ⟨ρ', fp', q, e2, fun a ha => (sb2 a ha).imp_left (List.mem_append_right _)⟩
    have hi : i < ρ.length := by
      have := (List.getElem?_eq_some_iff.mp hs).1
      rw [he.len] at this
      exact this
    obtain ⟨f', e', sb⟩ := he.back hi hs o dj.left
    obtain ⟨ρ', fp', q, e2, sb2⟩ := putBack_ok (ρ := ρ.set i (some d)) e' ol (fun a ha hb => (sb a hb).elim (fun z => dj2 a z ha) (dj.right a ha)) b h
    refine ⟨ρ', fp', q, e2, fun a ha => ?_⟩
    rcases sb2 a ha with z | z
    · exact .inl (List.mem_append_right _ z)
    · exact (sb a z).imp_left (List.mem_append_left _)
end
/-- a def's promise -/
def spOf (K : PySem.W.Frag) (cls : Nat → Option Addr) (TB : List (Addr × Str)) (g : Fn) : Sp := fun vs H Q E => vs.length = g.n ∧ ∃ Fz fp ds Qp Xp, OwnL K Fz H ds vs fp ∧ (∀ a, Fz a → H a ≠ none) ∧ TbOk TB H ∧ g.run ds Qp Xp ∧
  (∀ r ls v H' Fz' fv fl, Qp r ls → Reach fp Fz H Fz' H' → Own K Fz' H' r v fv → OwnL K Fz' H' ls (lentV g.lent 0 vs) fl → Dis fv fl → Sub fp H fv → Sub fp H fl → Q v H') ∧ EL K cls E Xp fp Fz H
section
variable {X : Cx} {cls : Nat → Option Addr} {TB : List (Addr × Str)} {E : XK} {EX : Nat → P → Prop} {G : List Fn}
variable {e a b c : Expr} {es : List Expr} {t ta tb tc : T} {ts : List T} {pos : Pos}
/-- a def that may be called by its name -/
structure CallOk (X : Cx) (cls : Nat → Option Addr) (TB : List (Addr × Str)) (E : XK) (x : Str) (g : Fn) : Prop where
  ok : ∀ (e : Expr) (es : List Expr) (p pos : Pos) (t : TA), PA X (e :: es) t → starEach (e :: es) X.env = (false, eval e X.env) :: starEach es X.env → (backTo pos (starEach es X.env)).any (·.1) = false → PE X (.Call (.Name x p) (e :: es) [] pos) (tCall (spOf X.K cls TB g) [] E t)
  ok0 : ∀ (p pos : Pos), PE X (.Call (.Name x p) [] [] pos) (tCall (spOf X.K cls TB g) [] E tNil)
theorem call_end {f : Nat} {g : Fn} {σ : SL} {H : Hp} {Q : VK} (hG : G[f]? = some g) (h : LE X.K cls TB E EX (w G EX (.call f ts)) σ H Q) :
    LOs X.K cls TB E EX (wOs G EX ts) σ H fun vs H1 => spOf X.K cls TB g (vs ++ []) H1 Q E := by
  obtain ⟨ρ, Fz, fp, P', st, ⟨g', hg', hw⟩, k⟩ := h
  rw [hG] at hg'
  cases hg'
  refine ⟨ρ, Fz, fp, _, st, hw, fun os ρ1 vs H1 Fz1 f1 fp1 q1 s1 ok1 dj1 sb1 => ?_⟩
  obtain ⟨ds, is, ρ2, Fz2, fpa, fp2, ⟨hlen, hrun⟩, r2, e2, sb2, o2, sa2, dj2, hz2, b2⟩ := ok1.args s1.e dj1 q1
  have s2 : Stp X.K σ fp Fz H ρ2 Fz2 H1 fp2 := s1.fr r2 e2 sb2 sb1
  have r2' : Reach fp Fz H Fz2 H1 := s1.r.trans (sb1.app s1.s) r2
  have hsa : Sub fp H fpa := fun a ha => (sa2 a ha).elim (sb1 a) (s1.s a)
  rw [List.append_nil]
  refine ⟨by rw [o2.len]; exact hlen, Fz2, fpa, ds, _, EX, o2, (st.step s2).fl, (st.step s2).tb, hrun, fun r ls v H3 Fz3 fv fl hq r3 ov ol dj3 sv sl => ?_, st.el.step r2' hsa⟩
  have hfa : Fp Fz2 H1 fpa := o2.fp
  have e3 : OwnE X.K Fz3 H3 ρ2 σ fp2 := e2.stay r3 hfa dj2.symm
  have df : ∀ {g : List Addr}, Sub fpa H1 g → Dis g fp2 := fun {g} s a ha hb => (s a ha).elim (fun z => dj2 a z hb) fun z => e2.fpO.live hb z
  obtain ⟨ρ4, fp4, q4, e4, sb4⟩ := putBack_ok e3 ol (df sl) b2 hq
  have sub4 : ∀ {g : List Addr}, Sub fpa H1 g → Sub fp H g := fun {g} s => hsa.trans r2' s
  refine k r ρ4 v H3 Fz3 fv fp4 q4 ⟨r2'.trans hsa r3, e4, fun a ha => ?_⟩ ov (fun a ha hb => ?_) (sub4 sv)
  · rcases sb4 a ha with z | z
    · exact sub4 sl a z
    · exact s2.s a z
  · rcases sb4 a hb with z | z
    · exact dj3 a ha z
    · exact df sv a ha z
theorem r_call {x : Str} {p : Pos} {f : Nat} {g : Fn} (hG : G[f]? = some g) (hc : CallOk X cls TB E x g) (h : SEs X cls TB E EX G (e :: es) ts) : SE X cls TB E EX G (.Call (.Name x p) (e :: es) [] pos) (.call f ts) := by
  have he : starEach (e :: es) X.env = (false, eval e X.env) :: starEach es X.env := by cases h with | cons h _ => exact h.star es
  have hpl : (backTo pos (starEach es X.env)).any (·.1) = false := by cases h with | cons _ h => exact h.plain
  exact ⟨(hc.ok e es p pos _ h.pa he hpl).imp fun σ H Q q => call_end hG q, (fun i z => nomatch z), fun _ => rfl⟩
theorem r_call0 {x : Str} {p : Pos} {f : Nat} {g : Fn} (hG : G[f]? = some g) (hc : CallOk X cls TB E x g) : SE X cls TB E EX G (.Call (.Name x p) [] [] pos) (.call f []) := by
  refine ⟨(hc.ok0 p pos).imp fun σ H Q q => ?_, (fun i z => nomatch z), fun _ => rfl⟩
  obtain ⟨ρ, Fz, fp, P', st, hw, k⟩ := call_end (ts := []) hG q
  exact k [] ρ [] H Fz [] fp hw (.refl st.own) ⟨rfl, rfl⟩ Dis.nil Sub.nil
/-- a def: its promise by FnOk -/
theorem CallOk.of {k : Nat} {f : Addr} {fd : FuncData} {ps : List Str} {x : Str} {g : Fn} (F : FnOk X.prog X.w X.K X.mg X.base (L2N.CX X.prog X.w) k f fd ps (spOf X.K cls TB g)) (hr : Room k X.A) (hg : Gl X x) (hm : X.mg x = some (.ref f)) (hk : PySem.W.keepIn X.K (.ref f) = true)
    (hb : Binds X.K fd ps []) (hx : Passes (L2N.CX X.prog X.w) X E) (hdb : (x == ("__debug__" : Str)) = false) : CallOk X cls TB E x g :=
  ⟨fun e es p pos t ha he hpl => pe_call F hr hg hm hk hb .nil hx ha hdb he hpl, fun p pos => pe_call0 F hr hg hm hk hb .nil hx hdb⟩
end
end PL
set_option Elab.async false
set_option linter.all false
set_option maxRecDepth 100000
set_option maxHeartbeats 4000000
/-! What a loop walks. -/
namespace PL
open PySem PySem.Spec PyProof.Rows L2
variable [QN]
/-! ### enumerate of a tuple -/
theorem enumT_end {prog : Program} {w : World} {A : Around} {E : Value → Shared → Prop} {s : Shared} {e it l : Addr} {i : Nat} {items : Array Value} {old : Value} {Q : Option Value → Shared → Prop} (hh : A.handled = none)
    (he : IsEnum s.heap e it i old) (hit : s.heap.IsTupleIter it l i) (hl : s.heap.IsTuple l items) (hx : items[i]? = none)
    (hQ : ∀ h', Heap.ExtBut it s.heap h' → Q none { s with heap := h' }) : wpAny (model prog w) A (pyNext (.ref e)) Q E s := by
  have hT : s.TypeIs (.ref e) "enumerate" := ⟨_, he, rfl⟩
  unfold pyNext
  refine wpAny_bind (wpAny_attempt (wpAny_callSpecial?_slot (name := Str.ofString "__next__") hT F.slot_enumerate_next
    (wpAny_call_entry F.slot_enumerate_next hT F.entry_enumerate_next ?_ (F.args_enumerate_next_1 _))))
  show wpAny _ _ (field (.ref e) 2 >>= _) _ _ _
  refine wpAny_bind (wpAny_field he rfl (x := .ref it) rfl ?_)
  refine wpAny_bind (wpAny_nextOf_tuple_end (show A.in1.handled = none from hh) hit hl hx fun h' x he' hx' => ?_)
  obtain ⟨o, ho, hc⟩ := hx'
  refine wpAny_bind (wpAny_isInstance (T := "StopIteration") (b := true) ⟨o, ho, hc⟩ isSubtype_stop ?_)
  exact wpAny_pure (hQ _ he')
def IteT (K : PySem.W.Frag) (a : Addr) : It :=
  ⟨fun i H => ∃ xs x, SqT K H a xs ∧ xs[i]? = some x, fun i H v H' => ∃ T x, v = .ref T ∧ H T = none ∧ H' = upd H T (.tup [.int (i : Nat), x]) ∧ ∀ xs, SqT K H a xs → xs[i]? = some x, fun i H => ∃ xs, SqT K H a xs ∧ xs.length ≤ i⟩
theorem turn_enumT {P : Program} {w : World} {K : PySem.W.Frag} {elts : List Expr} {kk : Nat} {tpos : Pos} (a e it : Addr) :
    Turn P w K (.Tuple elts kk tpos) (IteT K a) [e, it] e (fun i h => (∃ old, IsEnum h e it ((i : Nat) : Int) old) ∧ h.IsTupleIter it a i ∧ e ≠ it) where
  mem := by simp
  obj := fun i h st b hb => by
    obtain ⟨⟨old, he⟩, ⟨o, ho, hc, hd⟩, hne⟩ := st
    have hb' : b = e ∨ b = it := by simpa using hb
    rcases hb' with z | z
    · subst z
      exact ⟨_, he, fun v q => by
        have q' : Data.fields _ = Data.cell v := q
        cases q'⟩
    · subst z
      exact ⟨o, ho, fun v q => by rw [hd] at q; cases q⟩
  keep := fun i h h' st k => by
    obtain ⟨⟨old, he⟩, hit, hne⟩ := st
    exact ⟨⟨old, k e (by simp) _ he⟩, hit.at fun o q => k it (by simp) o q, hne⟩
  item := by
    intro X hP hw hK hc i pins s σ H E I hf st hg
    subst hP hw hK
    obtain ⟨⟨old, he⟩, hit, hne⟩ := st
    obtain ⟨xs, x, hq, hx⟩ := hg
    obtain ⟨its, rv, p, hz⟩ := I.tuple hq
    obtain ⟨u, hu, ru⟩ := rv.get hx
    have hel : e < s.heap.objs.size := Heap.lt_size he
    have hil : it < s.heap.objs.size := by obtain ⟨_, q, _⟩ := hit; exact Heap.lt_size q
    have nai : a ≠ it := fun z => by
      obtain ⟨o, ho, hc1, _⟩ := hit
      obtain ⟨o2, ho2, hc2, _⟩ := id p
      rw [z, ho] at ho2
      cases ho2
      exact absurd (Value.type.inj (hc1.symm.trans hc2)) (by decide)
    have nea : e ≠ a := fun z => by
      obtain ⟨o2, ho2, hc2, _⟩ := id p
      rw [← z, he] at ho2
      cases ho2
      exact absurd (Value.type.inj hc2) (by decide)
    have D := Draws.tuple (prog := X.prog) (w := X.w) (A := X.A.in1) (show X.A.in1.handled = none from I.ok.hd hc) it a nai its.toArray
    refine wpAny_pyNext_enum_itemD D he ⟨hit, p⟩ (by
      have hlt := (List.getElem?_eq_some_iff.mp hu).1
      rw [List.size_toArray]; exact hlt) hne (by simp [hne, nea]) fun x' h' tk hP ho hst' hT hsz hk => ?_
    have ex : x' = u := by
      have hP : its.toArray[i]? = some x' := hP
      rw [List.getElem?_toArray, hu] at hP
      cases hP; rfl
    subst ex
    refine ⟨_, rfl, wpAny_letOwnedTupleGo_enum (s := { s with heap := h', toks := tk + 1 }) ho fun h'' he' sb => ?_⟩
    have hT2 : h''.get? s.heap.objs.size = some { cls := .type "tuple", data := .seq #[.int i tk, x'] } := (sb.2 _ (Nat.ne_of_gt hel)).trans hT
    have new : ObjOk X.prog X.w (upd H s.heap.objs.size (.tup [.int (i : Nat), x])) h'' s.heap.objs.size (.tup [.int (i : Nat), x]) :=
      ⟨by show 2 ≤ sizeLine; decide, [.int i tk, x'], .cons ⟨_, rfl⟩ (.cons ru .nil), ⟨_, hT2, rfl, _, rfl⟩⟩
    have I1 : Inv X pins σ (upd H s.heap.objs.size (.tup [.int (i : Nat), x])) { s with heap := h'', toks := tk + 1 } :=
      I.turnedNew (ch := [e, it]) (fun b ob hb q => (sb.2 b (fun z => hb (by simp [z]))).trans (hk b ob (fun z => hb (by simp [z])) (fun z => hb (by simp [z])) q)) hf (Nat.le_refl _) new
    refine ⟨.ref s.heap.objs.size, _, I1, rfl, ⟨_, x, rfl, I.hok.fresh (Nat.le_refl _), rfl, fun ys hy => by rw [I.tuple_inj hy hq]; exact hx⟩, ⟨⟨x', ?_⟩, hst'.1.at fun o q => (sb.2 it (Ne.symm hne)).trans q, hne⟩, fun b hb => ?_⟩
    · have e1 : ((i + 1 : Nat) : Int) = (i : Int) + 1 := by omega
      rw [e1]; exact he'
    · have hb' : b < s.heap.objs.size := by
        have e' : b = e ∨ b = it := by simpa using hb
        rcases e' with z | z
        · rw [z]; exact hel
        · rw [z]; exact hil
      rw [upd_ne (Nat.ne_of_lt hb')]
      exact (hf b hb).1
  done := by
    intro X hP hw hK hc i pins s σ H E I hf st hg
    subst hP hw hK
    obtain ⟨⟨old, he⟩, hit, hne⟩ := st
    obtain ⟨xs, hq, hx⟩ := hg
    obtain ⟨its, rv, p, hz⟩ := I.tuple hq
    obtain ⟨f0, f1, f2, f3, f4, f5⟩ := hf it (by simp)
    have hl := rv.length
    exact enumT_end (I.ok.hd hc) he hit p (by simp; omega) fun h' eb => ⟨rfl, I.turned (t' := s.toks) (fun b o hb q => eb b o hb q) f0 f1 f3 f4 f5⟩
  self := fun A i s Q E st h => let ⟨⟨_, he⟩, _⟩ := st; wpAny_pyIter_enum he h
set_option maxHeartbeats 8000000 in
theorem meets_enumB {v : Value} {o : Obj} {H : Heap → Prop} (B : Begins v o H) :
    Meets (Builtin.«enumerate.__new__» ⟨[.type "enumerate", v], []⟩) (fun _ R s => H s.heap ∧
      R (.ok (.ret (.ref (s.heap.push o).objs.size))) { s with heap := (s.heap.push o).push { cls := .type "enumerate", data := .fields #[.none, .bool false, .ref s.heap.objs.size, rawInt 0, .none, .none] } }) :=
  .of_wp fun prog w A R s h => by
    obtain ⟨hp, g, d, tk, os⟩ := s; obtain ⟨h1, h⟩ := h
    have hsub := sub_enumerate
    have q1 : ∀ {A' : Around} {E : Value → Shared → Prop} {Q : Value → Shared → Prop}, Q (.ref hp.objs.size) ⟨hp.push o, g, d, tk, os⟩ → wpAny (model prog w) A' (pyIter v) Q E ⟨hp, g, d, tk, os⟩ :=
      fun q => B.iter prog w _ _ ⟨hp, g, d, tk, os⟩ _ h1 q
    wp_walk using q1
    refine wpAny_stack_any fun st => wpAny_pure ?_
    split
    · rename_i c _ _ _ _ _
      cases (c == Value.type "enumerate")
      · wp_walk using q1
        exact ⟨_, rfl, h⟩
      · wp_walk using q1
        exact ⟨_, rfl, h⟩
    · wp_walk using q1
      exact ⟨_, rfl, h⟩
theorem call_enumT {prog : Program} {w : World} {A : Around} {E : Value → Shared → Prop} {s : Shared} {l : Addr} {items : Array Value} {Q : Value → Shared → Prop} (hL : s.heap.IsTuple l items)
    (h : ∀ h', IsEnum h' (s.heap.objs.size + 1) s.heap.objs.size 0 .none → h'.IsTupleIter s.heap.objs.size l 0 → h'.objs.size = s.heap.objs.size + 2 →
      (∀ b o, s.heap.get? b = some o → h'.get? b = some o) → Q (.ref (s.heap.objs.size + 1)) { s with heap := h' }) :
    wpAny (model prog w) A (call (.type "enumerate") [.ref l]) Q E s := by
  refine callType_new F.called_enumerate (by decide) (F.typeCall_enumerate_1 _) (F.newCall_enumerate_1 _) (fun obj => F.args_object_init_2 obj _) F.entry_enumerate_new
    (meets_enumB (begins_tuple l items)) ⟨hL, ?_⟩
  have hz : (s.heap.push { cls := .type "tuple_iterator", data := .fields #[.ref l, .int 0 0] }).objs.size = s.heap.objs.size + 1 := Heap.size_push ..
  show _ ∧ _
  rw [hz]
  have he : IsEnum ((s.heap.push { cls := .type "tuple_iterator", data := .fields #[.ref l, .int 0 0] }).push
      { cls := .type "enumerate", data := .fields #[.none, .bool false, .ref s.heap.objs.size, rawInt 0, .none, .none] }) (s.heap.objs.size + 1) s.heap.objs.size 0 .none := by
    have := Heap.get?_push_size (s.heap.push { cls := .type "tuple_iterator", data := .fields #[.ref l, .int 0 0] })
      (o := { cls := .type "enumerate", data := .fields #[.none, .bool false, .ref s.heap.objs.size, rawInt 0, .none, .none] }) rfl
    rw [hz] at this; exact this
  refine ⟨⟨_, he, rfl⟩, h _ he ⟨_, Heap.get?_push_of_some _ (Heap.get?_push_size _ rfl), rfl, rfl⟩ (by rw [Heap.size_push, hz]) fun b o x => Heap.get?_push_of_some _ (Heap.get?_push_of_some _ x)⟩
section
variable {X : Cx} {tg : Expr}
theorem _root_.L2.PI.imp {it : Expr} {t t' : TI} (h : PI X tg it t) (hi : ∀ σ H R, t' σ H R → t σ H R) : PI X tg it t' := ⟨fun pins s σ H R I q => h.run pins s σ H R I (hi σ H R q)⟩
def iEnumX (K : PySem.W.Frag) (ta : TA) : TI := fun σ H R => ta σ H fun vs H1 => ∃ a, vs = [.ref a] ∧ (((∃ xs, SqL K H1 a xs) ∧ R (Ite K a) H1) ∨ ((∃ xs, SqT K H1 a xs) ∧ R (IteT K a) H1))
theorem pi_enumX {e : Expr} {ta : TA} {p pos tpos : Pos} {elts : List Expr} {kk : Nat} (hg : Gl X "enumerate") (hm : X.mg "enumerate" = none) (ha : PA X [e] ta) (hs : starEach [e] X.env = [(false, eval e X.env)]) :
    PI X (.Tuple elts kk tpos) (.Call (.Name "enumerate" p) [e] [] pos) (iEnumX X.K ta) := by
  refine ⟨fun pins s σ H R I h => ?_⟩
  refine Call_ (ld_blt I hg hm boot_enumerate (PyProof.Rows.callWith_type1 (thn (ha.run pos pins s σ H _ I h) fun us s1 ⟨vs, H1, I1, r1, q1⟩ => ?_) hs rfl))
  obtain ⟨a, ex, q1⟩ := q1
  subst ex
  cases r1 with
  | cons r rr =>
    cases rr
    cases r
    have fresh : ∀ b, b ∈ [s1.heap.objs.size + 1, s1.heap.objs.size] → FpOk X pins H1 b := fun b hb => by
      have e' : b = s1.heap.objs.size + 1 ∨ b = s1.heap.objs.size := by simpa using hb
      have hle : s1.heap.objs.size ≤ b := by
        rcases e' with z | z
        · rw [z]; exact Nat.le_add_right _ _
        · rw [z]; exact Nat.le_refl _
      exact I1.fpOk hle (I1.hok.fresh hle)
    rcases q1 with ⟨⟨xs, hq⟩, q⟩ | ⟨⟨xs, hq⟩, q⟩
    · obtain ⟨its, rv, p', hz⟩ := I1.list hq
      refine call_enumerate_list p'.isList fun h' he hit hsz hk => wpAny_pyIter_enum he ?_
      have I2 : Inv X pins σ H1 { s1 with heap := h' } := I1.kept (t' := s1.toks) hk
      exact ⟨s1.heap.objs.size + 1, [s1.heap.objs.size + 1, s1.heap.objs.size], _, _, H1, rfl, I2, turn_enum a (s1.heap.objs.size + 1) s1.heap.objs.size, ⟨⟨.none, he⟩, hit, Nat.succ_ne_self _⟩, fresh, q⟩
    · obtain ⟨its, rv, p', hz⟩ := I1.tuple hq
      refine call_enumT p' fun h' he hit hsz hk => wpAny_pyIter_enum he ?_
      have I2 : Inv X pins σ H1 { s1 with heap := h' } := I1.kept (t' := s1.toks) hk
      exact ⟨s1.heap.objs.size + 1, [s1.heap.objs.size + 1, s1.heap.objs.size], _, _, H1, rfl, I2, turn_enumT a (s1.heap.objs.size + 1) s1.heap.objs.size, ⟨⟨.none, he⟩, hit, Nat.succ_ne_self _⟩, fresh, q⟩
def iSeq (K : PySem.W.Frag) (tl : TE) : TI := fun σ H R => tl σ H fun x H1 => ∃ a, x = .ref a ∧ (((∃ xs, SqL K H1 a xs) ∧ R (Itl K a) H1) ∨ ((∃ xs, SqT K H1 a xs) ∧ R (Itt K a) H1))
theorem pi_seq {l : Expr} {tl : TE} (hl : PE X l tl) : PI X tg l (iSeq X.K tl) := by
  refine ⟨fun pins s σ H R I h => ?_⟩
  refine thn (hl.run pins s σ H _ I h) fun v s1 ⟨x, H1, I1, r1, q1⟩ => ?_
  obtain ⟨a, e, q1⟩ := q1
  subst e
  cases r1
  rcases q1 with ⟨⟨xs, hq⟩, q⟩ | ⟨⟨xs, hq⟩, q⟩
  · obtain ⟨its, rv, p, hz⟩ := I1.list hq
    refine wpAny_pyIter_list p.isList ?_
    refine ⟨s1.heap.objs.size, [s1.heap.objs.size], _, _, H1, rfl, I1.kept (t' := s1.toks) fun b o e => Heap.get?_push_of_some _ e, turn_list a _, ⟨_, Heap.get?_push_size _ rfl, rfl, rfl⟩, fun b hb => ?_, q⟩
    have e : b = s1.heap.objs.size := by simpa using hb
    subst e
    exact I1.fpOk (Nat.le_refl _) (I1.hok.fresh (Nat.le_refl _))
  · obtain ⟨its, rv, p, hz⟩ := I1.tuple hq
    refine wpAny_pyIter_tuple (show s1.heap.IsTuple a its.toArray from p) ?_
    refine ⟨s1.heap.objs.size, [s1.heap.objs.size], _, _, H1, rfl, I1.kept (t' := s1.toks) fun b o e => Heap.get?_push_of_some _ e, turn_tuple a _, ⟨_, Heap.get?_push_size _ rfl, rfl, rfl⟩, fun b hb => ?_, q⟩
    have e : b = s1.heap.objs.size := by simpa using hb
    subst e
    exact I1.fpOk (Nat.le_refl _) (I1.hok.fresh (Nat.le_refl _))
end
/-! ### walks, by what is seen -/
def WalkP (K : PySem.W.Frag) (J : It) (xs : List P) (vs : List V) (its : List P) : Prop :=
  ∃ G Y, Walk J its.length G Y ∧ (∀ Fz H, Sees K Fz H xs vs → G H) ∧ ∀ Fz i H x H', Sees K Fz H xs vs → Y i H x H' → ∃ p, its[i]? = some p ∧ Reach [] Fz H Fz H' ∧ Fr K Fz H' p x
section
variable {K : PySem.W.Frag} {a : Addr}
theorem wL {n : Nat} : Walk (Itl K a) n (fun H => ∃ us, SqL K H a us ∧ us.length = n) (fun i H x H' => i < n ∧ H' = H ∧ ∀ us, SqL K H a us → us[i]? = some x) :=
  ⟨fun i _ hi ⟨us, q, hl⟩ => ⟨us, us[i], q, by simp⟩, fun _ ⟨us, q, hl⟩ => ⟨us, q, by omega⟩, fun _ _ _ _ hi q y => ⟨hi, y⟩⟩
theorem wT {n : Nat} : Walk (Itt K a) n (fun H => ∃ us, SqT K H a us ∧ us.length = n) (fun i H x H' => i < n ∧ H' = H ∧ ∀ us, SqT K H a us → us[i]? = some x) :=
  ⟨fun i _ hi ⟨us, q, hl⟩ => ⟨us, us[i], q, by simp⟩, fun _ ⟨us, q, hl⟩ => ⟨us, q, by omega⟩, fun _ _ _ _ hi q y => ⟨hi, y⟩⟩
theorem wE {n : Nat} : Walk (Ite K a) n (fun H => ∃ us, SqL K H a us ∧ us.length = n) (fun i H v H' => i < n ∧ ∃ T x, v = .ref T ∧ H T = none ∧ H' = upd H T (.tup [.int (i : Nat), x]) ∧ ∀ us, SqL K H a us → us[i]? = some x) :=
  ⟨fun i _ hi ⟨us, q, hl⟩ => ⟨us, us[i], q, by simp⟩, fun _ ⟨us, q, hl⟩ => ⟨us, q, by omega⟩, fun _ _ _ _ hi q y => ⟨hi, y⟩⟩
theorem wET {n : Nat} : Walk (IteT K a) n (fun H => ∃ us, SqT K H a us ∧ us.length = n) (fun i H v H' => i < n ∧ ∃ T x, v = .ref T ∧ H T = none ∧ H' = upd H T (.tup [.int (i : Nat), x]) ∧ ∀ us, SqT K H a us → us[i]? = some x) :=
  ⟨fun i _ hi ⟨us, q, hl⟩ => ⟨us, us[i], q, by simp⟩, fun _ ⟨us, q, hl⟩ => ⟨us, q, by omega⟩, fun _ _ _ _ hi q y => ⟨hi, y⟩⟩
theorem wp_list {ps : List P} : WalkP K (Itl K a) [.lst ps] [.ref a] ps := ⟨_, _, wL, fun Fz H s => by
    obtain ⟨v, e, s⟩ := s.one
    cases e
    obtain ⟨b, us, e, h1, h2⟩ := s.lst
    cases e
    exact ⟨us, .of h1, h2.len⟩, fun Fz i H x H' s y => by
    obtain ⟨v, e, s⟩ := s.one
    cases e
    obtain ⟨b, us, e, h1, h2⟩ := s.lst
    cases e
    obtain ⟨hi, e, y⟩ := y
    subst e
    obtain ⟨p, h3, h4⟩ := h2.get' (y us (.of h1))
    exact ⟨p, h3, .refl, h4⟩⟩
theorem wp_tup {ps : List P} : WalkP K (Itt K a) [.tup ps] [.ref a] ps := ⟨_, _, wT, fun Fz H s => by
    obtain ⟨v, e, s⟩ := s.one
    cases e
    obtain ⟨b, us, e, h1, h2⟩ := s.tup
    cases e
    exact ⟨us, h1, h2.len⟩, fun Fz i H x H' s y => by
    obtain ⟨v, e, s⟩ := s.one
    cases e
    obtain ⟨b, us, e, h1, h2⟩ := s.tup
    cases e
    obtain ⟨hi, e, y⟩ := y
    subst e
    obtain ⟨p, h3, h4⟩ := h2.get' (y us h1)
    exact ⟨p, h3, .refl, h4⟩⟩
theorem enum_get {ps : List P} {i : Nat} {p : P} (h : ps[i]? = some p) : ((List.range ps.length).zipWith (fun (j : Nat) x => P.tup [.int j, x]) ps)[i]? = some (.tup [.int i, p]) := by
  have hi := (List.getElem?_eq_some_iff.mp h).1
  rw [List.getElem?_zipWith, h, List.getElem?_range hi]
theorem enum_len {ps : List P} : ((List.range ps.length).zipWith (fun (j : Nat) x => P.tup [.int j, x]) ps).length = ps.length := by simp
theorem pair_new {Fz : FzT} {H : Hp} {T : Addr} {x y : P} {u v : V} (hT : H T = none) (hx : Fr K Fz H x u) (hy : Fr K Fz H y v) : Fr K Fz (upd H T (.tup [u, v])) (.tup [x, y]) (.ref T) :=
  ⟨T, [u, v], rfl, .of upd_same, u, [v], rfl, hx.new hT, v, [], rfl, hy.new hT, rfl⟩
theorem wp_enum {ps : List P} : WalkP K (Ite K a) [.lst ps] [.ref a] ((List.range ps.length).zipWith (fun (j : Nat) x => .tup [.int j, x]) ps) := ⟨_, _, wE, fun Fz H s => by
    obtain ⟨v, e, s⟩ := s.one
    cases e
    obtain ⟨b, us, e, h1, h2⟩ := s.lst
    cases e
    exact ⟨us, .of h1, by rw [enum_len]; exact h2.len⟩, fun Fz i H x H' s y => by
    obtain ⟨v, e, s⟩ := s.one
    cases e
    obtain ⟨b, us, e, h1, h2⟩ := s.lst
    cases e
    obtain ⟨hi, T, z, e1, hT, e2, y⟩ := y
    subst e1 e2
    obtain ⟨p, h3, h4⟩ := h2.get' (y us (.of h1))
    exact ⟨_, enum_get h3, .new hT, pair_new hT rfl h4⟩⟩
theorem wp_enumT {ps : List P} : WalkP K (IteT K a) [.tup ps] [.ref a] ((List.range ps.length).zipWith (fun (j : Nat) x => .tup [.int j, x]) ps) := ⟨_, _, wET, fun Fz H s => by
    obtain ⟨v, e, s⟩ := s.one
    cases e
    obtain ⟨b, us, e, h1, h2⟩ := s.tup
    cases e
    exact ⟨us, h1, by rw [enum_len]; exact h2.len⟩, fun Fz i H x H' s y => by
    obtain ⟨v, e, s⟩ := s.one
    cases e
    obtain ⟨b, us, e, h1, h2⟩ := s.tup
    cases e
    obtain ⟨hi, T, z, e1, hT, e2, y⟩ := y
    subst e1 e2
    obtain ⟨p, h3, h4⟩ := h2.get' (y us h1)
    exact ⟨_, enum_get h3, .new hT, pair_new hT rfl h4⟩⟩
theorem iota_get {lo : Int} {n i : Nat} (h : i < n) : (iota lo n)[i]? = some (.int (lo + i)) := by
  unfold iota
  rw [List.getElem?_map, List.getElem?_range h]; rfl
theorem iota_len {lo : Int} {n : Nat} : (iota lo n).length = n := by simp [iota]
theorem wp_range {lo : Int} {n : Nat} {xs : List P} {vs : List V} : WalkP K (Itr lo n) xs vs (iota lo n) := ⟨fun _ => True, fun i H x H' => i < n ∧ H' = H ∧ x = .int (lo + i), ⟨fun i H hi _ => by rw [iota_len] at hi; exact hi, fun H _ => by rw [iota_len]; exact Nat.le_refl _, fun i H x H' hi _ y => by rw [iota_len] at hi; exact ⟨hi, y.1, y.2⟩⟩, fun _ _ _ => True.intro, fun Fz i H x H' s y => by
    obtain ⟨hi, e1, e2⟩ := y
    subst e1 e2
    exact ⟨_, iota_get hi, .refl, rfl⟩⟩
theorem wp_zip {b : Addr} {ps qs : List P} : WalkP K (Itz K a b) [.lst ps, .lst qs] [.ref a, .ref b] (ps.zipWith (fun x y => .tup [x, y]) qs) := by
  refine ⟨fun H => ∃ us ws, SqL K H a us ∧ SqL K H b ws ∧ us.length = ps.length ∧ ws.length = qs.length, fun i H v H' => i < min ps.length qs.length ∧ ∃ T x y, v = .ref T ∧ H T = none ∧ H' = upd H T (.tup [x, y]) ∧ (∀ xs, SqL K H a xs → xs[i]? = some x) ∧ ∀ ys, SqL K H b ys → ys[i]? = some y, ⟨?_, ?_, ?_⟩, ?_, ?_⟩
  · intro i H hi ⟨us, ws, q1, q2, l1, l2⟩
    have hi : i < min ps.length qs.length := by simpa using hi
    have h1 : i < us.length := by omega
    have h2 : i < ws.length := by omega
    exact ⟨us, ws, us[i], ws[i], q1, q2, by simp [h1], by simp [h2]⟩
  · intro H ⟨us, ws, q1, q2, l1, l2⟩
    refine ⟨us, ws, q1, q2, ?_⟩
    rw [List.length_zipWith]
    omega
  · intro i H x H' hi _ y
    exact ⟨by simpa using hi, y⟩
  · intro Fz H s
    obtain ⟨v, u, e, s1, s2⟩ := s.two
    cases e
    obtain ⟨_, us, e, h1, h2⟩ := s1.lst
    cases e
    obtain ⟨_, ws, e, h3, h4⟩ := s2.lst
    cases e
    exact ⟨us, ws, .of h1, .of h3, h2.len, h4.len⟩
  · intro Fz i H x H' s y
    obtain ⟨v, u, e, s1, s2⟩ := s.two
    cases e
    obtain ⟨_, us, e, h1, h2⟩ := s1.lst
    cases e
    obtain ⟨_, ws, e, h3, h4⟩ := s2.lst
    cases e
    obtain ⟨hi, T, z1, z2, e1, hT, e2, y1, y2⟩ := y
    subst e1 e2
    obtain ⟨p, a3, a4⟩ := h2.get' (y1 us (.of h1))
    obtain ⟨q, b3, b4⟩ := h4.get' (y2 ws (.of h3))
    refine ⟨.tup [p, q], ?_, .new hT, pair_new hT a4 b4⟩
    rw [List.getElem?_zipWith, a3, b3]
end
end PL
set_option Elab.async false
set_option linter.all false
set_option maxRecDepth 100000
set_option maxHeartbeats 4000000
/-! Targets, comprehensions. -/
namespace PL
open PySem PySem.Spec PyProof.Rows L2
variable [QN]
/-! ### targets -/
mutual
def gT (K : PySem.W.Frag) : Tg → TG
  | .name i => gName i
  | .tup ts => gTup K ts.length (gTs K ts)
def gTs (K : PySem.W.Frag) : List Tg → TGs
  | [] => gNil
  | t :: ts => gCons (gT K t) (gTs K ts)
end
mutual
def nmT : Tg → List Nat
  | .name i => [i]
  | .tup ts => nmTs ts
def nmTs : List Tg → List Nat
  | [] => []
  | t :: ts => nmT t ++ nmTs ts
end
/-- behind an assignment to a target -/
structure Kept (K : PySem.W.Frag) (Fz : FzT) (H : Hp) (fx nm : List Nat) (σ : SL) (f : List Addr) (ρ' : Env') (σ' : SL) (f' : List Addr) : Prop where
  e : OwnE K Fz H ρ' σ' f'
  s : ∀ a ∈ f', a ∈ f
  len : σ'.length = σ.length
  out : ∀ j, j ∉ nm → σ'[j]? = σ[j]?
  fix : ∀ j ∈ fx, σ'[j]? = σ[j]?
section
variable {K : PySem.W.Frag} {Fz : FzT} {H : Hp} {fx : List Nat}
mutual
theorem tg_ok : ∀ (t : Tg) {x : P} {v : V} {ρ : Env'} {σ : SL} {f : List Addr} {Qρ : Env' → Prop} {Q : SL → Hp → Prop}, OwnE K Fz H ρ σ f → Fr K Fz H x v → tgS fx t x ρ Qρ →
    (∀ ρ' σ' f', Qρ ρ' → Kept K Fz H fx (nmT t) σ f ρ' σ' f' → Q σ' H) → gT K t v σ H Q
  | .name i, x, v, ρ, σ, f, Qρ, Q, he, hx, h, k => by
    obtain ⟨h1, h2, h3⟩ : i ∉ fx ∧ i < ρ.length ∧ Qρ (ρ.set i (some (.p x))) := h
    obtain ⟨f', e', s'⟩ := he.put (d := .p x) (v := v) (g := []) h2 ⟨rfl, hx⟩ Dis.nil
    refine k _ (σ.set i (some v)) f' h3 ⟨e', fun a ha => (s' a ha).elim (fun z => nomatch z) id, by simp, fun j hj => ?_, fun j hj => ?_⟩
    · have : i ≠ j := fun z => hj (by rw [z]; exact List.mem_cons_self ..)
      exact List.getElem?_set_ne this
    · have : i ≠ j := fun z => h1 (by rw [z]; exact hj)
      exact List.getElem?_set_ne this
  | .tup ts, x, v, ρ, σ, f, Qρ, Q, he, hx, h, k => by
    obtain ⟨xs, ex, hl, h⟩ : ∃ xs, x = .tup xs ∧ xs.length = ts.length ∧ tgsS fx ts xs ρ Qρ := h
    subst ex
    obtain ⟨a, vs, ev, ht, ho⟩ := hx
    exact ⟨a, vs, ev, ht, by rw [ho.len]; exact hl, tgs_ok ts he ho h k⟩
theorem tgs_ok : ∀ (ts : List Tg) {xs : List P} {vs : List V} {ρ : Env'} {σ : SL} {f : List Addr} {Qρ : Env' → Prop} {Q : SL → Hp → Prop}, OwnE K Fz H ρ σ f → FrL K Fz H xs vs → tgsS fx ts xs ρ Qρ →
    (∀ ρ' σ' f', Qρ ρ' → Kept K Fz H fx (nmTs ts) σ f ρ' σ' f' → Q σ' H) → gTs K ts vs σ H Q
  | [], xs, vs, ρ, σ, f, Qρ, Q, he, hx, h, k => by
    obtain ⟨e, h⟩ : xs = [] ∧ Qρ ρ := h
    subst e
    have e : vs = [] := hx
    subst e
    exact ⟨rfl, k ρ σ f h ⟨he, fun _ z => z, rfl, fun _ _ => rfl, fun _ _ => rfl⟩⟩
  | t :: ts, xs, vs, ρ, σ, f, Qρ, Q, he, hx, h, k => by
    obtain ⟨x, r, e, h⟩ : ∃ x r, xs = x :: r ∧ tgS fx t x ρ fun ρ1 => tgsS fx ts r ρ1 Qρ := h
    subst e
    obtain ⟨v, vr, e, h1, h2⟩ := hx
    subst e
    refine ⟨v, vr, rfl, tg_ok t he h1 h fun ρ1 σ1 f1 q1 k1 => tgs_ok ts k1.e h2 q1 fun ρ2 σ2 f2 q2 k2 => ?_⟩
    refine k ρ2 σ2 f2 q2 ⟨k2.e, fun a ha => k1.s a (k2.s a ha), k2.len.trans k1.len, fun j hj => ?_, fun j hj => (k2.fix j hj).trans (k1.fix j hj)⟩
    have hj : j ∉ nmT t ++ nmTs ts := hj
    rw [List.mem_append, not_or] at hj
    exact (k2.out j hj.2).trans (k1.out j hj.1)
end
/-! ### sources that stay -/
theorem OwnE.swap : ∀ {ρ : Env'} {σ σ' : SL} {f : List Addr}, OwnE K Fz H ρ σ f → σ'.length = σ.length → (∀ (j : Nat) d, ρ[j]? = some (some d) → σ'[j]? = σ[j]?) → OwnE K Fz H ρ σ' f
  | [], σ, σ', f, h, hl, _ => by
    obtain ⟨e1, e2⟩ := h
    subst e1 e2
    exact ⟨List.eq_nil_of_length_eq_zero hl, rfl⟩
  | none :: ρ, σ, σ', f, h, hl, hs => by
    obtain ⟨x, τ, e, o⟩ := h
    subst e
    cases σ' with
    | nil => simp at hl
    | cons y τ' => exact ⟨y, τ', rfl, OwnE.swap o (by simpa using hl) fun j d hj => by simpa using hs (j + 1) d (by simpa using hj)⟩
  | some d :: ρ, σ, σ', f, h, hl, hs => by
    obtain ⟨v, τ, f1, f2, e, ef, o, ol, dj⟩ := h
    subst e
    cases σ' with
    | nil => simp at hl
    | cons y τ' =>
      have ey : y = some v := by simpa using hs 0 d rfl
      subst ey
      exact ⟨v, τ', f1, f2, rfl, ef, o, OwnE.swap ol (by simpa using hl) fun j d hj => by simpa using hs (j + 1) d (by simpa using hj), dj⟩
theorem OpdOk.keep {o : Opd} {v : V} {ρ : Env'} {σ : SL} {f fp : List Addr} {A : P → Prop} (h : OpdOk K Fz H σ o v f) (he : OwnE K Fz H ρ σ fp) (dj : Dis f fp) (hq : vwO ρ o A) :
    ∃ x, See K Fz H x v ∧ A x ∧ ∀ Fz' H' ρ' σ' fp', Reach fp Fz H Fz' H' → OwnE K Fz' H' ρ' σ' fp' → (∀ b, brw ρ o = some b → ρ'[b.1]? = some (some b.2) ∧ σ'[b.1]? = σ[b.1]?) → See K Fz' H' x v := by
  unfold vwO at hq
  cases e : look ρ o with
  | none => rw [e] at hq; exact hq.elim
  | some d =>
    rw [e] at hq
    obtain ⟨g, h1, _⟩ := h.own he e
    refine ⟨frz d, ⟨d, g, h1, rfl⟩, hq, fun Fz' H' ρ' σ' fp' r e' hb => ?_⟩
    cases o with
    | val d' =>
      have e : d' = d := by simpa [look] using e
      subst e
      exact ⟨d', f, Own.stay r he.fpO h dj, rfl⟩
    | late i =>
      have ej : (ρ[i]?).join = some d := e
      have own : ∀ hb2 : brw ρ (.late i) = some (i, d), See K Fz' H' (frz d) v := fun hb2 => by
        obtain ⟨b1, b2⟩ := hb _ hb2
        obtain ⟨v', f1, k1, k2, _⟩ := e'.get b1
        rw [b2, h.1] at k1
        cases k1
        exact ⟨d, f1, k2, rfl⟩
      cases d with
      | p x => exact ⟨.p x, [], ⟨rfl, Fr.stay r he.fpO h1.2⟩, rfl⟩
      | lst xs => exact own (by simp only [brw, ej])
      | dic ks xs => exact own (by simp only [brw, ej])
theorem OpdsOk.keep {ρ : Env'} {σ : SL} {fp : List Addr} (he : OwnE K Fz H ρ σ fp) : ∀ {os : List Opd} {vs : List V} {f : List Addr} {A : List P → Prop}, OpdsOk K Fz H σ os vs f → Dis f fp → vwOs ρ os A →
    ∃ xs, Sees K Fz H xs vs ∧ A xs ∧ ∀ Fz' H' ρ' σ' fp', Reach fp Fz H Fz' H' → OwnE K Fz' H' ρ' σ' fp' → holds ρ' (brws ρ os) → (∀ b ∈ brws ρ os, σ'[b.1]? = σ[b.1]?) → Sees K Fz' H' xs vs
  | [], vs, f, A, h, dj, hq => ⟨[], h.1, hq, fun _ _ _ _ _ _ _ _ _ => h.1⟩
  | o :: os, vs, f, A, h, dj, hq => by
    obtain ⟨v, vr, f1, f2, e, ef, h1, h2, dj2⟩ := h
    subst ef
    obtain ⟨x, s1, q1, k1⟩ := h1.keep he dj.left (show vwO ρ o _ from hq)
    obtain ⟨xs, s2, q2, k2⟩ := OpdsOk.keep he h2 dj.right q1
    refine ⟨x :: xs, ⟨v, vr, e, s1, s2⟩, q2, fun Fz' H' ρ' σ' fp' r e' hb hs => ⟨v, vr, e, k1 Fz' H' ρ' σ' fp' r e' fun b eb => ?_, k2 Fz' H' ρ' σ' fp' r e' (fun b hb2 => hb b ?_) fun b hb2 => hs b ?_⟩⟩
    · have hm : b ∈ brws ρ (o :: os) := by unfold brws; rw [List.filterMap_cons, eb]; exact List.mem_cons_self ..
      exact ⟨hb b hm, hs b hm⟩
    · unfold brws at hb2 ⊢
      rw [List.filterMap_cons]
      split
      · exact hb2
      · exact List.mem_cons_of_mem _ hb2
    · unfold brws at hb2 ⊢
      rw [List.filterMap_cons]
      split
      · exact hb2
      · exact List.mem_cons_of_mem _ hb2
theorem itP_mono {k : ItK} {xs : List P} {A B : List P → Prop} (h : ∀ its, A its → B its) (q : itP k xs A) : itP k xs B := by
  unfold itP at q ⊢
  split at q
  all_goals first | exact h _ q | exact ⟨q.1, h _ q.2⟩ | exact q.elim
end
/-! ### sources -/
def LI (K : PySem.W.Frag) (cls : Nat → Option Addr) (TB : List (Addr × Str)) (E : XK) (EX : Nat → P → Prop) (k : ItK) (wo : Env' → (List Opd → Env' → Prop) → Prop) : TI := fun σ H R => ∃ ρ Fz fp P', Stt K cls TB E EX ρ σ Fz H fp ∧ wo ρ P' ∧
  ∀ os ρ1 vs H1 Fz1 fv fp1, P' os ρ1 → Stp K σ fp Fz H ρ1 Fz1 H1 fp1 → OpdsOk K Fz1 H1 σ os vs fv → Dis fv fp1 → Sub fp H fv → ∃ xs, Sees K Fz1 H1 xs vs ∧ itP k xs fun its => ∀ J, WalkP K J xs vs its → R J H1
structure ItOk (X : Cx) (cls : Nat → Option Addr) (TB : List (Addr × Str)) (E : XK) (EX : Nat → P → Prop) (G : List Fn) (tg iter : Expr) (k : ItK) (ts : List T) : Prop where
  pi : PI X tg iter (LI X.K cls TB E EX k (wOs G EX ts))
  fold : ∀ x, foldedSetIterable iter X.env x = pure x
section
variable {X : Cx} {cls : Nat → Option Addr} {TB : List (Addr × Str)} {E : XK} {EX : Nat → P → Prop} {G : List Fn}
variable {tg e a b c : Expr} {es : List Expr} {t ta tb tc : T} {ts : List T} {pos p tpos : Pos} {elts : List Expr} {kk : Nat}
theorem it_seq (h : SE X cls TB E EX G e t) (hf : ∀ x, foldedSetIterable e X.env x = pure x) : ItOk X cls TB E EX G tg e .seq [t] := by
  refine ⟨(pi_seq h.lo).imp fun σ H R ⟨ρ, Fz, fp, P', st, hw, k⟩ => ?_, hf⟩
  refine ⟨ρ, Fz, fp, _, st, hw, fun o ρ1 v H1 Fz1 f1 fp1 q1 s1 ok1 dj1 sb1 => ?_⟩
  obtain ⟨xs, sx, hq⟩ := k [o] ρ1 [v] H1 Fz1 f1 fp1 q1 s1 ⟨v, [], f1, [], rfl, by simp, ok1, ⟨rfl, rfl⟩, Dis.nil'⟩ dj1 sb1
  rcases xs with _ | ⟨x, _ | ⟨y, l⟩⟩
  · exact (show False from hq).elim
  · cases x <;> first | exact (show False from hq).elim | skip
    case tup ps =>
      obtain ⟨v', e, s⟩ := sx.one
      cases e
      obtain ⟨a, us, e, h1, h2⟩ := s.tup
      subst e
      exact ⟨a, rfl, .inr ⟨⟨us, h1⟩, hq _ wp_tup⟩⟩
    case lst ps =>
      obtain ⟨v', e, s⟩ := sx.one
      cases e
      obtain ⟨a, us, e, h1, h2⟩ := s.lst
      subst e
      exact ⟨a, rfl, .inl ⟨⟨us, .of h1⟩, hq _ wp_list⟩⟩
  · cases x <;> exact (show False from hq).elim
theorem SEs.one (h : SE X cls TB E EX G a ta) : SEs X cls TB E EX G [a] [ta] := .cons h .nil
theorem SEs.two (h : SE X cls TB E EX G a ta) (h2 : SE X cls TB E EX G b tb) : SEs X cls TB E EX G [a, b] [ta, tb] := .cons h (.cons h2 .nil)
theorem it_rng1 (hg : Gl X "range") (hm : X.mg "range" = none) (h : SE X cls TB E EX G a ta) : ItOk X cls TB E EX G tg (.Call (.Name "range" p) [a] [] pos) .rng1 [ta] := by
  refine ⟨(pi_range1 hg hm (SEs.one h).pa (h.star [])).imp fun σ H R ⟨ρ, Fz, fp, P', st, hw, k⟩ => ?_, fun _ => rfl⟩
  refine ⟨ρ, Fz, fp, _, st, hw, fun os ρ1 vs H1 Fz1 f1 fp1 q1 s1 ok1 dj1 sb1 => ?_⟩
  obtain ⟨xs, sx, hq⟩ := k os ρ1 vs H1 Fz1 f1 fp1 q1 s1 ok1 dj1 sb1
  rcases xs with _ | ⟨x, _ | ⟨y, l⟩⟩
  · exact (show False from hq).elim
  · cases x <;> first | exact (show False from hq).elim | skip
    case int n =>
      obtain ⟨v', e, s⟩ := sx.one
      have e2 := s.int
      subst e e2
      obtain ⟨⟨h1, h2⟩, hq⟩ := hq
      exact ⟨n, rfl, h1, h2, hq _ wp_range⟩
  · cases x <;> exact (show False from hq).elim
theorem it_rng2 (hg : Gl X "range") (hm : X.mg "range" = none) (h : SE X cls TB E EX G a ta) (h' : SE X cls TB E EX G b tb) : ItOk X cls TB E EX G tg (.Call (.Name "range" p) [a, b] [] pos) .rng2 [ta, tb] := by
  refine ⟨(pi_range2 hg hm (SEs.two h h').pa (by rw [h.star, h'.star]; rfl) (h'.star [])).imp fun σ H R ⟨ρ, Fz, fp, P', st, hw, k⟩ => ?_, fun _ => rfl⟩
  refine ⟨ρ, Fz, fp, _, st, hw, fun os ρ1 vs H1 Fz1 f1 fp1 q1 s1 ok1 dj1 sb1 => ?_⟩
  obtain ⟨xs, sx, hq⟩ := k os ρ1 vs H1 Fz1 f1 fp1 q1 s1 ok1 dj1 sb1
  rcases xs with _ | ⟨x, _ | ⟨y, _ | ⟨z, l⟩⟩⟩
  · exact (show False from hq).elim
  · cases x <;> exact (show False from hq).elim
  · cases x <;> first | exact (show False from hq).elim | skip
    case int n =>
      cases y <;> first | exact (show False from hq).elim | skip
      case int m =>
        obtain ⟨v, u, e, s, s'⟩ := sx.two
        have e2 := s.int
        have e3 := s'.int
        subst e e2 e3
        obtain ⟨h1, hq⟩ := hq
        exact ⟨n, m, rfl, h1, hq _ wp_range⟩
  · cases x <;> first | exact (show False from hq).elim | (cases y <;> exact (show False from hq).elim)
theorem it_enum (hg : Gl X "enumerate") (hm : X.mg "enumerate" = none) (h : SE X cls TB E EX G a ta) : ItOk X cls TB E EX G (.Tuple elts kk tpos) (.Call (.Name "enumerate" p) [a] [] pos) .enum [ta] := by
  refine ⟨(pi_enumX hg hm (SEs.one h).pa (h.star [])).imp fun σ H R ⟨ρ, Fz, fp, P', st, hw, k⟩ => ?_, fun _ => rfl⟩
  refine ⟨ρ, Fz, fp, _, st, hw, fun os ρ1 vs H1 Fz1 f1 fp1 q1 s1 ok1 dj1 sb1 => ?_⟩
  obtain ⟨xs, sx, hq⟩ := k os ρ1 vs H1 Fz1 f1 fp1 q1 s1 ok1 dj1 sb1
  rcases xs with _ | ⟨x, _ | ⟨y, l⟩⟩
  · exact (show False from hq).elim
  · cases x <;> first | exact (show False from hq).elim | skip
    case tup ps =>
      obtain ⟨v', e, s⟩ := sx.one
      obtain ⟨a, us, e2, h1, h2⟩ := s.tup
      subst e e2
      exact ⟨a, rfl, .inr ⟨⟨us, h1⟩, hq _ wp_enumT⟩⟩
    case lst ps =>
      obtain ⟨v', e, s⟩ := sx.one
      obtain ⟨a, us, e2, h1, h2⟩ := s.lst
      subst e e2
      exact ⟨a, rfl, .inl ⟨⟨us, .of h1⟩, hq _ wp_enum⟩⟩
  · cases x <;> exact (show False from hq).elim
theorem it_zip (hg : Gl X "zip") (hm : X.mg "zip" = none) (h : SE X cls TB E EX G a ta) (h' : SE X cls TB E EX G b tb) : ItOk X cls TB E EX G (.Tuple elts kk tpos) (.Call (.Name "zip" p) [a, b] [] pos) .zip [ta, tb] := by
  refine ⟨(RZ.pi_zipA hg hm (SEs.two h h').pa (h.star _) (SEs.one h').plain).imp fun σ H R ⟨ρ, Fz, fp, P', st, hw, k⟩ => ?_, fun _ => rfl⟩
  refine ⟨ρ, Fz, fp, _, st, hw, fun os ρ1 vs H1 Fz1 f1 fp1 q1 s1 ok1 dj1 sb1 => ?_⟩
  obtain ⟨xs, sx, hq⟩ := k os ρ1 vs H1 Fz1 f1 fp1 q1 s1 ok1 dj1 sb1
  rcases xs with _ | ⟨x, _ | ⟨y, _ | ⟨z, l⟩⟩⟩
  · exact (show False from hq).elim
  · cases x <;> exact (show False from hq).elim
  · cases x <;> first | exact (show False from hq).elim | skip
    case lst ps =>
      cases y <;> first | exact (show False from hq).elim | skip
      case lst qs =>
        obtain ⟨v, u, e, s, s'⟩ := sx.two
        obtain ⟨a, us, e2, h1, h2⟩ := s.lst
        obtain ⟨b, ws, e3, h3, h4⟩ := s'.lst
        subst e e2 e3
        exact ⟨a, b, us, ws, rfl, .inl ⟨.of h1, .of h3, hq _ wp_zip⟩⟩
  · cases x <;> first | exact (show False from hq).elim | (cases y <;> exact (show False from hq).elim)
end
end PL
set_option Elab.async false
set_option linter.all false
set_option maxRecDepth 100000
set_option maxHeartbeats 4000000
/-! Comprehensions. -/
namespace PL
open PySem PySem.Spec PyProof.Rows L2
variable [QN]
theorem wipe_get_in : ∀ {vs : List Nat} {σ : SL} {j : Nat}, j ∈ vs → j < σ.length → (wipe σ vs)[j]? = some none
  | v :: vs, σ, j, h, hl => by
    show ((wipe σ vs).set v none)[j]? = some none
    by_cases e : v = j
    · subst e
      rw [List.getElem?_set_self (by rw [wipe_length]; exact hl)]
    · rw [List.getElem?_set_ne e]
      exact wipe_get_in ((List.mem_cons.mp h).resolve_left fun z => e z.symm) hl
theorem wipe_get_out : ∀ {vs : List Nat} {σ : SL} {j : Nat}, j ∉ vs → (wipe σ vs)[j]? = σ[j]?
  | [], σ, j, _ => rfl
  | v :: vs, σ, j, h => by
    show ((wipe σ vs).set v none)[j]? = _
    rw [List.mem_cons, not_or] at h
    rw [List.getElem?_set_ne (fun e => h.1 e.symm)]
    exact wipe_get_out h.2
theorem wipe_eq {vs : List Nat} {σ σ2 : SL} (hl : σ2.length = (wipe σ vs).length) (h : ∀ j, j ∉ vs → σ2[j]? = (wipe σ vs)[j]?) : wipe σ2 vs = wipe σ vs := by
  apply List.ext_getElem?
  intro j
  rw [wipe_length] at hl
  by_cases hj : j ∈ vs
  · by_cases hlt : j < σ.length
    · rw [wipe_get_in hj hlt, wipe_get_in hj (by rw [hl]; exact hlt)]
    · rw [List.getElem?_eq_none (by rw [wipe_length]; omega), List.getElem?_eq_none (by rw [wipe_length]; omega)]
  · rw [wipe_get_out hj, h j hj]
theorem wip_in : ∀ {vs : List Nat} {ρ : Env'} {j : Nat}, j ∈ vs → ∀ d, (wip ρ vs)[j]? ≠ some (some d)
  | v :: vs, ρ, j, h, d => by
    show ((wip ρ vs).set v none)[j]? ≠ _
    by_cases e : v = j
    · subst e
      by_cases hl : v < (wip ρ vs).length
      · rw [List.getElem?_set_self hl]; intro z; cases z
      · rw [List.getElem?_eq_none (by rw [List.length_set]; omega)]; intro z; cases z
    · rw [List.getElem?_set_ne e]
      exact wip_in ((List.mem_cons.mp h).resolve_left fun z => e z.symm) d
theorem wip_out : ∀ {vs : List Nat} {ρ : Env'} {j : Nat} {d : D}, (wip ρ vs)[j]? = some (some d) → ρ[j]? = some (some d) ∧ j ∉ vs
  | [], ρ, j, d, h => ⟨h, by simp⟩
  | v :: vs, ρ, j, d, h => by
    have h : ((wip ρ vs).set v none)[j]? = some (some d) := h
    by_cases e : v = j
    · subst e
      by_cases hl : v < (wip ρ vs).length
      · rw [List.getElem?_set_self hl] at h; cases h
      · rw [List.getElem?_eq_none (by rw [List.length_set]; omega)] at h; cases h
    · rw [List.getElem?_set_ne e] at h
      obtain ⟨h1, h2⟩ := wip_out h
      exact ⟨h1, by rw [List.mem_cons, not_or]; exact ⟨fun z => e z.symm, h2⟩⟩
theorem wip_get : ∀ {vs : List Nat} {ρ : Env'} {j : Nat}, j ∉ vs → (wip ρ vs)[j]? = ρ[j]?
  | [], ρ, j, _ => rfl
  | v :: vs, ρ, j, h => by
    show ((wip ρ vs).set v none)[j]? = _
    rw [List.mem_cons, not_or] at h
    rw [List.getElem?_set_ne (fun e => h.1 e.symm)]
    exact wip_get h.2
theorem brws_holds {ρ : Env'} {os : List Opd} : holds ρ (brws ρ os) := fun b hb => by
  obtain ⟨o, _, e⟩ := List.mem_filterMap.mp hb
  cases o with
  | val d => cases e
  | late i =>
    have e : (match (ρ[i]?).join with | some (.p _) => none | some d => some (i, d) | none => none) = some b := e
    cases q : (ρ[i]?).join with
    | none => rw [q] at e; cases e
    | some d =>
      have ed : ρ[i]? = some (some d) := by
        cases q2 : ρ[i]? with
        | none => rw [q2] at q; cases q
        | some x => rw [q2] at q; cases x with
          | none => cases q
          | some y => cases q; rfl
      rw [q] at e
      cases d <;> cases e <;> exact ed
section
variable {K : PySem.W.Frag} {Fz : FzT} {H : Hp}
theorem OwnE.wip : ∀ {vs : List Nat} {ρ : Env'} {σ : SL} {f : List Addr}, OwnE K Fz H ρ σ f → ∃ f', OwnE K Fz H (PL.wip ρ vs) (wipe σ vs) f' ∧ ∀ a ∈ f', a ∈ f
  | [], ρ, σ, f, h => ⟨f, h, fun _ z => z⟩
  | v :: vs, ρ, σ, f, h => by
    obtain ⟨f1, h1, s1⟩ := OwnE.wip (vs := vs) h
    obtain ⟨f2, h2, s2⟩ := h1.drop' (σ' := (wipe σ vs).set v none) v (fun j hj => List.getElem?_set_ne (Ne.symm hj)) (by simp)
    exact ⟨f2, h2, fun a ha => s1 a (s2 a ha)⟩
end
section
variable {X : Cx} {cls : Nat → Option Addr} {TB : List (Addr × Str)} {E : XK} {EX : Nat → P → Prop} {G : List Fn}
variable {tg e a b c elt iter : Expr} {es ifs : List Expr} {t ta tb tc te : T} {ts : List T} {pos : Pos}
/-- the test of a comprehension -/
inductive SCond (X : Cx) (cls : Nat → Option Addr) (TB : List (Addr × Str)) (E : XK) (EX : Nat → P → Prop) (G : List Fn) : List Expr → T → Prop
  | nil : SCond X cls TB E EX G [] (.bl true)
  | one {c : Expr} {t : T} : ST X cls TB E EX G c t → SCond X cls TB E EX G [c] t
theorem SCond.pts (h : SCond X cls TB E EX G ifs tc) : PTs X ifs (LT X.K cls TB E EX (w G EX tc)) := by
  cases h with
  | nil =>
    refine ⟨fun pins s σ H Q I h => ?_⟩
    refine pts_nil.run pins s σ H Q I ?_
    obtain ⟨ρ, Fz, fp, P', st, hw, k⟩ := h
    obtain ⟨b, e, q⟩ := k _ ρ H Fz fp hw (.refl st.own)
    cases e
    exact q
  | one h => exact pts_one h
theorem EL0 {K : PySem.W.Frag} {fp : List Addr} {Fz : FzT} {H : Hp} : EL K cls E EX0 fp Fz H := fun _ _ h => h.elim
theorem lc_read {tgt : Tg} {k : ItK} {vs : List Nat} (hin : ∀ j ∈ nmT tgt, j ∈ vs) {σ : SL} {H : Hp} {Q : VK} (q : LE X.K cls TB E EX (w G EX (.lc te tgt k ts tc vs)) σ H Q) :
    tLc (LI X.K cls TB E EX k (wOs G EX ts)) (gT X.K tgt) (LT X.K cls TB E0 EX0 (w G EX0 tc)) (LE X.K cls TB E0 EX0 (w G EX0 te)) vs σ H Q := by
  obtain ⟨ρ, Fz, fp, P', st, hw, kk⟩ := q
  refine ⟨ρ, Fz, fp, _, st, hw, fun os ρ1 us H1 Fz1 f1 fp1 ⟨hb, q1⟩ s1 ok1 dj1 sb1 => ?_⟩
  obtain ⟨xs, sx, hq, keep⟩ := ok1.keep s1.e dj1 q1
  refine ⟨xs, sx, itP_mono (fun its hl => ?_) hq⟩
  intro J ⟨GG, YY, wk, hG, hY⟩ D hD
  have st1 := st.step s1
  have bsE : ∀ {σ2 : SL}, (∀ j, j ∉ vs → σ2[j]? = σ[j]?) → ∀ b ∈ brws ρ1 os, σ2[b.1]? = σ[b.1]? := fun h b hbm => h b.1 (hb b hbm)
  let Pv : Nat → Hp → Prop := fun i H' => ∃ ρi Fzi fpi acc accV, lcT tgt (fun r q => w G EX0 tc r q) (fun r q => w G EX0 te r q) vs (brws ρ1 os) (its.drop i) acc ρi (fun acc ρ2 => P' (.lst acc) ρ2) ∧
    Reach fp1 Fz1 H1 Fzi H' ∧ OwnE X.K Fzi H' ρi (wipe σ vs) fpi ∧ Sub fp1 H1 fpi ∧ D ∉ fpi ∧ ¬ Fzi D ∧ H' D = some (.lst accV) ∧ FrL X.K Fzi H' acc accV ∧ holds ρi (brws ρ1 os) ∧ ∀ j ∈ vs, ∀ d, ρi[j]? ≠ some (some d)
  have sees : ∀ {i H'}, Pv i H' → ∃ Fzi, Sees X.K Fzi H' xs us := fun {i H'} ⟨ρi, Fzi, fpi, acc, accV, _, r, e, sb, _, _, _, _, hh, _⟩ =>
    ⟨Fzi, keep Fzi H' ρi (wipe σ vs) fpi r e hh (bsE fun j hj => wipe_get_out hj)⟩
  refine lc_it wk Pv ?_ (fun i H' _ h => by obtain ⟨Fzi, s⟩ := sees h; exact hG Fzi H' s) ?_ ?_
  · obtain ⟨f', e', s'⟩ := s1.e.wip (vs := vs)
    have nfp : D ∉ fp1 := fun z => s1.e.fpO.live z hD
    refine ⟨PL.wip ρ1 vs, Fz1, f', [], [], by rw [List.drop_zero]; exact hl, .new hD, e'.stay (Reach.new (fp := []) hD) Fp.nil Dis.nil', fun a ha => .inl (s' a ha), fun z => nfp (s' _ z), fun z => st1.fl D z hD, upd_same, rfl, fun b hbm => ?_, fun j hj d => wip_in hj d⟩
    rw [wip_get (hb b hbm)]
    exact brws_holds b hbm
  · intro i x H2 H3 hi2 hp hy
    obtain ⟨Fz2, se⟩ := sees hp
    obtain ⟨ρi, Fzi, fpi, acc, accV, hl2, r, e, sb, nD, nF, hDv, hfr, hh, hnone⟩ := hp
    have se : Sees X.K Fzi H2 xs us := keep Fzi H2 ρi (wipe σ vs) fpi r e hh (bsE fun j hj => wipe_get_out hj)
    obtain ⟨p, hp1, r3, fx⟩ := hY Fzi i H2 x H3 se hy
    have ed : its.drop i = p :: its.drop (i + 1) := List.drop_eq_getElem?_toList_append.trans (by rw [hp1]; rfl)
    rw [ed] at hl2
    have e3 : OwnE X.K Fzi H3 ρi (wipe σ vs) fpi := e.stay r3 Fp.nil Dis.nil'
    have hD3 : H3 D = some (.lst accV) := r3.keep D _ hDv (fun z => nomatch z) (fun _ z => by cases z)
    have r13 : Reach fp1 Fz1 H1 Fzi H3 := r.trans sb (r3.more fun _ z => nomatch z)
    have hfr3 := hfr.stay r3 Fp.nil
    refine tg_ok tgt e3 fx hl2 fun ρ' σ' f' hq' kp => ?_
    have ew : wipe σ' vs = wipe σ vs := wipe_eq kp.len fun j hj => kp.out j fun z => hj (hin j z)
    refine ⟨ew, ?_⟩
    have stt : ∀ {ρ2 : Env'} {Fz4 : FzT} {H4 : Hp} {fp4 : List Addr} {σ2 : SL}, Reach fp1 Fz1 H1 Fz4 H4 → OwnE X.K Fz4 H4 ρ2 σ2 fp4 → Stt X.K cls TB E0 EX0 ρ2 σ2 Fz4 H4 fp4 := fun {ρ2 Fz4 H4 fp4 σ2} r4 e4 =>
      ⟨e4, EL0, r4.tb st1.tb, fun a z => (r4.live a z).elim (fun z y => st1.fl a z (r4.dom a y)) id⟩
    have sbf : Sub fp1 H1 f' := fun a ha => sb a (kp.s a ha)
    refine ⟨ρ', Fzi, f', _, stt r13 kp.e, hq', fun d ρ2 H4 Fz4 fp4 hd s4 => ?_⟩
    obtain ⟨b, ed, hd⟩ := hd
    have nDf : D ∉ f' := fun z => nD (kp.s D z)
    have hD4 : H4 D = some (.lst accV) := s4.r.keep D _ hD3 nDf (fun _ z => by cases z)
    have nF4 : ¬ Fz4 D := fun z => (s4.r.fz' D z).elim nF fun z => z.elim nDf fun z => by rw [hD3] at z; cases z
    have nD4 : D ∉ fp4 := fun z => (s4.s D z).elim nDf fun z => by rw [hD3] at z; cases z
    have hfr4 := hfr3.stay s4.r kp.e.fpO
    have r14 : Reach fp1 Fz1 H1 Fz4 H4 := r13.trans sbf s4.r
    have sb4 : Sub fp1 H1 fp4 := sbf.trans r13 s4.s
    refine ⟨b, ed, ?_⟩
    cases b with
    | false =>
      rw [if_neg Bool.false_ne_true] at hd
      obtain ⟨hh4, hl4⟩ := hd
      obtain ⟨f5, e5, s5⟩ := s4.e.wip (vs := vs)
      rw [ew] at e5
      exact ⟨PL.wip ρ2 vs, Fz4, f5, acc, accV, hl4, r14, e5, fun a ha => sb4 a (s5 a ha), fun z => nD4 (s5 D z), nF4, hD4, hfr4, hh4, fun j hj d => wip_in hj d⟩
    | true =>
      rw [if_pos rfl] at hd
      refine ⟨ρ2, Fz4, fp4, _, stt r14 s4.e, hd, fun d ρ3 v H5 Fz5 fv fp5 hd5 s5 ov dv sv => ?_⟩
      obtain ⟨hz, hh5, hl5⟩ := hd5
      have hD5 : H5 D = some (.lst accV) := s5.r.keep D _ hD4 nD4 (fun _ z => by cases z)
      have nF5 : ¬ Fz5 D := fun z => (s5.r.fz' D z).elim nF4 fun z => z.elim nD4 fun z => by rw [hD4] at z; cases z
      have nD5 : D ∉ fp5 := fun z => (s5.s D z).elim nD4 fun z => by rw [hD4] at z; cases z
      have nDv : D ∉ fv := fun z => (sv D z).elim nD4 fun z => by rw [hD4] at z; cases z
      have hfr5 := hfr4.stay s5.r s4.e.fpO
      refine ⟨accV, hD5, by rw [hfr5.len]; exact hz, ?_⟩
      have fpD : Fp (FzPlus Fz5 fv) H5 [D] := fun a ha => by
        have e : a = D := by simpa using ha
        subst e; exact ⟨fun z => z.elim nF5 nDv, _, hD5, True.intro⟩
      have rf : Reach fv Fz5 H5 (FzPlus Fz5 fv) H5 := .freeze (fun a ha => ha) ov.fp
      have rw1 : Reach [D] (FzPlus Fz5 fv) H5 (FzPlus Fz5 fv) (upd H5 D (.lst (accV ++ [v]))) := .write (List.mem_cons_self ..) hD5 True.intro
      have fv5 : Fr X.K (FzPlus Fz5 fv) H5 (frz d) v := ov.frz (fun _ z => .inl z) fun _ z => .inr z
      have e6 : OwnE X.K (FzPlus Fz5 fv) (upd H5 D (.lst (accV ++ [v]))) ρ3 σ' fp5 := (s5.e.stay rf ov.fp dv.symm).stay rw1 fpD fun a ha hb => by
        have e : a = D := by simpa using hb
        subst e; exact nD5 ha
      obtain ⟨f7, e7, s7⟩ := e6.wip (vs := vs)
      rw [ew] at e7
      have r15 : Reach fp1 Fz1 H1 Fz5 H5 := r14.trans sb4 s5.r
      have sb5 : Sub fp1 H1 fp5 := sb4.trans r14 s5.s
      refine ⟨PL.wip ρ3 vs, FzPlus Fz5 fv, f7, acc ++ [frz d], accV ++ [v], hl5, (r15.trans (sb4.trans r14 sv) rf).trans (fun a ha => ?_) rw1, e7, fun a ha => sb5 a (s7 a ha), fun z => nD5 (s7 D z), fun z => z.elim nF5 nDv, upd_same, ?_, hh5, fun j hj d => wip_in hj d⟩
      · have e : a = D := by simpa using ha
        subst e; exact .inr hD
      · exact ((hfr5.stay rf ov.fp).append (.one fv5)).stay rw1 fpD
  · intro H2 ⟨ρi, Fzi, fpi, acc, accV, hl2, r, e, sb, nD, nF, hDv, hfr, hh, hnone⟩
    have ed : its.drop its.length = [] := by simp
    rw [ed] at hl2
    have hl2 : P' (.lst acc) ρi := hl2
    have e2 : OwnE X.K Fzi H2 ρi σ fpi := e.swap (by rw [wipe_length]) fun j d hj => by
      by_cases hjv : j ∈ vs
      · exact absurd hj (hnone j hjv d)
      · exact (wipe_get_out hjv).symm
    exact kk (.lst acc) ρi (.ref D) H2 Fzi [D] fpi hl2 (s1.trans ⟨r, e2, sb⟩) ⟨D, accV, rfl, rfl, hDv, nF, hfr⟩ (fun a ha hb => by
      have e : a = D := by simpa using ha
      subst e; exact nD hb) fun a ha => by
      have e : a = D := by simpa using ha
      subst e; exact .inr (s1.r.dom _ hD)
theorem r_lc {scope : Scope} {own : List (Str × Nat)} {tgt : Tg} {k : ItK} (hc : X.calm = true) (hN : X.N.Nodup) (hi : ItOk X cls TB E EX G tg iter k ts) (ok : BlkOk X.N X.env.scope scope own) (hin : ∀ j ∈ nmT tgt, j ∈ own.map (·.2))
    (hg : ∀ (s : Shared) (H : Hp) (C : Addr) (cl : List (Str × Addr)) (fp : List Addr), PG (X.blk s H scope (compEnvC scope cl C X.env) fp) tg (gT X.K tgt))
    (ht : ∀ (s : Shared) (H : Hp) (C : Addr) (cl : List (Str × Addr)) (fp : List Addr), SCond (X.blk s H scope (compEnvC scope cl C X.env) fp) cls TB E0 EX0 G ifs tc)
    (he : ∀ (s : Shared) (H : Hp) (C : Addr) (cl : List (Str × Addr)) (fp : List Addr), SE (X.blk s H scope (compEnvC scope cl C X.env) fp) cls TB E0 EX0 G elt te) :
    SE X cls TB E EX G (.ListComp elt [⟨tg, iter, ifs, 0⟩] scope pos) (.lc te tgt k ts tc (own.map (·.2))) :=
  ⟨(pe_lc hc hN hi.pi ok hg (tt := LT X.K cls TB E0 EX0 (w G EX0 tc)) (fun s H C cl fp => (ht s H C cl fp).pts) (te := LE X.K cls TB E0 EX0 (w G EX0 te)) (fun s H C cl fp => (he s H C cl fp).pe) hi.fold).imp fun σ H Q q => lc_read hin q, (fun i z => nomatch z), fun _ => rfl⟩
end
end PL
set_option Elab.async false
set_option linter.all false
set_option maxRecDepth 100000
set_option maxHeartbeats 4000000
/-! Statements. -/
namespace PL
open PySem PySem.Spec PyProof.Rows L2
variable [QN]
/-- a step of statements -/
structure StpS (K : PySem.W.Frag) (fx : List Nat) (σ : SL) (fp : List Addr) (Fz : FzT) (H : Hp) (ρ : Env') (σ' : SL) (Fz' : FzT) (H' : Hp) (fp' : List Addr) : Prop where
  r : Reach fp Fz H Fz' H'
  e : OwnE K Fz' H' ρ σ' fp'
  s : Sub fp H fp'
  len : σ'.length = σ.length
  fix : ∀ j ∈ fx, σ'[j]? = σ[j]?
section
variable {K : PySem.W.Frag} {cls : Nat → Option Addr} {TB : List (Addr × Str)} {E : XK} {EX : Nat → P → Prop} {fx fx' : List Nat} {ρ ρ1 ρ2 : Env'} {σ σ1 σ2 : SL} {Fz Fz1 Fz2 : FzT} {H H1 H2 : Hp} {fp fp1 fp2 : List Addr}
theorem Stp.toS (p : Stp K σ fp Fz H ρ1 Fz1 H1 fp1) : StpS K fx σ fp Fz H ρ1 σ Fz1 H1 fp1 := ⟨p.r, p.e, p.s, rfl, fun _ _ => rfl⟩
theorem StpS.trans (p : StpS K fx σ fp Fz H ρ1 σ1 Fz1 H1 fp1) (q : StpS K fx σ1 fp1 Fz1 H1 ρ2 σ2 Fz2 H2 fp2) : StpS K fx σ fp Fz H ρ2 σ2 Fz2 H2 fp2 :=
  ⟨p.r.trans p.s q.r, q.e, p.s.trans p.r q.s, q.len.trans p.len, fun j hj => (q.fix j hj).trans (p.fix j hj)⟩
theorem StpS.less (p : StpS K fx σ fp Fz H ρ1 σ1 Fz1 H1 fp1) (h : ∀ j ∈ fx', j ∈ fx) : StpS K fx' σ fp Fz H ρ1 σ1 Fz1 H1 fp1 := ⟨p.r, p.e, p.s, p.len, fun j hj => p.fix j (h j hj)⟩
theorem Stt.stepS (h : Stt K cls TB E EX ρ σ Fz H fp) (p : StpS K fx σ fp Fz H ρ1 σ1 Fz1 H1 fp1) : Stt K cls TB E EX ρ1 σ1 Fz1 H1 fp1 :=
  ⟨p.e, h.el.step p.r p.s, p.r.tb h.tb, fun a z => (p.r.live a z).elim (fun z y => h.fl a z (p.r.dom a y)) id⟩
end
section
variable (K : PySem.W.Frag) (cls : Nat → Option Addr) (TB : List (Addr × Str)) (E : XK) (EX : Nat → P → Prop) (fx : List Nat)
/-- what the ends of the reading are to reach -/
structure EndsOk (σ : SL) (fp : List Addr) (Fz : FzT) (H : Hp) (D' : En) (D : Ends) : Prop where
  nx : ∀ ρ' σ' H' Fz' fp', D'.nx ρ' → StpS K fx σ fp Fz H ρ' σ' Fz' H' fp' → D.nx σ' H'
  bk : ∀ ρ' σ' H' Fz' fp', D'.bk ρ' → StpS K fx σ fp Fz H ρ' σ' Fz' H' fp' → D.bk σ' H'
  ct : ∀ ρ' σ' H' Fz' fp', D'.ct ρ' → StpS K fx σ fp Fz H ρ' σ' Fz' H' fp' → D.ct σ' H'
  rt : ∀ d ρ' σ' v H' Fz' fv fp', D'.rt d ρ' → StpS K fx σ fp Fz H ρ' σ' Fz' H' fp' → Own K Fz' H' d v fv → Dis fv fp' → Sub fp H fv → D.rt v H'
def LS (ws : Env' → En → Prop) : TS := fun D σ H => ∃ ρ Fz fp D', Stt K cls TB E EX ρ σ Fz H fp ∧ ws ρ D' ∧ EndsOk K fx σ fp Fz H D' D
end
section
variable {K : PySem.W.Frag} {cls : Nat → Option Addr} {TB : List (Addr × Str)} {E : XK} {EX : Nat → P → Prop} {fx fx' : List Nat} {ρ ρ1 ρ2 : Env'} {σ σ1 σ2 : SL} {Fz Fz1 Fz2 : FzT} {H H1 H2 : Hp} {fp fp1 fp2 : List Addr} {D' D1' : En} {DD : Ends}
theorem EndsOk.step (h : EndsOk K fx σ fp Fz H D' DD) (p : StpS K fx σ fp Fz H ρ1 σ1 Fz1 H1 fp1) : EndsOk K fx σ1 fp1 Fz1 H1 D' DD where
  nx := fun ρ' σ' H' Fz' fp' a b => h.nx ρ' σ' H' Fz' fp' a (p.trans b)
  bk := fun ρ' σ' H' Fz' fp' a b => h.bk ρ' σ' H' Fz' fp' a (p.trans b)
  ct := fun ρ' σ' H' Fz' fp' a b => h.ct ρ' σ' H' Fz' fp' a (p.trans b)
  rt := fun d ρ' σ' v H' Fz' fv fp' a b c e f => h.rt d ρ' σ' v H' Fz' fv fp' a (p.trans b) c e (p.s.trans p.r f)
theorem EndsOk.less (h : EndsOk K fx σ fp Fz H D' DD) (hs : ∀ j ∈ fx, j ∈ fx') : EndsOk K fx' σ fp Fz H D' DD where
  nx := fun ρ' σ' H' Fz' fp' a b => h.nx ρ' σ' H' Fz' fp' a (b.less hs)
  bk := fun ρ' σ' H' Fz' fp' a b => h.bk ρ' σ' H' Fz' fp' a (b.less hs)
  ct := fun ρ' σ' H' Fz' fp' a b => h.ct ρ' σ' H' Fz' fp' a (b.less hs)
  rt := fun d ρ' σ' v H' Fz' fv fp' a b c e f => h.rt d ρ' σ' v H' Fz' fv fp' a (b.less hs) c e f
theorem StpS.refl (h : OwnE K Fz H ρ σ fp) : StpS K fx σ fp Fz H ρ σ Fz H fp := (Stp.refl h).toS
theorem LS.of {ws : Env' → En → Prop} (st : Stt K cls TB E EX ρ σ Fz H fp) (hw : ws ρ D') (p : StpS K fx σ fp Fz H ρ1 σ1 Fz1 H1 fp1) (h : EndsOk K fx σ fp Fz H D' DD) {ws' : Env' → En → Prop} (hw' : ws' ρ1 D') : LS K cls TB E EX fx ws' DD σ1 H1 :=
  ⟨ρ1, Fz1, fp1, D', st.stepS p, hw', h.step p⟩
/-- a value is stored in a slot -/
theorem StpS.put {i : Nat} {d : D} {v : V} {fv : List Addr} (p : Stp K σ fp Fz H ρ1 Fz1 H1 fp1) (hi : i < ρ1.length) (hx : i ∉ fx) (o : Own K Fz1 H1 d v fv) (dj : Dis fv fp1) (sv : Sub fp H fv) :
    ∃ fp2, StpS K fx σ fp Fz H (ρ1.set i (some d)) (σ.set i (some v)) Fz1 H1 fp2 := by
  obtain ⟨f', e', s'⟩ := p.e.put hi o dj
  exact ⟨f', p.r, e', fun a ha => (s' a ha).elim (sv a) (p.s a), by simp, fun j hj => List.getElem?_set_ne fun z => hx (by rw [z]; exact hj)⟩
end
section
variable {X : Cx} {cls : Nat → Option Addr} {TB : List (Addr × Str)} {E : XK} {EX : Nat → P → Prop} {G : List Fn} {fx : List Nat}
variable {tg e a b c iter : Expr} {es : List Expr} {t ta tb tc te : T} {ts : List T} {pos p pos' : Pos} {s : Stmt} {ss body : List Stmt}
abbrev SS (X : Cx) (cls : Nat → Option Addr) (TB : List (Addr × Str)) (E : XK) (EX : Nat → P → Prop) (G : List Fn) (s : Stmt) (t : S) : Prop := ∀ fx, PS X s (LS X.K cls TB E EX fx (wS G EX fx t))
abbrev SSs (X : Cx) (cls : Nat → Option Addr) (TB : List (Addr × Str)) (E : XK) (EX : Nat → P → Prop) (G : List Fn) (s : List Stmt) (t : List S) : Prop := ∀ fx, PSs X s (LS X.K cls TB E EX fx (wSs G EX fx t))
theorem ss_nil : SSs X cls TB E EX G [] [] := fun fx => pss_nil.imp fun D σ H ⟨ρ, Fz, fp, D', st, hw, en⟩ => en.nx ρ σ H Fz fp hw (.refl st.own)
theorem ss_cons {t : S} {ts : List S} (h : SS X cls TB E EX G s t) (hs : SSs X cls TB E EX G ss ts) : SSs X cls TB E EX G (s :: ss) (t :: ts) := fun fx => by
  refine (pss_cons (h fx) (hs fx)).imp fun D σ H ⟨ρ, Fz, fp, D', st, hw, en⟩ => ?_
  exact ⟨ρ, Fz, fp, _, st, hw, fun ρ' σ' H' Fz' fp' a p => ⟨ρ', Fz', fp', D', st.stepS p, a, en.step p⟩, en.bk, en.ct, en.rt⟩
theorem ss_skip {ts : List S} (h : PS X s tNext) (hs : SSs X cls TB E EX G ss ts) : SSs X cls TB E EX G (s :: ss) ts := fun fx => (pss_cons h (hs fx)).imp fun D σ H q => q
theorem s_set {i : Nat} {x : Str} (hN : X.N.Nodup) (hi : X.N[i]? = some x) (hx : Loc X.env.scope x) (h : SE X cls TB E EX G e t) (hs : swapsWith e (some (.Name x pos')) pos.line X.env = pure false) (hf : X.fn x = true ∨ X.env.scope.names.lookup x = some .local) :
    SS X cls TB E EX G (.Assign [.Name x pos'] e pos) (.set i t) := fun fx => by
  refine (ps_set hN hi hx h.pe hs hf).imp fun D σ H ⟨ρ, Fz, fp, D', st, hw, en⟩ => ?_
  refine ⟨ρ, Fz, fp, _, st, hw, fun d ρ' v H' Fz' fv fp' hp s o dj sb => ?_⟩
  obtain ⟨h1, h2, h3⟩ := hp
  obtain ⟨fp2, q⟩ := StpS.put s h2 h1 o dj sb
  exact en.nx _ _ _ _ _ h3 q
theorem s_setLc {i : Nat} {x : Str} {elt : Expr} {ifs : List Expr} {scope : Scope} {own : List (Str × Nat)} {tgt : Tg} {k : ItK} (hc : X.calm = true) (hN : X.N.Nodup) (hi : X.N[i]? = some x) (hyl : X.env.scope.names.lookup x = some .local)
    (hsw : swapsWith (.ListComp elt [⟨tg, iter, ifs, 0⟩] scope pos') (some (.Name x p)) pos.line X.env = pure true) (hit : ItOk X cls TB E EX G tg iter k ts) (ok : BlkOk X.N X.env.scope scope own) (hin : ∀ j ∈ nmT tgt, j ∈ own.map (·.2))
    (hg : ∀ (s : Shared) (H : Hp) (C : Addr) (cl : List (Str × Addr)) (fp : List Addr), PG (X.blk s H scope (compEnvC scope cl C X.env) fp) tg (gT X.K tgt))
    (ht : ∀ (s : Shared) (H : Hp) (C : Addr) (cl : List (Str × Addr)) (fp : List Addr), SCond (X.blk s H scope (compEnvC scope cl C X.env) fp) cls TB E0 EX0 G ifs tc)
    (he : ∀ (s : Shared) (H : Hp) (C : Addr) (cl : List (Str × Addr)) (fp : List Addr), SE (X.blk s H scope (compEnvC scope cl C X.env) fp) cls TB E0 EX0 G elt te) :
    SS X cls TB E EX G (.Assign [.Name x p] (.ListComp elt [⟨tg, iter, ifs, 0⟩] scope pos') pos) (.set i (.lc te tgt k ts tc (own.map (·.2)))) := fun fx => by
  refine (ps_setLc hc hN hi hyl hsw hit.pi ok hg (tt := LT X.K cls TB E0 EX0 (w G EX0 tc)) (fun s H C cl fp => (ht s H C cl fp).pts) (te := LE X.K cls TB E0 EX0 (w G EX0 te)) (fun s H C cl fp => (he s H C cl fp).pe) hit.fold).imp fun D σ H ⟨ρ, Fz, fp, D', st, hw, en⟩ => ?_
  have hw' : w G EX (.lc te tgt k ts tc (own.map (·.2))) ρ (fun d ρ1 => i ∉ fx ∧ i < ρ1.length ∧ D'.nx (ρ1.set i (some d))) := hw
  show tLc _ _ _ _ _ σ H (fun x H1 => D.nx (σ.set i (some x)) H1)
  refine lc_read hin (EX := EX) (E := E) ⟨ρ, Fz, fp, _, st, hw', fun d ρ' v H' Fz' fv fp' hp s o dj sb => ?_⟩
  obtain ⟨h1, h2, h3⟩ := hp
  obtain ⟨fp2, q⟩ := StpS.put s h2 h1 o dj sb
  exact en.nx _ _ _ _ _ h3 q
theorem s_ex (h : SE X cls TB E EX G e t) (hs : swapsWith e none pos.line X.env = pure false) : SS X cls TB E EX G (.Expr e pos) (.ex t) := fun fx => by
  refine (ps_expr h.pe hs).imp fun D σ H ⟨ρ, Fz, fp, D', st, hw, en⟩ => ?_
  exact ⟨ρ, Fz, fp, _, st, hw, fun d ρ' v H' Fz' fv fp' hp s o dj sb => en.nx _ _ _ _ _ hp s.toS⟩
theorem s_pass : SS X cls TB E EX G (.Pass pos) .pas := fun fx => ps_pass.imp fun D σ H ⟨ρ, Fz, fp, D', st, hw, en⟩ => en.nx ρ σ H Fz fp hw (.refl st.own)
theorem s_brk : SS X cls TB E EX G (.Break pos) .brk := fun fx => ps_break.imp fun D σ H ⟨ρ, Fz, fp, D', st, hw, en⟩ => en.bk ρ σ H Fz fp hw (.refl st.own)
theorem s_cnt : SS X cls TB E EX G (.Continue pos) .cnt := fun fx => ps_continue.imp fun D σ H ⟨ρ, Fz, fp, D', st, hw, en⟩ => en.ct ρ σ H Fz fp hw (.refl st.own)
theorem s_retN : SS X cls TB E EX G (.Return none pos) .retN := fun fx => ps_retN.imp fun D σ H ⟨ρ, Fz, fp, D', st, hw, en⟩ =>
  en.rt (.p .non) ρ σ .non H Fz [] fp hw (.refl st.own) ⟨rfl, rfl⟩ Dis.nil Sub.nil
theorem s_ret (h : SE X cls TB E EX G e t) (hv : ∀ i, t ≠ .var i) : SS X cls TB E EX G (.Return (some e) pos) (.ret t) := fun fx => by
  refine (ps_ret h.pe).imp fun D σ H ⟨ρ, Fz, fp, D', st, hw, en⟩ => ?_
  have hw : w G EX t ρ D'.rt := by
    cases t <;> first | exact hw | exact absurd rfl (hv _)
  exact ⟨ρ, Fz, fp, _, st, hw, fun d ρ' v H' Fz' fv fp' hp s o dj sb => en.rt d ρ' σ v H' Fz' fv fp' hp s.toS o dj sb⟩
theorem s_retV {i : Nat} (h : SE X cls TB E EX G e (.var i)) : SS X cls TB E EX G (.Return (some e) pos) (.ret (.var i)) := fun fx => by
  by_cases hi : i ∈ fx
  · refine (ps_ret h.pe).imp fun D σ H ⟨ρ, Fz, fp, D', st, hw, en⟩ => ?_
    have hw : if i ∈ fx then frV ρ i fun x ρ' => D'.rt (.p x) ρ' else ∃ d, ρ[i]? = some (some d) ∧ D'.rt d (ρ.set i none) := hw
    rw [if_pos hi] at hw
    exact ⟨ρ, Fz, fp, _, st, hw, fun d ρ' v H' Fz' fv fp' hp s o dj sb => en.rt d ρ' σ v H' Fz' fv fp' hp s.toS o dj sb⟩
  · refine (ps_ret (h.var i rfl)).imp fun D σ H ⟨ρ, Fz, fp, D', st, hw, en⟩ => ?_
    have hw : if i ∈ fx then frV ρ i fun x ρ' => D'.rt (.p x) ρ' else ∃ d, ρ[i]? = some (some d) ∧ D'.rt d (ρ.set i none) := hw
    rw [if_neg hi] at hw
    obtain ⟨d, hd, hr⟩ := hw
    obtain ⟨v, f1, f2, h1, h2, h3, h4, h5⟩ := st.own.take hd
    exact ⟨v, h1, en.rt d _ σ v H Fz f1 f2 hr ⟨.refl, h3, fun a ha => .inl ((h5 a).mpr (.inr ha)), rfl, fun _ _ => rfl⟩ h2 h4 fun a ha => .inl ((h5 a).mpr (.inl ha))⟩
theorem s_if {ta tb : List S} {A B : List Stmt} (hc : ST X cls TB E EX G c tc) (ha : SSs X cls TB E EX G A ta) (hb : SSs X cls TB E EX G B tb) : SS X cls TB E EX G (.If c A B pos) (.ite tc ta tb) := fun fx => by
  refine (ps_if hc (ha fx) (hb fx)).imp fun D σ H ⟨ρ, Fz, fp, D', st, hw, en⟩ => ?_
  refine ⟨ρ, Fz, fp, _, st, hw, fun d ρ' H' Fz' fp' hp s => ?_⟩
  obtain ⟨k, e, hp⟩ := hp
  refine ⟨k, e, ?_⟩
  cases k with
  | true => exact ⟨ρ', Fz', fp', D', st.step s, hp, en.step s.toS⟩
  | false => exact ⟨ρ', Fz', fp', D', st.step s, hp, en.step s.toS⟩
theorem s_while {tb : List S} {B : List Stmt} (hp : PassesOwn (model X.prog X.w) X.A X.env X.xe) (hc : ST X cls TB E EX G c tc) (hb : SSs X cls TB E EX G B tb) : SS X cls TB E EX G (.While c B [] pos) (.whl tc tb) := fun fx => by
  refine (ps_while hp hc (hb fx)).imp fun D σ H ⟨ρ, Fz, fp, D', st, ⟨I, ⟨m0, i0⟩, hI⟩, en⟩ => ?_
  refine ⟨fun m σ1 H1 => ∃ ρ1 Fz1 fp1, I m ρ1 ∧ StpS X.K fx σ fp Fz H ρ1 σ1 Fz1 H1 fp1, ⟨m0, ρ, Fz, fp, i0, .refl st.own⟩, fun m σ1 H1 ⟨ρ1, Fz1, fp1, i1, p1⟩ => ?_⟩
  refine ⟨ρ1, Fz1, fp1, _, st.stepS p1, hI m ρ1 i1, fun d ρ' H' Fz' fp' hp s => ?_⟩
  obtain ⟨b, e, hp⟩ := hp
  refine ⟨b, e, ?_⟩
  have p2 := p1.trans s.toS
  cases b with
  | false => exact en.nx _ _ _ _ _ hp p2
  | true =>
    refine ⟨fun σ2 H2 => ∃ m', m' < m ∧ ∃ ρ2 Fz2 fp2, I m' ρ2 ∧ StpS X.K fx σ fp Fz H ρ2 σ2 Fz2 H2 fp2, fun σ' H' h => h, ?_⟩
    refine ⟨ρ', Fz', fp', _, st.stepS p2, hp, ?_⟩
    exact ⟨fun ρ3 σ3 H3 Fz3 fp3 ⟨m', hm, i3⟩ p3 => ⟨m', hm, ρ3, Fz3, fp3, i3, p2.trans p3⟩, fun ρ3 σ3 H3 Fz3 fp3 a p3 => en.nx _ _ _ _ _ a (p2.trans p3), fun ρ3 σ3 H3 Fz3 fp3 ⟨m', hm, i3⟩ p3 => ⟨m', hm, ρ3, Fz3, fp3, i3, p2.trans p3⟩, (en.step p2).rt⟩
theorem for_read {tgt : Tg} {k : ItK} {fx : List Nat} {wb : List Nat → Env' → En → Prop} {tb : TS} {D : Ends} {σ : SL} {H : Hp} (hb : ∀ fx D σ H, LS X.K cls TB E EX fx (wb fx) D σ H → tb D σ H)
    (q : LS X.K cls TB E EX fx (fun ρ D' => wOs G EX ts ρ fun os ρ1 => vwOs ρ1 os fun xs => itP k xs fun its => forT ((brws ρ1 os).map (·.1) ++ fx) tgt (wb ((brws ρ1 os).map (·.1) ++ fx)) (brws ρ1 os) its ρ1 D') D σ H) :
    tFor (LI X.K cls TB E EX k (wOs G EX ts)) (gT X.K tgt) tb D σ H := by
  obtain ⟨ρ, Fz, fp, D', st, hw, en⟩ := q
  refine ⟨ρ, Fz, fp, _, st, hw, fun os ρ1 us H1 Fz1 f1 fp1 q1 s1 ok1 dj1 sb1 => ?_⟩
  obtain ⟨xs, sx, hq, keep⟩ := ok1.keep s1.e dj1 q1
  refine ⟨xs, sx, itP_mono (fun its hl => ?_) hq⟩
  intro J ⟨GG, YY, wk, hG, hY⟩
  have st1 := st.step s1
  generalize hbs : brws ρ1 os = bs at *
  let fxL := bs.map (·.1) ++ fx
  have hL : ∀ j ∈ fx, j ∈ fxL := fun j hj => List.mem_append_right _ hj
  let Pv : Nat → SL → Hp → Prop := fun i σi H' => ∃ ρi Fzi fpi, forT fxL tgt (wb fxL) bs (its.drop i) ρi D' ∧ StpS X.K fxL σ fp1 Fz1 H1 ρi σi Fzi H' fpi ∧ holds ρi bs
  have sees : ∀ {i σi H'}, Pv i σi H' → ∃ Fzi, Sees X.K Fzi H' xs us := fun {i σi H'} ⟨ρi, Fzi, fpi, _, p, hh⟩ => ⟨Fzi, keep Fzi H' ρi σi fpi p.r p.e hh fun b hb => p.fix b.1 (List.mem_append_left _ (List.mem_map_of_mem hb))⟩
  refine for_it wk Pv ⟨ρ1, Fz1, fp1, by rw [List.drop_zero]; exact hl, .refl s1.e, by rw [← hbs]; exact brws_holds⟩ (fun i σi H' _ h => by obtain ⟨Fzi, s⟩ := sees h; exact hG Fzi H' s) ?_ ?_
  · intro i x σi H2 H3 hi2 hp hy
    obtain ⟨ρi, Fzi, fpi, hl2, p, hh⟩ := hp
    have se : Sees X.K Fzi H2 xs us := keep Fzi H2 ρi σi fpi p.r p.e hh fun b hb => p.fix b.1 (List.mem_append_left _ (List.mem_map_of_mem hb))
    obtain ⟨y, hp1, r3, fx3⟩ := hY Fzi i H2 x H3 se hy
    have ed : its.drop i = y :: its.drop (i + 1) := List.drop_eq_getElem?_toList_append.trans (by rw [hp1]; rfl)
    rw [ed] at hl2
    have p3 : StpS X.K fxL σ fp1 Fz1 H1 ρi σi Fzi H3 fpi := p.trans (Stp.alloc p.e r3).toS
    refine tg_ok tgt p3.e fx3 hl2 fun ρ' σ' f' hq' kp => ?_
    have p4 : StpS X.K fxL σ fp1 Fz1 H1 ρ' σ' Fzi H3 f' := p3.trans ⟨.refl, kp.e, fun a ha => .inl (kp.s a ha), kp.len, kp.fix⟩
    refine hb fxL _ _ _ ⟨ρ', Fzi, f', _, st1.stepS p4, hq', ?_⟩
    exact ⟨fun ρ3 σ3 H4 Fz3 fp3 a b => ⟨ρ3, Fz3, fp3, a.2, p4.trans b, a.1⟩, fun ρ3 σ3 H4 Fz3 fp3 a b => en.nx _ _ _ _ _ a (s1.toS.trans ((p4.trans b).less hL)), fun ρ3 σ3 H4 Fz3 fp3 a b => ⟨ρ3, Fz3, fp3, a.2, p4.trans b, a.1⟩,
      fun d ρ3 σ3 v H4 Fz3 fv fp3 a b c d2 e2 => en.rt d ρ3 σ3 v H4 Fz3 fv fp3 a (s1.toS.trans ((p4.trans b).less hL)) c d2 (s1.s.trans s1.r (p4.s.trans p4.r e2))⟩
  · intro σi H2 ⟨ρi, Fzi, fpi, hl2, p, hh⟩
    have ed : its.drop its.length = [] := by simp
    rw [ed] at hl2
    exact en.nx ρi σi H2 Fzi fpi hl2 (s1.toS.trans (p.less hL))
theorem s_for {tgt : Tg} {k : ItK} {tb : List S} {B : List Stmt} (hp : PassesOwn (model X.prog X.w) X.A X.env X.xe) (hc : X.calm = true) (hi : ItOk X cls TB E EX G tg iter k ts) (hg : PG X tg (gT X.K tgt)) (hb : SSs X cls TB E EX G B tb) :
    SS X cls TB E EX G (.For tg iter B [] pos) (.forS tgt k ts tb) := by
  intro fx
  have h : PS X (.For tg iter B [] pos) (tFor (LI X.K cls TB E EX k (wOs G EX ts)) (gT X.K tgt) (fun D σ H => ∃ fx, LS X.K cls TB E EX fx (wSs G EX fx tb) D σ H)) := ps_for hp hc hi.pi hg ⟨fun pins s σ H D I ⟨fx, q⟩ => (hb fx).run pins s σ H D I q⟩ hi.fold
  exact h.imp fun D σ H q => for_read (wb := fun fx r d => wSs G EX fx tb r d) (fun fx D σ H q => ⟨fx, q⟩) q
end
end PL
set_option Elab.async false
set_option linter.all false
set_option maxRecDepth 100000
set_option maxHeartbeats 4000000
/-! Statements, further: assignments to several names, to places; raise. -/
namespace PL
open PySem PySem.Spec PyProof.Rows L2
variable [QN]
/-! ### which stores are swapped -/
def locN (sc : Scope) (l : Nat) (e : Expr) : Option Str :=
  match e with
  | .Name id pos => if sc.names.lookup id == some .local && pos.line == l then some id else none
  | _ => none
def isStar : Expr → Bool
  | .Starred .. => true
  | _ => false
/-- the stores are not swapped -/
def noSwap (sc : Scope) (tg e : Expr) : Bool :=
  match tg, e with
  | .Tuple ts _ _, .Tuple vs _ _ => !(ts.length == 2 || ts.length == 3) || vs.length != ts.length || (ts.filterMap (locN sc ((ts.head?.map (·.pos.line)).getD 0))).length != ts.length || vs.all (foldedForSure 8)
  | .List _ _, _ => false
  | _, _ => true
theorem noSwap_ok {env : Env} {tg e : Expr} (h : noSwap env.scope tg e = true) : swappedStores [tg] e env = pure none := by
  unfold noSwap at h
  split at h
  · rename_i ts k p vs k' p'
    simp only [swappedStores]
    split
    · rfl
    · rename_i h1
      split
      · rfl
      · rename_i h2
        split
        · rfl
        · rename_i h3
          split
          · rfl
          · rename_i h4
            exfalso
            rw [Bool.or_eq_true, Bool.or_eq_true, Bool.or_eq_true] at h
            rw [Bool.or_eq_true, Bool.or_eq_true, not_or, not_or] at h1
            rw [Bool.or_eq_true, not_or] at h3
            rcases h with ((h | h) | h) | h
            · exact h1.1.1 h
            · exact h1.1.2 h
            · exact h3.1 h
            · exact h4 h
  · cases h
  · rename_i h1 h2
    cases tg <;> first | exact (h1 _ _ rfl).elim | (cases e <;> first | rfl | exact (h2 _ _ _ _ _ _ rfl rfl).elim)
theorem swap2_ok {env : Env} {x y : Str} {px py pt pt2 : Pos} {kt k2 : Nat} {a b : Expr} (hk : env.blockKind = .function) (hx : env.scope.names.lookup x = some .local) (hy : env.scope.names.lookup y = some .local) (hl : (py.line == px.line) = true) (hxy : x ≠ y)
    (hs : (isStar a || isStar b) = false) (h1 : (foldedForSure 8 a && foldedForSure 8 b) = false) (h2 : (constantsAlone 8 a && constantsAlone 8 b) = false) :
    swappedStores [.Tuple [.Name x px, .Name y py] kt pt] (.Tuple [a, b] k2 pt2) env = pure (some [x, y]) := by
  have e1 : env.kindOf x = some .local := hx
  have e2 : env.kindOf y = some .local := hy
  have hs1 : isStar a = false := by cases q : isStar a <;> simp [q] at hs ⊢
  have hs2 : isStar b = false := by cases q : isStar b <;> simp [q] at hs ⊢
  have hl' : py.line = px.line := by simpa using hl
  have ne : (x == y) = false := by simpa using hxy
  have ht : ([a, b].any fun | .Starred .. => true | _ => false) = false := by
    have go : ∀ e : Expr, isStar e = false → (match e with | .Starred .. => true | _ => false) = false := fun e h => by
      cases e <;> first | rfl | exact Bool.noConfusion (show true = false from h)
    rw [List.any_cons, List.any_cons, List.any_nil, go a hs1, go b hs2]
    rfl
  have ed : [x, y].eraseDups = [x, y] := by
    rw [List.eraseDups_cons]
    have : List.filter (fun b => !b == x) [y] = [y] := by
      have : (y == x) = false := by simpa using Ne.symm hxy
      simp [this]
    rw [this]; rfl
  simp only [swappedStores, hk, ht, List.length_cons, List.length_nil, List.head?_cons, Option.map_some, Option.getD_some, Expr.pos, List.filterMap_cons, List.filterMap_nil, e1, e2, hl', ed, List.all_cons, List.all_nil, Bool.and_true, h1, h2]
  have q : (some NameKind.local == some NameKind.local && px.line == px.line) = true := by rw [beq_self_eq_true, beq_self_eq_true]; rfl
  rw [if_neg (by decide)]
  refine (if_neg (fun z => Bool.false_ne_true (ht.symm.trans z))).trans ?_
  simp only [q, if_true, ed]
  simp
theorem swap3_ok {env : Env} {x y z : Str} {px py pz pt pt2 : Pos} {kt k2 : Nat} {a b c : Expr} (hk : env.blockKind = .function) (hx : env.scope.names.lookup x = some .local) (hy : env.scope.names.lookup y = some .local) (hz : env.scope.names.lookup z = some .local)
    (hl : (py.line == px.line) = true) (hl2 : (pz.line == px.line) = true) (hxy : x ≠ y) (hxz : x ≠ z) (hyz : y ≠ z)
    (hs : (isStar a || isStar b || isStar c) = false) (h1 : (foldedForSure 8 a && (foldedForSure 8 b && foldedForSure 8 c)) = false) (h2 : (constantsAlone 8 a && (constantsAlone 8 b && constantsAlone 8 c)) = false) :
    swappedStores [.Tuple [.Name x px, .Name y py, .Name z pz] kt pt] (.Tuple [a, b, c] k2 pt2) env = pure (some [x, y, z]) := by
  have e1 : env.kindOf x = some .local := hx
  have e2 : env.kindOf y = some .local := hy
  have e3 : env.kindOf z = some .local := hz
  have hs1 : isStar a = false := by cases q : isStar a <;> simp [q] at hs ⊢
  have hs2 : isStar b = false := by cases q : isStar b <;> simp [q] at hs ⊢
  have hs3 : isStar c = false := by cases q : isStar c <;> simp [q] at hs ⊢
  have hl' : py.line = px.line := by simpa using hl
  have hl3 : pz.line = px.line := by simpa using hl2
  have ht : ([a, b, c].any fun | .Starred .. => true | _ => false) = false := by
    have go : ∀ e : Expr, isStar e = false → (match e with | .Starred .. => true | _ => false) = false := fun e h => by
      cases e <;> first | rfl | exact Bool.noConfusion (show true = false from h)
    rw [List.any_cons, List.any_cons, List.any_cons, List.any_nil, go a hs1, go b hs2, go c hs3]
    rfl
  have ed : [x, y, z].eraseDups = [x, y, z] := by
    have n1 : (y == x) = false := by simpa using Ne.symm hxy
    have n2 : (z == x) = false := by simpa using Ne.symm hxz
    have n3 : (z == y) = false := by simpa using Ne.symm hyz
    rw [List.eraseDups_cons]
    have : List.filter (fun b => !b == x) [y, z] = [y, z] := by simp [n1, n2]
    rw [this, List.eraseDups_cons]
    have : List.filter (fun b => !b == y) [z] = [z] := by simp [n3]
    rw [this]; rfl
  simp only [swappedStores, hk, ht, List.length_cons, List.length_nil, List.head?_cons, Option.map_some, Option.getD_some, Expr.pos, List.filterMap_cons, List.filterMap_nil, e1, e2, e3, hl', hl3, ed, List.all_cons, List.all_nil, Bool.and_true, h1, h2]
  have q : (some NameKind.local == some NameKind.local && px.line == px.line) = true := by rw [beq_self_eq_true, beq_self_eq_true]; rfl
  rw [if_neg (by decide)]
  refine (if_neg (fun z => Bool.false_ne_true (ht.symm.trans z))).trans ?_
  simp only [q, if_true, ed]
  simp
/-- one value is bound by no comprehension of its line -/
def noComp : Expr → Bool
  | .ListComp .. | .SetComp .. | .DictComp .. => false
  | _ => true
theorem noComp_ok {e : Expr} {t : Option Expr} {l : Nat} {env : Env} (h : noComp e = true) : swapsWith e t l env = pure false := by
  cases e <;> first | exact Bool.noConfusion (show false = true from h) | rfl
/-- a target that is no name -/
theorem noName_ok {e : Expr} {es : List Expr} {k : Nat} {p : Pos} {l : Nat} {env : Env} : swapsWith e (some (.Tuple es k p)) l env = pure false := by
  cases e <;> rfl
theorem noSub_ok {e a b : Expr} {p : Pos} {l : Nat} {env : Env} : swapsWith e (some (.Subscript a b p)) l env = pure false := by
  cases e <;> rfl
/-! ### the stores -/
def gTU (K : PySem.W.Frag) : Tg → TG
  | .name i => gName i
  | .tup ts => fun v σ H Q => gTup K ts.length (gTs K ts) v σ H Q ∨ gUnl K ts.length (gTs K ts) v σ H Q
section
variable {X : Cx} {cls : Nat → Option Addr} {TB : List (Addr × Str)} {E : XK} {EX : Nat → P → Prop} {G : List Fn} {fx : List Nat}
variable {tg e a b c iter : Expr} {es : List Expr} {t ta tb tc te : T} {ts : List T} {pos p pos' : Pos} {s : Stmt} {ss body : List Stmt}
theorem _root_.L2.PG.or {g g' : TG} (h : PG X tg g) (h' : PG X tg g') : PG X tg (fun v σ H Q => g v σ H Q ∨ g' v σ H Q) := ⟨fun pins s σ H v u Q I r q => q.elim (h.run pins s σ H v u Q I r) (h'.run pins s σ H v u Q I r)⟩
theorem s_asg {tgt : Tg} (h : SE X cls TB E EX G e t) (hg : PG X tg (gTU X.K tgt)) (hn : ∀ i, tgt ≠ .name i) (hs : swapsWithSole [tg] e pos.line X.env = pure false) (hw : swappedStores [tg] e X.env = pure none) (h1 : (assignEach [tg] X.env).map (·.2) = [assign tg X.env]) :
    SS X cls TB E EX G (.Assign [tg] e pos) (.asg tgt t) := fun fx => by
  refine (ps_asg h.pe hg hs hw h1).imp fun D σ H ⟨ρ, Fz, fp, D', st, hw, en⟩ => ?_
  refine ⟨ρ, Fz, fp, _, st, hw, fun d ρ' v H' Fz' fv fp' hp s o dj sb => ?_⟩
  cases tgt with
  | name i => exact absurd rfl (hn i)
  | tup tts =>
    have frz1 : ∀ {x : P}, Own X.K Fz' H' d v fv → frz d = x → tgS fx (.tup tts) x ρ' D'.nx → gTU X.K (.tup tts) v σ H' D.nx := fun {x} o ex hp => by
      subst ex
      have r1 : Reach fv Fz' H' (FzPlus Fz' fv) H' := .freeze (fun a ha => ha) o.fp
      have e1 := s.e.stay r1 o.fp dj.symm
      have s1 : StpS X.K fx σ fp Fz H ρ' σ (FzPlus Fz' fv) H' fp' := ⟨s.r.trans sb r1, e1, s.s, rfl, fun _ _ => rfl⟩
      exact .inl (tg_ok (.tup tts) e1 (o.frz (fun _ z => .inl z) fun _ z => .inr z) hp fun ρ2 σ2 f2 q2 k2 => en.nx ρ2 σ2 H' _ f2 q2 (s1.trans ⟨.refl, k2.e, fun a ha => .inl (k2.s a ha), k2.len, k2.fix⟩))
    cases d with
    | p x => exact frz1 o rfl hp
    | dic ks xs => exact frz1 o rfl hp
    | lst xs =>
      obtain ⟨ts', et, hl, hp⟩ := hp
      cases et
      obtain ⟨a, vs, ev, ef, ha, nf, hf⟩ := o
      refine .inr ⟨a, vs, ev, .of ha, by rw [hf.len]; exact hl, ?_⟩
      exact tgs_ok tts s.e hf hp fun ρ2 σ2 f2 q2 k2 => en.nx ρ2 σ2 H' _ f2 q2 (s.toS.trans ⟨.refl, k2.e, fun a ha => .inl (k2.s a ha), k2.len, k2.fix⟩)
/-! ### in one row -/
theorem OpdOk.mv {K : PySem.W.Frag} {Fz : FzT} {H : Hp} {σ : SL} {ρ : Env'} {f fp : List Addr} {o : Opd} {v : V} {Q : KE} (h : OpdOk K Fz H σ o v f) (he : OwnE K Fz H ρ σ fp) (dj : Dis f fp) (hq : mvO ρ o Q) :
    ∃ d ρ' Fz' f' fp', Q d ρ' ∧ Reach fp Fz H Fz' H ∧ OwnE K Fz' H ρ' σ fp' ∧ (∀ a ∈ fp', a ∈ fp) ∧ Own K Fz' H d v f' ∧ (∀ a ∈ f', a ∈ f) := by
  cases o with
  | val d => exact ⟨d, ρ, Fz, f, fp, hq, .refl, he, fun _ z => z, h, fun _ z => z⟩
  | late i =>
    obtain ⟨h0, hf⟩ := h
    subst hf
    obtain ⟨x, ρ', Fz', fp', q', r', e', s', fr', _⟩ := OpdOk.fr (o := .late i) (v := v) (f := []) (Q := fun x ρ' => Q (.p x) ρ') ⟨h0, rfl⟩ he Dis.nil (show frO ρ (.late i) _ from hq)
    exact ⟨.p x, ρ', Fz', [], fp', q', by simpa using r', e', s', ⟨rfl, fr'⟩, fun _ z => nomatch z⟩
theorem OpdsOk.mv {K : PySem.W.Frag} {H : Hp} {σ : SL} : ∀ {os : List Opd} {vs : List V} {f fp : List Addr} {Fz : FzT} {ρ : Env'} {Q : List D → Env' → Prop}, OpdsOk K Fz H σ os vs f → OwnE K Fz H ρ σ fp → Dis f fp → mvOs ρ os Q →
    ∃ ds ρ' Fz' f' fp', Q ds ρ' ∧ Reach fp Fz H Fz' H ∧ OwnE K Fz' H ρ' σ fp' ∧ (∀ a ∈ fp', a ∈ fp) ∧ OwnL K Fz' H ds vs f' ∧ (∀ a ∈ f', a ∈ f)
  | [], vs, f, fp, Fz, ρ, Q, h, he, dj, hq => ⟨[], ρ, Fz, [], fp, hq, .refl, he, fun _ z => z, ⟨h.1, rfl⟩, fun _ z => nomatch z⟩
  | o :: os, vs, f, fp, Fz, ρ, Q, h, he, dj, hq => by
    obtain ⟨v, vr, f1, f2, e, ef, h1, h2, dj2⟩ := h
    subst ef
    obtain ⟨d, ρ1, Fz1, g1, fp1, q1, r1, e1, s1, o1, sg1⟩ := h1.mv he dj.left (show mvO ρ o _ from hq)
    have h2' : OpdsOk K Fz1 H σ os vr f2 := h2.stay r1 he.fpO dj.right
    obtain ⟨ds, ρ2, Fz2, g2, fp2, q2, r2, e2, s2, o2, sg2⟩ := OpdsOk.mv h2' e1 (fun a ha hb => dj.right a ha (s1 a hb)) q1
    have o1' : Own K Fz2 H d v g1 := o1.stay r2 e1.fpO fun a ha hb => dj.left a (sg1 a ha) (s1 a hb)
    refine ⟨d :: ds, ρ2, Fz2, g1 ++ g2, fp2, q2, r1.trans (fun a ha => .inl (s1 a ha)) r2, e2, fun a ha => s1 a (s2 a ha), ⟨v, vr, g1, g2, e, rfl, o1', o2, fun a ha hb => dj2 a (sg1 a ha) (sg2 a hb)⟩, fun a ha => ?_⟩
    rcases List.mem_append.mp ha with z | z
    · exact List.mem_append_left _ (sg1 a z)
    · exact List.mem_append_right _ (sg2 a z)
def putV : List Nat → List V → SL → SL
  | i :: is, v :: vs, σ => putV is vs (σ.set i (some v))
  | _, _, σ => σ
theorem setAll_ok {K : PySem.W.Frag} {Fz : FzT} {H : Hp} {fx : List Nat} : ∀ {is : List Nat} {ds : List D} {vs : List V} {f fp : List Addr} {ρ : Env'} {σ : SL} {Q : Env' → Prop}, OwnL K Fz H ds vs f → OwnE K Fz H ρ σ fp → Dis f fp → setAll fx is ds ρ Q →
    ∃ ρ' fp', Q ρ' ∧ OwnE K Fz H ρ' (putV is vs σ) fp' ∧ (∀ a ∈ fp', a ∈ f ∨ a ∈ fp) ∧ (putV is vs σ).length = σ.length ∧ ∀ j ∈ fx, (putV is vs σ)[j]? = σ[j]?
  | [], [], vs, f, fp, ρ, σ, Q, ho, he, dj, h => by
    obtain ⟨e1, e2⟩ := ho
    subst e1
    exact ⟨ρ, fp, h, he, fun _ z => .inr z, rfl, fun _ _ => rfl⟩
  | [], d :: ds, _, _, _, _, _, _, _, _, _, h => (show False from h).elim
  | i :: is, [], _, _, _, _, _, _, _, _, _, h => (show False from h).elim
  | i :: is, d :: ds, vs, f, fp, ρ, σ, Q, ho, he, dj, h => by
    obtain ⟨v, vr, f1, f2, e, ef, o, ol, dj2⟩ := ho
    subst e ef
    obtain ⟨h1, h2, h3⟩ : i ∉ fx ∧ i < ρ.length ∧ setAll fx is ds (ρ.set i (some d)) Q := h
    obtain ⟨f', e', s'⟩ := he.put h2 o dj.left
    obtain ⟨ρ2, fp2, q2, e2, s2, l2, k2⟩ := setAll_ok ol e' (fun a ha hb => (s' a hb).elim (fun z => dj2 a z ha) (dj.right a ha)) h3
    refine ⟨ρ2, fp2, q2, e2, fun a ha => ?_, l2.trans (by simp), fun j hj => (k2 j hj).trans (List.getElem?_set_ne fun z => h1 (by rw [z]; exact hj))⟩
    rcases s2 a ha with z | z
    · exact .inl (List.mem_append_right _ z)
    · exact (s' a z).imp_left (List.mem_append_left _)
theorem setAll_len {fx : List Nat} : ∀ {is : List Nat} {ds : List D} {ρ : Env'} {Q : Env' → Prop}, setAll fx is ds ρ Q → ds.length = is.length
  | [], [], _, _, _ => rfl
  | [], _ :: _, _, _, h => (show False from h).elim
  | _ :: _, [], _, _, h => (show False from h).elim
  | i :: is, d :: ds, _, _, h => by simp [setAll_len h.2.2]
theorem par_read {is : List Nat} {D : Ends} {σ : SL} {H : Hp} (q : LS X.K cls TB E EX fx (wS G EX fx (.par is ts)) D σ H) : LOs X.K cls TB E EX (wOs G EX ts) σ H fun vs H1 => vs.length = is.length ∧ D.nx (putV is vs σ) H1 := by
  obtain ⟨ρ, Fz, fp, D', st, hw, en⟩ := q
  refine ⟨ρ, Fz, fp, _, st, hw, fun os ρ1 vs H1 Fz1 f1 fp1 q1 s1 ok1 dj1 sb1 => ?_⟩
  obtain ⟨ds, ρ2, Fz2, g2, fp2, q2, r2, e2, s2, o2, sg2⟩ := ok1.mv s1.e dj1 q1
  obtain ⟨ρ3, fp3, q3, e3, s3, l3, k3⟩ := setAll_ok o2 e2 (fun a ha hb => dj1 a (sg2 a ha) (s2 a hb)) q2
  refine ⟨by rw [o2.len]; exact setAll_len q2, en.nx ρ3 _ H1 Fz2 fp3 q3 ⟨s1.r.trans s1.s r2, e3, fun a ha => ?_, l3, k3⟩⟩
  rcases s3 a ha with z | z
  · exact sb1 a (sg2 a z)
  · exact s1.s a (s2 a z)
theorem s_par2 {i j : Nat} {x y : Str} {px py pt pt2 : Pos} {kt k2 : Nat} (hc : X.calm = true) (hN : X.N.Nodup) (hi : X.N[i]? = some x) (hj : X.N[j]? = some y) (hij : i ≠ j)
    (hx : X.env.scope.names.lookup x = some .local) (hy : X.env.scope.names.lookup y = some .local) (h : SEs X cls TB E EX G [a, b] ts) (hw : swappedStores [.Tuple [.Name x px, .Name y py] kt pt] (.Tuple [a, b] k2 pt2) X.env = pure (some [x, y])) :
    SS X cls TB E EX G (.Assign [.Tuple [.Name x px, .Name y py] kt pt] (.Tuple [a, b] k2 pt2) pos) (.par [i, j] ts) := fun fx => by
  refine (ps_par hc hN hi hj hij hx hy h.pa hw rfl).imp fun D σ H q => ?_
  obtain ⟨ρ, Fz, fp, P', st, hw, k⟩ := par_read q
  refine ⟨ρ, Fz, fp, P', st, hw, fun os ρ' vs H' Fz' fv fp' a1 a2 a3 a4 a5 => ?_⟩
  obtain ⟨hl, hk⟩ := k os ρ' vs H' Fz' fv fp' a1 a2 a3 a4 a5
  rcases vs with _ | ⟨v, _ | ⟨u, _ | ⟨z, l⟩⟩⟩ <;> first | (simp at hl; done) | skip
  exact ⟨v, u, rfl, hk⟩
theorem s_par3 {i j l : Nat} {x y z : Str} {px py pz pt pt2 : Pos} {kt k2 : Nat} (hc : X.calm = true) (hN : X.N.Nodup) (hi : X.N[i]? = some x) (hj : X.N[j]? = some y) (hl : X.N[l]? = some z) (hij : i ≠ j) (hil : i ≠ l) (hjl : j ≠ l)
    (hx : X.env.scope.names.lookup x = some .local) (hy : X.env.scope.names.lookup y = some .local) (hz : X.env.scope.names.lookup z = some .local) (h : SEs X cls TB E EX G [a, b, c] ts) (hw : swappedStores [.Tuple [.Name x px, .Name y py, .Name z pz] kt pt] (.Tuple [a, b, c] k2 pt2) X.env = pure (some [x, y, z])) :
    SS X cls TB E EX G (.Assign [.Tuple [.Name x px, .Name y py, .Name z pz] kt pt] (.Tuple [a, b, c] k2 pt2) pos) (.par [i, j, l] ts) := fun fx => by
  refine (ps_par3 hc hN hi hj hl hij hil hjl hx hy hz h.pa hw rfl).imp fun D σ H q => ?_
  obtain ⟨ρ, Fz, fp, P', st, hw, k⟩ := par_read q
  refine ⟨ρ, Fz, fp, P', st, hw, fun os ρ' vs H' Fz' fv fp' a1 a2 a3 a4 a5 => ?_⟩
  obtain ⟨hl, hk⟩ := k os ρ' vs H' Fz' fv fp' a1 a2 a3 a4 a5
  rcases vs with _ | ⟨v, _ | ⟨u, _ | ⟨z, _ | ⟨z', l⟩⟩⟩⟩ <;> first | (simp at hl; done) | skip
  exact ⟨v, u, z, rfl, hk⟩
theorem gTs_names {K : PySem.W.Frag} {Q : SL → Hp → Prop} {H : Hp} : ∀ {is : List Nat} {vs : List V} {σ : SL}, vs.length = is.length → Q (putV is vs σ) H → gTs K (is.map .name) vs σ H Q
  | [], [], σ, _, q => ⟨rfl, q⟩
  | [], _ :: _, _, h, _ => by cases h
  | _ :: _, [], _, h, _ => by cases h
  | i :: is, v :: vs, σ, h, q => ⟨v, vs, rfl, gTs_names (is := is) (vs := vs) (σ := σ.set i (some v)) (by simpa using h) q⟩
/-- a, b = .. with the stores from the left -/
theorem s_parL {is : List Nat} {k2 : Nat} {p2 : Pos} {vs : List Expr} (hg : PG X tg (gTup X.K is.length (gTs X.K (is.map .name)))) (h : SEs X cls TB E EX G vs ts) (hl : is.length ≤ sizeLine) (hs : swapsWithSole [tg] (.Tuple vs k2 p2) pos.line X.env = pure false) (hw : swappedStores [tg] (.Tuple vs k2 p2) X.env = pure none) (h1 : (assignEach [tg] X.env).map (·.2) = [assign tg X.env]) :
    SS X cls TB E EX G (.Assign [tg] (.Tuple vs k2 p2) pos) (.par is ts) := fun fx => by
  refine (ps_asg (pe_tup h.pa) hg hs hw h1).imp fun D σ H ⟨ρ, Fz, fp, D', st, hw, en⟩ => ?_
  refine ⟨ρ, Fz, fp, _, st, hw, fun os ρ1 vs H1 Fz1 f1 fp1 q1 s1 ok1 dj1 sb1 => ?_⟩
  obtain ⟨ds, ρ2, Fz2, g2, fp2, q2, r2, e2, s2, o2, sg2⟩ := ok1.mv s1.e dj1 q1
  have hlen : vs.length = is.length := by rw [o2.len]; exact setAll_len q2
  refine ⟨by rw [hlen]; exact hl, fun p hp => ?_⟩
  have r3 : Reach [] Fz2 H1 Fz2 (upd H1 p (.tup vs)) := .new hp
  have r3' : Reach fp2 Fz2 H1 Fz2 (upd H1 p (.tup vs)) := .new hp
  have o3 := o2.stay r3 Fp.nil Dis.nil'
  have e3 := e2.stay r3 Fp.nil Dis.nil'
  obtain ⟨ρ3, fp3, q3, e4, s3, l3, k3⟩ := setAll_ok o3 e3 (fun a ha hb => dj1 a (sg2 a ha) (s2 a hb)) q2
  refine ⟨p, vs, rfl, .of upd_same, hlen, gTs_names hlen (en.nx ρ3 _ _ Fz2 fp3 q3 ⟨(s1.r.trans s1.s r2).trans (fun a ha => s1.s a (s2 a ha)) r3', e4, fun a ha => ?_, l3, k3⟩)⟩
  rcases s3 a ha with z | z
  · exact sb1 a (sg2 a z)
  · exact s1.s a (s2 a z)
end
end PL
set_option Elab.async false
set_option linter.all false
set_option maxRecDepth 100000
set_option maxHeartbeats 4000000
/-! Statements: stores into places, op=, raise. -/
namespace PL
open PySem PySem.Spec PyProof.Rows L2
variable [QN]
section
variable {X : Cx} {cls : Nat → Option Addr} {TB : List (Addr × Str)} {E : XK} {EX : Nat → P → Prop} {G : List Fn} {fx : List Nat}
variable {tg e a b c iter : Expr} {es : List Expr} {t ta tb tc te : T} {ts : List T} {pos p pos' : Pos} {s : Stmt} {ss body : List Stmt}
theorem PSet.or {r r' : TSet} (h : PSet X r) (h' : PSet X r') : PSet X (fun o i v H Q => r o i v H Q ∨ r' o i v H Q) := by
  intro pins s σ H o i v ov iv u Q I ro ri rv q
  rcases q with q | q
  · exact h pins s σ H o i v ov iv u Q I ro ri rv q
  · exact h' pins s σ H o i v ov iv u Q I ro ri rv q
theorem zip_at : ∀ {ks : List Key} {k : Key} {kvs : List (Key × V)} {ds : List D} {y : D} {v : V}, kvs.map (·.1) = ks → (kvs.map fun kv => if kv.1 = k then (kv.1, v) else kv).map (·.1) = ks
  | _, k, [], ds, y, v, e => e
  | _, k, (k', u) :: kvs, ds, y, v, e => by
    subst e
    rw [List.map_cons, List.map_cons, List.map_cons, zip_at (ds := ds) (y := y) rfl]
    by_cases h : k' = k
    · rw [if_pos h]
    · rw [if_neg h]
theorem OwnL.zipAt {K : PySem.W.Frag} {Fz : FzT} {H : Hp} {x : P} {v : V} {k : Key} (hx : Fr K Fz H x v) : ∀ {ks : List Key} {kvs : List (Key × V)} {ds : List D} {f : List Addr}, kvs.map (·.1) = ks → OwnL K Fz H ds (kvs.map (·.2)) f →
    ∃ f', OwnL K Fz H (ks.zipWith (fun q d => if q = k then .p x else d) ds) ((kvs.map fun kv => if kv.1 = k then (kv.1, v) else kv).map (·.2)) f' ∧ ∀ a ∈ f', a ∈ f
  | ks, [], ds, f, e, h => by
    subst e
    obtain ⟨z, zf⟩ : ds = [] ∧ f = [] := by
      cases ds with
      | nil => exact ⟨rfl, h.2⟩
      | cons d ds => obtain ⟨_, _, _, _, e, _⟩ := h; cases e
    subst z zf
    exact ⟨[], ⟨rfl, rfl⟩, fun _ z => z⟩
  | ks, (k', u) :: kvs, ds, f, e, h => by
    subst e
    cases ds with
    | nil => cases h.1
    | cons d ds =>
      obtain ⟨v1, vr, f1, f2, ev, ef, o, ol, dj⟩ := h
      cases ev
      subst ef
      obtain ⟨f', h1, h2⟩ := OwnL.zipAt hx rfl ol
      rw [List.map_cons, List.map_cons, List.map_cons, List.zipWith_cons_cons]
      by_cases hk : k' = k
      · rw [if_pos hk, if_pos hk]
        exact ⟨f', ⟨v, _, [], f', rfl, rfl, ⟨rfl, hx⟩, h1, fun _ z => nomatch z⟩, fun a ha => List.mem_append_right _ (h2 a ha)⟩
      · rw [if_neg hk, if_neg hk]
        refine ⟨f1 ++ f', ⟨u, _, f1, f', rfl, rfl, o, h1, fun a ha hb => dj a ha (h2 a hb)⟩, fun a ha => ?_⟩
        rcases List.mem_append.mp ha with z | z
        · exact List.mem_append_left _ z
        · exact List.mem_append_right _ (h2 a z)
theorem OwnL.snoc {K : PySem.W.Frag} {Fz : FzT} {H : Hp} {x : P} {v : V} (hx : Fr K Fz H x v) : ∀ {ds : List D} {vs : List V} {f : List Addr}, OwnL K Fz H ds vs f → OwnL K Fz H (ds ++ [.p x]) (vs ++ [v]) f
  | [], vs, f, h => by
    obtain ⟨e1, e2⟩ := h
    subst e1 e2
    exact ⟨v, [], [], [], rfl, rfl, ⟨rfl, hx⟩, ⟨rfl, rfl⟩, fun _ z => nomatch z⟩
  | d :: ds, vs, f, h => by
    obtain ⟨v1, vr, f1, f2, ev, ef, o, ol, dj⟩ := h
    subst ev
    exact ⟨v1, vr ++ [v], f1, f2, rfl, ef, o, OwnL.snoc hx ol, dj⟩
theorem asg_sub {o b : Expr} {p2 : Pos} {env : Env} (hb : ∀ lo hi st p, b ≠ .Slice lo hi st p) : ∀ v, assign (.Subscript o b p2) env v = (do
      let ov ← holding [v] (eval o env)
      let iv ← holding [v, ov] (eval b env)
      standAt p2
      holding [v, ov, iv] (setItem ov iv v)
      release [v, ov, iv] []) := fun v => by
  cases b <;> first | exact absurd rfl (hb _ _ _ _) | rfl
/-- the store itself -/
theorem sst_end {c : D} {x y : P} {i : Nat} {σ : SL} {ρ : Env'} {Fz : FzT} {H : Hp} {fp : List Addr} {v u : V} {Q : Hp → Prop} {Qd : D → Prop} (he : OwnE X.K Fz H ρ σ fp) (hc : ρ[i]? = some (some c)) (hi : σ[i]? = some (some u)) {iv : V} (sx : See X.K Fz H x iv) (hv : Fr X.K Fz H y v) (hs : sstS c x y Qd)
    (k : ∀ d H' fp', Qd d → Reach fp Fz H Fz H' → OwnE X.K Fz H' (ρ.set i (some d)) σ fp' → (∀ a ∈ fp', a ∈ fp) → Q H') : rSetL u iv v H Q ∨ rSetD u iv v H Q := by
  obtain ⟨u', f1, f2, h1, ow, h3, h4, h5⟩ := he.take hc
  rw [hi] at h1; cases h1
  have hlen : i < ρ.length := (List.getElem?_eq_some_iff.mp hc).1
  cases c with
  | p z => cases x <;> exact (show False from hs).elim
  | lst ps =>
    cases x <;> first | exact (show False from hs).elim | skip
    case int n =>
      obtain ⟨j, hj, hq⟩ : ∃ j, idx ps.length n = some j ∧ Qd (.lst (ps.set j y)) := hs
      obtain ⟨a, vs, ev, ef, ha, nf, hf⟩ := ow
      subst ev ef
      refine .inl ⟨a, vs, n, j, rfl, sx.int, ha, by rw [hf.len]; exact hj, ?_⟩
      have r1 : Reach [a] Fz H Fz (upd H a (.lst (vs.set j v))) := .write (List.mem_cons_self ..) ha True.intro
      have fpa : Fp Fz H [a] := fun b hb => by
        have e : b = a := by simpa using hb
        subst e; exact ⟨nf, _, ha, True.intro⟩
      have e3 := h3.stay r1 fpa h4.symm
      have o1 : Own X.K Fz (upd H a (.lst (vs.set j v))) (.lst (ps.set j y)) (.ref a) [a] := ⟨a, _, rfl, rfl, upd_same, nf, (hf.set hv j).stay r1 fpa⟩
      obtain ⟨f', e4, hs4⟩ := e3.back (i := i) (by simpa using hlen) hi o1 h4
      rw [List.set_set] at e4
      refine k _ _ f' hq (r1.more fun b hb => (h5 b).mpr (.inl hb)) e4 fun b hb => (h5 b).mpr (hs4 b hb)
  | dic ks ds =>
    obtain ⟨k', hk, hz, hq⟩ : ∃ k', asKey x = some k' ∧ ks.length < sizeLine ∧ Qd (if (ks.any fun q => decide (q = k')) = true then .dic ks (ks.zipWith (fun q d => if q = k' then .p y else d) ds) else .dic (ks ++ [k']) (ds ++ [.p y])) := by
      cases x <;> exact hs
    obtain ⟨a, kvs, g, ev, ef, ha, nf, ng, ek, ol⟩ := ow
    subst ev ef
    have hl : kvs.length = ks.length := by rw [← ek, List.length_map]
    refine .inr ⟨a, _, rfl, .inl ⟨kvs, k', ha, asKey_see sx hk, by rw [hl]; exact hz, rfl⟩, ?_⟩
    have r1 : Reach [a] Fz H Fz (upd H a (.dK (putK kvs k' v))) := .write (List.mem_cons_self ..) ha True.intro
    have fpa : Fp Fz H [a] := fun b hb => by
      have e : b = a := by simpa using hb
      subst e; exact ⟨nf, _, ha, True.intro⟩
    have dga : Dis g [a] := fun b hb hb2 => by
      have e : b = a := by simpa using hb2
      subst e; exact ng hb
    have e3 := h3.stay r1 fpa (fun b hb hb2 => h4 b (by
      have e : b = a := by simpa using hb2
      subst e; exact List.mem_cons_self ..) hb)
    have hv' := hv.stay r1 fpa
    have ol' := ol.stay r1 fpa dga
    have fin : ∀ {ks' : List Key} {ds' : List D} {g' : List Addr}, (putK kvs k' v).map (·.1) = ks' → OwnL X.K Fz (upd H a (.dK (putK kvs k' v))) ds' ((putK kvs k' v).map (·.2)) g' → (∀ b ∈ g', b ∈ g) → Qd (.dic ks' ds') → Q (upd H a (.dK (putK kvs k' v))) := fun {ks' ds' g'} e1 o1 sg hq => by
      have o2 : Own X.K Fz (upd H a (.dK (putK kvs k' v))) (.dic ks' ds') (.ref a) (a :: g') := ⟨a, _, g', rfl, rfl, upd_same, nf, fun z => ng (sg a z), e1, o1⟩
      obtain ⟨f', e4, hs4⟩ := e3.back (i := i) (by simpa using hlen) hi o2 fun b hb => by
        rcases List.mem_cons.mp hb with z | z
        · subst z; exact h4 b (List.mem_cons_self ..)
        · exact h4 b (List.mem_cons_of_mem _ (sg b z))
      rw [List.set_set] at e4
      refine k _ _ f' hq (r1.more fun b hb => (h5 b).mpr (.inl (by
        have e : b = a := by simpa using hb
        subst e; exact List.mem_cons_self ..))) e4 fun b hb => (h5 b).mpr ((hs4 b hb).imp_left fun z => ?_)
      rcases List.mem_cons.mp z with z | z
      · rw [z]; exact List.mem_cons_self ..
      · exact List.mem_cons_of_mem _ (sg b z)
    have ea : (kvs.any fun kv => decide (kv.1 = k')) = (ks.any fun q => decide (q = k')) := by rw [← ek, List.any_map]; rfl
    by_cases hin : (ks.any fun q => decide (q = k')) = true
    · rw [if_pos hin] at hq
      have ep : putK kvs k' v = kvs.map fun kv => if kv.1 = k' then (kv.1, v) else kv := by unfold putK; rw [if_pos (by rw [ea]; exact hin)]
      obtain ⟨g', o1, sg⟩ := OwnL.zipAt (k := k') hv' ek ol'
      exact fin (by rw [ep]; exact zip_at (ds := ds) (y := .p y) ek) (by rw [ep] at o1 ⊢; exact o1) sg hq
    · rw [if_neg hin] at hq
      have ep : putK kvs k' v = kvs ++ [(k', v)] := by unfold putK; rw [if_neg (by rw [ea]; exact hin)]
      refine fin (g' := g) ?_ ?_ (fun _ z => z) hq
      · rw [ep, List.map_append, ek]; rfl
      · have := OwnL.snoc hv' ol'
        rw [ep] at this ⊢
        rw [List.map_append]
        exact this
theorem s_sst {i : Nat} {x : Str} {p1 p2 : Pos} (hu : X.A.units + 1 < cLine) (hN : X.N[i]? = some x) (hv : Vis X.env.scope x) (hd : (x == ("__debug__" : Str)) = false) (hcd : (x == ("__classdict__" : Str)) = false)
    (hb : SE X cls TB E EX G b tb) (h : SE X cls TB E EX G e t) (hsl : ∀ lo hi st p, b ≠ .Slice lo hi st p) (hw : swappedStores [.Subscript (.Name x p1) b p2] e X.env = pure none) :
    SS X cls TB E EX G (.Assign [.Subscript (.Name x p1) b p2] e pos) (.sst i tb t) := fun fx => by
  refine (ps_asg h.pe (pg_sub (pe_var (i := i) hN hv hd hcd) hb.lo (PSet.or set_list (set_dict hu)) (asg_sub hsl)) (show swapsWithSole [.Subscript (.Name x p1) b p2] e pos.line X.env = pure false from @noSub_ok _ e (.Name x p1) b p2 pos.line X.env) hw rfl).imp fun D σ H ⟨ρ, Fz, fp, D', st, hw, en⟩ => ?_
  refine ⟨ρ, Fz, fp, _, st, hw, fun d ρ1 v H1 Fz1 fv fp1 hp s1 o1 dj1 sb1 => ?_⟩
  obtain ⟨⟨c0, hc0⟩, hp⟩ := hp
  obtain ⟨u, f1, h1, _, _⟩ := s1.e.get hc0
  have rz : Reach fv Fz1 H1 (FzPlus Fz1 fv) H1 := .freeze (fun a ha => ha) o1.fp
  have ez := s1.e.stay rz o1.fp dj1.symm
  have sz : Stp X.K σ fp Fz H ρ1 (FzPlus Fz1 fv) H1 fp1 := ⟨s1.r.trans sb1 rz, ez, s1.s⟩
  have fz : Fr X.K (FzPlus Fz1 fv) H1 (frz d) v := o1.frz (fun _ z => .inl z) fun _ z => .inr z
  refine ⟨u, h1, ρ1, _, fp1, _, st.step sz, hp, fun o2 ρ2 v2 H2 Fz2 f2 fp2 q2 s2 ok2 dj2 sb2 => ?_⟩
  obtain ⟨y, sy, c, hc, hs⟩ := ok2.see s2.e q2
  have p := sz.trans s2
  refine sst_end s2.e hc h1 sy (fz.stay s2.r sz.e.fpO) hs fun d H' fp' hd r e s => ?_
  exact en.nx _ σ H' Fz2 fp' hd (p.toS.trans ⟨r, e, fun a ha => .inl (s a ha), rfl, fun _ _ => rfl⟩)
theorem s_aug {i : Nat} {x : Str} {op : Operator} {o : BOp} {p1 : Pos} (hop : (op = .Add ∧ o = .add) ∨ (op = .Sub ∧ o = .sub)) (hN : X.N.Nodup) (hi : X.N[i]? = some x) (hx : Loc X.env.scope x) (h : SE X cls TB E EX G e t) (hf : X.fn x = true ∨ X.env.scope.names.lookup x = some .local) :
    SS X cls TB E EX G (.AugAssign (.Name x p1) op e pos) (.aug i o t) := fun fx => by
  have fin : ∀ {f : Int → Int → Int} {D : Ends} {σ : SL} {H : Hp}, (∀ i j (Q : PL.D → Prop), augS o (.int i) (.int j) Q → Q (.p (.int (f i j)))) → LS X.K cls TB E EX fx (wS G EX fx (.aug i o t)) D σ H → tAug i (LO X.K cls TB E EX (opd t (w G EX t))) (ipI f) D σ H := fun {f D σ H} hf ⟨ρ, Fz, fp, D', st, ⟨⟨d, hd⟩, hw⟩, en⟩ => by
    obtain ⟨v0, f0, h0, o0, _⟩ := st.own.get hd
    refine ⟨v0, h0, ρ, Fz, fp, _, st, hw, fun o1 ρ1 v1 H1 Fz1 f1 fp1 q1 s1 ok1 dj1 sb1 => ?_⟩
    obtain ⟨y, sy, hnf, x, hx, hs⟩ := ok1.see s1.e q1
    obtain ⟨v2, f2, h2, o2, _⟩ := s1.e.get hx
    rw [h0] at h2; cases h2
    have hlen : i < ρ1.length := (List.getElem?_eq_some_iff.mp hx).1
    cases x <;> first | (cases o <;> exact (show False from hs).elim) | skip
    case int m =>
      cases y <;> first | (cases o <;> exact (show False from hs).elim) | skip
      case int n =>
        refine ⟨m, n, o2.2, sy.int, ?_⟩
        obtain ⟨fp2, q⟩ := StpS.put (i := i) (d := .p (.int (f m n))) (v := .int (f m n)) (fv := []) s1 hlen hnf ⟨rfl, rfl⟩ Dis.nil Sub.nil
        exact en.nx _ _ _ _ _ (hf m n _ hs) q
  rcases hop with ⟨rfl, rfl⟩ | ⟨rfl, rfl⟩
  · exact (ps_aug hN hi hx h.lo ip_add hf).imp fun D σ H q => fin (fun i j Q h => h) q
  · exact (ps_aug hN hi hx h.lo ip_sub hf).imp fun D σ H q => fin (fun i j Q h => h) q
/-! ### raise -/
/-- an own class that may be raised with one value -/
structure MkOk (X : Cx) (cls : Nat → Option Addr) (x : Str) (c : Nat) : Prop where
  ok : ∃ (C : Addr) (R : V → Hp → XK → Prop), cls c = some C ∧ (∀ v H1 Q, (∀ d, H1 d = none → Q (.ref C) (some d) (upd H1 d (.xd [("what", v)]))) → R v H1 Q) ∧ ∀ (e : Expr) (p pos : Pos) (te : TE), PE X e te → (∀ es : List Expr, starEach (e :: es) X.env = (false, eval e X.env) :: starEach es X.env) →
    L2N.PMk X (.Call (.Name x p) [e] [] pos) (fun σ H Q => te σ H fun v H1 => R v H1 Q)
theorem s_rais {x : Str} {cc : Nat} {p1 p2 : Pos} (hc : X.calm = true) (tk : L2N.Takes X fun c d _ H => E c d H) (m : MkOk X cls x cc) (h : SE X cls TB E EX G e t) :
    SS X cls TB E EX G (.Raise (some (.Call (.Name x p1) [e] [] p2)) none pos) (.rais cc t) := fun fx => by
  obtain ⟨C, R, hC, hR, hm⟩ := m.ok
  refine (L2N.ps_raise hc tk (hm e p1 p2 _ h.pe h.star)).imp fun D σ H ⟨ρ, Fz, fp, D', st, hw, en⟩ => ?_
  refine ⟨ρ, Fz, fp, _, st, hw, fun d ρ1 v H1 Fz1 fv fp1 hp s1 o1 dj1 sb1 => hR v H1 _ fun d' hd' => ?_⟩
  have rz : Reach fv Fz1 H1 (FzPlus Fz1 fv) H1 := .freeze (fun a ha => ha) o1.fp
  have fz : Fr X.K (FzPlus Fz1 fv) H1 (frz d) v := o1.frz (fun _ z => .inl z) fun _ z => .inr z
  have rn : Reach [] (FzPlus Fz1 fv) H1 (FzPlus Fz1 fv) (upd H1 d' (.xd [("what", v)])) := .new hd'
  exact st.el cc (frz d) hp C d' v _ _ ((s1.r.trans sb1 rz).trans Sub.nil rn) hC upd_same (fz.new hd')
end
end PL
set_option Elab.async false
set_option linter.all false
set_option maxRecDepth 100000
set_option maxHeartbeats 4000000
/-! x[::-1] of lists and tuples. -/
namespace PL
open PySem PySem.Spec PyProof.Rows L2
variable [QN]
section
variable {prog : Program} {w : World} {A : Around} {E : Value → Shared → Prop} {s : Shared}
theorem sliceApplied_rev {sl : Addr} {vl vu vs : Value} {n : Nat} {Q : Int × Int × Nat → Shared → Prop} (hs : s.heap.IsSliceOf sl vl vu vs) (pl : IsPart vl none) (pu : IsPart vu none) (ps : IsPart vs (some (-1)))
    (h : Q ((n : Int) - 1, -1, n) s) : wpAny (model prog w) A (Builtin.Slice.sliceApplied (.ref sl) (pure (n : Int))) Q E s := by
  obtain ⟨os, hos, hcs, hds⟩ := id hs
  unfold Builtin.Slice.sliceApplied Builtin.Slice.sliceFields
  refine wpAny_bind (wpAny_bind (wpAny_field hos hds (x := vl) rfl (wpAny_bind (wpAny_field hos hds (x := vu) rfl (wpAny_bind (wpAny_field hos hds (x := vs) rfl (wpAny_pure ?_)))))))
  refine wpAny_bind (HT.slicePart_ ps ?_)
  show wpAny _ _ (if ((-1 : Int) == 0) = true then _ else _) _ _ s
  rw [if_neg (by decide)]
  refine wpAny_bind (HT.slicePart_ pl (wpAny_bind (HT.slicePart_ pu (wpAny_bind (wpAny_pure ?_)))))
  have e1 : Builtin.Slice.sliceAdjust none none (-1) (n : Int) = ((n : Int) - 1, -1) := by
    unfold Builtin.Slice.sliceAdjust
    simp
  show wpAny _ _ (match Builtin.Slice.sliceAdjust none none (-1) (n : Int) with | (lo, hi) => pure (lo, (-1 : Int), Builtin.Slice.slicePlaces lo hi (-1))) _ _ s
  rw [e1]
  have e2 : Builtin.Slice.slicePlaces ((n : Int) - 1) (-1) (-1) = n := by
    unfold Builtin.Slice.slicePlaces
    rw [if_neg (by decide)]
    split <;> simp <;> omega
  show wpAny _ _ (pure ((n : Int) - 1, (-1 : Int), Builtin.Slice.slicePlaces ((n : Int) - 1) (-1) (-1))) _ _ s
  rw [e2]
  exact wpAny_pure h
theorem pick_rev (xs : List Value) : ((List.range xs.length).filterMap fun (m : Nat) => xs.toArray[((xs.length : Int) - 1 + (m : Int) * (-1)).toNat]?).toArray = xs.reverse.toArray := by
  have e1 : ((List.range xs.length).filterMap fun (m : Nat) => xs.toArray[((xs.length : Int) - 1 + (m : Int) * (-1)).toNat]?) = ((List.range xs.length).map fun m => xs.length - 1 - m).filterMap fun m => xs.toArray[m]? := by
    have e2 : ((List.range xs.length).map fun m => xs.length - 1 - m) = (List.range xs.length).map fun (m : Nat) => ((xs.length : Int) - 1 + (m : Int) * (-1)).toNat := by
      apply List.map_congr_left
      intro m hm
      have := List.mem_range.mp hm
      omega
    rw [e2, List.filterMap_map]
    rfl
  have h := PySem.W.krv_all xs.toArray
  rw [List.size_toArray] at h
  rw [e1, PySem.W.krv_range, List.filterMap_reverse, h]
theorem getItem_tuple_rev {t sl : Addr} {items : List Value} {vl vu vs : Value} {Q : Value → Shared → Prop} (ht : IsTup s.heap t items.toArray) (hs : s.heap.IsSliceOf sl vl vu vs) (pl : IsPart vl none) (pu : IsPart vu none) (ps : IsPart vs (some (-1)))
    (h : Q (.ref s.heap.objs.size) { s with heap := s.heap.push { cls := .type "tuple", data := .seq items.reverse.toArray } })
    (hsz : items.length ≤ sizeLine) : wpAny (model prog w) A (getItem (.ref t) (.ref sl)) Q E s := by
  have htake : sizeOk (.seq items.reverse.toArray) := by
    show items.reverse.toArray.size ≤ sizeLine
    rw [List.size_toArray, List.length_reverse]
    exact hsz
  obtain ⟨os, hos, hcs, hds⟩ := id hs
  have hTs : s.TypeIs (.ref sl) "slice" := ⟨os, hos, hcs⟩
  unfold getItem
  try with_reducible refine wpAny_holding ?_
  first | refine wpAny_bind (wpAny_pure ?_) | skip
  refine wpAny_bind (wpAny_sequenceKey ht.typeIs (by decide) ?_)
  refine wpAny_bind (wpAny_callSpecial?_slot (name := Str.ofString "__getitem__") ht.typeIs PyProof.Rows.slot_tuple_getitem
    (wpAny_call_entry PyProof.Rows.slot_tuple_getitem ht.typeIs entry_tuple_getitem ?_ (args_tuple_getitem _ _)))
  show wpAny _ _ (Builtin.Tuple.tupleItemsOf (.ref t) >>= _) _ _ s
  refine wpAny_bind (tupleItemsOf_ ht ?_)
  refine wpAny_bind (wpAny_typeOf hTs ?_)
  rw [if_pos (by decide)]
  have hsize : items.toArray.size = items.length := List.size_toArray ..
  rw [hsize]
  refine wpAny_bind (sliceApplied_rev hs pl pu ps ?_)
  have hno : ¬ ((((items.length : Int) - 1) == 0 && (-1 : Int) == 1 && items.length == items.toArray.size) = true) := by
    intro q
    rw [Bool.and_eq_true, Bool.and_eq_true] at q
    exact absurd q.1.2 (by decide)
  show wpAny _ _ (if (((items.length : Int) - 1) == 0 && (-1 : Int) == 1 && items.length == _) = true then _ else _) _ _ s
  rw [if_neg (by first | exact hno | (rw [hsize] at hno; exact hno)), pick_rev]
  first
    | exact wpAny_bind (m := Builtin.Tuple.tupleExact _) (wpAny_newObj_type (wpAny_pure ⟨_, rfl, wpAny_pure h⟩) htake)
    | exact wpAny_bind (m := Builtin.Tuple.tupleExact _) (wpAny_newObj_type (wpAny_bind (wpAny_pure (wpAny_pure ⟨_, rfl, wpAny_pure h⟩))) htake)
    | exact wpAny_bind (wpAny_bind (m := Builtin.Tuple.tupleExact _) (wpAny_newObj_type (wpAny_pure (wpAny_pure ⟨_, rfl, wpAny_pure h⟩)) htake))
    | exact wpAny_bind (wpAny_bind (m := Builtin.Tuple.tupleExact _) (wpAny_newObj_type (wpAny_pure ⟨_, rfl, wpAny_pure h⟩) htake))
end
section
variable {X : Cx} {cls : Nat → Option Addr} {TB : List (Addr × Str)} {E : XK} {EX : Nat → P → Prop} {G : List Fn}
variable {a : Expr} {ta : T}
def tRevA (K : PySem.W.Frag) (te : TE) : TE := fun σ H Q => te σ H fun x H1 => ∃ a xs, x = .ref a ∧ ((SqL K H1 a xs ∧ ∀ p, H1 p = none → Q (.ref p) (upd H1 p (.lst xs.reverse))) ∨ (SqT K H1 a xs ∧ ∀ p, H1 p = none → Q (.ref p) (upd H1 p (.tup xs.reverse))))
theorem pe_revA {e : Expr} {te : TE} {k : Nat} {p1 p2 p3 pos : Pos} (he : PE X e te) : PE X (.Subscript e (.Slice none none (some (.UnaryOp .USub (.Constant (.int 1) k p1) p2)) p3) pos) (tRevA X.K te) := by
  refine ⟨fun pins s σ H Q I h => ?_⟩
  refine Subscript_ (thn (he.run pins s σ H _ I h) fun v s1 ⟨x, H1, I1, r1, q1⟩ => ?_)
  obtain ⟨a, xs, ex, q1⟩ := q1
  subst ex
  cases r1
  have hst : PO X (some (.UnaryOp .USub (.Constant (.int 1) k p1) p2)) (tPart (tUn (rU fun i => .int (-i)) (tC (.int 1)))) := po_some (pe_un un_neg pe_int)
  refine wpAny_Slice (thn (po_none.run pins s1 σ H1 (fun o H2 => o = none ∧ H2 = H1) I1 ⟨rfl, rfl⟩) fun vl s2 ⟨l, H2, I2, pl, el, e2⟩ => ?_)
  subst el e2
  refine thn (po_none.run pins s2 σ H2 (fun o H3 => o = none ∧ H3 = H2) I2 ⟨rfl, rfl⟩) fun vu s3 ⟨u, H3, I3, pu, eu, e3⟩ => ?_
  subst eu e3
  refine thn (hst.run pins s3 σ H3 (fun o H4 => o = some (-1) ∧ H4 = H3) I3 ⟨1, rfl, -1, rfl, rfl, rfl⟩) fun vs s4 ⟨o, H4, I4, ps, eo, e4⟩ => ?_
  subst eo e4
  have I5 : Inv X pins σ H4 { s4 with heap := s4.heap.push { cls := .type "slice", data := .fields #[vl, vu, vs] } } := I4.kept (t' := s4.toks) fun b ob q => Heap.get?_push_of_some _ q
  show wpAny (model X.prog X.w) X.A (subscriptTail e (.Slice none none (some (.UnaryOp .USub (.Constant (.int 1) k p1) p2)) p3) (.ref a) (.ref s4.heap.objs.size)) (EP X pins σ Q) X.xe { s4 with heap := s4.heap.push { cls := .type "slice", data := .fields #[vl, vu, vs] } }
  rcases q1 with ⟨hx, q⟩ | ⟨hx, q⟩
  · obtain ⟨its, r, ht, hz⟩ := I5.list hx
    have hlen := r.length
    refine tail_any (ops := [.ref a, .ref s4.heap.objs.size]) ht.isList.typeIs (PySem.slot_list_getitem.lookup) ?_ (by with_unfolding_all rfl)
    refine wpAny_getItem_list_slice ht.isList (Heap.IsSliceOf.new _ vl vu vs) pl pu ps (by decide) ?_ (by rw [List.size_toArray]; omega)
    rw [PySem.W.krv_pick]
    refine ⟨.ref _, _, I5.laid (t' := s4.toks) (o := .lst xs.reverse) (fun b ob q => Heap.get?_push_of_some _ q) (Nat.le_refl _) ?_, rfl, q _ (I5.hok.fresh (Nat.le_refl _))⟩
    exact ⟨by rw [List.length_reverse]; exact hz, _, 0, r.reverse, Heap.get?_push_size _ rfl⟩
  · obtain ⟨its, r, ht, hz⟩ := I5.tuple hx
    have hlen := r.length
    refine tail_any (ops := [.ref a, .ref s4.heap.objs.size]) ht.typeIs (PyProof.Rows.slot_tuple_getitem.lookup) ?_ (by with_unfolding_all rfl)
    refine getItem_tuple_rev ht (Heap.IsSliceOf.new _ vl vu vs) pl pu ps ?_ (by omega)
    refine ⟨.ref _, _, I5.laid (t' := s4.toks) (o := .tup xs.reverse) (fun b ob q => Heap.get?_push_of_some _ q) (Nat.le_refl _) ?_, rfl, q _ (I5.hok.fresh (Nat.le_refl _))⟩
    exact ⟨by rw [List.length_reverse]; exact hz, _, r.reverse, IsTup.new _ _⟩
theorem r_rev {k : Nat} {p1 p2 p3 pos : Pos} (ha : SE X cls TB E EX G a ta) : SE X cls TB E EX G (.Subscript a (.Slice none none (some (.UnaryOp .USub (.Constant (.int 1) k p1) p2)) p3) pos) (.rev ta) := by
  refine ⟨(pe_revA ha.lo).imp fun σ H Q ⟨ρ, Fz, fp, P', st, hw, k⟩ => ?_, (fun i z => nomatch z), fun _ => rfl⟩
  refine ⟨ρ, Fz, fp, _, st, hw, fun o1 ρ1 v1 H1 Fz1 f1 fp1 q1 s1 ok1 dj1 sb1 => ?_⟩
  obtain ⟨x, sx, h⟩ := ok1.see s1.e q1
  cases x <;> first | exact (show False from h).elim | skip
  case tup ps =>
    obtain ⟨a, vs, e, h1, h2⟩ := sx.tup
    refine ⟨a, vs, e, .inr ⟨h1, fun p hp => ?_⟩⟩
    exact fin k s1 (show P' (.p (.tup ps.reverse)) ρ1 from h) (.new hp) (fv := []) ⟨rfl, p, vs.reverse, rfl, .of upd_same, h2.reverse.new hp⟩ fun _ z => nomatch z
  case lst ps =>
    obtain ⟨a, vs, e, h1, h2⟩ := sx.lst
    refine ⟨a, vs, e, .inl ⟨.of h1, fun p hp => ?_⟩⟩
    refine fin k s1 (show P' (.lst ps.reverse) ρ1 from h) (.new hp) (fv := [p]) ⟨p, vs.reverse, rfl, rfl, upd_same, fun z => (st.step s1).fl p z hp, h2.reverse.new hp⟩ fun a ha => ?_
    have e : a = p := by simpa using ha
    subst e; exact hp
end
end PL
set_option Elab.async false
set_option linter.all false
set_option maxRecDepth 100000
set_option maxHeartbeats 4000000
/-! len(set(a list of whole numbers)). -/
namespace PL
open PySem PySem.Spec PyProof.Rows L2
variable [QN]
theorem firstMet_all (ns : List Int) : firstMet (fun i => ns.getD i 0) ns.length = dedupI ns := by
  have e : (List.range ns.length).map (fun i => ns.getD i 0) = ns := by
    apply List.ext_getElem
    · simp
    · intro i h1 h2
      simp [List.getD, h2]
  unfold firstMet
  rw [e]
  rfl
theorem dedup_inv : ∀ (ns acc : List Int), acc.Nodup → (ns.foldl addNew acc).Nodup ∧ ∀ k, k ∈ ns.foldl addNew acc ↔ k ∈ acc ∨ k ∈ ns
  | [], acc, h => ⟨h, by simp⟩
  | n :: ns, acc, h => by
    have hn : (addNew acc n).Nodup ∧ ∀ k, k ∈ addNew acc n ↔ k ∈ acc ∨ k = n := by
      unfold addNew
      split
      · rename_i q
        obtain ⟨x, hx, e⟩ := List.any_eq_true.mp q
        have e : x = n := eq_of_beq e
        subst e
        exact ⟨h, fun k => ⟨.inl, fun z => z.elim id fun e => e ▸ hx⟩⟩
      · rename_i q
        refine ⟨List.nodup_append.mpr ⟨h, by simp, fun a ha b hb e => ?_⟩, by simp⟩
        simp at hb
        subst hb e
        exact q (List.any_eq_true.mpr ⟨_, ha, beq_self_eq_true _⟩)
    obtain ⟨h1, h2⟩ := dedup_inv ns (addNew acc n) hn.1
    refine ⟨h1, fun k => ?_⟩
    show k ∈ ns.foldl addNew (addNew acc n) ↔ _
    rw [h2, hn.2]
    simp [or_assoc]
theorem dedup_nodup (ns : List Int) : (dedupI ns).Nodup := (dedup_inv ns [] List.nodup_nil).1
theorem dedup_mem {ns : List Int} {k : Int} : k ∈ dedupI ns ↔ k ∈ ns := by
  have := (dedup_inv ns [] List.nodup_nil).2 k
  simpa [dedupI] using this
section
variable {X : Cx} {cls : Nat → Option Addr} {TB : List (Addr × Str)} {E : XK} {EX : Nat → P → Prop} {G : List Fn} {a e : Expr} {ta : T} {pos p p2 q : Pos}
def tLs (K : PySem.W.Frag) (te : TE) : TE := fun σ H Q => te σ H fun x H1 => ∃ (l : Addr) (ns : List Int), x = .ref l ∧ (SqL K H1 l (ns.map V.int) ∨ SqT K H1 l (ns.map V.int)) ∧ ns.length < 4000 ∧ Q (.int (dedupI ns).length) H1
theorem pe_lenset {te : TE} (hc : X.calm = true) (hg : Gl X "len") (hm : X.mg "len" = none) (gs : Gl X "set") (ms : X.mg "set" = none) (he : PE X e te) (hn : starEach [e] X.env = (false, eval e X.env) :: starEach [] X.env) :
    PE X (.Call (.Name "len" p) [.Call (.Name "set" p2) [e] [] q] [] pos) (tLs X.K te) := ⟨fun pins s σ H Q I h => by
  refine Call_ (ld_blt I hg hm PySem.boot_len (callWith_builtin1 (args_cons ?_ rfl) rfl rfl))
  refine Call_ (ld_blt I gs ms boot_set (callWith_type1 (args_cons (thn (he.run pins s σ H _ I h) fun v s1 ⟨x, H1, I1, r1, l, ns, ex, hq, hl, k⟩ => args_nil ?_) hn) hn rfl))
  subst ex
  cases r1
  rcases hq with hq | hq
  case inr =>
    obtain ⟨its, r, pt, hz⟩ := I1.tuple hq
    refine call_set_tupI ns (I1.ok.hd hc) (show s1.heap.IsTuple l its.toArray from pt) (by simpa using r.ints) (by unfold scanBound; omega) fun h' tk c R hcn hk => args_nil ?_
    obtain ⟨o, es, ep, t, ho, hex, hd, _, nd, hmem, _, hf, hnn, _, _⟩ := R
    have I2 : Inv X pins σ H1 { s1 with heap := h', toks := tk } := I1.kept hk
    have hp : (es.toList.map L2.keyOf).Perm (dedupI ns) := (List.perm_ext_iff_of_nodup nd (dedup_nodup ns)).mpr fun k => by
      rw [← hmem, dedup_mem]
      simp
    have hlen : es.size = (dedupI ns).length := by
      have := hp.length_eq
      simpa using this
    have hz2 : es.size ≤ ns.length := by omega
    exact call_len_set ho hex hd hf (by omega) ⟨.int (dedupI ns).length, H1, I2.tok _, ⟨_, by rw [hlen]⟩, k⟩
  obtain ⟨its, r, pl, hz⟩ := I1.list hq
  have hsz : its.toArray.size = ns.length := by rw [List.size_toArray, ← r.length, List.length_map]
  refine call_set_list (ns := ns) (I1.ok.hd hc) pl.isList (by simpa using r.ints) (by unfold scanBound; omega) fun h' tk hS hk => args_nil ?_
  rw [hsz, firstMet_all] at hS
  have hle : (dedupI ns).length ≤ ns.length := by rw [← firstMet_all]; exact firstMet_length_le _ _
  obtain ⟨o, es, ep, t, ho, hex, hd, _, _, _, hf, hnn⟩ := hS
  have I2 : Inv X pins σ H1 { s1 with heap := h', toks := tk } := I1.kept fun b o e => hk b o (Heap.lt_size e) e
  have hz2 : es.size ≤ sizeLine := by rw [hnn, sizeLine_eq]; omega
  refine call_len_set ho hex hd hf ?_ ⟨.int (dedupI ns).length, H1, I2.tok _, ⟨_, by rw [hnn]⟩, k⟩
  first | exact hz2 | omega⟩
theorem FrL.intsOf {K : PySem.W.Frag} {Fz : FzT} {H : Hp} : ∀ {xs : List P} {ns : List Int} {vs : List V}, intsP xs = some ns → FrL K Fz H xs vs → vs = ns.map V.int
  | [], ns, vs, h, hf => by
    cases h
    exact hf
  | x :: xs, ns, vs, h, hf => by
    obtain ⟨v, vr, e, h1, h2⟩ := hf
    cases x <;> try (cases h; done)
    rename_i i
    obtain ⟨ms, h3, h4⟩ := Option.map_eq_some_iff.mp (show (intsP xs).map (i :: ·) = some ns from h)
    subst h4 e
    rw [FrL.intsOf h3 h2]
    cases (show v = V.int i from h1)
    rfl
theorem r_lenset (hc : X.calm = true) (hg : Gl X "len") (hm : X.mg "len" = none) (gs : Gl X "set") (ms : X.mg "set" = none) (ha : SE X cls TB E EX G a ta) : SE X cls TB E EX G (.Call (.Name "len" p) [.Call (.Name "set" p2) [a] [] q] [] pos) (.blt .lenset [ta]) := by
  refine ⟨(pe_lenset hc hg hm gs ms ha.lo (ha.star [])).imp fun σ H Q ⟨ρ, Fz, fp, P', st, hw, k⟩ => ?_, (fun i z => nomatch z), fun _ => rfl⟩
  have hw : opd ta (w G EX ta) ρ (fun o ρ1 => vwOs ρ1 [o] fun xs => bltS .lenset xs fun d => P' d ρ1) := hw
  refine ⟨ρ, Fz, fp, _, st, hw, fun o1 ρ1 v1 H1 Fz1 f1 fp1 q1 s1 ok1 dj1 sb1 => ?_⟩
  obtain ⟨xs, sx, h⟩ := OpdsOk.see (os := [o1]) (f := f1) s1.e ⟨v1, [], f1, [], rfl, by simp, ok1, ⟨rfl, rfl⟩, Dis.nil'⟩ q1
  rcases xs with _ | ⟨x, _ | ⟨y, l⟩⟩
  · exact (show False from h).elim
  · cases x <;> first | exact (show False from h).elim | skip
    case tup =>
      obtain ⟨v, e, s⟩ := sx.one
      cases e
      obtain ⟨ns, h1, h2, h3⟩ := h
      obtain ⟨l, us, e, hl, hf⟩ := s.tup
      have eu := hf.intsOf h1
      subst eu
      exact ⟨l, ns, e, .inr hl, h2, fin k s1 h3 .refl (fv := []) ⟨rfl, rfl⟩ fun _ z => nomatch z⟩
    obtain ⟨v, e, s⟩ := sx.one
    cases e
    obtain ⟨ns, h1, h2, h3⟩ := h
    obtain ⟨l, us, e, hl, hf⟩ := s.lst
    have eu := hf.intsOf h1
    subst eu
    exact ⟨l, ns, e, .inl (.inl (.of hl)), h2, fin k s1 h3 .refl (fv := []) ⟨rfl, rfl⟩ fun _ z => nomatch z⟩
  · cases x <;> exact (show False from h).elim
end
end PL
set_option Elab.async false
set_option linter.all false
set_option maxRecDepth 100000
set_option maxHeartbeats 8000000
/-! Lists and pairs walked within an except suite. -/
namespace PL
open PySem PySem.Spec PyProof.Rows L2 HotX
variable [QN]
section
variable {prog : Program} {w : World} {A : Around} {E : Value → Shared → Prop} {s : Shared}
theorem hot_apart {x1 it : Addr} {o : Obj} {a b : Value} (hot : HotAt A x1 s.heap) (ho : s.heap.get? it = some o) (hd : o.data = .fields #[a, b]) : x1 ≠ it := fun z => by
  obtain ⟨_, o1, vs1, h1, d1, c1⟩ := hot
  rw [z, ho] at h1
  cases h1
  rw [hd] at d1
  cases d1
  simp at c1
theorem next_tuple_endH {it t x1 : Addr} {i : Nat} {items : Array Value} {Q : Option Value → Shared → Prop} (hot : HotAt A x1 s.heap)
    (hit : IsTupIter s.heap it t i) (ht : IsTup s.heap t items) (hx : items[i]? = none)
    (hQ : ∀ h', Heap.ExtBut it s.heap h' → Q none { s with heap := h' }) : wpAny (model prog w) A (pyNext (.ref it)) Q E s := by
  obtain ⟨o, ho, hc, hd⟩ := id hit
  have nx := hot_apart hot ho hd
  obtain ⟨ol, hol, _, nl, hdl⟩ := ht
  obtain ⟨hh, o1, vs1, h1, d1, c1⟩ := hot
  unfold pyNext
  refine wpAny_bind (wpAny_attempt (wpAny_callSpecial?_slot (name := Str.ofString "__next__") hit.typeIs slot_tupleiter_next
    (wpAny_call_entry slot_tupleiter_next hit.typeIs entry_tupleiter_next ?_ (args_tupleiter_next _))))
  show wpAny _ _ (field (.ref it) 0 >>= _) _ _ s
  refine wpAny_bind (wpAny_field ho hd (x := .ref t) rfl ?_)
  show wpAny _ _ (if (Value.ref t == Value.none) = true then _ else _) _ _ s
  rw [if_neg (show ¬ ((Value.ref t == Value.none) = true) from Bool.false_ne_true)]
  show wpAny _ _ (field (.ref it) 1 >>= _) _ _ s
  refine wpAny_bind (wpAny_field ho hd (x := .int i 0) rfl ?_)
  show wpAny _ _ (seqItems? (.ref t) >>= _) _ _ s
  refine wpAny_bind (wpAny_seqItems hol hdl ?_)
  simp only [Int.toNat_natCast, hx]
  refine wpAny_bind (wpAny_rule (wpAny_bind (wpAny_setField ho hd (by simp) ?_)))
  show wpAny _ _ (newExc (.type "StopIteration") [] >>= _) _ _ _
  refine wpAny_bind ?_
  simp only [newExc, newTuple]
  refine wpAny_bind (wpAny_newObj_type ?_ (by size_fits))
  refine wpAny_bind (m := firstArgMember _ _) (wpAny_of_eq (a := Value.none) (by first | rfl | (simp only [firstArgMember]; rfl)) ?_)
  refine wpAny_newObj_type ?_ (by size_fits)
  have g1 : (s.heap.update it (Obj.mapFields (·.setIfInBounds 0 .none))).get? x1 = some o1 := (Heap.get?_update_other _ _ (Ne.symm nx)).trans h1
  refine raiseNew_hot ⟨hh, o1, vs1, Heap.get?_push_of_some _ (Heap.get?_push_of_some _ g1), d1, c1⟩ (Nat.ne_of_lt (Heap.lt_size (Heap.get?_push_of_some _ g1))) (Heap.get?_push_size _ rfl) rfl (by first | (simp; done) | (simp; omega) | (simp only [Array.size_append]; simp; omega)) ?_
  refine wpAny_bind (wpAny_isInstance (T := "StopIteration") (b := true) ⟨_, Heap.get?_update_self _ (Heap.get?_push_size _ rfl) rfl, rfl⟩ isSubtype_stop ?_)
  refine wpAny_pure (hQ _ fun b o hb e => ?_)
  have e1 := (Heap.SameBut.update (h := s.heap) (a := it) (f := Obj.mapFields (·.setIfInBounds 0 .none))).extBut b o hb e
  rw [Heap.get?_update_other _ _ (Nat.ne_of_gt (Heap.lt_size (Heap.get?_push_of_some _ e1)))]
  exact Heap.get?_push_of_some _ (Heap.get?_push_of_some _ e1)
theorem next_list_endH {it t x1 : Addr} {i : Nat} {items : Array Value} {Q : Option Value → Shared → Prop} (hot : HotAt A x1 s.heap)
    (hit : s.heap.IsListIter it t i) (ht : s.heap.IsList t items) (hx : items[i]? = none)
    (hQ : ∀ h', Heap.ExtBut it s.heap h' → Q none { s with heap := h' }) : wpAny (model prog w) A (pyNext (.ref it)) Q E s := by
  obtain ⟨o, ho, hc, hd⟩ := id hit
  have nx := hot_apart hot ho hd
  obtain ⟨ol, hol, _, nl, hdl⟩ := ht
  obtain ⟨hh, o1, vs1, h1, d1, c1⟩ := hot
  unfold pyNext
  refine wpAny_bind (wpAny_attempt (wpAny_callSpecial?_slot (name := Str.ofString "__next__") hit.typeIs slot_listiter_next
    (wpAny_call_entry slot_listiter_next hit.typeIs entry_listiter_next ?_ (args_listiter_next _))))
  show wpAny _ _ (field (.ref it) 0 >>= _) _ _ s
  refine wpAny_bind (wpAny_field ho hd (x := .ref t) rfl ?_)
  show wpAny _ _ (if (Value.ref t == Value.none) = true then _ else _) _ _ s
  rw [if_neg (show ¬ ((Value.ref t == Value.none) = true) from Bool.false_ne_true)]
  show wpAny _ _ (field (.ref it) 1 >>= _) _ _ s
  refine wpAny_bind (wpAny_field ho hd (x := .int i 0) rfl ?_)
  show wpAny _ _ (seqItems? (.ref t) >>= _) _ _ s
  refine wpAny_bind (wpAny_seqItems hol hdl ?_)
  simp only [Int.toNat_natCast, hx]
  refine wpAny_bind (wpAny_rule (wpAny_bind (wpAny_setField ho hd (by simp) ?_)))
  show wpAny _ _ (newExc (.type "StopIteration") [] >>= _) _ _ _
  refine wpAny_bind ?_
  simp only [newExc, newTuple]
  refine wpAny_bind (wpAny_newObj_type ?_ (by size_fits))
  refine wpAny_bind (m := firstArgMember _ _) (wpAny_of_eq (a := Value.none) (by first | rfl | (simp only [firstArgMember]; rfl)) ?_)
  refine wpAny_newObj_type ?_ (by size_fits)
  have g1 : (s.heap.update it (Obj.mapFields (·.setIfInBounds 0 .none))).get? x1 = some o1 := (Heap.get?_update_other _ _ (Ne.symm nx)).trans h1
  refine raiseNew_hot ⟨hh, o1, vs1, Heap.get?_push_of_some _ (Heap.get?_push_of_some _ g1), d1, c1⟩ (Nat.ne_of_lt (Heap.lt_size (Heap.get?_push_of_some _ g1))) (Heap.get?_push_size _ rfl) rfl (by first | (simp; done) | (simp; omega) | (simp only [Array.size_append]; simp; omega)) ?_
  refine wpAny_bind (wpAny_isInstance (T := "StopIteration") (b := true) ⟨_, Heap.get?_update_self _ (Heap.get?_push_size _ rfl) rfl, rfl⟩ isSubtype_stop ?_)
  refine wpAny_pure (hQ _ fun b o hb e => ?_)
  have e1 := (Heap.SameBut.update (h := s.heap) (a := it) (f := Obj.mapFields (·.setIfInBounds 0 .none))).extBut b o hb e
  rw [Heap.get?_update_other _ _ (Nat.ne_of_gt (Heap.lt_size (Heap.get?_push_of_some _ e1)))]
  exact Heap.get?_push_of_some _ (Heap.get?_push_of_some _ e1)
theorem unpackItems_tupleH {t x1 : Addr} {items : Array Value} {Q : List Value → Shared → Prop} (hot : HotAt A x1 s.heap) (ht : IsTup s.heap t items)
    (hQ : ∀ h', Heap.ExtBut s.heap.objs.size s.heap h' → Q items.toList { s with heap := h' }) : wpAny (model prog w) A (unpackItems (.ref t) items.size none) Q E s := by
  have hlt : t ≠ s.heap.objs.size := by obtain ⟨o, ho, _⟩ := ht; exact Nat.ne_of_lt (Heap.lt_size ho)
  unfold unpackItems
  refine wpAny_bind ?_
  · unfold notIterableAtAll
    refine wpAny_bind (wpAny_specialOf ht.typeIs slot_tuple_iter.lookup ?_)
    refine wpAny_pure ?_
    simp only [Bool.false_eq_true, if_false]
    refine wpAny_bind (wpAny_holding (iter_tuple ht ?_))
    refine wpAny_bind (wpAny_holding (draw_tuple hlt items.size 0 _ _ ⟨_, Heap.get?_push_size _ rfl, rfl, rfl⟩ (ht.push _) (by omega) fun h₁ hit₁ hs₁ => ?_))
    have hall : List.take items.size (List.drop 0 items.toList) = items.toList := by
      rw [List.drop_zero]; exact List.take_of_length_le (by simp)
    rw [hall]
    rw [if_neg (by simp)]
    have ht₁ : IsTup h₁ t items := (ht.push _).extBut hs₁.extBut hlt
    have hot1 : HotAt A x1 h₁ := by
      obtain ⟨hh, o1, vs1, g1, d1, c1⟩ := hot
      exact ⟨hh, o1, vs1, hs₁.extBut _ _ (Nat.ne_of_lt (Heap.lt_size g1)) (Heap.get?_push_of_some _ g1), d1, c1⟩
    refine wpAny_bind (wpAny_holding (next_tuple_endH hot1 hit₁ ht₁ (by simp) fun h₂ he₂ => ?_))
    simp only [Option.isSome_none, Bool.false_eq_true, if_false]
    refine wpAny_pure (hQ h₂ fun b o hb e => he₂ b o hb (hs₁.extBut b o hb (Heap.get?_push_of_some _ e)))
theorem assign_Tuple_tupleH {env : Env} {elts : List Expr} {x1 : Nat} {pos : Pos} {t a1 : Addr} {items : Array Value} {Q : Unit → Shared → Prop} (hot : HotAt A a1 s.heap) (ht : IsTup s.heap t items)
    (hn : (assignEach elts env).length = items.size) (hstar : (assignEach elts env).findIdx? (·.1) = none)
    (h : ∀ h', Heap.ExtBut s.heap.objs.size s.heap h' → wpAny (model prog w) A (assignInOrder ((assignEach elts env).map (·.2)) items.toList) Q E { s with heap := h' }) :
    wpAny (model prog w) A (assign (.Tuple elts x1 pos) env (.ref t)) Q E s := by
  rw [assign_Tuple]
  refine wpAny_bind (wpAny_standAt ?_)
  unfold unpack
  rw [hn, hstar]
  exact wpAny_bind (wpAny_holding (unpackItems_tupleH hot ht h))
end
/-- the exception that is handled stands at each turn -/
def HotD (X : Cx) : Prop := ∃ a, ∀ (pins : List (Addr × Obj)) (s : Shared) (σ : L2.St) (H : Hp), Inv X pins σ H s → HotAt X.A a s.heap
structure TurnD (P : Program) (w : World) (K : PySem.W.Frag) (tg : Expr) (J : It) (fp : List Addr) (it : Addr) (tn : Nat → Heap → Prop) : Prop where
  mem : it ∈ fp
  obj : ∀ i h, tn i h → ∀ b ∈ fp, ∃ o, h.get? b = some o ∧ ∀ v, o.data ≠ .cell v
  keep : ∀ i h h', tn i h → (∀ b ∈ fp, ∀ o, h.get? b = some o → h'.get? b = some o) → tn i h'
  item : ∀ (X : Cx), X.prog = P → X.w = w → X.K = K → HotD X → ∀ (i : Nat) (pins : List (Addr × Obj)) (s : Shared) (σ : L2.St) (H : Hp) (E : Value → Shared → Prop), Inv X pins σ H s → (∀ b ∈ fp, FpOk X pins H b) → tn i s.heap → J.go i H →
    wpAny (model P w) X.A (pyNext (.ref it)) (fun r s1 => ∃ u, r = some u ∧
      wpAny (model P w) X.A (letOwnedTupleGo tg (.ref it) u) (fun _ s2 => ∃ x H', Inv X pins σ H' s2 ∧ RelV x u ∧ J.yld i H x H' ∧ tn (i + 1) s2.heap ∧ ∀ b ∈ fp, H' b = none) E s1) E s
  done : ∀ (X : Cx), X.prog = P → X.w = w → X.K = K → HotD X → ∀ (i : Nat) (pins : List (Addr × Obj)) (s : Shared) (σ : L2.St) (H : Hp) (E : Value → Shared → Prop), Inv X pins σ H s → (∀ b ∈ fp, FpOk X pins H b) → tn i s.heap → J.stop i H →
    wpAny (model P w) X.A (pyNext (.ref it)) (fun r s1 => r = none ∧ Inv X pins σ H s1) E s
  self : ∀ (A : Around) (i : Nat) (s : Shared) (Q : Value → Shared → Prop) (E : Value → Shared → Prop), tn i s.heap → Q (.ref it) s → wpAny (model P w) A (pyIter (.ref it)) Q E s
theorem turn_listD {P : Program} {w : World} {K : PySem.W.Frag} {tg : Expr} (a it : Addr) : TurnD P w K tg (Itl K a) [it] it (fun i h => h.IsListIter it a i) where
  mem := by simp
  obj := fun i h st b hb => by
    have e : b = it := by simpa using hb
    subst e
    obtain ⟨o, e, c, d⟩ := st
    exact ⟨o, e, fun v z => by rw [d] at z; cases z⟩
  keep := fun i h h' st k => st.at fun o e => k it (by simp) o e
  item := by
    intro X hP hw hK hc i pins s σ H E I hf st hg
    subst hP hw hK
    obtain ⟨xs, x, hq, hx⟩ := hg
    obtain ⟨its, rv, p, hz⟩ := I.list hq
    obtain ⟨u, hu, ru⟩ := rv.get hx
    obtain ⟨f0, f1, f2, f3, f4, f5⟩ := hf it (by simp)
    refine wpAny_pyNext_list_item st p.isList (x := u) (by simpa using hu) fun h' st' sb => ?_
    have I1 : Inv X pins σ H { s with heap := h' } := I.turned (t' := s.toks) (fun b o hb e => (sb.2 b hb).trans e) f0 f1 f3 f4 f5
    obtain ⟨o, e, c, d⟩ := id st'
    exact ⟨u, rfl, go_of (s := { s with heap := h' }) e c d (by decide) ⟨x, H, I1, ru, ⟨rfl, fun ys hy => by rw [I.list_inj hy hq]; exact hx⟩, st', fun b hb => (hf b hb).1⟩⟩
  done := by
    intro X hP hw hK hc i pins s σ H E I hf st hg
    subst hP hw hK
    obtain ⟨xs, hq, hx⟩ := hg
    obtain ⟨its, rv, p, hz⟩ := I.list hq
    obtain ⟨f0, f1, f2, f3, f4, f5⟩ := hf it (by simp)
    have hl := rv.length
    obtain ⟨a1, hot⟩ := hc
    exact next_list_endH (hot pins s σ H I) st p.isList (by simp; omega) fun h' eb => ⟨rfl, I.turned (t' := s.toks) (fun b o hb e => eb b o hb e) f0 f1 f3 f4 f5⟩
  self := fun _ _ _ _ _ st h => wpAny_pyIter_listiter st h
def PIED (X : Cx) (pins : List (Addr × Obj)) (σ : L2.St) (tg : Expr) (R : It → Hp → Prop) (itv : Value) (s2 : Shared) : Prop :=
  ∃ (it : Addr) (fp : List Addr) (tn : Nat → Heap → Prop) (J : It) (H' : Hp), itv = .ref it ∧ Inv X pins σ H' s2 ∧ TurnD X.prog X.w X.K tg J fp it tn ∧ tn 0 s2.heap ∧ (∀ b ∈ fp, FpOk X pins H' b) ∧ R J H'
structure PID (X : Cx) (tg iter : Expr) (wi : TI) : Prop where
  run : ∀ (pins : List (Addr × Obj)) (s : Shared) (σ : L2.St) (H : Hp) (R : It → Hp → Prop), Inv X pins σ H s → wi σ H R →
    wpAny (model X.prog X.w) X.A (eval iter X.env) (fun v s1 => wpAny (model X.prog X.w) X.A (pyIter v) (PIED X pins σ tg R) X.xe s1) X.xe s
section
variable {X : Cx} {tg : Expr}
theorem pi_listD {l : Expr} {tl : TE} (hl : PE X l tl) : PID X tg l (iList X.K tl) := by
  refine ⟨fun pins s σ H R I h => ?_⟩
  refine thn (hl.run pins s σ H _ I h) fun v s1 ⟨x, H1, I1, r1, q1⟩ => ?_
  obtain ⟨a, e, ⟨xs, hq⟩, q⟩ := q1
  subst e
  cases r1
  obtain ⟨its, rv, p, hz⟩ := I1.list hq
  refine wpAny_pyIter_list p.isList ?_
  refine ⟨s1.heap.objs.size, [s1.heap.objs.size], _, _, H1, rfl, I1.kept (t' := s1.toks) fun b o e => Heap.get?_push_of_some _ e, turn_listD a _, ⟨_, Heap.get?_push_size _ rfl, rfl, rfl⟩, fun b hb => ?_, q⟩
  have e : b = s1.heap.objs.size := by simpa using hb
  subst e
  exact I1.fpOk (Nat.le_refl _) (I1.hok.fresh (Nat.le_refl _))
theorem pg_tupD {es : List Expr} {k : Nat} {t : TGs} {n : Nat} {pos : Pos} (hc : HotD X) (h : PGs X es t)
    (hn : (assignEach es X.env).length = n) (hst : (assignEach es X.env).findIdx? (·.1) = none) : PG X (.Tuple es k pos) (gTup X.K n t) := by
  refine ⟨fun pins s σ H v u Q I r hw => ?_⟩
  obtain ⟨a, xs, e1, hq, hl, hw⟩ := hw
  subst e1
  cases r
  obtain ⟨its, rv, ht, hz⟩ := I.tuple hq
  obtain ⟨a1, hot⟩ := hc
  refine assign_Tuple_tupleH (hot pins s σ H I) ht (by simp [hn, ← hl, rv.length]) hst fun h' hx => ?_
  have I1 : Inv X pins σ H { s with heap := h' } := I.kept (t' := s.toks) fun b o e => hx b o (Nat.ne_of_lt (Heap.lt_size e)) e
  exact h.run pins _ σ H xs _ Q I1 (by simpa using rv) hw
end
end PL
set_option Elab.async false
set_option linter.all false
set_option maxRecDepth 100000
set_option maxHeartbeats 8000000
/-! A list comprehension within an except suite (as the library's own one, for a context that bears the handled exception). -/
namespace PL
open PySem PySem.Spec PyProof.Rows L2 HotX
variable [QN]
section
variable {X : Cx}
theorem lc_coreD {pins : List (Addr × Obj)} {s : Shared} {σ : L2.St} {H : Hp} {Q : VK} {elt tg iter : Expr} {ifs : List Expr} {scope : Scope} {own : List (Str × Nat)} {pos pos' : Pos} {wi : TI} {g : TG} {tt : TT} {te : TE} {use : Option (Value → Sem Unit)} {Qf : Value → Shared → Prop}
    (hc : L2H.HotC X) (hN : X.N.Nodup) (I : Inv X pins σ H s) (hi : PID X tg iter wi) (ok : BlkOk X.N X.env.scope scope own)
    (hg : ∀ (s : Shared) (H : Hp) (C : Addr) (cl : List (Str × Addr)) (fp : List Addr), HotD (X.blk s H scope (compEnvC scope cl C X.env) fp) → PG (X.blk s H scope (compEnvC scope cl C X.env) fp) tg g) (ht : ∀ (s : Shared) (H : Hp) (C : Addr) (cl : List (Str × Addr)) (fp : List Addr), PTs (X.blk s H scope (compEnvC scope cl C X.env) fp) ifs tt)
    (he : ∀ (s : Shared) (H : Hp) (C : Addr) (cl : List (Str × Addr)) (fp : List Addr), PE (X.blk s H scope (compEnvC scope cl C X.env) fp) elt te) (hs : ∀ x, foldedSetIterable iter X.env x = pure x)
    (h : tLc wi g tt te (own.map (·.2)) σ H Q)
    (hRR : ∀ D C s' m H', Inv X pins σ H' s' → Q (.ref D) H' → s'.heap.Ns C m → FpOk X pins H' C → compPost (model X.prog X.w) X.A X.xe use Qf (.ref D) C (.ok .next) s') :
    wpAny (model X.prog X.w) X.A (comprehension (.ListComp elt [⟨tg, iter, ifs, 0⟩] scope pos) scope X.env pos' (newList []) false (eval iter X.env) use) Qf X.xe s := by
  have hfree : ∀ y ∈ scope.names, y.2 = .free → ∃ c, X.env.cells.lookup y.1 = some c := fun y hy e => by
    rcases ok.free y hy e with k | k
    · exact I.ok.has _ (.inl k)
    · exact I.ok.has _ (.inr k)
  refine wpAny_comprehension_free (use := use) rfl hs (closure_ok hfree) ok.kind (fun y hy e => by rw [ok.uniq y hy, e])
    (thn (hi.run pins s σ H _ I h) fun xv s1 hx => thn hx fun itv s2 h2 => ?_)
  obtain ⟨it, fp, tn, J, H2, e, I2, T, st2, f2, q⟩ := h2
  subst e
  refine wpAny_newObj_type (newEnv_comp ?_) (by show 0 ≤ sizeLine; decide)
  generalize hD : s2.heap.objs.size = D
  have hDn : H2 D = none := I2.hok.fresh (Nat.le_of_eq hD)
  obtain ⟨W, ⟨m0, w0⟩, turn⟩ := q D hDn
  -- the new list
  generalize hs3 : ({ s2 with heap := s2.heap.push { cls := .type "list", data := .seq ([] : List Value).toArray } } : Shared) = s3
  have I3 : Inv X pins σ (upd H2 D (.lst [])) s3 := by
    rw [← hs3]
    refine I2.laid (t' := s2.toks) (fun b o e => Heap.get?_push_of_some _ e) (Nat.le_of_eq hD) ⟨Nat.zero_le _, [], 0, .nil, ?_⟩
    rw [← hD]
    exact Heap.get?_push_size _ rfl
  have h3 : s3.heap = s2.heap.push { cls := .type "list", data := .seq ([] : List Value).toArray } := by rw [← hs3]
  have sz : ∀ b ∈ fp, b < s2.heap.objs.size := fun b hb => by
    obtain ⟨o, e, _⟩ := T.obj _ _ st2 b hb
    exact Heap.lt_size e
  have f3 : ∀ b ∈ fp, FpOk X pins (upd H2 D (.lst [])) b ∧ b < s3.heap.objs.size := fun b hb => by
    have hlt := sz b hb
    refine ⟨⟨?_, (f2 b hb).2⟩, by rw [h3, Heap.size_push]; exact Nat.lt_succ_of_lt hlt⟩
    rw [upd_ne (by rw [← hD]; exact Nat.ne_of_lt hlt)]
    exact (f2 b hb).1
  have st3 : tn 0 s3.heap := T.keep _ _ _ st2 fun b _ o e => by rw [h3]; exact Heap.get?_push_of_some _ e
  have I4 := block_start I3 ok hN f3
  have hot : HotD (X.blk s3 (upd H2 D (.lst [])) scope (compEnvC scope (cellsFrom (s3.heap.objs.size + 1) scope.names (cloFrom X.env.cells scope.names [])) s3.heap.objs.size X.env) fp) := by
    obtain ⟨p, ⟨hh, v1, e1, c1⟩, hp⟩ := hc
    refine ⟨p.1, fun pins' s' σ' H' I' => ⟨hh, p.2, v1, ?_, e1, c1⟩⟩
    obtain ⟨q1, q2, q3, q4, _⟩ := I3.pin p (List.mem_append_left _ hp)
    refine I'.base.keep p.1 _ q1 q2 (fun z => ?_) fun z => (f3 p.1 z).1.2.2.2.2.2 p (List.mem_append_left _ hp) rfl
    rcases List.mem_cons.mp (I3.stkSub _ z) with e | e
    · exact q3 e
    · exact q4 e
  have pg := hg s3 (upd H2 D (.lst [])) s3.heap.objs.size (cellsFrom (s3.heap.objs.size + 1) scope.names (cloFrom X.env.cells scope.names [])) fp hot
  have pt := ht s3 (upd H2 D (.lst [])) s3.heap.objs.size (cellsFrom (s3.heap.objs.size + 1) scope.names (cloFrom X.env.cells scope.names [])) fp
  have pe := he s3 (upd H2 D (.lst [])) s3.heap.objs.size (cellsFrom (s3.heap.objs.size + 1) scope.names (cloFrom X.env.cells scope.names [])) fp
  show codeAny _ _ (.compStart (.ListComp elt [⟨tg, iter, ifs, 0⟩] scope pos) 0 (.ref it) (.ref D) (compEnvC scope (cellsFrom (s3.heap.objs.size + 1) scope.names (cloFrom X.env.cells scope.names [])) s3.heap.objs.size X.env)) (compPost (model X.prog X.w) X.A X.xe use Qf (.ref D) s3.heap.objs.size) { s3 with heap := pushCells (s3.heap.push { cls := .type "dict", data := .dict #[] }) scope.names }
  have nfp : ∀ b ∈ fp, (upd H2 D (.lst [])) b = none := fun b hb => (f3 b hb).1.1
  generalize hce : compEnvC scope (cellsFrom (s3.heap.objs.size + 1) scope.names (cloFrom X.env.cells scope.names [])) s3.heap.objs.size X.env = ce at I4 pg pt pe hot ⊢
  have cL : ce.locals = s3.heap.objs.size := by subst hce; rfl
  generalize hH3 : upd H2 D (.lst []) = H3 at I3 I4 pg pt pe w0 nfp f3 hot
  generalize hs4 : ({ s3 with heap := pushCells (s3.heap.push { cls := .type "dict", data := .dict #[] }) scope.names } : Shared) = s4 at I4 ⊢
  have st4 : tn 0 s4.heap := T.keep _ _ _ st3 fun b _ o e => by rw [← hs4]; exact pushCells_keeps _ _ _ _ (Heap.get?_push_of_some _ e)
  have stat : ∀ {σ' : L2.St} {H' : Hp} {s' : Shared}, Inv (X.blk s3 H3 scope ce fp) [] σ' H' s' → (∀ b ∈ fp, H' b = none) → ∀ b ∈ fp, FpOk (X.blk s3 H3 scope ce fp) [] H' b := fun {σ' H' s'} I' hn b hb =>
    ⟨hn b hb, (I'.ok.exf b hb).1, I'.ok.exfs b hb, .inl hb, fun x c e => (I'.ok.exf b hb).2 x c e, fun p hp => absurd (show p ∈ ([] : List (Addr × Obj)) ++ [] from hp) (by simp)⟩
  have loop : codeAny (model X.prog X.w) X.A (.compLoop (.ListComp elt [⟨tg, iter, ifs, 0⟩] scope pos) 0 (.ref it) (.ref D) ce) (compPost (model X.prog X.w) X.A X.xe use Qf (.ref D) s3.heap.objs.size) s4 := by
    refine compLoop_any (fun n s' => ∃ i H', Inv (X.blk s3 H3 scope ce fp) [] (wipe σ (own.map (·.2))) H' s' ∧ tn i s'.heap ∧ (∀ b ∈ fp, H' b = none) ∧ W i n H') ?_ m0 ⟨0, H3, I4, st4, nfp, w0⟩
    rintro n s5 ⟨i, H5, I5, st5, n5, w5⟩
    rcases turn i n H5 w5 with ⟨stop, qq⟩ | ⟨go, Nx, hNx, step⟩
    · have td := T.done (X.blk s3 H3 scope ce fp) rfl rfl rfl hot i [] s5 _ H5 (fun _ _ => False) I5 (stat I5 n5) st5 stop
      refine thnF td fun r s6 ⟨hr, I6⟩ => ?_
      subst hr
      -- back in the def's context
      have I7 : Inv X pins σ H5 s6 := I3.call' (ch := fp) I6.os I6.base I6.hok I6.bare fun b hb => ⟨(f3 b hb).1.2.2.2.1, (f3 b hb).1.2.1, (f3 b hb).1.2.2.2.2.1, (f3 b hb).1.2.2.2.2.2⟩
      have nC : H5 s3.heap.objs.size = none := by
        have z : H5 ce.locals = none := I6.free
        rw [cL] at z
        exact z
      obtain ⟨m, hn, _⟩ := I6.loc
      have hn : s6.heap.Ns ce.locals m := hn
      rw [cL] at hn
      exact hRR D s3.heap.objs.size s6 m H5 I7 qq hn (I3.fpOk (Nat.le_refl _) nC)
    · have ti := T.item (X.blk s3 H3 scope ce fp) rfl rfl rfl hot i [] s5 _ H5 (fun _ _ => False) I5 (stat I5 n5) st5 go
      refine thnF ti fun r s6 ⟨u, hr, h6⟩ => ?_
      subst hr
      refine thnF h6 fun _ s7 ⟨x, H7, I7, r7, y7, st7, n7⟩ => ?_
      have I7' := I7.pinned (stat I7 n7) (T.obj _ _ st7)
      refine thnF (pg.run _ s7 _ H7 x u _ I7' r7 (step x H7 y7)) fun _ s8 ⟨σ8, H8, I8, hw8, q8⟩ => ?_
      refine thnF (pt.run _ s8 σ8 H8 _ I8 q8) fun b s9 ⟨H9, I9, q9⟩ => ?_
      -- the turn's end
      have fin : ∀ {s' : Shared} {H' : Hp}, Inv (X.blk s3 H3 scope ce fp) ([] ++ pinsAt fp s7.heap) σ8 H' s' → Nx H' → ∃ m, m < n ∧ ∃ i H', Inv (X.blk s3 H3 scope ce fp) [] (wipe σ (own.map (·.2))) H' s' ∧ tn i s'.heap ∧ (∀ b ∈ fp, H' b = none) ∧ W i m H' := fun {s' H'} I' nx => by
        obtain ⟨m', hm, w'⟩ := hNx H' nx
        have pin' : ∀ b ∈ fp, ∀ o, s7.heap.get? b = some o → s'.heap.get? b = some o ∧ H' b = none := fun b hb o e =>
          let z := I'.pin (b, o) (List.mem_append_right _ (List.mem_append_right _ (mem_pinsAt hb e)))
          ⟨z.1, z.2.1⟩
        have hl : (wipe σ (own.map (·.2))).length = σ8.length := by rw [← hw8, wipe_length]
        refine ⟨m', hm, i + 1, H', (I'.unpinned (pins := [])).weak hl (fun j v e => ?_), T.keep _ _ _ st7 fun b hb o e => (pin' b hb o e).1, fun b hb => ?_, w'⟩
        · rw [← hw8] at e
          exact (wipe_some e).1
        · obtain ⟨o, e, _⟩ := T.obj _ _ st7 b hb
          exact (pin' b hb o e).2
      cases b with
      | false =>
        simp only [Bool.false_eq_true, if_false] at q9 ⊢
        exact fin I9 q9
      | true =>
        simp only [if_true] at q9 ⊢
        refine thnF (pe.run _ s9 σ8 H9 _ I9 q9) fun z s10 ⟨yv, H10, I10, r10, acc, hD10, hz10, nx⟩ => ?_
        exact app_ok (X := X.blk s3 H3 scope ce fp) I10 hD10 hz10 r10 fun s11 I11 => fin I11 nx
  exact codeAny_compStart_list loop (T.self X.A 0 _ _ _ st4 loop)
/-- as a value -/
theorem pe_lcD {elt tg iter : Expr} {ifs : List Expr} {scope : Scope} {own : List (Str × Nat)} {pos : Pos} {wi : TI} {g : TG} {tt : TT} {te : TE} (hc : L2H.HotC X) (hN : X.N.Nodup) (hi : PID X tg iter wi) (ok : BlkOk X.N X.env.scope scope own)
    (hg : ∀ (s : Shared) (H : Hp) (C : Addr) (cl : List (Str × Addr)) (fp : List Addr), HotD (X.blk s H scope (compEnvC scope cl C X.env) fp) → PG (X.blk s H scope (compEnvC scope cl C X.env) fp) tg g) (ht : ∀ (s : Shared) (H : Hp) (C : Addr) (cl : List (Str × Addr)) (fp : List Addr), PTs (X.blk s H scope (compEnvC scope cl C X.env) fp) ifs tt)
    (he : ∀ (s : Shared) (H : Hp) (C : Addr) (cl : List (Str × Addr)) (fp : List Addr), PE (X.blk s H scope (compEnvC scope cl C X.env) fp) elt te) (hs : ∀ x, foldedSetIterable iter X.env x = pure x := by intro _; rfl) :
    PE X (.ListComp elt [⟨tg, iter, ifs, 0⟩] scope pos) (tLc wi g tt te (own.map (·.2))) := by
  refine ⟨fun pins s σ H Q I h => ?_⟩
  rw [eval_ListComp]
  refine lc_coreD hc hN I hi ok hg ht he hs h fun D C s' m H' I' q hn f => ⟨m, hn, fun h'' sb => ?_⟩
  obtain ⟨f0, f1, f2, f3, f4, f5⟩ := f
  exact ⟨.ref D, H', I'.turned (t' := s'.toks) (fun b o hb e => (sb.2 b hb).trans e) f0 f1 f3 f4 f5, rfl, q⟩
end
end PL
set_option Elab.async false
set_option linter.all false
set_option maxRecDepth 100000
set_option maxHeartbeats 8000000
/-! A lambda handed to a def, where exceptions keep their context. -/
namespace PL
open PySem PySem.Spec PyProof.Rows L2 LamX
variable [QN]
/-- the context of the lambda's body -/
def lamCxN (X : Cx) (A : Around) (outer : List Env) (s : Shared) (H : Hp) (E : XK) (scope : Scope) (f c' : Addr) : Cx :=
  (lamCx X A outer s H E0 scope f c').wish fun e s' => wpAny (model X.prog X.w) (A.deeper (lamEnv X scope s.heap.objs.size f c')) (leaving (lamEnv X scope s.heap.objs.size f c') e) (fun _ s'' => L2N.CX X.prog X.w outer H s E e s'') (fun e' s'' => L2N.CX X.prog X.w outer H s E e' s'') s'
section
variable {X : Cx} {pins : List (Addr × Obj)} {σ : L2.St} {H HZ : Hp} {s s1 : Shared}
/-- x(), in the def that got the lambda: Z is that def's context, entered at s -/
theorem pe_actN {CXg : CXT} {Eg : XK} {Ng : List Str} {qg : Str} {sg : Scope} {g f c' : Addr} {cdg pm ctv : Value} {params : Arguments} {body : Expr} {scope : Scope} {k i : Nat} {a : Str} {pn : List (Addr × Obj)} {xe : Value → Shared → Prop} {W : WX} {E : XK} {tb : TE} {p1 p2 : Pos}
    (I : Inv X pins σ H s) (L : LamS X.env.scope scope) (hf : s.heap.get? f = some (PySem.W.kla_obj "<lambda>" (X.env.qual ++ "<lambda>") params body scope (cloFrom X.env.cells scope.names []) pm c' ctv)) (hfn : H f = none) (hfr : f ∉ frs X.stack)
    (hbind : bindArgs (PySem.W.kla_fn "<lambda>" (X.env.qual ++ "<lambda>") params body scope (cloFrom X.env.cells scope.names []) pm (.ref c') ctv) ⟨[], []⟩ = pure [])
    (tk : L2N.Takes ((cxOf CXg X.prog X.w X.K X.mg X.base Ng qg sg g cdg X.A X.stack s H Eg).tr pn xe) W) (hW : ∀ cls d σ' H', E cls d H' → W cls d σ' H') (hr : Room (k + 1) (X.A.deeper (envOfC qg sg s.heap.objs.size g cdg)))
    (hbody : ∀ (A : Around) (outer : List Env) (s : Shared) (H : Hp), Room k (A.deeper (lamEnv X scope s.heap.objs.size f c')) → PE (lamCxN X A outer s H E scope f c') body tb)
    (hN : Ng[i]? = some a) (hv : Vis sg a) (hd : (a == ("__debug__" : Str)) = false := by decide) (hcd : (a == ("__classdict__" : Str)) = false := by decide) :
    PE ((cxOf CXg X.prog X.w X.K X.mg X.base Ng qg sg g cdg X.A X.stack s H Eg).tr pn xe) (.Call (.Name a p1) [] [] p2)
      (fun σZ HZ Q => σZ[i]? = some (some (.ref f)) ∧ HZ c' = some (CodeO c' (X.env.qual ++ "<lambda>")) ∧ tb σ HZ Q) := by
  refine ⟨fun pinsZ sZ σZ HZ Q IZ h => ?_⟩
  obtain ⟨hs, hc, ht⟩ := h
  refine wpAny_Call_Name_kw (thn ((pe_var (pos := p1) (i := i) hN hv hd hcd).run pinsZ sZ σZ HZ (fun v H1 => v = .ref f ∧ H1 = HZ) IZ ⟨.ref f, hs, rfl, rfl⟩) fun u s1 ⟨v, H1, I1, r1, q1⟩ => ?_)
  obtain ⟨ev, eH⟩ := q1
  subst ev
  rw [eH] at I1
  obtain rfl : u = Value.ref f := r1
  have of1 : s1.heap.get? f = some (PySem.W.kla_obj "<lambda>" (X.env.qual ++ "<lambda>") params body scope (cloFrom X.env.cells scope.names []) pm c' ctv) := I1.base.keep f _ hf hfn hfr (fun z => nomatch (show f ∈ ([] : List Addr) from z))
  refine PySem.W.callWith_F0 ⟨_, _, _, _, of1⟩ ?_
  have un : Un (frs X.stack) [] H HZ s.heap s1.heap := I1.base
  obtain ⟨⟨oc, vs, t, hoc, hdc, hvc⟩, _, _⟩ := I1.hok c' _ hc
  have rc : codeAny (model X.prog X.w) (X.A.deeper (envOfC qg sg s.heap.objs.size g cdg)) (.call (.ref f) ⟨[], []⟩) (CR (L2N.CX X.prog X.w) (envOfC qg sg s.heap.objs.size g cdg :: X.stack) X.prog X.w HZ s1 Q E) s1 := by
    refine PySem.W.kla_callFunE hr.depth of1 rfl L.co L.gen rfl ⟨c', oc, vs, t, rfl, hoc, hdc, hvc⟩ ?_
    rw [hbind]
    refine wpAny_pure (wpAny_newFunctionEnv (fun y hy => (L.own y hy).2) (fun y hy => absurd hy (by simp)) (fun h₁ hns hsb => ⟨I1.nolimit.fresh _ hsb, ?_⟩) L.kind)
    show codeAny _ _ (.expr body (lamEnv X scope s1.heap.objs.size f c')) _ _
    have kp : ∀ b o, s1.heap.get? b = some o → h₁.get? b = some o := fun b o e => hsb.extBut b o (Nat.ne_of_lt (Heap.lt_size e)) (Heap.get?_push_of_some _ e)
    have J : Inv (lamCxN X (X.A.deeper (envOfC qg sg s.heap.objs.size g cdg)) (envOfC qg sg s.heap.objs.size g cdg :: X.stack) s1 HZ E scope f c') [] σ HZ { s1 with heap := h₁, toks := s1.toks + ([] : List (Str × Value)).length } :=
      Inv.wish (lam_start2 (E := E0) I L I1.env0 hr.hd un hns kp) _
    refine PySem.W.kla_codeExpr (wpAny_mono ((hbody _ _ s1 HZ (hr.deeper _)).run [] _ _ HZ Q J ht) (fun v s' hq => ?_) fun e s' hq => hq)
    obtain ⟨w', H', J', rv, q⟩ := hq
    exact ⟨w', H', J'.os, J'.bare, J'.base, J'.hok, rv, q⟩
  have hx : Passes (L2N.CX X.prog X.w) ((cxOf CXg X.prog X.w X.K X.mg X.base Ng qg sg g cdg X.A X.stack s H Eg).tr pn xe) E := L2N.passes_call tk hW
  refine wpAny_call (codeAny_mono rc fun r s' hq => ?_)
  cases r with
  | error e => exact hx pinsZ σZ HZ s1 e s' I1 hq
  | ok fl =>
    cases fl with
    | ret u => exact I1.after hq
    | next => exact False.elim hq
    | brk => exact False.elim hq
    | cont => exact False.elim hq
end
/-- the def that calls what it got: a calls it; TT: what it makes of the lambda's reading -/
def GivesN (X : Cx) (Ng : List Str) (x : Str) (sg : Scope) (g : Addr) (cdg : Value) (bg : List Stmt) (a : Str) (q : Str) (TT : (XK → Hp → VK → Prop) → Hp → VK → Prop) : Prop :=
  ∀ (f c' : Addr) (s : Shared) (H : Hp) (Q : VK) (tl : XK → Hp → VK → Prop),
    (∀ (W : WX) (pn : List (Addr × Obj)) (xe : Value → Shared → Prop) (E : XK) (p1 p2 : Pos), L2N.Takes ((cxOf C8.CX0 X.prog X.w X.K X.mg X.base Ng x sg g cdg X.A X.stack s H C8.E0).tr pn xe) W → (∀ cls d σ' H', E cls d H' → W cls d σ' H') →
      PE ((cxOf C8.CX0 X.prog X.w X.K X.mg X.base Ng x sg g cdg X.A X.stack s H C8.E0).tr pn xe) (.Call (.Name a p1) [] [] p2) (fun σZ HZ Q => σZ[0]? = some (some (.ref f)) ∧ HZ c' = some (CodeO c' q) ∧ tl E HZ Q)) →
    H c' = some (CodeO c' q) → TT tl H Q →
    ∃ t, PSs (cxOf C8.CX0 X.prog X.w X.K X.mg X.base Ng x sg g cdg X.A X.stack s H C8.E0).nox bg t ∧ t { nx := fun _ H' => Q .non H', rt := Q } (L2.start Ng [.ref f]) H
section
variable {X : Cx}
/-- x(lambda: body) -/
theorem pe_lamcallN {T : List (Addr × Str)} {TT : (XK → Hp → VK → Prop) → Hp → VK → Prop} {x a : Str} {g c P : Addr} {k : Nat} {pg : Arguments} {bg : List Stmt} {sg : Scope} {dV kV doc pm cdv ct oc : Value} {an od : Option Addr} {osl : Array (Option Value)} {Ng : List Str}
    {params : Arguments} {body : Expr} {scope : Scope} {t : XK → TE} {p lpos pos : Pos} (hg : Gl X x) (hm : X.mg x = some (.ref g)) (hk : PySem.W.keepIn X.K (.ref g) = true)
    (lk : X.K.lookup g = some ⟨oc, od, .func (PySem.W.fnOf x x pg bg sg dV kV doc pm an cdv ct), osl⟩) (hcg : PySem.W.codeIn X.K cdv x = true) (hb : L2.Binds X.K (PySem.W.fnOf x x pg bg sg dV kV doc pm an cdv ct) [a] []) (Sg : FnScope Ng [a] sg) (hNg : Ng[0]? = some a) (hva : Vis sg a)
    (hG : GivesN X Ng x sg g cdv bg a (X.env.qual ++ "<lambda>") TT)
    (TB : TabB X.base X.mg c P) (hcode : X.env.code = .ref c) (hmT : (P, X.env.qual ++ "<lambda>") ∈ T) (hu : ∀ p ∈ T, p.1 = P → p.2 = X.env.qual ++ "<lambda>") (hr : Room (k + 2) X.A) (L : LamS X.env.scope scope) (hdef : defaultsOf params X.env = ([], []))
    (hbind : ∀ (q : Str) (cl : List (Str × Addr)) (pm cv ctv : Value), bindArgs (PySem.W.kla_fn "<lambda>" q params body scope cl pm cv ctv) ⟨[], []⟩ = pure [])
    (hbody : ∀ (A : Around) (outer : List Env) (s : Shared) (H : Hp) (E : XK) (f c' : Addr), Room k (A.deeper (lamEnv X scope s.heap.objs.size f c')) → PE (lamCxN X A outer s H E scope f c') body (t E))
    (hdb : (x == ("__debug__" : Str)) = false := by decide) (hd : (a == ("__debug__" : Str)) = false := by decide) (hcd : (a == ("__classdict__" : Str)) = false := by decide) :
    PE X (.Call (.Name x p) [.Lambda params body scope lpos] [] pos) (tLam T TT t) := by
  refine ⟨fun pins s σ H Q I h => ?_⟩
  obtain ⟨hT, h⟩ := h
  refine wpAny_Call_Name_kw (ld_glob I hg hm ?_ hdb)
  refine PySem.W.callWith_K (h₀ := X.base) I.ok.mod.kin hk ?_ (by rfl) (by rfl)
  show wpAny _ _ (spliced ((false, eval (.Lambda params body scope lpos) X.env) :: backTo pos (starEach [] X.env))) _ _ s
  refine Calls.spliced_cons (lam_make2 I TB hcode hmT hu hT hdef (L.has I.ok) fun f c' pm' ctv H1 s' I1 eN T1 hf hfn hfr hco => ?_)
  refine Calls.spliced_nil ⟨I1.kIn, ?_⟩
  have rc : codeAny (model X.prog X.w) X.A (.call (.ref g) ⟨[.ref f], []⟩) (CR C8.CX0 X.stack X.prog X.w H1 s' Q C8.E0) s' := by
    refine run_ofS (N := Ng) (ps := [a]) (us := [.ref f]) (vs := [.ref f]) lk hcg Sg hr I1.env0 (hb s' [.ref f] I1.kIn rfl) (.cons rfl .nil) rfl fun hr' => ?_
    obtain ⟨t', ht', hq'⟩ := hG f c' s' H1 Q (fun E H' Q' => t E σ H' Q') (fun W pn xe E p1 p2 tk hW => pe_actN (i := 0) I1 L hf hfn hfr (hbind _ _ _ _ _) tk hW hr' (fun A outer s H hr2 => hbody A outer s H E f c' hr2) hNg hva hd hcd) hco (h H1 eN T1)
    exact ⟨t', ht'.nox, hq'⟩
  refine wpAny_call (codeAny_mono rc fun r s2 hq => ?_)
  cases r with
  | error e => exact (show False from hq).elim
  | ok fl =>
    cases fl with
    | ret u => exact I1.after hq
    | next => exact False.elim hq
    | brk => exact False.elim hq
    | cont => exact False.elim hq
end
end PL
set_option Elab.async false
set_option linter.all false
set_option maxRecDepth 100000
set_option maxHeartbeats 8000000
/-! The def that hears: what a lambda tells, or what of it is refused. -/
namespace PL
open PySem PySem.Spec PyProof.Rows L2 LamX
variable [QN]
/-! ### isinstance of the exception that is held, which bears a dict -/
theorem call_isED {X : Cx} {a D : Addr} {oe : Obj} {d : Option Addr} {pn : List (Addr × Obj)} (C : L2.ExcC X.K D) (hz : Zc (.ref D) d oe) (hf : ∃ vs, oe.data = .fields vs) (hd : ∀ dd, d = some dd → True) :
    CallR (X.suite a ((a, oe) :: pn)) (.builtin "isinstance") (fun xs H Q => rIsE X.K D a xs H Q ∧ ∃ dd fs, d = some dd ∧ H dd = some (.xd fs)) := by
  intro pins s σ H xs us Q I r h
  obtain ⟨⟨c, cv, b, rfl, hcv, e, q⟩, dd, fs, ed, ea⟩ := h
  cases r with
  | cons rx rr =>
    cases rr with
    | cons rt rr =>
      cases rr
      cases rx
      have ec := hcv _ rt
      subst ec
      obtain ⟨hget, _⟩ := I.pin (a, oe) (List.mem_append.mpr (.inl List.mem_cons_self))
      obtain ⟨vs, hv⟩ := hf
      have hx : ObjOk X.prog X.w H s.heap dd (.xd fs) := I.hok dd _ ea
      obtain ⟨mA, hns, hr⟩ := hx
      obtain ⟨od, ho, hl⟩ := lookIn_ns hns
      have J : PySem.W.InstAt s.heap a oe D (some od) := ⟨hget, hz.1, by unfold PySem.W.notCls; rw [hv] <;> rfl, by rw [hz.2, ed]; exact ho⟩
      exact PySem.W.kia_one (PySem.W.kitx_exc (by obtain ⟨cd, hc, _⟩ := PySem.W.any_some C.hd; rw [hc]; rfl) C.hg C.hk C.hs C.ha C.hn C.ht C.hm) I.kIn J e (fun z => nomatch z) fun tk => ⟨.bl b, H, I.kept (t' := tk) fun _ _ z => z, rfl, q⟩
end PL
set_option Elab.async false
set_option linter.all false
set_option maxRecDepth 100000
set_option maxHeartbeats 8000000
/-! The def that hears: the suite that names a refusal. -/
namespace PL
open PySem PySem.Spec PyProof.Rows L2 LamX
variable [QN]
def Ext (H H' : Hp) : Prop := ∀ a o, H a = some o → H' a = some o
theorem Ext.refl {H : Hp} : Ext H H := fun _ _ h => h
theorem Ext.trans {H H1 H2 : Hp} (e : Ext H H1) (e' : Ext H1 H2) : Ext H H2 := fun a o h => e' a o (e a o h)
theorem Ext.new {H : Hp} {p : Addr} {o : HO} (h : H p = none) : Ext H (upd H p o) := fun a u e => by
  rw [upd_ne (fun z => by subst z; rw [h] at e; cases e)]; exact e
theorem Ext.none {H H' : Hp} (e : Ext H H') {a : Addr} (h : H' a = none) : H a = none := by
  cases q : H a with
  | none => rfl
  | some o => rw [e a o q] at h; cases h
def PairAt (H : Hp) (v : V) (l : Str × Bool) : Prop := ∃ p, v = .ref p ∧ H p = some (.tup [.str l.1, .bl l.2])
def PairsAt (H : Hp) : List V → List (Str × Bool) → Prop
  | [], [] => True
  | v :: vs, l :: ls => PairAt H v l ∧ PairsAt H vs ls
  | _, _ => False
theorem PairAt.ext {H H' : Hp} {v : V} {l : Str × Bool} (h : PairAt H v l) (e : Ext H H') : PairAt H' v l := let ⟨p, a, b⟩ := h; ⟨p, a, e _ _ b⟩
theorem PairsAt.ext {H H' : Hp} (e : Ext H H') : ∀ {vs : List V} {ls : List (Str × Bool)}, PairsAt H vs ls → PairsAt H' vs ls
  | [], [], _ => True.intro
  | v :: vs, l :: ls, h => ⟨h.1.ext e, PairsAt.ext e h.2⟩
  | [], _ :: _, h => h.elim
  | _ :: _, [], h => h.elim
theorem PairsAt.len {H : Hp} : ∀ {vs : List V} {ls : List (Str × Bool)}, PairsAt H vs ls → vs.length = ls.length
  | [], [], _ => rfl
  | v :: vs, l :: ls, h => by simp [PairsAt.len h.2]
  | [], _ :: _, h => h.elim
  | _ :: _, [], h => h.elim
theorem PairsAt.append {H : Hp} {us : List V} {ms : List (Str × Bool)} (h' : PairsAt H us ms) : ∀ {vs : List V} {ls : List (Str × Bool)}, PairsAt H vs ls → PairsAt H (vs ++ us) (ls ++ ms)
  | [], [], _ => h'
  | v :: vs, l :: ls, h => ⟨h.1, PairsAt.append h' h.2⟩
  | [], _ :: _, h => h.elim
  | _ :: _, [], h => h.elim
theorem PairsAt.get {H : Hp} : ∀ {vs : List V} {ls : List (Str × Bool)} {i : Nat} {v : V}, PairsAt H vs ls → vs[i]? = some v → ∃ l, ls[i]? = some l ∧ PairAt H v l
  | v :: vs, l :: ls, 0, u, h, e => ⟨l, rfl, (by simpa using e : v = u) ▸ h.1⟩
  | v :: vs, l :: ls, i + 1, u, h, e => by simpa using PairsAt.get (i := i) h.2 (by simpa using e)
  | [], [], i, u, h, e => by simp at e
  | [], _ :: _, _, _, h, _ => h.elim
  | _ :: _, [], _, _, h, _ => h.elim
/-- a list of its own, written: what else there is stays -/
theorem PairsAt.write {H : Hp} {s : Addr} {us ws : List V} (hs : H s = some (.lst us)) : ∀ {vs : List V} {ls : List (Str × Bool)}, PairsAt H vs ls → PairsAt (upd H s (.lst ws)) vs ls
  | [], [], _ => True.intro
  | v :: vs, l :: ls, ⟨⟨p, e, hp⟩, h⟩ => ⟨⟨p, e, by rw [upd_ne (fun z => by subst z; rw [hs] at hp; cases hp)]; exact hp⟩, PairsAt.write hs h⟩
  | [], _ :: _, h => h.elim
  | _ :: _, [], h => h.elim
def nmOf (l : List (Str × Bool)) : Str := Txt.join " " ((l.filter (·.2)).map (·.1))
section
variable {X : Cx} {a D dd : Addr} {oe : Obj} {pn : List (Addr × Obj)} {r : Str} {pos : Pos}
/-- one pair: its name -/
def pairP (r : Str) : Expr → Option Str
  | .Tuple [.Constant (.str x) _ _, .Call (.Name f _) [.Name r' _, .Name y _] [] _] _ _ => if f = "isinstance" ∧ r' = r ∧ y = x ∧ x ≠ "__debug__" then some x else none
  | _ => none
def pairsP (r : Str) : List Expr → Option (List Str)
  | [] => some []
  | e :: es => match pairP r e, pairsP r es with
    | some x, some xs => some (x :: xs)
    | _, _ => none
/-- what the names must mean: bf: is the exception one of it -/
structure NmOk (X : Cx) (D : Addr) (bf : Str → Bool) (x : Str) : Prop where
  gl : Gl X x
  cl : ∃ C, X.mg x = some (.ref C) ∧ PySem.W.kitOne X.K (.ref D) (.ref C) = some (bf x)
structure HC (X : Cx) (r : Str) (D dd a : Addr) (oe : Obj) : Prop where
  C : L2.ExcC X.K D
  xf : XfC X.K D
  wh : PySem.W.findIn X.K (.ref D) "what" = some none
  hz : Zc (.ref D) (some dd) oe
  hf : ∃ vs, oe.data = .fields vs
  hN : X.N[1]? = some r
  hv : Vis X.env.scope r
  hd : (r == ("__debug__" : Str)) = false
  hcd : (r == ("__classdict__" : Str)) = false
  gi : Gl X "isinstance"
  mi : X.mg "isinstance" = none
def tP (a dd : Addr) (l : Str × Bool) : TE := fun σ H Q => σ[1]? = some (some (.ref a)) ∧ (∃ fs, H dd = some (.xd fs)) ∧ ∀ q, H q = none → Q (.ref q) (upd H q (.tup [.str l.1, .bl l.2]))
def tPs (a dd : Addr) (l : List (Str × Bool)) : TA := fun σ H Q => σ[1]? = some (some (.ref a)) ∧ (∃ fs, H dd = some (.xd fs)) ∧ ∀ vs H', Ext H H' → PairsAt H' vs l → Q vs H'
theorem pe_pair (c : HC X r D dd a oe) {bf : Str → Bool} {e : Expr} {x : Str} (hp : pairP r e = some x) (n : NmOk X D bf x) : PE (X.suite a ((a, oe) :: pn)) e (tP a dd (x, bf x)) := by
  unfold pairP at hp
  split at hp
  · rename_i x' j1 p1 f p2 r' p3 y p4 p5 k p6
    split at hp
    · rename_i h
      obtain ⟨e1, e2, e3, e4⟩ := h
      subst e1 e2 e3
      have ex : y = x := by simpa using hp
      subst ex
      obtain ⟨C, hm, hk⟩ := n.cl
      have hdb : (y == ("__debug__" : Str)) = false := by simpa using e4
      have h1 : PA (X.suite a ((a, oe) :: pn)) [.Name r' p3, .Name y p4] (tCons (tVar 1) (tCons (tC (.ref C)) tNil)) := pa_cons (pe_var c.hN c.hv c.hd c.hcd) (pa_cons (pe_glob (v := .ref C) n.gl hm rfl hdb) pa_nil rfl) rfl
      have h2 := pe_callB (p := p2) (pos := p5) (call_isED (pn := pn) c.C c.hz c.hf (fun _ _ => True.intro)) c.gi c.mi PyProof.Rows.boot_isinstance h1
      refine (pe_tup (pos := p6) (x1 := k) (pa_cons (pe_str (x := y) (pos := p1) (j := j1)) (pa_cons h2 pa_nil rfl) rfl)).imp fun σ H Q ⟨g1, ⟨fs, g2⟩, g3⟩ => ?_
      exact ⟨.ref a, g1, ⟨.ref C, .ref C, bf y, rfl, fun u ru => ru, hk, by simp; decide, g3⟩, dd, fs, rfl, g2⟩
    · cases hp
  · cases hp
theorem pa_pairs (c : HC X r D dd a oe) {bf : Str → Bool} : ∀ {es : List Expr} {xs : List Str}, pairsP r es = some xs → (∀ x ∈ xs, NmOk X D bf x) → PA (X.suite a ((a, oe) :: pn)) es (tPs a dd (xs.map fun x => (x, bf x)))
  | [], xs, h, _ => by
    cases h
    exact ⟨fun pos pins s σ H Q I h => pa_nil.run pos pins s σ H Q I (h.2.2 [] H .refl True.intro)⟩
  | e :: es, xs, h, n => by
    unfold pairsP at h
    cases h1 : pairP r e with
    | none => rw [h1] at h; cases h
    | some x =>
      cases h2 : pairsP r es with
      | none => rw [h1, h2] at h; cases h
      | some ys =>
        rw [h1, h2] at h
        cases h
        have hs : starEach (e :: es) X.env = (false, eval e X.env) :: starEach es X.env := by
          unfold pairP at h1
          split at h1
          · rfl
          · cases h1
        refine (pa_cons (pe_pair (pn := pn) c h1 (n x List.mem_cons_self)) (pa_pairs c h2 fun y hy => n y (List.mem_cons_of_mem _ hy)) hs).imp fun σ H Q ⟨g1, ⟨fs, g2⟩, g3⟩ => ?_
        refine ⟨g1, ⟨fs, g2⟩, fun q hq => ⟨g1, ⟨fs, Ext.new hq _ _ g2⟩, fun vs H' e' hp => ?_⟩⟩
        exact g3 _ H' ((Ext.new hq).trans e') ⟨⟨q, rfl, e' _ _ upd_same⟩, hp⟩
theorem pairsP_star {es : List Expr} {xs : List Str} (h : pairsP r es = some xs) : ∀ e ∈ es, ∃ x, pairP r e = some x := by
  induction es generalizing xs with
  | nil => intro e he; cases he
  | cons e es ih =>
    unfold pairsP at h
    cases h1 : pairP r e with
    | none => rw [h1] at h; cases h
    | some x =>
      cases h2 : pairsP r es with
      | none => rw [h1, h2] at h; cases h
      | some ys =>
        intro f hf
        rcases List.mem_cons.mp hf with rfl | hf
        · exact ⟨x, h1⟩
        · exact ih h2 f hf
/-- what is said of the suite's slots -/
structure Smt (a dd : Addr) (v : V) (H0 : Hp) (σ : SL) (H : Hp) (l : List (Str × Bool)) : Prop where
  sa : σ[1]? = some (some (.ref a))
  xd : H0 dd = some (.xd [("what", v)])
  ext : Ext H0 H
  at_ : ∃ s vs, σ[2]? = some (some (.ref s)) ∧ H s = some (.lst vs) ∧ H0 s = none ∧ PairsAt H vs l
def few (l : List (Str × Bool)) : Prop := l.length ≤ 1000 ∧ (l.map (·.1.length)).sum ≤ 100000
def tSt (a dd : Addr) (lr : List (Str × Bool)) : TS := fun D σ H => ∃ H0 v lb, Smt a dd v H0 σ H lb ∧ few (lb ++ lr) ∧ ∀ H' q, Ext H0 H' → H' q = some (.tup [.str (nmOf (lb ++ lr)), v]) → D.rt (.ref q) H'
theorem PSs.len {ss : List Stmt} {t : TS} (h : PSs X ss t) : PSs X ss (fun D σ H => σ.length = X.N.length → t D σ H) := ⟨fun pins s σ H D I q => h.run pins s σ H D I (q I.len)⟩
/-- some.extend([..]), some.append((..)) -/
def midP (r sm : Str) : Stmt → Option (List Str)
  | .Expr (.Call (.Attribute (.Name s _) m ap) [.List es p3] [] p4) p5 => if s = sm ∧ m = "extend" ∧ ap.endLine = p4.line then pairsP r es else none
  | .Expr (.Call (.Attribute (.Name s _) m ap) [e] [] p4) p5 => if s = sm ∧ m = "append" ∧ ap.endLine = p4.line then (pairP r e).map fun x => [x] else none
  | _ => none
theorem Smt.more {v : V} {H0 H H1 : Hp} {σ : SL} {lb l2 : List (Str × Bool)} {s : Addr} {vs us : List V} (h : Smt a dd v H0 σ H lb) (e : Ext H H1) (hs : σ[2]? = some (some (.ref s))) (hv : H s = some (.lst vs)) (h0 : H0 s = none) (hp : PairsAt H vs lb) (hq : PairsAt H1 us l2) :
    Smt a dd v H0 σ (upd H1 s (.lst (vs ++ us))) (lb ++ l2) where
  sa := h.sa
  xd := h.xd
  ext := fun b o q => by
    rw [upd_ne (fun z => by subst z; rw [h0] at q; cases q)]
    exact e _ _ (h.ext _ _ q)
  at_ := ⟨s, vs ++ us, hs, upd_same, h0, (PairsAt.append hq (hp.ext e)).write (e _ _ hv)⟩
theorem ps_mid (c : HC X r D dd a oe) {bf : Str → Bool} {sm : Str} {st : Stmt} {xs : List Str} (hm : midP r sm st = some xs) (n : ∀ x ∈ xs, NmOk X D bf x) (h2 : X.N[2]? = some sm) (v2 : Vis X.env.scope sm) (hd : (sm == ("__debug__" : Str)) = false) (hcd : (sm == ("__classdict__" : Str)) = false) :
    PS (X.suite a ((a, oe) :: pn)) st (fun DD σ H => ∃ H0 v lb, Smt a dd v H0 σ H lb ∧ few (lb ++ xs.map fun x => (x, bf x)) ∧ ∀ H', Smt a dd v H0 σ H' (lb ++ xs.map fun x => (x, bf x)) → DD.nx σ H') := by
  have size : ∀ {lb : List (Str × Bool)} {vs us : List V} {H H1 : Hp}, PairsAt H vs lb → PairsAt H1 us (xs.map fun x => (x, bf x)) → few (lb ++ xs.map fun x => (x, bf x)) → vs.length + us.length ≤ 1000 := fun {lb vs us H H1} h1 h2 h3 => by
    have e := h3.1
    rw [List.length_append] at e
    rw [h1.len, h2.len]
    exact e
  have sz : 1000 < sizeLine := by decide
  unfold midP at hm
  split at hm
  · rename_i s' p1 m ap es p3 p4 p5
    split at hm
    · rename_i h
      obtain ⟨e1, e2, e3⟩ := h
      subst e1 e2
      have h3 : PA (X.suite a ((a, oe) :: pn)) [.List es p3] _ := pa_cons (pe_lst (pa_pairs (pn := pn) c hm n)) pa_nil rfl
      have h4 := pe_bm (cpos := p4) (apos := ap) PySem.F.plainAttrs_list PySem.F.slot_list_extend PySem.F.type_list_extend mt_extend (pe_var (X := X.suite a ((a, oe) :: pn)) (pos := p1) h2 v2 hd hcd) h3 rfl (by rfl) (by rw [e3]; exact beq_self_eq_true _) rfl rfl
      refine ⟨fun pins s σ H DD I q => (ps_expr (pos := p5) h4 (by rfl)).run pins s σ H DD I ?_⟩
      obtain ⟨H0, v, lb, S, fw, k⟩ := q
      obtain ⟨so, vs, g1, g2, g3, g4⟩ := id S.at_
      refine ⟨.ref so, g1, .inl ⟨rfl, vs, .of g2⟩, S.sa, ⟨_, S.ext _ _ S.xd⟩, fun us H1 e1 hp => ⟨by have := size g4 hp fw; omega, fun p hp0 => ?_⟩⟩
      refine ⟨so, p, vs, us, rfl, rfl, (e1.trans (Ext.new hp0)) _ _ g2, upd_same, by have := size g4 hp fw; omega, ?_⟩
      exact k _ (S.more (e1.trans (Ext.new hp0)) g1 g2 g3 g4 (hp.ext (Ext.new hp0)))
    · cases hm
  · rename_i s' p1 m ap e p4 p5 hne
    split at hm
    · rename_i h
      obtain ⟨e1, e2, e3⟩ := h
      subst e1 e2
      cases hx : pairP r e with
      | none => rw [hx] at hm; cases hm
      | some x =>
        rw [hx] at hm
        cases hm
        have hs : starEach [e] X.env = (false, eval e X.env) :: starEach [] X.env := by
          unfold pairP at hx
          split at hx
          · rfl
          · cases hx
        have hf : ((backTo p4 (starEach [e] X.env)).all (fun x => !x.1) && (backToKw p4 (keywordEach [] X.env)).all (fun x => x.1.isSome)
      && decide ([e].length + ([] : List Keyword).length + (if ([] : List Keyword).isEmpty then 0 else 1) < 30)) = true := by rw [hs]; rfl
        have h3 : PA (X.suite a ((a, oe) :: pn)) [e] _ := pa_cons (pe_pair (pn := pn) c hx (n x List.mem_cons_self)) pa_nil hs
        have h4 := pe_bm (cpos := p4) (apos := ap) PySem.F.plainAttrs_list PySem.F.slot_list_append PySem.F.type_list_append mt_append (pe_var (X := X.suite a ((a, oe) :: pn)) (pos := p1) h2 v2 hd hcd) h3 rfl hf (by rw [e3]; exact beq_self_eq_true _) hs rfl
        refine ⟨fun pins s σ H DD I q => (ps_expr (pos := p5) h4 (by rfl)).run pins s σ H DD I ?_⟩
        obtain ⟨H0, v, lb, S, fw, k⟩ := q
        obtain ⟨so, vs, g1, g2, g3, g4⟩ := id S.at_
        refine ⟨.ref so, g1, .inl ⟨rfl, vs, .of g2⟩, S.sa, ⟨_, S.ext _ _ S.xd⟩, fun p hp0 => ?_⟩
        have hp : PairsAt (upd H p (.tup [.str x, .bl (bf x)])) [.ref p] [(x, bf x)] := ⟨⟨p, rfl, upd_same⟩, True.intro⟩
        refine ⟨so, vs, .ref p, rfl, rfl, (Ext.new hp0) _ _ g2, by have := size g4 hp fw; simp at this; omega, ?_⟩
        exact k _ (S.more (Ext.new hp0) g1 g2 g3 g4 hp)
    · cases hm
  · cases hm
end
end PL
set_option Elab.async false
set_option linter.all false
set_option maxRecDepth 100000
set_option maxHeartbeats 8000000
/-! The def that hears: what the suite returns. -/
namespace PL
open PySem PySem.Spec PyProof.Rows L2 LamX
variable [QN]
section
variable {X : Cx} {a D dd : Addr} {oe : Obj} {pn : List (Addr × Obj)} {r : Str} {pos : Pos}
/-- the names of what holds, up to i -/
def nmsAt (l : List (Str × Bool)) (i : Nat) : List Str := ((l.take i).filter (·.2)).map (·.1)
theorem nmsAt_succ {l : List (Str × Bool)} {i : Nat} {x : Str × Bool} (h : l[i]? = some x) : nmsAt l (i + 1) = if x.2 = true then nmsAt l i ++ [x.1] else nmsAt l i := by
  obtain ⟨x, b⟩ := x
  unfold nmsAt
  have e : l.take (i + 1) = l.take i ++ [(x, b)] := by rw [List.take_succ, h]; rfl
  rw [e, List.filter_append, List.map_append]
  cases b <;> simp
theorem nmsAt_len (l : List (Str × Bool)) (i : Nat) : (nmsAt l i).length ≤ l.length := by
  unfold nmsAt
  rw [List.length_map]
  exact Nat.le_trans (List.length_filter_le ..) (List.length_take_le' ..)
theorem nms_sum (l : List (Str × Bool)) : (((l.filter (·.2)).map (·.1)).map (·.length)).sum ≤ (l.map (·.1.length)).sum := by
  induction l with
  | nil => simp
  | cons x l ih =>
    obtain ⟨x, b⟩ := x
    cases b <;> simp at ih ⊢ <;> omega
def tFst : TE := fun σ H Q => ∃ v, σ[3]? = some (some v) ∧ Q v H
structure BodyOk (X : Cx) (sc : Scope) (n1 n2 : Str) : Prop where
  blk : BlkOk X.N X.env.scope sc [(n1, 3), (n2, 4)]
  l1 : sc.names.lookup n1 = some .local
  l2 : sc.names.lookup n2 = some .local
  h1 : X.N[3]? = some n1
  h2 : X.N[4]? = some n2
  d1 : (n1 == ("__debug__" : Str)) = false
  d2 : (n2 == ("__debug__" : Str)) = false
  c1 : (n1 == ("__classdict__" : Str)) = false
  c2 : (n2 == ("__classdict__" : Str)) = false
theorem pe_names (hot : L2H.HotC (X.suite a ((a, oe) :: pn))) (nd : X.N.Nodup) {sm n1 n2 : Str} {sc : Scope} {k1 : Nat} {q1 q2 q3 q4 q5 q6 q7 : Pos} (B : BodyOk X sc n1 n2) (h2 : X.N[2]? = some sm) (v2 : Vis X.env.scope sm) (hd : (sm == ("__debug__" : Str)) = false) (hcd : (sm == ("__classdict__" : Str)) = false) :
    PE (X.suite a ((a, oe) :: pn)) (.ListComp (.Name n1 q1) [⟨.Tuple [.Name n1 q2, .Name n2 q3] k1 q4, .Name sm q5, [.Name n2 q6], 0⟩] sc q7)
      (tLc (iList X.K (tVar 2)) (gTup X.K 2 (gCons (gName 3) (gCons (gName 4) gNil))) (tB (tVar 4)) (tVar 3) [3, 4]) := by
  have L1 : (relabel sc X.env).names.lookup n1 = some .local := lookup_relabel_local B.l1
  have L2 : (relabel sc X.env).names.lookup n2 = some .local := lookup_relabel_local B.l2
  have V1 : Vis (relabel sc X.env) n1 := .inl L1
  have V2 : Vis (relabel sc X.env) n2 := .inl L2
  refine pe_lcD (own := [(n1, 3), (n2, 4)]) hot nd (pi_listD (pe_var h2 v2 hd hcd)) B.blk (fun s H C cl fp hh => ?_) (fun s H C cl fp => ?_) (fun s H C cl fp => ?_)
  · exact pg_tupD hh (pgs_cons (pg_name (i := 3) nd B.h1 (.inl L1) (.inr L1)) (pgs_cons (pg_name (i := 4) nd B.h2 (.inl L2) (.inr L2)) pgs_nil rfl) rfl) rfl rfl
  · exact pts_one (pt_val (pe_var B.h2 V2 B.d2 B.c2) (fun _ => rfl))
  · exact pe_var B.h1 V1 B.d1 B.c1
theorem names_read {K : PySem.W.Frag} {σ : SL} {H : Hp} {Q : VK} {s : Addr} {vs : List V} {l : List (Str × Bool)} (hl : σ.length = 5) (hs : σ[2]? = some (some (.ref s))) (hv : H s = some (.lst vs)) (hp : PairsAt H vs l) (fw : few l)
    (k : ∀ D H', Ext H H' → H' D = some (.lst (((l.filter (·.2)).map (·.1)).map V.str)) → Q (.ref D) H') :
    tLc (iList K (tVar 2)) (gTup K 2 (gCons (gName 3) (gCons (gName 4) gNil))) (tB (tVar 4)) (tVar 3) [3, 4] σ H Q := by
  refine ⟨.ref s, hs, s, rfl, ⟨vs, .inl (.of hv)⟩, fun D hD => ?_⟩
  have hlen := hp.len
  refine lc_list (xs := vs) (fun i H' => Ext H H' ∧ H' D = some (.lst ((nmsAt l i).map V.str))) ⟨Ext.new hD, upd_same⟩ (fun i H' _ h => .inl (.of (h.1 _ _ hv))) (fun i x H' hx h => ?_) fun H' h => ?_
  · obtain ⟨⟨y, b⟩, hy, p, ep, hpp⟩ := hp.get hx
    subst ep
    have hw : wipe σ [3, 4] = (σ.set 4 none).set 3 none := rfl
    refine ⟨p, [.str y, .bl b], rfl, .inl (.of (h.1 _ _ hpp)), rfl, .str y, [.bl b], rfl, .bl b, [], rfl, rfl, ?_⟩
    refine ⟨?_, .bl b, ?_, b, rfl, ?_⟩
    · rw [hw]
      show ((List.set (List.set (List.set (List.set σ 4 none) 3 none) 3 (some (.str y))) 4 (some (.bl b))).set 4 none).set 3 none = _
      apply List.ext_getElem?
      intro j
      simp only [List.getElem?_set]
      by_cases e3 : 3 = j
      · subst e3; simp
      · by_cases e4 : 4 = j
        · subst e4; simp
        · simp [e3, e4]
    · rw [hw]; simp [List.getElem?_set, hl]
    · have hn := nmsAt_succ hy
      cases b with
      | false =>
        rw [if_neg Bool.false_ne_true] at hn
        exact ⟨h.1, by rw [hn]; exact h.2⟩
      | true =>
        rw [if_pos rfl] at hn
        refine ⟨.str y, by rw [hw]; simp [List.getElem?_set, hl], _, h.2, ?_, fun b o e => ?_, ?_⟩
        · rw [List.length_map]
          have := nmsAt_len l i
          have := fw.1
          have : 1000 < sizeLine := by decide
          omega
        · rw [upd_ne (fun z => by subst z; rw [hD] at e; cases e)]; exact h.1 _ _ e
        · rw [hn, upd_same, List.map_append]; rfl
  · refine k D H' h.1 ?_
    rw [h.2]
    have e : nmsAt l vs.length = (l.filter (·.2)).map (·.1) := by unfold nmsAt; rw [hlen, List.take_length]
    rw [e]
/-- return (" ".join([..]), r.what) -/
theorem ps_retH (c : HC X r D dd a oe) (hot : L2H.HotC (X.suite a ((a, oe) :: pn))) (nd : X.N.Nodup) (h5 : X.N.length = 5) {sm n1 n2 : Str} {sc : Scope} {k1 k2 k3 : Nat} {q1 q2 q3 q4 q5 q6 q7 q8 q9 q10 q11 q12 q13 q14 : Pos} (B : BodyOk X sc n1 n2) (h2 : X.N[2]? = some sm) (v2 : Vis X.env.scope sm)
    (hd : (sm == ("__debug__" : Str)) = false) (hcd : (sm == ("__classdict__" : Str)) = false) (hline : (q9.endLine == q10.line) = true) :
    PS (X.suite a ((a, oe) :: pn)) (.Return (some (.Tuple [.Call (.Attribute (.Constant (.str " ") k2 q8) "join" q9) [.ListComp (.Name n1 q1) [⟨.Tuple [.Name n1 q2, .Name n2 q3] k1 q4, .Name sm q5, [.Name n2 q6], 0⟩] sc q7] [] q10, .Attribute (.Name r q11) "what" q12] k3 q13)) q14) (tSt a dd []) := by
  have h1 := pe_join (apos := q9) (pos := q10) (pe_str (X := X.suite a ((a, oe) :: pn)) (x := " ") (pos := q8) (j := k2)) (pe_names (pn := pn) (q1 := q1) (q2 := q2) (q3 := q3) (q4 := q4) (q5 := q5) (q6 := q6) (q7 := q7) (k1 := k1) hot nd B h2 v2 hd hcd) rfl (by rfl) hline
  have h3 := pe_xf (pos := q12) (pn := pn) c.xf c.wh c.hz c.hf (pe_var (X := X.suite a ((a, oe) :: pn)) (pos := q11) c.hN c.hv c.hd c.hcd) (by rfl)
  refine ⟨fun pins s σ H DD I q => (ps_ret (pos := q14) (pe_tup (pos := q13) (x1 := k3) (pa_cons h1 (pa_cons h3 pa_nil rfl) rfl))).run pins s σ H DD I ?_⟩
  obtain ⟨H0, v, lb, S, fw, k⟩ := q
  obtain ⟨so, vs, g1, g2, g3, g4⟩ := id S.at_
  rw [List.append_nil] at fw
  refine ⟨⟨" ", rfl⟩, ?_⟩
  refine names_read (I.len.trans h5) g1 g2 g4 fw fun D' H' e hD => ?_
  refine ⟨" ", D', (lb.filter (·.2)).map (·.1), rfl, rfl, .inl (.inl (.of hD)), ?_, ?_⟩
  · have n1 := nms_sum lb
    have n2 := fw.2
    have n3 := fw.1
    have n4 : ((lb.filter (·.2)).map (·.1)).length ≤ lb.length := by rw [List.length_map]; exact List.length_filter_le ..
    have n5 : (" " : Str).length = 1 := by rfl
    rw [n5]
    omega
  · refine ⟨.ref a, S.sa, rfl, rfl, dd, _, v, rfl, e _ _ (S.ext _ _ S.xd), rfl, ?_, fun p hp => ?_⟩
    · show 2 ≤ sizeLine
      decide
    · refine k _ p ((S.ext.trans e).trans (Ext.new hp)) ?_
      rw [List.append_nil, upd_same]
      rfl
end
end PL
set_option Elab.async false
set_option linter.all false
set_option maxRecDepth 100000
set_option maxHeartbeats 8000000
/-! The def that hears: its body. -/
namespace PL
open PySem PySem.Spec PyProof.Rows L2 LamX
variable [QN]
/-- return (" ".join([..]), r.what) -/
def retP (r sm : Str) : Stmt → Option (Str × Str × Scope)
  | .Return (some (.Tuple [.Call (.Attribute (.Constant (.str sep) _ _) jn q9) [.ListComp (.Name n1 _) [⟨.Tuple [.Name n1' _, .Name n2 _] _ _, .Name s' _, [.Name n2' _], 0⟩] sc _] [] q10, .Attribute (.Name r' _) wh _] _ _)) _ =>
    if sep = " " ∧ jn = "join" ∧ n1' = n1 ∧ n2' = n2 ∧ s' = sm ∧ r' = r ∧ wh = "what" ∧ q9.endLine = q10.line then some (n1, n2, sc) else none
  | _ => none
def suiteP (r sm : Str) : List Stmt → Option (List Str × Str × Str × Scope)
  | [] => none
  | [s] => (retP r sm s).map fun x => ([], x)
  | s :: ss => match midP r sm s, suiteP r sm ss with
    | some xs, some (ys, x) => some (xs ++ ys, x)
    | _, _ => none
section
variable {X : Cx} {a D dd : Addr} {oe : Obj} {pn : List (Addr × Obj)} {r : Str} {pos : Pos}
theorem pss_suite (c : HC X r D dd a oe) (hot : L2H.HotC (X.suite a ((a, oe) :: pn))) (nd : X.N.Nodup) (h5 : X.N.length = 5) {bf : Str → Bool} {sm n1 n2 : Str} {sc : Scope} (B : BodyOk X sc n1 n2) (h2 : X.N[2]? = some sm) (v2 : Vis X.env.scope sm)
    (hd : (sm == ("__debug__" : Str)) = false) (hcd : (sm == ("__classdict__" : Str)) = false) : ∀ {ss : List Stmt} {xs : List Str}, suiteP r sm ss = some (xs, n1, n2, sc) → (∀ x ∈ xs, NmOk X D bf x) →
    PSs (X.suite a ((a, oe) :: pn)) ss (tSt a dd (xs.map fun x => (x, bf x)))
  | [], xs, h, n => by cases h
  | [s], xs, h, n => by
    have h : (retP r sm s).map (fun x => (([] : List Str), x)) = some (xs, n1, n2, sc) := h
    cases q : retP r sm s with
    | none => rw [q] at h; cases h
    | some y =>
      rw [q] at h
      cases h
      unfold retP at q
      split at q
      · split at q
        · rename_i hh
          obtain ⟨e1, e2, e3, e4, e5, e6, e7, e8⟩ := hh
          subst e1 e2 e3 e4 e5 e6 e7
          cases q
          exact pss_cons (ps_retH (pn := pn) c hot nd h5 B h2 v2 hd hcd (by rw [e8]; exact beq_self_eq_true _)) pss_nil
        · cases q
      · cases q
  | s :: s' :: ss, xs, h, n => by
    have h : (match midP r sm s, suiteP r sm (s' :: ss) with | some xs, some (ys, x) => some (xs ++ ys, x) | _, _ => none) = some (xs, n1, n2, sc) := h
    cases q1 : midP r sm s with
    | none => rw [q1] at h; cases h
    | some x1 =>
      cases q2 : suiteP r sm (s' :: ss) with
      | none => rw [q1, q2] at h; cases h
      | some y =>
        obtain ⟨ys, z⟩ := y
        rw [q1, q2] at h
        cases h
        have A1 := ps_mid (pn := pn) (bf := bf) c q1 (fun x hx => n x (List.mem_append_left _ hx)) h2 v2 hd hcd
        have A2 := pss_suite (ss := s' :: ss) c hot nd h5 (bf := bf) B h2 v2 hd hcd q2 (fun x hx => n x (List.mem_append_right _ hx))
        refine ⟨fun pins s0 σ H DD I q => (pss_cons A1 A2).run pins s0 σ H DD I ?_⟩
        obtain ⟨H0, v, lb, S, fw, k⟩ := q
        rw [List.map_append, ← List.append_assoc] at fw k
        refine ⟨H0, v, lb, S, ?_, fun H' S' => ⟨H0, v, _, S', fw, k⟩⟩
        obtain ⟨f1, f2⟩ := fw
        rw [List.length_append] at f1
        rw [List.map_append, List.sum_append] at f2
        exact ⟨by omega, by omega⟩
/-- some = [..], then the rest -/
theorem pss_suite1 (c : HC X r D dd a oe) (hot : L2H.HotC (X.suite a ((a, oe) :: pn))) (nd : X.N.Nodup) (h5 : X.N.length = 5) {bf : Str → Bool} {sm n1 n2 : Str} {sc : Scope} (B : BodyOk X sc n1 n2) (h2 : X.N[2]? = some sm) (v2 : X.env.scope.names.lookup sm = some .local)
    (hd : (sm == ("__debug__" : Str)) = false) (hcd : (sm == ("__classdict__" : Str)) = false) {ss : List Stmt} {es : List Expr} {xs ys : List Str} {p1 p2 p3 : Pos} (h1 : pairsP r es = some xs) (h : suiteP r sm ss = some (ys, n1, n2, sc)) (n : ∀ x ∈ xs ++ ys, NmOk X D bf x) :
    PSs (X.suite a ((a, oe) :: pn)) (.Assign [.Name sm p1] (.List es p2) p3 :: ss) (fun DD σ H => ∃ v, (σ.length = 5 → σ[1]? = some (some (.ref a))) ∧ H dd = some (.xd [("what", v)]) ∧ few ((xs ++ ys).map fun x => (x, bf x)) ∧
      ∀ H' q, Ext H H' → H' q = some (.tup [.str (nmOf ((xs ++ ys).map fun x => (x, bf x))), v]) → DD.rt (.ref q) H') := by
  have A1 := ps_set (X := X.suite a ((a, oe) :: pn)) (pos := p3) (pos' := p1) nd h2 (.inl v2) (pe_lst (pos := p2) (pa_pairs (pn := pn) (bf := bf) c h1 (fun x hx => n x (List.mem_append_left _ hx)))) (by rfl) (.inr v2)
  have A2 := pss_suite (pn := pn) (bf := bf) c hot nd h5 B h2 (.inl v2) hd hcd h (fun x hx => n x (List.mem_append_right _ hx))
  refine ⟨fun pins s0 σ H DD I q => (pss_cons A1 A2).run pins s0 σ H DD I ?_⟩
  obtain ⟨v, g1, g2, fw, k⟩ := q
  have hl : σ.length = 5 := I.len.trans h5
  refine ⟨g1 hl, ⟨_, g2⟩, fun vs H1 e1 hp => ⟨?_, fun p hp0 => ?_⟩⟩
  · have e := fw.1
    rw [List.map_append, List.length_append] at e
    rw [hp.len]
    have : 1000 < sizeLine := by decide
    omega
  · have e2 : Ext H (upd H1 p (.lst vs)) := e1.trans (Ext.new hp0)
    rw [List.map_append] at fw k
    refine ⟨H, v, xs.map fun x => (x, bf x), ⟨?_, g2, e2, p, vs, ?_, upd_same, e1.none hp0, hp.ext (Ext.new hp0)⟩, fw, k⟩
    · rw [List.getElem?_set_ne (by omega)]; exact g1 hl
    · rw [List.getElem?_set_self (by omega)]
end
/-- what the hearer asks of the exception's class -/
structure IsH (K : PySem.W.Frag) (mg : Str → Option Value) (R : Value) (names : List Str) (D : Addr) (n : Str) : Prop where
  ex : PySem.W.exmOne K (.ref D) R = some true
  xf : XfC K D
  ec : L2.ExcC K D
  wh : PySem.W.findIn K (.ref D) "what" = some none
  nm : ∃ bf : Str → Bool, (∀ x ∈ names, ∃ C, mg x = some (.ref C) ∧ PySem.W.kitOne K (.ref D) (.ref C) = some (bf x)) ∧ n = nmOf (names.map fun x => (x, bf x)) ∧ few (names.map fun x => (x, bf x))
def EH (K : PySem.W.Frag) (mg : Str → Option Value) (R : Value) (names : List Str) (Q : VK) : XK := fun cls d H => ∃ D dd v n, cls = .ref D ∧ d = some dd ∧ H dd = some (.xd [("what", v)]) ∧ IsH K mg R names D n ∧ ∀ H' q, Ext H H' → H' q = some (.tup [.str n, v]) → Q (.ref q) H'
def TTh (K : PySem.W.Frag) (mg : Str → Option Value) (R : Value) (names : List Str) : (XK → Hp → VK → Prop) → Hp → VK → Prop := fun tl H Q =>
  tl (EH K mg R names Q) H fun v H1 => [V.str "told", v].length ≤ sizeLine ∧ ∀ p, H1 p = none → Q (.ref p) (upd H1 p (.tup [.str "told", v]))
/-- the form of the hearer's body: its names, and what the lambda's slot is called -/
def heardP : List Stmt → Option (Str × Str × Str × Str × Str × Str × List Str × Scope)
  | [.Try [.Return (some (.Tuple [.Constant (.str told) _ _, .Call (.Name cl _) [] [] _] _ _)) _] [.ExceptHandler (some (.Name rf _)) (some r) (.Assign [.Name sm _] (.List es _) _ :: ss) _] [] [] _] =>
    if told = "told" then match pairsP r es, suiteP r sm ss with
      | some xs, some (ys, n1, n2, sc) => some (cl, rf, r, sm, n1, n2, xs ++ ys, sc)
      | _, _ => none
    else none
  | _ => none
structure HeardOk (sg : Scope) (Ng : List Str) (mg : Str → Option Value) (cl rf r sm n1 n2 : Str) (names : List Str) (sc : Scope) : Prop where
  nd : Ng.Nodup
  N : Ng = [cl, r, sm, n1, n2]
  lc : sg.names.lookup cl = some .local
  lr : sg.names.lookup r = some .local
  ls : sg.names.lookup sm = some .local
  gi : (sg.names.lookup ("isinstance" : Str)) = some .globalImplicit
  grf : (sg.names.lookup rf) = some .globalImplicit
  gn : ∀ x ∈ names, (sg.names.lookup x) = some .globalImplicit
  blk : BlkOk Ng sg sc [(n1, 3), (n2, 4)]
  l1 : sc.names.lookup n1 = some .local
  l2 : sc.names.lookup n2 = some .local
  nodbg : ∀ x ∈ cl :: rf :: r :: sm :: n1 :: n2 :: names, (x == ("__debug__" : Str)) = false ∧ (x == ("__classdict__" : Str)) = false
theorem givesN {X : Cx} {Ng : List Str} {x : Str} {sg : Scope} {g : Addr} {cdg : Value} {bg : List Stmt} {cl rf r sm n1 n2 q : Str} {names : List Str} {sc : Scope} {R : Addr} (hp : heardP bg = some (cl, rf, r, sm, n1, n2, names, sc)) (h : HeardOk sg Ng X.mg cl rf r sm n1 n2 names sc)
    (hi : X.mg "isinstance" = none) (hR : X.mg rf = some (.ref R)) : GivesN X Ng x sg g cdg bg cl q (TTh X.K X.mg (.ref R) names) := by
  intro f c' s H Q tl hPE hcode hT
  unfold heardP at hp
  split at hp
  · rename_i told k0 p0 cl' p1 p2 k3 p3 p4 rf' np r' sm' ps es pl pas ss ph pos
    split at hp
    · rename_i etold
      subst etold
      cases q1 : pairsP r' es with
      | none => rw [q1] at hp; cases hp
      | some xs =>
        cases q2 : suiteP r' sm' ss with
        | none => rw [q1, q2] at hp; cases hp
        | some y =>
          obtain ⟨ys, m1, m2, msc⟩ := y
          rw [q1, q2] at hp
          cases hp
          have eN := h.N
          have nd : Ng.Nodup := h.nd
          subst eN
          have dbg : ∀ x ∈ cl :: rf :: r :: sm :: n1 :: n2 :: (xs ++ ys), (x == ("__debug__" : Str)) = false ∧ (x == ("__classdict__" : Str)) = false := h.nodbg
          have d1 := dbg cl (by simp)
          have d2 := dbg rf (by simp)
          have d3 := dbg r (by simp)
          have d4 := dbg sm (by simp)
          have d5 := dbg n1 (by simp)
          have d6 := dbg n2 (by simp)
          generalize hY : (cxOf C8.CX0 X.prog X.w X.K X.mg X.base [cl, r, sm, n1, n2] x sg g cdg X.A X.stack s H C8.E0).nox = Y
          have yK : Y.K = X.K := by subst hY; rfl
          have yN : Y.N = [cl, r, sm, n1, n2] := by subst hY; rfl
          have ymg : Y.mg = X.mg := by subst hY; rfl
          have ysc : Y.env.scope = sg := by subst hY; rfl
          have yst : Y.stack = Y.env :: Y.outer := by subst hY; rfl
          have yfr : Y.env.frame = some Y.env.locals := by subst hY; rfl
          let EE := EH X.K X.mg (.ref R) (xs ++ ys) Q
          let tb : WX → TS := fun W D σ H => ∃ E, (∀ cls d σ' H', E cls d H' → W cls d σ' H') ∧ σ[0]? = some (some (.ref f)) ∧ H c' = some (CodeO c' q) ∧ tl E H (fun v H1 => [V.str "told", v].length ≤ sizeLine ∧ ∀ p, H1 p = none → D.rt (.ref p) (upd H1 p (.tup [.str "told", v])))
          let ts : Addr → Value → Option Addr → TS := fun a cls d DD σ H => ∃ D dd v n, cls = .ref D ∧ d = some dd ∧ H dd = some (.xd [("what", v)]) ∧ IsH X.K X.mg (.ref R) (xs ++ ys) D n ∧ (σ.length = 5 → σ[1]? = some (some (.ref a))) ∧ ∀ H' q, Ext H H' → H' q = some (.tup [.str n, v]) → DD.rt (.ref q) H'
          have main := L2N.ps_try_as (X := Y) (x := rf) (n := r) (c := .ref R) (i := 1) (body := [.Return (some (.Tuple [.Constant (.str "told") k0 p0, .Call (.Name cl p1) [] [] p2] k3 p3)) p4]) (b₀ := .Assign [.Name sm ps] (.List es pl) pas) (suite := ss) (np := np) (pos' := ph) (pos := pos) (tb := tb) (ts := ts) (Wout := fun _ _ _ _ => False)
            yst yfr (by rw [yN]; exact nd) (by rw [yN]; rfl) (show Y.env.scope.names.lookup r = _ by rw [ysc]; exact h.lr) ⟨show Y.env.scope.names.lookup rf = _ by rw [ysc]; exact h.grf, d2.1, .inl (by rw [ymg]; exact hR)⟩
            (fun u s' xx => by obtain ⟨_, _, _, _, _, _, _, _, _, _, _, _, _, _, _, _, z⟩ := xx; exact z.elim)
            (fun W pn xe tk _ => ?_) (fun a oe cls d pn zn hf => ?_)
          · refine ⟨_, pss_cons main pss_nil, ?_⟩
            refine ⟨EE, fun cls d σ' H' he => ?_, rfl, hcode, hT⟩
            obtain ⟨D, dd, v, n, e1, e2, e3, e4, e5⟩ := he
            subst e1 e2
            refine ⟨true, by rw [yK]; exact e4.ex, fun _ a na => ⟨D, dd, v, n, rfl, rfl, e3, e4, fun hl => ?_, e5⟩, fun z => by cases z⟩
            rw [List.getElem?_set_self (by rw [List.length_set] at hl; omega)]
          · refine ⟨fun pins s1 σ H1 DD I ⟨E, hW, g1, g2, g3⟩ => ?_⟩
            subst hY
            have hc := hPE W pn xe E p1 p2 tk hW
            exact (pss_cons (ps_ret (pe_tup (pos := p3) (x1 := k3) (pa_cons (pe_str (x := "told") (pos := p0) (j := k0)) (pa_cons hc pa_nil rfl) rfl))) pss_nil).run pins s1 σ H1 DD I ⟨g1, g2, g3⟩
          · refine ⟨fun pins s1 σ H1 DD I ⟨D, dd, v, n, e1, e2, e3, e4, e5, e6⟩ => ?_⟩
            subst e1 e2
            obtain ⟨bf, hn, en, fw⟩ := e4.nm
            have hc : HC Y r D dd a oe := ⟨by rw [yK]; exact e4.ec, by rw [yK]; exact e4.xf, by rw [yK]; exact e4.wh, zn.zc, hf, by rw [yN]; rfl, .inl (by rw [ysc]; exact h.lr), d3.1, d3.2, show Y.env.scope.names.lookup _ = _ by rw [ysc]; exact h.gi, by rw [ymg]; exact hi⟩
            obtain ⟨vs, hvs⟩ := id hf
            have hot : L2H.HotC (Y.suite a ((a, oe) :: pn)) := ⟨(a, oe), ⟨rfl, vs, hvs, zn.2.2 vs hvs⟩, List.mem_cons_self⟩
            have B : BodyOk Y sc n1 n2 := ⟨by rw [yN, ysc]; exact h.blk, h.l1, h.l2, by rw [yN]; rfl, by rw [yN]; rfl, d5.1, d6.1, d5.2, d6.2⟩
            have nm : ∀ x ∈ xs ++ ys, NmOk Y D bf x := fun x hx => ⟨show Y.env.scope.names.lookup _ = _ by rw [ysc]; exact h.gn x hx, by rw [ymg, yK]; exact hn x hx⟩
            refine (pss_suite1 (pn := pn) (bf := bf) hc hot (by rw [yN]; exact nd) (by rw [yN]; rfl) B (by rw [yN]; rfl) (by rw [ysc]; exact h.ls) d4.1 d4.2 q1 q2 nm).run pins s1 σ H1 DD I ⟨v, e5, e3, fw, ?_⟩
            rw [← en]
            exact e6
    · cases hp
  · cases hp
end PL
set_option Elab.async false
set_option linter.all false
set_option maxRecDepth 100000
set_option maxHeartbeats 8000000
/-! heard(lambda: e) in the language. The rule for the lambda's making is the library's, which tells besides that nothing is lost. -/
namespace PL
open PySem PySem.Spec PyProof.Rows L2 LamX
variable [QN]
section
variable {X : Cx} {pins : List (Addr × Obj)} {σ : L2.St} {H : Hp} {s : Shared}
theorem lam_make3 {T : List (Addr × Str)} {c P : Addr} {params : Arguments} {body : Expr} {scope : Scope} {pos : Pos} {E : Value → Shared → Prop} {Q : Value → Shared → Prop} (I : Inv X pins σ H s) (TB : TabB X.base X.mg c P) (hcode : X.env.code = .ref c)
    (hm : (P, X.env.qual ++ "<lambda>") ∈ T) (hu : ∀ p ∈ T, p.1 = P → p.2 = X.env.qual ++ "<lambda>") (hT : Tabs T H) (hdef : defaultsOf params X.env = ([], [])) (hfree : ∀ y ∈ scope.names, y.2 = .free → ∃ c, X.env.cells.lookup y.1 = some c)
    (h : ∀ (f c' : Addr) (pm ctv : Value) (H1 : Hp) (s' : Shared), Inv X pins σ H1 s' → ExtN H H1 → (∀ b, H1 b = none → H b = none) → Tabs T H1 →
      s'.heap.get? f = some (PySem.W.kla_obj "<lambda>" (X.env.qual ++ "<lambda>") params body scope (cloFrom X.env.cells scope.names []) pm c' ctv) → H1 f = none → f ∉ frs X.stack → H1 c' = some (CodeO c' (X.env.qual ++ "<lambda>")) → Q (.ref f) s') :
    wpAny (model X.prog X.w) X.A (eval (.Lambda params body scope pos) X.env) Q E s := by
  obtain ⟨ps, hP, ht, ha⟩ := hT _ hm
  refine PySem.W.kla_eval hdef ?_
  have bP : s.heap.BuiltinsAt X.mg P := TB.bm.keeps I.bk
  have hP' : s.heap.get? P = some { cls := .none, data := .fields ps } := I.hok P _ hP
  have nofr : ∀ f, s.heap.objs.size ≤ f → f ∉ frs X.stack := fun f hf z => by
    rcases List.mem_cons.mp (I.stkSub _ z) with e | e
    · have h1 := I.lt
      rw [← e] at h1
      exact Nat.lt_irrefl _ (Nat.lt_of_lt_of_le h1 hf)
    · exact I.nofs hf e
  cases hc : codeAmong pos ps.toList with
  | none =>
    refine PySem.W.kla_makeFunction (mg := X.mg) (c := c) (P := P) (ps := ps) (closure_ok hfree) I.ok.glob (I.mod.glob.keeps I.bk) hcode (TB.code.keeps I.bk) hP' ht hc TB.gP bP fun c' ctv h' tk hx hge hlt hrec htb => ?_
    obtain ⟨c2, oc, vs, t, e2, hoc, hd, hv⟩ := hrec
    cases e2
    have hsz : s.heap.objs.size ≤ h'.objs.size := Nat.le_trans hge (Nat.le_of_lt hlt)
    have nC : H c' = none := I.hok.fresh hge
    have I1 := inv_table (t' := tk) (more := #[rawInt pos.line, rawInt pos.col, .ref c']) (h' := h'.push (PySem.W.kla_obj "<lambda>" (X.env.qual ++ "<lambda>") params body scope (cloFrom X.env.cells scope.names []) ((X.mg "__name__").getD .none) c' ctv)) I hP
      (fun b o hb e => Heap.get?_push_of_some _ (hx b o hb e)) (Heap.get?_push_of_some _ htb) hge ⟨oc, vs, t, Heap.get?_push_of_some _ hoc, hd, hv⟩
    have hE : ExtN H (upd (upd H P (.tbl (ps ++ #[rawInt pos.line, rawInt pos.col, .ref c']))) c' (CodeO c' (X.env.qual ++ "<lambda>"))) := fun b o e n => by
      rw [upd_ne (ne_of_none e nC), upd_ne (fun z => n ps (Option.some.inj (e.symm.trans (by rw [z]; exact hP))))]
      exact e
    have eL : (ps ++ #[rawInt pos.line, rawInt pos.col, .ref c']).toList = ps.toList ++ [rawInt pos.line, rawInt pos.col, .ref c'] := by simp
    refine h h'.objs.size c' ((X.mg "__name__").getD .none) ctv _ _ I1 hE (fun b e => ?_) (fun p hp => ?_) (Heap.get?_push_size _ rfl) ?_ (nofr _ hsz) upd_same
    · by_cases e1 : b = c'
      · rw [e1, upd_same] at e; cases e
      · rw [upd_ne e1] at e
        by_cases e2 : b = P
        · rw [e2, upd_same] at e; cases e
        · rw [upd_ne e2] at e; exact e
    · by_cases hb : p.1 = P
      · rw [hu p hp hb, hb]
        refine ⟨_, by rw [upd_ne (ne_of_none hP nC), upd_same], by rw [eL]; exact PySem.TriplesOk_snoc _ _ _ _ ht, fun p' cv hcv => ?_⟩
        rw [eL] at hcv
        rcases among_app _ ht hcv with z | z
        · obtain ⟨c0, e1, e2⟩ := ha p' cv z
          exact ⟨c0, e1, hE _ _ e2 codeO_ne⟩
        · exact ⟨c', z, upd_same⟩
      · obtain ⟨ps', a1, a2, a3⟩ := hT p hp
        refine ⟨ps', by rw [upd_ne (ne_of_none a1 nC), upd_ne hb]; exact a1, a2, fun p' cv hcv => ?_⟩
        obtain ⟨c0, e1, e2⟩ := a3 p' cv hcv
        exact ⟨c0, e1, hE _ _ e2 codeO_ne⟩
    · have n1 : h'.objs.size ≠ c' := Nat.ne_of_gt hlt
      have n2 : h'.objs.size ≠ P := Nat.ne_of_gt (Nat.lt_of_lt_of_le (Heap.lt_size hP') hsz)
      rw [upd_ne n1, upd_ne n2]
      exact I.hok.fresh hsz
  | some cv =>
    obtain ⟨c', e, hco⟩ := ha pos cv hc
    subst e
    refine PySem.W.kla_makeFunctionHit (mg := X.mg) (c := c) (P := P) (ps := ps) (closure_ok hfree) I.ok.glob (I.mod.glob.keeps I.bk) hcode (TB.code.keeps I.bk) hP' ht hc bP fun ctv h' tk hx hsz => ?_
    have I1 : Inv X pins σ H { s with heap := h'.push (PySem.W.kla_obj "<lambda>" (X.env.qual ++ "<lambda>") params body scope (cloFrom X.env.cells scope.names []) ((X.mg "__name__").getD .none) c' ctv), toks := tk } := I.kept fun b o e => Heap.get?_push_of_some _ (hx b o e)
    exact h h'.objs.size c' ((X.mg "__name__").getD .none) ctv H _ I1 (ExtN.refl H) (fun _ e => e) hT (Heap.get?_push_size _ rfl) (I.hok.fresh hsz) (nofr _ hsz) hco
end
def tLamS (T : List (Addr × Str)) (TT : (XK → Hp → VK → Prop) → Hp → VK → Prop) (t : XK → TE) : TE := fun σ H Q => Tabs T H ∧ ∀ H1, ExtN H H1 → (∀ b, H1 b = none → H b = none) → Tabs T H1 → TT (fun E H' Q' => t E σ H' Q') H1 Q
section
variable {X : Cx}
/-- x(lambda: body) -/
theorem pe_lamcallS {T : List (Addr × Str)} {TT : (XK → Hp → VK → Prop) → Hp → VK → Prop} {x a : Str} {g c P : Addr} {k : Nat} {pg : Arguments} {bg : List Stmt} {sg : Scope} {dV kV doc pm cdv ct oc : Value} {an od : Option Addr} {osl : Array (Option Value)} {Ng : List Str}
    {params : Arguments} {body : Expr} {scope : Scope} {t : XK → TE} {p lpos pos : Pos} (hg : Gl X x) (hm : X.mg x = some (.ref g)) (hk : PySem.W.keepIn X.K (.ref g) = true)
    (lk : X.K.lookup g = some ⟨oc, od, .func (PySem.W.fnOf x x pg bg sg dV kV doc pm an cdv ct), osl⟩) (hcg : PySem.W.codeIn X.K cdv x = true) (hb : L2.Binds X.K (PySem.W.fnOf x x pg bg sg dV kV doc pm an cdv ct) [a] []) (Sg : FnScope Ng [a] sg) (hNg : Ng[0]? = some a) (hva : Vis sg a)
    (hG : GivesN X Ng x sg g cdv bg a (X.env.qual ++ "<lambda>") TT)
    (TB : TabB X.base X.mg c P) (hcode : X.env.code = .ref c) (hmT : (P, X.env.qual ++ "<lambda>") ∈ T) (hu : ∀ p ∈ T, p.1 = P → p.2 = X.env.qual ++ "<lambda>") (hr : Room (k + 2) X.A) (L : LamS X.env.scope scope) (hdef : defaultsOf params X.env = ([], []))
    (hbind : ∀ (q : Str) (cl : List (Str × Addr)) (pm cv ctv : Value), bindArgs (PySem.W.kla_fn "<lambda>" q params body scope cl pm cv ctv) ⟨[], []⟩ = pure [])
    (hbody : ∀ (A : Around) (outer : List Env) (s : Shared) (H : Hp) (E : XK) (f c' : Addr), Room k (A.deeper (lamEnv X scope s.heap.objs.size f c')) → PE (lamCxN X A outer s H E scope f c') body (t E))
    (hdb : (x == ("__debug__" : Str)) = false := by decide) (hd : (a == ("__debug__" : Str)) = false := by decide) (hcd : (a == ("__classdict__" : Str)) = false := by decide) :
    PE X (.Call (.Name x p) [.Lambda params body scope lpos] [] pos) (tLamS T TT t) := by
  refine ⟨fun pins s σ H Q I h => ?_⟩
  obtain ⟨hT, h⟩ := h
  refine wpAny_Call_Name_kw (ld_glob I hg hm ?_ hdb)
  refine PySem.W.callWith_K (h₀ := X.base) I.ok.mod.kin hk ?_ (by rfl) (by rfl)
  show wpAny _ _ (spliced ((false, eval (.Lambda params body scope lpos) X.env) :: backTo pos (starEach [] X.env))) _ _ s
  refine Calls.spliced_cons (lam_make3 I TB hcode hmT hu hT hdef (L.has I.ok) fun f c' pm' ctv H1 s' I1 eN nN T1 hf hfn hfr hco => ?_)
  refine Calls.spliced_nil ⟨I1.kIn, ?_⟩
  have rc : codeAny (model X.prog X.w) X.A (.call (.ref g) ⟨[.ref f], []⟩) (CR C8.CX0 X.stack X.prog X.w H1 s' Q C8.E0) s' := by
    refine run_ofS (N := Ng) (ps := [a]) (us := [.ref f]) (vs := [.ref f]) lk hcg Sg hr I1.env0 (hb s' [.ref f] I1.kIn rfl) (.cons rfl .nil) rfl fun hr' => ?_
    obtain ⟨t', ht', hq'⟩ := hG f c' s' H1 Q (fun E H' Q' => t E σ H' Q') (fun W pn xe E p1 p2 tk hW => pe_actN (i := 0) I1 L hf hfn hfr (hbind _ _ _ _ _) tk hW hr' (fun A outer s H hr2 => hbody A outer s H E f c' hr2) hNg hva hd hcd) hco (h H1 eN nN T1)
    exact ⟨t', ht'.nox, hq'⟩
  refine wpAny_call (codeAny_mono rc fun r s2 hq => ?_)
  cases r with
  | error e => exact (show False from hq).elim
  | ok fl =>
    cases fl with
    | ret u => exact I1.after hq
    | next => exact False.elim hq
    | brk => exact False.elim hq
    | cont => exact False.elim hq
end
end PL
set_option Elab.async false
set_option linter.all false
set_option maxRecDepth 100000
set_option maxHeartbeats 4000000
/-! From the text to the small language: expressions. -/
namespace PL
open PySem PySem.Spec PyProof.Rows L2 LamX
variable [QN]
section
variable {X : Cx} {cls : Nat → Option Addr} {TB : List (Addr × Str)} {E : XK} {EX : Nat → P → Prop} {G : List Fn}
variable {a : Expr} {ta : T} {p p2 pos pos2 : Pos}
theorem FrL.ofRg {K : PySem.W.Frag} {Fz : FzT} {H : Hp} (n : Int) : FrL K Fz H (iota 0 n.toNat) (rgV 0 n) := by
  refine FrL.of (by rw [rgV_length, iota_len]; congr 1; omega) fun i p v h1 h2 => ?_
  have hi : i < n.toNat := by
    have := (List.getElem?_eq_some_iff.mp h1).1
    rw [iota_len] at this
    exact this
  rw [iota_get hi] at h1
  cases h1
  unfold rgV at h2
  rw [List.getElem?_map, List.getElem?_range (by omega)] at h2
  cases h2
  rfl
theorem r_listR (hc : X.calm = true) (hl : Gl X "list") (hml : X.mg "list" = none) (hg : Gl X "range") (hm : X.mg "range" = none) (ha : SE X cls TB E EX G a ta) : SE X cls TB E EX G (.Call (.Name "list" p) [.Call (.Name "range" p2) [a] [] pos2] [] pos) (.blt .listR [ta]) := by
  refine ⟨(pe_listRg hc hl hml (prg_1 hg hm ha.lo (ha.star [])) rfl).imp fun σ H Q ⟨ρ, Fz, fp, P', st, hw, k⟩ => ?_, (fun i z => nomatch z), fun _ => rfl⟩
  have hw : opd ta (w G EX ta) ρ (fun o ρ1 => vwOs ρ1 [o] fun xs => bltS .listR xs fun d => P' d ρ1) := hw
  refine ⟨ρ, Fz, fp, _, st, hw, fun o1 ρ1 v1 H1 Fz1 f1 fp1 q1 s1 ok1 dj1 sb1 => ?_⟩
  obtain ⟨xs, sx, h⟩ := OpdsOk.see (os := [o1]) (f := f1) s1.e ⟨v1, [], f1, [], rfl, by simp, ok1, ⟨rfl, rfl⟩, Dis.nil'⟩ q1
  rcases xs with _ | ⟨x, _ | ⟨y, l⟩⟩
  · exact (show False from h).elim
  · cases x <;> first | exact (show False from h).elim | skip
    case int n =>
      obtain ⟨v, e, s⟩ := sx.one
      cases e
      obtain ⟨⟨h1, h2⟩, hq⟩ : (-(2 ^ 62) ≤ n ∧ n < 2 ^ 20) ∧ P' (.lst (iota 0 n.toNat)) ρ1 := h
      refine ⟨n, s.int, ⟨by omega, by omega, by omega, by omega, by omega⟩, fun q hqn => ?_⟩
      refine fin k s1 hq (.new hqn) (fv := [q]) ⟨q, rgV 0 n, rfl, rfl, upd_same, fun z => (st.step s1).fl q z hqn, (FrL.ofRg n).new hqn⟩ fun a ha => ?_
      have e : a = q := by simpa using ha
      subst e; exact hqn
  · cases x <;> exact (show False from h).elim
theorem r_tupR (hc : X.calm = true) (hl : Gl X "tuple") (hml : X.mg "tuple" = none) (hg : Gl X "range") (hm : X.mg "range" = none) (ha : SE X cls TB E EX G a ta) : SE X cls TB E EX G (.Call (.Name "tuple" p) [.Call (.Name "range" p2) [a] [] pos2] [] pos) (.blt .tupleR [ta]) := by
  refine ⟨(pe_tupRg hc hl hml (prg_1 hg hm ha.lo (ha.star [])) rfl).imp fun σ H Q ⟨ρ, Fz, fp, P', st, hw, k⟩ => ?_, (fun i z => nomatch z), fun _ => rfl⟩
  have hw : opd ta (w G EX ta) ρ (fun o ρ1 => vwOs ρ1 [o] fun xs => bltS .tupleR xs fun d => P' d ρ1) := hw
  refine ⟨ρ, Fz, fp, _, st, hw, fun o1 ρ1 v1 H1 Fz1 f1 fp1 q1 s1 ok1 dj1 sb1 => ?_⟩
  obtain ⟨xs, sx, h⟩ := OpdsOk.see (os := [o1]) (f := f1) s1.e ⟨v1, [], f1, [], rfl, by simp, ok1, ⟨rfl, rfl⟩, Dis.nil'⟩ q1
  rcases xs with _ | ⟨x, _ | ⟨y, l⟩⟩
  · exact (show False from h).elim
  · cases x <;> first | exact (show False from h).elim | skip
    case int n =>
      obtain ⟨v, e, s⟩ := sx.one
      cases e
      obtain ⟨⟨h1, h2⟩, hq⟩ : (-(2 ^ 62) ≤ n ∧ n < 2 ^ 20) ∧ P' (.p (.tup (iota 0 n.toNat))) ρ1 := h
      refine ⟨n, s.int, ⟨by omega, by omega, by omega, by omega, by omega⟩, fun q hqn => ?_⟩
      exact fin k s1 hq (.new hqn) (fv := []) ⟨rfl, q, rgV 0 n, rfl, .of upd_same, (FrL.ofRg n).new hqn⟩ fun _ z => nomatch z
  · cases x <;> exact (show False from h).elim
end
/-! ### what is known of the names -/
structure SV where
  N : List Str
  sc : Scope
  FN : List (Str × Nat)
  CN : List (Str × Int)
  CO : List (Str × Nat)
  all : Bool
  HR : List (Str × List (Nat × Str)) := []
def bltNames : List Str := ["len", "max", "min", "int", "bool", "str", "abs", "tuple", "list", "sorted", "sum", "any", "all", "isinstance", "range", "enumerate", "zip", "dict", "set"]
def SV.slot (S : SV) (x : Str) : Option Nat :=
  let i := S.N.findIdx fun y => y == x
  if S.N[i]? = some x ∧ x ≠ "__debug__" ∧ x ≠ "__classdict__" then some i else none
def SV.kind (S : SV) (x : Str) : Option NameKind := S.sc.names.lookup x
def SV.vis (S : SV) (x : Str) : Bool :=
  match S.kind x with
  | some .local | some .cell | some .free => true
  | _ => false
def SV.sto (S : SV) (x : Str) : Bool :=
  match S.kind x with
  | some .local => true
  | some .cell => S.all
  | _ => false
def SV.gl (S : SV) (x : Str) : Bool :=
  match S.kind x with
  | some .globalImplicit => decide (x ≠ "__debug__" ∧ x ≠ "__name__")
  | _ => false
def SV.bl (S : SV) (x : Str) : Bool := S.gl x && decide (x ∈ bltNames)
def SV.blk (S : SV) (scope : Scope) : SV := { S with sc := relS scope S.sc, all := false }
def SV.lam (S : SV) (scope : Scope) : SV := { S with sc := scope, all := false, HR := [] }
/-- x is a def that hears: what is known of it -/
def HearF (K : PySem.W.Frag) (mg : Str → Option Value) (cls : Nat → Option Addr) (x : Str) (tab : List (Nat × Str)) : Prop :=
  ∃ (g R : Addr) (pg : Arguments) (bg : List Stmt) (sg : Scope) (dV kV doc pm cdv ct oc : Value) (an od : Option Addr) (osl : Array (Option Value)) (Ng names : List Str) (a rf r sm n1 n2 : Str) (sc : Scope),
    mg x = some (.ref g) ∧ PySem.W.keepIn K (.ref g) = true ∧ K.lookup g = some ⟨oc, od, .func (PySem.W.fnOf x x pg bg sg dV kV doc pm an cdv ct), osl⟩ ∧ PySem.W.codeIn K cdv x = true ∧ L2.Binds K (PySem.W.fnOf x x pg bg sg dV kV doc pm an cdv ct) [a] [] ∧ FnScope Ng [a] sg ∧
    heardP bg = some (a, rf, r, sm, n1, n2, names, sc) ∧ HeardOk sg Ng mg a rf r sm n1 n2 names sc ∧ mg "isinstance" = none ∧ mg rf = some (.ref R) ∧ ∀ c n C, tab.lookup c = some n → cls c = some C → IsH K mg (.ref R) names C n
/-- where the lambdas of this def stand -/
def LamF (X : Cx) (TB : List (Addr × Str)) : Prop := ∃ c P, TabB X.base X.mg c P ∧ X.env.code = .ref c ∧ (P, X.env.qual ++ "<lambda>") ∈ TB ∧ ∀ p ∈ TB, p.1 = P → p.2 = X.env.qual ++ "<lambda>"
/-- what a context of such names is to keep -/
structure Ctx (S : SV) (X : Cx) (cls : Nat → Option Addr) (TB : List (Addr × Str)) (E : XK) (G : List Fn) : Prop where
  calm : X.calm = true
  eN : X.N = S.N
  nd : X.N.Nodup
  sc : X.env.scope = S.sc
  hu : X.A.units + 64 < cLine
  fns : ∀ x f, S.FN.lookup x = some f → ∃ g k fa fd ps, G[f]? = some g ∧ FnOk X.prog X.w X.K X.mg X.base (L2N.CX X.prog X.w) k fa fd ps (spOf X.K cls TB g) ∧ Room k X.A ∧ X.mg x = some (.ref fa) ∧ PySem.W.keepIn X.K (.ref fa) = true ∧ Binds X.K fd ps []
  cn : ∀ x i, S.CN.lookup x = some i → ∃ u, X.mg x = some (.int i u)
  bl : ∀ x ∈ bltNames, X.mg x = none
  pas : Passes (L2N.CX X.prog X.w) X E
  fn : ∀ x, S.sto x = true → X.fn x = true ∨ X.env.scope.names.lookup x = some .local
  hrs : ∀ x tab, S.HR.lookup x = some tab → HearF X.K X.mg cls x tab ∧ LamF X TB ∧ ∃ k, Room (k + 2) X.A ∧ ∀ y f, S.FN.lookup y = some f → ∃ g fa fd ps, G[f]? = some g ∧ FnOk X.prog X.w X.K X.mg X.base (L2N.CX X.prog X.w) k fa fd ps (spOf X.K cls TB g) ∧ X.mg y = some (.ref fa) ∧ PySem.W.keepIn X.K (.ref fa) = true ∧ Binds X.K fd ps []
section
variable {S : SV} {X : Cx} {cls : Nat → Option Addr} {TB : List (Addr × Str)} {E : XK} {EX : Nat → P → Prop} {G : List Fn}
theorem slot_ok {x : Str} {i : Nat} (c : Ctx S X cls TB E G) (h : S.slot x = some i) : X.N[i]? = some x ∧ (x == ("__debug__" : Str)) = false ∧ (x == ("__classdict__" : Str)) = false := by
  unfold SV.slot at h
  simp only at h
  split at h
  · rename_i q
    cases h
    exact ⟨by rw [c.eN]; exact q.1, by simpa using q.2.1, by simpa using q.2.2⟩
  · cases h
theorem vis_ok {x : Str} (c : Ctx S X cls TB E G) (h : S.vis x = true) : Vis X.env.scope x := by
  unfold SV.vis SV.kind at h
  unfold Vis
  rw [c.sc]
  split at h
  · rename_i q; exact .inl q
  · rename_i q; exact .inr (.inl q)
  · rename_i q; exact .inr (.inr q)
  · cases h
theorem loc_ok {x : Str} (c : Ctx S X cls TB E G) (h : S.sto x = true) : L2.Loc X.env.scope x := by
  unfold SV.sto SV.kind at h
  unfold L2.Loc
  rw [c.sc]
  split at h
  · rename_i q; exact .inl q
  · rename_i q; exact .inr q
  · cases h
theorem gl_ok {x : Str} (c : Ctx S X cls TB E G) (h : S.gl x = true) : Gl X x ∧ (x == ("__debug__" : Str)) = false ∧ x ≠ "__name__" := by
  unfold SV.gl SV.kind at h
  split at h
  · rename_i q
    have h := of_decide_eq_true h
    exact ⟨by show X.env.scope.names.lookup x = _; rw [c.sc]; exact q, by simpa using h.1, h.2⟩
  · cases h
theorem bl_ok {x : Str} (c : Ctx S X cls TB E G) (h : S.bl x = true) : Gl X x ∧ X.mg x = none ∧ (x == ("__debug__" : Str)) = false ∧ x ≠ "__name__" := by
  unfold SV.bl at h
  rw [Bool.and_eq_true] at h
  obtain ⟨h1, h2⟩ := h
  obtain ⟨a, b, d⟩ := gl_ok c h1
  exact ⟨a, c.bl x (of_decide_eq_true h2), b, d⟩
theorem fn_ok {x : Str} {f : Nat} (c : Ctx S X cls TB E G) (hg : S.gl x = true) (h : S.FN.lookup x = some f) : ∃ g, G[f]? = some g ∧ CallOk X cls TB E x g := by
  obtain ⟨g, k, fa, fd, ps, h1, h2, h3, h4, h5, h6⟩ := c.fns x f h
  obtain ⟨a, b, _⟩ := gl_ok c hg
  exact ⟨g, h1, .of h2 h3 a h4 h5 h6 c.pas b⟩
theorem passN {X : Cx} : Passes (L2N.CX X.prog X.w) X E0 := fun _ _ _ _ _ _ _ h => by
  obtain ⟨_, _, _, _, _, _, _, _, _, _, _, _, z⟩ := h
  exact z.elim
/-- within a comprehension -/
theorem Ctx.blk (c : Ctx S X cls TB E G) (s : Shared) (H : Hp) (scope : Scope) (C : Addr) (cl : List (Str × Addr)) (fp : List Addr) : Ctx (S.blk scope) (X.blk s H scope (compEnvC scope cl C X.env) fp) cls TB E0 G where
  calm := c.calm
  eN := c.eN
  nd := c.nd
  sc := by
    show relabel scope X.env = relS scope S.sc
    rw [← c.sc]; rfl
  hu := c.hu
  fns := c.fns
  cn := c.cn
  bl := c.bl
  pas := passN
  hrs := c.hrs
  fn := fun x h => by
    unfold SV.sto SV.kind at h
    refine .inr ?_
    show (relabel scope X.env).names.lookup x = _
    have e : relabel scope X.env = relS scope S.sc := by rw [← c.sc]; rfl
    rw [e]
    split at h
    · rename_i q; exact q
    · cases h
    · cases h
end
end PL
set_option Elab.async false
set_option linter.all false
set_option maxRecDepth 100000
set_option maxHeartbeats 4000000
/-! heard(lambda: e). -/
namespace PL
open PySem PySem.Spec PyProof.Rows L2 LamX
variable [QN]
section
variable {K : PySem.W.Frag} {Fz Fz1 : FzT} {H H1 : Hp} {ρ : Env'} {σ : SL} {fp : List Addr}
theorem frVs_ok : ∀ {is : List Nat} {ρ : Env'} {Fz : FzT} {fp : List Addr} {Q : Env' → Prop}, OwnE K Fz H ρ σ fp → frVs ρ is Q → ∃ ρ' Fz' fp', Q ρ' ∧ Stp K σ fp Fz H ρ' Fz' H fp'
  | [], ρ, Fz, fp, Q, h, q => ⟨ρ, Fz, fp, q, .refl h⟩
  | i :: is, ρ, Fz, fp, Q, h, q => by
    have q : frV ρ i fun _ ρ' => frVs ρ' is Q := q
    have hv : ∃ d, ρ[i]? = some (some d) := by
      unfold frV at q
      cases e : ρ[i]? with
      | none => rw [e] at q; exact q.elim
      | some o => cases o with
        | none => rw [e] at q; exact q.elim
        | some d => exact ⟨d, rfl⟩
    obtain ⟨d, hd⟩ := hv
    obtain ⟨v, f1, h1, _, _⟩ := h.get hd
    have ok : OpdOk K Fz H σ (.late i) v [] := ⟨h1, rfl⟩
    obtain ⟨x, ρ1, Fz1, fp1, q1, r1, e1, s1, _, _⟩ := ok.fr h Dis.nil (Q := fun _ ρ' => frVs ρ' is Q) q
    obtain ⟨ρ2, Fz2, fp2, q2, p2⟩ := frVs_ok e1 q1
    exact ⟨ρ2, Fz2, fp2, q2, (show Stp K σ fp Fz H ρ1 Fz1 H fp1 from ⟨r1.more (by simp), e1, fun a ha => .inl (s1 a ha)⟩).trans p2⟩
theorem OwnE.pOnly : ∀ {ρ : Env'} {σ : SL} {fp : List Addr}, OwnE K Fz H ρ σ fp → OwnE K Fz H (PL.pOnly ρ) σ []
  | [], σ, f, h => ⟨h.1, rfl⟩
  | none :: ρ, σ, f, ⟨x, σ', e, h⟩ => ⟨x, σ', e, OwnE.pOnly h⟩
  | some (.p y) :: ρ, σ, f, ⟨v, σ', f1, f2, e, _, o, h, _⟩ => ⟨v, σ', [], [], e, rfl, ⟨rfl, o.2⟩, OwnE.pOnly h, Dis.nil⟩
  | some (.lst y) :: ρ, σ, f, ⟨v, σ', f1, f2, e, _, o, h, _⟩ => ⟨some v, σ', e, OwnE.pOnly h⟩
  | some (.dic ks y) :: ρ, σ, f, ⟨v, σ', f1, f2, e, _, o, h, _⟩ => ⟨some v, σ', e, OwnE.pOnly h⟩
theorem Reach.ext (e : Ext H H1) : Reach fp Fz H Fz H1 where
  keep := fun a o h _ _ => e a o h
  tabs := fun t p hp => (t p hp).ext e
  fz := fun _ h => h
  fz' := fun _ h => .inl h
  dom := fun a h => e.none h
  live := fun _ h => .inl h
end
/-- the lambda's context -/
theorem Ctx.lam {S : SV} {X : Cx} {cls : Nat → Option Addr} {TB : List (Addr × Str)} {G : List Fn} {E0 : XK} (c : Ctx S X cls TB E0 G) {scope : Scope} (L : LamS X.env.scope scope) {k : Nat}
    (hF : ∀ y f, S.FN.lookup y = some f → ∃ g fa fd ps, G[f]? = some g ∧ FnOk X.prog X.w X.K X.mg X.base (L2N.CX X.prog X.w) k fa fd ps (spOf X.K cls TB g) ∧ X.mg y = some (.ref fa) ∧ PySem.W.keepIn X.K (.ref fa) = true ∧ Binds X.K fd ps [])
    (A : Around) (outer : List Env) (s : Shared) (H : Hp) (E : XK) (f c' : Addr) (hr : Room k (A.deeper (lamEnv X scope s.heap.objs.size f c'))) :
    Ctx (S.lam scope) (lamCxN X A outer s H E scope f c') cls TB E G where
  calm := rfl
  eN := c.eN
  nd := c.nd
  sc := rfl
  hu := hr.units
  fns := fun y f hy => by
    obtain ⟨g, fa, fd, ps, h1, h2, h3, h4, h5⟩ := hF y f hy
    exact ⟨g, k, fa, fd, ps, h1, h2, hr, h3, h4, h5⟩
  cn := c.cn
  bl := c.bl
  pas := L2N.passes_call (L2N.takes_of rfl rfl rfl rfl) fun _ _ _ _ h => h
  fn := fun x h => by
    unfold SV.sto SV.kind at h
    split at h
    · rename_i q
      exact .inr q
    · cases h
    · cases h
  hrs := fun x tab h => by cases h
theorem r_heard {S : SV} {X : Cx} {cls : Nat → Option Addr} {TB : List (Addr × Str)} {E : XK} {EX : Nat → P → Prop} {G : List Fn} (c : Ctx S X cls TB E G) {x : Str} {tab : List (Nat × Str)} {scope : Scope} {body : Expr} {t : T} {caps : List Nat} {p lpos pos : Pos}
    (hg : S.gl x = true) (hx : S.HR.lookup x = some tab) (hl : lamSB S.sc scope = true)
    (hb : ∀ (X' : Cx) (E' : XK) (EX' : Nat → P → Prop), Ctx (S.lam scope) X' cls TB E' G → SE X' cls TB E' EX' G body t) :
    SE X cls TB E EX G (.Call (.Name x p) [.Lambda ⟨[], [], none, [], [], none, []⟩ body scope lpos] [] pos) (.heard tab t caps) := by
  obtain ⟨⟨g, R, pg, bg, sg, dV, kV, doc, pm, cdv, ct, oc, an, od, osl, Ng, names, a, rf, r, sm, n1, n2, sc, m1, m2, m3, m4, m5, m6, m7, m8, m9, m10, m11⟩, ⟨cc, P, TBp, hcode, hmT, hu⟩, k, hr, hF⟩ := c.hrs x tab hx
  obtain ⟨gl, hdb, _⟩ := gl_ok c hg
  have L : LamS X.env.scope scope := lamS_by (by rw [c.sc]; exact hl)
  have eN := m8.N
  have dg := m8.nodbg a List.mem_cons_self
  have main := pe_lamcallS (X := X) (T := TB) (TT := TTh X.K X.mg (.ref R) names) (t := fun E' σ H Q => ∃ EX', LE X.K cls TB E' EX' (w G EX' t) σ H Q) (p := p) (lpos := lpos) (pos := pos) (params := ⟨[], [], none, [], [], none, []⟩) (body := body) (scope := scope) gl m1 m2 m3 m4 m5 m6 (by rw [eN]; rfl) (.inl m8.lc)
    (givesN m7 m8 m9 m10) TBp hcode hmT hu hr L rfl (fun _ _ _ _ _ => rfl)
    (fun A outer s H E' f c' hr' => ⟨fun pins s1 σ H1 Q I ⟨EX', q⟩ => (hb _ E' EX' (c.lam L hF A outer s H E' f c' hr')).pe.run pins s1 σ H1 Q I q⟩) hdb dg.1 dg.2
  refine ⟨main.imp fun σ H Q ⟨ρ, Fz, fp, P', st, hw, kk⟩ => ?_, (fun i z => nomatch z), fun _ => rfl⟩
  obtain ⟨ρ1, Fz1, fp1, hq, s1⟩ := frVs_ok st.own hw
  have st1 := st.step s1
  obtain ⟨eT, hT⟩ := st1.tb
  refine ⟨hT, fun H1 eX nN T1 => ?_⟩
  have r2 : Reach [] Fz1 H Fz1 H1 := ⟨fun a o e _ ht => eX a o e ht, fun _ => by rw [← eT]; exact T1, fun _ e => e, fun _ e => .inl e, nN, fun _ e => .inl e⟩
  have e2 : OwnE X.K Fz1 H1 ρ1 σ fp1 := s1.e.stay r2 Fp.nil Dis.nil'
  have s2 : Stp X.K σ fp Fz H ρ1 Fz1 H1 fp1 := s1.trans (.alloc s1.e r2)
  have st2 := st.step s2
  refine ⟨fun cn xx => ∃ n, tab.lookup cn = some n ∧ P' (.p (.tup [.str n, xx])) ρ1, PL.pOnly ρ1, Fz1, [], _, ⟨e2.pOnly, ?_, st2.tb, st2.fl⟩, hq, ?_⟩
  · -- what was refused
    intro cn xx ⟨n, hn, hp⟩ C d v H3 Fz3 r3 hc hd hv
    refine ⟨C, d, v, n, rfl, rfl, hd, m11 cn n C hn hc, fun H4 q ex hq4 => ?_⟩
    have r4 : Reach [] Fz1 H1 Fz3 H4 := r3.trans Sub.nil (.ext ex)
    have s4 : Stp X.K σ fp Fz H ρ1 Fz3 H4 fp1 := s2.trans (.alloc e2 r4)
    have fr : Fr X.K Fz3 H4 xx v := hv.stay (Reach.ext (fp := []) ex) Fp.nil
    exact kk (.p (.tup [.str n, xx])) ρ1 (.ref q) H4 Fz3 [] fp1 hp s4 ⟨rfl, q, _, rfl, .inl (.of hq4), .str n, [v], rfl, rfl, v, [], rfl, fr, rfl⟩ Dis.nil Sub.nil
  · -- what was told
    intro d ρ' v H3 Fz3 fv fp' hp s3 ov dj sb
    refine ⟨by show 2 ≤ sizeLine; decide, fun q hq3 => ?_⟩
    have r3 : Reach [] Fz1 H1 Fz3 H3 := s3.r
    have rf : Reach [] Fz1 H1 (FzPlus Fz3 fv) H3 := r3.freezeN sb ov.fp
    have r4 : Reach [] Fz1 H1 (FzPlus Fz3 fv) (upd H3 q (.tup [.str "told", v])) := rf.trans Sub.nil (.new hq3)
    have s4 : Stp X.K σ fp Fz H ρ1 (FzPlus Fz3 fv) (upd H3 q (.tup [.str "told", v])) fp1 := s2.trans (.alloc e2 r4)
    have fr : Fr X.K (FzPlus Fz3 fv) (upd H3 q (.tup [.str "told", v])) (frz d) v := (ov.frz (fun _ z => .inl z) fun _ z => .inr z).stay (Reach.new (fp := []) hq3) Fp.nil
    exact kk (.p (.tup [.str "told", frz d])) ρ1 (.ref q) _ _ [] fp1 hp s4 ⟨rfl, q, _, rfl, .inl (.of upd_same), .str "told", [v], rfl, rfl, v, [], rfl, fr, rfl⟩ Dis.nil Sub.nil
end PL
set_option Elab.async false
set_option linter.all false
set_option maxRecDepth 100000
set_option maxHeartbeats 4000000
/-! The translation of expressions. -/
namespace PL
open PySem PySem.Spec PyProof.Rows L2 LamX
variable [QN]
def mapO (f : Expr → Option T) : List Expr → Option (List T)
  | [] => some []
  | e :: es => (f e).bind fun t => (mapO f es).bind fun ts => some (t :: ts)
def noVar : T → Bool
  | .var _ => false
  | _ => true
def noNon : T → Bool
  | .non => false
  | _ => true
def foldB (f : Expr → Option T) (k : T → T → T) : Expr → List Expr → Option T
  | a, [] => f a
  | a, b :: r => (f a).bind fun x => (foldB f k b r).bind fun y => some (k x y)
def nv (f : Expr → Option T) (e : Expr) : Option T := (f e).bind fun t => if noVar t = true then some t else none
/-- a value of and, or: the last is no name -/
def foldV (f : Expr → Option T) (k : T → T → T) : Expr → List Expr → Option T
  | a, [] => nv f a
  | a, b :: r => (f a).bind fun x => (foldV f k b r).bind fun y => some (k x y)
def binO : Operator → Option BOp
  | .Add => some .add
  | .Sub => some .sub
  | .Mult => some .mul
  | .FloorDiv => some .fdiv
  | .Mod => some .mod
  | .Pow => some .pow
  | _ => none
def cmpO : CmpOp → Option COp
  | .Eq => some .eq
  | .NotEq => some .ne
  | .Lt => some .lt
  | .LtE => some .le
  | .Gt => some .gt
  | .GtE => some .ge
  | .In => some .isIn
  | .NotIn => some .notIn
  | _ => none
def isNone : Expr → Bool
  | .Constant .none _ _ => true
  | _ => false
/-- a comparison -/
def trCmp (f : Expr → Option T) : Expr → Option T
  | .Compare a [.Is] [b] _ => if isNone b = true then (f a).bind fun t => some (.isN false t) else none
  | .Compare a [.IsNot] [b] _ => if isNone b = true then (f a).bind fun t => some (.isN true t) else none
  | .Compare a [op] [b] _ => if behindInMarks op b = false then (cmpO op).bind fun o => (f a).bind fun x => (f b).bind fun y => some (.cmp o x y) else none
  | .Compare a [op, op'] [b, c] _ => if lastMarks [op, op'] [b, c] = false then (cmpO op).bind fun o => (cmpO op').bind fun o' => (f a).bind fun x => (f b).bind fun y => (f c).bind fun z => some (.chain o o' x y z) else none
  | _ => none
/-- built-ins of one or two arguments -/
def bltTab : List (Str × Nat × Blt) := [("len", 1, .len), ("max", 2, .max2), ("min", 2, .min2), ("int", 1, .int1), ("bool", 1, .bool1), ("str", 1, .str1), ("abs", 1, .abs1), ("tuple", 1, .tuple1), ("list", 1, .list1), ("sorted", 1, .sorted1), ("sum", 1, .sum1), ("any", 1, .any1), ("all", 1, .all1)]
def bltO (S : SV) (x : Str) (n : Nat) : Option Blt := if S.bl x = true then (bltTab.find? fun q => decide (q.1 = x ∧ q.2.1 = n)).map (·.2.2) else none
def tyO (S : SV) (x : Str) : Option Ty :=
  if S.bl x = true then
    if x = "int" then some .int else if x = "bool" then some .bool else if x = "str" then some .str else if x = "tuple" then some .tuple else if x = "list" then some .list else none
  else none
def isRev : Expr → Bool
  | .Slice none none (some (.UnaryOp .USub (.Constant (.int i) _ _) _)) _ => decide (i = 1)
  | _ => false
def isSlice : Expr → Bool
  | .Slice .. => true
  | _ => false
def partO (f : Expr → Option T) : Option Expr → Option T
  | none => some .non
  | some e => (f e).bind fun t => if noNon t = true then some t else none
/-- range(a) as an argument -/
def isRange1 (S : SV) : Expr → Option Expr
  | .Call (.Name r _) [a] [] _ => if r = "range" ∧ S.bl r = true then some a else none
  | _ => none
def isSet1 (S : SV) : Expr → Option Expr
  | .Call (.Name r _) [a] [] _ => if r = "set" ∧ S.bl r = true then some a else none
  | _ => none
/-- a built-in of one argument -/
def trOne (fx : Expr → Option T) (S : SV) (f : Str) (a : Expr) : Option T :=
  match isSet1 S a with
  | some b => if f = "len" ∧ S.bl f = true then (fx b).bind fun t => some (.blt .lenset [t]) else none
  | none => (bltO S f 1).bind fun o => (fx a).bind fun t => some (.blt o [t])
def mthO (m : Str) (n : Nat) : Option Mth :=
  if m = "append" then (if n = 1 then some .append else none)
  else if m = "extend" then (if n = 1 then some .extend else none)
  else if m = "pop" then (if n = 0 then some .pop else if n = 1 then some .popAt else none)
  else none
mutual
def trTg (S : SV) : Expr → Option Tg
  | .Name x _ => if S.sto x = true then (S.slot x).bind fun i => some (.name i) else none
  | .Tuple es _ _ => (trTgs S es).bind fun ts => some (.tup ts)
  | _ => none
def trTgs (S : SV) : List Expr → Option (List Tg)
  | [] => some []
  | e :: es => (trTg S e).bind fun t => (trTgs S es).bind fun ts => some (t :: ts)
end
def isTup : Expr → Bool
  | .Tuple .. => true
  | _ => false
def isSet : Expr → Bool
  | .Set .. => true
  | _ => false
/-- what a loop walks -/
def trIt (f : Expr → Option T) (S : SV) (tg : Expr) (e : Expr) : Option (ItK × List T) :=
  match e with
  | .Call (.Name x _) [a] [] _ =>
    if x = "range" ∧ S.bl x = true then (f a).bind fun t => some (.rng1, [t])
    else if x = "enumerate" ∧ S.bl x = true ∧ isTup tg = true then (f a).bind fun t => some (.enum, [t])
    else (f e).bind fun t => some (.seq, [t])
  | .Call (.Name x _) [a, b] [] _ =>
    if x = "range" ∧ S.bl x = true then (f a).bind fun t => (f b).bind fun u => some (.rng2, [t, u])
    else if x = "zip" ∧ S.bl x = true ∧ isTup tg = true then (f a).bind fun t => (f b).bind fun u => some (.zip, [t, u])
    else (f e).bind fun t => some (.seq, [t])
  | e => if isSet e = true then none else (f e).bind fun t => some (.seq, [t])
/-- a comprehension's own names, with their slots -/
def ownOf (S : SV) (scope : Scope) : List (Str × Nat) :=
  scope.names.filterMap fun y => match y.2 with
    | .local | .cell => (S.slot y.1).map fun i => (y.1, i)
    | _ => none
def condO (f : Expr → Option T) : List Expr → Option T
  | [] => some (.bl true)
  | [c] => f c
  | _ => none
/-- a lambda without parameters -/
def isLam (S : SV) : Expr → Option (Expr × Scope)
  | .Lambda ⟨[], [], none, [], [], none, []⟩ body scope _ => if lamSB S.sc scope = true then some (body, scope) else none
  | _ => none
def capsO (S : SV) (sc : Scope) : List Nat := sc.names.filterMap fun y => match y.2 with
  | .free => S.slot y.1
  | _ => none
/-- expressions (b: as a test) -/
def trX : Nat → Bool → SV → Expr → Option T
  | 0, _, _, _ => none
  | n + 1, true, S, e => match e with
    | .BoolOp .And (a :: rest) _ => foldB (trX n true S) .and a rest
    | .BoolOp .Or (a :: rest) _ => foldB (trX n true S) .or a rest
    | .UnaryOp .Not a _ => (trX n true S a).bind fun t => some (.not t)
    | .Compare a ops cs p => trCmp (trX n false S) (.Compare a ops cs p)
    | .Name x p => (trX n false S (.Name x p)).bind fun t => some (.tru t)
    | .Call g es ks p => (trX n false S (.Call g es ks p)).bind fun t => some (.tru t)
    | .Subscript a b p => (trX n false S (.Subscript a b p)).bind fun t => some (.tru t)
    | _ => none
  | n + 1, false, S, e => match e with
    | .Name x _ => if S.vis x = true then (S.slot x).bind fun i => some (.var i)
      else if S.gl x = true then (S.CN.lookup x).bind fun i => some (.int i) else none
    | .Constant c _ _ => match c with
      | .int i => some (.int i)
      | .bool b => some (.bl b)
      | .none => some .non
      | .str x => some (.str x)
      | _ => none
    | .BinOp a op b _ => (binO op).bind fun o => (trX n false S a).bind fun x => (trX n false S b).bind fun y => some (.bin o x y)
    | .UnaryOp .USub a _ => (trX n false S a).bind fun t => some (.neg t)
    | .UnaryOp .Not a _ => (trX n false S a).bind fun t => some (.not t)
    | .Compare a ops cs p => trCmp (trX n false S) (.Compare a ops cs p)
    | .BoolOp .And (a :: b :: rest) _ => foldV (trX n false S) .and a (b :: rest)
    | .BoolOp .Or (a :: b :: rest) _ => foldV (trX n false S) .or a (b :: rest)
    | .IfExp c a b _ => (trX n true S c).bind fun z => (trX n false S a).bind fun x => (trX n false S b).bind fun y => some (.ite z x y)
    | .Tuple es _ _ => (mapO (trX n false S) es).bind fun ts => some (.tup ts)
    | .List es _ => (mapO (trX n false S) es).bind fun ts => some (.lst ts)
    | .Dict [] [] _ => some .dic0
    | .Subscript a i _ => (trX n false S a).bind fun x => if isRev i = true then some (.rev x) else match i with
      | .Slice lo hi none _ => (partO (trX n false S) lo).bind fun l => (partO (trX n false S) hi).bind fun h => some (.slc x l h)
      | i => if isSlice i = true then none else (trX n false S i).bind fun y => some (.sub x y)
    | .Call (.Name f _) es [] _ =>
      if S.gl f = true then match S.FN.lookup f with
        | some i => (mapO (trX n false S) es).bind fun ts => some (.call i ts)
        | none => match es with
          | [a] => match S.HR.lookup f with
            | some tab => (isLam S a).bind fun q => (trX n false (S.lam q.2) q.1).bind fun t => some (.heard tab t (capsO S q.2))
            | none => match isRange1 S a with
            | some b => if f = "list" ∧ S.bl f = true then (trX n false S b).bind fun t => some (.blt .listR [t])
              else if f = "tuple" ∧ S.bl f = true then (trX n false S b).bind fun t => some (.blt .tupleR [t])
              else none
            | none => trOne (trX n false S) S f a
          | [a, .Name ty _] => if f = "isinstance" ∧ S.bl f = true then (tyO S ty).bind fun u => (trX n false S a).bind fun t => some (.isi t u)
            else (bltO S f 2).bind fun o => (trX n false S a).bind fun t => (trX n false S (.Name ty ⟨0, 0, 0, 0⟩)).bind fun u => some (.blt o [t, u])
          | [a, b] => (bltO S f 2).bind fun o => (trX n false S a).bind fun t => (trX n false S b).bind fun u => some (.blt o [t, u])
          | _ => none
      else none
    | .Call (.Attribute (.Name x _) m apos) es [] pos => if S.vis x = true ∧ (apos.endLine == pos.line) = true ∧ es.length < 20 then (S.slot x).bind fun i => (mthO m es.length).bind fun o => (mapO (trX n false S) es).bind fun ts => some (.mth o i ts) else none
    | .ListComp elt [⟨tg, iter, ifs, 0⟩] scope _ => let own := ownOf S scope
      if blkC S.N S.sc scope own = true then (trTg (S.blk scope) tg).bind fun tgt => if (nmT tgt).all (fun j => decide (j ∈ own.map (·.2))) = true then
        (trIt (trX n false S) S tg iter).bind fun kt => (condO (trX n true (S.blk scope)) ifs).bind fun c => (trX n false (S.blk scope) elt).bind fun t => some (.lc t tgt kt.1 kt.2 c (own.map (·.2))) else none
      else none
    | _ => none
end PL
set_option Elab.async false
set_option linter.all false
set_option maxRecDepth 100000
set_option maxHeartbeats 8000000
/-! The translation of expressions is sound. -/
namespace PL
open PySem PySem.Spec PyProof.Rows L2
variable [QN]
theorem ob {α β : Type} {o : Option α} {f : α → Option β} {t : β} (h : o.bind f = some t) : ∃ x, o = some x ∧ f x = some t := Option.bind_eq_some_iff.mp h
theorem oite {α : Type} {c : Prop} [Decidable c] {a : Option α} {t : α} (h : (if c then a else none) = some t) : c ∧ a = some t := by
  split at h
  · exact ⟨by assumption, h⟩
  · cases h
section
variable {S : SV} {X : Cx} {cls : Nat → Option Addr} {TB : List (Addr × Str)} {E : XK} {EX : Nat → P → Prop} {G : List Fn} {f : Expr → Option T}
theorem mapO_ok (hf : ∀ e t, f e = some t → SE X cls TB E EX G e t) : ∀ {es : List Expr} {ts : List T}, mapO f es = some ts → SEs X cls TB E EX G es ts
  | [], ts, h => by
    have h : some [] = some ts := h
    cases h
    exact .nil
  | e :: es, ts, h => by
    obtain ⟨t, h1, h⟩ := ob (show (f e).bind _ = some ts from h)
    obtain ⟨ts', h2, h⟩ := ob h
    cases h
    exact .cons (hf e t h1) (mapO_ok hf h2)
theorem cmpO_ok (c : Ctx S X cls TB E G) {op : CmpOp} {o : COp} (h : cmpO op = some o) : CmpOk X op o := by
  have h1 : X.A.units + 1 < cLine := Nat.lt_of_le_of_lt (by omega) c.hu
  cases op <;> cases h
  · exact cmp_eq c.hu
  · exact cmp_ne c.hu
  · exact cmp_lt
  · exact cmp_le
  · exact cmp_gt
  · exact cmp_ge
  · exact cmp_in h1
  · exact cmp_notin h1
theorem isNone_ok {e : Expr} (h : isNone e = true) : ∃ j p, e = .Constant .none j p := by
  unfold isNone at h
  split at h
  · exact ⟨_, _, rfl⟩
  · cases h
theorem trCmp_ok (c : Ctx S X cls TB E G) (hf : ∀ e t, f e = some t → SE X cls TB E EX G e t) {e : Expr} {t : T} (h : trCmp f e = some t) : SE X cls TB E EX G e t ∧ ST X cls TB E EX G e t := by
  unfold trCmp at h
  split at h
  · obtain ⟨h1, h⟩ := oite h
    obtain ⟨j, p, rfl⟩ := isNone_ok h1
    obtain ⟨x, h2, h⟩ := ob h
    cases h
    exact ⟨r_isN (hf _ _ h2), t_isN (hf _ _ h2)⟩
  · obtain ⟨h1, h⟩ := oite h
    obtain ⟨j, p, rfl⟩ := isNone_ok h1
    obtain ⟨x, h2, h⟩ := ob h
    cases h
    exact ⟨r_notN (hf _ _ h2), t_notN (hf _ _ h2)⟩
  · obtain ⟨h1, h⟩ := oite h
    obtain ⟨o, h2, h⟩ := ob h
    obtain ⟨x, h3, h⟩ := ob h
    obtain ⟨y, h4, h⟩ := ob h
    cases h
    exact ⟨r_cmp (cmpO_ok c h2) (hf _ _ h3) (hf _ _ h4) h1, t_cmp (cmpO_ok c h2) (hf _ _ h3) (hf _ _ h4) h1⟩
  · obtain ⟨h1, h⟩ := oite h
    obtain ⟨o, h2, h⟩ := ob h
    obtain ⟨o', h3, h⟩ := ob h
    obtain ⟨x, h4, h⟩ := ob h
    obtain ⟨y, h5, h⟩ := ob h
    obtain ⟨z, h6, h⟩ := ob h
    cases h
    exact ⟨r_chain (cmpO_ok c h2) (cmpO_ok c h3) (hf _ _ h4) (hf _ _ h5) (hf _ _ h6) h1, t_chain (cmpO_ok c h2) (cmpO_ok c h3) (hf _ _ h4) (hf _ _ h5) (hf _ _ h6) h1⟩
  · cases h
theorem binO_ok {op : Operator} {o : BOp} {a b : Expr} {ta tb : T} {pos : Pos} (h : binO op = some o) (ha : SE X cls TB E EX G a ta) (hb : SE X cls TB E EX G b tb) : SE X cls TB E EX G (.BinOp a op b pos) (.bin o ta tb) := by
  cases op <;> cases h
  · exact r_add ha hb
  · exact r_sub ha hb
  · exact r_mul ha hb
  · exact r_mod ha hb
  · exact r_pow ha hb
  · exact r_fdiv ha hb
theorem foldT_and {pos : Pos} (hf : ∀ e t, f e = some t → ST X cls TB E EX G e t) : ∀ {rest : List Expr} {a : Expr} {t : T}, foldB f .and a rest = some t → LTW X cls TB E EX G (.BoolOp .And (a :: rest) pos) t
  | [], a, t, h => t_one (hf _ _ h)
  | b :: r, a, t, h => by
    obtain ⟨x, h1, h⟩ := ob (show (f a).bind _ = some t from h)
    obtain ⟨y, h2, h⟩ := ob h
    cases h
    exact t_and (hf _ _ h1) (foldT_and hf h2)
theorem foldT_or {pos : Pos} (hf : ∀ e t, f e = some t → ST X cls TB E EX G e t) : ∀ {rest : List Expr} {a : Expr} {t : T}, foldB f .or a rest = some t → LTW X cls TB E EX G (.BoolOp .Or (a :: rest) pos) t
  | [], a, t, h => t_one (hf _ _ h)
  | b :: r, a, t, h => by
    obtain ⟨x, h1, h⟩ := ob (show (f a).bind _ = some t from h)
    obtain ⟨y, h2, h⟩ := ob h
    cases h
    exact t_or (hf _ _ h1) (foldT_or hf h2)
theorem nv_ok {e : Expr} {t : T} (h : nv f e = some t) : f e = some t ∧ ∀ i, t ≠ .var i := by
  obtain ⟨x, h1, h⟩ := ob (show (f e).bind _ = some t from h)
  obtain ⟨h2, h⟩ := oite h
  cases h
  exact ⟨h1, fun i z => by subst z; cases h2⟩
theorem foldV_and {pos : Pos} (hf : ∀ e t, f e = some t → SE X cls TB E EX G e t) : ∀ {rest : List Expr} {a : Expr} {t : T}, foldV f .and a rest = some t → SE X cls TB E EX G (.BoolOp .And (a :: rest) pos) t
  | [], a, t, h => by
    obtain ⟨h1, h2⟩ := nv_ok (show nv f a = some t from h)
    exact r_one (hf _ _ h1) h2
  | b :: r, a, t, h => by
    obtain ⟨x, h1, h⟩ := ob (show (f a).bind _ = some t from h)
    obtain ⟨y, h2, h⟩ := ob h
    cases h
    exact r_and (hf _ _ h1) (foldV_and hf h2)
theorem foldV_or {pos : Pos} (hf : ∀ e t, f e = some t → SE X cls TB E EX G e t) : ∀ {rest : List Expr} {a : Expr} {t : T}, foldV f .or a rest = some t → SE X cls TB E EX G (.BoolOp .Or (a :: rest) pos) t
  | [], a, t, h => by
    obtain ⟨h1, h2⟩ := nv_ok (show nv f a = some t from h)
    exact r_one (hf _ _ h1) h2
  | b :: r, a, t, h => by
    obtain ⟨x, h1, h⟩ := ob (show (f a).bind _ = some t from h)
    obtain ⟨y, h2, h⟩ := ob h
    cases h
    exact r_or (hf _ _ h1) (foldV_or hf h2)
theorem partO_ok (hf : ∀ e t, f e = some t → SE X cls TB E EX G e t) {e : Option Expr} {t : T} (h : partO f e = some t) : SEo X cls TB E EX G e t := by
  cases e with
  | none =>
    have h : some T.non = some t := h
    cases h
    exact .no
  | some e =>
    obtain ⟨x, h1, h⟩ := ob (show (f e).bind _ = some t from h)
    obtain ⟨h2, h⟩ := oite h
    cases h
    exact .yes (hf _ _ h1) fun z => by subst z; cases h2
theorem plain_ix {e : Expr} (h : isSlice e = false) : PlainIx e := fun o i => by
  cases e <;> first | rfl | cases h
mutual
theorem trTg_ok (c : Ctx S X cls TB E G) : ∀ {e : Expr} {t : Tg}, trTg S e = some t → PG X e (gT X.K t) := by
  intro e t h
  cases e <;> first | (cases h; done) | skip
  case Name x p =>
    obtain ⟨h1, h⟩ := oite (show (if S.sto x = true then _ else none) = some t from h)
    obtain ⟨i, h2, h⟩ := ob h
    cases h
    exact pg_name c.nd (slot_ok c h2).1 (loc_ok c h1) (c.fn x h1)
  case Tuple es k p =>
    obtain ⟨ts, h1, h⟩ := ob (show (trTgs S es).bind _ = some t from h)
    cases h
    obtain ⟨g1, g2, g3⟩ := trTgs_ok c h1
    exact pg_tup c.calm g1 g2 g3
theorem trTgs_ok (c : Ctx S X cls TB E G) : ∀ {es : List Expr} {ts : List Tg}, trTgs S es = some ts → PGs X es (gTs X.K ts) ∧ (assignEach es X.env).length = ts.length ∧ (assignEach es X.env).findIdx? (·.1) = none
  | [], ts, h => by
    have h : some [] = some ts := h
    cases h
    exact ⟨pgs_nil, rfl, rfl⟩
  | e :: es, ts, h => by
    obtain ⟨t, h1, h⟩ := ob (show (trTg S e).bind _ = some ts from h)
    obtain ⟨ts', h2, h⟩ := ob h
    cases h
    have g := trTg_ok c h1
    obtain ⟨g1, g2, g3⟩ := trTgs_ok c h2
    have hs : assignEach (e :: es) X.env = (false, assign e X.env) :: assignEach es X.env := by
      cases e <;> first | rfl | (cases h1; done)
    refine ⟨pgs_cons g g1 (by rw [hs]; rfl), by rw [hs, List.length_cons, g2]; rfl, ?_⟩
    rw [hs, List.findIdx?_cons, g3]
    rfl
end
end
end PL
set_option Elab.async false
set_option linter.all false
set_option maxRecDepth 100000
set_option maxHeartbeats 8000000
/-! The translation of expressions is sound: the parts, the whole. -/
namespace PL
open PySem PySem.Spec PyProof.Rows L2
variable [QN]
section
variable {S : SV} {X : Cx} {cls : Nat → Option Addr} {TB : List (Addr × Str)} {E : XK} {EX : Nat → P → Prop} {G : List Fn} {f : Expr → Option T}
theorem isSet_fold {e : Expr} {env : Env} (h : isSet e = false) : ∀ x, foldedSetIterable e env x = pure x := fun x => by
  cases e <;> first | rfl | cases h
theorem isTup_ok {e : Expr} (h : isTup e = true) : ∃ es k p, e = .Tuple es k p := by
  cases e <;> first | exact ⟨_, _, _, rfl⟩ | cases h
theorem trIt_ok (c : Ctx S X cls TB E G) (hf : ∀ e t, f e = some t → SE X cls TB E EX G e t) {tg e : Expr} {k : ItK} {ts : List T} (h : trIt f S tg e = some (k, ts)) : ItOk X cls TB E EX G tg e k ts := by
  unfold trIt at h
  split at h
  · rename_i x p a pos
    split at h
    · rename_i q
      obtain ⟨q1, q2⟩ := q
      subst q1
      obtain ⟨t, h1, h⟩ := ob h
      cases h
      obtain ⟨g, m, _⟩ := bl_ok c q2
      exact it_rng1 g m (hf _ _ h1)
    · split at h
      · rename_i q
        obtain ⟨q1, q2, q3⟩ := q
        subst q1
        obtain ⟨es, kk, tp, rfl⟩ := isTup_ok q3
        obtain ⟨t, h1, h⟩ := ob h
        cases h
        obtain ⟨g, m, _⟩ := bl_ok c q2
        exact it_enum g m (hf _ _ h1)
      · obtain ⟨t, h1, h⟩ := ob h
        cases h
        exact it_seq (hf _ _ h1) fun _ => rfl
  · rename_i x p a b pos
    split at h
    · rename_i q
      obtain ⟨q1, q2⟩ := q
      subst q1
      obtain ⟨t, h1, h⟩ := ob h
      obtain ⟨u, h2, h⟩ := ob h
      cases h
      obtain ⟨g, m, _⟩ := bl_ok c q2
      exact it_rng2 g m (hf _ _ h1) (hf _ _ h2)
    · split at h
      · rename_i q
        obtain ⟨q1, q2, q3⟩ := q
        subst q1
        obtain ⟨es, kk, tp, rfl⟩ := isTup_ok q3
        obtain ⟨t, h1, h⟩ := ob h
        obtain ⟨u, h2, h⟩ := ob h
        cases h
        obtain ⟨g, m, _⟩ := bl_ok c q2
        exact it_zip g m (hf _ _ h1) (hf _ _ h2)
      · obtain ⟨t, h1, h⟩ := ob h
        cases h
        exact it_seq (hf _ _ h1) fun _ => rfl
  · split at h
    · cases h
    · rename_i q
      obtain ⟨t, h1, h⟩ := ob h
      cases h
      exact it_seq (hf _ _ h1) (isSet_fold (by simpa using q))
theorem tyO_ok (c : Ctx S X cls TB E G) {x : Str} {t : Ty} (h : tyO S x = some t) : Gl X x ∧ X.mg x = none ∧ bootBuiltins x = some (.type (tyN t)) ∧ x ≠ "__name__" ∧ (x == ("__debug__" : Str)) = false := by
  unfold tyO at h
  obtain ⟨hb, q⟩ := oite h
  clear h
  obtain ⟨g, m, d, n⟩ := bl_ok c hb
  refine ⟨g, m, ?_, n, d⟩
  split at q
  · rename_i e; subst e; cases q; decide +kernel
  · split at q
    · rename_i e; subst e; cases q; decide +kernel
    · split at q
      · rename_i e; subst e; cases q; decide +kernel
      · split at q
        · rename_i e; subst e; cases q; decide +kernel
        · split at q
          · rename_i e; subst e; cases q; decide +kernel
          · cases q
/-- a built-in by its name -/
def BltN (X : Cx) (x : Str) (o : Blt) : Prop := Gl X x ∧ X.mg x = none ∧ x ≠ "__name__" ∧ (x == ("__debug__" : Str)) = false ∧ ((∃ id, bootBuiltins x = some (.builtin id) ∧ BltOk X (.builtin id) o) ∨ ∃ id, bootBuiltins x = some (.type id) ∧ BltOk X (.type id) o)
theorem bltO_ok (c : Ctx S X cls TB E G) {x : Str} {n : Nat} {o : Blt} (h : bltO S x n = some o) : BltN X x o ∧ (n = 1 ∨ n = 2) := by
  unfold bltO at h
  obtain ⟨hb, q⟩ := oite h
  clear h
  obtain ⟨g, m, d, nn⟩ := bl_ok c hb
  have B : ∀ {id : String}, bootBuiltins x = some (.builtin id) → BltOk X (.builtin id) o → BltN X x o := fun h1 h2 => ⟨g, m, nn, d, .inl ⟨_, h1, h2⟩⟩
  have Ty : ∀ {id : String}, bootBuiltins x = some (.type id) → BltOk X (.type id) o → BltN X x o := fun h1 h2 => ⟨g, m, nn, d, .inr ⟨_, h1, h2⟩⟩
  obtain ⟨y, hy, q3⟩ := Option.map_eq_some_iff.mp q
  clear q
  have hm := List.mem_of_find?_eq_some hy
  have hp : y.1 = x ∧ y.2.1 = n := by
    have hp := List.find?_some hy
    exact of_decide_eq_true hp
  obtain ⟨y1, y2, y3⟩ := y
  obtain ⟨e1, e2⟩ := hp
  simp only at e1 e2 q3
  subst e1 e2 q3
  simp only [bltTab, List.mem_cons, Prod.mk.injEq, List.not_mem_nil, or_false] at hm
  rcases hm with ⟨e1, e2, e3⟩ | ⟨e1, e2, e3⟩ | ⟨e1, e2, e3⟩ | ⟨e1, e2, e3⟩ | ⟨e1, e2, e3⟩ | ⟨e1, e2, e3⟩ | ⟨e1, e2, e3⟩ | ⟨e1, e2, e3⟩ | ⟨e1, e2, e3⟩ | ⟨e1, e2, e3⟩ | ⟨e1, e2, e3⟩ | ⟨e1, e2, e3⟩ | ⟨e1, e2, e3⟩ <;> subst e1 e2 e3
  · exact ⟨B (id := "len") (by decide +kernel) blt_len, .inl rfl⟩
  · exact ⟨B (id := "max") (by decide +kernel) (blt_max2 c.calm), .inr rfl⟩
  · exact ⟨B (id := "min") (by decide +kernel) (blt_min2 c.calm), .inr rfl⟩
  · exact ⟨Ty (id := "int") (by decide +kernel) blt_int1, .inl rfl⟩
  · exact ⟨Ty (id := "bool") (by decide +kernel) blt_bool1, .inl rfl⟩
  · exact ⟨Ty (id := "str") (by decide +kernel) blt_str1, .inl rfl⟩
  · exact ⟨B (id := "abs") (by decide +kernel) blt_abs1, .inl rfl⟩
  · exact ⟨Ty (id := "tuple") (by decide +kernel) blt_tuple1, .inl rfl⟩
  · exact ⟨Ty (id := "list") (by decide +kernel) (blt_list1 c.calm), .inl rfl⟩
  · exact ⟨B (id := "sorted") (by decide +kernel) (blt_sorted1 c.calm), .inl rfl⟩
  · exact ⟨B (id := "sum") (by decide +kernel) (blt_sum1 c.calm), .inl rfl⟩
  · exact ⟨B (id := "any") (by decide +kernel) (blt_any1 c.calm), .inl rfl⟩
  · exact ⟨B (id := "all") (by decide +kernel) (blt_all1 c.calm), .inl rfl⟩
theorem blt_call {x : Str} {o : Blt} {e : Expr} {es : List Expr} {ts : List T} {p pos : Pos} (h : BltN X x o) (hs : SEs X cls TB E EX G (e :: es) ts) : SE X cls TB E EX G (.Call (.Name x p) (e :: es) [] pos) (.blt o ts) := by
  obtain ⟨g, m, n, d, ⟨id, h1, h2⟩ | ⟨id, h1, h2⟩⟩ := h
  · exact r_blt h2 g m h1 n d hs
  · exact r_bltT h2 g m h1 n d hs
theorem mth_call (c : Ctx S X cls TB E G) {x m : Str} {i : Nat} {o : Mth} {es : List Expr} {ts : List T} {p apos pos : Pos} (hv : S.vis x = true) (hl : (apos.endLine == pos.line) = true) (hn : es.length < 20) (hi : S.slot x = some i) (ho : mthO m es.length = some o) (hs : SEs X cls TB E EX G es ts) :
    SE X cls TB E EX G (.Call (.Attribute (.Name x p) m apos) es [] pos) (.mth o i ts) := by
  obtain ⟨s1, s2, s3⟩ := slot_ok c hi
  have v := vis_ok c hv
  have hfew : ∀ {e : Expr} {es' : List Expr}, es = e :: es' → ((backTo pos (starEach (e :: es') X.env)).all (fun x => !x.1) && (backToKw pos (keywordEach [] X.env)).all (fun x => x.1.isSome)
      && decide ((e :: es').length + ([] : List Keyword).length + (if ([] : List Keyword).isEmpty then 0 else 1) < 30)) = true := fun {e es'} ee => by
    subst ee
    rw [hs.plain', Bool.true_and]
    have h2 : (backToKw pos (keywordEach [] X.env)).all (fun x => x.1.isSome) = true := rfl
    rw [h2, Bool.true_and]
    refine decide_eq_true ?_
    show (e :: es').length + 0 + 0 < 30
    omega
  unfold mthO at ho
  split at ho
  · rename_i e; subst e
    obtain ⟨hl1, ho⟩ := oite ho
    cases ho
    cases es with
    | nil => simp at hl1
    | cons e es' => exact r_mth mth_append s1 v s2 s3 PySem.F.slot_list_append PySem.F.type_list_append hs (hfew rfl) hl
  split at ho
  · rename_i e; subst e
    obtain ⟨hl1, ho⟩ := oite ho
    cases ho
    cases es with
    | nil => simp at hl1
    | cons e es' => exact r_mth mth_extend s1 v s2 s3 PySem.F.slot_list_extend PySem.F.type_list_extend hs (hfew rfl) hl
  split at ho
  · rename_i e; subst e
    split at ho
    · rename_i h0
      cases ho
      have e0 := List.eq_nil_of_length_eq_zero h0
      subst e0
      cases hs
      exact r_mth0 mth_pop s1 v s2 s3 PySem.F.slot_list_pop PySem.F.type_list_pop hl rfl
    · obtain ⟨hl1, ho⟩ := oite ho
      cases ho
      cases es with
      | nil => simp at hl1
      | cons e es' => exact r_mth mth_popAt s1 v s2 s3 PySem.F.slot_list_pop PySem.F.type_list_pop hs (hfew rfl) hl
  cases ho
theorem isRev_ok {e : Expr} (h : isRev e = true) : ∃ k p1 p2 p3, e = .Slice none none (some (.UnaryOp .USub (.Constant (.int 1) k p1) p2)) p3 := by
  unfold isRev at h
  split at h
  · have h := of_decide_eq_true h
    subst h
    exact ⟨_, _, _, _, rfl⟩
  · cases h
theorem isRange1_ok (c : Ctx S X cls TB E G) {e b : Expr} (h : isRange1 S e = some b) : ∃ p pos, e = .Call (.Name "range" p) [b] [] pos ∧ Gl X "range" ∧ X.mg "range" = none := by
  unfold isRange1 at h
  split at h
  · obtain ⟨⟨h1, h2⟩, h⟩ := oite h
    cases h
    subst h1
    obtain ⟨g, m, _⟩ := bl_ok c h2
    exact ⟨_, _, rfl, g, m⟩
  · cases h
theorem isSet1_ok (c : Ctx S X cls TB E G) {e b : Expr} (h : isSet1 S e = some b) : ∃ p pos, e = .Call (.Name "set" p) [b] [] pos ∧ Gl X "set" ∧ X.mg "set" = none := by
  unfold isSet1 at h
  split at h
  · obtain ⟨⟨h1, h2⟩, h⟩ := oite h
    cases h
    subst h1
    obtain ⟨g, m, _⟩ := bl_ok c h2
    exact ⟨_, _, rfl, g, m⟩
  · cases h
theorem trOne_ok (c : Ctx S X cls TB E G) {fx : Expr → Option T} (hf : ∀ e t, fx e = some t → SE X cls TB E EX G e t) {f : Str} {a : Expr} {t : T} {p pos : Pos} (h : trOne fx S f a = some t) : SE X cls TB E EX G (.Call (.Name f p) [a] [] pos) t := by
  unfold trOne at h
  split at h
  · rename_i b hb
    obtain ⟨⟨h1, h2⟩, h⟩ := oite h
    obtain ⟨u, h3, h⟩ := ob h
    cases h
    subst h1
    obtain ⟨p2, pos2, ea, gs, ms⟩ := isSet1_ok c hb
    subst ea
    obtain ⟨g, m, _⟩ := bl_ok c h2
    exact r_lenset c.calm g m gs ms (hf _ _ h3)
  · obtain ⟨o, h1, h⟩ := ob h
    obtain ⟨x, h2, h⟩ := ob h
    cases h
    exact blt_call (bltO_ok c h1).1 (.cons (hf _ _ h2) .nil)
end
end PL
set_option Elab.async false
set_option linter.all false
set_option maxRecDepth 100000
set_option maxHeartbeats 8000000
/-! The translation of expressions is sound: the whole. -/
namespace PL
open PySem PySem.Spec PyProof.Rows L2 LamX
variable [QN]
theorem trX_pos {n : Nat} {S : SV} {x : Str} {p q : Pos} : trX n false S (.Name x p) = trX n false S (.Name x q) := by
  cases n <;> rfl
theorem ownOf_slots {S : SV} {scope : Scope} : True := True.intro
theorem condO_ok {X : Cx} {cls : Nat → Option Addr} {TB : List (Addr × Str)} {E : XK} {EX : Nat → P → Prop} {G : List Fn} {f : Expr → Option T} (hf : ∀ e t, f e = some t → ST X cls TB E EX G e t) {es : List Expr} {t : T} (h : condO f es = some t) : SCond X cls TB E EX G es t := by
  unfold condO at h
  split at h
  · cases h; exact .nil
  · exact .one (hf _ _ h)
  · cases h
/-- a comprehension's parts -/
theorem lc_parts {n : Nat} {S : SV} {X : Cx} {cls : Nat → Option Addr} {TB : List (Addr × Str)} {E : XK} {EX : Nat → P → Prop} {G : List Fn} (c : Ctx S X cls TB E G) (ihE : ∀ e t, trX n false S e = some t → SE X cls TB E EX G e t)
    (ih : ∀ (S : SV) (X : Cx) (E : XK) (EX : Nat → P → Prop), Ctx S X cls TB E G → (∀ e t, trX n false S e = some t → SE X cls TB E EX G e t) ∧ (∀ e t, trX n true S e = some t → ST X cls TB E EX G e t))
    {elt : Expr} {gens : List Comprehension} {scope : Scope} {pos : Pos} {t : T} (h : trX (n + 1) false S (.ListComp elt gens scope pos) = some t) :
    ∃ tg iter ifs own tgt k ts cc te, gens = [⟨tg, iter, ifs, 0⟩] ∧ t = .lc te tgt k ts cc (own.map (·.2)) ∧ ItOk X cls TB E EX G tg iter k ts ∧ BlkOk X.N X.env.scope scope own ∧ (∀ j ∈ nmT tgt, j ∈ own.map (·.2)) ∧
      (∀ (s : Shared) (H : Hp) (C : Addr) (cl : List (Str × Addr)) (fp : List Addr), PG (X.blk s H scope (compEnvC scope cl C X.env) fp) tg (gT X.K tgt)) ∧
      (∀ (s : Shared) (H : Hp) (C : Addr) (cl : List (Str × Addr)) (fp : List Addr), SCond (X.blk s H scope (compEnvC scope cl C X.env) fp) cls TB E0 EX0 G ifs cc) ∧
      ∀ (s : Shared) (H : Hp) (C : Addr) (cl : List (Str × Addr)) (fp : List Addr), SE (X.blk s H scope (compEnvC scope cl C X.env) fp) cls TB E0 EX0 G elt te := by
  rcases gens with _ | ⟨⟨tg, iter, ifs, ⟨_ | a⟩ | a⟩, _ | ⟨g2, gs⟩⟩ <;> first | (cases h; done) | skip
  obtain ⟨hb, h⟩ := oite (show (if blkC S.N S.sc scope (ownOf S scope) = true then (trTg (S.blk scope) tg).bind fun tgt => if (nmT tgt).all (fun j => decide (j ∈ (ownOf S scope).map (·.2))) = true then
    (trIt (trX n false S) S tg iter).bind fun kt => (condO (trX n true (S.blk scope)) ifs).bind fun c => (trX n false (S.blk scope) elt).bind fun t => some (T.lc t tgt kt.1 kt.2 c ((ownOf S scope).map (·.2))) else none else none) = some t from h)
  obtain ⟨tgt, h1, h⟩ := ob h
  obtain ⟨hin, h⟩ := oite h
  obtain ⟨⟨k, ts⟩, h2, h⟩ := ob h
  obtain ⟨cc, h3, h⟩ := ob h
  obtain ⟨te, h4, h⟩ := ob h
  cases h
  rw [List.all_eq_true] at hin
  exact ⟨tg, iter, ifs, ownOf S scope, tgt, k, ts, cc, te, rfl, rfl, trIt_ok c ihE h2, blkOk_by (by rw [c.eN, c.sc]; exact hb), fun j hj => of_decide_eq_true (hin j hj),
    fun s H C cl fp => trTg_ok (c.blk s H scope C cl fp) h1,
    fun s H C cl fp => condO_ok (ih (S.blk scope) _ E0 EX0 (c.blk s H scope C cl fp)).2 h3,
    fun s H C cl fp => (ih (S.blk scope) _ E0 EX0 (c.blk s H scope C cl fp)).1 _ _ h4⟩
theorem isLam_ok {S : SV} {a body : Expr} {scope : Scope} (h : isLam S a = some (body, scope)) : ∃ lpos, a = .Lambda ⟨[], [], none, [], [], none, []⟩ body scope lpos ∧ lamSB S.sc scope = true := by
  unfold isLam at h
  split at h
  · split at h
    · rename_i q
      cases h
      exact ⟨_, rfl, q⟩
    · cases h
  · cases h
theorem trX_ok : ∀ (n : Nat) (S : SV) (X : Cx) (cls : Nat → Option Addr) (TB : List (Addr × Str)) (E : XK) (EX : Nat → P → Prop) (G : List Fn), Ctx S X cls TB E G →
    (∀ e t, trX n false S e = some t → SE X cls TB E EX G e t) ∧ (∀ e t, trX n true S e = some t → ST X cls TB E EX G e t)
  | 0, S, X, cls, TB, E, EX, G, c => ⟨fun e t h => (by cases h), fun e t h => by cases h⟩
  | n + 1, S, X, cls, TB, E, EX, G, c => by
    obtain ⟨ihE, ihT⟩ := trX_ok n S X cls TB E EX G c
    constructor
    · intro e t h
      cases e <;> first | (cases h; done) | skip
      case BoolOp op es pos =>
        rcases es with _ | ⟨a, _ | ⟨b, rest⟩⟩
        · cases op <;> cases h
        · cases op <;> cases h
        · cases op
          · exact foldV_and ihE (show foldV (trX n false S) .and a (b :: rest) = some t from h)
          · exact foldV_or ihE (show foldV (trX n false S) .or a (b :: rest) = some t from h)
      case BinOp a op b pos =>
        obtain ⟨o, h1, h⟩ := ob (show (binO op).bind _ = some t from h)
        obtain ⟨x, h2, h⟩ := ob h
        obtain ⟨y, h3, h⟩ := ob h
        cases h
        exact binO_ok h1 (ihE _ _ h2) (ihE _ _ h3)
      case UnaryOp op a pos =>
        cases op <;> first | (cases h; done) | skip
        case Not =>
          obtain ⟨x, h1, h⟩ := ob (show (trX n false S a).bind _ = some t from h)
          cases h
          exact r_not (ihE _ _ h1)
        case USub =>
          obtain ⟨x, h1, h⟩ := ob (show (trX n false S a).bind _ = some t from h)
          cases h
          exact r_neg (ihE _ _ h1)
      case IfExp cc a b pos =>
        obtain ⟨z, h1, h⟩ := ob (show (trX n true S cc).bind _ = some t from h)
        obtain ⟨x, h2, h⟩ := ob h
        obtain ⟨y, h3, h⟩ := ob h
        cases h
        exact r_ite (ihT _ _ h1) (ihE _ _ h2) (ihE _ _ h3)
      case Dict ks vs pos =>
        cases ks <;> cases vs <;> first | (cases h; done) | skip
        cases h
        exact r_dic0
      case Compare a ops cs pos => exact (trCmp_ok c ihE (show trCmp (trX n false S) (.Compare a ops cs pos) = some t from h)).1
      case Constant k j pos =>
        cases k <;> cases h
        · exact r_non
        · exact r_bl
        · exact r_int
        · exact r_str
      case Name x pos =>
        have h : (if S.vis x = true then (S.slot x).bind fun i => some (T.var i) else if S.gl x = true then (S.CN.lookup x).bind fun i => some (T.int i) else none) = some t := h
        split at h
        · rename_i hv
          obtain ⟨i, h1, h⟩ := ob h
          cases h
          obtain ⟨s1, s2, s3⟩ := slot_ok c h1
          exact r_var s1 (vis_ok c hv) s2 s3
        · obtain ⟨hg, h⟩ := oite h
          obtain ⟨i, h1, h⟩ := ob h
          cases h
          obtain ⟨g, d, _⟩ := gl_ok c hg
          obtain ⟨u, hu⟩ := c.cn x i h1
          exact r_glob g hu d
      case List es pos =>
        obtain ⟨ts, h1, h⟩ := ob (show (mapO (trX n false S) es).bind _ = some t from h)
        cases h
        exact r_lst (mapO_ok ihE h1)
      case Tuple es k pos =>
        obtain ⟨ts, h1, h⟩ := ob (show (mapO (trX n false S) es).bind _ = some t from h)
        cases h
        exact r_tup (mapO_ok ihE h1)
      case Subscript a i pos =>
        obtain ⟨x, h1, h⟩ := ob (show (trX n false S a).bind _ = some t from h)
        have hx := ihE _ _ h1
        split at h
        · rename_i hr
          cases h
          obtain ⟨k, p1, p2, p3, rfl⟩ := isRev_ok hr
          exact r_rev hx
        · rename_i hr
          have sub : (if isSlice i = true then none else (trX n false S i).bind fun y => some (T.sub x y)) = some t → SE X cls TB E EX G (.Subscript a i pos) t := fun h => by
            split at h
            · cases h
            · rename_i hs
              obtain ⟨y, h2, h⟩ := ob h
              cases h
              exact r_sub' (Nat.lt_of_le_of_lt (by omega) c.hu) hx (ihE _ _ h2) (plain_ix (by simpa using hs))
          cases i with
          | Slice lo hi st p2 =>
            cases st with
            | none =>
              obtain ⟨l, h2, h⟩ := ob (show (partO (trX n false S) lo).bind _ = some t from h)
              obtain ⟨hh, h3, h⟩ := ob h
              cases h
              exact r_slc hx (partO_ok ihE h2) (partO_ok ihE h3)
            | some st => cases h
          | _ => exact sub h
      case ListComp elt gens scope pos =>
        obtain ⟨tg, iter, ifs, own, tgt, k, ts, cc, te, e1, e2, q1, q2, q3, q4, q5, q6⟩ := lc_parts c ihE (fun S X E EX c => trX_ok n S X cls TB E EX G c) h
        subst e1 e2
        exact r_lc c.calm c.nd q1 q2 q3 q4 q5 q6
      case Call g es ks pos =>
        cases ks with
        | cons k ks =>
          cases g <;> first | (cases h; done) | skip
          case Attribute o m apos => cases o <;> cases h
        | nil =>
          cases g with
          | Name f p =>
            obtain ⟨hg, h⟩ := oite (show (if S.gl f = true then _ else none) = some t from h)
            cases hF : S.FN.lookup f with
            | some i =>
              rw [hF] at h
              obtain ⟨ts, h1, h⟩ := ob (show (mapO (trX n false S) es).bind _ = some t from h)
              cases h
              obtain ⟨g, g1, g2⟩ := fn_ok c hg hF
              have hs := mapO_ok ihE h1
              cases hs with
              | nil => exact r_call0 g1 g2
              | cons a b => exact r_call g1 g2 (.cons a b)
            | none =>
              rw [hF] at h
              rcases es with _ | ⟨a, _ | ⟨b, _ | ⟨d, r⟩⟩⟩
              · cases h
              · cases hH : S.HR.lookup f with
                | some tab =>
                  have h : (match S.HR.lookup f with
                    | some tab => (isLam S a).bind fun q => (trX n false (S.lam q.2) q.1).bind fun t => some (T.heard tab t (capsO S q.2))
                    | none => match isRange1 S a with
                    | some b => if f = "list" ∧ S.bl f = true then (trX n false S b).bind fun t => some (T.blt .listR [t])
                      else if f = "tuple" ∧ S.bl f = true then (trX n false S b).bind fun t => some (T.blt .tupleR [t])
                      else none
                    | none => trOne (trX n false S) S f a) = some t := h
                  rw [hH] at h
                  obtain ⟨⟨body, scope⟩, h1, h⟩ := ob (show (isLam S a).bind _ = some t from h)
                  obtain ⟨u, h2, h⟩ := ob h
                  cases h
                  obtain ⟨lpos, ea, hl⟩ := isLam_ok h1
                  subst ea
                  exact r_heard c hg hH hl fun X' E' EX' c' => (trX_ok n (S.lam scope) X' cls TB E' EX' G c').1 body u h2
                | none =>
                have h : (match S.HR.lookup f with
                    | some tab => (isLam S a).bind fun q => (trX n false (S.lam q.2) q.1).bind fun t => some (T.heard tab t (capsO S q.2))
                    | none => match isRange1 S a with
                    | some b => if f = "list" ∧ S.bl f = true then (trX n false S b).bind fun t => some (T.blt .listR [t])
                      else if f = "tuple" ∧ S.bl f = true then (trX n false S b).bind fun t => some (T.blt .tupleR [t])
                      else none
                    | none => trOne (trX n false S) S f a) = some t := h
                rw [hH] at h
                cases hr : isRange1 S a with
                | some b =>
                  have q0 : (match isRange1 S a with
                    | some b => if f = "list" ∧ S.bl f = true then (trX n false S b).bind fun t => some (T.blt .listR [t])
                      else if f = "tuple" ∧ S.bl f = true then (trX n false S b).bind fun t => some (T.blt .tupleR [t])
                      else none
                    | none => trOne (trX n false S) S f a) = some t := h
                  rw [hr] at q0
                  clear h
                  obtain ⟨p2, pos2, ea, gr, mr⟩ := isRange1_ok c hr
                  subst ea
                  simp only at q0
                  split at q0
                  · rename_i q
                    obtain ⟨q1, q2⟩ := q
                    subst q1
                    obtain ⟨x, h1, q3⟩ := ob q0
                    cases q3
                    obtain ⟨gl, ml, _⟩ := bl_ok c q2
                    exact r_listR c.calm gl ml gr mr (ihE _ _ h1)
                  · obtain ⟨⟨q1, q2⟩, q5⟩ := oite q0
                    clear q0
                    subst q1
                    obtain ⟨x, h1, q3⟩ := ob q5
                    cases q3
                    obtain ⟨gl, ml, _⟩ := bl_ok c q2
                    exact r_tupR c.calm gl ml gr mr (ihE _ _ h1)
                | none =>
                  have h : (match isRange1 S a with
                    | some b => if f = "list" ∧ S.bl f = true then (trX n false S b).bind fun t => some (T.blt .listR [t])
                      else if f = "tuple" ∧ S.bl f = true then (trX n false S b).bind fun t => some (T.blt .tupleR [t])
                      else none
                    | none => trOne (trX n false S) S f a) = some t := h
                  rw [hr] at h
                  exact trOne_ok c ihE (show trOne (trX n false S) S f a = some t from h)
              · have two : ((bltO S f 2).bind fun o => (trX n false S a).bind fun t => (trX n false S b).bind fun u => some (T.blt o [t, u])) = some t → SE X cls TB E EX G (.Call (.Name f p) [a, b] [] pos) t := fun h => by
                  obtain ⟨o, h1, h⟩ := ob h
                  obtain ⟨x, h2, h⟩ := ob h
                  obtain ⟨y, h3, h⟩ := ob h
                  cases h
                  exact blt_call (bltO_ok c h1).1 (.cons (ihE _ _ h2) (.cons (ihE _ _ h3) .nil))
                cases b with
                | Name ty p2 =>
                  have q0 : (if f = "isinstance" ∧ S.bl f = true then (tyO S ty).bind fun u => (trX n false S a).bind fun t => some (T.isi t u)
                    else (bltO S f 2).bind fun o => (trX n false S a).bind fun t => (trX n false S (.Name ty ⟨0, 0, 0, 0⟩)).bind fun u => some (T.blt o [t, u])) = some t := h
                  clear h
                  split at q0
                  · rename_i q
                    obtain ⟨q1, q2⟩ := q
                    subst q1
                    obtain ⟨u, h1, q3⟩ := ob q0
                    obtain ⟨x, h2, q4⟩ := ob q3
                    cases q4
                    obtain ⟨gi, mi, _⟩ := bl_ok c q2
                    obtain ⟨g2, m2, b2, n2, d2⟩ := tyO_ok c h1
                    exact r_isi gi mi g2 m2 b2 n2 d2 (ihE _ _ h2)
                  · rw [trX_pos (q := p2)] at q0
                    exact two q0
                | _ => exact two h
              · cases b <;> cases h
          | Attribute o m apos =>
            cases o <;> first | (cases h; done) | skip
            case Name x p =>
              obtain ⟨⟨hv, hl, hn⟩, h⟩ := oite (show (if S.vis x = true ∧ (apos.endLine == pos.line) = true ∧ es.length < 20 then (S.slot x).bind fun i => (mthO m es.length).bind fun o => (mapO (trX n false S) es).bind fun ts => some (T.mth o i ts) else none) = some t from h)
              obtain ⟨i, h1, h⟩ := ob h
              obtain ⟨o, h2, h⟩ := ob h
              obtain ⟨ts, h3, h⟩ := ob h
              cases h
              exact mth_call c hv hl hn h1 h2 (mapO_ok ihE h3)
          | _ => cases h
    · intro e t h
      cases e <;> first | (cases h; done) | skip
      case BoolOp op es pos =>
        rcases es with _ | ⟨a, rest⟩
        · cases op <;> cases h
        · cases op
          · exact (foldT_and ihT (show foldB (trX n true S) .and a rest = some t from h)).pt
          · exact (foldT_or ihT (show foldB (trX n true S) .or a rest = some t from h)).pt
      case UnaryOp op a pos =>
        cases op <;> first | (cases h; done) | skip
        obtain ⟨x, h1, h⟩ := ob (show (trX n true S a).bind _ = some t from h)
        cases h
        exact t_not (ihT _ _ h1)
      case Compare a ops cs pos => exact (trCmp_ok c ihE (show trCmp (trX n false S) (.Compare a ops cs pos) = some t from h)).2
      case Name x pos =>
        obtain ⟨y, h1, h⟩ := ob (show (trX n false S (.Name x pos)).bind _ = some t from h)
        cases h
        exact t_tru (ihE _ _ h1) fun _ => rfl
      case Call g es ks pos =>
        obtain ⟨y, h1, h⟩ := ob (show (trX n false S (.Call g es ks pos)).bind _ = some t from h)
        cases h
        exact t_tru (ihE _ _ h1) fun _ => rfl
      case Subscript a b pos =>
        obtain ⟨y, h1, h⟩ := ob (show (trX n false S (.Subscript a b pos)).bind _ = some t from h)
        cases h
        exact t_tru (ihE _ _ h1) fun _ => rfl
end PL
set_option Elab.async false
set_option linter.all false
set_option maxRecDepth 100000
set_option maxHeartbeats 8000000
/-! The translation of statements. -/
namespace PL
open PySem PySem.Spec PyProof.Rows L2
variable [QN]
/-- what a def's own context keeps beyond that -/
structure CtxF (S : SV) (X : Cx) (cls : Nat → Option Addr) (TB : List (Addr × Str)) (E : XK) (G : List Fn) : Prop extends Ctx S X cls TB E G where
  kind : X.env.scope.kind = .function
  own : PassesOwn (model X.prog X.w) X.A X.env X.xe
  tk : L2N.Takes X fun c d _ H => E c d H
  co : ∀ x c, S.gl x = true → S.CO.lookup x = some c → MkOk X cls x c
def isLc : Expr → Option (Scope × Pos)
  | .ListComp _ _ scope p => some (scope, p)
  | _ => none
/-- y = [..]: y's name is stored by the comprehension itself -/
def swapB (S : SV) (x : Str) (py : Pos) (scope : Scope) (p : Pos) : Bool :=
  (match S.kind x with | some .local => true | _ => false) && (py.line == p.line) && !(scope.names.any fun (n, k) => n == x && (k == .local || k == .cell))
def nameO (S : SV) (l : Nat) : Expr → Option (Str × Nat)
  | .Name x p => if S.kind x = some .local ∧ (p.line == l) = true then (S.slot x).map fun i => (x, i) else none
  | _ => none
/-- a, b = .. with the stores from the right -/
def parO (S : SV) (ts vs : List Expr) : Option (List Nat) :=
  match ts, vs with
  | [t1, t2], [a, b] => (nameO S t1.pos.line t1).bind fun x => (nameO S t1.pos.line t2).bind fun y =>
      if x.1 ≠ y.1 ∧ x.2 ≠ y.2 ∧ (isStar a || isStar b) = false ∧ (foldedForSure 8 a && foldedForSure 8 b) = false ∧ (constantsAlone 8 a && constantsAlone 8 b) = false then some [x.2, y.2] else none
  | [t1, t2, t3], [a, b, c] => (nameO S t1.pos.line t1).bind fun x => (nameO S t1.pos.line t2).bind fun y => (nameO S t1.pos.line t3).bind fun z =>
      if (x.1 ≠ y.1 ∧ x.1 ≠ z.1 ∧ y.1 ≠ z.1) ∧ (x.2 ≠ y.2 ∧ x.2 ≠ z.2 ∧ y.2 ≠ z.2) ∧ (isStar a || isStar b || isStar c) = false ∧ (foldedForSure 8 a && (foldedForSure 8 b && foldedForSure 8 c)) = false ∧ (constantsAlone 8 a && (constantsAlone 8 b && constantsAlone 8 c)) = false then some [x.2, y.2, z.2] else none
  | _, _ => none
def tupO : Expr → Option (List Expr)
  | .Tuple es _ _ => some es
  | _ => none
def isN : Expr → Bool
  | .Name .. => true
  | _ => false
def augO : Operator → Option BOp
  | .Add => some .add
  | .Sub => some .sub
  | _ => none
/-- plain names -/
def namesO : List Tg → Option (List Nat)
  | [] => some []
  | .name i :: r => (namesO r).map (i :: ·)
  | _ => none
theorem namesO_ok : ∀ {ts : List Tg} {is : List Nat}, namesO ts = some is → ts = is.map .name
  | [], is, h => by cases h; rfl
  | .name i :: r, is, h => by
    obtain ⟨js, h1, h2⟩ := Option.map_eq_some_iff.mp (show (namesO r).map (i :: ·) = some is from h)
    cases h2
    rw [namesO_ok h1]; rfl
  | .tup _ :: _, is, h => by cases h
/-- x, .. = e -/
def trAsg (f : Expr → Option T) (S : SV) (ts : List Expr) (k : Nat) (p : Pos) (e : Expr) : Option PL.S :=
  if noSwap S.sc (.Tuple ts k p) e = true then (trTgs S ts).bind fun tt =>
    match e with
    | .Tuple vs k2 p2 => match namesO tt with
      | some is => if is.length ≤ 1000 ∧ noComp (.Tuple vs k2 p2) = true then (mapO f vs).bind fun us => some (.par is us) else none
      | none => (f e).bind fun t => if noComp e = true then some (.asg (.tup tt) t) else none
    | e => (f e).bind fun t => if noComp e = true then some (.asg (.tup tt) t) else none
  else match e with
    | .Tuple vs _ _ => (parO S ts vs).bind fun is => (mapO f vs).bind fun tt => some (.par is tt)
    | _ => none
def mapS (f : Stmt → Option PL.S) : List Stmt → Option (List PL.S)
  | [] => some []
  | s :: ss => (f s).bind fun t => (mapS f ss).bind fun ts => some (t :: ts)
def trS : Nat → SV → Stmt → Option PL.S
  | 0, _, _ => none
  | n + 1, S, s => match s with
    | .Assign [tg] e _ => match tg with
      | .Name x p => if S.sto x = true then (S.slot x).bind fun i => (trX (n + 1) false S e).bind fun t => match isLc e with
          | some (scope, p2) => if swapB S x p scope p2 = true then some (.set i t) else if (match S.kind x with | some .cell => true | _ => false) = true then some (.set i t) else none
          | none => if noComp e = true then some (.set i t) else none
        else none
      | .Tuple ts k p => trAsg (trX n false S) S ts k p e
      | .Subscript (.Name x _) b _ => if S.vis x = true ∧ isSlice b = false then (S.slot x).bind fun i => (trX n false S b).bind fun tb => (trX n false S e).bind fun t => some (.sst i tb t) else none
      | _ => none
    | .AugAssign (.Name x _) op e _ => if S.sto x = true then (S.slot x).bind fun i => (augO op).bind fun o => (trX n false S e).bind fun t => some (.aug i o t) else none
    | .Expr e _ => if noComp e = true then (trX n false S e).bind fun t => some (.ex t) else none
    | .Return none _ => some .retN
    | .Return (some e) _ => (trX n false S e).bind fun t => some (.ret t)
    | .If c a b _ => (trX n true S c).bind fun t => (mapS (trS n S) a).bind fun x => (mapS (trS n S) b).bind fun y => some (.ite t x y)
    | .For tg iter body [] _ => (trTg S tg).bind fun tgt => (trIt (trX n false S) S tg iter).bind fun kt => (mapS (trS n S) body).bind fun b => some (.forS tgt kt.1 kt.2 b)
    | .While c body [] _ => (trX n true S c).bind fun t => (mapS (trS n S) body).bind fun b => some (.whl t b)
    | .Raise (some (.Call (.Name x _) [e] [] _)) none _ => if S.gl x = true then (S.CO.lookup x).bind fun c => (trX n false S e).bind fun t => some (.rais c t) else none
    | .Break _ => some .brk
    | .Continue _ => some .cnt
    | .Pass _ => some .pas
    | _ => none
section
variable {S : SV} {X : Cx} {cls : Nat → Option Addr} {TB : List (Addr × Str)} {E : XK} {EX : Nat → P → Prop} {G : List Fn} {f : Expr → Option T}
theorem mapS_ok {g : Stmt → Option PL.S} (hg : ∀ s t, g s = some t → SS X cls TB E EX G s t) : ∀ {ss : List Stmt} {ts : List PL.S}, mapS g ss = some ts → SSs X cls TB E EX G ss ts
  | [], ts, h => by
    have h : some [] = some ts := h
    cases h
    exact ss_nil
  | s :: ss, ts, h => by
    obtain ⟨t, h1, h⟩ := ob (show (g s).bind _ = some ts from h)
    obtain ⟨ts', h2, h⟩ := ob h
    cases h
    exact ss_cons (hg s t h1) (mapS_ok hg h2)
theorem nameO_ok (c : Ctx S X cls TB E G) {l : Nat} {e : Expr} {x : Str} {i : Nat} (h : nameO S l e = some (x, i)) : ∃ p, e = .Name x p ∧ X.env.scope.names.lookup x = some .local ∧ (p.line == l) = true ∧ X.N[i]? = some x := by
  unfold nameO at h
  split at h
  · rename_i y p
    obtain ⟨⟨h1, h2⟩, h⟩ := oite h
    obtain ⟨j, h3, h4⟩ := Option.map_eq_some_iff.mp h
    cases h4
    exact ⟨p, rfl, by rw [c.sc]; exact h1, h2, (slot_ok c h3).1⟩
  · cases h
theorem blockKind_ok (h : X.env.scope.kind = .function) : X.env.blockKind = .function := by unfold Env.blockKind; rw [h]; rfl
theorem parO_ok (c : CtxF S X cls TB E G) {ts vs : List Expr} {is : List Nat} {tt : List T} {k k2 : Nat} {p p2 pos : Pos} (h : parO S ts vs = some is) (hs : SEs X cls TB E EX G vs tt) : SS X cls TB E EX G (.Assign [.Tuple ts k p] (.Tuple vs k2 p2) pos) (.par is tt) := by
  unfold parO at h
  split at h
  · rename_i t1 t2 a b
    obtain ⟨⟨x, i⟩, h1, h⟩ := ob h
    obtain ⟨⟨y, j⟩, h2, h⟩ := ob h
    obtain ⟨⟨q1, q2, q3, q4, q5⟩, h⟩ := oite h
    cases h
    obtain ⟨px, rfl, lx, ex, nx⟩ := nameO_ok c.toCtx h1
    obtain ⟨py, rfl, ly, ey, ny⟩ := nameO_ok c.toCtx h2
    exact s_par2 c.calm c.nd nx ny q2 lx ly hs (swap2_ok (blockKind_ok c.kind) lx ly ey q1 q3 q4 q5)
  · rename_i t1 t2 t3 a b d
    obtain ⟨⟨x, i⟩, h1, h⟩ := ob h
    obtain ⟨⟨y, j⟩, h2, h⟩ := ob h
    obtain ⟨⟨z, l⟩, h3, h⟩ := ob h
    obtain ⟨⟨⟨q1, q2, q3⟩, ⟨r1, r2, r3⟩, q4, q5, q6⟩, h⟩ := oite h
    cases h
    obtain ⟨px, rfl, lx, ex, nx⟩ := nameO_ok c.toCtx h1
    obtain ⟨py, rfl, ly, ey, ny⟩ := nameO_ok c.toCtx h2
    obtain ⟨pz, rfl, lz, ez, nz⟩ := nameO_ok c.toCtx h3
    exact s_par3 c.calm c.nd nx ny nz r1 r2 r3 lx ly lz hs (swap3_ok (blockKind_ok c.kind) lx ly lz ey ez q1 q2 q3 q4 q5 q6)
  · cases h
theorem trAsg_ok (c : CtxF S X cls TB E G) (hf : ∀ e t, f e = some t → SE X cls TB E EX G e t) {ts : List Expr} {k : Nat} {p pos : Pos} {e : Expr} {t : PL.S} (h : trAsg f S ts k p e = some t) : SS X cls TB E EX G (.Assign [.Tuple ts k p] e pos) t := by
  unfold trAsg at h
  split at h
  · rename_i hn
    obtain ⟨tt, h1, h⟩ := ob h
    obtain ⟨g1, g2, g3⟩ := trTgs_ok c.toCtx h1
    have gen : ((f e).bind fun u => if noComp e = true then some (PL.S.asg (.tup tt) u) else none) = some t → SS X cls TB E EX G (.Assign [.Tuple ts k p] e pos) t := fun h => by
      obtain ⟨u, h2, h⟩ := ob h
      obtain ⟨h3, h⟩ := oite h
      cases h
      exact s_asg (hf _ _ h2) (.or (pg_tup c.calm g1 g2 g3) (pg_unl c.calm g1 g2 g3)) (fun i z => nomatch z) (show swapsWithSole [.Tuple ts k p] e pos.line X.env = pure false from @noComp_ok _ e (some (.Tuple ts k p)) pos.line X.env h3) (noSwap_ok (by rw [c.sc]; exact hn)) rfl
    split at h
    · rename_i vs k2 p2
      split at h
      · rename_i is hi
        obtain ⟨⟨h2, h3⟩, h⟩ := oite h
        obtain ⟨us, h4, h⟩ := ob h
        cases h
        have e := namesO_ok hi
        subst e
        have g := pg_tup (pos := p) (k := k) c.calm g1 g2 g3
        rw [List.length_map] at g
        exact s_parL g (mapO_ok hf h4) (Nat.le_trans h2 (by decide)) (show swapsWithSole [.Tuple ts k p] _ pos.line X.env = pure false from @noComp_ok _ _ (some (.Tuple ts k p)) pos.line X.env h3) (noSwap_ok (by rw [c.sc]; exact hn)) rfl
      · exact gen h
    · exact gen h
  · split at h
    · obtain ⟨is, h1, h⟩ := ob h
      obtain ⟨tt, h2, h⟩ := ob h
      cases h
      exact parO_ok c h1 (mapO_ok hf h2)
    · cases h
theorem isSlice_ok {e : Expr} (h : isSlice e = false) : ∀ lo hi st p, e ≠ .Slice lo hi st p := fun lo hi st p z => by subst z; cases h
theorem swapB_true (c : CtxF S X cls TB E G) {x : Str} {py p pos : Pos} {scope : Scope} {elt : Expr} {gs : List Comprehension} (h : swapB S x py scope p = true) :
    swapsWith (.ListComp elt gs scope p) (some (.Name x py)) pos.line X.env = pure true ∧ X.env.scope.names.lookup x = some .local := by
  unfold swapB at h
  rw [Bool.and_eq_true, Bool.and_eq_true] at h
  obtain ⟨⟨h1, h2⟩, h3⟩ := h
  have hl : X.env.scope.names.lookup x = some .local := by
    rw [c.sc]
    unfold SV.kind at h1
    split at h1
    · assumption
    · cases h1
  exact ⟨sw_true c.kind hl h2 (by simpa using h3), hl⟩
theorem swap_cell (c : Ctx S X cls TB E G) {x : Str} {py p pos : Pos} {scope : Scope} {elt : Expr} {gs : List Comprehension} (h : (match S.kind x with | some .cell => true | _ => false) = true) :
    swapsWith (.ListComp elt gs scope p) (some (.Name x py)) pos.line X.env = pure false := by
  have hk : X.env.kindOf x = some .cell := by
    show X.env.scope.names.lookup x = _
    rw [c.sc]
    unfold SV.kind at h
    split at h
    · assumption
    · cases h
  show (pure (X.env.blockKind == .function && X.env.kindOf x == some .local && py.line == p.line && !_) : Sem Bool) = pure false
  rw [hk]
  have : (some NameKind.cell == some NameKind.local) = false := by decide
  rw [this, Bool.and_false, Bool.false_and, Bool.false_and]
theorem isLc_none {e : Expr} (h : isLc e = none) : True := True.intro
theorem trS_ok : ∀ (n : Nat) {s : Stmt} {t : PL.S}, CtxF S X cls TB E G → trS n S s = some t → SS X cls TB E EX G s t
  | 0, s, t, c, h => by cases h
  | n + 1, s, t, c, h => by
    have hE := (trX_ok n S X cls TB E EX G c.toCtx).1
    have hT := (trX_ok n S X cls TB E EX G c.toCtx).2
    have hE1 := (trX_ok (n + 1) S X cls TB E EX G c.toCtx).1
    have hS : ∀ s t, trS n S s = some t → SS X cls TB E EX G s t := fun s t h => trS_ok n c h
    cases s <;> first | (cases h; done) | skip
    case Assign tgs e pos =>
      rcases tgs with _ | ⟨tg, _ | ⟨tg2, tgs⟩⟩ <;> first | (cases h; done) | skip
      cases tg <;> first | (cases h; done) | skip
      case Name x p =>
        obtain ⟨h1, h⟩ := oite (show (if S.sto x = true then _ else none) = some t from h)
        obtain ⟨i, h2, h⟩ := ob h
        obtain ⟨u, h3, h⟩ := ob h
        have plain : ∀ hs : swapsWith e (some (.Name x p)) pos.line X.env = pure false, SS X cls TB E EX G (.Assign [.Name x p] e pos) (.set i u) := fun hs => s_set c.nd (slot_ok c.toCtx h2).1 (loc_ok c.toCtx h1) (hE1 _ _ h3) hs (c.fn x h1)
        cases e with
        | ListComp elt gs scope p2 =>
          have h : (if swapB S x p scope p2 = true then some (PL.S.set i u) else if (match S.kind x with | some .cell => true | _ => false) = true then some (.set i u) else none) = some t := h
          split at h
          · rename_i hs
            cases h
            obtain ⟨sw, hl⟩ := swapB_true (pos := pos) (elt := elt) (gs := gs) c hs
            obtain ⟨tg, iter, ifs, own, tgt, k, ts, cc, te, e1, e2, q1, q2, q3, q4, q5, q6⟩ := lc_parts c.toCtx hE (fun S X E EX c => trX_ok n S X cls TB E EX G c) h3
            subst e1 e2
            exact s_setLc c.calm c.nd (slot_ok c.toCtx h2).1 hl sw q1 q2 q3 q4 q5 q6
          · obtain ⟨hc, h⟩ := oite h
            cases h
            exact plain (swap_cell c.toCtx hc)
        | _ =>
          obtain ⟨hc, h⟩ := oite (show (if noComp _ = true then some (PL.S.set i u) else none) = some t from h)
          cases h
          exact plain (noComp_ok hc)
      case Tuple ts k p => exact trAsg_ok c hE (show trAsg (trX n false S) S ts k p e = some t from h)
      case Subscript a b p =>
        cases a <;> first | (cases h; done) | skip
        case Name x p1 =>
          obtain ⟨⟨h1, h0⟩, h⟩ := oite (show (if S.vis x = true ∧ isSlice b = false then _ else none) = some t from h)
          obtain ⟨i, h2, h⟩ := ob h
          obtain ⟨tb, h3, h⟩ := ob h
          obtain ⟨u, h4, h⟩ := ob h
          cases h
          obtain ⟨s1, s2, s3⟩ := slot_ok c.toCtx h2
          exact s_sst (Nat.lt_of_le_of_lt (by omega) c.hu) s1 (vis_ok c.toCtx h1) s2 s3 (hE _ _ h3) (hE _ _ h4) (isSlice_ok h0) (noSwap_ok (by cases e <;> rfl))
    case AugAssign tg op e pos =>
      cases tg <;> first | (cases h; done) | skip
      case Name x p =>
        obtain ⟨h1, h⟩ := oite (show (if S.sto x = true then _ else none) = some t from h)
        obtain ⟨i, h2, h⟩ := ob h
        obtain ⟨o, h3, h⟩ := ob h
        obtain ⟨u, h4, h⟩ := ob h
        cases h
        refine s_aug ?_ c.nd (slot_ok c.toCtx h2).1 (loc_ok c.toCtx h1) (hE _ _ h4) (c.fn x h1)
        cases op <;> cases h3
        · exact .inl ⟨rfl, rfl⟩
        · exact .inr ⟨rfl, rfl⟩
    case Expr e pos =>
      obtain ⟨h1, h⟩ := oite (show (if noComp e = true then _ else none) = some t from h)
      obtain ⟨u, h2, h⟩ := ob h
      cases h
      exact s_ex (hE _ _ h2) (noComp_ok h1)
    case Return o pos =>
      cases o with
      | none => cases h; exact s_retN
      | some e =>
        obtain ⟨u, h2, h⟩ := ob (show (trX n false S e).bind _ = some t from h)
        cases h
        have hu := hE _ _ h2
        by_cases hv : ∃ i, u = .var i
        · obtain ⟨i, rfl⟩ := hv
          exact s_retV hu
        · exact s_ret hu fun i z => hv ⟨i, z⟩
    case If cc a b pos =>
      obtain ⟨u, h1, h⟩ := ob (show (trX n true S cc).bind _ = some t from h)
      obtain ⟨x, h2, h⟩ := ob h
      obtain ⟨y, h3, h⟩ := ob h
      cases h
      exact s_if (hT _ _ h1) (mapS_ok hS h2) (mapS_ok hS h3)
    case For tg iter body els pos =>
      cases els <;> first | (cases h; done) | skip
      obtain ⟨tgt, h1, h⟩ := ob (show (trTg S tg).bind _ = some t from h)
      obtain ⟨⟨k, ts⟩, h2, h⟩ := ob h
      obtain ⟨b, h3, h⟩ := ob h
      cases h
      exact s_for c.own c.calm (trIt_ok c.toCtx hE h2) (trTg_ok c.toCtx h1) (mapS_ok hS h3)
    case While cc body els pos =>
      cases els <;> first | (cases h; done) | skip
      obtain ⟨u, h1, h⟩ := ob (show (trX n true S cc).bind _ = some t from h)
      obtain ⟨b, h3, h⟩ := ob h
      cases h
      exact s_while c.own (hT _ _ h1) (mapS_ok hS h3)
    case Break pos => cases h; exact s_brk
    case Continue pos => cases h; exact s_cnt
    case Pass pos => cases h; exact s_pass
    case Raise o o2 pos =>
      rcases o with _ | e <;> first | (cases o2 <;> cases h; done) | skip
      rcases o2 with _ | e2
      · cases e <;> first | (cases h; done) | skip
        case Call g es ks p2 =>
          cases g <;> first | (cases h; done) | skip
          case Name x p1 =>
            rcases es with _ | ⟨e, _ | ⟨e2, es⟩⟩ <;> first | (cases h; done) | skip
            cases ks <;> first | (cases h; done) | skip
            obtain ⟨h1, h⟩ := oite (show (if S.gl x = true then _ else none) = some t from h)
            obtain ⟨cc, h2, h⟩ := ob h
            obtain ⟨u, h3, h⟩ := ob h
            cases h
            exact s_rais c.calm c.tk (c.co x cc h1 h2) (hE _ _ h3)
      · cases e <;> first | (cases h; done) | skip
        case Call g es ks p2 =>
          cases g <;> first | (cases h; done) | skip
          rcases es with _ | ⟨e, _ | ⟨e2, es⟩⟩ <;> first | (cases h; done) | skip
          cases ks <;> cases h
end
end PL
set_option Elab.async false
set_option linter.all false
set_option maxRecDepth 100000
set_option maxHeartbeats 8000000
/-! A def whose body is translated. -/
namespace PL
open PySem PySem.Spec PyProof.Rows L2
variable [QN]
/-- the places lent, from j on, n of them looked at -/
def lentI (lent : List Nat) : Nat → Nat → List Nat
  | _, 0 => []
  | j, n + 1 => if j ∈ lent then j :: lentI lent (j + 1) n else lentI lent (j + 1) n
/-- what stands there -/
def Gets (ρ : Env') : List Nat → List D → Prop
  | [], ls => ls = []
  | i :: is, ls => ∃ l lr, ls = l :: lr ∧ ρ[i]? = some (some l) ∧ Gets ρ is lr
theorem lentI_ge {lent : List Nat} : ∀ {n j i : Nat}, i ∈ lentI lent j n → j ≤ i
  | 0, _, _, h => nomatch h
  | n + 1, j, i, h => by
    unfold lentI at h
    split at h
    · rcases List.mem_cons.mp h with e | h
      · omega
      · have := lentI_ge h; omega
    · have := lentI_ge h; omega
theorem Gets.set {ρ : Env'} {k : Nat} {x : Option D} : ∀ {is : List Nat} {ls : List D}, k ∉ is → Gets ρ is ls → Gets (ρ.set k x) is ls
  | [], ls, _, h => h
  | i :: is, ls, hk, h => by
    obtain ⟨l, lr, e, h1, h2⟩ := h
    rw [List.mem_cons, not_or] at hk
    exact ⟨l, lr, e, by rw [List.getElem?_set_ne hk.1]; exact h1, Gets.set hk.2 h2⟩
theorem OwnE.gets {K : PySem.W.Frag} {Fz : FzT} {H : Hp} {lent : List Nat} {σ : SL} : ∀ {n j : Nat} {ρ : Env'} {f : List Addr} {ls : List D} {vs : List V}, OwnE K Fz H ρ σ f → Gets ρ (lentI lent j n) ls → Bear σ (lentI lent j n) vs →
    ∃ fl, OwnL K Fz H ls vs fl ∧ ∀ a ∈ fl, a ∈ f
  | 0, j, ρ, f, ls, vs, he, hg, hb => by
    have e1 : ls = [] := hg
    have e2 : vs = [] := hb
    subst e1 e2
    exact ⟨[], ⟨rfl, rfl⟩, fun _ z => nomatch z⟩
  | n + 1, j, ρ, f, ls, vs, he, hg, hb => by
    unfold lentI at hg hb
    by_cases hj : j ∈ lent
    · rw [if_pos hj] at hg hb
      obtain ⟨l, lr, e1, g1, g2⟩ := hg
      obtain ⟨v, vr, e2, b1, b2⟩ := hb
      subst e1 e2
      obtain ⟨v', f1, f2, h1, h2, h3, h4, h5⟩ := he.take g1
      rw [b1] at h1; cases h1
      have nj : j ∉ lentI lent (j + 1) n := fun z => by have := lentI_ge z; omega
      obtain ⟨fl, o, s⟩ := OwnE.gets (n := n) (j := j + 1) h3 (g2.set nj) b2
      refine ⟨f1 ++ fl, ⟨v, vr, f1, fl, rfl, rfl, h2, o, fun a ha hb => h4 a ha (s a hb)⟩, fun a ha => ?_⟩
      rcases List.mem_append.mp ha with z | z
      · exact (h5 a).mpr (.inl z)
      · exact (h5 a).mpr (.inr (s a z))
    · rw [if_neg hj] at hg hb
      exact OwnE.gets he hg hb
theorem Bear.lent {lent : List Nat} {σ : SL} : ∀ {vs : List V} {j : Nat}, (∀ i v, vs[i]? = some v → σ[j + i]? = some (some v)) → Bear σ (lentI lent j vs.length) (lentV lent j vs)
  | [], j, _ => rfl
  | v :: vs, j, h => by
    have ih := Bear.lent (lent := lent) (σ := σ) (vs := vs) (j := j + 1) fun i u hu => by
      have := h (i + 1) u (by simpa using hu)
      rw [show j + 1 + i = j + (i + 1) by omega]
      exact this
    rw [List.length_cons]
    unfold lentI lentV
    by_cases hj : j ∈ lent
    · rw [if_pos hj, if_pos hj]
      exact ⟨v, _, rfl, by simpa using h 0 v rfl, ih⟩
    · rw [if_neg hj, if_neg hj]
      exact ih
theorem Bear.fix {σ σ' : SL} : ∀ {is : List Nat} {vs : List V}, Bear σ is vs → (∀ j ∈ is, σ'[j]? = σ[j]?) → Bear σ' is vs
  | [], _, h, _ => h
  | i :: is, _, h, hf => by
    obtain ⟨v, vr, e, h1, h2⟩ := h
    exact ⟨v, vr, e, by rw [hf i (List.mem_cons_self ..)]; exact h1, Bear.fix h2 fun j hj => hf j (List.mem_cons_of_mem _ hj)⟩
/-- the slots at the entry -/
def startE (n : Nat) (ds : List D) : Env' := ds.map some ++ List.replicate (n - ds.length) none
theorem OwnE.rep {K : PySem.W.Frag} {Fz : FzT} {H : Hp} : ∀ n : Nat, OwnE K Fz H (List.replicate n none) (List.replicate n none) []
  | 0 => ⟨rfl, rfl⟩
  | n + 1 => ⟨none, List.replicate n none, rfl, OwnE.rep n⟩
theorem OwnE.app {K : PySem.W.Frag} {Fz : FzT} {H : Hp} {ρ : Env'} {σ : SL} (he : OwnE K Fz H ρ σ []) : ∀ {ds : List D} {vs : List V} {f : List Addr}, OwnL K Fz H ds vs f → OwnE K Fz H (ds.map some ++ ρ) (vs.map some ++ σ) f
  | [], vs, f, h => by
    obtain ⟨e1, e2⟩ := h
    subst e1 e2
    exact he
  | d :: ds, vs, f, h => by
    obtain ⟨v, vr, f1, f2, e, ef, o, ol, dj⟩ := h
    subst e
    exact ⟨v, vr.map some ++ σ, f1, f2, rfl, ef, o, OwnE.app he ol, dj⟩
theorem OwnE.start {K : PySem.W.Frag} {Fz : FzT} {H : Hp} {N : List Str} {ds : List D} {vs : List V} {f : List Addr} (h : OwnL K Fz H ds vs f) : OwnE K Fz H (startE N.length ds) (L2.start N vs) f := by
  unfold startE L2.start
  rw [h.len]
  exact (OwnE.rep _).app h
/-- the end of a body: what is told, and what was lent -/
def Rt (g : Fn) (Qp : D → List D → Prop) : KE := fun d ρ => ∃ ls, Gets ρ (lentI g.lent 0 g.n) ls ∧ Qp d ls
/-- the promise of a body in the small language -/
def Keeps (G : List Fn) (nN : Nat) (bs : List S) (g : Fn) : Prop := ∀ ds Qp Xp, g.run ds Qp Xp → ds.length = g.n ∧ wSs G Xp (lentI g.lent 0 g.n) bs (startE nN ds) { nx := fun ρ => Rt g Qp (.p .non) ρ, rt := Rt g Qp }
section
variable {P : Program} {w : World} {K : PySem.W.Frag} {mg : Str → Option Value} {base : Heap} {cls : Nat → Option Addr} {TB : List (Addr × Str)}
/-- what of a class may be raised -/
structure ClsF (P : Program) (w : World) (K : PySem.W.Frag) (mg : Str → Option Value) (base : Heap) (cls : Nat → Option Addr) (k : Nat) (x : Str) (c : Nat) : Prop where
  mko : ∀ X : Cx, X.prog = P → X.w = w → X.K = K → X.mg = mg → X.base = base → Room k X.A → Gl X x → (x == ("__debug__" : Str)) = false → MkOk X cls x c
/-- what of a def may be called -/
structure FnF (P : Program) (w : World) (K : PySem.W.Frag) (mg : Str → Option Value) (base : Heap) (cls : Nat → Option Addr) (TB : List (Addr × Str)) (k : Nat) (x : Str) (g : Fn) : Prop where
  ok : ∃ fa fd ps, FnOk P w K mg base (L2N.CX P w) k fa fd ps (spOf K cls TB g) ∧ mg x = some (.ref fa) ∧ PySem.W.keepIn K (.ref fa) = true ∧ Binds K fd ps []
theorem FnF.mono {j k : Nat} {x : Str} {g : Fn} (h : FnF P w K mg base cls TB j x g) (hj : j ≤ k) : FnF P w K mg base cls TB k x g := by
  obtain ⟨fa, fd, ps, h1, h2, h3, h4⟩ := h.ok
  exact ⟨fa, fd, ps, h1.mono hj, h2, h3, h4⟩
/-- THE RULE: a def by its translated body -/
theorem fn_sound {x qual : Str} {st : Stmt} {f : Addr} {oc : Value} {od an : Option Addr} {osl : Array (Option Value)} {kV doc pm cdv ct : Value} {ps : List Str} {k n : Nat} {S : SV} {bs : List PL.S} {g : Fn} {G : List Fn} (lk : K.lookup f = some ⟨oc, od, .func (PySem.W.fnOf x qual (defArgs st) (defBody st) (defScope st) .none kV doc pm an cdv ct), osl⟩) (hcd : PySem.W.codeIn K cdv qual = true) (sc : FnScope S.N ps (defScope st)) (hS : S.sc = defScope st) (hall : S.all = true) (hn : g.n = ps.length)
    (htr : mapS (trS n S) (defBody st) = some bs) (hk : Keeps G S.N.length bs g) (hG : ∀ x f, S.FN.lookup x = some f → ∃ g', G[f]? = some g' ∧ FnF P w K mg base cls TB k x g')
    (hcn : ∀ x i, S.CN.lookup x = some i → ∃ u, mg x = some (.int i u)) (hbl : ∀ x ∈ bltNames, mg x = none) (hco : ∀ x c, S.CO.lookup x = some c → ClsF P w K mg base cls k x c)
    (hhr : ∀ x tab, S.HR.lookup x = some tab → HearF K mg cls x tab ∧ (∃ c Pt, cdv = .ref c ∧ LamX.TabB base mg c Pt ∧ (Pt, (envOfC qual (defScope st) 0 0 cdv).qual ++ "<lambda>") ∈ TB ∧ ∀ p ∈ TB, p.1 = Pt → p.2 = (envOfC qual (defScope st) 0 0 cdv).qual ++ "<lambda>") ∧ ∃ j, k = j + 2 ∧ ∀ y f, S.FN.lookup y = some f → ∃ g', G[f]? = some g' ∧ FnF P w K mg base cls TB j y g') :
    FnOk P w K mg base (L2N.CX P w) (k + 1) f (PySem.W.fnOf x qual (defArgs st) (defBody st) (defScope st) .none kV doc pm an cdv ct) ps (spOf K cls TB g) := by
  refine fn_of lk hcd sc (fun vs H Q E h => by rw [h.1, hn]) fun A outer s H vs Q E hr h => ?_
  obtain ⟨hlen, Fz, fp, ds, Qp, Xp, ho, fl, tb, hrun, hret, hel⟩ := h
  have c : CtxF S (cxOf (L2N.CX P w) P w K mg base S.N qual (defScope st) f cdv A outer s H E) cls TB E G := {
    calm := rfl
    eN := rfl
    nd := sc.nd
    sc := hS.symm
    hu := hr.units
    fns := fun x f hx => by
      obtain ⟨g', h1, h2⟩ := hG x f hx
      obtain ⟨fa, fd, ps, h3, h4, h5, h6⟩ := h2.ok
      exact ⟨g', k, fa, fd, ps, h1, h3, hr, h4, h5, h6⟩
    cn := hcn
    bl := hbl
    pas := L2N.passes_call (L2N.takes_of rfl rfl rfl rfl) fun _ _ _ _ h => h
    fn := fun _ _ => .inl rfl
    hrs := fun x tab hx => by
      obtain ⟨h1, ⟨c, Pt, h2, h3, h4, h5⟩, j, h6, h7⟩ := hhr x tab hx
      subst h6
      refine ⟨h1, ⟨c, Pt, h3, h2, h4, h5⟩, j, hr, fun y f hy => ?_⟩
      obtain ⟨g', g1, g2⟩ := h7 y f hy
      obtain ⟨fa, fd, ps, h3, h4, h5, h6⟩ := g2.ok
      exact ⟨g', fa, fd, ps, g1, h3, h4, h5, h6⟩
    kind := sc.kind
    own := passes_of rfl
    tk := L2N.takes_of rfl rfl rfl rfl
    co := fun x cc hg hc => (hco x cc hc).mko _ rfl rfl rfl rfl rfl hr (by
      obtain ⟨a, b⟩ : S.kind x = some .globalImplicit ∧ True := by
        unfold SV.gl at hg
        split at hg
        · exact ⟨by assumption, True.intro⟩
        · cases hg
      show (defScope st).names.lookup x = _
      rw [← hS]
      exact a) (by
      unfold SV.gl at hg
      split at hg
      · have := (of_decide_eq_true hg).1
        simpa using this
      · cases hg) }
  have ok : ∀ fx, PSs (cxOf (L2N.CX P w) P w K mg base S.N qual (defScope st) f cdv A outer s H E) (defBody st) (LS K cls TB E Xp fx (wSs G Xp fx bs)) := mapS_ok (fun s t h => trS_ok n c h) htr
  refine ⟨_, ok (lentI g.lent 0 g.n), startE S.N.length ds, Fz, fp, _, ⟨OwnE.start ho, hel, tb, fl⟩, (hk ds Qp Xp hrun).2, ?_⟩
  have hb : Bear (L2.start S.N vs) (lentI g.lent 0 g.n) (lentV g.lent 0 vs) := by
    rw [← hlen]
    refine Bear.lent fun i v hv => ?_
    have hi := (List.getElem?_eq_some_iff.mp hv).1
    unfold L2.start
    rw [Nat.zero_add, List.getElem?_append_left (by simpa using hi), List.getElem?_map, hv]
    rfl
  have rt : ∀ d ρ' σ' v H' Fz' fv fp', Rt g Qp d ρ' → StpS K (lentI g.lent 0 g.n) (L2.start S.N vs) fp Fz H ρ' σ' Fz' H' fp' → Own K Fz' H' d v fv → Dis fv fp' → Sub fp H fv → Q v H' := fun d ρ' σ' v H' Fz' fv fp' ⟨ls, g1, g2⟩ p o dj sv => by
    obtain ⟨flx, o2, s2⟩ := OwnE.gets p.e g1 (hb.fix p.fix)
    exact hret d ls v H' Fz' fv flx g2 p.r o o2 (fun a ha hb => dj a ha (s2 a hb)) sv fun a ha => p.s a (s2 a ha)
  exact ⟨fun ρ' σ' H' Fz' fp' a p => rt (.p .non) ρ' σ' .non H' Fz' [] fp' a p ⟨rfl, rfl⟩ Dis.nil Sub.nil, fun _ _ _ _ _ a _ => a.elim, fun _ _ _ _ _ a _ => a.elim, rt⟩
end
end PL
set_option Elab.async false
set_option linter.all false
set_option maxRecDepth 100000
set_option maxHeartbeats 8000000
/-! An own error with an __init__ of its own is made. -/
namespace PL
open PySem PySem.Spec PyProof.Rows L2
variable [QN]
section
variable {X : Cx} {pins : List (Addr × Obj)} {o e : Expr} {es : List Expr} {to te : TE} {ta : TA} {f : Str} {p p' p1 p2 pos : Pos}
theorem pmkN_oex {CX : CXT} {x : Str} {C fI : Addr} {k : Nat} {fd : FuncData} {ps : List Str} {sp : Sp} {ds : List Value} {dvs : List V} (T : OexC X.K C) (iC : PySem.W.findIn X.K (.ref C) "__init__" = some (some (.ref fI))) (tI : PySem.W.typeIn X.K (.ref fI) = some (.type "function"))
    (F1 : FnOk X.prog X.w X.K X.mg X.base CX k fI fd ps sp) (hr : Room (k + 1) X.A) (hb : Binds X.K fd ps ds) (hd : Vals dvs ds) (hx : Passes CX X (fun _ _ _ => False)) (hg : Gl X x) (hm : X.mg x = some (.ref C)) (ha : PA X (e :: es) ta)
    (hdb : (x == ("__debug__" : Str)) = false := by decide) (he : starEach (e :: es) X.env = (false, eval e X.env) :: starEach es X.env := by rfl) (hpl : (backTo pos (starEach es X.env)).any (·.1) = false := by rfl) :
    L2N.PMk X (.Call (.Name x p) (e :: es) [] pos) (tMkO C sp dvs ta) := by
  intro pins s σ H Q I h
  obtain ⟨nm, q, N, bs, bm, sn, sub, ab, col, dd, k0, k1, k2, k3, k5, hC, hbm⟩ := T.cls
  refine wpAny_Call_Name_kw (ld_glob I hg hm ?_ hdb)
  refine PySem.W.callWith_K (h₀ := X.base) I.ok.mod.kin T.kC (thn (ha.run pos pins s σ H _ I h) fun us s1 ⟨vs, H1, I1, r1, hz, q1⟩ => ⟨I1.kIn, ?_⟩) he hpl
  show wpAny _ _ (call (.ref C) us) _ _ _
  obtain ⟨hp, g, dr, tk, os⟩ := s1
  have hsz : hp.objs.size ≤ hp.objs.size + 1 := Nat.le_succ _
  have hn : H1 (hp.objs.size + 1) = none := I1.hok.fresh hsz
  have hq := q1 (hp.objs.size + 1) hn
  have kk : ∀ b o, hp.get? b = some o → ((hp.push (PySem.W.kdv_tup us)).push (PySem.HandSPX.excO C hp.objs.size)).get? b = some o := fun b o e => Heap.get?_push_of_some _ (Heap.get?_push_of_some _ e)
  have hget : ((hp.push (PySem.W.kdv_tup us)).push (PySem.HandSPX.excO C hp.objs.size)).get? (hp.objs.size + 1) = some (PySem.HandSPX.excO C hp.objs.size) := by heap_get
  have I2 : Inv X pins σ (upd H1 (hp.objs.size + 1) (exo (hp.objs.size + 1) C none)) ⟨(hp.push (PySem.W.kdv_tup us)).push (PySem.HandSPX.excO C hp.objs.size), g, dr, tk, os⟩ :=
    I1.laid (t' := tk) (a := hp.objs.size + 1) (o := exo (hp.objs.size + 1) C none) (h' := (hp.push (PySem.W.kdv_tup us)).push (PySem.HandSPX.excO C hp.objs.size)) kk hsz (exo_ok hget)
  have r2 : Vals (V.ref (hp.objs.size + 1) :: (vs ++ dvs)) (Value.ref (hp.objs.size + 1) :: (us ++ ds)) := .cons rfl (r1.append hd)
  have hl : (Value.ref (hp.objs.size + 1) :: us ++ ds).length = ps.length := by
    have e := r2.length
    rw [F1.len _ _ _ _ hq] at e
    exact e.symm
  have hus : us.length ≤ sizeLine := by
    rw [← Paired.length r1, sizeLine_eq]
    omega
  refine wpAny_call (PySem.HandSPX.call_own F.excBase_ValueError (fun Y => PySem.HandSPX.refsVE_contains Y bm hbm) (I1.kIn _ _ hC) (PySem.W.looks_findIn I1.kIn iC) (fun self => PySem.W.bind_fn I1.kIn self tI) hus
    (codeAny_mono (F1.run _ X.stack _ _ ⟨Value.ref (hp.objs.size + 1) :: us, []⟩ (Value.ref (hp.objs.size + 1) :: (us ++ ds)) _ _ (fun _ _ _ => False) (hr.make C us []) (I2.env0.make C us []) (hb _ (Value.ref (hp.objs.size + 1) :: us) I2.kIn hl) r2 hq) fun r s' hq' => ?_))
  cases r with
  | error er => exact hx pins σ _ _ er s' I2 hq'
  | ok fl =>
    cases fl with
    | ret u =>
      obtain ⟨v, H2, os2, bare2, un2, hok2, rv, ev, d, fs, ea, ed, hd1, q2⟩ := hq'
      subst ev
      obtain ⟨h2, g2, d2, t2, os'⟩ := s'
      obtain ⟨t0, G, J, kG, ge, hoe, na⟩ := mk_end0 (d2 := d2) (t2 := t2) I1 hsz kk un2 hok2 os2 bare2 ea ed hd1
      exact ⟨rv, _, _, _, ⟨G, g2, d2, t2, os'⟩, _, .ref C, some d, rfl, J, kG, ge, hoe, ⟨rfl, rfl, fun vs e => by cases e; rfl⟩, rfl, rfl, na, rfl, bare2, raises_own T.exC T.tyC, q2⟩
    | next => exact False.elim hq'
    | brk => exact False.elim hq'
    | cont => exact False.elim hq'
end
theorem passN_any {X : Cx} : Passes (L2N.CX X.prog X.w) X (fun _ _ _ => False) := passN
/-- __init__ of the own errors: what is kept -/
def spInit (K : PySem.W.Frag) : Sp := fun vs H Q E => ∃ (a C : Addr) (v : V), vs = [.ref a, v] ∧ OexC K C ∧ PySem.W.findIn K (.ref C) "what" = some none ∧ H a = some (exo a C none) ∧
  ∀ dx, H dx = none → dx ≠ a → Q .non (upd (upd H dx (exd dx [("what", v)])) a (exo a C (some dx)))
section
variable {P : Program} {w : World} {K : PySem.W.Frag} {mg : Str → Option Value} {base : Heap} {cls : Nat → Option Addr}
theorem ok_init {x qual : Str} {st : Stmt} {f : Addr} {oc : Value} {od an : Option Addr} {osl : Array (Option Value)} {kV doc pm cdv ct : Value} {p1 p2 p3 p4 p5 p6 p7 p8 p9 p10 : Pos}
    (lk : K.lookup f = some ⟨oc, od, .func (PySem.W.fnOf x qual (defArgs st) (defBody st) (defScope st) .none kV doc pm an cdv ct), osl⟩) (hcd : PySem.W.codeIn K cdv qual = true) (sc : FnScope ["self", "what"] ["self", "what"] (defScope st))
    (hb : defBody st = [.Expr (.Call (.Attribute (.Name "ValueError" p1) "__init__" p2) [.Name "self" p3, .Name "what" p4] [] p5) p6, .Assign [.Attribute (.Name "self" p7) "what" p8] (.Name "what" p9) p10])
    (hs1 : (defScope st).names.lookup ("self" : Str) = some .local) (hs2 : (defScope st).names.lookup ("what" : Str) = some .local) (hs3 : (defScope st).names.lookup ("ValueError" : Str) = some .globalImplicit)
    (pl : Env → Sem Bool) (hev : ∀ env : Env, eval (.Call (.Attribute (.Name "ValueError" p1) "__init__" p2) [.Name "self" p3, .Name "what" p4] [] p5) env = (do
      let ov ← eval (.Name "ValueError" p1) env
      standAt p2.atName
      let (f, first) ← holding [ov] (getMethod ov "__init__" (pl env))
      callWith p5 f first (backTo p5 (starEach [.Name "self" p3, .Name "what" p4] env)) (backToKw p5 (keywordEach [] env))))
    (hm : mg "ValueError" = none) (vV : PySem.W.findCls K (.type "ValueError") (.type "type") "__init__" = some (.val (.builtin "ValueError.__init__"))) (k : Nat) :
    FnOk P w K mg base (L2N.CX P w) (k + 1) f (PySem.W.fnOf x qual (defArgs st) (defBody st) (defScope st) .none kV doc pm an cdv ct) ["self", "what"] (spInit K) := by
  refine fn_of lk hcd sc (fun vs H Q E h => by obtain ⟨a, C, v, e, _⟩ := h; rw [e]; rfl) fun A outer s H vs Q E hr h => ?_
  obtain ⟨a, C, v, e, T, hno, ha, hq⟩ := h
  subst e
  rw [hb]
  have v1 : ∀ {p : Pos}, PE (cxOf (L2N.CX P w) P w K mg base ["self", "what"] qual (defScope st) f cdv A outer s H E) (.Name "self" p) (tVar 0) := fun {p} => pe_var rfl (.inl hs1) (by decide) (by decide)
  have v2 : ∀ {p : Pos}, PE (cxOf (L2N.CX P w) P w K mg base ["self", "what"] qual (defScope st) f cdv A outer s H E) (.Name "what" p) (tVar 1) := fun {p} => pe_var rfl (.inl hs2) (by decide) (by decide)
  refine ⟨_, pss_cons (ps_expr (pe_veinit (pl := pl _) hs3 hm vV (pa_cons v1 (pa_cons v2 pa_nil rfl) rfl) (hev _) rfl rfl) rfl) (pss_one (ps_ost (f := "what") v1 v2 rfl)), ?_⟩
  refine ⟨.ref a, rfl, v, rfl, a, C, [v], rfl, by simp, T, ha, v, rfl, .ref a, rfl, a, C, rfl, T, hno, .inl ⟨ha, fun dx hd hne => hq dx hd hne⟩⟩
theorem clsF_of {x : Str} {C fI : Addr} {k0 c : Nat} {fd : FuncData} (T : OexC K C) (hno : PySem.W.findIn K (.ref C) "what" = some none) (iC : PySem.W.findIn K (.ref C) "__init__" = some (some (.ref fI))) (tI : PySem.W.typeIn K (.ref fI) = some (.type "function"))
    (F1 : FnOk P w K mg base (L2N.CX P w) k0 fI fd ["self", "what"] (spInit K)) (hb : Binds K fd ["self", "what"] []) (hm : mg x = some (.ref C)) (hc : cls c = some C) : ClsF P w K mg base cls (k0 + 1) x c where
  mko := fun X e1 e2 e3 e4 e5 hr hg hd => by
    subst e1 e2 e3 e4 e5
    refine ⟨C, fun v H1 Q => [v].length ≤ 1000 ∧ ∀ a, H1 a = none → spInit X.K (.ref a :: ([v] ++ [])) (upd H1 a (exo a C none)) (fun v H2 => v = .non ∧ ∃ (d : Addr) (fs : List (Str × V)), H2 a = some (exo a C (some d)) ∧ H2 d = some (exd d fs) ∧ H1 d = none ∧ Q (.ref C) (some d) (upd (del H2 a) d (.xd fs))) (fun _ _ _ => False), hc, fun v H1 Q h => ⟨by simp, fun a ha => ?_⟩, fun e p pos te he hst => ?_⟩
    · refine ⟨a, C, v, rfl, T, hno, upd_same, fun dx hd hne => ⟨rfl, dx, [("what", v)], upd_same, ?_, ?_, ?_⟩⟩
      · rw [upd_ne hne, upd_same]
      · rw [upd_ne hne] at hd; exact hd
      · have hd1 : H1 dx = none := by rw [upd_ne hne] at hd; exact hd
        have e : upd (del (upd (upd (upd H1 a (exo a C none)) dx (exd dx [("what", v)])) a (exo a C (some dx))) a) dx (.xd [("what", v)]) = upd H1 dx (.xd [("what", v)]) := by
          funext b
          by_cases h1 : b = dx
          · rw [h1, upd_same, upd_same]
          · rw [upd_ne h1, upd_ne h1]
            by_cases h2 : b = a
            · rw [h2, del_same, ha]
            · rw [del_ne h2, upd_ne h2, upd_ne h1, upd_ne h2]
        rw [e]
        exact h dx hd1
    · exact pmkN_oex (X := X) (p := p) (pos := pos) (e := e) (es := []) (ta := tCons te tNil) T iC tI F1 hr hb .nil passN_any hg hm (pa_cons he pa_nil (hst [])) hd (hst []) rfl
end
end PL
set_option linter.all false
set_option maxRecDepth 100000
set_option maxHeartbeats 400000
/-! The small language's meaning as rules for simp. -/
namespace PL
open PySem PySem.Spec PyProof.Rows L2 LamX
variable {G : List Fn} {EX : Nat → P → Prop} {ρ : Env'} {Q : KE} {D' : En} {fx : List Nat}
/-- a body, not gone into before its turn comes -/
def bodyS (G : List Fn) (EX : Nat → P → Prop) (fx : List Nat) (body : List S) : Env' → En → Prop := fun r d => wSs G EX fx body r d
@[simp ↓] theorem bodyS_app {body : List S} : bodyS G EX fx body ρ D' = wSs G EX fx body ρ D' := rfl
def termC (G : List Fn) (EX : Nat → P → Prop) (e : T) : Env' → KE → Prop := fun r q => w G EX e r q
@[simp ↓] theorem termC_app {e : T} : termC G EX e ρ Q = w G EX e ρ Q := rfl
@[simp ↓] theorem w_var {i : Nat} : w G EX (.var i) ρ Q = frV ρ i fun x ρ' => Q (.p x) ρ' := rfl
@[simp ↓] theorem w_int {i : Int} : w G EX (.int i) ρ Q = Q (.p (.int i)) ρ := rfl
@[simp ↓] theorem w_bl {i : Bool} : w G EX (.bl i) ρ Q = Q (.p (.bl i)) ρ := rfl
@[simp ↓] theorem w_non : w G EX .non ρ Q = Q (.p .non) ρ := rfl
@[simp ↓] theorem w_str {x : Str} : w G EX (.str x) ρ Q = Q (.p (.str x)) ρ := rfl
@[simp ↓] theorem w_bin {op : BOp} {a b : T} : w G EX (.bin op a b) ρ Q = opd a (w G EX a) ρ fun o1 ρ1 => opd b (w G EX b) ρ1 fun o2 ρ2 => vwO ρ2 o1 fun x => vwO ρ2 o2 fun y => opB op x y fun d => Q d ρ2 := rfl
@[simp ↓] theorem w_neg {a : T} : w G EX (.neg a) ρ Q = opd a (w G EX a) ρ fun o1 ρ1 => vwO ρ1 o1 fun x => ∃ i, x = .int i ∧ Q (.p (.int (-i))) ρ1 := rfl
@[simp ↓] theorem w_cmp {op : COp} {a b : T} : w G EX (.cmp op a b) ρ Q = opd a (w G EX a) ρ fun o1 ρ1 => opd b (w G EX b) ρ1 fun o2 ρ2 => vwO ρ2 o1 fun x => vwO ρ2 o2 fun y => opC op x y fun c => Q (.p (.bl c)) ρ2 := rfl
@[simp ↓] theorem w_isN {n : Bool} {a : T} : w G EX (.isN n a) ρ Q = opd a (w G EX a) ρ fun o1 ρ1 => vwO ρ1 o1 fun x => Q (.p (.bl (n ^^ isNon x))) ρ1 := rfl
@[simp ↓] theorem w_chain {op op' : COp} {a b c : T} : w G EX (.chain op op' a b c) ρ Q = opd a (w G EX a) ρ fun o1 ρ1 => opd b (w G EX b) ρ1 fun o2 ρ2 => vwO ρ2 o1 fun x => vwO ρ2 o2 fun y => opC op x y fun k =>
      if k = true then opd c (w G EX c) ρ2 fun o3 ρ3 => vwO ρ3 o2 fun y' => vwO ρ3 o3 fun z => opC op' y' z fun k' => Q (.p (.bl k')) ρ3 else Q (.p (.bl false)) ρ2 := rfl
@[simp ↓] theorem w_and {a b : T} : w G EX (.and a b) ρ Q = w G EX a ρ fun d ρ1 => ∃ c, d = .p (.bl c) ∧ if c = true then w G EX b ρ1 Q else Q (.p (.bl false)) ρ1 := rfl
@[simp ↓] theorem w_or {a b : T} : w G EX (.or a b) ρ Q = w G EX a ρ fun d ρ1 => ∃ c, d = .p (.bl c) ∧ if c = true then Q (.p (.bl true)) ρ1 else w G EX b ρ1 Q := rfl
@[simp ↓] theorem w_not {a : T} : w G EX (.not a) ρ Q = w G EX a ρ fun d ρ1 => ∃ c, d = .p (.bl c) ∧ Q (.p (.bl (!c))) ρ1 := rfl
@[simp ↓] theorem w_tru {a : T} : w G EX (.tru a) ρ Q = opd a (w G EX a) ρ fun o ρ1 => vwO ρ1 o fun x => truP x fun b => Q (.p (.bl b)) ρ1 := rfl
@[simp ↓] theorem w_ite {c a b : T} : w G EX (.ite c a b) ρ Q = w G EX c ρ fun d ρ1 => ∃ k, d = .p (.bl k) ∧ if k = true then w G EX a ρ1 Q else w G EX b ρ1 Q := rfl
@[simp ↓] theorem w_tup {es : List T} : w G EX (.tup es) ρ Q = wOs G EX es ρ fun os ρ1 => frOs ρ1 os fun xs ρ2 => xs.length ≤ sizeLine ∧ Q (.p (.tup xs)) ρ2 := rfl
@[simp ↓] theorem w_lst {es : List T} : w G EX (.lst es) ρ Q = wOs G EX es ρ fun os ρ1 => frOs ρ1 os fun xs ρ2 => xs.length ≤ sizeLine ∧ Q (.lst xs) ρ2 := rfl
@[simp ↓] theorem w_dic0 : w G EX .dic0 ρ Q = Q (.dic [] []) ρ := rfl
@[simp ↓] theorem w_sub {a i : T} : w G EX (.sub a i) ρ Q = opd a (w G EX a) ρ fun o1 ρ1 => opd i (w G EX i) ρ1 fun o2 ρ2 => vwO ρ2 o2 fun y => subO ρ2 o1 y Q := rfl
@[simp ↓] theorem w_slc {a lo hi : T} : w G EX (.slc a lo hi) ρ Q = opd a (w G EX a) ρ fun o1 ρ1 => w G EX lo ρ1 fun l ρ2 => ∃ l' : Option Int, partOk lo l l' ∧ w G EX hi ρ2 fun h ρ3 => ∃ h' : Option Int, partOk hi h h' ∧ vwO ρ3 o1 fun x => slcP x l' h' fun d => Q d ρ3 := rfl
@[simp ↓] theorem w_rev {a : T} : w G EX (.rev a) ρ Q = opd a (w G EX a) ρ fun o1 ρ1 => vwO ρ1 o1 fun x => revP x fun d => Q d ρ1 := rfl
@[simp ↓] theorem w_call {f : Nat} {es : List T} : w G EX (.call f es) ρ Q = ∃ g, G[f]? = some g ∧ wOs G EX es ρ fun os ρ1 => args g.lent 0 ρ1 os fun ds is ρ2 => ds.length = g.n ∧ g.run ds (fun r ls => putBack ρ2 is ls fun ρ3 => Q r ρ3) EX := rfl
@[simp ↓] theorem w_blt {b : Blt} {es : List T} : w G EX (.blt b es) ρ Q = wOs G EX es ρ fun os ρ1 => vwOs ρ1 os fun xs => bltS b xs fun d => Q d ρ1 := rfl
@[simp ↓] theorem w_isi {a : T} {t : Ty} : w G EX (.isi a t) ρ Q = opd a (w G EX a) ρ fun o1 ρ1 => vwO ρ1 o1 fun x => Q (.p (.bl (isTy t x))) ρ1 := rfl
@[simp ↓] theorem w_mth {m : Mth} {i : Nat} {es : List T} : w G EX (.mth m i es) ρ Q = ((∃ xs, ρ[i]? = some (some (.lst xs))) ∧ wOs G EX es ρ fun os ρ1 => mthA m ρ1 os fun xs ρ2 => ∃ d, ρ2[i]? = some (some d) ∧ mthS m d xs fun r d' => Q r (ρ2.set i (some d'))) := rfl
@[simp ↓] theorem w_lc {elt cond : T} {tg : Tg} {k : ItK} {srcs : List T} {own : List Nat} : w G EX (.lc elt tg k srcs cond own) ρ Q = wOs G EX srcs ρ fun os ρ1 => (∀ b ∈ brws ρ1 os, b.1 ∉ own) ∧ vwOs ρ1 os fun xs => itP k xs fun its =>
      lcT tg (termC G EX0 cond) (termC G EX0 elt) own (brws ρ1 os) its [] (wip ρ1 own) fun acc ρ2 => Q (.lst acc) ρ2 := rfl
@[simp ↓] theorem w_heard {tab : List (Nat × Str)} {e : T} {caps : List Nat} : w G EX (.heard tab e caps) ρ Q = frVs ρ caps fun ρ' => w G (fun c x => ∃ n, tab.lookup c = some n ∧ Q (.p (.tup [.str n, x])) ρ') e (pOnly ρ') fun d _ => Q (.p (.tup [.str "told", frz d])) ρ' := rfl
@[simp ↓] theorem wOs_nil {Q : List Opd → Env' → Prop} : wOs G EX [] ρ Q = Q [] ρ := rfl
@[simp ↓] theorem wOs_cons {e : T} {es : List T} {Q : List Opd → Env' → Prop} : wOs G EX (e :: es) ρ Q = opd e (w G EX e) ρ fun o ρ1 => wOs G EX es ρ1 fun os ρ2 => Q (o :: os) ρ2 := rfl
@[simp ↓] theorem wSs_nil : wSs G EX fx [] ρ D' = D'.nx ρ := rfl
@[simp ↓] theorem wSs_cons {s : S} {ss : List S} : wSs G EX fx (s :: ss) ρ D' = wS G EX fx s ρ { D' with nx := fun ρ1 => wSs G EX fx ss ρ1 D' } := rfl
@[simp ↓] theorem wS_set {i : Nat} {e : T} : wS G EX fx (.set i e) ρ D' = w G EX e ρ fun d ρ1 => i ∉ fx ∧ i < ρ1.length ∧ D'.nx (ρ1.set i (some d)) := rfl
@[simp ↓] theorem wS_par {is : List Nat} {es : List T} : wS G EX fx (.par is es) ρ D' = wOs G EX es ρ fun os ρ1 => mvOs ρ1 os fun ds ρ2 => setAll fx is ds ρ2 D'.nx := rfl
@[simp ↓] theorem wS_asg {tg : Tg} {e : T} : wS G EX fx (.asg tg e) ρ D' = w G EX e ρ fun d ρ1 => (match d with | .lst xs => ∃ ts, tg = .tup ts ∧ xs.length = ts.length ∧ tgsS fx ts xs ρ1 D'.nx | d => tgS fx tg (frz d) ρ1 D'.nx) := rfl
@[simp ↓] theorem wS_sst {i : Nat} {ix e : T} : wS G EX fx (.sst i ix e) ρ D' = w G EX e ρ fun d ρ1 => (∃ c, ρ1[i]? = some (some c)) ∧ opd ix (w G EX ix) ρ1 fun o ρ2 => vwO ρ2 o fun x => ∃ c, ρ2[i]? = some (some c) ∧ sstS c x (frz d) fun c' => D'.nx (ρ2.set i (some c')) := rfl
@[simp ↓] theorem wS_aug {i : Nat} {op : BOp} {e : T} : wS G EX fx (.aug i op e) ρ D' = ((∃ d, ρ[i]? = some (some d)) ∧ opd e (w G EX e) ρ fun o ρ1 => vwO ρ1 o fun y => i ∉ fx ∧ ∃ x, ρ1[i]? = some (some (.p x)) ∧ augS op x y fun d => D'.nx (ρ1.set i (some d))) := rfl
@[simp ↓] theorem wS_ex {e : T} : wS G EX fx (.ex e) ρ D' = w G EX e ρ fun _ ρ1 => D'.nx ρ1 := rfl
@[simp ↓] theorem wS_retV {i : Nat} : wS G EX fx (.ret (.var i)) ρ D' = if i ∈ fx then frV ρ i fun x ρ' => D'.rt (.p x) ρ' else ∃ d, ρ[i]? = some (some d) ∧ D'.rt d (ρ.set i none) := rfl
@[simp ↓] theorem wS_ret {e : T} (h : ∀ i, e ≠ .var i) : wS G EX fx (.ret e) ρ D' = w G EX e ρ D'.rt := by cases e <;> first | rfl | exact absurd rfl (h _)
@[simp ↓] theorem wS_retN : wS G EX fx .retN ρ D' = D'.rt (.p .non) ρ := rfl
@[simp ↓] theorem wS_ite {c : T} {a b : List S} : wS G EX fx (.ite c a b) ρ D' = w G EX c ρ fun d ρ1 => ∃ k, d = .p (.bl k) ∧ if k = true then wSs G EX fx a ρ1 D' else wSs G EX fx b ρ1 D' := rfl
@[simp ↓] theorem wS_for {tg : Tg} {k : ItK} {srcs : List T} {body : List S} : wS G EX fx (.forS tg k srcs body) ρ D' = wOs G EX srcs ρ fun os ρ1 => vwOs ρ1 os fun xs => itP k xs fun its =>
      forT ((brws ρ1 os).map (·.1) ++ fx) tg (bodyS G EX ((brws ρ1 os).map (·.1) ++ fx) body) (brws ρ1 os) its ρ1 D' := rfl
@[simp ↓] theorem wS_whl {c : T} {body : List S} : wS G EX fx (.whl c body) ρ D' = whlT (termC G EX c) (bodyS G EX fx body) ρ D' := rfl
@[simp ↓] theorem wS_rais {c : Nat} {e : T} : wS G EX fx (.rais c e) ρ D' = w G EX e ρ fun d _ => EX c (frz d) := rfl
@[simp ↓] theorem wS_brk : wS G EX fx .brk ρ D' = D'.bk ρ := rfl
@[simp ↓] theorem wS_cnt : wS G EX fx .cnt ρ D' = D'.ct ρ := rfl
@[simp ↓] theorem wS_pas : wS G EX fx .pas ρ D' = D'.nx ρ := rfl
/-! operands -/
@[simp ↓] theorem opd_var {i : Nat} {wa : Env' → KE → Prop} {Q : Opd → Env' → Prop} : opd (.var i) wa ρ Q = ((∃ d, ρ[i]? = some (some d)) ∧ Q (.late i) ρ) := rfl
theorem opd_of {a : T} {wa : Env' → KE → Prop} {Q : Opd → Env' → Prop} (h : ∀ i, a ≠ .var i) : opd a wa ρ Q = wa ρ fun d ρ' => Q (.val d) ρ' := by cases a <;> first | rfl | exact absurd rfl (h _)
@[simp ↓] theorem opd_int {i : Int} {wa : Env' → KE → Prop} {Q : Opd → Env' → Prop} : opd (.int i) wa ρ Q = wa ρ fun d ρ' => Q (.val d) ρ' := rfl
@[simp ↓] theorem opd_bl {i : Bool} {wa : Env' → KE → Prop} {Q : Opd → Env' → Prop} : opd (.bl i) wa ρ Q = wa ρ fun d ρ' => Q (.val d) ρ' := rfl
@[simp ↓] theorem opd_non {wa : Env' → KE → Prop} {Q : Opd → Env' → Prop} : opd .non wa ρ Q = wa ρ fun d ρ' => Q (.val d) ρ' := rfl
@[simp ↓] theorem opd_str {x : Str} {wa : Env' → KE → Prop} {Q : Opd → Env' → Prop} : opd (.str x) wa ρ Q = wa ρ fun d ρ' => Q (.val d) ρ' := rfl
@[simp ↓] theorem opd_bin {op : BOp} {a b : T} {wa : Env' → KE → Prop} {Q : Opd → Env' → Prop} : opd (.bin op a b) wa ρ Q = wa ρ fun d ρ' => Q (.val d) ρ' := rfl
@[simp ↓] theorem opd_neg {a : T} {wa : Env' → KE → Prop} {Q : Opd → Env' → Prop} : opd (.neg a) wa ρ Q = wa ρ fun d ρ' => Q (.val d) ρ' := rfl
@[simp ↓] theorem opd_cmp {op : COp} {a b : T} {wa : Env' → KE → Prop} {Q : Opd → Env' → Prop} : opd (.cmp op a b) wa ρ Q = wa ρ fun d ρ' => Q (.val d) ρ' := rfl
@[simp ↓] theorem opd_isN {n : Bool} {a : T} {wa : Env' → KE → Prop} {Q : Opd → Env' → Prop} : opd (.isN n a) wa ρ Q = wa ρ fun d ρ' => Q (.val d) ρ' := rfl
@[simp ↓] theorem opd_chain {o o' : COp} {a b c : T} {wa : Env' → KE → Prop} {Q : Opd → Env' → Prop} : opd (.chain o o' a b c) wa ρ Q = wa ρ fun d ρ' => Q (.val d) ρ' := rfl
@[simp ↓] theorem opd_and {a b : T} {wa : Env' → KE → Prop} {Q : Opd → Env' → Prop} : opd (.and a b) wa ρ Q = wa ρ fun d ρ' => Q (.val d) ρ' := rfl
@[simp ↓] theorem opd_or {a b : T} {wa : Env' → KE → Prop} {Q : Opd → Env' → Prop} : opd (.or a b) wa ρ Q = wa ρ fun d ρ' => Q (.val d) ρ' := rfl
@[simp ↓] theorem opd_not {a : T} {wa : Env' → KE → Prop} {Q : Opd → Env' → Prop} : opd (.not a) wa ρ Q = wa ρ fun d ρ' => Q (.val d) ρ' := rfl
@[simp ↓] theorem opd_ite {a b c : T} {wa : Env' → KE → Prop} {Q : Opd → Env' → Prop} : opd (.ite a b c) wa ρ Q = wa ρ fun d ρ' => Q (.val d) ρ' := rfl
@[simp ↓] theorem opd_tup {a : List T} {wa : Env' → KE → Prop} {Q : Opd → Env' → Prop} : opd (.tup a) wa ρ Q = wa ρ fun d ρ' => Q (.val d) ρ' := rfl
@[simp ↓] theorem opd_lst {a : List T} {wa : Env' → KE → Prop} {Q : Opd → Env' → Prop} : opd (.lst a) wa ρ Q = wa ρ fun d ρ' => Q (.val d) ρ' := rfl
@[simp ↓] theorem opd_dic0 {wa : Env' → KE → Prop} {Q : Opd → Env' → Prop} : opd .dic0 wa ρ Q = wa ρ fun d ρ' => Q (.val d) ρ' := rfl
@[simp ↓] theorem opd_sub {a b : T} {wa : Env' → KE → Prop} {Q : Opd → Env' → Prop} : opd (.sub a b) wa ρ Q = wa ρ fun d ρ' => Q (.val d) ρ' := rfl
@[simp ↓] theorem opd_slc {a b c : T} {wa : Env' → KE → Prop} {Q : Opd → Env' → Prop} : opd (.slc a b c) wa ρ Q = wa ρ fun d ρ' => Q (.val d) ρ' := rfl
@[simp ↓] theorem opd_rev {a : T} {wa : Env' → KE → Prop} {Q : Opd → Env' → Prop} : opd (.rev a) wa ρ Q = wa ρ fun d ρ' => Q (.val d) ρ' := rfl
@[simp ↓] theorem opd_call {f : Nat} {a : List T} {wa : Env' → KE → Prop} {Q : Opd → Env' → Prop} : opd (.call f a) wa ρ Q = wa ρ fun d ρ' => Q (.val d) ρ' := rfl
@[simp ↓] theorem opd_blt {f : Blt} {a : List T} {wa : Env' → KE → Prop} {Q : Opd → Env' → Prop} : opd (.blt f a) wa ρ Q = wa ρ fun d ρ' => Q (.val d) ρ' := rfl
@[simp ↓] theorem opd_isi {a : T} {t : Ty} {wa : Env' → KE → Prop} {Q : Opd → Env' → Prop} : opd (.isi a t) wa ρ Q = wa ρ fun d ρ' => Q (.val d) ρ' := rfl
@[simp ↓] theorem opd_mth {m : Mth} {i : Nat} {a : List T} {wa : Env' → KE → Prop} {Q : Opd → Env' → Prop} : opd (.mth m i a) wa ρ Q = wa ρ fun d ρ' => Q (.val d) ρ' := rfl
@[simp ↓] theorem opd_lc {e c : T} {tg : Tg} {k : ItK} {ss : List T} {own : List Nat} {wa : Env' → KE → Prop} {Q : Opd → Env' → Prop} : opd (.lc e tg k ss c own) wa ρ Q = wa ρ fun d ρ' => Q (.val d) ρ' := rfl
@[simp ↓] theorem opd_heard {tab : List (Nat × Str)} {e : T} {caps : List Nat} {wa : Env' → KE → Prop} {Q : Opd → Env' → Prop} : opd (.heard tab e caps) wa ρ Q = wa ρ fun d ρ' => Q (.val d) ρ' := rfl
@[simp ↓] theorem vwO_val {d : D} {Q : P → Prop} : vwO ρ (.val d) Q = Q (frz d) := rfl
@[simp ↓] theorem vwO_lt {i : Nat} {d : D} {Q : P → Prop} (h : ρ[i]? = some (some d)) : vwO ρ (.late i) Q = Q (frz d) := by simp only [vwO, look, h]; rfl
@[simp ↓] theorem vwOs_nil {Q : List P → Prop} : vwOs ρ [] Q = Q [] := rfl
@[simp ↓] theorem vwOs_cons {o : Opd} {os : List Opd} {Q : List P → Prop} : vwOs ρ (o :: os) Q = vwO ρ o fun x => vwOs ρ os fun xs => Q (x :: xs) := rfl
@[simp ↓] theorem frV_p {i : Nat} {x : P} {Q : P → Env' → Prop} (h : ρ[i]? = some (some (.p x))) : frV ρ i Q = Q x ρ := by unfold frV; rw [h]; rfl
@[simp ↓] theorem frV_lst {i : Nat} {x : List P} {Q : P → Env' → Prop} (h : ρ[i]? = some (some (.lst x))) : frV ρ i Q = Q (.lst x) (ρ.set i (some (.p (.lst x)))) := by unfold frV; rw [h]; rfl
@[simp ↓] theorem frO_val {d : D} {Q : P → Env' → Prop} : frO ρ (.val d) Q = Q (frz d) ρ := rfl
@[simp ↓] theorem frO_late {i : Nat} {Q : P → Env' → Prop} : frO ρ (.late i) Q = frV ρ i Q := rfl
@[simp ↓] theorem frOs_nil {Q : List P → Env' → Prop} : frOs ρ [] Q = Q [] ρ := rfl
@[simp ↓] theorem frOs_cons {o : Opd} {os : List Opd} {Q : List P → Env' → Prop} : frOs ρ (o :: os) Q = frO ρ o fun x ρ1 => frOs ρ1 os fun xs ρ2 => Q (x :: xs) ρ2 := rfl
@[simp ↓] theorem mvO_val {d : D} {Q : KE} : mvO ρ (.val d) Q = Q d ρ := rfl
@[simp ↓] theorem mvO_late {i : Nat} {Q : KE} : mvO ρ (.late i) Q = frV ρ i fun x ρ' => Q (.p x) ρ' := rfl
@[simp ↓] theorem mvOs_nil {Q : List D → Env' → Prop} : mvOs ρ [] Q = Q [] ρ := rfl
@[simp ↓] theorem mvOs_cons {o : Opd} {os : List Opd} {Q : List D → Env' → Prop} : mvOs ρ (o :: os) Q = mvO ρ o fun x ρ1 => mvOs ρ1 os fun xs ρ2 => Q (x :: xs) ρ2 := rfl
@[simp ↓] theorem frz_p {x : P} : frz (.p x) = x := by unfold frz; rfl
@[simp ↓] theorem frz_lst {x : List P} : frz (.lst x) = .lst x := by unfold frz; rfl
@[simp ↓] theorem args_nil {l : List Nat} {j : Nat} {Q : List D → List Nat → Env' → Prop} : args l j ρ [] Q = Q [] [] ρ := rfl
@[simp ↓] theorem args_none {j : Nat} {o : Opd} {os : List Opd} {Q : List D → List Nat → Env' → Prop} : args [] j ρ (o :: os) Q = frO ρ o fun x ρ1 => args [] (j + 1) ρ1 os fun ds is ρ' => Q (.p x :: ds) is ρ' := rfl
@[simp ↓] theorem args_jar {i : Nat} {os : List Opd} {Q : List D → List Nat → Env' → Prop} : args [0] 0 ρ (.late i :: os) Q = match (ρ[i]?).join with
        | some d => args [0] 1 (ρ.set i none) os fun ds is ρ' => Q (d :: ds) (i :: is) ρ'
        | none => False := rfl
@[simp ↓] theorem args_jar' {j : Nat} {o : Opd} {os : List Opd} {Q : List D → List Nat → Env' → Prop} : args [0] (j + 1) ρ (o :: os) Q = frO ρ o fun x ρ1 => args [0] (j + 2) ρ1 os fun ds is ρ' => Q (.p x :: ds) is ρ' := by
  show (if j + 1 ∈ [0] then _ else _) = _
  rw [if_neg (by simp)]
@[simp ↓] theorem args_jl0 {i : Nat} {os : List Opd} {Q : List D → List Nat → Env' → Prop} : args [0, 1] 0 ρ (.late i :: os) Q = match (ρ[i]?).join with
        | some d => args [0, 1] 1 (ρ.set i none) os fun ds is ρ' => Q (d :: ds) (i :: is) ρ'
        | none => False := rfl
@[simp ↓] theorem args_jl1 {i : Nat} {os : List Opd} {Q : List D → List Nat → Env' → Prop} : args [0, 1] 1 ρ (.late i :: os) Q = match (ρ[i]?).join with
        | some d => args [0, 1] 2 (ρ.set i none) os fun ds is ρ' => Q (d :: ds) (i :: is) ρ'
        | none => False := rfl
@[simp ↓] theorem args_jl1v {d : D} {os : List Opd} {Q : List D → List Nat → Env' → Prop} : args [0, 1] 1 ρ (.val d :: os) Q = args [0, 1] 2 ρ os fun ds is ρ' => Q (d :: ds) (ρ'.length :: is) ρ' := rfl
@[simp ↓] theorem args_jl2 {j : Nat} {o : Opd} {os : List Opd} {Q : List D → List Nat → Env' → Prop} : args [0, 1] (j + 2) ρ (o :: os) Q = frO ρ o fun x ρ1 => args [0, 1] (j + 3) ρ1 os fun ds is ρ' => Q (.p x :: ds) is ρ' := by
  show (if j + 2 ∈ [0, 1] then _ else _) = _
  rw [if_neg (by simp)]
@[simp ↓] theorem putBack_nil {Q : Env' → Prop} : putBack ρ [] [] Q = Q ρ := rfl
@[simp ↓] theorem putBack_cons {i : Nat} {is : List Nat} {d : D} {ds : List D} {Q : Env' → Prop} : putBack ρ (i :: is) (d :: ds) Q = putBack (ρ.set i (some d)) is ds Q := rfl
@[simp ↓] theorem tgS_name {i : Nat} {x : P} {Q : Env' → Prop} : tgS fx (.name i) x ρ Q = (i ∉ fx ∧ i < ρ.length ∧ Q (ρ.set i (some (.p x)))) := by unfold tgS; rfl
@[simp ↓] theorem tgS_tup {ts : List Tg} {x : P} {Q : Env' → Prop} : tgS fx (.tup ts) x ρ Q = ∃ xs, x = .tup xs ∧ xs.length = ts.length ∧ tgsS fx ts xs ρ Q := by rw [tgS]
@[simp ↓] theorem tgsS_nil {xs : List P} {Q : Env' → Prop} : tgsS fx [] xs ρ Q = (xs = [] ∧ Q ρ) := by rw [tgsS]
theorem tgsS_cons {t : Tg} {ts : List Tg} {xs : List P} {Q : Env' → Prop} : tgsS fx (t :: ts) xs ρ Q = ∃ x r, xs = x :: r ∧ tgS fx t x ρ fun ρ1 => tgsS fx ts r ρ1 Q := by rw [tgsS]
@[simp ↓] theorem tgsS_cc {t : Tg} {ts : List Tg} {x : P} {xs : List P} {Q : Env' → Prop} : tgsS fx (t :: ts) (x :: xs) ρ Q = tgS fx t x ρ fun ρ1 => tgsS fx ts xs ρ1 Q := by
  rw [tgsS_cons]
  exact propext ⟨fun ⟨_, _, e, h⟩ => by cases e; exact h, fun h => ⟨_, _, rfl, h⟩⟩
@[simp ↓] theorem setAll_nil {Q : Env' → Prop} : setAll fx [] [] ρ Q = Q ρ := rfl
@[simp ↓] theorem setAll_cons {i : Nat} {is : List Nat} {d : D} {ds : List D} {Q : Env' → Prop} : setAll fx (i :: is) (d :: ds) ρ Q = (i ∉ fx ∧ i < ρ.length ∧ setAll fx is ds (ρ.set i (some d)) Q) := rfl
theorem forT_nil {tg : Tg} {wb : Env' → En → Prop} {bs : List (Nat × D)} : forT fx tg wb bs [] ρ D' = D'.nx ρ := rfl
theorem forT_cons {tg : Tg} {wb : Env' → En → Prop} {bs : List (Nat × D)} {x : P} {xs : List P} : forT fx tg wb bs (x :: xs) ρ D' = tgS fx tg x ρ fun ρ1 => wb ρ1 { nx := fun ρ2 => holds ρ2 bs ∧ forT fx tg wb bs xs ρ2 D', ct := fun ρ2 => holds ρ2 bs ∧ forT fx tg wb bs xs ρ2 D', bk := D'.nx, rt := D'.rt } := rfl
@[simp ↓] theorem holds_nil : holds ρ [] = True := by unfold holds; simp
@[simp ↓] theorem wip_nil : wip ρ [] = ρ := rfl
@[simp ↓] theorem wip_cons {v : Nat} {vs : List Nat} : wip ρ (v :: vs) = (wip ρ vs).set v none := rfl
@[simp ↓] theorem brws_nil : brws ρ [] = [] := rfl
@[simp ↓] theorem brws_val {d : D} {os : List Opd} : brws ρ (.val d :: os) = brws ρ os := rfl
@[simp ↓] theorem brws_p {i : Nat} {x : P} {os : List Opd} (h : ρ[i]? = some (some (.p x))) : brws ρ (.late i :: os) = brws ρ os := by
  unfold brws
  rw [List.filterMap_cons]
  have e : brw ρ (.late i) = none := by simp only [brw, h]; rfl
  rw [e]
@[simp ↓] theorem brws_lst {i : Nat} {x : List P} {os : List Opd} (h : ρ[i]? = some (some (.lst x))) : brws ρ (.late i :: os) = (i, .lst x) :: brws ρ os := by
  unfold brws
  rw [List.filterMap_cons]
  have e : brw ρ (.late i) = some (i, .lst x) := by simp only [brw, h]; rfl
  rw [e]
/-- items with their places, from j on -/
def enumP : Int → List P → List P
  | _, [] => []
  | j, x :: xs => .tup [.int j, x] :: enumP (j + 1) xs
theorem enumP_eq : ∀ (xs : List P) (j : Nat), enumP j xs = (List.range' j xs.length).zipWith (fun (k : Nat) x => .tup [.int k, x]) xs
  | [], _ => rfl
  | x :: xs, j => by
    show P.tup [.int j, x] :: enumP ((j : Int) + 1) xs = _
    have e : ((j : Int) + 1) = ((j + 1 : Nat) : Int) := by omega
    rw [e, enumP_eq xs (j + 1)]
    rfl
@[simp ↓] theorem itP_enumT {xs : List P} {Q : List P → Prop} : itP .enum [.tup xs] Q = Q (enumP 0 xs) := by
  have e := enumP_eq xs 0
  rw [← List.range_eq_range'] at e
  show Q _ = _
  rw [show (0 : Int) = ((0 : Nat) : Int) from rfl, e]
@[simp ↓] theorem itP_enumL {xs : List P} {Q : List P → Prop} : itP .enum [.lst xs] Q = Q (enumP 0 xs) := by
  have e := enumP_eq xs 0
  rw [← List.range_eq_range'] at e
  show Q _ = _
  rw [show (0 : Int) = ((0 : Nat) : Int) from rfl, e]
@[simp ↓] theorem itP_seqT {xs : List P} {Q : List P → Prop} : itP .seq [.tup xs] Q = Q xs := rfl
@[simp ↓] theorem itP_seqL {xs : List P} {Q : List P → Prop} : itP .seq [.lst xs] Q = Q xs := rfl
@[simp ↓] theorem itP_rng1 {n : Int} {Q : List P → Prop} : itP .rng1 [.int n] Q = ((-(2 ^ 62) ≤ n ∧ n < 2 ^ 62) ∧ Q (iota 0 n.toNat)) := rfl
@[simp ↓] theorem itP_rng2 {a b : Int} {Q : List P → Prop} : itP .rng2 [.int a, .int b] Q = ((-(2 ^ 62) ≤ a ∧ a < 2 ^ 62 ∧ -(2 ^ 62) ≤ b ∧ b < 2 ^ 62) ∧ Q (iota a (b - a).toNat)) := rfl
@[simp ↓] theorem itP_zip {a b : List P} {Q : List P → Prop} : itP .zip [.lst a, .lst b] Q = Q (a.zipWith (fun x y => .tup [x, y]) b) := rfl
theorem iota_zero {lo : Int} : iota lo 0 = [] := rfl
theorem iota_succ {lo : Int} {n : Nat} : iota lo (n + 1) = .int lo :: iota (lo + 1) n := by
  unfold iota
  rw [List.range_succ_eq_map, List.map_cons, List.map_map]
  congr 1
  · simp
  · apply List.map_congr_left
    intro j _
    show P.int (lo + ((j + 1 : Nat) : Int)) = P.int (lo + 1 + (j : Int))
    congr 1
    omega
end PL
set_option linter.all false
set_option maxRecDepth 100000
set_option maxHeartbeats 400000
/-! Promises of defs. -/
namespace PL
open PySem PySem.Spec PyProof.Rows L2 LamX
def unP : List D → Option (List P)
  | [] => some []
  | .p x :: r => (unP r).map (x :: ·)
  | _ => none
@[simp] theorem unP_nil : unP [] = some [] := rfl
@[simp] theorem unP_cons {x : P} {r : List D} : unP (.p x :: r) = (unP r).map (x :: ·) := rfl
theorem unP_some : ∀ {ds : List D} {xs : List P}, unP ds = some xs → ds = xs.map .p
  | [], xs, h => by cases h; rfl
  | .p x :: r, xs, h => by
    rw [unP_cons] at h
    cases e : unP r with
    | none => rw [e] at h; cases h
    | some ys => rw [e] at h; cases h; rw [unP_some e]; rfl
  | .lst _ :: r, xs, h => by cases h
  | .dic _ _ :: r, xs, h => by cases h
abbrev PF := List P → (P → Prop) → (Nat → P → Prop) → Prop
/-- a def of frozen data, that tells frozen data -/
def pureF (n : Nat) (F : PF) : Fn := ⟨n, [], fun ds Q X => ∃ xs, unP ds = some xs ∧ xs.length = n ∧ F xs (fun r => Q (.p r) []) X⟩
@[simp] theorem pureF_n {n : Nat} {F : PF} : (pureF n F).n = n := rfl
@[simp] theorem pureF_lent {n : Nat} {F : PF} : (pureF n F).lent = [] := rfl
theorem pureF_run {n : Nat} {F : PF} {ds : List D} {Q : D → List D → Prop} {X : Nat → P → Prop} : (pureF n F).run ds Q X = ∃ xs, unP ds = some xs ∧ xs.length = n ∧ F xs (fun r => Q (.p r) []) X := rfl
theorem lentI_none : ∀ {n j : Nat}, lentI [] j n = []
  | 0, _ => rfl
  | n + 1, j => by
    show (if j ∈ ([] : List Nat) then _ else _) = _
    rw [if_neg (by simp)]
    exact lentI_none
theorem Rt_none {n : Nat} {F : PF} {Q : D → List D → Prop} : Rt (pureF n F) Q = fun d _ => Q d [] := by
  funext d ρ
  unfold Rt
  rw [pureF_n, pureF_lent, lentI_none]
  exact propext ⟨fun ⟨ls, e, q⟩ => by cases e; exact q, fun q => ⟨[], rfl, q⟩⟩
theorem keepsF {G : List Fn} {nN n : Nat} {bs : List S} {F : PF} (h : ∀ xs (Q : D → Prop) X, xs.length = n → F xs (fun x => Q (.p x)) X → wSs G X [] bs (xs.map (fun x => some (.p x)) ++ List.replicate (nN - n) none) { nx := fun _ => Q (.p .non), rt := fun d _ => Q d }) : Keeps G nN bs (pureF n F) := by
  rintro ds Qp Xp ⟨xs, e, hl, hF⟩
  have e' := unP_some e
  subst e'
  refine ⟨by rw [List.length_map]; exact hl, ?_⟩
  have q := h xs (fun d => Qp d []) Xp hl hF
  rw [Rt_none, pureF_n, pureF_lent, lentI_none]
  have es : startE nN (xs.map .p) = xs.map (fun x => some (.p x)) ++ List.replicate (nN - n) none := by
    unfold startE
    rw [List.length_map, hl, List.map_map]
    rfl
  rw [es]
  exact q
theorem keepsF1 {G : List Fn} {nN : Nat} {bs : List S} {F : PF} (h : ∀ a (Q : D → Prop) X, F [a] (fun x => Q (.p x)) X → wSs G X [] bs (some (.p a) :: List.replicate (nN - 1) none) { nx := fun _ => Q (.p .non), rt := fun d _ => Q d }) : Keeps G nN bs (pureF 1 F) :=
  keepsF fun xs Q X hl hF => by
    match xs, hl with
    | [a], _ => exact h a Q X hF
theorem keepsF2 {G : List Fn} {nN : Nat} {bs : List S} {F : PF} (h : ∀ a b (Q : D → Prop) X, F [a, b] (fun x => Q (.p x)) X → wSs G X [] bs (some (.p a) :: some (.p b) :: List.replicate (nN - 2) none) { nx := fun _ => Q (.p .non), rt := fun d _ => Q d }) : Keeps G nN bs (pureF 2 F) :=
  keepsF fun xs Q X hl hF => by
    match xs, hl with
    | [a, b], _ => exact h a b Q X hF
theorem keepsF3 {G : List Fn} {nN : Nat} {bs : List S} {F : PF} (h : ∀ a b c (Q : D → Prop) X, F [a, b, c] (fun x => Q (.p x)) X → wSs G X [] bs (some (.p a) :: some (.p b) :: some (.p c) :: List.replicate (nN - 3) none) { nx := fun _ => Q (.p .non), rt := fun d _ => Q d }) : Keeps G nN bs (pureF 3 F) :=
  keepsF fun xs Q X hl hF => by
    match xs, hl with
    | [a, b, c], _ => exact h a b c Q X hF
theorem for_ind {fx : List Nat} {tg : Tg} {wb : Env' → En → Prop} {bs : List (Nat × D)} {D' : En} (I : List P → Env' → Prop) (hn : ∀ ρ, I [] ρ → D'.nx ρ)
    (hc : ∀ x xs ρ (k : Env' → Prop), I (x :: xs) ρ → (∀ ρ2, I xs ρ2 → k ρ2) → tgS fx tg x ρ fun ρ1 => wb ρ1 { nx := fun ρ2 => holds ρ2 bs ∧ k ρ2, ct := fun ρ2 => holds ρ2 bs ∧ k ρ2, bk := D'.nx, rt := D'.rt }) :
    ∀ its ρ, I its ρ → forT fx tg wb bs its ρ D'
  | [], ρ, h => hn ρ h
  | x :: xs, ρ, h => hc x xs ρ _ h fun ρ2 h2 => for_ind I hn hc xs ρ2 h2
theorem lc_ind {tg : Tg} {wc we : Env' → KE → Prop} {own : List Nat} {bs : List (Nat × D)} {Q : List P → Env' → Prop} (I : List P → List P → Env' → Prop) (hn : ∀ acc ρ, I [] acc ρ → Q acc ρ)
    (hc : ∀ x xs acc ρ (k : List P → Env' → Prop), I (x :: xs) acc ρ → (∀ acc2 ρ2, I xs acc2 ρ2 → k acc2 ρ2) → tgS [] tg x ρ fun ρ1 => wc ρ1 fun c ρ2 => ∃ b, c = .p (.bl b) ∧
      if b = true then we ρ2 fun d ρ3 => acc.length < sizeLine ∧ holds (wip ρ3 own) bs ∧ k (acc ++ [frz d]) (wip ρ3 own)
      else holds (wip ρ2 own) bs ∧ k acc (wip ρ2 own)) :
    ∀ its acc ρ, I its acc ρ → lcT tg wc we own bs its acc ρ Q
  | [], acc, ρ, h => hn acc ρ h
  | x :: xs, acc, ρ, h => hc x xs acc ρ (fun acc2 ρ2 => lcT tg wc we own bs xs acc2 ρ2 Q) h fun acc2 ρ2 h2 => lc_ind I hn hc xs acc2 ρ2 h2
end PL
open PySem PySem.W PyProof.Rows
namespace PL
/-- the table of the code object with these fields -/
def hdB (vs : Array Value) : Bool := (match vs.getD 18 .none with | .str _ _ => true | _ => false) && (match vs.getD 7 .none with | .int _ _ => true | _ => false) && (match vs.getD 9 .none with | .bool _ => true | _ => false) && (match vs.getD 10 .none with | .int _ _ => true | _ => false)
def tabP (vs : Array Value) : Option Addr := match (vs[11]? : Option Value) with
  | some (.ref P) => if hdB vs = true then some P else none
  | _ => none
theorem codeHd_by {K : PySem.W.Frag} {h : Heap} (X : K.In h) {c P : Addr} {d : Option Addr} {vs : Array Value} {sl : Array (Option Value)} (l : K.lookup c = some ⟨.type "code", d, .fields vs, sl⟩) (e : tabP vs = some P) (ne : (c != P) = true) : PySem.W.CodeHd h c P := by
  refine PySem.W.codeHd_of_K X ?_
  unfold PySem.W.codeHdIn
  rw [l]
  unfold tabP at e
  split at e
  · rename_i P' hP
    split at e
    · rename_i q
      cases e
      unfold hdB at q
      simp only [hP]
      rw [beq_self_eq_true, Bool.true_and, ne, Bool.and_true]
      exact q
    · cases e
  · cases e
end PL
set_option Elab.async false
set_option linter.all false
set_option maxRecDepth 100000
set_option maxHeartbeats 4000000
/-! From what the head knows of the program's top to the defs' promises. -/
namespace PL
open PySem PySem.Spec PyProof.Rows L2 LamX
/-- a def stands there as the text says -/
structure DefK (K : PySem.W.Frag) (x : Str) (st : Stmt) (f : Addr) (cd : Value) : Prop where
  mk ::
  ex : ∃ (oc : Value) (od an : Option Addr) (sl : Array (Option Value)) (kV dc pm ct : Value), K.lookup f = some ⟨oc, od, .func (PySem.W.fnOf x x (defArgs st) (defBody st) (defScope st) .none kV dc pm an cd ct), sl⟩
  ns : PySem.W.nsIn K mainGlobals x = some (some (.ref f))
  co : PySem.W.codeIn K cd x = true
  kp : PySem.W.keepIn K (.ref f) = true
theorem DefK.of {K : PySem.W.Frag} {x : Str} {st : Stmt} {f : Addr} {cd oc : Value} {od an : Option Addr} {sl : Array (Option Value)} {kV dc pm ct : Value}
  (a : PySem.W.nsIn K mainGlobals x = some (some (.ref f))) (l : K.lookup f = some ⟨oc, od, .func (PySem.W.fnOf x x (defArgs st) (defBody st) (defScope st) .none kV dc pm an cd ct), sl⟩) (c : PySem.W.codeIn K cd x = true) (k : PySem.W.keepIn K (.ref f) = true) : DefK K x st f cd := ⟨⟨_, _, _, _, _, _, _, _, l⟩, a, c, k⟩
/-- a refusal's class, R the class that is caught -/
structure ClsK (K : PySem.W.Frag) (R : Addr) (x : Str) (C fI : Addr) : Prop where
  mk ::
  ns : PySem.W.nsIn K mainGlobals x = some (some (.ref C))
  oex : OexC K C
  wh : PySem.W.findIn K (.ref C) "what" = some none
  ini : PySem.W.findIn K (.ref C) "__init__" = some (some (.ref fI))
  tI : PySem.W.typeIn K (.ref fI) = some (.type "function")
  xf : XfC K C
  ec : L2.ExcC K C
  ex : PySem.W.exmOne K (.ref C) (.ref R) = some true
theorem ClsK.of {K : PySem.W.Frag} {R C fI : Addr} {x nm q : Str} {N : Addr} {bs bm : List Value} {sn : List Str} {sub : List Value} {ab : Bool} {col : Option Bool} {dd : Option Addr} {m0 m1 m2 m3 m5 : Option Value}
    (ns : PySem.W.nsIn K mainGlobals x = some (some (.ref C))) (xL : K.lookup C = some (excClassObj nm q C N bs bm true sn sub ab col dd m0 m1 m2 m3 m5 "ValueError.__new__")) (rf : PySem.HandSPX.refsVE bm = true)
    (sa : PySem.W.findIn K (.ref C) "__setattr__" = some (some (.builtin "object.__setattr__"))) (exC : PySem.W.subIn K (.ref C) (.type "BaseException") = some true) (tyC : PySem.W.typeIn K (.ref C) = some (.type "type")) (kC : PySem.W.keepIn K (.ref C) = true)
    (wh : PySem.W.findIn K (.ref C) "what" = some none) (ini : PySem.W.findIn K (.ref C) "__init__" = some (some (.ref fI))) (tI : PySem.W.typeIn K (.ref fI) = some (.type "function"))
    (ga : PySem.W.findIn K (.ref C) "__getattribute__" = some (some (.builtin "BaseException.__getattribute__"))) (gg : PySem.W.findIn K (.ref C) "__getattr__" = some none) (hd : PySem.W.hasDictIn K C = true)
    (ha : PySem.W.findIn K (.ref C) "__class__" = some (some (.builtin "object.__class__"))) (hn : PySem.W.specialIn K (.builtin "object.__class__") "__get__" = some (some (.builtin "getset_descriptor.__get__"))) (ht : PySem.W.takesIn K (.builtin "object.__class__") = some true) (hm : PySem.W.mroIn K C (.type "object") = some true)
    (exR : PySem.W.subIn K (.ref R) (.type "BaseException") = some true) (hdR : PySem.W.hasDictIn K R = true) (tyR : PySem.W.typeIn K (.ref R) = some (.type "type")) (sR : PySem.W.subIn K (.ref C) (.ref R) = some true) : ClsK K R x C fI :=
  ⟨ns, ⟨⟨nm, q, N, bs, bm, sn, sub, ab, col, dd, m0, m1, m2, m3, m5, xL, rf⟩, sa, exC, tyC, kC⟩, wh, ini, tI, ⟨ga, gg, exC, hd⟩, ⟨ga, gg, exC, hd, ha, hn, ht, hm⟩, PySem.W.exm_ref exR hdR tyR sR⟩
variable [QN]
section
variable {P : Program} {w : World} {K : PySem.W.Frag} {mg : Str → Option Value} {base : Heap} {cls : Nat → Option Addr} {TB : List (Addr × Str)}
def HG (P : Program) (w : World) (K : PySem.W.Frag) (mg : Str → Option Value) (base : Heap) (cls : Nat → Option Addr) (TB : List (Addr × Str)) (k : Nat) (G : List Fn) : List (Str × Nat) → Prop
  | [] => True
  | q :: r => (∃ g', G[q.2]? = some g' ∧ FnF P w K mg base cls TB k q.1 g') ∧ HG P w K mg base cls TB k G r
theorem lookup_mem {α : Type} : ∀ {l : List (Str × α)} {x : Str} {a : α}, l.lookup x = some a → (x, a) ∈ l
  | [], _, _, h => by cases h
  | (y, b) :: r, x, a, h => by
    rw [List.lookup_cons] at h
    cases e : x == y with
    | true =>
      rw [e] at h
      cases h
      have := eq_of_beq e
      subst this
      exact List.mem_cons_self
    | false =>
      rw [e] at h
      exact List.mem_cons_of_mem _ (lookup_mem h)
theorem HG.all {k : Nat} {G : List Fn} : ∀ {l : List (Str × Nat)}, HG P w K mg base cls TB k G l → ∀ x f, l.lookup x = some f → ∃ g', G[f]? = some g' ∧ FnF P w K mg base cls TB k x g' := fun {l} h x f hx => by
  have hm := lookup_mem hx
  clear hx
  induction l with
  | nil => cases hm
  | cons q r ih =>
    rcases List.mem_cons.mp hm with e | e
    · subst e; exact h.1
    · exact ih h.2 e
theorem HG.mono {j k : Nat} {G : List Fn} (hj : j ≤ k) : ∀ {l : List (Str × Nat)}, HG P w K mg base cls TB j G l → HG P w K mg base cls TB k G l
  | [], _ => True.intro
  | q :: r, h => ⟨let ⟨g', a, b⟩ := h.1; ⟨g', a, b.mono hj⟩, HG.mono hj h.2⟩
def HO (P : Program) (w : World) (K : PySem.W.Frag) (mg : Str → Option Value) (base : Heap) (cls : Nat → Option Addr) (k : Nat) : List (Str × Nat) → Prop
  | [] => True
  | q :: r => ClsF P w K mg base cls k q.1 q.2 ∧ HO P w K mg base cls k r
theorem HO.all {k : Nat} : ∀ {l : List (Str × Nat)}, HO P w K mg base cls k l → ∀ x c, l.lookup x = some c → ClsF P w K mg base cls k x c := fun {l} h x f hx => by
  have hm := lookup_mem hx
  clear hx
  induction l with
  | nil => cases hm
  | cons q r ih =>
    rcases List.mem_cons.mp hm with e | e
    · subst e; exact h.1
    · exact ih h.2 e
def HN (mg : Str → Option Value) : List (Str × Int) → Prop
  | [] => True
  | q :: r => (∃ u, mg q.1 = some (.int q.2 u)) ∧ HN mg r
theorem HN.all : ∀ {l : List (Str × Int)}, HN mg l → ∀ x i, l.lookup x = some i → ∃ u, mg x = some (.int i u) := fun {l} h x f hx => by
  have hm := lookup_mem hx
  clear hx
  induction l with
  | nil => cases hm
  | cons q r ih =>
    rcases List.mem_cons.mp hm with e | e
    · subst e; exact h.1
    · exact ih h.2 e
/-- a def, no lambda in it -/
theorem fnF_of {x : Str} {st : Stmt} {f : Addr} {cd : Value} {ps : List Str} {k n : Nat} {S : SV} {bs : List PL.S} {g : Fn} {G : List Fn} (d : DefK K x st f cd) (hm : mg x = some (.ref f))
    (hb : ∀ (kV doc pm : Value) (an : Option Addr) (cdv ct : Value) (us : List Value), us.length = ps.length → bindArgs (PySem.W.fnOf x x (defArgs st) (defBody st) (defScope st) .none kV doc pm an cdv ct) ⟨us, []⟩ = pure (ps.zip us))
    (sc : FnScope S.N ps (defScope st)) (hS : S.sc = defScope st) (hall : S.all = true) (hn : g.n = ps.length) (htr : mapS (trS n S) (defBody st) = some bs) (hk : Keeps G S.N.length bs g)
    (hG : HG P w K mg base cls TB k G S.FN) (hcn : HN mg S.CN) (hbl : ∀ x ∈ bltNames, mg x = none) (hco : HO P w K mg base cls k S.CO) (hhr : S.HR = []) : FnF P w K mg base cls TB (k + 1) x g := by
  obtain ⟨oc, od, an, sl, kV, dc, pm, ct, lk⟩ := d.ex
  exact ⟨f, _, ps, fn_sound lk d.co sc hS hall hn htr hk hG.all hcn.all hbl hco.all (fun x tab h => by rw [hhr] at h; cases h), hm, d.kp, .all (hb kV dc pm an cd ct)⟩
/-- a def with lambdas that are heard -/
theorem fnF_lam {x : Str} {st : Stmt} {f c Pt : Addr} {ps : List Str} {k n : Nat} {S : SV} {bs : List PL.S} {g : Fn} {G : List Fn} (d : DefK K x st f (.ref c)) (hm : mg x = some (.ref f))
    (hb : ∀ (kV doc pm : Value) (an : Option Addr) (cdv ct : Value) (us : List Value), us.length = ps.length → bindArgs (PySem.W.fnOf x x (defArgs st) (defBody st) (defScope st) .none kV doc pm an cdv ct) ⟨us, []⟩ = pure (ps.zip us))
    (sc : FnScope S.N ps (defScope st)) (hS : S.sc = defScope st) (hall : S.all = true) (hn : g.n = ps.length) (htr : mapS (trS n S) (defBody st) = some bs) (hk : Keeps G S.N.length bs g)
    (hG : HG P w K mg base cls TB k G S.FN) (hcn : HN mg S.CN) (hbl : ∀ x ∈ bltNames, mg x = none) (hco : HO P w K mg base cls k S.CO)
    (tab : LamX.TabB base mg c Pt) (hmT : (Pt, x ++ ".<locals>." ++ "<lambda>") ∈ TB) (hu : ∀ p ∈ TB, p.1 = Pt → p.2 = x ++ ".<locals>." ++ "<lambda>") (hhr : ∀ y tb, S.HR.lookup y = some tb → HearF K mg cls y tb) : FnF P w K mg base cls TB (k + 3) x g := by
  obtain ⟨oc, od, an, sl, kV, dc, pm, ct, lk⟩ := d.ex
  exact ⟨f, _, ps, fn_sound lk d.co sc hS hall hn htr hk (hG.mono (Nat.le_add_right k 2)).all hcn.all hbl (fun x c h => by
    have q := hco.all x c h
    exact ⟨fun X a b c d e hr => q.mko X a b c d e (hr.mono (Nat.le_add_right k 2))⟩) (fun y tb h => ⟨hhr y tb h, ⟨c, Pt, rfl, tab, hmT, hu⟩, k, rfl, hG.all⟩), hm, d.kp, .all (hb kV dc pm an (.ref c) ct)⟩
end
end PL
set_option linter.all false
set_option maxRecDepth 100000
set_option maxHeartbeats 400000
/-! Promises of defs that are lent the jar. -/
namespace PL
open PySem PySem.Spec PyProof.Rows L2 LamX
/-- the law's own source of numbers -/
def Jar (d : D) : Prop := ∃ a b c : Int, d = .lst [.int a, .int b, .int c] ∧ -(2 ^ 64) < b ∧ b < 2 ^ 64
abbrev JF := List P → (D → Prop) → (Nat → P → Prop) → Prop
def jarF (n : Nat) (F : JF) : Fn := ⟨n + 1, [0], fun ds Q X => ∃ j r xs, ds = j :: r ∧ unP r = some xs ∧ xs.length = n ∧ Jar j ∧ F xs (fun d => ∀ j', Jar j' → Q d [j']) X⟩
@[simp ↓] theorem jarF_n {n : Nat} {F : JF} : (jarF n F).n = n + 1 := rfl
@[simp ↓] theorem jarF_lent {n : Nat} {F : JF} : (jarF n F).lent = [0] := rfl
theorem jarF_run {n : Nat} {F : JF} {j : D} {r : List D} {Q : D → List D → Prop} {X : Nat → P → Prop} : (jarF n F).run (j :: r) Q X = (Jar j ∧ ∃ xs, unP r = some xs ∧ xs.length = n ∧ F xs (fun d => ∀ j', Jar j' → Q d [j']) X) :=
  propext ⟨fun ⟨j, r, xs, e, h1, h2, h3, h4⟩ => by cases e; exact ⟨h3, xs, h1, h2, h4⟩, fun ⟨h3, xs, h1, h2, h4⟩ => ⟨j, r, xs, rfl, h1, h2, h3, h4⟩⟩
theorem lentI_jar {n : Nat} : lentI [0] 0 (n + 1) = [0] := by
  show (if 0 ∈ [0] then _ else _) = _
  rw [if_pos (by simp)]
  have e : ∀ (m j : Nat), lentI [0] (j + 1) m = [] := by
    intro m
    induction m with
    | zero => intro j; rfl
    | succ m ih =>
      intro j
      show (if j + 1 ∈ [0] then _ else _) = _
      rw [if_neg (by simp)]
      exact ih (j + 1)
  rw [e]
theorem Rt_jar {n : Nat} {F : JF} {Q : D → List D → Prop} : Rt (jarF n F) Q = fun d ρ => ∃ l, ρ[0]? = some (some l) ∧ Q d [l] := by
  funext d ρ
  unfold Rt
  rw [jarF_n, jarF_lent, lentI_jar]
  refine propext ⟨fun ⟨ls, ⟨l, lr, e, h1, h2⟩, q⟩ => ?_, fun ⟨l, h1, q⟩ => ⟨[l], ⟨l, [], rfl, h1, rfl⟩, q⟩⟩
  subst e
  cases (show lr = [] from h2)
  exact ⟨l, h1, q⟩
theorem keepsJ {G : List Fn} {nN n : Nat} {bs : List S} {F : JF} (h : ∀ j xs (Q : D → D → Prop) X, Jar j → xs.length = n → F xs (fun d => ∀ j', Jar j' → Q d j') X → wSs G X [0] bs (some j :: (xs.map (fun x => some (.p x)) ++ List.replicate (nN - (n + 1)) none)) { nx := fun ρ => ∃ l, ρ[0]? = some (some l) ∧ Q (.p .non) l, rt := fun d ρ => ∃ l, ρ[0]? = some (some l) ∧ Q d l }) : Keeps G nN bs (jarF n F) := by
  rintro ds Qp Xp ⟨j, r, xs, e, h1, h2, h3, h4⟩
  have e' := unP_some h1
  subst e' e
  refine ⟨by simp [h2], ?_⟩
  have q := h j xs (fun d l => Qp d [l]) Xp h3 h2 h4
  rw [Rt_jar, jarF_n, jarF_lent, lentI_jar]
  have es : startE nN (j :: xs.map .p) = some j :: (xs.map (fun x => some (.p x)) ++ List.replicate (nN - (n + 1)) none) := by
    unfold startE
    simp [h2]
  rw [es]
  exact q
theorem keepsJ0 {G : List Fn} {nN : Nat} {bs : List S} {F : JF} (h : ∀ j (Q : D → D → Prop) X, Jar j → F [] (fun d => ∀ j', Jar j' → Q d j') X → wSs G X [0] bs (some j :: List.replicate (nN - 1) none) { nx := fun ρ => ∃ l, ρ[0]? = some (some l) ∧ Q (.p .non) l, rt := fun d ρ => ∃ l, ρ[0]? = some (some l) ∧ Q d l }) : Keeps G nN bs (jarF 0 F) :=
  keepsJ fun j xs Q X hj hl hF => by
    match xs, hl with
    | [], _ => exact h j Q X hj hF
theorem keepsJ1 {G : List Fn} {nN : Nat} {bs : List S} {F : JF} (h : ∀ j a (Q : D → D → Prop) X, Jar j → F [a] (fun d => ∀ j', Jar j' → Q d j') X → wSs G X [0] bs (some j :: some (.p a) :: List.replicate (nN - 2) none) { nx := fun ρ => ∃ l, ρ[0]? = some (some l) ∧ Q (.p .non) l, rt := fun d ρ => ∃ l, ρ[0]? = some (some l) ∧ Q d l }) : Keeps G nN bs (jarF 1 F) :=
  keepsJ fun j xs Q X hj hl hF => by
    match xs, hl with
    | [a], _ => exact h j a Q X hj hF
/-! a def that is lent the jar and what it draws from -/
abbrev JLF := D → List P → (D → Prop) → (Nat → P → Prop) → Prop
def jarLF (n : Nat) (F : JLF) : Fn := ⟨n + 2, [0, 1], fun ds Q X => ∃ j t r xs, ds = j :: t :: r ∧ unP r = some xs ∧ xs.length = n ∧ Jar j ∧ F t xs (fun d => ∀ j', Jar j' → Q d [j', t]) X⟩
@[simp ↓] theorem jarLF_n {n : Nat} {F : JLF} : (jarLF n F).n = n + 2 := rfl
@[simp ↓] theorem jarLF_lent {n : Nat} {F : JLF} : (jarLF n F).lent = [0, 1] := rfl
theorem jarLF_run {n : Nat} {F : JLF} {j t : D} {r : List D} {Q : D → List D → Prop} {X : Nat → P → Prop} : (jarLF n F).run (j :: t :: r) Q X = (Jar j ∧ ∃ xs, unP r = some xs ∧ xs.length = n ∧ F t xs (fun d => ∀ j', Jar j' → Q d [j', t]) X) :=
  propext ⟨fun ⟨j, t, r, xs, e, h1, h2, h3, h4⟩ => by cases e; exact ⟨h3, xs, h1, h2, h4⟩, fun ⟨h3, xs, h1, h2, h4⟩ => ⟨j, t, r, xs, rfl, h1, h2, h3, h4⟩⟩
theorem lentI_jl {n : Nat} : lentI [0, 1] 0 (n + 2) = [0, 1] := by
  show (if 0 ∈ [0, 1] then _ else _) = _
  rw [if_pos (by simp)]
  show 0 :: (if 1 ∈ [0, 1] then _ else _) = _
  rw [if_pos (by simp)]
  have e : ∀ (m j : Nat), lentI [0, 1] (j + 2) m = [] := by
    intro m
    induction m with
    | zero => intro j; rfl
    | succ m ih =>
      intro j
      show (if j + 2 ∈ [0, 1] then _ else _) = _
      rw [if_neg (by simp)]
      exact ih (j + 1)
  rw [e]
theorem Rt_jl {n : Nat} {F : JLF} {Q : D → List D → Prop} : Rt (jarLF n F) Q = fun d ρ => ∃ l m, ρ[0]? = some (some l) ∧ ρ[1]? = some (some m) ∧ Q d [l, m] := by
  funext d ρ
  unfold Rt
  rw [jarLF_n, jarLF_lent, lentI_jl]
  refine propext ⟨fun ⟨ls, ⟨l, lr, e, h1, m, mr, e2, h2, h3⟩, q⟩ => ?_, fun ⟨l, m, h1, h2, q⟩ => ⟨[l, m], ⟨l, [m], rfl, h1, m, [], rfl, h2, rfl⟩, q⟩⟩
  subst e e2
  cases (show mr = [] from h3)
  exact ⟨l, m, h1, h2, q⟩
theorem keepsJL {G : List Fn} {nN n : Nat} {bs : List S} {F : JLF} (h : ∀ j t xs (Q : D → D → D → Prop) X, Jar j → xs.length = n → F t xs (fun d => ∀ j', Jar j' → Q d j' t) X → wSs G X [0, 1] bs (some j :: some t :: (xs.map (fun x => some (.p x)) ++ List.replicate (nN - (n + 2)) none)) { nx := fun ρ => ∃ l m, ρ[0]? = some (some l) ∧ ρ[1]? = some (some m) ∧ Q (.p .non) l m, rt := fun d ρ => ∃ l m, ρ[0]? = some (some l) ∧ ρ[1]? = some (some m) ∧ Q d l m }) : Keeps G nN bs (jarLF n F) := by
  rintro ds Qp Xp ⟨j, t, r, xs, e, h1, h2, h3, h4⟩
  have e' := unP_some h1
  subst e' e
  refine ⟨by simp [h2], ?_⟩
  have q := h j t xs (fun d l m => Qp d [l, m]) Xp h3 h2 h4
  rw [Rt_jl, jarLF_n, jarLF_lent, lentI_jl]
  have es : startE nN (j :: t :: xs.map .p) = some j :: some t :: (xs.map (fun x => some (.p x)) ++ List.replicate (nN - (n + 2)) none) := by
    unfold startE
    simp [h2]
  rw [es]
  exact q
theorem keepsJL0 {G : List Fn} {nN : Nat} {bs : List S} {F : JLF} (h : ∀ j t (Q : D → D → D → Prop) X, Jar j → F t [] (fun d => ∀ j', Jar j' → Q d j' t) X → wSs G X [0, 1] bs (some j :: some t :: List.replicate (nN - 2) none) { nx := fun ρ => ∃ l m, ρ[0]? = some (some l) ∧ ρ[1]? = some (some m) ∧ Q (.p .non) l m, rt := fun d ρ => ∃ l m, ρ[0]? = some (some l) ∧ ρ[1]? = some (some m) ∧ Q d l m }) : Keeps G nN bs (jarLF 0 F) :=
  keepsJL fun j t xs Q X hj hl hF => by
    match xs, hl with
    | [], _ => exact h j t Q X hj hF
end PL
set_option Elab.async false
set_option linter.all false
set_option maxRecDepth 100000
set_option maxHeartbeats 4000000
/-! The end of a law: from the defs' promises to the law's own call. -/
namespace PL
open PySem PySem.Spec PyProof.Rows L2 LamX
section
variable {K : PySem.W.Frag}
/-- the class Refused: its __init__ -/
structure IniK (K : PySem.W.Frag) (st : Stmt) (fI : Addr) (cd : Value) : Prop where
  mk ::
  ex : ∃ (oc : Value) (od an : Option Addr) (sl : Array (Option Value)) (kV dc pm ct : Value), K.lookup fI = some ⟨oc, od, .func (PySem.W.fnOf "__init__" "Refused.__init__" (defArgs st) (defBody st) (defScope st) .none kV dc pm an cd ct), sl⟩
  co : PySem.W.codeIn K cd "Refused.__init__" = true
theorem IniK.of {st : Stmt} {fI : Addr} {cd oc : Value} {od an : Option Addr} {sl : Array (Option Value)} {kV dc pm ct : Value} (l : K.lookup fI = some ⟨oc, od, .func (PySem.W.fnOf "__init__" "Refused.__init__" (defArgs st) (defBody st) (defScope st) .none kV dc pm an cd ct), sl⟩) (c : PySem.W.codeIn K cd "Refused.__init__" = true) : IniK K st fI cd := ⟨⟨_, _, _, _, _, _, _, _, l⟩, c⟩
theorem kit_self {D : Addr} : PySem.W.kitOne K (.ref D) (.ref D) = some true := by
  unfold PySem.W.kitOne
  rw [if_pos (beq_self_eq_true _)]
theorem kit_sub {D C : Addr} {b : Bool} (hd : PySem.W.hasDictIn K C = true) (ht : PySem.W.typeIn K (.ref C) = some (.type "type")) (h4 : PySem.W.subIn K (.ref D) (.ref C) = some b) (hne : (Value.ref D == Value.ref C) = false) : PySem.W.kitOne K (.ref D) (.ref C) = some b := by
  unfold PySem.W.kitOne
  rw [hne, if_neg Bool.false_ne_true]
  obtain ⟨cd, hc, _⟩ := PySem.W.any_some hd
  have e2 : ((PySem.W.clsIn K C).isSome && PySem.W.typeIn K (.ref C) == some (.type "type")) = true := by rw [hc, ht] <;> rfl
  show (if ((PySem.W.clsIn K C).isSome && PySem.W.typeIn K (.ref C) == some (.type "type")) = true then PySem.W.subIn K (.ref D) (.ref C) else none) = some b
  rw [if_pos e2]
  exact h4
theorem cx_false {P : Program} {w : World} {H : Hp} {s : Shared} {e : Value} {s' : Shared} (h : L2N.CX P w [] H s (fun _ _ _ => False) e s') : False := by
  obtain ⟨_, _, _, _, _, _, _, _, _, _, _, _, h⟩ := h
  exact h
end
section
variable [QN] {P : Program} {w : World} {K : PySem.W.Frag} {mg : Str → Option Value} {base : Heap} {cls : Nat → Option Addr} {TB : List (Addr × Str)}
theorem ClsF.mono {j k c : Nat} {x : Str} (h : ClsF P w K mg base cls j x c) (hj : j ≤ k) : ClsF P w K mg base cls k x c := ⟨fun X a b d e f hr => h.mko X a b d e f (hr.mono hj)⟩
theorem DefK.mgv {x : Str} {st : Stmt} {f : Addr} {cd : Value} {h : Heap} (d : DefK K x st f cd) (X : K.In h) (G : h.Ns mainGlobals mg) : mg x = some (.ref f) := PySem.W.mg_of X G d.ns
/-- the base of a recursion: nothing is promised -/
def g_none (n : Nat) : Fn := ⟨n, [], fun _ _ _ => False⟩
theorem fnF_none {x : Str} {st : Stmt} {f : Addr} {cd : Value} {ps : List Str} {k : Nat} {g : Fn} (d : DefK K x st f cd) (hm : mg x = some (.ref f))
    (hb : ∀ (kV doc pm : Value) (an : Option Addr) (cdv ct : Value) (us : List Value), us.length = ps.length → bindArgs (PySem.W.fnOf x x (defArgs st) (defBody st) (defScope st) .none kV doc pm an cdv ct) ⟨us, []⟩ = pure (ps.zip us)) (hg : ∀ ds Q X, g.run ds Q X → False) : FnF P w K mg base cls TB k x g := by
  obtain ⟨oc, od, an, sl, kV, dc, pm, ct, lk⟩ := d.ex
  refine ⟨f, _, ps, ⟨fun vs H Q E h => ?_, fun A outer s H args us vs Q E hr he hbd hv h => ?_⟩, hm, d.kp, .all (hb kV dc pm an cd ct)⟩
  · obtain ⟨_, Fz, fp, ds, Qp, Xp, _, _, _, hrun, _⟩ := h
    exact (hg _ _ _ hrun).elim
  · obtain ⟨_, Fz, fp, ds, Qp, Xp, _, _, _, hrun, _⟩ := h
    exact (hg _ _ _ hrun).elim
theorem clsF_by {x : Str} {c : Nat} {R C fI : Addr} {st : Stmt} {cd : Value} {p1 p2 p3 p4 p5 p6 p7 p8 p9 p10 : Pos} (ck : ClsK K R x C fI) (hm : mg x = some (.ref C)) (hc : cls c = some C) (ik : IniK K st fI cd) (sc : FnScope ["self", "what"] ["self", "what"] (defScope st))
    (hb : defBody st = [.Expr (.Call (.Attribute (.Name "ValueError" p1) "__init__" p2) [.Name "self" p3, .Name "what" p4] [] p5) p6, .Assign [.Attribute (.Name "self" p7) "what" p8] (.Name "what" p9) p10])
    (hs1 : (defScope st).names.lookup ("self" : Str) = some .local) (hs2 : (defScope st).names.lookup ("what" : Str) = some .local) (hs3 : (defScope st).names.lookup ("ValueError" : Str) = some .globalImplicit)
    (pl : Env → Sem Bool) (hev : ∀ env : Env, eval (.Call (.Attribute (.Name "ValueError" p1) "__init__" p2) [.Name "self" p3, .Name "what" p4] [] p5) env = (do
      let ov ← eval (.Name "ValueError" p1) env
      standAt p2.atName
      let (f, first) ← holding [ov] (getMethod ov "__init__" (pl env))
      callWith p5 f first (backTo p5 (starEach [.Name "self" p3, .Name "what" p4] env)) (backToKw p5 (keywordEach [] env))))
    (hV : mg "ValueError" = none) (vV : PySem.W.findCls K (.type "ValueError") (.type "type") "__init__" = some (.val (.builtin "ValueError.__init__")))
    (hbd : ∀ (kV doc pm : Value) (an : Option Addr) (cdv ct : Value) (us : List Value), us.length = 2 → bindArgs (PySem.W.fnOf "__init__" "Refused.__init__" (defArgs st) (defBody st) (defScope st) .none kV doc pm an cdv ct) ⟨us, []⟩ = pure ((["self", "what"] : List Str).zip us)) : ClsF P w K mg base cls 2 x c := by
  obtain ⟨oc, od, an, sl, kV, dc, pm, ct, lk⟩ := ik.ex
  exact clsF_of (k0 := 1) ck.oex ck.wh ck.ini ck.tI (ok_init lk ik.co sc hb hs1 hs2 hs3 pl hev hV vV 0) (.all (hbd kV dc pm an cd ct)) hm hc
/-- of which of these classes D is -/
def NK (K : PySem.W.Frag) (mg : Str → Option Value) (D : Addr) : List (Str × Bool) → Prop
  | [] => True
  | q :: r => (∃ C, mg q.1 = some (.ref C) ∧ PySem.W.kitOne K (.ref D) (.ref C) = some q.2) ∧ NK K mg D r
theorem NK.get {D : Addr} : ∀ {l : List (Str × Bool)}, NK K mg D l → ∀ q ∈ l, ∃ C, mg q.1 = some (.ref C) ∧ PySem.W.kitOne K (.ref D) (.ref C) = some q.2
  | [], _, q, h => by cases h
  | x :: r, hn, q, h => by
    rcases List.mem_cons.mp h with e | e
    · subst e; exact hn.1
    · exact NK.get hn.2 q e
theorem isH_of {R D fI : Addr} {x n : Str} (c : ClsK K R x D fI) {l : List (Str × Bool)} {names : List Str} (hn : NK K mg D l) (hz : (names.map fun x => (x, (l.lookup x).getD false)) = l) (he : n = nmOf l) (fw : few l) : IsH K mg (.ref R) names D n where
  ex := c.ex
  xf := c.xf
  ec := c.ec
  wh := c.wh
  nm := ⟨fun x => (l.lookup x).getD false, fun x hx => by
    have hm : (x, (l.lookup x).getD false) ∈ l := by
      rw [← hz]
      have e : ∀ y, (List.lookup y l).getD false = (List.lookup y (names.map fun x => (x, (l.lookup x).getD false))).getD false := fun y => by rw [hz]
      rw [← e]
      exact List.mem_map.mpr ⟨x, hx, rfl⟩
    exact hn.get _ hm, by rw [hz]; exact he, by rw [hz]; exact fw⟩
theorem heardF_of {x a rf r sm n1 n2 : Str} {st : Stmt} {g R : Addr} {cd : Value} {names : List Str} {sc : Scope} {tab : List (Nat × Str)} (d : DefK K x st g cd) (hm : mg x = some (.ref g))
    (hb : ∀ (kV doc pm : Value) (an : Option Addr) (cdv ct : Value) (us : List Value), us.length = 1 → bindArgs (PySem.W.fnOf x x (defArgs st) (defBody st) (defScope st) .none kV doc pm an cdv ct) ⟨us, []⟩ = pure (([a] : List Str).zip us))
    (sg : FnScope [a, r, sm, n1, n2] [a] (defScope st)) (hp : heardP (defBody st) = some (a, rf, r, sm, n1, n2, names, sc)) (ho : HeardOk (defScope st) [a, r, sm, n1, n2] mg a rf r sm n1 n2 names sc) (hi : mg "isinstance" = none) (hR : mg rf = some (.ref R))
    (hI : ∀ c n C, tab.lookup c = some n → cls c = some C → IsH K mg (.ref R) names C n) : HearF K mg cls x tab := by
  obtain ⟨oc, od, an, sl, kV, dc, pm, ct, lk⟩ := d.ex
  exact ⟨g, R, _, _, _, _, _, _, _, _, _, _, _, _, _, _, names, a, rf, r, sm, n1, n2, sc, hm, d.kp, lk, d.co, .all (hb kV dc pm an cd ct), sg, hp, ho, hi, hR, hI⟩
end
theorem FrL.intsV {K : PySem.W.Frag} {Fz : FzT} {H : Hp} : ∀ ns : List Int, FrL K Fz H (ns.map P.int) (ns.map V.int)
  | [] => rfl
  | n :: ns => ⟨_, _, rfl, rfl, FrL.intsV ns⟩
/-- what the law's own def promises -/
def TellsTrue (g : Fn) : Prop := g.n = 1 ∧ g.lent = [] ∧ ∀ ns : List Int, ns.length ≤ 63 → g.run [.p (.rdl (ns.map .int))] (fun d _ => d = .p (.bl true)) (fun _ _ => False)
theorem lawAt {l : PySem.W.OpenLaw} {w : World} {K : PySem.W.Frag} {mg : Str → Option Value} {fa : Addr} {h : Heap} {st : Stmt} {cd : Value} {S : SV} {bs : List PL.S} {n k : Nat} {G : List Fn} {g : Fn} {cls : Nat → Option Addr} {TB : List (Addr × Str)} {cs : List (Addr × Addr)}
    (d : DefK K "law" st fa cd) (hb : ∀ (kV doc pm : Value) (an : Option Addr) (cdv ct : Value) (us : List Value), us.length = 1 → bindArgs (PySem.W.fnOf "law" "law" (defArgs st) (defBody st) (defScope st) .none kV doc pm an cdv ct) ⟨us, []⟩ = pure ((["script"] : List Str).zip us))
    (sc : FnScope S.N ["script"] (defScope st)) (hS : S.sc = defScope st) (hall : S.all = true) (htr : letI : QN := ⟨TB⟩; mapS (trS n S) (defBody st) = some bs) (hk : Keeps G S.N.length bs g) (hg : TellsTrue g)
    (hG : letI : QN := ⟨TB⟩; ∀ base : Heap, K.In base → base.Ns mainGlobals mg → (∀ p ∈ cs, TabB base mg p.1 p.2) → HG l.prog w K mg base cls TB k G S.FN ∧ HO l.prog w K mg base cls k S.CO) (hcn : HN mg S.CN) (hbl : ∀ x ∈ bltNames, mg x = none) (hhr : S.HR = [])
    (c1 : ∀ p ∈ cs, h.get? p.2 = some { cls := .none, data := .fields #[] }) (c2 : ∀ p ∈ cs, K.lookup p.2 = none) (c3 : ∀ p ∈ cs, PySem.W.CodeHd h p.1 p.2) (hT : ∀ q ∈ TB, ∃ p ∈ cs, p.2 = q.1) :
    LamX.LawAtS l w K (L2N.CX l.prog w) (k + 1) 63 "script" mg fa h := by
  letI : QN := ⟨TB⟩
  obtain ⟨oc, od, an, sl, kV, dc, pm, ct, lk⟩ := d.ex
  refine ⟨PySem.W.fnOf "law" "law" (defArgs st) (defBody st) (defScope st) .none kV dc pm an cd ct, cs, spOf K cls TB g, c1, c2, c3, fun s u => ?_, fun H a ns hl hz hH hs => ?_, fun base KX Gb hcs => ?_⟩
  · have := hb kV dc pm an cd ct [u] rfl
    exact .of_eq this
  · refine ⟨by rw [hg.1]; rfl, fun b => b = a ∧ H a ≠ none, [], [.p (.rdl (ns.map .int))], fun d _ => d = .p (.bl true), fun _ _ => False, ⟨.ref a, [], [], [], rfl, rfl, ⟨rfl, ?_⟩, ⟨rfl, rfl⟩, fun a ha => nomatch ha⟩, fun b hb => by rw [hb.1]; exact hb.2, ⟨rfl, fun q hq => ?_⟩, hg.2.2 ns hl, fun r ls v H' Fz' fv fl hr _ ov _ _ _ _ => ?_, fun _ _ z => z.elim⟩
    · refine ⟨a, ns.map V.int, rfl, ?_, FrL.intsV ns⟩
      rcases hs with hs | hs
      · refine .inl ⟨hs, rfl, fun z => ?_⟩
        rcases hs with hs | ⟨o, hs⟩
        · rw [z] at hs; cases hs
        · rw [z] at hs; cases hs
      · exact .inr hs
    · obtain ⟨p, hp, e⟩ := hT q hq
      refine ⟨#[], by rw [← e]; exact hH p hp, by simp [TriplesOk], fun pos cv hc => ?_⟩
      simp [codeAmong] at hc
    · subst hr
      exact ov.2
  · obtain ⟨hg1, hg2⟩ := hG base KX Gb hcs
    exact fn_sound lk d.co sc hS hall hg.1 htr hk hg1.all hcn.all hbl hg2.all (fun x tab h => by rw [hhr] at h; cases h)
end PL
namespace PL
open PySem
theorem tb_uniq : ∀ {TB : List (Addr × Str)}, (TB.map (·.1)).Nodup → ∀ q ∈ TB, ∀ p ∈ TB, p.1 = q.1 → p.2 = q.2
  | [], _, q, hq, _, _, _ => by cases hq
  | t :: r, h, q, hq, p, hp, e => by
    have h1 := (List.nodup_cons.mp h).1
    rcases List.mem_cons.mp hq with e1 | hq2
    · rcases List.mem_cons.mp hp with e2 | hp2
      · rw [e1, e2]
      · exact absurd (List.mem_map.mpr ⟨p, hp2, by rw [e, e1]⟩) h1
    · rcases List.mem_cons.mp hp with e2 | hp2
      · exact absurd (List.mem_map.mpr ⟨q, hq2, by rw [← e, e2]⟩) h1
      · exact tb_uniq (List.nodup_cons.mp h).2 q hq2 p hp2 e
theorem lookup_memN {α β : Type} [BEq α] [LawfulBEq α] : ∀ {l : List (α × β)} {x : α} {a : β}, l.lookup x = some a → (x, a) ∈ l
  | [], _, _, h => by cases h
  | (y, b) :: r, x, a, h => by
    rw [List.lookup_cons] at h
    cases e : x == y with
    | true =>
      rw [e] at h
      cases h
      have := eq_of_beq e
      subst this
      exact List.mem_cons_self
    | false =>
      rw [e] at h
      exact List.mem_cons_of_mem _ (lookup_memN h)
end PL
set_option Elab.async false
set_option linter.all false
set_option maxRecDepth 100000
set_option maxHeartbeats 8000000
namespace PL
open PySem PySem.Spec PyProof.Rows L2 LamX
def B_is_number : List S := [.ret (.and (.isi (.var 0) .int) (.not (.isi (.var 0) .bool)))]
def B_whole : List S := [.ret (.and (.call 0 [(.var 0)]) (.chain .le .le (.var 1) (.var 0) (.var 2)))]
def B_asked_many : List S := [.ite (.not (.tru (.call 0 [(.var 0), (.var 1), (.var 2)]))) [.rais 52 (.var 0)] [], .ret (.var 0)]
def B_first_odd : List S := [.forS (.tup [.name 1, .name 2]) .enum [(.var 0)] [.ite (.not (.tru (.call 0 [(.var 2)]))) [.ret (.var 1)] []], .ret .non]
def B_wrong_row : List S := [.ite (.or (.not (.tru (.isi (.var 0) .tuple))) (.cmp .ne (.blt .len [(.var 0)]) (.var 1))) [.ret (.neg (.int 1))] [], .ret (.call 0 [(.var 0)])]
def B_asked_sum : List S := [.set 2 (.call 0 [(.var 1), (.var 0)]), .ite (.isN true (.var 2)) [.rais 8 (.var 2)] [], .ret (.var 1)]
def B_asked_costs : List S := [.set 2 (.call 0 [(.var 1), (.var 0)]), .ite (.isN true (.var 2)) [.rais 9 (.var 2)] [], .ret (.var 1)]
def B_wrong_rising : List S := [.ite (.not (.tru (.isi (.var 0) .tuple))) [.ret (.neg (.int 1))] [], .set 2 (.int 0), .forS (.tup [.name 3, .name 4]) .enum [(.var 0)] [.ite (.not (.tru (.call 0 [(.var 4), (.var 2), (.bin .sub (.var 1) (.int 1))]))) [.ret (.var 3)] [], .set 2 (.bin .add (.var 4) (.int 1))], .ret .non]
def B_made_sum : List S := [.ret (.call 0 [(.call 1 [(.var 0), (.int 0), (.int 60)]), (.var 1)])]
def B_made_costs : List S := [.ret (.call 0 [(.call 1 [(.var 0), (.int 0), (.int 60)]), (.var 1)])]
def B_is_pair : List S := [.ite (.or (.not (.tru (.isi (.var 1) .tuple))) (.or (.cmp .ne (.blt .len [(.var 1)]) (.int 2)) (.not (.tru (.call 0 [(.sub (.var 1) (.int 0)), (.int 0), (.bin .sub (.var 0) (.int 1))]))))) [.ret (.bl false)] [], .ret (.call 0 [(.sub (.var 1) (.int 1)), (.bin .add (.sub (.var 1) (.int 0)) (.int 1)), (.bin .sub (.var 0) (.int 1))])]
def B_web_what : List S := [.ite (.or (.not (.tru (.isi (.var 0) .tuple))) (.cmp .ne (.blt .len [(.var 0)]) (.int 3))) [.ret (.tup [(.str "BadWeb"), (.neg (.int 1))])] [], .asg (.tup [.name 1, .name 2, .name 3]) (.var 0), .ite (.not (.tru (.call 1 [(.var 1), (.int 0), (.int 24)]))) [.ret (.tup [(.str "BadWeb"), (.int 0)])] [], .ite (.not (.tru (.isi (.var 2) .tuple))) [.ret (.tup [(.str "BadWeb"), (.int 1)])] [], .ite (.cmp .gt (.blt .len [(.var 2)]) (.int 60)) [.ret (.tup [(.str "TooMany"), (.blt .len [(.var 2)])])] [], .forS (.tup [.name 4, .name 5]) .enum [(.var 2)] [.ite (.not (.tru (.call 2 [(.var 1), (.var 5)]))) [.ret (.tup [(.str "BadWeb"), (.tup [(.int 1), (.var 4)])])] []], .set 6 (.call 0 [(.var 3), (.var 1)]), .ite (.isN true (.var 6)) [.ret (.tup [(.str "BadWeb"), (.ite (.cmp .eq (.var 6) (.neg (.int 1))) (.int 2) (.tup [(.int 2), (.var 6)]))])] [], .ret .non]
def B_made_web : List S := [.set 1 (.call 0 [(.var 0)]), .ite (.isN true (.var 1)) [.ite (.cmp .eq (.sub (.var 1) (.int 0)) (.str "TooMany")) [.rais 53 (.sub (.var 1) (.int 1))] [], .rais 1 (.sub (.var 1) (.int 1))] [], .ret (.var 0)]
def B_is_web : List S := [.ret (.isN false (.call 0 [(.var 0)]))]
def B_law_pool : List S := [.par [1, 2] [(.int 0), (.int 7)], .forS (.name 3) .rng1 [(.blt .len [(.var 0)])] [.set 4 (.blt .int1 [(.blt .max2 [(.sub (.var 0) (.var 3)), (.bin .sub (.neg (.int 1)) (.sub (.var 0) (.var 3)))])]), .set 2 (.bin .mod (.blt .int1 [(.bin .add (.bin .add (.bin .mul (.var 2) (.int 48271)) (.bin .mod (.var 4) (.int 2147483629))) (.int 11))]) (.int 2147483647)), .set 1 (.ite (.and (.cmp .ge (.var 4) (.bin .pow (.int 10) (.int 12))) (.cmp .lt (.var 1) (.bin .pow (.int 10) (.int 60)))) (.blt .int1 [(.bin .add (.bin .mul (.var 1) (.bin .pow (.int 10) (.int 60))) (.bin .mod (.var 4) (.bin .pow (.int 10) (.int 60))))]) (.var 1))], .ret (.lst [(.var 1), (.var 2), (.int 0)])]
def B_law_take : List S := [.ite (.cmp .gt (.sub (.var 0) (.int 0)) (.int 0)) [.set 2 (.bin .mod (.blt .int1 [(.sub (.var 0) (.int 0))]) (.var 1)), .sst 0 (.int 0) (.bin .fdiv (.sub (.var 0) (.int 0)) (.var 1)), .ret (.var 2)] [], .sst 0 (.int 2) (.bin .add (.sub (.var 0) (.int 2)) (.int 1)), .sst 0 (.int 1) (.bin .mod (.blt .int1 [(.bin .add (.bin .add (.bin .mul (.sub (.var 0) (.int 1)) (.int 39373)) (.bin .mul (.int 7919) (.sub (.var 0) (.int 2)))) (.int 7))]) (.int 2147483647)), .ret (.bin .mod (.blt .int1 [(.bin .fdiv (.bin .mod (.blt .int1 [(.bin .mul (.sub (.var 0) (.int 1)) (.sub (.var 0) (.int 1)))]) (.int 2147483629)) (.int 32))]) (.var 1))]
def B_law_one : List S := [.ret (.sub (.var 1) (.call 0 [(.var 0), (.blt .len [(.var 1)])]))]
def B_law_mixed : List S := [.par [2, 3] [(.blt .list1 [(.var 1)]), (.lst [])], .forS (.name 4) .rng1 [(.blt .len [(.var 1)])] [.ex (.mth .append 3 [(.mth .popAt 2 [(.call 0 [(.var 0), (.blt .len [(.var 2)])])])])], .ret (.var 3)]
def B_law_vp_is_whole : List S := [.ret (.and (.isi (.var 0) .int) (.not (.isi (.var 0) .bool)))]
def B_law_vp_is_in : List S := [.ret (.and (.call 0 [(.var 0)]) (.chain .le .le (.var 1) (.var 0) (.var 2)))]
def B_law_vp_same : List S := [.set 2 (.lst [(.tup [(.var 0), (.var 1)])]), .whl (.cmp .ne (.var 2) (.lst [])) [.asg (.tup [.name 3, .name 4]) (.mth .pop 2 []), .ite (.isN false (.var 4)) [.set 5 (.isN false (.var 3))] [.ite (.tru (.isi (.var 4) .bool)) [.set 5 (.and (.isi (.var 3) .bool) (.cmp .eq (.var 3) (.var 4)))] [.ite (.tru (.isi (.var 4) .int)) [.set 5 (.and (.call 0 [(.var 3)]) (.cmp .eq (.var 3) (.var 4)))] [.ite (.tru (.isi (.var 4) .str)) [.set 5 (.and (.isi (.var 3) .str) (.cmp .eq (.var 3) (.var 4)))] [.set 5 (.ite (.tru (.isi (.var 4) .tuple)) (.isi (.var 3) .tuple) (.isi (.var 3) .list)), .set 5 (.and (.var 5) (.cmp .eq (.blt .len [(.var 3)]) (.blt .len [(.var 4)]))), .ex (.mth .extend 2 [(.ite (.tru (.var 5)) (.lc (.tup [(.sub (.var 3) (.var 6)), (.sub (.var 4) (.var 6))]) (.name 6) .rng1 [(.blt .len [(.var 4)])] (.bl true) [6]) (.lst []))])]]]], .ite (.not (.tru (.var 5))) [.ret (.bl false)] []], .ret (.bl true)]
def B_law_vp_web_fault : List S := [.ite (.or (.not (.tru (.isi (.var 0) .tuple))) (.cmp .ne (.blt .len [(.var 0)]) (.int 3))) [.ret (.tup [(.str "BadWeb"), (.neg (.int 1))])] [], .asg (.tup [.name 1, .name 2, .name 3]) (.var 0), .ite (.not (.tru (.call 1 [(.var 1), (.int 0), (.int 24)]))) [.ret (.tup [(.str "BadWeb"), (.int 0)])] [], .ite (.not (.tru (.isi (.var 2) .tuple))) [.ret (.tup [(.str "BadWeb"), (.int 1)])] [], .ite (.cmp .gt (.blt .len [(.var 2)]) (.int 60)) [.ret (.tup [(.str "TooMany"), (.blt .len [(.var 2)])])] [], .set 4 (.lc (.var 5) (.name 5) .rng1 [(.blt .len [(.var 2)])] (.not (.tru (.call 2 [(.var 1), (.sub (.var 2) (.var 5))]))) [5]), .ite (.cmp .ne (.var 4) (.lst [])) [.ret (.tup [(.str "BadWeb"), (.tup [(.int 1), (.sub (.var 4) (.int 0))])])] [], .ite (.not (.tru (.isi (.var 3) .tuple))) [.ret (.tup [(.str "BadWeb"), (.int 2)])] [], .set 5 (.call 0 [(.var 1), (.var 3)]), .ret (.ite (.isN true (.var 5)) (.tup [(.str "BadWeb"), (.tup [(.int 2), (.var 5)])]) .non)]
def B_law_vp_is_link : List S := [.ite (.or (.not (.tru (.isi (.var 1) .tuple))) (.cmp .ne (.blt .len [(.var 1)]) (.int 2))) [.ret (.bl false)] [], .ret (.and (.call 0 [(.sub (.var 1) (.int 0)), (.int 0), (.bin .sub (.var 0) (.int 1))]) (.and (.call 0 [(.sub (.var 1) (.int 1)), (.int 0), (.bin .sub (.var 0) (.int 1))]) (.cmp .lt (.sub (.var 1) (.int 0)) (.sub (.var 1) (.int 1)))))]
def B_law_vp_rising_fault : List S := [.ite (.not (.tru (.isi (.var 1) .tuple))) [.ret (.neg (.int 1))] [], .forS (.name 2) .rng1 [(.blt .len [(.var 1)])] [.ite (.or (.not (.tru (.call 0 [(.sub (.var 1) (.var 2)), (.int 0), (.bin .sub (.var 0) (.int 1))]))) (.and (.cmp .gt (.var 2) (.int 0)) (.cmp .le (.sub (.var 1) (.var 2)) (.sub (.var 1) (.bin .sub (.var 2) (.int 1)))))) [.ret (.var 2)] []], .ret .non]
def B_law_vp_nums_fault : List S := [.ite (.or (.not (.tru (.isi (.var 1) .tuple))) (.cmp .ne (.blt .len [(.var 1)]) (.var 0))) [.ret (.neg (.int 1))] [], .set 2 (.lc (.var 3) (.name 3) .rng1 [(.var 0)] (.not (.tru (.call 0 [(.sub (.var 1) (.var 3))]))) [3]), .ret (.ite (.cmp .ne (.var 2) (.lst [])) (.sub (.var 2) (.int 0)) .non)]
def B_law_vp_number : List S := [.set 1 (.call 0 [(.var 0), (.lst [(.int 0), (.int 1), (.int 1), (.int 2), (.int 3), (.int 5), (.int 9), (.call 1 [(.var 0), (.int 13)]), (.call 1 [(.var 0), (.int 1000)])])]), .set 1 (.ite (.cmp .eq (.call 1 [(.var 0), (.int 25)]) (.int 0)) (.call 0 [(.var 0), (.lst [(.bin .add (.bin .pow (.int 10) (.int 40)) (.int 7)), (.bin .mul (.int 6) (.bin .pow (.int 10) (.int 20))), (.bin .pow (.int 2) (.int 61))])]) (.var 1)), .ret (.ite (.cmp .eq (.call 1 [(.var 0), (.int 3)]) (.int 0)) (.neg (.var 1)) (.var 1))]
def B_law_vp_web : List S := [.set 1 (.call 0 [(.var 0), (.lst [(.int 0), (.int 1), (.int 2), (.int 3), (.int 3), (.int 4), (.int 4), (.int 5), (.int 5), (.int 6), (.int 6), (.int 8), (.int 24)])]), .par [2, 3] [(.lst []), (.call 1 [(.var 0), (.blt .listR [(.var 1)])])], .ite (.and (.cmp .gt (.var 1) (.int 1)) (.cmp .eq (.call 2 [(.var 0), (.int 2)]) (.int 0))) [.set 4 (.bin .add (.int 1) (.call 2 [(.var 0), (.bin .sub (.var 1) (.int 1))])), .set 2 (.lc (.tup [(.sub (.var 3) (.var 5)), (.sub (.var 3) (.bin .add (.var 5) (.int 1)))]) (.name 5) .rng1 [(.var 4)] (.bl true) [5])] [], .set 6 (.call 0 [(.var 0), (.lst [(.int 0), (.int 2), (.int 4), (.int 6), (.int 9), (.int 14), (.int 60)])]), .forS (.name 7) .rng1 [(.ite (.cmp .gt (.var 1) (.int 1)) (.call 2 [(.var 0), (.bin .add (.var 6) (.int 1))]) (.int 0))] [.asg (.tup [.name 8, .name 9]) (.slc (.call 1 [(.var 0), (.var 3)]) .non (.int 2)), .set 10 (.ite (.and (.cmp .ne (.var 2) (.lst [])) (.cmp .eq (.call 2 [(.var 0), (.int 6)]) (.int 0))) (.call 0 [(.var 0), (.var 2)]) (.tup [(.var 8), (.var 9)])), .ex (.mth .extend 2 [(.ite (.cmp .lt (.blt .len [(.var 2)]) (.int 60)) (.lst [(.var 10)]) (.lst []))])], .set 11 (.blt .tuple1 [(.lc (.tup [(.blt .min2 [(.var 8), (.var 9)]), (.blt .max2 [(.var 8), (.var 9)])]) (.tup [.name 8, .name 9]) .seq [(.call 1 [(.var 0), (.var 2)])] (.bl true) [8, 9])]), .set 12 (.blt .min2 [(.var 1), (.call 0 [(.var 0), (.lst [(.int 0), (.int 1), (.int 2), (.int 2), (.int 2), (.int 3), (.int 4), (.var 1)])])]), .ret (.tup [(.var 1), (.var 11), (.blt .tuple1 [(.blt .sorted1 [(.slc (.var 3) .non (.var 12))])])])]
def B_law_vp_bent : List S := [.set 2 (.call 0 [(.var 0), (.lst [.non, (.str "0"), (.bl true), (.bl false), (.neg (.int 1)), (.int 0), (.bin .pow (.int 10) (.int 25)), (.tup []), (.tup [(.int 0)]), (.lst [(.int 0)]), (.str "way")])]), .ite (.or (.not (.tru (.isi (.var 1) .tuple))) (.cmp .eq (.var 1) (.tup []))) [.ret (.var 2)] [], .par [3, 4] [(.call 1 [(.var 0), (.blt .len [(.var 1)])]), (.call 1 [(.var 0), (.int 9)])], .ite (.cmp .lt (.var 4) (.int 3)) [.ret (.bin .add (.bin .add (.slc (.var 1) .non (.var 3)) (.tup [(.call 2 [(.var 0), (.sub (.var 1) (.var 3))])])) (.slc (.var 1) (.bin .add (.var 3) (.int 1)) .non))] [], .set 5 (.lst [(.bin .add (.bin .add (.slc (.var 1) .non (.var 3)) (.tup [(.var 2)])) (.slc (.var 1) (.bin .add (.var 3) (.int 1)) .non)), (.bin .add (.slc (.var 1) .non (.var 3)) (.slc (.var 1) (.bin .add (.var 3) (.int 1)) .non)), (.bin .add (.slc (.var 1) .non (.bin .add (.var 3) (.int 1))) (.slc (.var 1) (.var 3) .non))]), .ex (.mth .extend 5 [(.lst [(.bin .add (.slc (.var 1) .non (.var 3)) (.rev (.slc (.var 1) (.var 3) .non))), (.blt .list1 [(.var 1)]), (.bin .add (.var 1) (.tup [(.var 2)]))])]), .ret (.sub (.var 5) (.bin .sub (.var 4) (.int 3)))]
def B_law_f1_wrong : List S := [.asg (.tup [.name 2, .name 3, .name 4]) (.var 1), .set 5 (.lst [(.var 1), (.tup [(.var 2), (.var 3)]), (.bin .add (.var 1) (.tup [(.int 0)])), (.blt .list1 [(.var 1)]), .non, (.var 2), (.tup []), (.tup [(.int 25), (.var 3), (.var 4)]), (.tup [(.neg (.int 1)), (.tup []), (.tup [])]), (.tup [(.bl true), (.tup []), (.tup [])])]), .ex (.mth .extend 5 [(.lst [(.tup [.non, (.var 3), (.var 4)]), (.tup [(.var 2), (.blt .list1 [(.var 3)]), (.var 4)]), (.tup [(.var 2), .non, .non]), (.tup [(.var 2), (.var 3), (.blt .list1 [(.var 4)])]), (.tup [(.var 2), (.var 3), .non])])]), .ex (.mth .extend 5 [(.lst [(.tup [(.int 25), .non, .non]), (.tup [(.var 2), (.int 0), (.tup [(.int 0), (.int 0)])]), (.tup [(.int 24), (.var 3), (.var 4)]), (.tup [(.var 2), (.rev (.var 3)), (.var 4)]), (.tup [(.var 2), (.bin .mul (.var 3) (.int 3)), (.var 4)])])]), .forS (.name 6) .seq [(.lst [(.tup [(.int 0), (.int 0)]), (.tup [(.int 1), (.int 0)]), (.tup [(.int 0), (.var 2)]), (.tup [(.var 2), (.bin .add (.var 2) (.int 1))]), (.tup [(.neg (.int 1)), (.int 0)]), (.tup [(.int 0)]), (.tup [(.int 0), (.int 1), (.int 2)]), (.lst [(.int 0), (.int 1)]), .non, (.tup [(.bl false), (.int 1)]), (.tup [(.int 0), (.str "1")]), (.int 5)])] [.set 7 (.call 0 [(.var 0), (.bin .add (.blt .len [(.var 3)]) (.int 1))]), .ex (.mth .append 5 [(.tup [(.var 2), (.bin .add (.bin .add (.slc (.var 3) .non (.var 7)) (.tup [(.var 6)])) (.slc (.var 3) (.var 7) .non)), (.var 4)])])], .ex (.mth .append 5 [(.tup [(.var 2), (.bin .add (.bin .add (.tup [.non]) (.var 3)) (.tup [(.tup [(.int 0), (.int 0)])])), (.tup [(.int 0), (.int 0)])])]), .forS (.name 8) .seq [(.lst [(.tup [(.int 0), (.int 0)]), (.tup [(.var 2)]), (.tup [(.neg (.int 1))]), (.tup [(.bl true)]), (.tup [(.str "0")]), (.tup [.non]), (.tup [(.int 1), (.int 0)]), (.bin .add (.var 4) (.slc (.var 4) (.neg (.int 1)) .non)), (.bin .add (.var 4) (.tup [(.int 0)])), (.bin .add (.tup [(.int 0)]) (.var 4)), (.int 0)])] [.ex (.mth .append 5 [(.tup [(.var 2), (.var 3), (.var 8)])])], .ret (.bin .add (.var 5) (.lst [(.call 1 [(.var 0), (.var 1)]), (.call 1 [(.var 0), (.call 1 [(.var 0), (.var 1)])])]))]
def B_law_f1_webs_right : List S := [.forS (.name 1) .seq [(.call 0 [(.var 0), (.call 1 [(.var 0)])])] [.set 2 (.call 2 [(.var 1)]), .set 3 (.heard [(0, ""), (1, "BadWeb"), (8, "BadSum"), (9, "BadCosts"), (52, "BadMany"), (53, "TooMany")] (.call 4 [(.var 1)]) [1]), .ite (.not (.tru (.call 3 [(.var 3), (.ite (.isN false (.var 2)) (.tup [(.str "told"), (.var 1)]) (.var 2))]))) [.ret (.bl false)] [], .ite (.not (.tru (.call 3 [(.heard [(0, ""), (1, "BadWeb"), (8, "BadSum"), (9, "BadCosts"), (52, "BadMany"), (53, "TooMany")] (.call 5 [(.var 1)]) [1]), (.tup [(.str "told"), (.isN false (.var 2))])]))) [.ret (.bl false)] []], .ret (.bl true)]
def B_law_f1_rows_right : List S := [.set 1 (.call 0 [(.var 0), (.lst [(.int 0), (.int 1), (.int 2), (.int 3), (.int 5), (.int 60), (.call 2 [(.var 0), (.int 61)])])]), .set 2 (.blt .tuple1 [(.lc (.call 4 [(.var 0)]) (.name 3) .rng1 [(.var 1)] (.bl true) [3])]), .set 4 (.lst [(.var 2), (.bin .add (.var 2) (.tup [(.int 0)])), (.slc (.var 2) (.int 1) .non), (.blt .list1 [(.var 2)]), .non, (.tup [(.var 2)]), (.int 0), (.str "sum"), (.call 1 [(.var 0), (.var 2)])]), .ite (.cmp .gt (.var 1) (.int 0)) [.set 5 (.call 2 [(.var 0), (.var 1)]), .set 6 (.lst [.non, (.bl true), (.str "0"), (.tup [(.int 0)]), (.lst [(.int 0)]), (.bin .pow (.int 10) (.int 60)), (.neg (.bin .pow (.int 10) (.int 60)))]), .ex (.mth .extend 4 [(.lc (.bin .add (.bin .add (.slc (.var 2) .non (.var 5)) (.tup [(.var 7)])) (.slc (.var 2) (.bin .add (.var 5) (.int 1)) .non)) (.name 7) .seq [(.var 6)] (.bl true) [7])]), .ex (.mth .append 4 [(.ite (.cmp .gt (.var 1) (.int 1)) (.bin .add (.bin .add (.tup [.non]) (.slc (.var 2) (.int 1) (.neg (.int 1)))) (.tup [(.str "1")])) (.tup [.non]))])] [], .forS (.name 8) .seq [(.var 4)] [.set 9 (.call 3 [(.var 1), (.var 8)]), .set 10 (.heard [(0, ""), (1, "BadWeb"), (8, "BadSum"), (9, "BadCosts"), (52, "BadMany"), (53, "TooMany")] (.call 6 [(.var 1), (.var 8)]) [1, 8]), .ite (.not (.tru (.call 5 [(.var 10), (.ite (.isN false (.var 9)) (.tup [(.str "told"), (.var 8)]) (.tup [(.str "BadSum"), (.var 9)]))]))) [.ret (.bl false)] [], .set 10 (.heard [(0, ""), (1, "BadWeb"), (8, "BadSum"), (9, "BadCosts"), (52, "BadMany"), (53, "TooMany")] (.call 7 [(.var 1), (.var 8)]) [1, 8]), .ite (.not (.tru (.call 5 [(.var 10), (.ite (.isN false (.var 9)) (.tup [(.str "told"), (.var 8)]) (.tup [(.str "BadCosts"), (.var 9)]))]))) [.ret (.bl false)] []], .ret (.bl true)]
def B_law_f1_first_right : List S := [.set 1 (.call 0 [(.var 0), (.lst [.non, (.tup []), (.tup [(.int 1)]), (.lst [(.int 1)]), (.tup [(.str "0")])])]), .forS (.name 2) .seq [(.lst [(.neg (.int 1)), (.int 61), .non, (.bl true), (.bl false), (.str "1"), (.tup [(.int 1)]), (.bin .pow (.int 10) (.int 20))])] [.set 3 (.lst [(.heard [(0, ""), (1, "BadWeb"), (8, "BadSum"), (9, "BadCosts"), (52, "BadMany"), (53, "TooMany")] (.call 2 [(.var 2), (.var 1)]) [2, 1])]), .ex (.mth .append 3 [(.heard [(0, ""), (1, "BadWeb"), (8, "BadSum"), (9, "BadCosts"), (52, "BadMany"), (53, "TooMany")] (.call 3 [(.var 2), (.var 1)]) [2, 1])]), .ite (.not (.tru (.call 1 [(.blt .tuple1 [(.var 3)]), (.bin .mul (.tup [(.tup [(.str "BadMany"), (.var 2)])]) (.int 2))]))) [.ret (.bl false)] []], .ret (.bl true)]
def B_law_f1_bounds_right : List S := [.set 1 (.blt .tuple1 [(.lc (.tup [(.bin .mod (.blt .int1 [(.bin .mul (.var 2) (.int 7))]) (.int 23)), (.int 23)]) (.name 2) .rng1 [(.int 60)] (.bl true) [2])]), .set 3 (.tup [(.int 24), (.var 1), (.blt .tupleR [(.int 24)])]), .set 4 (.lst [(.heard [(0, ""), (1, "BadWeb"), (8, "BadSum"), (9, "BadCosts"), (52, "BadMany"), (53, "TooMany")] (.call 1 [(.var 3)]) [3])]), .ex (.mth .append 4 [(.heard [(0, ""), (1, "BadWeb"), (8, "BadSum"), (9, "BadCosts"), (52, "BadMany"), (53, "TooMany")] (.call 1 [(.tup [(.int 24), (.bin .add (.var 1) (.slc (.var 1) .non (.int 1))), (.tup [])])]) [1])]), .ex (.mth .append 4 [(.heard [(0, ""), (1, "BadWeb"), (8, "BadSum"), (9, "BadCosts"), (52, "BadMany"), (53, "TooMany")] (.call 1 [(.tup [(.int 24), (.bin .mul (.tup [.non]) (.int 61)), .non])]) [])]), .ex (.mth .append 4 [(.heard [(0, ""), (1, "BadWeb"), (8, "BadSum"), (9, "BadCosts"), (52, "BadMany"), (53, "TooMany")] (.call 2 [(.tup [(.int 24), (.bin .mul (.tup [.non]) (.int 61)), (.tup [])])]) [])]), .ex (.mth .append 4 [(.heard [(0, ""), (1, "BadWeb"), (8, "BadSum"), (9, "BadCosts"), (52, "BadMany"), (53, "TooMany")] (.call 1 [(.tup [(.int 0), (.tup []), (.tup [])])]) [])]), .ex (.mth .append 4 [(.heard [(0, ""), (1, "BadWeb"), (8, "BadSum"), (9, "BadCosts"), (52, "BadMany"), (53, "TooMany")] (.call 1 [(.tup [(.int 2), (.bin .mul (.tup [(.tup [(.int 0), (.int 1)])]) (.int 60)), (.tup [(.int 0), (.int 1)])])]) [])]), .ex (.mth .append 4 [(.heard [(0, ""), (1, "BadWeb"), (8, "BadSum"), (9, "BadCosts"), (52, "BadMany"), (53, "TooMany")] (.call 1 [(.tup [(.int 0), (.tup []), (.tup [(.int 0)])])]) [])]), .set 5 (.lst [(.tup [(.str "told"), (.var 3)]), (.tup [(.str "TooMany"), (.int 61)]), (.tup [(.str "TooMany"), (.int 61)]), (.tup [(.str "told"), (.bl false)]), (.tup [(.str "told"), (.tup [(.int 0), (.tup []), (.tup [])])])]), .ex (.mth .extend 5 [(.lst [(.tup [(.str "told"), (.tup [(.int 2), (.bin .mul (.tup [(.tup [(.int 0), (.int 1)])]) (.int 60)), (.tup [(.int 0), (.int 1)])])]), (.tup [(.str "BadWeb"), (.tup [(.int 2), (.int 0)])])])]), .ret (.call 0 [(.blt .tuple1 [(.var 4)]), (.blt .tuple1 [(.var 5)])])]
def B_law : List S := [.set 1 (.call 0 [(.var 0)]), .forS (.name 2) .rng1 [(.int 5)] [.ite (.or (.not (.tru (.call 3 [(.var 1)]))) (.not (.tru (.call 4 [(.var 1)])))) [.ret (.bl false)] []], .ret (.and (.call 1 [(.var 1)]) (.call 2 [(.var 1)]))]
end PL
set_option Elab.async false
set_option linter.all false
set_option maxRecDepth 100000
set_option maxHeartbeats 8000000
namespace PL
open PySem PySem.Spec PyProof.Rows L2 LamX
def B_made_prices : List S := [.ex (.call 0 [(.var 0), (.int 0), (.int 60)]), .ite (.or (.not (.tru (.isi (.var 1) .tuple))) (.cmp .ne (.blt .len [(.var 1)]) (.var 0))) [.rais 21 (.neg (.int 1))] [], .forS (.tup [.name 2, .name 3]) .enum [(.var 1)] [.ite (.or (.not (.tru (.call 1 [(.var 3)]))) (.cmp .lt (.var 3) (.int 0))) [.rais 21 (.var 2)] []], .ret (.var 1)]
def B_places_from : List S := [.set 3 (.lst [(.var 2)]), .forS (.name 4) .seq [(.var 1)] [.asg (.tup [.name 5, .name 6]) (.sub (.var 0) (.var 4)), .ite (.cmp .notIn (.sub (.var 3) (.neg (.int 1))) (.tup [(.var 5), (.var 6)])) [.ret .non] [], .ex (.mth .append 3 [(.bin .sub (.bin .add (.var 5) (.var 6)) (.sub (.var 3) (.neg (.int 1))))]), .ite (.cmp .isIn (.sub (.var 3) (.neg (.int 1))) (.slc (.var 3) .non (.neg (.int 1)))) [.ret .non] []], .ret (.var 3)]
def B_is_led : List S := [.ite (.or (.isN false (.var 1)) (.or (.cmp .notIn (.sub (.var 1) (.int 0)) (.var 0)) (.or (.cmp .notIn (.sub (.var 1) (.neg (.int 1))) (.var 0)) (.cmp .ge (.sub (.var 1) (.int 0)) (.sub (.var 1) (.neg (.int 1))))))) [.ret (.bl false)] [], .ret (.not (.blt .any1 [(.lc (.cmp .isIn (.var 2) (.var 0)) (.name 2) .seq [(.slc (.var 1) (.int 1) (.neg (.int 1)))] (.bl true) [2])]))]
def B_places_of : List S := [.asg (.tup [.name 2, .name 3, .name 4]) (.var 0), .ite (.or (.not (.tru (.isi (.var 1) .tuple))) (.not (.chain .lt .lt (.int 0) (.blt .len [(.var 1)]) (.blt .max2 [(.var 2), (.int 1)])))) [.ret .non] [], .ite (.not (.tru (.blt .all1 [(.lc (.call 2 [(.var 5), (.int 0), (.bin .sub (.blt .len [(.var 3)]) (.int 1))]) (.name 5) .seq [(.var 1)] (.bl true) [5])]))) [.ret .non] [], .forS (.name 6) .seq [(.sub (.var 3) (.sub (.var 1) (.int 0)))] [.set 7 (.call 0 [(.var 3), (.var 1), (.var 6)]), .ite (.tru (.call 1 [(.var 4), (.var 7)])) [.ret (.var 7)] []], .ret .non]
def B_is_way : List S := [.ret (.isN true (.call 0 [(.call 1 [(.var 0)]), (.var 1)]))]
def B_is_book_row : List S := [.ite (.or (.not (.tru (.isi (.var 1) .tuple))) (.or (.cmp .ne (.blt .len [(.var 1)]) (.int 3)) (.or (.not (.tru (.isi (.sub (.var 1) (.int 0)) .str))) (.not (.tru (.call 1 [(.sub (.var 1) (.int 2))])))))) [.ret (.bl false)] [], .ite (.cmp .eq (.sub (.var 1) (.int 0)) (.str "way")) [.ret (.isN true (.call 2 [(.var 0), (.sub (.var 1) (.int 1))]))] [], .ret (.and (.cmp .eq (.sub (.var 1) (.int 0)) (.str "look")) (.call 0 [(.sub (.var 1) (.int 1)), (.int 0), (.bin .sub (.blt .len [(.sub (.var 0) (.int 1))]) (.int 1))]))]
def B_asked_book : List S := [.ite (.not (.tru (.isi (.var 1) .tuple))) [.rais 17 (.neg (.int 1))] [], .ite (.cmp .gt (.blt .len [(.var 1)]) (.int 60)) [.rais 53 (.blt .len [(.var 1)])] [], .forS (.tup [.name 2, .name 3]) .enum [(.var 1)] [.ite (.not (.tru (.call 0 [(.var 0), (.var 3)]))) [.rais 17 (.var 2)] []], .ret (.var 1)]
def B_made_book : List S := [.ret (.call 0 [(.call 1 [(.var 0)]), (.var 1)])]
def B_is_bound : List S := [.ite (.or (.not (.tru (.isi (.var 0) .tuple))) (.cmp .ne (.blt .len [(.var 0)]) (.int 2))) [.ret (.bl false)] [], .ite (.not (.tru (.blt .all1 [(.lc (.or (.isN false (.var 1)) (.call 0 [(.var 1)])) (.name 1) .seq [(.var 0)] (.bl true) [1])]))) [.ret (.bl false)] [], .ret (.or (.cmp .isIn .non (.var 0)) (.cmp .le (.sub (.var 0) (.int 0)) (.sub (.var 0) (.int 1))))]
def B_asked_bounds : List S := [.ite (.or (.not (.tru (.isi (.var 1) .tuple))) (.cmp .ne (.blt .len [(.var 1)]) (.var 0))) [.rais 22 (.neg (.int 1))] [], .forS (.tup [.name 2, .name 3]) .enum [(.var 1)] [.ite (.not (.tru (.call 0 [(.var 3)]))) [.rais 22 (.var 2)] []], .ret (.var 1)]
def B_made_bounds : List S := [.ret (.call 0 [(.call 1 [(.var 0), (.int 0), (.int 60)]), (.var 1)])]
def B_law_vp_other : List S := [.ret (.ite (.cmp .eq (.sub (.var 0) (.int 0)) (.var 1)) (.sub (.var 0) (.int 1)) (.sub (.var 0) (.int 0)))]
def B_law_vp_is_way : List S := [.asg (.tup [.name 2, .name 3, .name 4]) (.var 0), .ite (.or (.not (.tru (.isi (.var 1) .tuple))) (.cmp .eq (.var 1) (.tup []))) [.ret (.bl false)] [], .ite (.cmp .ne (.lc (.var 5) (.name 5) .seq [(.var 1)] (.not (.tru (.call 1 [(.var 5), (.int 0), (.bin .sub (.blt .len [(.var 3)]) (.int 1))]))) [5]) (.lst [])) [.ret (.bl false)] [], .forS (.name 6) .seq [(.sub (.var 3) (.sub (.var 1) (.int 0)))] [.set 7 (.call 0 [(.var 3), (.var 1), (.var 6)]), .ite (.and (.isN true (.var 7)) (.and (.cmp .isIn (.var 6) (.var 4)) (.and (.cmp .isIn (.sub (.var 7) (.neg (.int 1))) (.var 4)) (.cmp .lt (.var 6) (.sub (.var 7) (.neg (.int 1))))))) [.ite (.and (.cmp .eq (.blt .lenset [(.var 7)]) (.blt .len [(.var 7)])) (.cmp .eq (.lc (.var 8) (.name 8) .seq [(.slc (.var 7) (.int 1) (.neg (.int 1)))] (.cmp .isIn (.var 8) (.var 4)) [8]) (.lst []))) [.ret (.bl true)] []] []], .ret (.bl false)]
def B_law_vp_walked : List S := [.set 3 (.lst [(.var 2)]), .forS (.name 4) .seq [(.var 1)] [.ite (.cmp .notIn (.sub (.var 3) (.neg (.int 1))) (.sub (.var 0) (.var 4))) [.ret .non] [], .ex (.mth .append 3 [(.call 0 [(.sub (.var 0) (.var 4)), (.sub (.var 3) (.neg (.int 1)))])])], .ret (.blt .tuple1 [(.var 3)])]
def B_law_f2_roads : List S := [.asg (.tup [.name 2, .name 3, .name 4]) (.var 1), .set 5 (.lst []), .forS (.name 6) .seq [(.slc (.call 0 [(.var 0), (.blt .list1 [(.var 4)])]) .non (.int 3))] [.par [7, 8] [(.lst []), (.lst [(.var 6)])], .forS (.name 9) .rng1 [(.int 6)] [.set 10 (.lc (.var 11) (.name 11) .rng1 [(.blt .len [(.var 3)])] (.cmp .isIn (.sub (.var 8) (.neg (.int 1))) (.sub (.var 3) (.var 11))) [11]), .set 10 (.lc (.var 11) (.name 11) .seq [(.var 10)] (.cmp .notIn (.call 2 [(.sub (.var 3) (.var 11)), (.sub (.var 8) (.neg (.int 1)))]) (.var 8)) [11]), .ite (.cmp .eq (.var 10) (.lst [])) [.brk] [], .ex (.mth .append 7 [(.call 1 [(.var 0), (.var 10)])]), .ex (.mth .append 8 [(.call 2 [(.sub (.var 3) (.sub (.var 7) (.neg (.int 1)))), (.sub (.var 8) (.neg (.int 1)))])]), .ex (.mth .append 5 [(.blt .tuple1 [(.var 7)])])]], .ret (.var 5)]
def B_law_f2_things : List S := [.set 2 (.blt .len [(.sub (.var 1) (.int 1))]), .set 3 (.call 0 [(.var 0), (.var 1)]), .set 4 (.bin .add (.bin .add (.var 3) (.lc (.rev (.var 5)) (.name 5) .seq [(.var 3)] (.bl true) [5])) (.lc (.bin .add (.var 5) (.slc (.var 5) (.neg (.int 1)) .non)) (.name 5) .seq [(.slc (.var 3) .non (.int 3))] (.bl true) [5])), .ex (.mth .extend 4 [(.bin .add (.lc (.slc (.var 5) (.int 1) .non) (.name 5) .seq [(.var 3)] (.bl true) [5]) (.lst [(.tup []), .non, (.int 0), (.tup [(.var 2)]), (.tup [(.neg (.int 1))]), (.tup [(.int 0), (.int 0)]), (.lst [(.int 0)]), (.tup [(.bl true)]), (.tup [(.str "0")]), (.tup [.non])]))]), .ex (.mth .extend 4 [(.lst [(.tup [(.int 0)]), (.tup [(.int 0), (.int 1)]), (.tup [(.int 1), (.int 0)]), (.blt .tupleR [(.var 2)])])]), .ex (.mth .extend 4 [(.lc (.blt .tuple1 [(.lc (.call 2 [(.var 0), (.bin .add (.var 2) (.int 1))]) (.name 7) .rng1 [(.bin .add (.int 1) (.call 2 [(.var 0), (.int 3)]))] (.bl true) [7])]) (.name 6) .rng1 [(.int 3)] (.bl true) [6])]), .ret (.bin .add (.bin .add (.var 4) (.lc (.blt .list1 [(.var 5)]) (.name 5) .seq [(.slc (.var 3) .non (.int 2))] (.bl true) [5])) (.lc (.call 1 [(.var 0), (.var 5)]) (.name 5) .seq [(.slc (.var 3) .non (.int 3))] (.bl true) [5]))]
def B_law_f2_ways_right : List S := [.forS (.name 3) .seq [(.var 2)] [.ite (.not (.tru (.call 0 [(.heard [(0, ""), (1, "BadWeb"), (17, "BadBook"), (21, "BadPrices"), (22, "BadBounds"), (52, "BadMany"), (53, "TooMany")] (.call 2 [(.var 1), (.var 3)]) [3, 1]), (.tup [(.str "told"), (.call 1 [(.var 1), (.var 3)])])]))) [.ret (.bl false)] []], .ret (.bl true)]
def B_law_f2_is_row : List S := [.ite (.or (.not (.tru (.isi (.var 1) .tuple))) (.or (.cmp .ne (.blt .len [(.var 1)]) (.int 3)) (.not (.tru (.isi (.sub (.var 1) (.int 0)) .str))))) [.ret (.bl false)] [], .ite (.not (.tru (.call 0 [(.sub (.var 1) (.int 2))]))) [.ret (.bl false)] [], .ite (.cmp .eq (.sub (.var 1) (.int 0)) (.str "way")) [.ret (.call 1 [(.var 0), (.sub (.var 1) (.int 1))])] [], .ret (.and (.cmp .eq (.sub (.var 1) (.int 0)) (.str "look")) (.call 2 [(.sub (.var 1) (.int 1)), (.int 0), (.bin .sub (.blt .len [(.sub (.var 0) (.int 1))]) (.int 1))]))]
def B_law_f2_book_fault : List S := [.ite (.not (.tru (.isi (.var 1) .tuple))) [.ret (.tup [(.str "BadBook"), (.neg (.int 1))])] [], .ite (.cmp .gt (.blt .len [(.var 1)]) (.int 60)) [.ret (.tup [(.str "TooMany"), (.blt .len [(.var 1)])])] [], .set 2 (.lc (.var 3) (.name 3) .rng1 [(.blt .len [(.var 1)])] (.not (.tru (.call 0 [(.var 0), (.sub (.var 1) (.var 3))]))) [3]), .ret (.ite (.cmp .ne (.var 2) (.lst [])) (.tup [(.str "BadBook"), (.sub (.var 2) (.int 0))]) .non)]
def B_law_f2_rows : List S := [.set 3 (.lc (.var 4) (.name 4) .seq [(.var 2)] (.tru (.call 1 [(.var 1), (.var 4)])) [4]), .set 5 (.lc (.tup [(.str "way"), (.var 6), (.call 2 [(.var 0)])]) (.name 6) .seq [(.slc (.call 0 [(.var 0), (.var 3)]) .non (.int 4))] (.bl true) [6]), .ex (.mth .extend 5 [(.lc (.tup [(.str "look"), (.var 7), (.call 2 [(.var 0)])]) (.name 7) .seq [(.slc (.call 0 [(.var 0), (.blt .listR [(.blt .len [(.sub (.var 1) (.int 1))])])]) .non (.int 3))] (.bl true) [7])]), .ex (.mth .extend 5 [(.ite (.cmp .ne (.var 5) (.lst [])) (.lst [(.call 3 [(.var 0), (.var 5)])]) (.lst []))]), .ret (.blt .tuple1 [(.call 0 [(.var 0), (.var 5)])])]
def B_law_f2_books_right : List S := [.par [3, 4] [(.call 0 [(.var 0), (.var 1), (.var 2)]), (.blt .len [(.sub (.var 1) (.int 1))])], .set 5 (.lst [(.var 3), (.blt .list1 [(.var 3)]), .non, (.int 0), (.tup []), (.bin .add (.var 3) (.var 3)), (.rev (.var 3)), (.bin .mul (.var 3) (.int 20)), (.bin .mul (.tup [.non]) (.int 61)), (.bin .mul (.tup [.non]) (.int 60)), (.str "book")]), .set 6 (.bin .add (.lc (.tup [(.str "way"), (.var 7), (.int 3)]) (.name 7) .seq [(.slc (.call 6 [(.var 0), (.var 2)]) .non (.int 8))] (.bl true) [7]) (.lst [(.tup [(.str "look"), (.var 4), (.int 1)]), (.tup [(.str "look"), (.neg (.int 1)), (.int 1)]), .non])), .ex (.mth .extend 6 [(.lst [(.tup [(.str "look"), (.bl true), (.int 1)]), (.tup [(.str "look"), (.int 0), (.bl true)]), (.tup [(.str "look"), (.int 0), (.str "1")]), (.tup [(.str "look"), (.int 0)]), (.tup [(.str "see"), (.int 0), (.int 1)]), (.tup [(.str "way"), (.int 0), (.int 1)])])]), .ex (.mth .extend 6 [(.lst [(.tup []), (.tup [(.str "look"), (.tup [(.int 0)]), (.int 1)]), (.tup [(.int 0), (.str "look"), (.int 1)]), (.lst [(.str "look"), (.int 0), (.int 1)]), (.tup [(.str "look"), (.int 0), (.int 1), (.int 1)]), (.tup [(.str "look"), (.int 0), .non])])]), .ex (.mth .append 6 [(.tup [.non, (.int 0), (.int 1)])]), .forS (.name 8) .seq [(.var 6)] [.set 9 (.call 1 [(.var 0), (.bin .add (.blt .len [(.var 3)]) (.int 1))]), .ex (.mth .append 5 [(.bin .add (.bin .add (.slc (.var 3) .non (.var 9)) (.tup [(.var 8)])) (.slc (.var 3) (.var 9) .non))])], .ex (.mth .append 5 [(.bin .add (.bin .add (.tup [.non]) (.var 3)) (.tup [(.int 0)]))]), .forS (.name 7) .seq [(.bin .add (.var 5) (.lst [(.call 3 [(.var 0), (.var 3)]), (.call 3 [(.var 0), (.call 3 [(.var 0), (.var 3)])])]))] [.set 10 (.call 2 [(.var 1), (.var 7)]), .set 11 (.heard [(0, ""), (1, "BadWeb"), (17, "BadBook"), (21, "BadPrices"), (22, "BadBounds"), (52, "BadMany"), (53, "TooMany")] (.call 5 [(.var 1), (.var 7)]) [7, 1]), .ite (.not (.tru (.call 4 [(.var 11), (.ite (.isN false (.var 10)) (.tup [(.str "told"), (.var 7)]) (.var 10))]))) [.ret (.bl false)] []], .ret (.bl true)]
def B_law_f2_is_pair : List S := [.ite (.or (.not (.tru (.isi (.var 0) .tuple))) (.cmp .ne (.blt .len [(.var 0)]) (.int 2))) [.ret (.bl false)] [], .ite (.cmp .ne (.lc (.var 1) (.name 1) .seq [(.var 0)] (.and (.isN true (.var 1)) (.not (.tru (.call 0 [(.var 1)])))) [1]) (.lst [])) [.ret (.bl false)] [], .ret (.or (.isN false (.sub (.var 0) (.int 0))) (.or (.isN false (.sub (.var 0) (.int 1))) (.cmp .le (.sub (.var 0) (.int 0)) (.sub (.var 0) (.int 1)))))]
def B_law_f2_pairs_fault : List S := [.ite (.or (.not (.tru (.isi (.var 1) .tuple))) (.cmp .ne (.blt .len [(.var 1)]) (.var 0))) [.ret (.neg (.int 1))] [], .set 2 (.lc (.var 3) (.name 3) .rng1 [(.var 0)] (.not (.tru (.call 0 [(.sub (.var 1) (.var 3))]))) [3]), .ret (.ite (.cmp .ne (.var 2) (.lst [])) (.sub (.var 2) (.int 0)) .non)]
def B_law_f2_prices_fault : List S := [.ite (.or (.not (.tru (.isi (.var 1) .tuple))) (.cmp .ne (.blt .len [(.var 1)]) (.var 0))) [.ret (.neg (.int 1))] [], .set 2 (.lc (.var 3) (.name 3) .rng1 [(.var 0)] (.or (.not (.tru (.call 0 [(.sub (.var 1) (.var 3))]))) (.cmp .lt (.sub (.var 1) (.var 3)) (.int 0))) [3]), .ret (.ite (.cmp .ne (.var 2) (.lst [])) (.sub (.var 2) (.int 0)) .non)]
def B_law_f2_ends_right : List S := [.par [1, 2] [(.call 0 [(.var 0), (.lst [(.int 0), (.int 1), (.int 2), (.int 3), (.int 6), (.int 60), (.call 3 [(.var 0), (.int 61)])])]), (.lst [])], .forS (.name 3) .rng1 [(.var 1)] [.set 4 (.call 1 [(.var 0)]), .set 5 (.lst [(.tup [(.var 4), (.var 4)]), (.tup [(.var 4), (.bin .add (.var 4) (.call 3 [(.var 0), (.int 30)]))]), (.tup [.non, (.var 4)]), (.tup [(.var 4), .non]), (.tup [.non, .non])]), .ex (.mth .append 2 [(.call 0 [(.var 0), (.var 5)])])], .set 6 (.blt .tuple1 [(.var 2)]), .set 7 (.lst [(.var 6), (.bin .add (.var 6) (.tup [(.tup [(.int 0), (.int 1)])])), (.slc (.var 6) (.int 1) .non), (.blt .list1 [(.var 6)]), .non, (.int 0), (.bin .mul (.tup [(.tup [.non, .non])]) (.var 1)), (.rev (.var 6))]), .ex (.mth .append 7 [(.call 2 [(.var 0), (.var 6)])]), .set 8 (.lst [(.tup [(.int 1), (.int 0)]), (.tup [(.int 0)]), (.tup [(.int 0), (.int 1), (.int 2)]), (.lst [(.int 0), (.int 1)]), .non, (.int 5), (.tup [(.bl true), (.int 2)]), (.tup [(.int 0), (.bl false)]), (.tup [(.str "0"), (.int 1)]), (.tup [(.neg (.int 1)), (.neg (.int 2))]), (.tup [(.int 0), (.tup [(.int 1)])]), (.tup [(.int 3), (.int 3)])]), .forS (.name 9) .seq [(.ite (.cmp .gt (.var 1) (.int 0)) (.var 8) (.lst []))] [.set 10 (.call 3 [(.var 0), (.var 1)]), .ex (.mth .append 7 [(.bin .add (.bin .add (.slc (.var 6) .non (.var 10)) (.tup [(.var 9)])) (.slc (.var 6) (.bin .add (.var 10) (.int 1)) .non))])], .forS (.name 11) .seq [(.var 7)] [.set 12 (.call 4 [(.var 1), (.var 11)]), .set 13 (.heard [(0, ""), (1, "BadWeb"), (17, "BadBook"), (21, "BadPrices"), (22, "BadBounds"), (52, "BadMany"), (53, "TooMany")] (.call 6 [(.var 1), (.var 11)]) [1, 11]), .ite (.not (.tru (.call 5 [(.var 13), (.ite (.isN false (.var 12)) (.tup [(.str "told"), (.var 11)]) (.tup [(.str "BadBounds"), (.var 12)]))]))) [.ret (.bl false)] []], .ret (.bl true)]
def B_law_f2_prices_right : List S := [.set 1 (.call 0 [(.var 0), (.lst [(.int 0), (.int 1), (.int 2), (.int 3), (.int 6), (.int 60), (.call 2 [(.var 0), (.int 61)])])]), .set 2 (.blt .tuple1 [(.lc (.call 0 [(.var 0), (.lst [(.int 0), (.int 0), (.int 1), (.int 2), (.int 7), (.bin .pow (.int 10) (.int 50))])]) (.name 3) .rng1 [(.var 1)] (.bl true) [3])]), .set 4 (.lst [(.var 2), (.bin .add (.var 2) (.tup [(.int 0)])), (.slc (.var 2) (.int 1) .non), (.blt .list1 [(.var 2)]), .non, (.int 0), (.tup [(.var 2)]), (.call 1 [(.var 0), (.var 2)])]), .forS (.name 5) .seq [(.ite (.cmp .gt (.var 1) (.int 0)) (.lst [(.neg (.int 1)), .non, (.bl true), (.str "0"), (.tup [(.int 0)]), (.neg (.bin .pow (.int 10) (.int 50)))]) (.lst []))] [.set 6 (.call 2 [(.var 0), (.var 1)]), .ex (.mth .append 4 [(.bin .add (.bin .add (.slc (.var 2) .non (.var 6)) (.tup [(.var 5)])) (.slc (.var 2) (.bin .add (.var 6) (.int 1)) .non))])], .forS (.name 7) .seq [(.var 4)] [.set 8 (.call 3 [(.var 1), (.var 7)]), .set 9 (.heard [(0, ""), (1, "BadWeb"), (17, "BadBook"), (21, "BadPrices"), (22, "BadBounds"), (52, "BadMany"), (53, "TooMany")] (.call 5 [(.var 1), (.var 7)]) [1, 7]), .ite (.not (.tru (.call 4 [(.var 9), (.ite (.isN false (.var 8)) (.tup [(.str "told"), (.var 7)]) (.tup [(.str "BadPrices"), (.var 8)]))]))) [.ret (.bl false)] []], .ret (.bl true)]
def B_law_f2_first_right : List S := [.set 2 (.call 0 [(.var 0), (.lst [.non, (.tup []), (.tup [(.int 1)]), (.lst [(.int 1)]), (.tup [(.tup [(.int 1), (.int 0)])])])]), .forS (.name 3) .seq [(.lst [(.neg (.int 1)), (.int 61), .non, (.bl true), (.str "1"), (.tup [])])] [.set 4 (.lst [(.heard [(0, ""), (1, "BadWeb"), (17, "BadBook"), (21, "BadPrices"), (22, "BadBounds"), (52, "BadMany"), (53, "TooMany")] (.call 5 [(.var 3), (.var 2)]) [3, 2])]), .ex (.mth .append 4 [(.heard [(0, ""), (1, "BadWeb"), (17, "BadBook"), (21, "BadPrices"), (22, "BadBounds"), (52, "BadMany"), (53, "TooMany")] (.call 6 [(.var 3), (.var 2)]) [3, 2])]), .ite (.not (.tru (.call 1 [(.blt .tuple1 [(.var 4)]), (.bin .mul (.tup [(.tup [(.str "BadMany"), (.var 3)])]) (.int 2))]))) [.ret (.bl false)] []], .asg (.tup [.name 5, .name 6, .name 7]) (.var 1), .set 8 (.lst [.non, (.tup [(.int 25), (.tup []), (.tup [])]), (.tup [(.var 5), (.blt .list1 [(.var 6)]), (.var 7)]), (.tup [(.var 5), (.bin .add (.var 6) (.tup [(.tup [(.int 0), (.int 0)])])), (.var 7)]), (.tup [(.var 5), (.var 6), (.tup [(.int 0), (.int 0)])]), (.tup [])]), .set 9 (.call 0 [(.var 0), (.var 8)]), .set 4 (.lst [(.heard [(0, ""), (1, "BadWeb"), (17, "BadBook"), (21, "BadPrices"), (22, "BadBounds"), (52, "BadMany"), (53, "TooMany")] (.call 2 [(.var 9), (.var 2)]) [9, 2])]), .ex (.mth .append 4 [(.heard [(0, ""), (1, "BadWeb"), (17, "BadBook"), (21, "BadPrices"), (22, "BadBounds"), (52, "BadMany"), (53, "TooMany")] (.call 3 [(.var 9), (.var 2)]) [9, 2])]), .ret (.call 1 [(.blt .tuple1 [(.var 4)]), (.bin .mul (.tup [(.call 4 [(.var 9)])]) (.int 2))])]
def B_law_f2_hand_right : List S := [.set 0 (.tup [(.int 4), (.tup [(.tup [(.int 0), (.int 1)]), (.tup [(.int 0), (.int 1)]), (.tup [(.int 1), (.int 2)]), (.tup [(.int 2), (.int 3)])]), (.tup [(.int 0), (.int 2), (.int 3)])]), .set 1 (.tup [(.tup [(.str "way"), (.tup [(.int 0), (.int 2)]), (.int 5)]), (.tup [(.str "way"), (.tup [(.int 1), (.int 2)]), (.neg (.int 1))]), (.tup [(.str "way"), (.tup [(.int 3)]), (.int 0)]), (.tup [(.str "look"), (.int 0), (.bin .pow (.int 10) (.int 30))])]), .set 2 (.lst [(.heard [(0, ""), (1, "BadWeb"), (17, "BadBook"), (21, "BadPrices"), (22, "BadBounds"), (52, "BadMany"), (53, "TooMany")] (.call 1 [(.var 0), (.var 1)]) [1, 0])]), .forS (.name 3) .seq [(.lst [(.tup [(.int 2), (.int 0)]), (.tup [(.int 0), (.int 2), (.int 3)]), (.tup [(.int 0), (.int 1)]), (.tup [(.int 2)]), (.tup [(.int 0), (.int 1), (.int 2)]), (.tup [(.int 0), (.int 2), (.int 2)]), (.tup [(.int 3), (.int 2), (.int 0)])])] [.ex (.mth .append 2 [(.heard [(0, ""), (1, "BadWeb"), (17, "BadBook"), (21, "BadPrices"), (22, "BadBounds"), (52, "BadMany"), (53, "TooMany")] (.call 1 [(.var 0), (.bin .add (.var 1) (.tup [(.tup [(.str "way"), (.var 3), (.int 1)])]))]) [1, 3, 0])])], .ex (.mth .append 2 [(.heard [(0, ""), (1, "BadWeb"), (17, "BadBook"), (21, "BadPrices"), (22, "BadBounds"), (52, "BadMany"), (53, "TooMany")] (.call 1 [(.var 0), (.bin .mul (.tup [(.tup [(.str "look"), (.int 0), (.int 1)])]) (.int 60))]) [0])]), .ex (.mth .append 2 [(.heard [(0, ""), (1, "BadWeb"), (17, "BadBook"), (21, "BadPrices"), (22, "BadBounds"), (52, "BadMany"), (53, "TooMany")] (.call 1 [(.var 0), (.bin .mul (.tup [(.tup [(.str "look"), (.int 0), (.int 1)])]) (.int 61))]) [0])]), .set 4 (.bin .add (.bin .add (.lst [(.tup [(.str "told"), (.var 1)])]) (.bin .mul (.lst [(.tup [(.str "BadBook"), (.int 4)])]) (.int 7))) (.lst [(.tup [(.str "told"), (.bin .mul (.tup [(.tup [(.str "look"), (.int 0), (.int 1)])]) (.int 60))]), (.tup [(.str "TooMany"), (.int 61)])])), .ite (.not (.tru (.call 0 [(.blt .tuple1 [(.var 2)]), (.blt .tuple1 [(.var 4)])]))) [.ret (.bl false)] [], .set 0 (.tup [(.int 4), (.tup [(.tup [(.int 0), (.int 1)]), (.tup [(.int 1), (.int 2)]), (.tup [(.int 1), (.int 2)]), (.tup [(.int 1), (.int 3)])]), (.tup [(.int 0), (.int 3)])]), .set 5 (.lst [(.tup [(.tup [(.int 0), (.int 3)]), (.bl true)]), (.tup [(.tup [(.int 0), (.int 1), (.int 2), (.int 3)]), (.bl false)]), (.tup [(.tup [(.int 0)]), (.bl false)]), (.tup [(.tup [(.int 3)]), (.bl false)]), (.tup [(.tup [(.int 0), (.int 1)]), (.bl false)]), (.tup [(.tup [(.int 3), (.int 0)]), (.bl false)])]), .forS (.tup [.name 3, .name 6]) .seq [(.var 5)] [.ite (.not (.tru (.call 0 [(.heard [(0, ""), (1, "BadWeb"), (17, "BadBook"), (21, "BadPrices"), (22, "BadBounds"), (52, "BadMany"), (53, "TooMany")] (.call 2 [(.var 0), (.var 3)]) [3, 0]), (.tup [(.str "told"), (.var 6)])]))) [.ret (.bl false)] []], .ret (.bl true)]
def B_law_K2 : List S := [.set 1 (.call 0 [(.var 0)]), .forS (.name 2) .rng1 [(.int 4)] [.set 3 (.call 2 [(.var 1)]), .set 4 (.call 3 [(.var 1), (.var 3)]), .ite (.or (.not (.tru (.call 4 [(.var 1), (.var 3), (.var 4)]))) (.not (.tru (.call 5 [(.var 1), (.var 3), (.var 4)])))) [.ret (.bl false)] [], .ite (.or (.not (.tru (.call 6 [(.var 1)]))) (.or (.not (.tru (.call 7 [(.var 1)]))) (.not (.tru (.call 8 [(.var 1), (.var 3)]))))) [.ret (.bl false)] []], .ret (.call 1 [])]
end PL
set_option linter.all false
set_option maxRecDepth 100000
set_option maxHeartbeats 400000
namespace PL
open PySem PySem.Spec PyProof.Rows L2 LamX
def isNum (x : P) : Bool := isTy .int x && !isTy .bool x
def whole : P → Int → Int → Bool
  | .int i, a, b => decide (a ≤ i) && decide (i ≤ b)
  | _, _, _ => false
def g_is_number : Fn := pureF 1 fun xs Q X => match xs with
  | [x] => Q (.bl (isNum x))
  | _ => False
theorem k_is_number : Keeps [] 1 B_is_number g_is_number := keepsF1 fun x Q X h => by
  simp [B_is_number, wS_ret, vwO_lt]
  cases x <;> simp_all [isTy, isNum]
def g_whole : Fn := pureF 3 fun xs Q X => match xs with
  | [x, .int a, .int b] => Q (.bl (whole x a b))
  | _ => False
theorem k_whole : Keeps [g_is_number] 3 B_whole g_whole := keepsF3 fun x a b Q X h => by
  cases a <;> try exact h.elim
  cases b <;> try exact h.elim
  simp [B_whole, wS_ret, vwO_lt, g_is_number, pureF_run, frV_p]
  cases x <;> simp_all [isTy, isNum, whole, opC]
  split <;> simp_all
@[simp] theorem isNum_int {i : Int} : isNum (.int i) = true := rfl
def g_asked_many : Fn := pureF 3 fun xs Q X => match xs with
  | [x, .int a, .int b] => if whole x a b = true then Q x else X 52 x
  | _ => False
theorem k_asked_many : Keeps [g_whole] 3 B_asked_many g_asked_many := keepsF3 fun x a b Q X h => by
  cases a <;> try exact h.elim
  cases b <;> try exact h.elim
  rename_i a b
  simp [B_asked_many, wS_ret, vwO_lt, g_whole, pureF_run, frV_p, truP]
  cases hw : whole x a b <;> simp_all
/-- the first of these, counted from j on, that is no number -/
def oddAt : Int → List P → P
  | _, [] => .non
  | j, x :: xs => if isNum x = true then oddAt (j + 1) xs else .int j
def g_first_odd : Fn := pureF 1 fun xs Q X => match xs with
  | [.tup xs] => Q (oddAt 0 xs)
  | _ => False
theorem k_first_odd : Keeps [g_is_number] 3 B_first_odd g_first_odd := keepsF1 fun x Q X h => by
  cases x <;> try exact h.elim
  rename_i xs
  simp only [B_first_odd, wSs_cons, wS_for, wOs_cons, wOs_nil, opd_var, vwOs_cons, vwOs_nil]
  refine ⟨⟨_, rfl⟩, ?_⟩
  rw [vwO_lt rfl, frz_p, itP_enumT, brws_p rfl, brws_nil]
  refine for_ind (fun its ρ => ∃ j ys u v, its = enumP j ys ∧ ρ = [some (.p (.tup xs)), u, v] ∧ Q (.p (oddAt j ys))) ?_ ?_ _ _ ⟨0, xs, none, none, rfl, rfl, h⟩
  · rintro ρ ⟨j, ys, u, v, e, rfl, h⟩
    cases ys
    · simpa [wS_ret, oddAt] using h
    · cases e
  · rintro x its ρ k ⟨j, ys, u, v, e, rfl, h⟩ ih
    cases ys with
    | nil => cases e
    | cons y ys =>
      cases e
      simp [wS_ret, vwO_lt, frV_p, g_is_number, pureF_run, truP]
      cases hy : isNum y
      · simp_all [oddAt]
      · simp_all [oddAt]
        exact ih _ _ _ rfl _ _ rfl h
end PL
set_option linter.all false
set_option maxRecDepth 100000
set_option maxHeartbeats 400000
namespace PL
open PySem PySem.Spec PyProof.Rows L2 LamX
@[simp] theorem opC_eq_int {i j : Int} {Q : Bool → Prop} : opC .eq (.int i) (.int j) Q = Q (i == j) := by simp [opC, eqOk, okP, dep, peq]
@[simp] theorem opC_ne_int {i j : Int} {Q : Bool → Prop} : opC .ne (.int i) (.int j) Q = Q (!(i == j)) := by simp [opC, eqOk, okP, dep, peq]
@[simp] theorem opC_lt_int {i j : Int} {Q : Bool → Prop} : opC .lt (.int i) (.int j) Q = Q (decide (i < j)) := rfl
@[simp] theorem opC_le_int {i j : Int} {Q : Bool → Prop} : opC .le (.int i) (.int j) Q = Q (decide (i ≤ j)) := rfl
@[simp] theorem opC_gt_int {i j : Int} {Q : Bool → Prop} : opC .gt (.int i) (.int j) Q = Q (decide (j < i)) := rfl
@[simp] theorem opC_ge_int {i j : Int} {Q : Bool → Prop} : opC .ge (.int i) (.int j) Q = Q (decide (j ≤ i)) := rfl
@[simp] theorem truP_bl {b : Bool} {Q : Bool → Prop} : truP (.bl b) Q = Q b := rfl
@[simp] theorem bltS_lenT {xs : List P} {Q : D → Prop} : bltS .len [.tup xs] Q = Q (.p (.int xs.length)) := rfl
@[simp] theorem bltS_lenL {xs : List P} {Q : D → Prop} : bltS .len [.lst xs] Q = Q (.p (.int xs.length)) := rfl
@[simp] theorem isTy_tuple_tup {xs : List P} : isTy .tuple (.tup xs) = true := rfl
@[simp] theorem opB_add_int {i j : Int} {Q : D → Prop} : opB .add (.int i) (.int j) Q = Q (.p (.int (i + j))) := rfl
@[simp] theorem opB_sub_int {i j : Int} {Q : D → Prop} : opB .sub (.int i) (.int j) Q = Q (.p (.int (i - j))) := rfl
def wrongRow : P → Int → P
  | .tup xs, m => if (xs.length : Int) = m then oddAt 0 xs else .int (-1)
  | _, _ => .int (-1)
def g_wrong_row : Fn := pureF 2 fun xs Q X => match xs with
  | [x, .int m] => Q (wrongRow x m)
  | _ => False
theorem k_wrong_row : Keeps [g_first_odd] 2 B_wrong_row g_wrong_row := keepsF2 fun x m Q X h => by
  cases m <;> try exact h.elim
  rename_i m
  simp [B_wrong_row, wS_ret, vwO_lt, g_first_odd, pureF_run, frV_p]
  cases x <;> simp_all [wrongRow, isTy]
  rename_i xs
  by_cases e : (xs.length : Int) = m <;> simp_all
def g_asked_sum : Fn := pureF 2 fun xs Q X => match xs with
  | [.int m, x] => if isNon (wrongRow x m) = true then Q x else X 8 (wrongRow x m)
  | _ => False
theorem k_asked_sum : Keeps [g_wrong_row] 3 B_asked_sum g_asked_sum := keepsF2 fun m x Q X h => by
  cases m <;> try exact h.elim
  rename_i m
  simp [B_asked_sum, wS_ret, vwO_lt, g_wrong_row, pureF_run, frV_p]
  cases e : isNon (wrongRow x m) <;> simp_all
def g_asked_costs : Fn := pureF 2 fun xs Q X => match xs with
  | [.int m, x] => if isNon (wrongRow x m) = true then Q x else X 9 (wrongRow x m)
  | _ => False
theorem k_asked_costs : Keeps [g_wrong_row] 3 B_asked_costs g_asked_costs := keepsF2 fun m x Q X h => by
  cases m <;> try exact h.elim
  rename_i m
  simp [B_asked_costs, wS_ret, vwO_lt, g_wrong_row, pureF_run, frV_p]
  cases e : isNon (wrongRow x m) <;> simp_all
def madeRow (c : Nat) (m x : P) (Q : P → Prop) (X : Nat → P → Prop) : Prop :=
  match m with
  | .int i => if whole m 0 60 = true then (if isNon (wrongRow x i) = true then Q x else X c (wrongRow x i)) else X 52 m
  | m => X 52 m
def g_made_sum : Fn := pureF 2 fun xs Q X => match xs with
  | [m, x] => madeRow 8 m x Q X
  | _ => False
theorem k_made_sum : Keeps [g_asked_sum, g_asked_many] 2 B_made_sum g_made_sum := keepsF2 fun m x Q X h => by
  simp [B_made_sum, wS_ret, vwO_lt, g_asked_sum, g_asked_many, pureF_run, frV_p]
  cases m <;> simp_all [whole, madeRow]
def g_made_costs : Fn := pureF 2 fun xs Q X => match xs with
  | [m, x] => madeRow 9 m x Q X
  | _ => False
theorem k_made_costs : Keeps [g_asked_costs, g_asked_many] 2 B_made_costs g_made_costs := keepsF2 fun m x Q X h => by
  simp [B_made_costs, wS_ret, vwO_lt, g_asked_costs, g_asked_many, pureF_run, frV_p]
  cases m <;> simp_all [whole, madeRow]
end PL
set_option linter.all false
set_option maxRecDepth 100000
set_option maxHeartbeats 1000000
namespace PL
open PySem PySem.Spec PyProof.Rows L2 LamX
def valI : P → Int
  | .int i => i
  | _ => 0
theorem whole_int {x : P} {a b : Int} (h : whole x a b = true) : ∃ i, x = .int i ∧ a ≤ i ∧ i ≤ b := by
  cases x <;> simp [whole] at h
  exact ⟨_, rfl, h.1, h.2⟩
/-- the first, counted from j on, that is no place of n or not greater than the one ahead -/
def riseAt (n : Int) : Int → Int → List P → P
  | _, _, [] => .non
  | j, l, x :: xs => if whole x l (n - 1) = true then riseAt n (j + 1) (valI x + 1) xs else .int j
def wrongRise (x : P) (n : Int) : P :=
  match x with
  | .tup xs => riseAt n 0 0 xs
  | _ => .int (-1)
def g_wrong_rising : Fn := pureF 2 fun xs Q X => match xs with
  | [x, .int n] => Q (wrongRise x n)
  | _ => False
theorem k_wrong_rising : Keeps [g_whole] 5 B_wrong_rising g_wrong_rising := keepsF2 fun x n Q X h => by
  cases n <;> try exact h.elim
  rename_i n
  replace h : Q (.p (wrongRise x n)) := h
  cases x
  case tup xs =>
    simp [B_wrong_rising, wS_ret, vwO_lt, frV_p, brws_p]
    refine for_ind (fun its ρ => ∃ j l ys u v, its = enumP j ys ∧ ρ = [some (.p (.tup xs)), some (.p (.int n)), some (.p (.int l)), u, v] ∧ Q (.p (riseAt n j l ys))) ?_ ?_ _ _ ⟨0, 0, xs, none, none, rfl, rfl, h⟩
    · rintro ρ ⟨j, l, ys, u, v, e, rfl, h⟩
      cases ys
      · exact h
      · cases e
    · rintro x its ρ k ⟨j, l, ys, u, v, e, rfl, h⟩ ih
      cases ys with
      | nil => cases e
      | cons y ys =>
        cases e
        simp [wS_ret, vwO_lt, frV_p, g_whole, pureF_run]
        cases hy : whole y l (n - 1)
        · simp_all [riseAt]
        · obtain ⟨i, rfl, _⟩ := whole_int hy
          simp_all [riseAt, valI]
          exact ih _ _ _ _ rfl _ _ rfl h
  all_goals
    simp [B_wrong_rising, wS_ret, vwO_lt, frV_p, isTy]
    exact h
def pairOk (n : Int) : P → Bool
  | .tup [a, b] => whole a 0 (n - 1) && whole b (valI a + 1) (n - 1)
  | _ => false
def g_is_pair : Fn := pureF 2 fun xs Q X => match xs with
  | [.int n, x] => Q (.bl (pairOk n x))
  | _ => False
theorem atI_0 {α : Type} {x : α} {xs : List α} : L2.atI (x :: xs) 0 = some x := by simp [L2.atI, ixN]
theorem atI_1 {α : Type} {x y : α} {xs : List α} : L2.atI (x :: y :: xs) 1 = some y := by
  have e : (1 : Int) < (xs.length : Int) + 1 + 1 := by omega
  simp [L2.atI, ixN, e]
theorem k_is_pair : Keeps [g_whole] 2 B_is_pair g_is_pair := keepsF2 fun n x Q X h => by
  cases n <;> try exact h.elim
  rename_i n
  replace h : Q (.p (.bl (pairOk n x))) := h
  cases x
  case tup xs =>
    simp [B_is_pair, wS_ret, vwO_lt, frV_p, g_whole, pureF_run]
    rcases xs with _ | ⟨a, _ | ⟨b, _ | ⟨c, xs⟩⟩⟩
    · simpa [pairOk] using h
    · simpa [pairOk] using h
    · simp [subO, look, subP, atI_0, atI_1, g_whole, pureF_run]
      cases ha : whole a 0 (n - 1)
      · simp_all [pairOk]
      · obtain ⟨i, rfl, _⟩ := whole_int ha
        simp_all [pairOk, valI]
    · have e : ¬ ((xs.length : Int) + 1 + 1 + 1 = 2) := by omega
      simp [e]
      simpa [pairOk] using h
  all_goals
    simp [B_is_pair, wS_ret, vwO_lt, frV_p, isTy]
    simpa [pairOk] using h
end PL
set_option linter.all false
set_option maxRecDepth 100000
set_option maxHeartbeats 1000000
namespace PL
open PySem PySem.Spec PyProof.Rows L2 LamX
/-- the first link, counted from j on, that is none -/
def pairAt (n : Int) : Int → List P → Option Int
  | _, [] => none
  | j, x :: xs => if pairOk n x = true then pairAt n (j + 1) xs else some j
/-- what is wrong with a web: the refusal's name and what it bears -/
def webWhat : P → P
  | .tup [n, links, ws] =>
    if whole n 0 24 = true then
      match links with
      | .tup ls =>
        if 60 < ls.length then .tup [.str "TooMany", .int ls.length]
        else match pairAt (valI n) 0 ls with
          | some i => .tup [.str "BadWeb", .tup [.int 1, .int i]]
          | none => match wrongRise ws (valI n) with
            | .non => .non
            | .int i => .tup [.str "BadWeb", if i = -1 then .int 2 else .tup [.int 2, .int i]]
            | _ => .non
      | _ => .tup [.str "BadWeb", .int 1]
    else .tup [.str "BadWeb", .int 0]
  | _ => .tup [.str "BadWeb", .int (-1)]
theorem riseAt_form (n : Int) : ∀ (xs : List P) (j l : Int), riseAt n j l xs = .non ∨ ∃ i, riseAt n j l xs = .int i
  | [], _, _ => .inl rfl
  | x :: xs, j, l => by
    unfold riseAt
    split
    · exact riseAt_form n xs _ _
    · exact .inr ⟨_, rfl⟩
theorem wrongRise_form (x : P) (n : Int) : wrongRise x n = .non ∨ ∃ i, wrongRise x n = .int i := by
  unfold wrongRise
  split
  · exact riseAt_form _ _ _ _
  · exact .inr ⟨_, rfl⟩
def g_web_what : Fn := pureF 1 fun xs Q X => match xs with
  | [x] => Q (webWhat x)
  | _ => False
theorem k_web_what : Keeps [g_wrong_rising, g_whole, g_is_pair] 7 B_web_what g_web_what := keepsF1 fun x Q X h => by
  replace h : Q (.p (webWhat x)) := h
  have z2 : (2 : Nat) ≤ sizeLine := by decide
  cases x
  case tup xs =>
    rcases xs with _ | ⟨n, _ | ⟨ls, _ | ⟨ws, _ | ⟨d, r⟩⟩⟩⟩
    · simp [B_web_what]; exact ⟨z2, h⟩
    · simp [B_web_what]; exact ⟨z2, h⟩
    · simp [B_web_what]; exact ⟨z2, h⟩
    · cases hn : whole n 0 24
      · simp [B_web_what, g_whole, pureF_run, hn]
        simp only [webWhat, hn] at h
        exact ⟨z2, h⟩
      · obtain ⟨i, rfl, hi⟩ := whole_int hn
        cases ls
        case tup ls =>
          by_cases hl : 60 < ls.length
          · have hl' : (60 : Int) < (ls.length : Int) := by omega
            simp [B_web_what, g_whole, pureF_run, hn, hl']
            simp [webWhat, hn, hl] at h
            exact ⟨z2, h⟩
          · have hl' : ¬ ((60 : Int) < (ls.length : Int)) := by omega
            simp [B_web_what, g_whole, pureF_run, hn, hl']
            simp only [webWhat, hn, if_pos rfl, if_neg hl, valI] at h
            refine for_ind (fun its ρ => ∃ j ys u v, its = enumP j ys ∧ ρ = [some (.p (.tup [.int i, .tup ls, ws])), some (.p (.int i)), some (.p (.tup ls)), some (.p ws), u, v, none] ∧ pairAt i j ys = pairAt i 0 ls) ?_ ?_ _ _ ⟨0, ls, none, none, rfl, rfl, rfl⟩
            · rintro ρ ⟨j, ys, u, v, e, rfl, hp⟩
              cases ys
              case cons => cases e
              rw [← hp] at h
              rcases wrongRise_form ws i with hw | ⟨k, hw⟩
              · simp [g_wrong_rising, pureF_run, hw, isNon]
                simpa [pairAt, hw] using h
              · simp only [pairAt, hw] at h
                simp [g_wrong_rising, pureF_run, hw, isNon]
                by_cases hk : k = -1
                · subst hk
                  simpa [z2] using h
                · simp [hk, z2] at h ⊢
                  exact h
            · rintro x its ρ k ⟨j, ys, u, v, e, rfl, hp⟩ ih
              cases ys with
              | nil => cases e
              | cons y ys =>
                cases e
                simp [g_is_pair, pureF_run]
                cases hy : pairOk i y
                · have e2 : pairAt i 0 ls = some j := by rw [← hp]; simp [pairAt, hy]
                  rw [e2] at h
                  simp [z2]
                  exact h
                · simp
                  exact ih _ ⟨j + 1, ys, _, _, rfl, rfl, by rw [← hp]; simp [pairAt, hy]⟩
        all_goals
          simp [B_web_what, g_whole, pureF_run, hn, isTy]
          simp only [webWhat, hn] at h
          exact ⟨z2, h⟩
    · have e : ¬ ((r.length : Int) + 1 + 1 + 1 + 1 = 3) := by omega
      simp [B_web_what, e]; exact ⟨z2, h⟩
  all_goals
    simp [B_web_what, isTy]
    exact ⟨z2, h⟩
end PL
set_option linter.all false
set_option maxRecDepth 100000
set_option maxHeartbeats 1000000
namespace PL
open PySem PySem.Spec PyProof.Rows L2 LamX
theorem webWhat_form (x : P) : webWhat x = .non ∨ ∃ y, webWhat x = .tup [.str "BadWeb", y] ∨ webWhat x = .tup [.str "TooMany", y] := by
  unfold webWhat
  split
  · split
    · split
      · split
        · exact .inr ⟨_, .inr rfl⟩
        · split
          · exact .inr ⟨_, .inl rfl⟩
          · split
            · exact .inl rfl
            · exact .inr ⟨_, .inl rfl⟩
            · exact .inl rfl
      · exact .inr ⟨_, .inl rfl⟩
    · exact .inr ⟨_, .inl rfl⟩
  · exact .inr ⟨_, .inl rfl⟩
theorem str_eq {x y : Str} {Q : Bool → Prop} (h : x.cps.all (· < 0x110000) = true) (h' : y.cps.all (· < 0x110000) = true) : opC .eq (.str x) (.str y) Q = Q (x == y) := by
  have e : eqOk (.str x) (.str y) = true := by simp [eqOk, okP, dep] at h h' ⊢; exact ⟨h, h'⟩
  show (eqOk _ _ = true ∧ Q (peq _ _)) = _
  rw [e]
  simp [peq]
def g_made_web : Fn := pureF 1 fun xs Q X => match xs with
  | [x] => match webWhat x with
    | .tup [.str s, y] => if s = "TooMany" then X 53 y else X 1 y
    | _ => Q x
  | _ => False
theorem k_made_web : Keeps [g_web_what] 2 B_made_web g_made_web := keepsF1 fun x Q X h => by
  simp only at h
  rcases webWhat_form x with hw | ⟨y, hw | hw⟩
  · rw [hw] at h
    simp [B_made_web, g_web_what, pureF_run, hw, isNon]
    exact h
  · rw [hw] at h
    have e : ¬ (("BadWeb" : Str) = ("TooMany" : Str)) := by decide
    have e' : (("BadWeb" : Str) == ("TooMany" : Str)) = false := by decide
    simp [e] at h
    simp [B_made_web, g_web_what, pureF_run, hw, isNon, subO, look, subP, atI_0, atI_1]
    rw [str_eq (by decide +kernel) (by decide +kernel), e']
    simp [subO, look, subP, atI_0, atI_1]
    exact h
  · rw [hw] at h
    simp at h
    simp [B_made_web, g_web_what, pureF_run, hw, isNon, subO, look, subP, atI_0, atI_1]
    rw [str_eq (by decide +kernel) (by decide +kernel)]
    simp [subO, look, subP, atI_0, atI_1]
    exact h
def g_is_web : Fn := pureF 1 fun xs Q X => match xs with
  | [x] => Q (.bl (isNon (webWhat x)))
  | _ => False
theorem k_is_web : Keeps [g_web_what] 1 B_is_web g_is_web := keepsF1 fun x Q X h => by
  simp [B_is_web, g_web_what, pureF_run]
  exact h
end PL
set_option linter.all false
set_option maxRecDepth 100000
set_option maxHeartbeats 1000000
namespace PL
open PySem PySem.Spec PyProof.Rows L2 LamX
theorem k_law_vp_is_whole : Keeps [] 1 B_law_vp_is_whole g_is_number := keepsF1 fun x Q X h => by
  simp [B_law_vp_is_whole]
  cases x <;> simp_all [isTy, isNum]
theorem k_law_vp_is_in : Keeps [g_is_number] 3 B_law_vp_is_in g_whole := keepsF3 fun x a b Q X h => by
  cases a <;> try exact h.elim
  cases b <;> try exact h.elim
  simp [B_law_vp_is_in, g_is_number, pureF_run]
  cases x <;> simp_all [isTy, isNum, whole, opC]
  split <;> simp_all
theorem k_law_vp_is_link : Keeps [g_whole] 2 B_law_vp_is_link g_is_pair := keepsF2 fun n x Q X h => by
  cases n <;> try exact h.elim
  rename_i n
  replace h : Q (.p (.bl (pairOk n x))) := h
  cases x
  case tup xs =>
    rcases xs with _ | ⟨a, _ | ⟨b, _ | ⟨c, xs⟩⟩⟩
    · simp [B_law_vp_is_link, g_whole, pureF_run]
      simpa [pairOk] using h
    · simp [B_law_vp_is_link, g_whole, pureF_run]
      simpa [pairOk] using h
    · simp [B_law_vp_is_link, g_whole, pureF_run, subO, look, subP, atI_0, atI_1]
      cases ha : whole a 0 (n - 1)
      · simp [pairOk, ha] at h
        simp
        exact h
      · obtain ⟨i, rfl, h1, h2⟩ := whole_int ha
        simp [pairOk, ha, valI] at h
        simp
        cases hb : whole b 0 (n - 1)
        · have e : whole b (i + 1) (n - 1) = false := by
            cases e : whole b (i + 1) (n - 1)
            · rfl
            · obtain ⟨j, rfl, h3, h4⟩ := whole_int e
              simp [whole] at hb
              omega
          rw [e] at h
          simp
          exact h
        · obtain ⟨j, rfl, h3, h4⟩ := whole_int hb
          have e : whole (.int j) (i + 1) (n - 1) = decide (i < j) := by
            simp [whole]
            by_cases q : i < j <;> simp [q] <;> omega
          rw [e] at h
          simp
          exact h
    · have e : ¬ ((xs.length : Int) + 1 + 1 + 1 = 2) := by omega
      simp [B_law_vp_is_link, e]
      simpa [pairOk] using h
  all_goals
    simp [B_law_vp_is_link, isTy]
    simpa [pairOk] using h
theorem iota_len2 {lo : Int} {n : Nat} : (iota lo n).length = n := by unfold iota; simp
theorem okL_ints : ∀ (xs : List P), (∀ x ∈ xs, ∃ i, x = .int i) → okL xs = true
  | [], _ => rfl
  | x :: xs, h => by
    obtain ⟨i, rfl⟩ := h x List.mem_cons_self
    simp [okL, okP]
    exact okL_ints xs fun y hy => h y (List.mem_cons_of_mem _ hy)
theorem ne_nil {xs : List P} {Q : Bool → Prop} (h : okL xs = true) : opC .ne (.lst xs) (.lst []) Q = Q (!xs.isEmpty) := by
  have e : eqOk (.lst xs) (.lst []) = true := by
    simp [eqOk, okP, h, okL, dep, depL]
  show (eqOk _ _ = true ∧ Q (!peq _ _)) = _
  rw [e]
  cases xs <;> simp [peq, peqL]
theorem atI_nat {α : Type} {xs : List α} {j : Nat} {x : α} (h : xs[j]? = some x) : L2.atI xs (j : Int) = some x := by
  have hj := (List.getElem?_eq_some_iff.mp h).1
  have e : (j : Int) < (xs.length : Int) := by omega
  simp [L2.atI, ixN, e, h]
def small : P → Prop
  | .tup xs => xs.length ≤ 100000
  | .lst xs => xs.length ≤ 100000
  | _ => True
def g_law_vp_nums_fault : Fn := pureF 2 fun xs Q X => match xs with
  | [.int m, x] => small x ∧ Q (wrongRow x m)
  | _ => False
theorem oddAt_drop {xs : List P} {j : Nat} {x : P} (h : xs[j]? = some x) : oddAt j (xs.drop j) = if isNum x = true then oddAt ((j + 1 : Nat) : Int) (xs.drop (j + 1)) else .int j := by
  have e : xs.drop j = x :: xs.drop (j + 1) := List.drop_eq_getElem?_toList_append.trans (by rw [h]; rfl)
  rw [e]
  show (if _ then _ else _) = _
  have e2 : (j : Int) + 1 = ((j + 1 : Nat) : Int) := by omega
  rw [e2]
theorem k_law_vp_nums_fault : Keeps [g_is_number] 4 B_law_vp_nums_fault g_law_vp_nums_fault := keepsF2 fun m x Q X h => by
  cases m <;> try exact h.elim
  rename_i m
  obtain ⟨hs, h⟩ := h
  replace h : Q (.p (wrongRow x m)) := h
  cases x
  case tup xs =>
    by_cases hm : (xs.length : Int) = m
    · subst hm
      have hs : xs.length ≤ 100000 := hs
      have z : 100000 < sizeLine := by decide
      simp [B_law_vp_nums_fault]
      refine ⟨by omega, ?_⟩
      simp only [wrongRow, if_pos] at h
      refine lc_ind (fun its acc ρ => ∃ j : Nat, j ≤ xs.length ∧ its = iota j (xs.length - j) ∧ ρ = [some (.p (.int xs.length)), some (.p (.tup xs)), none, none] ∧ ((acc = [] ∧ oddAt j (xs.drop j) = oddAt 0 xs) ∨ ∃ i r, acc = .int i :: r ∧ oddAt 0 xs = .int i) ∧ (∀ x ∈ acc, ∃ i, x = .int i) ∧ acc.length ≤ j) ?_ ?_ _ _ _ ⟨0, by omega, by simp, rfl, .inl ⟨rfl, rfl⟩, by simp, by simp⟩
      · rintro acc ρ ⟨j, hj, e, rfl, ha, hi, hl⟩
        have ej : j = xs.length := by
          have := congrArg List.length e
          rw [iota_len2] at this
          simp at this
          omega
        subst ej
        simp
        rw [ne_nil (okL_ints _ hi)]
        rcases ha with ⟨rfl, ha⟩ | ⟨i, r, rfl, ha⟩
        · simp [oddAt] at ha
          simp
          rw [← ha] at h
          exact h
        · simp [subO, look, subP, atI_0]
          rw [ha] at h
          exact h
      · rintro x its acc ρ k ⟨j, hj, e, rfl, ha, hi, hl⟩ ih
        have hlt : j < xs.length := by
          apply Classical.byContradiction
          intro hc
          have : xs.length - j = 0 := by omega
          rw [this] at e
          cases e
        obtain ⟨n', hn'⟩ : ∃ n', xs.length - j = n' + 1 := ⟨xs.length - j - 1, by omega⟩
        rw [hn', iota_succ] at e
        cases e
        have hx : xs[j]? = some xs[j] := List.getElem?_eq_getElem hlt
        have ei : iota ((j : Int) + 1) n' = iota ((j + 1 : Nat) : Int) (xs.length - (j + 1)) := by
          have : n' = xs.length - (j + 1) := by omega
          rw [this]; rfl
        simp [g_is_number, pureF_run, subO, look, subP]
        refine ⟨_, atI_nat hx, ?_⟩
        have od := oddAt_drop hx
        cases hb : isNum xs[j]
        · simp
          refine ⟨by omega, ih _ _ ⟨j + 1, hlt, ei, rfl, ?_, ?_, by simp; omega⟩⟩
          · rcases ha with ⟨rfl, ha⟩ | ⟨i, r, rfl, ha⟩
            · rw [od, hb] at ha
              simp at ha
              exact .inr ⟨j, [], rfl, ha.symm⟩
            · exact .inr ⟨i, r ++ [.int j], rfl, ha⟩
          · intro x hx
            rcases List.mem_append.mp hx with q | q
            · exact hi x q
            · simp at q; exact ⟨_, q⟩
        · simp
          refine ih _ _ ⟨j + 1, hlt, ei, rfl, ?_, hi, by omega⟩
          rcases ha with ⟨rfl, ha⟩ | ⟨i, r, rfl, ha⟩
          · rw [od, hb] at ha
            simp at ha
            exact .inl ⟨rfl, ha⟩
          · exact .inr ⟨i, r, rfl, ha⟩
    · simp [B_law_vp_nums_fault, hm]
      simpa [wrongRow, hm] using h
  all_goals
    simp [B_law_vp_nums_fault, isTy]
    simpa [wrongRow] using h
end PL
set_option linter.all false
set_option maxRecDepth 100000
set_option maxHeartbeats 1000000
namespace PL
open PySem PySem.Spec PyProof.Rows L2 LamX
theorem riseAt_drop {n : Int} {xs : List P} {j : Nat} {l : Int} {x : P} (h : xs[j]? = some x) : riseAt n j l (xs.drop j) = if whole x l (n - 1) = true then riseAt n ((j + 1 : Nat) : Int) (valI x + 1) (xs.drop (j + 1)) else .int j := by
  have e : xs.drop j = x :: xs.drop (j + 1) := List.drop_eq_getElem?_toList_append.trans (by rw [h]; rfl)
  rw [e]
  show (if _ then _ else _) = _
  have e2 : (j : Int) + 1 = ((j + 1 : Nat) : Int) := by omega
  rw [e2]
def g_law_vp_rising_fault : Fn := pureF 2 fun xs Q X => match xs with
  | [.int n, x] => small x ∧ Q (wrongRise x n)
  | _ => False
theorem k_law_vp_rising_fault : Keeps [g_whole] 3 B_law_vp_rising_fault g_law_vp_rising_fault := keepsF2 fun m x Q X h => by
  cases m <;> try exact h.elim
  rename_i n
  obtain ⟨hs, h⟩ := h
  replace h : Q (.p (wrongRise x n)) := h
  cases x
  case tup xs =>
    have hs : xs.length ≤ 100000 := hs
    simp [B_law_vp_rising_fault]
    refine ⟨by omega, ?_⟩
    simp only [wrongRise] at h
    refine for_ind (fun its ρ => ∃ (j : Nat) (l : Int) (u : Option D), j ≤ xs.length ∧ its = iota j (xs.length - j) ∧ ρ = [some (.p (.int n)), some (.p (.tup xs)), u] ∧ riseAt n j l (xs.drop j) = riseAt n 0 0 xs ∧ ((j = 0 ∧ l = 0) ∨ ∃ j' i, j = j' + 1 ∧ xs[j']? = some (.int i) ∧ l = i + 1 ∧ 0 ≤ i)) ?_ ?_ _ _ ⟨0, 0, none, by omega, by simp, rfl, rfl, .inl ⟨rfl, rfl⟩⟩
    · rintro ρ ⟨j, l, u, hj, e, rfl, hr, hp⟩
      have ej : j = xs.length := by
        have := congrArg List.length e
        rw [iota_len2] at this
        simp at this
        omega
      subst ej
      simp [riseAt] at hr
      rw [← hr] at h
      simpa using h
    · rintro x its ρ k ⟨j, l, u, hj, e, rfl, hr, hp⟩ ih
      have hlt : j < xs.length := by
        apply Classical.byContradiction
        intro hc
        have : xs.length - j = 0 := by omega
        rw [this] at e
        cases e
      obtain ⟨n', hn'⟩ : ∃ n', xs.length - j = n' + 1 := ⟨xs.length - j - 1, by omega⟩
      rw [hn', iota_succ] at e
      cases e
      have hx : xs[j]? = some xs[j] := List.getElem?_eq_getElem hlt
      have ei : iota ((j : Int) + 1) n' = iota ((j + 1 : Nat) : Int) (xs.length - (j + 1)) := by
        have : n' = xs.length - (j + 1) := by omega
        rw [this]; rfl
      have od := riseAt_drop (n := n) (l := l) hx
      generalize hy : xs[j] = y at hx od
      simp [g_whole, pureF_run, subO, look, subP]
      refine ⟨_, atI_nat hx, ?_⟩
      cases hb : whole y 0 (n - 1)
      · -- no place
        have e : whole y l (n - 1) = false := by
          cases e : whole y l (n - 1)
          · rfl
          · obtain ⟨i, rfl, h3, h4⟩ := whole_int e
            rcases hp with ⟨_, rfl⟩ | ⟨j', i', _, _, rfl, h5⟩
            · rw [e] at hb; cases hb
            · simp [whole] at hb
              omega
        rw [e] at od
        simp at od
        rw [od] at hr
        rw [← hr] at h
        simpa using h
      · obtain ⟨i, rfl, h3, h4⟩ := whole_int hb
        rcases hp with ⟨rfl, rfl⟩ | ⟨j', i', rfl, hj', rfl, h5⟩
        · rw [hb, if_pos rfl] at od
          simp only [valI] at od
          simp
          refine ih _ ⟨1, i + 1, _, hlt, ei, rfl, by rw [← hr]; exact od.symm, .inr ⟨0, i, rfl, hx, rfl, h3⟩⟩
        · have p1 : (0 : Int) < (j' : Int) + 1 := by omega
          have p2 : ((j' : Int) + 1 - 1) = (j' : Int) := by omega
          simp [p1, subO, look, subP]
          refine ⟨.int i, by have := atI_nat hx; simpa using this, .int i', by exact atI_nat hj', ?_⟩
          simp
          by_cases q : i ≤ i'
          · have e : whole (.int i) (i' + 1) (n - 1) = false := by simp [whole]; omega
            rw [e, if_neg Bool.false_ne_true] at od
            rw [od] at hr
            rw [← hr] at h
            simp [q]
            simpa using h
          · have e : whole (.int i) (i' + 1) (n - 1) = true := by simp [whole]; omega
            rw [e, if_pos rfl] at od
            simp only [valI] at od
            simp [q]
            exact ih _ ⟨j' + 1 + 1, i + 1, _, hlt, ei, rfl, by rw [← hr]; exact od.symm, .inr ⟨j' + 1, i, rfl, hx, rfl, h3⟩⟩
  all_goals
    simp [B_law_vp_rising_fault, isTy]
    simpa [wrongRise] using h
end PL
set_option linter.all false
set_option maxRecDepth 100000
set_option maxHeartbeats 1000000
namespace PL
open PySem PySem.Spec PyProof.Rows L2 LamX
theorem riseAt_pos (n : Int) : ∀ (xs : List P) (j l : Int), 0 ≤ j → riseAt n j l xs = .non ∨ ∃ i, riseAt n j l xs = .int i ∧ 0 ≤ i
  | [], _, _, _ => .inl rfl
  | x :: xs, j, l, h => by
    unfold riseAt
    split
    · exact riseAt_pos n xs _ _ (by omega)
    · exact .inr ⟨_, rfl, h⟩
theorem pairAt_drop {n : Int} {xs : List P} {j : Nat} {x : P} (h : xs[j]? = some x) : pairAt n j (xs.drop j) = if pairOk n x = true then pairAt n ((j + 1 : Nat) : Int) (xs.drop (j + 1)) else some (j : Int) := by
  have e : xs.drop j = x :: xs.drop (j + 1) := List.drop_eq_getElem?_toList_append.trans (by rw [h]; rfl)
  rw [e]
  show (if _ then _ else _) = _
  have e2 : (j : Int) + 1 = ((j + 1 : Nat) : Int) := by omega
  rw [e2]
def smallW : P → Prop
  | .tup [_, _, ws] => small ws
  | _ => True
def g_law_vp_web_fault : Fn := pureF 1 fun xs Q X => match xs with
  | [x] => smallW x ∧ Q (webWhat x)
  | _ => False
theorem k_law_vp_web_fault : Keeps [g_law_vp_rising_fault, g_whole, g_is_pair] 6 B_law_vp_web_fault g_law_vp_web_fault := keepsF1 fun x Q X h => by
  obtain ⟨hs, h⟩ := h
  replace h : Q (.p (webWhat x)) := h
  have z2 : (2 : Nat) ≤ sizeLine := by decide
  have z : 100000 < sizeLine := by decide
  cases x
  case tup xs =>
    rcases xs with _ | ⟨n, _ | ⟨ls, _ | ⟨ws, _ | ⟨d, r⟩⟩⟩⟩
    · simp [B_law_vp_web_fault]; exact ⟨z2, h⟩
    · simp [B_law_vp_web_fault]; exact ⟨z2, h⟩
    · simp [B_law_vp_web_fault]; exact ⟨z2, h⟩
    · cases hn : whole n 0 24
      · simp [B_law_vp_web_fault, g_whole, pureF_run, hn]
        simp only [webWhat, hn] at h
        exact ⟨z2, h⟩
      · obtain ⟨i, rfl, hi⟩ := whole_int hn
        cases ls
        case tup ls =>
          by_cases hl : 60 < ls.length
          · have hl' : (60 : Int) < (ls.length : Int) := by omega
            simp [B_law_vp_web_fault, g_whole, pureF_run, hn, hl']
            simp [webWhat, hn, hl] at h
            exact ⟨z2, h⟩
          · have hl' : ¬ ((60 : Int) < (ls.length : Int)) := by omega
            simp [B_law_vp_web_fault, g_whole, pureF_run, hn, hl']
            refine ⟨by omega, ?_⟩
            simp only [webWhat, hn, if_pos rfl, if_neg hl, valI] at h
            refine lc_ind (fun its acc ρ => ∃ j : Nat, j ≤ ls.length ∧ its = iota j (ls.length - j) ∧ ρ = [some (.p (.tup [.int i, .tup ls, ws])), some (.p (.int i)), some (.p (.tup ls)), some (.p ws), none, none] ∧ ((acc = [] ∧ pairAt i j (ls.drop j) = pairAt i 0 ls) ∨ ∃ k r, acc = .int k :: r ∧ pairAt i 0 ls = some k) ∧ (∀ x ∈ acc, ∃ i, x = .int i) ∧ acc.length ≤ j) ?_ ?_ _ _ _ ⟨0, by omega, by simp, rfl, .inl ⟨rfl, rfl⟩, by simp, by simp⟩
            · rintro acc ρ ⟨j, hj, e, rfl, ha, hi, hl⟩
              have ej : j = ls.length := by
                have := congrArg List.length e
                rw [iota_len2] at this
                simp at this
                omega
              subst ej
              simp
              rw [ne_nil (okL_ints _ hi)]
              rcases ha with ⟨rfl, ha⟩ | ⟨k, r, rfl, ha⟩
              · simp only [List.drop_length, pairAt] at ha
                rw [← ha] at h
                simp
                cases ws
                case tup ys =>
                  have hs : ys.length ≤ 100000 := hs
                  simp [g_law_vp_rising_fault, pureF_run]
                  refine ⟨hs, ?_⟩
                  simp only [wrongRise] at h ⊢
                  rcases riseAt_pos i ys 0 0 (by omega) with hw | ⟨k, hw, hk⟩
                  · rw [hw] at h
                    simp [hw, isNon]
                    exact h
                  · rw [hw] at h
                    have : ¬ (k = -1) := by omega
                    simp [this] at h
                    simp [hw, isNon]
                    exact ⟨z2, h⟩
                all_goals
                  simp [isTy]
                  simp [wrongRise] at h
                  exact ⟨z2, h⟩
              · rw [ha] at h
                simp [subO, look, subP, atI_0]
                exact ⟨z2, by simpa using h⟩
            · rintro x its acc ρ k ⟨j, hj, e, rfl, ha, hi, hl⟩ ih
              have hlt : j < ls.length := by
                apply Classical.byContradiction
                intro hc
                have : ls.length - j = 0 := by omega
                rw [this] at e
                cases e
              obtain ⟨n', hn'⟩ : ∃ n', ls.length - j = n' + 1 := ⟨ls.length - j - 1, by omega⟩
              rw [hn', iota_succ] at e
              cases e
              have hx : ls[j]? = some ls[j] := List.getElem?_eq_getElem hlt
              have ei : iota ((j : Int) + 1) n' = iota ((j + 1 : Nat) : Int) (ls.length - (j + 1)) := by
                have : n' = ls.length - (j + 1) := by omega
                rw [this]; rfl
              have od := pairAt_drop (n := i) hx
              generalize hy : ls[j] = y at hx od
              simp [g_is_pair, pureF_run, subO, look, subP]
              refine ⟨_, atI_nat hx, ?_⟩
              cases hb : pairOk i y
              · simp
                refine ⟨by omega, ih _ _ ⟨j + 1, hlt, ei, rfl, ?_, ?_, by simp; omega⟩⟩
                · rcases ha with ⟨rfl, ha⟩ | ⟨k, r, rfl, ha⟩
                  · rw [od, hb, if_neg Bool.false_ne_true] at ha
                    exact .inr ⟨j, [], rfl, ha.symm⟩
                  · exact .inr ⟨k, r ++ [.int j], rfl, ha⟩
                · intro x hx
                  rcases List.mem_append.mp hx with q | q
                  · exact hi x q
                  · simp at q; exact ⟨_, q⟩
              · simp
                refine ih _ _ ⟨j + 1, hlt, ei, rfl, ?_, hi, by omega⟩
                rcases ha with ⟨rfl, ha⟩ | ⟨k, r, rfl, ha⟩
                · rw [od, hb, if_pos rfl] at ha
                  exact .inl ⟨rfl, ha⟩
                · exact .inr ⟨k, r, rfl, ha⟩
        all_goals
          simp [B_law_vp_web_fault, g_whole, pureF_run, hn, isTy]
          simp only [webWhat, hn] at h
          exact ⟨z2, h⟩
    · have e : ¬ ((r.length : Int) + 1 + 1 + 1 + 1 = 3) := by omega
      simp [B_law_vp_web_fault, e]; exact ⟨z2, h⟩
  all_goals
    simp [B_law_vp_web_fault, isTy]
    exact ⟨z2, h⟩
end PL
set_option linter.all false
set_option maxRecDepth 100000
set_option maxHeartbeats 1000000
namespace PL
open PySem PySem.Spec PyProof.Rows L2 LamX
theorem atI_2 {α : Type} {x y z : α} {xs : List α} : L2.atI (x :: y :: z :: xs) 2 = some z := by
  have e : (2 : Int) < (xs.length : Int) + 1 + 1 + 1 := by omega
  simp [L2.atI, ixN, e]
theorem idx_0 {n : Nat} (h : 0 < n) : idx n 0 = some 0 := by
  have e : (0 : Int) < (n : Int) := by omega
  simp [idx, ixN, e]
  omega
theorem idx_1 {n : Nat} (h : 1 < n) : idx n 1 = some 1 := by
  have e : (1 : Int) < (n : Int) := by omega
  simp [idx, ixN, e]
theorem idx_2 {n : Nat} (h : 2 < n) : idx n 2 = some 2 := by
  have e : (2 : Int) < (n : Int) := by omega
  simp [idx, ixN, e]
@[simp] theorem opB_mod_int {i j : Int} {Q : D → Prop} : opB .mod (.int i) (.int j) Q = (0 < j ∧ Q (.p (.int (i % j)))) := rfl
@[simp] theorem opB_mul_int {i j : Int} {Q : D → Prop} : opB .mul (.int i) (.int j) Q = ((CMul i j ∨ CMulW i j) ∧ Q (.p (.int (i * j)))) := rfl
@[simp] theorem opB_fdiv_int {i j : Int} {Q : D → Prop} : opB .fdiv (.int i) (.int j) Q = ((0 < j ∧ j.natAbs.log2 < 9000) ∧ Q (.p (.int (i / j)))) := rfl
@[simp] theorem opB_pow_int {i j : Int} {Q : D → Prop} : opB .pow (.int i) (.int j) Q = (CPow i j ∧ Q (.p (.int (i ^ j.toNat)))) := rfl
@[simp] theorem bltS_int1 {i : Int} {Q : D → Prop} : bltS .int1 [.int i] Q = Q (.p (.int i)) := rfl
theorem cmulR {i j : Int} (h : -(2 ^ 64) < j) (h' : j < 2 ^ 64) : CMul i j ∨ CMulW i j := .inl (.inr ⟨h, h'⟩)
theorem cmulL {i j : Int} (h : -(2 ^ 64) < i) (h' : i < 2 ^ 64) : CMul i j ∨ CMulW i j := .inl (.inl ⟨h, h'⟩)
theorem jar_of {a b c : Int} (h : -(2 ^ 64) < b) (h' : b < 2 ^ 64) : Jar (.lst [.int a, .int b, .int c]) := ⟨a, b, c, rfl, h, h'⟩
def g_take : Fn := jarF 1 fun xs Q X => match xs with
  | [.int m] => (0 < m ∧ m.natAbs.log2 < 9000) ∧ ∀ r, 0 ≤ r → r < m → Q (.p (.int r))
  | _ => False
theorem k_law_take : Keeps [] 3 B_law_take g_take := keepsJ1 fun j m Q X hj h => by
  cases m <;> try exact h.elim
  rename_i m
  obtain ⟨⟨hm, hm2⟩, h⟩ := h
  obtain ⟨a, b, c, rfl, hb1, hb2⟩ := hj
  simp [B_law_take, subO, look, subP, atI_0, atI_1, atI_2, sstS, idx_0, idx_1, idx_2]
  split
  · refine ⟨hm, ⟨hm, hm2⟩, ?_⟩
    exact h _ (Int.emod_nonneg _ (by omega)) (Int.emod_lt_of_pos _ hm) _ (jar_of hb1 hb2)
  · refine ⟨cmulL hb1 hb2, cmulL (by decide) (by decide), ?_⟩
    have p1 := Int.emod_nonneg (b * 39373 + 7919 * (c + 1) + 7) (b := 2147483647) (by decide)
    have p2 := Int.emod_lt_of_pos (b * 39373 + 7919 * (c + 1) + 7) (b := 2147483647) (by decide)
    refine ⟨cmulL (by omega) (by omega), ?_⟩
    have e : Nat.log2 32 < 9000 := by decide
    exact ⟨e, hm, h _ (Int.emod_nonneg _ (by omega)) (Int.emod_lt_of_pos _ hm) _ (jar_of (by omega) (by omega))⟩
theorem jlist {d : D} (h : Jar d) : ∃ xs, d = .lst xs := by
  obtain ⟨a, b, c, rfl, _⟩ := h
  exact ⟨_, rfl⟩
theorem log2_lt {n : Nat} (h : n ≤ 100000000) : n.log2 < 9000 := by
  by_cases z : n = 0
  · subst z; decide
  · exact (Nat.log2_lt z).mpr (Nat.lt_of_le_of_lt h (Nat.lt_of_lt_of_le (by decide : 100000000 < 2 ^ 27) (Nat.pow_le_pow_right (by decide) (by decide))))
def seqP : P → Option (List P)
  | .tup xs => some xs
  | .lst xs => some xs
  | _ => none
/-- each of these -/
def Each (xs : List P) (Q : P → Prop) : Prop := ∀ x ∈ xs, Q x
def seqD : D → Option (List P)
  | .p (.tup xs) => some xs
  | .p (.lst xs) => some xs
  | .lst xs => some xs
  | _ => none
def g_one : Fn := jarLF 0 fun t xs Q X => match xs with
  | [] => ∃ xs, seqD t = some xs ∧ (xs ≠ [] ∧ xs.length ≤ 1000000) ∧ Each xs fun x => Q (.p x)
  | _ => False
theorem atI_mem {α : Type} {xs : List α} {r : Int} (h : 0 ≤ r) (h' : r < xs.length) : ∃ x ∈ xs, L2.atI xs r = some x := by
  obtain ⟨k, rfl⟩ : ∃ k : Nat, r = k := ⟨r.toNat, by omega⟩
  have hk : k < xs.length := by omega
  exact ⟨xs[k], List.getElem_mem hk, atI_nat (List.getElem?_eq_getElem hk)⟩
theorem k_law_one : Keeps [g_take] 2 B_law_one g_one := keepsJL0 fun j t Q X hj h => by
  obtain ⟨xs, ht, ⟨hn, hl⟩, h⟩ := h
  have hlen : (0 : Int) < xs.length := by
    cases xs
    · exact absurd rfl hn
    · simp
  have fin : ∀ r, 0 ≤ r → r < (xs.length : Int) → ∃ x, L2.atI xs r = some x ∧ ∀ j', Jar j' → Q (.p x) j' t := fun r h1 h2 => by
    obtain ⟨x, hx, e⟩ := atI_mem h1 h2
    exact ⟨x, e, h x hx⟩
  rcases t with p | ys | _
  · cases p <;> cases ht
    all_goals
      simp [B_law_one, g_take, jarF_run, subO, look, subP]
      refine ⟨hj, ⟨by omega, log2_lt (by omega)⟩, fun r h1 h2 j' hj' => ?_⟩
      obtain ⟨x, e, q⟩ := fin r h1 h2
      exact ⟨x, e, q j' hj'⟩
  · cases ht
    simp [B_law_one, g_take, jarF_run, subO, look, subP]
    refine ⟨hj, ⟨by omega, log2_lt (by omega)⟩, fun r h1 h2 j' hj' => ?_⟩
    obtain ⟨x, e, q⟩ := fin r h1 h2
    exact ⟨x, e, q j' hj'⟩
  · cases ht
def g_mixed : Fn := jarF 1 fun xs Q X => match xs with
  | [t] => ∃ xs, seqP t = some xs ∧ xs.length ≤ 1000000 ∧ ∀ ys : List P, ys.Perm xs → Q (.lst ys)
  | _ => False
theorem idx_nat {n j : Nat} (h : j < n) : idx n (j : Int) = some j := by
  have e : (j : Int) < (n : Int) := by omega
  simp [idx, ixN, e]
theorem perm_erase {α : Type} : ∀ {xs : List α} {n : Nat} (h : n < xs.length), List.Perm (xs[n] :: xs.eraseIdx n) xs
  | x :: xs, 0, _ => List.Perm.refl _
  | x :: xs, n + 1, h => by
    have ih := perm_erase (xs := xs) (n := n) (by simpa using h)
    simp
    exact (List.Perm.swap _ _ _).trans (List.Perm.cons x ih)
theorem k_law_mixed : Keeps [g_take] 5 B_law_mixed g_mixed := keepsJ1 fun j t Q X hj h => by
  obtain ⟨xs, ht, hl, h⟩ := h
  have z : 1000000 < sizeLine := by decide
  cases t <;> cases ht
  all_goals
    simp [B_law_mixed, bltS]
    refine ⟨by omega, ?_⟩
    refine for_ind (fun its ρ => ∃ (j : D) (t : P) (ls fs : List P) (u : Option D), Jar j ∧ its.length = ls.length ∧ ρ = [some j, some (.p t), some (.lst ls), some (.lst fs), u] ∧ (fs ++ ls).Perm xs) ?_ ?_ _ _ ⟨j, _, xs, [], none, hj, by simp [iota_len2], rfl, List.Perm.refl _⟩
    · rintro ρ ⟨j, t, ls, fs, u, hj, e, rfl, hp⟩
      have e : ls = [] := List.eq_nil_of_length_eq_zero (by simpa using e.symm)
      subst e
      simp
      exact h _ (by simpa using hp) j hj
    · rintro x its ρ k ⟨j, t, ls, fs, u, hj, e, rfl, hp⟩ ih
      have hlen : ls.length ≤ xs.length := by have := hp.length_eq; simp at this; omega
      have hflen : fs.length ≤ xs.length := by have := hp.length_eq; simp at this; omega
      have hpos : 0 < ls.length := by simp at e; omega
      simp [g_take, jarF_run]
      refine ⟨hj, ⟨by omega, log2_lt (by omega)⟩, fun r h1 h2 j' hj' => ?_⟩
      obtain ⟨n, rfl⟩ : ∃ n : Nat, r = n := ⟨r.toNat, by omega⟩
      have hn : n < ls.length := by omega
      simp [mthA, mthS]
      refine ⟨by omega, n, idx_nat hn, ls[n], List.getElem?_eq_getElem hn, ?_⟩
      refine ⟨by omega, ih _ ⟨j', t, ls.eraseIdx n, fs ++ [ls[n]], _, hj', ?_, rfl, ?_⟩⟩
      · rw [List.length_eraseIdx]
        simp [hn]
        simp at e
        omega
      · rw [List.append_assoc]
        refine List.Perm.trans (List.Perm.append_left fs ?_) hp
        exact perm_erase hn
end PL
set_option linter.all false
set_option maxRecDepth 100000
set_option maxHeartbeats 1000000
namespace PL
open PySem PySem.Spec PyProof.Rows L2 LamX
abbrev OF := List P → (D → Prop) → (Nat → P → Prop) → Prop
/-- a def of frozen data that tells anything -/
def ownF (n : Nat) (F : OF) : Fn := ⟨n, [], fun ds Q X => ∃ xs, unP ds = some xs ∧ xs.length = n ∧ F xs (fun d => Q d []) X⟩
@[simp ↓] theorem ownF_n {n : Nat} {F : OF} : (ownF n F).n = n := rfl
@[simp ↓] theorem ownF_lent {n : Nat} {F : OF} : (ownF n F).lent = [] := rfl
theorem ownF_run {n : Nat} {F : OF} {ds : List D} {Q : D → List D → Prop} {X : Nat → P → Prop} : (ownF n F).run ds Q X = ∃ xs, unP ds = some xs ∧ xs.length = n ∧ F xs (fun d => Q d []) X := rfl
theorem Rt_own {n : Nat} {F : OF} {Q : D → List D → Prop} : Rt (ownF n F) Q = fun d _ => Q d [] := by
  funext d ρ
  unfold Rt
  rw [ownF_n, ownF_lent, lentI_none]
  exact propext ⟨fun ⟨ls, e, q⟩ => by cases e; exact q, fun q => ⟨[], rfl, q⟩⟩
theorem keepsO {G : List Fn} {nN n : Nat} {bs : List S} {F : OF} (h : ∀ xs (Q : D → Prop) X, xs.length = n → F xs Q X → wSs G X [] bs (xs.map (fun x => some (.p x)) ++ List.replicate (nN - n) none) { nx := fun _ => Q (.p .non), rt := fun d _ => Q d }) : Keeps G nN bs (ownF n F) := by
  rintro ds Qp Xp ⟨xs, e, hl, hF⟩
  have e' := unP_some e
  subst e'
  refine ⟨by rw [List.length_map]; exact hl, ?_⟩
  have q := h xs (fun d => Qp d []) Xp hl hF
  rw [Rt_own, ownF_n, ownF_lent, lentI_none]
  have es : startE nN (xs.map .p) = xs.map (fun x => some (.p x)) ++ List.replicate (nN - n) none := by
    unfold startE
    rw [List.length_map, hl, List.map_map]
    rfl
  rw [es]
  exact q
theorem keepsO1 {G : List Fn} {nN : Nat} {bs : List S} {F : OF} (h : ∀ a (Q : D → Prop) X, F [a] Q X → wSs G X [] bs (some (.p a) :: List.replicate (nN - 1) none) { nx := fun _ => Q (.p .non), rt := fun d _ => Q d }) : Keeps G nN bs (ownF 1 F) :=
  keepsO fun xs Q X hl hF => by
    match xs, hl with
    | [a], _ => exact h a Q X hF
theorem keepsO2 {G : List Fn} {nN : Nat} {bs : List S} {F : OF} (h : ∀ a b (Q : D → Prop) X, F [a, b] Q X → wSs G X [] bs (some (.p a) :: some (.p b) :: List.replicate (nN - 2) none) { nx := fun _ => Q (.p .non), rt := fun d _ => Q d }) : Keeps G nN bs (ownF 2 F) :=
  keepsO fun xs Q X hl hF => by
    match xs, hl with
    | [a, b], _ => exact h a b Q X hF
/-- the script: whole numbers, not too many -/
def Script : P → Prop
  | .rdl xs => (∀ x ∈ xs, ∃ i, x = .int i) ∧ xs.length ≤ 1000000
  | _ => False
def g_pool : Fn := ownF 1 fun xs Q X => match xs with
  | [t] => Script t ∧ ∀ d, Jar d → Q d
  | _ => False
@[simp] theorem bltS_lenR {xs : List P} {Q : D → Prop} : bltS .len [.rdl xs] Q = Q (.p (.int xs.length)) := rfl
@[simp] theorem bltS_max2 {i j : Int} {Q : D → Prop} : bltS .max2 [.int i, .int j] Q = Q (.p (.int (if j > i then j else i))) := rfl
@[simp] theorem bltS_min2 {i j : Int} {Q : D → Prop} : bltS .min2 [.int i, .int j] Q = Q (.p (.int (if j < i then j else i))) := rfl
theorem cpow {i j : Int} (h : 0 ≤ j) (h1 : j ≤ 1000000) (h2 : i.natAbs < 2 ^ 64) : CPow i j := ⟨h, h1, h2⟩
theorem log2_le {n k : Nat} (h : n < 2 ^ k) (hk : 0 < k) : n.log2 < k := by
  by_cases z : n = 0
  · subst z; simpa using hk
  · exact (Nat.log2_lt z).mpr h
theorem cmulW {i j : Int} {k l : Nat} (h : i.natAbs < 2 ^ k) (h' : j.natAbs < 2 ^ l) (hk : 0 < k ∧ 0 < l) (hl : k + l < 1000000) : CMul i j ∨ CMulW i j := by
  refine .inr ?_
  have := log2_le h hk.1
  have := log2_le h' hk.2
  show _ + _ < _
  omega
theorem k_law_pool : Keeps [] 5 B_law_pool g_pool := keepsO1 fun t Q X h => by
  obtain ⟨hs, h⟩ := h
  cases t <;> try exact hs.elim
  rename_i xs
  obtain ⟨hi, hl⟩ := hs
  simp [B_law_pool]
  refine ⟨by omega, ?_⟩
  refine for_ind (fun its ρ => ∃ (j : Nat) (a b : Int) (u v : Option D), its = iota j (xs.length - j) ∧ j ≤ xs.length ∧ (-(2 ^ 64) < b ∧ b < 2 ^ 64) ∧ (0 ≤ a ∧ a < 10 ^ 121) ∧ ρ = [some (.p (.rdl xs)), some (.p (.int a)), some (.p (.int b)), u, v]) ?_ ?_ _ _ ⟨0, 0, 7, none, none, by simp, by omega, by decide, by decide, rfl⟩
  · rintro ρ ⟨j, a, b, u, v, e, hj, hb, ha, rfl⟩
    simp
    exact ⟨by decide, h _ (jar_of hb.1 hb.2)⟩
  · rintro x its ρ k ⟨j, a, b, u, v, e, hj, hb, ha, rfl⟩ ih
    have hlt : j < xs.length := by
      apply Classical.byContradiction
      intro hc
      have : xs.length - j = 0 := by omega
      rw [this] at e
      cases e
    obtain ⟨n', hn'⟩ : ∃ n', xs.length - j = n' + 1 := ⟨xs.length - j - 1, by omega⟩
    rw [hn', iota_succ] at e
    cases e
    have ei : iota ((j : Int) + 1) n' = iota ((j + 1 : Nat) : Int) (xs.length - (j + 1)) := by
      have : n' = xs.length - (j + 1) := by omega
      rw [this]; rfl
    obtain ⟨i, hx⟩ := hi xs[j] (List.getElem_mem hlt)
    have hx' : xs[j]? = some (.int i) := by rw [List.getElem?_eq_getElem hlt, hx]
    simp [subO, look, subP, atI_nat hx']
    generalize (if i < -1 - i then -1 - i else i) = cell
    have p1 := Int.emod_nonneg (b * 48271 + cell % 2147483629 + 11) (b := 2147483647) (by decide)
    have p2 := Int.emod_lt_of_pos (b * 48271 + cell % 2147483629 + 11) (b := 2147483647) (by decide)
    have q1 := Int.emod_nonneg cell (b := 1000000000000000000000000000000000000000000000000000000000000) (by decide)
    have q2 := Int.emod_lt_of_pos cell (b := 1000000000000000000000000000000000000000000000000000000000000) (by decide)
    obtain ⟨ha1, ha2⟩ := ha
    have hk : ∀ a', 0 ≤ a' → a' < 10 ^ 121 → ∀ w, k [some (D.p (P.rdl xs)), some (D.p (P.int a')), some (D.p (P.int ((b * 48271 + cell % 2147483629 + 11) % 2147483647))), some (D.p (P.int ↑j)), w] := fun a' z1 z2 w => ih _ ⟨j + 1, a', _, _, _, ei, hlt, ⟨by omega, by omega⟩, ⟨z1, z2⟩, rfl⟩
    have c1 : CPow 10 12 := cpow (by decide) (by decide) (by decide)
    have c2 : CPow 10 60 := cpow (by decide) (by decide) (by decide)
    refine ⟨cmulL hb.1 hb.2, c1, ?_⟩
    split
    · refine ⟨c2, ?_⟩
      split
      · refine ⟨c2, cmulW (k := 200) (l := 200) ?_ ?_ (by decide) (by decide), c2, hk _ ?_ ?_ _⟩
        · omega
        · decide
        · omega
        · omega
      · exact hk a ha1 ha2 _
    · exact hk a ha1 ha2 _
end PL
set_option linter.all false
set_option maxRecDepth 100000
set_option maxHeartbeats 1000000
namespace PL
open PySem PySem.Spec PyProof.Rows L2 LamX
@[simp ↓] theorem seqD_lst {xs : List P} : seqD (.lst xs) = some xs := rfl
@[simp ↓] theorem seqD_plst {xs : List P} : seqD (.p (.lst xs)) = some xs := rfl
@[simp ↓] theorem seqD_ptup {xs : List P} : seqD (.p (.tup xs)) = some xs := rfl
/-- one statement, the others behind it -/
theorem seq1 {G : List Fn} {EX : Nat → P → Prop} {fx : List Nat} {s : S} {ss : List S} {ρ : Env'} {D' : En} (h : ∀ K : Env' → Prop, (∀ ρ', wSs G EX fx ss ρ' D' → K ρ') → wS G EX fx s ρ { D' with nx := K }) : wSs G EX fx (s :: ss) ρ D' := h _ fun _ q => q
def small41 (i : Int) : Prop := -(10 ^ 41) < i ∧ i < 10 ^ 41
def g_number : Fn := jarF 0 fun xs Q X => match xs with
  | [] => ∀ i, small41 i → Q (.p (.int i))
  | _ => False
theorem z1000 : 1000 ≤ sizeLine := by decide
theorem k_law_vp_number : Keeps [g_one, g_take] 2 B_law_vp_number g_number := keepsJ0 fun j Q X hj h => by
  have z : 9 ≤ sizeLine := by decide
  have z3 : 3 ≤ sizeLine := by decide
  have l1 : Nat.log2 13 < 9000 := by decide
  have l2 : Nat.log2 1000 < 9000 := by decide
  have l3 : Nat.log2 25 < 9000 := by decide
  have l4 : Nat.log2 3 < 9000 := by decide
  refine seq1 fun K hK => ?_
  simp [g_take, g_one, jarF_run, jarLF_run]
  refine ⟨hj, l1, fun r1 _ _ j1 hj => ⟨hj, l2, fun r2 _ _ j2 hj => ⟨z, hj, fun x hx j3 hj => ?_⟩⟩⟩
  have hx : ∃ i, x = .int i ∧ small41 i := by
    simp at hx
    unfold small41
    rcases hx with rfl | rfl | rfl | rfl | rfl | rfl | rfl | rfl | rfl <;> exact ⟨_, rfl, by omega, by omega⟩
  obtain ⟨i, rfl, hi⟩ := hx
  refine hK _ (seq1 fun K hK => ?_)
  simp [g_take, g_one, jarF_run, jarLF_run]
  have c1 : CPow 10 40 := cpow (by decide) (by decide) (by decide)
  have c2 : CPow 10 20 := cpow (by decide) (by decide) (by decide)
  have c3 : CPow 2 61 := cpow (by decide) (by decide) (by decide)
  have last : ∀ i j, small41 i → Jar j → wSs [g_one, g_take] X [0] [.ret (.ite (.cmp .eq (.call 1 [.var 0, .int 3]) (.int 0)) (.neg (.var 1)) (.var 1))] [some j, some (.p (.int i))] { nx := fun ρ => ∃ l, ρ[0]? = some (some l) ∧ Q (.p .non) l, rt := fun d ρ => ∃ l, ρ[0]? = some (some l) ∧ Q d l } := fun i j hi hj => by
    simp [g_take, jarF_run]
    refine ⟨hj, l4, fun r _ _ j hj => ?_⟩
    have hi' : small41 (-i) := by unfold small41 at hi ⊢; omega
    split
    · exact h _ hi' _ hj
    · exact h _ hi _ hj
  refine ⟨hj, l3, fun r _ _ j hj => ?_⟩
  split
  · refine ⟨c1, c2, cmulL (by decide) (by decide), c3, z3, hj, fun x hx j hj => ?_⟩
    have hx : ∃ i, x = .int i ∧ small41 i := by
      simp at hx
      unfold small41
      rcases hx with rfl | rfl | rfl <;> exact ⟨_, rfl, by decide, by decide⟩
    obtain ⟨i, rfl, hi⟩ := hx
    exact hK _ (last _ _ hi hj)
  · exact hK _ (last _ _ hi hj)
end PL
set_option linter.all false
set_option maxRecDepth 100000
set_option maxHeartbeats 1000000
namespace PL
open PySem PySem.Spec PyProof.Rows L2 LamX
mutual
/-- no tuple and no list within is longer than that -/
def lenP (m : Nat) : P → Bool
  | .tup xs | .lst xs => decide (xs.length ≤ m) && lenL m xs
  | .dic _ xs | .rdl xs => decide (xs.length ≤ m) && lenL m xs
  | _ => true
def lenL (m : Nat) : List P → Bool
  | [] => true
  | x :: xs => lenP m x && lenL m xs
end
/-- plain data: no strange signs, no dicts; lengths, depth -/
structure Good (m d : Nat) (x : P) : Prop where
  ok : okP x = true
  le : lenP m x = true
  de : dep x ≤ d
theorem okL_iff : ∀ {xs : List P}, okL xs = true ↔ ∀ x ∈ xs, okP x = true
  | [] => by simp [okL]
  | x :: xs => by simp [okL, okL_iff (xs := xs)]
theorem lenL_iff {m : Nat} : ∀ {xs : List P}, lenL m xs = true ↔ ∀ x ∈ xs, lenP m x = true
  | [] => by simp [lenL]
  | x :: xs => by simp [lenL, lenL_iff (xs := xs)]
theorem depL_iff {d : Nat} : ∀ {xs : List P}, depL xs ≤ d ↔ ∀ x ∈ xs, dep x ≤ d
  | [] => by simp [depL]
  | x :: xs => by simp [depL, ← depL_iff (xs := xs)]; omega
theorem good_tup {m d : Nat} {xs : List P} : Good m (d + 1) (.tup xs) ↔ xs.length ≤ m ∧ ∀ x ∈ xs, Good m d x := by
  constructor
  · rintro ⟨h1, h2, h3⟩
    simp [okP] at h1
    simp [lenP] at h2
    simp [dep] at h3
    exact ⟨h2.1, fun x hx => ⟨okL_iff.mp h1 x hx, lenL_iff.mp h2.2 x hx, depL_iff.mp h3 x hx⟩⟩
  · rintro ⟨h1, h2⟩
    refine ⟨?_, ?_, ?_⟩
    · simp [okP]; exact okL_iff.mpr fun x hx => (h2 x hx).ok
    · simp [lenP]; exact ⟨h1, lenL_iff.mpr fun x hx => (h2 x hx).le⟩
    · simp [dep]; exact depL_iff.mpr fun x hx => (h2 x hx).de
theorem good_lst {m d : Nat} {xs : List P} : Good m (d + 1) (.lst xs) ↔ xs.length ≤ m ∧ ∀ x ∈ xs, Good m d x := by
  constructor
  · rintro ⟨h1, h2, h3⟩
    simp [okP] at h1
    simp [lenP] at h2
    simp [dep] at h3
    exact ⟨h2.1, fun x hx => ⟨okL_iff.mp h1 x hx, lenL_iff.mp h2.2 x hx, depL_iff.mp h3 x hx⟩⟩
  · rintro ⟨h1, h2⟩
    refine ⟨?_, ?_, ?_⟩
    · simp [okP]; exact okL_iff.mpr fun x hx => (h2 x hx).ok
    · simp [lenP]; exact ⟨h1, lenL_iff.mpr fun x hx => (h2 x hx).le⟩
    · simp [dep]; exact depL_iff.mpr fun x hx => (h2 x hx).de
mutual
theorem lenP_mono {m k : Nat} (h : m ≤ k) : ∀ {x : P}, lenP m x = true → lenP k x = true
  | .non, _ => rfl
  | .bl _, _ => rfl
  | .int _, _ => rfl
  | .str _, _ => rfl
  | .tup xs, q => by simp [lenP] at q ⊢; exact ⟨by omega, lenL_mono h q.2⟩
  | .lst xs, q => by simp [lenP] at q ⊢; exact ⟨by omega, lenL_mono h q.2⟩
  | .dic _ xs, q => by simp [lenP] at q ⊢; exact ⟨by omega, lenL_mono h q.2⟩
  | .rdl xs, q => by simp [lenP] at q ⊢; exact ⟨by omega, lenL_mono h q.2⟩
theorem lenL_mono {m k : Nat} (h : m ≤ k) : ∀ {xs : List P}, lenL m xs = true → lenL k xs = true
  | [], _ => rfl
  | x :: xs, q => by simp [lenL] at q ⊢; exact ⟨lenP_mono h q.1, lenL_mono h q.2⟩
end
theorem Good.mono {m k d e : Nat} {x : P} (h : Good m d x) (h1 : m ≤ k) (h2 : d ≤ e) : Good k e x := ⟨h.ok, lenP_mono h1 h.le, Nat.le_trans h.de h2⟩
theorem cut_to {xs : List P} {k : Nat} : cutP xs none (some (k : Int)) = xs.take k := by
  unfold cutP
  rw [HT.sIx_none, HT.sIx_nat]
  simp [List.take_eq_take_iff]
theorem cut_from {xs : List P} {k : Nat} : cutP xs (some (k : Int)) none = xs.drop k := by
  unfold cutP
  rw [HT.sIx_none, HT.sIx_nat]
  by_cases h : k ≤ xs.length
  · rw [Nat.min_eq_left h, List.take_of_length_le (by simp)]
  · rw [Nat.min_eq_right (by omega), List.drop_of_length_le (by omega), List.drop_of_length_le (by omega)]; simp
theorem cut_from1 {xs : List P} {k : Nat} : cutP xs (some ((k : Int) + 1)) none = xs.drop (k + 1) := by
  rw [← cut_from]; rfl
theorem cut_to1 {xs : List P} {k : Nat} : cutP xs none (some ((k : Int) + 1)) = xs.take (k + 1) := by
  rw [← cut_to]; rfl
@[simp] theorem partOk_non {d : D} {i : Option Int} : partOk .non d i = (i = none) := rfl
@[simp] theorem partOk_var {d : D} {i : Option Int} {k : Nat} : partOk (.var k) d i = ∃ j, d = .p (.int j) ∧ i = some j := rfl
@[simp] theorem partOk_i {d : D} {i : Option Int} {k : Int} : partOk (.int k) d i = ∃ j, d = .p (.int j) ∧ i = some j := rfl
@[simp] theorem partOk_bin {d : D} {i : Option Int} {o : BOp} {a b : T} : partOk (.bin o a b) d i = ∃ j, d = .p (.int j) ∧ i = some j := rfl
@[simp] theorem partOk_neg {d : D} {i : Option Int} {a : T} : partOk (.neg a) d i = ∃ j, d = .p (.int j) ∧ i = some j := rfl
@[simp] theorem slcP_tup {xs : List P} {l h : Option Int} {Q : D → Prop} : slcP (.tup xs) l h Q = Q (.p (.tup (cutP xs l h))) := rfl
@[simp] theorem slcP_lst {xs : List P} {l h : Option Int} {Q : D → Prop} : slcP (.lst xs) l h Q = Q (.lst (cutP xs l h)) := rfl
@[simp] theorem opB_add_tup {xs ys : List P} {Q : D → Prop} : opB .add (.tup xs) (.tup ys) Q = (xs.length + ys.length ≤ sizeLine ∧ Q (.p (.tup (xs ++ ys)))) := rfl
@[simp] theorem opB_add_lst {xs ys : List P} {Q : D → Prop} : opB .add (.lst xs) (.lst ys) Q = (xs.length + ys.length ≤ sizeLine ∧ Q (.lst (xs ++ ys))) := rfl
@[simp] theorem revP_tup {xs : List P} {Q : D → Prop} : revP (.tup xs) Q = Q (.p (.tup xs.reverse)) := rfl
@[simp] theorem list1_tup {xs : List P} {Q : D → Prop} : bltS .list1 [.tup xs] Q = Q (.lst xs) := rfl
@[simp] theorem list1_lst {xs : List P} {Q : D → Prop} : bltS .list1 [.lst xs] Q = Q (.lst xs) := rfl
@[simp] theorem tuple1_lst {xs : List P} {Q : D → Prop} : bltS .tuple1 [.lst xs] Q = Q (.p (.tup xs)) := rfl
@[simp] theorem tuple1_tup {xs : List P} {Q : D → Prop} : bltS .tuple1 [.tup xs] Q = Q (.p (.tup xs)) := rfl
theorem eq_nilT {xs : List P} {Q : Bool → Prop} (h : okL xs = true) : opC .eq (.tup xs) (.tup []) Q = Q xs.isEmpty := by
  have e : eqOk (.tup xs) (.tup []) = true := by
    simp [eqOk, okP, h, okL, dep, depL]
  show (eqOk _ _ = true ∧ Q (peq _ _)) = _
  rw [e]
  cases xs <;> simp [peq, peqL]
/-- d: the depth that is gone into -/
def g_bent (d : Nat) : Fn := jarF 1 fun xs Q X => match xs with
  | [x] => ∃ m e, m ≤ 100000 ∧ e < d ∧ Good m e x ∧ ∀ y, Good (m + 1) (e + 1) y → Q (.p y)
  | _ => False
def oddL : List P := [.non, .str "0", .bl true, .bl false, .int (-1), .int 0, .int (10 ^ 25), .tup [], .tup [.int 0], .lst [.int 0], .str "way"]
theorem oddL_good : ∀ x ∈ oddL, Good 1 1 x := by
  have h : (oddL.all fun x => okP x && lenP 1 x && decide (dep x ≤ 1)) = true := by decide +kernel
  intro x hx
  have := List.all_eq_true.mp h x hx
  simp at this
  exact ⟨this.1.1, this.1.2, this.2⟩
theorem k_law_vp_bent (d : Nat) : Keeps [g_one, g_take, g_bent d] 6 B_law_vp_bent (g_bent (d + 1)) := keepsJ1 fun j x Q X hj h => by
  obtain ⟨m, e, hm, he, hg, h⟩ := h
  have z11 : 11 ≤ sizeLine := by decide
  have z1 : 1 ≤ sizeLine := by decide
  have z : 1000000 < sizeLine := by decide
  have c1 : CPow 10 25 := cpow (by decide) (by decide) (by decide)
  refine seq1 fun K hK => ?_
  simp [g_one, jarLF_run]
  refine ⟨c1, z1, z11, hj, fun odd ho j hj => ?_⟩
  have ho : Good 1 1 odd := oddL_good odd ho
  refine hK _ (seq1 fun K hK => ?_)
  by_cases hx : ∃ xs, x = .tup xs ∧ xs ≠ []
  case neg =>
    have ho' : Good (m + 1) (e + 1) odd := ho.mono (by omega) (by omega)
    cases x
    case tup xs =>
      have e0 : xs = [] := Classical.byContradiction fun z => hx ⟨xs, rfl, z⟩
      subst e0
      simp
      rw [eq_nilT rfl]
      simp
      exact h _ ho' _ hj
    all_goals
      simp [isTy]
      exact h _ ho' _ hj
  obtain ⟨xs, rfl, hn⟩ := hx
  obtain ⟨e, rfl⟩ : ∃ e', e = e' + 1 := ⟨e - 1, by have := hg.de; simp [dep] at this; omega⟩
  obtain ⟨hl, hxs⟩ := good_tup.mp hg
  have hok : okL xs = true := okL_iff.mpr fun x hx => (hxs x hx).ok
  have hlen : 0 < xs.length := List.length_pos_iff.mpr hn
  have hne : xs.isEmpty = false := by cases xs; exact absurd rfl hn; rfl
  simp
  rw [eq_nilT hok, hne]
  simp
  refine hK _ (seq1 fun K hK => ?_)
  simp [g_take, jarF_run]
  have l9 : Nat.log2 9 < 9000 := by decide
  refine ⟨hj, ⟨hlen, log2_lt (by omega)⟩, fun at' a1 a2 j hj => ⟨hj, l9, fun form f1 f2 j hj => ?_⟩⟩
  obtain ⟨k, rfl⟩ : ∃ k : Nat, at' = k := ⟨at'.toNat, by omega⟩
  have hk : k < xs.length := by omega
  -- what is told is good
  have fin : ∀ ys : List P, ys.length ≤ m + 1 → (∀ y ∈ ys, Good (m + 1) (e + 1) y) → Good (m + 1) (e + 1 + 1) (.tup ys) := fun ys h1 h2 => good_tup.mpr ⟨h1, h2⟩
  have old : ∀ y ∈ xs, Good (m + 1) (e + 1) y := fun y hy => (hxs y hy).mono (by omega) (by omega)
  have oddG : Good (m + 1) (e + 1) odd := ho.mono (by omega) (by omega)
  refine hK _ (seq1 fun K hK => ?_)
  simp [cut_to, cut_from1, subO, look, subP, atI_nat (List.getElem?_eq_getElem hk), g_bent, jarF_run]
  by_cases hf : form < 3
  · simp [hf]
    have hgk := hxs xs[k] (List.getElem_mem hk)
    refine ⟨hj, m, hm, e, by omega, hgk, fun y hy j hj => ⟨z1, by omega, by omega, h _ (fin _ ?_ ?_) _ hj⟩⟩
    · simp; omega
    · intro u hu
      simp at hu
      rcases hu with hu | rfl | hu
      · exact old u (List.mem_of_mem_take hu)
      · exact hy
      · exact old u (List.mem_of_mem_drop hu)
  · simp [hf]
    refine hK _ (seq1 fun K hK => ?_)
    simp [cut_to, cut_to1, cut_from1, cut_from]
    refine ⟨z1, by omega, by omega, by omega, by omega, by decide, hK _ (seq1 fun K hK => ?_)⟩
    simp [cut_to, cut_to1, cut_from1, cut_from]
    refine ⟨by omega, z1, by omega, by decide, ?_⟩
    simp [mthA, mthS]
    refine ⟨by decide, hK _ ?_⟩
    simp [subO, look, subP]
    have old1 : ∀ y, y ∈ xs ∨ y = odd → Good (m + 1) (e + 1) y := fun y hy => hy.elim (old y) fun z => z ▸ oddG
    have tk : ∀ {n y}, y ∈ xs.take n → y ∈ xs := fun q => List.mem_of_mem_take q
    have dr : ∀ {n y}, y ∈ xs.drop n → y ∈ xs := fun q => List.mem_of_mem_drop q
    obtain ⟨u, hu, eu⟩ := atI_mem (xs := [P.tup (List.take k xs ++ odd :: List.drop (k + 1) xs), P.tup (List.take k xs ++ List.drop (k + 1) xs), P.tup (List.take (k + 1) xs ++ List.drop k xs), P.tup (List.take k xs ++ (List.drop k xs).reverse), P.lst xs, P.tup (xs ++ [odd])]) (r := form - 3) (by omega) (by simp; omega)
    refine ⟨u, eu, h u ?_ _ hj⟩
    simp only [List.mem_cons, List.not_mem_nil, or_false] at hu
    rcases hu with rfl | rfl | rfl | rfl | rfl | rfl
    · refine fin _ (by simp; omega) fun y hy => old1 y ?_
      simp at hy
      rcases hy with q | q | q
      · exact .inl (tk q)
      · exact .inr q
      · exact .inl (dr q)
    · refine fin _ (by simp; omega) fun y hy => old1 y ?_
      rcases List.mem_append.mp hy with q | q
      · exact .inl (tk q)
      · exact .inl (dr q)
    · refine fin _ (by simp; omega) fun y hy => old1 y ?_
      rcases List.mem_append.mp hy with q | q
      · exact .inl (tk q)
      · exact .inl (dr q)
    · refine fin _ (by simp; omega) fun y hy => old1 y ?_
      rcases List.mem_append.mp hy with q | q
      · exact .inl (tk q)
      · exact .inl (dr (List.mem_reverse.mp q))
    · exact good_lst.mpr ⟨by omega, old⟩
    · refine fin _ (by simp; omega) fun y hy => old1 y ?_
      simpa using hy
end PL
set_option linter.all false
set_option maxRecDepth 100000
set_option maxHeartbeats 1000000
namespace PL
open PySem PySem.Spec PyProof.Rows L2 LamX
def natP (k : Nat) : P := .int k
def lnkP (l : Nat × Nat) : P := .tup [.int l.1, .int l.2]
def webP (n : Nat) (ls : List (Nat × Nat)) (ws : List Nat) : P := .tup [.int n, .tup (ls.map lnkP), .tup (ws.map natP)]
structure WebOk (n : Nat) (ls : List (Nat × Nat)) (ws : List Nat) : Prop where
  hn : n ≤ 24
  hm : ls.length ≤ 60
  hl : ∀ l ∈ ls, l.1 < l.2 ∧ l.2 < n
  hw : ws.Pairwise (· < ·)
  wn : ∀ a ∈ ws, a < n
theorem perm_map_inv {α β : Type} {f : α → β} : ∀ {ys l : List β}, ys.Perm l → ∀ {xs : List α}, l = xs.map f → ∃ zs, List.Perm zs xs ∧ ys = zs.map f := by
  intro ys l h
  induction h with
  | nil => intro xs e; cases xs; exact ⟨[], List.Perm.refl _, rfl⟩; cases e
  | cons x p ih =>
    intro xs e
    cases xs with
    | nil => cases e
    | cons y ys =>
      simp at e
      obtain ⟨rfl, e⟩ := e
      obtain ⟨zs, h1, h2⟩ := ih e
      exact ⟨y :: zs, h1.cons y, by rw [h2]; rfl⟩
  | swap x y l =>
    intro xs e
    rcases xs with _ | ⟨a, _ | ⟨b, xs⟩⟩ <;> simp at e
    obtain ⟨rfl, rfl, rfl⟩ := e
    exact ⟨b :: a :: xs, List.Perm.swap _ _ _, rfl⟩
  | trans p q ih1 ih2 =>
    intro xs e
    obtain ⟨zs, h1, h2⟩ := ih2 e
    obtain ⟨us, h3, h4⟩ := ih1 h2
    exact ⟨us, h3.trans h1, h4⟩
theorem iota_map {n : Nat} : iota 0 n = (List.range n).map natP := by
  unfold iota natP
  simp
@[simp] theorem bltS_listR {n : Int} {Q : D → Prop} : bltS .listR [.int n] Q = ((-(2 ^ 62) ≤ n ∧ n < 2 ^ 20) ∧ Q (.lst (iota 0 n.toNat))) := rfl
/-- drawn names -/
theorem perm_names {ys : List P} {n : Nat} (h : ys.Perm (iota 0 n)) : ∃ ns : List Nat, ns.Perm (List.range n) ∧ ys = ns.map natP := perm_map_inv h iota_map
theorem names_lt {ns : List Nat} {n : Nat} (h : ns.Perm (List.range n)) : ∀ a ∈ ns, a < n := fun a ha => by simpa using h.mem_iff.mp ha
theorem names_nd {ns : List Nat} {n : Nat} (h : ns.Perm (List.range n)) : ns.Nodup := h.nodup_iff.mpr List.nodup_range
theorem names_len {ns : List Nat} {n : Nat} (h : ns.Perm (List.range n)) : ns.length = n := by simpa using h.length_eq
theorem intsP_nat : ∀ {ns : List Nat}, intsP (ns.map natP) = some (ns.map fun (k : Nat) => (k : Int))
  | [] => rfl
  | n :: ns => by
    show intsP (.int n :: ns.map natP) = _
    simp [intsP, intsP_nat (ns := ns)]
/-- sorted, of different whole numbers from 0 on -/
theorem isort_nat {ns : List Nat} (h : ns.Nodup) : ∃ ws : List Nat, isort (ns.map fun (k : Nat) => (k : Int)) = ws.map (fun (k : Nat) => (k : Int)) ∧ ws.Perm ns ∧ ws.Pairwise (· < ·) := by
  obtain ⟨ws, h1, h2⟩ := perm_map_inv (@isort_perm ⟨[]⟩ (ns.map fun (k : Nat) => (k : Int))) rfl
  refine ⟨ws, h2, h1, ?_⟩
  have hs := @isort_sorted ⟨[]⟩ (ns.map fun (k : Nat) => (k : Int))
  rw [h2, List.pairwise_map] at hs
  have hn : ws.Nodup := h1.nodup_iff.mpr h
  refine (List.Pairwise.and hs hn).imp fun {a b} hab => ?_
  have := hab.1
  have := hab.2
  omega
theorem iota_step {n k : Nat} (h : k < n) : iota (k : Int) (n - k) = .int k :: iota ((k + 1 : Nat) : Int) (n - (k + 1)) := by
  have e : n - k = (n - (k + 1)) + 1 := by omega
  rw [e, iota_succ]
  rfl
theorem iota_end {n k : Nat} (h : ¬ k < n) : iota (k : Int) (n - k) = [] := by
  have e : n - k = 0 := by omega
  rw [e]; rfl
theorem for_rng {fx : List Nat} {tg : Tg} {wb : Env' → En → Prop} {bs : List (Nat × D)} {D' : En} {n : Nat} (I : Nat → Env' → Prop) (hn : ∀ ρ, I n ρ → D'.nx ρ)
    (hc : ∀ k ρ (nxt : Env' → Prop), k < n → I k ρ → (∀ ρ2, I (k + 1) ρ2 → nxt ρ2) → tgS fx tg (.int k) ρ fun ρ1 => wb ρ1 { nx := fun ρ2 => holds ρ2 bs ∧ nxt ρ2, ct := fun ρ2 => holds ρ2 bs ∧ nxt ρ2, bk := D'.nx, rt := D'.rt }) {ρ : Env'} (h0 : I 0 ρ) : forT fx tg wb bs (iota 0 n) ρ D' := by
  refine for_ind (fun its ρ => ∃ k, k ≤ n ∧ its = iota (k : Int) (n - k) ∧ I k ρ) ?_ ?_ _ _ ⟨0, by omega, rfl, h0⟩
  · rintro ρ ⟨k, hk, e, h⟩
    by_cases q : k < n
    · rw [iota_step q] at e; cases e
    · have : k = n := by omega
      subst this; exact hn ρ h
  · rintro x its ρ nxt ⟨k, hk, e, h⟩ ih
    by_cases q : k < n
    · rw [iota_step q] at e
      cases e
      exact hc k ρ nxt q h fun ρ2 h2 => ih ρ2 ⟨k + 1, q, rfl, h2⟩
    · rw [iota_end q] at e; cases e
theorem lc_rng {tg : Tg} {wc we : Env' → KE → Prop} {own : List Nat} {bs : List (Nat × D)} {Q : List P → Env' → Prop} {n : Nat} (I : Nat → List P → Env' → Prop) (hn : ∀ acc ρ, I n acc ρ → Q acc ρ)
    (hc : ∀ i acc ρ (k : List P → Env' → Prop), i < n → I i acc ρ → (∀ acc2 ρ2, I (i + 1) acc2 ρ2 → k acc2 ρ2) → tgS [] tg (.int i) ρ fun ρ1 => wc ρ1 fun c ρ2 => ∃ b, c = .p (.bl b) ∧
      if b = true then we ρ2 fun d ρ3 => acc.length < sizeLine ∧ holds (wip ρ3 own) bs ∧ k (acc ++ [frz d]) (wip ρ3 own)
      else holds (wip ρ2 own) bs ∧ k acc (wip ρ2 own)) {ρ : Env'} (h0 : I 0 [] ρ) : lcT tg wc we own bs (iota 0 n) [] ρ Q := by
  refine lc_ind (fun its acc ρ => ∃ k, k ≤ n ∧ its = iota (k : Int) (n - k) ∧ I k acc ρ) ?_ ?_ _ _ _ ⟨0, by omega, rfl, h0⟩
  · rintro acc ρ ⟨k, hk, e, h⟩
    by_cases q : k < n
    · rw [iota_step q] at e; cases e
    · have : k = n := by omega
      subst this; exact hn acc ρ h
  · rintro x its acc ρ nxt ⟨k, hk, e, h⟩ ih
    by_cases q : k < n
    · rw [iota_step q] at e
      cases e
      exact hc k acc ρ nxt q h fun acc2 ρ2 h2 => ih acc2 ρ2 ⟨k + 1, q, rfl, h2⟩
    · rw [iota_end q] at e; cases e
theorem natP_get {ns : List Nat} {k : Nat} (h : k < ns.length) : L2.atI (ns.map natP) (k : Int) = some (.int (ns[k] : Nat)) := atI_nat (by rw [List.getElem?_map, List.getElem?_eq_getElem h]; rfl)
def g_web : Fn := jarF 0 fun xs Q X => match xs with
  | [] => ∀ n ls ws, WebOk n ls ws → Q (.p (webP n ls ws))
  | _ => False
theorem k_law_vp_web : Keeps [g_one, g_mixed, g_take] 13 B_law_vp_web g_web := keepsJ0 fun j Q X hj h => by
  have z13 : 13 ≤ sizeLine := by decide
  refine seq1 fun K hK => ?_
  simp [g_one, jarLF_run]
  refine ⟨z13, hj, fun x hx j hj => ?_⟩
  obtain ⟨n, rfl, hn⟩ : ∃ n : Nat, x = .int n ∧ n ≤ 24 := by
    simp at hx
    rcases hx with rfl | rfl | rfl | rfl | rfl | rfl | rfl | rfl | rfl | rfl | rfl | rfl | rfl <;> exact ⟨Int.toNat _, congrArg P.int (Int.toNat_of_nonneg (by decide)).symm, by decide⟩
  refine hK _ (seq1 fun K hK => ?_)
  simp [g_mixed, jarF_run]
  refine ⟨by omega, hj, _, rfl, by simp [iota_len2]; omega, fun ys hys j hj => ?_⟩
  obtain ⟨ns, hp, rfl⟩ := perm_names hys
  refine hK _ (seq1 fun K hK => ?_)
  have ns_len := names_len hp
  have ns_lt := names_lt hp
  have ns_nd := names_nd hp
  have l2 : Nat.log2 2 < 9000 := by decide
  -- behind the roads
  have main : ∀ (j : D) (rs : List (Nat × Nat)) (u v : Option D), Jar j → rs.length ≤ 60 → (∀ l ∈ rs, l.1 ≠ l.2 ∧ l.1 < n ∧ l.2 < n) → K [some j, some (D.p (P.int ↑n)), some (D.lst (rs.map lnkP)), some (D.lst (List.map natP ns)), u, v, none, none, none, none, none, none, none] := by
    intro j rs u v hj hl hrs
    refine hK _ (seq1 fun K hK => ?_)
    simp [g_one, jarLF_run]
    refine ⟨by decide, hj, fun x hx j hj => ?_⟩
    obtain ⟨most, rfl, hm⟩ : ∃ m : Nat, x = .int m ∧ m ≤ 60 := by
      simp at hx
      rcases hx with rfl | rfl | rfl | rfl | rfl | rfl | rfl <;> exact ⟨Int.toNat _, congrArg P.int (Int.toNat_of_nonneg (by decide)).symm, by decide⟩
    refine hK _ (seq1 fun K hK => ?_)
    -- behind the loop
    have last : ∀ (j nm : D) (rs : List (Nat × Nat)) (v4 v5 v6 v7 v8 v9 v10 : Option D), Jar j → (nm = .lst (ns.map natP) ∨ nm = .p (.lst (ns.map natP))) → rs.length ≤ 60 → (∀ l ∈ rs, l.1 ≠ l.2 ∧ l.1 < n ∧ l.2 < n) → K [some j, some (D.p (P.int ↑n)), some (D.lst (rs.map lnkP)), some nm, v4, v5, v6, v7, v8, v9, v10, none, none] := by
      intro j nm rs v4 v5 v6 v7 v8 v9 v10 hj hnm hl hrs
      refine hK _ (seq1 fun K hK => ?_)
      simp [g_mixed, jarF_run]
      refine ⟨hj, _, rfl, by simp; omega, fun ys hys j hj => ?_⟩
      obtain ⟨rs', hp2, rfl⟩ := perm_map_inv hys rfl
      have hl' : rs'.length ≤ 60 := by rw [hp2.length_eq]; exact hl
      have hrs' : ∀ l ∈ rs', l.1 ≠ l.2 ∧ l.1 < n ∧ l.2 < n := fun l h => hrs l (hp2.mem_iff.mp h)
      -- the links, the lesser place first
      have links : ∀ ls : List (Nat × Nat), ls.length ≤ 60 → (∀ l ∈ ls, l.1 < l.2 ∧ l.2 < n) → K [some j, some (D.p (P.int ↑n)), some (D.p (.lst (rs.map lnkP))), some nm, v4, v5, v6, v7, none, none, v10, some (D.p (.tup (ls.map lnkP))), none] := by
        intro ls hls hlk
        refine hK _ (seq1 fun K hK => ?_)
        simp [g_one, jarLF_run]
        refine ⟨by decide, hj, fun x hx j hj => ?_⟩
        obtain ⟨c, rfl⟩ : ∃ c : Nat, x = .int c := by
          simp at hx
          rcases hx with rfl | rfl | rfl | rfl | rfl | rfl | rfl | rfl <;> first | exact ⟨_, rfl⟩ | exact ⟨Int.toNat _, congrArg P.int (Int.toNat_of_nonneg (by decide)).symm⟩
        simp
        have e1 : (if c < n then (c : Int) else (n : Int)) = ((min c n : Nat) : Int) := by split <;> omega
        rw [e1]
        refine hK _ (seq1 fun K hK => ?_)
        have hnmx : frz nm = .lst (ns.map natP) := by rcases hnm with rfl | rfl <;> simp
        obtain ⟨ws, hw1, hw2, hw3⟩ := isort_nat (ns := ns.take (min c n)) (ns_nd.sublist (List.take_sublist _ _))
        have hwn : ∀ a ∈ ws, a < n := fun a ha => ns_lt a (List.mem_of_mem_take (hw2.mem_iff.mp ha))
        simp only [wSs_cons, wS_ret, w_tup, wOs_cons, wOs_nil]
        simp [hnmx, cut_to]
        rw [← List.map_take]
        refine ⟨_, intsP_nat, ?_⟩
        rw [hw1]
        have e2 : (ws.map fun (k : Nat) => (k : Int)).map P.int = ws.map natP := by rw [List.map_map]; rfl
        simp
        refine ⟨by decide, ?_⟩
        have := h n ls ws ⟨hn, hls, hlk, hw3, hwn⟩ j hj
        exact this
      refine lc_ind (fun its acc ρ => ∃ qs ls : List (Nat × Nat), its = qs.map lnkP ∧ acc = ls.map lnkP ∧ ls.length + qs.length ≤ 60 ∧ (∀ l ∈ qs, l.1 ≠ l.2 ∧ l.1 < n ∧ l.2 < n) ∧ (∀ l ∈ ls, l.1 < l.2 ∧ l.2 < n) ∧ ρ = [some j, some (D.p (P.int ↑n)), some (D.p (.lst (rs.map lnkP))), some nm, v4, v5, v6, v7, none, none, v10, none, none]) ?_ ?_ _ _ _ ⟨rs', [], rfl, rfl, by simpa using hl', hrs', by simp, rfl⟩
      · rintro acc ρ ⟨qs, ls, e, rfl, h1, h2, h3, rfl⟩
        simp
        exact links ls (by omega) h3
      · rintro x its acc ρ k ⟨qs, ls, e, rfl, h1, h2, h3, rfl⟩ ih
        cases qs with
        | nil => cases e
        | cons q qs =>
          cases e
          obtain ⟨a, b⟩ := q
          have hq := h2 (a, b) (by simp)
          simp [lnkP]
          simp at h1
          refine ⟨by decide, Nat.lt_of_le_of_lt (show ls.length ≤ 100 by omega) (by decide), ih _ _ ⟨qs, ls ++ [(min a b, max a b)], rfl, ?_, by simp; omega, fun l hl => h2 l (List.mem_cons_of_mem _ hl), ?_, rfl⟩⟩
          · rw [List.map_append]
            have e1 : (if b < a then (b : Int) else (a : Int)) = ((min a b : Nat) : Int) := by split <;> omega
            have e2 : (if a < b then (b : Int) else (a : Int)) = ((max a b : Nat) : Int) := by split <;> omega
            rw [e1, e2]
            rfl
          · intro l hl
            rcases List.mem_append.mp hl with z | z
            · exact h3 l z
            · simp at z
              subst z
              simp at hq ⊢
              omega
    have l6 : Nat.log2 6 < 9000 := by decide
    have z2 : 2 ≤ sizeLine := by decide
    have z : 1000000 < sizeLine := by decide
    simp [g_take, jarF_run]
    split
    · rename_i hn1
      refine ⟨hj, log2_lt (by omega), fun r r1 r2 j hj => ⟨by omega, ?_⟩⟩
      refine for_rng (fun _ ρ => ∃ (j nm : D) (rs : List (Nat × Nat)) (v4 v5 v6 v7 v8 v9 v10 : Option D), Jar j ∧ (nm = .lst (ns.map natP) ∨ nm = .p (.lst (ns.map natP))) ∧ rs.length ≤ 60 ∧ (∀ l ∈ rs, l.1 ≠ l.2 ∧ l.1 < n ∧ l.2 < n) ∧ ρ = [some j, some (D.p (P.int ↑n)), some (D.lst (rs.map lnkP)), some nm, v4, v5, v6, v7, v8, v9, v10, none, none]) ?_ ?_ ⟨j, _, rs, u, v, _, _, _, _, _, hj, .inl rfl, hl, hrs, rfl⟩
      · rintro ρ ⟨j, nm, rs, v4, v5, v6, v7, v8, v9, v10, hj, hnm, hl, hrs, rfl⟩
        exact last j nm rs v4 v5 v6 v7 v8 v9 v10 hj hnm hl hrs
      · rintro k ρ nxt _ ⟨j, nm, rs, v4, v5, v6, v7, v8, v9, v10, hj, hnm, hl, hrs, rfl⟩ ih
        simp only [tgS_name]
        refine ⟨by simp, by simp, ?_⟩
        refine seq1 fun K hK => ?_
        have hnmx : ∀ {Q : P → Env' → Prop} {r0 r1 r2 r4 r5 r6 r7 r8 r9 r10 r11 r12 : Option D}, Q (.lst (ns.map natP)) [r0, r1, r2, some (.p (.lst (ns.map natP))), r4, r5, r6, r7, r8, r9, r10, r11, r12] → frV [r0, r1, r2, some nm, r4, r5, r6, r7, r8, r9, r10, r11, r12] 3 Q := by
          intro Q r0 r1 r2 r4 r5 r6 r7 r8 r9 r10 r11 r12 h
          rcases hnm with rfl | rfl <;> simpa using h
        simp [g_mixed, jarF_run]
        refine hnmx ⟨hj, _, rfl, by simp; omega, fun ys hys j hj => ?_⟩
        obtain ⟨ms, hp2, rfl⟩ := perm_map_inv hys rfl
        have hml := hp2.length_eq
        obtain ⟨a, b, ms, rfl⟩ : ∃ a b l, ms = a :: b :: l := by
          rcases ms with _ | ⟨a, _ | ⟨b, l⟩⟩
          · simp at hml; omega
          · simp at hml; omega
          · exact ⟨a, b, l, rfl⟩
        have hnd := hp2.nodup_iff.mpr ns_nd
        have hab : a ≠ b := by simp at hnd; exact hnd.1.1
        have ha : a < n := ns_lt a (hp2.mem_iff.mp (by simp))
        have hb : b < n := ns_lt b (hp2.mem_iff.mp (by simp))
        have ec : cutP (List.map natP (a :: b :: ms)) none (some 2) = [natP a, natP b] := cut_to (k := 2)
        rw [ec]
        simp
        refine hK _ (seq1 fun K hK => ?_)
        have hok : okL (rs.map lnkP) = true := okL_iff.mpr fun x hx => by
          obtain ⟨l, _, rfl⟩ := List.mem_map.mp hx
          simp [lnkP, okP, okL]
        -- with the link that was drawn
        have put : ∀ (j : D) (l : Nat × Nat), Jar j → (l.1 ≠ l.2 ∧ l.1 < n ∧ l.2 < n) → K [some j, some (D.p (P.int ↑n)), some (D.lst (List.map lnkP rs)), some (D.p (P.lst (List.map natP ns))), v4, v5, v6, some (D.p (P.int ↑k)), some (D.p (natP a)), some (D.p (natP b)), some (D.p (lnkP l)), none, none] := by
          intro j l hj hlk
          refine hK _ (seq1 fun K hK => ?_)
          simp
          by_cases h60 : (rs.length : Int) < 60
          · simp [h60, mthA, mthS]
            refine ⟨by decide, by omega, hK _ ?_⟩
            simp
            refine ih _ ⟨j, _, rs ++ [l], v4, v5, v6, _, _, _, _, hj, .inr rfl, by simp; omega, ?_, by rw [List.map_append]; rfl⟩
            intro q hq
            rcases List.mem_append.mp hq with q | q
            · exact hrs _ q
            · simp at q; subst q; exact hlk
          · simp [h60, mthA, mthS]
            refine ⟨by omega, hK _ ?_⟩
            simp
            exact ih _ ⟨j, _, rs, _, _, _, _, _, _, _, hj, .inr rfl, hl, hrs, rfl⟩
        simp [ne_nil hok, g_one, jarLF_run, jarF_run]
        have pab := fun j hj => put j (a, b) hj ⟨hab, ha, hb⟩
        split
        · exact ⟨z2, pab _ hj⟩
        · rename_i hne
          refine ⟨hj, l6, fun r _ _ j hj => ?_⟩
          split
          · refine ⟨hj, ⟨hne, by omega⟩, fun x hx j hj => ?_⟩
            obtain ⟨l, hl, rfl⟩ := List.mem_map.mp hx
            exact put j l hj (hrs l hl)
          · exact ⟨z2, pab _ hj⟩
    · exact last j _ rs _ _ _ _ _ _ _ hj (.inl rfl) hl hrs
  simp [g_take, jarF_run]
  by_cases hn1 : (1 : Int) < n
  · simp [hn1]
    refine ⟨hj, l2, fun r _ _ j hj => ?_⟩
    split
    · refine ⟨hj, log2_lt (by omega), fun r r1 r2 j hj => ⟨by omega, ?_⟩⟩
      obtain ⟨r, rfl⟩ : ∃ k : Nat, r = k := ⟨r.toNat, by omega⟩
      have er : (1 + (r : Int)).toNat = r + 1 := by omega
      rw [er]
      refine lc_rng (fun i acc ρ => ∃ rs : List (Nat × Nat), acc = rs.map lnkP ∧ rs.length = i ∧ (∀ l ∈ rs, l.1 ≠ l.2 ∧ l.1 < n ∧ l.2 < n) ∧ ρ = [some j, some (D.p (P.int ↑n)), some (D.lst []), some (D.lst (List.map natP ns)), some (D.p (P.int (1 + r))), none, none, none, none, none, none, none, none]) ?_ ?_ ⟨[], rfl, rfl, by simp, rfl⟩
      · rintro acc ρ ⟨rs, rfl, hl, hrs, rfl⟩
        simp
        exact main j rs _ _ hj (by omega) hrs
      · rintro i acc ρ k hi ⟨rs, rfl, hl, hrs, rfl⟩ ih
        have h1 : i < ns.length := by omega
        have h2 : i + 1 < ns.length := by omega
        have g2 := natP_get h2
        simp at g2
        have z2 : 2 ≤ sizeLine := by decide
        have z : 100 < sizeLine := by decide
        simp [subO, look, subP, natP_get h1, g2, z2]
        refine ⟨by omega, ih _ _ ⟨rs ++ [(ns[i], ns[i + 1])], by simp [lnkP], by simp [hl], ?_, rfl⟩⟩
        intro l hl
        rcases List.mem_append.mp hl with q | q
        · exact hrs l q
        · simp at q
          subst q
          refine ⟨fun e => ?_, ns_lt _ (List.getElem_mem h1), ns_lt _ (List.getElem_mem h2)⟩
          have := (List.getElem_inj ns_nd).mp e
          omega
    · exact main j [] _ _ hj (by decide) (by simp)
  · simp [hn1]
    exact main j [] _ _ hj (by decide) (by simp)
end PL
set_option linter.all false
set_option maxRecDepth 100000
set_option maxHeartbeats 1000000
namespace PL
open PySem PySem.Spec PyProof.Rows L2 LamX
mutual
def szP : P → Nat
  | .tup xs | .lst xs | .rdl xs | .dic _ xs => szL xs + 1
  | _ => 1
def szL : List P → Nat
  | [] => 0
  | x :: xs => szP x + szL xs
end
theorem szP_pos (x : P) : 1 ≤ szP x := by cases x <;> simp [szP]
theorem szL_len : ∀ xs : List P, xs.length ≤ szL xs
  | [] => by simp [szL]
  | x :: xs => by have := szL_len xs; have := szP_pos x; simp [szL]; omega
theorem szL_app : ∀ xs ys : List P, szL (xs ++ ys) = szL xs + szL ys
  | [], ys => by simp [szL]
  | x :: xs, ys => by simp [szL, szL_app xs ys]; omega
def dupP (x : P) : P := .tup [x, x]
theorem okL_dup {ps : List P} (h : okL ps = true) : okL (ps.map dupP) = true := okL_iff.mpr fun x hx => by
  obtain ⟨y, hy, rfl⟩ := List.mem_map.mp hx
  have := okL_iff.mp h y hy
  simp [dupP, okP, okL, this]
def g_same : Fn := pureF 2 fun xs Q X => match xs with
  | [a, b] => (a = b ∧ okP a = true ∧ szP a ≤ 100000) ∧ Q (.bl true)
  | _ => False
theorem bl_eq {a b : Bool} {Q : Bool → Prop} : opC .eq (.bl a) (.bl b) Q = Q (a == b) := by
  simp [opC, eqOk, okP, dep, peq]
theorem k_law_vp_same : Keeps [g_is_number] 7 B_law_vp_same g_same := keepsF2 fun a b Q X h => by
  obtain ⟨⟨rfl, hok, hsz⟩, h⟩ := h
  have z : 1000000 < sizeLine := by decide
  refine seq1 fun K hK => ?_
  simp
  refine ⟨by decide, by decide, hK _ (seq1 fun K hK => ?_)⟩
  simp
  refine ⟨fun m ρ => ∃ (ps : List P) (v3 v4 v5 v6 : Option D), ρ = [some (.p a), some (.p a), some (.lst (ps.map dupP)), v3, v4, v5, v6] ∧ okL ps = true ∧ szL ps = m ∧ m ≤ 100000, ⟨szP a, [a], none, none, none, none, rfl, by simp [okL, hok], by simp [szL], hsz⟩, ?_⟩
  rintro m ρ ⟨ps, v3, v4, v5, v6, rfl, hps, hm, hmb⟩
  have hlen := szL_len ps
  generalize hB : bodyS _ _ _ _ = B
  simp [ne_nil (okL_dup hps)]
  rcases List.eq_nil_or_concat ps with rfl | ⟨ps, x, rfl⟩
  · simp
    refine hK _ ?_
    simp
    exact h
  · obtain ⟨hps1, hx⟩ : okL ps = true ∧ okP x = true := by
      rw [List.concat_eq_append] at hps
      exact ⟨okL_iff.mpr fun y hy => okL_iff.mp hps y (by simp [hy]), okL_iff.mp hps x (by simp)⟩
    rw [List.concat_eq_append, szL_app] at hm
    simp [szL] at hm
    simp
    rw [← hB]
    refine seq1 fun K2 hK2 => ?_
    simp [mthA, mthS, dupP]
    refine hK2 _ (seq1 fun K2 hK2 => ?_)
    -- with nothing more to do for it
    have flatOk : K2 [some (D.p a), some (D.p a), some (D.lst (List.map dupP ps)), some (D.p x), some (D.p x), some (D.p (.bl true)), v6] := by
      refine hK2 _ ?_
      simp
      have := szP_pos x
      exact ⟨szL ps, by omega, ps, rfl, hps1, rfl, by omega⟩
    cases x
    case non => simp [isNon]; exact flatOk
    case bl c => simp [isNon, isTy, bl_eq]; exact flatOk
    case int i => simp [isNon, isTy, g_is_number, pureF_run]; exact flatOk
    case str s =>
      simp [isNon, isTy]
      rw [str_eq (by simpa [okP] using hx) (by simpa [okP] using hx)]
      simp
      exact flatOk
    case dic ks xs => simp [okP] at hx
    case rdl xs => simp [okP] at hx
    all_goals
      rename_i xs
      have hxs : okL xs = true := by simpa [okP] using hx
      have e3 : szL ps + szL xs < m := by simp [szP] at hm; omega
      have hxl := szL_len xs
      have hpl := szL_len ps
      simp [isNon, isTy]
      refine ⟨by omega, lc_rng (fun i acc ρ => acc = (xs.take i).map dupP ∧ ρ = [some (D.p a), some (D.p a), some (D.lst (List.map dupP ps)), some (D.p _), some (D.p _), some (D.p (P.bl true)), none]) ?_ ?_ ⟨rfl, rfl⟩⟩
      · rintro acc ρ ⟨rfl, rfl⟩
        rw [List.take_length]
        simp [mthA, mthS]
        refine ⟨by omega, hK2 _ ?_⟩
        simp
        exact ⟨szL ps + szL xs, e3, ps ++ xs, by simp, okL_iff.mpr fun y hy => (List.mem_append.mp hy).elim (okL_iff.mp hps1 y) (okL_iff.mp hxs y), szL_app _ _, by omega⟩
      · rintro i acc ρ k hi ⟨rfl, rfl⟩ ih
        have g := atI_nat (List.getElem?_eq_getElem hi)
        simp [subO, look, subP, g]
        refine ⟨by decide, by omega, ih _ _ ⟨?_, rfl⟩⟩
        rw [List.take_succ_eq_append_getElem hi, List.map_append, List.map_take]
        rfl
end PL
set_option linter.all false
set_option maxRecDepth 100000
set_option maxHeartbeats 1000000
namespace PL
open PySem PySem.Spec PyProof.Rows L2 LamX
@[simp ↓] theorem take_n : g_take.n = 2 := rfl
@[simp ↓] theorem take_lent : g_take.lent = [0] := rfl
@[simp ↓] theorem take_run {j : D} {m : Int} {Q : D → List D → Prop} {X : Nat → P → Prop} : g_take.run [j, .p (.int m)] Q X = (Jar j ∧ (0 < m ∧ m.natAbs.log2 < 9000) ∧ ∀ r, 0 ≤ r → r < m → ∀ j', Jar j' → Q (.p (.int r)) [j']) := by
  simp [g_take, jarF_run]
@[simp ↓] theorem bent_n {d : Nat} : (g_bent d).n = 2 := rfl
@[simp ↓] theorem bent_lent {d : Nat} : (g_bent d).lent = [0] := rfl
@[simp ↓] theorem bent_run {d : Nat} {j : D} {x : P} {Q : D → List D → Prop} {X : Nat → P → Prop} : (g_bent d).run [j, .p x] Q X = (Jar j ∧ ∃ m e, m ≤ 100000 ∧ e < d ∧ Good m e x ∧ ∀ y, Good (m + 1) (e + 1) y → ∀ j', Jar j' → Q (.p y) [j']) := by
  simp [g_bent, jarF_run]
theorem good_nats {ws : List Nat} {m d : Nat} : ∀ x ∈ ws.map natP, Good m d x := fun x hx => by
  obtain ⟨a, _, rfl⟩ := List.mem_map.mp hx
  exact ⟨rfl, rfl, Nat.zero_le _⟩
theorem good_web {n : Nat} {ls : List (Nat × Nat)} {ws : List Nat} (h1 : ls.length ≤ 60) (h2 : ws.length ≤ 60) : Good 60 3 (webP n ls ws) := by
  refine good_tup.mpr ⟨by simp, fun x hx => ?_⟩
  simp at hx
  rcases hx with rfl | rfl | rfl
  · exact ⟨rfl, rfl, Nat.zero_le _⟩
  · refine good_tup.mpr ⟨by simpa using h1, fun y hy => ?_⟩
    obtain ⟨l, _, rfl⟩ := List.mem_map.mp hy
    exact ⟨by simp [lnkP, okP, okL], by simp [lnkP, lenP, lenL], by simp [lnkP, dep, depL]⟩
  · exact good_tup.mpr ⟨by simpa using h2, good_nats⟩
theorem WebOk.wl {n : Nat} {ls : List (Nat × Nat)} {ws : List Nat} (h : WebOk n ls ws) : ws.length ≤ 24 := by
  have e : ∀ (ws : List Nat) (a : Nat), (a :: ws).Pairwise (· < ·) → (∀ b ∈ a :: ws, b < n) → a + ws.length < n := by
    intro ws
    induction ws with
    | nil => intro a _ h; simpa using h a (by simp)
    | cons b ws ih =>
      intro a hp h
      rw [List.pairwise_cons] at hp
      have := ih b hp.2 fun c hc => h c (List.mem_cons_of_mem _ hc)
      have := hp.1 b (by simp)
      simp
      omega
  have := h.hn
  cases ws with
  | nil => simp
  | cons a ws =>
    have := e ws a h.hw h.wn
    simp
    omega
def g_wrong : Fn := jarF 1 fun xs Q X => match xs with
  | [x] => ∃ n ls ws, x = webP n ls ws ∧ WebOk n ls ws ∧ ∀ ys, (∀ y ∈ ys, lenP 1000 y = true) → Q (.lst ys)
  | _ => False
@[simp] theorem opB_mul_tup {xs : List P} {k : Int} {Q : D → Prop} : opB .mul (.tup xs) (.int k) Q = ((0 ≤ k ∧ k ≤ 1000 ∧ xs.length ≤ 1000) ∧ Q (.p (.tup (List.replicate k.toNat xs).flatten))) := rfl
theorem lenL_app {m : Nat} {xs ys : List P} : lenL m (xs ++ ys) = (lenL m xs && lenL m ys) := by
  apply Bool.eq_iff_iff.mpr
  simp only [Bool.and_eq_true, lenL_iff, List.mem_append]
  exact ⟨fun h => ⟨fun x hx => h x (.inl hx), fun x hx => h x (.inr hx)⟩, fun h x hx => hx.elim (h.1 x) (h.2 x)⟩
theorem cut_len {xs : List P} {a b : Option Int} : (cutP xs a b).length ≤ xs.length := by
  unfold cutP
  simp
  omega
theorem cut_mem {xs : List P} {a b : Option Int} {x : P} (h : x ∈ cutP xs a b) : x ∈ xs := List.mem_of_mem_drop (List.mem_of_mem_take h)
theorem k_law_f1_wrong : Keeps [g_take, g_bent 5] 9 B_law_f1_wrong g_wrong := keepsJ1 fun j x Q X hj h => by
  obtain ⟨n, ls, ws, rfl, hw, h⟩ := h
  have hgood := good_web (n := n) hw.hm (Nat.le_trans hw.wl (by decide))
  have hwl := hw.wl
  have hlm := hw.hm
  have zz : 10000 < sizeLine := by decide
  have hL : lenL 1000 (ls.map lnkP) = true := lenL_iff.mpr fun x hx => by
    obtain ⟨l, _, rfl⟩ := List.mem_map.mp hx
    simp [lnkP, lenP, lenL]
  have hW : lenL 1000 (ws.map natP) = true := lenL_iff.mpr fun x hx => (good_nats (m := 1000) (d := 1) x hx).le
  generalize hrs : ls.map lnkP = rs at *
  have hrl : rs.length ≤ 60 := by rw [← hrs]; simpa using hlm
  generalize hes : ws.map natP = es at *
  have hel : es.length ≤ 24 := by rw [← hes]; simpa using hwl
  have ew : webP n ls ws = .tup [.int n, .tup rs, .tup es] := by rw [← hrs, ← hes]; rfl
  rw [ew] at hgood ⊢
  have hr1 : rs.length ≤ 1000 := by omega
  have he1 : es.length ≤ 1000 := by omega
  have hrR : lenL 1000 rs.reverse = true := lenL_iff.mpr fun x hx => lenL_iff.mp hL x (by simpa using hx)
  have hr3 : lenL 1000 (rs ++ (rs ++ rs)) = true := by simp [lenL_app, hL]
  have happ : ∀ {xs ys : List P}, (lenL 1000 xs = true ∧ xs.length ≤ 500) → (lenL 1000 ys = true ∧ ys.length ≤ 100) → xs.length + ys.length ≤ 500 → lenL 1000 (xs ++ ys) = true ∧ (xs ++ ys).length ≤ 500 := fun h1 h2 h3 => ⟨by rw [lenL_app, h1.1, h2.1]; rfl, by simp; omega⟩
  refine seq1 fun K hK => ?_
  simp [sizeLine]
  refine hK _ (seq1 fun K hK => ?_)
  simp [sizeLine]
  have s1 : ∀ xs, lenL 1000 xs = true → xs.length = 10 → K [some j, some (D.p (P.tup [P.int ↑n, P.tup rs, P.tup es])), some (D.p (P.int ↑n)), some (D.p (P.tup rs)), some (D.p (P.tup es)), some (D.lst xs), none, none, none] := by
    intro xs hx1 hx2
    refine hK _ (seq1 fun K hK => ?_)
    simp [mthA, mthS, sizeLine]
    refine ⟨by omega, ?_⟩
    have s2 : ∀ xs, lenL 1000 xs = true → xs.length = 15 → K [some j, some (D.p (P.tup [P.int ↑n, P.tup rs, P.tup es])), some (D.p (P.int ↑n)), some (D.p (P.tup rs)), some (D.p (P.tup es)), some (D.lst xs), none, none, none] := by
      intro xs hx1 hx2
      refine hK _ (seq1 fun K hK => ?_)
      simp [mthA, mthS, sizeLine]
      refine ⟨hr1, by omega, ?_⟩
      have s3 : ∀ xs, lenL 1000 xs = true → xs.length = 20 → K [some j, some (D.p (P.tup [P.int ↑n, P.tup rs, P.tup es])), some (D.p (P.int ↑n)), some (D.p (P.tup rs)), some (D.p (P.tup es)), some (D.lst xs), none, none, none] := by
        intro xs hx1 hx2
        refine hK _ (seq1 fun K hK => ?_)
        simp [sizeLine]
        refine for_ind (fun its ρ => ∃ (j : D) (xs : List P) (v6 v7 : Option D), Jar j ∧ lenL 1000 its = true ∧ lenL 1000 xs = true ∧ xs.length + its.length ≤ 32 ∧ ρ = [some j, some (D.p (P.tup [P.int ↑n, P.tup rs, P.tup es])), some (D.p (P.int ↑n)), some (D.p (P.tup rs)), some (D.p (P.tup es)), some (D.lst xs), v6, v7, none]) ?_ ?_ _ _ ⟨j, xs, _, _, hj, ?_, hx1, ?_, rfl⟩
        · rintro ρ ⟨j, xs, v6, v7, hj, _, hx1, hx2, rfl⟩
          simp at hx2
          refine hK _ (seq1 fun K hK => ?_)
          simp [mthA, mthS, sizeLine]
          refine ⟨by omega, by omega, by omega, ?_⟩
          have s4 : ∀ xs, lenL 1000 xs = true → xs.length ≤ 33 → K [some j, some (D.p (P.tup [P.int ↑n, P.tup rs, P.tup es])), some (D.p (P.int ↑n)), some (D.p (P.tup rs)), some (D.p (P.tup es)), some (D.lst xs), v6, v7, none] := by
            intro xs hx1 hx2
            refine hK _ (seq1 fun K hK => ?_)
            simp [sizeLine]
            have hc := cut_len (xs := es) (a := some (-1)) (b := none)
            have hcL : lenL 1000 (cutP es (some (-1)) none) = true := lenL_iff.mpr fun x hx => lenL_iff.mp hW x (cut_mem hx)
            generalize cutP es (some (-1)) none = ce at *
            refine ⟨by omega, by omega, by omega, ?_⟩
            refine for_ind (fun its ρ => ∃ (xs : List P) (v8 : Option D), lenL 1000 its = true ∧ lenL 1000 xs = true ∧ xs.length + its.length ≤ 50 ∧ ρ = [some j, some (D.p (P.tup [P.int ↑n, P.tup rs, P.tup es])), some (D.p (P.int ↑n)), some (D.p (P.tup rs)), some (D.p (P.tup es)), some (D.lst xs), v6, v7, v8]) ?_ ?_ _ _ ⟨xs, _, ?_, hx1, ?_, rfl⟩
            · rintro ρ ⟨xs, v8, _, hx1, hx2, rfl⟩
              simp at hx2
              refine hK _ ?_
              simp [sizeLine]
              refine ⟨hj, 60, by omega, 3, by omega, hgood, fun y hy j hj => ⟨hj, 60, by omega, 3, by omega, hgood, fun y1 hy1 j hj => ⟨hj, 61, by omega, 4, by omega, hy1, fun y2 hy2 j hj => ⟨by omega, h _ (fun u hu => ?_) j hj⟩⟩⟩⟩
              rcases List.mem_append.mp hu with q | q
              · exact lenL_iff.mp hx1 u q
              · simp at q
                rcases q with rfl | rfl
                · exact lenP_mono (by decide) hy.le
                · exact lenP_mono (by decide) hy2.le
            · rintro x its ρ k ⟨xs, v8, hi, hx1, hx2, rfl⟩ ih
              simp at hx2
              simp [lenL] at hi
              simp [mthA, mthS, sizeLine]
              refine ⟨by omega, ih _ ⟨_, _, hi.2, ?_, by simp; omega, rfl⟩⟩
              simp [lenL_app, hx1, lenL, lenP, hL, hr1, hi.1]
            · simp [lenL_app, lenL, lenP, hW, hcL]
              omega
            · simp
              omega
          refine s4 _ ?_ (by simp; omega)
          simp [lenL_app, hx1, lenL, lenP, hL]
          omega
        · rintro x its ρ k ⟨j, xs, v6, v7, hj, hi, hx1, hx2, rfl⟩ ih
          simp at hx2
          simp [lenL] at hi
          simp only [tgS_name]
          refine ⟨by simp, by simp, ?_⟩
          refine seq1 fun K hK => ?_
          simp [sizeLine]
          refine ⟨hj, log2_lt (by omega), fun r r1 r2 j hj => ?_⟩
          obtain ⟨r, rfl⟩ : ∃ k : Nat, r = k := ⟨r.toNat, by omega⟩
          refine hK _ (seq1 fun K hK => ?_)
          simp [mthA, mthS, cut_to, cut_from, sizeLine]
          refine ⟨by omega, by omega, by omega, hK _ ?_⟩
          simp
          refine ih _ ⟨j, _, _, _, hj, hi.2, ?_, by simp; omega, rfl⟩
          have t1 : lenL 1000 (rs.take r) = true := lenL_iff.mpr fun x hx => lenL_iff.mp hL x (List.mem_of_mem_take hx)
          have t2 : lenL 1000 (rs.drop r) = true := lenL_iff.mpr fun x hx => lenL_iff.mp hL x (List.mem_of_mem_drop hx)
          simp [lenL_app, hx1, lenL, lenP, hi.1, hW, he1, t1, t2]
          omega
        · simp [lenL, lenP]
        · simp [hx2]
      refine s3 _ ?_ (by simp [hx2])
      simp [lenL_app, hx1, lenL, lenP, hL, hW, hr1, he1, hrR]
      omega
    refine s2 _ ?_ (by simp [hx2])
    simp [lenL_app, hx1, lenL, lenP, hL, hW, hr1, he1]
  refine s1 _ ?_ (by simp)
  simp [lenL, lenP, hL, hW, hr1, he1]
end PL
set_option linter.all false
set_option maxRecDepth 100000
set_option maxHeartbeats 1000000
namespace PL
open PySem PySem.Spec PyProof.Rows L2 LamX
/-! What is no wrong web is a web. -/
theorem pairOk_form {n : Int} {x : P} (h : pairOk n x = true) : ∃ l : Nat × Nat, x = lnkP l ∧ l.1 < l.2 ∧ (l.2 : Int) < n := by
  unfold pairOk at h
  split at h
  · rename_i a b
    rw [Bool.and_eq_true] at h
    obtain ⟨i, rfl, h1, h2⟩ := whole_int h.1
    obtain ⟨k, rfl, h3, h4⟩ := whole_int h.2
    simp only [valI] at h3
    refine ⟨(i.toNat, k.toNat), ?_, by simp; omega, by simp; omega⟩
    have e1 : ((i.toNat : Nat) : Int) = i := by omega
    have e2 : ((k.toNat : Nat) : Int) = k := by omega
    simp only [lnkP]
    rw [e1, e2]
  · cases h
theorem pairAt_none {n : Int} : ∀ {xs : List P} {j : Int}, pairAt n j xs = none → ∃ ls : List (Nat × Nat), xs = ls.map lnkP ∧ ∀ l ∈ ls, l.1 < l.2 ∧ (l.2 : Int) < n
  | [], _, _ => ⟨[], rfl, by simp⟩
  | x :: xs, j, h => by
    unfold pairAt at h
    split at h
    · rename_i hx
      obtain ⟨l, rfl, h1⟩ := pairOk_form hx
      obtain ⟨ls, rfl, h2⟩ := pairAt_none h
      refine ⟨l :: ls, rfl, fun q hq => ?_⟩
      rcases List.mem_cons.mp hq with rfl | hq
      · exact h1
      · exact h2 q hq
    · cases h
theorem riseAt_none {n : Int} : ∀ {xs : List P} {j l : Int}, 0 ≤ l → riseAt n j l xs = .non → ∃ ws : List Nat, xs = ws.map natP ∧ ws.Pairwise (· < ·) ∧ ∀ a ∈ ws, l ≤ (a : Int) ∧ (a : Int) < n
  | [], _, _, _, _ => ⟨[], rfl, List.Pairwise.nil, by simp⟩
  | x :: xs, j, l, h0, h => by
    unfold riseAt at h
    split at h
    · rename_i hx
      obtain ⟨i, rfl, h1, h2⟩ := whole_int hx
      simp only [valI] at h
      obtain ⟨ws, rfl, h3, h4⟩ := riseAt_none (by omega) h
      have e1 : ((i.toNat : Nat) : Int) = i := by omega
      refine ⟨i.toNat :: ws, by simp [natP, e1], List.pairwise_cons.mpr ⟨fun a ha => ?_, h3⟩, fun a ha => ?_⟩
      · have := h4 a ha; omega
      · rcases List.mem_cons.mp ha with rfl | ha
        · omega
        · have := h4 a ha; omega
    · cases h
theorem webWhat_non {x : P} (h : webWhat x = .non) : ∃ n ls ws, x = webP n ls ws ∧ WebOk n ls ws := by
  unfold webWhat at h
  split at h
  · rename_i n links ws
    split at h
    · rename_i hn
      obtain ⟨i, rfl, h1, h2⟩ := whole_int hn
      split at h
      · rename_i xs
        split at h
        · cases h
        · rename_i hl
          split at h
          · cases h
          · rename_i hp
            simp only [valI] at hp h
            obtain ⟨ls, rfl, h3⟩ := pairAt_none hp
            split at h
            · rename_i hr
              cases ws <;> simp [wrongRise] at hr
              rename_i ys
              obtain ⟨ws, rfl, h4, h5⟩ := riseAt_none (by omega) hr
              have e1 : ((i.toNat : Nat) : Int) = i := by omega
              refine ⟨i.toNat, ls, ws, by unfold webP; rw [e1], ⟨by omega, by simp at hl; omega, fun l hl => ?_, h4, fun a ha => ?_⟩⟩
              · have := h3 l hl; omega
              · have := h5 a ha; omega
            · cases h
            · rename_i hr
              rcases wrongRise_form ws i with q | ⟨k, q⟩
              · simp_all
              · simp_all
      · cases h
    · cases h
  · cases h
theorem pairAt_ok {n : Nat} : ∀ {ls : List (Nat × Nat)} {j : Int}, (∀ l ∈ ls, l.1 < l.2 ∧ l.2 < n) → pairAt n j (ls.map lnkP) = none
  | [], _, _ => rfl
  | l :: ls, j, h => by
    have h1 := h l (by simp)
    have e : pairOk n (lnkP l) = true := by
      show (whole (.int (l.1 : Nat)) 0 (n - 1) && (decide (((l.1 : Nat) : Int) + 1 ≤ (l.2 : Nat)) && decide (((l.2 : Nat) : Int) ≤ n - 1))) = true
      simp [whole]
      omega
    simp only [List.map_cons, pairAt, e, if_true]
    exact pairAt_ok fun q hq => h q (List.mem_cons_of_mem _ hq)
theorem riseAt_ok {n : Nat} : ∀ {ws : List Nat} {j l : Int}, ws.Pairwise (· < ·) → (∀ a ∈ ws, l ≤ (a : Int) ∧ a < n) → riseAt n j l (ws.map natP) = .non
  | [], _, _, _, _ => rfl
  | a :: ws, j, l, hp, h => by
    have h1 := h a (by simp)
    rw [List.pairwise_cons] at hp
    have e : whole (natP a) l (n - 1) = true := by
      simp [natP, whole]
      omega
    simp only [List.map_cons, riseAt, e, if_true]
    exact riseAt_ok hp.2 fun b hb => ⟨by have := hp.1 b hb; simp [natP, valI]; omega, (h b (List.mem_cons_of_mem _ hb)).2⟩
theorem webWhat_ok {n : Nat} {ls : List (Nat × Nat)} {ws : List Nat} (h : WebOk n ls ws) : webWhat (webP n ls ws) = .non := by
  have h1 := h.hn
  have h2 := h.hm
  have e : whole (P.int n) 0 24 = true := by simp [whole]; omega
  have e2 : ¬ (60 < ls.length) := by omega
  simp only [webWhat, webP, e, if_true, List.length_map, if_neg e2, valI, pairAt_ok h.hl, wrongRise]
  rw [riseAt_ok h.hw fun a ha => ⟨by omega, h.wn a ha⟩]
/-- what is told of a wrong web is small -/
theorem szL_map {α : Type} {f : α → P} {k : Nat} : ∀ {xs : List α}, (∀ x ∈ xs, szP (f x) ≤ k) → szL (xs.map f) ≤ k * xs.length
  | [], _ => by simp [szL]
  | x :: xs, h => by
    have h1 := h x (by simp)
    have h2 := szL_map fun y hy => h y (List.mem_cons_of_mem _ hy)
    simp [szL, Nat.mul_add]
    omega
theorem szL_nats {ws : List Nat} : szL (ws.map natP) = ws.length := by
  induction ws with
  | nil => rfl
  | cons a ws ih => simp only [List.map_cons, szL, ih, natP, szP, List.length_cons]; omega
theorem okL_nats {ws : List Nat} : okL (ws.map natP) = true := okL_iff.mpr fun x hx => (good_nats (m := 0) (d := 0) x hx).ok
theorem web_sz {n : Nat} {ls : List (Nat × Nat)} {ws : List Nat} (h : WebOk n ls ws) : okP (webP n ls ws) = true ∧ szP (webP n ls ws) ≤ 300 := by
  refine ⟨(good_web h.hm (Nat.le_trans h.wl (by decide))).ok, ?_⟩
  have h1 : szL (ls.map lnkP) ≤ 3 * ls.length := szL_map fun l _ => by simp [lnkP, szP, szL]
  have := h.hm
  have := h.wl
  simp [webP, szP, szL, szL_nats]
  omega
theorem webWhat_small (x : P) : okP (webWhat x) = true ∧ szP (webWhat x) ≤ 10 := by
  have s1 : okP (.str "BadWeb") = true := by decide +kernel
  have s2 : okP (.str "TooMany") = true := by decide +kernel
  unfold webWhat
  split
  · split
    · split
      · split
        · simp [okP, okL, szP, szL] at s2 ⊢; exact s2
        · split
          · simp [okP, okL, szP, szL] at s1 ⊢; exact s1
          · split
            · simp [okP, szP]
            · split
              · simp [okP, okL, szP, szL] at s1 ⊢; exact s1
              · simp [okP, okL, szP, szL] at s1 ⊢; exact s1
            · simp [okP, szP]
      · simp [okP, okL, szP, szL] at s1 ⊢; exact s1
    · simp [okP, okL, szP, szL] at s1 ⊢; exact s1
  · simp [okP, okL, szP, szL] at s1 ⊢; exact s1
end PL
set_option linter.all false
set_option maxRecDepth 100000
set_option maxHeartbeats 1000000
namespace PL
open PySem PySem.Spec PyProof.Rows L2 LamX
def pO : Option D → Option D
  | some (.p x) => some (.p x)
  | _ => none
@[simp ↓] theorem pO_p {x : P} : pO (some (.p x)) = some (.p x) := rfl
@[simp ↓] theorem pO_none : pO none = none := rfl
@[simp ↓] theorem pO_lst {xs : List P} : pO (some (.lst xs)) = none := rfl
@[simp ↓] theorem pOnly_nil : pOnly [] = [] := rfl
@[simp ↓] theorem pOnly_cons {o : Option D} {ρ : Env'} : pOnly (o :: ρ) = pO o :: pOnly ρ := rfl
@[simp ↓] theorem frVs_nil {ρ : Env'} {Q : Env' → Prop} : frVs ρ [] Q = Q ρ := rfl
@[simp ↓] theorem frVs_cons {ρ : Env'} {i : Nat} {is : List Nat} {Q : Env' → Prop} : frVs ρ (i :: is) Q = frV ρ i fun _ ρ' => frVs ρ' is Q := rfl
@[simp ↓] theorem wrong_n : g_wrong.n = 2 := rfl
@[simp ↓] theorem wrong_lent : g_wrong.lent = [0] := rfl
@[simp ↓] theorem wrong_run {j : D} {x : P} {Q : D → List D → Prop} {X : Nat → P → Prop} : g_wrong.run [j, .p x] Q X = (Jar j ∧ ∃ n ls ws, x = webP n ls ws ∧ WebOk n ls ws ∧ ∀ ys, (∀ y ∈ ys, lenP 1000 y = true) → ∀ j', Jar j' → Q (.lst ys) [j']) := by
  simp [g_wrong, jarF_run]
@[simp ↓] theorem web_n : g_web.n = 1 := rfl
@[simp ↓] theorem web_lent : g_web.lent = [0] := rfl
@[simp ↓] theorem web_run {j : D} {Q : D → List D → Prop} {X : Nat → P → Prop} : g_web.run [j] Q X = (Jar j ∧ ∀ n ls ws, WebOk n ls ws → ∀ j', Jar j' → Q (.p (webP n ls ws)) [j']) := by
  simp [g_web, jarF_run]
@[simp ↓] theorem web_fault_n : g_law_vp_web_fault.n = 1 := rfl
@[simp ↓] theorem web_fault_lent : g_law_vp_web_fault.lent = [] := rfl
@[simp ↓] theorem web_fault_run {x : P} {Q : D → List D → Prop} {X : Nat → P → Prop} : g_law_vp_web_fault.run [.p x] Q X = (smallW x ∧ Q (.p (webWhat x)) []) := by
  simp [g_law_vp_web_fault, pureF_run]
@[simp ↓] theorem same_n : g_same.n = 2 := rfl
@[simp ↓] theorem same_lent : g_same.lent = [] := rfl
@[simp ↓] theorem same_run {a b : P} {Q : D → List D → Prop} {X : Nat → P → Prop} : g_same.run [.p a, .p b] Q X = ((a = b ∧ okP a = true ∧ szP a ≤ 100000) ∧ Q (.p (.bl true)) []) := by
  simp [g_same, pureF_run]
@[simp ↓] theorem is_web_n : g_is_web.n = 1 := rfl
@[simp ↓] theorem is_web_lent : g_is_web.lent = [] := rfl
@[simp ↓] theorem is_web_run {x : P} {Q : D → List D → Prop} {X : Nat → P → Prop} : g_is_web.run [.p x] Q X = Q (.p (.bl (isNon (webWhat x)))) [] := by
  simp [g_is_web, pureF_run]
/-- what a web's maker tells, or refuses -/
def madeWeb (x : P) (Q : P → Prop) (X : Nat → P → Prop) : Prop :=
  match webWhat x with
  | .tup [.str s, y] => if s = "TooMany" then X 53 y else X 1 y
  | _ => Q x
@[simp ↓] theorem made_web_n : g_made_web.n = 1 := rfl
@[simp ↓] theorem made_web_lent : g_made_web.lent = [] := rfl
@[simp ↓] theorem made_web_run {x : P} {Q : D → List D → Prop} {X : Nat → P → Prop} : g_made_web.run [.p x] Q X = madeWeb x (fun y => Q (.p y) []) X := by
  first
    | (simp [g_made_web, pureF_run, madeWeb]; done)
    | (simp [g_made_web, pureF_run, madeWeb]; exact Iff.rfl)
/-- as it is heard -/
def toldWeb (x : P) : P := if isNon (webWhat x) = true then .tup [.str "told", x] else webWhat x
theorem madeWeb_heard {x : P} {R : P → Prop} {tab : List (Nat × Str)} (h1 : tab.lookup 1 = some "BadWeb") (h5 : tab.lookup 53 = some "TooMany") (h : R (toldWeb x)) :
    madeWeb x (fun y => R (.tup [.str "told", y])) (fun c y => ∃ n, tab.lookup c = some n ∧ R (.tup [.str n, y])) := by
  unfold madeWeb
  unfold toldWeb at h
  rcases webWhat_form x with hw | ⟨y, hw | hw⟩
  · rw [hw] at h ⊢
    simpa [isNon] using h
  · rw [hw] at h ⊢
    have e : ¬ (("BadWeb" : Str) = ("TooMany" : Str)) := by decide
    simp [isNon, e, h1] at h ⊢
    exact h
  · rw [hw] at h ⊢
    simp [isNon, h5] at h ⊢
    exact h
def g_true : Fn := jarF 0 fun xs Q X => match xs with
  | [] => Q (.p (.bl true))
  | _ => False
@[simp ↓] theorem true_n : g_true.n = 1 := rfl
@[simp ↓] theorem true_lent : g_true.lent = [0] := rfl
@[simp ↓] theorem true_run {j : D} {Q : D → List D → Prop} {X : Nat → P → Prop} : g_true.run [j] Q X = (Jar j ∧ ∀ j', Jar j' → Q (.p (.bl true)) [j']) := by
  simp [g_true, jarF_run]
theorem smallW_of {x : P} (h : lenP 1000 x = true) : smallW x := by
  unfold smallW
  split
  · rename_i a b ws
    simp [lenP, lenL] at h
    cases ws <;> simp [small]
    all_goals
      simp [lenP] at h
      omega
  · trivial
theorem toldWeb_ok (x : P) : okP (toldWeb x) = true ∧ szP (toldWeb x) ≤ 1000 := by
  unfold toldWeb
  cases h : isNon (webWhat x) with
  | false =>
    have := webWhat_small x
    simp
    exact ⟨this.1, by omega⟩
  | true =>
    have hn : webWhat x = .non := by
      generalize webWhat x = y at h
      cases y <;> simp [isNon] at h
      rfl
    obtain ⟨n, ls, ws, rfl, hw⟩ := webWhat_non hn
    have := web_sz hw
    have s1 : okP (.str "told") = true := by decide +kernel
    simp [okP, okL, szP, szL] at s1 ⊢
    exact ⟨⟨s1, by simpa using this.1⟩, by omega⟩
theorem k_law_f1_webs_right : Keeps [g_wrong, g_web, g_law_vp_web_fault, g_same, g_made_web, g_is_web] 4 B_law_f1_webs_right g_true := keepsJ0 fun j Q X hj h => by
  refine seq1 fun K hK => ?_
  simp
  refine ⟨hj, fun n ls ws hw j hj => ⟨hj, n, ls, ws, rfl, hw, fun ys hys j hj => ?_⟩⟩
  refine for_ind (fun its ρ => ∃ (j : D) (v1 v2 v3 : Option D), Jar j ∧ (∀ y ∈ its, lenP 1000 y = true) ∧ ρ = [some j, v1, v2, v3]) ?_ ?_ _ _ ⟨j, _, _, _, hj, hys, rfl⟩
  · rintro ρ ⟨j, v1, v2, v3, hj, _, rfl⟩
    refine hK _ ?_
    simp
    exact h j hj
  · rintro x its ρ k ⟨j, v1, v2, v3, hj, hi, rfl⟩ ih
    have hx := hi x (by simp)
    simp only [tgS_name]
    refine ⟨by simp, by simp, ?_⟩
    refine seq1 fun K hK => ?_
    simp
    refine ⟨smallW_of hx, hK _ (seq1 fun K hK => ?_)⟩
    simp
    refine madeWeb_heard (R := fun y => K [some j, some (.p x), some (.p (webWhat x)), some (.p y)]) rfl rfl (hK _ (seq1 fun K hK => ?_))
    obtain ⟨t1, t2⟩ := toldWeb_ok x
    simp
    have next : K [some j, some (D.p x), some (D.p (webWhat x)), some (D.p (toldWeb x))] := by
      refine hK _ (seq1 fun K hK => ?_)
      have s1 : okP (.tup [.str "told", .bl (isNon (webWhat x))]) = true := by
        cases isNon (webWhat x) <;> decide +kernel
      simp [sizeLine, s1, szP, szL]
      refine hK _ ?_
      simp
      exact ih _ ⟨j, _, _, _, hj, fun y hy => hi y (List.mem_cons_of_mem _ hy), rfl⟩
    have z2 : 2 ≤ sizeLine := by decide
    split
    · rename_i q
      refine ⟨z2, ⟨by simp [toldWeb, q], t1, by omega⟩, next⟩
    · rename_i q
      refine ⟨⟨by simp [toldWeb, q], t1, by omega⟩, next⟩
end PL
set_option linter.all false
set_option maxRecDepth 100000
set_option maxHeartbeats 1000000
namespace PL
open PySem PySem.Spec PyProof.Rows L2 LamX
@[simp ↓] theorem number_n : g_number.n = 1 := rfl
@[simp ↓] theorem number_lent : g_number.lent = [0] := rfl
@[simp ↓] theorem number_run {j : D} {Q : D → List D → Prop} {X : Nat → P → Prop} : g_number.run [j] Q X = (Jar j ∧ ∀ i, small41 i → ∀ j', Jar j' → Q (.p (.int i)) [j']) := by
  simp [g_number, jarF_run]
@[simp ↓] theorem one_n : g_one.n = 2 := rfl
@[simp ↓] theorem one_lent : g_one.lent = [0, 1] := rfl
@[simp ↓] theorem one_run {j t : D} {Q : D → List D → Prop} {X : Nat → P → Prop} : g_one.run [j, t] Q X = (Jar j ∧ ∃ xs, seqD t = some xs ∧ (xs ≠ [] ∧ xs.length ≤ 1000000) ∧ Each xs fun x => ∀ j', Jar j' → Q (.p x) [j', t]) := by
  simp [g_one, jarLF_run]
@[simp ↓] theorem nums_fault_n : g_law_vp_nums_fault.n = 2 := rfl
@[simp ↓] theorem nums_fault_lent : g_law_vp_nums_fault.lent = [] := rfl
@[simp ↓] theorem nums_fault_run {m : Int} {x : P} {Q : D → List D → Prop} {X : Nat → P → Prop} : g_law_vp_nums_fault.run [.p (.int m), .p x] Q X = (small x ∧ Q (.p (wrongRow x m)) []) := by
  simp [g_law_vp_nums_fault, pureF_run]
@[simp ↓] theorem made_sum_n : g_made_sum.n = 2 := rfl
@[simp ↓] theorem made_sum_lent : g_made_sum.lent = [] := rfl
@[simp ↓] theorem made_sum_run {m x : P} {Q : D → List D → Prop} {X : Nat → P → Prop} : g_made_sum.run [.p m, .p x] Q X = madeRow 8 m x (fun y => Q (.p y) []) X := by
  simp [g_made_sum, pureF_run]
@[simp ↓] theorem made_costs_n : g_made_costs.n = 2 := rfl
@[simp ↓] theorem made_costs_lent : g_made_costs.lent = [] := rfl
@[simp ↓] theorem made_costs_run {m x : P} {Q : D → List D → Prop} {X : Nat → P → Prop} : g_made_costs.run [.p m, .p x] Q X = madeRow 9 m x (fun y => Q (.p y) []) X := by
  simp [g_made_costs, pureF_run]
theorem isNum_form {x : P} (h : isNum x = true) : ∃ i, x = .int i := by
  cases x <;> simp [isNum, isTy] at h
  exact ⟨_, rfl⟩
theorem oddAt_form : ∀ (xs : List P) (j : Int), (oddAt j xs = .non ∧ ∀ x ∈ xs, ∃ i, x = .int i) ∨ ∃ i, oddAt j xs = .int i
  | [], _ => .inl ⟨rfl, by simp⟩
  | x :: xs, j => by
    unfold oddAt
    split
    · rename_i hx
      rcases oddAt_form xs (j + 1) with ⟨h1, h2⟩ | h
      · refine .inl ⟨h1, fun y hy => ?_⟩
        rcases List.mem_cons.mp hy with rfl | hy
        · exact isNum_form hx
        · exact h2 y hy
      · exact .inr h
    · exact .inr ⟨_, rfl⟩
theorem wrongRow_form (x : P) (m : Int) : (wrongRow x m = .non ∧ ∃ xs, x = .tup xs ∧ (xs.length : Int) = m ∧ ∀ x ∈ xs, ∃ i, x = .int i) ∨ ∃ i, wrongRow x m = .int i := by
  unfold wrongRow
  split
  · rename_i xs
    split
    · rename_i hm
      rcases oddAt_form xs 0 with ⟨h1, h2⟩ | h
      · exact .inl ⟨h1, xs, rfl, hm, h2⟩
      · exact .inr h
    · exact .inr ⟨_, rfl⟩
  · exact .inr ⟨_, rfl⟩
theorem szL_ints : ∀ {xs : List P}, (∀ x ∈ xs, ∃ i, x = .int i) → szL xs = xs.length
  | [], _ => rfl
  | x :: xs, h => by
    obtain ⟨i, rfl⟩ := h x (by simp)
    simp [szL, szP, szL_ints fun y hy => h y (List.mem_cons_of_mem _ hy)]
    omega
/-- as a maker of rows is heard, s the refusal's name -/
def toldRow (s : Str) (x : P) (m : Int) : P := if isNon (wrongRow x m) = true then .tup [.str "told", x] else .tup [.str s, wrongRow x m]
theorem toldRow_ok {s : Str} {x : P} {m : Int} (hm : m ≤ 60) (hs : okP (.str s) = true) : okP (toldRow s x m) = true ∧ szP (toldRow s x m) ≤ 1000 := by
  unfold toldRow
  have s1 : okP (.str "told") = true := by decide +kernel
  rcases wrongRow_form x m with ⟨h, xs, rfl, hl, hx⟩ | ⟨i, h⟩
  · rw [h]
    simp [isNon, okP, okL, szP, szL, szL_ints hx] at s1 ⊢
    exact ⟨⟨s1, okL_ints xs hx⟩, by omega⟩
  · rw [h]
    simp [isNon, okP, okL, szP, szL] at hs ⊢
    exact hs
theorem madeRow_heard {c : Nat} {s : Str} {m : Int} {x : P} {R : P → Prop} {tab : List (Nat × Str)} (hm : 0 ≤ m ∧ m ≤ 60) (hc : tab.lookup c = some s) (h : R (toldRow s x m)) :
    madeRow c (.int m) x (fun y => R (.tup [.str "told", y])) (fun c y => ∃ n, tab.lookup c = some n ∧ R (.tup [.str n, y])) := by
  have e : whole (.int m) 0 60 = true := by simp [whole]; omega
  unfold toldRow at h
  simp [madeRow, e]
  split
  · rename_i q
    simpa [q] using h
  · rename_i q
    simp [q] at h
    exact ⟨s, hc, h⟩
theorem small_of {x : P} (h : lenP 1000 x = true) : small x := by
  cases x <;> simp [small]
  all_goals
    simp [lenP] at h
    omega
theorem k_law_f1_rows_right : Keeps [g_one, g_bent 5, g_take, g_law_vp_nums_fault, g_number, g_same, g_made_sum, g_made_costs] 11 B_law_f1_rows_right g_true := keepsJ0 fun j Q X hj h => by
  have l61 : Nat.log2 61 < 9000 := by decide
  refine seq1 fun K hK => ?_
  simp [sizeLine]
  refine ⟨hj, l61, fun r r1 r2 j hj => ⟨hj, fun x hx j hj => ?_⟩⟩
  obtain ⟨m, rfl, hm⟩ : ∃ m : Nat, x = .int m ∧ m ≤ 60 := by
    simp at hx
    rcases hx with rfl | rfl | rfl | rfl | rfl | rfl | rfl <;> first | exact ⟨Int.toNat _, congrArg P.int (Int.toNat_of_nonneg (by decide)).symm, by decide⟩ | exact ⟨r.toNat, congrArg P.int (by omega), by omega⟩
  refine hK _ (seq1 fun K hK => ?_)
  simp [sizeLine]
  refine ⟨by omega, ?_⟩
  refine lc_rng (fun i acc ρ => ∃ j, Jar j ∧ acc.length = i ∧ (∀ x ∈ acc, ∃ i, x = .int i) ∧ ρ = [some j, some (.p (.int m)), none, none, none, none, none, none, none, none, none]) ?_ ?_ ⟨j, hj, rfl, by simp, rfl⟩
  · rintro row ρ ⟨j, hj, hl, hi, rfl⟩
    simp
    refine hK _ (seq1 fun K hK => ?_)
    simp [sizeLine]
    have hi1 : okL row = true := okL_ints row hi
    have hg : Good 60 1 (.tup row) := good_tup.mpr ⟨by omega, fun x hx => by
      obtain ⟨i, rfl⟩ := hi x hx
      exact ⟨rfl, rfl, Nat.zero_le _⟩⟩
    have hL : lenL 1000 row = true := lenL_iff.mpr fun x hx => by
      obtain ⟨i, rfl⟩ := hi x hx
      rfl
    have hLc : ∀ {a b}, lenL 1000 (cutP row a b) = true := fun {a b} => lenL_iff.mpr fun x hx => lenL_iff.mp hL x (cut_mem hx)
    have hcl : ∀ {a b}, (cutP row a b).length ≤ 60 := fun {a b} => Nat.le_trans cut_len (by omega)
    have hcl2 : ∀ {a b}, (cutP row a b).length ≤ 1000 := fun {a b} => Nat.le_trans hcl (by decide)
    refine ⟨by omega, hj, 60, by omega, 1, by omega, hg, fun y hy j hj => hK _ (seq1 fun K hK => ?_)⟩
    have hyL := lenP_mono (k := 1000) (by decide) hy.le
    have tail : ∀ (j : D) (xs : List P) (v3 v5 v6 v7 : Option D), Jar j → lenL 1000 xs = true → K [some j, some (D.p (P.int ↑m)), some (D.p (P.tup row)), v3, some (.lst xs), v5, v6, v7, none, none, none] := by
      intro j xs v3 v5 v6 v7 hj hxs
      refine hK _ (seq1 fun K hK => ?_)
      simp
      refine for_ind (fun its ρ => ∃ v8 v9 v10 : Option D, lenL 1000 its = true ∧ ρ = [some j, some (D.p (P.int ↑m)), some (D.p (P.tup row)), v3, some (.lst xs), v5, v6, v7, v8, v9, v10]) ?_ ?_ _ _ ⟨_, _, _, hxs, rfl⟩
      · rintro ρ ⟨v8, v9, v10, _, rfl⟩
        refine hK _ ?_
        simp
        exact h j hj
      · rintro x its ρ k ⟨v8, v9, v10, hi, rfl⟩ ih
        simp [lenL] at hi
        simp only [tgS_name]
        refine ⟨by simp, by simp, ?_⟩
        refine seq1 fun K hK => ?_
        simp
        refine ⟨small_of hi.1, hK _ (seq1 fun K hK => ?_)⟩
        simp
        have hm' : 0 ≤ (m : Int) ∧ (m : Int) ≤ 60 := by omega
        refine madeRow_heard (s := "BadSum") (R := fun y => K [some j, some (D.p (P.int ↑m)), some (D.p (P.tup row)), v3, some (.lst xs), v5, v6, v7, some (.p x), some (.p (wrongRow x m)), some (.p y)]) hm' rfl (hK _ (seq1 fun K hK => ?_))
        obtain ⟨t1, t2⟩ := toldRow_ok (s := "BadSum") (x := x) hm'.2 (by decide +kernel)
        have same1 : ∀ {s : Str} {K : Env' → Prop} {ρ : Env'}, okP (toldRow s x m) = true → szP (toldRow s x m) ≤ 1000 → K ρ → if isNon (wrongRow x m) = true then
            (toldRow s x m = P.tup [P.str (Str.ofString "told"), x] ∧ okP (toldRow s x m) = true ∧ szP (toldRow s x m) ≤ 100000) ∧ K ρ
          else (toldRow s x m = P.tup [P.str s, wrongRow x m] ∧ okP (toldRow s x m) = true ∧ szP (toldRow s x m) ≤ 100000) ∧ K ρ := by
          intro s K ρ t1 t2 hk
          split
          · rename_i q
            exact ⟨⟨by simp [toldRow, q], t1, by omega⟩, hk⟩
          · rename_i q
            exact ⟨⟨by simp [toldRow, q], t1, by omega⟩, hk⟩
        simp [sizeLine]
        refine same1 t1 t2 (hK _ (seq1 fun K hK => ?_))
        simp
        refine madeRow_heard (s := "BadCosts") (R := fun y => K [some j, some (D.p (P.int ↑m)), some (D.p (P.tup row)), v3, some (.lst xs), v5, v6, v7, some (.p x), some (.p (wrongRow x m)), some (.p y)]) hm' rfl (hK _ (seq1 fun K hK => ?_))
        obtain ⟨t3, t4⟩ := toldRow_ok (s := "BadCosts") (x := x) hm'.2 (by decide +kernel)
        simp [sizeLine]
        refine same1 t3 t4 (hK _ ?_)
        simp [holds]
        exact ih _ ⟨_, _, _, hi.2, rfl⟩
    have th : lenL 1000 [P.tup row, P.tup (row ++ [P.int 0]), P.tup (cutP row (some 1) none), P.lst row, P.non, P.tup [P.tup row], P.int 0, P.str (Str.ofString "sum"), y] = true := by
      have q1 : row.length ≤ 1000 := by omega
      have q2 : row.length + 1 ≤ 1000 := by omega
      simp [lenL, lenP, hL, hLc, hcl2, hyL, q1, q2, lenL_app]
    simp [sizeLine]
    split
    · rename_i hm0
      refine ⟨hj, ⟨by omega, log2_lt (by omega)⟩, fun r r1 r2 j hj => ?_⟩
      obtain ⟨r, rfl⟩ : ∃ k : Nat, r = k := ⟨r.toNat, by omega⟩
      have c60 : CPow 10 60 := cpow (by decide) (by decide) (by decide)
      refine ⟨c60, ?_⟩
      have od : lenL 1000 [P.non, P.bl true, P.str (Str.ofString "0"), P.tup [P.int 0], P.lst [P.int 0], P.int 1000000000000000000000000000000000000000000000000000000000000, P.int (-1000000000000000000000000000000000000000000000000000000000000)] = true := by simp [lenL, lenP]
      have ol : [P.non, P.bl true, P.str (Str.ofString "0"), P.tup [P.int 0], P.lst [P.int 0], P.int 1000000000000000000000000000000000000000000000000000000000000, P.int (-1000000000000000000000000000000000000000000000000000000000000)].length = 7 := rfl
      generalize [P.non, P.bl true, P.str (Str.ofString "0"), P.tup [P.int 0], P.lst [P.int 0], P.int 1000000000000000000000000000000000000000000000000000000000000, P.int (-1000000000000000000000000000000000000000000000000000000000000)] = odds at *
      have tl : [P.tup row, P.tup (row ++ [P.int 0]), P.tup (cutP row (some 1) none), P.lst row, P.non, P.tup [P.tup row], P.int 0, P.str (Str.ofString "sum"), y].length = 9 := rfl
      generalize [P.tup row, P.tup (row ++ [P.int 0]), P.tup (cutP row (some 1) none), P.lst row, P.non, P.tup [P.tup row], P.int 0, P.str (Str.ofString "sum"), y] = things at *
      refine lc_ind (fun its acc ρ => lenL 1000 its = true ∧ lenL 1000 acc = true ∧ acc.length + its.length = 7 ∧ ρ = [some j, some (D.p (P.int ↑m)), some (D.p (P.tup row)), none, some (D.lst things), some (D.p (P.int ↑r)), some (D.lst odds), none, none, none, none]) ?_ ?_ _ _ _ ⟨od, rfl, by simpa using ol, rfl⟩
      · rintro acc ρ ⟨_, ha, hl2, rfl⟩
        simp at hl2
        simp [mthA, mthS, sizeLine]
        refine ⟨by omega, ?_⟩
        have c1 := hcl (a := some 1) (b := some (-1))
        have c2 := hLc (a := some 1) (b := some (-1))
        split
        · refine ⟨by omega, by omega, by omega, tail _ _ _ _ _ _ hj ?_⟩
          simp [lenL_app, lenL, lenP, th, ha, c2]
          omega
        · refine ⟨by omega, tail _ _ _ _ _ _ hj ?_⟩
          simp [lenL_app, lenL, lenP, th, ha]
      · rintro x its acc ρ k ⟨hi, ha, hl2, rfl⟩ ih
        simp [lenL] at hi
        simp at hl2
        simp [sizeLine, cut_to, cut_from1]
        have t1 : lenL 1000 (row.take r) = true := lenL_iff.mpr fun x hx => lenL_iff.mp hL x (List.mem_of_mem_take hx)
        have t2 : lenL 1000 (row.drop (r + 1)) = true := lenL_iff.mpr fun x hx => lenL_iff.mp hL x (List.mem_of_mem_drop hx)
        refine ⟨by omega, by omega, by omega, by simp [holds], ih _ _ ⟨hi.2, ?_, by simp; omega, rfl⟩⟩
        simp [lenL_app, lenL, lenP, ha, t1, t2, hi.1]
        omega
    · exact tail _ _ _ _ _ _ hj th
  · rintro i acc ρ k hi ⟨j, hj, hl, hx, rfl⟩ ih
    simp [sizeLine]
    refine ⟨hj, fun v _ j hj => ⟨by omega, ih _ _ ⟨j, hj, by simp [hl], fun x hx' => ?_, rfl⟩⟩⟩
    rcases List.mem_append.mp hx' with q | q
    · exact hx x q
    · simp at q; exact ⟨v, q⟩
end PL
set_option linter.all false
set_option maxRecDepth 100000
set_option maxHeartbeats 1000000
namespace PL
open PySem PySem.Spec PyProof.Rows L2 LamX
theorem madeRow_many {c : Nat} {m x : P} {Q : P → Prop} {X : Nat → P → Prop} (h : whole m 0 60 = false) (hx : X 52 m) : madeRow c m x Q X := by
  unfold madeRow
  split
  · rw [h]; simpa using hx
  · exact hx
theorem k_law_f1_first_right : Keeps [g_one, g_same, g_made_sum, g_made_costs] 4 B_law_f1_first_right g_true := keepsJ0 fun j Q X hj h => by
  refine seq1 fun K hK => ?_
  simp [sizeLine]
  refine ⟨hj, fun thing _ j hj => ?_⟩
  refine hK _ (seq1 fun K hK => ?_)
  have c20 : CPow 10 20 := cpow (by decide) (by decide) (by decide)
  simp [sizeLine]
  refine ⟨c20, ?_⟩
  have s1 : okP (.str "BadMany") = true := by decide +kernel
  refine for_ind (fun its ρ => ∃ v2 v3 : Option D, (∀ x ∈ its, whole x 0 60 = false ∧ okP x = true ∧ szP x ≤ 10) ∧ ρ = [some j, some (.p thing), v2, v3]) ?_ ?_ _ _ ⟨_, _, ?_, rfl⟩
  · rintro ρ ⟨v2, v3, _, rfl⟩
    refine hK _ ?_
    simp
    exact h j hj
  · rintro x its ρ k ⟨v2, v3, hi, rfl⟩ ih
    obtain ⟨hw, ho, hz⟩ := hi x (by simp)
    simp only [tgS_name]
    refine ⟨by simp, by simp, ?_⟩
    refine seq1 fun K hK => ?_
    simp [sizeLine]
    refine madeRow_many hw ⟨"BadMany", rfl, ?_⟩
    refine hK _ (seq1 fun K hK => ?_)
    simp [sizeLine, mthA, mthS]
    refine madeRow_many hw ⟨"BadMany", rfl, ?_⟩
    refine hK _ (seq1 fun K hK => ?_)
    simp [sizeLine]
    simp [okP, okL, szP, szL] at s1 ⊢
    refine ⟨⟨⟨s1, ho⟩, by omega⟩, hK _ ?_⟩
    simp
    exact ih _ ⟨_, _, fun y hy => hi y (List.mem_cons_of_mem _ hy), rfl⟩
  · intro x hx
    simp only [List.mem_cons, List.not_mem_nil, or_false] at hx
    rcases hx with rfl | rfl | rfl | rfl | rfl | rfl | rfl | rfl <;> exact ⟨by decide +kernel, by decide +kernel, by decide +kernel⟩
@[simp] theorem bltS_tupleR {n : Int} {Q : D → Prop} : bltS .tupleR [.int n] Q = ((-(2 ^ 62) ≤ n ∧ n < 2 ^ 20) ∧ Q (.p (.tup (iota 0 n.toNat)))) := rfl
def bigL : List (Nat × Nat) := (List.range 60).map fun k => (k * 7 % 23, 23)
theorem big_ok : WebOk 24 bigL (List.range 24) := ⟨by decide, by decide, by decide, by decide, by decide⟩
theorem toldWeb_ok' {n : Nat} {ls : List (Nat × Nat)} {ws : List Nat} (h : WebOk n ls ws) : toldWeb (webP n ls ws) = .tup [.str "told", webP n ls ws] := by
  unfold toldWeb
  rw [webWhat_ok h]
  rfl
theorem k_law_f1_bounds_right : Keeps [g_same, g_made_web, g_is_web] 6 B_law_f1_bounds_right g_true := keepsJ0 fun j Q X hj h => by
  refine seq1 fun K hK => ?_
  simp [sizeLine]
  refine lc_rng (fun i acc ρ => acc = (((List.range i).map fun k => (k * 7 % 23, 23)).map lnkP) ∧ ρ = [some j, none, none, none, none, none]) ?_ ?_ ⟨rfl, rfl⟩
  · rintro acc ρ ⟨rfl, rfl⟩
    have e0 : (((List.range 60).map fun k => (k * 7 % 23, 23)).map lnkP) = bigL.map lnkP := rfl
    rw [e0]
    have hbl : bigL.length = 60 := rfl
    have hbL : (bigL.map lnkP).length = 60 := rfl
    have eg : P.tup [.int 24, .tup (bigL.map lnkP), .tup (iota 0 24)] = webP 24 bigL (List.range 24) := by
      rw [iota_map]; rfl
    have tg := toldWeb_ok' big_ok
    rw [← eg] at tg
    have t2 : toldWeb (.tup [.int 24, .tup (bigL.map lnkP ++ cutP (bigL.map lnkP) none (some 1)), .tup []]) = .tup [.str "TooMany", .int 61] := rfl
    have t3 : toldWeb (.tup [.int 24, .tup (List.replicate 61 P.non), .non]) = .tup [.str "TooMany", .int 61] := rfl
    have t4 : isNon (webWhat (.tup [.int 24, .tup (List.replicate 61 P.non), .tup []])) = false := rfl
    have t5 : toldWeb (.tup [.int 0, .tup [], .tup []]) = .tup [.str "told", .tup [.int 0, .tup [], .tup []]] := rfl
    have t6 : toldWeb (.tup [.int 2, .tup (List.replicate 60 (P.tup [.int 0, .int 1])), .tup [.int 0, .int 1]]) = .tup [.str "told", .tup [.int 2, .tup (List.replicate 60 (P.tup [.int 0, .int 1])), .tup [.int 0, .int 1]]] := rfl
    have t7 : toldWeb (.tup [.int 0, .tup [], .tup [.int 0]]) = .tup [.str "BadWeb", .tup [.int 2, .int 0]] := rfl
    generalize hB : bigL.map lnkP = rows at *
    simp
    refine hK _ (seq1 fun K hK => ?_)
    simp [sizeLine]
    generalize hGr : P.tup [.int 24, .tup rows, .tup (iota 0 24)] = great at *
    refine hK _ (seq1 fun K hK => ?_)
    simp [sizeLine]
    refine madeWeb_heard (R := fun y => K [some j, some (D.p (P.tup rows)), none, some (D.p great), some (D.lst [y]), none]) rfl rfl (hK _ (seq1 fun K hK => ?_))
    rw [tg]
    simp [sizeLine, mthA, mthS]
    have hcl := cut_len (xs := rows) (a := none) (b := some 1)
    refine ⟨by omega, ?_⟩
    refine madeWeb_heard (R := fun y => K [some j, some (D.p (P.tup rows)), none, some (D.p great), some (D.lst [.tup [.str "told", great], y]), none]) rfl rfl (hK _ (seq1 fun K hK => ?_))
    rw [t2]
    simp [sizeLine, mthA, mthS, -List.reduceReplicate]
    refine madeWeb_heard (R := fun y => K [some j, some (D.p (P.tup rows)), none, some (D.p great), some (D.lst [P.tup [P.str (Str.ofString "told"), great], P.tup [P.str (Str.ofString "TooMany"), P.int 61], y]), none]) rfl rfl (hK _ (seq1 fun K hK => ?_))
    rw [t3]
    simp [sizeLine, mthA, mthS, -List.reduceReplicate]
    rw [t4]
    refine hK _ (seq1 fun K hK => ?_)
    simp [sizeLine, mthA, mthS, -List.reduceReplicate]
    refine madeWeb_heard (R := fun y => K [some j, some (D.p (P.tup rows)), none, some (D.p great), some (D.lst [P.tup [P.str (Str.ofString "told"), great], P.tup [P.str (Str.ofString "TooMany"), P.int 61], P.tup [P.str (Str.ofString "TooMany"), P.int 61], P.tup [P.str (Str.ofString "told"), P.bl false], y]), none]) rfl rfl (hK _ (seq1 fun K hK => ?_))
    rw [t5]
    simp [sizeLine, mthA, mthS, -List.reduceReplicate]
    refine madeWeb_heard (R := fun y => K [some j, some (D.p (P.tup rows)), none, some (D.p great), some (D.lst [P.tup [P.str (Str.ofString "told"), great], P.tup [P.str (Str.ofString "TooMany"), P.int 61], P.tup [P.str (Str.ofString "TooMany"), P.int 61], P.tup [P.str (Str.ofString "told"), P.bl false], P.tup [P.str (Str.ofString "told"), P.tup [.int 0, .tup [], .tup []]], y]), none]) rfl rfl (hK _ (seq1 fun K hK => ?_))
    rw [t6]
    simp [sizeLine, mthA, mthS, -List.reduceReplicate]
    refine madeWeb_heard (R := fun y => K [some j, some (D.p (P.tup rows)), none, some (D.p great), some (D.lst [P.tup [P.str (Str.ofString "told"), great], P.tup [P.str (Str.ofString "TooMany"), P.int 61], P.tup [P.str (Str.ofString "TooMany"), P.int 61], P.tup [P.str (Str.ofString "told"), P.bl false], P.tup [P.str (Str.ofString "told"), P.tup [.int 0, .tup [], .tup []]], P.tup [P.str (Str.ofString "told"), P.tup [.int 2, .tup (List.replicate 60 (P.tup [.int 0, .int 1])), .tup [.int 0, .int 1]]], y]), none]) rfl rfl (hK _ (seq1 fun K hK => ?_))
    rw [t7]
    simp [sizeLine, mthA, mthS, -List.reduceReplicate]
    refine hK _ (seq1 fun K hK => ?_)
    simp [sizeLine, mthA, mthS, -List.reduceReplicate]
    refine hK _ ?_
    have g1 : okP great = true ∧ szP great ≤ 300 := by
      rw [eg]
      exact web_sz big_ok
    have s1 : okP (.str "told") = true := by decide +kernel
    have s2 : okP (.str "TooMany") = true := by decide +kernel
    have s3 : okP (.str "BadWeb") = true := by decide +kernel
    have s4 : okL (List.replicate 60 (P.tup [P.int 0, P.int 1])) = true := by decide +kernel
    have s5 : szL (List.replicate 60 (P.tup [P.int 0, P.int 1])) = 180 := by decide +kernel
    simp [-List.reduceReplicate]
    refine ⟨⟨?_, ?_⟩, h j hj⟩
    · simp [okP, okL, -List.reduceReplicate] at s1 s2 s3 s4 g1 ⊢
      exact ⟨⟨s1, g1.1⟩, s2, s1, ⟨s1, s4⟩, s3⟩
    · simp [szP, szL, s5, -List.reduceReplicate]
      omega
  · rintro i acc ρ k hi ⟨rfl, rfl⟩ ih
    simp [sizeLine]
    refine ⟨cmulR (by decide) (by decide), by omega, ih _ _ ⟨?_, rfl⟩⟩
    rw [List.range_succ, List.map_append, List.map_append]
    simp [lnkP]
def g_law : Fn := pureF 1 fun xs Q X => match xs with
  | [t] => Script t ∧ Q (.bl true)
  | _ => False
@[simp ↓] theorem pool_n : g_pool.n = 1 := rfl
@[simp ↓] theorem pool_lent : g_pool.lent = [] := rfl
@[simp ↓] theorem pool_run {x : P} {Q : D → List D → Prop} {X : Nat → P → Prop} : g_pool.run [.p x] Q X = (Script x ∧ ∀ d, Jar d → Q d []) := by
  simp [g_pool, ownF_run]
theorem k_law : Keeps [g_pool, g_true, g_true, g_true, g_true] 3 B_law g_law := keepsF1 fun t Q X h => by
  obtain ⟨hs, h⟩ := h
  refine seq1 fun K hK => ?_
  simp
  refine ⟨hs, fun j hj => hK _ (seq1 fun K hK => ?_)⟩
  simp
  refine for_rng (fun _ ρ => ∃ (j : D) (v : Option D), Jar j ∧ ρ = [some (.p t), some j, v]) ?_ ?_ ⟨j, _, hj, rfl⟩
  · rintro ρ ⟨j, v, hj, rfl⟩
    refine hK _ ?_
    simp
    exact ⟨hj, fun j hj => ⟨hj, fun j hj => h⟩⟩
  · rintro i ρ k hi ⟨j, v, hj, rfl⟩ ih
    simp
    exact ⟨hj, fun j hj => ⟨hj, fun j hj => ih _ ⟨j, _, hj, rfl⟩⟩⟩
end PL
namespace PL
theorem bent_none {ds : List D} {Q : D → List D → Prop} {X : Nat → P → Prop} : (g_bent 0).run ds Q X → False := by
  rintro ⟨j, r, xs, _, _, hl, _, h⟩
  rcases xs with _ | ⟨x, _ | ⟨y, l⟩⟩
  · cases hl
  · obtain ⟨m, e, _, he, _⟩ := h
    omega
  · cases hl
theorem ints_script {ns : List Int} (h : ns.length ≤ 63) : Script (.rdl (ns.map .int)) :=
  ⟨fun x hx => by obtain ⟨i, _, rfl⟩ := List.mem_map.mp hx; exact ⟨i, rfl⟩, by simp; omega⟩
end PL
set_option Elab.async false
set_option linter.all false
set_option maxRecDepth 100000
set_option maxHeartbeats 8000000
namespace PL
open PySem PySem.Spec PyProof.Rows L2 LamX
def topS (i : Nat) : Stmt := PySem.Challenge.pw_webofrooms_k02_books_bounds_and_prices_b.main.body.getD i (.Pass ⟨0, 0, 0, 0⟩)
def N_is_number : List Str := [("thing" : Str)]
def S_is_number : SV := ⟨N_is_number, defScope (topS 10), [], [], [], true, []⟩
theorem tr_is_number : mapS (trS 60 S_is_number) (defBody (topS 10)) = some B_is_number := by rfl
def N_whole : List Str := [("thing" : Str), ("least" : Str), ("most" : Str)]
def S_whole : SV := ⟨N_whole, defScope (topS 11), [(("is_number" : Str), 0)], [], [], true, []⟩
theorem tr_whole : mapS (trS 60 S_whole) (defBody (topS 11)) = some B_whole := by rfl
def N_asked_many : List Str := [("thing" : Str), ("least" : Str), ("most" : Str)]
def S_asked_many : SV := ⟨N_asked_many, defScope (topS 12), [(("whole" : Str), 0)], [], [(("BadMany" : Str), 52)], true, []⟩
theorem tr_asked_many : mapS (trS 60 S_asked_many) (defBody (topS 12)) = some B_asked_many := by rfl
def N_wrong_rising : List Str := [("thing" : Str), ("many" : Str), ("least" : Str), ("at" : Str), ("one" : Str)]
def S_wrong_rising : SV := ⟨N_wrong_rising, defScope (topS 13), [(("whole" : Str), 0)], [], [], true, []⟩
theorem tr_wrong_rising : mapS (trS 60 S_wrong_rising) (defBody (topS 13)) = some B_wrong_rising := by rfl
def N_made_prices : List Str := [("n" : Str), ("thing" : Str), ("at" : Str), ("price" : Str)]
def S_made_prices : SV := ⟨N_made_prices, defScope (topS 14), [(("asked_many" : Str), 0), (("is_number" : Str), 1)], [(("MOST_LINKS" : Str), 60)], [(("BadPrices" : Str), 21)], true, []⟩
theorem tr_made_prices : mapS (trS 60 S_made_prices) (defBody (topS 14)) = some B_made_prices := by rfl
def N_is_pair : List Str := [("n" : Str), ("thing" : Str)]
def S_is_pair : SV := ⟨N_is_pair, defScope (topS 17), [(("whole" : Str), 0)], [], [], true, []⟩
theorem tr_is_pair : mapS (trS 60 S_is_pair) (defBody (topS 17)) = some B_is_pair := by rfl
def N_web_what : List Str := [("thing" : Str), ("n" : Str), ("links" : Str), ("watchers" : Str), ("i" : Str), ("link" : Str), ("wrong" : Str)]
def S_web_what : SV := ⟨N_web_what, defScope (topS 18), [(("wrong_rising" : Str), 0), (("whole" : Str), 1), (("is_pair" : Str), 2)], [(("MOST_LINKS" : Str), 60), (("MOST_PLACES" : Str), 24)], [], true, []⟩
theorem tr_web_what : mapS (trS 60 S_web_what) (defBody (topS 18)) = some B_web_what := by rfl
def N_made_web : List Str := [("thing" : Str), ("wrong" : Str)]
def S_made_web : SV := ⟨N_made_web, defScope (topS 19), [(("web_what" : Str), 0)], [], [(("BadWeb" : Str), 1), (("TooMany" : Str), 53)], true, []⟩
theorem tr_made_web : mapS (trS 60 S_made_web) (defBody (topS 19)) = some B_made_web := by rfl
def N_places_from : List Str := [("links" : Str), ("way" : Str), ("start" : Str), ("found" : Str), ("i" : Str), ("a" : Str), ("b" : Str)]
def S_places_from : SV := ⟨N_places_from, defScope (topS 21), [], [], [], true, []⟩
theorem tr_places_from : mapS (trS 60 S_places_from) (defBody (topS 21)) = some B_places_from := by rfl
def N_is_led : List Str := [("watchers" : Str), ("places" : Str), ("p" : Str)]
def S_is_led : SV := ⟨N_is_led, defScope (topS 22), [], [], [], true, []⟩
theorem tr_is_led : mapS (trS 60 S_is_led) (defBody (topS 22)) = some B_is_led := by rfl
def N_places_of : List Str := [("web" : Str), ("thing" : Str), ("n" : Str), ("links" : Str), ("watchers" : Str), ("i" : Str), ("start" : Str), ("places" : Str)]
def S_places_of : SV := ⟨N_places_of, defScope (topS 23), [(("places_from" : Str), 0), (("is_led" : Str), 1), (("whole" : Str), 2)], [], [], true, []⟩
theorem tr_places_of : mapS (trS 60 S_places_of) (defBody (topS 23)) = some B_places_of := by rfl
def N_is_way : List Str := [("web" : Str), ("thing" : Str)]
def S_is_way : SV := ⟨N_is_way, defScope (topS 24), [(("places_of" : Str), 0), (("made_web" : Str), 1)], [], [], true, []⟩
theorem tr_is_way : mapS (trS 60 S_is_way) (defBody (topS 24)) = some B_is_way := by rfl
def N_is_book_row : List Str := [("web" : Str), ("thing" : Str)]
def S_is_book_row : SV := ⟨N_is_book_row, defScope (topS 27), [(("whole" : Str), 0), (("is_number" : Str), 1), (("places_of" : Str), 2)], [], [], true, []⟩
theorem tr_is_book_row : mapS (trS 60 S_is_book_row) (defBody (topS 27)) = some B_is_book_row := by rfl
def N_asked_book : List Str := [("web" : Str), ("book" : Str), ("at" : Str), ("row" : Str)]
def S_asked_book : SV := ⟨N_asked_book, defScope (topS 28), [(("is_book_row" : Str), 0)], [(("MOST_ROWS" : Str), 60)], [(("BadBook" : Str), 17), (("TooMany" : Str), 53)], true, []⟩
theorem tr_asked_book : mapS (trS 60 S_asked_book) (defBody (topS 28)) = some B_asked_book := by rfl
def N_made_book : List Str := [("web" : Str), ("thing" : Str)]
def S_made_book : SV := ⟨N_made_book, defScope (topS 29), [(("asked_book" : Str), 0), (("made_web" : Str), 1)], [], [], true, []⟩
theorem tr_made_book : mapS (trS 60 S_made_book) (defBody (topS 29)) = some B_made_book := by rfl
def N_is_bound : List Str := [("thing" : Str), ("one" : Str)]
def S_is_bound : SV := ⟨N_is_bound, defScope (topS 31), [(("is_number" : Str), 0)], [], [], true, []⟩
theorem tr_is_bound : mapS (trS 60 S_is_bound) (defBody (topS 31)) = some B_is_bound := by rfl
def N_asked_bounds : List Str := [("m" : Str), ("bounds" : Str), ("at" : Str), ("bound" : Str)]
def S_asked_bounds : SV := ⟨N_asked_bounds, defScope (topS 32), [(("is_bound" : Str), 0)], [], [(("BadBounds" : Str), 22)], true, []⟩
theorem tr_asked_bounds : mapS (trS 60 S_asked_bounds) (defBody (topS 32)) = some B_asked_bounds := by rfl
def N_made_bounds : List Str := [("m" : Str), ("thing" : Str)]
def S_made_bounds : SV := ⟨N_made_bounds, defScope (topS 33), [(("asked_bounds" : Str), 0), (("asked_many" : Str), 1)], [(("MOST_LINKS" : Str), 60)], [], true, []⟩
theorem tr_made_bounds : mapS (trS 60 S_made_bounds) (defBody (topS 33)) = some B_made_bounds := by rfl
def N_law_pool : List Str := [("script" : Str), ("digits" : Str), ("stirred" : Str), ("at" : Str), ("cell" : Str)]
def S_law_pool : SV := ⟨N_law_pool, defScope (topS 35), [], [], [], true, []⟩
theorem tr_law_pool : mapS (trS 60 S_law_pool) (defBody (topS 35)) = some B_law_pool := by rfl
def N_law_take : List Str := [("jar" : Str), ("many" : Str), ("found" : Str)]
def S_law_take : SV := ⟨N_law_take, defScope (topS 36), [], [], [], true, []⟩
theorem tr_law_take : mapS (trS 60 S_law_take) (defBody (topS 36)) = some B_law_take := by rfl
def N_law_one : List Str := [("jar" : Str), ("things" : Str)]
def S_law_one : SV := ⟨N_law_one, defScope (topS 37), [(("_law_take" : Str), 0)], [], [], true, []⟩
theorem tr_law_one : mapS (trS 60 S_law_one) (defBody (topS 37)) = some B_law_one := by rfl
def N_law_mixed : List Str := [("jar" : Str), ("things" : Str), ("left_now" : Str), ("found" : Str), ("go" : Str)]
def S_law_mixed : SV := ⟨N_law_mixed, defScope (topS 38), [(("_law_take" : Str), 0)], [], [], true, []⟩
theorem tr_law_mixed : mapS (trS 60 S_law_mixed) (defBody (topS 38)) = some B_law_mixed := by rfl
def N_law_vp_is_whole : List Str := [("thing" : Str)]
def S_law_vp_is_whole : SV := ⟨N_law_vp_is_whole, defScope (topS 39), [], [], [], true, []⟩
theorem tr_law_vp_is_whole : mapS (trS 60 S_law_vp_is_whole) (defBody (topS 39)) = some B_law_vp_is_whole := by rfl
def N_law_vp_is_in : List Str := [("thing" : Str), ("low" : Str), ("high" : Str)]
def S_law_vp_is_in : SV := ⟨N_law_vp_is_in, defScope (topS 40), [(("_law_vp_is_whole" : Str), 0)], [], [], true, []⟩
theorem tr_law_vp_is_in : mapS (trS 60 S_law_vp_is_in) (defBody (topS 40)) = some B_law_vp_is_in := by rfl
def N_law_vp_same : List Str := [("heard" : Str), ("owed" : Str), ("todo" : Str), ("one" : Str), ("due" : Str), ("is_so" : Str), ("at" : Str)]
def S_law_vp_same : SV := ⟨N_law_vp_same, defScope (topS 41), [(("_law_vp_is_whole" : Str), 0)], [], [], true, []⟩
theorem tr_law_vp_same : mapS (trS 60 S_law_vp_same) (defBody (topS 41)) = some B_law_vp_same := by rfl
def N_law_vp_web_fault : List Str := [("thing" : Str), ("n" : Str), ("rows" : Str), ("watchers_now" : Str), ("wrong" : Str), ("at" : Str)]
def S_law_vp_web_fault : SV := ⟨N_law_vp_web_fault, defScope (topS 42), [(("_law_vp_rising_fault" : Str), 0), (("_law_vp_is_in" : Str), 1), (("_law_vp_is_link" : Str), 2)], [], [], true, []⟩
theorem tr_law_vp_web_fault : mapS (trS 60 S_law_vp_web_fault) (defBody (topS 42)) = some B_law_vp_web_fault := by rfl
def N_law_vp_is_link : List Str := [("n" : Str), ("thing" : Str)]
def S_law_vp_is_link : SV := ⟨N_law_vp_is_link, defScope (topS 43), [(("_law_vp_is_in" : Str), 0)], [], [], true, []⟩
theorem tr_law_vp_is_link : mapS (trS 60 S_law_vp_is_link) (defBody (topS 43)) = some B_law_vp_is_link := by rfl
def N_law_vp_rising_fault : List Str := [("many" : Str), ("thing" : Str), ("at" : Str)]
def S_law_vp_rising_fault : SV := ⟨N_law_vp_rising_fault, defScope (topS 44), [(("_law_vp_is_in" : Str), 0)], [], [], true, []⟩
theorem tr_law_vp_rising_fault : mapS (trS 60 S_law_vp_rising_fault) (defBody (topS 44)) = some B_law_vp_rising_fault := by rfl
def N_law_vp_other : List Str := [("link" : Str), ("place" : Str)]
def S_law_vp_other : SV := ⟨N_law_vp_other, defScope (topS 45), [], [], [], true, []⟩
theorem tr_law_vp_other : mapS (trS 60 S_law_vp_other) (defBody (topS 45)) = some B_law_vp_other := by rfl
def N_law_vp_is_way : List Str := [("web" : Str), ("thing" : Str), ("n" : Str), ("rows" : Str), ("watchers_now" : Str), ("i" : Str), ("first" : Str), ("places" : Str), ("p" : Str)]
def S_law_vp_is_way : SV := ⟨N_law_vp_is_way, defScope (topS 46), [(("_law_vp_walked" : Str), 0), (("_law_vp_is_in" : Str), 1)], [], [], true, []⟩
theorem tr_law_vp_is_way : mapS (trS 60 S_law_vp_is_way) (defBody (topS 46)) = some B_law_vp_is_way := by rfl
def N_law_vp_walked : List Str := [("rows" : Str), ("thing" : Str), ("first" : Str), ("places" : Str), ("i" : Str)]
def S_law_vp_walked : SV := ⟨N_law_vp_walked, defScope (topS 47), [(("_law_vp_other" : Str), 0)], [], [], true, []⟩
theorem tr_law_vp_walked : mapS (trS 60 S_law_vp_walked) (defBody (topS 47)) = some B_law_vp_walked := by rfl
def N_law_vp_number : List Str := [("jar" : Str), ("found" : Str)]
def S_law_vp_number : SV := ⟨N_law_vp_number, defScope (topS 48), [(("_law_one" : Str), 0), (("_law_take" : Str), 1)], [], [], true, []⟩
theorem tr_law_vp_number : mapS (trS 60 S_law_vp_number) (defBody (topS 48)) = some B_law_vp_number := by rfl
def N_law_vp_web : List Str := [("jar" : Str), ("n" : Str), ("rows" : Str), ("names" : Str), ("long_now" : Str), ("at" : Str), ("most" : Str), ("go" : Str), ("a" : Str), ("b" : Str), ("link" : Str), ("links_now" : Str), ("many" : Str)]
def S_law_vp_web : SV := ⟨N_law_vp_web, defScope (topS 49), [(("_law_one" : Str), 0), (("_law_mixed" : Str), 1), (("_law_take" : Str), 2)], [], [], true, []⟩
theorem tr_law_vp_web : mapS (trS 60 S_law_vp_web) (defBody (topS 49)) = some B_law_vp_web := by rfl
def N_law_vp_bent : List Str := [("jar" : Str), ("thing" : Str), ("odd" : Str), ("at" : Str), ("form" : Str), ("some" : Str)]
def S_law_vp_bent : SV := ⟨N_law_vp_bent, defScope (topS 50), [(("_law_one" : Str), 0), (("_law_take" : Str), 1), (("_law_vp_bent" : Str), 2)], [], [], true, []⟩
theorem tr_law_vp_bent : mapS (trS 60 S_law_vp_bent) (defBody (topS 50)) = some B_law_vp_bent := by rfl
def N_law_f2_roads : List Str := [("jar" : Str), ("web" : Str), ("n" : Str), ("rows" : Str), ("eyes" : Str), ("found" : Str), ("first" : Str), ("line" : Str), ("places" : Str), ("go" : Str), ("near" : Str), ("i" : Str)]
def S_law_f2_roads : SV := ⟨N_law_f2_roads, defScope (topS 52), [(("_law_mixed" : Str), 0), (("_law_one" : Str), 1), (("_law_vp_other" : Str), 2)], [], [], true, []⟩
theorem tr_law_f2_roads : mapS (trS 60 S_law_f2_roads) (defBody (topS 52)) = some B_law_f2_roads := by rfl
def N_law_f2_things : List Str := [("jar" : Str), ("web" : Str), ("m" : Str), ("some" : Str), ("found" : Str), ("road" : Str), ("again" : Str), ("go" : Str)]
def S_law_f2_things : SV := ⟨N_law_f2_things, defScope (topS 53), [(("_law_f2_roads" : Str), 0), (("_law_vp_bent" : Str), 1), (("_law_take" : Str), 2)], [], [], true, []⟩
theorem tr_law_f2_things : mapS (trS 60 S_law_f2_things) (defBody (topS 53)) = some B_law_f2_things := by rfl
def N_law_f2_ways_right : List Str := [("jar" : Str), ("web" : Str), ("things" : Str), ("thing" : Str)]
def S_law_f2_ways_right : SV := ⟨N_law_f2_ways_right, defScope (topS 54), [(("_law_vp_same" : Str), 0), (("_law_vp_is_way" : Str), 1), (("is_way" : Str), 2)], [], [], true, [(("_law_f2_heard" : Str), [(0, ("" : Str)), (1, ("BadWeb" : Str)), (17, ("BadBook" : Str)), (21, ("BadPrices" : Str)), (22, ("BadBounds" : Str)), (52, ("BadMany" : Str)), (53, ("TooMany" : Str))])]⟩
theorem tr_law_f2_ways_right : mapS (trS 60 S_law_f2_ways_right) (defBody (topS 54)) = some B_law_f2_ways_right := by rfl
def N_law_f2_is_row : List Str := [("web" : Str), ("thing" : Str)]
def S_law_f2_is_row : SV := ⟨N_law_f2_is_row, defScope (topS 55), [(("_law_vp_is_whole" : Str), 0), (("_law_vp_is_way" : Str), 1), (("_law_vp_is_in" : Str), 2)], [], [], true, []⟩
theorem tr_law_f2_is_row : mapS (trS 60 S_law_f2_is_row) (defBody (topS 55)) = some B_law_f2_is_row := by rfl
def N_law_f2_book_fault : List Str := [("web" : Str), ("thing" : Str), ("wrong" : Str), ("at" : Str)]
def S_law_f2_book_fault : SV := ⟨N_law_f2_book_fault, defScope (topS 56), [(("_law_f2_is_row" : Str), 0)], [], [], true, []⟩
theorem tr_law_f2_book_fault : mapS (trS 60 S_law_f2_book_fault) (defBody (topS 56)) = some B_law_f2_book_fault := by rfl
def N_law_f2_rows : List Str := [("jar" : Str), ("web" : Str), ("things" : Str), ("roads" : Str), ("thing" : Str), ("found" : Str), ("road" : Str), ("i" : Str)]
def S_law_f2_rows : SV := ⟨N_law_f2_rows, defScope (topS 57), [(("_law_mixed" : Str), 0), (("_law_vp_is_way" : Str), 1), (("_law_vp_number" : Str), 2), (("_law_one" : Str), 3)], [], [], true, []⟩
theorem tr_law_f2_rows : mapS (trS 60 S_law_f2_rows) (defBody (topS 57)) = some B_law_f2_rows := by rfl
def N_law_f2_books_right : List Str := [("jar" : Str), ("web" : Str), ("things" : Str), ("rows" : Str), ("m" : Str), ("some" : Str), ("odds" : Str), ("thing" : Str), ("odd" : Str), ("at" : Str), ("fault" : Str), ("got" : Str)]
def S_law_f2_books_right : SV := ⟨N_law_f2_books_right, defScope (topS 58), [(("_law_f2_rows" : Str), 0), (("_law_take" : Str), 1), (("_law_f2_book_fault" : Str), 2), (("_law_vp_bent" : Str), 3), (("_law_vp_same" : Str), 4), (("made_book" : Str), 5), (("_law_mixed" : Str), 6)], [], [], true, [(("_law_f2_heard" : Str), [(0, ("" : Str)), (1, ("BadWeb" : Str)), (17, ("BadBook" : Str)), (21, ("BadPrices" : Str)), (22, ("BadBounds" : Str)), (52, ("BadMany" : Str)), (53, ("TooMany" : Str))])]⟩
theorem tr_law_f2_books_right : mapS (trS 60 S_law_f2_books_right) (defBody (topS 58)) = some B_law_f2_books_right := by rfl
def N_law_f2_is_pair : List Str := [("thing" : Str), ("one" : Str)]
def S_law_f2_is_pair : SV := ⟨N_law_f2_is_pair, defScope (topS 59), [(("_law_vp_is_whole" : Str), 0)], [], [], true, []⟩
theorem tr_law_f2_is_pair : mapS (trS 60 S_law_f2_is_pair) (defBody (topS 59)) = some B_law_f2_is_pair := by rfl
def N_law_f2_pairs_fault : List Str := [("m" : Str), ("thing" : Str), ("wrong" : Str), ("at" : Str)]
def S_law_f2_pairs_fault : SV := ⟨N_law_f2_pairs_fault, defScope (topS 60), [(("_law_f2_is_pair" : Str), 0)], [], [], true, []⟩
theorem tr_law_f2_pairs_fault : mapS (trS 60 S_law_f2_pairs_fault) (defBody (topS 60)) = some B_law_f2_pairs_fault := by rfl
def N_law_f2_prices_fault : List Str := [("n" : Str), ("thing" : Str), ("wrong" : Str), ("at" : Str)]
def S_law_f2_prices_fault : SV := ⟨N_law_f2_prices_fault, defScope (topS 61), [(("_law_vp_is_whole" : Str), 0)], [], [], true, []⟩
theorem tr_law_f2_prices_fault : mapS (trS 60 S_law_f2_prices_fault) (defBody (topS 61)) = some B_law_f2_prices_fault := by rfl
def N_law_f2_ends_right : List Str := [("jar" : Str), ("m" : Str), ("some" : Str), ("i" : Str), ("low" : Str), ("pairs" : Str), ("row" : Str), ("things" : Str), ("odds" : Str), ("odd" : Str), ("at" : Str), ("thing" : Str), ("fault" : Str), ("got" : Str)]
def S_law_f2_ends_right : SV := ⟨N_law_f2_ends_right, defScope (topS 62), [(("_law_one" : Str), 0), (("_law_vp_number" : Str), 1), (("_law_vp_bent" : Str), 2), (("_law_take" : Str), 3), (("_law_f2_pairs_fault" : Str), 4), (("_law_vp_same" : Str), 5), (("made_bounds" : Str), 6)], [], [], true, [(("_law_f2_heard" : Str), [(0, ("" : Str)), (1, ("BadWeb" : Str)), (17, ("BadBook" : Str)), (21, ("BadPrices" : Str)), (22, ("BadBounds" : Str)), (52, ("BadMany" : Str)), (53, ("TooMany" : Str))])]⟩
theorem tr_law_f2_ends_right : mapS (trS 60 S_law_f2_ends_right) (defBody (topS 62)) = some B_law_f2_ends_right := by rfl
def N_law_f2_prices_right : List Str := [("jar" : Str), ("n" : Str), ("row" : Str), ("place" : Str), ("things" : Str), ("odd" : Str), ("at" : Str), ("thing" : Str), ("fault" : Str), ("got" : Str)]
def S_law_f2_prices_right : SV := ⟨N_law_f2_prices_right, defScope (topS 63), [(("_law_one" : Str), 0), (("_law_vp_bent" : Str), 1), (("_law_take" : Str), 2), (("_law_f2_prices_fault" : Str), 3), (("_law_vp_same" : Str), 4), (("made_prices" : Str), 5)], [], [], true, [(("_law_f2_heard" : Str), [(0, ("" : Str)), (1, ("BadWeb" : Str)), (17, ("BadBook" : Str)), (21, ("BadPrices" : Str)), (22, ("BadBounds" : Str)), (52, ("BadMany" : Str)), (53, ("TooMany" : Str))])]⟩
theorem tr_law_f2_prices_right : mapS (trS 60 S_law_f2_prices_right) (defBody (topS 63)) = some B_law_f2_prices_right := by rfl
def N_law_f2_first_right : List Str := [("jar" : Str), ("web" : Str), ("thing" : Str), ("odd" : Str), ("got" : Str), ("n" : Str), ("rows" : Str), ("eyes" : Str), ("some" : Str), ("none" : Str)]
def S_law_f2_first_right : SV := ⟨N_law_f2_first_right, defScope (topS 64), [(("_law_one" : Str), 0), (("_law_vp_same" : Str), 1), (("made_book" : Str), 2), (("is_way" : Str), 3), (("_law_vp_web_fault" : Str), 4), (("made_bounds" : Str), 5), (("made_prices" : Str), 6)], [], [], true, [(("_law_f2_heard" : Str), [(0, ("" : Str)), (1, ("BadWeb" : Str)), (17, ("BadBook" : Str)), (21, ("BadPrices" : Str)), (22, ("BadBounds" : Str)), (52, ("BadMany" : Str)), (53, ("TooMany" : Str))])]⟩
theorem tr_law_f2_first_right : mapS (trS 60 S_law_f2_first_right) (defBody (topS 64)) = some B_law_f2_first_right := by rfl
def N_law_f2_hand_right : List Str := [("web" : Str), ("rows" : Str), ("got" : Str), ("way" : Str), ("owed" : Str), ("roads" : Str), ("flag" : Str)]
def S_law_f2_hand_right : SV := ⟨N_law_f2_hand_right, defScope (topS 65), [(("_law_vp_same" : Str), 0), (("made_book" : Str), 1), (("is_way" : Str), 2)], [], [], true, [(("_law_f2_heard" : Str), [(0, ("" : Str)), (1, ("BadWeb" : Str)), (17, ("BadBook" : Str)), (21, ("BadPrices" : Str)), (22, ("BadBounds" : Str)), (52, ("BadMany" : Str)), (53, ("TooMany" : Str))])]⟩
theorem tr_law_f2_hand_right : mapS (trS 60 S_law_f2_hand_right) (defBody (topS 65)) = some B_law_f2_hand_right := by rfl
def N_law : List Str := [("script" : Str), ("jar" : Str), ("go" : Str), ("web" : Str), ("things" : Str)]
def S_law : SV := ⟨N_law, defScope (topS 66), [(("_law_pool" : Str), 0), (("_law_f2_hand_right" : Str), 1), (("_law_vp_web" : Str), 2), (("_law_f2_things" : Str), 3), (("_law_f2_ways_right" : Str), 4), (("_law_f2_books_right" : Str), 5), (("_law_f2_ends_right" : Str), 6), (("_law_f2_prices_right" : Str), 7), (("_law_f2_first_right" : Str), 8)], [], [], true, []⟩
theorem tr_law : mapS (trS 60 S_law) (defBody (topS 66)) = some B_law_K2 := by rfl
end PL
set_option linter.all false
set_option maxRecDepth 100000
set_option maxHeartbeats 1000000
namespace PL
open PySem PySem.Spec PyProof.Rows L2 LamX
/-! Ways: the walk along links, place by place. -/
/-- found: the places so far, last: the last of them; refused where a place comes again -/
def pFrom (ls : List (Nat × Nat)) : List Nat → List Nat → Nat → Option (List Nat)
  | [], found, _ => some found
  | i :: way, found, last => match ls[i]? with
    | none => none
    | some l => if last = l.1 ∨ last = l.2 then (if l.1 + l.2 - last ∈ found then none else pFrom ls way (found ++ [l.1 + l.2 - last]) (l.1 + l.2 - last)) else none
/-- the same, places may come again -/
def wFrom (ls : List (Nat × Nat)) : List Nat → List Nat → Nat → Option (List Nat)
  | [], found, _ => some found
  | i :: way, found, last => match ls[i]? with
    | none => none
    | some l => if last = l.1 ∨ last = l.2 then wFrom ls way (found ++ [l.1 + l.2 - last]) (l.1 + l.2 - last) else none
theorem wFrom_pre {ls : List (Nat × Nat)} : ∀ {way found : List Nat} {last : Nat} {r : List Nat}, wFrom ls way found last = some r → ∃ t, r = found ++ t ∧ t.length = way.length
  | [], found, last, r, h => ⟨[], by cases h; simp, rfl⟩
  | i :: way, found, last, r, h => by
    unfold wFrom at h
    split at h
    · cases h
    · split at h
      · obtain ⟨t, h1, h2⟩ := wFrom_pre h
        exact ⟨_ :: t, by rw [h1, List.append_assoc]; rfl, by simp [h2]⟩
      · cases h
theorem pFrom_iff {ls : List (Nat × Nat)} : ∀ {way found : List Nat} {last : Nat} {r : List Nat}, found.Nodup → (pFrom ls way found last = some r ↔ wFrom ls way found last = some r ∧ r.Nodup)
  | [], found, last, r, hf => by
    simp only [pFrom, wFrom]
    constructor
    · intro h; cases h; exact ⟨rfl, hf⟩
    · intro h; exact h.1
  | i :: way, found, last, r, hf => by
    unfold pFrom wFrom
    cases ls[i]? with
    | none => simp
    | some l =>
      simp only
      by_cases h1 : last = l.1 ∨ last = l.2
      · simp only [h1, if_true]
        by_cases h2 : l.1 + l.2 - last ∈ found
        · simp only [h2, if_true]
          constructor
          · intro h; cases h
          · rintro ⟨h, hn⟩
            obtain ⟨t, h3, _⟩ := wFrom_pre h
            rw [h3, List.append_assoc] at hn
            have := (List.nodup_append.mp hn).2.2 _ h2 (l.1 + l.2 - last) (by simp)
            exact absurd rfl this
        · simp only [h2, if_false]
          exact pFrom_iff (List.nodup_append.mpr ⟨hf, by simp, by
            intro a ha b hb
            simp at hb
            subst hb
            exact fun e => h2 (e ▸ ha)⟩)
      · simp [h1]
theorem wFrom_lt {ls : List (Nat × Nat)} {n : Nat} (hl : ∀ l ∈ ls, l.1 < l.2 ∧ l.2 < n) : ∀ {way found : List Nat} {last : Nat} {r : List Nat}, (∀ a ∈ found, a < n) → wFrom ls way found last = some r → ∀ a ∈ r, a < n
  | [], found, last, r, hf, h => by cases h; exact hf
  | i :: way, found, last, r, hf, h => by
    unfold wFrom at h
    split at h
    · cases h
    · rename_i l hi
      have hm := hl l (List.mem_of_getElem? hi)
      split at h
      · rename_i hc
        refine wFrom_lt hl (fun a ha => ?_) h
        rcases List.mem_append.mp ha with q | q
        · exact hf a q
        · simp at q
          subst q
          omega
      · cases h
theorem nodup_lt : ∀ {n : Nat} {xs : List Nat}, xs.Nodup → (∀ a ∈ xs, a < n) → xs.length ≤ n
  | 0, xs, _, h => by
    cases xs with
    | nil => simp
    | cons a l => exact absurd (h a (by simp)) (by omega)
  | n + 1, xs, hn, h => by
    have h1 : (xs.filter fun a => decide (a ≠ n)).length ≤ n := nodup_lt (hn.sublist List.filter_sublist) fun a ha => by
      have := List.mem_filter.mp ha
      have h2 := h a this.1
      have h3 : a ≠ n := by simpa using this.2
      omega
    have h2 : xs.length ≤ (xs.filter fun a => decide (a ≠ n)).length + 1 := by
      clear h1 h
      induction xs with
      | nil => simp
      | cons a xs ih =>
        have hn' := List.nodup_cons.mp hn
        by_cases e : a = n
        · subst e
          have : (xs.filter fun b => decide (b ≠ a)) = xs := List.filter_eq_self.mpr fun b hb => by
            have : b ≠ a := fun z => hn'.1 (z ▸ hb)
            simpa using this
          rw [List.filter_cons_of_neg (by simp), this]
          simp
        · have := ih hn'.2
          simp [e]
          simpa using this
    omega
/-- a way's places, led from the lesser watcher on -/
def isLed (ws places : List Nat) : Bool :=
  match places with
  | [] => false
  | a :: r => decide (a ∈ ws) && (decide ((a :: r).getLastD 0 ∈ ws) && (decide (a < (a :: r).getLastD 0) && (r.dropLast.all fun p => !decide (p ∈ ws))))
def tryFrom (ls : List (Nat × Nat)) (ws way : List Nat) (start : Nat) : Option (List Nat) :=
  match pFrom ls way [start] start with
  | some r => if isLed ws r = true then some r else none
  | none => none
def firstTry (ls : List (Nat × Nat)) (ws way : List Nat) : List Nat → Option (List Nat)
  | [] => none
  | s :: r => match tryFrom ls ws way s with
    | some p => some p
    | none => firstTry ls ws way r
/-- the places of a way, link by link; none where it is no way -/
def placesOf (n : Nat) (ls : List (Nat × Nat)) (ws way : List Nat) : Option (List Nat) :=
  match way with
  | [] => none
  | i :: _ => if way.length < max n 1 then
      match ls[i]? with
      | none => none
      | some l => firstTry ls ws way [l.1, l.2]
    else none
/-- the whole numbers of a tuple, all from 0 on and below m -/
def natsIn (m : Nat) : P → Option (List Nat)
  | .tup xs => if (xs.all fun x => whole x 0 ((m : Int) - 1)) = true then some (xs.map fun x => (valI x).toNat) else none
  | _ => none
def placesP (n : Nat) (ls : List (Nat × Nat)) (ws : List Nat) (x : P) : Option (List Nat) :=
  match natsIn ls.length x with
  | some way => placesOf n ls ws way
  | none => none
end PL
set_option linter.all false
set_option maxRecDepth 100000
set_option maxHeartbeats 1000000
namespace PL
open PySem PySem.Spec PyProof.Rows L2 LamX
theorem flat_nats {xs : List Nat} : (xs.map natP).all flat = true := by
  rw [List.all_map]
  exact List.all_eq_true.mpr fun x _ => rfl
theorem any_nats {xs : List Nat} {a : Nat} : ((xs.map natP).any fun y => feq y (.int (a : Nat))) = decide (a ∈ xs) := by
  induction xs with
  | nil => simp
  | cons b xs ih =>
    simp only [List.map_cons, List.any_cons, ih]
    have e : feq (natP b) (.int (a : Nat)) = decide (a = b) := by
      simp only [feq, natP]
      apply Bool.eq_iff_iff.mpr
      simp
      omega
    rw [e]
    simp
theorem isIn_natsT {xs : List Nat} {a : Nat} {Q : Bool → Prop} : opC .isIn (.int (a : Nat)) (.tup (xs.map natP)) Q = Q (decide (a ∈ xs)) := by
  show (flat _ = true ∧ (xs.map natP).all flat = true ∧ Q (false ^^ (xs.map natP).any fun y => feq y (.int (a : Nat)))) = _
  rw [flat_nats, any_nats]
  simp [flat]
theorem isIn_natsL {xs : List Nat} {a : Nat} {Q : Bool → Prop} : opC .isIn (.int (a : Nat)) (.lst (xs.map natP)) Q = Q (decide (a ∈ xs)) := by
  show (flat _ = true ∧ (xs.map natP).all flat = true ∧ Q (false ^^ (xs.map natP).any fun y => feq y (.int (a : Nat)))) = _
  rw [flat_nats, any_nats]
  simp [flat]
theorem notIn_natsT {xs : List Nat} {a : Nat} {Q : Bool → Prop} : opC .notIn (.int (a : Nat)) (.tup (xs.map natP)) Q = Q (!decide (a ∈ xs)) := by
  show (flat _ = true ∧ (xs.map natP).all flat = true ∧ Q (true ^^ (xs.map natP).any fun y => feq y (.int (a : Nat)))) = _
  rw [flat_nats, any_nats]
  simp [flat]
theorem notIn_natsL {xs : List Nat} {a : Nat} {Q : Bool → Prop} : opC .notIn (.int (a : Nat)) (.lst (xs.map natP)) Q = Q (!decide (a ∈ xs)) := by
  show (flat _ = true ∧ (xs.map natP).all flat = true ∧ Q (true ^^ (xs.map natP).any fun y => feq y (.int (a : Nat)))) = _
  rw [flat_nats, any_nats]
  simp [flat]
theorem notIn_two {a b c : Nat} {Q : Bool → Prop} : opC .notIn (.int (a : Nat)) (.tup [.int (b : Nat), .int (c : Nat)]) Q = Q (!decide (a = b ∨ a = c)) := by
  have := notIn_natsT (xs := [b, c]) (a := a) (Q := Q)
  simpa [natP] using this
theorem isIn_two {a b c : Nat} {Q : Bool → Prop} : opC .isIn (.int (a : Nat)) (.tup [.int (b : Nat), .int (c : Nat)]) Q = Q (decide (a = b ∨ a = c)) := by
  have := isIn_natsT (xs := [b, c]) (a := a) (Q := Q)
  simpa [natP] using this
theorem atI_last {α : Type} {xs : List α} {x : α} : L2.atI (xs ++ [x]) (-1) = some x := by
  have e : ixN (xs ++ [x]).length (-1) = some xs.length := by
    unfold ixN
    simp
    omega
  unfold L2.atI
  rw [e]
  simp
theorem atI_lastN {pre : List Nat} {a : Nat} : L2.atI ((pre ++ [a]).map natP) (-1) = some (.int (a : Nat)) := by
  rw [List.map_append]
  exact atI_last
theorem cut_dropLast {xs : List P} : cutP xs none (some (-1)) = xs.dropLast := by
  unfold cutP
  simp [HT.sIx, List.dropLast_eq_take]
  congr 1
  omega
theorem lnk_get {ls : List (Nat × Nat)} {k : Nat} {l : Nat × Nat} (h : ls[k]? = some l) : L2.atI (ls.map lnkP) (k : Int) = some (lnkP l) := atI_nat (by rw [List.getElem?_map, h]; rfl)
def optLst : Option (List Nat) → D
  | some r => .lst (r.map natP)
  | none => .p .non
def g_places_from : Fn := ownF 3 fun xs Q X => match xs with
  | [links, way, from0] => ∃ (ls : List (Nat × Nat)) (ks : List Nat) (s : Nat), links = .tup (ls.map lnkP) ∧ way = .tup (ks.map natP) ∧ from0 = .int s ∧ (∀ k ∈ ks, k < ls.length) ∧ ks.length ≤ 100000 ∧ Q (optLst (pFrom ls ks [s] s))
  | _ => False
@[simp ↓] theorem places_from_n : g_places_from.n = 3 := rfl
@[simp ↓] theorem places_from_lent : g_places_from.lent = [] := rfl
theorem keepsO3 {G : List Fn} {nN : Nat} {bs : List S} {F : OF} (h : ∀ a b c (Q : D → Prop) X, F [a, b, c] Q X → wSs G X [] bs (some (.p a) :: some (.p b) :: some (.p c) :: List.replicate (nN - 3) none) { nx := fun _ => Q (.p .non), rt := fun d _ => Q d }) : Keeps G nN bs (ownF 3 F) :=
  keepsO fun xs Q X hl hF => by
    match xs, hl with
    | [a, b, c], _ => exact h a b c Q X hF
theorem pFrom_cons {ls : List (Nat × Nat)} {i last : Nat} {way found : List Nat} {l : Nat × Nat} (h : ls[i]? = some l) : pFrom ls (i :: way) found last = if last = l.1 ∨ last = l.2 then (if l.1 + l.2 - last ∈ found then none else pFrom ls way (found ++ [l.1 + l.2 - last]) (l.1 + l.2 - last)) else none := by
  rw [pFrom, h]
theorem k_places_from : Keeps [] 7 B_places_from g_places_from := keepsO3 fun links way from0 Q X h => by
  obtain ⟨ls, ks, s, rfl, rfl, rfl, hk, hlen, h⟩ := h
  have z : 1000000 < sizeLine := by decide
  refine seq1 fun K hK => ?_
  simp [sizeLine]
  refine hK _ (seq1 fun K hK => ?_)
  simp
  refine for_ind (fun its ρ => ∃ (ks' pre : List Nat) (last : Nat) (v4 v5 v6 : Option D), its = ks'.map natP ∧ (∀ k ∈ ks', k < ls.length) ∧ pre.length + ks'.length ≤ ks.length ∧ pFrom ls ks' (pre ++ [last]) last = pFrom ls ks [s] s ∧ ρ = [some (.p (.tup (ls.map lnkP))), some (.p (.tup (ks.map natP))), some (.p (.int s)), some (.lst ((pre ++ [last]).map natP)), v4, v5, v6]) ?_ ?_ _ _ ⟨ks, [], s, _, _, _, rfl, hk, by simp, rfl, rfl⟩
  · rintro ρ ⟨ks', pre, last, v4, v5, v6, e, _, _, hp, rfl⟩
    cases ks'
    case cons => cases e
    refine hK _ ?_
    simp only [pFrom] at hp
    rw [← hp] at h
    simp
    simpa [optLst] using h
  · rintro x its ρ k ⟨ks', pre, last, v4, v5, v6, e, hk', hl', hp, rfl⟩ ih
    cases ks' with
    | nil => cases e
    | cons i ks' =>
      cases e
      have hi := hk' i (by simp)
      have hgi : ls[i]? = some ls[i] := List.getElem?_eq_getElem hi
      generalize ls[i] = l at hgi
      simp at hl'
      simp only [tgS_name]
      refine ⟨by simp, by simp, ?_⟩
      refine seq1 fun K hK => ?_
      simp [subO, look, subP, natP, lnk_get hgi, lnkP]
      refine hK _ (seq1 fun K hK => ?_)
      have al : L2.atI (pre.map natP ++ [P.int (last : Nat)]) (-1) = some (.int (last : Nat)) := atI_last
      simp [subO, look, subP, al, sizeLine]
      rw [notIn_two]
      rw [pFrom_cons hgi] at hp
      by_cases hc : last = l.1 ∨ last = l.2
      · rw [if_pos hc] at hp
        simp [hc]
        refine hK _ (seq1 fun K hK => ?_)
        have en : ((l.1 : Int) + l.2 - last) = ((l.1 + l.2 - last : Nat) : Int) := by omega
        simp [subO, look, subP, al, mthA, mthS, en]
        refine ⟨by omega, hK _ (seq1 fun K hK => ?_)⟩
        generalize hnx : l.1 + l.2 - last = nx at *
        have al2 : L2.atI (pre.map natP ++ [P.int (last : Nat), P.int (nx : Nat)]) (-1) = some (.int (nx : Nat)) := by
          have := atI_last (xs := pre.map natP ++ [P.int (last : Nat)]) (x := P.int (nx : Nat))
          simpa using this
        have ec : cutP (pre.map natP ++ [P.int (last : Nat), P.int (nx : Nat)]) none (some (-1)) = (pre ++ [last]).map natP := by
          rw [cut_dropLast]
          simp [natP]
        simp [subO, look, subP, al2, ec]
        rw [← List.map_singleton, ← List.map_append, isIn_natsL]
        by_cases hin : nx ∈ pre ++ [last]
        · rw [if_pos hin] at hp
          rw [← hp] at h
          rw [decide_eq_true hin, if_pos rfl]
          exact h
        · rw [if_neg hin] at hp
          rw [decide_eq_false hin, if_neg Bool.false_ne_true]
          refine hK _ ?_
          simp
          refine ih _ ⟨ks', pre ++ [last], nx, _, _, _, rfl, fun k hk => hk' k (List.mem_cons_of_mem _ hk), by simp; omega, hp, by rw [List.append_assoc, List.map_append]; rfl⟩
      · rw [if_neg hc] at hp
        rw [← hp] at h
        simp [hc]
        exact h
theorem places_from_run {ls : List (Nat × Nat)} {ks : List Nat} {s : Nat} {Q : D → List D → Prop} {X : Nat → P → Prop} (hk : ∀ k ∈ ks, k < ls.length) (hl : ks.length ≤ 100000) (h : Q (optLst (pFrom ls ks [s] s)) []) : g_places_from.run [.p (.tup (ls.map lnkP)), .p (.tup (ks.map natP)), .p (.int (s : Nat))] Q X :=
  ⟨_, rfl, rfl, ls, ks, s, rfl, rfl, rfl, hk, hl, h⟩
def optL : Option (List Nat) → P
  | some r => .lst (r.map natP)
  | none => .non
def isLedO (ws : List Nat) : Option (List Nat) → Bool
  | some r => isLed ws r
  | none => false
def g_is_led : Fn := pureF 2 fun xs Q X => match xs with
  | [w, p] => ∃ (ws : List Nat) (o : Option (List Nat)), w = .tup (ws.map natP) ∧ p = optL o ∧ o ≠ some [] ∧ (∀ r, o = some r → r.length ≤ 1000000) ∧ Q (.bl (isLedO ws o))
  | _ => False
@[simp ↓] theorem is_led_n : g_is_led.n = 2 := rfl
@[simp ↓] theorem is_led_lent : g_is_led.lent = [] := rfl
theorem is_led_run {ws : List Nat} {o : Option (List Nat)} {Q : D → List D → Prop} {X : Nat → P → Prop} (h1 : o ≠ some []) (h2 : ∀ r, o = some r → r.length ≤ 1000000) (h : Q (.p (.bl (isLedO ws o))) []) : g_is_led.run [.p (.tup (ws.map natP)), .p (optL o)] Q X :=
  ⟨_, rfl, rfl, ws, o, rfl, rfl, h1, h2, h⟩
/-- between the first and the last -/
theorem cut_mid {xs : List P} : cutP xs (some 1) (some (-1)) = xs.dropLast.drop 1 := by
  cases xs with
  | nil => rfl
  | cons a l =>
    have e1 : HT.sIx (a :: l).length 0 (some 1) = 1 := by simp [HT.sIx]
    have e2 : HT.sIx (a :: l).length (a :: l).length (some (-1)) = l.length := by
      simp [HT.sIx]
      omega
    unfold cutP
    rw [e1, e2, List.dropLast_eq_take, List.drop_take]
    simp
theorem blsP_map {α : Type} {f : α → Bool} : ∀ {xs : List α}, blsP (xs.map fun p => .bl (f p)) = some (xs.map f)
  | [] => rfl
  | x :: xs => by
    show (blsP (xs.map fun p => .bl (f p))).map _ = _
    rw [blsP_map]
    rfl
theorem any_id {α : Type} {f : α → Bool} {xs : List α} : (xs.map f).any id = xs.any f := by
  rw [List.any_map]
  rfl
theorem all_id {α : Type} {f : α → Bool} {xs : List α} : (xs.map f).all id = xs.all f := by
  rw [List.all_map]
  rfl
theorem k_is_led : Keeps [] 3 B_is_led g_is_led := keepsF2 fun w p Q X h => by
  obtain ⟨ws, o, rfl, rfl, hne, hlen, h⟩ := h
  cases o with
  | none =>
    simp [B_is_led, optL, isNon]
    exact h
  | some r =>
    have hr : r ≠ [] := fun e => hne (by rw [e])
    have hl := hlen r rfl
    obtain ⟨a, r', rfl⟩ := List.exists_cons_of_ne_nil hr
    obtain ⟨pre, z, ez⟩ : ∃ pre z, a :: r' = pre ++ [z] := ⟨(a :: r').dropLast, (a :: r').getLast hr, (List.dropLast_concat_getLast hr).symm⟩
    have al : L2.atI ((a :: r').map natP) (-1) = some (.int (z : Nat)) := by
      rw [ez, List.map_append]
      exact atI_last
    have a0 : L2.atI ((a :: r').map natP) 0 = some (.int (a : Nat)) := atI_0
    have eled : isLed ws (a :: r') = (decide (a ∈ ws) && (decide (z ∈ ws) && (decide (a < z) && (r'.dropLast.all fun p => !decide (p ∈ ws))))) := by
      unfold isLed
      simp only
      rw [ez]
      simp
    have emid : cutP ((a :: r').map natP) (some 1) (some (-1)) = r'.dropLast.map natP := by
      rw [cut_mid]
      cases r' with
      | nil => rfl
      | cons b l => simp [natP, List.dropLast]
    refine seq1 fun K hK => ?_
    generalize hP : (a :: r').map natP = places at *
    have el : optL (some (a :: r')) = .lst places := by rw [← hP]; rfl
    rw [el]
    simp only [isLedO, eled] at h
    simp [isNon, subO, look, subP, al, a0]
    rw [notIn_natsT]
    by_cases h1 : a ∈ ws
    case neg =>
      simp [h1] at h ⊢
      exact h
    simp [h1] at h ⊢
    rw [notIn_natsT]
    by_cases h2 : z ∈ ws
    case neg =>
      simp [h2] at h ⊢
      exact h
    simp [h2] at h ⊢
    by_cases h3 : a < z
    case neg =>
      have : z ≤ a := by omega
      simp [h3] at h
      simp [this]
      exact h
    have : ¬ z ≤ a := by omega
    simp [h3] at h
    simp [this]
    refine hK _ ?_
    simp [emid]
    refine lc_ind (fun its acc ρ => ∃ (done rest : List Nat), its = rest.map natP ∧ r'.dropLast = done ++ rest ∧ acc = done.map (fun p => P.bl (decide (p ∈ ws))) ∧ ρ = [some (.p (.tup (ws.map natP))), some (.p (.lst places)), none]) ?_ ?_ _ _ _ ⟨[], r'.dropLast, by simp, rfl, rfl, rfl⟩
    · rintro acc ρ ⟨done, rest, e, hd, rfl, rfl⟩
      cases rest
      case cons => cases e
      rw [List.append_nil] at hd
      rw [← hd]
      refine ⟨_, blsP_map, ?_⟩
      rw [any_id]
      have e : (r'.dropLast.all fun p => !decide (p ∈ ws)) = !(r'.dropLast.any fun p => decide (p ∈ ws)) := by
        rw [← List.not_any_eq_all_not] <;> rfl
      rw [e] at h
      cases hany : r'.dropLast.any fun p => decide (p ∈ ws)
      · left
        rw [hany] at h
        exact ⟨rfl, h⟩
      · right
        rw [hany] at h
        exact ⟨rfl, h⟩
    · rintro x its acc ρ k ⟨done, rest, e, hd, rfl, rfl⟩ ih
      cases rest with
      | nil => cases e
      | cons y rest =>
        cases e
        simp [natP]
        rw [isIn_natsT]
        have hdl : done.length ≤ 1000000 := by
          have := congrArg List.length hd
          simp at this hl
          omega
        refine ⟨Nat.lt_of_le_of_lt (by simpa using hdl) (by decide), ih _ _ ⟨done ++ [y], rest, rfl, by rw [hd]; simp, by simp, rfl⟩⟩
end PL
set_option linter.all false
set_option maxRecDepth 100000
set_option maxHeartbeats 1000000
namespace PL
open PySem PySem.Spec PyProof.Rows L2 LamX
@[simp ↓] theorem whole_n : g_whole.n = 3 := rfl
@[simp ↓] theorem whole_lent : g_whole.lent = [] := rfl
@[simp ↓] theorem whole_run {x : P} {a b : Int} {Q : D → List D → Prop} {X : Nat → P → Prop} : g_whole.run [.p x, .p (.int a), .p (.int b)] Q X = Q (.p (.bl (whole x a b))) [] := by
  simp [g_whole, pureF_run]
@[simp ↓] theorem is_number_n : g_is_number.n = 1 := rfl
@[simp ↓] theorem is_number_lent : g_is_number.lent = [] := rfl
@[simp ↓] theorem is_number_run {x : P} {Q : D → List D → Prop} {X : Nat → P → Prop} : g_is_number.run [.p x] Q X = Q (.p (.bl (isNum x))) [] := by
  simp [g_is_number, pureF_run]
theorem natsIn_some {m : Nat} {x : P} {ks : List Nat} (h : natsIn m x = some ks) : x = .tup (ks.map natP) ∧ ∀ k ∈ ks, k < m := by
  cases x <;> simp [natsIn] at h
  rename_i xs
  obtain ⟨h1, rfl⟩ := h
  have e : ∀ x ∈ xs, x = natP (valI x).toNat ∧ (valI x).toNat < m := fun x hx => by
    obtain ⟨i, rfl, h2, h3⟩ := whole_int (h1 x hx)
    have e1 : ((i.toNat : Nat) : Int) = i := by omega
    simp only [valI, natP]
    exact ⟨by rw [e1], by omega⟩
  constructor
  · congr 1
    rw [List.map_map]
    conv => lhs; rw [← List.map_id xs]
    exact List.map_congr_left fun x hx => (e x hx).1
  · intro k hk
    obtain ⟨x, hx, rfl⟩ := List.mem_map.mp hk
    exact (e x hx).2
theorem natsIn_nats {m : Nat} {ks : List Nat} (h : ∀ k ∈ ks, k < m) : natsIn m (.tup (ks.map natP)) = some ks := by
  have e : ((ks.map natP).all fun x => whole x 0 ((m : Int) - 1)) = true := by
    rw [List.all_map]
    refine List.all_eq_true.mpr fun k hk => ?_
    have := h k hk
    simp [natP, whole]
    omega
  simp only [natsIn, e, if_true]
  congr 1
  rw [List.map_map]
  conv => rhs; rw [← List.map_id ks]
  exact List.map_congr_left fun k hk => by simp [natP, valI]
def g_places_of : Fn := pureF 2 fun xs Q X => match xs with
  | [w, x] => ∃ (n : Nat) (ls : List (Nat × Nat)) (ws : List Nat), w = webP n ls ws ∧ WebOk n ls ws ∧ small x ∧ Q (optL (placesP n ls ws x))
  | _ => False
@[simp ↓] theorem places_of_n : g_places_of.n = 2 := rfl
@[simp ↓] theorem places_of_lent : g_places_of.lent = [] := rfl
theorem places_of_run {n : Nat} {ls : List (Nat × Nat)} {ws : List Nat} {x : P} {Q : D → List D → Prop} {X : Nat → P → Prop} (hw : WebOk n ls ws) (hx : small x) (h : Q (.p (optL (placesP n ls ws x))) []) : g_places_of.run [.p (webP n ls ws), .p x] Q X := ⟨_, rfl, rfl, n, ls, ws, rfl, hw, hx, h⟩
theorem allB {xs : List P} {f : P → Bool} {Q : D → Prop} (h : Q (.p (.bl (xs.all f)))) : bltS .all1 [.lst (xs.map fun x => .bl (f x))] Q := ⟨_, blsP_map, by rw [all_id]; exact h⟩
theorem k_places_of : Keeps [g_places_from, g_is_led, g_whole] 8 B_places_of g_places_of := keepsF2 fun w x Q X h => by
  obtain ⟨n, ls, ws, rfl, hw, hx, h⟩ := h
  refine seq1 fun K hK => ?_
  simp [webP]
  refine hK _ (seq1 fun K hK => ?_)
  cases x
  case tup xs =>
    have hxl : xs.length ≤ 100000 := hx
    simp
    have emax : (if n < 1 then (1 : Int) else (n : Int)) = ((max n 1 : Nat) : Int) := by split <;> omega
    by_cases h0 : 0 < xs.length
    case neg =>
      have : xs = [] := List.eq_nil_of_length_eq_zero (by omega)
      subst this
      simp
      have e : placesP n ls ws (.tup []) = none := rfl
      rw [e] at h
      exact h
    have h0' : xs ≠ [] := List.length_pos_iff.mp h0
    rw [if_pos h0]
    by_cases hmax : xs.length < max n 1
    case neg =>
      right
      refine ⟨by split <;> omega, ?_⟩
      have e : placesP n ls ws (.tup xs) = none := by
        unfold placesP
        cases hk : natsIn ls.length (.tup xs) with
        | none => rfl
        | some ks =>
          have e2 := (natsIn_some hk).1
          simp only [P.tup.injEq] at e2
          subst e2
          simp at hmax
          unfold placesOf
          cases ks with
          | nil => rfl
          | cons k r => simp at hmax ⊢; omega
      rw [e] at h
      exact h
    left
    refine ⟨by split <;> omega, hK _ (seq1 fun K hK => ?_)⟩
    simp
    refine lc_ind (fun its acc ρ => ∃ done rest : List P, xs = done ++ rest ∧ its = rest ∧ acc = done.map (fun x => P.bl (whole x 0 ((ls.length : Int) - 1))) ∧ ρ = [some (D.p (P.tup [P.int ↑n, P.tup (List.map lnkP ls), P.tup (List.map natP ws)])), some (D.p (P.tup xs)), some (D.p (P.int ↑n)), some (D.p (P.tup (List.map lnkP ls))), some (D.p (P.tup (List.map natP ws))), none, none, none]) ?_ ?_ _ _ _ ⟨[], xs, rfl, rfl, rfl, rfl⟩
    · rintro acc ρ ⟨done, rest, hd, e, rfl, rfl⟩
      subst e
      rw [List.append_nil] at hd
      subst hd
      refine allB ?_
      cases hall : xs.all fun x => whole x 0 ((ls.length : Int) - 1) with
      | false =>
        have e : placesP n ls ws (.tup xs) = none := by
          unfold placesP natsIn
          simp only [hall]
          rfl
        rw [e] at h
        simp
        exact h
      | true =>
        have hks : natsIn ls.length (.tup xs) = some (xs.map fun x => (valI x).toNat) := by
          unfold natsIn
          simp only [hall, if_true]
        obtain ⟨exs, hlt⟩ := natsIn_some hks
        generalize (xs.map fun x => (valI x).toNat) = ks at hks exs hlt
        simp only [P.tup.injEq] at exs
        subst exs
        cases ks with
        | nil => exact absurd rfl h0'
        | cons i ks =>
          have hi := hlt i (by simp)
          have hgi : ls[i]? = some ls[i] := List.getElem?_eq_getElem hi
          generalize ls[i] = l at hgi
          have ep : placesP n ls ws (.tup ((i :: ks).map natP)) = firstTry ls ws (i :: ks) [l.1, l.2] := by
            unfold placesP
            rw [hks]
            have hm' : (i :: ks).length < max n 1 := by simpa using hmax
            simp only [placesOf, hm', if_true, hgi]
          rw [ep] at h
          simp
          refine hK _ (seq1 fun K hK => ?_)
          simp [subO, look, subP, atI_0, natP, lnk_get hgi, lnkP]
          have hwl : (i :: ks).length ≤ 100000 := by simpa using hxl
          have ew : P.tup (P.int (i : Nat) :: ks.map natP) = .tup ((i :: ks).map natP) := rfl
          rw [ew]
          generalize i :: ks = way at *
          refine for_ind (fun its ρ => ∃ (st : List Nat) (v6 v7 : Option D), its = st.map natP ∧ firstTry ls ws way st = firstTry ls ws way [l.1, l.2] ∧ ρ = [some (D.p (P.tup [P.int ↑n, P.tup (List.map lnkP ls), P.tup (List.map natP ws)])), some (D.p (P.tup (way.map natP))), some (D.p (P.int ↑n)), some (D.p (P.tup (List.map lnkP ls))), some (D.p (P.tup (List.map natP ws))), none, v6, v7]) ?_ ?_ _ _ ⟨[l.1, l.2], _, _, rfl, rfl, rfl⟩
          · rintro ρ ⟨st, v6, v7, e, hs, rfl⟩
            cases st
            case cons => cases e
            refine hK _ ?_
            simp
            rw [← hs] at h
            exact h
          · rintro x its ρ k ⟨st, v6, v7, e, hs, rfl⟩ ih
            cases st with
            | nil => cases e
            | cons s st =>
              cases e
              simp only [tgS_name]
              refine ⟨by simp, by simp, ?_⟩
              refine seq1 fun K hK => ?_
              simp
              refine places_from_run hlt hwl ?_
              simp
              refine hK _ (seq1 fun K hK => ?_)
              have hne : pFrom ls way [s] s ≠ some [] := fun e => by
                obtain ⟨t, h1, _⟩ := wFrom_pre ((pFrom_iff (by simp)).mp e).1
                cases h1
              have hle : ∀ r, pFrom ls way [s] s = some r → r.length ≤ 1000000 := fun r e => by
                obtain ⟨t, h1, h2⟩ := wFrom_pre ((pFrom_iff (by simp)).mp e).1
                rw [h1]
                simp
                omega
              cases hp : pFrom ls way [s] s with
              | none =>
                have et : tryFrom ls ws way s = none := by unfold tryFrom; rw [hp]
                simp [optLst]
                refine is_led_run (o := none) (by simp) (by simp) ?_
                simp [isLedO]
                refine hK _ ?_
                simp
                refine ih _ ⟨st, _, _, rfl, ?_, rfl⟩
                rw [← hs, firstTry, et]
              | some r =>
                simp [optLst]
                refine is_led_run (o := some r) (by rw [← hp]; exact hne) (fun r' e => hle r' (by rw [hp]; exact e)) ?_
                simp only [isLedO]
                cases hl : isLed ws r with
                | false =>
                  have et : tryFrom ls ws way s = none := by unfold tryFrom; rw [hp]; simp only [hl]; rfl
                  simp
                  refine hK _ ?_
                  simp
                  refine ih _ ⟨st, _, _, rfl, ?_, rfl⟩
                  rw [← hs, firstTry, et]
                | true =>
                  have et : tryFrom ls ws way s = some r := by unfold tryFrom; rw [hp]; simp only [hl, if_true]
                  rw [firstTry, et] at hs
                  rw [← hs] at h
                  simp
                  exact h
    · rintro x its acc ρ k ⟨done, rest, hd, e, rfl, rfl⟩ ih
      subst e
      simp
      have hdl : done.length < sizeLine := Nat.lt_of_le_of_lt (show done.length ≤ 100000 by have := congrArg List.length hd; simp at this; omega) (by decide)
      exact ⟨hdl, ih _ _ ⟨done ++ [x], its, by rw [hd]; simp, rfl, by simp, rfl⟩⟩
  all_goals
    simp [isTy]
    exact h
end PL
set_option linter.all false
set_option maxRecDepth 100000
set_option maxHeartbeats 1000000
namespace PL
open PySem PySem.Spec PyProof.Rows L2 LamX
/-- the first, counted from j on, that is not so -/
def firstBad (f : P → Bool) : Int → List P → P
  | _, [] => .non
  | j, x :: xs => if f x = true then firstBad f (j + 1) xs else .int j
def badIn (f : P → Bool) (x : P) (m : Int) : P :=
  match x with
  | .tup xs => if (xs.length : Int) = m then firstBad f 0 xs else .int (-1)
  | _ => .int (-1)
theorem firstBad_form (f : P → Bool) : ∀ (xs : List P) (j : Int), (firstBad f j xs = .non ∧ xs.all f = true) ∨ ∃ i, firstBad f j xs = .int i ∧ j ≤ i ∧ i < j + xs.length
  | [], _ => .inl ⟨rfl, rfl⟩
  | x :: xs, j => by
    unfold firstBad
    split
    · rename_i hx
      rcases firstBad_form f xs (j + 1) with ⟨h1, h2⟩ | ⟨i, h1, h2, h3⟩
      · exact .inl ⟨h1, by simp [hx, h2]⟩
      · exact .inr ⟨i, h1, by omega, by simp; omega⟩
    · exact .inr ⟨_, rfl, by omega, by simp; omega⟩
theorem badIn_form (f : P → Bool) (x : P) (m : Int) : (badIn f x m = .non ∧ ∃ xs, x = .tup xs ∧ (xs.length : Int) = m ∧ xs.all f = true) ∨ ∃ i, badIn f x m = .int i := by
  unfold badIn
  split
  · rename_i xs
    split
    · rename_i hm
      rcases firstBad_form f xs 0 with ⟨h1, h2⟩ | ⟨i, h1, _⟩
      · exact .inl ⟨h1, xs, rfl, hm, h2⟩
      · exact .inr ⟨i, h1⟩
    · exact .inr ⟨_, rfl⟩
  · exact .inr ⟨_, rfl⟩
/-- those that are not so, by their places -/
def wrongs (f : P → Bool) (xs : List P) (i : Nat) : List P := ((List.range i).filter fun k => !f (xs.getD k .non)).map natP
theorem wrongs_zero {f : P → Bool} {xs : List P} : wrongs f xs 0 = [] := rfl
theorem wrongs_succ {f : P → Bool} {xs : List P} {i : Nat} (h : i < xs.length) : wrongs f xs (i + 1) = if f xs[i] = true then wrongs f xs i else wrongs f xs i ++ [.int (i : Nat)] := by
  have e : xs.getD i .non = xs[i] := by simp [List.getD, h]
  unfold wrongs
  rw [List.range_succ, List.filter_append, List.map_append]
  simp only [List.filter_cons, List.filter_nil, e]
  cases f xs[i] <;> simp [natP]
theorem wrongs_len {f : P → Bool} {xs : List P} {i : Nat} : (wrongs f xs i).length ≤ i := by
  unfold wrongs
  rw [List.length_map]
  exact Nat.le_trans (List.length_filter_le _ _) (by simp)
theorem wrongs_ok {f : P → Bool} {xs : List P} {i : Nat} : okL (wrongs f xs i) = true := okL_nats
/-- the first of them is the first that is not so -/
theorem wrongs_first {f : P → Bool} {xs : List P} : (wrongs f xs xs.length = [] ∧ firstBad f 0 xs = .non) ∨ ∃ (k : Nat) (r : List P), wrongs f xs xs.length = .int (k : Nat) :: r ∧ firstBad f 0 xs = .int (k : Nat) := by
  have gen : ∀ (ys : List P) (j : Nat), firstBad f (j : Nat) ys = match ((List.range' j ys.length).filter fun k => !f ((List.replicate j P.non ++ ys).getD k .non)) with | [] => .non | k :: _ => .int (k : Nat) := by
    intro ys
    induction ys with
    | nil => intro j; rfl
    | cons y ys ih =>
      intro j
      have e : (List.replicate j P.non ++ y :: ys).getD j .non = y := by
        simp [List.getD]
      simp only [firstBad, List.length_cons, List.range'_succ, List.filter_cons, e]
      cases hy : f y with
      | false => simp
      | true =>
        simp only [Bool.not_true, Bool.false_eq_true, if_false, if_true]
        have := ih (j + 1)
        have e2 : ((j : Int) + 1) = ((j + 1 : Nat) : Int) := by omega
        rw [e2, this]
        have e3 : (List.range' (j + 1) ys.length).filter (fun k => !f ((List.replicate (j + 1) P.non ++ ys).getD k .non)) = (List.range' (j + 1) ys.length).filter fun k => !f ((List.replicate j P.non ++ y :: ys).getD k .non) := by
          apply List.filter_congr
          intro k hk
          have hk := (List.mem_range'_1.mp hk).1
          have : (List.replicate (j + 1) P.non ++ ys).getD k .non = (List.replicate j P.non ++ y :: ys).getD k .non := by
            have h1 : ¬ k < j + 1 := by omega
            have h2 : ¬ k < j := by omega
            simp only [List.getD]
            rw [List.getElem?_append_right (by simp; omega), List.getElem?_append_right (by simp; omega)]
            simp only [List.length_replicate]
            have : k - j = (k - (j + 1)) + 1 := by omega
            rw [this, List.getElem?_cons_succ]
          rw [this]
        rw [e3]
  have g := gen xs 0
  simp only [List.replicate_zero, List.nil_append] at g
  rw [← List.range_eq_range'] at g
  unfold wrongs
  cases hf : (List.range xs.length).filter fun k => !f (xs.getD k .non) with
  | nil =>
    left
    rw [hf] at g
    exact ⟨rfl, g⟩
  | cons k r =>
    right
    rw [hf] at g
    exact ⟨k, r.map natP, rfl, g⟩
/-- made_.. of so many things: what it tells, or refuses -/
def madeX (c : Nat) (f : P → Bool) (m x : P) (Q : P → Prop) (X : Nat → P → Prop) : Prop :=
  match m with
  | .int i => if whole m 0 60 = true then (if isNon (badIn f x i) = true then Q x else X c (badIn f x i)) else X 52 m
  | m => X 52 m
def toldX (s : Str) (f : P → Bool) (x : P) (m : Int) : P := if isNon (badIn f x m) = true then .tup [.str "told", x] else .tup [.str s, badIn f x m]
theorem madeX_no {c : Nat} {f : P → Bool} {m x : P} {Q : P → Prop} {X : Nat → P → Prop} (h : whole m 0 60 = false) : madeX c f m x Q X = X 52 m := by
  unfold madeX
  split
  · rw [h]; simp
  · rfl
theorem madeX_many {c : Nat} {f : P → Bool} {m x : P} {Q : P → Prop} {X : Nat → P → Prop} (h : whole m 0 60 = false) (hx : X 52 m) : madeX c f m x Q X := by
  unfold madeX
  split
  · rw [h]; simpa using hx
  · exact hx
theorem madeX_heard {c : Nat} {f : P → Bool} {s : Str} {m : Int} {x : P} {R : P → Prop} {tab : List (Nat × Str)} (hm : 0 ≤ m ∧ m ≤ 60) (hc : tab.lookup c = some s) (h : R (toldX s f x m)) :
    madeX c f (.int m) x (fun y => R (.tup [.str "told", y])) (fun c y => ∃ n, tab.lookup c = some n ∧ R (.tup [.str n, y])) := by
  have e : whole (.int m) 0 60 = true := by simp [whole]; omega
  unfold toldX at h
  simp [madeX, e]
  split
  · rename_i q
    simpa [q] using h
  · rename_i q
    simp [q] at h
    exact ⟨s, hc, h⟩
theorem toldX_ok {s : Str} {f : P → Bool} {x : P} {m : Int} {k : Nat} (hs : okP (.str s) = true) (hf : ∀ x, f x = true → okP x = true ∧ szP x ≤ k) (hm : m ≤ 60) (hk : k ≤ 1000) : okP (toldX s f x m) = true ∧ szP (toldX s f x m) ≤ 100000 := by
  unfold toldX
  have s1 : okP (.str "told") = true := by decide +kernel
  rcases badIn_form f x m with ⟨h, xs, rfl, hl, hx⟩ | ⟨i, h⟩
  · rw [h]
    have ha := List.all_eq_true.mp hx
    have h1 : szL xs ≤ k * xs.length := by
      have := szL_map (f := id) (k := k) (xs := xs) fun x hx => (hf x (ha x hx)).2
      simpa using this
    have h2 : k * xs.length ≤ 1000 * 60 := Nat.mul_le_mul hk (by omega)
    simp [isNon, okP, okL, szP, szL] at s1 ⊢
    exact ⟨⟨s1, okL_iff.mpr fun x hx => (hf x (ha x hx)).1⟩, by omega⟩
  · rw [h]
    simp [isNon, okP, okL, szP, szL] at hs ⊢
    exact hs
end PL
set_option linter.all false
set_option maxRecDepth 100000
set_option maxHeartbeats 1000000
namespace PL
open PySem PySem.Spec PyProof.Rows L2 LamX
@[simp ↓] theorem asked_many_n : g_asked_many.n = 3 := rfl
@[simp ↓] theorem asked_many_lent : g_asked_many.lent = [] := rfl
@[simp ↓] theorem asked_many_run {x : P} {a b : Int} {Q : D → List D → Prop} {X : Nat → P → Prop} : g_asked_many.run [.p x, .p (.int a), .p (.int b)] Q X = if whole x a b = true then Q (.p x) [] else X 52 x := by
  simp [g_asked_many, pureF_run]
def priceOk (x : P) : Bool := isNum x && decide (0 ≤ valI x)
def boundOk : P → Bool
  | .tup [a, b] => (isNon a || isNum a) && (isNon b || isNum b) && (isNon a || isNon b || decide (valI a ≤ valI b))
  | _ => false
def g_made_prices : Fn := pureF 2 fun xs Q X => match xs with
  | [m, x] => madeX 21 priceOk m x Q X
  | _ => False
@[simp ↓] theorem made_prices_n : g_made_prices.n = 2 := rfl
@[simp ↓] theorem made_prices_lent : g_made_prices.lent = [] := rfl
@[simp ↓] theorem made_prices_run {m x : P} {Q : D → List D → Prop} {X : Nat → P → Prop} : g_made_prices.run [.p m, .p x] Q X = madeX 21 priceOk m x (fun y => Q (.p y) []) X := by
  simp [g_made_prices, pureF_run]
theorem whole_intB {x : P} {a b : Int} (h : ¬ ∃ i, x = .int i) : whole x a b = false := by
  cases x <;> first | rfl | exact absurd ⟨_, rfl⟩ h
/-- what is left of a walk that refuses the first that is not so -/
theorem firstBad_cons {f : P → Bool} {j : Int} {x : P} {xs : List P} : firstBad f j (x :: xs) = if f x = true then firstBad f (j + 1) xs else .int j := rfl
theorem k_made_prices : Keeps [g_asked_many, g_is_number] 4 B_made_prices g_made_prices := keepsF2 fun m x Q X h => by
  replace h : madeX 21 priceOk m x (fun x => Q (.p x)) X := h
  refine seq1 fun K hK => ?_
  cases hw : whole m 0 60 with
  | false =>
    rw [madeX_no hw] at h
    simp [hw]
    exact h
  | true =>
    obtain ⟨i, rfl, h1, h2⟩ := whole_int hw
    simp [hw]
    simp only [madeX, hw, if_true] at h
    refine hK _ (seq1 fun K hK => ?_)
    cases x
    case tup xs =>
      simp only [badIn] at h
      by_cases hm : (xs.length : Int) = i
      · simp [hm] at h ⊢
        refine hK _ (seq1 fun K hK => ?_)
        simp
        refine for_ind (fun its ρ => ∃ (j : Int) (ys : List P) (v2 v3 : Option D), its = enumP j ys ∧ firstBad priceOk j ys = firstBad priceOk 0 xs ∧ ρ = [some (.p (.int i)), some (.p (.tup xs)), v2, v3]) ?_ ?_ _ _ ⟨0, xs, _, _, rfl, rfl, rfl⟩
        · rintro ρ ⟨j, ys, v2, v3, e, hp, rfl⟩
          cases ys
          case cons => cases e
          refine hK _ ?_
          rw [← hp] at h
          simp
          simpa [firstBad, isNon] using h
        · rintro x its ρ k ⟨j, ys, v2, v3, e, hp, rfl⟩ ih
          cases ys with
          | nil => cases e
          | cons y ys =>
            cases e
            rw [firstBad_cons] at hp
            simp
            cases hy : isNum y with
            | false =>
              have e : priceOk y = false := by simp [priceOk, hy]
              rw [e] at hp
              rw [← hp] at h
              simp
              simpa [isNon] using h
            | true =>
              obtain ⟨v, rfl⟩ := isNum_form hy
              have e : priceOk (.int v) = decide (0 ≤ v) := by simp [priceOk]; rfl
              rw [e] at hp
              simp
              by_cases hv : v < 0
              · have : ¬ 0 ≤ v := by omega
                simp [this] at hp
                rw [← hp] at h
                simp [hv]
                simpa [isNon] using h
              · have : 0 ≤ v := by omega
                simp [this] at hp
                simp [hv]
                exact ih _ ⟨_, _, _, _, rfl, hp, rfl⟩
      · simp [hm, isNon] at h ⊢
        exact h
    all_goals
      simp [isTy]
      simpa [badIn, isNon] using h
def g_is_bound : Fn := pureF 1 fun xs Q X => match xs with
  | [x] => Q (.bl (boundOk x))
  | _ => False
@[simp ↓] theorem is_bound_n : g_is_bound.n = 1 := rfl
@[simp ↓] theorem is_bound_lent : g_is_bound.lent = [] := rfl
@[simp ↓] theorem is_bound_run {x : P} {Q : D → List D → Prop} {X : Nat → P → Prop} : g_is_bound.run [.p x] Q X = Q (.p (.bl (boundOk x))) [] := by
  simp [g_is_bound, pureF_run]
theorem non_or_num {x : P} (h : (isNon x || isNum x) = true) : x = .non ∨ ∃ i, x = .int i := by
  cases x <;> simp [isNon, isNum, isTy] at h
  · exact .inl rfl
  · exact .inr ⟨_, rfl⟩
theorem k_is_bound : Keeps [g_is_number] 2 B_is_bound g_is_bound := keepsF1 fun x Q X h => by
  replace h : Q (.p (.bl (boundOk x))) := h
  refine seq1 fun K hK => ?_
  cases x
  case tup xs =>
    rcases xs with _ | ⟨a, _ | ⟨b, _ | ⟨c, xs⟩⟩⟩
    · simp; exact h
    · simp; exact h
    · simp
      refine hK _ (seq1 fun K hK => ?_)
      simp
      refine lc_ind (fun its acc ρ => ∃ done rest : List P, [a, b] = done ++ rest ∧ its = rest ∧ acc = done.map (fun x => P.bl (isNon x || isNum x)) ∧ ρ = [some (.p (.tup [a, b])), none]) ?_ ?_ _ _ _ ⟨[], [a, b], rfl, rfl, rfl, rfl⟩
      · rintro acc ρ ⟨done, rest, hd, e, rfl, rfl⟩
        subst e
        rw [List.append_nil] at hd
        subst hd
        refine allB ?_
        simp
        cases ha : isNon a || isNum a with
        | false =>
          right
          simp at ha
          refine ⟨fun q => ?_, ?_⟩
          · simp [ha.1, ha.2] at q
          · have e : boundOk (.tup [a, b]) = false := by simp [boundOk, ha.1, ha.2]
            rw [e] at h; exact h
        | true =>
          cases hb : isNon b || isNum b with
          | false =>
            right
            simp at hb
            refine ⟨fun _ => hb, ?_⟩
            have e : boundOk (.tup [a, b]) = false := by simp [boundOk, hb.1, hb.2]
            rw [e] at h; exact h
          | true =>
            left
            refine ⟨⟨by simpa using ha, by simpa using hb⟩, hK _ ?_⟩
            have in2 : ∀ {Q : Bool → Prop}, opC .isIn .non (.tup [a, b]) Q = Q (isNon a || isNon b) := by
              intro Q
              rcases non_or_num ha with rfl | ⟨i, rfl⟩ <;> rcases non_or_num hb with rfl | ⟨j, rfl⟩ <;> simp [opC, inO, inS, flat, feq, isNon]
            simp
            rw [in2]
            rcases non_or_num ha with rfl | ⟨i, rfl⟩
            · simp [boundOk, isNon] at h
              rcases non_or_num hb with rfl | ⟨j, rfl⟩ <;> simpa [isNon] using h
            · rcases non_or_num hb with rfl | ⟨j, rfl⟩
              · simpa [isNon, boundOk] using h
              · simp [isNon, boundOk, valI] at h
                simp [isNon, subO, look, subP, atI_0, atI_1]
                exact h
      · rintro x its acc ρ k ⟨done, rest, hd, e, rfl, rfl⟩ ih
        subst e
        simp
        have hdl : done.length < sizeLine := Nat.lt_of_le_of_lt (show done.length ≤ 100 by have := congrArg List.length hd; simp at this; omega) (by decide)
        have nx : k (done.map (fun x => P.bl (isNon x || isNum x)) ++ [.bl (isNon x || isNum x)]) [some (.p (.tup [a, b])), none] := ih _ _ ⟨done ++ [x], its, by rw [hd]; simp, rfl, by simp, rfl⟩
        cases hx : isNon x <;> simp [hx] at nx ⊢ <;> exact ⟨hdl, nx⟩
    · have e : ¬ ((xs.length : Int) + 1 + 1 + 1 = 2) := by omega
      simp [e]
      exact h
  all_goals
    simp [isTy]
    exact h
end PL
set_option linter.all false
set_option maxRecDepth 100000
set_option maxHeartbeats 1000000
namespace PL
open PySem PySem.Spec PyProof.Rows L2 LamX
def g_asked_bounds : Fn := pureF 2 fun xs Q X => match xs with
  | [.int i, x] => if isNon (badIn boundOk x i) = true then Q x else X 22 (badIn boundOk x i)
  | _ => False
@[simp ↓] theorem asked_bounds_n : g_asked_bounds.n = 2 := rfl
@[simp ↓] theorem asked_bounds_lent : g_asked_bounds.lent = [] := rfl
@[simp ↓] theorem asked_bounds_run {i : Int} {x : P} {Q : D → List D → Prop} {X : Nat → P → Prop} : g_asked_bounds.run [.p (.int i), .p x] Q X = if isNon (badIn boundOk x i) = true then Q (.p x) [] else X 22 (badIn boundOk x i) := by
  simp [g_asked_bounds, pureF_run]
theorem k_asked_bounds : Keeps [g_is_bound] 4 B_asked_bounds g_asked_bounds := keepsF2 fun m x Q X h => by
  cases m <;> try exact h.elim
  rename_i i
  replace h : if isNon (badIn boundOk x i) = true then Q (.p x) else X 22 (badIn boundOk x i) := h
  refine seq1 fun K hK => ?_
  cases x
  case tup xs =>
    simp only [badIn] at h
    by_cases hm : (xs.length : Int) = i
    · simp [hm] at h ⊢
      refine hK _ (seq1 fun K hK => ?_)
      simp
      refine for_ind (fun its ρ => ∃ (j : Int) (ys : List P) (v2 v3 : Option D), its = enumP j ys ∧ firstBad boundOk j ys = firstBad boundOk 0 xs ∧ ρ = [some (.p (.int i)), some (.p (.tup xs)), v2, v3]) ?_ ?_ _ _ ⟨0, xs, _, _, rfl, rfl, rfl⟩
      · rintro ρ ⟨j, ys, v2, v3, e, hp, rfl⟩
        cases ys
        case cons => cases e
        refine hK _ ?_
        rw [← hp] at h
        simp
        simpa [firstBad, isNon] using h
      · rintro x its ρ k ⟨j, ys, v2, v3, e, hp, rfl⟩ ih
        cases ys with
        | nil => cases e
        | cons y ys =>
          cases e
          rw [firstBad_cons] at hp
          simp
          cases hy : boundOk y with
          | false =>
            rw [hy] at hp
            rw [← hp] at h
            simp
            simpa [isNon] using h
          | true =>
            rw [hy, if_pos rfl] at hp
            simp
            exact ih _ ⟨_, _, _, _, rfl, hp, rfl⟩
    · simp [hm, isNon] at h ⊢
      exact h
  all_goals
    simp [isTy]
    simpa [badIn, isNon] using h
def g_made_bounds : Fn := pureF 2 fun xs Q X => match xs with
  | [m, x] => madeX 22 boundOk m x Q X
  | _ => False
@[simp ↓] theorem made_bounds_n : g_made_bounds.n = 2 := rfl
@[simp ↓] theorem made_bounds_lent : g_made_bounds.lent = [] := rfl
@[simp ↓] theorem made_bounds_run {m x : P} {Q : D → List D → Prop} {X : Nat → P → Prop} : g_made_bounds.run [.p m, .p x] Q X = madeX 22 boundOk m x (fun y => Q (.p y) []) X := by
  simp [g_made_bounds, pureF_run]
theorem k_made_bounds : Keeps [g_asked_bounds, g_asked_many] 2 B_made_bounds g_made_bounds := keepsF2 fun m x Q X h => by
  replace h : madeX 22 boundOk m x (fun x => Q (.p x)) X := h
  cases hw : whole m 0 60 with
  | false =>
    rw [madeX_no hw] at h
    simp [B_made_bounds, hw]
    exact h
  | true =>
    obtain ⟨i, rfl, h1, h2⟩ := whole_int hw
    simp only [madeX, hw, if_true] at h
    simp [B_made_bounds, hw]
    exact h
/-! ways -/
theorem madeWeb_ok {n : Nat} {ls : List (Nat × Nat)} {ws : List Nat} (h : WebOk n ls ws) {Q : P → Prop} {X : Nat → P → Prop} : madeWeb (webP n ls ws) Q X = Q (webP n ls ws) := by
  unfold madeWeb
  rw [webWhat_ok h]
theorem madeWeb_bad {w : P} (h : webWhat w ≠ .non) {Q Q' : P → Prop} {X : Nat → P → Prop} (hx : madeWeb w Q X) : madeWeb w Q' X := by
  unfold madeWeb at hx ⊢
  rcases webWhat_form w with hw | ⟨y, hw | hw⟩
  · exact absurd hw h
  · rw [hw] at hx ⊢; exact hx
  · rw [hw] at hx ⊢; exact hx
/-- of a web that is none its refusal, else what holds of its parts -/
def ofWeb (w : P) (R : Nat → List (Nat × Nat) → List Nat → Prop) (X : Nat → P → Prop) : Prop :=
  (∃ n ls ws, w = webP n ls ws ∧ WebOk n ls ws ∧ R n ls ws) ∨ (webWhat w ≠ .non ∧ madeWeb w (fun _ => True) X)
def g_is_way : Fn := pureF 2 fun xs Q X => match xs with
  | [w, x] => small x ∧ ofWeb w (fun n ls ws => Q (.bl (placesP n ls ws x).isSome)) X
  | _ => False
@[simp ↓] theorem is_way_n : g_is_way.n = 2 := rfl
@[simp ↓] theorem is_way_lent : g_is_way.lent = [] := rfl
@[simp ↓] theorem is_way_run {w x : P} {Q : D → List D → Prop} {X : Nat → P → Prop} : g_is_way.run [.p w, .p x] Q X = (small x ∧ ofWeb w (fun n ls ws => Q (.p (.bl (placesP n ls ws x).isSome)) []) X) := by
  simp [g_is_way, pureF_run]
theorem isNon_optL {o : Option (List Nat)} : isNon (optL o) = !o.isSome := by cases o <;> rfl
theorem k_is_way : Keeps [g_places_of, g_made_web] 2 B_is_way g_is_way := keepsF2 fun w x Q X h => by
  obtain ⟨hx, h⟩ := h
  rcases h with ⟨n, ls, ws, rfl, hw, h⟩ | ⟨hb, h⟩
  · simp [B_is_way, madeWeb_ok hw]
    refine places_of_run hw hx ?_
    simp [isNon_optL]
    exact h
  · simp [B_is_way]
    exact madeWeb_bad hb h
/-- a row of a book -/
def rowOk (n : Nat) (ls : List (Nat × Nat)) (ws : List Nat) : P → Bool
  | .tup [.str s, y, z] => isNum z && (if s = "way" then (placesP n ls ws y).isSome else (s == "look") && whole y 0 ((ls.length : Int) - 1))
  | _ => false
theorem small_lenP {x : P} (h : lenP 100000 x = true) : small x := by
  cases x <;> simp [small]
  all_goals
    simp [lenP] at h
    omega
def g_is_book_row : Fn := pureF 2 fun xs Q X => match xs with
  | [w, x] => ∃ n ls ws, w = webP n ls ws ∧ WebOk n ls ws ∧ okP x = true ∧ lenP 100000 x = true ∧ Q (.bl (rowOk n ls ws x))
  | _ => False
@[simp ↓] theorem is_book_row_n : g_is_book_row.n = 2 := rfl
@[simp ↓] theorem is_book_row_lent : g_is_book_row.lent = [] := rfl
theorem is_book_row_run {n : Nat} {ls : List (Nat × Nat)} {ws : List Nat} {x : P} {Q : D → List D → Prop} {X : Nat → P → Prop} (hw : WebOk n ls ws) (h1 : okP x = true) (h2 : lenP 100000 x = true) (h : Q (.p (.bl (rowOk n ls ws x))) []) : g_is_book_row.run [.p (webP n ls ws), .p x] Q X := ⟨_, rfl, rfl, n, ls, ws, rfl, hw, h1, h2, h⟩
theorem k_is_book_row : Keeps [g_whole, g_is_number, g_places_of] 2 B_is_book_row g_is_book_row := keepsF2 fun w x Q X h => by
  obtain ⟨n, ls, ws, rfl, hw, ho, hl, h⟩ := h
  refine seq1 fun K hK => ?_
  cases x
  case tup xs =>
    rcases xs with _ | ⟨a, _ | ⟨b, _ | ⟨c, _ | ⟨d, xs⟩⟩⟩⟩
    · simp; exact h
    · simp; simpa [rowOk] using h
    · simp; simpa [rowOk] using h
    · cases a
      case str s =>
        have hs : s.cps.all (· < 0x110000) = true := by simp [okP, okL] at ho ⊢; exact ho.1
        have hb : lenP 100000 b = true := by simp [lenP, lenL] at hl; exact hl.1
        simp [subO, look, subP, atI_0, atI_1, atI_2, isTy]
        cases hc : isNum c with
        | false =>
          simp
          have e : rowOk n ls ws (.tup [.str s, b, c]) = false := by simp [rowOk, hc]
          rw [e] at h; exact h
        | true =>
          simp
          refine hK _ (seq1 fun K hK => ?_)
          simp [subO, look, subP, atI_0, atI_1]
          rw [str_eq hs (by decide +kernel)]
          by_cases hway : s = "way"
          · subst hway
            simp
            refine places_of_run hw (small_lenP hb) ?_
            simp [isNon_optL]
            simpa [rowOk, hc] using h
          · have e1 : (s == ("way" : Str)) = false := by simpa using hway
            rw [e1]
            simp
            refine hK _ ?_
            simp [subO, look, subP, atI_0, atI_1, webP]
            rw [str_eq hs (by decide +kernel)]
            simp [rowOk, hc, hway] at h
            cases hlook : s == ("look" : Str) with
            | false =>
              simp [hlook] at h
              simp
              exact h
            | true =>
              simp [hlook] at h
              simp
              exact h
      all_goals
        simp [subO, look, subP, atI_0, atI_1, isTy]
        exact h
    · have e : ¬ ((xs.length : Int) + 1 + 1 + 1 + 1 = 3) := by omega
      simp [e]
      simpa [rowOk] using h
  all_goals
    simp [isTy]
    exact h
def bookAt (n : Nat) (ls : List (Nat × Nat)) (ws : List Nat) : P → Option (Nat × P)
  | .tup xs => if 60 < xs.length then some (53, .int xs.length) else match firstBad (rowOk n ls ws) 0 xs with
    | .non => none
    | y => some (17, y)
  | _ => some (17, .int (-1))
def g_asked_book : Fn := pureF 2 fun xs Q X => match xs with
  | [w, x] => ∃ n ls ws, w = webP n ls ws ∧ WebOk n ls ws ∧ okP x = true ∧ lenP 100000 x = true ∧ (match bookAt n ls ws x with | none => Q x | some (c, y) => X c y)
  | _ => False
@[simp ↓] theorem asked_book_n : g_asked_book.n = 2 := rfl
@[simp ↓] theorem asked_book_lent : g_asked_book.lent = [] := rfl
theorem asked_book_run {n : Nat} {ls : List (Nat × Nat)} {ws : List Nat} {x : P} {Q : D → List D → Prop} {X : Nat → P → Prop} (hw : WebOk n ls ws) (h1 : okP x = true) (h2 : lenP 100000 x = true) (h : match bookAt n ls ws x with | none => Q (.p x) [] | some (c, y) => X c y) : g_asked_book.run [.p (webP n ls ws), .p x] Q X := ⟨_, rfl, rfl, n, ls, ws, rfl, hw, h1, h2, h⟩
theorem bookAt_tup {n : Nat} {ls : List (Nat × Nat)} {ws : List Nat} {xs : List P} (h : ¬ 60 < xs.length) : (bookAt n ls ws (.tup xs) = none ∧ firstBad (rowOk n ls ws) 0 xs = .non) ∨ ∃ i, bookAt n ls ws (.tup xs) = some (17, .int i) ∧ firstBad (rowOk n ls ws) 0 xs = .int i := by
  unfold bookAt
  simp only [h, if_false]
  rcases firstBad_form (rowOk n ls ws) xs 0 with ⟨h1, _⟩ | ⟨i, h1, _⟩
  · rw [h1]; exact .inl ⟨rfl, rfl⟩
  · rw [h1]; exact .inr ⟨i, rfl, rfl⟩
theorem k_asked_book : Keeps [g_is_book_row] 4 B_asked_book g_asked_book := keepsF2 fun w x Q X h => by
  obtain ⟨n, ls, ws, rfl, hw, ho, hl, h⟩ := h
  refine seq1 fun K hK => ?_
  cases x
  case tup xs =>
    have hos : ∀ x ∈ xs, okP x = true := okL_iff.mp (by simpa [okP] using ho)
    have hls : ∀ x ∈ xs, lenP 100000 x = true := lenL_iff.mp (by simp [lenP] at hl; exact hl.2)
    simp
    refine hK _ (seq1 fun K hK => ?_)
    by_cases h60 : 60 < xs.length
    · have h60' : (60 : Int) < xs.length := by omega
      simp [h60']
      simpa [bookAt, h60] using h
    · have h60' : ¬ (60 : Int) < xs.length := by omega
      simp [h60']
      refine hK _ (seq1 fun K hK => ?_)
      simp
      refine for_ind (fun its ρ => ∃ (j : Int) (ys : List P) (v2 v3 : Option D), its = enumP j ys ∧ (∀ y ∈ ys, y ∈ xs) ∧ firstBad (rowOk n ls ws) j ys = firstBad (rowOk n ls ws) 0 xs ∧ ρ = [some (.p (webP n ls ws)), some (.p (.tup xs)), v2, v3]) ?_ ?_ _ _ ⟨0, xs, _, _, rfl, fun _ h => h, rfl, rfl⟩
      · rintro ρ ⟨j, ys, v2, v3, e, _, hp, rfl⟩
        cases ys
        case cons => cases e
        refine hK _ ?_
        simp
        rcases bookAt_tup (n := n) (ls := ls) (ws := ws) h60 with ⟨e1, _⟩ | ⟨i, _, e2⟩
        · rw [e1] at h; exact h
        · rw [e2] at hp; cases hp
      · rintro x its ρ k ⟨j, ys, v2, v3, e, hm, hp, rfl⟩ ih
        cases ys with
        | nil => cases e
        | cons y ys =>
          cases e
          rw [firstBad_cons] at hp
          have hy := hm y (by simp)
          simp
          refine is_book_row_run hw (hos y hy) (hls y hy) ?_
          cases hr : rowOk n ls ws y with
          | false =>
            rw [hr, if_neg Bool.false_ne_true] at hp
            rcases bookAt_tup (n := n) (ls := ls) (ws := ws) h60 with ⟨_, e2⟩ | ⟨i, e1, e2⟩
            · rw [e2] at hp; cases hp
            · rw [e2] at hp
              cases hp
              rw [e1] at h
              simp
              exact h
          | true =>
            rw [hr, if_pos rfl] at hp
            simp
            exact ih _ ⟨_, _, _, _, rfl, fun z hz => hm z (List.mem_cons_of_mem _ hz), hp, rfl⟩
  all_goals
    simp [isTy]
    exact h
def g_made_book : Fn := pureF 2 fun xs Q X => match xs with
  | [w, x] => okP x = true ∧ lenP 100000 x = true ∧ ofWeb w (fun n ls ws => match bookAt n ls ws x with | none => Q x | some (c, y) => X c y) X
  | _ => False
@[simp ↓] theorem made_book_n : g_made_book.n = 2 := rfl
@[simp ↓] theorem made_book_lent : g_made_book.lent = [] := rfl
theorem made_book_run {w x : P} {Q : D → List D → Prop} {X : Nat → P → Prop} (h1 : okP x = true) (h2 : lenP 100000 x = true) (h : ofWeb w (fun n ls ws => match bookAt n ls ws x with | none => Q (.p x) [] | some (c, y) => X c y) X) : g_made_book.run [.p w, .p x] Q X := ⟨_, rfl, rfl, h1, h2, h⟩
theorem k_made_book : Keeps [g_asked_book, g_made_web] 2 B_made_book g_made_book := keepsF2 fun w x Q X h => by
  obtain ⟨h1, h2, h⟩ := h
  rcases h with ⟨n, ls, ws, rfl, hw, h⟩ | ⟨hb, h⟩
  · simp [B_made_book, madeWeb_ok hw]
    exact asked_book_run hw h1 h2 h
  · simp [B_made_book]
    exact madeWeb_bad hb h
end PL
set_option linter.all false
set_option maxRecDepth 100000
set_option maxHeartbeats 1000000
namespace PL
open PySem PySem.Spec PyProof.Rows L2 LamX
/-! The law's own words of ways. -/
theorem addNew_len (l : List Int) (k : Int) : (addNew l k).length ≤ l.length + 1 := by
  unfold addNew
  split <;> simp
theorem dedup_full : ∀ (ns acc : List Int), acc.Nodup → ((ns.foldl addNew acc).length = acc.length + ns.length ↔ (acc ++ ns).Nodup) ∧ (ns.foldl addNew acc).length ≤ acc.length + ns.length
  | [], acc, h => by simp [h]
  | n :: ns, acc, h => by
    by_cases hn : n ∈ acc
    · have e : addNew acc n = acc := by
        have q : (acc.any (· == n)) = true := List.any_eq_true.mpr ⟨n, hn, beq_self_eq_true _⟩
        unfold addNew
        rw [if_pos q]
      obtain ⟨h1, h2⟩ := dedup_full ns acc h
      have e2 : (n :: ns).foldl addNew acc = ns.foldl addNew acc := by rw [List.foldl_cons, e]
      rw [e2]
      refine ⟨⟨fun q => by simp at q; omega, fun q => ?_⟩, by simp; omega⟩
      have := (List.nodup_append.mp q).2.2 n hn n (by simp)
      exact absurd rfl this
    · have e : addNew acc n = acc ++ [n] := by
        unfold addNew
        rw [if_neg fun q => by
          obtain ⟨x, hx, e⟩ := List.any_eq_true.mp q
          exact hn (eq_of_beq e ▸ hx)]
      have hd : (acc ++ [n]).Nodup := List.nodup_append.mpr ⟨h, by simp, fun a ha b hb e => by
        have e2 : b = n := by simpa using hb
        rw [e2] at e
        exact hn (e ▸ ha)⟩
      obtain ⟨h1, h2⟩ := dedup_full ns (acc ++ [n]) hd
      have e2 : (n :: ns).foldl addNew acc = ns.foldl addNew (acc ++ [n]) := by rw [List.foldl_cons, e]
      rw [e2]
      have e3 : (acc ++ [n]).length + ns.length = acc.length + (n :: ns).length := by simp; omega
      rw [← e3]
      refine ⟨?_, h2⟩
      rw [h1, List.append_assoc]
      rfl
theorem dedup_len {ns : List Int} : ((dedupI ns).length : Int) = (ns.length : Int) ↔ ns.Nodup := by
  have := (dedup_full ns [] List.nodup_nil).1
  simp at this
  rw [← this]
  unfold dedupI
  omega
theorem nodup_ints {ns : List Nat} : (ns.map fun (k : Nat) => (k : Int)).Nodup ↔ ns.Nodup := by
  unfold List.Nodup
  rw [List.pairwise_map]
  constructor <;> intro h <;> exact h.imp fun {a b} hab e => hab (by omega)
def g_law_vp_other : Fn := pureF 2 fun xs Q X => match xs with
  | [k, p] => ∃ (l : Nat × Nat) (a : Nat), k = lnkP l ∧ p = .int a ∧ (a = l.1 ∨ a = l.2) ∧ Q (.int ((l.1 + l.2 - a : Nat)))
  | _ => False
@[simp ↓] theorem other_n : g_law_vp_other.n = 2 := rfl
@[simp ↓] theorem other_lent : g_law_vp_other.lent = [] := rfl
theorem other_run {l : Nat × Nat} {a : Nat} {Q : D → List D → Prop} {X : Nat → P → Prop} (h : a = l.1 ∨ a = l.2) (q : Q (.p (.int ((l.1 + l.2 - a : Nat)))) []) : g_law_vp_other.run [.p (lnkP l), .p (.int (a : Nat))] Q X := ⟨_, rfl, rfl, l, a, rfl, rfl, h, q⟩
theorem k_law_vp_other : Keeps [] 2 B_law_vp_other g_law_vp_other := keepsF2 fun k p Q X h => by
  obtain ⟨⟨b, c⟩, a, rfl, rfl, h, q⟩ := h
  simp at h q
  simp [B_law_vp_other, lnkP, subO, look, subP, atI_0, atI_1]
  by_cases e : b = a
  · subst e
    have : b + c - b = c := by omega
    rw [this] at q
    rw [if_pos rfl]
    exact q
  · have e' : ¬ ((b : Int) = (a : Int)) := by omega
    have : a = c := by omega
    subst this
    have : b + a - a = b := by omega
    rw [this] at q
    rw [if_neg e']
    exact q
def optT : Option (List Nat) → P
  | some r => .tup (r.map natP)
  | none => .non
def g_law_vp_walked : Fn := pureF 3 fun xs Q X => match xs with
  | [r, w, f] => ∃ (ls : List (Nat × Nat)) (ks : List Nat) (s : Nat), r = .tup (ls.map lnkP) ∧ w = .tup (ks.map natP) ∧ f = .int s ∧ (∀ k ∈ ks, k < ls.length) ∧ ks.length ≤ 100000 ∧ Q (optT (wFrom ls ks [s] s))
  | _ => False
@[simp ↓] theorem walked_n : g_law_vp_walked.n = 3 := rfl
@[simp ↓] theorem walked_lent : g_law_vp_walked.lent = [] := rfl
theorem walked_run {ls : List (Nat × Nat)} {ks : List Nat} {s : Nat} {Q : D → List D → Prop} {X : Nat → P → Prop} (hk : ∀ k ∈ ks, k < ls.length) (hl : ks.length ≤ 100000) (h : Q (.p (optT (wFrom ls ks [s] s))) []) : g_law_vp_walked.run [.p (.tup (ls.map lnkP)), .p (.tup (ks.map natP)), .p (.int (s : Nat))] Q X :=
  ⟨_, rfl, rfl, ls, ks, s, rfl, rfl, rfl, hk, hl, h⟩
theorem wFrom_cons {ls : List (Nat × Nat)} {i last : Nat} {way found : List Nat} {l : Nat × Nat} (h : ls[i]? = some l) : wFrom ls (i :: way) found last = if last = l.1 ∨ last = l.2 then wFrom ls way (found ++ [l.1 + l.2 - last]) (l.1 + l.2 - last) else none := by
  rw [wFrom, h]
theorem k_law_vp_walked : Keeps [g_law_vp_other] 5 B_law_vp_walked g_law_vp_walked := keepsF3 fun r w f Q X h => by
  obtain ⟨ls, ks, s, rfl, rfl, rfl, hk, hlen, h⟩ := h
  have z : 1000000 < sizeLine := by decide
  refine seq1 fun K hK => ?_
  simp [sizeLine]
  refine hK _ (seq1 fun K hK => ?_)
  simp
  refine for_ind (fun its ρ => ∃ (ks' pre : List Nat) (last : Nat) (v4 : Option D), its = ks'.map natP ∧ (∀ k ∈ ks', k < ls.length) ∧ pre.length + ks'.length ≤ ks.length ∧ wFrom ls ks' (pre ++ [last]) last = wFrom ls ks [s] s ∧ ρ = [some (.p (.tup (ls.map lnkP))), some (.p (.tup (ks.map natP))), some (.p (.int s)), some (.lst ((pre ++ [last]).map natP)), v4]) ?_ ?_ _ _ ⟨ks, [], s, _, rfl, hk, by simp, rfl, rfl⟩
  · rintro ρ ⟨ks', pre, last, v4, e, _, _, hp, rfl⟩
    cases ks'
    case cons => cases e
    refine hK _ ?_
    simp only [wFrom] at hp
    rw [← hp] at h
    simp
    simpa [optT] using h
  · rintro x its ρ k ⟨ks', pre, last, v4, e, hk', hl', hp, rfl⟩ ih
    cases ks' with
    | nil => cases e
    | cons i ks' =>
      cases e
      have hi := hk' i (by simp)
      have hgi : ls[i]? = some ls[i] := List.getElem?_eq_getElem hi
      generalize ls[i] = l at hgi
      simp at hl'
      simp only [tgS_name]
      refine ⟨by simp, by simp, ?_⟩
      refine seq1 fun K hK => ?_
      have al : L2.atI (pre.map natP ++ [P.int (last : Nat)]) (-1) = some (.int (last : Nat)) := atI_last
      simp [subO, look, subP, natP, lnk_get hgi, al]
      rw [show lnkP l = .tup [.int (l.1 : Nat), .int (l.2 : Nat)] from rfl, notIn_two]
      rw [wFrom_cons hgi] at hp
      by_cases hc : last = l.1 ∨ last = l.2
      · rw [if_pos hc] at hp
        simp [hc]
        refine hK _ (seq1 fun K hK => ?_)
        simp [subO, look, subP, al, mthA, mthS, lnk_get hgi]
        refine other_run hc ?_
        simp
        refine ⟨by omega, hK _ ?_⟩
        simp
        exact ih _ ⟨ks', pre ++ [last], l.1 + l.2 - last, _, rfl, fun k hk => hk' k (List.mem_cons_of_mem _ hk), by simp; omega, hp, by rw [List.append_assoc, List.map_append]; rfl⟩
      · rw [if_neg hc] at hp
        rw [← hp] at h
        simp [hc]
        exact h
end PL
namespace PL
open PySem PySem.Spec PyProof.Rows L2 LamX
theorem tryFrom_iff {ls : List (Nat × Nat)} {ws way : List Nat} {s : Nat} {r : List Nat} : tryFrom ls ws way s = some r ↔ wFrom ls way [s] s = some r ∧ r.Nodup ∧ isLed ws r = true := by
  unfold tryFrom
  cases hp : pFrom ls way [s] s with
  | none =>
    simp
    intro h hn
    have := (pFrom_iff (by simp)).mpr ⟨h, hn⟩
    rw [hp] at this
    cases this
  | some q =>
    have hq := (pFrom_iff (by simp)).mp hp
    simp only
    constructor
    · intro h
      split at h
      · cases h; exact ⟨hq.1, hq.2, by assumption⟩
      · cases h
    · rintro ⟨h1, h2, h3⟩
      rw [hq.1] at h1
      cases h1
      rw [if_pos h3]
theorem placesOf_some {n : Nat} {ls : List (Nat × Nat)} {ws ks : List Nat} {i : Nat} {l : Nat × Nat} (hw : WebOk n ls ws) (hi : ls[i]? = some l) : placesOf n ls ws (i :: ks) = firstTry ls ws (i :: ks) [l.1, l.2] := by
  simp only [placesOf, hi]
  by_cases hl : (i :: ks).length < max n 1
  · rw [if_pos hl]
  · rw [if_neg hl]
    have hm := hw.hl l (List.mem_of_getElem? hi)
    have no : ∀ s, s < n → tryFrom ls ws (i :: ks) s = none := fun s hs => by
      cases h : tryFrom ls ws (i :: ks) s with
      | none => rfl
      | some r =>
        obtain ⟨h1, h2, _⟩ := tryFrom_iff.mp h
        have hlt := wFrom_lt hw.hl (fun a ha => by simp at ha; omega) h1
        obtain ⟨t, h4, h5⟩ := wFrom_pre h1
        have := nodup_lt h2 hlt
        rw [h4] at this
        simp at this h5 hl
        omega
    simp only [firstTry, no l.1 (by omega), no l.2 (by omega)]
def g_law_vp_is_way : Fn := pureF 2 fun xs Q X => match xs with
  | [w, x] => ∃ n ls ws, w = webP n ls ws ∧ WebOk n ls ws ∧ okP x = true ∧ lenP 3000 x = true ∧ Q (.bl (placesP n ls ws x).isSome)
  | _ => False
@[simp ↓] theorem law_is_way_n : g_law_vp_is_way.n = 2 := rfl
@[simp ↓] theorem law_is_way_lent : g_law_vp_is_way.lent = [] := rfl
theorem law_is_way_run {n : Nat} {ls : List (Nat × Nat)} {ws : List Nat} {x : P} {Q : D → List D → Prop} {X : Nat → P → Prop} (hw : WebOk n ls ws) (h1 : okP x = true) (h2 : lenP 3000 x = true) (h : Q (.p (.bl (placesP n ls ws x).isSome)) []) : g_law_vp_is_way.run [.p (webP n ls ws), .p x] Q X := ⟨_, rfl, rfl, n, ls, ws, rfl, hw, h1, h2, h⟩
/-- those of a list that are not so -/
theorem filter_nil_iff {f : P → Bool} {xs : List P} : (xs.filter fun x => !f x) = [] ↔ xs.all f = true := by
  rw [List.filter_eq_nil_iff, List.all_eq_true]
  simp
theorem isLed_cons {ws t pre : List Nat} {s z : Nat} (ez : s :: t = pre ++ [z]) : isLed ws (s :: t) = (decide (s ∈ ws) && (decide (z ∈ ws) && (decide (s < z) && (t.dropLast.all fun p => !decide (p ∈ ws))))) := by
  unfold isLed
  simp only
  rw [ez]
  simp
theorem eq_nilL {xs : List P} {Q : Bool → Prop} (h : okL xs = true) : opC .eq (.lst xs) (.lst []) Q = Q xs.isEmpty := by
  have e : eqOk (.lst xs) (.lst []) = true := by
    simp [eqOk, okP, h, okL, dep, depL]
  show (eqOk _ _ = true ∧ Q (peq _ _)) = _
  rw [e]
  cases xs <;> simp [peq, peqL]
@[simp] theorem bltS_lensetT {xs : List P} {Q : D → Prop} : bltS .lenset [.tup xs] Q = ∃ ns, intsP xs = some ns ∧ ns.length < 4000 ∧ Q (.p (.int (dedupI ns).length)) := rfl
theorem lensetN {r : List Nat} {Q : D → Prop} (h : r.length < 4000) (q : Q (.p (.int (dedupI (r.map fun (k : Nat) => (k : Int))).length))) : ∃ ns, intsP (r.map natP) = some ns ∧ ns.length < 4000 ∧ Q (.p (.int (dedupI ns).length)) := ⟨_, intsP_nat, by simpa using h, q⟩
theorem k_law_vp_is_way : Keeps [g_law_vp_walked, g_whole] 9 B_law_vp_is_way g_law_vp_is_way := keepsF2 fun w x Q X h => by
  obtain ⟨n, ls, ws, rfl, hw, ho, hl, h⟩ := h
  refine seq1 fun K hK => ?_
  simp [webP]
  refine hK _ (seq1 fun K hK => ?_)
  cases x
  case tup xs =>
    have hok : okL xs = true := by simpa [okP] using ho
    have hlen : xs.length ≤ 3000 := by simp [lenP] at hl; exact hl.1
    simp
    rw [eq_nilT hok]
    cases hne : xs with
    | nil =>
      subst hne
      simp
      exact h
    | cons x0 xr =>
      rw [← hne]
      have h0 : xs.isEmpty = false := by rw [hne]; rfl
      have h0' : xs ≠ [] := by rw [hne]; simp
      clear hne
      rw [h0]
      simp
      refine hK _ (seq1 fun K hK => ?_)
      simp
      refine lc_ind (fun its acc ρ => ∃ done rest : List P, xs = done ++ rest ∧ its = rest ∧ acc = (done.filter fun x => !whole x 0 ((ls.length : Int) - 1)) ∧ ρ = [some (D.p (P.tup [P.int ↑n, P.tup (List.map lnkP ls), P.tup (List.map natP ws)])), some (D.p (P.tup xs)), some (D.p (P.int ↑n)), some (D.p (P.tup (List.map lnkP ls))), some (D.p (P.tup (List.map natP ws))), none, none, none, none]) ?_ ?_ _ _ _ ⟨[], xs, rfl, rfl, rfl, rfl⟩
      · rintro acc ρ ⟨done, rest, hd, e, rfl, rfl⟩
        subst e
        rw [List.append_nil] at hd
        subst hd
        rw [ne_nil (okL_iff.mpr fun x hx => okL_iff.mp hok x (List.mem_filter.mp hx).1)]
        cases hall : xs.all fun x => whole x 0 ((ls.length : Int) - 1) with
        | false =>
          have e : placesP n ls ws (.tup xs) = none := by
            unfold placesP natsIn
            simp only [hall]
            rfl
          rw [e] at h
          have e2 : (xs.filter fun x => !whole x 0 ((ls.length : Int) - 1)).isEmpty = false := by
            rw [List.isEmpty_eq_false_iff]
            intro z
            rw [filter_nil_iff.mp z] at hall
            cases hall
          rw [e2]
          simp
          exact h
        | true =>
          have e2 : (xs.filter fun x => !whole x 0 ((ls.length : Int) - 1)).isEmpty = true := by
            rw [List.isEmpty_iff]
            exact filter_nil_iff.mpr hall
          rw [e2]
          have hks : natsIn ls.length (.tup xs) = some (xs.map fun x => (valI x).toNat) := by
            unfold natsIn
            simp only [hall, if_true]
          obtain ⟨exs, hlt⟩ := natsIn_some hks
          generalize (xs.map fun x => (valI x).toNat) = ks at hks exs hlt
          simp only [P.tup.injEq] at exs
          subst exs
          cases ks with
          | nil => exact absurd rfl h0'
          | cons i ks =>
            have hi := hlt i (by simp)
            have hgi : ls[i]? = some ls[i] := List.getElem?_eq_getElem hi
            generalize ls[i] = l at hgi
            have ep : placesP n ls ws (.tup ((i :: ks).map natP)) = firstTry ls ws (i :: ks) [l.1, l.2] := by
              unfold placesP
              rw [hks]
              exact placesOf_some hw hgi
            rw [ep] at h
            simp
            refine hK _ (seq1 fun K hK => ?_)
            simp [subO, look, subP, atI_0, natP, lnk_get hgi, lnkP]
            have hwl : (i :: ks).length ≤ 3000 := by simpa using hlen
            have ew : P.tup (P.int (i : Nat) :: ks.map natP) = .tup ((i :: ks).map natP) := rfl
            rw [ew]
            generalize i :: ks = way at *
            refine for_ind (fun its ρ => ∃ (st : List Nat) (v6 v7 : Option D), its = st.map natP ∧ firstTry ls ws way st = firstTry ls ws way [l.1, l.2] ∧ ρ = [some (D.p (P.tup [P.int ↑n, P.tup (List.map lnkP ls), P.tup (List.map natP ws)])), some (D.p (P.tup (way.map natP))), some (D.p (P.int ↑n)), some (D.p (P.tup (List.map lnkP ls))), some (D.p (P.tup (List.map natP ws))), none, v6, v7, none]) ?_ ?_ _ _ ⟨[l.1, l.2], _, _, rfl, rfl, rfl⟩
            · rintro ρ ⟨st, v6, v7, e, hs, rfl⟩
              cases st
              case cons => cases e
              refine hK _ ?_
              simp
              rw [← hs] at h
              exact h
            · rintro x its ρ k ⟨st, v6, v7, e, hs, rfl⟩ ih
              cases st with
              | nil => cases e
              | cons s st =>
                cases e
                simp only [tgS_name]
                refine ⟨by simp, by simp, ?_⟩
                refine seq1 fun K hK => ?_
                simp
                refine walked_run hlt (Nat.le_trans hwl (by decide)) ?_
                simp
                refine hK _ (seq1 fun K hK => ?_)
                -- the next start
                have next : tryFrom ls ws way s = none → ∀ v7, k [some (D.p (P.tup [P.int ↑n, P.tup (List.map lnkP ls), P.tup (List.map natP ws)])), some (D.p (P.tup (way.map natP))), some (D.p (P.int ↑n)), some (D.p (P.tup (List.map lnkP ls))), some (D.p (P.tup (List.map natP ws))), none, some (D.p (natP s)), v7, none] := fun et v7 => by
                  refine ih _ ⟨st, _, _, rfl, ?_, rfl⟩
                  rw [← hs, firstTry, et]
                have tno : ∀ {r}, wFrom ls way [s] s = some r → ¬ (r.Nodup ∧ isLed ws r = true) → tryFrom ls ws way s = none := fun {r} e q => by
                  cases ht : tryFrom ls ws way s with
                  | none => rfl
                  | some r' =>
                    obtain ⟨h1, h2, h3⟩ := tryFrom_iff.mp ht
                    rw [e] at h1
                    cases h1
                    exact absurd ⟨h2, h3⟩ q
                cases hp : wFrom ls way [s] s with
                | none =>
                  have et : tryFrom ls ws way s = none := by
                    cases ht : tryFrom ls ws way s with
                    | none => rfl
                    | some r' =>
                      have := (tryFrom_iff.mp ht).1
                      rw [hp] at this
                      cases this
                  simp [optT, isNon]
                  refine hK _ ?_
                  simp
                  exact next et _
                | some r =>
                  obtain ⟨t, h1, h2⟩ := wFrom_pre hp
                  have h1 : r = s :: t := h1
                  subst h1
                  obtain ⟨pre, z, ez⟩ : ∃ pre z, s :: t = pre ++ [z] := ⟨(s :: t).dropLast, (s :: t).getLast (by simp), (List.dropLast_concat_getLast (by simp)).symm⟩
                  have al : L2.atI ((s :: t).map natP) (-1) = some (.int (z : Nat)) := by
                    rw [ez, List.map_append]
                    exact atI_last
                  have emid : cutP ((s :: t).map natP) (some 1) (some (-1)) = t.dropLast.map natP := by
                    rw [cut_mid]
                    cases t with
                    | nil => rfl
                    | cons b l => simp [natP, List.dropLast]
                  have hled := isLed_cons (ws := ws) ez
                  have hrl : (s :: t).length < 4000 := by simp; omega
                  have hno := tno hp
                  have elen : ((s :: t).map natP).length = (s :: t).length := by simp
                  have els := fun Q q => lensetN (r := s :: t) (Q := Q) hrl q
                  generalize hP : (s :: t).map natP = places at *
                  have el : optT (some (s :: t)) = .tup places := by rw [← hP]; rfl
                  rw [el]
                  simp [isNon, subO, look, subP, al, natP]
                  rw [isIn_natsT]
                  by_cases c1 : s ∈ ws
                  case neg =>
                    simp [c1]
                    refine hK _ ?_
                    simp
                    exact next (hno (by simp [hled, c1])) _
                  simp [c1]
                  rw [isIn_natsT]
                  by_cases c2 : z ∈ ws
                  case neg =>
                    simp [c2]
                    refine hK _ ?_
                    simp
                    exact next (hno (by simp [hled, c2])) _
                  simp [c2]
                  by_cases c3 : s < z
                  case neg =>
                    rw [if_neg c3]
                    refine hK _ ?_
                    simp
                    exact next (hno (by simp [hled, c3])) _
                  rw [if_pos c3]
                  refine ⟨(s :: t).map (fun (k : Nat) => (k : Int)), by rw [← hP]; exact intsP_nat, by simpa using hrl, ?_⟩
                  have eln : (((dedupI ((s :: t).map fun (k : Nat) => (k : Int))).length : Int) = (places.length : Int)) ↔ (s :: t).Nodup := by
                    rw [elen, ← nodup_ints, ← dedup_len]
                    simp
                  by_cases c4 : (s :: t).Nodup
                  case neg =>
                    rw [if_neg (fun z => c4 (eln.mp z))]
                    refine hK _ ?_
                    simp
                    exact next (hno fun z => c4 z.1) _
                  rw [if_pos (eln.mpr c4), emid]
                  refine lc_ind (fun its acc ρ => ∃ (done rest : List Nat), its = rest.map natP ∧ t.dropLast = done ++ rest ∧ acc = (done.filter (fun p => decide (p ∈ ws))).map natP ∧ ρ = [some (D.p (P.tup [P.int ↑n, P.tup (List.map lnkP ls), P.tup (List.map natP ws)])), some (D.p (P.tup (List.map natP way))), some (D.p (P.int ↑n)), some (D.p (P.tup (List.map lnkP ls))), some (D.p (P.tup (List.map natP ws))), none, some (D.p (P.int ↑s)), some (D.p (P.tup places)), none]) ?_ ?_ _ _ _ ⟨[], t.dropLast, rfl, rfl, rfl, rfl⟩
                  · rintro acc ρ ⟨done, rest, e, hd, rfl, rfl⟩
                    cases rest
                    case cons => cases e
                    rw [List.append_nil] at hd
                    rw [← hd, eq_nilL okL_nats]
                    cases c5 : t.dropLast.all fun p => !decide (p ∈ ws) with
                    | false =>
                      have e1 : ((t.dropLast.filter fun p => decide (p ∈ ws)).map natP).isEmpty = false := by
                        rw [List.isEmpty_eq_false_iff]
                        intro z
                        have z2 := List.map_eq_nil_iff.mp z
                        rw [List.filter_eq_nil_iff] at z2
                        have : (t.dropLast.all fun p => !decide (p ∈ ws)) = true := List.all_eq_true.mpr fun p hp => by simpa using z2 p hp
                        rw [this] at c5
                        cases c5
                      rw [e1]
                      simp
                      refine hK _ ?_
                      simp
                      exact next (hno (by rw [hled, c5]; simp)) _
                    | true =>
                      have e1 : ((t.dropLast.filter fun p => decide (p ∈ ws)).map natP).isEmpty = true := by
                        rw [List.isEmpty_iff, List.map_eq_nil_iff, List.filter_eq_nil_iff]
                        intro p hp
                        have := List.all_eq_true.mp c5 p hp
                        simpa using this
                      rw [e1]
                      simp
                      have ht : tryFrom ls ws way s = some (s :: t) := tryFrom_iff.mpr ⟨hp, c4, by rw [hled, c5]; simp [c1, c2, c3]⟩
                      rw [firstTry, ht] at hs
                      rw [← hs] at h
                      exact h
                  · rintro x its acc ρ k ⟨done, rest, e, hd, rfl, rfl⟩ ih2
                    cases rest with
                    | nil => cases e
                    | cons y rest =>
                      cases e
                      simp [natP]
                      rw [isIn_natsT]
                      have hdl : (done.filter fun p => decide (p ∈ ws)).length < sizeLine := by
                        have h3 := List.length_filter_le (fun p => decide (p ∈ ws)) done
                        have h4 := congrArg List.length hd
                        simp at h4 h2
                        exact Nat.lt_of_le_of_lt (show _ ≤ 100000 by omega) (by decide)
                      by_cases hy : y ∈ ws
                      · simp [hy]
                        exact ⟨hdl, ih2 _ _ ⟨done ++ [y], rest, rfl, by rw [hd]; simp, by rw [List.filter_append, List.map_append]; simp [hy, natP], rfl⟩⟩
                      · simp [hy]
                        exact ih2 _ _ ⟨done ++ [y], rest, rfl, by rw [hd]; simp, by rw [List.filter_append]; simp [hy], rfl⟩
      · rintro x its acc ρ k ⟨done, rest, hd, e, rfl, rfl⟩ ih
        subst e
        simp only [tgS_name]
        refine ⟨by simp, by simp, ?_⟩
        simp
        have hdl : (done.filter fun x => !whole x 0 ((ls.length : Int) - 1)).length < sizeLine := Nat.lt_of_le_of_lt (Nat.le_trans (List.length_filter_le _ _) (show done.length ≤ 100000 by have := congrArg List.length hd; simp at this; omega)) (by decide)
        have e1 : xs = done ++ [x] ++ its := by rw [hd]; simp
        cases hx : whole x 0 ((ls.length : Int) - 1) with
        | false =>
          simp
          exact ⟨hdl, ih _ _ ⟨done ++ [x], its, e1, rfl, by rw [List.filter_append]; simp [hx], rfl⟩⟩
        | true =>
          simp
          exact ih _ _ ⟨done ++ [x], its, e1, rfl, by rw [List.filter_append]; simp [hx], rfl⟩
  all_goals
    simp [isTy]
    exact h
end PL
set_option linter.all false
set_option maxRecDepth 100000
set_option maxHeartbeats 1000000
namespace PL
open PySem PySem.Spec PyProof.Rows L2 LamX
def g_law_f2_is_row : Fn := pureF 2 fun xs Q X => match xs with
  | [w, x] => ∃ n ls ws, w = webP n ls ws ∧ WebOk n ls ws ∧ okP x = true ∧ lenP 3000 x = true ∧ Q (.bl (rowOk n ls ws x))
  | _ => False
@[simp ↓] theorem is_row_n : g_law_f2_is_row.n = 2 := rfl
@[simp ↓] theorem is_row_lent : g_law_f2_is_row.lent = [] := rfl
theorem is_row_run {n : Nat} {ls : List (Nat × Nat)} {ws : List Nat} {x : P} {Q : D → List D → Prop} {X : Nat → P → Prop} (hw : WebOk n ls ws) (h1 : okP x = true) (h2 : lenP 3000 x = true) (h : Q (.p (.bl (rowOk n ls ws x))) []) : g_law_f2_is_row.run [.p (webP n ls ws), .p x] Q X := ⟨_, rfl, rfl, n, ls, ws, rfl, hw, h1, h2, h⟩
theorem k_law_f2_is_row : Keeps [g_is_number, g_law_vp_is_way, g_whole] 2 B_law_f2_is_row g_law_f2_is_row := keepsF2 fun w x Q X h => by
  obtain ⟨n, ls, ws, rfl, hw, ho, hl, h⟩ := h
  refine seq1 fun K hK => ?_
  cases x
  case tup xs =>
    rcases xs with _ | ⟨a, _ | ⟨b, _ | ⟨c, _ | ⟨d, xs⟩⟩⟩⟩
    · simp; exact h
    · simp; simpa [rowOk] using h
    · simp; simpa [rowOk] using h
    · cases a
      case str s =>
        have hs : s.cps.all (· < 0x110000) = true := by simp [okP, okL] at ho ⊢; exact ho.1
        have hbo : okP b = true := by simp [okP, okL] at ho; exact ho.2.1
        have hb : lenP 3000 b = true := by simp [lenP, lenL] at hl; exact hl.1
        simp [subO, look, subP, atI_0, atI_1, atI_2, isTy]
        refine hK _ (seq1 fun K hK => ?_)
        simp [subO, look, subP, atI_0, atI_1, atI_2]
        cases hc : isNum c with
        | false =>
          simp
          have e : rowOk n ls ws (.tup [.str s, b, c]) = false := by simp [rowOk, hc]
          rw [e] at h; exact h
        | true =>
          simp
          refine hK _ (seq1 fun K hK => ?_)
          simp [subO, look, subP, atI_0, atI_1]
          rw [str_eq hs (by decide +kernel)]
          by_cases hway : s = "way"
          · subst hway
            simp
            refine law_is_way_run hw hbo hb ?_
            simpa [rowOk, hc] using h
          · have e1 : (s == ("way" : Str)) = false := by simpa using hway
            rw [e1]
            simp
            refine hK _ ?_
            simp [subO, look, subP, atI_0, atI_1, webP]
            rw [str_eq hs (by decide +kernel)]
            simp [rowOk, hc, hway] at h
            cases hlook : s == ("look" : Str) with
            | false =>
              simp [hlook] at h
              simp
              exact h
            | true =>
              simp [hlook] at h
              simp
              exact h
      all_goals
        simp [subO, look, subP, atI_0, atI_1, isTy]
        exact h
    · have e : ¬ ((xs.length : Int) + 1 + 1 + 1 + 1 = 3) := by omega
      simp [e]
      simpa [rowOk] using h
  all_goals
    simp [isTy]
    exact h
/-- what is wrong with a book -/
def bookWhat (n : Nat) (ls : List (Nat × Nat)) (ws : List Nat) (x : P) : P :=
  match bookAt n ls ws x with
  | none => .non
  | some (c, y) => .tup [.str (if c = 53 then "TooMany" else "BadBook"), y]
def g_law_f2_book_fault : Fn := pureF 2 fun xs Q X => match xs with
  | [w, x] => ∃ n ls ws, w = webP n ls ws ∧ WebOk n ls ws ∧ okP x = true ∧ lenP 3000 x = true ∧ Q (bookWhat n ls ws x)
  | _ => False
@[simp ↓] theorem book_fault_n : g_law_f2_book_fault.n = 2 := rfl
@[simp ↓] theorem book_fault_lent : g_law_f2_book_fault.lent = [] := rfl
theorem book_fault_run {n : Nat} {ls : List (Nat × Nat)} {ws : List Nat} {x : P} {Q : D → List D → Prop} {X : Nat → P → Prop} (hw : WebOk n ls ws) (h1 : okP x = true) (h2 : lenP 3000 x = true) (h : Q (.p (bookWhat n ls ws x)) []) : g_law_f2_book_fault.run [.p (webP n ls ws), .p x] Q X := ⟨_, rfl, rfl, n, ls, ws, rfl, hw, h1, h2, h⟩
theorem k_law_f2_book_fault : Keeps [g_law_f2_is_row] 4 B_law_f2_book_fault g_law_f2_book_fault := keepsF2 fun w x Q X h => by
  obtain ⟨n, ls, ws, rfl, hw, ho, hl, h⟩ := h
  refine seq1 fun K hK => ?_
  cases x
  case tup xs =>
    have hos : ∀ x ∈ xs, okP x = true := okL_iff.mp (by simpa [okP] using ho)
    have hls : ∀ x ∈ xs, lenP 3000 x = true := lenL_iff.mp (by simp [lenP] at hl; exact hl.2)
    simp
    refine hK _ (seq1 fun K hK => ?_)
    by_cases h60 : 60 < xs.length
    · have h60' : (60 : Int) < xs.length := by omega
      simp [h60', sizeLine]
      simpa [bookWhat, bookAt, h60] using h
    · have h60' : ¬ (60 : Int) < xs.length := by omega
      simp [h60']
      refine hK _ (seq1 fun K hK => ?_)
      simp
      refine ⟨by omega, ?_⟩
      refine lc_rng (fun i acc ρ => acc = wrongs (rowOk n ls ws) xs i ∧ ρ = [some (.p (webP n ls ws)), some (.p (.tup xs)), none, none]) ?_ ?_ ⟨rfl, rfl⟩
      · rintro acc ρ ⟨rfl, rfl⟩
        simp
        refine hK _ ?_
        simp
        rw [ne_nil wrongs_ok]
        rcases bookAt_tup (n := n) (ls := ls) (ws := ws) h60 with ⟨e1, e2⟩ | ⟨i, e1, e2⟩
        · rcases wrongs_first (f := rowOk n ls ws) (xs := xs) with ⟨e3, _⟩ | ⟨k, r, _, e4⟩
          · rw [e3]
            simp only [bookWhat, e1] at h
            simp
            exact h
          · rw [e2] at e4; cases e4
        · rcases wrongs_first (f := rowOk n ls ws) (xs := xs) with ⟨_, e4⟩ | ⟨k, r, e3, e4⟩
          · rw [e2] at e4; cases e4
          · rw [e2] at e4
            cases e4
            rw [e3]
            simp only [bookWhat, e1] at h
            simp [subO, look, subP, atI_0, sizeLine]
            simpa using h
      · rintro i acc ρ k hi ⟨rfl, rfl⟩ ih
        have hm := List.getElem_mem hi
        simp [subO, look, subP, atI_nat (List.getElem?_eq_getElem hi)]
        refine is_row_run hw (hos _ hm) (hls _ hm) ?_
        have hwl := wrongs_len (f := rowOk n ls ws) (xs := xs) (i := i)
        have nx := fun acc2 e => ih acc2 _ ⟨e, rfl⟩
        rw [wrongs_succ hi] at nx
        cases hr : rowOk n ls ws xs[i] with
        | false =>
          simp [hr] at nx
          simp [sizeLine]
          exact ⟨by omega, nx⟩
        | true =>
          simp [hr] at nx
          simp
          exact nx
  all_goals
    simp [isTy, sizeLine]
    simpa [bookWhat, bookAt] using h
def g_law_f2_is_pair : Fn := pureF 1 fun xs Q X => match xs with
  | [x] => okP x = true ∧ Q (.bl (boundOk x))
  | _ => False
@[simp ↓] theorem is_pair2_n : g_law_f2_is_pair.n = 1 := rfl
@[simp ↓] theorem is_pair2_lent : g_law_f2_is_pair.lent = [] := rfl
@[simp ↓] theorem is_pair2_run {x : P} {Q : D → List D → Prop} {X : Nat → P → Prop} : g_law_f2_is_pair.run [.p x] Q X = (okP x = true ∧ Q (.p (.bl (boundOk x))) []) := by
  simp [g_law_f2_is_pair, pureF_run]
theorem k_law_f2_is_pair : Keeps [g_is_number] 2 B_law_f2_is_pair g_law_f2_is_pair := keepsF1 fun x Q X h => by
  obtain ⟨ho, h⟩ := h
  replace h : Q (.p (.bl (boundOk x))) := h
  refine seq1 fun K hK => ?_
  cases x
  case tup xs =>
    rcases xs with _ | ⟨a, _ | ⟨b, _ | ⟨c, xs⟩⟩⟩
    · simp; exact h
    · simp; exact h
    · have hok : okL [a, b] = true := by simpa [okP] using ho
      simp
      refine hK _ (seq1 fun K hK => ?_)
      simp
      refine lc_ind (fun its acc ρ => ∃ done rest : List P, [a, b] = done ++ rest ∧ its = rest ∧ acc = (done.filter fun x => !(isNon x || isNum x)) ∧ ρ = [some (.p (.tup [a, b])), none]) ?_ ?_ _ _ _ ⟨[], [a, b], rfl, rfl, rfl, rfl⟩
      · rintro acc ρ ⟨done, rest, hd, e, rfl, rfl⟩
        subst e
        rw [List.append_nil] at hd
        subst hd
        rw [ne_nil (okL_iff.mpr fun x hx => okL_iff.mp hok x (List.mem_filter.mp hx).1)]
        have ef : ([a, b].filter fun x => !(isNon x || isNum x)).isEmpty = ((isNon a || isNum a) && (isNon b || isNum b)) := by
          simp only [List.filter_cons, List.filter_nil]
          cases isNon a || isNum a <;> cases isNon b || isNum b <;> rfl
        rw [ef]
        cases ha : isNon a || isNum a with
        | false =>
          have e : boundOk (.tup [a, b]) = false := by simp at ha; simp [boundOk, ha.1, ha.2]
          rw [e] at h
          simp
          exact h
        | true =>
          cases hb : isNon b || isNum b with
          | false =>
            have e : boundOk (.tup [a, b]) = false := by simp at hb; simp [boundOk, hb.1, hb.2]
            rw [e] at h
            simp
            exact h
          | true =>
            simp
            refine hK _ ?_
            simp [subO, look, subP, atI_0, atI_1]
            rcases non_or_num ha with rfl | ⟨i, rfl⟩
            · have e : boundOk (.tup [.non, b]) = true := by rcases non_or_num hb with rfl | ⟨j, rfl⟩ <;> rfl
              rw [e] at h
              simpa [isNon] using h
            · rcases non_or_num hb with rfl | ⟨j, rfl⟩
              · simpa [isNon, boundOk] using h
              · simp [isNon, boundOk, valI] at h
                simp [isNon]
                exact h
      · rintro x its acc ρ k ⟨done, rest, hd, e, rfl, rfl⟩ ih
        subst e
        simp
        have hdl : (done.filter fun x => !(isNon x || isNum x)).length < sizeLine := Nat.lt_of_le_of_lt (Nat.le_trans (List.length_filter_le _ _) (show done.length ≤ 100 by have := congrArg List.length hd; simp at this; omega)) (by decide)
        have nx : k ((done ++ [x]).filter fun x => !(isNon x || isNum x)) [some (.p (.tup [a, b])), none] := ih _ _ ⟨done ++ [x], its, by rw [hd]; simp, rfl, rfl, rfl⟩
        rw [List.filter_append] at nx
        cases hx : isNon x <;> cases hx2 : isNum x <;> simp [hx, hx2] at nx hdl ⊢ <;> first | exact ⟨hdl, nx⟩ | exact nx
    · have e : ¬ ((xs.length : Int) + 1 + 1 + 1 = 2) := by omega
      simp [e]
      exact h
  all_goals
    simp [isTy]
    exact h
def g_bad (f : P → Bool) : Fn := pureF 2 fun xs Q X => match xs with
  | [.int m, x] => okP x = true ∧ small x ∧ Q (badIn f x m)
  | _ => False
@[simp ↓] theorem bad_n {f : P → Bool} : (g_bad f).n = 2 := rfl
@[simp ↓] theorem bad_lent {f : P → Bool} : (g_bad f).lent = [] := rfl
@[simp ↓] theorem bad_run {f : P → Bool} {m : Int} {x : P} {Q : D → List D → Prop} {X : Nat → P → Prop} : (g_bad f).run [.p (.int m), .p x] Q X = (okP x = true ∧ small x ∧ Q (.p (badIn f x m)) []) := by
  simp [g_bad, pureF_run]
theorem k_law_f2_pairs_fault : Keeps [g_law_f2_is_pair] 4 B_law_f2_pairs_fault (g_bad boundOk) := keepsF2 fun m x Q X h => by
  cases m <;> try exact h.elim
  rename_i m
  obtain ⟨ho, hs, h⟩ := h
  replace h : Q (.p (badIn boundOk x m)) := h
  refine seq1 fun K hK => ?_
  cases x
  case tup xs =>
    have hos : ∀ x ∈ xs, okP x = true := okL_iff.mp (by simpa [okP] using ho)
    have hs : xs.length ≤ 100000 := hs
    simp only [badIn] at h
    by_cases hm : (xs.length : Int) = m
    · subst hm
      simp at h ⊢
      refine hK _ (seq1 fun K hK => ?_)
      simp
      refine ⟨by omega, ?_⟩
      refine lc_rng (fun i acc ρ => acc = wrongs boundOk xs i ∧ ρ = [some (.p (.int xs.length)), some (.p (.tup xs)), none, none]) ?_ ?_ ⟨rfl, rfl⟩
      · rintro acc ρ ⟨rfl, rfl⟩
        simp
        refine hK _ ?_
        simp
        rw [ne_nil wrongs_ok]
        rcases wrongs_first (f := boundOk) (xs := xs) with ⟨e3, e4⟩ | ⟨k, r, e3, e4⟩
        · rw [e3]
          rw [e4] at h
          simp
          exact h
        · rw [e3]
          rw [e4] at h
          simp [subO, look, subP, atI_0]
          exact h
      · rintro i acc ρ k hi ⟨rfl, rfl⟩ ih
        have hm := List.getElem_mem hi
        simp [subO, look, subP, atI_nat (List.getElem?_eq_getElem hi)]
        refine ⟨hos _ hm, ?_⟩
        have hwl := wrongs_len (f := boundOk) (xs := xs) (i := i)
        have nx := fun acc2 e => ih acc2 _ ⟨e, rfl⟩
        rw [wrongs_succ hi] at nx
        cases hr : boundOk xs[i] with
        | false =>
          simp [hr] at nx
          simp [sizeLine]
          exact ⟨by omega, nx⟩
        | true =>
          simp [hr] at nx
          simp
          exact nx
    · simp [hm] at h ⊢
      exact h
  all_goals
    simp [isTy]
    simpa [badIn] using h
theorem k_law_f2_prices_fault : Keeps [g_is_number] 4 B_law_f2_prices_fault (g_bad priceOk) := keepsF2 fun m x Q X h => by
  cases m <;> try exact h.elim
  rename_i m
  obtain ⟨ho, hs, h⟩ := h
  replace h : Q (.p (badIn priceOk x m)) := h
  refine seq1 fun K hK => ?_
  cases x
  case tup xs =>
    have hs : xs.length ≤ 100000 := hs
    simp only [badIn] at h
    by_cases hm : (xs.length : Int) = m
    · subst hm
      simp at h ⊢
      refine hK _ (seq1 fun K hK => ?_)
      simp
      refine ⟨by omega, ?_⟩
      refine lc_rng (fun i acc ρ => acc = wrongs priceOk xs i ∧ ρ = [some (.p (.int xs.length)), some (.p (.tup xs)), none, none]) ?_ ?_ ⟨rfl, rfl⟩
      · rintro acc ρ ⟨rfl, rfl⟩
        simp
        refine hK _ ?_
        simp
        rw [ne_nil wrongs_ok]
        rcases wrongs_first (f := priceOk) (xs := xs) with ⟨e3, e4⟩ | ⟨k, r, e3, e4⟩
        · rw [e3]
          rw [e4] at h
          simp
          exact h
        · rw [e3]
          rw [e4] at h
          simp [subO, look, subP, atI_0]
          exact h
      · rintro i acc ρ k hi ⟨rfl, rfl⟩ ih
        have hwl := wrongs_len (f := priceOk) (xs := xs) (i := i)
        have nx := fun acc2 e => ih acc2 _ ⟨e, rfl⟩
        rw [wrongs_succ hi] at nx
        have gx := atI_nat (List.getElem?_eq_getElem hi)
        generalize xs[i] = y at nx gx
        simp [subO, look, subP, gx]
        cases hr : isNum y with
        | false =>
          simp [priceOk, hr] at nx
          simp [sizeLine]
          exact ⟨by omega, nx⟩
        | true =>
          obtain ⟨v, rfl⟩ := isNum_form hr
          have e : priceOk (.int v) = decide (0 ≤ v) := by simp [priceOk]; rfl
          rw [e] at nx
          by_cases hv : v < 0
          · have : ¬ 0 ≤ v := by omega
            simp [this] at nx
            simp [hv, sizeLine]
            exact ⟨by omega, nx⟩
          · have : 0 ≤ v := by omega
            simp [this] at nx
            simp [hv]
            exact nx
    · simp [hm] at h ⊢
      exact h
  all_goals
    simp [isTy]
    simpa [badIn] using h
end PL
set_option linter.all false
set_option maxRecDepth 100000
set_option maxHeartbeats 1000000
namespace PL
open PySem PySem.Spec PyProof.Rows L2 LamX
@[simp ↓] theorem mixed_n : g_mixed.n = 2 := rfl
@[simp ↓] theorem mixed_lent : g_mixed.lent = [0] := rfl
@[simp ↓] theorem mixed_run {j : D} {t : P} {Q : D → List D → Prop} {X : Nat → P → Prop} : g_mixed.run [j, .p t] Q X = (Jar j ∧ ∃ xs, seqP t = some xs ∧ xs.length ≤ 1000000 ∧ ∀ ys : List P, ys.Perm xs → ∀ j', Jar j' → Q (.lst ys) [j']) := by
  simp [g_mixed, jarF_run]
/-- a tuple of a few whole numbers from 0 on -/
def Road (x : P) : Prop := ∃ ks : List Nat, x = .tup (ks.map natP) ∧ ks.length ≤ 6
def g_roads : Fn := jarF 1 fun xs Q X => match xs with
  | [w] => ∃ n ls ws, w = webP n ls ws ∧ WebOk n ls ws ∧ ∀ rs : List P, (∀ r ∈ rs, Road r) → rs.length ≤ 18 → Q (.lst rs)
  | _ => False
@[simp ↓] theorem roads_n : g_roads.n = 2 := rfl
@[simp ↓] theorem roads_lent : g_roads.lent = [0] := rfl
theorem roads_run {j : D} {n : Nat} {ls : List (Nat × Nat)} {ws : List Nat} {Q : D → List D → Prop} {X : Nat → P → Prop} (hj : Jar j) (hw : WebOk n ls ws) (h : ∀ rs : List P, (∀ r ∈ rs, Road r) → rs.length ≤ 18 → ∀ j', Jar j' → Q (.lst rs) [j']) : g_roads.run [j, .p (webP n ls ws)] Q X := by
  rw [g_roads, jarF_run]
  exact ⟨hj, _, rfl, rfl, n, ls, ws, rfl, hw, fun rs h1 h2 j' hj' => h rs h1 h2 j' hj'⟩
theorem k_law_f2_roads : Keeps [g_mixed, g_one, g_law_vp_other] 12 B_law_f2_roads g_roads := keepsJ1 fun j w Q X hj h => by
  obtain ⟨n, ls, ws, rfl, hw, h⟩ := h
  have hwl := hw.wl
  have hlm := hw.hm
  refine seq1 fun K hK => ?_
  simp [webP]
  refine hK _ (seq1 fun K hK => ?_)
  simp [sizeLine]
  refine hK _ (seq1 fun K hK => ?_)
  simp
  refine ⟨hj, _, rfl, by simp; omega, fun ys hys j hj => ?_⟩
  obtain ⟨ms, hp, rfl⟩ := perm_map_inv hys rfl
  have ec : cutP (ms.map natP) none (some 3) = (ms.take 3).map natP := by
    rw [show (some (3 : Int)) = some ((3 : Nat) : Int) from rfl, cut_to, List.map_take]
  rw [ec]
  refine for_ind (fun its ρ => ∃ (j : D) (fs : List P) (ms : List Nat) (v6 v7 v8 v9 v10 : Option D), its = ms.map natP ∧ Jar j ∧ (∀ r ∈ fs, Road r) ∧ fs.length + 6 * ms.length ≤ 18 ∧ ρ = [some j, some (D.p (P.tup [P.int ↑n, P.tup (List.map lnkP ls), P.tup (List.map natP ws)])), some (D.p (P.int ↑n)), some (D.p (P.tup (List.map lnkP ls))), some (D.p (P.tup (List.map natP ws))), some (.lst fs), v6, v7, v8, v9, v10, none]) ?_ ?_ _ _ ⟨j, [], ms.take 3, _, _, _, _, _, rfl, hj, by simp, by simp; omega, rfl⟩
  · rintro ρ ⟨j, fs, ms, v6, v7, v8, v9, v10, e, hj, hf, hl, rfl⟩
    refine hK _ ?_
    simp
    exact h fs hf (by omega) j hj
  · rintro x its ρ k ⟨j, fs, ms, v6, v7, v8, v9, v10, e, hj, hf, hl, rfl⟩ ih
    cases ms with
    | nil => cases e
    | cons s ms =>
      cases e
      simp at hl
      simp only [tgS_name]
      refine ⟨by simp, by simp, ?_⟩
      refine seq1 fun K2 hK2 => ?_
      simp [sizeLine]
      refine hK2 _ (seq1 fun K2 hK2 => ?_)
      simp
      have out : ∀ (j : D) (fs : List P) (v6 v7 v8 v9 v10 : Option D), Jar j → (∀ r ∈ fs, Road r) → fs.length + 6 * ms.length ≤ 18 → K2 [some j, some (D.p (P.tup [P.int ↑n, P.tup (List.map lnkP ls), P.tup (List.map natP ws)])), some (D.p (P.int ↑n)), some (D.p (P.tup (List.map lnkP ls))), some (D.p (P.tup (List.map natP ws))), some (.lst fs), v6, v7, v8, v9, v10, none] := by
        intro j fs v6 v7 v8 v9 v10 hj hf hl
        refine hK2 _ ?_
        simp
        exact ih _ ⟨j, fs, ms, v6, v7, v8, v9, v10, rfl, hj, hf, hl, rfl⟩
      refine for_rng (fun i ρ => ∃ (j : D) (fs : List P) (ks pls : List Nat) (a : Nat) (v6 v9 v10 : Option D), Jar j ∧ (∀ r ∈ fs, Road r) ∧ fs.length + (6 - i) + 6 * ms.length ≤ 18 ∧ ks.length = i ∧ i ≤ 6 ∧ L2.atI (pls.map natP) (-1) = some (.int (a : Nat)) ∧ pls.length = i + 1 ∧ (∀ k ∈ ks, k < ls.length) ∧ ρ = [some j, some (D.p (P.tup [P.int ↑n, P.tup (List.map lnkP ls), P.tup (List.map natP ws)])), some (D.p (P.int ↑n)), some (D.p (P.tup (List.map lnkP ls))), some (D.p (P.tup (List.map natP ws))), some (.lst fs), v6, some (.lst (ks.map natP)), some (.lst (pls.map natP)), v9, v10, none]) ?_ ?_ ⟨j, fs, [], [s], s, _, _, _, hj, hf, by omega, rfl, by omega, atI_last (xs := []), rfl, by simp, rfl⟩
      · rintro ρ ⟨j, fs, ks, pls, a, v6, v9, v10, hj, hf, hl, _, _, _, _, _, rfl⟩
        exact out j fs _ _ _ _ _ hj hf (by omega)
      · rintro i ρ nxt hi ⟨j, fs, ks, pls, a, v6, v9, v10, hj, hf, hl, hk1, hk2, al, hpl, hk3, rfl⟩ ih2
        simp only [tgS_name]
        refine ⟨by simp, by simp, ?_⟩
        refine seq1 fun K3 hK3 => ?_
        simp
        refine ⟨by omega, ?_⟩
        -- the links at the last place
        have step2 : ∀ near : List Nat, near.length ≤ 60 → (∀ i ∈ near, ∃ l, ls[i]? = some l ∧ (a = l.1 ∨ a = l.2)) → K3 [some j, some (D.p (P.tup [P.int ↑n, P.tup (List.map lnkP ls), P.tup (List.map natP ws)])), some (D.p (P.int ↑n)), some (D.p (P.tup (List.map lnkP ls))), some (D.p (P.tup (List.map natP ws))), some (D.lst fs), v6, some (D.lst (List.map natP ks)), some (D.lst (pls.map natP)), some (D.p (P.int ↑i)), some (.lst (near.map natP)), none] := by
          intro near hnl hn
          refine hK3 _ (seq1 fun K3 hK3 => ?_)
          simp
          -- those that lead on
          have step3 : ∀ near : List Nat, near.length ≤ 60 → (∀ i ∈ near, ∃ l, ls[i]? = some l ∧ (a = l.1 ∨ a = l.2)) → K3 [some j, some (D.p (P.tup [P.int ↑n, P.tup (List.map lnkP ls), P.tup (List.map natP ws)])), some (D.p (P.int ↑n)), some (D.p (P.tup (List.map lnkP ls))), some (D.p (P.tup (List.map natP ws))), some (D.lst fs), v6, some (D.lst (List.map natP ks)), some (D.lst (pls.map natP)), some (D.p (P.int ↑i)), some (.lst (near.map natP)), none] := by
            intro near hnl hn
            refine hK3 _ (seq1 fun K3 hK3 => ?_)
            simp
            rw [eq_nilL okL_nats]
            cases near with
            | nil =>
              simp
              exact out j fs _ _ _ _ _ hj hf (by omega)
            | cons q0 qs =>
              simp
              refine hK3 _ (seq1 fun K3 hK3 => ?_)
              simp [mthA, mthS]
              refine ⟨hj, by simp at hnl; omega, fun x hx j hj => ?_⟩
              obtain ⟨q, rfl, hq⟩ : ∃ q, x = natP q ∧ q ∈ q0 :: qs := by
                rcases List.mem_cons.mp hx with z | z
                · exact ⟨q0, z, by simp⟩
                · obtain ⟨q, z1, z2⟩ := List.mem_map.mp z
                  exact ⟨q, z2.symm, by simp [z1]⟩
              obtain ⟨l, hgl, hal⟩ := hn q hq
              refine ⟨by simp [sizeLine]; omega, hK3 _ (seq1 fun K3 hK3 => ?_)⟩
              have al2 : L2.atI (ks.map natP ++ [natP q]) (-1) = some (.int (q : Nat)) := atI_last
              simp [subO, look, subP, al, al2, lnk_get hgl, mthA, mthS]
              refine other_run hal ?_
              simp [sizeLine]
              refine ⟨by omega, hK3 _ (seq1 fun K3 hK3 => ?_)⟩
              simp [mthA, mthS, sizeLine]
              refine ⟨by omega, hK3 _ ?_⟩
              simp
              have hql : q < ls.length := (List.getElem?_eq_some_iff.mp hgl).1
              have e1 : ks.map natP ++ [natP q] = (ks ++ [q]).map natP := by rw [List.map_append]; rfl
              have e2 : pls.map natP ++ [P.int ((l.1 + l.2 - a : Nat) : Int)] = (pls ++ [l.1 + l.2 - a]).map natP := by rw [List.map_append]; rfl
              rw [e1, e2]
              refine ih2 _ ⟨j, fs ++ [.tup ((ks ++ [q]).map natP)], ks ++ [q], pls ++ [l.1 + l.2 - a], l.1 + l.2 - a, _, _, _, hj, fun r hr => ?_, by simp; omega, by simp [hk1], by omega, ?_, by simp [hpl], fun z hz => ?_, rfl⟩
              · rcases List.mem_append.mp hr with z | z
                · exact hf r z
                · simp only [List.mem_cons, List.not_mem_nil, or_false] at z
                  exact ⟨ks ++ [q], z, by simp; omega⟩
              · rw [List.map_append]; exact atI_last
              · rcases List.mem_append.mp hz with z2 | z2
                · exact hk3 z z2
                · simp at z2; omega
          refine lc_ind (fun its acc ρ => ∃ rest near2 : List Nat, its = rest.map natP ∧ acc = near2.map natP ∧ near2.length + rest.length ≤ 60 ∧ (∀ i ∈ rest, ∃ l, ls[i]? = some l ∧ (a = l.1 ∨ a = l.2)) ∧ (∀ i ∈ near2, ∃ l, ls[i]? = some l ∧ (a = l.1 ∨ a = l.2)) ∧ ρ = [some j, some (D.p (P.tup [P.int ↑n, P.tup (List.map lnkP ls), P.tup (List.map natP ws)])), some (D.p (P.int ↑n)), some (D.p (P.tup (List.map lnkP ls))), some (D.p (P.tup (List.map natP ws))), some (D.lst fs), v6, some (D.lst (List.map natP ks)), some (D.lst (pls.map natP)), some (D.p (P.int ↑i)), some (.lst (near.map natP)), none]) ?_ ?_ _ _ _ ⟨near, [], rfl, rfl, by simpa using hnl, hn, by simp, rfl⟩
          · rintro acc ρ ⟨rest, near2, e, rfl, h1, h2, h3, rfl⟩
            simp
            exact step3 near2 (by omega) h3
          · rintro x its acc ρ k3 ⟨rest, near2, e, rfl, h1, h2, h3, rfl⟩ ih3
            cases rest with
            | nil => cases e
            | cons q rest =>
              cases e
              simp at h1
              obtain ⟨l, hgl, hal⟩ := h2 q (by simp)
              simp [subO, look, subP, al, lnk_get hgl, natP]
              refine other_run hal ?_
              simp
              rw [notIn_natsL]
              have hrest : ∀ i ∈ rest, ∃ l, ls[i]? = some l ∧ (a = l.1 ∨ a = l.2) := fun i hi => h2 i (List.mem_cons_of_mem _ hi)
              by_cases hc : l.1 + l.2 - a ∈ pls
              · simp [hc, holds]
                exact ih3 _ _ ⟨rest, near2, rfl, rfl, by omega, hrest, h3, rfl⟩
              · simp [hc, holds, sizeLine]
                refine ⟨by omega, ih3 _ _ ⟨rest, near2 ++ [q], rfl, by rw [List.map_append]; rfl, by simp; omega, hrest, fun z hz => ?_, rfl⟩⟩
                rcases List.mem_append.mp hz with z2 | z2
                · exact h3 z z2
                · simp at z2; subst z2; exact ⟨l, hgl, hal⟩
        refine lc_rng (fun m acc ρ => ∃ near : List Nat, acc = near.map natP ∧ near.length ≤ m ∧ (∀ i ∈ near, ∃ l, ls[i]? = some l ∧ (a = l.1 ∨ a = l.2)) ∧ ρ = [some j, some (D.p (P.tup [P.int ↑n, P.tup (List.map lnkP ls), P.tup (List.map natP ws)])), some (D.p (P.int ↑n)), some (D.p (P.tup (List.map lnkP ls))), some (D.p (P.tup (List.map natP ws))), some (D.lst fs), v6, some (D.lst (List.map natP ks)), some (D.lst (pls.map natP)), some (D.p (P.int ↑i)), v10, none]) ?_ ?_ ⟨[], rfl, by simp, by simp, rfl⟩
        · rintro acc ρ ⟨near, rfl, hn1, hn2, rfl⟩
          simp
          exact step2 near (by omega) hn2
        · rintro m acc ρ k2 hm ⟨near, rfl, hn1, hn2, rfl⟩ ih3
          have hgm : ls[m]? = some ls[m] := List.getElem?_eq_getElem hm
          generalize ls[m] = l at hgm
          simp [subO, look, subP, al, lnk_get hgm]
          rw [show lnkP l = .tup [.int (l.1 : Nat), .int (l.2 : Nat)] from rfl, isIn_two]
          by_cases hc : a = l.1 ∨ a = l.2
          · simp [hc, sizeLine]
            refine ⟨by omega, ih3 _ _ ⟨near ++ [m], by rw [List.map_append]; rfl, by simp; omega, fun q hq => ?_, rfl⟩⟩
            rcases List.mem_append.mp hq with z | z
            · exact hn2 q z
            · simp at z; subst z; exact ⟨l, hgm, hc⟩
          · simp [hc]
            exact ih3 _ _ ⟨near, rfl, by omega, hn2, rfl⟩
end PL
set_option linter.all false
set_option maxRecDepth 100000
set_option maxHeartbeats 1000000
namespace PL
open PySem PySem.Spec PyProof.Rows L2 LamX
theorem goodN {xs : List P} {m d : Nat} (h : ∀ x ∈ xs, ∃ k : Nat, x = natP k) (hl : xs.length ≤ m) : Good m (d + 1) (.tup xs) := good_tup.mpr ⟨hl, fun x hx => by
  obtain ⟨k, rfl⟩ := h x hx
  exact ⟨rfl, rfl, Nat.zero_le _⟩⟩
theorem road_nats {ks : List Nat} : ∀ x ∈ ks.map natP, ∃ k : Nat, x = natP k := fun x hx => by
  obtain ⟨k, _, rfl⟩ := List.mem_map.mp hx
  exact ⟨k, rfl⟩
theorem Road.good {r : P} (h : Road r) : Good 100 4 r := by
  obtain ⟨ks, rfl, hl⟩ := h
  exact goodN road_nats (by simp; omega)
def g_things : Fn := jarF 1 fun xs Q X => match xs with
  | [w] => ∃ n ls ws, w = webP n ls ws ∧ WebOk n ls ws ∧ ∀ rs : List P, (∀ r ∈ rs, Good 100 4 r) → rs.length ≤ 400 → Q (.lst rs)
  | _ => False
@[simp ↓] theorem things_n : g_things.n = 2 := rfl
@[simp ↓] theorem things_lent : g_things.lent = [0] := rfl
theorem things_run {j : D} {n : Nat} {ls : List (Nat × Nat)} {ws : List Nat} {Q : D → List D → Prop} {X : Nat → P → Prop} (hj : Jar j) (hw : WebOk n ls ws) (h : ∀ rs : List P, (∀ r ∈ rs, Good 100 4 r) → rs.length ≤ 400 → ∀ j', Jar j' → Q (.lst rs) [j']) : g_things.run [j, .p (webP n ls ws)] Q X := by
  rw [g_things, jarF_run]
  exact ⟨hj, _, rfl, rfl, n, ls, ws, rfl, hw, fun rs h1 h2 j' hj' => h rs h1 h2 j' hj'⟩
/-- a comprehension over its own name that changes nothing else -/
theorem lc_pure {G : List Fn} {v : Nat} {we : Env' → KE → Prop} {own : List Nat} {bs : List (Nat × D)} {its : List P} {ρ : Env'} {Q : List P → Env' → Prop} (A B : P → Prop) (hv : v < ρ.length) (hw : ∀ o, wip (ρ.set v o) own = ρ) (hb : holds ρ bs) (hi : ∀ x ∈ its, A x) (hL : its.length ≤ 1000000)
    (hc : ∀ x, A x → ∀ k : KE, (∀ d, B (frz d) → k d (ρ.set v (some (.p x)))) → we (ρ.set v (some (.p x))) k) (hq : ∀ acc, (∀ y ∈ acc, B y) → acc.length = its.length → Q acc ρ) : lcT (.name v) (termC G EX0 (.bl true)) we own bs its [] ρ Q := by
  refine lc_ind (fun its' acc ρ' => (∀ x ∈ its', A x) ∧ (∀ y ∈ acc, B y) ∧ acc.length + its'.length = its.length ∧ ρ' = ρ) ?_ ?_ _ _ _ ⟨hi, by simp, by simp, rfl⟩
  · rintro acc ρ' ⟨_, h2, h3, rfl⟩
    exact hq acc h2 (by simpa using h3)
  · rintro x its' acc ρ' k ⟨h1, h2, h3, rfl⟩ ih
    simp at h3
    simp only [tgS_name]
    refine ⟨by simp, hv, true, rfl, ?_⟩
    rw [if_pos rfl]
    refine hc x (h1 x (by simp)) _ fun d hd => ⟨Nat.lt_of_le_of_lt (show acc.length ≤ 1000000 by omega) (by decide), ?_, ?_⟩
    · rw [hw]; exact hb
    · rw [hw]
      refine ih _ _ ⟨fun y hy => h1 y (List.mem_cons_of_mem _ hy), fun y hy => ?_, by simp; omega, rfl⟩
      rcases List.mem_append.mp hy with z | z
      · exact h2 y z
      · simp at z; subst z; exact hd
/-- the same, where the jar is drawn from -/
theorem lc_jar {G : List Fn} {v : Nat} {we : Env' → KE → Prop} {own : List Nat} {bs : List (Nat × D)} {its : List P} {R : D → Env'} {j0 : D} {Q : List P → Env' → Prop} (A B : P → Prop) (hj : Jar j0) (hv : ∀ j, v < (R j).length) (hw : ∀ j o, wip ((R j).set v o) own = R j) (hb : ∀ j, holds (R j) bs) (hi : ∀ x ∈ its, A x) (hL : its.length ≤ 1000000)
    (hc : ∀ x j, A x → Jar j → ∀ k : KE, (∀ d j', Jar j' → B (frz d) → k d ((R j').set v (some (.p x)))) → we ((R j).set v (some (.p x))) k) (hq : ∀ acc j, Jar j → (∀ y ∈ acc, B y) → acc.length = its.length → Q acc (R j)) : lcT (.name v) (termC G EX0 (.bl true)) we own bs its [] (R j0) Q := by
  refine lc_ind (fun its' acc ρ' => ∃ j, Jar j ∧ (∀ x ∈ its', A x) ∧ (∀ y ∈ acc, B y) ∧ acc.length + its'.length = its.length ∧ ρ' = R j) ?_ ?_ _ _ _ ⟨j0, hj, hi, by simp, by simp, rfl⟩
  · rintro acc ρ' ⟨j, hj, _, h2, h3, rfl⟩
    exact hq acc j hj h2 (by simpa using h3)
  · rintro x its' acc ρ' k ⟨j, hj, h1, h2, h3, rfl⟩ ih
    simp at h3
    simp only [tgS_name]
    refine ⟨by simp, hv j, true, rfl, ?_⟩
    rw [if_pos rfl]
    refine hc x j (h1 x (by simp)) hj _ fun d j' hj' hd => ⟨Nat.lt_of_le_of_lt (show acc.length ≤ 1000000 by omega) (by decide), ?_, ?_⟩
    · rw [hw]; exact hb j'
    · rw [hw]
      refine ih _ _ ⟨j', hj', fun y hy => h1 y (List.mem_cons_of_mem _ hy), fun y hy => ?_, by simp; omega, rfl⟩
      rcases List.mem_append.mp hy with z | z
      · exact h2 y z
      · simp at z; subst z; exact hd
theorem k_law_f2_things : Keeps [g_roads, g_bent 8, g_take] 8 B_law_f2_things g_things := keepsJ1 fun j w Q X hj h => by
  obtain ⟨n, ls, ws, rfl, hw, h⟩ := h
  have hlm := hw.hm
  refine seq1 fun K hK => ?_
  simp [webP, subO, look, subP, atI_0, atI_1]
  refine hK _ (seq1 fun K hK => ?_)
  simp
  refine roads_run hj hw fun some1 hs1 hs2 j hj => ?_
  simp
  refine hK _ (seq1 fun K hK => ?_)
  have ew : webP n ls ws = P.tup [P.int n, P.tup (ls.map lnkP), P.tup (ws.map natP)] := rfl
  rw [← ew]
  generalize webP n ls ws = web at *
  have sub1 : ∀ {k : Nat} {r}, r ∈ some1.take k → Road r := fun hr => hs1 _ (List.mem_of_mem_take hr)
  have ct : ∀ k : Nat, cutP some1 none (some (k : Int)) = some1.take k := fun k => cut_to
  have ct3 := ct 3
  have ct2 := ct 2
  have z5 : ∀ x ∈ some1.take 5, Road x := fun x hx => sub1 hx
  simp
  refine lc_pure Road (Good 100 4) (by simp) (fun o => rfl) (by simp [holds]) hs1 (by omega) ?_ ?_
  · rintro x ⟨ks, rfl, hk⟩ k hk2
    simp
    refine hk2 _ (good_tup.mpr ⟨by simp; omega, fun y hy => ?_⟩)
    rw [List.mem_reverse] at hy
    obtain ⟨q, rfl⟩ := road_nats y hy
    exact ⟨rfl, rfl, Nat.zero_le _⟩
  intro a1 ha1 hl1
  simp
  refine ⟨by simp [sizeLine]; omega, ?_⟩
  have e3 : cutP some1 none (some 3) = some1.take 3 := ct3
  rw [e3]
  refine lc_pure Road (Good 100 4) (by simp) (fun o => rfl) (by simp [holds]) (fun x hx => sub1 hx) (by simp; omega) ?_ ?_
  · rintro x ⟨ks, rfl, hk⟩ k hk2
    have hc := cut_len (xs := ks.map natP) (a := some (-1)) (b := none)
    simp at hc
    simp [sizeLine]
    refine ⟨by omega, hk2 _ (goodN (fun y hy => ?_) (by simp; omega))⟩
    rcases List.mem_append.mp hy with z | z
    · exact road_nats y z
    · exact road_nats y (cut_mem z)
  intro a2 ha2 hl2
  simp at hl2
  simp [sizeLine]
  refine ⟨by omega, hK _ (seq1 fun K hK => ?_)⟩
  simp
  have ht1 : (∀ r ∈ some1 ++ (a1 ++ a2), Good 100 4 r) ∧ (some1 ++ (a1 ++ a2)).length ≤ 60 := by
    refine ⟨fun r hr => ?_, by simp; omega⟩
    rcases List.mem_append.mp hr with z | z
    · exact (hs1 r z).good
    · exact (List.mem_append.mp z).elim (ha1 r) (ha2 r)
  generalize some1 ++ (a1 ++ a2) = t1 at ht1
  obtain ⟨ht1, htl1⟩ := ht1
  refine lc_pure Road (Good 100 4) (by simp) (fun o => rfl) (by simp [holds]) hs1 (by omega) ?_ ?_
  · rintro x ⟨ks, rfl, hk⟩ k hk2
    have hc := cut_len (xs := ks.map natP) (a := some 1) (b := none)
    simp at hc
    simp
    exact hk2 _ (goodN (fun y hy => road_nats y (cut_mem hy)) (by omega))
  intro a3 ha3 hl3
  simp [sizeLine]
  refine ⟨by omega, ?_⟩
  simp [mthA, mthS, sizeLine]
  have fix10 : ∀ r ∈ [P.tup [], P.non, P.int 0, P.tup [P.int ls.length], P.tup [P.int (-1)], P.tup [P.int 0, P.int 0], P.lst [P.int 0], P.tup [P.bl true], P.tup [P.str (Str.ofString "0")], P.tup [P.non]], Good 100 4 r := by
    have s0 : okP (.str (Str.ofString "0")) = true := by decide +kernel
    intro r hr
    simp only [List.mem_cons, List.not_mem_nil, or_false] at hr
    rcases hr with rfl | rfl | rfl | rfl | rfl | rfl | rfl | rfl | rfl | rfl <;> refine ⟨?_, ?_, ?_⟩ <;> first | decide +kernel | simp [okP, okL, lenP, lenL, dep, depL]
  have ht2 : (∀ r ∈ t1 ++ (a3 ++ [P.tup [], P.non, P.int 0, P.tup [P.int ls.length], P.tup [P.int (-1)], P.tup [P.int 0, P.int 0], P.lst [P.int 0], P.tup [P.bl true], P.tup [P.str (Str.ofString "0")], P.tup [P.non]]), Good 100 4 r) ∧ (t1 ++ (a3 ++ [P.tup [], P.non, P.int 0, P.tup [P.int ls.length], P.tup [P.int (-1)], P.tup [P.int 0, P.int 0], P.lst [P.int 0], P.tup [P.bl true], P.tup [P.str (Str.ofString "0")], P.tup [P.non]])).length ≤ 100 := by
    refine ⟨fun r hr => ?_, by simp; omega⟩
    rcases List.mem_append.mp hr with z | z
    · exact ht1 r z
    · exact (List.mem_append.mp z).elim (ha3 r) (fix10 r)
  refine ⟨by omega, ?_⟩
  generalize t1 ++ (a3 ++ [P.tup [], P.non, P.int 0, P.tup [P.int ls.length], P.tup [P.int (-1)], P.tup [P.int 0, P.int 0], P.lst [P.int 0], P.tup [P.bl true], P.tup [P.str (Str.ofString "0")], P.tup [P.non]]) = t2 at ht2
  obtain ⟨ht2, htl2⟩ := ht2
  refine hK _ (seq1 fun K hK => ?_)
  simp [mthA, mthS, sizeLine]
  refine ⟨by omega, by omega, ?_⟩
  have ht3 : (∀ r ∈ t2 ++ [P.tup [P.int 0], P.tup [P.int 0, P.int 1], P.tup [P.int 1, P.int 0], P.tup (iota 0 ls.length)], Good 100 4 r) ∧ (t2 ++ [P.tup [P.int 0], P.tup [P.int 0, P.int 1], P.tup [P.int 1, P.int 0], P.tup (iota 0 ls.length)]).length ≤ 104 := by
    refine ⟨fun r hr => ?_, by simp; omega⟩
    rcases List.mem_append.mp hr with z | z
    · exact ht2 r z
    · simp only [List.mem_cons, List.not_mem_nil, or_false] at z
      rcases z with rfl | rfl | rfl | rfl
      · exact ⟨by decide +kernel, by decide +kernel, by decide +kernel⟩
      · exact ⟨by decide +kernel, by decide +kernel, by decide +kernel⟩
      · exact ⟨by decide +kernel, by decide +kernel, by decide +kernel⟩
      · rw [iota_map]
        exact goodN road_nats (by simp; omega)
  generalize t2 ++ [P.tup [P.int 0], P.tup [P.int 0, P.int 1], P.tup [P.int 1, P.int 0], P.tup (iota 0 ls.length)] = t3 at ht3
  obtain ⟨ht3, htl3⟩ := ht3
  refine hK _ (seq1 fun K hK => ?_)
  simp
  refine lc_jar (R := fun j => [some j, some (D.p web), some (D.p (P.int ↑ls.length)), some (D.lst some1), some (D.lst t3), none, none, none]) (fun _ => True) (Good 100 4) hj (fun _ => by simp) (fun _ _ => rfl) (fun _ => by simp [holds]) (fun _ _ => trivial) (by simp [iota_len2]) ?_ ?_
  · rintro x j _ hj k hk2
    have l3 : Nat.log2 3 < 9000 := by decide
    simp
    refine ⟨hj, l3, fun r r1 r2 j hj => ⟨by omega, ?_⟩⟩
    refine lc_jar (R := fun j => [some j, some (D.p web), some (D.p (P.int ↑ls.length)), some (D.lst some1), some (D.lst t3), none, some (D.p x), none]) (fun _ => True) (fun y => ∃ k : Nat, y = natP k) hj (fun _ => by simp) (fun _ _ => rfl) (fun _ => by simp [holds]) (fun _ _ => trivial) (by simp [iota_len2]; omega) ?_ ?_
    · rintro y j _ hj k hk3
      simp
      refine ⟨hj, log2_lt (by omega), fun q q1 q2 j hj => ?_⟩
      exact hk3 _ j hj ⟨q.toNat, congrArg P.int (by omega)⟩
    · rintro acc j hj hacc hal
      simp [iota_len2] at hal
      exact hk2 _ j hj (goodN hacc (by omega))
  intro a4 j hj ha4 hl4
  simp [iota_len2] at hl4
  simp [mthA, mthS, sizeLine]
  refine ⟨by omega, ?_⟩
  have ht4 : (∀ r ∈ t3 ++ a4, Good 100 4 r) ∧ (t3 ++ a4).length ≤ 107 := ⟨fun r hr => (List.mem_append.mp hr).elim (ht3 r) (ha4 r), by simp; omega⟩
  generalize t3 ++ a4 = t4 at ht4
  obtain ⟨ht4, htl4⟩ := ht4
  refine hK _ ?_
  simp
  have e2 : cutP some1 none (some 2) = some1.take 2 := ct2
  rw [e2]
  refine lc_pure Road (Good 100 4) (by simp) (fun o => rfl) (by simp [holds]) (fun x hx => sub1 hx) (by simp; omega) ?_ ?_
  · rintro x ⟨ks, rfl, hk⟩ k hk2
    simp
    refine hk2 _ ?_
    have := goodN (m := 100) (d := 3) (road_nats (ks := ks)) (by simp; omega)
    exact good_lst.mpr (good_tup.mp this)
  intro a5 ha5 hl5
  simp at hl5
  simp [sizeLine]
  refine ⟨by omega, ?_⟩
  rw [e3]
  refine lc_jar (R := fun j => [some j, some (D.p web), some (D.p (P.int ↑ls.length)), some (D.lst some1), some (D.lst t4), none, none, none]) Road (Good 100 4) hj (fun _ => by simp) (fun _ _ => rfl) (fun _ => by simp [holds]) (fun x hx => sub1 hx) (by simp; omega) ?_ ?_
  · rintro x j ⟨ks, rfl, hk⟩ hj k hk2
    simp
    refine ⟨hj, 6, by omega, 1, by omega, goodN road_nats (by simp; omega), fun y hy j hj => hk2 _ j hj ?_⟩
    exact hy.mono (by omega) (by omega)
  intro a6 j hj ha6 hl6
  simp at hl6
  simp [sizeLine]
  refine ⟨by omega, h _ (fun r hr => ?_) (by simp; omega) j hj⟩
  rcases List.mem_append.mp hr with z | z
  · exact ht4 r z
  · exact (List.mem_append.mp z).elim (ha5 r) (ha6 r)
end PL
set_option linter.all false
set_option maxRecDepth 100000
set_option maxHeartbeats 1000000
namespace PL
open PySem PySem.Spec PyProof.Rows L2 LamX
theorem Good.small {m d : Nat} {x : P} (h : Good m d x) (hm : m ≤ 100000) : small x := small_lenP (lenP_mono hm h.le)
def g_ways_right : Fn := jarF 2 fun xs Q X => match xs with
  | [w, t] => ∃ n ls ws ts, w = webP n ls ws ∧ WebOk n ls ws ∧ t = .lst ts ∧ (∀ r ∈ ts, Good 100 4 r) ∧ Q (.p (.bl true))
  | _ => False
@[simp ↓] theorem ways_right_n : g_ways_right.n = 3 := rfl
@[simp ↓] theorem ways_right_lent : g_ways_right.lent = [0] := rfl
theorem ways_right_run {j : D} {n : Nat} {ls : List (Nat × Nat)} {ws : List Nat} {ts : List P} {Q : D → List D → Prop} {X : Nat → P → Prop} (hj : Jar j) (hw : WebOk n ls ws) (ht : ∀ r ∈ ts, Good 100 4 r) (h : ∀ j', Jar j' → Q (.p (.bl true)) [j']) : g_ways_right.run [j, .p (webP n ls ws), .p (.lst ts)] Q X := by
  rw [g_ways_right, jarF_run]
  exact ⟨hj, _, rfl, rfl, n, ls, ws, ts, rfl, hw, rfl, ht, fun j' hj' => h j' hj'⟩
theorem keepsJ2 {G : List Fn} {nN : Nat} {bs : List S} {F : JF} (h : ∀ j a b (Q : D → D → Prop) X, Jar j → F [a, b] (fun d => ∀ j', Jar j' → Q d j') X → wSs G X [0] bs (some j :: some (.p a) :: some (.p b) :: List.replicate (nN - 3) none) { nx := fun ρ => ∃ l, ρ[0]? = some (some l) ∧ Q (.p .non) l, rt := fun d ρ => ∃ l, ρ[0]? = some (some l) ∧ Q d l }) : Keeps G nN bs (jarF 2 F) :=
  keepsJ fun j xs Q X hj hl hF => by
    match xs, hl with
    | [a, b], _ => exact h j a b Q X hj hF
theorem told_bl_ok {b : Bool} : okP (.tup [.str "told", .bl b]) = true ∧ szP (.tup [.str "told", .bl b]) ≤ 100000 := by
  cases b <;> exact ⟨by decide +kernel, by decide +kernel⟩
theorem k_law_f2_ways_right : Keeps [g_same, g_law_vp_is_way, g_is_way] 4 B_law_f2_ways_right g_ways_right := keepsJ2 fun j w t Q X hj h => by
  obtain ⟨n, ls, ws, ts, rfl, hw, rfl, ht, h⟩ := h
  refine seq1 fun K hK => ?_
  simp
  refine for_ind (fun its ρ => ∃ v3 : Option D, (∀ r ∈ its, Good 100 4 r) ∧ ρ = [some j, some (.p (webP n ls ws)), some (.p (.lst ts)), v3]) ?_ ?_ _ _ ⟨_, ht, rfl⟩
  · rintro ρ ⟨v3, _, rfl⟩
    refine hK _ ?_
    simp
    exact h j hj
  · rintro x its ρ k ⟨v3, hi, rfl⟩ ih
    have hx := hi x (by simp)
    simp only [tgS_name]
    refine ⟨by simp, by simp, ?_⟩
    refine seq1 fun K hK => ?_
    simp
    refine ⟨hx.small (by decide), .inl ⟨n, ls, ws, rfl, hw, ?_⟩⟩
    refine law_is_way_run hw hx.ok (lenP_mono (by decide) hx.le) ?_
    simp [sizeLine]
    refine ⟨told_bl_ok, hK _ ?_⟩
    simp
    exact ih _ ⟨_, fun r hr => hi r (List.mem_cons_of_mem _ hr), rfl⟩
/-- a row of a drawn book -/
def g_rows : Fn := jarF 2 fun xs Q X => match xs with
  | [w, t] => ∃ n ls ws ts, w = webP n ls ws ∧ WebOk n ls ws ∧ t = .lst ts ∧ (∀ r ∈ ts, Good 100 4 r) ∧ ts.length ≤ 400 ∧ ∀ rs : List P, (∀ r ∈ rs, Good 100 5 r) → rs.length ≤ 8 → Q (.p (.tup rs))
  | _ => False
@[simp ↓] theorem rows_n : g_rows.n = 3 := rfl
@[simp ↓] theorem rows_lent : g_rows.lent = [0] := rfl
theorem rows_run {j : D} {n : Nat} {ls : List (Nat × Nat)} {ws : List Nat} {ts : List P} {Q : D → List D → Prop} {X : Nat → P → Prop} (hj : Jar j) (hw : WebOk n ls ws) (ht : ∀ r ∈ ts, Good 100 4 r) (hl : ts.length ≤ 400) (h : ∀ rs : List P, (∀ r ∈ rs, Good 100 5 r) → rs.length ≤ 8 → ∀ j', Jar j' → Q (.p (.tup rs)) [j']) : g_rows.run [j, .p (webP n ls ws), .p (.lst ts)] Q X := by
  rw [g_rows, jarF_run]
  exact ⟨hj, _, rfl, rfl, n, ls, ws, ts, rfl, hw, rfl, ht, hl, fun rs h1 h2 j' hj' => h rs h1 h2 j' hj'⟩
theorem good_str {s : Str} (h : okP (.str s) = true) {m d : Nat} : Good m d (.str s) := ⟨h, rfl, Nat.zero_le _⟩
theorem good_int {i : Int} {m d : Nat} : Good m d (.int i) := ⟨rfl, rfl, Nat.zero_le _⟩
theorem k_law_f2_rows : Keeps [g_mixed, g_law_vp_is_way, g_number, g_one] 8 B_law_f2_rows g_rows := keepsJ2 fun j w t Q X hj h => by
  obtain ⟨n, ls, ws, ts, rfl, hw, rfl, ht, htl, h⟩ := h
  have hlm := hw.hm
  have sw : okP (.str (Str.ofString "way")) = true := by decide +kernel
  have sl : okP (.str (Str.ofString "look")) = true := by decide +kernel
  refine seq1 fun K hK => ?_
  simp
  refine lc_ind (fun its acc ρ => (∀ r ∈ its, Good 100 4 r) ∧ (∀ r ∈ acc, Good 100 4 r) ∧ acc.length + its.length ≤ 400 ∧ ρ = [some j, some (.p (webP n ls ws)), some (.p (.lst ts)), none, none, none, none, none]) ?_ ?_ _ _ _ ⟨ht, by simp, by simpa using htl, rfl⟩
  case refine_2 =>
    rintro x its acc ρ k ⟨hi, ha, hl, rfl⟩ ih
    have hx := hi x (by simp)
    simp at hl
    simp
    refine law_is_way_run hw hx.ok (lenP_mono (by decide) hx.le) ?_
    have hi' := fun r hr => hi r (List.mem_cons_of_mem _ hr)
    simp
    cases (placesP n ls ws x).isSome with
    | false =>
      rw [if_neg Bool.false_ne_true]
      exact ih _ _ ⟨hi', ha, by omega, rfl⟩
    | true =>
      rw [if_pos rfl]
      refine ⟨by simp [sizeLine]; omega, ih _ _ ⟨hi', fun r hr => ?_, by simp; omega, rfl⟩⟩
      rcases List.mem_append.mp hr with z | z
      · exact ha r z
      · simp at z; subst z; exact hx
  rintro rds ρ ⟨_, hr, hrl, rfl⟩
  simp at hrl
  simp
  refine hK _ (seq1 fun K hK => ?_)
  simp
  refine ⟨hj, _, rfl, by omega, fun ys hys j hj => ?_⟩
  have ec : cutP ys none (some 4) = ys.take 4 := cut_to (k := 4)
  rw [ec]
  refine lc_jar (R := fun j => [some j, some (.p (webP n ls ws)), some (.p (.lst ts)), some (.p (.lst rds)), none, none, none, none]) (Good 100 4) (Good 100 5) hj (fun _ => by simp) (fun _ _ => rfl) (fun _ => by simp [holds]) (fun x hx => hr x (hys.mem_iff.mp (List.mem_of_mem_take hx))) (by simp; omega) ?_ ?_
  · rintro x j hx hj k hk2
    simp
    refine ⟨hj, fun i _ j hj => ⟨by decide, hk2 _ j hj (good_tup.mpr ⟨by simp, fun y hy => ?_⟩)⟩⟩
    simp at hy
    rcases hy with rfl | rfl | rfl
    · exact good_str sw
    · exact hx
    · exact good_int
  intro a1 j hj ha1 hl1
  simp at hl1
  simp
  refine hK _ (seq1 fun K hK => ?_)
  simp [webP, subO, look, subP, atI_0, atI_1]
  have ew : P.tup [P.int n, P.tup (ls.map lnkP), P.tup (ws.map natP)] = webP n ls ws := rfl
  rw [ew]
  refine ⟨by omega, hj, _, rfl, by simp [iota_len2]; omega, fun ys hys j hj => ?_⟩
  have ec3 : cutP ys none (some 3) = ys.take 3 := cut_to (k := 3)
  rw [ec3]
  have hyn : ∀ y ∈ ys.take 3, ∃ i, y = .int i := fun y hy => by
    have := hys.mem_iff.mp (List.mem_of_mem_take hy)
    rw [iota_map] at this
    obtain ⟨i, _, rfl⟩ := List.mem_map.mp this
    exact ⟨i, rfl⟩
  refine lc_jar (R := fun j => [some j, some (.p (webP n ls ws)), some (.p (.lst ts)), some (.p (.lst rds)), none, some (.lst a1), none, none]) (fun y => ∃ i, y = .int i) (Good 100 5) hj (fun _ => by simp) (fun _ _ => rfl) (fun _ => by simp [holds]) hyn (by simp; omega) ?_ ?_
  · rintro x j ⟨i, rfl⟩ hj k hk2
    simp
    refine ⟨hj, fun i _ j hj => ⟨by decide, hk2 _ j hj (good_tup.mpr ⟨by simp, fun y hy => ?_⟩)⟩⟩
    simp at hy
    rcases hy with rfl | rfl | rfl
    · exact good_str sl
    · exact good_int
    · exact good_int
  intro a2 j hj ha2 hl2
  simp at hl2
  simp [mthA, mthS, sizeLine]
  refine ⟨by omega, ?_⟩
  have hb : (∀ r ∈ a1 ++ a2, Good 100 5 r) ∧ (a1 ++ a2).length ≤ 7 := ⟨fun r hr => (List.mem_append.mp hr).elim (ha1 r) (ha2 r), by simp; omega⟩
  generalize a1 ++ a2 = b at hb
  obtain ⟨hb1, hb2⟩ := hb
  refine hK _ (seq1 fun K hK => ?_)
  simp
  rw [ne_nil (okL_iff.mpr fun x hx => (hb1 x hx).ok)]
  have last : ∀ (j : D) (c : List P), Jar j → (∀ r ∈ c, Good 100 5 r) → c.length ≤ 8 → K [some j, some (.p (webP n ls ws)), some (.p (.lst ts)), some (.p (.lst rds)), none, some (.lst c), none, none] := by
    intro j c hj hc hcl
    refine hK _ ?_
    simp
    refine ⟨hj, _, rfl, by omega, fun ys hys j hj => ?_⟩
    exact h ys (fun r hr => hc r (hys.mem_iff.mp hr)) (by rw [hys.length_eq]; exact hcl) j hj
  cases b with
  | nil =>
    simp [mthA, mthS, sizeLine]
    exact last j [] hj (by simp) (by simp)
  | cons b0 b =>
    simp [mthA, mthS, sizeLine]
    simp at hb2
    refine ⟨hj, by omega, fun x hx j hj => ⟨by omega, last j (b0 :: (b ++ [x])) hj (fun r hr => ?_) (by simp; omega)⟩⟩
    rcases List.mem_cons.mp hr with z | z
    · exact hb1 r (by simp [z])
    · rcases List.mem_append.mp z with z | z
      · exact hb1 r (by simp [z])
      · simp at z; subst z; exact hb1 r hx
end PL
set_option linter.all false
set_option maxRecDepth 100000
set_option maxHeartbeats 1000000
namespace PL
open PySem PySem.Spec PyProof.Rows L2 LamX
def toldBook (n : Nat) (ls : List (Nat × Nat)) (ws : List Nat) (x : P) : P := if isNon (bookWhat n ls ws x) = true then .tup [.str "told", x] else bookWhat n ls ws x
theorem bookAt_form {n : Nat} {ls : List (Nat × Nat)} {ws : List Nat} (x : P) : bookAt n ls ws x = none ∨ ∃ i, bookAt n ls ws x = some (17, .int i) ∨ bookAt n ls ws x = some (53, .int i) := by
  cases x
  case tup xs =>
    by_cases h : 60 < xs.length
    · exact .inr ⟨xs.length, .inr (by simp [bookAt, h])⟩
    · rcases bookAt_tup (n := n) (ls := ls) (ws := ws) h with ⟨e, _⟩ | ⟨i, e, _⟩
      · exact .inl e
      · exact .inr ⟨i, .inl e⟩
  all_goals exact .inr ⟨-1, .inl rfl⟩
theorem book_heard {n : Nat} {ls : List (Nat × Nat)} {ws : List Nat} {x : P} {R : P → Prop} {tab : List (Nat × Str)} (h1 : tab.lookup 17 = some "BadBook") (h2 : tab.lookup 53 = some "TooMany") (h : R (toldBook n ls ws x)) :
    match bookAt n ls ws x with | none => R (.tup [.str "told", x]) | some (c, y) => ∃ nm, tab.lookup c = some nm ∧ R (.tup [.str nm, y]) := by
  unfold toldBook bookWhat at h
  rcases bookAt_form (n := n) (ls := ls) (ws := ws) x with e | ⟨i, e | e⟩
  · rw [e] at h ⊢
    simpa [isNon] using h
  · rw [e] at h ⊢
    simp [isNon] at h ⊢
    exact ⟨_, h1, h⟩
  · rw [e] at h ⊢
    simp [isNon] at h ⊢
    exact ⟨_, h2, h⟩
theorem rowOk_sz {n : Nat} {ls : List (Nat × Nat)} {ws : List Nat} (hw : WebOk n ls ws) {x : P} (h : rowOk n ls ws x = true) : szP x ≤ 40 := by
  unfold rowOk at h
  split at h
  · rename_i s y z
    rw [Bool.and_eq_true] at h
    obtain ⟨i, rfl⟩ := isNum_form h.1
    have h2 := h.2
    split at h2
    · unfold placesP at h2
      cases hk : natsIn ls.length y with
      | none => rw [hk] at h2; cases h2
      | some ks =>
        rw [hk] at h2
        obtain ⟨e, _⟩ := natsIn_some hk
        subst e
        have hkl : ks.length < 25 := by
          simp only at h2
          unfold placesOf at h2
          cases ks with
          | nil => cases h2
          | cons k r =>
            simp only at h2
            split at h2
            · rename_i hlt
              have := hw.hn
              simp at hlt ⊢
              omega
            · cases h2
        simp [szP, szL, szL_nats]
        omega
    · rw [Bool.and_eq_true] at h2
      obtain ⟨j, rfl, _⟩ := whole_int h2.2
      simp [szP, szL]
  · cases h
theorem toldBook_ok {n : Nat} {ls : List (Nat × Nat)} {ws : List Nat} (hw : WebOk n ls ws) {x : P} (hx : okP x = true) : okP (toldBook n ls ws x) = true ∧ szP (toldBook n ls ws x) ≤ 100000 := by
  have s1 : okP (.str "told") = true := by decide +kernel
  have s2 : okP (.str "TooMany") = true := by decide +kernel
  have s3 : okP (.str "BadBook") = true := by decide +kernel
  unfold toldBook bookWhat
  rcases bookAt_form (n := n) (ls := ls) (ws := ws) x with e | ⟨i, e | e⟩
  · rw [e]
    have hsz : szP x ≤ 3000 := by
      unfold bookAt at e
      split at e
      · rename_i xs
        split at e
        · cases e
        · rename_i h60
          rcases firstBad_form (rowOk n ls ws) xs 0 with ⟨e2, ha⟩ | ⟨i, e2, _⟩
          · have ha := List.all_eq_true.mp ha
            have h1 : szL xs ≤ 40 * xs.length := by
              have := szL_map (f := id) (k := 40) (xs := xs) fun x hx => rowOk_sz hw (ha x hx)
              simpa using this
            simp [szP]
            omega
          · rw [e2] at e; cases e
      · cases e
    simp [isNon, okP, okL, szP, szL] at s1 ⊢
    exact ⟨⟨s1, hx⟩, by omega⟩
  · rw [e]
    simp [isNon, okP, okL, szP, szL] at s3 ⊢
    exact s3
  · rw [e]
    simp [isNon, okP, okL, szP, szL] at s2 ⊢
    exact s2
def g_books_right : Fn := jarF 2 fun xs Q X => match xs with
  | [w, t] => ∃ n ls ws ts, w = webP n ls ws ∧ WebOk n ls ws ∧ t = .lst ts ∧ (∀ r ∈ ts, Good 100 4 r) ∧ ts.length ≤ 400 ∧ Q (.p (.bl true))
  | _ => False
@[simp ↓] theorem books_right_n : g_books_right.n = 3 := rfl
@[simp ↓] theorem books_right_lent : g_books_right.lent = [0] := rfl
theorem books_right_run {j : D} {n : Nat} {ls : List (Nat × Nat)} {ws : List Nat} {ts : List P} {Q : D → List D → Prop} {X : Nat → P → Prop} (hj : Jar j) (hw : WebOk n ls ws) (ht : ∀ r ∈ ts, Good 100 4 r) (hl : ts.length ≤ 400) (h : ∀ j', Jar j' → Q (.p (.bl true)) [j']) : g_books_right.run [j, .p (webP n ls ws), .p (.lst ts)] Q X := by
  rw [g_books_right, jarF_run]
  exact ⟨hj, _, rfl, rfl, n, ls, ws, ts, rfl, hw, rfl, ht, hl, fun j' hj' => h j' hj'⟩
theorem good_list {m d : Nat} {xs : List P} (h : xs.all (fun x => okP x && lenP m x && decide (dep x ≤ d)) = true) : ∀ x ∈ xs, Good m d x := fun x hx => by
  have := List.all_eq_true.mp h x hx
  simp at this
  exact ⟨this.1.1, this.1.2, this.2⟩
theorem k_law_f2_books_right : Keeps [g_rows, g_take, g_law_f2_book_fault, g_bent 8, g_same, g_made_book, g_mixed] 12 B_law_f2_books_right g_books_right := keepsJ2 fun j w t Q X hj h => by
  obtain ⟨n, ls, ws, ts, rfl, hw, rfl, ht, htl, h⟩ := h
  have hlm := hw.hm
  refine seq1 fun K hK => ?_
  simp
  refine rows_run hj hw ht htl fun rows hr hrl j hj => ?_
  simp [webP, subO, look, subP, atI_0, atI_1]
  have ew : P.tup [P.int n, P.tup (ls.map lnkP), P.tup (ws.map natP)] = webP n ls ws := rfl
  rw [ew]
  have hgr : Good 100 6 (.tup rows) := good_tup.mpr ⟨by omega, hr⟩
  have l60 : ∀ {xs : List P}, xs.length ≤ 200 → (∀ r ∈ xs, Good 100 5 r) → Good 200 8 (.tup xs) := fun h1 h2 => good_tup.mpr ⟨h1, fun x hx => (h2 x hx).mono (by omega) (by omega)⟩
  have base : ∀ x ∈ [P.tup rows, P.lst rows, P.non, P.int 0, P.tup [], P.tup (rows ++ rows), P.tup rows.reverse, P.tup (List.replicate 20 rows).flatten, P.tup (List.replicate 61 P.non), P.tup (List.replicate 60 P.non), P.str (Str.ofString "book")], Good 200 8 x := by
    intro x hx
    simp only [List.mem_cons, List.not_mem_nil, or_false] at hx
    rcases hx with rfl | rfl | rfl | rfl | rfl | rfl | rfl | rfl | rfl | rfl | rfl
    · exact l60 (by omega) hr
    · exact good_lst.mpr ⟨by omega, fun x hx => (hr x hx).mono (by omega) (by omega)⟩
    · exact ⟨rfl, rfl, Nat.zero_le _⟩
    · exact good_int
    · exact l60 (by simp) (by simp)
    · exact l60 (by simp; omega) fun r h => (List.mem_append.mp h).elim (hr r) (hr r)
    · exact l60 (by simp; omega) fun r h => hr r (by simpa using h)
    · refine l60 (by simp; omega) fun r h => ?_
      obtain ⟨q, h1, h2⟩ := List.mem_flatten.mp h
      have := List.eq_of_mem_replicate h1
      subst this
      exact hr r h2
    · exact l60 (by simp) fun r h => by rw [List.eq_of_mem_replicate h]; exact ⟨rfl, rfl, Nat.zero_le _⟩
    · exact l60 (by simp) fun r h => by rw [List.eq_of_mem_replicate h]; exact ⟨rfl, rfl, Nat.zero_le _⟩
    · exact good_str (by decide +kernel)
  have basel : [P.tup rows, P.lst rows, P.non, P.int 0, P.tup [], P.tup (rows ++ rows), P.tup rows.reverse, P.tup (List.replicate 20 rows).flatten, P.tup (List.replicate 61 P.non), P.tup (List.replicate 60 P.non), P.str (Str.ofString "book")].length = 11 := rfl
  refine hK _ (seq1 fun K hK => ?_)
  simp [sizeLine, -List.reduceReplicate]
  refine ⟨by omega, by omega, ?_⟩
  generalize [P.tup rows, P.lst rows, P.non, P.int 0, P.tup [], P.tup (rows ++ rows), P.tup rows.reverse, P.tup (List.replicate 20 rows).flatten, P.tup (List.replicate 61 P.non), P.tup (List.replicate 60 P.non), P.str (Str.ofString "book")] = s1 at base basel ⊢
  refine hK _ (seq1 fun K hK => ?_)
  simp [sizeLine]
  refine ⟨hj, _, rfl, by omega, fun ys hys j hj => ?_⟩
  have ec : cutP ys none (some 8) = ys.take 8 := cut_to (k := 8)
  rw [ec]
  refine lc_pure (Good 100 4) (Good 100 5) (by simp) (fun o => rfl) (by simp [holds]) (fun x hx => ht x (hys.mem_iff.mp (List.mem_of_mem_take hx))) (by simp; omega) ?_ ?_
  · rintro x hx k hk2
    simp
    refine ⟨by decide, hk2 _ (good_tup.mpr ⟨by simp, fun y hy => ?_⟩)⟩
    simp at hy
    rcases hy with rfl | rfl | rfl
    · exact good_str (by decide +kernel)
    · exact hx
    · exact good_int
  intro a1 ha1 hl1
  simp at hl1
  simp [sizeLine]
  refine ⟨by omega, ?_⟩
  have m1 : ∀ x ∈ [P.tup [P.str (Str.ofString "look"), P.int ls.length, P.int 1], P.tup [P.str (Str.ofString "look"), P.int (-1), P.int 1], P.non], Good 100 5 x := by
    intro x hx
    simp only [List.mem_cons, List.not_mem_nil, or_false] at hx
    rcases hx with rfl | rfl | rfl
    · refine good_tup.mpr ⟨by simp, fun y hy => ?_⟩
      simp at hy
      rcases hy with rfl | rfl | rfl
      · exact good_str (by decide +kernel)
      · exact good_int
      · exact good_int
    · exact ⟨by decide +kernel, by decide +kernel, by decide +kernel⟩
    · exact ⟨rfl, rfl, Nat.zero_le _⟩
  have ho : ∀ {xs ys : List P}, (∀ x ∈ xs, Good 100 5 x) → (∀ x ∈ ys, Good 100 5 x) → ∀ x ∈ xs ++ ys, Good 100 5 x := fun h1 h2 x hx => (List.mem_append.mp hx).elim (h1 x) (h2 x)
  have o1 := ho ha1 m1
  have o1l : (a1 ++ [P.tup [P.str (Str.ofString "look"), P.int ls.length, P.int 1], P.tup [P.str (Str.ofString "look"), P.int (-1), P.int 1], P.non]).length ≤ 11 := by simp; omega
  generalize a1 ++ [P.tup [P.str (Str.ofString "look"), P.int ls.length, P.int 1], P.tup [P.str (Str.ofString "look"), P.int (-1), P.int 1], P.non] = b1 at o1 o1l
  refine hK _ (seq1 fun K hK => ?_)
  simp [sizeLine, mthA, mthS]
  refine ⟨by omega, ?_⟩
  have m2 : ∀ x ∈ [P.tup [P.str (Str.ofString "look"), P.bl true, P.int 1], P.tup [P.str (Str.ofString "look"), P.int 0, P.bl true], P.tup [P.str (Str.ofString "look"), P.int 0, P.str (Str.ofString "1")], P.tup [P.str (Str.ofString "look"), P.int 0], P.tup [P.str (Str.ofString "see"), P.int 0, P.int 1], P.tup [P.str (Str.ofString "way"), P.int 0, P.int 1]], Good 100 5 x := good_list (by decide +kernel)
  have o2 := ho o1 m2
  have o2l : (b1 ++ [P.tup [P.str (Str.ofString "look"), P.bl true, P.int 1], P.tup [P.str (Str.ofString "look"), P.int 0, P.bl true], P.tup [P.str (Str.ofString "look"), P.int 0, P.str (Str.ofString "1")], P.tup [P.str (Str.ofString "look"), P.int 0], P.tup [P.str (Str.ofString "see"), P.int 0, P.int 1], P.tup [P.str (Str.ofString "way"), P.int 0, P.int 1]]).length ≤ 17 := by simp; omega
  generalize b1 ++ [P.tup [P.str (Str.ofString "look"), P.bl true, P.int 1], P.tup [P.str (Str.ofString "look"), P.int 0, P.bl true], P.tup [P.str (Str.ofString "look"), P.int 0, P.str (Str.ofString "1")], P.tup [P.str (Str.ofString "look"), P.int 0], P.tup [P.str (Str.ofString "see"), P.int 0, P.int 1], P.tup [P.str (Str.ofString "way"), P.int 0, P.int 1]] = b2 at o2 o2l
  refine hK _ (seq1 fun K hK => ?_)
  simp [sizeLine, mthA, mthS]
  refine ⟨by omega, ?_⟩
  have m3 : ∀ x ∈ [P.tup [], P.tup [P.str (Str.ofString "look"), P.tup [P.int 0], P.int 1], P.tup [P.int 0, P.str (Str.ofString "look"), P.int 1], P.lst [P.str (Str.ofString "look"), P.int 0, P.int 1], P.tup [P.str (Str.ofString "look"), P.int 0, P.int 1, P.int 1], P.tup [P.str (Str.ofString "look"), P.int 0, P.non]], Good 100 5 x := good_list (by decide +kernel)
  have o3 := ho o2 m3
  have o3l : (b2 ++ [P.tup [], P.tup [P.str (Str.ofString "look"), P.tup [P.int 0], P.int 1], P.tup [P.int 0, P.str (Str.ofString "look"), P.int 1], P.lst [P.str (Str.ofString "look"), P.int 0, P.int 1], P.tup [P.str (Str.ofString "look"), P.int 0, P.int 1, P.int 1], P.tup [P.str (Str.ofString "look"), P.int 0, P.non]]).length ≤ 23 := by simp; omega
  generalize b2 ++ [P.tup [], P.tup [P.str (Str.ofString "look"), P.tup [P.int 0], P.int 1], P.tup [P.int 0, P.str (Str.ofString "look"), P.int 1], P.lst [P.str (Str.ofString "look"), P.int 0, P.int 1], P.tup [P.str (Str.ofString "look"), P.int 0, P.int 1, P.int 1], P.tup [P.str (Str.ofString "look"), P.int 0, P.non]] = b3 at o3 o3l
  refine hK _ (seq1 fun K hK => ?_)
  simp [sizeLine, mthA, mthS]
  refine ⟨by omega, ?_⟩
  have o4 := ho o3 (good_list (xs := [P.tup [P.non, P.int 0, P.int 1]]) (by decide +kernel))
  have o4l : (b3 ++ [P.tup [P.non, P.int 0, P.int 1]]).length ≤ 24 := by simp; omega
  generalize b3 ++ [P.tup [P.non, P.int 0, P.int 1]] = b4 at o4 o4l
  refine hK _ (seq1 fun K hK => ?_)
  simp
  have rowsC : ∀ (k : Nat) (x : P), Good 100 5 x → Good 200 8 (.tup (rows.take k ++ x :: rows.drop k)) := fun k x hx => l60 (by simp; omega) fun r h => by
    rcases List.mem_append.mp h with z | z
    · exact hr r (List.mem_of_mem_take z)
    · rcases List.mem_cons.mp z with z | z
      · exact z ▸ hx
      · exact hr r (List.mem_of_mem_drop z)
  -- behind the odd ones
  have tail : ∀ (j : D) (s : List P) (v8 v9 : Option D), Jar j → (∀ x ∈ s, Good 200 8 x) → s.length ≤ 40 → K [some j, some (D.p (webP n ls ws)), some (D.p (P.lst ts)), some (D.p (P.tup rows)), some (D.p (P.int ↑ls.length)), some (D.lst s), some (D.lst b4), none, v8, v9, none, none] := by
    intro j s v8 v9 hj hs hsl
    refine hK _ (seq1 fun K hK => ?_)
    simp [sizeLine, mthA, mthS]
    refine ⟨by omega, by omega, by omega, ?_⟩
    have hs2 : ∀ x ∈ s ++ [P.tup (P.non :: (rows ++ [P.int 0]))], Good 200 8 x := fun x hx => (List.mem_append.mp hx).elim (hs x) fun z => by
      simp only [List.mem_cons, List.not_mem_nil, or_false] at z
      subst z
      refine l60 (by simp; omega) fun r h => ?_
      rcases List.mem_cons.mp h with z | z
      · subst z; exact ⟨rfl, rfl, Nat.zero_le _⟩
      · rcases List.mem_append.mp z with z | z
        · exact hr r z
        · simp at z; subst z; exact good_int
    have hs2l : (s ++ [P.tup (P.non :: (rows ++ [P.int 0]))]).length ≤ 41 := by simp; omega
    generalize s ++ [P.tup (P.non :: (rows ++ [P.int 0]))] = s2 at hs2 hs2l
    refine hK _ (seq1 fun K hK => ?_)
    simp [sizeLine]
    refine ⟨hj, 100, by omega, 6, by omega, hgr, fun y hy j hj => ⟨hj, 100, by omega, 6, by omega, hgr, fun y1 hy1 j hj => ⟨hj, 101, by omega, 7, by omega, hy1, fun y2 hy2 j hj => ⟨by omega, ?_⟩⟩⟩⟩
    refine for_ind (fun its ρ => ∃ v7 v10 v11 : Option D, (∀ x ∈ its, Good 200 8 x) ∧ ρ = [some j, some (D.p (webP n ls ws)), some (D.p (P.lst ts)), some (D.p (P.tup rows)), some (D.p (P.int ↑ls.length)), some (D.lst s2), some (D.lst b4), v7, v8, v9, v10, v11]) ?_ ?_ _ _ ⟨_, _, _, fun x hx => ?_, rfl⟩
    · rintro ρ ⟨v7, v10, v11, _, rfl⟩
      refine hK _ ?_
      simp
      exact h j hj
    · rintro x its ρ k ⟨v7, v10, v11, hi, rfl⟩ ih
      have hx := hi x (by simp)
      simp only [tgS_name]
      refine ⟨by simp, by simp, ?_⟩
      refine seq1 fun K hK => ?_
      simp
      refine book_fault_run hw hx.ok (lenP_mono (by decide) hx.le) ?_
      simp
      refine hK _ (seq1 fun K hK => ?_)
      simp
      refine made_book_run hx.ok (lenP_mono (by decide) hx.le) (.inl ⟨n, ls, ws, rfl, hw, ?_⟩)
      refine book_heard (R := fun y => K [some j, some (D.p (webP n ls ws)), some (D.p (P.lst ts)), some (D.p (P.tup rows)), some (D.p (P.int ↑ls.length)), some (D.lst s2), some (D.lst b4), some (.p x), v8, v9, some (.p (bookWhat n ls ws x)), some (.p y)]) rfl rfl (hK _ (seq1 fun K hK => ?_))
      obtain ⟨t1, t2⟩ := toldBook_ok hw hx.ok
      simp [sizeLine]
      have next : K [some j, some (D.p (webP n ls ws)), some (D.p (P.lst ts)), some (D.p (P.tup rows)), some (D.p (P.int ↑ls.length)), some (D.lst s2), some (D.lst b4), some (.p x), v8, v9, some (.p (bookWhat n ls ws x)), some (.p (toldBook n ls ws x))] := by
        refine hK _ ?_
        simp
        exact ih _ ⟨_, _, _, fun y hy => hi y (List.mem_cons_of_mem _ hy), rfl⟩
      split
      · rename_i q
        exact ⟨⟨by simp [toldBook, q], t1, t2⟩, next⟩
      · rename_i q
        exact ⟨⟨by simp [toldBook, q], t1, t2⟩, next⟩
    · rcases List.mem_append.mp hx with z | z
      · exact hs2 x z
      · simp only [List.mem_cons, List.not_mem_nil, or_false] at z
        rcases z with rfl | rfl
        · exact hy.mono (by omega) (by omega)
        · exact hy2.mono (by omega) (by omega)
  refine for_ind (fun its ρ => ∃ (j : D) (s : List P) (v8 v9 : Option D), Jar j ∧ (∀ x ∈ its, Good 100 5 x) ∧ (∀ x ∈ s, Good 200 8 x) ∧ s.length + its.length ≤ 40 ∧ ρ = [some j, some (D.p (webP n ls ws)), some (D.p (P.lst ts)), some (D.p (P.tup rows)), some (D.p (P.int ↑ls.length)), some (D.lst s), some (D.lst b4), none, v8, v9, none, none]) ?_ ?_ _ _ ⟨j, s1, _, _, hj, o4, base, by omega, rfl⟩
  · rintro ρ ⟨j, s, v8, v9, hj, _, hs, hsl, rfl⟩
    exact tail j s v8 v9 hj hs (by simpa using hsl)
  · rintro x its ρ k ⟨j, s, v8, v9, hj, hi, hs, hsl, rfl⟩ ih
    simp at hsl
    simp only [tgS_name]
    refine ⟨by simp, by simp, ?_⟩
    refine seq1 fun K2 hK2 => ?_
    simp
    refine ⟨hj, log2_lt (by omega), fun r r1 r2 j hj => ?_⟩
    obtain ⟨r, rfl⟩ : ∃ k : Nat, r = k := ⟨r.toNat, by omega⟩
    refine hK2 _ (seq1 fun K2 hK2 => ?_)
    simp [sizeLine, mthA, mthS, cut_to, cut_from]
    refine ⟨by omega, by omega, by omega, hK2 _ ?_⟩
    simp [holds]
    refine ih _ ⟨j, _, _, _, hj, fun y hy => hi y (List.mem_cons_of_mem _ hy), fun y hy => ?_, by simp; omega, rfl⟩
    rcases List.mem_append.mp hy with z | z
    · exact hs y z
    · simp only [List.mem_cons, List.not_mem_nil, or_false] at z
      subst z
      exact rowsC r x (hi x (by simp))
end PL
set_option linter.all false
set_option maxRecDepth 100000
set_option maxHeartbeats 1000000
namespace PL
open PySem PySem.Spec PyProof.Rows L2 LamX
theorem boundOk_ok {x : P} (h : boundOk x = true) : okP x = true ∧ szP x ≤ 3 := by
  unfold boundOk at h
  split at h
  · rename_i a b
    simp only [Bool.and_eq_true] at h
    rcases non_or_num h.1.1 with rfl | ⟨i, rfl⟩ <;> rcases non_or_num h.1.2 with rfl | ⟨k, rfl⟩ <;> exact ⟨by simp [okP, okL], by simp [szP, szL]⟩
  · cases h
theorem priceOk_ok {x : P} (h : priceOk x = true) : okP x = true ∧ szP x ≤ 3 := by
  unfold priceOk at h
  rw [Bool.and_eq_true] at h
  obtain ⟨i, rfl⟩ := isNum_form h.1
  exact ⟨rfl, by simp [szP]⟩
/-- one of .. to sixty -/
theorem upto60 {x : P} {r : Int} {l : List Int} (r1 : 0 ≤ r) (r2 : r < 61) (hl : ∀ i ∈ l, 0 ≤ i ∧ i ≤ 60) (hx : x ∈ l.map P.int ++ [.int r]) : ∃ m : Nat, x = .int m ∧ m ≤ 60 := by
  rcases List.mem_append.mp hx with z | z
  · obtain ⟨i, h1, rfl⟩ := List.mem_map.mp z
    have := hl i h1
    exact ⟨i.toNat, congrArg P.int (by omega), by omega⟩
  · simp at z
    subst z
    exact ⟨r.toNat, congrArg P.int (by omega), by omega⟩
/-- the walk over the things: what is told is what is owed -/
theorem same_walk {s : Str} {f : P → Bool} {x : P} {m : Int} {K : Env' → Prop} {ρ : Env'} (t1 : okP (toldX s f x m) = true) (t2 : szP (toldX s f x m) ≤ 100000) (hk : K ρ) :
    if isNon (badIn f x m) = true then (toldX s f x m = P.tup [P.str (Str.ofString "told"), x] ∧ okP (toldX s f x m) = true ∧ szP (toldX s f x m) ≤ 100000) ∧ K ρ
    else (toldX s f x m = P.tup [P.str s, badIn f x m] ∧ okP (toldX s f x m) = true ∧ szP (toldX s f x m) ≤ 100000) ∧ K ρ := by
  split
  · rename_i q
    exact ⟨⟨by simp [toldX, q], t1, t2⟩, hk⟩
  · rename_i q
    exact ⟨⟨by simp [toldX, q], t1, t2⟩, hk⟩
theorem k_law_f2_ends_right : Keeps [g_one, g_number, g_bent 8, g_take, g_bad boundOk, g_same, g_made_bounds] 14 B_law_f2_ends_right g_true := keepsJ0 fun j Q X hj h => by
  have l61 : Nat.log2 61 < 9000 := by decide
  have l30 : Nat.log2 30 < 9000 := by decide
  refine seq1 fun K hK => ?_
  simp [sizeLine]
  refine ⟨hj, l61, fun r r1 r2 j hj => ⟨hj, fun x hx j hj => ?_⟩⟩
  obtain ⟨m, rfl, hm⟩ := upto60 (l := [0, 1, 2, 3, 6, 60]) r1 r2 (by decide) hx
  refine hK _ (seq1 fun K hK => ?_)
  simp
  refine ⟨by omega, ?_⟩
  have ex5 : ∀ (low r : Int), ∀ x ∈ [P.tup [P.int low, P.int low], P.tup [P.int low, P.int (low + r)], P.tup [P.non, P.int low], P.tup [P.int low, P.non], P.tup [P.non, P.non]], Good 60 1 x := by
    intro low r x hx
    simp only [List.mem_cons, List.not_mem_nil, or_false] at hx
    rcases hx with rfl | rfl | rfl | rfl | rfl <;> exact ⟨by simp [okP, okL], by simp [lenP, lenL], by simp [dep, depL]⟩
  refine for_rng (fun i ρ => ∃ (j : D) (s : List P) (v3 v4 v5 : Option D), Jar j ∧ s.length = i ∧ (∀ x ∈ s, Good 60 1 x) ∧ ρ = [some j, some (.p (.int m)), some (.lst s), v3, v4, v5, none, none, none, none, none, none, none, none]) ?_ ?_ ⟨j, [], _, _, _, hj, rfl, by simp, rfl⟩
  · rintro ρ ⟨j, row, v3, v4, v5, hj, hl, hr, rfl⟩
    have hgr : Good 60 2 (.tup row) := good_tup.mpr ⟨by omega, hr⟩
    have hr2 : ∀ x ∈ row, Good 200 6 x := fun x hx => (hr x hx).mono (by omega) (by omega)
    refine hK _ (seq1 fun K hK => ?_)
    simp
    refine hK _ (seq1 fun K hK => ?_)
    simp [sizeLine, -List.reduceReplicate]
    refine ⟨by omega, by omega, ?_⟩
    have tupG : ∀ {xs : List P}, xs.length ≤ 200 → (∀ r ∈ xs, Good 200 6 r) → Good 200 8 (.tup xs) := fun h1 h2 => good_tup.mpr ⟨h1, fun x hx => (h2 x hx).mono (by omega) (by omega)⟩
    have hcl : ∀ {a b : Option Int}, (cutP row a b).length ≤ 60 := fun {a b} => Nat.le_trans cut_len (by omega)
    have base : ∀ x ∈ [P.tup row, P.tup (row ++ [P.tup [P.int 0, P.int 1]]), P.tup (cutP row (some 1) none), P.lst row, P.non, P.int 0, P.tup (List.replicate m (P.tup [P.non, P.non])), P.tup row.reverse], Good 200 8 x := by
      intro x hx
      simp only [List.mem_cons, List.not_mem_nil, or_false] at hx
      rcases hx with rfl | rfl | rfl | rfl | rfl | rfl | rfl | rfl
      · exact tupG (by omega) hr2
      · refine tupG (by simp; omega) fun r h => (List.mem_append.mp h).elim (hr2 r) fun z => ?_
        simp at z; subst z
        exact ⟨by decide +kernel, by decide +kernel, by decide +kernel⟩
      · exact tupG (Nat.le_trans hcl (by decide)) fun r h => hr2 r (cut_mem h)
      · exact good_lst.mpr ⟨by omega, fun x hx => (hr x hx).mono (by omega) (by omega)⟩
      · exact ⟨rfl, rfl, Nat.zero_le _⟩
      · exact good_int
      · refine tupG (by simp; omega) fun r h => ?_
        rw [List.eq_of_mem_replicate h]
        exact ⟨by decide +kernel, by decide +kernel, by decide +kernel⟩
      · exact tupG (by simp; omega) fun r h => hr2 r (by simpa using h)
    have basel : [P.tup row, P.tup (row ++ [P.tup [P.int 0, P.int 1]]), P.tup (cutP row (some 1) none), P.lst row, P.non, P.int 0, P.tup (List.replicate m (P.tup [P.non, P.non])), P.tup row.reverse].length = 8 := rfl
    generalize [P.tup row, P.tup (row ++ [P.tup [P.int 0, P.int 1]]), P.tup (cutP row (some 1) none), P.lst row, P.non, P.int 0, P.tup (List.replicate m (P.tup [P.non, P.non])), P.tup row.reverse] = t0 at base basel ⊢
    refine hK _ (seq1 fun K hK => ?_)
    simp [mthA, mthS, sizeLine]
    refine ⟨hj, 60, by omega, 2, by omega, hgr, fun y hy j hj => ⟨by omega, ?_⟩⟩
    have t1g : ∀ x ∈ t0 ++ [y], Good 200 8 x := fun x hx => (List.mem_append.mp hx).elim (base x) fun z => by
      simp at z; subst z; exact hy.mono (by omega) (by omega)
    have t1l : (t0 ++ [y]).length ≤ 9 := by simp; omega
    generalize t0 ++ [y] = t1 at t1g t1l
    refine hK _ (seq1 fun K hK => ?_)
    simp [sizeLine]
    have odg : ∀ x ∈ [P.tup [P.int 1, P.int 0], P.tup [P.int 0], P.tup [P.int 0, P.int 1, P.int 2], P.lst [P.int 0, P.int 1], P.non, P.int 5, P.tup [P.bl true, P.int 2], P.tup [P.int 0, P.bl false], P.tup [P.str (Str.ofString "0"), P.int 1], P.tup [P.int (-1), P.int (-2)], P.tup [P.int 0, P.tup [P.int 1]], P.tup [P.int 3, P.int 3]], Good 200 6 x := good_list (by decide +kernel)
    have odl : [P.tup [P.int 1, P.int 0], P.tup [P.int 0], P.tup [P.int 0, P.int 1, P.int 2], P.lst [P.int 0, P.int 1], P.non, P.int 5, P.tup [P.bl true, P.int 2], P.tup [P.int 0, P.bl false], P.tup [P.str (Str.ofString "0"), P.int 1], P.tup [P.int (-1), P.int (-2)], P.tup [P.int 0, P.tup [P.int 1]], P.tup [P.int 3, P.int 3]].length = 12 := rfl
    generalize [P.tup [P.int 1, P.int 0], P.tup [P.int 0], P.tup [P.int 0, P.int 1, P.int 2], P.lst [P.int 0, P.int 1], P.non, P.int 5, P.tup [P.bl true, P.int 2], P.tup [P.int 0, P.bl false], P.tup [P.str (Str.ofString "0"), P.int 1], P.tup [P.int (-1), P.int (-2)], P.tup [P.int 0, P.tup [P.int 1]], P.tup [P.int 3, P.int 3]] = od at odg odl ⊢
    refine hK _ (seq1 fun K hK => ?_)
    simp
    -- the walk over all things
    have tail : ∀ (j : D) (t : List P) (v8 : D) (v9 v10 : Option D), Jar j → (∀ x ∈ t, Good 200 8 x) → t.length ≤ 30 → K [some j, some (.p (.int m)), some (.lst row), v3, v4, v5, some (.p (.tup row)), some (.lst t), some v8, v9, v10, none, none, none] := by
      intro j t v8 v9 v10 hj ht htl
      refine hK _ (seq1 fun K hK => ?_)
      simp
      refine for_ind (fun its ρ => ∃ v11 v12 v13 : Option D, (∀ x ∈ its, Good 200 8 x) ∧ ρ = [some j, some (.p (.int m)), some (.lst row), v3, v4, v5, some (.p (.tup row)), some (.lst t), some v8, v9, v10, v11, v12, v13]) ?_ ?_ _ _ ⟨_, _, _, ht, rfl⟩
      · rintro ρ ⟨v11, v12, v13, _, rfl⟩
        refine hK _ ?_
        simp
        exact h j hj
      · rintro x its ρ k ⟨v11, v12, v13, hi, rfl⟩ ih
        have hx := hi x (by simp)
        simp only [tgS_name]
        refine ⟨by simp, by simp, ?_⟩
        refine seq1 fun K hK => ?_
        simp
        refine ⟨hx.ok, hx.small (by decide), hK _ (seq1 fun K hK => ?_)⟩
        simp
        have hm' : 0 ≤ (m : Int) ∧ (m : Int) ≤ 60 := by omega
        refine madeX_heard (s := "BadBounds") (R := fun y => K [some j, some (.p (.int m)), some (.lst row), v3, v4, v5, some (.p (.tup row)), some (.lst t), some v8, v9, v10, some (.p x), some (.p (badIn boundOk x m)), some (.p y)]) hm' rfl (hK _ (seq1 fun K hK => ?_))
        obtain ⟨t1, t2⟩ := toldX_ok (s := "BadBounds") (f := boundOk) (x := x) (m := m) (k := 3) (by decide +kernel) (fun x => boundOk_ok) hm'.2 (by decide)
        simp [sizeLine]
        refine same_walk t1 t2 (hK _ ?_)
        simp [holds]
        exact ih _ ⟨_, _, _, fun y hy => hi y (List.mem_cons_of_mem _ hy), rfl⟩
    -- the odd ones are put in
    have put : ∀ (od : List P) (v8 : D), (∀ x ∈ od, Good 200 6 x) → od.length ≤ 12 → (od ≠ [] → 0 < m) → forT [0] (Tg.name 9) (bodyS [g_one, g_number, g_bent 8, g_take, g_bad boundOk, g_same, g_made_bounds] X [0] [.set 10 (.call 3 [.var 0, .var 1]), .ex (.mth .append 7 [.bin .add (.bin .add (.slc (.var 6) .non (.var 10)) (.tup [.var 9])) (.slc (.var 6) (.bin .add (.var 10) (.int 1)) .non)])]) [] od [some j, some (.p (.int m)), some (.lst row), v3, v4, v5, some (.p (.tup row)), some (.lst t1), some v8, none, none, none, none, none] { nx := K, rt := fun d ρ => ∃ l, ρ[0]? = some (some l) ∧ Q d l } := by
      intro od v8 hod hol hm0
      refine for_ind (fun its ρ => ∃ (j : D) (t : List P) (v9 v10 : Option D), Jar j ∧ (∀ x ∈ its, Good 200 6 x) ∧ (its ≠ [] → 0 < m) ∧ (∀ x ∈ t, Good 200 8 x) ∧ t.length + its.length ≤ 30 ∧ ρ = [some j, some (.p (.int m)), some (.lst row), v3, v4, v5, some (.p (.tup row)), some (.lst t), some v8, v9, v10, none, none, none]) ?_ ?_ _ _ ⟨j, t1, _, _, hj, hod, hm0, t1g, by omega, rfl⟩
      · rintro ρ ⟨j, t, v9, v10, hj, _, _, ht, htl, rfl⟩
        exact tail j t v8 v9 v10 hj ht (by simpa using htl)
      · rintro x its ρ k ⟨j, t, v9, v10, hj, hi, hm1, ht, htl, rfl⟩ ih
        have hm2 := hm1 (by simp)
        have hx := hi x (by simp)
        simp at htl
        simp only [tgS_name]
        refine ⟨by simp, by simp, ?_⟩
        refine seq1 fun K2 hK2 => ?_
        simp
        refine ⟨hj, ⟨by omega, log2_lt (by omega)⟩, fun r r1 r2 j hj => hK2 _ (seq1 fun K2 hK2 => ?_)⟩
        obtain ⟨r, rfl⟩ : ∃ k : Nat, r = k := ⟨r.toNat, by omega⟩
        simp [sizeLine, mthA, mthS, cut_to, cut_from1]
        refine ⟨by omega, by omega, by omega, hK2 _ ?_⟩
        simp
        refine ih _ ⟨j, _, _, _, hj, fun y hy => hi y (List.mem_cons_of_mem _ hy), fun _ => hm2, fun y hy => ?_, by simp; omega, rfl⟩
        rcases List.mem_append.mp hy with z | z
        · exact ht y z
        · simp only [List.mem_cons, List.not_mem_nil, or_false] at z
          subst z
          refine tupG (by simp; omega) fun q hq => ?_
          rcases List.mem_append.mp hq with z | z
          · exact hr2 q (List.mem_of_mem_take z)
          · rcases List.mem_cons.mp z with z | z
            · exact z ▸ hx
            · exact hr2 q (List.mem_of_mem_drop z)
    by_cases hm0 : 0 < m
    · simp [hm0]
      exact put od _ odg (by omega) fun _ => hm0
    · simp [hm0]
      exact put [] _ (by simp) (by simp) fun z => absurd rfl z
  · rintro i ρ k hi ⟨j, s, v3, v4, v5, hj, hl, hs, rfl⟩ ih
    simp only [tgS_name]
    refine ⟨by simp, by simp, ?_⟩
    refine seq1 fun K2 hK2 => ?_
    simp
    refine ⟨hj, fun low _ j hj => hK2 _ (seq1 fun K2 hK2 => ?_)⟩
    simp [sizeLine]
    refine ⟨hj, l30, fun r _ _ j hj => hK2 _ (seq1 fun K2 hK2 => ?_)⟩
    have e5 := ex5 low r
    generalize hps : [P.tup [P.int low, P.int low], P.tup [P.int low, P.int (low + r)], P.tup [P.non, P.int low], P.tup [P.int low, P.non], P.tup [P.non, P.non]] = ps at *
    have pl : ps ≠ [] ∧ ps.length ≤ 1000000 := by rw [← hps]; exact ⟨by simp, by simp⟩
    simp [mthA, mthS, sizeLine]
    refine ⟨hj, pl, fun x hx j hj => ⟨by omega, hK2 _ ?_⟩⟩
    simp
    refine ih _ ⟨j, _, _, _, _, hj, by simp [hl], fun y hy => ?_, rfl⟩
    rcases List.mem_append.mp hy with z | z
    · exact hs y z
    · simp at z; subst z; exact e5 y hx
end PL
set_option linter.all false
set_option maxRecDepth 100000
set_option maxHeartbeats 1000000
namespace PL
open PySem PySem.Spec PyProof.Rows L2 LamX
theorem k_law_f2_prices_right : Keeps [g_one, g_bent 8, g_take, g_bad priceOk, g_same, g_made_prices] 10 B_law_f2_prices_right g_true := keepsJ0 fun j Q X hj h => by
  have l61 : Nat.log2 61 < 9000 := by decide
  have c50 : CPow 10 50 := cpow (by decide) (by decide) (by decide)
  refine seq1 fun K hK => ?_
  simp [sizeLine]
  refine ⟨hj, l61, fun r r1 r2 j hj => ⟨hj, fun x hx j hj => ?_⟩⟩
  obtain ⟨m, rfl, hm⟩ := upto60 (l := [0, 1, 2, 3, 6, 60]) r1 r2 (by decide) hx
  refine hK _ (seq1 fun K hK => ?_)
  simp
  refine ⟨by omega, ?_⟩
  refine lc_jar (R := fun j => [some j, some (.p (.int m)), none, none, none, none, none, none, none, none]) (fun _ => True) (fun y => ∃ i, y = .int i) hj (fun _ => by simp) (fun _ _ => rfl) (fun _ => by simp [holds]) (fun _ _ => trivial) (by simp [iota_len2]; omega) ?_ ?_
  · rintro x j _ hj k hk2
    simp [sizeLine]
    refine ⟨c50, hj, fun y hy j hj => hk2 _ j hj ?_⟩
    simp at hy
    rcases hy with rfl | rfl | rfl | rfl | rfl | rfl <;> exact ⟨_, rfl⟩
  intro row j hj hr0 hl
  simp [iota_len2] at hl
  have hr : ∀ {m' d : Nat}, ∀ x ∈ row, Good m' d x := fun {m' d} x hx => by obtain ⟨i, rfl⟩ := hr0 x hx; exact good_int
  have hr2 : ∀ x ∈ row, Good 200 6 x := hr
  have hgr : Good 60 1 (.tup row) := good_tup.mpr ⟨by omega, hr⟩
  have tupG : ∀ {xs : List P}, xs.length ≤ 200 → (∀ r ∈ xs, Good 200 6 r) → Good 200 8 (.tup xs) := fun h1 h2 => good_tup.mpr ⟨h1, fun x hx => (h2 x hx).mono (by omega) (by omega)⟩
  have hcl : ∀ {a b : Option Int}, (cutP row a b).length ≤ 60 := fun {a b} => Nat.le_trans cut_len (by omega)
  simp
  refine hK _ (seq1 fun K hK => ?_)
  simp [sizeLine]
  refine ⟨by omega, hj, 60, by omega, 1, by omega, hgr, fun y hy j hj => ?_⟩
  have t1g : ∀ x ∈ [P.tup row, P.tup (row ++ [P.int 0]), P.tup (cutP row (some 1) none), P.lst row, P.non, P.int 0, P.tup [P.tup row], y], Good 200 8 x := by
    intro x hx
    simp only [List.mem_cons, List.not_mem_nil, or_false] at hx
    rcases hx with rfl | rfl | rfl | rfl | rfl | rfl | rfl | rfl
    · exact tupG (by omega) hr2
    · refine tupG (by simp; omega) fun r h => (List.mem_append.mp h).elim (hr2 r) fun z => ?_
      simp at z; subst z; exact good_int
    · exact tupG (Nat.le_trans hcl (by decide)) fun r h => hr2 r (cut_mem h)
    · exact good_lst.mpr ⟨by omega, hr⟩
    · exact ⟨rfl, rfl, Nat.zero_le _⟩
    · exact good_int
    · refine tupG (by simp) fun r h => ?_
      simp at h; subst h
      exact hgr.mono (by omega) (by omega)
    · exact hy.mono (by omega) (by omega)
  have t1l : [P.tup row, P.tup (row ++ [P.int 0]), P.tup (cutP row (some 1) none), P.lst row, P.non, P.int 0, P.tup [P.tup row], y].length = 8 := rfl
  generalize [P.tup row, P.tup (row ++ [P.int 0]), P.tup (cutP row (some 1) none), P.lst row, P.non, P.int 0, P.tup [P.tup row], y] = t1 at t1g t1l ⊢
  refine hK _ (seq1 fun K hK => ?_)
  have tail : ∀ (j : D) (t : List P) (v5 v6 : Option D), Jar j → (∀ x ∈ t, Good 200 8 x) → t.length ≤ 30 → K [some j, some (.p (.int m)), some (.p (.tup row)), none, some (.lst t), v5, v6, none, none, none] := by
    intro j t v5 v6 hj ht htl
    refine hK _ (seq1 fun K hK => ?_)
    simp
    refine for_ind (fun its ρ => ∃ v7 v8 v9 : Option D, (∀ x ∈ its, Good 200 8 x) ∧ ρ = [some j, some (.p (.int m)), some (.p (.tup row)), none, some (.lst t), v5, v6, v7, v8, v9]) ?_ ?_ _ _ ⟨_, _, _, ht, rfl⟩
    · rintro ρ ⟨v7, v8, v9, _, rfl⟩
      refine hK _ ?_
      simp
      exact h j hj
    · rintro x its ρ k ⟨v7, v8, v9, hi, rfl⟩ ih
      have hx := hi x (by simp)
      simp only [tgS_name]
      refine ⟨by simp, by simp, ?_⟩
      refine seq1 fun K hK => ?_
      simp
      refine ⟨hx.ok, hx.small (by decide), hK _ (seq1 fun K hK => ?_)⟩
      simp
      have hm' : 0 ≤ (m : Int) ∧ (m : Int) ≤ 60 := by omega
      refine madeX_heard (s := "BadPrices") (R := fun y => K [some j, some (.p (.int m)), some (.p (.tup row)), none, some (.lst t), v5, v6, some (.p x), some (.p (badIn priceOk x m)), some (.p y)]) hm' rfl (hK _ (seq1 fun K hK => ?_))
      obtain ⟨t1, t2⟩ := toldX_ok (s := "BadPrices") (f := priceOk) (x := x) (m := m) (k := 3) (by decide +kernel) (fun x => priceOk_ok) hm'.2 (by decide)
      simp [sizeLine]
      refine same_walk t1 t2 (hK _ ?_)
      simp [holds]
      exact ih _ ⟨_, _, _, fun y hy => hi y (List.mem_cons_of_mem _ hy), rfl⟩
  have put : ∀ (od : List P), (∀ x ∈ od, Good 200 6 x) → od.length ≤ 12 → (od ≠ [] → 0 < m) → forT [0] (Tg.name 5) (bodyS [g_one, g_bent 8, g_take, g_bad priceOk, g_same, g_made_prices] X [0] [.set 6 (.call 2 [.var 0, .var 1]), .ex (.mth .append 4 [.bin .add (.bin .add (.slc (.var 2) .non (.var 6)) (.tup [.var 5])) (.slc (.var 2) (.bin .add (.var 6) (.int 1)) .non)])]) [] od [some j, some (.p (.int m)), some (.p (.tup row)), none, some (.lst t1), none, none, none, none, none] { nx := K, rt := fun d ρ => ∃ l, ρ[0]? = some (some l) ∧ Q d l } := by
    intro od hod hol hm0
    refine for_ind (fun its ρ => ∃ (j : D) (t : List P) (v5 v6 : Option D), Jar j ∧ (∀ x ∈ its, Good 200 6 x) ∧ (its ≠ [] → 0 < m) ∧ (∀ x ∈ t, Good 200 8 x) ∧ t.length + its.length ≤ 30 ∧ ρ = [some j, some (.p (.int m)), some (.p (.tup row)), none, some (.lst t), v5, v6, none, none, none]) ?_ ?_ _ _ ⟨j, t1, _, _, hj, hod, hm0, t1g, by omega, rfl⟩
    · rintro ρ ⟨j, t, v5, v6, hj, _, _, ht, htl, rfl⟩
      exact tail j t v5 v6 hj ht (by simpa using htl)
    · rintro x its ρ k ⟨j, t, v5, v6, hj, hi, hm1, ht, htl, rfl⟩ ih
      have hm2 := hm1 (by simp)
      have hx := hi x (by simp)
      simp at htl
      simp only [tgS_name]
      refine ⟨by simp, by simp, ?_⟩
      refine seq1 fun K2 hK2 => ?_
      simp
      refine ⟨hj, ⟨by omega, log2_lt (by omega)⟩, fun r r1 r2 j hj => hK2 _ (seq1 fun K2 hK2 => ?_)⟩
      obtain ⟨r, rfl⟩ : ∃ k : Nat, r = k := ⟨r.toNat, by omega⟩
      simp [sizeLine, mthA, mthS, cut_to, cut_from1]
      refine ⟨by omega, by omega, by omega, hK2 _ ?_⟩
      simp
      refine ih _ ⟨j, _, _, _, hj, fun y hy => hi y (List.mem_cons_of_mem _ hy), fun _ => hm2, fun y hy => ?_, by simp; omega, rfl⟩
      rcases List.mem_append.mp hy with z | z
      · exact ht y z
      · simp only [List.mem_cons, List.not_mem_nil, or_false] at z
        subst z
        refine tupG (by simp; omega) fun q hq => ?_
        rcases List.mem_append.mp hq with z | z
        · exact hr2 q (List.mem_of_mem_take z)
        · rcases List.mem_cons.mp z with z | z
          · exact z ▸ hx
          · exact hr2 q (List.mem_of_mem_drop z)
  by_cases hm0 : 0 < m
  · simp [hm0, sizeLine]
    refine ⟨c50, put _ (good_list ?_) (by simp) fun _ => hm0⟩
    decide +kernel
  · simp [hm0]
    exact put [] (by simp) (by simp) fun z => absurd rfl z
end PL
set_option linter.all false
set_option maxRecDepth 100000
set_option maxHeartbeats 1000000
namespace PL
open PySem PySem.Spec PyProof.Rows L2 LamX
theorem pairAt_app {n : Int} : ∀ {xs : List P} {j : Int} {y : P}, pairOk n y = false → pairAt n j (xs ++ [y]) ≠ none
  | [], j, y, h => by simp [pairAt, h]
  | x :: xs, j, y, h => by
    simp only [List.cons_append, pairAt]
    split
    · exact pairAt_app h
    · simp
/-- six that are no webs -/
def badWebs (n : Nat) (rows es : List P) : List P := [.non, .tup [.int 25, .tup [], .tup []], .tup [.int n, .lst rows, .tup es], .tup [.int n, .tup (rows ++ [.tup [.int 0, .int 0]]), .tup es], .tup [.int n, .tup rows, .tup [.int 0, .int 0]], .tup []]
theorem badWebs_bad {n : Nat} {rows es : List P} (hn : n ≤ 24) : ∀ x ∈ badWebs n rows es, webWhat x ≠ .non := by
  have e : whole (P.int n) 0 24 = true := by simp [whole]; omega
  intro x hx
  simp only [badWebs, List.mem_cons, List.not_mem_nil, or_false] at hx
  rcases hx with rfl | rfl | rfl | rfl | rfl | rfl
  · simp [webWhat]
  · simp [webWhat, whole]
  · simp [webWhat, e]
  · simp only [webWhat, e, if_true]
    split
    · simp
    · have hp : pairOk (n : Int) (.tup [.int 0, .int 0]) = false := by
        simp [pairOk, whole, valI]
      have := pairAt_app (n := (n : Int)) (xs := rows) (j := 0) hp
      simp only [valI]
      cases hq : pairAt (n : Int) 0 (rows ++ [.tup [.int 0, .int 0]]) with
      | none => exact absurd hq this
      | some i => simp
  · simp only [webWhat, e, if_true]
    split
    · simp
    · simp only [valI]
      cases hq : pairAt (n : Int) 0 rows with
      | some i => simp
      | none =>
        simp only [wrongRise]
        by_cases h0 : n = 0
        · subst h0
          simp [riseAt, whole]
        · have e1 : whole (P.int 0) 0 ((n : Int) - 1) = true := by simp [whole]; omega
          have e2 : whole (P.int 0) (0 + 1) ((n : Int) - 1) = false := by simp [whole]
          simp only [riseAt, e1, if_true, valI, e2]
          simp
  · simp [webWhat]
theorem toldWeb_bad {x : P} (h : webWhat x ≠ .non) : toldWeb x = webWhat x := by
  unfold toldWeb
  have : isNon (webWhat x) = false := by
    rcases webWhat_form x with hw | ⟨y, hw | hw⟩
    · exact absurd hw h
    · rw [hw]; rfl
    · rw [hw]; rfl
  rw [this]
  rfl
/-- of no web the refusal is heard -/
theorem bad_heard {x : P} {R : P → Prop} {tab : List (Nat × Str)} {W : Nat → List (Nat × Nat) → List Nat → Prop} (hb : webWhat x ≠ .non) (h1 : tab.lookup 1 = some "BadWeb") (h5 : tab.lookup 53 = some "TooMany") (h : R (webWhat x)) : ofWeb x W (fun c y => ∃ n, tab.lookup c = some n ∧ R (.tup [.str n, y])) :=
  .inr ⟨hb, madeWeb_bad hb (madeWeb_heard h1 h5 (by rw [toldWeb_bad hb]; exact h))⟩
def g_first2 : Fn := jarF 1 fun xs Q X => match xs with
  | [w] => ∃ n ls ws, w = webP n ls ws ∧ WebOk n ls ws ∧ Q (.p (.bl true))
  | _ => False
@[simp ↓] theorem first2_n : g_first2.n = 2 := rfl
@[simp ↓] theorem first2_lent : g_first2.lent = [0] := rfl
theorem first2_run {j : D} {n : Nat} {ls : List (Nat × Nat)} {ws : List Nat} {Q : D → List D → Prop} {X : Nat → P → Prop} (hj : Jar j) (hw : WebOk n ls ws) (h : ∀ j', Jar j' → Q (.p (.bl true)) [j']) : g_first2.run [j, .p (webP n ls ws)] Q X := by
  rw [g_first2, jarF_run]
  exact ⟨hj, _, rfl, rfl, n, ls, ws, rfl, hw, fun j' hj' => h j' hj'⟩
theorem k_law_f2_first_right : Keeps [g_one, g_same, g_made_book, g_is_way, g_law_vp_web_fault, g_made_bounds, g_made_prices] 10 B_law_f2_first_right g_first2 := keepsJ1 fun j w Q X hj h => by
  obtain ⟨n, ls, ws, rfl, hw, h⟩ := h
  have hlm := hw.hm
  have hwl := hw.wl
  refine seq1 fun K hK => ?_
  simp [sizeLine]
  refine ⟨hj, fun thing hth j hj => ?_⟩
  have hth : Good 10 3 thing := good_list (xs := [.non, .tup [], .tup [.int 1], .lst [.int 1], .tup [.tup [.int 1, .int 0]]]) (by decide +kernel) thing hth
  refine hK _ (seq1 fun K hK => ?_)
  have s1 : okP (.str "BadMany") = true := by decide +kernel
  simp [sizeLine]
  refine for_ind (fun its ρ => ∃ v3 v4 : Option D, (∀ x ∈ its, whole x 0 60 = false ∧ okP x = true ∧ szP x ≤ 10) ∧ ρ = [some j, some (.p (webP n ls ws)), some (.p thing), v3, v4, none, none, none, none, none]) ?_ ?_ _ _ ⟨_, _, ?_, rfl⟩
  case refine_2 =>
    rintro x its ρ k ⟨v3, v4, hi, rfl⟩ ih
    obtain ⟨hwx, ho, hz⟩ := hi x (by simp)
    simp only [tgS_name]
    refine ⟨by simp, by simp, ?_⟩
    refine seq1 fun K hK => ?_
    simp [sizeLine]
    refine madeX_many hwx ⟨"BadMany", rfl, ?_⟩
    refine hK _ (seq1 fun K hK => ?_)
    simp [sizeLine, mthA, mthS]
    refine madeX_many hwx ⟨"BadMany", rfl, ?_⟩
    refine hK _ (seq1 fun K hK => ?_)
    simp [sizeLine]
    simp [okP, okL, szP, szL] at s1 ⊢
    refine ⟨⟨⟨s1, ho⟩, by omega⟩, hK _ ?_⟩
    simp
    exact ih _ ⟨_, _, fun y hy => hi y (List.mem_cons_of_mem _ hy), rfl⟩
  case refine_3 =>
    intro x hx
    simp only [List.mem_cons, List.not_mem_nil, or_false] at hx
    rcases hx with rfl | rfl | rfl | rfl | rfl | rfl <;> exact ⟨by decide +kernel, by decide +kernel, by decide +kernel⟩
  rintro ρ ⟨v3, v4, _, rfl⟩
  refine hK _ (seq1 fun K hK => ?_)
  simp [webP]
  refine hK _ (seq1 fun K hK => ?_)
  simp [sizeLine]
  refine ⟨by omega, ?_⟩
  have hbad := badWebs_bad (n := n) (rows := ls.map lnkP) (es := ws.map natP) hw.hn
  have hlen : ∀ x ∈ badWebs n (ls.map lnkP) (ws.map natP), lenP 1000 x = true := by
    have hL : lenL 1000 (ls.map lnkP) = true := lenL_iff.mpr fun x hx => by
      obtain ⟨l, _, rfl⟩ := List.mem_map.mp hx
      simp [lnkP, lenP, lenL]
    have hW : lenL 1000 (ws.map natP) = true := lenL_iff.mpr fun x hx => (good_nats (m := 1000) (d := 1) x hx).le
    have q1 : ls.length ≤ 1000 := by omega
    have q2 : ws.length ≤ 1000 := by omega
    have q3 : ls.length + 1 ≤ 1000 := by omega
    intro x hx
    simp only [badWebs, List.mem_cons, List.not_mem_nil, or_false] at hx
    rcases hx with rfl | rfl | rfl | rfl | rfl | rfl <;> simp [lenP, lenL, lenL_app, hL, hW, q1, q2, q3]
  have eb : [P.non, P.tup [P.int 25, P.tup [], P.tup []], P.tup [P.int ↑n, P.lst (List.map lnkP ls), P.tup (List.map natP ws)], P.tup [P.int ↑n, P.tup (List.map lnkP ls ++ [P.tup [P.int 0, P.int 0]]), P.tup (List.map natP ws)], P.tup [P.int ↑n, P.tup (List.map lnkP ls), P.tup [P.int 0, P.int 0]], P.tup []] = badWebs n (ls.map lnkP) (ws.map natP) := rfl
  have hbl : badWebs n (ls.map lnkP) (ws.map natP) ≠ [] ∧ (badWebs n (ls.map lnkP) (ws.map natP)).length ≤ 1000000 := ⟨by simp [badWebs], by simp [badWebs]⟩
  rw [eb]
  generalize badWebs n (ls.map lnkP) (ws.map natP) = bads at hbad hlen hbl
  refine hK _ (seq1 fun K hK => ?_)
  simp
  refine ⟨hj, by simpa using hbl, fun x hx j hj => ?_⟩
  have hb := hbad x hx
  have hxl := hlen x hx
  refine hK _ (seq1 fun K hK => ?_)
  simp [sizeLine]
  refine made_book_run hth.ok (lenP_mono (by decide) hth.le) ?_
  generalize hwb : P.tup [P.int ↑n, P.tup (List.map lnkP ls), P.tup (List.map natP ws)] = wb
  generalize hrw : P.tup (List.map lnkP ls) = rw0
  generalize hew : P.tup (List.map natP ws) = ew0
  refine bad_heard (R := fun y => K [some j, some (D.p wb), some (D.p thing), v3, some (D.lst [y]), some (D.p (P.int ↑n)), some (D.p rw0), some (D.p ew0), some (D.lst bads), some (D.p x)]) hb rfl rfl (hK _ (seq1 fun K hK => ?_))
  simp [mthA, mthS, sizeLine]
  refine ⟨hth.small (by decide), ?_⟩
  refine bad_heard (R := fun y => K [some j, some (D.p wb), some (D.p thing), v3, some (D.lst [webWhat x, y]), some (D.p (P.int ↑n)), some (D.p rw0), some (D.p ew0), some (D.lst bads), some (D.p x)]) hb rfl rfl (hK _ ?_)
  obtain ⟨t1, t2⟩ := webWhat_small x
  simp [sizeLine]
  refine ⟨smallW_of hxl, ⟨?_, ?_⟩, h j hj⟩
  · simp [okP, okL, t1]
  · simp [szP, szL]
    omega
end PL
set_option linter.all false
set_option maxRecDepth 100000
set_option maxHeartbeats 1000000
namespace PL
open PySem PySem.Spec PyProof.Rows L2 LamX
def hL1 : List (Nat × Nat) := [(0, 1), (0, 1), (1, 2), (2, 3)]
def hL2 : List (Nat × Nat) := [(0, 1), (1, 2), (1, 2), (1, 3)]
theorem hW1 : WebOk 4 hL1 [0, 2, 3] := ⟨by decide, by decide, by decide, by decide, by decide⟩
theorem hW2 : WebOk 4 hL2 [0, 3] := ⟨by decide, by decide, by decide, by decide, by decide⟩
def hRows : List P := [.tup [.str "way", .tup [.int 0, .int 2], .int 5], .tup [.str "way", .tup [.int 1, .int 2], .int (-1)], .tup [.str "way", .tup [.int 3], .int 0], .tup [.str "look", .int 0, .int 1000000000000000000000000000000]]
def hWays : List P := [.tup [.int 2, .int 0], .tup [.int 0, .int 2, .int 3], .tup [.int 0, .int 1], .tup [.int 2], .tup [.int 0, .int 1, .int 2], .tup [.int 0, .int 2, .int 2], .tup [.int 3, .int 2, .int 0]]
def hRoads : List (P × Bool) := [(.tup [.int 0, .int 3], true), (.tup [.int 0, .int 1, .int 2, .int 3], false), (.tup [.int 0], false), (.tup [.int 3], false), (.tup [.int 0, .int 1], false), (.tup [.int 3, .int 0], false)]
theorem h0 : bookAt 4 hL1 [0, 2, 3] (.tup hRows) = none := by rfl
theorem h1 : ∀ w ∈ hWays, bookAt 4 hL1 [0, 2, 3] (.tup (hRows ++ [.tup [.str "way", w, .int 1]])) = some (17, .int 4) := by
  intro w hw
  simp only [hWays, List.mem_cons, List.not_mem_nil, or_false] at hw
  rcases hw with rfl | rfl | rfl | rfl | rfl | rfl | rfl <;> rfl
theorem h60 : bookAt 4 hL1 [0, 2, 3] (.tup (List.replicate 60 (.tup [.str "look", .int 0, .int 1]))) = none := by rfl
theorem h61 : bookAt 4 hL1 [0, 2, 3] (.tup (List.replicate 61 (.tup [.str "look", .int 0, .int 1]))) = some (53, .int 61) := by rfl
theorem hr : ∀ q ∈ hRoads, (placesP 4 hL2 [0, 3] q.1).isSome = q.2 := by
  intro w hw
  simp only [hRoads, List.mem_cons, List.not_mem_nil, or_false] at hw
  rcases hw with rfl | rfl | rfl | rfl | rfl | rfl <;> rfl
@[simp] theorem opB_mul_lst {xs : List P} {k : Int} {Q : D → Prop} : opB .mul (.lst xs) (.int k) Q = ((-(2 ^ 63) ≤ k ∧ k < 2 ^ 63 ∧ xs.length * k.toNat ≤ sizeLine) ∧ Q (.lst (List.replicate k.toNat xs).flatten)) := rfl
theorem keepsF0 {G : List Fn} {nN : Nat} {bs : List S} {F : PF} (h : ∀ (Q : D → Prop) X, F [] (fun x => Q (.p x)) X → wSs G X [] bs (List.replicate nN none) { nx := fun _ => Q (.p .non), rt := fun d _ => Q d }) : Keeps G nN bs (pureF 0 F) :=
  keepsF fun xs Q X hl hF => by
    match xs, hl with
    | [], _ => exact h Q X hF
def g_true0 : Fn := pureF 0 fun xs Q X => match xs with
  | [] => Q (.bl true)
  | _ => False
@[simp ↓] theorem true0_n : g_true0.n = 0 := rfl
@[simp ↓] theorem true0_lent : g_true0.lent = [] := rfl
@[simp ↓] theorem true0_run {Q : D → List D → Prop} {X : Nat → P → Prop} : g_true0.run [] Q X = Q (.p (.bl true)) [] := by
  simp [g_true0, pureF_run]
theorem madeBook_heard {n : Nat} {ls : List (Nat × Nat)} {ws : List Nat} {x : P} {R : P → Prop} {tab : List (Nat × Str)} (hw : WebOk n ls ws) (h1 : tab.lookup 17 = some "BadBook") (h2 : tab.lookup 53 = some "TooMany") (h : R (toldBook n ls ws x)) :
    ofWeb (webP n ls ws) (fun n ls ws => match bookAt n ls ws x with | none => R (.tup [.str "told", x]) | some (c, y) => ∃ nm, tab.lookup c = some nm ∧ R (.tup [.str nm, y])) (fun c y => ∃ nm, tab.lookup c = some nm ∧ R (.tup [.str nm, y])) :=
  .inl ⟨n, ls, ws, rfl, hw, book_heard h1 h2 h⟩
theorem k_law_f2_hand_right : Keeps [g_same, g_made_book, g_is_way] 7 B_law_f2_hand_right g_true0 := keepsF0 fun Q X h => by
  have c30 : CPow 10 30 := cpow (by decide) (by decide) (by decide)
  refine seq1 fun K hK => ?_
  simp [sizeLine]
  refine hK _ (seq1 fun K hK => ?_)
  simp [sizeLine]
  refine ⟨c30, hK _ (seq1 fun K hK => ?_)⟩
  have ew1 : P.tup [P.int 4, P.tup [P.tup [P.int 0, P.int 1], P.tup [P.int 0, P.int 1], P.tup [P.int 1, P.int 2], P.tup [P.int 2, P.int 3]], P.tup [P.int 0, P.int 2, P.int 3]] = webP 4 hL1 [0, 2, 3] := rfl
  have er : [P.tup [P.str (Str.ofString "way"), P.tup [P.int 0, P.int 2], P.int 5], P.tup [P.str (Str.ofString "way"), P.tup [P.int 1, P.int 2], P.int (-1)], P.tup [P.str (Str.ofString "way"), P.tup [P.int 3], P.int 0], P.tup [P.str (Str.ofString "look"), P.int 0, P.int 1000000000000000000000000000000]] = hRows := rfl
  rw [ew1, er]
  have okR : okP (.tup hRows) = true := by decide +kernel
  have lnR : lenP 100000 (.tup hRows) = true := by decide +kernel
  have hRl : hRows.length = 4 := rfl
  simp [sizeLine]
  refine made_book_run okR lnR ?_
  simp
  refine madeBook_heard (R := fun y => K [some (D.p (webP 4 hL1 [0, 2, 3])), some (D.p (.tup hRows)), some (D.lst [y]), none, none, none, none]) hW1 rfl rfl (hK _ (seq1 fun K hK => ?_))
  have e0 : toldBook 4 hL1 [0, 2, 3] (.tup hRows) = .tup [.str "told", .tup hRows] := by
    simp [toldBook, bookWhat, h0, isNon]
  rw [e0]
  have wOk : ∀ w ∈ hWays, okP (.tup (hRows ++ [.tup [.str "way", w, .int 1]])) = true ∧ lenP 100000 (.tup (hRows ++ [.tup [.str "way", w, .int 1]])) = true := by
    intro w hw
    simp only [hWays, List.mem_cons, List.not_mem_nil, or_false] at hw
    rcases hw with rfl | rfl | rfl | rfl | rfl | rfl | rfl <;> exact ⟨by decide +kernel, by decide +kernel⟩
  have e1 : ∀ w ∈ hWays, toldBook 4 hL1 [0, 2, 3] (.tup (hRows ++ [.tup [.str "way", w, .int 1]])) = .tup [.str "BadBook", .int 4] := by
    intro w hw
    simp [toldBook, bookWhat, h1 w hw, isNon]
  have e60 : toldBook 4 hL1 [0, 2, 3] (.tup (List.replicate 60 (.tup [.str "look", .int 0, .int 1]))) = .tup [.str "told", .tup (List.replicate 60 (.tup [.str "look", .int 0, .int 1]))] := by
    simp [toldBook, bookWhat, h60, isNon, -List.reduceReplicate]
  have e61 : toldBook 4 hL1 [0, 2, 3] (.tup (List.replicate 61 (.tup [.str "look", .int 0, .int 1]))) = .tup [.str "TooMany", .int 61] := by
    simp [toldBook, bookWhat, h61, isNon, -List.reduceReplicate]
  have o60 : okP (.tup (List.replicate 60 (.tup [.str "look", .int 0, .int 1]))) = true ∧ lenP 100000 (.tup (List.replicate 60 (.tup [.str "look", .int 0, .int 1]))) = true := ⟨by decide +kernel, by decide +kernel⟩
  have o61 : okP (.tup (List.replicate 61 (.tup [.str "look", .int 0, .int 1]))) = true ∧ lenP 100000 (.tup (List.replicate 61 (.tup [.str "look", .int 0, .int 1]))) = true := ⟨by decide +kernel, by decide +kernel⟩
  have hWl : hWays.length = 7 := rfl
  have ewy : [P.tup [P.int 2, P.int 0], P.tup [P.int 0, P.int 2, P.int 3], P.tup [P.int 0, P.int 1], P.tup [P.int 2], P.tup [P.int 0, P.int 1, P.int 2], P.tup [P.int 0, P.int 2, P.int 2], P.tup [P.int 3, P.int 2, P.int 0]] = hWays := rfl
  generalize hwb : webP 4 hL1 [0, 2, 3] = wb at *
  generalize hbk : toldBook 4 hL1 [0, 2, 3] = tb at *
  simp [sizeLine]
  rw [ewy]
  refine for_ind (fun its ρ => ∃ (i : Nat) (v3 : Option D), (∀ w ∈ its, w ∈ hWays) ∧ i + its.length = 7 ∧ ρ = [some (D.p wb), some (D.p (.tup hRows)), some (D.lst (.tup [.str "told", .tup hRows] :: List.replicate i (.tup [.str "BadBook", .int 4]))), v3, none, none, none]) ?_ ?_ _ _ ⟨0, _, fun _ h => h, by rw [hWl], rfl⟩
  case refine_2 =>
    rintro x its ρ k ⟨i, v3, hi, hl, rfl⟩ ih
    have hx := hi x (by simp)
    simp at hl
    simp [sizeLine, hRl]
    refine made_book_run (wOk x hx).1 (wOk x hx).2 ?_
    simp [mthA, mthS, sizeLine]
    rw [← hwb]
    refine madeBook_heard (tab := [(0, ""), (1, "BadWeb"), (17, "BadBook"), (21, "BadPrices"), (22, "BadBounds"), (52, "BadMany"), (53, "TooMany")]) (R := fun y => i + 1 < 16777216 ∧ k [some (D.p (webP 4 hL1 [0, 2, 3])), some (D.p (.tup hRows)), some (D.lst (.tup [.str "told", .tup hRows] :: (List.replicate i (.tup [.str "BadBook", .int 4]) ++ [y]))), some (.p x), none, none, none]) hW1 rfl rfl ?_
    have := e1 x hx
    rw [← hbk] at this
    rw [this, hwb]
    rw [← List.replicate_succ']
    exact ⟨by omega, ih _ ⟨i + 1, _, fun w hw => hi w (List.mem_cons_of_mem _ hw), by omega, rfl⟩⟩
  rintro ρ ⟨i, v3, _, hi, rfl⟩
  simp at hi
  subst hi
  refine hK _ (seq1 fun K hK => ?_)
  simp [sizeLine, -List.reduceReplicate]
  refine made_book_run o60.1 o60.2 ?_
  simp [mthA, mthS, sizeLine, -List.reduceReplicate]
  rw [← hwb]
  refine madeBook_heard (tab := [(0, ""), (1, "BadWeb"), (17, "BadBook"), (21, "BadPrices"), (22, "BadBounds"), (52, "BadMany"), (53, "TooMany")]) (R := fun y => K [some (D.p (webP 4 hL1 [0, 2, 3])), some (D.p (.tup hRows)), some (D.lst (.tup [.str "told", .tup hRows] :: (List.replicate 7 (.tup [.str "BadBook", .int 4]) ++ [y]))), v3, none, none, none]) hW1 rfl rfl (hK _ (seq1 fun K hK => ?_))
  have e60' := e60
  rw [← hbk] at e60'
  rw [e60', hwb]
  simp [sizeLine, -List.reduceReplicate]
  refine made_book_run o61.1 o61.2 ?_
  simp [mthA, mthS, sizeLine, -List.reduceReplicate]
  rw [← hwb]
  refine madeBook_heard (tab := [(0, ""), (1, "BadWeb"), (17, "BadBook"), (21, "BadPrices"), (22, "BadBounds"), (52, "BadMany"), (53, "TooMany")]) (x := .tup (List.replicate 61 (.tup [.str "look", .int 0, .int 1]))) (R := fun y => K [some (D.p (webP 4 hL1 [0, 2, 3])), some (D.p (.tup hRows)), some (D.lst (.tup [.str "told", .tup hRows] :: (List.replicate 7 (.tup [.str "BadBook", .int 4]) ++ [.tup [.str "told", .tup (List.replicate 60 (.tup [.str "look", .int 0, .int 1]))], y]))), v3, none, none, none]) hW1 rfl rfl (hK _ (seq1 fun K hK => ?_))
  have e61' := e61
  rw [← hbk] at e61'
  rw [e61', hwb]
  have lk60 : okL (List.replicate 60 (.tup [.str "look", .int 0, .int 1])) = true := by simpa [okP, -List.reduceReplicate] using o60.1
  have sz60 : szL (List.replicate 60 (.tup [.str "look", .int 0, .int 1])) = 240 := by decide +kernel
  simp [sizeLine, -List.reduceReplicate]
  generalize List.replicate 60 (P.tup [P.str (Str.ofString "look"), P.int 0, P.int 1]) = look60 at lk60 sz60 ⊢
  have lk7 : okL (List.replicate 7 (P.tup [P.str (Str.ofString "BadBook"), P.int 4])) = true := by decide +kernel
  have sz7 : szL (List.replicate 7 (P.tup [P.str (Str.ofString "BadBook"), P.int 4])) = 21 := by decide +kernel
  generalize List.replicate 7 (P.tup [P.str (Str.ofString "BadBook"), P.int 4]) = bad7 at lk7 sz7 ⊢
  have s1 : okP (.str "told") = true := by decide +kernel
  have s2 : okP (.str "TooMany") = true := by decide +kernel
  refine hK _ (seq1 fun K hK => ?_)
  simp
  refine ⟨⟨?_, ?_⟩, hK _ (seq1 fun K hK => ?_)⟩
  · have okRL : okL hRows = true := by simpa [okP] using okR
    have a1 : okP (.tup [.str "told", .tup hRows]) = true := by simp [okP, okL] at s1 ⊢; exact ⟨s1, okRL⟩
    have a2 : okP (.tup [.str "told", .tup look60]) = true := by simp [okP, okL] at s1 ⊢; exact ⟨s1, lk60⟩
    have a3 : okP (.tup [.str "TooMany", .int 61]) = true := by simp [okP, okL] at s2 ⊢; exact s2
    show okL _ = true
    refine okL_iff.mpr fun x hx => ?_
    rcases List.mem_cons.mp hx with z | z
    · rw [z]; exact a1
    · rcases List.mem_append.mp z with z | z
      · exact okL_iff.mp lk7 x z
      · simp only [List.mem_cons, List.not_mem_nil, or_false] at z
        rcases z with z | z
        · rw [z]; exact a2
        · rw [z]; exact a3
  · have szR : szL hRows = 21 := by decide +kernel
    simp [szP, szL, szL_app, sz7, sz60, szR]
  generalize (P.tup [P.str (Str.ofString "told"), P.tup hRows] :: (bad7 ++ [P.tup [P.str (Str.ofString "told"), P.tup look60], P.tup [P.str (Str.ofString "TooMany"), P.int 61]])) = big
  have ew2 : P.tup [P.int 4, P.tup [P.tup [P.int 0, P.int 1], P.tup [P.int 1, P.int 2], P.tup [P.int 1, P.int 2], P.tup [P.int 1, P.int 3]], P.tup [P.int 0, P.int 3]] = webP 4 hL2 [0, 3] := rfl
  simp [sizeLine]
  rw [ew2]
  refine hK _ (seq1 fun K hK => ?_)
  simp [sizeLine]
  have erd : [P.tup [P.tup [P.int 0, P.int 3], P.bl true], P.tup [P.tup [P.int 0, P.int 1, P.int 2, P.int 3], P.bl false], P.tup [P.tup [P.int 0], P.bl false], P.tup [P.tup [P.int 3], P.bl false], P.tup [P.tup [P.int 0, P.int 1], P.bl false], P.tup [P.tup [P.int 3, P.int 0], P.bl false]] = hRoads.map fun q => .tup [q.1, .bl q.2] := rfl
  rw [erd]
  refine hK _ (seq1 fun K hK => ?_)
  simp
  have smR : ∀ q ∈ hRoads, small q.1 := by
    intro q hq
    simp only [hRoads, List.mem_cons, List.not_mem_nil, or_false] at hq
    rcases hq with rfl | rfl | rfl | rfl | rfl | rfl <;> simp [small]
  refine for_ind (fun its ρ => ∃ (qs : List (P × Bool)) (v3 v6 : Option D), its = qs.map (fun q => .tup [q.1, .bl q.2]) ∧ (∀ q ∈ qs, q ∈ hRoads) ∧ ρ = [some (D.p (webP 4 hL2 [0, 3])), some (D.p (P.tup hRows)), some (D.lst big), v3, some (D.lst big), some (D.lst (hRoads.map fun q => .tup [q.1, .bl q.2])), v6]) ?_ ?_ _ _ ⟨hRoads, _, _, rfl, fun _ h => h, rfl⟩
  · rintro ρ ⟨qs, v3, v6, e, _, rfl⟩
    refine hK _ ?_
    simp
    exact h
  · rintro x its ρ k ⟨qs, v3, v6, e, hq, rfl⟩ ih
    cases qs with
    | nil => cases e
    | cons q qs =>
      cases e
      have hqm := hq q (by simp)
      simp
      refine ⟨smR q hqm, .inl ⟨4, hL2, [0, 3], rfl, hW2, ?_⟩⟩
      simp only [hr q hqm]
      simp [sizeLine, holds]
      refine ⟨told_bl_ok, ?_⟩
      exact ih _ ⟨qs, _, _, rfl, fun z hz => hq z (List.mem_cons_of_mem _ hz), rfl⟩
def g_law2 : Fn := pureF 1 fun xs Q X => match xs with
  | [t] => Script t ∧ Q (.bl true)
  | _ => False
theorem k_law2 : Keeps [g_pool, g_true0, g_web, g_things, g_ways_right, g_books_right, g_true, g_true, g_first2] 5 B_law_K2 g_law2 := keepsF1 fun t Q X h => by
  obtain ⟨hs, h⟩ := h
  refine seq1 fun K hK => ?_
  simp
  refine ⟨hs, fun j hj => hK _ (seq1 fun K hK => ?_)⟩
  simp
  refine for_rng (fun _ ρ => ∃ (j : D) (v2 v3 v4 : Option D), Jar j ∧ ρ = [some (.p t), some j, v2, v3, v4]) ?_ ?_ ⟨j, _, _, _, hj, rfl⟩
  · rintro ρ ⟨j, v2, v3, v4, hj, rfl⟩
    refine hK _ ?_
    simp
    exact h
  · rintro i ρ k hi ⟨j, v2, v3, v4, hj, rfl⟩ ih
    simp only [tgS_name]
    refine ⟨by simp, by simp, ?_⟩
    refine seq1 fun K hK => ?_
    simp
    refine ⟨hj, fun n ls ws hw j hj => hK _ (seq1 fun K hK => ?_)⟩
    simp
    refine things_run hj hw fun ts ht htl j hj => ?_
    simp
    refine hK _ (seq1 fun K hK => ?_)
    simp
    refine ways_right_run hj hw ht fun j hj => ?_
    simp
    refine books_right_run hj hw ht htl fun j hj => ?_
    simp
    refine hK _ (seq1 fun K hK => ?_)
    simp
    refine ⟨hj, fun j hj => ⟨hj, fun j hj => ?_⟩⟩
    refine first2_run hj hw fun j hj => ?_
    simp
    refine hK _ ?_
    simp
    exact ih _ ⟨j, _, _, _, hj, rfl⟩
end PL
set_option Elab.async false
set_option linter.all false
set_option maxRecDepth 100000
set_option maxHeartbeats 8000000
namespace PL
open PySem PySem.Spec PyProof.Rows L2 LamX
def inner (st : Stmt) : Stmt := match st with
  | .ClassDef _ _ _ body _ _ _ _ _ _ _ => body.getD 0 (.Pass ⟨0, 0, 0, 0⟩)
  | s => s
theorem tells_law : TellsTrue g_law2 := ⟨rfl, rfl, fun ns h => ⟨_, rfl, rfl, ints_script h, rfl⟩⟩
theorem law_end {l : PySem.W.OpenLaw} {w : World} {K : PySem.W.Frag} {h : Heap} {mg : Str → Option Value} {fa : Addr} (X : K.In h) (G : h.Ns mainGlobals mg) (hfa : mg "law" = some (.ref fa))
  {f10 : Addr} {cd10 : Value} (d10 : DefK K "is_number" (topS 10) f10 cd10)
  {f11 : Addr} {cd11 : Value} (d11 : DefK K "whole" (topS 11) f11 cd11)
  {f12 : Addr} {cd12 : Value} (d12 : DefK K "asked_many" (topS 12) f12 cd12)
  {f13 : Addr} {cd13 : Value} (d13 : DefK K "wrong_rising" (topS 13) f13 cd13)
  {f14 : Addr} {cd14 : Value} (d14 : DefK K "made_prices" (topS 14) f14 cd14)
  {f17 : Addr} {cd17 : Value} (d17 : DefK K "is_pair" (topS 17) f17 cd17)
  {f18 : Addr} {cd18 : Value} (d18 : DefK K "web_what" (topS 18) f18 cd18)
  {f19 : Addr} {cd19 : Value} (d19 : DefK K "made_web" (topS 19) f19 cd19)
  {f21 : Addr} {cd21 : Value} (d21 : DefK K "places_from" (topS 21) f21 cd21)
  {f22 : Addr} {cd22 : Value} (d22 : DefK K "is_led" (topS 22) f22 cd22)
  {f23 : Addr} {cd23 : Value} (d23 : DefK K "places_of" (topS 23) f23 cd23)
  {f24 : Addr} {cd24 : Value} (d24 : DefK K "is_way" (topS 24) f24 cd24)
  {f27 : Addr} {cd27 : Value} (d27 : DefK K "is_book_row" (topS 27) f27 cd27)
  {f28 : Addr} {cd28 : Value} (d28 : DefK K "asked_book" (topS 28) f28 cd28)
  {f29 : Addr} {cd29 : Value} (d29 : DefK K "made_book" (topS 29) f29 cd29)
  {f31 : Addr} {cd31 : Value} (d31 : DefK K "is_bound" (topS 31) f31 cd31)
  {f32 : Addr} {cd32 : Value} (d32 : DefK K "asked_bounds" (topS 32) f32 cd32)
  {f33 : Addr} {cd33 : Value} (d33 : DefK K "made_bounds" (topS 33) f33 cd33)
  {f35 : Addr} {cd35 : Value} (d35 : DefK K "_law_pool" (topS 35) f35 cd35)
  {f36 : Addr} {cd36 : Value} (d36 : DefK K "_law_take" (topS 36) f36 cd36)
  {f37 : Addr} {cd37 : Value} (d37 : DefK K "_law_one" (topS 37) f37 cd37)
  {f38 : Addr} {cd38 : Value} (d38 : DefK K "_law_mixed" (topS 38) f38 cd38)
  {f39 : Addr} {cd39 : Value} (d39 : DefK K "_law_vp_is_whole" (topS 39) f39 cd39)
  {f40 : Addr} {cd40 : Value} (d40 : DefK K "_law_vp_is_in" (topS 40) f40 cd40)
  {f41 : Addr} {cd41 : Value} (d41 : DefK K "_law_vp_same" (topS 41) f41 cd41)
  {f42 : Addr} {cd42 : Value} (d42 : DefK K "_law_vp_web_fault" (topS 42) f42 cd42)
  {f43 : Addr} {cd43 : Value} (d43 : DefK K "_law_vp_is_link" (topS 43) f43 cd43)
  {f44 : Addr} {cd44 : Value} (d44 : DefK K "_law_vp_rising_fault" (topS 44) f44 cd44)
  {f45 : Addr} {cd45 : Value} (d45 : DefK K "_law_vp_other" (topS 45) f45 cd45)
  {f46 : Addr} {cd46 : Value} (d46 : DefK K "_law_vp_is_way" (topS 46) f46 cd46)
  {f47 : Addr} {cd47 : Value} (d47 : DefK K "_law_vp_walked" (topS 47) f47 cd47)
  {f48 : Addr} {cd48 : Value} (d48 : DefK K "_law_vp_number" (topS 48) f48 cd48)
  {f49 : Addr} {cd49 : Value} (d49 : DefK K "_law_vp_web" (topS 49) f49 cd49)
  {f50 : Addr} {cd50 : Value} (d50 : DefK K "_law_vp_bent" (topS 50) f50 cd50)
  {f51 : Addr} {cd51 : Value} (d51 : DefK K "_law_f2_heard" (topS 51) f51 cd51)
  {f52 : Addr} {cd52 : Value} (d52 : DefK K "_law_f2_roads" (topS 52) f52 cd52)
  {f53 : Addr} {cd53 : Value} (d53 : DefK K "_law_f2_things" (topS 53) f53 cd53)
  {f54 : Addr} {c54 : Addr} (d54 : DefK K "_law_f2_ways_right" (topS 54) f54 (.ref c54))
  {P54 : Addr} {q54 : Option Addr} {v54 : Array Value} {s54 : Array (Option Value)} (t54 : K.lookup c54 = some ⟨.type "code", q54, .fields v54, s54⟩) (u54 : tabP v54 = some P54) (n54 : (c54 != P54) = true) (m54 : K.lookup P54 = none)
  {f55 : Addr} {cd55 : Value} (d55 : DefK K "_law_f2_is_row" (topS 55) f55 cd55)
  {f56 : Addr} {cd56 : Value} (d56 : DefK K "_law_f2_book_fault" (topS 56) f56 cd56)
  {f57 : Addr} {cd57 : Value} (d57 : DefK K "_law_f2_rows" (topS 57) f57 cd57)
  {f58 : Addr} {c58 : Addr} (d58 : DefK K "_law_f2_books_right" (topS 58) f58 (.ref c58))
  {P58 : Addr} {q58 : Option Addr} {v58 : Array Value} {s58 : Array (Option Value)} (t58 : K.lookup c58 = some ⟨.type "code", q58, .fields v58, s58⟩) (u58 : tabP v58 = some P58) (n58 : (c58 != P58) = true) (m58 : K.lookup P58 = none)
  {f59 : Addr} {cd59 : Value} (d59 : DefK K "_law_f2_is_pair" (topS 59) f59 cd59)
  {f60 : Addr} {cd60 : Value} (d60 : DefK K "_law_f2_pairs_fault" (topS 60) f60 cd60)
  {f61 : Addr} {cd61 : Value} (d61 : DefK K "_law_f2_prices_fault" (topS 61) f61 cd61)
  {f62 : Addr} {c62 : Addr} (d62 : DefK K "_law_f2_ends_right" (topS 62) f62 (.ref c62))
  {P62 : Addr} {q62 : Option Addr} {v62 : Array Value} {s62 : Array (Option Value)} (t62 : K.lookup c62 = some ⟨.type "code", q62, .fields v62, s62⟩) (u62 : tabP v62 = some P62) (n62 : (c62 != P62) = true) (m62 : K.lookup P62 = none)
  {f63 : Addr} {c63 : Addr} (d63 : DefK K "_law_f2_prices_right" (topS 63) f63 (.ref c63))
  {P63 : Addr} {q63 : Option Addr} {v63 : Array Value} {s63 : Array (Option Value)} (t63 : K.lookup c63 = some ⟨.type "code", q63, .fields v63, s63⟩) (u63 : tabP v63 = some P63) (n63 : (c63 != P63) = true) (m63 : K.lookup P63 = none)
  {f64 : Addr} {c64 : Addr} (d64 : DefK K "_law_f2_first_right" (topS 64) f64 (.ref c64))
  {P64 : Addr} {q64 : Option Addr} {v64 : Array Value} {s64 : Array (Option Value)} (t64 : K.lookup c64 = some ⟨.type "code", q64, .fields v64, s64⟩) (u64 : tabP v64 = some P64) (n64 : (c64 != P64) = true) (m64 : K.lookup P64 = none)
  {f65 : Addr} {c65 : Addr} (d65 : DefK K "_law_f2_hand_right" (topS 65) f65 (.ref c65))
  {P65 : Addr} {q65 : Option Addr} {v65 : Array Value} {s65 : Array (Option Value)} (t65 : K.lookup c65 = some ⟨.type "code", q65, .fields v65, s65⟩) (u65 : tabP v65 = some P65) (n65 : (c65 != P65) = true) (m65 : K.lookup P65 = none)
  {f66 : Addr} {cd66 : Value} (d66 : DefK K "law" (topS 66) f66 cd66)
  (tabs : ∀ P ∈ ([P54, P58, P62, P63, P64, P65] : List Addr), h.get? P = some { cls := .none, data := .fields #[] }) (nd : ([P54, P58, P62, P63, P64, P65] : List Addr).Nodup)
  {R fI : Addr} {cdI : Value} (zR : PySem.W.nsIn K mainGlobals "Refused" = some (some (.ref R))) (ik : IniK K (inner (topS 1)) fI cdI) (vV : PySem.W.findCls K (.type "ValueError") (.type "type") "__init__" = some (.val (.builtin "ValueError.__init__")))
  {C2 : Addr} (k2 : ClsK K R "BadWeb" C2 fI)
  {C3 : Addr} (k3 : ClsK K R "BadBook" C3 fI)
  {C4 : Addr} (k4 : ClsK K R "BadPrices" C4 fI)
  {C5 : Addr} (k5 : ClsK K R "BadBounds" C5 fI)
  {C6 : Addr} (k6 : ClsK K R "BadMany" C6 fI)
  {C7 : Addr} (k7 : ClsK K R "TooMany" C7 fI)
  (w2_3 : PySem.W.subIn K (.ref C2) (.ref C3) = some false) (x2_3 : (Value.ref C2 == Value.ref C3) = false)
  (w2_5 : PySem.W.subIn K (.ref C2) (.ref C5) = some false) (x2_5 : (Value.ref C2 == Value.ref C5) = false)
  (w2_6 : PySem.W.subIn K (.ref C2) (.ref C6) = some false) (x2_6 : (Value.ref C2 == Value.ref C6) = false)
  (w2_4 : PySem.W.subIn K (.ref C2) (.ref C4) = some false) (x2_4 : (Value.ref C2 == Value.ref C4) = false)
  (w2_7 : PySem.W.subIn K (.ref C2) (.ref C7) = some false) (x2_7 : (Value.ref C2 == Value.ref C7) = false)
  (w3_5 : PySem.W.subIn K (.ref C3) (.ref C5) = some false) (x3_5 : (Value.ref C3 == Value.ref C5) = false)
  (w3_6 : PySem.W.subIn K (.ref C3) (.ref C6) = some false) (x3_6 : (Value.ref C3 == Value.ref C6) = false)
  (w3_2 : PySem.W.subIn K (.ref C3) (.ref C2) = some false) (x3_2 : (Value.ref C3 == Value.ref C2) = false)
  (w3_4 : PySem.W.subIn K (.ref C3) (.ref C4) = some false) (x3_4 : (Value.ref C3 == Value.ref C4) = false)
  (w3_7 : PySem.W.subIn K (.ref C3) (.ref C7) = some false) (x3_7 : (Value.ref C3 == Value.ref C7) = false)
  (w4_3 : PySem.W.subIn K (.ref C4) (.ref C3) = some false) (x4_3 : (Value.ref C4 == Value.ref C3) = false)
  (w4_5 : PySem.W.subIn K (.ref C4) (.ref C5) = some false) (x4_5 : (Value.ref C4 == Value.ref C5) = false)
  (w4_6 : PySem.W.subIn K (.ref C4) (.ref C6) = some false) (x4_6 : (Value.ref C4 == Value.ref C6) = false)
  (w4_2 : PySem.W.subIn K (.ref C4) (.ref C2) = some false) (x4_2 : (Value.ref C4 == Value.ref C2) = false)
  (w4_7 : PySem.W.subIn K (.ref C4) (.ref C7) = some false) (x4_7 : (Value.ref C4 == Value.ref C7) = false)
  (w5_3 : PySem.W.subIn K (.ref C5) (.ref C3) = some false) (x5_3 : (Value.ref C5 == Value.ref C3) = false)
  (w5_6 : PySem.W.subIn K (.ref C5) (.ref C6) = some false) (x5_6 : (Value.ref C5 == Value.ref C6) = false)
  (w5_2 : PySem.W.subIn K (.ref C5) (.ref C2) = some false) (x5_2 : (Value.ref C5 == Value.ref C2) = false)
  (w5_4 : PySem.W.subIn K (.ref C5) (.ref C4) = some false) (x5_4 : (Value.ref C5 == Value.ref C4) = false)
  (w5_7 : PySem.W.subIn K (.ref C5) (.ref C7) = some false) (x5_7 : (Value.ref C5 == Value.ref C7) = false)
  (w6_3 : PySem.W.subIn K (.ref C6) (.ref C3) = some false) (x6_3 : (Value.ref C6 == Value.ref C3) = false)
  (w6_5 : PySem.W.subIn K (.ref C6) (.ref C5) = some false) (x6_5 : (Value.ref C6 == Value.ref C5) = false)
  (w6_2 : PySem.W.subIn K (.ref C6) (.ref C2) = some false) (x6_2 : (Value.ref C6 == Value.ref C2) = false)
  (w6_4 : PySem.W.subIn K (.ref C6) (.ref C4) = some false) (x6_4 : (Value.ref C6 == Value.ref C4) = false)
  (w6_7 : PySem.W.subIn K (.ref C6) (.ref C7) = some false) (x6_7 : (Value.ref C6 == Value.ref C7) = false)
  (w7_3 : PySem.W.subIn K (.ref C7) (.ref C3) = some false) (x7_3 : (Value.ref C7 == Value.ref C3) = false)
  (w7_5 : PySem.W.subIn K (.ref C7) (.ref C5) = some false) (x7_5 : (Value.ref C7 == Value.ref C5) = false)
  (w7_6 : PySem.W.subIn K (.ref C7) (.ref C6) = some false) (x7_6 : (Value.ref C7 == Value.ref C6) = false)
  (w7_2 : PySem.W.subIn K (.ref C7) (.ref C2) = some false) (x7_2 : (Value.ref C7 == Value.ref C2) = false)
  (w7_4 : PySem.W.subIn K (.ref C7) (.ref C4) = some false) (x7_4 : (Value.ref C7 == Value.ref C4) = false)
  (z_len : PySem.W.nsIn K mainGlobals "len" = some none)
  (z_max : PySem.W.nsIn K mainGlobals "max" = some none)
  (z_min : PySem.W.nsIn K mainGlobals "min" = some none)
  (z_int : PySem.W.nsIn K mainGlobals "int" = some none)
  (z_bool : PySem.W.nsIn K mainGlobals "bool" = some none)
  (z_str : PySem.W.nsIn K mainGlobals "str" = some none)
  (z_abs : PySem.W.nsIn K mainGlobals "abs" = some none)
  (z_tuple : PySem.W.nsIn K mainGlobals "tuple" = some none)
  (z_list : PySem.W.nsIn K mainGlobals "list" = some none)
  (z_sorted : PySem.W.nsIn K mainGlobals "sorted" = some none)
  (z_sum : PySem.W.nsIn K mainGlobals "sum" = some none)
  (z_any : PySem.W.nsIn K mainGlobals "any" = some none)
  (z_all : PySem.W.nsIn K mainGlobals "all" = some none)
  (z_isinstance : PySem.W.nsIn K mainGlobals "isinstance" = some none)
  (z_range : PySem.W.nsIn K mainGlobals "range" = some none)
  (z_enumerate : PySem.W.nsIn K mainGlobals "enumerate" = some none)
  (z_zip : PySem.W.nsIn K mainGlobals "zip" = some none)
  (z_dict : PySem.W.nsIn K mainGlobals "dict" = some none)
  (z_set : PySem.W.nsIn K mainGlobals "set" = some none)
  (z_ValueError : PySem.W.nsIn K mainGlobals "ValueError" = some none)
  {y_MOST_LINKS : _} (n_MOST_LINKS : PySem.W.nsIn K mainGlobals "MOST_LINKS" = some (some (.int 60 y_MOST_LINKS)))
  {y_MOST_PLACES : _} (n_MOST_PLACES : PySem.W.nsIn K mainGlobals "MOST_PLACES" = some (some (.int 24 y_MOST_PLACES)))
  {y_MOST_ROWS : _} (n_MOST_ROWS : PySem.W.nsIn K mainGlobals "MOST_ROWS" = some (some (.int 60 y_MOST_ROWS))) :
    LamX.LawAtS l w K (L2N.CX l.prog w) 60 63 "script" mg fa h := by
  have bl : ∀ x ∈ bltNames, mg x = none := by
    intro x hx
    simp only [bltNames, List.mem_cons, List.not_mem_nil, or_false] at hx
    rcases hx with rfl | rfl | rfl | rfl | rfl | rfl | rfl | rfl | rfl | rfl | rfl | rfl | rfl | rfl | rfl | rfl | rfl | rfl | rfl
    · exact PySem.W.mg_none_of X G z_len
    · exact PySem.W.mg_none_of X G z_max
    · exact PySem.W.mg_none_of X G z_min
    · exact PySem.W.mg_none_of X G z_int
    · exact PySem.W.mg_none_of X G z_bool
    · exact PySem.W.mg_none_of X G z_str
    · exact PySem.W.mg_none_of X G z_abs
    · exact PySem.W.mg_none_of X G z_tuple
    · exact PySem.W.mg_none_of X G z_list
    · exact PySem.W.mg_none_of X G z_sorted
    · exact PySem.W.mg_none_of X G z_sum
    · exact PySem.W.mg_none_of X G z_any
    · exact PySem.W.mg_none_of X G z_all
    · exact PySem.W.mg_none_of X G z_isinstance
    · exact PySem.W.mg_none_of X G z_range
    · exact PySem.W.mg_none_of X G z_enumerate
    · exact PySem.W.mg_none_of X G z_zip
    · exact PySem.W.mg_none_of X G z_dict
    · exact PySem.W.mg_none_of X G z_set
  let cls : Nat → Option Addr := fun c => ([(1, C2), (17, C3), (21, C4), (22, C5), (52, C6), (53, C7)] : List (Nat × Addr)).lookup c
  let TB : List (Addr × Str) := [(P54, (("_law_f2_ways_right" : Str) ++ ".<locals>." ++ "<lambda>")), (P58, (("_law_f2_books_right" : Str) ++ ".<locals>." ++ "<lambda>")), (P62, (("_law_f2_ends_right" : Str) ++ ".<locals>." ++ "<lambda>")), (P63, (("_law_f2_prices_right" : Str) ++ ".<locals>." ++ "<lambda>")), (P64, (("_law_f2_first_right" : Str) ++ ".<locals>." ++ "<lambda>")), (P65, (("_law_f2_hand_right" : Str) ++ ".<locals>." ++ "<lambda>"))]
  letI : QN := ⟨TB⟩
  have tbu : ∀ q ∈ TB, ∀ p ∈ TB, p.1 = q.1 → p.2 = q.2 := tb_uniq (by simpa [TB] using nd)
  have e10 : mg "is_number" = some (.ref f10) := d10.mgv X G
  have e11 : mg "whole" = some (.ref f11) := d11.mgv X G
  have e12 : mg "asked_many" = some (.ref f12) := d12.mgv X G
  have e13 : mg "wrong_rising" = some (.ref f13) := d13.mgv X G
  have e14 : mg "made_prices" = some (.ref f14) := d14.mgv X G
  have e17 : mg "is_pair" = some (.ref f17) := d17.mgv X G
  have e18 : mg "web_what" = some (.ref f18) := d18.mgv X G
  have e19 : mg "made_web" = some (.ref f19) := d19.mgv X G
  have e21 : mg "places_from" = some (.ref f21) := d21.mgv X G
  have e22 : mg "is_led" = some (.ref f22) := d22.mgv X G
  have e23 : mg "places_of" = some (.ref f23) := d23.mgv X G
  have e24 : mg "is_way" = some (.ref f24) := d24.mgv X G
  have e27 : mg "is_book_row" = some (.ref f27) := d27.mgv X G
  have e28 : mg "asked_book" = some (.ref f28) := d28.mgv X G
  have e29 : mg "made_book" = some (.ref f29) := d29.mgv X G
  have e31 : mg "is_bound" = some (.ref f31) := d31.mgv X G
  have e32 : mg "asked_bounds" = some (.ref f32) := d32.mgv X G
  have e33 : mg "made_bounds" = some (.ref f33) := d33.mgv X G
  have e35 : mg "_law_pool" = some (.ref f35) := d35.mgv X G
  have e36 : mg "_law_take" = some (.ref f36) := d36.mgv X G
  have e37 : mg "_law_one" = some (.ref f37) := d37.mgv X G
  have e38 : mg "_law_mixed" = some (.ref f38) := d38.mgv X G
  have e39 : mg "_law_vp_is_whole" = some (.ref f39) := d39.mgv X G
  have e40 : mg "_law_vp_is_in" = some (.ref f40) := d40.mgv X G
  have e41 : mg "_law_vp_same" = some (.ref f41) := d41.mgv X G
  have e42 : mg "_law_vp_web_fault" = some (.ref f42) := d42.mgv X G
  have e43 : mg "_law_vp_is_link" = some (.ref f43) := d43.mgv X G
  have e44 : mg "_law_vp_rising_fault" = some (.ref f44) := d44.mgv X G
  have e45 : mg "_law_vp_other" = some (.ref f45) := d45.mgv X G
  have e46 : mg "_law_vp_is_way" = some (.ref f46) := d46.mgv X G
  have e47 : mg "_law_vp_walked" = some (.ref f47) := d47.mgv X G
  have e48 : mg "_law_vp_number" = some (.ref f48) := d48.mgv X G
  have e49 : mg "_law_vp_web" = some (.ref f49) := d49.mgv X G
  have e50 : mg "_law_vp_bent" = some (.ref f50) := d50.mgv X G
  have e51 : mg "_law_f2_heard" = some (.ref f51) := d51.mgv X G
  have e52 : mg "_law_f2_roads" = some (.ref f52) := d52.mgv X G
  have e53 : mg "_law_f2_things" = some (.ref f53) := d53.mgv X G
  have e54 : mg "_law_f2_ways_right" = some (.ref f54) := d54.mgv X G
  have e55 : mg "_law_f2_is_row" = some (.ref f55) := d55.mgv X G
  have e56 : mg "_law_f2_book_fault" = some (.ref f56) := d56.mgv X G
  have e57 : mg "_law_f2_rows" = some (.ref f57) := d57.mgv X G
  have e58 : mg "_law_f2_books_right" = some (.ref f58) := d58.mgv X G
  have e59 : mg "_law_f2_is_pair" = some (.ref f59) := d59.mgv X G
  have e60 : mg "_law_f2_pairs_fault" = some (.ref f60) := d60.mgv X G
  have e61 : mg "_law_f2_prices_fault" = some (.ref f61) := d61.mgv X G
  have e62 : mg "_law_f2_ends_right" = some (.ref f62) := d62.mgv X G
  have e63 : mg "_law_f2_prices_right" = some (.ref f63) := d63.mgv X G
  have e64 : mg "_law_f2_first_right" = some (.ref f64) := d64.mgv X G
  have e65 : mg "_law_f2_hand_right" = some (.ref f65) := d65.mgv X G
  have e66 : mg "law" = some (.ref f66) := d66.mgv X G
  have efa : f66 = fa := by
    rw [e66] at hfa
    cases hfa
    rfl
  subst efa
  have g2 : mg "BadWeb" = some (.ref C2) := PySem.W.mg_of X G k2.ns
  have g3 : mg "BadBook" = some (.ref C3) := PySem.W.mg_of X G k3.ns
  have g4 : mg "BadPrices" = some (.ref C4) := PySem.W.mg_of X G k4.ns
  have g5 : mg "BadBounds" = some (.ref C5) := PySem.W.mg_of X G k5.ns
  have g6 : mg "BadMany" = some (.ref C6) := PySem.W.mg_of X G k6.ns
  have g7 : mg "TooMany" = some (.ref C7) := PySem.W.mg_of X G k7.ns
  have gR : mg "Refused" = some (.ref R) := PySem.W.mg_of X G zR
  have gV : mg "ValueError" = none := PySem.W.mg_none_of X G z_ValueError
  have h_MOST_LINKS : mg "MOST_LINKS" = some (.int 60 _) := PySem.W.mg_of X G n_MOST_LINKS
  have h_MOST_PLACES : mg "MOST_PLACES" = some (.int 24 _) := PySem.W.mg_of X G n_MOST_PLACES
  have h_MOST_ROWS : mg "MOST_ROWS" = some (.int 60 _) := PySem.W.mg_of X G n_MOST_ROWS
  have i2_law_f2_heard : IsH K mg (.ref R) [("BadBook" : Str), ("BadBounds" : Str), ("BadMany" : Str), ("BadWeb" : Str), ("BadPrices" : Str), ("TooMany" : Str)] C2 "BadWeb" := isH_of k2 (l := [("BadBook", false), ("BadBounds", false), ("BadMany", false), ("BadWeb", true), ("BadPrices", false), ("TooMany", false)]) ⟨⟨_, g3, kit_sub k3.xf.hdC k3.oex.tyC w2_3 x2_3⟩, ⟨_, g5, kit_sub k5.xf.hdC k5.oex.tyC w2_5 x2_5⟩, ⟨_, g6, kit_sub k6.xf.hdC k6.oex.tyC w2_6 x2_6⟩, ⟨_, g2, kit_self⟩, ⟨_, g4, kit_sub k4.xf.hdC k4.oex.tyC w2_4 x2_4⟩, ⟨_, g7, kit_sub k7.xf.hdC k7.oex.tyC w2_7 x2_7⟩, True.intro⟩ rfl rfl (by constructor <;> decide +kernel)
  have i3_law_f2_heard : IsH K mg (.ref R) [("BadBook" : Str), ("BadBounds" : Str), ("BadMany" : Str), ("BadWeb" : Str), ("BadPrices" : Str), ("TooMany" : Str)] C3 "BadBook" := isH_of k3 (l := [("BadBook", true), ("BadBounds", false), ("BadMany", false), ("BadWeb", false), ("BadPrices", false), ("TooMany", false)]) ⟨⟨_, g3, kit_self⟩, ⟨_, g5, kit_sub k5.xf.hdC k5.oex.tyC w3_5 x3_5⟩, ⟨_, g6, kit_sub k6.xf.hdC k6.oex.tyC w3_6 x3_6⟩, ⟨_, g2, kit_sub k2.xf.hdC k2.oex.tyC w3_2 x3_2⟩, ⟨_, g4, kit_sub k4.xf.hdC k4.oex.tyC w3_4 x3_4⟩, ⟨_, g7, kit_sub k7.xf.hdC k7.oex.tyC w3_7 x3_7⟩, True.intro⟩ rfl rfl (by constructor <;> decide +kernel)
  have i4_law_f2_heard : IsH K mg (.ref R) [("BadBook" : Str), ("BadBounds" : Str), ("BadMany" : Str), ("BadWeb" : Str), ("BadPrices" : Str), ("TooMany" : Str)] C4 "BadPrices" := isH_of k4 (l := [("BadBook", false), ("BadBounds", false), ("BadMany", false), ("BadWeb", false), ("BadPrices", true), ("TooMany", false)]) ⟨⟨_, g3, kit_sub k3.xf.hdC k3.oex.tyC w4_3 x4_3⟩, ⟨_, g5, kit_sub k5.xf.hdC k5.oex.tyC w4_5 x4_5⟩, ⟨_, g6, kit_sub k6.xf.hdC k6.oex.tyC w4_6 x4_6⟩, ⟨_, g2, kit_sub k2.xf.hdC k2.oex.tyC w4_2 x4_2⟩, ⟨_, g4, kit_self⟩, ⟨_, g7, kit_sub k7.xf.hdC k7.oex.tyC w4_7 x4_7⟩, True.intro⟩ rfl rfl (by constructor <;> decide +kernel)
  have i5_law_f2_heard : IsH K mg (.ref R) [("BadBook" : Str), ("BadBounds" : Str), ("BadMany" : Str), ("BadWeb" : Str), ("BadPrices" : Str), ("TooMany" : Str)] C5 "BadBounds" := isH_of k5 (l := [("BadBook", false), ("BadBounds", true), ("BadMany", false), ("BadWeb", false), ("BadPrices", false), ("TooMany", false)]) ⟨⟨_, g3, kit_sub k3.xf.hdC k3.oex.tyC w5_3 x5_3⟩, ⟨_, g5, kit_self⟩, ⟨_, g6, kit_sub k6.xf.hdC k6.oex.tyC w5_6 x5_6⟩, ⟨_, g2, kit_sub k2.xf.hdC k2.oex.tyC w5_2 x5_2⟩, ⟨_, g4, kit_sub k4.xf.hdC k4.oex.tyC w5_4 x5_4⟩, ⟨_, g7, kit_sub k7.xf.hdC k7.oex.tyC w5_7 x5_7⟩, True.intro⟩ rfl rfl (by constructor <;> decide +kernel)
  have i6_law_f2_heard : IsH K mg (.ref R) [("BadBook" : Str), ("BadBounds" : Str), ("BadMany" : Str), ("BadWeb" : Str), ("BadPrices" : Str), ("TooMany" : Str)] C6 "BadMany" := isH_of k6 (l := [("BadBook", false), ("BadBounds", false), ("BadMany", true), ("BadWeb", false), ("BadPrices", false), ("TooMany", false)]) ⟨⟨_, g3, kit_sub k3.xf.hdC k3.oex.tyC w6_3 x6_3⟩, ⟨_, g5, kit_sub k5.xf.hdC k5.oex.tyC w6_5 x6_5⟩, ⟨_, g6, kit_self⟩, ⟨_, g2, kit_sub k2.xf.hdC k2.oex.tyC w6_2 x6_2⟩, ⟨_, g4, kit_sub k4.xf.hdC k4.oex.tyC w6_4 x6_4⟩, ⟨_, g7, kit_sub k7.xf.hdC k7.oex.tyC w6_7 x6_7⟩, True.intro⟩ rfl rfl (by constructor <;> decide +kernel)
  have i7_law_f2_heard : IsH K mg (.ref R) [("BadBook" : Str), ("BadBounds" : Str), ("BadMany" : Str), ("BadWeb" : Str), ("BadPrices" : Str), ("TooMany" : Str)] C7 "TooMany" := isH_of k7 (l := [("BadBook", false), ("BadBounds", false), ("BadMany", false), ("BadWeb", false), ("BadPrices", false), ("TooMany", true)]) ⟨⟨_, g3, kit_sub k3.xf.hdC k3.oex.tyC w7_3 x7_3⟩, ⟨_, g5, kit_sub k5.xf.hdC k5.oex.tyC w7_5 x7_5⟩, ⟨_, g6, kit_sub k6.xf.hdC k6.oex.tyC w7_6 x7_6⟩, ⟨_, g2, kit_sub k2.xf.hdC k2.oex.tyC w7_2 x7_2⟩, ⟨_, g4, kit_sub k4.xf.hdC k4.oex.tyC w7_4 x7_4⟩, ⟨_, g7, kit_self⟩, True.intro⟩ rfl rfl (by constructor <;> decide +kernel)
  have hh51 : HearF K mg cls "_law_f2_heard" [(0, ("" : Str)), (1, ("BadWeb" : Str)), (17, ("BadBook" : Str)), (21, ("BadPrices" : Str)), (22, ("BadBounds" : Str)), (52, ("BadMany" : Str)), (53, ("TooMany" : Str))] := by
    refine heardF_of (a := "call") (rf := "Refused") (r := "refused_one") (sm := "some") (n1 := "name") (n2 := "is_one") (names := [("BadBook" : Str), ("BadBounds" : Str), ("BadMany" : Str), ("BadWeb" : Str), ("BadPrices" : Str), ("TooMany" : Str)]) d51 e51 (fun _ _ _ _ _ _ us h => by match us, h with | [a0], _ => rfl) ⟨rfl, rfl, rfl, by decide +kernel, rfl, by decide +kernel, by decide +kernel⟩ rfl ⟨by decide +kernel, rfl, rfl, rfl, rfl, rfl, rfl, by decide +kernel, ⟨rfl, by decide +kernel, by decide +kernel, by decide +kernel, by decide +kernel⟩, rfl, rfl, by decide +kernel⟩ (bl _ (by decide)) gR ?_
    intro c n C h1 h2
    have h3 := lookup_memN h1
    simp only [List.mem_cons, List.not_mem_nil, or_false, Prod.mk.injEq] at h3
    rcases h3 with ⟨rfl, rfl⟩ | ⟨rfl, rfl⟩ | ⟨rfl, rfl⟩ | ⟨rfl, rfl⟩ | ⟨rfl, rfl⟩ | ⟨rfl, rfl⟩ | ⟨rfl, rfl⟩
    · cases h2
    · cases h2; exact i2_law_f2_heard
    · cases h2; exact i3_law_f2_heard
    · cases h2; exact i4_law_f2_heard
    · cases h2; exact i5_law_f2_heard
    · cases h2; exact i6_law_f2_heard
    · cases h2; exact i7_law_f2_heard
  refine lawAt (k := 59) (G := [g_pool, g_true0, g_web, g_things, g_ways_right, g_books_right, g_true, g_true, g_first2]) (g := g_law2) (S := S_law) (cls := cls) (TB := TB) (cs := [(c54, P54), (c58, P58), (c62, P62), (c63, P63), (c64, P64), (c65, P65)]) d66 (fun _ _ _ _ _ _ us h => by match us, h with | [a0], _ => rfl) ⟨rfl, rfl, rfl, by decide +kernel, rfl, by decide +kernel, by decide +kernel⟩ rfl rfl tr_law k_law2 tells_law (fun base KX Gb hT => ?_) (True.intro) bl rfl ?_ ?_ ?_ ?_
  · skip
    have L2 : ClsF l.prog w K mg base cls 2 "BadWeb" 1 := clsF_by k2 g2 rfl ik ⟨rfl, rfl, rfl, by decide +kernel, rfl, by decide +kernel, by decide +kernel⟩ rfl rfl rfl rfl (fun env => plainOf (.Name "ValueError" _) env) (fun _ => rfl) gV vV (fun _ _ _ _ _ _ us h => by match us, h with | [a, b], _ => rfl)
    have L3 : ClsF l.prog w K mg base cls 2 "BadBook" 17 := clsF_by k3 g3 rfl ik ⟨rfl, rfl, rfl, by decide +kernel, rfl, by decide +kernel, by decide +kernel⟩ rfl rfl rfl rfl (fun env => plainOf (.Name "ValueError" _) env) (fun _ => rfl) gV vV (fun _ _ _ _ _ _ us h => by match us, h with | [a, b], _ => rfl)
    have L4 : ClsF l.prog w K mg base cls 2 "BadPrices" 21 := clsF_by k4 g4 rfl ik ⟨rfl, rfl, rfl, by decide +kernel, rfl, by decide +kernel, by decide +kernel⟩ rfl rfl rfl rfl (fun env => plainOf (.Name "ValueError" _) env) (fun _ => rfl) gV vV (fun _ _ _ _ _ _ us h => by match us, h with | [a, b], _ => rfl)
    have L5 : ClsF l.prog w K mg base cls 2 "BadBounds" 22 := clsF_by k5 g5 rfl ik ⟨rfl, rfl, rfl, by decide +kernel, rfl, by decide +kernel, by decide +kernel⟩ rfl rfl rfl rfl (fun env => plainOf (.Name "ValueError" _) env) (fun _ => rfl) gV vV (fun _ _ _ _ _ _ us h => by match us, h with | [a, b], _ => rfl)
    have L6 : ClsF l.prog w K mg base cls 2 "BadMany" 52 := clsF_by k6 g6 rfl ik ⟨rfl, rfl, rfl, by decide +kernel, rfl, by decide +kernel, by decide +kernel⟩ rfl rfl rfl rfl (fun env => plainOf (.Name "ValueError" _) env) (fun _ => rfl) gV vV (fun _ _ _ _ _ _ us h => by match us, h with | [a, b], _ => rfl)
    have L7 : ClsF l.prog w K mg base cls 2 "TooMany" 53 := clsF_by k7 g7 rfl ik ⟨rfl, rfl, rfl, by decide +kernel, rfl, by decide +kernel, by decide +kernel⟩ rfl rfl rfl rfl (fun env => plainOf (.Name "ValueError" _) env) (fun _ => rfl) gV vV (fun _ _ _ _ _ _ us h => by match us, h with | [a, b], _ => rfl)
    have F10 : FnF l.prog w K mg base cls TB 1 "is_number" (g_is_number) := fnF_of (ps := [("thing" : Str)]) (S := S_is_number) (bs := B_is_number) (G := []) d10 e10 (fun _ _ _ _ _ _ us h => by match us, h with | [a0], _ => rfl) ⟨rfl, rfl, rfl, by decide +kernel, rfl, by decide +kernel, by decide +kernel⟩ rfl rfl rfl tr_is_number k_is_number (True.intro) (True.intro) bl (True.intro) rfl
    have F11 : FnF l.prog w K mg base cls TB 2 "whole" (g_whole) := fnF_of (ps := [("thing" : Str), ("least" : Str), ("most" : Str)]) (S := S_whole) (bs := B_whole) (G := [g_is_number]) d11 e11 (fun _ _ _ _ _ _ us h => by match us, h with | [a0, a1, a2], _ => rfl) ⟨rfl, rfl, rfl, by decide +kernel, rfl, by decide +kernel, by decide +kernel⟩ rfl rfl rfl tr_whole k_whole (⟨⟨_, rfl, (F10).mono (by decide)⟩, True.intro⟩) (True.intro) bl (True.intro) rfl
    have F12 : FnF l.prog w K mg base cls TB 3 "asked_many" (g_asked_many) := fnF_of (ps := [("thing" : Str), ("least" : Str), ("most" : Str)]) (S := S_asked_many) (bs := B_asked_many) (G := [g_whole]) d12 e12 (fun _ _ _ _ _ _ us h => by match us, h with | [a0, a1, a2], _ => rfl) ⟨rfl, rfl, rfl, by decide +kernel, rfl, by decide +kernel, by decide +kernel⟩ rfl rfl rfl tr_asked_many k_asked_many (⟨⟨_, rfl, (F11).mono (by decide)⟩, True.intro⟩) (True.intro) bl (⟨(L6).mono (by decide), True.intro⟩) rfl
    have F13 : FnF l.prog w K mg base cls TB 3 "wrong_rising" (g_wrong_rising) := fnF_of (ps := [("thing" : Str), ("many" : Str)]) (S := S_wrong_rising) (bs := B_wrong_rising) (G := [g_whole]) d13 e13 (fun _ _ _ _ _ _ us h => by match us, h with | [a0, a1], _ => rfl) ⟨rfl, rfl, rfl, by decide +kernel, rfl, by decide +kernel, by decide +kernel⟩ rfl rfl rfl tr_wrong_rising k_wrong_rising (⟨⟨_, rfl, (F11).mono (by decide)⟩, True.intro⟩) (True.intro) bl (True.intro) rfl
    have F14 : FnF l.prog w K mg base cls TB 4 "made_prices" (g_made_prices) := fnF_of (ps := [("n" : Str), ("thing" : Str)]) (S := S_made_prices) (bs := B_made_prices) (G := [g_asked_many, g_is_number]) d14 e14 (fun _ _ _ _ _ _ us h => by match us, h with | [a0, a1], _ => rfl) ⟨rfl, rfl, rfl, by decide +kernel, rfl, by decide +kernel, by decide +kernel⟩ rfl rfl rfl tr_made_prices k_made_prices (⟨⟨_, rfl, (F12).mono (by decide)⟩, ⟨⟨_, rfl, (F10).mono (by decide)⟩, True.intro⟩⟩) (⟨⟨_, h_MOST_LINKS⟩, True.intro⟩) bl (⟨(L4).mono (by decide), True.intro⟩) rfl
    have F17 : FnF l.prog w K mg base cls TB 3 "is_pair" (g_is_pair) := fnF_of (ps := [("n" : Str), ("thing" : Str)]) (S := S_is_pair) (bs := B_is_pair) (G := [g_whole]) d17 e17 (fun _ _ _ _ _ _ us h => by match us, h with | [a0, a1], _ => rfl) ⟨rfl, rfl, rfl, by decide +kernel, rfl, by decide +kernel, by decide +kernel⟩ rfl rfl rfl tr_is_pair k_is_pair (⟨⟨_, rfl, (F11).mono (by decide)⟩, True.intro⟩) (True.intro) bl (True.intro) rfl
    have F18 : FnF l.prog w K mg base cls TB 4 "web_what" (g_web_what) := fnF_of (ps := [("thing" : Str)]) (S := S_web_what) (bs := B_web_what) (G := [g_wrong_rising, g_whole, g_is_pair]) d18 e18 (fun _ _ _ _ _ _ us h => by match us, h with | [a0], _ => rfl) ⟨rfl, rfl, rfl, by decide +kernel, rfl, by decide +kernel, by decide +kernel⟩ rfl rfl rfl tr_web_what k_web_what (⟨⟨_, rfl, (F13).mono (by decide)⟩, ⟨⟨_, rfl, (F11).mono (by decide)⟩, ⟨⟨_, rfl, (F17).mono (by decide)⟩, True.intro⟩⟩⟩) (⟨⟨_, h_MOST_LINKS⟩, ⟨⟨_, h_MOST_PLACES⟩, True.intro⟩⟩) bl (True.intro) rfl
    have F19 : FnF l.prog w K mg base cls TB 5 "made_web" (g_made_web) := fnF_of (ps := [("thing" : Str)]) (S := S_made_web) (bs := B_made_web) (G := [g_web_what]) d19 e19 (fun _ _ _ _ _ _ us h => by match us, h with | [a0], _ => rfl) ⟨rfl, rfl, rfl, by decide +kernel, rfl, by decide +kernel, by decide +kernel⟩ rfl rfl rfl tr_made_web k_made_web (⟨⟨_, rfl, (F18).mono (by decide)⟩, True.intro⟩) (True.intro) bl (⟨(L2).mono (by decide), ⟨(L7).mono (by decide), True.intro⟩⟩) rfl
    have F21 : FnF l.prog w K mg base cls TB 1 "places_from" (g_places_from) := fnF_of (ps := [("links" : Str), ("way" : Str), ("start" : Str)]) (S := S_places_from) (bs := B_places_from) (G := []) d21 e21 (fun _ _ _ _ _ _ us h => by match us, h with | [a0, a1, a2], _ => rfl) ⟨rfl, rfl, rfl, by decide +kernel, rfl, by decide +kernel, by decide +kernel⟩ rfl rfl rfl tr_places_from k_places_from (True.intro) (True.intro) bl (True.intro) rfl
    have F22 : FnF l.prog w K mg base cls TB 1 "is_led" (g_is_led) := fnF_of (ps := [("watchers" : Str), ("places" : Str)]) (S := S_is_led) (bs := B_is_led) (G := []) d22 e22 (fun _ _ _ _ _ _ us h => by match us, h with | [a0, a1], _ => rfl) ⟨rfl, rfl, rfl, by decide +kernel, rfl, by decide +kernel, by decide +kernel⟩ rfl rfl rfl tr_is_led k_is_led (True.intro) (True.intro) bl (True.intro) rfl
    have F23 : FnF l.prog w K mg base cls TB 3 "places_of" (g_places_of) := fnF_of (ps := [("web" : Str), ("thing" : Str)]) (S := S_places_of) (bs := B_places_of) (G := [g_places_from, g_is_led, g_whole]) d23 e23 (fun _ _ _ _ _ _ us h => by match us, h with | [a0, a1], _ => rfl) ⟨rfl, rfl, rfl, by decide +kernel, rfl, by decide +kernel, by decide +kernel⟩ rfl rfl rfl tr_places_of k_places_of (⟨⟨_, rfl, (F21).mono (by decide)⟩, ⟨⟨_, rfl, (F22).mono (by decide)⟩, ⟨⟨_, rfl, (F11).mono (by decide)⟩, True.intro⟩⟩⟩) (True.intro) bl (True.intro) rfl
    have F24 : FnF l.prog w K mg base cls TB 6 "is_way" (g_is_way) := fnF_of (ps := [("web" : Str), ("thing" : Str)]) (S := S_is_way) (bs := B_is_way) (G := [g_places_of, g_made_web]) d24 e24 (fun _ _ _ _ _ _ us h => by match us, h with | [a0, a1], _ => rfl) ⟨rfl, rfl, rfl, by decide +kernel, rfl, by decide +kernel, by decide +kernel⟩ rfl rfl rfl tr_is_way k_is_way (⟨⟨_, rfl, (F23).mono (by decide)⟩, ⟨⟨_, rfl, (F19).mono (by decide)⟩, True.intro⟩⟩) (True.intro) bl (True.intro) rfl
    have F27 : FnF l.prog w K mg base cls TB 4 "is_book_row" (g_is_book_row) := fnF_of (ps := [("web" : Str), ("thing" : Str)]) (S := S_is_book_row) (bs := B_is_book_row) (G := [g_whole, g_is_number, g_places_of]) d27 e27 (fun _ _ _ _ _ _ us h => by match us, h with | [a0, a1], _ => rfl) ⟨rfl, rfl, rfl, by decide +kernel, rfl, by decide +kernel, by decide +kernel⟩ rfl rfl rfl tr_is_book_row k_is_book_row (⟨⟨_, rfl, (F11).mono (by decide)⟩, ⟨⟨_, rfl, (F10).mono (by decide)⟩, ⟨⟨_, rfl, (F23).mono (by decide)⟩, True.intro⟩⟩⟩) (True.intro) bl (True.intro) rfl
    have F28 : FnF l.prog w K mg base cls TB 5 "asked_book" (g_asked_book) := fnF_of (ps := [("web" : Str), ("book" : Str)]) (S := S_asked_book) (bs := B_asked_book) (G := [g_is_book_row]) d28 e28 (fun _ _ _ _ _ _ us h => by match us, h with | [a0, a1], _ => rfl) ⟨rfl, rfl, rfl, by decide +kernel, rfl, by decide +kernel, by decide +kernel⟩ rfl rfl rfl tr_asked_book k_asked_book (⟨⟨_, rfl, (F27).mono (by decide)⟩, True.intro⟩) (⟨⟨_, h_MOST_ROWS⟩, True.intro⟩) bl (⟨(L3).mono (by decide), ⟨(L7).mono (by decide), True.intro⟩⟩) rfl
    have F29 : FnF l.prog w K mg base cls TB 6 "made_book" (g_made_book) := fnF_of (ps := [("web" : Str), ("thing" : Str)]) (S := S_made_book) (bs := B_made_book) (G := [g_asked_book, g_made_web]) d29 e29 (fun _ _ _ _ _ _ us h => by match us, h with | [a0, a1], _ => rfl) ⟨rfl, rfl, rfl, by decide +kernel, rfl, by decide +kernel, by decide +kernel⟩ rfl rfl rfl tr_made_book k_made_book (⟨⟨_, rfl, (F28).mono (by decide)⟩, ⟨⟨_, rfl, (F19).mono (by decide)⟩, True.intro⟩⟩) (True.intro) bl (True.intro) rfl
    have F31 : FnF l.prog w K mg base cls TB 2 "is_bound" (g_is_bound) := fnF_of (ps := [("thing" : Str)]) (S := S_is_bound) (bs := B_is_bound) (G := [g_is_number]) d31 e31 (fun _ _ _ _ _ _ us h => by match us, h with | [a0], _ => rfl) ⟨rfl, rfl, rfl, by decide +kernel, rfl, by decide +kernel, by decide +kernel⟩ rfl rfl rfl tr_is_bound k_is_bound (⟨⟨_, rfl, (F10).mono (by decide)⟩, True.intro⟩) (True.intro) bl (True.intro) rfl
    have F32 : FnF l.prog w K mg base cls TB 3 "asked_bounds" (g_asked_bounds) := fnF_of (ps := [("m" : Str), ("bounds" : Str)]) (S := S_asked_bounds) (bs := B_asked_bounds) (G := [g_is_bound]) d32 e32 (fun _ _ _ _ _ _ us h => by match us, h with | [a0, a1], _ => rfl) ⟨rfl, rfl, rfl, by decide +kernel, rfl, by decide +kernel, by decide +kernel⟩ rfl rfl rfl tr_asked_bounds k_asked_bounds (⟨⟨_, rfl, (F31).mono (by decide)⟩, True.intro⟩) (True.intro) bl (⟨(L5).mono (by decide), True.intro⟩) rfl
    have F33 : FnF l.prog w K mg base cls TB 4 "made_bounds" (g_made_bounds) := fnF_of (ps := [("m" : Str), ("thing" : Str)]) (S := S_made_bounds) (bs := B_made_bounds) (G := [g_asked_bounds, g_asked_many]) d33 e33 (fun _ _ _ _ _ _ us h => by match us, h with | [a0, a1], _ => rfl) ⟨rfl, rfl, rfl, by decide +kernel, rfl, by decide +kernel, by decide +kernel⟩ rfl rfl rfl tr_made_bounds k_made_bounds (⟨⟨_, rfl, (F32).mono (by decide)⟩, ⟨⟨_, rfl, (F12).mono (by decide)⟩, True.intro⟩⟩) (⟨⟨_, h_MOST_LINKS⟩, True.intro⟩) bl (True.intro) rfl
    have F35 : FnF l.prog w K mg base cls TB 1 "_law_pool" (g_pool) := fnF_of (ps := [("script" : Str)]) (S := S_law_pool) (bs := B_law_pool) (G := []) d35 e35 (fun _ _ _ _ _ _ us h => by match us, h with | [a0], _ => rfl) ⟨rfl, rfl, rfl, by decide +kernel, rfl, by decide +kernel, by decide +kernel⟩ rfl rfl rfl tr_law_pool k_law_pool (True.intro) (True.intro) bl (True.intro) rfl
    have F36 : FnF l.prog w K mg base cls TB 1 "_law_take" (g_take) := fnF_of (ps := [("jar" : Str), ("many" : Str)]) (S := S_law_take) (bs := B_law_take) (G := []) d36 e36 (fun _ _ _ _ _ _ us h => by match us, h with | [a0, a1], _ => rfl) ⟨rfl, rfl, rfl, by decide +kernel, rfl, by decide +kernel, by decide +kernel⟩ rfl rfl rfl tr_law_take k_law_take (True.intro) (True.intro) bl (True.intro) rfl
    have F37 : FnF l.prog w K mg base cls TB 2 "_law_one" (g_one) := fnF_of (ps := [("jar" : Str), ("things" : Str)]) (S := S_law_one) (bs := B_law_one) (G := [g_take]) d37 e37 (fun _ _ _ _ _ _ us h => by match us, h with | [a0, a1], _ => rfl) ⟨rfl, rfl, rfl, by decide +kernel, rfl, by decide +kernel, by decide +kernel⟩ rfl rfl rfl tr_law_one k_law_one (⟨⟨_, rfl, (F36).mono (by decide)⟩, True.intro⟩) (True.intro) bl (True.intro) rfl
    have F38 : FnF l.prog w K mg base cls TB 2 "_law_mixed" (g_mixed) := fnF_of (ps := [("jar" : Str), ("things" : Str)]) (S := S_law_mixed) (bs := B_law_mixed) (G := [g_take]) d38 e38 (fun _ _ _ _ _ _ us h => by match us, h with | [a0, a1], _ => rfl) ⟨rfl, rfl, rfl, by decide +kernel, rfl, by decide +kernel, by decide +kernel⟩ rfl rfl rfl tr_law_mixed k_law_mixed (⟨⟨_, rfl, (F36).mono (by decide)⟩, True.intro⟩) (True.intro) bl (True.intro) rfl
    have F39 : FnF l.prog w K mg base cls TB 1 "_law_vp_is_whole" (g_is_number) := fnF_of (ps := [("thing" : Str)]) (S := S_law_vp_is_whole) (bs := B_law_vp_is_whole) (G := []) d39 e39 (fun _ _ _ _ _ _ us h => by match us, h with | [a0], _ => rfl) ⟨rfl, rfl, rfl, by decide +kernel, rfl, by decide +kernel, by decide +kernel⟩ rfl rfl rfl tr_law_vp_is_whole k_law_vp_is_whole (True.intro) (True.intro) bl (True.intro) rfl
    have F40 : FnF l.prog w K mg base cls TB 2 "_law_vp_is_in" (g_whole) := fnF_of (ps := [("thing" : Str), ("low" : Str), ("high" : Str)]) (S := S_law_vp_is_in) (bs := B_law_vp_is_in) (G := [g_is_number]) d40 e40 (fun _ _ _ _ _ _ us h => by match us, h with | [a0, a1, a2], _ => rfl) ⟨rfl, rfl, rfl, by decide +kernel, rfl, by decide +kernel, by decide +kernel⟩ rfl rfl rfl tr_law_vp_is_in k_law_vp_is_in (⟨⟨_, rfl, (F39).mono (by decide)⟩, True.intro⟩) (True.intro) bl (True.intro) rfl
    have F41 : FnF l.prog w K mg base cls TB 2 "_law_vp_same" (g_same) := fnF_of (ps := [("heard" : Str), ("owed" : Str)]) (S := S_law_vp_same) (bs := B_law_vp_same) (G := [g_is_number]) d41 e41 (fun _ _ _ _ _ _ us h => by match us, h with | [a0, a1], _ => rfl) ⟨rfl, rfl, rfl, by decide +kernel, rfl, by decide +kernel, by decide +kernel⟩ rfl rfl rfl tr_law_vp_same k_law_vp_same (⟨⟨_, rfl, (F39).mono (by decide)⟩, True.intro⟩) (True.intro) bl (True.intro) rfl
    have F44 : FnF l.prog w K mg base cls TB 3 "_law_vp_rising_fault" (g_law_vp_rising_fault) := fnF_of (ps := [("many" : Str), ("thing" : Str)]) (S := S_law_vp_rising_fault) (bs := B_law_vp_rising_fault) (G := [g_whole]) d44 e44 (fun _ _ _ _ _ _ us h => by match us, h with | [a0, a1], _ => rfl) ⟨rfl, rfl, rfl, by decide +kernel, rfl, by decide +kernel, by decide +kernel⟩ rfl rfl rfl tr_law_vp_rising_fault k_law_vp_rising_fault (⟨⟨_, rfl, (F40).mono (by decide)⟩, True.intro⟩) (True.intro) bl (True.intro) rfl
    have F43 : FnF l.prog w K mg base cls TB 3 "_law_vp_is_link" (g_is_pair) := fnF_of (ps := [("n" : Str), ("thing" : Str)]) (S := S_law_vp_is_link) (bs := B_law_vp_is_link) (G := [g_whole]) d43 e43 (fun _ _ _ _ _ _ us h => by match us, h with | [a0, a1], _ => rfl) ⟨rfl, rfl, rfl, by decide +kernel, rfl, by decide +kernel, by decide +kernel⟩ rfl rfl rfl tr_law_vp_is_link k_law_vp_is_link (⟨⟨_, rfl, (F40).mono (by decide)⟩, True.intro⟩) (True.intro) bl (True.intro) rfl
    have F42 : FnF l.prog w K mg base cls TB 4 "_law_vp_web_fault" (g_law_vp_web_fault) := fnF_of (ps := [("thing" : Str)]) (S := S_law_vp_web_fault) (bs := B_law_vp_web_fault) (G := [g_law_vp_rising_fault, g_whole, g_is_pair]) d42 e42 (fun _ _ _ _ _ _ us h => by match us, h with | [a0], _ => rfl) ⟨rfl, rfl, rfl, by decide +kernel, rfl, by decide +kernel, by decide +kernel⟩ rfl rfl rfl tr_law_vp_web_fault k_law_vp_web_fault (⟨⟨_, rfl, (F44).mono (by decide)⟩, ⟨⟨_, rfl, (F40).mono (by decide)⟩, ⟨⟨_, rfl, (F43).mono (by decide)⟩, True.intro⟩⟩⟩) (True.intro) bl (True.intro) rfl
    have F45 : FnF l.prog w K mg base cls TB 1 "_law_vp_other" (g_law_vp_other) := fnF_of (ps := [("link" : Str), ("place" : Str)]) (S := S_law_vp_other) (bs := B_law_vp_other) (G := []) d45 e45 (fun _ _ _ _ _ _ us h => by match us, h with | [a0, a1], _ => rfl) ⟨rfl, rfl, rfl, by decide +kernel, rfl, by decide +kernel, by decide +kernel⟩ rfl rfl rfl tr_law_vp_other k_law_vp_other (True.intro) (True.intro) bl (True.intro) rfl
    have F47 : FnF l.prog w K mg base cls TB 2 "_law_vp_walked" (g_law_vp_walked) := fnF_of (ps := [("rows" : Str), ("thing" : Str), ("first" : Str)]) (S := S_law_vp_walked) (bs := B_law_vp_walked) (G := [g_law_vp_other]) d47 e47 (fun _ _ _ _ _ _ us h => by match us, h with | [a0, a1, a2], _ => rfl) ⟨rfl, rfl, rfl, by decide +kernel, rfl, by decide +kernel, by decide +kernel⟩ rfl rfl rfl tr_law_vp_walked k_law_vp_walked (⟨⟨_, rfl, (F45).mono (by decide)⟩, True.intro⟩) (True.intro) bl (True.intro) rfl
    have F46 : FnF l.prog w K mg base cls TB 3 "_law_vp_is_way" (g_law_vp_is_way) := fnF_of (ps := [("web" : Str), ("thing" : Str)]) (S := S_law_vp_is_way) (bs := B_law_vp_is_way) (G := [g_law_vp_walked, g_whole]) d46 e46 (fun _ _ _ _ _ _ us h => by match us, h with | [a0, a1], _ => rfl) ⟨rfl, rfl, rfl, by decide +kernel, rfl, by decide +kernel, by decide +kernel⟩ rfl rfl rfl tr_law_vp_is_way k_law_vp_is_way (⟨⟨_, rfl, (F47).mono (by decide)⟩, ⟨⟨_, rfl, (F40).mono (by decide)⟩, True.intro⟩⟩) (True.intro) bl (True.intro) rfl
    have F48 : FnF l.prog w K mg base cls TB 3 "_law_vp_number" (g_number) := fnF_of (ps := [("jar" : Str)]) (S := S_law_vp_number) (bs := B_law_vp_number) (G := [g_one, g_take]) d48 e48 (fun _ _ _ _ _ _ us h => by match us, h with | [a0], _ => rfl) ⟨rfl, rfl, rfl, by decide +kernel, rfl, by decide +kernel, by decide +kernel⟩ rfl rfl rfl tr_law_vp_number k_law_vp_number (⟨⟨_, rfl, (F37).mono (by decide)⟩, ⟨⟨_, rfl, (F36).mono (by decide)⟩, True.intro⟩⟩) (True.intro) bl (True.intro) rfl
    have F49 : FnF l.prog w K mg base cls TB 3 "_law_vp_web" (g_web) := fnF_of (ps := [("jar" : Str)]) (S := S_law_vp_web) (bs := B_law_vp_web) (G := [g_one, g_mixed, g_take]) d49 e49 (fun _ _ _ _ _ _ us h => by match us, h with | [a0], _ => rfl) ⟨rfl, rfl, rfl, by decide +kernel, rfl, by decide +kernel, by decide +kernel⟩ rfl rfl rfl tr_law_vp_web k_law_vp_web (⟨⟨_, rfl, (F37).mono (by decide)⟩, ⟨⟨_, rfl, (F38).mono (by decide)⟩, ⟨⟨_, rfl, (F36).mono (by decide)⟩, True.intro⟩⟩⟩) (True.intro) bl (True.intro) rfl
    have F50_0 : FnF l.prog w K mg base cls TB 3 "_law_vp_bent" (g_bent 0) := fnF_none (ps := [("jar" : Str), ("thing" : Str)]) d50 e50 (fun _ _ _ _ _ _ us h => by match us, h with | [a0, a1], _ => rfl) (fun ds Q X => bent_none)
    have F50_1 : FnF l.prog w K mg base cls TB 4 "_law_vp_bent" (g_bent 1) := fnF_of (ps := [("jar" : Str), ("thing" : Str)]) (S := S_law_vp_bent) (bs := B_law_vp_bent) (G := [g_one, g_take, (g_bent 0)]) d50 e50 (fun _ _ _ _ _ _ us h => by match us, h with | [a0, a1], _ => rfl) ⟨rfl, rfl, rfl, by decide +kernel, rfl, by decide +kernel, by decide +kernel⟩ rfl rfl rfl tr_law_vp_bent (k_law_vp_bent 0) (⟨⟨_, rfl, (F37).mono (by decide)⟩, ⟨⟨_, rfl, (F36).mono (by decide)⟩, ⟨⟨_, rfl, F50_0⟩, True.intro⟩⟩⟩) (True.intro) bl (True.intro) rfl
    have F50_2 : FnF l.prog w K mg base cls TB 5 "_law_vp_bent" (g_bent 2) := fnF_of (ps := [("jar" : Str), ("thing" : Str)]) (S := S_law_vp_bent) (bs := B_law_vp_bent) (G := [g_one, g_take, (g_bent 1)]) d50 e50 (fun _ _ _ _ _ _ us h => by match us, h with | [a0, a1], _ => rfl) ⟨rfl, rfl, rfl, by decide +kernel, rfl, by decide +kernel, by decide +kernel⟩ rfl rfl rfl tr_law_vp_bent (k_law_vp_bent 1) (⟨⟨_, rfl, (F37).mono (by decide)⟩, ⟨⟨_, rfl, (F36).mono (by decide)⟩, ⟨⟨_, rfl, F50_1⟩, True.intro⟩⟩⟩) (True.intro) bl (True.intro) rfl
    have F50_3 : FnF l.prog w K mg base cls TB 6 "_law_vp_bent" (g_bent 3) := fnF_of (ps := [("jar" : Str), ("thing" : Str)]) (S := S_law_vp_bent) (bs := B_law_vp_bent) (G := [g_one, g_take, (g_bent 2)]) d50 e50 (fun _ _ _ _ _ _ us h => by match us, h with | [a0, a1], _ => rfl) ⟨rfl, rfl, rfl, by decide +kernel, rfl, by decide +kernel, by decide +kernel⟩ rfl rfl rfl tr_law_vp_bent (k_law_vp_bent 2) (⟨⟨_, rfl, (F37).mono (by decide)⟩, ⟨⟨_, rfl, (F36).mono (by decide)⟩, ⟨⟨_, rfl, F50_2⟩, True.intro⟩⟩⟩) (True.intro) bl (True.intro) rfl
    have F50_4 : FnF l.prog w K mg base cls TB 7 "_law_vp_bent" (g_bent 4) := fnF_of (ps := [("jar" : Str), ("thing" : Str)]) (S := S_law_vp_bent) (bs := B_law_vp_bent) (G := [g_one, g_take, (g_bent 3)]) d50 e50 (fun _ _ _ _ _ _ us h => by match us, h with | [a0, a1], _ => rfl) ⟨rfl, rfl, rfl, by decide +kernel, rfl, by decide +kernel, by decide +kernel⟩ rfl rfl rfl tr_law_vp_bent (k_law_vp_bent 3) (⟨⟨_, rfl, (F37).mono (by decide)⟩, ⟨⟨_, rfl, (F36).mono (by decide)⟩, ⟨⟨_, rfl, F50_3⟩, True.intro⟩⟩⟩) (True.intro) bl (True.intro) rfl
    have F50_5 : FnF l.prog w K mg base cls TB 8 "_law_vp_bent" (g_bent 5) := fnF_of (ps := [("jar" : Str), ("thing" : Str)]) (S := S_law_vp_bent) (bs := B_law_vp_bent) (G := [g_one, g_take, (g_bent 4)]) d50 e50 (fun _ _ _ _ _ _ us h => by match us, h with | [a0, a1], _ => rfl) ⟨rfl, rfl, rfl, by decide +kernel, rfl, by decide +kernel, by decide +kernel⟩ rfl rfl rfl tr_law_vp_bent (k_law_vp_bent 4) (⟨⟨_, rfl, (F37).mono (by decide)⟩, ⟨⟨_, rfl, (F36).mono (by decide)⟩, ⟨⟨_, rfl, F50_4⟩, True.intro⟩⟩⟩) (True.intro) bl (True.intro) rfl
    have F50_6 : FnF l.prog w K mg base cls TB 9 "_law_vp_bent" (g_bent 6) := fnF_of (ps := [("jar" : Str), ("thing" : Str)]) (S := S_law_vp_bent) (bs := B_law_vp_bent) (G := [g_one, g_take, (g_bent 5)]) d50 e50 (fun _ _ _ _ _ _ us h => by match us, h with | [a0, a1], _ => rfl) ⟨rfl, rfl, rfl, by decide +kernel, rfl, by decide +kernel, by decide +kernel⟩ rfl rfl rfl tr_law_vp_bent (k_law_vp_bent 5) (⟨⟨_, rfl, (F37).mono (by decide)⟩, ⟨⟨_, rfl, (F36).mono (by decide)⟩, ⟨⟨_, rfl, F50_5⟩, True.intro⟩⟩⟩) (True.intro) bl (True.intro) rfl
    have F50_7 : FnF l.prog w K mg base cls TB 10 "_law_vp_bent" (g_bent 7) := fnF_of (ps := [("jar" : Str), ("thing" : Str)]) (S := S_law_vp_bent) (bs := B_law_vp_bent) (G := [g_one, g_take, (g_bent 6)]) d50 e50 (fun _ _ _ _ _ _ us h => by match us, h with | [a0, a1], _ => rfl) ⟨rfl, rfl, rfl, by decide +kernel, rfl, by decide +kernel, by decide +kernel⟩ rfl rfl rfl tr_law_vp_bent (k_law_vp_bent 6) (⟨⟨_, rfl, (F37).mono (by decide)⟩, ⟨⟨_, rfl, (F36).mono (by decide)⟩, ⟨⟨_, rfl, F50_6⟩, True.intro⟩⟩⟩) (True.intro) bl (True.intro) rfl
    have F50_8 : FnF l.prog w K mg base cls TB 11 "_law_vp_bent" (g_bent 8) := fnF_of (ps := [("jar" : Str), ("thing" : Str)]) (S := S_law_vp_bent) (bs := B_law_vp_bent) (G := [g_one, g_take, (g_bent 7)]) d50 e50 (fun _ _ _ _ _ _ us h => by match us, h with | [a0, a1], _ => rfl) ⟨rfl, rfl, rfl, by decide +kernel, rfl, by decide +kernel, by decide +kernel⟩ rfl rfl rfl tr_law_vp_bent (k_law_vp_bent 7) (⟨⟨_, rfl, (F37).mono (by decide)⟩, ⟨⟨_, rfl, (F36).mono (by decide)⟩, ⟨⟨_, rfl, F50_7⟩, True.intro⟩⟩⟩) (True.intro) bl (True.intro) rfl
    have F50 := F50_8
    have F52 : FnF l.prog w K mg base cls TB 3 "_law_f2_roads" (g_roads) := fnF_of (ps := [("jar" : Str), ("web" : Str)]) (S := S_law_f2_roads) (bs := B_law_f2_roads) (G := [g_mixed, g_one, g_law_vp_other]) d52 e52 (fun _ _ _ _ _ _ us h => by match us, h with | [a0, a1], _ => rfl) ⟨rfl, rfl, rfl, by decide +kernel, rfl, by decide +kernel, by decide +kernel⟩ rfl rfl rfl tr_law_f2_roads k_law_f2_roads (⟨⟨_, rfl, (F38).mono (by decide)⟩, ⟨⟨_, rfl, (F37).mono (by decide)⟩, ⟨⟨_, rfl, (F45).mono (by decide)⟩, True.intro⟩⟩⟩) (True.intro) bl (True.intro) rfl
    have F53 : FnF l.prog w K mg base cls TB 12 "_law_f2_things" (g_things) := fnF_of (ps := [("jar" : Str), ("web" : Str)]) (S := S_law_f2_things) (bs := B_law_f2_things) (G := [g_roads, g_bent 8, g_take]) d53 e53 (fun _ _ _ _ _ _ us h => by match us, h with | [a0, a1], _ => rfl) ⟨rfl, rfl, rfl, by decide +kernel, rfl, by decide +kernel, by decide +kernel⟩ rfl rfl rfl tr_law_f2_things k_law_f2_things (⟨⟨_, rfl, (F52).mono (by decide)⟩, ⟨⟨_, rfl, (F50).mono (by decide)⟩, ⟨⟨_, rfl, (F36).mono (by decide)⟩, True.intro⟩⟩⟩) (True.intro) bl (True.intro) rfl
    have F54 : FnF l.prog w K mg base cls TB 9 "_law_f2_ways_right" g_ways_right := fnF_lam (ps := [("jar" : Str), ("web" : Str), ("things" : Str)]) (S := S_law_f2_ways_right) (bs := B_law_f2_ways_right) (G := [g_same, g_law_vp_is_way, g_is_way]) d54 e54 (fun _ _ _ _ _ _ us h => by match us, h with | [a0, a1, a2], _ => rfl) ⟨rfl, rfl, rfl, by decide +kernel, rfl, by decide +kernel, by decide +kernel⟩ rfl rfl rfl tr_law_f2_ways_right k_law_f2_ways_right (⟨⟨_, rfl, (F41).mono (by decide)⟩, ⟨⟨_, rfl, (F46).mono (by decide)⟩, ⟨⟨_, rfl, (F24).mono (by decide)⟩, True.intro⟩⟩⟩) (True.intro) bl (True.intro) (hT (c54, P54) (by simp)) (by simp [TB]) (tbu (P54, (("_law_f2_ways_right" : Str) ++ ".<locals>." ++ "<lambda>")) (by simp [TB])) (fun y tb h => by
        have h3 := lookup_mem h
        simp only [S_law_f2_ways_right, List.mem_cons, List.not_mem_nil, or_false, Prod.mk.injEq] at h3
        obtain ⟨rfl, rfl⟩ := h3
        exact hh51)
    have F55 : FnF l.prog w K mg base cls TB 4 "_law_f2_is_row" (g_law_f2_is_row) := fnF_of (ps := [("web" : Str), ("thing" : Str)]) (S := S_law_f2_is_row) (bs := B_law_f2_is_row) (G := [g_is_number, g_law_vp_is_way, g_whole]) d55 e55 (fun _ _ _ _ _ _ us h => by match us, h with | [a0, a1], _ => rfl) ⟨rfl, rfl, rfl, by decide +kernel, rfl, by decide +kernel, by decide +kernel⟩ rfl rfl rfl tr_law_f2_is_row k_law_f2_is_row (⟨⟨_, rfl, (F39).mono (by decide)⟩, ⟨⟨_, rfl, (F46).mono (by decide)⟩, ⟨⟨_, rfl, (F40).mono (by decide)⟩, True.intro⟩⟩⟩) (True.intro) bl (True.intro) rfl
    have F56 : FnF l.prog w K mg base cls TB 5 "_law_f2_book_fault" (g_law_f2_book_fault) := fnF_of (ps := [("web" : Str), ("thing" : Str)]) (S := S_law_f2_book_fault) (bs := B_law_f2_book_fault) (G := [g_law_f2_is_row]) d56 e56 (fun _ _ _ _ _ _ us h => by match us, h with | [a0, a1], _ => rfl) ⟨rfl, rfl, rfl, by decide +kernel, rfl, by decide +kernel, by decide +kernel⟩ rfl rfl rfl tr_law_f2_book_fault k_law_f2_book_fault (⟨⟨_, rfl, (F55).mono (by decide)⟩, True.intro⟩) (True.intro) bl (True.intro) rfl
    have F57 : FnF l.prog w K mg base cls TB 4 "_law_f2_rows" (g_rows) := fnF_of (ps := [("jar" : Str), ("web" : Str), ("things" : Str)]) (S := S_law_f2_rows) (bs := B_law_f2_rows) (G := [g_mixed, g_law_vp_is_way, g_number, g_one]) d57 e57 (fun _ _ _ _ _ _ us h => by match us, h with | [a0, a1, a2], _ => rfl) ⟨rfl, rfl, rfl, by decide +kernel, rfl, by decide +kernel, by decide +kernel⟩ rfl rfl rfl tr_law_f2_rows k_law_f2_rows (⟨⟨_, rfl, (F38).mono (by decide)⟩, ⟨⟨_, rfl, (F46).mono (by decide)⟩, ⟨⟨_, rfl, (F48).mono (by decide)⟩, ⟨⟨_, rfl, (F37).mono (by decide)⟩, True.intro⟩⟩⟩⟩) (True.intro) bl (True.intro) rfl
    have F58 : FnF l.prog w K mg base cls TB 14 "_law_f2_books_right" g_books_right := fnF_lam (ps := [("jar" : Str), ("web" : Str), ("things" : Str)]) (S := S_law_f2_books_right) (bs := B_law_f2_books_right) (G := [g_rows, g_take, g_law_f2_book_fault, g_bent 8, g_same, g_made_book, g_mixed]) d58 e58 (fun _ _ _ _ _ _ us h => by match us, h with | [a0, a1, a2], _ => rfl) ⟨rfl, rfl, rfl, by decide +kernel, rfl, by decide +kernel, by decide +kernel⟩ rfl rfl rfl tr_law_f2_books_right k_law_f2_books_right (⟨⟨_, rfl, (F57).mono (by decide)⟩, ⟨⟨_, rfl, (F36).mono (by decide)⟩, ⟨⟨_, rfl, (F56).mono (by decide)⟩, ⟨⟨_, rfl, (F50).mono (by decide)⟩, ⟨⟨_, rfl, (F41).mono (by decide)⟩, ⟨⟨_, rfl, (F29).mono (by decide)⟩, ⟨⟨_, rfl, (F38).mono (by decide)⟩, True.intro⟩⟩⟩⟩⟩⟩⟩) (True.intro) bl (True.intro) (hT (c58, P58) (by simp)) (by simp [TB]) (tbu (P58, (("_law_f2_books_right" : Str) ++ ".<locals>." ++ "<lambda>")) (by simp [TB])) (fun y tb h => by
        have h3 := lookup_mem h
        simp only [S_law_f2_books_right, List.mem_cons, List.not_mem_nil, or_false, Prod.mk.injEq] at h3
        obtain ⟨rfl, rfl⟩ := h3
        exact hh51)
    have F59 : FnF l.prog w K mg base cls TB 2 "_law_f2_is_pair" (g_law_f2_is_pair) := fnF_of (ps := [("thing" : Str)]) (S := S_law_f2_is_pair) (bs := B_law_f2_is_pair) (G := [g_is_number]) d59 e59 (fun _ _ _ _ _ _ us h => by match us, h with | [a0], _ => rfl) ⟨rfl, rfl, rfl, by decide +kernel, rfl, by decide +kernel, by decide +kernel⟩ rfl rfl rfl tr_law_f2_is_pair k_law_f2_is_pair (⟨⟨_, rfl, (F39).mono (by decide)⟩, True.intro⟩) (True.intro) bl (True.intro) rfl
    have F60 : FnF l.prog w K mg base cls TB 3 "_law_f2_pairs_fault" (g_bad boundOk) := fnF_of (ps := [("m" : Str), ("thing" : Str)]) (S := S_law_f2_pairs_fault) (bs := B_law_f2_pairs_fault) (G := [g_law_f2_is_pair]) d60 e60 (fun _ _ _ _ _ _ us h => by match us, h with | [a0, a1], _ => rfl) ⟨rfl, rfl, rfl, by decide +kernel, rfl, by decide +kernel, by decide +kernel⟩ rfl rfl rfl tr_law_f2_pairs_fault k_law_f2_pairs_fault (⟨⟨_, rfl, (F59).mono (by decide)⟩, True.intro⟩) (True.intro) bl (True.intro) rfl
    have F61 : FnF l.prog w K mg base cls TB 2 "_law_f2_prices_fault" (g_bad priceOk) := fnF_of (ps := [("n" : Str), ("thing" : Str)]) (S := S_law_f2_prices_fault) (bs := B_law_f2_prices_fault) (G := [g_is_number]) d61 e61 (fun _ _ _ _ _ _ us h => by match us, h with | [a0, a1], _ => rfl) ⟨rfl, rfl, rfl, by decide +kernel, rfl, by decide +kernel, by decide +kernel⟩ rfl rfl rfl tr_law_f2_prices_fault k_law_f2_prices_fault (⟨⟨_, rfl, (F39).mono (by decide)⟩, True.intro⟩) (True.intro) bl (True.intro) rfl
    have F62 : FnF l.prog w K mg base cls TB 14 "_law_f2_ends_right" g_true := fnF_lam (ps := [("jar" : Str)]) (S := S_law_f2_ends_right) (bs := B_law_f2_ends_right) (G := [g_one, g_number, g_bent 8, g_take, g_bad boundOk, g_same, g_made_bounds]) d62 e62 (fun _ _ _ _ _ _ us h => by match us, h with | [a0], _ => rfl) ⟨rfl, rfl, rfl, by decide +kernel, rfl, by decide +kernel, by decide +kernel⟩ rfl rfl rfl tr_law_f2_ends_right k_law_f2_ends_right (⟨⟨_, rfl, (F37).mono (by decide)⟩, ⟨⟨_, rfl, (F48).mono (by decide)⟩, ⟨⟨_, rfl, (F50).mono (by decide)⟩, ⟨⟨_, rfl, (F36).mono (by decide)⟩, ⟨⟨_, rfl, (F60).mono (by decide)⟩, ⟨⟨_, rfl, (F41).mono (by decide)⟩, ⟨⟨_, rfl, (F33).mono (by decide)⟩, True.intro⟩⟩⟩⟩⟩⟩⟩) (True.intro) bl (True.intro) (hT (c62, P62) (by simp)) (by simp [TB]) (tbu (P62, (("_law_f2_ends_right" : Str) ++ ".<locals>." ++ "<lambda>")) (by simp [TB])) (fun y tb h => by
        have h3 := lookup_mem h
        simp only [S_law_f2_ends_right, List.mem_cons, List.not_mem_nil, or_false, Prod.mk.injEq] at h3
        obtain ⟨rfl, rfl⟩ := h3
        exact hh51)
    have F63 : FnF l.prog w K mg base cls TB 14 "_law_f2_prices_right" g_true := fnF_lam (ps := [("jar" : Str)]) (S := S_law_f2_prices_right) (bs := B_law_f2_prices_right) (G := [g_one, g_bent 8, g_take, g_bad priceOk, g_same, g_made_prices]) d63 e63 (fun _ _ _ _ _ _ us h => by match us, h with | [a0], _ => rfl) ⟨rfl, rfl, rfl, by decide +kernel, rfl, by decide +kernel, by decide +kernel⟩ rfl rfl rfl tr_law_f2_prices_right k_law_f2_prices_right (⟨⟨_, rfl, (F37).mono (by decide)⟩, ⟨⟨_, rfl, (F50).mono (by decide)⟩, ⟨⟨_, rfl, (F36).mono (by decide)⟩, ⟨⟨_, rfl, (F61).mono (by decide)⟩, ⟨⟨_, rfl, (F41).mono (by decide)⟩, ⟨⟨_, rfl, (F14).mono (by decide)⟩, True.intro⟩⟩⟩⟩⟩⟩) (True.intro) bl (True.intro) (hT (c63, P63) (by simp)) (by simp [TB]) (tbu (P63, (("_law_f2_prices_right" : Str) ++ ".<locals>." ++ "<lambda>")) (by simp [TB])) (fun y tb h => by
        have h3 := lookup_mem h
        simp only [S_law_f2_prices_right, List.mem_cons, List.not_mem_nil, or_false, Prod.mk.injEq] at h3
        obtain ⟨rfl, rfl⟩ := h3
        exact hh51)
    have F64 : FnF l.prog w K mg base cls TB 9 "_law_f2_first_right" g_first2 := fnF_lam (ps := [("jar" : Str), ("web" : Str)]) (S := S_law_f2_first_right) (bs := B_law_f2_first_right) (G := [g_one, g_same, g_made_book, g_is_way, g_law_vp_web_fault, g_made_bounds, g_made_prices]) d64 e64 (fun _ _ _ _ _ _ us h => by match us, h with | [a0, a1], _ => rfl) ⟨rfl, rfl, rfl, by decide +kernel, rfl, by decide +kernel, by decide +kernel⟩ rfl rfl rfl tr_law_f2_first_right k_law_f2_first_right (⟨⟨_, rfl, (F37).mono (by decide)⟩, ⟨⟨_, rfl, (F41).mono (by decide)⟩, ⟨⟨_, rfl, (F29).mono (by decide)⟩, ⟨⟨_, rfl, (F24).mono (by decide)⟩, ⟨⟨_, rfl, (F42).mono (by decide)⟩, ⟨⟨_, rfl, (F33).mono (by decide)⟩, ⟨⟨_, rfl, (F14).mono (by decide)⟩, True.intro⟩⟩⟩⟩⟩⟩⟩) (True.intro) bl (True.intro) (hT (c64, P64) (by simp)) (by simp [TB]) (tbu (P64, (("_law_f2_first_right" : Str) ++ ".<locals>." ++ "<lambda>")) (by simp [TB])) (fun y tb h => by
        have h3 := lookup_mem h
        simp only [S_law_f2_first_right, List.mem_cons, List.not_mem_nil, or_false, Prod.mk.injEq] at h3
        obtain ⟨rfl, rfl⟩ := h3
        exact hh51)
    have F65 : FnF l.prog w K mg base cls TB 9 "_law_f2_hand_right" g_true0 := fnF_lam (ps := []) (S := S_law_f2_hand_right) (bs := B_law_f2_hand_right) (G := [g_same, g_made_book, g_is_way]) d65 e65 (fun _ _ _ _ _ _ us h => by match us, h with | [], _ => rfl) ⟨rfl, rfl, rfl, by decide +kernel, rfl, by decide +kernel, by decide +kernel⟩ rfl rfl rfl tr_law_f2_hand_right k_law_f2_hand_right (⟨⟨_, rfl, (F41).mono (by decide)⟩, ⟨⟨_, rfl, (F29).mono (by decide)⟩, ⟨⟨_, rfl, (F24).mono (by decide)⟩, True.intro⟩⟩⟩) (True.intro) bl (True.intro) (hT (c65, P65) (by simp)) (by simp [TB]) (tbu (P65, (("_law_f2_hand_right" : Str) ++ ".<locals>." ++ "<lambda>")) (by simp [TB])) (fun y tb h => by
        have h3 := lookup_mem h
        simp only [S_law_f2_hand_right, List.mem_cons, List.not_mem_nil, or_false, Prod.mk.injEq] at h3
        obtain ⟨rfl, rfl⟩ := h3
        exact hh51)
    exact ⟨⟨⟨_, rfl, (F35).mono (by decide)⟩, ⟨⟨_, rfl, (F65).mono (by decide)⟩, ⟨⟨_, rfl, (F49).mono (by decide)⟩, ⟨⟨_, rfl, (F53).mono (by decide)⟩, ⟨⟨_, rfl, (F54).mono (by decide)⟩, ⟨⟨_, rfl, (F58).mono (by decide)⟩, ⟨⟨_, rfl, (F62).mono (by decide)⟩, ⟨⟨_, rfl, (F63).mono (by decide)⟩, ⟨⟨_, rfl, (F64).mono (by decide)⟩, True.intro⟩⟩⟩⟩⟩⟩⟩⟩⟩, True.intro⟩
  · intro p hp
    exact tabs p.2 (by simp at hp ⊢; rcases hp with rfl | rfl | rfl | rfl | rfl | rfl <;> simp)
  · intro p hp
    simp at hp
    rcases hp with rfl | rfl | rfl | rfl | rfl | rfl
    · exact m54
    · exact m58
    · exact m62
    · exact m63
    · exact m64
    · exact m65
  · intro p hp
    simp at hp
    rcases hp with rfl | rfl | rfl | rfl | rfl | rfl
    · exact codeHd_by X t54 u54 n54
    · exact codeHd_by X t58 u58 n58
    · exact codeHd_by X t62 u62 n62
    · exact codeHd_by X t63 u63 n63
    · exact codeHd_by X t64 u64 n64
    · exact codeHd_by X t65 u65 n65
  · intro p hp
    simp [TB] at hp
    rcases hp with rfl | rfl | rfl | rfl | rfl | rfl
    · exact ⟨(c54, P54), by simp, rfl⟩
    · exact ⟨(c58, P58), by simp, rfl⟩
    · exact ⟨(c62, P62), by simp, rfl⟩
    · exact ⟨(c63, P63), by simp, rfl⟩
    · exact ⟨(c64, P64), by simp, rfl⟩
    · exact ⟨(c65, P65), by simp, rfl⟩
end PL
open PySem PySem.W PyProof.Rows
set_option maxRecDepth 100000 in
set_option maxHeartbeats 0 in
theorem PySem.Challenge.cw_webofrooms_k02_books_bounds_and_prices_b_holds : PySem.Challenge.rw_webofrooms_k02_books_bounds_and_prices_b.Holds := by
  w_on; o_law; k_head; (case hw => w_witness2)
  k_fill
  refine LamX.walk_ofTs (l := PySem.Challenge.rw_webofrooms_k02_books_bounds_and_prices_b) (n := 63) (k := 60) (x := "script") (CX := fun w => L2N.CX PySem.Challenge.rw_webofrooms_k02_books_bounds_and_prices_b.prog w) rfl (by decide) rfl ⟨rfl, by decide, by decide⟩ (fun w h Y => PySem.W.km_in_of Y) ?F ?C
  case C => exact fun w H s e s' h => PL.cx_false h
  case F =>
    intro w mg fa h Y KX G hmg
    have T := PySem.W.km_tabs_of Y
    refine' PL.law_end KX G hmg ?d10 ?d11 ?d12 ?d13 ?d14 ?d17 ?d18 ?d19 ?d21 ?d22 ?d23 ?d24 ?d27 ?d28 ?d29 ?d31 ?d32 ?d33 ?d35 ?d36 ?d37 ?d38 ?d39 ?d40 ?d41 ?d42 ?d43 ?d44 ?d45 ?d46 ?d47 ?d48 ?d49 ?d50 ?d51 ?d52 ?d53 ?d54 ?t54 ?u54 ?n54 ?m54 ?d55 ?d56 ?d57 ?d58 ?t58 ?u58 ?n58 ?m58 ?d59 ?d60 ?d61 ?d62 ?t62 ?u62 ?n62 ?m62 ?d63 ?t63 ?u63 ?n63 ?m63 ?d64 ?t64 ?u64 ?n64 ?m64 ?d65 ?t65 ?u65 ?n65 ?m65 ?d66 ?tabs ?nd ?zR ?ik ?vV ?k2 ?k3 ?k4 ?k5 ?k6 ?k7 ?w2_3 ?x2_3 ?w2_5 ?x2_5 ?w2_6 ?x2_6 ?w2_4 ?x2_4 ?w2_7 ?x2_7 ?w3_5 ?x3_5 ?w3_6 ?x3_6 ?w3_2 ?x3_2 ?w3_4 ?x3_4 ?w3_7 ?x3_7 ?w4_3 ?x4_3 ?w4_5 ?x4_5 ?w4_6 ?x4_6 ?w4_2 ?x4_2 ?w4_7 ?x4_7 ?w5_3 ?x5_3 ?w5_6 ?x5_6 ?w5_2 ?x5_2 ?w5_4 ?x5_4 ?w5_7 ?x5_7 ?w6_3 ?x6_3 ?w6_5 ?x6_5 ?w6_2 ?x6_2 ?w6_4 ?x6_4 ?w6_7 ?x6_7 ?w7_3 ?x7_3 ?w7_5 ?x7_5 ?w7_6 ?x7_6 ?w7_2 ?x7_2 ?w7_4 ?x7_4 ?z_len ?z_max ?z_min ?z_int ?z_bool ?z_str ?z_abs ?z_tuple ?z_list ?z_sorted ?z_sum ?z_any ?z_all ?z_isinstance ?z_range ?z_enumerate ?z_zip ?z_dict ?z_set ?z_ValueError ?n_MOST_LINKS ?n_MOST_PLACES ?n_MOST_ROWS
    case d10 => refine' PL.DefK.of ?a ?l ?c ?k; (case a => k_is); (case l => k_is); (case c => k_is); (case k => k_is)
    case d11 => refine' PL.DefK.of ?a ?l ?c ?k; (case a => k_is); (case l => k_is); (case c => k_is); (case k => k_is)
    case d12 => refine' PL.DefK.of ?a ?l ?c ?k; (case a => k_is); (case l => k_is); (case c => k_is); (case k => k_is)
    case d13 => refine' PL.DefK.of ?a ?l ?c ?k; (case a => k_is); (case l => k_is); (case c => k_is); (case k => k_is)
    case d14 => refine' PL.DefK.of ?a ?l ?c ?k; (case a => k_is); (case l => k_is); (case c => k_is); (case k => k_is)
    case d17 => refine' PL.DefK.of ?a ?l ?c ?k; (case a => k_is); (case l => k_is); (case c => k_is); (case k => k_is)
    case d18 => refine' PL.DefK.of ?a ?l ?c ?k; (case a => k_is); (case l => k_is); (case c => k_is); (case k => k_is)
    case d19 => refine' PL.DefK.of ?a ?l ?c ?k; (case a => k_is); (case l => k_is); (case c => k_is); (case k => k_is)
    case d21 => refine' PL.DefK.of ?a ?l ?c ?k; (case a => k_is); (case l => k_is); (case c => k_is); (case k => k_is)
    case d22 => refine' PL.DefK.of ?a ?l ?c ?k; (case a => k_is); (case l => k_is); (case c => k_is); (case k => k_is)
    case d23 => refine' PL.DefK.of ?a ?l ?c ?k; (case a => k_is); (case l => k_is); (case c => k_is); (case k => k_is)
    case d24 => refine' PL.DefK.of ?a ?l ?c ?k; (case a => k_is); (case l => k_is); (case c => k_is); (case k => k_is)
    case d27 => refine' PL.DefK.of ?a ?l ?c ?k; (case a => k_is); (case l => k_is); (case c => k_is); (case k => k_is)
    case d28 => refine' PL.DefK.of ?a ?l ?c ?k; (case a => k_is); (case l => k_is); (case c => k_is); (case k => k_is)
    case d29 => refine' PL.DefK.of ?a ?l ?c ?k; (case a => k_is); (case l => k_is); (case c => k_is); (case k => k_is)
    case d31 => refine' PL.DefK.of ?a ?l ?c ?k; (case a => k_is); (case l => k_is); (case c => k_is); (case k => k_is)
    case d32 => refine' PL.DefK.of ?a ?l ?c ?k; (case a => k_is); (case l => k_is); (case c => k_is); (case k => k_is)
    case d33 => refine' PL.DefK.of ?a ?l ?c ?k; (case a => k_is); (case l => k_is); (case c => k_is); (case k => k_is)
    case d35 => refine' PL.DefK.of ?a ?l ?c ?k; (case a => k_is); (case l => k_is); (case c => k_is); (case k => k_is)
    case d36 => refine' PL.DefK.of ?a ?l ?c ?k; (case a => k_is); (case l => k_is); (case c => k_is); (case k => k_is)
    case d37 => refine' PL.DefK.of ?a ?l ?c ?k; (case a => k_is); (case l => k_is); (case c => k_is); (case k => k_is)
    case d38 => refine' PL.DefK.of ?a ?l ?c ?k; (case a => k_is); (case l => k_is); (case c => k_is); (case k => k_is)
    case d39 => refine' PL.DefK.of ?a ?l ?c ?k; (case a => k_is); (case l => k_is); (case c => k_is); (case k => k_is)
    case d40 => refine' PL.DefK.of ?a ?l ?c ?k; (case a => k_is); (case l => k_is); (case c => k_is); (case k => k_is)
    case d41 => refine' PL.DefK.of ?a ?l ?c ?k; (case a => k_is); (case l => k_is); (case c => k_is); (case k => k_is)
    case d42 => refine' PL.DefK.of ?a ?l ?c ?k; (case a => k_is); (case l => k_is); (case c => k_is); (case k => k_is)
    case d43 => refine' PL.DefK.of ?a ?l ?c ?k; (case a => k_is); (case l => k_is); (case c => k_is); (case k => k_is)
    case d44 => refine' PL.DefK.of ?a ?l ?c ?k; (case a => k_is); (case l => k_is); (case c => k_is); (case k => k_is)
    case d45 => refine' PL.DefK.of ?a ?l ?c ?k; (case a => k_is); (case l => k_is); (case c => k_is); (case k => k_is)
    case d46 => refine' PL.DefK.of ?a ?l ?c ?k; (case a => k_is); (case l => k_is); (case c => k_is); (case k => k_is)
    case d47 => refine' PL.DefK.of ?a ?l ?c ?k; (case a => k_is); (case l => k_is); (case c => k_is); (case k => k_is)
    case d48 => refine' PL.DefK.of ?a ?l ?c ?k; (case a => k_is); (case l => k_is); (case c => k_is); (case k => k_is)
    case d49 => refine' PL.DefK.of ?a ?l ?c ?k; (case a => k_is); (case l => k_is); (case c => k_is); (case k => k_is)
    case d50 => refine' PL.DefK.of ?a ?l ?c ?k; (case a => k_is); (case l => k_is); (case c => k_is); (case k => k_is)
    case d51 => refine' PL.DefK.of ?a ?l ?c ?k; (case a => k_is); (case l => k_is); (case c => k_is); (case k => k_is)
    case d52 => refine' PL.DefK.of ?a ?l ?c ?k; (case a => k_is); (case l => k_is); (case c => k_is); (case k => k_is)
    case d53 => refine' PL.DefK.of ?a ?l ?c ?k; (case a => k_is); (case l => k_is); (case c => k_is); (case k => k_is)
    case d54 => refine' PL.DefK.of ?a ?l ?c ?k; (case a => k_is); (case l => k_is); (case c => k_is); (case k => k_is)
    case t54 => k_is
    case u54 => rfl
    case n54 => rfl
    case m54 => first | k_is | rfl | decide
    case d55 => refine' PL.DefK.of ?a ?l ?c ?k; (case a => k_is); (case l => k_is); (case c => k_is); (case k => k_is)
    case d56 => refine' PL.DefK.of ?a ?l ?c ?k; (case a => k_is); (case l => k_is); (case c => k_is); (case k => k_is)
    case d57 => refine' PL.DefK.of ?a ?l ?c ?k; (case a => k_is); (case l => k_is); (case c => k_is); (case k => k_is)
    case d58 => refine' PL.DefK.of ?a ?l ?c ?k; (case a => k_is); (case l => k_is); (case c => k_is); (case k => k_is)
    case t58 => k_is
    case u58 => rfl
    case n58 => rfl
    case m58 => first | k_is | rfl | decide
    case d59 => refine' PL.DefK.of ?a ?l ?c ?k; (case a => k_is); (case l => k_is); (case c => k_is); (case k => k_is)
    case d60 => refine' PL.DefK.of ?a ?l ?c ?k; (case a => k_is); (case l => k_is); (case c => k_is); (case k => k_is)
    case d61 => refine' PL.DefK.of ?a ?l ?c ?k; (case a => k_is); (case l => k_is); (case c => k_is); (case k => k_is)
    case d62 => refine' PL.DefK.of ?a ?l ?c ?k; (case a => k_is); (case l => k_is); (case c => k_is); (case k => k_is)
    case t62 => k_is
    case u62 => rfl
    case n62 => rfl
    case m62 => first | k_is | rfl | decide
    case d63 => refine' PL.DefK.of ?a ?l ?c ?k; (case a => k_is); (case l => k_is); (case c => k_is); (case k => k_is)
    case t63 => k_is
    case u63 => rfl
    case n63 => rfl
    case m63 => first | k_is | rfl | decide
    case d64 => refine' PL.DefK.of ?a ?l ?c ?k; (case a => k_is); (case l => k_is); (case c => k_is); (case k => k_is)
    case t64 => k_is
    case u64 => rfl
    case n64 => rfl
    case m64 => first | k_is | rfl | decide
    case d65 => refine' PL.DefK.of ?a ?l ?c ?k; (case a => k_is); (case l => k_is); (case c => k_is); (case k => k_is)
    case t65 => k_is
    case u65 => rfl
    case n65 => rfl
    case m65 => first | k_is | rfl | decide
    case d66 => refine' PL.DefK.of ?a ?l ?c ?k; (case a => k_is); (case l => k_is); (case c => k_is); (case k => k_is)
    case tabs => intro P hP; exact T P (by revert P; decide)
    case nd => decide
    case zR => k_is
    case vV => k_is
    case k2 => refine' PL.ClsK.of ?ns ?xL ?rf ?sa ?exC ?tyC ?kC ?wh ?ini ?tI ?ga ?gg ?hd ?ha ?hn ?ht ?hm ?exR ?hdR ?tyR ?sR; (case ns => k_is); (case xL => k_is); (case rf => rfl); (case sa => k_is); (case exC => k_is); (case tyC => k_is); (case kC => k_is); (case wh => k_is); (case ini => k_is); (case tI => k_is); (case ga => k_is); (case gg => k_is); (case hd => k_is); (case ha => k_is); (case hn => k_is); (case ht => k_is); (case hm => k_is); (case exR => k_is); (case hdR => k_is); (case tyR => k_is); (case sR => k_is)
    case k3 => refine' PL.ClsK.of ?ns ?xL ?rf ?sa ?exC ?tyC ?kC ?wh ?ini ?tI ?ga ?gg ?hd ?ha ?hn ?ht ?hm ?exR ?hdR ?tyR ?sR; (case ns => k_is); (case xL => k_is); (case rf => rfl); (case sa => k_is); (case exC => k_is); (case tyC => k_is); (case kC => k_is); (case wh => k_is); (case ini => k_is); (case tI => k_is); (case ga => k_is); (case gg => k_is); (case hd => k_is); (case ha => k_is); (case hn => k_is); (case ht => k_is); (case hm => k_is); (case exR => k_is); (case hdR => k_is); (case tyR => k_is); (case sR => k_is)
    case k4 => refine' PL.ClsK.of ?ns ?xL ?rf ?sa ?exC ?tyC ?kC ?wh ?ini ?tI ?ga ?gg ?hd ?ha ?hn ?ht ?hm ?exR ?hdR ?tyR ?sR; (case ns => k_is); (case xL => k_is); (case rf => rfl); (case sa => k_is); (case exC => k_is); (case tyC => k_is); (case kC => k_is); (case wh => k_is); (case ini => k_is); (case tI => k_is); (case ga => k_is); (case gg => k_is); (case hd => k_is); (case ha => k_is); (case hn => k_is); (case ht => k_is); (case hm => k_is); (case exR => k_is); (case hdR => k_is); (case tyR => k_is); (case sR => k_is)
    case k5 => refine' PL.ClsK.of ?ns ?xL ?rf ?sa ?exC ?tyC ?kC ?wh ?ini ?tI ?ga ?gg ?hd ?ha ?hn ?ht ?hm ?exR ?hdR ?tyR ?sR; (case ns => k_is); (case xL => k_is); (case rf => rfl); (case sa => k_is); (case exC => k_is); (case tyC => k_is); (case kC => k_is); (case wh => k_is); (case ini => k_is); (case tI => k_is); (case ga => k_is); (case gg => k_is); (case hd => k_is); (case ha => k_is); (case hn => k_is); (case ht => k_is); (case hm => k_is); (case exR => k_is); (case hdR => k_is); (case tyR => k_is); (case sR => k_is)
    case k6 => refine' PL.ClsK.of ?ns ?xL ?rf ?sa ?exC ?tyC ?kC ?wh ?ini ?tI ?ga ?gg ?hd ?ha ?hn ?ht ?hm ?exR ?hdR ?tyR ?sR; (case ns => k_is); (case xL => k_is); (case rf => rfl); (case sa => k_is); (case exC => k_is); (case tyC => k_is); (case kC => k_is); (case wh => k_is); (case ini => k_is); (case tI => k_is); (case ga => k_is); (case gg => k_is); (case hd => k_is); (case ha => k_is); (case hn => k_is); (case ht => k_is); (case hm => k_is); (case exR => k_is); (case hdR => k_is); (case tyR => k_is); (case sR => k_is)
    case k7 => refine' PL.ClsK.of ?ns ?xL ?rf ?sa ?exC ?tyC ?kC ?wh ?ini ?tI ?ga ?gg ?hd ?ha ?hn ?ht ?hm ?exR ?hdR ?tyR ?sR; (case ns => k_is); (case xL => k_is); (case rf => rfl); (case sa => k_is); (case exC => k_is); (case tyC => k_is); (case kC => k_is); (case wh => k_is); (case ini => k_is); (case tI => k_is); (case ga => k_is); (case gg => k_is); (case hd => k_is); (case ha => k_is); (case hn => k_is); (case ht => k_is); (case hm => k_is); (case exR => k_is); (case hdR => k_is); (case tyR => k_is); (case sR => k_is)
    case w2_3 => k_is
    case x2_3 => rfl
    case w2_5 => k_is
    case x2_5 => rfl
    case w2_6 => k_is
    case x2_6 => rfl
    case w2_4 => k_is
    case x2_4 => rfl
    case w2_7 => k_is
    case x2_7 => rfl
    case w3_5 => k_is
    case x3_5 => rfl
    case w3_6 => k_is
    case x3_6 => rfl
    case w3_2 => k_is
    case x3_2 => rfl
    case w3_4 => k_is
    case x3_4 => rfl
    case w3_7 => k_is
    case x3_7 => rfl
    case w4_3 => k_is
    case x4_3 => rfl
    case w4_5 => k_is
    case x4_5 => rfl
    case w4_6 => k_is
    case x4_6 => rfl
    case w4_2 => k_is
    case x4_2 => rfl
    case w4_7 => k_is
    case x4_7 => rfl
    case w5_3 => k_is
    case x5_3 => rfl
    case w5_6 => k_is
    case x5_6 => rfl
    case w5_2 => k_is
    case x5_2 => rfl
    case w5_4 => k_is
    case x5_4 => rfl
    case w5_7 => k_is
    case x5_7 => rfl
    case w6_3 => k_is
    case x6_3 => rfl
    case w6_5 => k_is
    case x6_5 => rfl
    case w6_2 => k_is
    case x6_2 => rfl
    case w6_4 => k_is
    case x6_4 => rfl
    case w6_7 => k_is
    case x6_7 => rfl
    case w7_3 => k_is
    case x7_3 => rfl
    case w7_5 => k_is
    case x7_5 => rfl
    case w7_6 => k_is
    case x7_6 => rfl
    case w7_2 => k_is
    case x7_2 => rfl
    case w7_4 => k_is
    case x7_4 => rfl
    case z_len => k_is
    case z_max => k_is
    case z_min => k_is
    case z_int => k_is
    case z_bool => k_is
    case z_str => k_is
    case z_abs => k_is
    case z_tuple => k_is
    case z_list => k_is
    case z_sorted => k_is
    case z_sum => k_is
    case z_any => k_is
    case z_all => k_is
    case z_isinstance => k_is
    case z_range => k_is
    case z_enumerate => k_is
    case z_zip => k_is
    case z_dict => k_is
    case z_set => k_is
    case z_ValueError => k_is
    case n_MOST_LINKS => k_is
    case n_MOST_PLACES => k_is
    case n_MOST_ROWS => k_is
    case ik => refine' PL.IniK.of ?l ?c; (case l => k_is); (case c => k_is)
