import PyProof.Rows.All
import Wide.All
import OpenK.AllK
import Wide.FinOn
import HandS.ForMost
import HandS.Deep
import HandS.DictComp
import HandS.Wide
import HandS.WideBits
import HandS.IsInst
import HandS.TupAny
import HandS.Style
import HandS.Flow
import KE.SortKeyHeap
import KE.KDictKeyed
import HandS.Iter
import HandS.SortKw
import HandS.Exc
import HandS.Keys
import HandS.Words
import HandS.EndBits
import PySem.Challenge.RW_broughtacross_k78_whole_versions
set_option Elab.async false
set_option linter.all false
set_option maxRecDepth 100000
namespace VE
open PySem PySem.Spec
                        PyProof.Rows L2

/-- data -/
abbrev D := PyData
/-- a world: the program, its world, the written part, where the defs stand -/
structure Wd where
  P : Program
  w : World
  K : PySem.W.Frag
  G : Nat → Addr → Prop

mutual
/-- a datum as a dict's key -/
def nkey : PyData → Option NestedKey
  | .none => some .none
  | .bool b => some (.num (if b = true then 1 else 0))
  | .int i => some (.num i)
  | .str x => some (.text x)
  | .tuple ds => match nkeys ds with
    | some ks => some (.tup ks)
    | none => none
  | .list _ => none
  | .dict _ => none
def nkeys : List PyData → Option (List NestedKey)
  | [] => some []
  | d :: ds => match nkey d, nkeys ds with
    | some k, some ks => some (k :: ks)
    | _, _ => none
end

/-- the entries of a dict with tuple keys -/
def EntP : List (NestedKey × Addr × V) → List (NestedKey × Addr × Value) → Prop :=
  Paired fun p q => p.1 = q.1 ∧ p.2.1 = q.2.1 ∧ RelV p.2.2 q.2.2
/-- a dict with tuple keys, as a tracked thing -/
def dHO (W : Wd) (a : Addr) (kvs : List (NestedKey × Addr × V)) : HO := .ext fun h =>
  kvs.length ≤ sizeLine ∧ (a == sysModules) = false ∧ ∃ xs, EntP kvs xs ∧ (xs.map (·.1)).Nodup ∧
    ∃ o es ep, h.get? a = some o ∧ o.ExactDict ∧ o.data = .dict es ep ∧ es.toList = xs.map (entryOfKey (nestedKind W.P W.w))

/-! ### frozen values -/
mutual
/-- the value v is the datum d; no list or dict of it stands in the set -/
inductive Den (W : Wd) (H : Hp) (Z : Addr → Prop) : V → PyData → Prop
  | non : Den W H Z .non .none
  | bl (b : Bool) : Den W H Z (.bl b) (.bool b)
  | int (i : Int) : Den W H Z (.int i) (.int i)
  | str (x : Str) : Den W H Z (.str x) (.str x)
  | lst {a : Addr} {xs : List V} {ds : List PyData} : H a = some (.lst xs) → ¬ Z a → DenL W H Z xs ds → Den W H Z (.ref a) (.list ds)
  | tup {a : Addr} {xs : List V} {ds : List PyData} : SqT W.K H a xs → DenL W H Z xs ds → Den W H Z (.ref a) (.tuple ds)
  | dic {a : Addr} {ks : List (NestedKey × Addr × V)} {kvs : List (PyData × PyData)} : H a = some (dHO W a ks) → ¬ Z a → DenKV W H Z ks kvs → Den W H Z (.ref a) (.dict kvs)
  | fnv {a : Addr} {n : Nat} : W.G n a → Den W H Z (.ref a) (.dict [(.none, .int n)])
inductive DenL (W : Wd) (H : Hp) (Z : Addr → Prop) : List V → List PyData → Prop
  | nil : DenL W H Z [] []
  | cons {v : V} {vs : List V} {d : PyData} {ds : List PyData} : Den W H Z v d → DenL W H Z vs ds → DenL W H Z (v :: vs) (d :: ds)
inductive DenKV (W : Wd) (H : Hp) (Z : Addr → Prop) : List (NestedKey × Addr × V) → List (PyData × PyData) → Prop
  | nil : DenKV W H Z [] []
  | cons {k : NestedKey} {b : Addr} {v : V} {ks : List (NestedKey × Addr × V)} {kd vd : PyData} {kvs : List (PyData × PyData)} :
      Den W H Z (.ref b) kd → nkey kd = some k → k.depth ≤ 8 → Den W H Z v vd → DenKV W H Z ks kvs → DenKV W H Z ((k, b, v) :: ks) ((kd, vd) :: kvs)
end

/-- from one heap to a later one: what is not in the set stands as it did; the new set has new things alone -/
structure Step (H : Hp) (Z : Addr → Prop) (H' : Hp) (Z' : Addr → Prop) : Prop where
  keep : ∀ a o, H a = some o → ¬ Z a → H' a = some o
  tups : ∀ a xs, Rd H a (.tup xs) → Rd H' a (.tup xs)
  news : ∀ a, Z' a → Z a ∨ H a = none
  dom : ∀ a, H' a = none → H a = none
  frz : ∀ a o u, H a = some (.frz o u) → H' a = some (.frz o u)

theorem Step.refl {H : Hp} {Z : Addr → Prop} : Step H Z H Z := ⟨fun _ _ h _ => h, fun _ _ h => h, fun _ h => .inl h, fun _ h => h, fun _ _ _ h => h⟩
theorem Step.trans {H H1 H2 : Hp} {Z Z1 Z2 : Addr → Prop} (a : Step H Z H1 Z1) (b : Step H1 Z1 H2 Z2) : Step H Z H2 Z2 where
  keep := fun c o h hz => b.keep c o (a.keep c o h hz) fun z => (a.news c z).elim hz fun e => by rw [h] at e; cases e
  tups := fun c xs h => b.tups c xs (a.tups c xs h)
  news := fun c h => (b.news c h).elim (fun z => a.news c z) fun e => .inr (a.dom c e)
  dom := fun c h => a.dom c (b.dom c h)
  frz := fun c o u h => b.frz c o u (a.frz c o u h)
/-- fewer own things behind -/
theorem Step.less {H H1 : Hp} {Z Z1 Z2 : Addr → Prop} (a : Step H Z H1 Z1) (h : ∀ x, Z2 x → Z1 x) : Step H Z H1 Z2 := ⟨a.keep, a.tups, fun c z => a.news c (h c z), a.dom, a.frz⟩
/-- others that are not touched -/
theorem Step.plus {H H1 : Hp} {Z Z1 : Addr → Prop} (a : Step H Z H1 Z1) (Y : Addr → Prop) : Step H (fun x => Z x ∨ Y x) H1 (fun x => Z1 x ∨ Y x) where
  keep := fun c o h hz => a.keep c o h fun z => hz (.inl z)
  tups := a.tups
  news := fun c h => h.elim (fun z => (a.news c z).imp .inl id) fun z => .inl (.inr z)
  dom := a.dom
  frz := a.frz
/-- a new thing -/
theorem Step.new {H : Hp} {Z : Addr → Prop} {p : Addr} {o : HO} (h : H p = none) : Step H Z (upd H p o) Z where
  keep := fun c u e _ => by rw [upd_ne (ne_of_none e h)]; exact e
  tups := fun c xs e => by
    rcases e with e | ⟨u, e⟩
    · exact .inl (by rw [upd_ne (ne_of_none e h)]; exact e)
    · exact .inr ⟨u, by rw [upd_ne (ne_of_none e h)]; exact e⟩
  news := fun _ h => .inl h
  dom := fun c e => by
    by_cases hc : c = p
    · rw [hc]; exact h
    · rw [upd_ne hc] at e; exact e
  frz := fun c o u e => by rw [upd_ne (ne_of_none e h)]; exact e

section
variable {W : Wd} {H H' : Hp} {Z Z' : Addr → Prop}

theorem SqT.step {K : PySem.W.Frag} (t : ∀ a xs, Rd H a (.tup xs) → Rd H' a (.tup xs)) {a : Addr} {xs : List V} (h : SqT K H a xs) : SqT K H' a xs := h.imp (t a xs) id

mutual
theorem Den.step (s : Step H Z H' Z') : ∀ {v : V} {d : PyData}, Den W H Z v d → Den W H' Z' v d
  | _, _, .non => .non
  | _, _, .bl b => .bl b
  | _, _, .int i => .int i
  | _, _, .str x => .str x
  | _, _, .lst h hz hl => .lst (s.keep _ _ h hz) (fun z => (s.news _ z).elim hz fun e => by rw [h] at e; cases e) (DenL.step s hl)
  | _, _, .tup h hl => .tup (SqT.step s.tups h) (DenL.step s hl)
  | _, _, .dic h hz hl => .dic (s.keep _ _ h hz) (fun z => (s.news _ z).elim hz fun e => by rw [h] at e; cases e) (DenKV.step s hl)
  | _, _, .fnv h => .fnv h
theorem DenL.step (s : Step H Z H' Z') : ∀ {vs : List V} {ds : List PyData}, DenL W H Z vs ds → DenL W H' Z' vs ds
  | _, _, .nil => .nil
  | _, _, .cons h t => .cons (Den.step s h) (DenL.step s t)
theorem DenKV.step (s : Step H Z H' Z') : ∀ {ks : List (NestedKey × Addr × V)} {kvs : List (PyData × PyData)}, DenKV W H Z ks kvs → DenKV W H' Z' ks kvs
  | _, _, .nil => .nil
  | _, _, .cons h e q v t => .cons (Den.step s h) e q (Den.step s v) (DenKV.step s t)
end

theorem Den.less (h : ∀ a, Z' a → Z a) {v : V} {d : PyData} (x : Den W H Z v d) : Den W H Z' v d :=
  x.step ⟨fun _ _ e _ => e, fun _ _ e => e, fun a z => .inl (h a z), fun _ e => e, fun _ _ _ e => e⟩
theorem DenL.less (h : ∀ a, Z' a → Z a) {v : List V} {d : List PyData} (x : DenL W H Z v d) : DenL W H Z' v d :=
  x.step ⟨fun _ _ e _ => e, fun _ _ e => e, fun a z => .inl (h a z), fun _ e => e, fun _ _ _ e => e⟩

theorem DenL.length : ∀ {vs : List V} {ds : List PyData}, DenL W H Z vs ds → vs.length = ds.length
  | _, _, .nil => rfl
  | _, _, .cons _ t => by rw [List.length_cons, List.length_cons, t.length]
theorem DenL.get : ∀ {vs : List V} {ds : List PyData} {i : Nat} {d : PyData}, DenL W H Z vs ds → ds[i]? = some d → ∃ v, vs[i]? = some v ∧ Den W H Z v d
  | _, _, _, _, .nil,
                          e => by simp at e
  | _, _, 0, _, .cons h _, e => by simp at e; subst e; exact ⟨_, rfl, h⟩
  | _, _, i + 1, _, .cons _ t, e => by
    obtain ⟨v, h1, h2⟩ := DenL.get (i := i) t (by simpa using e)
    exact ⟨v, by simpa using h1, h2⟩
theorem DenL.getV : ∀ {vs : List V} {ds : List PyData} {i : Nat} {v : V}, DenL W H Z vs ds → vs[i]? = some v → ∃ d, ds[i]? = some d ∧ Den W H Z v d
  | _, _, _, _, .nil,
                          e => by simp at e
  | _, _, 0, _, .cons h _, e => by simp at e; subst e; exact ⟨_, rfl, h⟩
  | _, _, i + 1, _, .cons _ t, e => by
    obtain ⟨v, h1, h2⟩ := DenL.getV (i := i) t (by simpa using e)
    exact ⟨v, by simpa using h1, h2⟩
theorem DenL.append : ∀ {vs us : List V} {ds es : List PyData}, DenL W H Z vs ds → DenL W H Z us es → DenL W H Z (vs ++ us) (ds ++ es)
  | _, _, _, _, .nil, t => t
  | _, _, _, _, .cons h t, u => .cons h (DenL.append t u)
theorem DenL.take : ∀ {vs : List V} {ds : List PyData} (n : Nat), DenL W H Z vs ds → DenL W H Z (vs.take n) (ds.take n)
  | _, _, 0, _ => .nil
  | _, _, _ + 1, .nil => .nil
  | _, _, n + 1, .cons h t => .cons h (DenL.take n t)
theorem DenL.drop : ∀ {vs : List V} {ds : List PyData} (n : Nat), DenL W H Z vs ds → DenL W H Z (vs.drop n) (ds.drop n)
  | _, _, 0, h => h
  | _, _, _ + 1, .nil => .nil
  | _, _, n + 1, .cons _ t => DenL.drop n t
theorem DenL.set : ∀ {vs : List V} {ds : List PyData} {v : V} {d : PyData} (n : Nat), DenL W H Z vs ds → Den W H Z v d → DenL W H Z (vs.set n v) (ds.set n d)
  | _, _, _, _, _, .nil, _ => .nil
  | _, _, _, _, 0, .cons _ t, h => .cons h t
  | _, _, _, _, n + 1, .cons g t, h => .cons g (DenL.set n t h)
theorem DenL.reverse {vs : List V} {ds : List PyData} (h : DenL W H Z vs ds) : DenL W H Z vs.reverse ds.reverse := by
  induction ds generalizing vs with
  | nil => cases h; exact .nil
  | cons d ds ih =>
    cases h with
    | cons a t =>
      rw [List.reverse_cons,
                              List.reverse_cons]
      exact (ih t).append (.cons a .nil)
theorem DenL.eraseIdx : ∀ {vs : List V} {ds : List PyData} (n : Nat), DenL W H Z vs ds → DenL W H Z (vs.eraseIdx n) (ds.eraseIdx n)
  | _, _, _, .nil => .nil
  | _, _, 0, .cons _ t => t
  | _, _, n + 1, .cons g t => .cons g (DenL.eraseIdx n t)

mutual
/-- as HandS.List tells data (without dicts) -/
theorem Den.dp : ∀ (d : PyData) {v : V}, Den W H Z v d → SeqAt.shaped d = true ∨ True → PyData.canLay0 d = true → Dp W.K H v d
  | .none, _, h, _, _ => by cases h; exact .non
  | .bool _, _, h, _, _ => by cases h; exact .bl _
  | .int _, _, h, _, _ => by cases h; exact .int _
  | .str _, _, h, _, _ => by cases h; exact .str _
  | .list ds, _, h, _, c => by
    cases h with
    | lst e _ l => exact .lst (.inl (.inl e)) (DenL.dp ds l (by simpa [PyData.canLay0] using c))
  | .tuple ds, _, h, _, c => by
    cases h with
    | tup e l => exact .tup e (DenL.dp ds l (by simpa [PyData.canLay0] using c))
  | .dict _, _, h, _, c => by simp [PyData.canLay0] at c
theorem DenL.dp : ∀ (ds : List PyData) {vs : List V}, DenL W H Z vs ds → PyData.canLayAll0 ds = true → DpAll W.K H vs ds
  | [], _, h, _ => by cases h; exact .nil
  | d :: ds, _, h, c => by
    have c' : PyData.canLay0 d = true ∧ PyData.canLayAll0 ds = true := by simpa [PyData.canLayAll0] using c
    cases h with
    | cons a t => exact .cons (Den.dp d a (.inr trivial) c'.1) (DenL.dp ds t c'.2)
end
end
end VE
namespace VE
open PySem PySem.Spec
        PyProof.Rows L2
abbrev St := L2.St

/-- what a name owns: nothing else reaches it -/
inductive O where
  | lst (ds : List D)
  | dic (kvs : List (D × D))
  | dil (kvs : List (D × List D))
/-- a slot -/
inductive Sl where
  | no | val (d : D) | own (o : O) (pin : Bool) | lent (ds : List D) | scr (ds : List Int)
abbrev Env := List Sl

/-- a dict's values that are lists of its own, at bs -/
inductive DenKL (W : Wd) (H : Hp) (Z : Addr → Prop) : List (NestedKey × Addr × V) → List (D × List D) → List Addr → Prop
  | nil : DenKL W H Z [] [] []
  | cons {k : NestedKey} {b c : Addr} {xs : List V} {ks : List (NestedKey × Addr × V)} {kd : D} {ds : List D} {kvs : List (D × List D)} {bs : List Addr} :
      Den W H Z (.ref b) kd → nkey kd = some k → k.depth ≤ 8 → H c = some (.lst xs) → DenL W H Z xs ds → DenKL W H Z ks kvs bs → DenKL W H Z ((k, b, .ref c) :: ks) ((kd, ds) :: kvs) (c :: bs)

/-- the owned thing at a, made of the things at fp -/
def OwnAt (W : Wd) (H : Hp) (Z : Addr → Prop) (fp : List Addr) (a : Addr) : O → Prop
  | .lst ds => fp = [a] ∧ ∃ xs, H a = some (.lst xs) ∧ DenL W H Z xs ds
  | .dic kvs => fp = [a] ∧ ∃ ks, H a = some (dHO W a ks) ∧ DenKV W H Z ks kvs
  | .dil kvs => ∃ ks bs, fp = a :: bs ∧ fp.Nodup ∧ H a = some (dHO W a ks) ∧ DenKL W H Z ks kvs bs

/-- a run: the world; the things that others own, those of them that are lent; what stood at the entry; the slots that keep their address -/
structure RC where
  W : Wd
  Z : Addr → Prop
  L : Addr → Prop
  B : Addr → Prop
  G : Nat → List Addr
  pins : List (Nat × Addr)
  lents : List (Nat × List D)
  lz : ∀ a, L a → Z a
def RC.more (C : RC) (fp : List Addr) : RC := { C with Z := fun a => C.Z a ∨ a ∈ fp, lz := fun a h => .inl (C.lz a h) }

/-- all that is owned -/
def Om (F : Nat → List Addr) : Addr → Prop := fun a => ∃ i, a ∈ F i
def Th (F : Nat → List Addr) (Z : Addr → Prop) : Addr → Prop := fun a => Om F a ∨ Z a

def SlAt (W : Wd) (H : Hp) (T Z : Addr → Prop) (fp : List Addr) (x : Option (Option V)) : Sl → Prop
  | .no => fp = []
  | .val d => fp = [] ∧ ∃ v, x = some (some v) ∧ Den W H T v d
  | .own o _ => ∃ a, x = some (some (.ref a)) ∧ OwnAt W H T fp a o
  | .lent ds => ∃ a xs, x = some (some (.ref a)) ∧ (fp = [a] ∨ (fp = [] ∧ Z a)) ∧ H a = some (.lst xs) ∧ DenL W H T xs ds
  | .scr ns => fp = [] ∧ ∃ a, x = some (some (.ref a)) ∧ ((∃ o, H a = some (.frz o (.lst (ns.map V.int)))) ∨ SqL W.K (fun _ => none) a (ns.map V.int))

/-- a slot whose address is kept; a slot that may be bound anew -/
def PinSl : Option Sl → Prop
  | some (.own _ true) => True
  | some (.lent _) => True
  | _ => False
def FreeSl : Option Sl → Prop
  | some .no => True
  | some (.val _) => True
  | some (.own _ false) => True
  | _ => False
theorem FreeSl.nopin {s : Option Sl} (h : FreeSl s) : ¬ PinSl s := by
  rcases s with _ | s
  · exact id
  · cases s with
    | no => exact id
    | val d => exact id
    | lent ds => exact fun _ => h
    | scr ns => exact id
    | own o p => cases p with
      | false => exact id
      | true => exact fun _ => h
theorem FreeSl.nolent {s : Option Sl} (h : FreeSl s) : ∀ ds, s ≠ some (.lent ds) := by
  rintro ds rfl
  exact h
theorem FreeSl.lt {env : List Sl} {i : Nat} (h : FreeSl env[i]?) : i < env.length := by
  cases q : env[i]? with
  | none => rw [q] at h; exact h.elim
  | some s => exact (List.getElem?_eq_some_iff.mp q).1
/-- the slots are as the environment says -/
structure Rel (C : RC) (H : Hp) (σ : VE.St) (env : Env) (F : Nat → List Addr) : Prop where
  len : σ.length = env.length
  sl : ∀ i s, env[i]? = some s → SlAt C.W H (Th F C.Z) C.L (F i) σ[i]? s
  far : ∀ i j a, a ∈ F i → a ∈ F j → i = j
  apart : ∀ i a, a ∈ F i → ¬ C.Z a
  zin : ∀ a, C.Z a → H a ≠ none
  bin : ∀ a, C.B a → H a ≠ none
  out : ∀ i, env.length ≤ i → F i = []
  pin : ∀ p ∈ C.pins, σ[p.1]? = some (some (.ref p.2)) ∧ PinSl env[p.1]?
  young : ∀ i a, a ∈ F i → C.B a → a ∈ C.G i
  ln : ∀ p ∈ C.lents, env[p.1]? = some (.lent p.2)

section
variable {W : Wd} {H H' : Hp} {Z Z' : Addr → Prop} {C : RC} {σ σ' : VE.St} {env env' : Env} {F F' : Nat → List Addr}

theorem DenKL.step (s : Step H Z H' Z') : ∀ {ks : List (NestedKey × Addr × V)} {kvs : List (D × List D)} {bs : List Addr}, (∀ b ∈ bs, ∀ o, H b = some o → H' b = some o) → DenKL W H Z ks kvs bs → DenKL W H' Z' ks kvs bs
  | _, _, _, _, .nil => .nil
  | _, _, _, k, .cons a e q c l t => .cons (a.step s) e q (k _ List.mem_cons_self _ c) (l.step s) (DenKL.step s (fun b hb => k b (List.mem_cons_of_mem _ hb)) t)
theorem DenKL.dom {ks : List (NestedKey × Addr × V)} {kvs : List (D × List D)} {bs : List Addr} (h : DenKL W H Z ks kvs bs) : ∀ b ∈ bs, ∃ xs, H b = some (.lst xs) := by
  induction h with
  | nil => intro b hb; cases hb
  | cons _ _ _ c _ _ ih =>
    intro b hb
    rcases List.mem_cons.mp
            hb with e | hb
    · rw [e]; exact ⟨_, c⟩
    · exact ih b hb
theorem OwnAt.at {fp : List Addr} {a : Addr} {o : O} (h : OwnAt W H Z fp a o) : a ∈ fp := by
  cases o with
  | lst ds => rw [h.1]; exact List.mem_cons_self
  | dic ds => rw [h.1]; exact List.mem_cons_self
  | dil ds => obtain ⟨_, _, e, _⟩ := h; rw [e]; exact List.mem_cons_self
theorem OwnAt.dom {fp : List Addr} {a : Addr} {o : O} (h : OwnAt W H Z fp a o) : ∀ b ∈ fp, H b ≠ none := by
  intro b hb
  cases o with
  | lst ds =>
    obtain ⟨e, xs, q, _⟩ := h
    rw [e] at hb
    rw [List.mem_singleton.mp hb, q]; exact nofun
  | dic ds =>
    obtain ⟨e, xs, q, _⟩ := h
    rw [e] at hb
    rw [List.mem_singleton.mp hb, q]; exact nofun
  | dil ds =>
    obtain ⟨ks, bs, e, _, q, l⟩ := h
    rw [e] at hb
    rcases List.mem_cons.mp
            hb with z | hb
    · rw [z, q]; exact nofun
    · obtain ⟨xs, z⟩ := l.dom b hb
      rw [z]; exact nofun
theorem OwnAt.step {fp : List Addr} {a : Addr} {o : O} (s : Step H Z H' Z') (k : ∀ b ∈ fp, ∀ u, H b = some u → H' b = some u) (h : OwnAt W H Z fp a o) : OwnAt W H' Z' fp a o := by
  have ha := h.at
  cases o with
  | lst ds =>
    obtain ⟨e, xs, q, l⟩ := h
    exact ⟨e, xs, k a ha _ q, l.step s⟩
  | dic ds =>
    obtain ⟨e, xs, q, l⟩ := h
    exact ⟨e, xs, k a ha _ q, l.step s⟩
  | dil ds =>
    obtain ⟨ks, bs, e, n, q, l⟩ := h
    exact ⟨ks, bs, e, n, k a ha _ q, l.step s fun b hb => k b (by rw [e]; exact List.mem_cons_of_mem _ hb)⟩
/-- the frozen datum of an owned thing -/
def O.fr : O → D
  | .lst ds => .list ds
  | .dic kvs => .dict kvs
  | .dil kvs => .dict (kvs.map fun p => (p.1, .list p.2))
theorem DenKL.fr {ks : List (NestedKey × Addr × V)} {kvs : List (D × List D)} {bs : List Addr} (h : DenKL W H Z ks kvs bs) : (∀ b ∈ bs, ¬ Z b) → DenKV W H Z ks (kvs.map fun p => (p.1, .list p.2)) := by
  induction h with
  | nil => intro _; exact .nil
  | cons a e q c l _ ih => intro k; exact .cons a e q (.lst c (k _ List.mem_cons_self) l) (ih fun b hb => k b (List.mem_cons_of_mem _ hb))
theorem OwnAt.fr {fp : List Addr} {a : Addr} {o : O} (h : OwnAt W H Z fp a o) (hl : ∀ x, Z' x → Z x) (hz : ∀ b ∈ fp, ¬ Z' b) : Den W H Z' (.ref a) o.fr := by
  have s : Step H Z H Z' := ⟨fun _ _ e _ => e, fun _ _ e => e, fun a z => .inl (hl a z), fun _ e => e, fun _ _ _ e => e⟩
  have h' := h.step s fun _ _ _ e => e
  have ha := hz a h.at
  cases o with
  | lst ds => exact .lst h'.2.choose_spec.1 ha h'.2.choose_spec.2
  | dic ds => exact .dic h'.2.choose_spec.1 ha h'.2.choose_spec.2
  | dil ds =>
    obtain ⟨ks, bs, e, _, q, l⟩ := h'
    exact .dic q ha (l.fr fun b hb => hz b (by rw [e]; exact List.mem_cons_of_mem _ hb))

theorem Rel.dom (R : Rel C H σ env F) {i : Nat} {a : Addr} (h : a ∈ F i) : H a ≠ none := by
  cases e : env[i]? with
  | none =>
    rw [R.out i (List.getElem?_eq_none_iff.mp e)] at h; cases h
  | some s =>
    have q := R.sl i s e
    cases s with
    | no => rw [show F i = [] from q] at h; cases h
    | val d => rw [q.1] at h; cases h
    | own o p => obtain ⟨b, _, o⟩ := q; exact o.dom a h
    | lent ds =>
      obtain ⟨b, xs, _, f, hb, _⟩ := q
      rcases f with f | ⟨f, _⟩
      · rw [f] at h; rw [List.mem_singleton.mp h, hb]; exact nofun
      · rw [f] at h; cases h
    | scr ds => rw [q.1] at h; cases h
theorem Rel.thdom (R : Rel C H σ env F) {a : Addr} (h : Th F C.Z a) : H a ≠ none := h.elim (fun ⟨i, z⟩ => R.dom z) (R.zin a)

/-- a slot's state goes along where its own things stand as before -/
theorem SlAt.step {T T' : Addr → Prop} {fp : List Addr} {x : Option (Option V)} {s : Sl} (st : Step H T H' T') (k : ∀ b ∈ fp, ∀ u, H b = some u → H' b = some u) (kz : ∀ b, Z b → ∀ u, H b = some u → H' b = some u)
    (hz : ∀ b, Z b → Z' b) (h : SlAt W H T Z fp x s) : SlAt W H' T' Z' fp x s := by
  cases s with
  | no => exact h
  | val d => obtain ⟨e, v, q, r⟩ := h; exact ⟨e, v, q, r.step st⟩
  | own o p => obtain ⟨a, q, r⟩ := h; exact ⟨a, q, r.step st k⟩
  | lent ds =>
    obtain ⟨a, xs, q, f, ha, l⟩ := h
    refine ⟨a, xs, q, f.imp id fun z => ⟨z.1, hz _ z.2⟩, ?_, l.step st⟩
    rcases f with f | f
    · exact k a (by rw [f]; exact List.mem_cons_self) _ ha
    · exact kz a f.2 _ ha
  | scr ns =>
    obtain ⟨e, a, q, r⟩ := h
    refine ⟨e, a, q, ?_⟩
    rcases r with ⟨o, r⟩ | r
    · exact .inl ⟨o, st.frz _ _ _ r⟩
    · exact .inr r

def upF (F : Nat → List Addr) (i : Nat) (fp : List Addr) : Nat → List Addr := fun j => if j = i then fp else F j
theorem upF_same {i : Nat} {fp : List Addr} : upF F i fp i = fp := if_pos rfl
theorem upF_ne {i j : Nat} {fp : List Addr} (h : j ≠ i) : upF F i fp j = F j := if_neg h
theorem om_upF {i : Nat} {fp : List Addr} {a : Addr} (h : Om (upF F i fp) a) : a ∈ fp ∨ ∃ j, j ≠ i ∧ a ∈ F j := by
  obtain ⟨j, h⟩ := h
  by_cases e : j = i
  · rw [e, upF_same] at h; exact .inl h
  · rw [upF_ne e] at h; exact .inr ⟨j, e, h⟩
theorem om_upF_nil {i : Nat} {a : Addr} (h : Om (upF F i []) a) : Om F a := by
  rcases om_upF h with h | ⟨j, _, h⟩
  · cases h
  · exact ⟨j, h⟩

/-- one slot is changed, and its own things alone -/
theorem Rel.put (R : Rel C H σ env F) {i : Nat} {fp : List Addr} {x : Option V} {s : Sl} (hi : i < env.length) (hn : ∀ ds, env[i]? ≠ some (.lent ds))
    (keep : ∀ a o, H a = some o → a ∉ F i → H' a = some o) (tups : ∀ a xs, Rd H a (.tup xs) → Rd H' a (.tup xs)) (frz : ∀ a o u, H a = some (.frz o u) → H' a = some (.frz o u)) (dom : ∀ a, H' a = none → H a = none)
    (hfp : ∀ b ∈ fp, b ∈ F i ∨ H b = none) (hs : SlAt C.W H' (Th (upF F i fp) C.Z) C.L fp (some x) s) (hp : ∀ p ∈ C.pins, p.1 = i → x = some (.ref p.2) ∧ PinSl (some s)) :
    Rel C H' (σ.set i x) (env.set i s) (upF F i fp) ∧ Step H (Om F) H' (Om (upF F i fp)) := by
  have hiσ : i < σ.length := by rw [R.len]; exact hi
  have st : Step H (Om F) H' (Om (upF F i fp)) := ⟨fun a o e n => keep a o e fun z => n ⟨i, z⟩, tups, fun a h => by
    rcases om_upF h with h | ⟨j, _, h⟩
    · exact (hfp a h).imp (fun z => ⟨i, z⟩) id
    · exact .inl ⟨j, h⟩, dom, frz⟩
  have stT : Step H (Th F C.Z) H' (Th (upF F i fp) C.Z) := st.plus C.Z
  have new_out : ∀ b ∈ fp, ∀ j, j ≠ i → b ∉ F j := fun b hb j hj z => by
    rcases hfp b hb with q | q
    · exact hj (R.far j i b z q)
    · exact R.dom z q
  refine ⟨⟨by simp [R.len], fun j t e => ?_, fun j k a h1 h2 => ?_, fun j a h z => ?_, fun a z e => R.zin a z (dom a e), fun a z e => R.bin a z (dom a e), fun j hj => ?_, fun p hp' => ?_, fun j a h hj => ?_, fun p hp' => ?_⟩, st⟩
  · by_cases hj : j = i
    · subst hj
      rw [List.getElem?_set_self hi] at e
      cases e
      rw [List.getElem?_set_self hiσ, upF_same]
      exact hs
    · rw [List.getElem?_set_ne (Ne.symm hj)] at e
      rw [List.getElem?_set_ne (Ne.symm hj), upF_ne hj]
      refine SlAt.step stT (fun b hb u hu => keep b u hu fun z => hj (R.far j i b hb z)) (fun b hb u hu => keep b u hu fun z => R.apart i b z (C.lz b hb)) (fun _ z => z) (R.sl j t e)
  · by_cases e1 : j = i
    · by_cases e2 : k = i
      · rw [e1, e2]
      · rw [e1, upF_same] at h1
        rw [upF_ne e2] at h2
        exact absurd h2 (new_out a h1 k e2)
    · by_cases e2 : k = i
      · rw [upF_ne e1] at h1
        rw [e2, upF_same] at h2
        exact absurd h1 (new_out a h2 j e1)
      · rw [upF_ne e1] at h1
        rw [upF_ne e2] at h2
        exact R.far j k a h1 h2
  · by_cases e1 : j = i
    · rw [e1, upF_same] at h
      rcases hfp a h with q | q
      · exact R.apart i a q z
      · exact R.zin a z q
    · rw [upF_ne e1] at h
      exact R.apart j a h z
  · have hj' : env.length ≤ j := by simpa using hj
    have : j ≠ i := by omega
    rw [upF_ne this]
    exact R.out j hj'
  · by_cases e1 : p.1 = i
    · rw [e1, List.getElem?_set_self hiσ, List.getElem?_set_self hi]
      exact ⟨by rw [(hp p hp' e1).1], (hp p hp' e1).2⟩
    · rw [List.getElem?_set_ne (Ne.symm e1), List.getElem?_set_ne (Ne.symm e1)]
      exact R.pin p hp'
  · by_cases e1 : j = i
    · rw [e1, upF_same] at h
      rcases hfp a h with q | q
      · rw [e1]; exact R.young i a q hj
      · exact absurd q (R.bin a hj)
    · rw [upF_ne e1] at h
      exact R.young j a h hj
  · have e1 : p.1 ≠ i := by
      intro e1
      have := R.ln p hp'
      rw [e1] at this
      exact hn _ this
    rw [List.getElem?_set_ne (Ne.symm e1)]
    exact R.ln p hp'

/-- all stands as before, more beside -/
theorem Step.same (k : Same H H') : Step H Z H' Z := ⟨fun a o e _ => k a o e, fun a xs e => e.imp (k _ _) fun ⟨o, e⟩ => ⟨o, k _ _ e⟩, fun _ h => .inl h, fun a e => k.free e, fun a o u e => k _ _ e⟩
/-- .. where new things come that others own -/
theorem Rel.grow (R : Rel C H σ env F) (k : Same H H') {fp : List Addr} (hn : ∀ b ∈ fp, H b = none) (hd : ∀ b ∈ fp, H' b ≠ none) : Rel (C.more fp) H' σ env F := by
  have st : Step H (Th F C.Z) H' (Th F (C.more fp).Z) := ⟨fun a o e _ => k a o e, (Step.same (Z := C.Z) k).tups, fun a h => by
    rcases h with h | h | h
    · exact .inl (.inl h)
    · exact .inl (.inr h)
    · exact .inr (hn a h), fun a e => k.free e, fun a o u e => k _ _ e⟩
  refine ⟨R.len, fun j t e => SlAt.step st (fun b _ u hu => k b u hu) (fun b _ u hu => k b u hu) (fun _ z => z) (R.sl j t e), R.far, fun j a h z => ?_, fun a z e => ?_, fun a z e => R.bin a z (k.free e), R.out, R.pin, R.young, R.ln⟩
  · rcases z with z | z
    · exact R.apart j a h z
    · exact R.dom h (hn a z)
  · rcases z with z | z
    · exact R.zin a z (k.free e)
    · exact hd a z e
theorem Rel.same (R : Rel C H σ env F) (k : Same H H') : Rel C H' σ env F := by
  have st : Step H (Th F C.Z) H' (Th F C.Z) := Step.same k
  exact ⟨R.len, fun j t e => SlAt.step st (fun b _ u hu => k b u hu) (fun b _ u hu => k b u hu) (fun _ z => z) (R.sl j t e), R.far, R.apart, fun a z e => R.zin a z (k.free e), fun a z e => R.bin a z (k.free e), R.out, R.pin, R.young, R.ln⟩
theorem th_more {fp : List Addr} {a : Addr} (h : Th F C.Z a) : Th F (C.more fp).Z a := h.imp id .inl
/-- what was new is frozen -/
theorem Rel.drop {fp : List Addr} (R : Rel (C.more fp) H σ env F) : Rel C H σ env F := by
  have st : Step H (Th F (C.more fp).Z) H (Th F C.Z) := ⟨fun _ _ e _ => e, fun _ _ e => e, fun a h => .inl (th_more h), fun _ e => e, fun _ _ _ e => e⟩
  exact ⟨R.len, fun j t e => SlAt.step st (fun b _ u hu => hu) (fun b _ u hu => hu) (fun _ z => z) (R.sl j t e), R.far, fun j a h z => R.apart j a h (.inl z), fun a z => R.zin a (.inl z), R.bin, R.out, R.pin, R.young, R.ln⟩

/-- a slot is bound to a frozen value -/
theorem Rel.setVal (R : Rel C H σ env F) {i : Nat} {v : V} {d : D} (hf : FreeSl env[i]?) (hd : Den C.W H (Th F C.Z) v d) :
    Rel C H (σ.set i (some v)) (env.set i (.val d)) (upF F i []) ∧ Step H (Om F) H (Om (upF F i [])) :=
  R.put hf.lt hf.nolent (fun _ _ e _ => e) (fun _ _ e => e) (fun _ _ _ e => e) (fun _ e => e) (fun _ h => by cases h)
    ⟨rfl, v, rfl, hd.less fun a h => h.imp om_upF_nil id⟩ fun p hp' e => absurd (e ▸ (R.pin p hp').2) hf.nopin
/-- a slot is forgotten -/
theorem Rel.setNo (R : Rel C H σ env F) {i : Nat} {x : Option V} (hf : FreeSl env[i]?) :
    Rel C H (σ.set i x) (env.set i .no) (upF F i []) ∧ Step H (Om F) H (Om (upF F i [])) :=
  R.put hf.lt hf.nolent (fun _ _ e _ => e) (fun _ _ e => e) (fun _ _ _ e => e) (fun _ e => e) (fun _ h => by cases h) rfl fun p hp' e => absurd (e ▸ (R.pin p hp').2) hf.nopin
/-- a slot is bound to what is new -/
theorem Rel.setOwn {fp : List Addr} {a : Addr} {o : O} {i : Nat} (R : Rel (C.more fp) H σ env F) (hf : FreeSl env[i]?) (ho : OwnAt C.W H (Th F (C.more fp).Z) fp a o) (hz : ∀ b ∈ fp, ¬ C.Z b ∧ ¬ C.B b) :
    Rel C H (σ.set i (some (.ref a))) (env.set i (.own o false)) (upF F i fp) := by
  have hi := hf.lt
  have hn := hf.nolent
  have hp : ∀ p ∈ C.pins, p.1 ≠ i := fun p hp' e => (e ▸ hf).nopin (R.pin p hp').2
  have hiσ : i < σ.length := by rw [R.len]; exact hi
  have st : Step H (Th F (C.more fp).Z) H (Th (upF F i fp) C.Z) := ⟨fun _ _ e _ => e, fun _ _ e => e, fun a h => by
    rcases h with h | h
    · rcases om_upF h with h | ⟨j, _, h⟩
      · exact .inl (.inr (.inr h))
      · exact .inl (.inl ⟨j, h⟩)
    · exact .inl (.inr (.inl h)), fun _ e => e, fun _ _ _ e => e⟩
  have no : ∀ b ∈ fp, ∀ j, b ∉ F j := fun b hb j z => R.apart j b z (.inr hb)
  refine ⟨by simpa using R.len, fun j t e => ?_, fun j k a h1 h2 => ?_, fun j a h z => ?_, fun a z => R.zin a (.inl z), R.bin, fun j hj => ?_, fun p hp' => ?_, fun j a h hj => ?_, fun p hp' => ?_⟩
  · by_cases hj : j = i
    · subst hj
      rw [List.getElem?_set_self hi] at e
      cases e
      rw [List.getElem?_set_self hiσ, upF_same]
      exact ⟨a, rfl, ho.step st fun _ _ _ e => e⟩
    · rw [List.getElem?_set_ne (Ne.symm hj)] at e
      rw [List.getElem?_set_ne (Ne.symm hj), upF_ne hj]
      exact SlAt.step st (fun b hb u hu => hu) (fun b hb u hu => hu) (fun _ z => z) (R.sl j t e)
  · by_cases e1 : j = i
    · by_cases e2 : k = i
      · rw [e1, e2]
      · rw [e1, upF_same] at h1
        rw [upF_ne e2] at h2
        exact absurd h2 (no a h1 k)
    · by_cases e2 : k = i
      · rw [upF_ne e1] at h1
        rw [e2, upF_same] at h2
        exact absurd h1 (no a h2 j)
      · rw [upF_ne e1] at h1
        rw [upF_ne e2] at h2
        exact R.far j k a h1 h2
  · by_cases e1 : j = i
    · rw [e1, upF_same] at h
      exact (hz a h).1 z
    · rw [upF_ne e1] at h
      exact R.apart j a h (.inl z)
  · have hj' : env.length ≤ j := by simpa using hj
    have : j ≠ i := by omega
    rw [upF_ne this]
    exact R.out j hj'
  · have e1 := hp p hp'
    rw [List.getElem?_set_ne (Ne.symm e1), List.getElem?_set_ne (Ne.symm e1)]
    exact R.pin p hp'
  · by_cases e1 : j = i
    · rw [e1, upF_same] at h
      exact absurd hj (hz a h).2
    · rw [upF_ne e1] at h
      exact R.young j a h hj
  · have e1 : p.1 ≠ i := by
      intro e1
      have := R.ln p hp'
      rw [e1] at this
      exact hn _ this
    rw [List.getElem?_set_ne (Ne.symm e1)]
    exact R.ln p hp'
/-- what a slot owns is frozen -/
theorem Rel.freeze (R : Rel C H σ env F) {i : Nat} {o : O} (he : env[i]? = some (.own o false)) :
    Rel C H σ (env.set i (.val o.fr)) (upF F i []) ∧ Step H (Om F) H (Om (upF F i [])) := by
  obtain ⟨hi, _⟩ := List.getElem?_eq_some_iff.mp he
  have hf : FreeSl env[i]? := by rw [he]; trivial
  obtain ⟨a, ex, ho⟩ := R.sl i _ he
  have hd : Den C.W H (Th (upF F i []) C.Z) (.ref a) o.fr := ho.fr (fun x h => h.imp om_upF_nil id) fun b hb h => by
    rcases h with h | h
    · rcases om_upF h with h | ⟨j, hj, h⟩
      · cases h
      · exact hj (R.far j i b h hb)
    · exact R.apart i b hb h
  have q := R.put (H' := H) (x := some (.ref a)) (fp := []) (s := .val o.fr) hi (fun ds e => by rw [he] at e; cases e) (fun _ _ e _ => e) (fun _ _ e => e) (fun _ _ _ e => e) (fun _ e => e) (fun _ h => by cases h) ⟨rfl, _, rfl, hd⟩ fun p hp' e => absurd (e ▸ (R.pin p hp').2) hf.nopin
  have es : σ.set i (some (.ref a)) = σ := by
    obtain ⟨h1, h2⟩ := List.getElem?_eq_some_iff.mp ex
    rw [← h2]; exact List.set_getElem_self h1
  rw [es] at q
  exact q
/-- a thing of others is written -/
theorem Rel.poke (R : Rel C H σ env F) {a : Addr} {o u : HO} (hz : C.Z a) (hl : ¬ C.L a) (ho : H a = some o) (ht : ∀ xs, o ≠ .tup xs) (hf : ∀ q v, o ≠ .frz q v) : Rel C (upd H a u) σ env F := by
  have st : Step H (Th F C.Z) (upd H a u) (Th F C.Z) := ⟨fun b v e n => by
    have : b ≠ a := by rintro rfl; exact n (.inr hz)
    rw [upd_ne this]; exact e, fun b xs e => by
      rcases e with e | ⟨q, e⟩
      · have : b ≠ a := by rintro rfl; rw [ho] at e; exact ht xs (Option.some.inj e)
        exact .inl (by rw [upd_ne this]; exact e)
      · have : b ≠ a := by rintro rfl; rw [ho] at e; exact hf _ _ (Option.some.inj e)
        exact .inr ⟨q, by rw [upd_ne this]; exact e⟩, fun _ h => .inl h, fun b e => by
      by_cases hb : b = a
      · rw [hb, upd_same] at e; cases e
      · rw [upd_ne hb] at e; exact e, fun b q v e => by
      have : b ≠ a := by rintro rfl; rw [ho] at e; exact hf _ _ (Option.some.inj e)
      rw [upd_ne this]; exact e⟩
  have dn : ∀ b, H b ≠ none → upd H a u b ≠ none := fun b h e => h (st.dom b e)
  refine ⟨R.len, fun j t e => SlAt.step st (fun b hb v hv => ?_) (fun b hb v hv => ?_) (fun _ z => z) (R.sl j t e), R.far, R.apart, fun b z => dn b (R.zin b z), fun b z => dn b (R.bin b z), R.out, R.pin, R.young, R.ln⟩
  · have : b ≠ a := by rintro rfl; exact R.apart j b hb hz
    rw [upd_ne this]; exact hv
  · have : b ≠ a := by rintro rfl; exact hl hb
    rw [upd_ne this]; exact hv

/-- what a slot owns is forgotten -/
theorem Rel.forget (R : Rel C H σ env F) {i : Nat} {o : O} (he : env[i]? = some (.own o false)) :
    Rel C H σ (env.set i .no) (upF F i []) ∧ Step H (Om F) H (Om (upF F i [])) := by
  obtain ⟨a, ex, ho⟩ := R.sl i _ he
  have q := R.setNo (i := i) (x := some (.ref a)) (by rw [he]; trivial)
  have es : σ.set i (some (.ref a)) = σ := by
    obtain ⟨h1, h2⟩ := List.getElem?_eq_some_iff.mp ex
    rw [← h2]; exact List.set_getElem_self h1
  rw [es] at q
  exact q
theorem Rel.fresh (R : Rel C H σ env F) {p : Addr} {o : HO} (hp : H p = none) : Rel (C.more [p]) (upd H p o) σ env F ∧ ∀ b ∈ [p], ¬ C.Z b ∧ ¬ C.B b := by
  refine ⟨R.grow (fun b u e => by rw [upd_ne (ne_of_none e hp)]; exact e) (fun b hb => ?_) (fun b hb => ?_), fun b hb => ?_⟩
  · rw [List.mem_singleton.mp hb]; exact hp
  · rw [List.mem_singleton.mp hb, upd_same]; exact nofun
  · rw [List.mem_singleton.mp hb]; exact ⟨fun z => R.zin p z hp, fun z => R.bin p z hp⟩
theorem Step.more {p : Addr} (hn : H p = none) (k : Same H H') : Step H (Th F C.Z) H' (Th F (C.more [p]).Z) :=
  ⟨fun a o e _ => k a o e, fun a xs e => e.imp (k _ _) fun ⟨o, e⟩ => ⟨o, k _ _ e⟩, fun a h => by
    rcases h with h | h | h
    · exact .inl (.inl h)
    · exact .inl (.inr h)
    · exact .inr (by rw [List.mem_singleton.mp h]; exact hn), fun a e => k.free e, fun a o u e => k _ _ e⟩
/-- more is lent to this run -/
def RC.lend (C : RC) (i : Nat) (ds : List D) : RC := { C with lents := (i, ds) :: C.lents }
/-- lent while it is walked -/
theorem Rel.lend (R : Rel C H σ env F) {i : Nat} {ds : List D} (he : (∃ p, env[i]? = some (.own (.lst ds) p)) ∨ env[i]? = some (.lent ds)) : Rel (C.lend i ds) H σ (env.set i (.lent ds)) F := by
  have hi : i < env.length := by
    rcases he with ⟨p, he⟩ | he
    · exact (List.getElem?_eq_some_iff.mp he).1
    · exact (List.getElem?_eq_some_iff.mp he).1
  refine ⟨by simpa using R.len, fun j t e => ?_, R.far, R.apart, R.zin, R.bin, fun j hj => R.out j (by simpa using hj), fun p hp => ?_, R.young, fun p hp => ?_⟩
  · by_cases hj : j = i
    · subst hj
      rw [List.getElem?_set_self hi] at e
      cases e
      rcases he with ⟨p, he⟩ | he
      · obtain ⟨a, ex, e1, xs, h1, h2⟩ := R.sl j _ he
        exact ⟨a, xs, ex, .inl e1, h1, h2⟩
      · exact R.sl j _ he
    · rw [List.getElem?_set_ne (Ne.symm hj)] at e
      exact R.sl j t e
  · refine ⟨(R.pin p hp).1, ?_⟩
    by_cases hj : p.1 = i
    · rw [hj, List.getElem?_set_self hi]; trivial
    · rw [List.getElem?_set_ne (Ne.symm hj)]; exact (R.pin p hp).2
  · rcases List.mem_cons.mp
          hp with rfl | hp
    · exact List.getElem?_set_self hi
    · have q := R.ln p hp
      by_cases hj : p.1 = i
      · rw [hj, List.getElem?_set_self hi]
        rw [hj] at q
        rcases he with ⟨b, he⟩ | he
        · rw [he] at q; cases q
        · rw [he] at q; exact q
      · rw [List.getElem?_set_ne (Ne.symm hj)]
        exact q
/-- .. and back again -/
theorem Rel.unlend {i : Nat} {ds : List D} (R : Rel (C.lend i ds) H σ env F) {s : Sl} (hs : (∃ p, s = .own (.lst ds) p ∧ F i ≠ [] ∧ (∀ q ∈ C.lents, q.1 ≠ i) ∧ (p = true ∨ ∀ q ∈ C.pins, q.1 ≠ i)) ∨ s = .lent ds) : Rel C H σ (env.set i s) F := by
  have he := R.ln (i, ds) List.mem_cons_self
  obtain ⟨hi, _⟩ := List.getElem?_eq_some_iff.mp he
  refine ⟨by simpa using R.len, fun j t e => ?_, R.far, R.apart, R.zin, R.bin, fun j hj => R.out j (by simpa using hj), fun p hp => ?_, R.young, fun p hp => ?_⟩
  · by_cases hj : j = i
    · subst hj
      rw [List.getElem?_set_self hi] at e
      cases e
      have q := R.sl j _ he
      rcases hs with ⟨p, rfl, hf, _⟩ | rfl
      · obtain ⟨a, xs, ex, e1, h1, h2⟩ := q
        exact ⟨a, ex, e1.elim id fun z => absurd z.1 hf, xs, h1, h2⟩
      · exact q
    · rw [List.getElem?_set_ne (Ne.symm hj)] at e
      exact R.sl j t e
  · refine ⟨(R.pin p hp).1, ?_⟩
    by_cases hj : p.1 = i
    · rw [hj, List.getElem?_set_self hi]
      rcases hs with ⟨b, rfl, _, _, hf⟩ | rfl
      · rcases hf with rfl | hf
        · trivial
        · exact absurd hj (hf p hp)
      · trivial
    · rw [List.getElem?_set_ne (Ne.symm hj)]; exact (R.pin p hp).2
  · have q := R.ln p (List.mem_cons_of_mem _ hp)
    by_cases hj : p.1 = i
    · rcases hs with ⟨b, rfl, _, hf, _⟩ | rfl
      · exact absurd hj (hf p hp)
      · rw [hj, List.getElem?_set_self hi]
        rw [hj] at q
        exact he.symm.trans q ▸ rfl
    · rw [List.getElem?_set_ne (Ne.symm hj)]
      exact q
end
end VE
/-! VE3: the evaluator -/
namespace VE
open PySem

inductive Rs (α : Type) where
  | ok (a : α) | exc (c : Nat) (ds : List D) | bad
def Rs.bind {α β : Type} : Rs α → (α → Rs β) → Rs β
  | .ok a, f => f a
  | .exc c ds, _ => .exc c ds
  | .bad, _ => .bad
instance : Monad Rs where
  pure := .ok
  bind := Rs.bind
def Rs.of {α : Type} : Option α → Rs α
  | some a => .ok a
  | none => .bad

/-- an operand: a value, or a slot that is looked at -/
inductive Opd where
  | d (x : D) | s (i : Nat)
inductive Ret where
  | val (d : D) | own (o : O)
inductive Flow where
  | nx (env : Env) | rt (r : Ret) (env : Env) | bk (env : Env) | ct (env : Env)

inductive Uop where
  | len | toInt | toTup | isInt | isStr | isTup | isBool | isList | isSeq | not | neg | isNon | notNon | isTru | notTru | maxL
  deriving DecidableEq, Repr
inductive Bop where
  | add | sub | mul | mod | fdiv | pow | eq | ne | lt | le | gt | ge | isin | notin | idx | join
  deriving DecidableEq, Repr

inductive Tg where
  | nm (i : Nat) | tp (is : List Nat)
  deriving DecidableEq, Repr

mutual
inductive E where
  | int (i : Int) | str (x : Str) | bl (b : Bool) | non
  | var (i : Nat) | bor (i : Nat)
  | tup (es : Es) | nw (n : N)
  | un (op : Uop) (a : E) | bin (op : Bop) (a b : E)
  | and (a b : E) | or (a b : E) | ite (c a b : E)
  | sl (a lo hi : E) | slf (a lo : E)
  | call (f : Nat) (as : As) | pop (i : Nat)
inductive Es where
  | nil | cons (e : E) (es : Es)
inductive As where
  | nil | v (e : E) (as : As) | io (i : Nat) (as : As) | sc (i : Nat) (as : As)
inductive N where
  | lst (es : Es) | lc (elt : E) (tg : Tg) (src : Src) (cd : Cd) (vs : List Nat)
  | dc (k v : E) (tg : Tg) (src : Src) (cd : Cd) (vs : List Nat)
  | dc2 (k v : E) (tg : Tg) (src : Src) (tg2 : Tg) (src2 : Src) (vs : List Nat)
  | toL (a : E) | vals (i : Nat) | keysL (a : E) | cat (a b : E) | dnew | srt (a : E) | srtk (a : E) (f : Nat) | call (f : Nat) (as : As)
inductive Src where
  | seq (e : E) | scr (i : Nat) | rng (e : E) | rng2 (a b : E) | enum (e : E)
inductive Cd where
  | no | on (e : E)
end
mutual
inductive S where
  | asg (t : Tg) (e : E) | own (i : Nat) (n : N) | aug (i : Nat) (op : Bop) (e : E)
  | setIx (i : Nat) (ix e : E) | app (i : Nat) (e : E) | rev (i : Nat) | sdapp (i : Nat) (k e : E)
  | ife (c : E) (a b : Ss) | fr (tg : Tg) (src : Src) (body : Ss) | whl (n : Nat) (c : E) (body : Ss)
  | ret (e : E) | retO (i : Nat) | exp (e : E) | frz (i : Nat) | pass | brk | cnt
inductive Ss where
  | nil | cons (s : S) (ss : Ss)
end

/-! ### operations on data -/
def sizeOk (n : Nat) : Bool := decide (n ≤ sizeLine)
def idx63 (i : Int) : Bool := decide (-(2 ^ 62) ≤ i ∧ i < 2 ^ 62)
def intsOf : List D → Option (List Int)
  | [] => some []
  | .int i :: ds => (intsOf ds).map (i :: ·)
  | _ :: _ => none
def strsOf : List D → Option (List Str)
  | [] => some []
  | .str x :: ds => (strsOf ds).map (x :: ·)
  | _ :: _ => none
def maxI : List Int → Option Int
  | [] => none
  | i :: is => some (is.foldl max i)
def uop : Uop → D → Option D
  | .len, .list ds => some (.int ds.length)
  | .len, .tuple ds => some (.int ds.length)
  | .len, .str x => if x.length ≤ sizeLine then some (.int x.length) else none
  | .toInt, .int i => some (.int i)
  | .toTup, .list ds => some (.tuple ds)
  | .toTup, .tuple ds => some (.tuple ds)
  | .isInt, d => match d with | .int _ => some (.bool true) | .bool _ => some (.bool true) | .dict _ => none | _ => some (.bool false)
  | .isStr, d => match d with | .str _ => some (.bool true) | .dict _ => none | _ => some (.bool false)
  | .isTup, d => match d with | .tuple _ => some (.bool true) | .dict _ => none | _ => some (.bool false)
  | .isBool, d => match d with | .bool _ => some (.bool true) | .dict _ => none | _ => some (.bool false)
  | .isList, d => match d with | .list _ => some (.bool true) | .dict _ => none | _ => some (.bool false)
  | .isSeq, d => match d with | .list _ => some (.bool true) | .tuple _ => some (.bool true) | .dict _ => none | _ => some (.bool false)
  | .not, .bool b => some (.bool !b)
  | .neg, .int i => some (.int (-i))
  | .isNon, d => match d with | .none => some (.bool true) | .dict _ => none | _ => some (.bool false)
  | .notNon, d => match d with | .none => some (.bool false) | .dict _ => none | _ => some (.bool true)
  | .isTru, .bool b => some (.bool b)
  | .notTru, .bool b => some (.bool !b)
  | .maxL, .list ds => ((intsOf ds).bind maxI).map .int
  | _, _ => none
def hasKey (kvs : List (D × D)) (k : NestedKey) : Bool := kvs.any fun p => match nkey p.1 with | some j => decide (j = k) | none => false
/-- a dict, not a def -/
def isReal : List (D × D) → Bool
  | (.none, _) :: _ => false
  | _ => true
def inD (a b : D) : Option Bool :=
  match b with
  | .list ds => if SeqAt.shaped a && SeqAt.shaped (.list ds) then some (ds.any fun z => PyData.eqv z a) else none
  | .tuple ds => if SeqAt.shaped a && SeqAt.shaped (.tuple ds) then some (ds.any fun z => PyData.eqv z a) else none
  | .dict kvs => match a with
    | .tuple _ => match nkey a with
      | some k => if decide (k.depth ≤ 8) && isReal kvs then some (hasKey kvs k) else none
      | none => none
    | _ => none
  | _ => none
/-- a[lo:hi] of a list -/
def cutL {α : Type} (xs : List α) (lo hi : Option Int) : List α := (xs.drop (HT.sIx xs.length 0 lo)).take (HT.sIx xs.length xs.length hi - HT.sIx xs.length 0 lo)
def mulOk (i j : Int) : Bool := decide (Builtin.Int.intBits i + Builtin.Int.intBits j ≤ 134217728)
def bop : Bop → D → D → Option D
  | .add, .int i, .int j => some (.int (i + j))
  | .add, .str x, .str y => if x.length + y.length ≤ sizeLine then some (.str (x ++ y)) else none
  | .add, .list xs, .list ys => if xs.length + ys.length ≤ sizeLine then some (.list (xs ++ ys)) else none
  | .add, .tuple xs, .tuple ys => if xs.length + ys.length ≤ sizeLine then some (.tuple (xs ++ ys)) else none
  | .sub, .int i, .int j => some (.int (i - j))
  | .mul, .int i, .int j => if mulOk i j then some (.int (i * j)) else none
  | .mul, .str x, .int j => if 0 ≤ j ∧ j < 2 ^ 40 ∧ x.length * j.toNat ≤ sizeLine then some (.str (Txt.mul x j)) else none
  | .mod, .int i, .int j => if 0 < j then some (.int (i % j)) else none
  | .fdiv, .int i, .int j => if 0 < j ∧ j.natAbs.log2 < 9000 then some (.int (i / j)) else none
  | .pow, .int i, .int j => if 0 ≤ i ∧ i ≤ 10 ∧ 0 ≤ j ∧ j ≤ 60 then some (.int (i ^ j.toNat)) else none
  | .eq, a, b => if SeqAt.shaped a && SeqAt.shaped b then some (.bool (PyData.eqv a b)) else none
  | .ne, a, b => if SeqAt.shaped a && SeqAt.shaped b then some (.bool (!PyData.eqv a b)) else none
  | .lt, .int i, .int j => some (.bool (decide (i < j)))
  | .le, .int i, .int j => some (.bool (decide (i ≤ j)))
  | .gt, .int i, .int j => some (.bool (decide (j < i)))
  | .ge, .int i, .int j => some (.bool (decide (j ≤ i)))
  | .isin, a, b => (inD a b).map .bool
  | .notin, a, b => (inD a b).map fun c => .bool !c
  | .idx, .list ds, .int i => L2.atI ds i
  | .idx, .tuple ds, .int i => L2.atI ds i
  | .idx, .str x, .int i => if x.length ≤ sizeLine then (L2.atI x.cps.toList i).map fun c => .str ⟨#[c]⟩ else none
  | .join, .str x, .list ds => match strsOf ds with
    | some ys => if (ys.map (·.length)).sum + ys.length * x.length ≤ 16777216 then some (.str (PySem.Txt.join x ys)) else none
    | none => none
  | _, _, _ => none
/-- a[lo:hi], a[lo:] -/
def slD : D → D → Option D → Option D
  | .list ds, .int lo, some (.int hi) => some (.list (cutL ds (some lo) (some hi)))
  | .tuple ds, .int lo, some (.int hi) => some (.tuple (cutL ds (some lo) (some hi)))
  | .list ds, .int lo, none => some (.list (cutL ds (some lo) none))
  | .tuple ds, .int lo, none => some (.tuple (cutL ds (some lo) none))
  | _, _, _ => none

/-! ### slots -/
def getV (env : Env) (i : Nat) : Option D := match env[i]? with | some (.val d) => some d | _ => none
def setV (env : Env) (i : Nat) (d : D) : Option Env := match env[i]? with
  | some .no => some (env.set i (.val d))
  | some (.val _) => some (env.set i (.val d))
  | some (.own _ false) => some (env.set i (.val d))
  | _ => none
def setO (env : Env) (i : Nat) (o : O) : Option Env := match env[i]? with
  | some .no => some (env.set i (.own o false))
  | some (.val _) => some (env.set i (.own o false))
  | some (.own _ false) => some (env.set i (.own o false))
  | _ => none
/-- bound -/
def bnd : Option Sl → Bool
  | none => false
  | some .no => false
  | _ => true
def deref (env : Env) : Opd → Option D
  | .d x => some x
  | .s i => match env[i]? with
    | some (.own (.dil _) _) => none
    | some (.own o _) => some o.fr
    | some (.lent ds) => some (.list ds)
    | some (.val d) => some d
    | _ => none
def opV : Opd → Option D
  | .d x => some x
  | .s _ => none
def setAll : List Nat → List D → Env → Option Env
  | [], [], env => some env
  | i :: is, d :: ds, env => (setV env i d).bind (setAll is ds)
  | _, _, _ => none
def setT (env : Env) : Tg → D → Option Env
  | .nm i, d => setV env i d
  | .tp is, .tuple ds => setAll is ds env
  | .tp _, _ => none
def wipeE (env : Env) : List Nat → Option Env
  | [] => some env
  | v :: vs => match env[v]?, wipeE env vs with
    | some .no, some e => some (e.set v .no)
    | some (.val _), some e => some (e.set v .no)
    | _, _ => none
def backE (env0 : Env) : List Nat → Env → Env
  | [], env => env
  | v :: vs, env => backE env0 vs (match env0[v]? with | some s => env.set v s | none => env)
/-- the items of what is walked; a slot that is lent while it is walked -/
def itemsOf (env : Env) : Opd → Option (List D × Option Nat)
  | .d (.list ds) => some (ds, none)
  | .d (.tuple ds) => some (ds, none)
  | .d _ => none
  | .s i => match env[i]? with
    | some (.own (.lst ds) _) => some (ds, some i)
    | some (.lent ds) => some (ds, some i)
    | some (.val (.list ds)) => some (ds, none)
    | some (.val (.tuple ds)) => some (ds, none)
    | _ => none
/-- .. of a list alone -/
def itemsL (env : Env) : Opd → Option (List D × Option Nat)
  | .d (.list ds) => some (ds, none)
  | .d _ => none
  | .s i => match env[i]? with
    | some (.own (.lst ds) _) => some (ds, some i)
    | some (.lent ds) => some (ds, some i)
    | some (.val (.list ds)) => some (ds, none)
    | _ => none
def lend (env : Env) : Option Nat → Env
  | none => env
  | some i => match env[i]? with
    | some (.own (.lst ds) _) => env.set i (.lent ds)
    | _ => env
def unlend (env0 env : Env) : Option Nat → Env
  | none => env
  | some i => match env0[i]? with | some s => env.set i s | none => env
def rngL (lo : Int) (n : Nat) : List D := (List.range n).map fun (k : Nat) => .int (lo + (k : Nat))
def enumL (ds : List D) : List D := (List.range ds.length).zipWith (fun (k : Nat) d => .tuple [.int (k : Nat), d]) ds

inductive Ao where
  | d (x : D) | io (i : Nat) | sc (i : Nat)
def mkArgs (env : Env) : List Ao → Option (List Sl)
  | [] => some []
  | .d x :: as => (mkArgs env as).map (.val x :: ·)
  | .io i :: as => match env[i]? with
    | some (.own o _) => (mkArgs env as).map (.own o true :: ·)
    | _ => none
  | .sc i :: as => match env[i]? with
    | some (.scr ns) => (mkArgs env as).map (.scr ns :: ·)
    | _ => none
def ios : List Ao → List Nat
  | [] => []
  | .io i :: as => i :: ios as
  | _ :: as => ios as
/-- what comes back into the slots -/
def putOuts : List Ao → List Sl → Env → Option Env
  | [], [], env => some env
  | .io i :: as, .own o true :: ss, env => match env[i]? with
    | some (.own _ p) => putOuts as ss (env.set i (.own o p))
    | _ => none
  | .d _ :: as, _ :: ss, env => putOuts as ss env
  | .sc _ :: as, _ :: ss, env => putOuts as ss env
  | _, _, _ => none
/-- what a def leaves in its parameters -/
def out1 : Sl → Sl → Option Sl
  | .own _ true, .own o true => some (.own o true)
  | .own _ true, _ => none
  | .lent _, _ => none
  | a, _ => some a
def outsOf : List Sl → Env → Option (List Sl)
  | [], _ => some []
  | a :: as, s :: env => match out1 a s, outsOf as env with
    | some x, some xs => some (x :: xs)
    | _, _ => none
  | _ :: _, [] => none

abbrev Runner := Nat → List Sl → Rs (Ret × List Sl)

def runCall (rn : Runner) (f : Nat) (aos : List Ao) (env : Env) : Rs (Ret × Env) := do
  if (ios aos).Nodup then
    let args ← Rs.of (mkArgs env aos)
    let (r, outs) ← rn f args
    let env' ← Rs.of (putOuts aos outs env)
    .ok (r, env')
  else .bad
def Ret.fr : Ret → D
  | .val d => d
  | .own o => o.fr

/-- a comprehension's turns -/
def lcGo (f : D → Env → Rs (Option D × Env)) : List D → List D → Env → Rs (List D × Env)
  | [], acc, env => .ok (acc, env)
  | d :: ds, acc, env => do
    let (r, env') ← f d env
    match r with
    | some x => lcGo f ds (acc ++ [x]) env'
    | none => lcGo f ds acc env'
def putD (kvs : List (D × D)) (k v : D) : List (D × D) := match nkey k with
  | some kk => if hasKey kvs kk then kvs.map fun p => if nkey p.1 = some kk then (p.1, v) else p else kvs ++ [(k, v)]
  | none => kvs
def keyOk (k : D) : Bool := match k with
  | .tuple _ => match nkey k with
    | some kk => decide (kk.depth ≤ 8)
    | none => false
  | _ => false
def dcGo (f : D → Env → Rs (Option (D × D) × Env)) : List D → List (D × D) → Env → Rs (List (D × D) × Env)
  | [], acc, env => .ok (acc, env)
  | d :: ds, acc, env => do
    let (r, env') ← f d env
    match r with
    | some (k, v) => if keyOk k && decide (acc.length < sizeLine) then dcGo f ds (putD acc k v) env' else .bad
    | none => dcGo f ds acc env'
/-- two clauses -/
def dc2Go (f : List (D × D) → D → Env → Rs (List (D × D) × Env)) : List D → List (D × D) → Env → Rs (List (D × D) × Env)
  | [], acc, env => .ok (acc, env)
  | d :: ds, acc, env => do
    let (acc2, env2) ← f acc d env
    dc2Go f ds acc2 env2
def allAlike (ks : List D) : Bool := ks.all fun d => ks.all fun e => PySem.W.alike d e
def sortable (ks : List D) : Bool := (ks.all fun d => match d with | .tuple (_ :: _) => true | _ => false) || (ks.all fun d => match d with | .none => false | .tuple _ => false | _ => true)
def shallow (ks : List D) : Bool := ks.all fun d => decide (d.depth ≤ 60)
def sortB (ks : List D) : Bool := allAlike ks && sortable ks && shallow ks && ks.all PyData.canLay0
def seqD : D → Option (List D)
  | .list ds => some ds
  | .tuple ds => some ds
  | _ => none
def sortBy (ps : List (D × D)) : List D := (ps.mergeSort (PySem.W.dataLe false fun p => p.2)).map (·.1)
def keysOf (rn : Runner) (f : Nat) : List D → Rs (List (D × D))
  | [] => .ok []
  | d :: ds => do
    let (r, _) ← runCall rn f [.d d] []
    match r with
    | .val k => do
      let ps ← keysOf rn f ds
      .ok ((d, k) :: ps)
    | .own _ => .bad

/-- a for's turns -/
def forGo (body : D → Env → Rs Flow) : List D → Env → Rs Flow
  | [], env => .ok (.nx env)
  | d :: ds, env => do
    match ← body d env with
    | .nx env' => forGo body ds env'
    | .ct env' => forGo body ds env'
    | .bk env' => .ok (.nx env')
    | .rt r env' => .ok (.rt r env')
def whlGo (c : Env → Rs (Bool × Env)) (body : Env → Rs Flow) : Nat → Env → Rs Flow
  | 0, _ => .bad
  | n + 1, env => do
    let (b, env1) ← c env
    if b then
      match ← body env1 with
      | .nx env' => whlGo c body n env'
      | .ct env' => whlGo c body n env'
      | .bk env' => .ok (.nx env')
      | .rt r env' => .ok (.rt r env')
    else .ok (.nx env1)

/-- as a value -/
def asV (r : Rs (Opd × Env)) : Rs (D × Env) := do
  let (x, env1) ← r
  let d ← Rs.of (opV x)
  .ok (d, env1)
/-- as a test -/
def asT (r : Rs (Opd × Env)) : Rs (Bool × Env) := do
  let (x, env1) ← r
  match x with
  | .d (.bool b) => .ok (b, env1)
  | _ => .bad
abbrev SrcF := Env → Rs (List D × Option Nat × Env)
abbrev ValF := Env → Rs (D × Env)
abbrev TstF := Env → Rs (Bool × Env)
def lcTurn (gc : TstF) (ge : ValF) (t : Tg) (vs : List Nat) (d : D) (e : Env) : Rs (Option D × Env) := do
  let e1 ← Rs.of (setT e t d)
  let (c, e2) ← gc e1
  if c then do
    let (x, e3) ← ge e2
    let e4 ← Rs.of (wipeE e3 vs)
    .ok (some x, e4)
  else do
    let e4 ← Rs.of (wipeE e2 vs)
    .ok (none, e4)
def lcE (gs : SrcF) (gc : TstF) (ge : ValF) (t : Tg) (vs : List Nat) (env : Env) : Rs (O × Env) := do
  let (ds, l, env1) ← gs env
  let envI ← Rs.of (wipeE (lend env1 l) vs)
  let (acc, envE) ← lcGo (lcTurn gc ge t vs) ds [] envI
  .ok (.lst acc, unlend env1 (backE (lend env1 l) vs envE) l)
def dcTurn (gc : TstF) (gk gv : ValF) (t : Tg) (vs : List Nat) (d : D) (e : Env) : Rs (Option (D × D) × Env) := do
  let e1 ← Rs.of (setT e t d)
  let (c, e2) ← gc e1
  if c then do
    let (x, e3) ← gk e2
    let (y, e4) ← gv e3
    let e5 ← Rs.of (wipeE e4 vs)
    .ok (some (x, y), e5)
  else do
    let e4 ← Rs.of (wipeE e2 vs)
    .ok (none, e4)
def dcE (gs : SrcF) (gc : TstF) (gk gv : ValF) (t : Tg) (vs : List Nat) (env : Env) : Rs (O × Env) := do
  let (ds, l, env1) ← gs env
  let envI ← Rs.of (wipeE (lend env1 l) vs)
  let (acc, envE) ← dcGo (dcTurn gc gk gv t vs) ds [] envI
  .ok (.dic acc, unlend env1 (backE (lend env1 l) vs envE) l)
def tgs : Tg → List Nat
  | .nm i => [i]
  | .tp is => is
def dc2Turn (gs2 : SrcF) (gk gv : ValF) (t t2 : Tg) (vs : List Nat) (acc : List (D × D)) (d : D) (e : Env) : Rs (List (D × D) × Env) := do
  let e1 ← Rs.of (setT e t d)
  let (ds2, l2, e2) ← gs2 e1
  let e3 ← Rs.of (wipeE (lend e2 l2) (tgs t2))
  let (acc2, e4) ← dcGo (dcTurn (fun e => .ok (true, e)) gk gv t2 (tgs t2)) ds2 acc e3
  let e5 ← Rs.of (wipeE (unlend e2 e4 l2) vs)
  .ok (acc2, e5)
def dc2E (gs gs2 : SrcF) (gk gv : ValF) (t t2 : Tg) (vs : List Nat) (env : Env) : Rs (O × Env) := do
  let (ds, l, env1) ← gs env
  let envI ← Rs.of (wipeE (lend env1 l) vs)
  let (acc, envE) ← dc2Go (dc2Turn gs2 gk gv t t2 vs) ds [] envI
  .ok (.dic acc, unlend env1 (backE (lend env1 l) vs envE) l)
def n1 (r : Rs (Opd × Env)) (op : D → Option (List D)) : Rs (O × Env) := do
  let (x, env1) ← r
  let d ← Rs.of (deref env1 x)
  let es ← Rs.of (op d)
  .ok (.lst es, env1)
def keysD : D → Option (List D)
  | .dict kvs => if isReal kvs then some (kvs.map (·.1)) else none
  | _ => none
def catD : D → D → Option (List D)
  | .list xs, .list ys => if xs.length + ys.length ≤ sizeLine then some (xs ++ ys) else none
  | _, _ => none
def sortD (d : D) : Option (List D) := (seqD d).bind fun ds => if sortB ds then some (sortBy (ds.map fun d => (d, d))) else none
section
variable (rn : Runner)
mutual
def ev : E → Env → Rs (Opd × Env)
  | .int i, env => .ok (.d (.int i), env)
  | .str x, env => .ok (.d (.str x), env)
  | .bl b, env => .ok (.d (.bool b), env)
  | .non, env => .ok (.d .none, env)
  | .var i, env => do
    let d ← Rs.of (getV env i)
    .ok (.d d, env)
  | .bor i, env => if bnd env[i]? then .ok (.s i, env) else .bad
  | .tup es, env => do
    let (ds, env1) ← evs es env
    if ds.length ≤ sizeLine then .ok (.d (.tuple ds), env1) else .bad
  | .nw n, env => do
    let (o, env1) ← evN n env
    .ok (.d o.fr, env1)
  | .un op a, env => do
    let (x, env1) ← ev a env
    let d ← Rs.of (deref env1 x)
    let r ← Rs.of (uop op d)
    .ok (.d r, env1)
  | .bin op a b, env => do
    let (x, env1) ← ev a env
    let (y, env2) ← ev b env1
    let d ← Rs.of (deref env2 x)
    let e ← Rs.of (deref env2 y)
    let r ← Rs.of (bop op d e)
    .ok (.d r, env2)
  | .and a b, env => do
    let (c, env1) ← asT (ev a env)
    if c then
      let (c2, env2) ← asT (ev b env1)
      .ok (.d (.bool c2), env2)
    else .ok (.d (.bool false), env1)
  | .or a b, env => do
    let (c, env1) ← asT (ev a env)
    if c then .ok (.d (.bool true), env1)
    else
      let (c2, env2) ← asT (ev b env1)
      .ok (.d (.bool c2), env2)
  | .ite c a b, env => do
    let (c, env1) ← asT (ev c env)
    if c then do
      let (d, env2) ← asV (ev a env1)
      .ok (.d d, env2)
    else do
      let (d, env2) ← asV (ev b env1)
      .ok (.d d, env2)
  | .sl a lo hi, env => do
    let (x, env1) ← ev a env
    let (l, env2) ← asV (ev lo env1)
    let (h, env3) ← asV (ev hi env2)
    let d ← Rs.of (deref env3 x)
    let r ← Rs.of (slD d l (some h))
    .ok (.d r, env3)
  | .slf a lo, env => do
    let (x, env1) ← ev a env
    let (l, env2) ← asV (ev lo env1)
    let d ← Rs.of (deref env2 x)
    let r ← Rs.of (slD d l none)
    .ok (.d r, env2)
  | .call f as, env => do
    let (aos, env1) ← evA as env
    let (r, env2) ← runCall rn f aos env1
    .ok (.d r.fr, env2)
  | .pop i, env => match env[i]? with
    | some (.own (.lst ds) p) => match ds.getLast? with
      | some d => .ok (.d d, env.set i (.own (.lst ds.dropLast) p))
      | none => .bad
    | _ => .bad
def evs : Es → Env → Rs (List D × Env)
  | .nil, env => .ok ([], env)
  | .cons e es, env => do
    let (d, env1) ← asV (ev e env)
    let (ds, env2) ← evs es env1
    .ok (d :: ds, env2)
def evA : As → Env → Rs (List Ao × Env)
  | .nil, env => .ok ([], env)
  | .v e as, env => do
    let (d, env1) ← asV (ev e env)
    let (ds, env2) ← evA as env1
    .ok (.d d :: ds, env2)
  | .io i as, env => if bnd env[i]? then do
      let (ds, env2) ← evA as env
      .ok (.io i :: ds, env2)
    else .bad
  | .sc i as, env => if bnd env[i]? then do
      let (ds, env2) ← evA as env
      .ok (.sc i :: ds, env2)
    else .bad
def evN : N → Env → Rs (O × Env)
  | .lst es, env => do
    let (ds, env1) ← evs es env
    if ds.length ≤ sizeLine then .ok (.lst ds, env1) else .bad
  | .lc elt tg src cd vs, env => lcE (fun e => evSrc src e) (fun e => evC cd e) (fun e => asV (ev elt e)) tg vs env
  | .dc k v tg src cd vs, env => dcE (fun e => evSrc src e) (fun e => evC cd e) (fun e => asV (ev k e)) (fun e => asV (ev v e)) tg vs env
  | .dc2 k v tg src tg2 src2 vs, env => dc2E (fun e => evSrc src e) (fun e => evSrc src2 e) (fun e => asV (ev k e)) (fun e => asV (ev v e)) tg tg2 vs env
  | .toL a, env => n1 (ev a env) seqD
  | .vals i, env => match env[i]? with
    | some (.own (.dil kvs) false) => .ok (.lst (kvs.map fun p => .list p.2), env.set i .no)
    | _ => .bad
  | .keysL a, env => n1 (ev a env) keysD
  | .cat a b, env => do
    let (x, env1) ← ev a env
    let (y, env2) ← ev b env1
    let d ← Rs.of (deref env2 x)
    let e ← Rs.of (deref env2 y)
    let es ← Rs.of (catD d e)
    .ok (.lst es, env2)
  | .dnew, env => .ok (.dil [], env)
  | .srt a, env => n1 (ev a env) sortD
  | .srtk a f, env => do
    let (x, env1) ← ev a env
    match (deref env1 x).bind seqD with
    | some ds => do
      let ps ← keysOf rn f ds
      if sortB (ps.map (·.2)) then .ok (.lst (sortBy ps), env1) else .bad
    | _ => .bad
  | .call f as, env => do
    let (aos, env1) ← evA as env
    let (r, env2) ← runCall rn f aos env1
    match r with
    | .own o => .ok (o, env2)
    | .val _ => .bad
def evSrc : Src → Env → Rs (List D × Option Nat × Env)
  | .seq e, env => do
    let (x, env1) ← ev e env
    let (ds, l) ← Rs.of (itemsOf env1 x)
    .ok (ds, l, env1)
  | .scr i, env => match env[i]? with
    | some (.scr ns) => .ok (ns.map .int, none, env)
    | _ => .bad
  | .rng e, env => do
    let (d, env1) ← asV (ev e env)
    match d with
    | .int n => if idx63 n && decide (n ≤ sizeLine) then .ok (rngL 0 n.toNat, none, env1) else .bad
    | _ => .bad
  | .rng2 a b, env => do
    let (d, env1) ← asV (ev a env)
    let (d2, env2) ← asV (ev b env1)
    match d, d2 with
    | .int m, .int n => if idx63 m && idx63 n && decide (n - m ≤ sizeLine) then .ok (rngL m (n - m).toNat, none, env2) else .bad
    | _, _ => .bad
  | .enum e, env => do
    let (x, env1) ← ev e env
    let (ds, l) ← Rs.of (itemsL env1 x)
    .ok (enumL ds, l, env1)
def evC : Cd → Env → Rs (Bool × Env)
  | .no, env => .ok (true, env)
  | .on e, env => asT (ev e env)
end
end
end VE
/-! VE4: statements, runs -/
namespace VE
open PySem

/-- an own list, an own dict of lists -/
def isOL : Option Sl → Bool
  | some (.own (.lst _) _) => true
  | _ => false
def isOD : Option Sl → Bool
  | some (.own (.dil _) _) => true
  | _ => false
/-- d.setdefault(k, []).append(x) -/
def sdPut : List (D × List D) → D → D → List (D × List D)
  | [], kd, d => [(kd, [d])]
  | (k, ds) :: r, kd, d => if nkey k = nkey kd then (k, ds ++ [d]) :: r else (k, ds) :: sdPut r kd d
section
variable (rn : Runner)
mutual
def ex : S → Env → Rs Flow
  | .asg t e, env => do
    let (d, env1) ← asV (ev rn e env)
    let env2 ← Rs.of (setT env1 t d)
    .ok (.nx env2)
  | .own i n, env => do
    let (o, env1) ← evN rn n env
    let env2 ← Rs.of (setO env1 i o)
    .ok (.nx env2)
  | .aug i op e, env => do
    let x ← Rs.of (getV env i)
    let (d, env1) ← asV (ev rn e env)
    match x with
    | .int _ => do
      let r ← Rs.of (bop op x d)
      let env2 ← Rs.of (setV env1 i r)
      .ok (.nx env2)
    | .str _ => do
      let r ← Rs.of (bop op x d)
      let env2 ← Rs.of (setV env1 i r)
      .ok (.nx env2)
    | _ => .bad
  | .setIx i ix e, env => do
    let (d, env1) ← asV (ev rn e env)
    if bnd env1[i]? then do
      let (k, env2) ← asV (ev rn ix env1)
      match k, env2[i]? with
      | .int j, some (.own (.lst ds) p) => if 0 ≤ j ∧ j < ds.length then .ok (.nx (env2.set i (.own (.lst (ds.set j.toNat d)) p))) else .bad
      | _, _ => .bad
    else .bad
  | .app i e, env => if isOL env[i]? then do
      let (d, env1) ← asV (ev rn e env)
      match env1[i]? with
      | some (.own (.lst ds) p) => if ds.length < sizeLine then .ok (.nx (env1.set i (.own (.lst (ds ++ [d])) p))) else .bad
      | _ => .bad
    else .bad
  | .rev i, env => match env[i]? with
    | some (.own (.lst ds) p) => .ok (.nx (env.set i (.own (.lst ds.reverse) p)))
    | _ => .bad
  | .sdapp i k e, env => match e with
    | .var j => if isOD env[i]? then do
        let (kd, env1) ← asV (ev rn k env)
        let d ← Rs.of (getV env1 j)
        if keyOk kd then match env1[i]? with
          | some (.own (.dil kvs) p) => if kvs.length < sizeLine ∧ kvs.all (fun q => decide (q.2.length < sizeLine)) then .ok (.nx (env1.set i (.own (.dil (sdPut kvs kd d)) p))) else .bad
          | _ => .bad
        else .bad
      else .bad
    | _ => .bad
  | .ife c a b, env => do
    let (k, env1) ← asT (ev rn c env)
    if k then exs a env1 else exs b env1
  | .fr tg src body, env => do
    let (ds, l, env1) ← evSrc rn src env
    match ← forGo (fun d e => do
        let e1 ← Rs.of (setT e tg d)
        exs body e1) ds (lend env1 l) with
    | .nx env2 => .ok (.nx (unlend env1 env2 l))
    | .rt (.val d) env2 => .ok (.rt (.val d) (unlend env1 env2 l))
    | _ => .bad
  | .whl n c body, env => whlGo (fun e => asT (ev rn c e)) (fun e => exs body e) n env
  | .ret e, env => do
    let (d, env1) ← asV (ev rn e env)
    .ok (.rt (.val d) env1)
  | .retO i, env => match env[i]? with
    | some (.own o false) => .ok (.rt (.own o) (env.set i .no))
    | _ => .bad
  | .exp e, env => do
    let (x, env1) ← ev rn e env
    .ok (.nx env1)
  | .frz i, env => match env[i]? with
    | some (.own o false) => .ok (.nx (env.set i (.val o.fr)))
    | some (.val _) => .ok (.nx env)
    | _ => .bad
  | .pass, env => .ok (.nx env)
  | .brk, env => .ok (.bk env)
  | .cnt, env => .ok (.ct env)
def exs : Ss → Env → Rs Flow
  | .nil, env => .ok (.nx env)
  | .cons s ss, env => do
    match ← ex s env with
    | .nx env1 => exs ss env1
    | f => .ok f
end
end

structure FD where
  np : Nat
  n : Nat
  body : Ss
def fin (args : List Sl) (r : Ret) (env : Env) : Rs (Ret × List Sl) := do
  let outs ← Rs.of (outsOf args env)
  .ok (r, outs)
def run (T : Nat → Option FD) : Nat → Runner
  | 0 => fun _ _ => .bad
  | k + 1 => fun f args => match T f with
    | none => .bad
    | some fd => if args.length = fd.np then do
        match ← exs (run T k) fd.body (args ++ List.replicate (fd.n - fd.np) .no) with
        | .nx env => fin args (.val .none) env
        | .rt r env => fin args r env
        | _ => .bad
      else .bad
end VE
/-! VE5: the judgements; operations by values -/
namespace VE
open PySem PySem.Spec
                        PyProof.Rows L2

theorem PE.imp {X : Cx} {e : Expr} {t t' : TE} (h : PE X e t) (k : ∀ σ H Q, t' σ H Q → t σ H Q) : PE X e t' := ⟨fun pins s σ H Q I q => h.run pins s σ H Q I (k σ H Q q)⟩
theorem PT.imp {X : Cx} {e : Expr} {t t' : TT} (h : PT X e t) (k : ∀ σ H Q, t' σ H Q → t σ H Q) : PT X e t' := ⟨fun pins s σ H Q I q => h.run pins s σ H Q I (k σ H Q q)⟩
theorem PW.imp {X : Cx} {e : Expr} {t t' : TT} (h : PW X e t) (k : ∀ σ H Q, t' σ H Q → t σ H Q) : PW X e t' := ⟨fun wh pins s σ H Q I q => h.run wh pins s σ H Q I (k σ H Q q)⟩
theorem PA.imp {X : Cx} {e : List Expr} {t t' : TA} (h : PA X e t) (k : ∀ σ H Q, t' σ H Q → t σ H Q) : PA X e t' := ⟨fun p pins s σ H Q I q => h.run p pins s σ H Q I (k σ H Q q)⟩
theorem PS.imp {X : Cx} {e : Stmt} {t t' : TS} (h : PS X e t) (k : ∀ D σ H, t' D σ H → t D σ H) : PS X e t' := ⟨fun pins s σ H D I q => h.run pins s σ H D I (k D σ H q)⟩
theorem PSs.imp {X : Cx} {e : List Stmt} {t t' : TS} (h : PSs X e t) (k : ∀ D σ H, t' D σ H → t D σ H) : PSs X e t' := ⟨fun pins s σ H D I q => h.run pins s σ H D I (k D σ H q)⟩
theorem PI.imp {X : Cx} {tg e : Expr} {t t' : TI} (h : PI X tg e t) (k : ∀ σ H R, t' σ H R → t σ H R) : PI X tg e t' := ⟨fun pins s σ H R I q => h.run pins s σ H R I (k σ H R q)⟩

def OpdAt (C : RC) (H : Hp) (σ : VE.St) (F : Nat → List Addr) (v : V) : Opd → Prop
  | .d x => Den C.W H (Th F C.Z) v x
  | .s i => σ[i]? = some (some v)

def tX (C : RC) (g : Env → Rs (Opd × Env)) : TE := fun σ H Q => ∃ env F, Rel C H σ env F ∧ ∃ x env', g env = .ok (x, env') ∧
  ∀ v H' F', Rel C H' σ env' F' → Step H (Om F) H' (Om F') → OpdAt C H' σ F' v x → Q v H'
def tV (C : RC) (g : Env → Rs (D × Env)) : TE := fun σ H Q => ∃ env F, Rel C H σ env F ∧ ∃ x env', g env = .ok (x, env') ∧
  ∀ v H' F', Rel C H' σ env' F' → Step H (Om F) H' (Om F') → Den C.W H' (Th F' C.Z) v x → Q v H'
def tTt (C : RC) (g : Env → Rs (Bool × Env)) : TT := fun σ H Q => ∃ env F, Rel C H σ env F ∧ ∃ b env', g env = .ok (b, env') ∧
  ∀ H' F', Rel C H' σ env' F' → Step H (Om F) H' (Om F') → Q b H'
def tN (C : RC) (g : Env → Rs (O × Env)) : TE := fun σ H Q => ∃ env F, Rel C H σ env F ∧ ∃ o env', g env = .ok (o, env') ∧
  ∀ a fp H' F', Rel (C.more fp) H' σ env' F' → Step H (Om F) H' (Om F') → OwnAt C.W H' (Th F' (C.more fp).Z) fp a o → (∀ b ∈ fp, H b = none) → Q (.ref a) H'
def tL (C : RC) (g : Env → Rs (List D × Env)) : TA := fun σ H Q => ∃ env F, Rel C H σ env F ∧ ∃ ds env', g env = .ok (ds, env') ∧
  ∀ vs H' F', Rel C H' σ env' F' → Step H (Om F) H' (Om F') → DenL C.W H' (Th F' C.Z) vs ds → Q vs H'

theorem rbind {α β : Type} {r : Rs α} {f : α → Rs β} {b : β} (h : (r >>= f) = .ok b) : ∃ a, r = .ok a ∧ f a = .ok b := by
  cases r with
  | ok a => exact ⟨a, rfl, h⟩
  | exc c ds => cases h
  | bad => cases h
theorem rof {α : Type} {o : Option α} {a : α} (h : Rs.of o = .ok a) : o = some a := by
  cases o with
  | none => cases h
  | some b => cases h; rfl

section
variable {X : Cx} {C : RC} {e : Expr}

/-- from an operand to a value -/
theorem tX.val {g : Env → Rs (Opd × Env)} (h : PE X e (tX C g)) : PE X e (tV C fun env => asV (g env)) := PE.imp h fun σ H Q ⟨env, F, R, d, env', hg, k⟩ => by
  obtain ⟨⟨x, env1⟩, h1, h2⟩ := rbind (show (g env >>= _) = _ from hg)
  obtain ⟨d', h3, h4⟩ := rbind h2
  cases h4
  cases x with
  | s i => cases rof h3
  | d y =>
    cases rof h3
    exact ⟨env, F, R, .d d, env', h1, fun v H' F' R' s o => k v H' F' R' s o⟩
theorem tV.opd {g : Env → Rs (D × Env)} (h : PE X e (tV C g)) : PE X e (tX C fun env => do let (d, env1) ← g env; .ok (.d d, env1)) := PE.imp h fun σ H Q ⟨env, F, R, x, env', hg, k⟩ => by
  obtain ⟨⟨d, env1⟩, h1, h2⟩ := rbind (show (g env >>= _) = _ from hg)
  cases h2
  exact ⟨env, F, R, d, env', h1, fun v H' F' R' s o => k v H' F' R' s o⟩
/-- what an operand is, where it is looked at -/
def Lk (W : Wd) (H : Hp) (Z : Addr → Prop) (v : V) : D → Prop
  | .list ds => ∃ a xs, v = .ref a ∧ H a = some (.lst xs) ∧ DenL W H Z xs ds
  | .dict kvs => (∃ a ks, v = .ref a ∧ H a = some (dHO W a ks) ∧ DenKV W H Z ks kvs) ∨ ∃ a n, v = .ref a ∧ kvs = [(.none, .int n)]
  | d => Den W H Z v d
theorem Den.lk {W : Wd} {H : Hp} {Z : Addr → Prop} {v : V} {d : D} (h : Den W H Z v d) : Lk W H Z v d := by
  cases h with
  | non => exact .non
  | bl b => exact .bl b
  | int i => exact .int i
  | str x => exact .str x
  | lst e _ l => exact ⟨_, _, rfl, e, l⟩
  | tup e l => exact .tup e l
  | dic e _ l => exact .inl ⟨_, _, rfl, e, l⟩
  | fnv h => exact .inr ⟨_, _, rfl, rfl⟩
theorem OpdAt.lk {H : Hp} {σ : VE.St} {env : Env} {F : Nat → List Addr} {v : V} {x : Opd} {d : D} (R : Rel C H σ env F) (o : OpdAt C H σ F v x) (hd : deref env x = some d) : Lk C.W H (Th F C.Z) v d := by
  cases x with
  | d y => cases hd; exact Den.lk o
  | s i =>
    have o : σ[i]? = some (some v) := o
    unfold deref at hd
    cases e : env[i]? with
    | none => simp [e] at hd
    | some s =>
      have q := R.sl i s e
      rw [o] at q
      simp only [e] at hd
      cases s with
      | no => cases hd
      | scr ns => cases hd
      | val y =>
        cases hd
        obtain ⟨_, v', h1, h2⟩ := q
        cases h1
        exact h2.lk
      | lent ds =>
        cases hd
        obtain ⟨a, xs, h1, _, h3, h4⟩ := q
        cases h1
        exact ⟨a, xs, rfl, h3, h4⟩
      | own u p =>
        obtain ⟨a, h1, h2⟩ := q
        cases h1
        cases u with
        | lst ds => cases hd; obtain ⟨_, xs, h3, h4⟩ := h2; exact ⟨a, xs, rfl, h3, h4⟩
        | dic ds => cases hd; obtain ⟨_, xs, h3, h4⟩ := h2; exact .inl ⟨a, xs, rfl, h3, h4⟩
        | dil ds => cases hd

/-- an operation of one value: what it asks -/
def rU1 (C : RC) (op : D → Option D) : V → Hp → VK → Prop := fun v H Q => ∃ F d r, (∀ a, Th F C.Z a → H a ≠ none) ∧ Lk C.W H (Th F C.Z) v d ∧ op d = some r ∧
  ∀ v' H', Same H H' → Den C.W H' (Th F C.Z) v' r → Q v' H'
def rU2 (C : RC) (op : D → D → Option D) : V → V → Hp → VK → Prop := fun v u H Q => ∃ F d e r, (∀ a, Th F C.Z a → H a ≠ none) ∧ Lk C.W H (Th F C.Z) v d ∧ Lk C.W H (Th F C.Z) u e ∧ op d e = some r ∧
  ∀ v' H', Same H H' → Den C.W H' (Th F C.Z) v' r → Q v' H'

theorem un_run {op : D → Option D} {g : Env → Rs (Opd × Env)} {ea : Expr} (ha : PE X ea (tX C g)) (mk : PE X ea (tX C g) → PE X e (fun σ H Q => tX C g σ H fun v H1 => rU1 C op v H1 Q)) :
    PE X e (tX C fun env => do let (x, env1) ← g env; let d ← Rs.of (deref env1 x); let r ← Rs.of (op d); .ok (.d r, env1)) := PE.imp (mk ha) fun σ H Q ⟨env, F, R, y, env', hg, k⟩ => by
  obtain ⟨⟨x, env1⟩, h1, h2⟩ := rbind (show (g env >>= _) = _ from hg)
  obtain ⟨d, h3, h4⟩ := rbind h2
  obtain ⟨r, h5, h6⟩ := rbind h4
  cases h6
  refine ⟨env, F, R, x, env', h1, fun v H1 F1 R1 s1 o1 => ⟨F1, d, r, fun a h => R1.thdom h, o1.lk R1 (rof h3), rof h5, fun v' H2 sm dn => ?_⟩⟩
  exact k v' H2 F1 (R1.same sm) (s1.trans (Step.same sm)) dn
theorem bin_run {op : D → D → Option D} {g h : Env → Rs (Opd × Env)} {ea eb : Expr} (ha : PE X ea (tX C g)) (hb : PE X eb (tX C h))
    (mk : PE X ea (tX C g) → PE X eb (tX C h) → PE X e (fun σ H Q => tX C g σ H fun v H1 => tX C h σ H1 fun u H2 => rU2 C op v u H2 Q)) :
    PE X e (tX C fun env => do let (x, env1) ← g env; let (y, env2) ← h env1; let d ← Rs.of (deref env2 x); let e ← Rs.of (deref env2 y); let r ← Rs.of (op d e); .ok (.d r, env2)) := PE.imp (mk ha hb) fun σ H Q ⟨env, F, R, z, env', hg, k⟩ => by
  obtain ⟨⟨x, env1⟩, h1, h2⟩ := rbind (show (g env >>= _) = _ from hg)
  obtain ⟨⟨y, env2⟩, h3, h4⟩ := rbind h2
  obtain ⟨d, h5, h6⟩ := rbind h4
  obtain ⟨d2, h7, h8⟩ := rbind h6
  obtain ⟨r, h9, h10⟩ := rbind h8
  cases h10
  refine ⟨env, F, R, x, env1, h1, fun v H1 F1 R1 s1 o1 => ⟨env1, F1, R1, y, env', h3, fun u H2 F2 R2 s2 o2 => ?_⟩⟩
  have o1' : OpdAt C H2 σ F2 v x := by
    cases x with
    | d w => exact Den.step (s2.plus C.Z) o1
    | s i => exact o1
  exact ⟨F2, d, d2, r, fun a h => R2.thdom h, o1'.lk R2 (rof h5), o2.lk R2 (rof h7), rof h9, fun v' H3 sm dn => k v' H3 F2 (R2.same sm) ((s1.trans s2).trans (Step.same sm)) dn⟩
end
end VE
/-! VE6: operations -/
namespace VE
open PySem PySem.Spec
        PyProof.Rows L2

structure Fit (X : Cx) (C : RC) : Prop where
  P : C.W.P = X.prog
  w : C.W.w = X.w
  K : C.W.K = X.K
  calm : X.calm = true
  nd : X.N.Nodup
  po : PassesOwn (model X.prog X.w) X.A X.env X.xe

/-- no star, no set display -/
def star0 : Expr → Bool
  | .Starred .. => false
  | .Set .. => false
  | _ => true
theorem star_of {e : Expr} (h : star0 e = true) (es : List Expr) (env : PySem.Env) : starEach (e :: es) env = (false, eval e env) :: starEach es env := by
  cases e <;> first | rfl | cases h
theorem any_of {e : Expr} (h : star0 e = true) (pos : Pos) (es : List Expr) (env : PySem.Env) (t : (backTo pos (starEach es env)).any (·.1) = false) : (backTo pos (starEach (e :: es) env)).any (·.1) = false := by
  rw [star_of h]; exact t
theorem marks_of {e : Expr} (h : star0 e = true) (op : CmpOp) : behindInMarks op e = false := by
  cases e <;> first | rfl | cases h

theorem CallR.or {X : Cx} {f : Value} {r1 r2 : List V → Hp → VK → Prop} (a : CallR X f r1) (b : CallR X f r2) : CallR X f (fun vs H Q => r1 vs H Q ∨ r2 vs H Q) :=
  fun pins s σ H xs us Q I r h => h.elim (a pins s σ H xs us Q I r) (b pins s σ H xs us Q I r)
theorem CallR.imp {X : Cx} {f : Value} {r1 r2 : List V → Hp → VK → Prop} (a : CallR X f r1) (k : ∀ vs H Q, r2 vs H Q → r1 vs H Q) : CallR X f r2 :=
  fun pins s σ H xs us Q I r h => a pins s σ H xs us Q I r (k _ _ _ h)
theorem OpR.or {X : Cx} {f : Value → Value → Sem Value} {r1 r2 : R2} (a : OpR X f r1) (b : OpR X f r2) : OpR X f (fun x y H Q => r1 x y H Q ∨ r2 x y H Q) :=
  fun pins s σ H x y v u Q I rx ry h => h.elim (a pins s σ H x y v u Q I rx ry) (b pins s σ H x y v u Q I rx ry)
theorem OpR.imp {X : Cx} {f : Value → Value → Sem Value} {r1 r2 : R2} (a : OpR X f r1) (k : ∀ x y H Q, r2 x y H Q → r1 x y H Q) : OpR X f r2 :=
  fun pins s σ H x y v u Q I rx ry h => a pins s σ H x y v u Q I rx ry (k _ _ _ _ h)

section
variable {X : Cx} {C : RC} {ea eb : Expr} {g h : Env → Rs (Opd × Env)} {p pos p2 : Pos}

/-- a call of a built-in function of one argument -/
theorem un_callB {id : String} {nm : Str} {op : D → Option D} {r : List V → Hp → VK → Prop} (hc : CallR X (.builtin id) r) (hg : Gl X nm) (hm : X.mg nm = none) (hv : bootBuiltins nm = some (.builtin id)) (hn : nm ≠ "__name__") (hdb : (nm == ("__debug__" : Str)) = false)
    (hs : star0 ea = true) (hr : ∀ v H Q, rU1 C op v H Q → r [v] H Q) (ha : PE X ea (tX C g)) :
    PE X (.Call (.Name nm p) [ea] [] pos) (tX C fun env => do let (x, env1) ← g env; let d ← Rs.of (deref env1 x); let r ← Rs.of (op d); .ok (.d r, env1)) :=
  un_run ha fun ha => PE.imp (pe_callB hc hg hm hv (pa_cons ha pa_nil (star_of hs [] _)) hn hdb (star_of hs [] _) rfl) fun σ H Q ⟨env, F, R, y, env', hg, k⟩ => ⟨env, F, R, y, env', hg, fun v H' F' R' s o => hr v H' Q (k v H' F' R' s o)⟩
theorem un_callT {T : String} {nm : Str} {op : D → Option D} {r : List V → Hp → VK → Prop} (hc : CallR X (.type T) r) (hg : Gl X nm) (hm : X.mg nm = none) (hv : bootBuiltins nm = some (.type T)) (hn : nm ≠ "__name__") (hdb : (nm == ("__debug__" : Str)) = false)
    (hs : star0 ea = true) (hr : ∀ v H Q, rU1 C op v H Q → r [v] H Q) (ha : PE X ea (tX C g)) :
    PE X (.Call (.Name nm p) [ea] [] pos) (tX C fun env => do let (x, env1) ← g env; let d ← Rs.of (deref env1 x); let r ← Rs.of (op d); .ok (.d r, env1)) :=
  un_run ha fun ha => PE.imp (pe_callTy hc hg hm hv (pa_cons ha pa_nil (star_of hs [] _)) hn hdb (star_of hs [] _) rfl) fun σ H Q ⟨env, F, R, y, env', hg, k⟩ => ⟨env, F, R, y, env', hg, fun v H' F' R' s o => hr v H' Q (k v H' F' R' s o)⟩
end

section
variable {X : Cx} {C : RC}

theorem rr_len (f : Fit X C) : CallR X (.builtin "len") (fun vs H Q => ∃ v, vs = [v] ∧ rU1 C (uop .len) v H Q) :=
  CallR.imp (CallR.or call_len_seq call_len_str) fun vs H Q ⟨v, e, F, d, r, hd, lk, ho, k⟩ => by
    subst e
    cases d with
    | list ds =>
      cases ho
      obtain ⟨a, xs, rfl, ha, l⟩ := lk
      refine .inl ⟨a, xs, rfl, .inl (.inl (.inl ha)), k _ _ (Same.refl H) ?_⟩
      rw [l.length]; exact .int _
    | tuple ds =>
      cases ho
      cases lk with
      | tup ha l =>
        refine .inl ⟨_, _, rfl, .inr (f.K ▸ ha), k _ _ (Same.refl H) ?_⟩
        rw [l.length]; exact .int _
    | str x =>
      cases lk
      by_cases hx : x.length ≤ sizeLine
      · have ho : (if x.length ≤ sizeLine then some (PyData.int x.length) else none) = some r := ho
        rw [if_pos hx] at ho
        cases ho
        exact .inr ⟨x, rfl, hx, k _ _ (Same.refl H) (.int _)⟩
      · have ho : (if x.length ≤ sizeLine then some (PyData.int x.length) else none) = some r := ho
        rw [if_neg hx] at ho
        cases ho
    | none => cases ho
    | bool b => cases ho
    | int i => cases ho
    | dict kvs => cases ho
theorem rr_int (f : Fit X C) : CallR X (.type "int") (fun vs H Q => ∃ v, vs = [v] ∧ rU1 C (uop .toInt) v H Q) :=
  CallR.imp call_int1 fun vs H Q ⟨v, e, F, d, r, hd, lk, ho, k⟩ => by
    subst e
    cases d <;> first | (cases ho; done) | skip
    cases ho
    cases lk
    exact .inl ⟨_, rfl, k _ _ (Same.refl H) (.int _)⟩
theorem rr_tup (f : Fit X C) : CallR X (.type "tuple") (fun vs H Q => ∃ v, vs = [v] ∧ rU1 C (uop .toTup) v H Q) :=
  CallR.imp call_tuple_of fun vs H Q ⟨v, e, F, d, r, hd, lk, ho, k⟩ => by
    subst e
    cases d <;> first | (cases ho; done) | skip
    · cases ho
      obtain ⟨a, xs, rfl, ha, l⟩ := lk
      refine ⟨a, xs, rfl, .inl ⟨.inl (.inl ha), fun q nq => k _ _ (fun b o e => by rw [upd_ne (ne_of_none e nq)]; exact e) ?_⟩⟩
      exact .tup (.inl (.inl upd_same)) (l.step (Step.new nq))
    · cases ho
      cases lk with
      | tup ha l => exact ⟨_, _, rfl, .inr ⟨f.K ▸ ha, k _ _ (Same.refl H) (.tup ha l)⟩⟩
theorem intsOf_den {W : Wd} {H : Hp} {Z : Addr → Prop} : ∀ {ds : List D} {xs : List V} {is : List Int}, intsOf ds = some is → DenL W H Z xs ds → xs = is.map V.int
  | [], _, _, e, l => by cases e; cases l; rfl
  | d :: ds, _, is, e, l => by
    cases d <;> first | (cases e; done) | skip
    rename_i i
    cases l with
    | cons a t =>
      cases a
      have e : (intsOf ds).map (i :: ·) = some is := e
      cases q : intsOf ds with
      | none => rw [q]
              at e; cases e
      | some js =>
        rw [q] at e
        cases e
        rw [intsOf_den q t, List.map_cons]
theorem foldl_max : ∀ (is : List Int) (i : Int), (∀ m, (m = i ∨ m ∈ is) → (∀ y, (y = i ∨ y ∈ is) → y ≤ m) → m = is.foldl max i)
  | [], i, m, h1, _ => h1.elim id fun z => by cases z
  | j :: is, i, m, h1, h2 => by
    rw [List.foldl_cons]
    have hi := h2 i (.inl rfl)
    have hj := h2 j (.inr List.mem_cons_self)
    refine foldl_max is (max i j) m ?_ fun y hy => ?_
    · rcases h1 with rfl | h1
      · exact .inl (by omega)
      · rcases List.mem_cons.mp h1 with rfl | h1
        · exact .inl (by omega)
        · exact .inr h1
    · rcases hy with rfl | hy
      · omega
      · exact h2 y (.inr (List.mem_cons_of_mem _ hy))
theorem rr_max (f : Fit X C) : CallR X (.builtin "max") (fun vs H Q => ∃ v, vs = [v] ∧ rU1 C (uop .maxL) v H Q) :=
  CallR.imp (cr_max f.calm) fun vs H Q ⟨v, e, F, d, r, hd, lk, ho, k⟩ => by
    subst e
    cases d <;> first | (cases ho; done) | skip
    rename_i ds
    have ho : ((intsOf ds).bind maxI).map PyData.int = some r := ho
    cases q : intsOf ds with
    | none => rw [q] at ho; cases ho
    | some is =>
      rw [q] at ho
      cases is with
      | nil => cases ho
      | cons i is =>
        cases ho
        obtain ⟨a, xs, rfl, ha, l⟩ := lk
        have ex := intsOf_den q l
        refine ⟨a, i :: is, rfl, .inl (.inl (by rw [← ex]; exact ha)), Nat.succ_pos _, fun m h1 h2 => k _ _ (Same.refl H) ?_⟩
        have e := foldl_max is i m (by simpa using h1) fun y hy => h2 y (by simpa using hy)
        rw [← e]
        exact .int m
/-- a value's built-in class -/
def tyOf : D → String
  | .none => "NoneType"
  | .bool _ => "bool"
  | .int _ => "int"
  | .str _ => "str"
  | .list _ => "list"
  | .tuple _ => "tuple"
  | .dict _ => "dict"
theorem Lk.ty {W : Wd} {H : Hp} {Z : Addr → Prop} {v : V} {d : D} (h : Lk W H Z v d) (hd : ∀ kvs, d ≠ .dict kvs) : TyX W.K H v (.type (tyOf d)) := by
  cases d with
  | dict kvs => exact absurd rfl (hd kvs)
  | list ds => obtain ⟨a, xs, rfl, ha, _⟩ := h; exact .base (.lst ha)
  | none => cases h; exact .base .non
  | bool b => cases h; exact .base (.bl b)
  | int i => cases h; exact .base (.int i)
  | str x => cases h; exact .base (.str x)
  | tuple ds =>
    cases h with
    | tup ha _ =>
      rcases ha with (ha | ⟨o, ha⟩) | ⟨o, its, n, e, c, _⟩
      · exact .base (.tup ha)
      · exact .fTuple ha
      · exact .kTuple e c
/-- the class that a test asks for -/
def isT : Uop → Option String
  | .isInt => some "int"
  | .isStr => some "str"
  | .isTup => some "tuple"
  | .isBool => some "bool"
  | .isList => some "list"
  | _ => none
theorem isT_kit : ∀ (op : Uop) (T : String), isT op = some T → ∀ (d : D) (r : D), uop op d = some r → (∀ kvs, d ≠ .dict kvs) ∧ ∃ b, r = .bool b ∧ kitB (tyOf d) T = some b := by
  intro op T h d r e
  cases op <;> first | (cases h; done) | skip
  all_goals
    cases h
    cases d <;> first | (cases e; done) | (cases e; exact ⟨fun _ q => (by cases q), _, rfl, by simp only [tyOf]; decide +kernel⟩)
theorem rr_isi (f : Fit X C) {op : Uop} {T : String} (hT : isT op = some T) : CallR X (.builtin "isinstance") (fun vs H Q => ∃ v, vs = [v, .ty T] ∧ rU1 C (uop op) v H Q) :=
  CallR.imp call_isi fun vs H Q ⟨v, e, F, d, r, hd, lk, ho, k⟩ => by
    subst e
    obtain ⟨h1, b, rfl, h2⟩ := isT_kit op T hT d r ho
    exact ⟨v, .ty T, _, _, b, rfl, .ty T, f.K ▸ lk.ty h1, kit_ty h2, k _ _ (Same.refl H) (.bl b)⟩
theorem isSeq_kit (K : PySem.W.Frag) : ∀ (d : D) (r : D), uop .isSeq d = some r → (∀ kvs, d ≠ .dict kvs) ∧ ∃ b, r = .bool b ∧ PySem.W.kitAny K (.type (tyOf d)) [.type "tuple", .type "list"] = some b := by
  intro d r e
  cases d <;> first | (cases e; done) | skip
  all_goals
    cases e
    refine ⟨fun _ q => (by cases q), _, rfl, ?_⟩
  all_goals first
    | exact kitAny_cons (b := false) (kit_ty (by simp only [tyOf]; decide +kernel)) (fun _ => kitAny_cons (b := false) (kit_ty (by simp only [tyOf]; decide +kernel)) (fun _ => kitAny_nil) (fun z => by cases z)) (fun z => by cases z)
    | exact kitAny_cons (b := false) (kit_ty (by simp only [tyOf]; decide +kernel)) (fun _ => kitAny_cons (b := true) (kit_ty (by simp only [tyOf]; decide +kernel)) (fun z => by cases z) (fun _ => rfl)) (fun z => by cases z)
    | exact kitAny_cons (b := true) (kit_ty (by simp only [tyOf]; decide +kernel)) (fun z => by cases z) (fun _ => rfl)
theorem rr_isSeq (f : Fit X C) : CallR X (.builtin "isinstance") (fun vs H Q => ∃ v tp, vs = [v, .ref tp] ∧ H tp = some (.tup [.ty "tuple", .ty "list"]) ∧ rU1 C (uop .isSeq) v H Q) :=
  CallR.imp call_isiT fun vs H Q ⟨v, tp, e, ht, F, d, r, hd, lk, ho, k⟩ => by
    subst e
    obtain ⟨h1, b, rfl, h2⟩ := isSeq_kit X.K d r ho
    exact ⟨v, tp, _, _, _, b, rfl, ht, .cons (.ty _) (.cons (.ty _) .nil), f.K ▸ lk.ty h1, h2, k _ _ (Same.refl H) (.bl b)⟩
end
end VE
/-! VE7: operations of two values -/
namespace VE
open PySem PySem.Spec
        PyProof.Rows L2

section
variable {X : Cx} {pins : List (Addr × Obj)} {σ : VE.St} {H : Hp} {s : Shared} {W : Wd} {Z : Addr → Prop}
mutual
/-- as a key -/
theorem Den.nested (I : Inv X pins σ H s) (hK : W.K = X.K) : ∀ (d : D) (v : V) (u : Value) (k : NestedKey), Den W H Z v d → RelV v u → nkey d = some k → NestedIs s.heap k u
  | .none, _, _, _, h, r, e => by cases h; cases e; cases r; exact .none
  | .bool b, _, _, _, h, r, e => by cases h; cases e; cases r; exact .bool rfl
  | .int i, _, _, _, h, r, e => by
    cases h; cases e
    obtain ⟨t, rfl⟩ := r
    exact .int i t
  | .str x, _, _, _, h, r, e => by
    cases h; cases e
    obtain ⟨t, rfl⟩ := r
    exact .text x t
  | .list _, _, _, _, _, _, e => by cases e
  | .dict _, _, _, _, _, _, e => by cases e
  | .tuple ds, _, _, k, h, r, e => by
    cases h with
    | tup hs l =>
      cases r
      obtain ⟨its, rv, ⟨o, ho, hc, n, hd⟩, _⟩ := I.tuple (hK ▸ hs)
      simp only [nkey] at e
      cases q : nkeys ds with
      | none => simp only [q] at e; cases e
      | some ks =>
        simp only [q] at e
        cases e
        exact .tup ho hc hd (by simpa using DenL.nested I hK ds _ its ks l rv q)
theorem DenL.nested (I : Inv X pins σ H s) (hK : W.K = X.K) : ∀ (ds : List D) (vs : List V) (us : List Value) (ks : List NestedKey), DenL W H Z vs ds → Vals vs us → nkeys ds = some ks → NestedAll s.heap ks us
  | [], _, _, _, h, r, e => by cases h; cases r; cases e; exact .nil
  | d :: ds, _, _, ks, h, r, e => by
    cases h with
    | cons a t =>
      cases r with
      | cons r1 r2 =>
        simp only [nkeys] at e
        cases q1 : nkey d with
        | none => simp only [q1] at e; cases e
        | some k =>
          cases q2 : nkeys ds with
          | none => simp only [q1, q2] at e; cases e
          | some ks' =>
            simp only [q1, q2] at e
            cases e
            exact .cons (Den.nested I hK d _ _ k a r1 q1) (DenL.nested I hK ds _ _ ks' t r2 q2)
end
theorem EntP.length {ks : List (NestedKey × Addr × V)} {xs : List (NestedKey × Addr × Value)} (e : EntP ks xs) : ks.length = xs.length := Paired.length e
theorem DenKV.is (I : Inv X pins σ H s) (hK : W.K = X.K) : ∀ {ks : List (NestedKey × Addr × V)} {kvs : List (D × D)} {xs : List (NestedKey × Addr × Value)}, DenKV W H Z ks kvs → EntP ks xs → ∀ x ∈ xs, (nestedKind X.prog X.w).is s.heap x.1 x.2.1
  | _, _, _, .nil, e, x, hx => by cases e; cases hx
  | _, _, _, .cons a n q _ t, e, x, hx => by
    cases e with
    | cons e1 e2 =>
      rcases List.mem_cons.mp
              hx with rfl | hx
      · obtain ⟨h1, h2, _⟩ := e1
        rw [← h1, ← h2]
        exact ⟨Den.nested I hK _ _ _ _ a rfl n, q⟩
      · exact DenKV.is I hK t e2 x hx
/-- the dict as the library tells it -/
theorem dict_of (I : Inv X pins σ H s) (hP : W.P = X.prog) (hw : W.w = X.w) (hK : W.K = X.K) {a : Addr} {ks : List (NestedKey × Addr × V)} {kvs : List (D × D)} (ha : H a = some (dHO W a ks)) (l : DenKV W H Z ks kvs) :
    ∃ xs, EntP ks xs ∧ s.heap.DictOfH (nestedKind X.prog X.w) a xs ∧ (a == sysModules) = false ∧ ks.length ≤ sizeLine := by
  obtain ⟨⟨z, y, xs, e, nd, o, es, ep, ho, hx, hd, he⟩, _⟩ := (show ObjOk X.prog X.w H s.heap a (dHO W a ks) from I.hok a _ ha)
  exact ⟨xs, e, ⟨o, es, ep, ho, hx, hd, by rw [he, hP, hw], l.is I hK e, nd⟩, y, z⟩
theorem hasKey_at : ∀ {ks : List (NestedKey × Addr × V)} {kvs : List (D × D)} {xs : List (NestedKey × Addr × Value)} (k : NestedKey), DenKV W H Z ks kvs → EntP ks xs → (atKey xs k).isSome = hasKey kvs k
  | _, _, _, k, .nil, e => by cases e; rfl
  | (k', b, v) :: ks, (kd, vd) :: kvs, _, k, .cons a n q c t, e => by
    cases e with
    | @cons _ x _ xs e1 e2 =>
      have ih := hasKey_at k t e2
      obtain ⟨h1, _⟩ := e1
      have h1 : k' = x.1 := h1
      unfold hasKey atKey at ih ⊢
      rw [List.find?_cons, List.any_cons]
      simp only [n]
      by_cases hk : x.1 = k
      · rw [h1, decide_eq_true hk]; rfl
      · rw [h1, decide_eq_false hk]
        simpa using ih
end

theorem Lk.dp {W : Wd} {H : Hp} {Z : Addr → Prop} {v : V} {d : D} (h : Lk W H Z v d) (c : PyData.canLay0 d = true) : Dp W.K H v d := by
  cases d with
  | dict kvs => simp [PyData.canLay0] at c
  | list ds =>
    obtain ⟨a, xs, rfl, ha, l⟩ := h
    exact .lst (.inl (.inl ha)) (DenL.dp ds l (by simpa [PyData.canLay0] using c))
  | none => exact Den.dp _ h (.inr trivial) c
  | bool b => exact Den.dp _ h (.inr trivial) c
  | int i => exact Den.dp _ h (.inr trivial) c
  | str x => exact Den.dp _ h (.inr trivial) c
  | tuple ds => exact Den.dp _ h (.inr trivial) c
theorem shaped_lay {d : D} (h : SeqAt.shaped d = true) : PyData.canLay0 d = true := SeqAt.canLay_of_shaped h

section
variable {X : Cx} {C : RC}

theorem rb_add (f : Fit X C) : OpR X (binaryOp .Add) (rU2 C (bop .add)) :=
  OpR.imp (OpR.or op_add (OpR.or op_add_str (OpR.or op_cat op_catA))) fun x y H Q ⟨F, d, e, r, hd, l1, l2, ho, k⟩ => by
    cases d <;> cases e <;> first | (cases ho; done) | skip
    · cases ho; cases l1; cases l2
      exact .inl ⟨_, _, rfl, rfl, k _ _ (Same.refl H) (.int _)⟩
    · rename_i a b
      cases l1; cases l2
      have ho : (if a.length + b.length ≤ sizeLine then some (PyData.str (a ++ b)) else none) = some r := ho
      by_cases hl : a.length + b.length ≤ sizeLine
      · rw [if_pos hl] at ho; cases ho
        exact .inr (.inl ⟨_, _, rfl, rfl, hl, k _ _ (Same.refl H) (.str _)⟩)
      · rw [if_neg hl] at ho; cases ho
    · rename_i as bs
      obtain ⟨p, xs, rfl, hp, m1⟩ := l1
      obtain ⟨q, ys, rfl, hq, m2⟩ := l2
      have ho : (if as.length + bs.length ≤ sizeLine then some (PyData.list (as ++ bs)) else none) = some r := ho
      by_cases hl : as.length + bs.length ≤ sizeLine
      · rw [if_pos hl] at ho; cases ho
        refine .inr (.inr (.inl ⟨p, q, xs, ys, rfl, rfl, hp, hq, by rw [m1.length, m2.length]; exact hl, fun t nt => k _ _ (fun b o e => by rw [upd_ne (ne_of_none e nt)]; exact e) ?_⟩))
        exact .lst upd_same (fun z => hd t z nt) ((m1.append m2).step (Step.new nt))
      · rw [if_neg hl] at ho; cases ho
    · rename_i as bs
      cases l1 with
      | @tup p xs _ hp m1 =>
        cases l2 with
        | @tup q ys _ hq m2 =>
          have ho : (if as.length + bs.length ≤ sizeLine then some (PyData.tuple (as ++ bs)) else none) = some r := ho
          by_cases hl : as.length + bs.length ≤ sizeLine
          · rw [if_pos hl] at ho; cases ho
            refine .inr (.inr (.inr ⟨p, q, xs, ys, rfl, rfl, f.K ▸ hp, f.K ▸ hq, by rw [m1.length, m2.length]; exact hl, fun e => k _ _ (Same.refl H) ?_, fun _ e => k _ _ (Same.refl H) ?_, fun _ _ t nt => k _ _ (fun b o e => by rw [upd_ne (ne_of_none e nt)]; exact e) ?_⟩))
            · subst e; cases m1; exact .tup hq m2
            · subst e; cases m2; rw [List.append_nil]; exact .tup hp m1
            · exact .tup (.inl (.inl upd_same)) ((m1.append m2).step (Step.new nt))
          · rw [if_neg hl] at ho; cases ho
theorem rb_sub : OpR X (binaryOp .Sub) (rU2 C (bop .sub)) := OpR.imp op_sub fun x y H Q ⟨F, d, e, r, hd, l1, l2, ho, k⟩ => by
  cases d <;> cases e <;> first | (cases ho; done) | skip
  cases ho; cases l1; cases l2
  exact ⟨_, _, rfl, rfl, k _ _ (Same.refl H) (.int _)⟩
theorem rb_mod : OpR X (binaryOp .Mod) (rU2 C (bop .mod)) := OpR.imp op_mod fun x y H Q ⟨F, d, e, r, hd, l1, l2, ho, k⟩ => by
  cases d <;> cases e <;> first | (cases ho; done) | skip
  rename_i i j
  cases l1; cases l2
  have ho : (if 0 < j then some (PyData.int (i % j)) else none) = some r := ho
  by_cases hj : 0 < j
  · rw [if_pos hj] at ho; cases ho
    exact ⟨_, _, rfl, rfl, hj, k _ _ (Same.refl H) (.int _)⟩
  · rw [if_neg hj] at ho; cases ho
theorem rb_fdiv : OpR X (binaryOp .FloorDiv) (rU2 C (bop .fdiv)) := OpR.imp op_fdivW fun x y H Q ⟨F, d, e, r, hd, l1, l2, ho, k⟩ => by
  cases d <;> cases e <;> first | (cases ho; done) | skip
  rename_i i j
  cases l1; cases l2
  have ho : (if 0 < j ∧ j.natAbs.log2 < 9000 then some (PyData.int (i / j)) else none) = some r := ho
  by_cases hj : 0 < j ∧ j.natAbs.log2 < 9000
  · rw [if_pos hj] at ho; cases ho
    exact ⟨_, _, rfl, rfl, hj, k _ _ (Same.refl H) (.int _)⟩
  · rw [if_neg hj] at ho; cases ho
theorem rb_pow : OpR X (binaryOp .Pow) (rU2 C (bop .pow)) := OpR.imp op_pow fun x y H Q ⟨F, d, e, r, hd, l1, l2, ho, k⟩ => by
  cases d <;> cases e <;> first | (cases ho; done) | skip
  rename_i i j
  cases l1; cases l2
  have ho : (if 0 ≤ i ∧ i ≤ 10 ∧ 0 ≤ j ∧ j ≤ 60 then some (PyData.int (i ^ j.toNat)) else none) = some r := ho
  by_cases hj : 0 ≤ i ∧ i ≤ 10 ∧ 0 ≤ j ∧ j ≤ 60
  · rw [if_pos hj] at ho; cases ho
    exact ⟨_, _, rfl, rfl, ⟨hj.2.2.1, by omega, by omega⟩, k _ _ (Same.refl H) (.int _)⟩
  · rw [if_neg hj] at ho; cases ho
theorem rb_lt : OpR X (compareOp .Lt) (rU2 C (bop .lt)) := OpR.imp op_lt fun x y H Q ⟨F, d, e, r, hd, l1, l2, ho, k⟩ => by
  cases d <;> cases e <;> first | (cases ho; done) | skip
  cases ho; cases l1; cases l2
  exact ⟨_, _, rfl, rfl, k _ _ (Same.refl H) (.bl _)⟩
theorem rb_le : OpR X (compareOp .LtE) (rU2 C (bop .le)) := OpR.imp op_le fun x y H Q ⟨F, d, e, r, hd, l1, l2, ho, k⟩ => by
  cases d <;> cases e <;> first | (cases ho; done) | skip
  cases ho; cases l1; cases l2
  exact ⟨_, _, rfl, rfl, k _ _ (Same.refl H) (.bl _)⟩
theorem rb_gt : OpR X (compareOp .Gt) (rU2 C (bop .gt)) := OpR.imp op_gt fun x y H Q ⟨F, d, e, r, hd, l1, l2, ho, k⟩ => by
  cases d <;> cases e <;> first | (cases ho; done) | skip
  cases ho; cases l1; cases l2
  exact ⟨_, _, rfl, rfl, k _ _ (Same.refl H) (.bl _)⟩
theorem rb_ge : OpR X (compareOp .GtE) (rU2 C (bop .ge)) := OpR.imp op_ge fun x y H Q ⟨F, d, e, r, hd, l1, l2, ho, k⟩ => by
  cases d <;> cases e <;> first | (cases ho; done) | skip
  cases ho; cases l1; cases l2
  exact ⟨_, _, rfl, rfl, k _ _ (Same.refl H) (.bl _)⟩
theorem rb_eq (f : Fit X C) (hu : X.A.units + 66 < cLine) : OpR X (compareOp .Eq) (rU2 C (bop .eq)) := OpR.imp (op_eqD (by omega)) fun x y H Q ⟨F, d, e, r, hd, l1, l2, ho, k⟩ => by
  have ho : (if SeqAt.shaped d && SeqAt.shaped e then some (PyData.bool (PyData.eqv d e)) else none) = some r := by cases d <;> exact ho
  by_cases hs : (SeqAt.shaped d && SeqAt.shaped e) = true
  · rw [if_pos hs] at ho; cases ho
    rw [Bool.and_eq_true] at hs
    exact ⟨d, e, f.K ▸ l1.dp (shaped_lay hs.1), f.K ▸ l2.dp (shaped_lay hs.2), hs.1, hs.2, k _ _ (Same.refl H) (.bl _)⟩
  · rw [if_neg hs] at ho; cases ho
theorem rb_ne (f : Fit X C) (hu : X.A.units + 66 < cLine) : OpR X (compareOp .NotEq) (rU2 C (bop .ne)) := OpR.imp (op_neD (by omega)) fun x y H Q ⟨F, d, e, r, hd, l1, l2, ho, k⟩ => by
  have ho : (if SeqAt.shaped d && SeqAt.shaped e then some (PyData.bool (!PyData.eqv d e)) else none) = some r := by cases d <;> exact ho
  by_cases hs : (SeqAt.shaped d && SeqAt.shaped e) = true
  · rw [if_pos hs] at ho; cases ho
    rw [Bool.and_eq_true] at hs
    exact ⟨d, e, f.K ▸ l1.dp (shaped_lay hs.1), f.K ▸ l2.dp (shaped_lay hs.2), hs.1, hs.2, k _ _ (Same.refl H) (.bl _)⟩
  · rw [if_neg hs] at ho; cases ho
/-- in and not in, by one proof -/
theorem in_run (f : Fit X C) (hu : X.A.units + 66 < cLine) {pins : List (Addr × Obj)} {σ : VE.St} {H : Hp} {s : Shared} {x y : V} {v u : Value} {F : Nat → List Addr} {d e : D} {b : Bool} (I : Inv X pins σ H s) (rx : RelV x v) (ry : RelV y u)
    (l1 : Lk C.W H (Th F C.Z) x d) (l2 : Lk C.W H (Th F C.Z) y e) (ho : inD d e = some b) (neg : Bool) {Q : Value → Shared → Prop} (hq : ∀ t, Q (.bool (neg.xor b)) { s with toks := t }) (E : Value → Shared → Prop) :
    wpAny (model X.prog X.w) X.A (compareOp (if neg then .NotIn else .In) v u) Q E s := by
  cases e with
  | none => cases ho
  | bool _ => cases ho
  | int _ => cases ho
  | str _ => cases ho
  | list ds =>
    have ho : (if SeqAt.shaped d && SeqAt.shaped (.list ds) then some (ds.any fun z => PyData.eqv z d) else none) = some b := ho
    by_cases hs : (SeqAt.shaped d && SeqAt.shaped (.list ds)) = true
    · rw [if_pos hs] at ho; cases ho
      rw [Bool.and_eq_true] at hs
      obtain ⟨as, r1⟩ := Dp.reads I d x v (f.K ▸ l1.dp (shaped_lay hs.1)) rx
      obtain ⟨bs, r2⟩ := Dp.reads I (.list ds) y u (f.K ▸ l2.dp (shaped_lay hs.2)) ry
      cases neg with
      | false => exact SeqAt.in_list_reads r2 r1 (SeqAt.canLay_of_shaped hs.2) (SeqAt.canLay_of_shaped hs.1) (room_in_shaped hs.1 (by omega)) (by simpa using hq s.toks)
      | true => exact SeqAt.notIn_list_reads r2 r1 (SeqAt.canLay_of_shaped hs.2) (SeqAt.canLay_of_shaped hs.1) (room_in_shaped hs.1 (by omega)) (by simpa using hq s.toks)
    · rw [if_neg hs] at ho; cases ho
  | tuple ds =>
    have ho : (if SeqAt.shaped d && SeqAt.shaped (.tuple ds) then some (ds.any fun z => PyData.eqv z d) else none) = some b := ho
    by_cases hs : (SeqAt.shaped d && SeqAt.shaped (.tuple ds)) = true
    · rw [if_pos hs] at ho; cases ho
      rw [Bool.and_eq_true] at hs
      obtain ⟨as, r1⟩ := Dp.reads I d x v (f.K ▸ l1.dp (shaped_lay hs.1)) rx
      obtain ⟨bs, r2⟩ := Dp.reads I (.tuple ds) y u (f.K ▸ l2.dp (shaped_lay hs.2)) ry
      have hd := SeqAt.canLay_of_shaped hs.2
      cases neg with
      | false => exact SeqAt.in_tuple_reads r2 r1 (by simpa [PyData.canLay0] using hd) (SeqAt.canLay_of_shaped hs.1) (room_in_shaped hs.1 (by omega)) (by simpa using hq s.toks)
      | true => exact SeqAt.notIn_tuple_reads r2 r1 (by simpa [PyData.canLay0] using hd) (SeqAt.canLay_of_shaped hs.1) (room_in_shaped hs.1 (by omega)) (by simpa using hq s.toks)
    · rw [if_neg hs] at ho; cases ho
  | dict kvs =>
    cases d with
    | none => cases ho
    | bool _ => cases ho
    | int _ => cases ho
    | str _ => cases ho
    | list _ => cases ho
    | dict _ => cases ho
    | tuple ds =>
      unfold inD at ho
      simp only at ho
      cases hk : nkey (.tuple ds) with
      | none => rw [hk] at ho; cases ho
      | some k =>
        rw [hk] at ho
        simp only at ho
        by_cases hc : (decide (k.depth ≤ 8) && isReal kvs) = true
        · rw [if_pos hc] at ho; cases ho
          rw [Bool.and_eq_true] at hc
          rcases l2 with ⟨a, ks, rfl, ha, l⟩ | ⟨a, n, rfl, e⟩
          · cases (show u = Value.ref a from ry)
            obtain ⟨xs, ep, hm, ny, _⟩ := dict_of I f.P f.w f.K ha l
            have l1 : Den C.W H (Th F C.Z) x (.tuple ds) := l1
            obtain ⟨b2, hb2⟩ : ∃ b2, x = .ref b2 := by cases l1; exact ⟨_, rfl⟩
            subst hb2
            cases (show v = Value.ref b2 from rx)
            have ki : (nestedKind X.prog X.w).is s.heap k b2 := ⟨Den.nested I f.K _ _ _ _ l1 rfl hk, of_decide_eq_true hc.1⟩
            have hh := hasKey_at (W := C.W) (H := H) (Z := Th F C.Z) k l ep
            have room : (nestedKind X.prog X.w).room X.A.in1 := by show X.A.units + 1 + 8 < cLine; omega
            cases neg with
            | false => exact wpAny_in_heap room ki ny hm (by rw [hh]; simpa using hq _)
            | true =>
              show wpAny _ _ (do return .bool (!(← contains (.ref a) (.ref b2)))) Q E s
              exact wpAny_bind (wpAny_contains_heap room ki ny hm (wpAny_pure (by rw [hh]; simpa using hq _)))
          · subst e; cases hc.2
        · rw [if_neg hc] at ho; cases ho
theorem rb_in (f : Fit X C) (hu : X.A.units + 66 < cLine) : OpR X (compareOp .In) (rU2 C (bop .isin)) := fun pins s σ H x y v u Q I rx ry ⟨F, d, e, r, hd, l1, l2, ho, k⟩ => by
  have ho : (inD d e).map PyData.bool = some r := by cases d <;> exact ho
  cases q : inD d e with
  | none => rw [q] at ho; cases ho
  | some b =>
    rw [q] at ho; cases ho
    exact in_run f hu I rx ry l1 l2 q false (fun t => ⟨.bl b, H, I.tok t, by cases b <;> rfl, k _ _ (Same.refl H) (.bl b)⟩) _
theorem rb_notin (f : Fit X C) (hu : X.A.units + 66 < cLine) : OpR X (compareOp .NotIn) (rU2 C (bop .notin)) := fun pins s σ H x y v u Q I rx ry ⟨F, d, e, r, hd, l1, l2, ho, k⟩ => by
  have ho : (inD d e).map (fun c => PyData.bool !c) = some r := by cases d <;> exact ho
  cases q : inD d e with
  | none => rw [q] at ho; cases ho
  | some b =>
    rw [q] at ho; cases ho
    exact in_run f hu I rx ry l1 l2 q true (fun t => ⟨.bl (!b), H, I.tok t, by cases b <;> rfl, k _ _ (Same.refl H) (.bl _)⟩) _
end
end VE
/-! VE8: products, items, slices, is -/
namespace VE
open PySem PySem.Spec
        PyProof.Rows L2

section
variable {X : Cx} {C : RC}
theorem op_mulS : OpR X (binaryOp .Mult) (fun x y H Q => ∃ (i : Str) (j : Int), x = .str i ∧ y = .int j ∧ (0 ≤ j ∧ j < 2 ^ 40 ∧ i.length * j.toNat ≤ sizeLine) ∧ Q (.str (Txt.mul i j)) H) := by
  intro pins s σ H x
          y v u Q I rx ry h
  obtain ⟨i, j, rfl, rfl, ⟨h0, h1, h2⟩, q⟩ := h
  obtain ⟨t, rfl⟩ := rx
  obtain ⟨t', rfl⟩ := ry
  have hs := sizeLine_eq
  refine SB.mul ⟨?_, fun hn hb => ?_, fun hn hb => ?_⟩ fun t' k => ⟨.str (Txt.mul i j), H, I.tok k, ⟨_, rfl⟩, q⟩
  · rw [Bool.or_eq_false_iff]
    exact ⟨decide_eq_false (by omega), decide_eq_false (by omega)⟩
  · intro hgt
    have hp : 0 < j := by omega
    have hb2 : (i.length : Int) * j ≤ 16777216 := by
      have : ((i.length * j.toNat : Nat) : Int) = (i.length : Int) * j := by rw [Int.natCast_mul, Int.toNat_of_nonneg h0]
      omega
    have h3 : (i.length : Int) ≤ (2 ^ 63 - 1) / j := by
      rw [Int.le_ediv_iff_mul_le hp]
      omega
    omega
  · unfold Builtin.Str.tooLong
    rw [decide_eq_false_iff_not]
    omega
theorem rb_mul : OpR X (binaryOp .Mult) (rU2 C (bop .mul)) := OpR.imp (OpR.or op_mulX op_mulS) fun x y H Q ⟨F, d, e, r, hd, l1, l2, ho, k⟩ => by
  cases d <;> cases e <;> first | (cases ho; done) | skip
  · rename_i i j
    cases l1; cases l2
    have ho : (if mulOk i j then some (PyData.int (i * j)) else none) = some r := ho
    by_cases hj : mulOk i j = true
    · rw [if_pos hj] at ho; cases ho
      have hj' : Builtin.Int.intBits i + Builtin.Int.intBits j ≤ 134217728 := of_decide_eq_true hj
      exact .inl ⟨_, _, rfl, rfl, by unfold CMulX; omega, k _ _ (Same.refl H) (.int _)⟩
    · rw [if_neg hj] at ho; cases ho
  · rename_i i j
    cases l1; cases l2
    have ho : (if 0 ≤ j ∧ j < 2 ^ 40 ∧ i.length * j.toNat ≤ sizeLine then some (PyData.str (Txt.mul i j)) else none) = some r := ho
    by_cases hj : 0 ≤ j ∧ j < 2 ^ 40 ∧ i.length * j.toNat ≤ sizeLine
    · rw [if_pos hj] at ho; cases ho
      exact .inr ⟨_, _, rfl, rfl, hj, k _ _ (Same.refl H) (.str _)⟩
    · rw [if_neg hj] at ho; cases ho

theorem IxR.or {r1 r2 : R2} (a : IxR X r1) (b : IxR X r2) : IxR X (fun x y H Q => r1 x y H Q ∨ r2 x y H Q) :=
  fun ve se pins s σ H x y v u Q I rx ry h => h.elim (a ve se pins s σ H x y v u Q I rx ry) (b ve se pins s σ H x y v u Q I rx ry)
theorem IxR.imp {r1 r2 : R2} (a : IxR X r1) (k : ∀ x y H Q, r2 x y H Q → r1 x y H Q) : IxR X r2 :=
  fun ve se pins s σ H x y v u Q I rx ry h => a ve se pins s σ H x y v u Q I rx ry (k _ _ _ _ h)
theorem SlR.imp {r1 r2 : V → Option Int → Option Int → Hp → VK → Prop} (a : SlR X r1) (k : ∀ x l h H Q, r2 x l h H Q → r1 x l h H Q) : SlR X r2 :=
  fun pins s σ H x v vl vu lo hi sl Q I rx hs pl pu h => a pins s σ H x v vl vu lo hi sl Q I rx hs pl pu (k _ _ _ _ _ h)
theorem atI_den {W : Wd} {H : Hp} {Z : Addr → Prop} {xs : List V} {ds : List D} {i : Int} {d : D} (l : DenL W H Z xs ds) (h : atI ds i = some d) : ∃ v, atI xs i = some v ∧ Den W H Z v d := by
  unfold atI at h ⊢
  rw [l.length]
  cases q : ixN ds.length i with
  | none => rw [q] at h; cases h
  | some j =>
    rw [q] at h
    exact l.get (show ds[j]? = some d from h)
theorem rb_idx (f : Fit X C) : IxR X (rU2 C (bop .idx)) := IxR.imp (IxR.or ix_list (IxR.or ix_tup ix_str)) fun x y H Q ⟨F, d, e, r, hd, l1, l2, ho, k⟩ => by
  cases d <;> cases e <;> first | (cases ho; done) | skip
  · rename_i z i
    cases l1; cases l2
    have ho : (if z.length ≤ sizeLine then (atI z.cps.toList i).map fun c => PyData.str ⟨#[c]⟩ else none) = some r := ho
    by_cases hz : z.length ≤ sizeLine
    · rw [if_pos hz] at ho
      cases q : atI z.cps.toList i with
      | none => rw [q] at ho; cases ho
      | some c =>
        rw [q] at ho; cases ho
        exact .inr (.inr ⟨z, i, c, rfl, rfl, hz, q, k _ _ (Same.refl H) (.str _)⟩)
    · rw [if_neg hz] at ho; cases ho
  · rename_i ds i
    obtain ⟨a, xs, rfl, ha, l⟩ := l1
    cases l2
    obtain ⟨v, h1, h2⟩ := atI_den l ho
    exact .inl ⟨a, xs, i, v, rfl, rfl, .inl (.inl ha), h1, k _ _ (Same.refl H) h2⟩
  · rename_i ds i
    cases l2
    cases l1 with
    | tup ha l =>
      obtain ⟨v, h1, h2⟩ := atI_den l ho
      exact .inr (.inl ⟨_, _, i, v, rfl, rfl, f.K ▸ ha, h1, k _ _ (Same.refl H) h2⟩)
theorem cut_den {W : Wd} {H : Hp} {Z : Addr → Prop} {xs : List V} {ds : List D} {lo hi : Option Int} (l : DenL W H Z xs ds) : DenL W H Z (cutV xs lo hi) (cutL ds lo hi) := by
  unfold cutV cutL
  rw [l.length]
  exact (l.drop _).take _
/-- a slice, by values -/
def rS (C : RC) : V → Option Int → Option Int → Hp → VK → Prop := fun v lo hi H Q => ∃ F d r, (∀ a, Th F C.Z a → H a ≠ none) ∧ Lk C.W H (Th F C.Z) v d ∧
  (match d with | .list ds => some (PyData.list (cutL ds lo hi)) | .tuple ds => some (PyData.tuple (cutL ds lo hi)) | _ => none) = some r ∧ ∀ v' H', Same H H' → Den C.W H' (Th F C.Z) v' r → Q v' H'
theorem rb_sl (f : Fit X C) : SlR X (rS C) := SlR.imp (SlR.or sl_list sl_tupA) fun x lo hi H Q ⟨F, d, r, hd, l1, ho, k⟩ => by
  cases d <;> first | (cases ho; done) | skip
  · cases ho
    obtain ⟨a, xs, rfl, ha, l⟩ := l1
    refine .inl ⟨a, xs, rfl, .inl (.inl ha), fun q nq => k _ _ (fun b o e => by rw [upd_ne (ne_of_none e nq)]; exact e) ?_⟩
    exact .lst upd_same (fun z => hd q z nq) ((cut_den l).step (Step.new nq))
  · cases ho
    cases l1 with
    | @tup a xs _ ha l =>
      refine .inr ⟨a, xs, rfl, f.K ▸ ha, fun e => k _ _ (Same.refl H) ?_, fun _ q nq => k _ _ (fun b o e => by rw [upd_ne (ne_of_none e nq)]; exact e) ?_⟩
      · have hc : cutV xs lo hi = xs := by
          unfold cutV
          rw [e.1, e.2, List.drop_zero, Nat.sub_zero, List.take_length]
        have := cut_den (lo := lo) (hi := hi) l
        rw [hc] at this
        exact .tup ha this
      · exact .tup (.inl (.inl upd_same)) ((cut_den l).step (Step.new nq))
theorem ru_neg : UnR X (unaryOp .USub) (rU1 C (uop .neg)) := fun pins s σ H x v Q I rx ⟨F, d, r, hd, lk, ho, k⟩ => by
  cases d <;> first | (cases ho; done) | skip
  cases ho; cases lk
  exact un_neg pins s σ H _ v Q I rx ⟨_, rfl, k _ _ (Same.refl H) (.int _)⟩
theorem rb_isNon : OpR X (compareOp .Is) (fun v y H Q => y = .non ∧ rU1 C (uop .isNon) v H Q) := OpR.imp op_isN fun x y H Q ⟨e, F, d, r, hd, l1, ho, k⟩ => by
  refine ⟨e, ?_⟩
  cases d <;> first | (cases ho; done) | skip
  all_goals cases ho
  · cases l1; exact k _ _ (Same.refl H) (.bl _)
  · cases l1; exact k _ _ (Same.refl H) (.bl _)
  · cases l1; exact k _ _ (Same.refl H) (.bl _)
  · cases l1; exact k _ _ (Same.refl H) (.bl _)
  · obtain ⟨a, xs, rfl, _⟩ := l1; exact k _ _ (Same.refl H) (.bl _)
  · cases l1; exact k _ _ (Same.refl H) (.bl _)
theorem rb_notNon : OpR X (compareOp .IsNot) (fun v y H Q => y = .non ∧ rU1 C (uop .notNon) v H Q) := OpR.imp op_notN fun x y H Q ⟨e, F, d, r, hd, l1, ho, k⟩ => by
  refine ⟨e, ?_⟩
  cases d <;> first | (cases ho; done) | skip
  all_goals cases ho
  · cases l1; exact k _ _ (Same.refl H) (.bl _)
  · cases l1; exact k _ _ (Same.refl H) (.bl _)
  · cases l1; exact k _ _ (Same.refl H) (.bl _)
  · cases l1; exact k _ _ (Same.refl H) (.bl _)
  · obtain ⟨a, xs, rfl, _⟩ := l1; exact k _ _ (Same.refl H) (.bl _)
  · cases l1; exact k _ _ (Same.refl H) (.bl _)
theorem rb_isTru : OpR X (compareOp .Is) (fun v y H Q => y = .bl true ∧ rU1 C (uop .isTru) v H Q) := OpR.imp op_isBl fun x y H Q ⟨e, F, d, r, hd, l1, ho, k⟩ => by
  cases d <;> first | (cases ho; done) | skip
  rename_i b
  cases ho; cases l1
  refine ⟨b, true, rfl, e, ?_⟩
  have : decide (b = true) = b := by cases b <;> rfl
  rw [this]
  exact k _ _ (Same.refl H) (.bl _)
theorem rb_notTru : OpR X (compareOp .IsNot) (fun v y H Q => y = .bl true ∧ rU1 C (uop .notTru) v H Q) := OpR.imp op_notBl fun x y H Q ⟨e, F, d, r, hd, l1, ho, k⟩ => by
  cases d <;> first | (cases ho; done) | skip
  rename_i b
  cases ho; cases l1
  refine ⟨b, true, rfl, e, ?_⟩
  have : decide (b = true) = b := by cases b <;> rfl
  rw [this]
  exact k _ _ (Same.refl H) (.bl _)
theorem strsOf_den {W : Wd} {H : Hp} {Z : Addr → Prop} : ∀ {ds : List D} {xs : List V} {is : List Str}, strsOf ds = some is → DenL W H Z xs ds → xs = is.map V.str
  | [], _, _, e, l => by cases e; cases l; rfl
  | d :: ds, _, is, e, l => by
    cases d <;> first | (cases e; done) | skip
    rename_i i
    cases l with
    | cons a t =>
      cases a
      have e : (strsOf ds).map (i :: ·) = some is := e
      cases q : strsOf ds with
      | none => rw [q]
              at e; cases e
      | some js =>
        rw [q] at e
        cases e
        rw [strsOf_den q t, List.map_cons]
theorem rb_join : MtR X "str.join" (fun x xs H Q => ∃ y, xs = [y] ∧ rU2 C (bop .join) x y H Q) := fun pins s σ H x xs v us Q I rx rxs ⟨y, e, F, d, d2, r, hd, l1, l2, ho, k⟩ => by
  refine mt_join pins s σ H x xs v us Q I rx rxs ?_
  cases d <;> cases d2 <;> first | (cases ho; done) | skip
  rename_i z ds
  cases l1
  obtain ⟨a, ys, rfl, ha, l⟩ := l2
  simp only [bop] at ho
  cases q : strsOf ds with
  | none => simp only [q] at ho; cases ho
  | some zs =>
    simp only [q] at ho
    split at ho
    · rename_i hl
      cases ho
      refine ⟨z, a, zs, rfl, e, .inl (.inl (.inl ?_)), hl, k _ _ (Same.refl H) (.str _)⟩
      rw [← strsOf_den q l]; exact ha
    · cases ho
end
end VE
/-! VE9: new lists -/
namespace VE
open PySem PySem.Spec
        PyProof.Rows L2

section
variable {X : Cx} {C : RC} {e ea eb : Expr} {g h : Env → Rs (Opd × Env)}

/-- what is new, as a value -/
theorem tN.nw {g : Env → Rs (O × Env)} (h : PE X e (tN C g)) : PE X e (tX C fun env => do let (o, env1) ← g env; .ok (.d o.fr, env1)) := PE.imp h fun σ H Q ⟨env, F, R, x, env', hg, k⟩ => by
  obtain ⟨⟨o, env1⟩, h1, h2⟩ := rbind (show (g env >>= _) = _ from hg)
  cases h2
  refine ⟨env, F, R, o, env', h1, fun a fp H' F' R' s ow hz => k _ H' F' R'.drop s (ow.fr (fun x => th_more) fun b hb z => ?_)⟩
  rcases z with ⟨i, z⟩ | z
  · exact R'.apart i b z (.inr hb)
  · exact R.zin b z (hz b hb)

/-- a new list out of one value -/
def rN1 (C : RC) (op : D → Option (List D)) : V → Hp → VK → Prop := fun v H Q => ∃ F d es, (∀ a, Th F C.Z a → H a ≠ none) ∧ Lk C.W H (Th F C.Z) v d ∧ op d = some es ∧
  ∀ p xs H', Same H H' → H p = none → H' p = some (.lst xs) → DenL C.W H' (Th F (C.more [p]).Z) xs es → Q (.ref p) H'
theorem n1_run {op : D → Option (List D)} (ha : PE X ea (tX C g)) (mk : PE X ea (tX C g) → PE X e (fun σ H Q => tX C g σ H fun v H1 => rN1 C op v H1 Q)) : PE X e (tN C fun env => n1 (g env) op) := PE.imp (mk ha) fun σ H Q ⟨env, F, R, y, env', hg, k⟩ => by
  obtain ⟨⟨x, env1⟩, h1, h2⟩ := rbind (show (g env >>= _) = _ from hg)
  obtain ⟨d, h3, h4⟩ := rbind h2
  obtain ⟨es, h5, h6⟩ := rbind h4
  cases h6
  refine ⟨env, F, R, x, env', h1, fun v H1 F1 R1 s1 o1 => ⟨F1, d, es, fun a h => R1.thdom h, o1.lk R1 (rof h3), rof h5, fun p xs H2 sm hp hl dn => ?_⟩⟩
  refine k p [p] H2 F1 (R1.grow sm (fun b hb => by rw [List.mem_singleton.mp hb]; exact hp) fun b hb => by rw [List.mem_singleton.mp hb, hl]; exact nofun) (s1.trans (Step.same sm)) ⟨rfl, xs, hl, dn⟩ fun b hb => ?_
  rw [List.mem_singleton.mp hb]
  exact s1.dom p hp
def rN2 (C : RC) (op : D → D → Option (List D)) : V → V → Hp → VK → Prop := fun v u H Q => ∃ F d e es, (∀ a, Th F C.Z a → H a ≠ none) ∧ Lk C.W H (Th F C.Z) v d ∧ Lk C.W H (Th F C.Z) u e ∧ op d e = some es ∧
  ∀ p xs H', Same H H' → H p = none → H' p = some (.lst xs) → DenL C.W H' (Th F (C.more [p]).Z) xs es → Q (.ref p) H'
theorem n2_run {op : D → D → Option (List D)} (ha : PE X ea (tX C g)) (hb : PE X eb (tX C h)) (mk : PE X ea (tX C g) → PE X eb (tX C h) → PE X e (fun σ H Q => tX C g σ H fun v H1 => tX C h σ H1 fun u H2 => rN2 C op v u H2 Q)) :
    PE X e (tN C fun env => do let (x, env1) ← g env; let (y, env2) ← h env1; let d ← Rs.of (deref env2 x); let e ← Rs.of (deref env2 y); let es ← Rs.of (op d e); .ok (.lst es, env2)) := PE.imp (mk ha hb) fun σ H Q ⟨env, F, R, z, env', hg, k⟩ => by
  obtain ⟨⟨x, env1⟩, h1, h2⟩ := rbind (show (g env >>= _) = _ from hg)
  obtain ⟨⟨y, env2⟩, h3, h4⟩ := rbind h2
  obtain ⟨d, h5, h6⟩ := rbind h4
  obtain ⟨d2, h7, h8⟩ := rbind h6
  obtain ⟨es, h9, h10⟩ := rbind h8
  cases h10
  refine ⟨env, F, R, x, env1, h1, fun v H1 F1 R1 s1 o1 => ⟨env1, F1, R1, y, env', h3, fun u H2 F2 R2 s2 o2 => ?_⟩⟩
  have o1' : OpdAt C H2 σ F2 v x := by
    cases x with
    | d w => exact Den.step (s2.plus C.Z) o1
    | s i => exact o1
  refine ⟨F2, d, d2, es, fun a h => R2.thdom h, o1'.lk R2 (rof h5), o2.lk R2 (rof h7), rof h9, fun p xs H3 sm hp hl dn => ?_⟩
  refine k p [p] H3 F2 (R2.grow sm (fun b hb => by rw [List.mem_singleton.mp hb]; exact hp) fun b hb => by rw [List.mem_singleton.mp hb, hl]; exact nofun) ((s1.trans s2).trans (Step.same sm)) ⟨rfl, xs, hl, dn⟩ fun b hb => ?_
  rw [List.mem_singleton.mp hb]
  exact (s1.trans s2).dom p hp

theorem same_new {H : Hp} {p : Addr} {o : HO} (h : H p = none) : Same H (upd H p o) := fun b u e => by rw [upd_ne (ne_of_none e h)]; exact e
theorem rn_toL (f : Fit X C) : CallR X (.type "list") (fun vs H Q => ∃ v, vs = [v] ∧ rN1 C seqD v H Q) := CallR.imp call_list_of fun vs H Q ⟨v, e, F, d, es, hd, lk, ho, k⟩ => by
  subst e
  cases d <;> first | (cases ho; done) | skip
  · cases ho
    obtain ⟨a, xs, rfl, ha, l⟩ := lk
    exact ⟨a, xs, rfl, .inl (.inl (.inl ha)), fun p hp => k p xs _ (same_new hp) hp upd_same (l.step (Step.more hp (same_new hp)))⟩
  · cases ho
    cases lk with
    | @tup a xs _ ha l => exact ⟨a, xs, rfl, .inr (f.K ▸ ha), fun p hp => k p xs _ (same_new hp) hp upd_same (l.step (Step.more hp (same_new hp)))⟩
theorem rn_cat : OpR X (binaryOp .Add) (rN2 C catD) := OpR.imp op_cat fun x y H Q ⟨F, d, e, es, hd, l1, l2, ho, k⟩ => by
  cases d <;> cases e <;> first | (cases ho; done) | skip
  rename_i as bs
  obtain ⟨p, xs, rfl, hp, m1⟩ := l1
  obtain ⟨q, ys, rfl, hq, m2⟩ := l2
  have ho : (if as.length + bs.length ≤ sizeLine then some (as ++ bs) else none) = some es := ho
  by_cases hl : as.length + bs.length ≤ sizeLine
  · rw [if_pos hl] at ho; cases ho
    exact ⟨p, q, xs, ys, rfl, rfl, hp, hq, by rw [m1.length, m2.length]; exact hl, fun t nt => k t _ _ (same_new nt) nt upd_same ((m1.append m2).step (Step.more nt (same_new nt)))⟩
  · rw [if_neg hl] at ho; cases ho
theorem EntP.keys : ∀ {ks : List (NestedKey × Addr × V)} {xs : List (NestedKey × Addr × Value)}, EntP ks xs → xs.map (fun x => x.2.1) = ks.map (fun x => x.2.1)
  | _, _, .nil => rfl
  | _, _, .cons e t => by rw [List.map_cons, List.map_cons, EntP.keys t, e.2.1]
theorem vals_map_ref : ∀ l : List Addr, Vals (l.map V.ref) (l.map Value.ref)
  | [] => .nil
  | _ :: r => .cons rfl (vals_map_ref r)
theorem DenKV.keysD {W : Wd} {H : Hp} {Z : Addr → Prop} : ∀ {ks : List (NestedKey × Addr × V)} {kvs : List (D × D)}, DenKV W H Z ks kvs → DenL W H Z ((ks.map fun x => x.2.1).map V.ref) (kvs.map (·.1))
  | _, _, .nil => .nil
  | _, _, .cons a _ _ _ t => .cons a t.keysD
/-- list(d) -/
theorem rn_keys (f : Fit X C) : CallR X (.type "list") (fun vs H Q => ∃ v, vs = [v] ∧ rN1 C keysD v H Q) := fun pins s σ H vs us Q I r ⟨v, e, F, d, es, hd, lk, ho, k⟩ => by
  subst e
  obtain ⟨u, rfl, rx⟩ := r.one
  cases d <;> first | (cases ho; done) | skip
  rename_i kvs
  have ho : (if isReal kvs then some (kvs.map (·.1)) else none) = some es := ho
  by_cases hr : isReal kvs = true
  · rw [if_pos hr] at ho; cases ho
    rcases lk with ⟨a, ks, rfl, ha, l⟩ | ⟨a, n, rfl, e⟩
    · cases (show u = Value.ref a from rx)
      obtain ⟨xs, ep, hm, ny, hz⟩ := dict_of I f.P f.w f.K ha l
      obtain ⟨o, es, ep', ho, hx, hdt, he, _, _⟩ := hm
      have l1 : es.size = xs.length := size_of_entries he
      have l2 : ks.length = xs.length := ep.length
      have hp : H s.heap.objs.size = none := I.hok.fresh (Nat.le_refl _)
      refine PySem.W.kdl_call (PySem.KdlSrc.rawDict ny) (I.ok.hd f.calm) ⟨o, ho, hx, hdt⟩ (by omega) fun h' tk acc' c' kp e it => ?_
      have ea : acc'.toList = (ks.map fun x => x.2.1).map Value.ref := by
        rw [← ep.keys]
        apply List.ext_getElem?
        intro j
        rw [List.getElem?_map,
                List.getElem?_map]
        cases hj :
                acc'.toList[j]? with
        | none =>
          have h1 :=
                  List.getElem?_eq_none_iff.mp hj
          rw [Array.length_toList, it.1] at h1
          rw [List.getElem?_eq_none
                  (by omega)]
          rfl
        | some w =>
          obtain ⟨hi, hv⟩ := it.2 j w (by rw [← Array.getElem?_toList]; exact hj)
          have qe := entry_at he j
          rw [Array.getElem?_eq_getElem hi] at qe
          cases hb : xs[j]? with
          | none => rw [hb] at qe; cases qe
          | some b =>
            rw [hb] at qe
            have e2 : es[j] = entryOfKey (nestedKind X.prog X.w) b := Option.some.inj qe
            rw [hv, e2]
            rfl
      refine ⟨.ref s.heap.objs.size, upd H s.heap.objs.size (.lst ((ks.map fun x => x.2.1).map V.ref)), I.laid (t' := tk) kp (Nat.le_refl _) ⟨by simp only [List.length_map]; exact hz, (ks.map fun x => x.2.1).map Value.ref, c', vals_map_ref _, ?_⟩, rfl, k _ _ _ (same_new hp) hp upd_same (l.keysD.step (Step.more hp (same_new hp)))⟩
      rw [e, ← ea]
    · subst e; cases hr
  · rw [if_neg hr] at ho; cases ho
/-- [a, b, ..] -/
theorem rn_lst {es : List Expr} {g : Env → Rs (List D × Env)} {pos : Pos} (h : PA X es (tL C g)) : PE X (.List es pos) (tN C fun env => do let (ds, env1) ← g env; if ds.length ≤ sizeLine then .ok (.lst ds, env1) else .bad) := PE.imp (pe_lst h) fun σ H Q ⟨env, F, R, z, env', hg, k⟩ => by
  obtain ⟨⟨ds, env1⟩, h1, h2⟩ := rbind (show (g env >>= _) = _ from hg)
  by_cases hl : ds.length ≤ sizeLine
  · have h2 : (if ds.length ≤ sizeLine then Rs.ok (O.lst ds, env1) else .bad) = .ok (z, env') := h2
    rw [if_pos hl] at h2
    cases h2
    refine ⟨env, F, R, ds, env', h1, fun vs H1 F1 R1 s1 dl => ⟨by rw [dl.length]; exact hl, fun p hp => ?_⟩⟩
    obtain ⟨R2, hz⟩ := R1.fresh (o := .lst vs) hp
    exact k p [p] _ F1 R2 (s1.trans (Step.same (same_new hp))) ⟨rfl, vs, upd_same, dl.step (Step.more hp (same_new hp))⟩ fun b hb => by rw [List.mem_singleton.mp hb]; exact s1.dom p hp
  · have h2 : (if ds.length ≤ sizeLine then Rs.ok (O.lst ds, env1) else .bad) = .ok (z, env') := h2
    rw [if_neg hl] at h2
    cases h2
/-- (a, b, ..) -/
theorem rx_tup {es : List Expr} {g : Env → Rs (List D × Env)} {kk : Nat} {pos : Pos} (h : PA X es (tL C g)) : PE X (.Tuple es kk pos) (tX C fun env => do let (ds, env1) ← g env; if ds.length ≤ sizeLine then .ok (.d (.tuple ds), env1) else .bad) := PE.imp (pe_tup h) fun σ H Q ⟨env, F, R, z, env', hg, k⟩ => by
  obtain ⟨⟨ds, env1⟩, h1, h2⟩ := rbind (show (g env >>= _) = _ from hg)
  by_cases hl : ds.length ≤ sizeLine
  · have h2 : (if ds.length ≤ sizeLine then Rs.ok (Opd.d (.tuple ds), env1) else .bad) = .ok (z, env') := h2
    rw [if_pos hl] at h2
    cases h2
    refine ⟨env, F, R, ds, env', h1, fun vs H1 F1 R1 s1 dl => ⟨by rw [dl.length]; exact hl, fun p hp => ?_⟩⟩
    exact k _ _ F1 (R1.same (same_new hp)) (s1.trans (Step.same (same_new hp))) (.tup (.inl (.inl upd_same)) (dl.step (Step.new hp)))
  · have h2 : (if ds.length ≤ sizeLine then Rs.ok (Opd.d (.tuple ds), env1) else .bad) = .ok (z, env') := h2
    rw [if_neg hl] at h2
    cases h2
/-- {} -/
theorem rn_dnew (f : Fit X C) {pos : Pos} : PE X (.Dict [] [] pos) (tN C fun env => .ok (.dil [], env)) := ⟨fun pins s σ H Q I ⟨env, F, R, z, env', hg, k⟩ => by
  cases hg
  have hp : H s.heap.objs.size = none := I.hok.fresh (Nat.le_refl _)
  obtain ⟨R2, hz⟩ := R.fresh (o := dHO C.W s.heap.objs.size []) hp
  refine wpAny_Dict_empty ⟨.ref s.heap.objs.size, upd H s.heap.objs.size (dHO C.W s.heap.objs.size []), I.laid (t' := s.toks) (fun _ _ q => Heap.get?_push_of_some _ q) (Nat.le_refl _) ?_, rfl,
    k _ [s.heap.objs.size] _ F R2 (Step.same (same_new hp)) ⟨[], [], rfl, by simp, upd_same, .nil⟩ fun b hb => by rw [List.mem_singleton.mp hb]; exact hp⟩
  refine ⟨⟨Nat.zero_le _, beq_eq_false_iff_ne.mpr (Ne.symm (Nat.ne_of_lt I.big)), [], .nil, List.nodup_nil, _, #[], 0, Heap.get?_push_size _ rfl, ⟨rfl, rfl, rfl⟩, rfl, rfl⟩, ⟨_, Heap.get?_push_size _ rfl⟩, ?_⟩
  rintro h1 h2 ⟨z1, z2, xs, e, nd, o, es, ep, ho, hx⟩ hs
  exact ⟨z1, z2, xs, e, nd, o, es, ep, hs o ho, hx⟩⟩
end
end VE
/-! VE10: what is walked; targets -/
namespace VE
open PySem PySem.Spec
                        PyProof.Rows L2

/-- what every state knows of sizes -/
def Kn (K : PySem.W.Frag) (H : Hp) : Prop := (∀ a xs, SqL K H a xs → xs.length ≤ sizeLine) ∧ ∀ a xs, SqT K H a xs → xs.length ≤ sizeLine
theorem kn_of {X : Cx} {pins : List (Addr × Obj)} {σ : VE.St} {H : Hp} {s : Shared} (I : Inv X pins σ H s) : Kn X.K H :=
  ⟨fun a xs h => let ⟨_, _, _, z⟩ := I.list h; z, fun a xs h => let ⟨_, _, _, z⟩ := I.tuple h; z⟩
theorem PI.know {X : Cx} {tg e : Expr} {t : TI} (h : PI X tg e t) : PI X tg e (fun σ H R => t σ H fun J H' => Kn X.K H' → R J H') := ⟨fun pins s σ H R I q =>
  thn (h.run pins s σ H _ I q) fun v s1 r => thn r fun it s2 ⟨a, fp, tn, J, H', e, I', T, t0, f, k⟩ => ⟨a, fp, tn, J, H', e, I', T, t0, f, k (kn_of I')⟩⟩

/-- a list or a tuple is walked -/
theorem pi_seq {X : Cx} {tg l : Expr} {tl : TE} (hl : PE X l tl) : PI X tg l (fun σ H R => tl σ H fun x H1 => ∃ a, x = .ref a ∧ ((∃ xs, SqL X.K H1 a xs ∧ R (Itl X.K a) H1) ∨ ∃ xs, SqT X.K H1 a xs ∧ R (Itt X.K a) H1)) := ⟨fun pins s σ H R I h =>
  thn (hl.run pins s σ H _ I h) fun v s1 ⟨x, H1, I1, r1, a, ex, q1⟩ => by
    subst ex
    cases r1
    have new : ∀ b ∈ [s1.heap.objs.size], FpOk X pins H1 b := fun b hb => by
      rw [List.mem_singleton.mp hb]
      exact I1.fpOk (Nat.le_refl _)
                              (I1.hok.fresh (Nat.le_refl _))
    rcases q1 with ⟨xs, hq, q⟩ | ⟨xs, hq, q⟩
    · obtain ⟨its, rv, p, _⟩ := I1.list hq
      exact wpAny_pyIter_list p.isList ⟨_, [s1.heap.objs.size], _, _, H1, rfl, I1.kept (t' := s1.toks) (fun b o e => Heap.get?_push_of_some _ e), turn_list a _, ⟨_, Heap.get?_push_size _ rfl, rfl, rfl⟩, new, q⟩
    · obtain ⟨its, rv, p, _⟩ := I1.tuple hq
      exact wpAny_pyIter_tuple (show s1.heap.IsTuple a its.toArray from p) ⟨_, [s1.heap.objs.size], _, _, H1, rfl, I1.kept (t' := s1.toks) (fun b o e => Heap.get?_push_of_some _ e), turn_tuple a _, ⟨_, Heap.get?_push_size _ rfl, rfl, rfl⟩, new, q⟩⟩

/-- the walk J goes through the data ds -/
def ItOk (W : Wd) (Z : Addr → Prop) (J : It) (ds : List D) (H : Hp) : Prop :=
  ∀ i, (ds[i]? = none → J.stop i H) ∧ ∀ d, ds[i]? = some d → J.go i H ∧ ∀ x H', J.yld i H x H' → Same H H' ∧ Den W H' Z x d
/-- a slot that is lent holds its list -/
def Lent (W : Wd) (H : Hp) (Z : Addr → Prop) (σ : VE.St) (env : Env) (l : Option Nat) : Prop :=
  ∀ i ds, l = some i → ((∃ p, env[i]? = some (.own (.lst ds) p)) ∨ env[i]? = some (.lent ds)) → ∃ a xs, σ[i]? = some (some (.ref a)) ∧ H a = some (.lst xs) ∧ DenL W H Z xs ds
def tSrc (C : RC) (g : Env → Rs (List D × Option Nat × Env)) : TI := fun σ H R => ∃ env F, Rel C H σ env F ∧ ∃ ds l env', g env = .ok (ds, l, env') ∧
  ∀ J H' F', Rel C H' σ env' F' → Step H (Om F) H' (Om F') → ds.length ≤ sizeLine → (∀ i, l = some i → ∃ es, (∃ p, env'[i]? = some (.own (.lst es) p)) ∨ env'[i]? = some (.lent es)) →
    (∀ H2 Z2, Step H' (Th F' C.Z) H2 Z2 → Lent C.W H2 Z2 σ env' l → ItOk C.W Z2 J ds H2) → R J H'

section
variable {W : Wd} {H H' : Hp} {Z Z' : Addr → Prop} {σ : VE.St} {env : Env} {K : PySem.W.Frag}

theorem it_list (hK : W.K = K) {a : Addr} {xs : List V} {ds : List D} (hs : SqL K H a xs) (l : DenL W H Z xs ds) : ItOk W Z (Itl K a) ds H := fun i => by
  refine ⟨fun e => ⟨xs, hs, ?_⟩, fun d e => ?_⟩
  · rw [l.length]; exact List.getElem?_eq_none_iff.mp e
  · obtain ⟨v, h1, h2⟩ := l.get e
    refine ⟨⟨xs, v, hs, h1⟩, fun x H' y => ?_⟩
    obtain ⟨rfl, y⟩ := y
    refine ⟨Same.refl _, ?_⟩
    have := y xs hs
    rw [h1] at this
    cases this
    exact h2
theorem it_tup (hK : W.K = K) {a : Addr} {xs : List V} {ds : List D} (hs : SqT K H a xs) (l : DenL W H Z xs ds) : ItOk W Z (Itt K a) ds H := fun i => by
  refine ⟨fun e => ⟨xs, hs, ?_⟩, fun d e => ?_⟩
  · rw [l.length]; exact List.getElem?_eq_none_iff.mp e
  · obtain ⟨v, h1, h2⟩ := l.get e
    refine ⟨⟨xs, v, hs, h1⟩, fun x H' y => ?_⟩
    obtain ⟨rfl, y⟩ := y
    refine ⟨Same.refl _, ?_⟩
    have := y xs hs
    rw [h1] at this
    cases this
    exact h2
theorem enumL_get {ds : List D} {i : Nat} : (enumL ds)[i]? = (ds[i]?).map fun d => .tuple [.int (i : Nat), d] := by
  unfold enumL
  rw [List.getElem?_zipWith]
  cases h : ds[i]? with
  | none => simp
  | some d =>
    have hi := (List.getElem?_eq_some_iff.mp h).1
    rw [List.getElem?_range hi]
    rfl
theorem enumL_length {ds : List D} : (enumL ds).length = ds.length := by simp [enumL]
theorem it_enum (hK : W.K = K) {a : Addr} {xs : List V} {ds : List D} (ha : H a = some (.lst xs)) (l : DenL W H Z xs ds) : ItOk W Z (Ite K a) (enumL ds) H := fun i => by
  have hs : SqL K H a xs := .inl (.inl ha)
  refine ⟨fun e => ⟨xs, hs, ?_⟩, fun d e => ?_⟩
  · rw [l.length, ← enumL_length]; exact List.getElem?_eq_none_iff.mp e
  · rw [enumL_get] at e
    cases q : ds[i]? with
    | none => rw [q]
                            at e; cases e
    | some d' =>
      rw [q] at e
      cases e
      obtain ⟨v, h1, h2⟩ := l.get q
      refine ⟨⟨xs, v, hs, h1⟩, fun x H' y => ?_⟩
      obtain ⟨T, x', rfl, nT, rfl, y⟩ := y
      have := y xs hs
      rw [h1] at this
      cases this
      exact ⟨same_new nT, .tup (.inl (.inl upd_same)) (.cons (.int _) (.cons (h2.step (Step.new nT)) .nil))⟩
theorem it_range {lo : Int} {n : Nat} : ItOk W Z (Itr lo n) (rngL lo n) H := fun i => by
  have hl : (rngL lo n).length = n := by simp [rngL]
  refine ⟨fun e => ?_, fun d e => ?_⟩
  · have := List.getElem?_eq_none_iff.mp e
    rw [hl] at this
    exact this
  · have hi : i < n := by rw [← hl]; exact (List.getElem?_eq_some_iff.mp e).1
    refine ⟨hi, fun x H' y => ?_⟩
    obtain ⟨rfl, rfl⟩ := y
    unfold rngL at e
    rw [List.getElem?_map, List.getElem?_range hi] at e
    cases e
    exact ⟨Same.refl _, .int _⟩
end

section
variable {X : Cx} {C : RC} {tg e ea eb : Expr}

theorem is_seq (f : Fit X C) {g : Env → Rs (Opd × Env)} (h : PE X e (tX C g)) : PI X tg e (tSrc C fun env => do let (x, env1) ← g env; let (ds, l) ← Rs.of (itemsOf env1 x); .ok (ds, l, env1)) := PI.imp (PI.know (pi_seq h)) fun σ H R ⟨env, F, R0, ds, l, env', hg, k⟩ => by
  obtain ⟨⟨x, env1⟩, h1, h2⟩ := rbind (show (g env >>= _) = _ from hg)
  obtain ⟨⟨ds', l'⟩, h3, h4⟩ := rbind h2
  cases h4
  have h3 := rof h3
  refine ⟨env, F, R0, x, env', h1, fun v H1 F1 R1 s1 o1 => ?_⟩
  cases x with
  | d y =>
    have o1 : Den C.W H1 (Th F1 C.Z) v y := o1
    cases y <;> first | (cases h3; done) | skip
    · cases h3
      cases o1 with
      | @lst a xs _ ha hz l =>
        refine ⟨a, rfl, .inl ⟨xs, .inl (.inl ha), fun kn => k _ H1 F1 R1 s1 (by rw [← l.length]; exact kn.1 a xs (.inl (.inl ha))) (fun _ z => by cases z) fun H2 Z2 st _ => ?_⟩⟩
        exact it_list f.K (.inl (.inl (st.keep a _ ha hz))) (l.step st)
    · cases h3
      cases o1 with
      | @tup a xs _ ha l =>
        exact ⟨a, rfl, .inr ⟨xs, f.K ▸ ha, fun kn => k _ H1 F1 R1 s1 (by rw [← l.length]; exact kn.2 a xs (f.K ▸ ha)) (fun _ z => by cases z) fun H2 Z2 st _ => it_tup f.K (f.K ▸ SqT.step st.tups ha) (l.step st)⟩⟩
  | s i =>
    have o1 : σ[i]? = some (some v) := o1
    unfold itemsOf at h3
    simp only at h3
    cases q : env'[i]? with
    | none => simp [q] at h3
    | some sl =>
      have rs := R1.sl i sl q
      rw [o1] at rs
      simp only [q] at h3
      cases sl with
      | no => cases h3
      | scr ns => cases h3
      | lent es =>
        cases h3
        obtain ⟨a, xs, ev, fo, ha, l⟩ := rs
        cases ev
        refine ⟨a, rfl, .inl ⟨xs, .inl (.inl ha), fun kn => k _ H1 F1 R1 s1 (by rw [← l.length]; exact kn.1 a xs (.inl (.inl ha))) (fun j z => by cases z; exact ⟨_, .inr q⟩) fun H2 Z2 st le => ?_⟩⟩
        obtain ⟨a2, xs2, h5, h6, h7⟩ := le i _ rfl (.inr q)
        rw [o1] at h5
        cases h5
        exact it_list f.K (.inl (.inl h6)) h7
      | own o p =>
        cases o with
        | lst es =>
          cases h3
          obtain ⟨a, ev, e1, xs, ha, l⟩ := rs
          cases ev
          refine ⟨a, rfl, .inl ⟨xs, .inl (.inl ha), fun kn => k _ H1 F1 R1 s1 (by rw [← l.length]; exact kn.1 a xs (.inl (.inl ha))) (fun j z => by cases z; exact ⟨_, .inl ⟨p, q⟩⟩) fun H2 Z2 st le => ?_⟩⟩
          obtain ⟨a2, xs2, h5, h6, h7⟩ := le i _ rfl (.inl ⟨p, q⟩)
          rw [o1] at h5
          cases h5
          exact it_list f.K (.inl (.inl h6)) h7
        | dic kvs => cases h3
        | dil kvs => cases h3
      | val y =>
        obtain ⟨_, v', ev, dn⟩ := rs
        cases ev
        cases y <;> first | (cases h3; done) | skip
        · cases h3
          cases dn with
          | @lst a xs _ ha hz l =>
            exact ⟨a, rfl, .inl ⟨xs, .inl (.inl ha), fun kn => k _ H1 F1 R1 s1 (by rw [← l.length]; exact kn.1 a xs (.inl (.inl ha))) (fun _ z => by cases z) fun H2 Z2 st _ => it_list f.K (.inl (.inl (st.keep a _ ha hz))) (l.step st)⟩⟩
        · cases h3
          cases dn with
          | @tup a xs _ ha l =>
            exact ⟨a, rfl, .inr ⟨xs, f.K ▸ ha, fun kn => k _ H1 F1 R1 s1 (by rw [← l.length]; exact kn.2 a xs (f.K ▸ ha)) (fun _ z => by cases z) fun H2 Z2 st _ => it_tup f.K (f.K ▸ SqT.step st.tups ha) (l.step st)⟩⟩

theorem is_enum (f : Fit X C) {g : Env → Rs (Opd × Env)} {elts : List Expr} {kk : Nat} {tpos p pos : Pos} (hg : Gl X "enumerate") (hm : X.mg "enumerate" = none) (hs : star0 e = true) (h : PE X e (tX C g)) :
    PI X (.Tuple elts kk tpos) (.Call (.Name "enumerate" p) [e] [] pos) (tSrc C fun env => do let (x, env1) ← g env; let (ds, l) ← Rs.of (itemsL env1 x); .ok (enumL ds, l, env1)) :=
  PI.imp (PI.know (pi_enum hg hm (pa_cons h pa_nil (star_of hs [] _)) (star_of hs [] _))) fun σ H R ⟨env, F, R0, ds, l, env', hg, k⟩ => by
  obtain ⟨⟨x, env1⟩, h1, h2⟩ := rbind (show (g env >>= _) = _ from hg)
  obtain ⟨⟨ds', l'⟩, h3, h4⟩ := rbind h2
  cases h4
  have h3 := rof h3
  refine ⟨env, F, R0, x, env', h1, fun v H1 F1 R1 s1 o1 => ?_⟩
  cases x with
  | d y =>
    have o1 : Den C.W H1 (Th F1 C.Z) v y := o1
    cases y <;> first | (cases h3; done) | skip
    cases h3
    cases o1 with
    | @lst a xs _ ha hz l =>
      exact ⟨a, xs, rfl, .inl (.inl ha), fun kn => k _ H1 F1 R1 s1 (by rw [enumL_length, ← l.length]; exact kn.1 a xs (.inl (.inl ha))) (fun _ z => by cases z) fun H2 Z2 st _ => it_enum f.K (st.keep a _ ha hz) (l.step st)⟩
  | s i =>
    have o1 : σ[i]? = some (some v) := o1
    unfold itemsL at h3
    simp only at h3
    cases q : env'[i]? with
    | none => simp [q] at h3
    | some sl =>
      have rs := R1.sl i sl q
      rw [o1] at rs
      simp only [q] at h3
      cases sl with
      | no => cases h3
      | scr ns => cases h3
      | lent es =>
        cases h3
        obtain ⟨a, xs, ev, fo, ha, l⟩ := rs
        cases ev
        refine ⟨a, xs, rfl, .inl (.inl ha), fun kn => k _ H1 F1 R1 s1 (by rw [enumL_length, ← l.length]; exact kn.1 a xs (.inl (.inl ha))) (fun j z => by cases z; exact ⟨_, .inr q⟩) fun H2 Z2 st le => ?_⟩
        obtain ⟨a2, xs2, h5, h6, h7⟩ := le i _ rfl (.inr q)
        rw [o1] at h5
        cases h5
        exact it_enum f.K h6 h7
      | own o p =>
        cases o with
        | lst es =>
          cases h3
          obtain ⟨a, ev, e1, xs, ha, l⟩ := rs
          cases ev
          refine ⟨a, xs, rfl, .inl (.inl ha), fun kn => k _ H1 F1 R1 s1 (by rw [enumL_length, ← l.length]; exact kn.1 a xs (.inl (.inl ha))) (fun j z => by cases z; exact ⟨_, .inl ⟨p, q⟩⟩) fun H2 Z2 st le => ?_⟩
          obtain ⟨a2, xs2, h5, h6, h7⟩ := le i _ rfl (.inl ⟨p, q⟩)
          rw [o1] at h5
          cases h5
          exact it_enum f.K h6 h7
        | dic kvs => cases h3
        | dil kvs => cases h3
      | val y =>
        obtain ⟨_, v', ev, dn⟩ := rs
        cases ev
        cases y <;> first | (cases h3; done) | skip
        cases h3
        cases dn with
        | @lst a xs _ ha hz l =>
          exact ⟨a, xs, rfl, .inl (.inl ha), fun kn => k _ H1 F1 R1 s1 (by rw [enumL_length, ← l.length]; exact kn.1 a xs (.inl (.inl ha))) (fun _ z => by cases z) fun H2 Z2 st _ => it_enum f.K (st.keep a _ ha hz) (l.step st)⟩
theorem is_rng (f : Fit X C) {g : Env → Rs (D × Env)} {p pos : Pos} (hg : Gl X "range") (hm : X.mg "range" = none) (hs : star0 e = true) (h : PE X e (tV C g)) :
    PI X tg (.Call (.Name "range" p) [e] [] pos) (tSrc C fun env => do let (d, env1) ← g env; match d with | .int n => if idx63 n && decide (n ≤ sizeLine) then .ok (rngL 0 n.toNat, none, env1) else .bad | _ => .bad) :=
  PI.imp (pi_range1 hg hm (pa_cons h pa_nil (star_of hs [] _)) (star_of hs [] _)) fun σ H R ⟨env, F, R0, ds, l, env', hg, k⟩ => by
  obtain ⟨⟨d, env1⟩, h1, h2⟩ := rbind (show (g env >>= _) = _ from hg)
  refine ⟨env, F, R0, d, env1, h1, fun v H1 F1 R1 s1 o1 => ?_⟩
  cases d <;> first | (cases h2; done) | skip
  rename_i n
  have h2 : (if idx63 n && decide (n ≤ sizeLine) then Rs.ok (rngL 0 n.toNat, none, env1) else .bad) = .ok (ds, l, env') := h2
  by_cases hn : (idx63 n && decide (n ≤ sizeLine)) = true
  · rw [if_pos hn] at h2
    cases h2
    cases o1
    rw [Bool.and_eq_true] at hn
    have a1 : -(2 ^ 62) ≤ n ∧ n < 2 ^ 62 := of_decide_eq_true hn.1
    have a2 := of_decide_eq_true hn.2
    exact ⟨n, rfl, a1.1, a1.2, k _ H1 F1 R1 s1 (by simp [rngL]; omega) (fun _ z => by cases z) fun H2 Z2 st _ => it_range⟩
  · rw [if_neg hn] at h2; cases h2
theorem is_rng2 (f : Fit X C) {g h : Env → Rs (D × Env)} {p pos : Pos} (hg : Gl X "range") (hm : X.mg "range" = none) (hs : star0 ea = true) (hs2 : star0 eb = true) (ha : PE X ea (tV C g)) (hb : PE X eb (tV C h)) :
    PI X tg (.Call (.Name "range" p) [ea, eb] [] pos) (tSrc C fun env => do
      let (d, env1) ← g env
      let (d2, env2) ← h env1
      match d, d2 with
      | .int m, .int n => if idx63 m && idx63 n && decide (n - m ≤ sizeLine) then .ok (rngL m (n - m).toNat, none, env2) else .bad
      | _, _ => .bad) :=
  PI.imp (pi_range2 hg hm (pa_cons ha (pa_cons hb pa_nil (star_of hs2 [] _)) (star_of hs _ _)) (by rw [star_of hs, star_of hs2]; rfl) (star_of hs2 [] _)) fun σ H R ⟨env, F, R0, ds, l, env', hg, k⟩ => by
  obtain ⟨⟨d, env1⟩, h1, h2⟩ := rbind (show (g env >>= _) = _ from hg)
  obtain ⟨⟨d2, env2⟩, h3, h4⟩ := rbind h2
  refine ⟨env, F, R0, d, env1, h1, fun v H1 F1 R1 s1 o1 => ⟨env1, F1, R1, d2, env2, h3, fun u H2 F2 R2 s2 o2 => ?_⟩⟩
  cases d <;> cases d2 <;> first | (cases h4; done) | skip
  rename_i m n
  have h4 : (if idx63 m && idx63 n && decide (n - m ≤ sizeLine) then Rs.ok (rngL m (n - m).toNat, none, env2) else .bad) = .ok (ds, l, env') := h4
  by_cases hn : (idx63 m && idx63 n && decide (n - m ≤ sizeLine)) = true
  · rw [if_pos hn] at h4
    cases h4
    cases o1
    cases o2
    rw [Bool.and_eq_true, Bool.and_eq_true] at hn
    obtain ⟨⟨a1, a2⟩, a3⟩ := hn
    have a1 : -(2 ^ 62) ≤ m ∧ m < 2 ^ 62 := of_decide_eq_true a1
    have a2 : -(2 ^ 62) ≤ n ∧ n < 2 ^ 62 := of_decide_eq_true a2
    have a3 := of_decide_eq_true a3
    exact ⟨m, n, rfl, ⟨a1.1, a1.2, a2.1, a2.2⟩, k _ H2 F2 R2 (s1.trans s2) (by simp [rngL]; omega) (fun _ z => by cases z) fun H3 Z3 st _ => it_range⟩
  · rw [if_neg hn] at h4; cases h4

theorem denL_ints {W : Wd} {H : Hp} {Z : Addr → Prop} : ∀ ns : List Int, DenL W H Z (ns.map V.int) (ns.map PyData.int)
  | [] => .nil
  | n :: ns => .cons (.int n) (denL_ints ns)
theorem is_scr (f : Fit X C) {i : Nat} {x : Str} {p : Pos} (hN : X.N[i]? = some x) (hv : Vis X.env.scope x) (hd : (x == ("__debug__" : Str)) = false) (hcd : (x == ("__classdict__" : Str)) = false) :
    PI X tg (.Name x p) (tSrc C fun env => match env[i]? with | some (.scr ns) => .ok (ns.map .int, none, env) | _ => .bad) :=
  PI.imp (PI.know (pi_seq (pe_var hN hv hd hcd))) fun σ H R ⟨env, F, R0, ds, l, env', hg, k⟩ => by
  cases q : env[i]? with
  | none => simp [q] at hg
  | some s =>
    cases s <;> first | (simp only [q] at hg; cases hg; done) | skip
    rename_i ns
    simp only [q] at hg
    cases hg
    obtain ⟨_, a, ev, r⟩ := R0.sl i _ q
    have hs : SqL X.K H a (ns.map V.int) := by
      rw [← f.K]
      rcases r with ⟨o, r⟩ | r
      · exact .inl (.inr ⟨o, r⟩)
      · rcases r with (r | ⟨o, r⟩) | r
        · cases r
        · cases r
        · exact .inr r
    refine ⟨.ref a, ev, a, rfl, .inl ⟨_, hs, fun kn => k _ H F R0 Step.refl (by simpa using kn.1 a _ hs) (fun _ z => by cases z) fun H2 Z2 st _ => it_list f.K ?_ (denL_ints ns)⟩⟩
    rw [← f.K]
    rcases r with ⟨o, r⟩ | r
    · exact .inl (.inr ⟨o, st.frz _ _ _ r⟩)
    · rcases r with (r | ⟨o, r⟩) | r
      · cases r
      · cases r
      · exact .inr r

/-! ### targets -/
/-- a value goes to a target: its slots alone change -/
def tTg (C : RC) (t : Tg) : TG := fun v σ H Q => ∃ env F d env', Rel C H σ env F ∧ Den C.W H (Th F C.Z) v d ∧ setT env t d = some env' ∧
  ∀ σ' F', Rel C H σ' env' F' → Step H (Om F) H (Om F') → σ'.length = σ.length → (∀ j, (t ≠ .nm j ∧ ∀ is, t = .tp is → j ∉ is) → σ'[j]? = σ[j]?) → Q σ' H
theorem setV_eq {env env' : Env} {i : Nat} {d : D} (h : setV env i d = some env') : FreeSl env[i]? ∧ env' = env.set i (.val d) := by
  unfold setV at h
  cases q : env[i]? with
  | none => rw [q] at h; cases h
  | some s =>
    rw [q] at h
    cases s with
    | no => cases h; exact ⟨trivial, rfl⟩
    | val _ => cases h; exact ⟨trivial, rfl⟩
    | lent _ => cases h
    | scr _ => cases h
    | own o p =>
      cases p with
      | false => cases h; exact ⟨trivial, rfl⟩
      | true => cases h
theorem pg_nm {i : Nat} {x : Str} {pos : Pos} (hN : X.N.Nodup) (hi : X.N[i]? = some x) (hx : Loc X.env.scope x) (hf : X.fn x = true ∨ X.env.scope.names.lookup x = some .local) : PG X (.Name x pos) (tTg C (.nm i)) :=
  ⟨fun pins s σ H v u Q I r ⟨env, F, d, env', R, dn, hs, k⟩ => by
    obtain ⟨hf', rfl⟩ := setV_eq (show setV env i d = some env' from hs)
    obtain ⟨R1, st⟩ := R.setVal hf' dn
    exact (pg_name hN hi hx hf).run pins s σ H v u Q I r (k _ _ R1 st (by simp) fun j hj => List.getElem?_set_ne (fun e => hj.1 (by rw [e])))⟩

/-- values to slots, from the left -/
def tTgs (C : RC) (is : List Nat) : TGs := fun vs σ H Q => ∃ env F ds env', Rel C H σ env F ∧ DenL C.W H (Th F C.Z) vs ds ∧ setAll is ds env = some env' ∧
  ∀ σ' F', Rel C H σ' env' F' → Step H (Om F) H (Om F') → σ'.length = σ.length → (∀ j, j ∉ is → σ'[j]? = σ[j]?) → Q σ' H
def nameOk (N : List Str) (sc : Scope) (fn : Str → Bool) (i : Nat) : Expr → Bool
  | .Name x _ => decide (N[i]? = some x) && (match sc.names.lookup x with | some .local => true | some .cell => fn x | _ => false)
  | _ => false
def namesOk (N : List Str) (sc : Scope) (fn : Str → Bool) : List Nat → List Expr → Bool
  | [], [] => true
  | i :: is, e :: es => nameOk N sc fn i e && namesOk N sc fn is es
  | _, _ => false
theorem nameOk_shape {N : List Str} {sc : Scope} {fn : Str → Bool} {i : Nat} {e : Expr} (h : nameOk N sc fn i e = true) : ∃ x pos, e = .Name x pos ∧ N[i]? = some x ∧ Loc sc x ∧ (fn x = true ∨ sc.names.lookup x = some .local) := by
  cases e <;> first | (cases h; done) | skip
  rename_i x pos
  have h : (decide (N[i]? = some x) && (match sc.names.lookup x with | some .local => true | some .cell => fn x | _ => false)) = true := h
  rw [Bool.and_eq_true] at h
  refine ⟨x, pos, rfl, of_decide_eq_true h.1, ?_⟩
  have h2 := h.2
  split at h2
  · rename_i q; exact ⟨.inl q, .inr q⟩
  · rename_i q; exact ⟨.inr q, .inl h2⟩
  · cases h2
theorem each_names {N : List Str} {sc : Scope} {fn : Str → Bool} {env : PySem.Env} : ∀ {is : List Nat} {es : List Expr}, namesOk N sc fn is es = true → (assignEach es env).length = is.length ∧ (assignEach es env).findIdx? (·.1) = none
  | [], [], _ => ⟨rfl, rfl⟩
  | i :: is, [], h => by cases h
  | [], e :: es, h => by cases h
  | i :: is, e :: es, h => by
    have h : (nameOk N sc fn i e && namesOk N sc fn is es) = true := h
    rw [Bool.and_eq_true] at h
    obtain ⟨x, pos, rfl, _⟩ := nameOk_shape h.1
    obtain ⟨h1, h2⟩ := each_names (env := env) h.2
    refine ⟨by show (assignEach es env).length + 1 = _; rw [h1]; rfl, ?_⟩
    show List.findIdx? (·.1) ((false, assign (.Name x pos) env) :: assignEach es env) = none
    rw [List.findIdx?_cons]
    simp [h2]
theorem setV_none {env env' : Env} {i j : Nat} {d : D} (h : setV env i d = some env') (hj : j ≠ i) : env'[j]? = env[j]? := by
  obtain ⟨_, rfl⟩ := setV_eq h
  exact List.getElem?_set_ne (Ne.symm hj)
theorem pgs_names (hN : X.N.Nodup) : ∀ {is : List Nat} {es : List Expr}, namesOk X.N X.env.scope X.fn is es = true → PGs X es (tTgs C is)
  | [], [], _ => ⟨fun pins s σ H vs us Q I r ⟨env, F, ds, env', R, dl, hs, k⟩ => by
      cases ds with
      | nil =>
        cases dl
        cases hs
        exact pgs_nil.run pins s σ H [] us Q I r ⟨rfl, k σ F R Step.refl rfl fun _ _ => rfl⟩
      | cons d ds => cases hs⟩
  | i :: is, [], h => by cases h
  | [], e :: es, h => by cases h
  | i :: is, e :: es, h => ⟨fun pins s σ H vs us Q I r ⟨env, F, ds, env', R, dl, hs, k⟩ => by
      have h : (nameOk X.N X.env.scope X.fn i e && namesOk X.N X.env.scope X.fn is es) = true := h
      rw [Bool.and_eq_true] at h
      obtain ⟨x, pos, rfl, a1, a2, a3⟩ := nameOk_shape h.1
      cases ds with
      | nil => cases hs
      | cons d ds =>
        cases dl with
        | @cons v vs _ _ dn dl =>
          have hs : (setV env i d).bind (setAll is ds) = some env' := hs
          cases q : setV env i d with
          | none => rw [q] at hs; cases hs
          | some env1 =>
            rw [q] at hs
            have hs : setAll is ds env1 = some env' := hs
            refine (pgs_cons (pg_nm (C := C) hN a1 a2 a3) (pgs_names hN h.2)).run pins s σ H (v :: vs) us Q I r ⟨v, vs, rfl, env, F, d, env1, R, dn, q, fun σ1 F1 R1 st1 l1 o1 => ?_⟩
            · refine ⟨env1, F1, ds, env', R1, dl.step (st1.plus C.Z), hs, fun σ2 F2 R2 st2 l2 o2 => k σ2 F2 R2 (st1.trans st2) (l2.trans l1) fun j hj => ?_⟩
              rw [o2 j fun z => hj (List.mem_cons_of_mem _ z)]
              exact o1 j ⟨fun z => hj (by cases z; exact List.mem_cons_self), fun _ z => by cases z⟩⟩
/-- the target of the checked form -/
def tgOk (N : List Str) (sc : Scope) (fn : Str → Bool) : Tg → Expr → Bool
  | .nm i, e => nameOk N sc fn i e
  | .tp is, .Tuple es _ _ => namesOk N sc fn is es
  | .tp _, _ => false
theorem pg_tg (f : Fit X C) {t : Tg} {e : Expr} (h : tgOk X.N X.env.scope X.fn t e = true) : PG X e (tTg C t) := by
  cases t with
  | nm i =>
    obtain ⟨x, pos, rfl, a1, a2, a3⟩ := nameOk_shape (show nameOk _ _ _ i e = true from h)
    exact pg_nm f.nd a1 a2 a3
  | tp is =>
    cases e <;> first | (cases h; done) | skip
    rename_i es kk pos
    have h : namesOk X.N X.env.scope X.fn is es = true := h
    obtain ⟨e1, e2⟩ := each_names (env := X.env) h
    refine ⟨fun pins s σ H v u Q I r ⟨env, F, d, env', R, dn, hs, k⟩ => (pg_tup f.calm (pgs_names (C := C) f.nd h) e1 e2).run pins s σ H v u Q I r ?_⟩
    cases d <;> first | (cases hs; done) | skip
    rename_i ds
    have hs : setAll is ds env = some env' := hs
    have len : ∀ (is : List Nat) (ds : List D) (env env' : Env), setAll is ds env = some env' → ds.length = is.length := by
      intro is
      induction is with
      | nil => intro ds env env' h; cases ds with | nil => rfl | cons _ _ => cases h
      | cons i is ih =>
        intro ds env env' h
        cases ds with
        | nil => cases h
        | cons d ds =>
          have h : (setV env i d).bind (setAll is ds) = some env' := h
          cases q : setV env i d with
          | none => rw [q] at h; cases h
          | some env1 => rw [q] at h; rw [List.length_cons, List.length_cons, ih ds env1 env' h]
    cases dn with
    | @tup a xs _ ha l =>
      refine ⟨a, xs, rfl, f.K ▸ ha, by rw [l.length]; exact len is ds env env' hs, env, F, ds, env', R, l, hs, fun σ' F' R' st l' o => k σ' F' R' st l' fun j hj => o j (hj.2 is rfl)⟩
end
end VE
/-! VE11: comprehensions -/
namespace VE
open PySem PySem.Spec
                        PyProof.Rows L2

section
variable {W : Wd} {H H' : Hp} {Z Z' : Addr → Prop} {C : RC} {σ σ' : VE.St} {env env' : Env} {F F' : Nat → List Addr}

def NvSl : Option Sl → Prop
  | some .no => True
  | some (.val _) => True
  | _ => False
theorem NvSl.free {s : Option Sl} (h : NvSl s) : FreeSl s := by
  rcases s with _ | s
  · exact h
  · cases s <;> first | trivial | exact h
theorem Rel.nv (R : Rel C H σ env F) {i : Nat} (h : NvSl env[i]?) : F i = [] := by
  cases q : env[i]? with
  | none => rw [q] at h; exact h.elim
  | some s =>
    have r := R.sl i s q
    rw [q] at h
    cases s with
    | no => exact r
    | val d => exact r.1
    | own o p => exact h.elim
    | lent ds => exact h.elim
    | scr ns => exact h.elim
/-- a slot without own things is forgotten -/
theorem Rel.blank (R : Rel C H σ env F) {i : Nat} (h : FreeSl env[i]?) (hF : F i = []) (x : Option V) : Rel C H (σ.set i x) (env.set i .no) F := by
  obtain ⟨R1, _⟩ := R.setNo (x := x) h
  have : upF F i [] = F := by
    funext j
    by_cases e : j = i
    · rw [e, upF_same, hF]
    · rw [upF_ne e]
  rw [this] at R1
  exact R1
theorem wipeE_spec {env : Env} : ∀ {vs : List Nat} {env' : Env}, wipeE env vs = some env' → (∀ v ∈ vs, NvSl env[v]? ∧ env'[v]? = some .no) ∧ (∀ j, j ∉ vs → env'[j]? = env[j]?) ∧ env'.length = env.length
  | [], _, h => by cases h; exact ⟨fun _ z => (by cases z), fun _ _ => rfl, rfl⟩
  | v :: vs, env', h => by
    unfold wipeE at h
    cases q2 : wipeE env vs with
    | none => rw [q2] at h; cases q1 : env[v]? with
      | none => rw [q1] at h; cases h
      | some s => rw [q1] at h; cases s <;> cases h
    | some e =>
      obtain ⟨h1, h2, h3⟩ := wipeE_spec q2
      have key : NvSl env[v]? ∧ env' = e.set v .no := by
        rw [q2] at h
        cases q1 : env[v]? with
        | none => rw [q1] at h; cases h
        | some s =>
          rw [q1] at h
          cases s <;> first | (cases h; done) | skip
          · cases h; exact ⟨trivial, rfl⟩
          · cases h; exact ⟨trivial, rfl⟩
      obtain ⟨k1, rfl⟩ := key
      have hv : v < e.length := by rw [h3]; exact k1.free.lt
      refine ⟨fun w hw => ?_, fun j hj => ?_, by simpa using h3⟩
      · by_cases e1 : w = v
        · rw [e1]; exact ⟨k1, List.getElem?_set_self hv⟩
        · rcases List.mem_cons.mp hw with e2 | hw
          · exact absurd e2 e1
          · rw [List.getElem?_set_ne (Ne.symm e1)]; exact h1 w hw
      · rw [List.getElem?_set_ne (fun z => hj (by rw [z]; exact List.mem_cons_self))]
        exact h2 j fun z => hj (List.mem_cons_of_mem _ z)
theorem Rel.wipe (R : Rel C H σ env F) : ∀ {vs : List Nat} {env' : Env}, wipeE env vs = some env' → Rel C H (L2.wipe σ vs) env' F
  | [], _, h => by cases h; exact R
  | v :: vs, env', h => by
    have h0 := (wipeE_spec h).1 v List.mem_cons_self
    unfold wipeE at h
    cases q2 : wipeE env vs with
    | none => rw [q2] at h; cases q1 : env[v]? with
      | none => rw [q1] at h; cases h
      | some s => rw [q1] at h; cases s <;> cases h
    | some e =>
      have ih := Rel.wipe R q2
      have hF := R.nv h0.1
      have ee : env' = e.set v .no := by
        rw [q2] at h
        cases q1 : env[v]? with
        | none => rw [q1] at h; cases h
        | some s => rw [q1] at h; cases s <;> first | (cases h; done) | (cases h; rfl)
      subst ee
      show Rel C H ((L2.wipe σ vs).set v none) (e.set v .no) F
      refine ih.blank ?_ hF none
      by_cases hm : v ∈ vs
      · rw [((wipeE_spec q2).1 v hm).2]; trivial
      · rw [(wipeE_spec q2).2.1 v hm]; exact h0.1.free
theorem wipe_get {σ : VE.St} {j : Nat} : ∀ {vs : List Nat}, j ∉ vs → (L2.wipe σ vs)[j]? = σ[j]?
  | [], _ => rfl
  | v :: vs, h => by
    show ((L2.wipe σ vs).set v none)[j]? = _
    rw [List.getElem?_set_ne fun z => h (by rw [z]; exact List.mem_cons_self)]
    exact wipe_get fun z => h (List.mem_cons_of_mem _ z)
theorem wipe_in {σ : VE.St} {j : Nat} (hj : j < σ.length) : ∀ {vs : List Nat}, j ∈ vs → (L2.wipe σ vs)[j]? = some none
  | v :: vs, h => by
    show ((L2.wipe σ vs).set v none)[j]? = _
    by_cases e : v = j
    · rw [e, List.getElem?_set_self (by rw [wipe_length]; exact hj)]
    · rw [List.getElem?_set_ne e]
      exact wipe_in hj ((List.mem_cons.mp h).resolve_left (Ne.symm e))
theorem wipe_eq {σ σ' : VE.St} {vs : List Nat} (hl : σ'.length = σ.length) (h : ∀ j, j ∉ vs → σ'[j]? = σ[j]?) : L2.wipe σ' vs = L2.wipe σ vs := by
  apply List.ext_getElem?
  intro j
  by_cases hj : j ∈ vs
  · by_cases hs : j < σ.length
    · rw [wipe_in hs hj, wipe_in (by omega) hj]
    · rw [List.getElem?_eq_none (by rw [wipe_length]; omega), List.getElem?_eq_none (by rw [wipe_length]; omega)]
  · rw [wipe_get hj, wipe_get hj]; exact h j hj
theorem backE_length {env0 : Env} : ∀ {vs : List Nat} {env : Env}, (backE env0 vs env).length = env.length
  | [], _ => rfl
  | v :: vs, env => by
    unfold backE
    rw [backE_length]
    cases env0[v]? with
    | none => rfl
    | some s => simp
/-- the slots of a block are given back -/
theorem backE_get {env0 : Env} {j : Nat} : ∀ {vs : List Nat} {env : Env}, env0.length = env.length → (backE env0 vs env)[j]? = if j ∈ vs then env0[j]? else env[j]?
  | [], env, _ => by simp [backE]
  | v :: vs, env, hl => by
    unfold backE
    cases q : env0[v]? with
    | none =>
      have hv := List.getElem?_eq_none_iff.mp q
      rw [backE_get hl]
      by_cases e : j = v
      · subst e
        have e2 : env[j]? = none := List.getElem?_eq_none (by omega)
        simp [q, e2]
      · simp [e]
    | some s =>
      rw [backE_get (by simpa using hl)]
      by_cases hm : j ∈ vs
      · simp [hm]
      · by_cases e : j = v
        · subst e
          have hv : j < env.length := by rw [← hl]; exact (List.getElem?_eq_some_iff.mp q).1
          simp [hm, q, hv]
        · simp [hm, e, List.getElem?_set_ne (Ne.symm e)]
/-- behind a block: the block's names have their old values again -/
theorem Rel.back {C' : RC} {σ2 : VE.St} {env2 : Env} {F2 : Nat → List Addr} {vs : List Nat} (R : Rel C H σ env F) (R2 : Rel C' H' σ2 env2 F2) (hW : C'.W = C.W) (st : Step H (Th F C.Z) H' (Th F2 C'.Z))
    (hv : ∀ v ∈ vs, NvSl env[v]? ∧ env2[v]? = some .no) (hs : ∀ j, j ∉ vs → σ2[j]? = σ[j]?) (hl : env2.length = env.length) (hp : ∀ p ∈ C'.pins, p.1 ∉ vs) (hn : ∀ p ∈ C'.lents, p.1 ∉ vs) : Rel C' H' σ (backE env vs env2) F2 := by
  refine ⟨by rw [backE_length, hl]; exact R.len, fun j t e => ?_, R2.far, R2.apart, R2.zin, R2.bin, fun j hj => R2.out j (by rw [backE_length] at hj; exact hj), fun p hp' => ?_, R2.young, fun p hp' => ?_⟩
  · rw [backE_get hl.symm] at e
    by_cases hj : j ∈ vs
    · rw [if_pos hj] at e
      have f2 : F2 j = [] := R2.nv (by rw [(hv j hj).2]; trivial)
      have r := R.sl j t e
      have n := (hv j hj).1
      rw [e] at n
      cases t with
      | no => exact f2
      | val d =>
        obtain ⟨_, v, h1, h2⟩ := r
        exact ⟨f2, v, h1, by rw [hW]; exact h2.step st⟩
      | own o p => exact n.elim
      | lent ds => exact n.elim
      | scr ns => exact n.elim
    · rw [if_neg hj] at e
      have r := R2.sl j t e
      rw [hs j hj] at r
      exact r
  · have r := R2.pin p hp'
    rw [hs p.1 (hp p hp')] at r
    rw [backE_get hl.symm, if_neg (hp p hp')]
    exact r
  · rw [backE_get hl.symm, if_neg (hn p hp')]
    exact R2.ln p hp'

/-- lending for a walk, and taking back -/
theorem lend_ok {l : Option Nat} (R : Rel C H σ env F) (hl : ∀ i, l = some i → ∃ es, (∃ p, env[i]? = some (.own (.lst es) p)) ∨ env[i]? = some (.lent es)) :
    ∃ C2 : RC, C2.W = C.W ∧ C2.Z = C.Z ∧ C2.L = C.L ∧ C2.pins = C.pins ∧ (∀ i, l = some i → ∃ es, (i, es) ∈ C2.lents) ∧ C2.B = C.B ∧ Rel C2 H σ (lend env l) F ∧
      (∀ H2 (σ2 : VE.St) env2 F2, Rel C2 H2 σ2 env2 F2 → (∀ i, l = some i → σ2[i]? = σ[i]?) → Lent C.W H2 (Th F2 C.Z) σ env l) ∧
      ∀ H2 (σ2 : VE.St) env2 F2, Rel C2 H2 σ2 env2 F2 → (∀ i, l = some i → σ2[i]? = σ[i]?) → Rel C H2 σ2 (unlend env env2 l) F2 := by
  cases l with
  | none => exact ⟨C, rfl, rfl, rfl, rfl, fun _ z => (by cases z), rfl, R, fun H2 σ2 env2 F2 R2 _ i ds z => (by cases z), fun H2 σ2 env2 F2 R2 _ => R2⟩
  | some i =>
    obtain ⟨es, he⟩ := hl i rfl
    refine ⟨C.lend i es, rfl, rfl, rfl, rfl, fun j z => ⟨es, by cases z; exact List.mem_cons_self⟩, rfl, ?_, fun H2 σ2 env2 F2 R2 hs j ds z ho => ?_, fun H2 σ2 env2 F2 R2 hs => ?_⟩
    · rcases he with ⟨p, he⟩ | he
      · simp only [VE.lend, he]
        exact R.lend (.inl ⟨p, he⟩)
      · have q := R.lend (.inr he)
        simp only [VE.lend, he]
        obtain ⟨hi, e2⟩ := List.getElem?_eq_some_iff.mp he
        rw [← e2, List.set_getElem_self] at q
        exact q
    · cases z
      have e2 := R2.ln (i, es) List.mem_cons_self
      obtain ⟨a, xs, h1, h2, h3, h4⟩ := R2.sl i _ e2
      rw [hs i rfl] at h1
      have ee : ds = es := by
        rcases ho with ⟨p, ho⟩ | ho <;> rcases he with ⟨p', he⟩ | he <;> rw [he] at ho <;> cases ho <;> rfl
      subst ee
      exact ⟨a, xs, h1, h3, h4⟩
    · have hsl : ∃ s, env[i]? = some s ∧ ((∃ p, s = .own (.lst es) p) ∨ s = .lent es) := by
        rcases he with ⟨p, he⟩ | he
        · exact ⟨_, he, .inl ⟨p, rfl⟩⟩
        · exact ⟨_, he, .inr rfl⟩
      obtain ⟨s, es1, es2⟩ := hsl
      unfold unlend
      simp only [es1]
      refine R2.unlend ?_
      rcases es2 with ⟨p, rfl⟩ | rfl
      · refine .inl ⟨p, rfl, ?_, fun q hq e => ?_, ?_⟩
        · have e2 := R2.ln (i, es) List.mem_cons_self
          obtain ⟨a, xs, h1, h2, _⟩ := R2.sl i _ e2
          obtain ⟨a0, g1, g2, _⟩ := R.sl i _ es1
          rw [hs i rfl, g1] at h1
          cases h1
          rcases h2 with h2 | ⟨_, h2⟩
          · rw [h2]; exact nofun
          · exact absurd (C.lz _ h2) (R.apart i _ (by rw [g2]; exact List.mem_cons_self))
        · have z := R.ln q hq
          rw [e, es1] at z
          cases z
        · cases p with
          | true => exact .inl rfl
          | false =>
            refine .inr fun q hq e => ?_
            have z := (R.pin q hq).2
            rw [e, es1] at z
            exact z
      · exact .inr rfl
end
end VE
/-! VE12: list comprehensions -/
namespace VE
open PySem PySem.Spec
                        PyProof.Rows L2

def anyE (W : Wd) (t : RC → TE) : TE := fun σ H Q => ∃ C' : RC, C'.W = W ∧ t C' σ H Q
def anyG (W : Wd) (t : RC → TG) : TG := fun v σ H Q => ∃ C' : RC, C'.W = W ∧ t C' v σ H Q
def anyT (W : Wd) (t : RC → TT) : TT := fun σ H Q => ∃ C' : RC, C'.W = W ∧ t C' σ H Q
theorem pe_any {X : Cx} {e : Expr} {W : Wd} {t : RC → TE} (h : ∀ C' : RC, C'.W = W → PE X e (t C')) : PE X e (anyE W t) := ⟨fun pins s σ H Q I ⟨C', hW, q⟩ => (h C' hW).run pins s σ H Q I q⟩
theorem pg_any {X : Cx} {e : Expr} {W : Wd} {t : RC → TG} (h : ∀ C' : RC, C'.W = W → PG X e (t C')) : PG X e (anyG W t) := ⟨fun pins s σ H v u Q I r ⟨C', hW, q⟩ => (h C' hW).run pins s σ H v u Q I r q⟩
theorem pts_any {X : Cx} {es : List Expr} {W : Wd} {t : RC → TT} (h : ∀ C' : RC, C'.W = W → PTs X es (t C')) : PTs X es (anyT W t) := ⟨fun pins s σ H Q I ⟨C', hW, q⟩ => (h C' hW).run pins s σ H Q I q⟩

section
variable {H H1 H2 : Hp} {Z Z1 Z2 : Addr → Prop} {C : RC} {F F1 F2 : Nat → List Addr} {p : Addr}

/-- what was new is written -/
theorem Step.poke (a : Step H Z H1 Z1) (hn : H p = none) {o' u : HO} (h1 : H1 p = some o') (ht : ∀ xs, o' ≠ .tup xs) (hf : ∀ q v, o' ≠ .frz q v) : Step H Z (upd H1 p u) Z1 where
  keep := fun b o e z => by rw [upd_ne (ne_of_none e hn)]; exact a.keep b o e z
  tups := fun b ys e => by
    have hb : b ≠ p := by
      rintro rfl
      rcases e with e | ⟨_, e⟩ <;> rw [hn] at e <;> cases e
    exact (a.tups b ys e).imp (fun q => by rw [upd_ne hb]; exact q) fun ⟨o, q⟩ => ⟨o, by rw [upd_ne hb]; exact q⟩
  news := a.news
  dom := fun b e => by
    by_cases hb : b = p
    · rw [hb]; exact hn
    · rw [upd_ne hb] at e; exact a.dom b e
  frz := fun b o v e => by rw [upd_ne (ne_of_none e hn)]; exact a.frz b o v e
/-- .. seen from a set that has it -/
theorem Step.pokeIn {o' u : HO} (hz : Z p) (h1 : H p = some o') (ht : ∀ xs, o' ≠ .tup xs) (hf : ∀ q v, o' ≠ .frz q v) : Step H Z (upd H p u) Z where
  keep := fun b o e z => by rw [upd_ne (show b ≠ p by rintro rfl; exact z hz)]; exact e
  tups := fun b ys e => by
    have hb : b ≠ p := by
      rintro rfl
      rcases e with e | ⟨_, e⟩ <;> rw [h1] at e
      · exact ht _ (Option.some.inj e)
      · exact hf _ _ (Option.some.inj e)
    exact e.imp (fun q => by rw [upd_ne hb]; exact q) fun ⟨o, q⟩ => ⟨o, by rw [upd_ne hb]; exact q⟩
  news := fun _ z => .inl z
  dom := fun b e => by
    by_cases hb : b = p
    · rw [hb, upd_same] at e; cases e
    · rw [upd_ne hb] at e; exact e
  frz := fun b o v e => by rw [upd_ne (show b ≠ p by rintro rfl; rw [h1] at e; exact hf _ _ (Option.some.inj e))]; exact e
/-- the own things, the others' things and one that is new -/
theorem Step.th (a : Step H (Om F) H1 (Om F1)) (hn : H p = none) : Step H (Th F C.Z) H1 (Th F1 (C.more [p]).Z) where
  keep := fun b o e z => a.keep b o e fun y => z (.inl y)
  tups := a.tups
  news := fun b z => by
    rcases z with z | z | z
    · exact (a.news b z).imp .inl id
    · exact .inl (.inr z)
    · exact .inr (by rw [List.mem_singleton.mp z]; exact hn)
  dom := a.dom
  frz := a.frz
/-- the same from where the new thing stood first -/
theorem Step.th0 (a : Step H (Om F) H1 (Om F1)) (hn : H p = none) {u : HO} (ht : ∀ xs, u ≠ .tup xs) (hf : ∀ q v, u ≠ .frz q v) (h1 : H1 p ≠ none) : Step (upd H p u) (Th F (C.more [p]).Z) H1 (Th F1 (C.more [p]).Z) where
  keep := fun b o e z => by
    have hb : b ≠ p := by rintro rfl; exact z (.inr (.inr List.mem_cons_self))
    rw [upd_ne hb] at e
    exact a.keep b o e fun y => z (.inl y)
  tups := fun b zs e => by
    have hb : b ≠ p := by
      rintro rfl
      rcases e with e | ⟨_, e⟩ <;> rw [upd_same] at e
      · exact ht _ (Option.some.inj e)
      · exact hf _ _ (Option.some.inj e)
    exact a.tups b zs (e.imp (fun q => by rw [upd_ne hb] at q; exact q) fun ⟨o, q⟩ => ⟨o, by rw [upd_ne hb] at q; exact q⟩)
  news := fun b z => by
    rcases z with z | z
    · rcases a.news b z with y | y
      · exact .inl (.inl y)
      · by_cases hb : b = p
        · exact .inl (.inr (.inr (by rw [hb]; exact List.mem_cons_self)))
        · exact .inr (by rw [upd_ne hb]; exact y)
    · exact .inl (.inr z)
  dom := fun b e => by
    by_cases hb : b = p
    · rw [hb] at e; exact absurd e h1
    · rw [upd_ne hb]; exact a.dom b e
  frz := fun b o v e => by
    have hb : b ≠ p := by rintro rfl; rw [upd_same] at e; exact hf _ _ (Option.some.inj e)
    rw [upd_ne hb] at e
    exact a.frz b o v e
end

section
variable {X : Cx} {C : RC}
theorem rn_lc (f : Fit X C) {elt tg iter : Expr} {ifs : List Expr} {scope : Scope} {own : List (Str × Nat)} {pos : Pos} {t : Tg} {gs : SrcF} {gc : TstF} {ge : ValF}
    (hi : PI X tg iter (tSrc C gs)) (ok : BlkOk X.N X.env.scope scope own)
    (hg : ∀ (s : Shared) (H : Hp) (Cc : Addr) (cl : List (Str × Addr)) (fp : List Addr) (C' : RC), C'.W = C.W → PG (X.blk s H scope (compEnvC scope cl Cc X.env) fp) tg (tTg C' t))
    (ht : ∀ (s : Shared) (H : Hp) (Cc : Addr) (cl : List (Str × Addr)) (fp : List Addr) (C' : RC), C'.W = C.W → PTs (X.blk s H scope (compEnvC scope cl Cc X.env) fp) ifs (tTt C' gc))
    (he : ∀ (s : Shared) (H : Hp) (Cc : Addr) (cl : List (Str × Addr)) (fp : List Addr) (C' : RC), C'.W = C.W → PE (X.blk s H scope (compEnvC scope cl Cc X.env) fp) elt (tV C' ge))
    (hs : ∀ x, foldedSetIterable iter X.env x = pure x) (htv : ∀ j, (t = .nm j ∨ ∃ is, t = .tp is ∧ j ∈ is) → j ∈ own.map (·.2)) :
    ∀ σ H Q, tN C (lcE gs gc ge t (own.map (·.2))) σ H Q → tLc (tSrc C gs) (anyG C.W fun C' => tTg C' t) (anyT C.W fun C' => tTt C' gc) (anyE C.W fun C' => tV C' ge) (own.map (·.2)) σ H Q := by
  intro σ H Q ⟨env, F, R, o, env', hev, k⟩
  generalize hvs : own.map (·.2) = vs at hev htv ⊢
  obtain ⟨⟨ds, l, env1⟩, h1, h2⟩ := rbind (show (gs env >>= _) = _ from hev)
  obtain ⟨envI, h3, h4⟩ := rbind h2
  obtain ⟨⟨acc, envE⟩, h5, h6⟩ := rbind h4
  cases h6
  have h3 := rof h3
  refine ⟨env, F, R, ds, l, env1, h1, fun J H1 F1 R1 s1 hlen hl hJ D hD => ?_⟩
  obtain ⟨RD, hz⟩ := R1.fresh (o := .lst []) hD
  obtain ⟨C2, eW, eZ, eL, eP, hln, eB, R2, lent, back⟩ := lend_ok RD hl
  have eW : C2.W = C.W := eW
  obtain ⟨w1, w2, w3⟩ := wipeE_spec h3
  have RI := R2.wipe h3
  have hDZ : C2.Z D := by rw [eZ]; exact .inr List.mem_cons_self
  have hDL : ¬ C2.L D := by rw [eL]; exact fun z => (hz D List.mem_cons_self).1 (C.lz D z)
  have lv : ∀ i, l = some i → i ∉ vs := fun i e hm => by
    obtain ⟨es, q⟩ := hln i e
    have z := R2.ln _ q
    have y := (w1 i hm).1
    rw [z] at y
    exact y
  have pv : ∀ p ∈ C2.pins, p.1 ∉ vs := fun p hp hm => (w1 p.1 hm).1.free.nopin (R2.pin p hp).2
  have nv : ∀ p ∈ C2.lents, p.1 ∉ vs := fun p hp hm => by
    have y := (w1 p.1 hm).1
    rw [R2.ln p hp] at y
    exact y
  have ww : L2.wipe (L2.wipe σ vs) vs = L2.wipe σ vs := wipe_eq (wipe_length σ vs) fun j hj => wipe_get hj
  -- the turns
  let Pv : Nat → Hp → Prop := fun i H2 => ∃ env2 F2 acc2 accV, Rel C2 H2 (L2.wipe σ vs) env2 F2 ∧ Step H1 (Om F1) H2 (Om F2) ∧ H2 D = some (.lst accV) ∧ DenL C.W H2 (Th F2 (C.more [D]).Z) accV acc2 ∧ acc2.length ≤ i ∧
    (∀ v ∈ vs, env2[v]? = some .no) ∧ env2.length = env1.length ∧ lcGo (lcTurn gc ge t vs) (ds.drop i) acc2 env2 = .ok (acc, envE)
  have llen : (VE.lend env1 l).length = env1.length := by rw [← R2.len]; exact R1.len
  refine ⟨fun i m H2 => m = ds.length - i ∧ i ≤ ds.length ∧ Pv i H2, ⟨ds.length, by simp, Nat.zero_le _, envI, F1, [], [], RI, Step.new hD, upd_same, .nil, Nat.le_refl _, fun v hv => (w1 v hv).2, by rw [w3, llen], by rw [List.drop_zero]; exact h5⟩, ?_⟩
  rintro i m H2 ⟨rfl, hi2, env2, F2, acc2, accV, RR, SS, hDD, dl, la, nos, elen, ev⟩
  have stT : Step H1 (Th F1 C.Z) H2 (Th F2 (C.more [D]).Z) := SS.th hD
  have it := hJ H2 _ stT (by
    have q := lent H2 _ env2 F2 RR fun j e => wipe_get (lv j e)
    exact q)
  cases hd : ds[i]? with
  | none =>
    refine .inl ⟨(it i).1 hd, ?_⟩
    have hge := List.getElem?_eq_none_iff.mp hd
    rw [List.drop_of_length_le hge] at ev
    cases ev
    have st0 : Step (upd H1 D (.lst [])) (Th F1 C2.Z) H2 (Th F2 C2.Z) := by rw [eZ]; exact SS.th0 hD (fun _ z => by cases z) (fun _ _ z => by cases z) (by rw [hDD]; exact nofun)
    have Rb := Rel.back R2 RR rfl st0 (fun v hv => ⟨(w1 v hv).1, nos v hv⟩) (fun j hj => wipe_get hj) (by rw [elen, llen]) pv nv
    have Rf := back H2 σ _ F2 Rb fun _ _ => rfl
    exact k D [D] H2 F2 Rf (s1.trans SS) ⟨rfl, accV, hDD, dl⟩ fun b hb => by rw [List.mem_singleton.mp hb]; exact s1.dom D hD
  | some d =>
    have hlt := (List.getElem?_eq_some_iff.mp hd).1
    have hdrop : ds.drop i = d :: ds.drop (i + 1) := by
      rw [List.drop_eq_getElem_cons
                              hlt]
      congr 1
      exact (List.getElem?_eq_some_iff.mp
                              hd).2
    rw [hdrop] at ev
    obtain ⟨⟨r, env3⟩, e1, e2⟩ := rbind (show (lcTurn gc ge t vs d env2 >>= _) = _ from ev)
    obtain ⟨go, yl⟩ := (it i).2 d hd
    refine .inr ⟨go, Pv (i + 1), fun H' q => ⟨ds.length - (i + 1), by omega, rfl, hlt, q⟩, fun x H3 hy => ?_⟩
    obtain ⟨sm, dx⟩ := yl x H3 hy
    obtain ⟨ea, e3, e4⟩ := rbind (show (Rs.of (setT env2 t d) >>= _) = _ from e1)
    obtain ⟨⟨c, eb⟩, e5, e6⟩ := rbind e4
    refine ⟨C2, eW, env2, F2, d, ea, RR.same sm, by rw [eW, eZ]; exact dx, rof e3, fun σ4 F4 R4 st4 l4 o4 => ?_⟩
    have w4 : L2.wipe σ4 vs = L2.wipe σ vs := by
      rw [← ww]
      refine wipe_eq l4 fun j hj => o4 j ⟨fun e => hj (htv j (.inl e)), fun is e z => hj (htv j (.inr ⟨is, e, z⟩))⟩
    have lea : ea.length = env2.length := by rw [← R4.len, l4, RR.len]
    refine ⟨w4, C2, eW, ea, F4, R4, c, eb, e5, fun H5 F5 R5 st5 => ?_⟩
    have s5 : Step H2 (Om F2) H5 (Om F5) := (Step.same sm).trans (st4.trans st5)
    have leb : eb.length = env2.length := by rw [← R5.len, R4.len, lea]
    cases c with
    | false =>
      obtain ⟨e7, e8, e9⟩ := rbind (show (Rs.of (wipeE eb vs) >>= _) = _ from e6)
      cases e9
      have e8 := rof e8
      obtain ⟨u1, u2, u3⟩ := wipeE_spec e8
      have Rw := R5.wipe e8
      rw [w4] at Rw
      refine ⟨env3, F5, acc2, accV, Rw, SS.trans s5, s5.keep D _ hDD (fun ⟨j, z⟩ => RR.apart j D z hDZ), ?_, by omega, fun v hv => (u1 v hv).2, by rw [u3, leb, elen], e2⟩
      exact dl.step (by rw [← eZ]; exact s5.plus C2.Z)
    | true =>
      obtain ⟨⟨y, ec⟩, e7, e8⟩ := rbind (show (ge eb >>= _) = _ from e6)
      obtain ⟨e9, e10, e11⟩ := rbind e8
      cases e11
      have e10 := rof e10
      obtain ⟨u1, u2, u3⟩ := wipeE_spec e10
      refine ⟨C2, eW, eb, F5, R5, y, ec, e7, fun v H6 F6 R6 st6 dn => ?_⟩
      have s6 : Step H2 (Om F2) H6 (Om F6) := s5.trans st6
      have lec : ec.length = env2.length := by rw [← R6.len, R5.len, leb]
      have hD6 := s6.keep D _ hDD (fun ⟨j, z⟩ => RR.apart j D z hDZ)
      have Rw := R6.wipe e10
      rw [w4] at Rw
      have dl6 : DenL C.W H6 (Th F6 (C.more [D]).Z) accV acc2 := dl.step (by rw [← eZ]; exact s6.plus C2.Z)
      have dn6 : Den C.W H6 (Th F6 (C.more [D]).Z) v y := by
        rw [eW, eZ] at dn
        exact dn
      have lacc : accV.length = acc2.length := dl6.length
      refine ⟨accV, hD6, by omega, env3, F6, acc2 ++ [y], accV ++ [v], Rw.poke hDZ hDL hD6 (fun _ z => by cases z) (fun _ _ z => by cases z), (SS.trans s6).poke hD hD6 (fun _ z => by cases z) (fun _ _ z => by cases z), upd_same, ?_, by simp; omega, fun v hv => (u1 v hv).2, by rw [u3, lec, elen], e2⟩
      exact (dl6.append (.cons dn6 .nil)).step (Step.pokeIn (.inr (.inr List.mem_cons_self)) hD6 (fun _ z => by cases z) (fun _ _ z => by cases z))
end
end VE
/-! VE13: dicts with tuple keys are written; dict comprehensions -/
namespace VE
open PySem PySem.Spec
                        PyProof.Rows L2

/-- an entry stored -/
def putH (ks : List (NestedKey × Addr × V)) (k : NestedKey) (b : Addr) (z : V) : List (NestedKey × Addr × V) :=
  if (ks.any fun q => decide (q.1 = k)) = true then ks.map (fun q => if q.1 = k then (q.1, q.2.1, z) else q) else ks ++ [(k, b, z)]
theorem EntP.any : ∀ {ks : List (NestedKey × Addr × V)} {xs : List (NestedKey × Addr × Value)} (k : NestedKey), EntP ks xs → (atKey xs k).isSome = ks.any fun q => decide (q.1 = k)
  | _, _, k, .nil => rfl
  | q :: ks, x :: xs, k, .cons e t => by
    have ih := EntP.any k t
    unfold atKey at ih ⊢
    rw [List.find?_cons, List.any_cons, e.1]
    by_cases h : x.1 = k
    · rw [decide_eq_true h]; rfl
    · rw [decide_eq_false h]; simpa using ih
theorem EntP.map {k : NestedKey} {z : V} {r : Value} (rz : RelV z r) : ∀ {ks : List (NestedKey × Addr × V)} {xs : List (NestedKey × Addr × Value)}, EntP ks xs → EntP (ks.map fun q => if q.1 = k then (q.1, q.2.1, z) else q) (xs.map (putAt k r))
  | _, _, .nil => .nil
  | q :: ks, x :: xs, .cons e t => by
    refine .cons ?_ (EntP.map rz t)
    obtain ⟨e1, e2, e3⟩ := e
    unfold putAt
    dsimp only
    by_cases h : x.1 = k
    · rw [if_pos h, if_pos (show q.1 = k from e1.trans h)]; exact ⟨e1, e2, rz⟩
    · rw [if_neg h, if_neg (show ¬ q.1 = k from fun y => h (e1.symm.trans y))]; exact ⟨e1, e2, e3⟩
theorem EntP.snoc {p : NestedKey × Addr × V} {q : NestedKey × Addr × Value} (r : p.1 = q.1 ∧ p.2.1 = q.2.1 ∧ RelV p.2.2 q.2.2) : ∀ {ks : List (NestedKey × Addr × V)} {xs : List (NestedKey × Addr × Value)}, EntP ks xs → EntP (ks ++ [p]) (xs ++ [q])
  | _, _, .nil => .cons r .nil
  | _, _, .cons e t => .cons e (EntP.snoc r t)
theorem EntP.put {ks : List (NestedKey × Addr × V)} {xs : List (NestedKey × Addr × Value)} {k : NestedKey} {b : Addr} {z : V} {r : Value} (e : EntP ks xs) (rz : RelV z r) : EntP (putH ks k b z) (storedH xs k b r) := by
  unfold putH storedH
  rw [e.any k]
  split
  · exact e.map rz
  · exact e.snoc ⟨rfl, rfl, rz⟩
theorem putH_length (ks : List (NestedKey × Addr × V)) (k : NestedKey) (b : Addr) (z : V) : (putH ks k b z).length ≤ ks.length + 1 := by
  unfold putH
  split
  · simp
  · simp
theorem DenKV.any {W : Wd} {H : Hp} {Z : Addr → Prop} : ∀ {ks : List (NestedKey × Addr × V)} {kvs : List (D × D)} (k : NestedKey), DenKV W H Z ks kvs → (ks.any fun q => decide (q.1 = k)) = hasKey kvs k
  | _, _, k, .nil => rfl
  | _, _, k, .cons a n q c t => by
    have ih := DenKV.any k t
    unfold hasKey at ih ⊢
    rw [List.any_cons, List.any_cons, ih]
    simp only [n]
theorem DenKV.map {W : Wd} {H : Hp} {Z : Addr → Prop} {k : NestedKey} {z : V} {vd : D} (dz : Den W H Z z vd) : ∀ {ks : List (NestedKey × Addr × V)} {kvs : List (D × D)}, DenKV W H Z ks kvs →
    DenKV W H Z (ks.map fun q => if q.1 = k then (q.1, q.2.1, z) else q) (kvs.map fun p => if nkey p.1 = some k then (p.1, vd) else p)
  | _, _, .nil => .nil
  | (k', b, v) :: ks, (kd, vd') :: kvs, .cons a n q c t => by
    rw [List.map_cons,
                            List.map_cons]
    by_cases h : k' = k
    · rw [if_pos h, if_pos (show nkey kd = some k by rw [n, h])]
      exact .cons a n q dz (DenKV.map dz t)
    · rw [if_neg h, if_neg (show ¬ nkey kd = some k by rw [n]; exact fun y => h (Option.some.inj y))]
      exact .cons a n q c (DenKV.map dz t)
theorem DenKV.snoc {W : Wd} {H : Hp} {Z : Addr → Prop} {k : NestedKey} {b : Addr} {z : V} {kd vd : D} (dk : Den W H Z (.ref b) kd) (n : nkey kd = some k) (q : k.depth ≤ 8) (dz : Den W H Z z vd) : ∀ {ks : List (NestedKey × Addr × V)} {kvs : List (D × D)}, DenKV W H Z ks kvs → DenKV W H Z (ks ++ [(k, b, z)]) (kvs ++ [(kd, vd)])
  | _, _, .nil => .cons dk n q dz .nil
  | _, _, .cons a n' q' c t => .cons a n' q' c (DenKV.snoc dk n q dz t)
theorem DenKV.put {W : Wd} {H : Hp} {Z : Addr → Prop} {k : NestedKey} {b : Addr} {z : V} {kd vd : D} {ks : List (NestedKey × Addr × V)} {kvs : List (D × D)} (l : DenKV W H Z ks kvs) (dk : Den W H Z (.ref b) kd) (n : nkey kd = some k) (q : k.depth ≤ 8) (dz : Den W H Z z vd) :
    DenKV W H Z (putH ks k b z) (putD kvs kd vd) := by
  unfold putH putD
  simp only [n]
  rw [l.any k]
  split
  · exact l.map dz
  · exact l.snoc dk n q dz
theorem DenKV.length {W : Wd} {H : Hp} {Z : Addr → Prop} : ∀ {ks : List (NestedKey × Addr × V)} {kvs : List (D × D)}, DenKV W H Z ks kvs → ks.length = kvs.length
  | _, _, .nil => rfl
  | _, _, .cons _ _ _ _ t => by rw [List.length_cons, List.length_cons, t.length]

section
variable {X : Cx} {pins : List (Addr × Obj)} {σ : VE.St} {H : Hp} {s : Shared} {W : Wd} {Z : Addr → Prop}

theorem dHO_at {h' : Heap} {H' : Hp} {a : Addr} {ks : List (NestedKey × Addr × V)} {xs : List (NestedKey × Addr × Value)} (hP : W.P = X.prog) (hw : W.w = X.w) (hz : ks.length ≤ sizeLine) (hs : (a == sysModules) = false) (e : EntP ks xs) (hm : h'.DictOfH (nestedKind X.prog X.w) a xs) :
    ObjOk X.prog X.w H' h' a (dHO W a ks) := by
  obtain ⟨o, es, ep, ho, hx, hd, he, _, hn⟩ := hm
  refine ⟨⟨hz, hs, xs, e, hn, o, es, ep, ho, hx, hd, by rw [he, hP, hw]⟩, ⟨o, ho⟩, ?_⟩
  rintro h1 h2 ⟨z1, z2, xs', e', nd, o', es', ep', ho', hx'⟩ hk
  exact ⟨z1, z2, xs', e', nd, o', es', ep', hk o' ho', hx'⟩
/-- d[k] = v -/
theorem d_set {E : Value → Shared → Prop} {Q : Unit → Shared → Prop} (I : Inv X pins σ H s) (hP : W.P = X.prog) (hw : W.w = X.w) (hK : W.K = X.K) (hu : X.A.units + 66 < cLine) {a b : Addr} {ks : List (NestedKey × Addr × V)} {kvs : List (D × D)} {kd : D} {k : NestedKey} {z : V} {r : Value}
    (ha : H a = some (dHO W a ks)) (l : DenKV W H Z ks kvs) (hz : ks.length < sizeLine) (dk : Den W H Z (.ref b) kd) (n : nkey kd = some k) (q : k.depth ≤ 8) (rz : RelV z r) (h : ∀ s', Inv X pins σ (upd H a (dHO W a (putH ks k b z))) s' → Q () s') :
    wpAny (model X.prog X.w) X.A (dictSet a (.ref b) r) Q E s := by
  obtain ⟨xs, ep, hm, ny, _⟩ := dict_of I hP hw hK ha l
  have ki : (nestedKind X.prog X.w).is s.heap k b := ⟨Den.nested I hK _ _ _ _ dk rfl n, q⟩
  have room : (nestedKind X.prog X.w).room X.A := by show X.A.units + 8 < cLine; omega
  refine wpAny_dictSet_heap (hsz := by rw [← ep.length]; omega) room ki hm fun h' hm' hs => h _ ?_
  have he : ∃ o, h'.get? a = some o := let ⟨o, _, _, ho, _⟩ := hm'; ⟨o, ho⟩
  exact d_write I (by rw [ha]; exact True.intro) hs he (dHO_at hP hw (by have := putH_length ks k b z; omega) ny (ep.put rz) hm')
end

/-! ### the block of a dict comprehension -/
/-- an entry comes into D, from where Nx is reached -/
def Put (W : Wd) (D : Addr) (y z : V) (H : Hp) (Nx : Hp → Prop) : Prop := ∃ ks b k Z kvs kd, H D = some (dHO W D ks) ∧ ks.length < sizeLine ∧ y = .ref b ∧ Den W H Z (.ref b) kd ∧ nkey kd = some k ∧ k.depth ≤ 8 ∧ DenKV W H Z ks kvs ∧ Nx (upd H D (dHO W D (putH ks k b z)))
abbrev Blk (X : Cx) (scope : Scope) (s : Shared) (H : Hp) (Cc : Addr) (cl : List (Str × Addr)) (fp : List Addr) : Cx := X.blk s H scope (compEnvC scope cl Cc X.env) fp
/-- a dict's comprehension: the walk, the target, and what a turn does behind it -/
def tBk (W : Wd) (wi : TI) (g : TG) (u : Addr → VE.St → Hp → (Hp → Prop) → Prop) (vs : List Nat) : TE := fun σ H Q => wi σ H fun J H1 => ∀ D, H1 D = none → ∃ Wv : Nat → Nat → Hp → Prop, (∃ m, Wv 0 m (upd H1 D (dHO W D []))) ∧ ∀ i m H, Wv i m H →
  (J.stop i H ∧ Q (.ref D) H) ∨ (J.go i H ∧ ∃ Nx : Hp → Prop, (∀ H', Nx H' → ∃ m', m' < m ∧ Wv (i + 1) m' H') ∧ ∀ x H', J.yld i H x H' → g x (L2.wipe σ vs) H' fun σ2 H2 => L2.wipe σ2 vs = L2.wipe σ vs ∧ u D σ2 H2 Nx)
/-- what a turn does behind its target -/
structure PB (X : Cx) (vs : List Nat) (B : (Shared → Prop) → Shared → Prop) (u : VE.St → Hp → (Hp → Prop) → Prop) : Prop where
  run : ∀ (pins : List (Addr × Obj)) (s : Shared) (σ : VE.St) (H : Hp) (Nx : Hp → Prop) (Post : Shared → Prop), Inv X pins σ H s → u σ H Nx → (∀ s' H', Inv X pins (L2.wipe σ vs) H' s' → Nx H' → Post s') → B Post s

section
variable {X : Cx} {C : RC}
theorem dHO_new (W : Wd) {P : Program} {w : World} {H : Hp} (h : Heap) (hb : sysModules < h.objs.size) : ObjOk P w H (h.push { cls := .type "dict", data := .dict #[] }) h.objs.size (dHO W h.objs.size []) := by
  refine ⟨⟨Nat.zero_le _, beq_eq_false_iff_ne.mpr (Ne.symm (Nat.ne_of_lt hb)), [], .nil, List.nodup_nil, _, #[], 0, Heap.get?_push_size _ rfl, ⟨rfl, rfl, rfl⟩, rfl, rfl⟩, ⟨_, Heap.get?_push_size _ rfl⟩, ?_⟩
  rintro h1 h2 ⟨z1, z2, xs, e, nd, o, es, ep, ho, hx⟩ hs
  exact ⟨z1, z2, xs, e, nd, o, es, ep, hs o ho, hx⟩
theorem inv_wipe {X : Cx} {pins : List (Addr × Obj)} {σ : VE.St} {H : Hp} {s : Shared} (I : Inv X pins σ H s) (vs : List Nat) : Inv X pins (L2.wipe σ vs) H s := I.weak (wipe_length σ vs) fun _ _ e => (wipe_some e).1
/-- the block, from the walk's source to what is wanted of the dict -/
theorem blk_dict (f : Fit X C) {kx vx tg iter : Expr} {ifs : List Expr} {rest : List Comprehension} {scope : Scope} {own : List (Str × Nat)} {pos pos' : Pos} {wi : TI} {g : TG} {u : Addr → VE.St → Hp → (Hp → Prop) → Prop} {BW : Addr → PySem.Env → (Shared → Prop) → Shared → Prop}
    {use : Option (Value → Sem Unit)} {Qf : Value → Shared → Prop} {pins : List (Addr × Obj)} {s : Shared} {σ : VE.St} {H : Hp} {Q : VK}
    (hi : PI X tg iter wi) (ok : BlkOk X.N X.env.scope scope own) (hs : ∀ x, foldedSetIterable iter X.env x = pure x)
    (hg : ∀ (s : Shared) (H : Hp) (Cc : Addr) (cl : List (Str × Addr)) (fp : List Addr), PG (Blk X scope s H Cc cl fp) tg g)
    (hb : ∀ (s : Shared) (H : Hp) (Cc : Addr) (cl : List (Str × Addr)) (fp : List Addr) (D : Addr), PB (Blk X scope s H Cc cl fp) (own.map (·.2)) (BW D (compEnvC scope cl Cc X.env)) (u D))
    (hloop : ∀ (R : Result → Shared → Prop) (it : Value) (D : Addr) (env : PySem.Env) (J : Nat → Shared → Prop), (∀ n s, J n s → wpAny (model X.prog X.w) X.A (pyNext it) (fun r s₁ => match r with
        | none => R (.ok .next) s₁
        | some v => wpAny (model X.prog X.w) X.A (letOwnedTupleGo tg it v) (fun _ s₂ => wpAny (model X.prog X.w) X.A (assign tg env v) (fun _ s₃ => BW D env (fun s' => ∃ m, m < n ∧ J m s') s₃) (fun _ _ => False) s₂) (fun _ _ => False) s₁) (fun _ _ => False) s) →
      ∀ n s, J n s → codeAny (model X.prog X.w) X.A (.compLoop (.DictComp kx vx (⟨tg, iter, ifs, 0⟩ :: rest) scope pos) 0 it (.ref D) env) R s)
    (I : Inv X pins σ H s) (h : tBk C.W wi g u (own.map (·.2)) σ H Q)
    (fin : ∀ D Cc s' m H', Inv X pins σ H' s' → Q (.ref D) H' → s'.heap.Ns Cc m → FpOk X pins H' Cc → compPost (model X.prog X.w) X.A X.xe use Qf (.ref D) Cc (.ok .next) s') :
    wpAny (model X.prog X.w) X.A (comprehension (.DictComp kx vx (⟨tg, iter, ifs, 0⟩ :: rest) scope pos) scope X.env pos' newDict false (eval iter X.env) use) Qf X.xe s := by
  have caught : ∀ y ∈ scope.names, y.2 = .free → ∃ c, X.env.cells.lookup y.1 = some c := fun y hy e =>
    (ok.free y hy e).elim (fun q => I.ok.has _ (.inl q)) fun q => I.ok.has _ (.inr q)
  refine wpAny_comprehension_free (use := use) rfl hs (closure_ok caught) ok.kind (fun y hy e => by rw [ok.uniq y hy, e]) (thn (hi.run pins s σ H _ I h) fun _ s1 hx => thn hx fun itv s2 h2 => ?_)
  obtain ⟨it, fp, tn, J, H2, rfl, I2, T, st2, f2, q⟩ := h2
  refine wpAny_newObj_type
                          (newEnv_comp ?_)
  -- the new dict, at the heap's end
  obtain ⟨D, hD⟩ : ∃ D, s2.heap.objs.size = D := ⟨_, rfl⟩
  have freeD : H2 D = none := I2.hok.fresh (by omega)
  obtain ⟨Wv, ⟨m0, w0⟩, turn⟩ := q D freeD
  obtain ⟨s3, hs3⟩ : ∃ s3 : Shared, s3 = { s2 with heap := s2.heap.push { cls := .type "dict", data := .dict #[] } } := ⟨_, rfl⟩
  obtain ⟨H3, hH3⟩ : ∃ H3, H3 = upd H2 D (dHO C.W D []) := ⟨_, rfl⟩
  have heap3 : s3.heap = s2.heap.push { cls := .type "dict", data := .dict #[] } := by rw [hs3]
  have I3 : Inv X pins σ H3 s3 := by
    subst hs3 hH3 hD
    exact I2.laid (t' := s2.toks) (fun _ _ e => Heap.get?_push_of_some _ e) (Nat.le_refl _) (dHO_new C.W s2.heap I2.big)
  have kept3 : ∀ b o, s2.heap.get? b = some o → s3.heap.get? b = some o := fun b o e => by rw [heap3]; exact Heap.get?_push_of_some _ e
  have old : ∀ b ∈ fp, b < s2.heap.objs.size := fun b hb => let ⟨_, e, _⟩ := T.obj _ _ st2 b hb; Heap.lt_size e
  have f3 : ∀ b ∈ fp, FpOk X pins H3 b ∧ b < s3.heap.objs.size := fun b hb => by
    have lt := old b hb
    obtain ⟨g1, g2⟩ := f2 b hb
    refine ⟨⟨by rw [hH3, upd_ne (Nat.ne_of_lt (by rw [← hD]; exact lt))]; exact g1, g2⟩, by rw [heap3, Heap.size_push]; exact Nat.lt_succ_of_lt lt⟩
  have st3 : tn 0 s3.heap := T.keep 0 _ _ st2 fun b _ o e => kept3 b o e
  obtain ⟨ce, hce⟩ : ∃ ce, ce = compEnvC scope (cellsFrom (s3.heap.objs.size + 1) scope.names (cloFrom X.env.cells scope.names [])) s3.heap.objs.size X.env := ⟨_, rfl⟩
  have I4 := block_start I3 ok f.nd f3
  have tgt := hg s3 H3 s3.heap.objs.size (cellsFrom (s3.heap.objs.size + 1) scope.names (cloFrom X.env.cells scope.names [])) fp
  have bod := hb s3 H3 s3.heap.objs.size (cellsFrom (s3.heap.objs.size + 1) scope.names (cloFrom X.env.cells scope.names [])) fp D
  unfold Blk at tgt bod
  rw [← hce] at I4 tgt bod
  obtain ⟨s4, hs4⟩ : ∃ s4 : Shared, s4 = { s3 with heap := pushCells (s3.heap.push { cls := .type "dict", data := .dict #[] }) scope.names } := ⟨_, rfl⟩
  rw [← hs4] at I4
  have start : codeAny (model X.prog X.w) X.A (.compStart (.DictComp kx vx (⟨tg, iter, ifs, 0⟩ :: rest) scope pos) 0 (.ref it) (.ref D) ce) (compPost (model X.prog X.w) X.A X.xe use Qf (.ref D) s3.heap.objs.size) s4 := by
    have st4 : tn 0 s4.heap := T.keep 0 _ _ st3 fun b _ o e => by rw [hs4]; exact pushCells_keeps _ _ _ _ (Heap.get?_push_of_some _ e)
    have none3 : ∀ b ∈ fp, H3 b = none := fun b hb => (f3 b hb).1.1
    have still : ∀ {σ' : VE.St} {H' : Hp} {s' : Shared}, Inv (X.blk s3 H3 scope ce fp) [] σ' H' s' → (∀ b ∈ fp, H' b = none) → ∀ b ∈ fp, FpOk (X.blk s3 H3 scope ce fp) [] H' b := fun J' hn b hb =>
      ⟨hn b hb, (J'.ok.exf b hb).1, J'.ok.exfs b hb, .inl hb, (J'.ok.exf b hb).2, fun p hp => by cases hp⟩
    have run := hloop (compPost (model X.prog X.w) X.A X.xe use Qf (.ref D) s3.heap.objs.size) (.ref it) D ce
      (fun n s' => ∃ i H', Inv (X.blk s3 H3 scope ce fp) [] (L2.wipe σ (own.map (·.2))) H' s' ∧ tn i s'.heap ∧ (∀ b ∈ fp, H' b = none) ∧ Wv i n H') ?_ m0 s4 ⟨0, H3, I4, st4, none3, by rw [hH3]; exact w0⟩
    · exact codeAny_compStart_dict run (T.self X.A 0 _ _ _ st4 run)
    rintro n s5 ⟨i, H5,
                            I5, st5, n5, w5⟩
    rcases turn i n H5 w5 with ⟨stop, good⟩ | ⟨go, Nx, less, step⟩
    · refine thnF (T.done (X.blk s3 H3 scope ce fp) rfl rfl rfl f.calm i [] s5 _ H5 (fun _ _ => False) I5 (still I5 n5) st5 stop) fun r s6 ⟨hr, I6⟩ => ?_
      subst hr
      have back : Inv X pins σ H5 s6 := I3.call' (ch := fp) I6.os I6.base I6.hok I6.bare fun b hb => by
        obtain ⟨⟨_, a1, _, a3, a4, a5⟩, _⟩ := f3 b hb
        exact ⟨a3, a1, a4, a5⟩
      have freeC : H5 ce.locals = none := I6.free
      obtain ⟨m, hn, _⟩ := I6.loc
      have hn : s6.heap.Ns
                              ce.locals m := hn
      have cl : ce.locals = s3.heap.objs.size := by rw [hce]; rfl
      rw [cl] at freeC hn
      exact fin D _ s6 m H5 back good hn (I3.fpOk (Nat.le_refl _) freeC)
    · refine thnF (T.item (X.blk s3 H3 scope ce fp) rfl rfl rfl f.calm i [] s5 _ H5 (fun _ _ => False) I5 (still I5 n5) st5 go) fun r s6 ⟨v, hr, h6⟩ => ?_
      subst hr
      refine thnF h6 fun _ s7 ⟨x,
                              H7, I7, r7, y7, st7, n7⟩ => ?_
      refine thnF (tgt.run _ s7 _ H7 x v _ (I7.pinned (still I7 n7) (T.obj _ _ st7)) r7 (step x H7 y7)) fun _ s8 ⟨σ8, H8, I8, hw8, q8⟩ => ?_
      refine bod.run _ s8 σ8 H8 Nx _ I8 q8 fun s9 H9 I9 nx => ?_
      obtain ⟨m', hm, w'⟩ := less H9 nx
      rw [hw8] at I9
      have stays : ∀ b ∈ fp, ∀ o, s7.heap.get? b = some o → s9.heap.get? b = some o ∧ H9 b = none := fun b hb o e =>
        let z := I9.pin (b, o) (List.mem_append_right _ (List.mem_append_right _ (mem_pinsAt hb e)))
        ⟨z.1, z.2.1⟩
      refine ⟨m', hm, i + 1, H9, I9.unpinned (pins := []), T.keep _ _ _ st7 fun b hb o e => (stays b hb o e).1, fun b hb => ?_, w'⟩
      obtain ⟨o, e, _⟩ :=
                              T.obj _ _ st7 b hb
      exact (stays b hb o e).2
  rw [hs4, hs3, hce] at start
  subst hs3
  rw [hD] at *
  exact start
end
end VE
/-! VE14: a dict comprehension of one clause -/
namespace VE
open PySem PySem.Spec
                        PyProof.Rows L2

abbrev TestsOf (ifs : List Expr) (env : PySem.Env) : Sem Bool := forIn ifs true fun c r => if r = true then do let ok ← isTrue c env (eval c env); pure (ForInStep.yield ok) else pure (ForInStep.yield r)
/-- a turn of one clause behind its target -/
def bw1 (P : Program) (w : World) (A : Around) (ifs : List Expr) (kx vx : Expr) (D : Addr) (env : PySem.Env) (Post : Shared → Prop) (s : Shared) : Prop :=
  wpAny (model P w) A (TestsOf ifs env) (fun ok s3 => if ok = true then wpAny (model P w) A (eval kx env) (fun kv s4 => wpAny (model P w) A (eval vx env) (fun vv s5 => wpAny (model P w) A (dictSet D kv vv) (fun _ s6 => Post s6) (fun _ _ => False) s5) (fun _ _ => False) s4) (fun _ _ => False) s3 else Post s3) (fun _ _ => False) s
def uDc (W : Wd) (tt : TT) (tk tv : TE) (D : Addr) : VE.St → Hp → (Hp → Prop) → Prop := fun σ H Nx => tt σ H fun b H3 => if b = true then tk σ H3 fun y H4 => tv σ H4 fun z H5 => Put W D y z H5 Nx else Nx H3

section
variable {X : Cx} {C : RC}
theorem loop1 {kx vx tg iter : Expr} {ifs : List Expr} {scope : Scope} {pos : Pos} (R : Result → Shared → Prop) (it : Value) (D : Addr) (env : PySem.Env) (J : Nat → Shared → Prop)
    (turn : ∀ n s, J n s → wpAny (model X.prog X.w) X.A (pyNext it) (fun r s₁ => match r with
        | none => R (.ok .next) s₁
        | some v => wpAny (model X.prog X.w) X.A (letOwnedTupleGo tg it v) (fun _ s₂ => wpAny (model X.prog X.w) X.A (assign tg env v) (fun _ s₃ => bw1 X.prog X.w X.A ifs kx vx D env (fun s' => ∃ m, m < n ∧ J m s') s₃) (fun _ _ => False) s₂) (fun _ _ => False) s₁) (fun _ _ => False) s)
    (n : Nat) (s : Shared) (h : J n s) : codeAny (model X.prog X.w) X.A (.compLoop (.DictComp kx vx [⟨tg, iter, ifs, 0⟩] scope pos) 0 it (.ref D) env) R s :=
  compLoop_anyD J (fun n s hJ => thnF (turn n s hJ) fun r s₁ h₁ => by
    cases r with
    | none => exact h₁
    | some v =>
      refine thnF h₁ fun _ s₂ h₂ => thnF h₂ fun _ s₃ h₃ => thnF h₃ fun ok s₄ h₄ => ?_
      cases ok with
      | false => exact h₄
      | true => exact thnF h₄ fun kv s₅ h₅ => thnF h₅ fun vv s₆ h₆ => thnF h₆ fun _ s₇ h₇ => h₇) n h
theorem Put.set (f : Fit X C) {X' : Cx} (e1 : X'.prog = X.prog) (e2 : X'.w = X.w) (e3 : X'.K = X.K) (hu : X'.A.units + 66 < cLine) {pins : List (Addr × Obj)} {s : Shared} {σ : VE.St} {H : Hp} {D : Addr} {y z : V} {u r : Value} {Nx : Hp → Prop} {E : Value → Shared → Prop} {Q : Unit → Shared → Prop}
    (I : Inv X' pins σ H s) (ry : RelV y u) (rz : RelV z r) (h : Put C.W D y z H Nx) (k : ∀ s' H', Inv X' pins σ H' s' → Nx H' → Q () s') : wpAny (model X'.prog X'.w) X'.A (dictSet D u r) Q E s := by
  obtain ⟨ks, b, kk, Z, kvs, kd, hD, hz, rfl, dk, n, q, l, nx⟩ := h
  cases (show u =
                          Value.ref b from ry)
  exact d_set I (by rw [f.P, e1]) (by rw [f.w, e2]) (by rw [f.K, e3]) hu hD l hz dk n q rz fun s' I' => k s' _ I' nx
theorem pb1 (f : Fit X C) (hu : X.A.units + 66 < cLine) {kx vx : Expr} {ifs : List Expr} {vs : List Nat} {D : Addr} {tt : TT} {tk tv : TE} {scope : Scope} {s0 : Shared} {H0 : Hp} {Cc : Addr} {cl : List (Str × Addr)} {fp : List Addr}
    (ht : PTs (Blk X scope s0 H0 Cc cl fp) ifs tt) (hk : PE (Blk X scope s0 H0 Cc cl fp) kx tk) (hv : PE (Blk X scope s0 H0 Cc cl fp) vx tv) :
    PB (Blk X scope s0 H0 Cc cl fp) vs (bw1 X.prog X.w X.A ifs kx vx D (compEnvC scope cl Cc X.env)) (uDc C.W tt tk tv D) := ⟨fun pins s σ H Nx Post I h k => by
  refine thnF (ht.run pins s σ H _ I h) fun ok s1 ⟨H1, I1, q1⟩ => ?_
  cases ok with
  | false => exact k s1 H1 (inv_wipe I1 vs) q1
  | true =>
    refine thnF (hk.run pins s1 σ H1 _ I1 q1) fun kv s2 ⟨y, H2, I2, ry, q2⟩ => ?_
    refine thnF (hv.run pins s2 σ H2 _ I2 q2) fun vv s3 ⟨z, H3, I3, rz, q3⟩ => ?_
    exact Put.set f (X' := Blk X scope s0 H0 Cc cl fp) rfl rfl rfl hu I3 ry rz q3 fun s' H' I' nx => k s' H' (inv_wipe I' vs) nx⟩

theorem keyOk_spec {W : Wd} {H : Hp} {Z : Addr → Prop} {v : V} {y : PyData} (h : keyOk y = true) (dn : Den W H Z v y) : ∃ k, nkey y = some k ∧ k.depth ≤ 8 ∧ ∃ b, v = .ref b := by
  cases y <;> first | (cases h; done) | skip
  rename_i ds
  simp only [keyOk] at h
  cases q : nkey (.tuple ds) with
  | none => rw [q] at h; cases h
  | some k =>
    rw [q] at h
    cases dn
    exact ⟨k, rfl, of_decide_eq_true h, _, rfl⟩
theorem rn_dc (f : Fit X C) {kx vx tg iter : Expr} {ifs : List Expr} {scope : Scope} {own : List (Str × Nat)} {pos : Pos} {t : Tg} {gs : SrcF} {gc : TstF} {gk gv : ValF}
    (htv : ∀ j, (t = .nm j ∨ ∃ is, t = .tp is ∧ j ∈ is) → j ∈ own.map (·.2)) :
    ∀ σ H Q, tN C (dcE gs gc gk gv t (own.map (·.2))) σ H Q →
      tBk C.W (tSrc C gs) (anyG C.W fun C' => tTg C' t) (fun D => uDc C.W (anyT C.W fun C' => tTt C' gc) (anyE C.W fun C' => tV C' gk) (anyE C.W fun C' => tV C' gv) D) (own.map (·.2)) σ H Q := by
  intro σ H Q ⟨env, F, R, o, env', hev, k⟩
  generalize hvs : own.map (·.2) = vs at hev htv ⊢
  obtain ⟨⟨ds, l, env1⟩, h1, h2⟩ := rbind (show (gs env >>= _) = _ from hev)
  obtain ⟨envI, h3, h4⟩ := rbind h2
  obtain ⟨⟨acc, envE⟩, h5, h6⟩ := rbind h4
  cases h6
  have h3 := rof h3
  refine ⟨env, F, R, ds, l, env1, h1, fun J H1 F1 R1 s1 hlen hl hJ D hD => ?_⟩
  obtain ⟨RD, hz⟩ := R1.fresh (o := dHO C.W D []) hD
  obtain ⟨C2, eW, eZ, eL, eP, hln, eB, R2, lent, back⟩ := lend_ok RD hl
  have eW : C2.W = C.W := eW
  obtain ⟨w1, w2, w3⟩ := wipeE_spec h3
  have RI := R2.wipe h3
  have hDZ : C2.Z D := by rw [eZ]; exact .inr List.mem_cons_self
  have hDL : ¬ C2.L D := by rw [eL]; exact fun z => (hz D List.mem_cons_self).1 (C.lz D z)
  have lv : ∀ i, l = some i → i ∉ vs := fun i e hm => by
    obtain ⟨es, q⟩ := hln i e
    have z := R2.ln _ q
    have y := (w1 i hm).1
    rw [z] at y
    exact y
  have pv : ∀ p ∈ C2.pins, p.1 ∉ vs := fun p hp hm => (w1 p.1 hm).1.free.nopin (R2.pin p hp).2
  have nv : ∀ p ∈ C2.lents, p.1 ∉ vs := fun p hp hm => by
    have y := (w1 p.1 hm).1
    rw [R2.ln p hp] at y
    exact y
  have ww : L2.wipe (L2.wipe σ vs) vs = L2.wipe σ vs := wipe_eq (wipe_length σ vs) fun j hj => wipe_get hj
  have llen : (VE.lend env1 l).length = env1.length := by rw [← R2.len]; exact R1.len
  let Pv : Nat → Hp → Prop := fun i H2 => ∃ env2 F2 acc2 ks, Rel C2 H2 (L2.wipe σ vs) env2 F2 ∧ Step H1 (Om F1) H2 (Om F2) ∧ H2 D = some (dHO C.W D ks) ∧ DenKV C.W H2 (Th F2 (C.more [D]).Z) ks acc2 ∧
    (∀ v ∈ vs, env2[v]? = some .no) ∧ env2.length = env1.length ∧ dcGo (dcTurn gc gk gv t vs) (ds.drop i) acc2 env2 = .ok (acc, envE)
  refine ⟨fun i m H2 => m = ds.length - i ∧ i ≤ ds.length ∧ Pv i H2, ⟨ds.length, by simp, Nat.zero_le _, envI, F1, [], [], RI, Step.new hD, upd_same, .nil, fun v hv => (w1 v hv).2, by rw [w3, llen], by rw [List.drop_zero]; exact h5⟩, ?_⟩
  rintro i m H2 ⟨rfl, hi2, env2, F2, acc2, ks, RR, SS, hDD, dl, nos, elen, ev⟩
  have stT : Step H1 (Th F1 C.Z) H2 (Th F2 (C.more [D]).Z) := SS.th hD
  have it := hJ H2 _ stT (by
    have q := lent H2 _ env2 F2 RR fun j e => wipe_get (lv j e)
    exact q)
  cases hd : ds[i]? with
  | none =>
    refine .inl ⟨(it i).1 hd, ?_⟩
    have hge := List.getElem?_eq_none_iff.mp hd
    rw [List.drop_of_length_le hge] at ev
    cases ev
    have st0 : Step (upd H1 D (dHO C.W D [])) (Th F1 C2.Z) H2 (Th F2 C2.Z) := by rw [eZ]; exact SS.th0 hD (fun _ z => by cases z) (fun _ _ z => by cases z) (by rw [hDD]; exact nofun)
    have Rb := Rel.back R2 RR rfl st0 (fun v hv => ⟨(w1 v hv).1, nos v hv⟩) (fun j hj => wipe_get hj) (by rw [elen, llen]) pv nv
    have Rf := back H2 σ _ F2 Rb fun _ _ => rfl
    exact k D [D] H2 F2 Rf (s1.trans SS) ⟨rfl, ks, hDD, dl⟩ fun b hb => by rw [List.mem_singleton.mp hb]; exact s1.dom D hD
  | some d =>
    have hlt := (List.getElem?_eq_some_iff.mp hd).1
    have hdrop : ds.drop i = d :: ds.drop (i + 1) := by
      rw [List.drop_eq_getElem_cons
                              hlt]
      congr 1
      exact (List.getElem?_eq_some_iff.mp
                              hd).2
    rw [hdrop] at ev
    obtain ⟨⟨r, env3⟩, e1, e2⟩ := rbind (show (dcTurn gc gk gv t vs d env2 >>= _) = _ from ev)
    obtain ⟨go, yl⟩ := (it i).2 d hd
    refine .inr ⟨go, Pv (i + 1), fun H' q => ⟨ds.length - (i + 1), by omega, rfl, hlt, q⟩, fun x H3 hy => ?_⟩
    obtain ⟨sm, dx⟩ := yl x H3 hy
    obtain ⟨ea, e3, e4⟩ := rbind (show (Rs.of (setT env2 t d) >>= _) = _ from e1)
    obtain ⟨⟨c, eb⟩, e5, e6⟩ := rbind e4
    refine ⟨C2, eW, env2, F2, d, ea, RR.same sm, by rw [eW, eZ]; exact dx, rof e3, fun σ4 F4 R4 st4 l4 o4 => ?_⟩
    have w4 : L2.wipe σ4 vs = L2.wipe σ vs := by
      rw [← ww]
      refine wipe_eq l4 fun j hj => o4 j ⟨fun e => hj (htv j (.inl e)), fun is e z => hj (htv j (.inr ⟨is, e, z⟩))⟩
    have lea : ea.length = env2.length := by rw [← R4.len, l4, RR.len]
    refine ⟨w4, C2, eW, ea, F4, R4, c, eb, e5, fun H5 F5 R5 st5 => ?_⟩
    have s5 : Step H2 (Om F2) H5 (Om F5) := (Step.same sm).trans (st4.trans st5)
    have leb : eb.length = env2.length := by rw [← R5.len, R4.len, lea]
    cases c with
    | false =>
      obtain ⟨e7, e8, e9⟩ := rbind (show (Rs.of (wipeE eb vs) >>= _) = _ from e6)
      cases e9
      have e8 := rof e8
      obtain ⟨u1, u2, u3⟩ := wipeE_spec e8
      have Rw := R5.wipe e8
      rw [w4] at Rw
      refine ⟨env3, F5, acc2, ks, Rw, SS.trans s5, s5.keep D _ hDD (fun ⟨j, z⟩ => RR.apart j D z hDZ), ?_, fun v hv => (u1 v hv).2, by rw [u3, leb, elen], e2⟩
      exact dl.step (by rw [← eZ]; exact s5.plus C2.Z)
    | true =>
      obtain ⟨⟨y, ec⟩, e7, e8⟩ := rbind (show (gk eb >>= _) = _ from e6)
      obtain ⟨⟨y2, ed⟩, e9, e10⟩ := rbind e8
      obtain ⟨e11, e12, e13⟩ := rbind e10
      cases e13
      have e12 := rof e12
      obtain ⟨u1, u2, u3⟩ := wipeE_spec e12
      have e2 : (if keyOk y && decide (acc2.length < sizeLine) then dcGo (dcTurn gc gk gv t vs) (ds.drop (i + 1)) (putD acc2 y y2) env3 else .bad) = .ok (acc, envE) := e2
      by_cases hk : (keyOk y && decide (acc2.length < sizeLine)) = true
      · rw [if_pos hk] at e2
        rw [Bool.and_eq_true] at hk
        refine ⟨C2, eW, eb, F5, R5, y, ec, e7, fun v H6 F6 R6 st6 dn => ⟨C2, eW, ec, F6, R6, y2, ed, e9, fun v2 H7 F7 R7 st7 dn2 => ?_⟩⟩
        have s7 : Step H2 (Om F2) H7 (Om F7) := s5.trans (st6.trans st7)
        have lec : ec.length = env2.length := by rw [← R6.len, R5.len, leb]
        have led : ed.length = env2.length := by rw [← R7.len, R6.len, lec]
        have hD7 := s7.keep D _ hDD (fun ⟨j, z⟩ => RR.apart j D z hDZ)
        have Rw := R7.wipe e12
        rw [w4] at Rw
        have dl7 : DenKV C.W H7 (Th F7 (C.more [D]).Z) ks acc2 := dl.step (by rw [← eZ]; exact s7.plus C2.Z)
        have dk7 : Den C.W H7 (Th F7 (C.more [D]).Z) v y := by
          have := dn.step (st7.plus C2.Z)
          rw [eW, eZ] at this
          exact this
        have dv7 : Den C.W H7 (Th F7 (C.more [D]).Z) v2 y2 := by
          rw [eW, eZ] at dn2
          exact dn2
        obtain ⟨kk, hkk, hdep, b, rfl⟩ := keyOk_spec hk.1 dk7
        have lacc := dl7.length
        have hl2 := of_decide_eq_true hk.2
        refine ⟨ks, b, kk, _, acc2, y, hD7, by omega, rfl, dk7, hkk, hdep, dl7, env3, F7, putD acc2 y y2, putH ks kk b v2, Rw.poke hDZ hDL hD7 (fun _ z => by cases z) (fun _ _ z => by cases z), (SS.trans s7).poke hD hD7 (fun _ z => by cases z) (fun _ _ z => by cases z), upd_same, ?_, fun v hv => (u1 v hv).2, by rw [u3, led, elen], e2⟩
        exact (dl7.put dk7 hkk hdep dv7).step (Step.pokeIn (.inr (.inr List.mem_cons_self)) hD7 (fun _ z => by cases z) (fun _ _ z => by cases z))
      · rw [if_neg hk] at e2; cases e2
end
end VE
/-! VE15: calls -/
namespace VE
open PySem PySem.Spec
                        PyProof.Rows L2

/-- what a call hands back -/
def RetP (C : RC) (H : Hp) (F : Nat → List Addr) (σ : VE.St) (outs : List Sl) (H' : Hp) (F' : Nat → List Addr) (v : V) : Ret → Prop
  | .val d => Rel C H' σ outs F' ∧ Step H (Om F) H' (Om F') ∧ Den C.W H' (Th F' C.Z) v d
  | .own o => ∃ a fp, v = .ref a ∧ Rel (C.more fp) H' σ outs F' ∧ Step H (Om F) H' (Om F') ∧ OwnAt C.W H' (Th F' (C.more fp).Z) fp a o ∧ ∀ b ∈ fp, ¬ C.Z b ∧ ¬ C.B b
/-- a def's promise: what the runner says -/
def spRun (W : Wd) (rn : Runner) (f : Nat) : Sp := fun vs H Q _ => ∃ (C : RC) (args : List Sl) (F : Nat → List Addr) (r : Ret) (outs : List Sl), C.W = W ∧ C.lents = [] ∧ (∀ a, H a ≠ none → C.B a) ∧ C.G = F ∧
  (∀ (k : Nat) (o : O), args[k]? = some (Sl.own o true) → ∃ a, (k, a) ∈ C.pins) ∧ (∀ (k : Nat) (o : O), args[k]? ≠ some (Sl.own o false)) ∧ (∀ p ∈ C.pins, ∃ o, args[p.1]? = some (Sl.own o true)) ∧ Rel C H (vs.map some) args F ∧ rn f args = .ok (r, outs) ∧
  ∀ v H' F', RetP C H F (vs.map some) outs H' F' v r → Q v H'

/-- an argument's value -/
inductive AosAt (C : RC) (H : Hp) (σ : VE.St) (F : Nat → List Addr) : List V → List Ao → Prop
  | nil : AosAt C H σ F [] []
  | d {v : V} {x : D} {vs : List V} {as : List Ao} : Den C.W H (Th F C.Z) v x → AosAt C H σ F vs as → AosAt C H σ F (v :: vs) (.d x :: as)
  | io {v : V} {i : Nat} {vs : List V} {as : List Ao} : σ[i]? = some (some v) → AosAt C H σ F vs as → AosAt C H σ F (v :: vs) (.io i :: as)
  | sc {v : V} {i : Nat} {vs : List V} {as : List Ao} : σ[i]? = some (some v) → AosAt C H σ F vs as → AosAt C H σ F (v :: vs) (.sc i :: as)
theorem AosAt.step {C : RC} {H H' : Hp} {σ : VE.St} {F F' : Nat → List Addr} {vs : List V} {as : List Ao} (s : Step H (Om F) H' (Om F')) (h : AosAt C H σ F vs as) : AosAt C H' σ F' vs as := by
  induction h with
  | nil => exact .nil
  | d a _ ih => exact .d (a.step (s.plus C.Z)) ih
  | io a _ ih => exact .io a ih
  | sc a _ ih => exact .sc a ih
theorem AosAt.length {C : RC} {H : Hp} {σ : VE.St} {F : Nat → List Addr} {vs : List V} {as : List Ao} (h : AosAt C H σ F vs as) : vs.length = as.length := by
  induction h with
  | nil => rfl
  | d _ _ ih => simp [ih]
  | io _ _ ih => simp [ih]
  | sc _ _ ih => simp [ih]
def AoVal (C : RC) (H : Hp) (σ : VE.St) (F : Nat → List Addr) (v : V) : Ao → Prop
  | .d x => Den C.W H (Th F C.Z) v x
  | .io i => σ[i]? = some (some v)
  | .sc i => σ[i]? = some (some v)
def AoArg (env : Env) (s : Sl) : Ao → Prop
  | .d x => s = .val x
  | .io i => ∃ o p, env[i]? = some (Sl.own o p) ∧ s = .own o true
  | .sc i => ∃ ns, env[i]? = some (Sl.scr ns) ∧ s = .scr ns
theorem AosAt.get {C : RC} {H : Hp} {σ : VE.St} {F : Nat → List Addr} {vs : List V} {as : List Ao} (h : AosAt C H σ F vs as) : ∀ {k : Nat} {ao : Ao}, as[k]? = some ao → ∃ v, vs[k]? = some v ∧ AoVal C H σ F v ao := by
  induction h with
  | nil => intro k ao e; simp at e
  | d a _ ih =>
    intro k ao e
    cases k with
    | zero => simp at e; subst e; exact ⟨_, rfl, a⟩
    | succ k => exact ih (by simpa using e)
  | io a _ ih =>
    intro k ao e
    cases k with
    | zero => simp at e; subst e; exact ⟨_, rfl, a⟩
    | succ k => exact ih (by simpa using e)
  | sc a _ ih =>
    intro k ao e
    cases k with
    | zero => simp at e; subst e; exact ⟨_, rfl, a⟩
    | succ k => exact ih (by simpa using e)

theorem mk_spec {env : Env} : ∀ {aos : List Ao} {args : List Sl}, mkArgs env aos = some args → args.length = aos.length ∧ ∀ (k : Nat) (ao : Ao), aos[k]? = some ao → ∃ s, args[k]? = some s ∧ AoArg env s ao
  | [], args, h => by cases h; exact ⟨rfl, fun k ao e => by simp at e⟩
  | ao :: aos, args, h => by
    have main : ∃ s rest, args = s :: rest ∧ mkArgs env aos = some rest ∧ AoArg env s ao := by
      cases ao with
      | d x =>
        have h : (mkArgs env aos).map (.val x :: ·) = some args := h
        obtain ⟨rest, h1, rfl⟩ := Option.map_eq_some_iff.mp h
        exact ⟨_, rest, rfl, h1, rfl⟩
      | io i =>
        unfold mkArgs at h
        split at h
        · rename_i o p q
          obtain ⟨rest, h1, rfl⟩ := Option.map_eq_some_iff.mp h
          exact ⟨_, rest, rfl, h1, o, p, q, rfl⟩
        · cases h
      | sc i =>
        unfold mkArgs at h
        split at h
        · rename_i ns q
          obtain ⟨rest, h1, rfl⟩ := Option.map_eq_some_iff.mp h
          exact ⟨_, rest, rfl, h1, ns, q, rfl⟩
        · cases h
    obtain ⟨s, rest, rfl, h1, h2⟩ := main
    obtain ⟨h3, h4⟩ := mk_spec h1
    refine ⟨by simp [h3], fun k a e => ?_⟩
    cases k with
    | zero => simp at e; subst e; exact ⟨s, rfl, h2⟩
    | succ k => exact h4 k a (by simpa using e)
theorem mem_ios {i : Nat} : ∀ {aos : List Ao}, i ∈ ios aos ↔ ∃ k : Nat, aos[k]? = some (Ao.io i)
  | [] => ⟨fun h => (by cases h), fun ⟨k, h⟩ => by simp at h⟩
  | ao :: aos => by
    have ih := mem_ios (i := i) (aos := aos)
    have tail : (∃ k : Nat, (ao :: aos)[k]? = some (Ao.io i)) ↔ ao = Ao.io i ∨ ∃ k : Nat, aos[k]? = some (Ao.io i) := ⟨fun ⟨k, h⟩ => by
      cases k with
      | zero => simp at h; exact .inl h
      | succ k => exact .inr ⟨k, by simpa using h⟩, fun h => by
      rcases h with rfl | ⟨k, h⟩
      · exact ⟨0, rfl⟩
      · exact ⟨k + 1, by simpa using h⟩⟩
    rw [tail, ← ih]
    cases ao with
    | d x => simp [ios]
    | io j => simp [ios, eq_comm]
    | sc j => simp [ios]
theorem ios_inj {i : Nat} : ∀ {aos : List Ao} {k j : Nat}, (ios aos).Nodup → aos[k]? = some (Ao.io i) → aos[j]? = some (Ao.io i) → k = j
  | [], k, j, _, h, _ => by simp at h
  | ao :: aos, k, j, nd, h1, h2 => by
    have nd' : (ios aos).Nodup ∧ (ao = Ao.io i → i ∉ ios aos) := by
      cases ao with
      | d x => exact ⟨nd, fun e => by cases e⟩
      | io a =>
        have nd : (a :: ios aos).Nodup := nd
        rw [List.nodup_cons] at nd
        exact ⟨nd.2, fun e => by cases e; exact nd.1⟩
      | sc x => exact ⟨nd, fun e => by cases e⟩
    cases k with
    | zero =>
      cases j with
      | zero => rfl
      | succ j =>
        simp at h1
        exact absurd (mem_ios.mpr ⟨j, by simpa using h2⟩) (nd'.2 h1)
    | succ k =>
      cases j with
      | zero =>
        simp at h2
        exact absurd (mem_ios.mpr ⟨k, by simpa using h1⟩) (nd'.2 h2)
      | succ j => exact congrArg (· + 1) (ios_inj (i := i) (k := k) (j := j) nd'.1 (by simpa using h1) (by simpa using h2))
theorem put_spec : ∀ {aos : List Ao} {outs : List Sl} {env env2 : Env}, (ios aos).Nodup → putOuts aos outs env = some env2 → env2.length = env.length ∧ outs.length = aos.length ∧ (∀ (j : Nat), (∀ (k : Nat), aos[k]? ≠ some (Ao.io j)) → env2[j]? = env[j]?) ∧
    ∀ (k j : Nat), aos[k]? = some (Ao.io j) → ∃ o o0 p, outs[k]? = some (Sl.own o true) ∧ env[j]? = some (Sl.own o0 p) ∧ env2[j]? = some (Sl.own o p)
  | [], outs, env, env2, _, h => by
    cases outs with
    | nil => cases h; exact ⟨rfl, rfl, fun _ _ => rfl, fun k j e => by simp at e⟩
    | cons _ _ => cases h
  | ao :: aos, outs, env, env2, nd, h => by
    cases outs with
    | nil => cases ao <;> cases h
    | cons s outs =>
      have skip : (ios aos).Nodup → (∀ j, ao ≠ Ao.io j) → putOuts aos outs env = some env2 → env2.length = env.length ∧ (s :: outs).length = (ao :: aos).length ∧ (∀ (j : Nat), (∀ (k : Nat), (ao :: aos)[k]? ≠ some (Ao.io j)) → env2[j]? = env[j]?) ∧
          ∀ (k j : Nat), (ao :: aos)[k]? = some (Ao.io j) → ∃ o o0 p, (s :: outs)[k]? = some (Sl.own o true) ∧ env[j]? = some (Sl.own o0 p) ∧ env2[j]? = some (Sl.own o p) := fun nd no h => by
        obtain ⟨h1, h2, h3, h4⟩ := put_spec nd h
        refine ⟨h1, by simp [h2], fun j hj => h3 j fun k => by simpa using hj (k + 1), fun k j e => ?_⟩
        cases k with
        | zero => simp at e; exact absurd e (no j)
        | succ k => exact h4 k j (by simpa using e)
      cases ao with
      | d x => exact skip nd (fun j e => by cases e) h
      | sc i => exact skip nd (fun j e => by cases e) h
      | io i =>
        have nd : (i :: ios aos).Nodup := nd
        rw [List.nodup_cons] at nd
        cases s <;> first | (cases h; done) | skip
        rename_i o b
        cases b with
        | false => cases h
        | true =>
          unfold putOuts at h
          split at h
          · rename_i o0 p q
            obtain ⟨h1, h2, h3, h4⟩ := put_spec nd.2 h
            have hi := (List.getElem?_eq_some_iff.mp q).1
            have other : ∀ k : Nat, aos[k]? ≠ some (Ao.io i) := fun k e => nd.1 (mem_ios.mpr ⟨k, e⟩)
            refine ⟨by simpa using h1, by simp [h2], fun j hj => ?_, fun k j e => ?_⟩
            · rw [h3 j fun k => by simpa using hj (k + 1)]
              exact List.getElem?_set_ne fun e => hj 0 (by rw [e]; rfl)
            · cases k with
              | zero =>
                simp at e
                subst e
                refine ⟨o, o0, p, rfl, q, ?_⟩
                rw [h3 i other, List.getElem?_set_self hi]
              | succ k =>
                have e : aos[k]? = some (Ao.io j) := by simpa using e
                obtain ⟨o', o0', p', g1, g2, g3⟩ := h4 k j e
                have hne : i ≠ j := fun z => other k (by rw [z]; exact e)
                rw [List.getElem?_set_ne hne] at g2
                exact ⟨o', o0', p', by simpa using g1, g2, g3⟩
          · cases h
def posOf : List Ao → Nat → Option Nat
  | [], _ => none
  | .io i :: as, j => if i = j then some 0 else (posOf as j).map (· + 1)
  | _ :: as, j => (posOf as j).map (· + 1)
theorem posOf_some : ∀ {aos : List Ao} {j k : Nat}, posOf aos j = some k → aos[k]? = some (Ao.io j)
  | [], j, k, h => by cases h
  | ao :: aos, j, k, h => by
    have tail : (posOf aos j).map (· + 1) = some k → (ao :: aos)[k]? = some (Ao.io j) := fun h => by
      obtain ⟨k', h1, rfl⟩ := Option.map_eq_some_iff.mp h
      simpa using posOf_some h1
    cases ao with
    | d x => exact tail h
    | sc x => exact tail h
    | io i =>
      unfold posOf at h
      split at h
      · rename_i e; cases h; rw [e]; rfl
      · exact tail h
theorem posOf_none : ∀ {aos : List Ao} {j : Nat}, posOf aos j = none → ∀ k : Nat, aos[k]? ≠ some (Ao.io j)
  | [], j, _, k, e => by simp at e
  | ao :: aos, j, h, k, e => by
    have tail : (posOf aos j).map (· + 1) = none → ao ≠ Ao.io j → False := fun h no => by
      have h1 : posOf aos j = none := by simpa using h
      cases k with
      | zero => simp at e; exact no e
      | succ k => exact posOf_none h1 k (by simpa using e)
    cases ao with
    | d x => exact tail h (fun e => by cases e)
    | sc x => exact tail h (fun e => by cases e)
    | io i =>
      unfold posOf at h
      split at h
      · cases h
      · rename_i hne; exact tail h fun e => by cases e; exact hne rfl

section
variable {C : RC} {H H' : Hp} {σ : VE.St} {env env2 : Env} {F : Nat → List Addr} {aos : List Ao} {args outs : List Sl} {vs : List V}

/-- the callee's things -/
def fcOf (aos : List Ao) (F : Nat → List Addr) : Nat → List Addr := fun k => match aos[k]? with
  | some (Ao.io i) => F i
  | _ => []
theorem fcOf_mem {k : Nat} {a : Addr} (h : a ∈ fcOf aos F k) : ∃ i, aos[k]? = some (Ao.io i) ∧ a ∈ F i := by
  unfold fcOf at h
  split at h
  · rename_i i q; exact ⟨i, q, h⟩
  · cases h
theorem fcOf_io {k i : Nat} (h : aos[k]? = some (Ao.io i)) : fcOf aos F k = F i := by unfold fcOf; rw [h]
def zcOf (C : RC) (aos : List Ao) (F : Nat → List Addr) : Addr → Prop := fun a => C.Z a ∨ ∃ j, (∀ k : Nat, aos[k]? ≠ some (Ao.io j)) ∧ a ∈ F j
theorem th_call (a : Addr) : Th (fcOf aos F) (zcOf C aos F) a ↔ Th F C.Z a := by
  constructor
  · rintro (⟨k, h⟩ | h | ⟨j, _, h⟩)
    · obtain ⟨i, _, h⟩ := fcOf_mem h
      exact .inl ⟨i, h⟩
    · exact .inr h
    · exact .inl ⟨j, h⟩
  · rintro (⟨j, h⟩ | h)
    · by_cases e : ∃ k : Nat, aos[k]? = some (Ao.io j)
      · obtain ⟨k, e⟩ := e
        exact .inl ⟨k, by rw [fcOf_io e]; exact h⟩
      · exact .inr (.inr ⟨j, fun k q => e ⟨k, q⟩, h⟩)
    · exact .inr (.inl h)
def refAt (n : Nat) : V → List (Nat × Addr)
  | .ref a => [(n, a)]
  | _ => []
def pinsOf : Nat → List Ao → List V → List (Nat × Addr)
  | _, [], _ => []
  | _, _ :: _, [] => []
  | n, .io _ :: as, v :: vs => refAt n v ++ pinsOf (n + 1) as vs
  | n, _ :: as, _ :: vs => pinsOf (n + 1) as vs
theorem pins_spec : ∀ {aos : List Ao} {vs : List V} {n k : Nat} {a : Addr}, (k, a) ∈ pinsOf n aos vs → ∃ j i, k = n + j ∧ aos[j]? = some (Ao.io i) ∧ vs[j]? = some (.ref a)
  | [], _, _, _, _,
                          h => by cases h
  | _ :: _, [], _, _, _, h => by cases h
  | ao :: aos, v :: vs, n, k, a, h => by
    have tail : (k, a) ∈ pinsOf (n + 1) aos vs → ∃ j i, k = n + j ∧ (ao :: aos)[j]? = some (Ao.io i) ∧ (v :: vs)[j]? = some (.ref a) := fun h => by
      obtain ⟨j, i, h1, h2, h3⟩ := pins_spec h
      exact ⟨j + 1, i, by omega, by simpa using h2, by simpa using h3⟩
    cases ao with
    | d x => exact tail h
    | sc x => exact tail h
    | io i =>
      rcases List.mem_append.mp (show (k, a) ∈ refAt n v ++ pinsOf (n + 1) aos vs from h) with h | h
      · cases v <;> first | (cases h; done) | skip
        have h := List.mem_singleton.mp h
        cases h
        exact ⟨0, i, rfl, rfl, rfl⟩
      · exact tail h
theorem pins_has : ∀ {aos : List Ao} {vs : List V} {n j i : Nat} {a : Addr}, aos[j]? = some (Ao.io i) → vs[j]? = some (.ref a) → (n + j, a) ∈ pinsOf n aos vs
  | [], _, _, _, _, _,
                          h, _ => by simp at h
  | _ :: _, [], _, _, _,
                          _, _, h => by simp at h
  | ao :: aos, v :: vs, n, j, i, a, h1, h2 => by
    cases j with
    | zero =>
      simp at h1 h2
      subst h1 h2
      exact List.mem_append_left _ List.mem_cons_self
    | succ j =>
      have ih := pins_has (n := n + 1) (show aos[j]? = some (Ao.io i) by simpa using h1) (show vs[j]? = some (.ref a) by simpa using h2)
      have e : n + 1 + j = n + (j + 1) := by omega
      rw [e] at ih
      cases ao with
      | d x => exact ih
      | sc x => exact ih
      | io x => exact List.mem_append_right _ ih
/-- the callee's run -/
def ccOf (C : RC) (H : Hp) (aos : List Ao) (F : Nat → List Addr) (vs : List V) : RC := { W := C.W, Z := zcOf C aos F, L := fun _ => False, B := fun a => H a ≠ none, G := fcOf aos F, pins := pinsOf 0 aos vs, lents := [], lz := fun _ h => h.elim }
theorem rel_call (R : Rel C H σ env F) (A : AosAt C H σ F vs aos) (hm : mkArgs env aos = some args) (nd : (ios aos).Nodup) : Rel (ccOf C H aos F vs) H (vs.map some) args (fcOf aos F) := by
  obtain ⟨m1, m2⟩ := mk_spec hm
  have st : Step H (Th F C.Z) H (Th (fcOf aos F) (ccOf C H aos F vs).Z) := ⟨fun _ _ e _ => e, fun _ _ e => e, fun a h => .inl ((th_call a).mp h), fun _ e => e, fun _ _ _ e => e⟩
  refine ⟨by rw [List.length_map, A.length, m1], fun k s e => ?_, fun k j a h1 h2 => ?_, fun k a h z => ?_, fun a z => ?_, fun a z => z, fun k hk => ?_, fun p hp => ?_, fun k a h _ => h, fun p hp => by cases hp⟩
  · have hk : k < aos.length := by rw [← m1]; exact (List.getElem?_eq_some_iff.mp e).1
    obtain ⟨s', h1, h2⟩ := m2 k _ (List.getElem?_eq_getElem hk)
    obtain ⟨v, h3, h4⟩ := A.get (List.getElem?_eq_getElem hk)
    rw [e] at h1
    cases h1
    rw [List.getElem?_map, h3]
    have hao : aos[k]? = some aos[k] := List.getElem?_eq_getElem hk
    generalize aos[k] = ao at h2 h4 hao
    cases ao with
    | d x =>
      subst h2
      exact ⟨by unfold fcOf; rw [hao], v, rfl, h4.step st⟩
    | io i =>
      obtain ⟨o, p, q, rfl⟩ := h2
      obtain ⟨a, g1, g2⟩ := R.sl i _ q
      rw [h4] at g1
      cases g1
      rw [fcOf_io hao]
      exact ⟨a, rfl, g2.step st fun _ _ _ e => e⟩
    | sc i =>
      obtain ⟨ns, q, rfl⟩ := h2
      obtain ⟨g0, a, g1, g2⟩ := R.sl i _ q
      rw [h4] at g1
      cases g1
      exact ⟨by unfold fcOf; rw [hao], a, rfl, g2⟩
  · obtain ⟨i, e1, h1⟩ := fcOf_mem h1
    obtain ⟨i', e2, h2⟩ := fcOf_mem h2
    have := R.far i i' a h1 h2
    subst this
    exact ios_inj nd e1 e2
  · obtain ⟨i, e1, h⟩ := fcOf_mem h
    rcases z with z | ⟨j, z1, z2⟩
    · exact R.apart i a h z
    · have := R.far i j a h z2
      subst this
      exact z1 k e1
  · rcases z with z | ⟨j, _, z⟩
    · exact R.zin a z
    · exact R.dom z
  · unfold fcOf
    rw [List.getElem?_eq_none (by rw [← m1]; exact hk)]
  · obtain ⟨j, i, h1, h2, h3⟩ := pins_spec hp
    have h1 : p.1 = j := by omega
    rw [h1, List.getElem?_map, h3]
    refine ⟨rfl, ?_⟩
    obtain ⟨s', g1, o, q, g2, rfl⟩ := m2 j _ h2
    rw [g1]
    trivial
/-- behind the call -/
def fbOf (aos : List Ao) (F Fc : Nat → List Addr) : Nat → List Addr := fun j => match posOf aos j with
  | some k => Fc k
  | none => F j
theorem fb_cases {Fc : Nat → List Addr} (j : Nat) : (∃ k : Nat, aos[k]? = some (Ao.io j) ∧ fbOf aos F Fc j = Fc k) ∨ ((∀ k : Nat, aos[k]? ≠ some (Ao.io j)) ∧ fbOf aos F Fc j = F j) := by
  unfold fbOf
  cases q : posOf aos j with
  | none => exact .inr ⟨posOf_none q, rfl⟩
  | some k => exact .inl ⟨k, posOf_some q, rfl⟩
theorem rel_back {Fc : Nat → List Addr} {fp : List Addr} (R : Rel C H σ env F) (A : AosAt C H σ F vs aos) (nd : (ios aos).Nodup) (hm : mkArgs env aos = some args) (ho : putOuts aos outs env = some env2)
    (hn : ∀ b ∈ fp, H b = none) (Rc : Rel ((ccOf C H aos F vs).more fp) H' (vs.map some) outs Fc) (st : Step H (Om (fcOf aos F)) H' (Om Fc)) : Rel (C.more fp) H' σ env2 (fbOf aos F Fc) ∧ Step H (Om F) H' (Om (fbOf aos F Fc)) := by
  obtain ⟨p1, p2, p3, p4⟩ := put_spec nd ho
  have zz : ∀ {a}, (C.more fp).Z a → ((ccOf C H aos F vs).more fp).Z a := fun z => z.imp .inl id
  have omF : ∀ {a}, Om (fbOf aos F Fc) a → Om Fc a ∨ ∃ j, (∀ k : Nat, aos[k]? ≠ some (Ao.io j)) ∧ a ∈ F j := fun ⟨j, h⟩ => by
    rcases fb_cases (F := F) (Fc := Fc) (aos := aos) j with ⟨k, _, e⟩ | ⟨e1, e2⟩
    · rw [e] at h; exact .inl ⟨k, h⟩
    · rw [e2] at h; exact .inr ⟨j, e1, h⟩
  have sO : Step H (Om F) H' (Om (fbOf aos F Fc)) := ⟨fun a o e n => st.keep a o e fun ⟨k, h⟩ => by
      obtain ⟨i, _, h⟩ := fcOf_mem h
      exact n ⟨i, h⟩, st.tups, fun a h => by
      rcases omF h with h | ⟨j, _, h⟩
      · exact (st.news a h).imp (fun ⟨k, h⟩ => let ⟨i, _, h⟩ := fcOf_mem h; ⟨i, h⟩) id
      · exact .inl ⟨j, h⟩, st.dom, st.frz⟩
  have kept : ∀ j, (∀ k : Nat, aos[k]? ≠ some (Ao.io j)) → ∀ b ∈ F j, ∀ u, H b = some u → H' b = some u := fun j hj b hb u e => st.keep b u e fun ⟨k, h⟩ => by
    obtain ⟨i, e1, h⟩ := fcOf_mem h
    have := R.far i j b h hb
    subst this
    exact hj k e1
  have keptZ : ∀ b, C.Z b → ∀ u, H b = some u → H' b = some u := fun b hb u e => st.keep b u e fun ⟨k, h⟩ => by
    obtain ⟨i, e1, h⟩ := fcOf_mem h
    exact R.apart i b h hb
  have thT : ∀ {a}, Th (fbOf aos F Fc) (C.more fp).Z a → Th Fc ((ccOf C H aos F vs).more fp).Z a := fun h => by
    rcases h with h | h
    · rcases omF h with h | ⟨j, e, h⟩
      · exact .inl h
      · exact .inr (.inl (.inr ⟨j, e, h⟩))
    · exact .inr (zz h)
  have sT : Step H (Th F C.Z) H' (Th (fbOf aos F Fc) (C.more fp).Z) := ⟨fun a o e n => sO.keep a o e fun z => n (.inl z), st.tups, fun a h => by
      rcases h with h | h | h
      · exact (sO.news a h).imp .inl id
      · exact .inl (.inr h)
      · exact .inr (hn a h), st.dom, st.frz⟩
  have sC : Step H' (Th Fc ((ccOf C H aos F vs).more fp).Z) H' (Th (fbOf aos F Fc) (C.more fp).Z) := ⟨fun _ _ e _ => e, fun _ _ e => e, fun a h => .inl (thT h), fun _ e => e, fun _ _ _ e => e⟩
  refine ⟨⟨by rw [p1]; exact R.len, fun j s e => ?_, fun j j' a h1 h2 => ?_, fun j a h z => ?_, fun a z => ?_, fun a z => fun e => R.bin a z (st.dom a e), fun j hj => ?_, fun p hp => ?_, fun j a h hB => ?_, fun p hp => ?_⟩, sO⟩
  · rcases fb_cases (F := F) (Fc := Fc) (aos := aos) j with ⟨k, e1, e2⟩ | ⟨e1, e2⟩
    · obtain ⟨o, o0, p, g1, g2, g3⟩ := p4 k j e1
      rw [g3] at e
      cases e
      obtain ⟨a, f1, f2⟩ := Rc.sl k _ g1
      obtain ⟨v, f3, f4⟩ := A.get e1
      have f4 : σ[j]? = some (some v) := f4
      rw [List.getElem?_map, f3] at f1
      cases f1
      rw [e2]
      exact ⟨a, f4, f2.step sC fun _ _ _ e => e⟩
    · rw [p3 j e1] at e
      rw [e2]
      exact SlAt.step sT (fun b hb u hu => kept j e1 b hb u hu) (fun b hb u hu => keptZ b (C.lz b hb) u hu) (fun _ z => z) (R.sl j s e)
  · rcases fb_cases (F := F) (Fc := Fc) (aos := aos) j with ⟨k, e1, e2⟩ | ⟨e1, e2⟩
    · rcases fb_cases (F := F) (Fc := Fc) (aos := aos) j' with ⟨k', e3, e4⟩ | ⟨e3, e4⟩
      · rw [e2] at h1
        rw [e4] at h2
        have := Rc.far k k' a h1 h2
        subst this
        rw [e1] at e3
        cases e3
        rfl
      · rw [e2] at h1
        rw [e4] at h2
        exact absurd (.inl (.inr ⟨j', e3, h2⟩)) (Rc.apart k a h1)
    · rcases fb_cases (F := F) (Fc := Fc) (aos := aos) j' with ⟨k', e3, e4⟩ | ⟨e3, e4⟩
      · rw [e2] at h1
        rw [e4] at h2
        exact absurd (.inl (.inr ⟨j, e1, h1⟩)) (Rc.apart k' a h2)
      · rw [e2] at h1
        rw [e4] at h2
        exact R.far j j' a h1 h2
  · rcases fb_cases (F := F) (Fc := Fc) (aos := aos) j with ⟨k, e1, e2⟩ | ⟨e1, e2⟩
    · rw [e2] at h
      exact Rc.apart k a h (zz z)
    · rw [e2] at h
      rcases z with z | z
      · exact R.apart j a h z
      · exact R.dom h (hn a z)
  · rcases z with z | z
    · exact fun e => R.zin a z (st.dom a e)
    · exact Rc.zin a (.inr z)
  · rcases fb_cases (F := F) (Fc := Fc) (aos := aos) j with ⟨k, e1, e2⟩ | ⟨e1, e2⟩
    · obtain ⟨o, o0, p, g1, g2, g3⟩ := p4 k j e1
      have := (List.getElem?_eq_some_iff.mp g3).1
      omega
    · rw [e2]
      exact R.out j (by rw [← p1]; exact hj)
  · refine ⟨(R.pin p hp).1, ?_⟩
    by_cases e : ∃ k : Nat, aos[k]? = some (Ao.io p.1)
    · obtain ⟨k, e⟩ := e
      obtain ⟨o, o0, q, g1, g2, g3⟩ := p4 k _ e
      have z := (R.pin p hp).2
      rw [g2] at z
      rw [g3]
      cases q with
      | true => trivial
      | false => exact z
    · rw [p3 p.1 fun k q => e ⟨k, q⟩]
      exact (R.pin p hp).2
  · rcases fb_cases (F := F) (Fc := Fc) (aos := aos) j with ⟨k, e1, e2⟩ | ⟨e1, e2⟩
    · rw [e2] at h
      have z : a ∈ fcOf aos F k := Rc.young k a h (R.bin a hB)
      rw [fcOf_io e1] at z
      exact R.young j a z hB
    · rw [e2] at h
      exact R.young j a h hB
  · have z := R.ln p hp
    rw [p3 p.1 fun k q => ?_]
    · exact z
    · obtain ⟨o, o0, q, g1, g2, g3⟩ := p4 k _ q
      rw [z] at g2
      cases g2
end
end VE
/-! VE16: calls as expressions; arguments; items; pop -/
namespace VE
open PySem PySem.Spec
                        PyProof.Rows L2

def tA (C : RC) (g : Env → Rs (List Ao × Env)) : TA := fun σ H Q => ∃ env F, Rel C H σ env F ∧ ∃ aos env', g env = .ok (aos, env') ∧
  ∀ vs H' F', Rel C H' σ env' F' → Step H (Om F) H' (Om F') → AosAt C H' σ F' vs aos → Q vs H'
/-- what a call hands back, seen from the caller: what is new was not there -/
def RetN (C : RC) (H : Hp) (F : Nat → List Addr) (σ : VE.St) (outs : List Sl) (H' : Hp) (F' : Nat → List Addr) (v : V) : Ret → Prop
  | .val d => Rel C H' σ outs F' ∧ Step H (Om F) H' (Om F') ∧ Den C.W H' (Th F' C.Z) v d
  | .own o => ∃ a fp, v = .ref a ∧ Rel (C.more fp) H' σ outs F' ∧ Step H (Om F) H' (Om F') ∧ OwnAt C.W H' (Th F' (C.more fp).Z) fp a o ∧ ∀ b ∈ fp, H b = none
/-- a call, whatever it hands back -/
def tCl (C : RC) (rn : Runner) (f : Nat) (ga : Env → Rs (List Ao × Env)) : TE := fun σ H Q => ∃ env F, Rel C H σ env F ∧ ∃ aos env1, ga env = .ok (aos, env1) ∧ ∃ r env2, runCall rn f aos env1 = .ok (r, env2) ∧
  ∀ v H' F', RetN C H F σ env2 H' F' v r → Q v H'
def CallOk (X : Cx) (CX : CXT) (k : Nat) (W : Wd) (rn : Runner) (nm : Str) (id : Nat) : Prop := ∃ fa fd ps, X.mg nm = some (.ref fa) ∧ PySem.W.keepIn X.K (.ref fa) = true ∧ FnOk X.prog X.w X.K X.mg X.base CX k fa fd ps (spRun W rn id) ∧ Binds X.K fd ps []

theorem runCall_spec {rn : Runner} {f : Nat} {aos : List Ao} {env env2 : Env} {r : Ret} (h : runCall rn f aos env = .ok (r, env2)) : (ios aos).Nodup ∧ ∃ args outs, mkArgs env aos = some args ∧ rn f args = .ok (r, outs) ∧ putOuts aos outs env = some env2 := by
  unfold runCall at h
  by_cases nd : (ios aos).Nodup
  · rw [if_pos nd] at h
    obtain ⟨args, h1, h2⟩ := rbind h
    obtain ⟨⟨r', outs⟩, h3, h4⟩ := rbind h2
    obtain ⟨env', h5, h6⟩ := rbind h4
    cases h6
    exact ⟨nd, args, outs, rof h1, h3, rof h5⟩
  · rw [if_neg nd] at h; cases h
theorem th_back {C : RC} {H : Hp} {F Fc : Nat → List Addr} {aos : List Ao} {vs : List V} {fp : List Addr} {a : Addr} (h : Th (fbOf aos F Fc) (C.more fp).Z a) : Th Fc ((ccOf C H aos F vs).more fp).Z a := by
  rcases h with ⟨j, h⟩ | h | h
  · rcases fb_cases (F := F) (Fc := Fc) (aos := aos) j with ⟨k, _, e⟩ | ⟨e1, e2⟩
    · rw [e] at h; exact .inl ⟨k, h⟩
    · rw [e2] at h; exact .inr (.inl (.inr ⟨j, e1, h⟩))
  · exact .inr (.inl (.inl h))
  · exact .inr (.inr h)

section
variable {X : Cx} {C : RC}
theorem call_post {C : RC} {rn : Runner} {f : Nat} {H : Hp} {σ : VE.St} {env env2 : Env} {F : Nat → List Addr} {aos : List Ao} {vs : List V} {r : Ret} {Q : VK} {E : XK} (R : Rel C H σ env F) (A : AosAt C H σ F vs aos) (h : runCall rn f aos env = .ok (r, env2))
    (k : ∀ v H' F', RetN C H F σ env2 H' F' v r → Q v H') : spRun C.W rn f vs H Q E := by
  obtain ⟨nd, args, outs, hm, hr, hp⟩ := runCall_spec h
  obtain ⟨m1, m2⟩ := mk_spec hm
  have Rc := rel_call R A hm nd
  have at_ : ∀ (k : Nat) (o : O) (b : Bool), args[k]? = some (Sl.own o b) → b = true ∧ ∃ i, aos[k]? = some (Ao.io i) := fun k o b e => by
    have hk : k < aos.length := by rw [← m1]; exact (List.getElem?_eq_some_iff.mp e).1
    obtain ⟨s, h1, h2⟩ := m2 k _ (List.getElem?_eq_getElem hk)
    rw [e] at h1
    cases h1
    have hao := List.getElem?_eq_getElem hk
    generalize aos[k] = ao at h2 hao
    cases ao with
    | d x => cases h2
    | io i => obtain ⟨o', p, _, e2⟩ := h2; cases e2; exact ⟨rfl, i, hao⟩
    | sc i => obtain ⟨ns, _, e2⟩ := h2; cases e2
  refine ⟨ccOf C H aos F vs, args, fcOf aos F, r, outs, rfl, rfl, fun a z => z, rfl, fun k o e => ?_, fun k o e => ?_, fun p hp => ?_, Rc, hr, fun v H' F' rp => ?_⟩
  · obtain ⟨_, i, e1⟩ := at_ k o true e
    obtain ⟨a, e2, _⟩ := Rc.sl k _ e
    rw [List.getElem?_map] at e2
    cases q : vs[k]? with
    | none => rw [q] at e2; cases e2
    | some v =>
      rw [q] at e2
      cases e2
      refine ⟨a, ?_⟩
      have := pins_has (n := 0) e1 q
      rwa [Nat.zero_add] at this
  · exact absurd (at_ k o false e).1 (by simp)
  · obtain ⟨j, i, e1, e2, _⟩ := pins_spec hp
    obtain ⟨s, h1, o, q, _, rfl⟩ := m2 j _ e2
    rw [show p.1 = j by omega]
    exact ⟨o, h1⟩
  · cases r with
    | val d =>
      obtain ⟨R', st, dn⟩ := rp
      have Rm : Rel ((ccOf C H aos F vs).more []) H' (vs.map some) outs F' := R'.grow (Same.refl _) (fun b hb => by cases hb) (fun b hb => by cases hb)
      obtain ⟨Rb, sb⟩ := rel_back (fp := []) R A nd hm hp (fun b hb => by cases hb) Rm st
      refine k v H' _ ⟨Rb.drop, sb, dn.less fun a h => ?_⟩
      rcases th_back (C := C) (H := H) (vs := vs) (fp := []) (th_more h) with z | z | z
      · exact .inl z
      · exact .inr z
      · cases z
    | own o =>
      obtain ⟨a, fp, rfl, Rm, st, ow, hz⟩ := rp
      have hn : ∀ b ∈ fp, H b = none := fun b hb => Classical.byContradiction fun e => (hz b hb).2 e
      obtain ⟨Rb, sb⟩ := rel_back (fp := fp) R A nd hm hp hn Rm st
      refine k _ H' _ ⟨a, fp, rfl, Rb, sb, ow.step ⟨fun _ _ e _ => e, fun _ _ e => e, fun a h => .inl (th_back h), fun _ e => e, fun _ _ _ e => e⟩ (fun _ _ _ e => e), hn⟩
theorem rx_call {CX : CXT} {k : Nat} {rn : Runner} {nm : Str} {id : Nat} {es : List Expr} {p pos : Pos} {ga : Env → Rs (List Ao × Env)} (ck : CallOk X CX k C.W rn nm id) (hr : Room k X.A) (hx : Passes CX X (fun _ _ _ => False)) (hg : Gl X nm) (hdb : (nm == ("__debug__" : Str)) = false)
    (hs : es.all star0 = true) (h0 : es = [] → ∀ env aos env1, ga env = .ok (aos, env1) → aos = [] ∧ env1 = env) (ha : PA X es (tA C ga)) : PE X (.Call (.Name nm p) es [] pos) (tCl C rn id ga) := by
  obtain ⟨fa, fd, ps, hm, hk, F, hb⟩ := ck
  have post : ∀ σ H Q, tCl C rn id ga σ H Q → tA C ga σ H fun vs H1 => spRun C.W rn id (vs ++ []) H1 Q (fun _ _ _ => False) := fun σ H Q ⟨env, F0, R, aos, env1, h1, r, env2, h2, k⟩ => ⟨env, F0, R, aos, env1, h1, fun vs H1 F1 R1 s1 A => by
    show spRun C.W rn id (vs ++ []) H1 Q _
    rw [List.append_nil]
    refine call_post R1 A h2 fun v H' F' rp => k v H' F' ?_
    cases r with
    | val d => exact ⟨rp.1, s1.trans rp.2.1, rp.2.2⟩
    | own o =>
      obtain ⟨a, fp, e, Rm, st, ow, hz⟩ := rp
      exact ⟨a, fp, e, Rm, s1.trans st, ow, fun b hb => s1.dom b (hz b hb)⟩⟩
  cases es with
  | nil =>
    refine PE.imp (pe_call0 F hr hg hm hk hb .nil hx hdb) fun σ H Q ⟨env, F0, R, aos, env1, h1, r, env2, h2, k⟩ => ?_
    obtain ⟨rfl, rfl⟩ := h0 rfl _ _ _ h1
    exact call_post (E := fun _ _ _ => False) R .nil h2 k
  | cons e es =>
    have hs : (star0 e && es.all star0) = true := by simpa using hs
    rw [Bool.and_eq_true] at hs
    have pl : ∀ es : List Expr, es.all star0 = true → (backTo pos (starEach es X.env)).any (·.1) = false := by
      intro es
      induction es with
      | nil => intro _; rfl
      | cons e es ih =>
        intro h
        have h : (star0 e && es.all star0) = true := by simpa using h
        rw [Bool.and_eq_true] at h
        rw [star_of h.1]
        exact ih h.2
    exact PE.imp (pe_call F hr hg hm hk hb .nil hx ha hdb (star_of hs.1 _ _) (pl es hs.2)) fun σ H Q h => post σ H Q h
end
end VE
/-! VE17: expressions -/
namespace VE
open PySem PySem.Spec
                        PyProof.Rows L2

section
variable {X : Cx} {C : RC} {e ea eb ec : Expr} {g h g2 : Env → Rs (Opd × Env)} {p pos apos : Pos}

theorem rx_const {d : D} {v : V} (h : PE X e (tC v)) (hd : ∀ H Z, Den C.W H Z v d) : PE X e (tX C fun env => .ok (.d d, env)) := PE.imp h fun σ H Q ⟨env, F, R, x, env', hg, k⟩ => by
  cases hg
  exact k v H F R Step.refl (hd _ _)
theorem rx_var {i : Nat} (h : PE X e (tVar i)) : PE X e (tX C fun env => do let d ← Rs.of (getV env i); .ok (.d d, env)) := PE.imp h fun σ H Q ⟨env, F, R, x, env', hg, k⟩ => by
  obtain ⟨d, h1, h2⟩ := rbind (show (Rs.of (getV env i) >>= _) = _ from hg)
  cases h2
  have h1 := rof h1
  unfold getV at h1
  cases q : env[i]? with
  | none => rw [q] at h1; cases h1
  | some s =>
    rw [q] at h1
    cases s <;> first | (cases h1; done) | skip
    cases h1
    obtain ⟨_, v, h3, h4⟩ := R.sl i _ q
    exact ⟨v, h3, k v H F R Step.refl h4⟩
theorem bnd_val {H : Hp} {σ : VE.St} {env : Env} {F : Nat → List Addr} {i : Nat} (R : Rel C H σ env F) (h : bnd env[i]? = true) : ∃ v, σ[i]? = some (some v) := by
  cases q : env[i]? with
  | none => rw [q] at h; cases h
  | some s =>
    rw [q] at h
    have r := R.sl i s q
    cases s with
    | no => cases h
    | val d => obtain ⟨_, v, e, _⟩ := r; exact ⟨v, e⟩
    | own o p => obtain ⟨a, e, _⟩ := r; exact ⟨_, e⟩
    | lent ds => obtain ⟨a, xs, e, _⟩ := r; exact ⟨_, e⟩
    | scr ns => obtain ⟨_, a, e, _⟩ := r; exact ⟨_, e⟩
theorem rx_bor {i : Nat} (h : PE X e (tVar i)) : PE X e (tX C fun env => if bnd env[i]? then .ok (.s i, env) else .bad) := PE.imp h fun σ H Q ⟨env, F, R, x, env', hg, k⟩ => by
  have hg : (if bnd env[i]? then Rs.ok (Opd.s i, env) else .bad) = .ok (x, env') := hg
  by_cases hb : bnd env[i]? = true
  · rw [if_pos hb] at hg
    cases hg
    obtain ⟨v, hv⟩ := bnd_val R hb
    exact ⟨v, hv, k v H F R Step.refl hv⟩
  · rw [if_neg hb] at hg; cases hg

theorem asT_inv {r : Rs (Opd × Env)} {b : Bool} {env1 : Env} (h : asT r = .ok (b, env1)) : r = .ok (.d (.bool b), env1) := by
  obtain ⟨⟨x, e1⟩, h1, h2⟩ := rbind (show (r >>= _) = _ from h)
  cases x with
  | s i => cases h2
  | d y => cases y <;> first | (cases h2; done) | (cases h2; exact h1)
theorem asV_inv {r : Rs (Opd × Env)} {d : D} {env1 : Env} (h : asV r = .ok (d, env1)) : r = .ok (.d d, env1) := by
  obtain ⟨⟨x, e1⟩, h1, h2⟩ := rbind (show (r >>= _) = _ from h)
  obtain ⟨y, h3, h4⟩ := rbind h2
  cases x with
  | s i => cases rof h3
  | d z => cases rof h3; cases h4; exact h1
/-- a test's reading, as a value's -/
theorem tT_X {σ : VE.St} {H : Hp} {Q : Bool → Hp → Prop} (h : tTt C (fun env => asT (g env)) σ H Q) : tX C g σ H fun x H' => ∃ k, x = .bl k ∧ Q k H' := by
  obtain ⟨env, F, R, b, env', hg, k⟩ := h
  refine ⟨env, F, R, .d (.bool b), env', asT_inv hg, fun v H' F' R' s o => ?_⟩
  have o : Den C.W H' (Th F' C.Z) v (.bool b) := o
  cases o
  exact ⟨b, rfl, k H' F' R' s⟩
/-- an expression's value as a test -/
theorem rt_val (h : PE X e (tX C g)) (he : ∀ whole, isTrue e X.env whole = (do let v ← whole; standAt e.pos; holding [v] (truthy v))) : PT X e (tTt C fun env => asT (g env)) := PT.imp (pt_val h he) fun σ H Q h => tT_X h
theorem rt_cmp {t : TE} (h : PT X e (tTest t)) (k : ∀ σ H Q, tX C g σ H Q → t σ H Q) : PT X e (tTt C fun env => asT (g env)) := PT.imp h fun σ H Q q => k _ _ _ (tT_X q)

theorem bin_imp {op : D → D → Option D} (g h : Env → Rs (Opd × Env)) : ∀ σ H Q, tX C (fun env => do let (x, env1) ← g env; let (y, env2) ← h env1; let d ← Rs.of (deref env2 x); let e ← Rs.of (deref env2 y); let r ← Rs.of (op d e); .ok (.d r, env2)) σ H Q →
    tX C g σ H fun v H1 => tX C h σ H1 fun u H2 => rU2 C op v u H2 Q := fun σ H Q ⟨env, F, R, z, env', hg, k⟩ => by
  obtain ⟨⟨x, env1⟩, h1, h2⟩ := rbind (show (g env >>= _) = _ from hg)
  obtain ⟨⟨y, env2⟩, h3, h4⟩ := rbind h2
  obtain ⟨d, h5, h6⟩ := rbind h4
  obtain ⟨d2, h7, h8⟩ := rbind h6
  obtain ⟨r, h9, h10⟩ := rbind h8
  cases h10
  refine ⟨env, F, R, x, env1, h1, fun v H1 F1 R1 s1 o1 => ⟨env1, F1, R1, y, env', h3, fun u H2 F2 R2 s2 o2 => ?_⟩⟩
  have o1' : OpdAt C H2 σ F2 v x := by
    cases x with
    | d w => exact Den.step (s2.plus C.Z) o1
    | s i => exact o1
  exact ⟨F2, d, d2, r, fun a h => R2.thdom h, o1'.lk R2 (rof h5), o2.lk R2 (rof h7), rof h9, fun v' H3 sm dn => k v' H3 F2 (R2.same sm) ((s1.trans s2).trans (Step.same sm)) dn⟩
theorem un_imp {op : D → Option D} (g : Env → Rs (Opd × Env)) : ∀ σ H Q, tX C (fun env => do let (x, env1) ← g env; let d ← Rs.of (deref env1 x); let r ← Rs.of (op d); .ok (.d r, env1)) σ H Q → tX C g σ H fun v H1 => rU1 C op v H1 Q := fun σ H Q ⟨env, F, R, y, env', hg, k⟩ => by
  obtain ⟨⟨x, env1⟩, h1, h2⟩ := rbind (show (g env >>= _) = _ from hg)
  obtain ⟨d, h3, h4⟩ := rbind h2
  obtain ⟨r, h5, h6⟩ := rbind h4
  cases h6
  refine ⟨env, F, R, x, env', h1, fun v H1 F1 R1 s1 o1 => ⟨F1, d, r, fun a h => R1.thdom h, o1.lk R1 (rof h3), rof h5, fun v' H2 sm dn => ?_⟩⟩
  exact k v' H2 F1 (R1.same sm) (s1.trans (Step.same sm)) dn

theorem rx_not (ha : PE X ea (tX C g)) : PE X (.UnaryOp .Not ea pos) (tX C fun env => do let (x, env1) ← g env; let d ← Rs.of (deref env1 x); let r ← Rs.of (uop .not d); .ok (.d r, env1)) := PE.imp (pe_not ha) fun σ H Q q => by
  obtain ⟨env, F, R, x, env1, hg, k⟩ := un_imp (op := uop .not) g σ H Q q
  refine ⟨env, F, R, x, env1, hg, fun v H' F' R' s o => ?_⟩
  obtain ⟨F2, d, r, _, lk, ho, k2⟩ := k v H' F' R' s o
  cases d <;> first | (cases ho; done) | skip
  cases lk
  cases ho
  exact ⟨_, rfl, k2 _ _ (Same.refl _) (.bl _)⟩
/-- a test for not: the operand a test -/
theorem rt_not (hd : ∀ env x env1, g env = .ok (x, env1) → ∃ d, x = .d d) (ha : PT X ea (tTt C fun env => asT (g env))) : PT X (.UnaryOp .Not ea pos) (tTt C fun env => asT (do let (x, env1) ← g env; let d ← Rs.of (deref env1 x); let r ← Rs.of (uop .not d); .ok (.d r, env1))) := PT.imp (pt_not ha) fun σ H Q ⟨env, F, R, b, env', hg, k⟩ => by
  have hg := asT_inv hg
  obtain ⟨⟨x, env1⟩, h1, h2⟩ := rbind (show (g env >>= _) = _ from hg)
  obtain ⟨d, h3, h4⟩ := rbind h2
  obtain ⟨r, h5, h6⟩ := rbind h4
  cases h6
  have h5 := rof h5
  have h3 := rof h3
  have hc : ∃ c, d = .bool c ∧ b = !c := by
    cases d <;> first | (cases h5; done) | (cases h5; exact ⟨_, rfl, rfl⟩)
  obtain ⟨c, rfl, rfl⟩ := hc
  cases x with
  | d y =>
    cases h3
    refine ⟨env, F, R, c, env', (show asT (g env) = _ by rw [h1]; rfl), fun H' F' R' s => ?_⟩
    exact k H' F' R' s
  | s i => obtain ⟨d, e⟩ := hd _ _ _ h1; cases e

def evAnd (g h : Env → Rs (Opd × Env)) (env : Env) : Rs (Opd × Env) := do
    let (c, env1) ← asT (g env)
    if c then
      let (c2, env2) ← asT (h env1)
      .ok (.d (.bool c2), env2)
    else .ok (.d (.bool false), env1)
def evOr (g h : Env → Rs (Opd × Env)) (env : Env) : Rs (Opd × Env) := do
    let (c, env1) ← asT (g env)
    if c then .ok (.d (.bool true), env1)
    else
      let (c2, env2) ← asT (h env1)
      .ok (.d (.bool c2), env2)
def evIte (t g h : Env → Rs (Opd × Env)) (env : Env) : Rs (Opd × Env) := do
    let (c, env1) ← asT (t env)
    if c then do
      let (d, env2) ← asV (g env1)
      .ok (.d d, env2)
    else do
      let (d, env2) ← asV (h env1)
      .ok (.d d, env2)
theorem and_cases {env env' : Env} {x : Opd} (hg : evAnd g h env = .ok (x, env')) : (g env = .ok (.d (.bool false), env') ∧ x = .d (.bool false)) ∨ ∃ env1 c, g env = .ok (.d (.bool true), env1) ∧ h env1 = .ok (.d (.bool c), env') ∧ x = .d (.bool c) := by
  obtain ⟨⟨c, env1⟩, h1, h2⟩ := rbind (show (asT (g env) >>= _) = _ from hg)
  cases c with
  | false => cases h2; exact .inl ⟨asT_inv h1, rfl⟩
  | true =>
    obtain ⟨⟨c2, env2⟩, h3, h4⟩ := rbind (show (asT (h env1) >>= _) = _ from h2)
    cases h4
    exact .inr ⟨env1, c2, asT_inv h1, asT_inv h3, rfl⟩
theorem or_cases {env env' : Env} {x : Opd} (hg : evOr g h env = .ok (x, env')) : (g env = .ok (.d (.bool true), env') ∧ x = .d (.bool true)) ∨ ∃ env1 c, g env = .ok (.d (.bool false), env1) ∧ h env1 = .ok (.d (.bool c), env') ∧ x = .d (.bool c) := by
  obtain ⟨⟨c, env1⟩, h1, h2⟩ := rbind (show (asT (g env) >>= _) = _ from hg)
  cases c with
  | true => cases h2; exact .inl ⟨asT_inv h1, rfl⟩
  | false =>
    obtain ⟨⟨c2, env2⟩, h3, h4⟩ := rbind (show (asT (h env1) >>= _) = _ from h2)
    cases h4
    exact .inr ⟨env1, c2, asT_inv h1, asT_inv h3, rfl⟩
theorem rx_and {es : List Expr} (ha : PE X ea (tX C g)) (hb : PE X (.BoolOp .And (eb :: es) pos) (tX C h)) : PE X (.BoolOp .And (ea :: eb :: es) pos) (tX C (evAnd g h)) := PE.imp (pe_and ha hb) fun σ H Q ⟨env, F, R, x, env', hg, k⟩ => by
  rcases and_cases hg with ⟨h1, rfl⟩ | ⟨env1, c, h1, h2, rfl⟩
  · exact ⟨env, F, R, _, env', h1, fun v H' F' R' s o => by
      have o : Den C.W H' (Th F' C.Z) v (.bool false) := o
      cases o
      exact ⟨false, rfl, k _ H' F' R' s (Den.bl false)⟩⟩
  · exact ⟨env, F, R, _, env1, h1, fun v H' F' R' s o => by
      have o : Den C.W H' (Th F' C.Z) v (.bool true) := o
      cases o
      exact ⟨true, rfl, env1, F', R', _, env', h2, fun v2 H2 F2 R2 s2 o2 => k v2 H2 F2 R2 (s.trans s2) o2⟩⟩
theorem rx_or {es : List Expr} (ha : PE X ea (tX C g)) (hb : PE X (.BoolOp .Or (eb :: es) pos) (tX C h)) : PE X (.BoolOp .Or (ea :: eb :: es) pos) (tX C (evOr g h)) := PE.imp (pe_or ha hb) fun σ H Q ⟨env, F, R, x, env', hg, k⟩ => by
  rcases or_cases hg with ⟨h1, rfl⟩ | ⟨env1, c, h1, h2, rfl⟩
  · exact ⟨env, F, R, _, env', h1, fun v H' F' R' s o => by
      have o : Den C.W H' (Th F' C.Z) v (.bool true) := o
      cases o
      exact ⟨true, rfl, k _ H' F' R' s (Den.bl true)⟩⟩
  · exact ⟨env, F, R, _, env1, h1, fun v H' F' R' s o => by
      have o : Den C.W H' (Th F' C.Z) v (.bool false) := o
      cases o
      exact ⟨false, rfl, env1, F', R', _, env', h2, fun v2 H2 F2 R2 s2 o2 => k v2 H2 F2 R2 (s.trans s2) o2⟩⟩
theorem asT_of {r : Rs (Opd × Env)} {b : Bool} {env1 : Env} (h : r = .ok (.d (.bool b), env1)) : asT r = .ok (b, env1) := by rw [h]; rfl
theorem rw_and {es : List Expr} (ha : PT X ea (tTt C fun env => asT (g env))) (hb : PW X (.BoolOp .And (eb :: es) pos) (tTt C fun env => asT (h env))) : PW X (.BoolOp .And (ea :: eb :: es) pos) (tTt C fun env => asT (evAnd g h env)) := PW.imp (pw_and ha hb) fun σ H Q ⟨env, F, R, b, env', hg, k⟩ => by
  rcases and_cases (asT_inv hg) with ⟨h1, e⟩ | ⟨env1, c, h1, h2, e⟩
  · cases e
    exact ⟨env, F, R, _, env', asT_of h1, fun H' F' R' s => k H' F' R' s⟩
  · cases e
    exact ⟨env, F, R, _, env1, asT_of h1, fun H' F' R' s => ⟨env1, F', R', _, env', asT_of h2, fun H2 F2 R2 s2 => k H2 F2 R2 (s.trans s2)⟩⟩
theorem rw_or {es : List Expr} (ha : PT X ea (tTt C fun env => asT (g env))) (hb : PW X (.BoolOp .Or (eb :: es) pos) (tTt C fun env => asT (h env))) : PW X (.BoolOp .Or (ea :: eb :: es) pos) (tTt C fun env => asT (evOr g h env)) := PW.imp (pw_or ha hb) fun σ H Q ⟨env, F, R, b, env', hg, k⟩ => by
  rcases or_cases (asT_inv hg) with ⟨h1, e⟩ | ⟨env1, c, h1, h2, e⟩
  · cases e
    exact ⟨env, F, R, _, env', asT_of h1, fun H' F' R' s => k H' F' R' s⟩
  · cases e
    exact ⟨env, F, R, _, env1, asT_of h1, fun H' F' R' s => ⟨env1, F', R', _, env', asT_of h2, fun H2 F2 R2 s2 => k H2 F2 R2 (s.trans s2)⟩⟩
theorem rx_ite (hc : PT X ec (tTt C fun env => asT (g env))) (ha : PE X ea (tX C h)) (hb : PE X eb (tX C g2)) : PE X (.IfExp ec ea eb pos) (tX C (evIte g h g2)) := PE.imp (pe_ifExp hc ha hb) fun σ H Q ⟨env, F, R, x, env', hg, k⟩ => by
  obtain ⟨⟨c, env1⟩, h1, h2⟩ := rbind (show (asT (g env) >>= _) = _ from hg)
  refine ⟨env, F, R, c, env1, h1, fun H1 F1 R1 s1 => ?_⟩
  cases c with
  | true =>
    obtain ⟨⟨d, env2⟩, h3, h4⟩ := rbind (show (asV (h env1) >>= _) = _ from h2)
    cases h4
    exact ⟨env1, F1, R1, _, env', asV_inv h3, fun v H2 F2 R2 s2 o => k v H2 F2 R2 (s1.trans s2) o⟩
  | false =>
    obtain ⟨⟨d, env2⟩, h3, h4⟩ := rbind (show (asV (g2 env1) >>= _) = _ from h2)
    cases h4
    exact ⟨env1, F1, R1, _, env', asV_inv h3, fun v H2 F2 R2 s2 o => k v H2 F2 R2 (s1.trans s2) o⟩

/-! slices -/
def slP (d : D) (lo hi : Option Int) : Option D := match d with | .list ds => some (.list (cutL ds lo hi)) | .tuple ds => some (.tuple (cutL ds lo hi)) | _ => none
theorem slD2 {d l u r : D} (h : slD d l (some u) = some r) : ∃ lo hi, l = .int lo ∧ u = .int hi ∧ slP d (some lo) (some hi) = some r := by
  cases d <;> first | (cases h; done) | skip
  all_goals
    cases l <;> first | (cases h; done) | skip
    cases u <;> first | (cases h; done) | skip
    exact ⟨_, _, rfl, rfl, h⟩
theorem slD1 {d l r : D} (h : slD d l none = some r) : ∃ lo, l = .int lo ∧ slP d (some lo) none = some r := by
  cases d <;> first | (cases h; done) | skip
  all_goals
    cases l <;> first | (cases h; done) | skip
    exact ⟨_, rfl, h⟩
theorem rx_sl (f : Fit X C) {p2 : Pos} (ha : PE X ea (tX C g)) (hb : PE X eb (tX C h)) (hc : PE X ec (tX C g2)) : PE X (.Subscript ea (.Slice (some eb) (some ec) none p2) pos) (tX C fun env => do
    let (x, env1) ← g env
    let (l, env2) ← asV (h env1)
    let (u, env3) ← asV (g2 env2)
    let d ← Rs.of (deref env3 x)
    let r ← Rs.of (slD d l (some u))
    .ok (.d r, env3)) := PE.imp (pe_slice (rb_sl f) ha (po_some hb) (po_some hc)) fun σ H Q ⟨env, F, R, z, env', hg, k⟩ => by
  obtain ⟨⟨x, env1⟩, h1, h2⟩ := rbind (show (g env >>= _) = _ from hg)
  obtain ⟨⟨l, env2⟩, h3, h4⟩ := rbind h2
  obtain ⟨⟨u, env3⟩, h5, h6⟩ := rbind h4
  obtain ⟨d, h7, h8⟩ := rbind h6
  obtain ⟨r, h9, h10⟩ := rbind h8
  cases h10
  have h9 := rof h9
  refine ⟨env, F, R, x, env1, h1, fun v H1 F1 R1 s1 o1 => ⟨env1, F1, R1, _, env2, asV_inv h3, fun v2 H2 F2 R2 s2 o2 => ?_⟩⟩
  obtain ⟨lo, hi, rfl, rfl, h9⟩ := slD2 h9
  have o2 : Den C.W H2 (Th F2 C.Z) v2 (.int lo) := o2
  cases o2
  refine ⟨lo, rfl, env2, F2, R2, _, env', asV_inv h5, fun v3 H3 F3 R3 s3 o3 => ?_⟩
  have o3 : Den C.W H3 (Th F3 C.Z) v3 (.int hi) := o3
  cases o3
  have o1' : OpdAt C H3 σ F3 v x := by
    cases x with
    | d w => exact Den.step ((s2.trans s3).plus C.Z) o1
    | s i => exact o1
  exact ⟨hi, rfl, F3, d, r, fun a h => R3.thdom h, o1'.lk R3 (rof h7), (by cases d <;> exact h9), fun v' H4 sm dn => k v' H4 F3 (R3.same sm) (((s1.trans s2).trans s3).trans (Step.same sm)) dn⟩
theorem rx_slf (f : Fit X C) {p2 : Pos} (ha : PE X ea (tX C g)) (hb : PE X eb (tX C h)) : PE X (.Subscript ea (.Slice (some eb) none none p2) pos) (tX C fun env => do
    let (x, env1) ← g env
    let (l, env2) ← asV (h env1)
    let d ← Rs.of (deref env2 x)
    let r ← Rs.of (slD d l none)
    .ok (.d r, env2)) := PE.imp (pe_slice (rb_sl f) ha (po_some hb) po_none) fun σ H Q ⟨env, F, R, z, env', hg, k⟩ => by
  obtain ⟨⟨x, env1⟩, h1, h2⟩ := rbind (show (g env >>= _) = _ from hg)
  obtain ⟨⟨l, env2⟩, h3, h4⟩ := rbind h2
  obtain ⟨d, h7, h8⟩ := rbind h4
  obtain ⟨r, h9, h10⟩ := rbind h8
  cases h10
  have h9 := rof h9
  refine ⟨env, F, R, x, env1, h1, fun v H1 F1 R1 s1 o1 => ⟨env1, F1, R1, _, env', asV_inv h3, fun v2 H2 F2 R2 s2 o2 => ?_⟩⟩
  obtain ⟨lo, rfl, h9⟩ := slD1 h9
  have o2 : Den C.W H2 (Th F2 C.Z) v2 (.int lo) := o2
  cases o2
  have o1' : OpdAt C H2 σ F2 v x := by
    cases x with
    | d w => exact Den.step (s2.plus C.Z) o1
    | s i => exact o1
  exact ⟨lo, rfl, F2, d, r, fun a h => R2.thdom h, o1'.lk R2 (rof h7), (by cases d <;> exact h9), fun v' H4 sm dn => k v' H4 F2 (R2.same sm) ((s1.trans s2).trans (Step.same sm)) dn⟩
/-- "..".join(list) -/
theorem rx_join {s : Str} {j : Nat} (hb : PE X eb (tX C h)) (hs : star0 eb = true) (hl : (apos.endLine == pos.line) = true) : PE X (.Call (.Attribute (.Constant (.str s) j p) "join" apos) [eb] [] pos) (tX C fun env => do
    let (x, env1) ← (Rs.ok (Opd.d (.str s), env) : Rs (Opd × Env))
    let (y, env2) ← h env1
    let d ← Rs.of (deref env2 x)
    let e ← Rs.of (deref env2 y)
    let r ← Rs.of (bop .join d e)
    .ok (.d r, env2)) := PE.imp (pe_m1 PySem.F.slot_str_join PySem.F.type_str_join rb_join (rx_const (C := C) pe_str fun H Z => Den.str s) hb (star_of hs [] _) rfl hl) fun σ H Q q => by
  obtain ⟨env, F, R, x, env1, hg, k⟩ := bin_imp (op := bop .join) (fun env => Rs.ok (Opd.d (.str s), env)) h σ H Q q
  cases hg
  refine ⟨env, F, R, _, env, rfl, fun v H' F' R' s' o => ⟨?_, ?_⟩⟩
  · have o : Den C.W H' (Th F' C.Z) v (.str s) := o
    cases o
    exact ⟨s, rfl⟩
  · obtain ⟨env2, F2, R2, y, env3, hg2, k2⟩ := k v H' F' R' s' o
    exact ⟨env2, F2, R2, y, env3, hg2, fun u H3 F3 R3 s3 o3 => ⟨u, rfl, k2 u H3 F3 R3 s3 o3⟩⟩
/-- an own list is written -/
theorem Rel.write {H : Hp} {σ : VE.St} {env : Env} {F : Nat → List Addr} {i : Nat} {ds : List D} {pn : Bool} (R : Rel C H σ env F) (q : env[i]? = some (.own (.lst ds) pn)) :
    ∃ a xs, σ[i]? = some (some (.ref a)) ∧ H a = some (.lst xs) ∧ DenL C.W H (Th F C.Z) xs ds ∧ ∀ ys es, DenL C.W H (Th F C.Z) ys es → Rel C (upd H a (.lst ys)) σ (env.set i (.own (.lst es) pn)) F ∧ Step H (Om F) (upd H a (.lst ys)) (Om F) := by
  obtain ⟨a, e1, e2, xs, ha, l⟩ := R.sl i _ q
  refine ⟨a, xs, e1, ha, l, fun ys es dl => ?_⟩
  obtain ⟨hi, _⟩ := List.getElem?_eq_some_iff.mp q
  have ain : Om F a := ⟨i, by rw [e2]; exact List.mem_cons_self⟩
  have st : Step H (Om F) (upd H a (.lst ys)) (Om F) := Step.pokeIn ain ha (fun _ z => by cases z) (fun _ _ z => by cases z)
  have eF : upF F i [a] = F := by
    funext j
    by_cases e : j = i
    · rw [e, upF_same, e2]
    · rw [upF_ne e]
  have key := R.put (H' := upd H a (.lst ys)) (i := i) (x := some (.ref a)) (s := .own (.lst es) pn) (fp := [a]) hi (fun ds' e => by rw [q] at e; cases e) (fun b o e nz => by
    rw [upd_ne (show b ≠ a by rintro rfl; exact nz (by rw [e2]; exact List.mem_cons_self))]; exact e) st.tups st.frz st.dom (fun b hb => .inl (by rw [e2]; exact hb)) ⟨a, rfl, rfl, ys, upd_same, by rw [eF]; exact dl.step (st.plus C.Z)⟩ (fun p hp e => by
    have z := (R.pin p hp).1
    rw [e, e1] at z
    cases z
    refine ⟨rfl, ?_⟩
    have z2 := (R.pin p hp).2
    rw [e, q] at z2
    cases pn with
    | true => trivial
    | false => exact z2.elim)
  obtain ⟨R2, s2⟩ := key
  have es : σ.set i (some (.ref a)) = σ := by
    obtain ⟨h1, h2⟩ := List.getElem?_eq_some_iff.mp e1
    rw [← h2]; exact List.set_getElem_self h1
  rw [es, eF] at R2
  exact ⟨R2, st⟩
/-- own.pop() -/
theorem rx_pop {i : Nat} (ho : PE X e (tVar i)) (hb : attributeBase e "pop" X.env (eval e X.env) = eval e X.env) (hl : (apos.endLine == pos.line) = true) : PE X (.Call (.Attribute e "pop" apos) [] [] pos) (tX C fun env => match env[i]? with
    | some (.own (.lst ds) p) => match ds.getLast? with
      | some d => .ok (.d d, env.set i (.own (.lst ds.dropLast) p))
      | none => .bad
    | _ => .bad) := PE.imp (pe_bm0 PySem.F.plainAttrs_list PySem.F.slot_list_pop PySem.F.type_list_pop (r := rPop) (fun pins s σ H x xs v us Q I rx rxs h => mt_pop pins s σ H x xs v us Q I rx rxs h) ho hb hl) fun σ H Q ⟨env, F, R, z, env', hg, k⟩ => by
  cases q : env[i]? with
  | none => simp only [q] at hg; cases hg
  | some s =>
    simp only [q] at hg
    cases s <;> first | (cases hg; done) | skip
    rename_i o pn
    cases o <;> first | (cases hg; done) | skip
    rename_i ds
    simp only at hg
    cases q2 : ds.getLast? with
    | none => simp only [q2] at hg; cases hg
    | some d =>
      simp only [q2] at hg
      cases hg
      obtain ⟨a, xs, e1, ha, l, wr⟩ := R.write q
      have hlast : ds[ds.length - 1]? = some d := by rw [← List.getLast?_eq_getElem?]; exact q2
      obtain ⟨v, hv, dv⟩ := l.get hlast
      rw [← l.length] at hv
      have dl : DenL C.W H (Th F C.Z) xs.dropLast ds.dropLast := by
        have := l.take (ds.length - 1)
        rw [List.dropLast_eq_take, List.dropLast_eq_take, l.length]
        exact this
      obtain ⟨R2, s2⟩ := wr _ _ dl
      exact ⟨.ref a, e1, .inl ⟨rfl, xs, .inl (.inl ha)⟩, a, xs, v, rfl, rfl, ha, hv, k v _ _ R2 s2 (dv.step (s2.plus C.Z))⟩
end
end VE
/-! VE18: an expression and what is bound to it; comprehensions at both places -/
namespace VE
open PySem PySem.Spec
                        PyProof.Rows L2

def swOk (sc : Scope) (y : Str) (py : Pos) : Expr → Bool
  | .ListComp _ _ s p => sc.names.lookup y == some .cell || (sc.names.lookup y == some .local && py.line == p.line && !(s.names.any fun (n, k) => n == y && (k == .local || k == .cell)))
  | .DictComp _ _ _ s p => sc.names.lookup y == some .cell || (sc.names.lookup y == some .local && py.line == p.line && !(s.names.any fun (n, k) => n == y && (k == .local || k == .cell)))
  | .SetComp .. => false
  | _ => true
structure AtP (X : Cx) (x : Expr) (t : TE) : Prop where
  pe : PE X x t
  ps : ∀ (i : Nat) (y : Str) (py pos : Pos), nameOk X.N X.env.scope X.fn i (.Name y py) = true → swOk X.env.scope y py x = true → PS X (.Assign [.Name y py] x pos) (tAsg t (gName i))
theorem AtP.imp {X : Cx} {x : Expr} {t t' : TE} (h : AtP X x t) (k : ∀ σ H Q, t' σ H Q → t σ H Q) : AtP X x t' :=
  ⟨PE.imp h.pe k, fun i y py pos a b => PS.imp (h.ps i y py pos a b) fun D σ H q => k _ _ _ q⟩
def noComp : Expr → Bool
  | .ListComp .. => false
  | .DictComp .. => false
  | .SetComp .. => false
  | _ => true
section
variable {X : Cx} {C : RC}
theorem AtP.of (f : Fit X C) {x : Expr} {t : TE} (h : PE X x t) (hx : noComp x = true) : AtP X x t := ⟨h, fun i y py pos a _ => by
  obtain ⟨z, q, e, h1, h2, h3⟩ := nameOk_shape a
  cases e
  exact ps_set f.nd h1 h2 h (by cases x <;> first | rfl | cases hx) h3⟩

variable {elt kx vx tg iter : Expr} {ifs : List Expr} {scope : Scope} {own : List (Str × Nat)} {pos : Pos} {t : Tg} {gs : SrcF} {gc : TstF} {ge gk gv : ValF}
theorem sw_cell {e : Expr} {sc : Scope} {l : Nat} {y : Str} {py : Pos} (he : (match e with | .ListComp _ _ s _ | .SetComp _ _ s _ | .DictComp _ _ _ s _ => some s | _ => none) = some sc) (hy : X.env.scope.names.lookup y = some .cell) : swapsWith e (some (.Name y py)) l X.env = pure false := by
  have ky : X.env.kindOf y = some .cell := hy
  have kf : (X.env.kindOf y == some NameKind.local) = false := by rw [ky]; rfl
  cases e <;> first
    | (cases he; done)
    | (unfold swapsWith
       simp only [kf, Bool.and_false, Bool.false_and])
theorem sw_lc {rest : List Comprehension} {l : Nat} {y : Str} {py : Pos} (hk : X.env.scope.kind = .function) (hn : X.env.scope.names.lookup y ≠ some .cell) (h : swOk X.env.scope y py (.ListComp elt rest scope pos) = true) : swapsWith (.ListComp elt rest scope pos) (some (.Name y py)) l X.env = pure true ∧ X.env.scope.names.lookup y = some .local := by
  have h : (X.env.scope.names.lookup y == some .cell || (X.env.scope.names.lookup y == some .local && py.line == pos.line && !(scope.names.any fun (n, k) => n == y && (k == .local || k == .cell)))) = true := h
  rw [Bool.or_eq_true] at h
  have h := h.resolve_left fun z => hn (eq_of_beq z)
  have h : (X.env.scope.names.lookup y == some .local && py.line == pos.line && !(scope.names.any fun (n, k) => n == y && (k == .local || k == .cell))) = true := h
  rw [Bool.and_eq_true, Bool.and_eq_true] at h
  have e1 := eq_of_beq h.1.1
  have e2 : (scope.names.any fun (n, k) => n == y && (k == .local || k == .cell)) = false := by simpa using h.2
  exact ⟨sw_true hk e1 h.1.2 e2, e1⟩
theorem sw_dc {rest : List Comprehension} {l : Nat} {y : Str} {py : Pos} (hk : X.env.scope.kind = .function) (hn : X.env.scope.names.lookup y ≠ some .cell) (h : swOk X.env.scope y py (.DictComp kx vx rest scope pos) = true) : swapsWith (.DictComp kx vx rest scope pos) (some (.Name y py)) l X.env = pure true ∧ X.env.scope.names.lookup y = some .local := by
  have h : (X.env.scope.names.lookup y == some .cell || (X.env.scope.names.lookup y == some .local && py.line == pos.line && !(scope.names.any fun (n, k) => n == y && (k == .local || k == .cell)))) = true := h
  rw [Bool.or_eq_true] at h
  have h := h.resolve_left fun z => hn (eq_of_beq z)
  have h : (X.env.scope.names.lookup y == some .local && py.line == pos.line && !(scope.names.any fun (n, k) => n == y && (k == .local || k == .cell))) = true := h
  rw [Bool.and_eq_true, Bool.and_eq_true] at h
  have e1 := eq_of_beq h.1.1
  have e2 : (scope.names.any fun (n, k) => n == y && (k == .local || k == .cell)) = false := by simpa using h.2
  refine ⟨?_, e1⟩
  have ky : X.env.kindOf y = some .local := e1
  have hb : X.env.blockKind = .function := by unfold PySem.Env.blockKind; rw [hk]; rfl
  unfold swapsWith
  simp only [hb, ky, e2, Expr.pos, h.1.2]
  rfl
theorem at_lc (f : Fit X C) (hk : X.env.scope.kind = .function)
    (hi : PI X tg iter (tSrc C gs)) (ok : BlkOk X.N X.env.scope scope own)
    (hg : ∀ (s : Shared) (H : Hp) (Cc : Addr) (cl : List (Str × Addr)) (fp : List Addr) (C' : RC), C'.W = C.W → PG (X.blk s H scope (compEnvC scope cl Cc X.env) fp) tg (tTg C' t))
    (ht : ∀ (s : Shared) (H : Hp) (Cc : Addr) (cl : List (Str × Addr)) (fp : List Addr) (C' : RC), C'.W = C.W → PTs (X.blk s H scope (compEnvC scope cl Cc X.env) fp) ifs (tTt C' gc))
    (he : ∀ (s : Shared) (H : Hp) (Cc : Addr) (cl : List (Str × Addr)) (fp : List Addr) (C' : RC), C'.W = C.W → PE (X.blk s H scope (compEnvC scope cl Cc X.env) fp) elt (tV C' ge))
    (hs : ∀ x, foldedSetIterable iter X.env x = pure x) (htv : ∀ j, (t = .nm j ∨ ∃ is, t = .tp is ∧ j ∈ is) → j ∈ own.map (·.2)) :
    AtP X (.ListComp elt [⟨tg, iter, ifs, 0⟩] scope pos) (tN C (lcE gs gc ge t (own.map (·.2)))) := by
  have k := rn_lc (pos := pos) f hi ok hg ht he hs htv
  refine ⟨PE.imp (pe_lc f.calm f.nd hi ok (fun s H Cc cl fp => pg_any (hg s H Cc cl fp)) (fun s H Cc cl fp => pts_any (ht s H Cc cl fp)) (fun s H Cc cl fp => pe_any (he s H Cc cl fp)) hs) k, fun i y py pos' a b => ?_⟩
  obtain ⟨z, q, e, h1, h2, h3⟩ := nameOk_shape a
  cases e
  by_cases hc : X.env.scope.names.lookup y = some .cell
  · exact PS.imp (ps_set f.nd h1 h2 (pe_lc f.calm f.nd hi ok (fun s H Cc cl fp => pg_any (hg s H Cc cl fp)) (fun s H Cc cl fp => pts_any (ht s H Cc cl fp)) (fun s H Cc cl fp => pe_any (he s H Cc cl fp)) hs) (sw_cell rfl hc) h3) fun D σ H q => k _ _ _ q
  obtain ⟨b1, b2⟩ := sw_lc (l := pos'.line) hk hc b
  exact PS.imp (ps_setLc f.calm f.nd h1 b2 b1 hi ok (fun s H Cc cl fp => pg_any (hg s H Cc cl fp)) (fun s H Cc cl fp => pts_any (ht s H Cc cl fp)) (fun s H Cc cl fp => pe_any (he s H Cc cl fp)) hs) fun D σ H q => k _ _ _ q
/-- a dict comprehension, out of its block -/
theorem at_blk (f : Fit X C) {rest : List Comprehension} {wi : TI} {g : TG} {u : Addr → VE.St → Hp → (Hp → Prop) → Prop} {BW : Addr → PySem.Env → (Shared → Prop) → Shared → Prop}
    (hk : X.env.scope.kind = .function)
    (hi : PI X tg iter wi) (ok : BlkOk X.N X.env.scope scope own) (hs : ∀ x, foldedSetIterable iter X.env x = pure x)
    (hg : ∀ (s : Shared) (H : Hp) (Cc : Addr) (cl : List (Str × Addr)) (fp : List Addr), PG (Blk X scope s H Cc cl fp) tg g)
    (hb : ∀ (s : Shared) (H : Hp) (Cc : Addr) (cl : List (Str × Addr)) (fp : List Addr) (D : Addr), PB (Blk X scope s H Cc cl fp) (own.map (·.2)) (BW D (compEnvC scope cl Cc X.env)) (u D))
    (hloop : ∀ (R : Result → Shared → Prop) (it : Value) (D : Addr) (env : PySem.Env) (J : Nat → Shared → Prop), (∀ n s, J n s → wpAny (model X.prog X.w) X.A (pyNext it) (fun r s₁ => match r with
        | none => R (.ok .next) s₁
        | some v => wpAny (model X.prog X.w) X.A (letOwnedTupleGo tg it v) (fun _ s₂ => wpAny (model X.prog X.w) X.A (assign tg env v) (fun _ s₃ => BW D env (fun s' => ∃ m, m < n ∧ J m s') s₃) (fun _ _ => False) s₂) (fun _ _ => False) s₁) (fun _ _ => False) s) →
      ∀ n s, J n s → codeAny (model X.prog X.w) X.A (.compLoop (.DictComp kx vx (⟨tg, iter, ifs, 0⟩ :: rest) scope pos) 0 it (.ref D) env) R s) :
    AtP X (.DictComp kx vx (⟨tg, iter, ifs, 0⟩ :: rest) scope pos) (tBk C.W wi g u (own.map (·.2))) := by
  have hpe : PE X (.DictComp kx vx (⟨tg, iter, ifs, 0⟩ :: rest) scope pos) (tBk C.W wi g u (own.map (·.2))) := ⟨fun pins s σ H Q I h => by
    rw [arm_eval_DictComp]
    refine blk_dict f hi ok hs hg hb hloop I h fun D Cc s' m H' I' q hn fp => ⟨m, hn, fun h'' sb => ?_⟩
    obtain ⟨f0, f1, f2, f3, f4, f5⟩ := fp
    exact ⟨.ref D, H', I'.turned (t' := s'.toks) (fun b o hb e => (sb.2 b hb).trans e) f0 f1 f3 f4 f5, rfl, q⟩⟩
  refine ⟨hpe, fun i y py pos' a b => ?_⟩
  obtain ⟨z, q, e, h1, h2, h3⟩ := nameOk_shape a
  cases e
  by_cases hc : X.env.scope.names.lookup y = some .cell
  · exact ps_set f.nd h1 h2 hpe (sw_cell rfl hc) h3
  refine ⟨fun pins
                          s σ H D I h => ?_⟩
  · obtain ⟨b1, b2⟩ := sw_dc (l := pos'.line) hk hc b
    rw [exec_Assign_Name_used _ _ _ _ b1]
    refine wpAny_bind
                            (wpAny_standAt (wpAny_bind ?_))
    show wpAny _ X.A (do let _ ← comprehension (.DictComp kx vx (⟨tg, iter, ifs, 0⟩ :: rest) scope pos) scope X.env (firstIterPos (⟨tg, iter, ifs, 0⟩ :: rest) pos) newDict false (eval iter X.env) (some (assign (.Name y py) X.env))) _ _ s
    have h : tBk C.W wi g u (own.map (·.2)) σ H (fun x H1 => gName i x σ H1 D.nx) := h
    refine wpAny_bind (thn (blk_dict (Qf := fun _ s' => SP X pins D .next s') f hi ok hs hg hb hloop I h fun L Cc s' m H' I' q hn fp => ?_) fun _ s' hq => wpAny_pure (wpAny_pure hq))
    show wpAny _ _ (assign (.Name
                            y py) X.env (.ref L)) _ _ _
    refine wpAny_assign_Name (store_ok2 (v := V.ref L) I' f.nd h1 (.inl b2) rfl (fun s2 I2 ⟨a, sb, ha⟩ => ?_) (.inr b2))
    obtain ⟨f0, f1, f2, f3, f4, f5⟩ := fp
    have haC : Cc ≠ a := by
      rcases ha with z | z
      · rw [z]; exact f1
      · exact fun e =>
                              f4 y a z e.symm
    refine ⟨m, hn.sameBut sb
                            haC, fun h3 sb3 => ?_⟩
    exact ⟨_, H', I2.turned (t' := s2.toks) (fun b o
                            hb e => (sb3.2 b hb).trans e) f0 f1 f3 f4 f5, q⟩
theorem at_dc (f : Fit X C) (hu : X.A.units + 66 < cLine) (hkd : X.env.scope.kind = .function)
    (hi : PI X tg iter (tSrc C gs)) (ok : BlkOk X.N X.env.scope scope own)
    (hg : ∀ (s : Shared) (H : Hp) (Cc : Addr) (cl : List (Str × Addr)) (fp : List Addr) (C' : RC), C'.W = C.W → PG (X.blk s H scope (compEnvC scope cl Cc X.env) fp) tg (tTg C' t))
    (ht : ∀ (s : Shared) (H : Hp) (Cc : Addr) (cl : List (Str × Addr)) (fp : List Addr) (C' : RC), C'.W = C.W → PTs (X.blk s H scope (compEnvC scope cl Cc X.env) fp) ifs (tTt C' gc))
    (hk : ∀ (s : Shared) (H : Hp) (Cc : Addr) (cl : List (Str × Addr)) (fp : List Addr) (C' : RC), C'.W = C.W → PE (X.blk s H scope (compEnvC scope cl Cc X.env) fp) kx (tV C' gk))
    (hv : ∀ (s : Shared) (H : Hp) (Cc : Addr) (cl : List (Str × Addr)) (fp : List Addr) (C' : RC), C'.W = C.W → PE (X.blk s H scope (compEnvC scope cl Cc X.env) fp) vx (tV C' gv))
    (hs : ∀ x, foldedSetIterable iter X.env x = pure x) (htv : ∀ j, (t = .nm j ∨ ∃ is, t = .tp is ∧ j ∈ is) → j ∈ own.map (·.2)) :
    AtP X (.DictComp kx vx [⟨tg, iter, ifs, 0⟩] scope pos) (tN C (dcE gs gc gk gv t (own.map (·.2)))) :=
  AtP.imp (at_blk f hkd hi ok hs (fun s H Cc cl fp => pg_any (hg s H Cc cl fp)) (fun s H Cc cl fp D => pb1 f hu (pts_any (ht s H Cc cl fp)) (pe_any (hk s H Cc cl fp)) (pe_any (hv s H Cc cl fp)))
    fun R it D env J turn n s h => loop1 R it D env J turn n s h) (rn_dc (pos := pos) (kx := kx) (vx := vx) (tg := tg) (iter := iter) (ifs := ifs) (scope := scope) f htv)
end
end VE
/-! VE19: sorted(xs, key=def) -/
namespace VE
open PySem PySem.Spec
        PyProof.Rows L2

/-- the context of a built-in's inner calls -/
def deep2 (X : Cx) : Cx := { X with A := X.A.in1.in1, xe := fun _ _ => False }
section
variable {X : Cx} {pins : List (Addr × Obj)} {σ : VE.St} {H : Hp} {s : Shared}
theorem inv_in (I : Inv X pins σ H s) : Inv (deep2 X) pins σ H s :=
  ⟨⟨I.ok.mod, I.ok.kind, I.ok.glob, I.ok.blt, I.ok.above, I.ok.inj, I.ok.has, I.ok.cab, I.ok.hd, I.ok.frames, I.ok.stk, I.ok.exf, I.ok.bs, I.ok.bsz, I.ok.noex, I.ok.exfs, I.ok.funs, I.ok.frf⟩, I.os, I.bare, I.base, I.loc, I.cell, I.free, I.freeC, I.pin, I.hok, I.len⟩
theorem inv_out (I : Inv (deep2 X) pins σ H s) (h : X.calm = true → X.A.handled = none) (hf : X.A.frames = some X.stack) : Inv X pins σ H s :=
  ⟨⟨I.ok.mod, I.ok.kind, I.ok.glob, I.ok.blt, I.ok.above, I.ok.inj, I.ok.has, I.ok.cab, h, hf, I.ok.stk, I.ok.exf, I.ok.bs, I.ok.bsz, I.ok.noex, I.ok.exfs, I.ok.funs, I.ok.frf⟩, I.os, I.bare, I.base, I.loc, I.cell, I.free, I.freeC, I.pin, I.hok, I.len⟩

/-- the items of a list or a tuple, out of the new list that takes them -/
theorem collect2 {s : Shared} {p1 : Program} {w1 : World} {A1 : Around} {T : String} {l : Addr} {ob : Obj} {its : Array Value} {n : Nat} {Q : List Value → Shared → Prop} {E : Value → Shared → Prop} (hT : T = "list" ∨ T = "tuple") (eo : s.heap.get? l = some ob) (ec : ob.cls = .type T) (ed : ob.data = .seq its n) (hz : its.size ≤ sizeLine)
    (k : Q its.toList { s with heap := (s.heap.push { cls := .type "list", data := .seq ([] : List Value).toArray }).update s.heap.objs.size (Obj.mapSeq (· ++ its)) }) : wpAny (model p1 w1) A1 (collect (.ref l)) Q E s := by
  obtain ⟨N, hN⟩ : ∃ N, N = s.heap.objs.size := ⟨_, rfl⟩
  have e0 : (s.heap.push { cls := .type "list", data := .seq ([] : List Value).toArray }).get? N = some { cls := .type "list", data := .seq #[] 0 } := by rw [hN]; exact Heap.get?_push_size _ rfl
  have e1 := Heap.get?_update_self (Obj.mapSeq (· ++ its)) e0 rfl
  rw [← hN] at k
  have last : wpAny (model p1 w1) A1 (match Value.ref N with
      | Value.ref c => do
        match (← load c).data with
          | Data.seq ys _ => pure ys.toList
          | _ => unsupported
                  "internal:collect"
      | _ => unsupported "internal:collect") Q E { s with heap := (s.heap.push { cls := .type "list", data := .seq ([] : List Value).toArray }).update N (Obj.mapSeq (· ++ its)) } := by
    show wpAny _ A1 (load N >>= _) _ _ _
    refine wpAny_bind (wpAny_load e1 (wpAny_pure ?_))
    show Q ((#[] : Array Value) ++ its).toList _
    have z : ((#[] : Array Value) ++ its).toList = its.toList := by simp
    rw [z]
    exact k
  unfold collect
  refine wpAny_bind (wpAny_runValue (codeAny_builtin PySem.F.entry_proto_collect ?_))
  rw [Around.under_plainId
          PySem.F.plain_proto_collect _]
  show wpAny _ A1.in1 (newList [] >>= fun d => again (.builtin "list.__iadd__" ⟨[d, .ref l], []⟩)) _ _ s
  refine wpAny_bind (wpAny_newObj_type (wpAny_pure ⟨plainId_quiet PySem.F.plain_list_iadd _, codeAny_builtin PySem.F.entry_list_iadd ?_⟩))
  rw [Around.under_plainId
          PySem.F.plain_list_iadd _]
  rw [← hN]
  show wpAny _ A1.in1 (Builtin.List.listExtendWith (.ref N) (.ref l) (.ref N)) _ _ _
  refine wpAny_mono (wpAny_extend_seq (hsz := hz) (A := A1) (R := fun r s' => r = .ok (.ret (.ref N)) ∧ s' = { s with heap := (s.heap.push { cls := .type "list", data := .seq ([] : List Value).toArray }).update N (Obj.mapSeq (· ++ its)) })
    (s := { s with heap := s.heap.push { cls := .type "list", data := .seq ([] : List Value).toArray } }) _ l _ 0 hT e0 (Heap.get?_push_of_some _ eo) ec ed ⟨rfl, rfl⟩) (fun fi s2 h2 => ?_) fun e s2 h2 => absurd h2.1 (by simp)
  cases fi with
  | again c2 => exact ⟨h2.1, codeAny_mono h2.2 fun r s3 hr => by obtain ⟨rfl, rfl⟩ := hr; exact last⟩
  | done fl =>
    obtain ⟨z, rfl⟩ := h2
    cases z
    exact last
/-- sorted, up to the sort of its own new list -/
theorem sorted_seq {T : String} {l : Addr} {o : Obj} {its : List Value} {n : Nat} {kw : List (Str × Value)} {Q : Value → Shared → Prop} {E : Value → Shared → Prop} (hT : T = "list" ∨ T = "tuple") (ho : s.heap.get? l = some o) (hc : o.cls = .type T) (hd : o.data = .seq its.toArray n) (hL : its.length ≤ sizeLine)
    (a1 : argsOk "sorted" ⟨[.ref l], kw⟩) (a2 : ∀ x, argsOk "list.sort" ⟨[.ref x], kw⟩)
    (body : ∀ (D : Addr) (h1 : Heap) (E' : Value → Shared → Prop), s.heap.objs.size ≤ D → (∀ b u, s.heap.get? b = some u → h1.get? b = some u) → h1.get? D = some (seqObj "list" its.toArray 0) →
      wpAny (model X.prog X.w) X.A.in1.in1 (Builtin.«list.sort» ⟨[.ref D], kw⟩) (fun f s' => f = .done (.ret .none) ∧ Q (.ref D) s') E' { s with heap := h1 }) :
    wpAny (model X.prog X.w) X.A (call (.builtin "sorted") [.ref l] kw) Q E s := by
  refine call_function_entry_kw kind_sorted plain_sorted entry_sorted a1 ?_
  unfold Builtin.«sorted»
  refine wpAny_bind (m := checkCount
          "sorted" 1 1 _) (wpAny_pure ?_)
  refine wpAny_bind (collect2 hT ho hc hd (by simpa using hL) ?_)
  obtain ⟨h', eh⟩ : ∃ h', h' = (s.heap.push { cls := .type "list", data := .seq ([] : List Value).toArray }).update s.heap.objs.size (Obj.mapSeq (· ++ its.toArray)) := ⟨_, rfl⟩
  have keep : ∀ b u, s.heap.get? b = some u → h'.get? b = some u := fun b u e => by
    rw [eh]
    exact (Heap.get?_update_other _ _ (Nat.ne_of_gt (Heap.lt_size e))).trans (Heap.get?_push_of_some _ e)
  have big : s.heap.objs.size ≤ h'.objs.size := by
    rw [eh, Heap.size_update, Heap.size_push]
    exact Nat.le_succ _
  rw [← eh]
  refine wpAny_bind (wpAny_newList ?_ (by simpa using hL))
  have at_ : (h'.push (seqObj "list" its.toArray 0)).get? h'.objs.size = some (seqObj "list" its.toArray 0) := Heap.get?_push_size _ rfl
  refine wpAny_bind (wpAny_holding (wpAny_call_entry_kw slot_list_sort ⟨_, at_, rfl⟩ entry_list_sort ?_ (a2 _)))
  refine wpAny_mono (body h'.objs.size (h'.push (seqObj "list" its.toArray 0)) _ big (fun b u e => Heap.get?_push_of_some _ (keep b u e)) at_) (fun f s' hf => ?_) fun _ _ e => e
  obtain ⟨rfl, hq⟩ := hf
  exact ⟨_, rfl,
          wpAny_pure ⟨_, rfl, hq⟩⟩

theorem vals_each : ∀ {bs : List (V × D × D)} {its : List Value}, Vals (bs.map (·.1)) its → PySem.W.EachIs (fun u (p : V × D × D) => RelV p.1 u) its bs
  | [], _, .nil => .nil
  | _ :: _, _, .cons a t => .cons a (vals_each t)
theorem each_vals : ∀ {bs : List (V × D × D)} {its : List Value}, PySem.W.EachIs (fun u (p : V × D × D) => RelV p.1 u) its bs → Vals (bs.map (·.1)) its
  | [], _, .nil => .nil
  | _ :: _, _, .cons a t => .cons a (each_vals t)
theorem dpAll_length {K : PySem.W.Frag} {H : Hp} : ∀ {vs : List V} {ds : List D}, DpAll K H vs ds → vs.length = ds.length
  | _, _, .nil => rfl
  | _, _, .cons _ t => congrArg (· + 1) (dpAll_length t)
/-- what the sorted items are -/
def srtT (bs : List (V × D × D)) : List (V × D × D) := bs.mergeSort (PySem.W.dataLe false fun p => p.2.2)
/-- list.sort(key=def) on sorted's own list: the calls may write what is tracked, by J -/
theorem sort_core {f : Value} {l : Addr} {h1 : Heap} {bs : List (V × D × D)} {its : List Value} {J : Nat → Hp → Prop} {P : PySem.Fin → Shared → Prop} {E : Value → Shared → Prop} (hfr : X.A.frames = some X.stack) (hcm : X.calm = true → X.A.handled = none)
    (I : Inv X pins σ H s) (r : Vals (bs.map (·.1)) its) (hz : its.length ≤ sizeLine) (big : s.heap.objs.size ≤ l) (keep : ∀ b u, s.heap.get? b = some u → h1.get? b = some u) (hl : h1.get? l = some (seqObj "list" its.toArray 0))
    (hal : PySem.W.AllAlike (bs.map (·.2.2))) (hsk : PySem.W.Sortable (bs.map (·.2.2))) (hu : ∀ d ∈ bs.map (·.2.2), X.A.in1.in1.units + d.depth < cLine) (j0 : J 0 H)
    (keys : List V → Nat → Hp → Prop) (k0 : keys [] 0 H) (kd : ∀ ks n H', keys ks n H' → DpAll X.K H' ks ((bs.map (·.2.2)).take n))
    (turn : ∀ (i : Nat) (b : V × D × D) (u : Value), bs[i]? = some b → RelV b.1 u → ∀ pins' s' H' ks, Inv (deep2 X) pins' σ H' s' → J i H' → keys ks i H' →
      wpAny (model X.prog X.w) X.A.in1.in1 (call f [u]) (fun v s2 => ∃ y H2, Inv (deep2 X) pins' σ H2 s2 ∧ RelV y v ∧ J (i + 1) H2 ∧ keys (ks ++ [y]) (i + 1) H2) (fun _ _ => False) s')
    (fin : ∀ s' H', Inv X pins σ (upd H' l (.lst ((srtT bs).map (·.1)))) s' → H' l = none → J bs.length H' → P (.done (.ret .none)) s') :
    wpAny (model X.prog X.w) X.A.in1.in1 (ksk_tree l f false) P E { s with heap := h1 } := by
  obtain ⟨ep, hl1⟩ : ∃ ep, (h1.update l (Obj.mapSeq fun _ => (#[] : Array Value))).get? l = some (seqObj "list" #[] ep) := ⟨_, get?_update_seq hl fun _ => #[]⟩
  obtain ⟨h2, eh2⟩ : ∃ h2, h2 = h1.update l (Obj.mapSeq fun _ => (#[] : Array Value)) := ⟨_, rfl⟩
  rw [← eh2] at hl1
  have keep2 : ∀ b u, s.heap.get? b = some u → h2.get? b = some u := fun b u e => by
    have hb : l ≠ b := fun z => Nat.lt_irrefl _ (Nat.lt_of_lt_of_le (Heap.lt_size e) (by rw [← z]; exact big))
    rw [eh2]
    exact (Heap.get?_update_other _ _ hb).trans (keep b u e)
  unfold ksk_tree
  refine wpAny_bind (listItems_at hl rfl ?_)
  refine wpAny_bind (listUpdate_at hl rfl ?_ (by rw [List.size_toArray]; exact hz) (Nat.zero_le _))
  refine wpAny_bind (seqEpoch_at (by rw [← eh2]; exact hl1) rfl ?_)
  refine wpAny_bind (wpAny_newTuple ?_ (by simpa using hz))
  refine wpAny_bind (wpAny_newList
          ?_ (Nat.zero_le _))
  refine wpAny_holding ?_
  obtain ⟨h3, eh3⟩ : ∃ h3, h3 = h2.push (seqObj "tuple" its.toArray 0) := ⟨_, rfl⟩
  obtain ⟨S, eS⟩ : ∃ S, S = h3.objs.size := ⟨_, rfl⟩
  obtain ⟨h4, eh4⟩ : ∃ h4, h4 = h3.push (seqObj "list" #[] 0) := ⟨_, rfl⟩
  have keep4 : ∀ b u, h2.get? b = some u → h4.get? b = some u := fun b u e => by rw [eh4, eh3]; exact Heap.get?_push_of_some _ (Heap.get?_push_of_some _ e)
  have hS4 : h4.get? S = some (seqObj "list" #[] 0) := by rw [eh4, eS]; exact Heap.get?_push_size _ rfl
  have hl4 := keep4 _ _ hl1
  have l2 : l < h2.objs.size := Heap.lt_size hl1
  have lS : l < S := by
    rw [eS, eh3, Heap.size_push]
    exact Nat.lt_succ_of_lt l2
  have big2 : s.heap.objs.size ≤ S := Nat.le_of_lt (Nat.lt_of_le_of_lt big lS)
  have hne : S ≠ l := Nat.ne_of_gt lS
  have hz' : bs.length ≤ sizeLine := by
    have := r.length
    rw [List.length_map] at this
    omega
  have hlen : its.length = bs.length := by
    have := r.length
    rw [List.length_map] at this
    omega
  have fl : ∀ H', H' l = none → FpOk (deep2 X) pins H' l := fun H' n => (inv_in I).fpOk big n
  have fS : ∀ H', H' S = none → FpOk (deep2 X) pins H' S := fun H' n => (inv_in I).fpOk big2 n
  have I4 : Inv (deep2 X) pins σ H { s with heap := h4 } := (inv_in I).kept (t' := s.toks) fun b u e => keep4 b u (keep2 b u e)
  have pin2 : ∀ {H' : Hp} {s' : Shared} {kA : Array Value} {e : Nat}, Inv (deep2 X) pins σ H' s' → s'.heap.get? l = some (seqObj "list" #[] ep) → s'.heap.get? S = some (seqObj "list" kA e) → H' l = none → H' S = none →
      Inv (deep2 X) (pins ++ [(l, seqObj "list" #[] ep), (S, seqObj "list" kA e)]) σ H' s' := fun {H' s' kA e} J' a1 a2 n1 n2 => J'.pins_of fun p hp => by
    rcases List.mem_append.mp
            hp with hp | hp
    · exact J'.pin p (List.mem_append_right _ hp)
    · rcases List.mem_cons.mp
            hp with rfl | hp
      · exact ⟨a1, n1, (fl _ n1).2.1, (fl _ n1).2.2.1, fun v z => by cases z⟩
      · rw [List.mem_singleton.mp
              hp]
        exact ⟨a2, n2, (fS _ n2).2.1, (fS _ n2).2.2.1, fun v z => by cases z⟩
  rw [← eh2, ← eh3, ← eh4, ← eS]
  unfold ksk_rest
  refine wpAny_bind
          (wpAny_rule ?_)
  simp only [List.forIn_toArray]
  refine wpAny_bind (ksk_fold (fun i s' => ∃ H' kA e ks, Inv (deep2 X) pins σ H' s' ∧ s'.heap.get? l = some (seqObj "list" #[] ep) ∧ s'.heap.get? S = some (seqObj "list" kA e) ∧ H' l = none ∧ H' S = none ∧ Vals ks kA.toList ∧ J i H' ∧ keys ks i H') its 0 _
    ⟨H, #[], 0, [], I4, hl4, hS4, I.hok.fresh big, I.hok.fresh big2, .nil, j0, k0⟩ (fun j x s' hx hJ => ?_) fun s' hJ => ?_)
  · obtain ⟨H', kA, e, ks, I', a1, a2, n1, n2, kv, jj, kk⟩ := hJ
    rw [Nat.zero_add] at jj kk ⊢
    have hj : j < its.length := (List.getElem?_eq_some_iff.mp hx).1
    obtain ⟨b, hb⟩ : ∃ b, bs[j]? = some b := ⟨_, List.getElem?_eq_getElem (by omega)⟩
    have rx : RelV b.1 x := by
      obtain ⟨u, h1, h2⟩ := r.get (show (bs.map (·.1))[j]? = some b.1 by rw [List.getElem?_map, hb]; rfl)
      rw [hx] at h1
      cases h1
      exact h2
    have kl : ks.length = j := by
      have := dpAll_length (kd _ _ _ kk)
      rw [List.length_take, List.length_map] at this
      omega
    have kAl : kA.size = j := by
      have z : ks.length = kA.toList.length := kv.length
      have z2 : kA.toList.length = kA.size := Array.length_toList
      omega
    have Ip := pin2 I' a1 a2 n1 n2
    refine wpAny_bind (wpAny_attempt (wpAny_mono (turn j b x hb rx _ s' H' ks Ip jj kk) (fun v s2 hv => ?_) fun _ _ z => z.elim))
    obtain ⟨y, H2, I2, ry, j2, k2⟩ := hv
    obtain ⟨b1, m1, _⟩ := I2.pin (l, seqObj "list" #[] ep) (List.mem_append_right _ (List.mem_append_right _ List.mem_cons_self))
    obtain ⟨b2, m2, _⟩ := I2.pin (S, seqObj "list" kA e) (List.mem_append_right _ (List.mem_append_right _ (List.mem_cons_of_mem _ List.mem_cons_self)))
    have I3 : Inv (deep2 X) pins σ H2 s2 := I2.unpinned
    have sb := Heap.SameBut.update s2.heap S (Obj.mapSeq (·.push v))
    obtain ⟨e', he'⟩ : ∃ e', (s2.heap.update S (Obj.mapSeq (·.push v))).get? S = some (seqObj "list" (kA.push v) e') := ⟨_, get?_update_seq b2 (·.push v)⟩
    dsimp only
    refine wpAny_bind (listUpdate_at b2 rfl ?_ (by omega) (by rw [Array.size_push]; omega))
    refine wpAny_pure ⟨rfl, H2, kA.push v, e', ks ++ [y], I3.turnedL (t' := s2.toks) (ch := [S]) (fun c o hc q => (sb.2 c fun z => hc (by rw [z]; exact List.mem_cons_self)).trans q) (fun c hc => by rw [List.mem_singleton.mp hc]; exact fS _ m2),
      (sb.2 l hne.symm).trans b1, he', m1, m2, ?_, j2, k2⟩
    have ea : (kA.push v).toList
            = kA.toList ++ [v] := by simp
    rw [ea]
    exact kv.append (.cons ry .nil)
  · obtain ⟨H', kA, e, ks, I', a1, a2, n1, n2, kv, jj, kk⟩ := hJ
    rw [Nat.zero_add, hlen] at jj kk
    have kd' := kd _ _ _ kk
    rw [List.take_of_length_le (by simp)] at kd'
    obtain ⟨as, rd⟩ := Dp.readsAll I' _ _ _ kd' kv
    have each : PySem.W.EachIs (fun v d => ∃ as, Reads s'.heap v d as) kA.toList (bs.map (·.2.2)) := by
      have := PySem.W.readsAll_each (β := D) id (bs := bs.map (·.2.2)) (as := as) (by rw [List.map_id]; exact rd)
      exact this
    have kAl : kA.size = its.length := by
      have h1 : ks.length = kA.toList.length := kv.length
      have h2 := dpAll_length kd'
      have h3 : kA.toList.length = kA.size := Array.length_toList
      rw [List.length_map] at h2
      omega
    obtain ⟨G, g1, g2⟩ := restrict s'.heap fun c => decide (c ≠ S)
    have gk : PySem.W.KeepsBut l G s'.heap := fun c o _ q => by
      by_cases hc : c = S
      · rw [g2 c (by simp [hc])] at q; cases q
      · rw [← g1 c (by simp [hc])]; exact q
    refine wpAny_bind (listItems_at a2 rfl ?_)
    refine PySem.W.keyH_end (κ := PySem.W.dataKind s'.heap (bs.map (·.2.2))) (h₁ := G) gk (g2 S (by simp)) a2 a1 hne (PySem.W.SortsAt.data (s := s') each hal hsk hu) kAl hz fun h5 tk c k5 n5 => ?_
    have I5 : Inv (deep2 X) pins σ H' { s' with heap := h5, toks := tk } := I'.turnedL (t' := tk) (ch := [l, S]) (fun d o hd q => by
      have d1 : d ≠ l := fun z => hd (by rw [z]; exact List.mem_cons_self)
      have d2 : d ≠ S := fun z => hd (by rw [z]; exact List.mem_cons_of_mem _ List.mem_cons_self)
      exact k5 d o d1 (by rw [g1 d (by simp [d2])]; exact q)) fun d hd => by
        rcases List.mem_cons.mp
                hd with rfl | hd
        · exact fl _ n1
        · rw [List.mem_singleton.mp hd]; exact fS _ n2
    have out := PySem.W.keyedOut_each (rev := false) (β := V × D × D) (R := fun u p => RelV p.1 u) (bs := bs) (fun p => p.2.2) ⟨s'.heap, kA.toList, hal, rfl, each⟩ (vals_each r)
    have vo := each_vals out
    have ol : (srtT bs).length = bs.length := List.length_mergeSort _
    refine fin _ H' (inv_out (I5.take (t' := tk) (fun _ _ _ q => q) (fl _ n1) ⟨by rw [List.length_map, ol]; exact hz', _, c, vo, n5⟩) hcm hfr) n1 jj
end
end VE
/-! VE20: sorted(xs, key=def): the reading -/
namespace VE
open PySem PySem.Spec
        PyProof.Rows L2

/-- no exception leaves a call that promises none -/
def NoX (CX : CXT) : Prop := ∀ l H s e s', ¬ CX l H s (fun _ _ _ => False) e s'

theorem keysOf_spec {rn : Runner} {f : Nat} : ∀ {ds : List D} {ps : List (D × D)}, keysOf rn f ds = .ok ps → ps.map (·.1) = ds ∧ ∀ p ∈ ps, ∃ e, runCall rn f [.d p.1] [] = .ok (.val p.2, e)
  | [], ps, h => by cases h; exact ⟨rfl, fun p hp => by cases hp⟩
  | d :: ds, ps, h => by
    obtain ⟨⟨r, e⟩, h1, h2⟩ := rbind (show (runCall rn f [.d d] [] >>= _) = _ from h)
    cases r with
    | own o => cases h2
    | val k =>
      obtain ⟨qs, h3, h4⟩ := rbind (show (keysOf rn f ds >>= _) = _ from h2)
      cases h4
      obtain ⟨i1, i2⟩ := keysOf_spec h3
      refine ⟨by rw [List.map_cons, i1], fun p hp => ?_⟩
      rcases List.mem_cons.mp
              hp with rfl | hp
      · exact ⟨e, h1⟩
      · exact i2 p hp
theorem runCall_env {rn : Runner} {f : Nat} {d : D} {r : Ret} {e env : Env} (h : runCall rn f [.d d] [] = .ok (r, e)) : runCall rn f [.d d] env = .ok (r, env) := by
  obtain ⟨_, args, outs, h1, h2, h3⟩ := runCall_spec h
  cases h1
  cases outs with
  | nil => cases h3
  | cons o outs =>
    cases outs with
    | cons _ _ => cases h3
    | nil =>
      unfold runCall
      rw [if_pos (show (ios [Ao.d d]).Nodup from List.nodup_nil)]
      show (Rs.of (some [Sl.val d]) >>= fun args => rn f args >>= fun x => match x with | (r, outs) => Rs.of (putOuts [.d d] outs env) >>= fun env' => .ok (r, env')) = _
      show (rn f [Sl.val d] >>= fun x => match x with | (r, outs) => Rs.of (putOuts [.d d] outs env) >>= fun env' => .ok (r, env')) = _
      rw [h2]
      rfl
theorem denL_zip {W : Wd} {H : Hp} {Z : Addr → Prop} : ∀ {xs : List V} {ps : List (D × D)}, DenL W H Z xs (ps.map (·.1)) → (xs.zip ps).map (·.1) = xs ∧ (xs.zip ps).map (·.2) = ps ∧ ∀ b ∈ xs.zip ps, Den W H Z b.1 b.2.1
  | _, [], h => by cases h; exact ⟨rfl, rfl, fun b hb => by cases hb⟩
  | _, p :: ps, h => by
    cases h with
    | cons a t =>
      obtain ⟨h1, h2, h3⟩ := denL_zip t
      refine ⟨by rw [List.zip_cons_cons, List.map_cons, h1], by rw [List.zip_cons_cons, List.map_cons, h2], fun b hb => ?_⟩
      rcases List.mem_cons.mp
              hb with rfl | hb
      · exact a
      · exact h3 b hb
theorem denL_of {W : Wd} {H : Hp} {Z : Addr → Prop} : ∀ {bs : List (V × D × D)}, (∀ b ∈ bs, Den W H Z b.1 b.2.1) → DenL W H Z (bs.map (·.1)) (bs.map fun b => b.2.1)
  | [], _ => .nil
  | b :: bs, h => .cons (h b List.mem_cons_self) (denL_of fun c hc => h c (List.mem_cons_of_mem _ hc))
theorem DenL.dpA {W : Wd} {H : Hp} {Z : Addr → Prop} : ∀ {vs : List V} {ds : List D}, DenL W H Z vs ds → (∀ d ∈ ds, PyData.canLay0 d = true) → DpAll W.K H vs ds
  | _, _, .nil, _ => .nil
  | _, _, .cons a t, h => .cons (Den.dp _ a (.inr trivial) (h _ List.mem_cons_self)) (DenL.dpA t fun d hd => h d (List.mem_cons_of_mem _ hd))
theorem sortB_spec {ks : List D} (h : sortB ks = true) : PySem.W.AllAlike ks ∧ PySem.W.Sortable ks ∧ (∀ d ∈ ks, d.depth ≤ 60) ∧ ∀ d ∈ ks, PyData.canLay0 d = true := by
  unfold sortB at h
  rw [Bool.and_eq_true, Bool.and_eq_true, Bool.and_eq_true] at h
  obtain ⟨⟨⟨h1, h2⟩,
          h3⟩, h4⟩ := h
  refine ⟨fun d hd d' hd' => ?_, ?_, fun d hd => ?_, fun d hd => List.all_eq_true.mp h4 d hd⟩
  · exact List.all_eq_true.mp (List.all_eq_true.mp h1 d hd) d' hd'
  · unfold sortable at h2
    rw [Bool.or_eq_true] at h2
    rcases h2 with h2 | h2
    · refine .inl fun d hd => ?_
      have := List.all_eq_true.mp h2 d hd
      cases d <;> first | (cases this; done) | skip
      rename_i xs
      cases xs with
      | nil => cases this
      | cons x r =>
              exact ⟨x, r, rfl⟩
    · refine .inr fun d hd => ?_
      have := List.all_eq_true.mp h2 d hd
      cases d <;> first | (cases this; done) | exact ⟨nofun, fun _ => nofun⟩
  · exact of_decide_eq_true (List.all_eq_true.mp h3 d hd)

section
variable {X : Cx} {C : RC}
/-- what sorted asks: any slots -/
def rSK (C : RC) (rn : Runner) (id : Nat) : V → Hp → VK → Prop := fun v H Q => ∃ (σ : VE.St) (env : Env) (F : Nat → List Addr) (d : D) (ds : List D) (ps : List (D × D)), Rel C H σ env F ∧ Lk C.W H (Th F C.Z) v d ∧ seqD d = some ds ∧ keysOf rn id ds = .ok ps ∧ sortB (ps.map (·.2)) = true ∧
  ∀ a H' F', Rel (C.more [a]) H' σ env F' → Step H (Om F) H' (Om F') → OwnAt C.W H' (Th F' (C.more [a]).Z) [a] a (.lst (sortBy ps)) → (∀ b ∈ [a], H b = none) → Q (.ref a) H'
theorem rk_sort {CX : CXT} {k : Nat} {rn : Runner} {nm : Str} {id : Nat} (fit : Fit X C) {fa : Addr} {fd : FuncData} {ps0 : List Str} (Fo : FnOk X.prog X.w X.K X.mg X.base CX k fa fd ps0 (spRun C.W rn id)) (hbi : Binds X.K fd ps0 []) (hr : Room (k + 1) X.A) (hnx : NoX CX) (hu : X.A.units + 66 < cLine) :
    CallRK X (.builtin "sorted") [("key" : Str)] (fun vs zs H Q => ∃ v, vs = [v] ∧ zs = [V.ref fa] ∧ rSK C rn id v H Q) := by
  rintro pins s σ H vs zs us ws Q I rv rz ⟨v, rfl, rfl, σ0, env, F, d, ds, ps, R, lk, hsq, hk, hsb, fin⟩
  obtain ⟨u, rfl, ru⟩ := rv.one
  obtain ⟨w, rfl, rw'⟩ := rz.one
  cases rw'
  obtain ⟨hal, hsk, hdep, hlay⟩ := sortB_spec hsb
  obtain ⟨k1, k2⟩ := keysOf_spec hk
  -- the object that is sorted
  have src : ∃ a xs, v = .ref a ∧ DenL C.W H (Th F C.Z) xs ds ∧ ∃ (T : String) (o : Obj) (its : List Value) (n : Nat), (T = "list" ∨ T = "tuple") ∧ s.heap.get? a = some o ∧ o.cls = .type T ∧ o.data = .seq its.toArray n ∧ Vals xs its ∧ its.length ≤ sizeLine := by
    cases d <;> first | (cases hsq; done) | skip
    · cases hsq
      obtain ⟨a, xs, rfl, ha, l⟩ := lk
      obtain ⟨its, r, ⟨o, n, e1, e2, e3, e4⟩, z⟩ := I.list (xs := xs) (.inl (.inl ha))
      exact ⟨a, xs, rfl, l, "list", o, its, n, .inl rfl, e1, e2, e4, r, by have := r.length; omega⟩
    · cases hsq
      cases lk with
      | @tup a xs _ ha l =>
        obtain ⟨its, r, ⟨o, e1, e2, n, e3⟩, z⟩ := I.tuple (xs := xs) (fit.K ▸ ha)
        exact ⟨a, xs, rfl, l, "tuple", o, its, n, .inr rfl, e1, e2, e3, r, by have := r.length; omega⟩
  obtain ⟨a, xs, rfl, l, T, o, its, n, hT, e1, e2, e3, r, hz⟩ := src
  cases (show u =
          Value.ref a from ru)
  rw [← k1] at l
  obtain ⟨z1, z2, z3⟩ := denL_zip l
  have zk : (xs.zip ps).map (fun b => b.2.2) = ps.map (·.2) := by
    have q := congrArg (List.map fun p : D × D => p.2) z2
    rw [List.map_map] at q
    exact q
  refine sorted_seq hT e1 e2 e3 hz (by first | decide | rfl) (fun _ => by first | decide | rfl) fun T1 h1 E' big keep at_ => ?_
  show wpAny _ _ (Builtin.«list.sort» ⟨[.ref T1], [(Str.ofString "key", .ref fa)]⟩) _ _ _
  rw [ksk_t1]
  refine sort_core (J := fun i H' => ∃ F', Rel C H' σ0 env F' ∧ Step H (Om F) H' (Om F')) (keys := fun ks i H' => ∃ F', Rel C H' σ0 env F' ∧ Step H (Om F) H' (Om F') ∧ DenL C.W H' (Th F' C.Z) ks ((ps.map (·.2)).take i)) I.ok.frames I.ok.hd I (by rw [z1]; exact r) hz big keep at_
    (by rw [zk]; exact hal) (by rw [zk]; exact hsk) (fun d hd => by rw [zk] at hd; have := hdep d hd; show X.A.units + 1 + 1 + d.depth < cLine; omega) ⟨F, R, Step.refl⟩ ⟨F, R, Step.refl, .nil⟩ (fun ks i H' ⟨F', R', S', dl⟩ => ?_) (fun i b u hb rb pins' s' H' ks I' _ ⟨F', R', S', dl⟩ => ?_) fun s' H' I' n ⟨F', R', S'⟩ => ⟨rfl, ?_⟩
  · rw [zk, ← fit.K]
    exact dl.dpA fun d hd => hlay d (List.mem_of_mem_take hd)
  · have hmem : b.2 ∈ ps := by rw [← z2]; exact List.mem_map.mpr ⟨b, List.mem_of_getElem? hb, rfl⟩
    obtain ⟨e, he⟩ := k2 b.2 hmem
    have db : Den C.W H' (Th F' C.Z) b.1 b.2.1 := (z3 b (List.mem_of_getElem? hb)).step (S'.plus C.Z)
    have gk : (ps.map (·.2))[i]? = some b.2.2 := by rw [← zk, List.getElem?_map, hb]; rfl
    refine wpAny_mono (run_fn (X := deep2 X) (E := fun _ _ _ => False) (Q := fun y H2 => ∃ F2, Rel C H2 σ0 env F2 ∧ Step H (Om F) H2 (Om F2) ∧ DenL C.W H2 (Th F2 C.Z) (ks ++ [y]) ((ps.map (·.2)).take (i + 1))) Fo ⟨hr.hd, by have := hr.dp; show X.A.depth + 3 * k + 5 < _; omega, by have := hr.un; show X.A.units + 1 + 1 + 16 * k + 200 < _; omega⟩ hbi .nil (fun _ _ _ _ e _ _ c => (hnx _ _ _ _ _ c).elim) I' (.cons rb .nil) ?_) (fun v s2 ⟨y, H2, I2, ry, F2, R2, S2, D2⟩ => ⟨y, H2, I2, ry, ⟨F2, R2, S2⟩, F2, R2, S2, D2⟩) fun _ _ z => z
    rw [List.append_nil]
    refine call_post R' (.d db .nil) (runCall_env he) fun y H2 F2 ⟨R2, S2, D2⟩ => ⟨F2, R2, S'.trans S2, ?_⟩
    have ek : (ps.map (·.2)).take (i + 1) = (ps.map (·.2)).take i ++ [b.2.2] := by rw [List.take_add_one, gk]; rfl
    rw [ek]
    exact (dl.step (S2.plus C.Z)).append (.cons D2 .nil)
  · refine ⟨.ref T1, _, I', rfl, ?_⟩
    obtain ⟨Rf, hzf⟩ := R'.fresh (o := .lst ((srtT (xs.zip ps)).map (·.1))) n
    refine fin T1 _ F' Rf (S'.trans (Step.new n)) ⟨rfl, _, upd_same, ?_⟩ fun b hb => by rw [List.mem_singleton.mp hb]; exact S'.dom T1 n
    have em : (srtT (xs.zip ps)).map (fun b => b.2.1) = sortBy ps := by
      unfold srtT sortBy
      have := List.map_mergeSort (f := fun b : V × D × D => b.2) (l := xs.zip ps) (r := PySem.W.dataLe false fun p => p.2.2) (s := PySem.W.dataLe false fun p : D × D => p.2) (fun _ _ _ _ => rfl)
      rw [z2] at this
      rw [← this, List.map_map]
      rfl
    rw [← em]
    refine denL_of fun b hb => ?_
    have hb' : b ∈ xs.zip ps := List.mem_mergeSort.mp hb
    exact ((z3 b hb').step (S'.plus C.Z)).step (Step.more n (same_new n))
end
end VE
/-! VE21: methods of dicts with tuple keys: values, setdefault -/
namespace VE
open PySem PySem.Spec
        PyProof.Rows L2

def vwO (r a : Addr) : HO := .ext fun h => h.IsValuesView r a
def valH (ks : List (NestedKey × Addr × V)) (k : NestedKey) : Option V := (ks.find? fun q => decide (q.1 = k)).map fun q => q.2.2
theorem EntP.val {k : NestedKey} : ∀ {ks : List (NestedKey × Addr × V)} {xs : List (NestedKey × Addr × Value)}, EntP ks xs → (∀ p, atKey xs k = some p → ∃ v, valH ks k = some v ∧ RelV v p.2) ∧ (atKey xs k = none → valH ks k = none)
  | _, _, .nil => ⟨fun _ e => (by cases e), fun _ => rfl⟩
  | q :: ks, x :: xs, .cons e t => by
    have ih := EntP.val (k := k) t
    obtain ⟨h1, h2, h3⟩ := e
    unfold atKey valH at ih ⊢
    rw [List.find?_cons, List.find?_cons]
    by_cases h : x.1 = k
    · rw [decide_eq_true h, decide_eq_true (show q.1 = k from h1.trans h)]
      exact ⟨fun p e => by cases e; exact ⟨_, rfl, h3⟩, fun e => by cases e⟩
    · rw [decide_eq_false h, decide_eq_false (show ¬ q.1 = k from fun z => h (h1.symm.trans z))]
      exact ih
theorem EntP.vals : ∀ {ks : List (NestedKey × Addr × V)} {xs : List (NestedKey × Addr × Value)}, EntP ks xs → Vals (ks.map fun q => q.2.2) (xs.map fun x => x.2.2)
  | _, _, .nil => .nil
  | _, _, .cons e t => .cons e.2.2 (EntP.vals t)

section
variable {X : Cx} {C : RC} {pins : List (Addr × Obj)} {σ : VE.St} {H : Hp} {s : Shared} {W : Wd} {Z Z2 : Addr → Prop}
theorem dHO_obj {a : Addr} {ks : List (NestedKey × Addr × V)} (I : Inv X pins σ H s) (ha : H a = some (dHO W a ks)) : ∃ o, s.heap.get? a = some o ∧ o.cls = .type "dict" ∧ o.dict = none := by
  obtain ⟨⟨z, y, xs, e, nd, o, es, ep, ho, hx, hd, he⟩, _⟩ := (show ObjOk X.prog X.w H s.heap a (dHO W a ks) from I.hok a _ ha)
  exact ⟨o, ho, hx.1, hx.2.1⟩
/-- a method of a dict -/
def tDm (to : TE) (t : TA) (r : V → List V → Hp → VK → Prop) : TE := fun σ H Q => to σ H fun x H1 => (∃ W a ks, x = .ref a ∧ H1 a = some (dHO W a ks)) ∧ t σ H1 fun xs H2 => r x xs H2 Q
theorem pd_bm {o e : Expr} {es : List Expr} {name : Str} {id : String} {apos cpos : Pos} {to : TE} {t : TA} {r : V → List V → Hp → VK → Prop} (sl : Slot "dict" name id) (ty : typeOf (.builtin id) = pure (.type "method_descriptor")) (hm : MtR X id r) (ho : PE X o to) (ha : PA X (e :: es) t)
    (hb : attributeBase o name X.env (eval o X.env) = eval o X.env) (hl : (apos.endLine == cpos.line) = true) (h0 : star0 e = true) (hs : es.all star0 = true) (few : es.length < 28) :
    PE X (.Call (.Attribute o name apos) (e :: es) [] cpos) (tDm to t r) := by
  have pl : ∀ es : List Expr, es.all star0 = true → (starEach es X.env).any (·.1) = false ∧ (starEach es X.env).all (fun x => !x.1) = true := by
    intro es
    induction es with
    | nil => intro _; exact ⟨rfl, rfl⟩
    | cons e es ih =>
      intro h
      have h : (star0 e && es.all star0) = true := by simpa using h
      rw [Bool.and_eq_true] at h
      rw [star_of h.1]
      obtain ⟨i1, i2⟩ := ih h.2
      exact ⟨i1, i2⟩
  have bt : ∀ l : List (Bool × Sem Value), (backTo cpos l).any (·.1) = l.any (·.1) ∧ (backTo cpos l).all (fun x => !x.1) = l.all (fun x => !x.1) := by
    intro l
    induction l with
    | nil => exact ⟨rfl, rfl⟩
    | cons p l ih =>
      obtain ⟨b, m⟩ := p
      obtain ⟨i1, i2⟩ := ih
      refine ⟨?_, ?_⟩
      · show (b || (backTo cpos l).any (·.1)) = (b || l.any (·.1)); rw [i1]
      · show (!b && (backTo cpos l).all (fun x => !x.1)) = (!b && l.all (fun x => !x.1)); rw [i2]
  have st := star_of h0 es X.env
  refine ⟨fun pins
          s σ H Q I h => ?_⟩
  refine wpAny_Call_method_late hb ?_ hl rfl (thn (ho.run pins s σ H _ I h) fun v s1 ⟨x, H1, I1, r1, ⟨W, a, ks, ex, hx⟩, q1⟩ => ?_)
  · rw [(bt _).2, st]
    show (true && (starEach es X.env).all (fun x => !x.1) && true && decide (es.length + 1 + 0 + 0 < 30)) = true
    rw [(pl es hs).2]
    simp
    omega
  · subst ex
    cases (show v = Value.ref a from r1)
    obtain ⟨o, e1, e2, e3⟩ := dHO_obj I1 hx
    refine ⟨"dict", id, PySem.F.plainAttrs_dict, sl, ty, ⟨o, e1, e2⟩, fun b z => by cases z; exact ⟨o, e1, e3⟩, ?_⟩
    have hA := ha.run cpos
            pins s1 σ H1 _ I1 q1
    rw [st] at hA ⊢
    refine Calls.callWith_builtin (by show (false || (backTo cpos (starEach es X.env)).any (·.1)) = false; rw [(bt _).1, (pl es hs).1]; rfl) (Calls.evalArgs_plain ?_)
    exact thn hA fun us s2 ⟨vs, H2, I2, r2, q2⟩ => hm pins s2 σ H2 _ vs _ us Q I2 (show RelV (V.ref a) (Value.ref a) from rfl) r2 q2
theorem pd_bm0 {o : Expr} {name : Str} {id : String} {apos cpos : Pos} {to : TE} {r : V → List V → Hp → VK → Prop} (sl : Slot "dict" name id) (ty : typeOf (.builtin id) = pure (.type "method_descriptor")) (hm : MtR X id r) (ho : PE X o to)
    (hb : attributeBase o name X.env (eval o X.env) = eval o X.env) (hl : (apos.endLine == cpos.line) = true) : PE X (.Call (.Attribute o name apos) [] [] cpos) (tDm to tNil r) := by
  refine ⟨fun pins
          s σ H Q I h => ?_⟩
  refine wpAny_Call_method0_late hb hl (thn (ho.run pins s σ H _ I h) fun v s1 ⟨x, H1, I1, r1, ⟨W, a, ks, ex, hx⟩, q1⟩ => ?_)
  subst ex
  cases (show v = Value.ref a from r1)
  obtain ⟨o, e1, e2, e3⟩ := dHO_obj I1 hx
  refine ⟨"dict", id, PySem.F.plainAttrs_dict, sl, ty, ⟨o, e1, e2⟩, fun b z => by cases z; exact ⟨o, e1, e3⟩, ?_⟩
  exact Calls.callWith_builtin rfl (PySem.evalArgs_none (hm pins s1 σ H1 _ [] _ [] Q I1 (show RelV (V.ref a) (Value.ref a) from rfl) .nil q1))

/-- d.values() -/
theorem mt_vals : MtR X "dict.values" (fun x xs H Q => ∃ W a ks, x = .ref a ∧ xs = [] ∧ H a = some (dHO W a ks) ∧ ∀ r, H r = none → Q (.ref r) (upd H r (vwO r a))) := by
  rintro pins s σ H x xs v us Q I rx rxs ⟨W, a, ks, rfl, rfl, ha, k⟩
  cases (show v =
          Value.ref a from rx)
  cases rxs
  obtain ⟨⟨z, y, xs, e, nd, o, es, ep, ho, hx, hd, he⟩, _⟩ := (show ObjOk X.prog X.w H s.heap a (dHO W a ks) from I.hok a _ ha)
  have ht : s.TypeIs (.ref a) "dict" := ⟨o, ho, hx.1⟩
  have hn : H s.heap.objs.size = none
          := I.hok.fresh (Nat.le_refl _)
  refine wpAny_call_entry PySem.F.slot_dict_values ht PySem.F.entry_dict_values ?_ (PySem.F.args_dict_values_1 _)
  refine wpAny_bind ?_
  unfold Builtin.Dict.noArgs
  refine wpAny_bind (wpAny_notOrdered_dict ht ?_)
  show wpAny _ _ (pure a) _ _ s
  refine wpAny_pure ?_
  show wpAny _ _ (Builtin.Dict.showsAll
          a >>= _) _ _ s
  unfold Builtin.Dict.showsAll
  rw [if_neg (show ¬ (a == sysModules) = true by rw [y]; exact nofun)]
  refine wpAny_bind (wpAny_pure (wpAny_bind (wpAny_newObj_type (wpAny_pure ⟨_, rfl, ?_⟩))))
  refine ⟨.ref s.heap.objs.size, _, I.laid (t' := s.toks) (o := vwO s.heap.objs.size a) (fun b u q => Heap.get?_push_of_some _ q) (Nat.le_refl _) ⟨⟨_, Heap.get?_push_size _ rfl, rfl, rfl⟩, ⟨_, Heap.get?_push_size _ rfl⟩, ?_⟩, rfl, k _ hn⟩
  rintro h1 h2 ⟨o', q1, q2⟩ hk
  exact ⟨o', hk o' q1, q2⟩
/-- list(view) -/
theorem cr_lvals : CallR X (.type "list") (fun vs H Q => X.calm = true ∧ ∃ W r a ks, vs = [.ref r] ∧ H r = some (vwO r a) ∧ H a = some (dHO W a ks) ∧ W.P = X.prog ∧ W.w = X.w ∧ ∀ p, H p = none → Q (.ref p) (upd H p (.lst (ks.map fun q => q.2.2)))) := by
  rintro pins s σ H vs us Q I r ⟨hc, W, rr, a, ks, rfl, hr, ha, hP, hw, k⟩
  obtain ⟨u, rfl, rx⟩ := r.one
  cases (show u = Value.ref rr from rx)
  obtain ⟨⟨z, y, xs, e, nd, o, es, ep, ho, hx, hd, he⟩, _⟩ := (show ObjOk X.prog X.w H s.heap a (dHO W a ks) from I.hok a _ ha)
  obtain ⟨hv, _⟩ := (show ObjOk X.prog X.w H s.heap rr (vwO rr a) from I.hok rr _ hr)
  rw [hP, hw] at he
  have l1 : es.size = xs.length := size_of_entries he
  have l2 : ks.length = xs.length := EntP.length e
  have hp : H s.heap.objs.size = none := I.hok.fresh (Nat.le_refl _)
  refine PySem.W.kdl_call PySem.KdlSrc.rawValues (I.ok.hd hc) ⟨hv, o, ho, hx, hd⟩ (by omega) fun h' tk acc' c' kp e' it => ?_
  have ea : acc'.toList = xs.map fun x => x.2.2 := by
    apply List.ext_getElem?
    intro j
    rw [List.getElem?_map]
    cases hj :
            acc'.toList[j]? with
    | none =>
      have h1 :=
              List.getElem?_eq_none_iff.mp hj
      rw [Array.length_toList, it.1] at h1
      rw [List.getElem?_eq_none
              (by omega)]
      rfl
    | some w =>
      obtain ⟨hi, hv⟩ := it.2 j w (by rw [← Array.getElem?_toList]; exact hj)
      have qe := entry_at he j
      rw [Array.getElem?_eq_getElem hi] at qe
      cases hb : xs[j]? with
      | none => rw [hb] at qe; cases qe
      | some b =>
        rw [hb] at qe
        have e2 : es[j] = entryOfKey (nestedKind X.prog X.w) b := Option.some.inj qe
        rw [hv, e2]
        rfl
  refine ⟨.ref s.heap.objs.size, _, I.laid (t' := tk) (o := .lst (ks.map fun q => q.2.2)) kp (Nat.le_refl _) ⟨by rw [List.length_map]; omega, xs.map fun x => x.2.2, c', EntP.vals e, ?_⟩, rfl, k _ hp⟩
  rw [e', ← ea]
/-- d.setdefault(k, x) -/
theorem mt_sdef : MtR X "dict.setdefault" (fun x xs H Q => X.A.units + 66 < cLine ∧ ∃ W a ks kvs b kd k z Z Z2, W.P = X.prog ∧ W.w = X.w ∧ W.K = X.K ∧ x = .ref a ∧ xs = [.ref b, z] ∧ H a = some (dHO W a ks) ∧ ks.length < sizeLine ∧ DenKV W H Z ks kvs ∧ Den W H Z2 (.ref b) kd ∧ nkey kd = some k ∧ k.depth ≤ 8 ∧
    (∀ v, valH ks k = some v → Q v H) ∧ (valH ks k = none → Q z (upd H a (dHO W a (ks ++ [(k, b, z)]))))) := by
  rintro pins s σ H x xs v us Q I rx rxs ⟨hu, W, a, ks, kvs, b, kd, k, z, Z, Z2, hP, hw, hK, rfl, rfl, ha, hz, l, dk, n, q, k1, k2⟩
  cases (show v =
          Value.ref a from rx)
  obtain ⟨u1, u2, rfl,
          r1, r2⟩ := vals2 rxs
  cases (show u1 = Value.ref b from r1)
  obtain ⟨xs, ep, hm, ny, _⟩ := dict_of I hP hw hK ha l
  have ki : (nestedKind X.prog X.w).is s.heap k b := ⟨Den.nested I hK _ _ _ _ dk rfl n, q⟩
  have room : (nestedKind X.prog X.w).room X.A.in1 := by show X.A.units + 1 + 8 < cLine; omega
  refine call_setdefault_heap (hsz := by rw [← ep.length]; omega) room ki ny hm (fun p hp => ?_) fun hn h' hm' hs => ?_
  · obtain ⟨w, hw1, hw2⟩ := (EntP.val (k := k) ep).1 p hp
    exact ⟨w, H, I.tok _, hw2, k1 w hw1⟩
  · have hv := (EntP.val (k := k) ep).2 hn
    have he : ∃ o, h'.get? a = some o := let ⟨o, _, _, ho, _⟩ := hm'; ⟨o, ho⟩
    have es : storedH xs k b u2 = xs ++ [(k, b, u2)] := by unfold storedH; rw [hn]; rfl
    rw [es] at hm'
    refine ⟨z, _, d_write I (by rw [ha]; exact True.intro) hs he (dHO_at hP hw (by rw [List.length_append]; exact hz) ny (ep.snoc ⟨rfl, rfl, r2⟩) hm'), r2, k2 hv⟩
end
end VE
/-! VE22: dict comprehensions of two clauses -/
namespace VE
open PySem PySem.Spec
        PyProof.Rows L2

abbrev Dc2 (kx vx t0 i0 t1 i1 : Expr) (scope : Scope) (pos : Pos) : Expr := .DictComp kx vx [⟨t0, i0, [], 0⟩, ⟨t1, i1, [], 0⟩] scope pos
theorem turn_out (kx vx t0 i0 t1 i1 : Expr) (scope : Scope) (pos : Pos) (it : Value) (D : Addr) (env : PySem.Env) :
    compTurn (Dc2 kx vx t0 i0 t1 i1 scope pos) 0 it (.ref D) env = (do
      standAt i0.pos
      match ← pyNext it with
      | none => pure (.done .next)
      | some u =>
        letOwnedTupleGo t0 it u
        assign t0 env u
        let mut yes := true
        for c in ([] : List Expr) do
          if yes then yes ← isTrue c env (eval c env)
        if yes then
          let y ← eval i1 env
          standAt i1.pos
          let y ← foldedSetIterable i1 env y
          let _ ← runOwn (.compStart (Dc2 kx vx t0 i0 t1 i1 scope pos) 1 (← holding [y] (pyIter y)) (.ref D) env) env
        again (.compLoop (Dc2 kx vx t0 i0 t1 i1 scope pos) 0 it (.ref D) env)) := by rfl
theorem turn_in (kx vx t0 i0 t1 i1 : Expr) (scope : Scope) (pos : Pos) (it : Value) (D : Addr) (env : PySem.Env) :
    compTurn (Dc2 kx vx t0 i0 t1 i1 scope pos) 1 it (.ref D) env = (do
      standAt i1.pos
      match ← pyNext it with
      | none => pure (.done .next)
      | some u =>
        letOwnedTupleGo t1 it u
        assign t1 env u
        let mut yes := true
        for c in ([] : List Expr) do
          if yes then yes ← isTrue c env (eval c env)
        if yes then
          (do
            let ky ← eval kx env
            let vy ← holding [ky] (eval vx env)
            standAt { kx.pos with endLine :=
                    vx.pos.endLine, endCol := vx.pos.endCol }
            holding [ky, vy] (dictSet D ky vy))
        again (.compLoop (Dc2 kx vx t0 i0 t1 i1 scope pos) 1 it (.ref D) env)) := by rfl
section
variable {P : Program} {w : World} {A : Around} {R : Result → Shared → Prop} {s : Shared} {kx vx t0 i0 t1 i1 : Expr} {scope : Scope} {pos : Pos} {it : Value} {D : Addr} {env : PySem.Env}
/-- what a turn of the first clause does behind its target -/
def bw2 (P : Program) (w : World) (A : Around) (e i1 : Expr) (D : Addr) (env : PySem.Env) (Post : Shared → Prop) (s : Shared) : Prop :=
  wpAny (model P w) A (eval i1 env) (fun x s1 => wpAny (model P w) A (pyIter x) (fun j s2 => codeAny (model P w) A (.compStart e 1 j (.ref D) env) (fun r s' => match r with
    | .ok _ => Post s'
    | .error _ => False) s2) (fun _ _ => False) s1) (fun _ _ => False) s
theorem loop2 (hs : ∀ env x, foldedSetIterable i1 env x = pure x) (J : Nat → Shared → Prop)
    (turn : ∀ n s, J n s → wpAny (model P w) A (pyNext it) (fun r s₁ => match r with
        | none => R (.ok .next) s₁
        | some v => wpAny (model P w) A (letOwnedTupleGo t0 it v) (fun _ s₂ => wpAny (model P w) A (assign t0 env v) (fun _ s₃ => bw2 P w A (Dc2 kx vx t0 i0 t1 i1 scope pos) i1 D env (fun s' => ∃ m, m < n ∧ J m s') s₃) (fun _ _ => False) s₂) (fun _ _ => False) s₁) (fun _ _ => False) s)
    (n : Nat) (s : Shared) (h : J n s) : codeAny (model P w) A (.compLoop (Dc2 kx vx t0 i0 t1 i1 scope pos) 0 it (.ref D) env) R s := by
  refine codeAny_loop rfl J (fun n s hJ => ?_) n h
  show wpAny _ A ((compTurn (Dc2 kx vx t0 i0 t1 i1 scope pos) 0 it (.ref D) env).onRaise (fun x => do noteFrame x env; theTreesLotGoes x)) _ _ s
  refine wpAny_noted ?_
  rw [turn_out]
  refine wpAny_bind (wpAny_standAt (wpAny_bind (thnF (turn n s hJ) fun r s1 h1 => ?_)))
  cases r with
  | none => exact wpAny_pure h1
  | some v =>
    refine wpAny_bind (thnF h1 fun _ s2 h2 => wpAny_bind (thnF h2 fun _ s3 h3 => ?_))
    refine wpAny_bind
            (wpAny_tests_nil ?_)
    show wpAny _ A (do
          let y ← eval i1 env
          standAt i1.pos
          let y ← foldedSetIterable i1 env y
          let _ ← runOwn (.compStart (Dc2 kx vx t0 i0 t1 i1 scope pos) 1 (← holding [y] (pyIter y)) (.ref D) env) env
          again (.compLoop (Dc2 kx vx t0 i0 t1 i1 scope pos) 0 it (.ref D) env)) _ _ s3
    refine wpAny_bind (thnF h3 fun y s4 h4 => ?_)
    refine wpAny_bind (wpAny_standAt (wpAny_bind (wpAny_of_eq (hs env y) (wpAny_bind (wpAny_holding (thnF h4 fun j s5 h5 => ?_))))))
    refine wpAny_bind
            (wpAny_runOwn ?_)
    rw [Around.mark_none]
    refine codeAny_mono h5 fun r s' hr => ?_
    cases r with
    | ok fl =>
      first
        | exact wpAny_pure ⟨rfl, hr⟩
        | exact wpAny_bind (wpAny_pure
                (wpAny_pure ⟨rfl, hr⟩))
    | error e => exact hr.elim
theorem loop2in (J : Nat → Shared → Prop)
    (turn : ∀ n s, J n s → wpAny (model P w) A (pyNext it) (fun r s₁ => match r with
        | none => R (.ok .next) s₁
        | some v => wpAny (model P w) A (letOwnedTupleGo t1 it v) (fun _ s₂ => wpAny (model P w) A (assign t1 env v) (fun _ s₃ =>
          wpAny (model P w) A (eval kx env) (fun ky s4 => wpAny (model P w) A (eval vx env) (fun vy s5 => wpAny (model P w) A (dictSet D ky vy) (fun _ s6 => ∃ m, m < n ∧ J m s6) (fun _ _ => False) s5) (fun _ _ => False) s4) (fun _ _ => False) s₃) (fun _ _ => False) s₂) (fun _ _ => False) s₁) (fun _ _ => False) s)
    (n : Nat) (h : J n s) : codeAny (model P w) A (.compLoop (Dc2 kx vx t0 i0 t1 i1 scope pos) 1 it (.ref D) env) R s := by
  refine codeAny_loop rfl J (fun n s hJ => ?_) n h
  show wpAny _ A ((compTurn (Dc2 kx vx t0 i0 t1 i1 scope pos) 1 it (.ref D) env).onRaise (fun x => do noteFrame x env; theTreesLotGoes x)) _ _ s
  refine wpAny_noted ?_
  rw [turn_in]
  refine wpAny_bind (wpAny_standAt (wpAny_bind (thnF (turn n s hJ) fun r s1 h1 => ?_)))
  cases r with
  | none => exact wpAny_pure h1
  | some v =>
    refine wpAny_bind (thnF h1 fun _ s2 h2 => wpAny_bind (thnF h2 fun _ s3 h3 => ?_))
    refine wpAny_bind
            (wpAny_tests_nil ?_)
    show wpAny _ A (do
          (do
            let ky ← eval kx env
            let vy ← holding [ky] (eval vx env)
            standAt { kx.pos with endLine :=
                    vx.pos.endLine, endCol := vx.pos.endCol }
            holding [ky, vy] (dictSet D ky vy))
          again (.compLoop (Dc2 kx vx t0 i0 t1 i1 scope pos) 1 it (.ref D) env)) _ _ s3
    exact wpAny_bind (wpAny_bind (thnF h3 fun ky s4 h4 => wpAny_bind (wpAny_holding (thnF h4 fun vy s5 h5 => wpAny_bind (wpAny_standAt (wpAny_holding (thnF h5 fun _ s6 h6 => wpAny_pure ⟨rfl, h6⟩)))))))
theorem start2 (h0 : codeAny (model P w) A (.compLoop (Dc2 kx vx t0 i0 t1 i1 scope pos) 1 it (.ref D) env) R s)
    (h : wpAny (model P w) A (pyIter it) (fun j s' => codeAny (model P w) A (.compLoop (Dc2 kx vx t0 i0 t1 i1 scope pos) 1 j (.ref D) env) R s') (notedBy (model P w) A env fun x s' => R (.error x) s') s) :
    codeAny (model P w) A (.compStart (Dc2 kx vx t0 i0 t1 i1 scope pos) 1 it (.ref D) env) R s := by
  refine codeAny_of_tree ?_
  show wpAny _ A ((compStart (Dc2 kx vx t0 i0 t1 i1 scope pos) 1 it (.ref D) env).onRaise (fun x => do noteFrame x env; standAt theWindowsPlace)) _ _ s
  refine wpAny_notedAt ?_
  unfold compStart
  show wpAny _ A
          (ask >>= _) _ _ s
  refine wpAny_bind
          (wpAny_askSetting (wpAny_ite ?_))
  split
  · first
      | exact wpAny_bind (wpAny_pure
              (wpAny_pure (And.intro rfl h0)))
      | exact wpAny_pure
              (And.intro rfl h0)
  · first
      | exact wpAny_bind (wpAny_rule (wpAny_bind (wpAny_standAt (wpAny_bind (wpAny_mono h (fun j s' h' => wpAny_pure (And.intro rfl h')) fun _ _ x => x)))))
      | (refine wpAny_bind (wpAny_rule ?_); show wpAny _ _ (standAt i1.pos >>= _) _ _ s; exact wpAny_bind (wpAny_standAt (wpAny_bind (wpAny_mono h (fun j s' h' => wpAny_pure (And.intro rfl h')) fun _ _ x => x))))
end
/-- behind the first target: the second source, its target, the entry -/
def uDc2 (W : Wd) (wi : TI) (g : TG) (tk tv : TE) (vs1 : List Nat) (D : Addr) : VE.St → Hp → (Hp → Prop) → Prop := fun σ H Nx => wi σ H fun J H1 => ∃ Wv : Nat → Nat → Hp → Prop, (∃ m, Wv 0 m H1) ∧ ∀ i m H, Wv i m H →
  (J.stop i H ∧ Nx H) ∨ (J.go i H ∧ ∃ N1 : Hp → Prop, (∀ H', N1 H' → ∃ m', m' < m ∧ Wv (i + 1) m' H') ∧ ∀ x H', J.yld i H x H' → g x (L2.wipe σ vs1) H' fun σ2 H2 => L2.wipe σ2 vs1 = L2.wipe σ vs1 ∧ tk σ2 H2 fun y H4 => tv σ2 H4 fun z H5 => Put W D y z H5 N1)
section
variable {X : Cx} {C : RC}
theorem pb2 (f : Fit X C) (hu : X.A.units + 66 < cLine) {kx vx t0 i0 t1 i1 : Expr} {vs vs1 : List Nat} {D : Addr} {wi : TI} {g : TG} {tk tv : TE} {scope : Scope} {pos : Pos} {s0 : Shared} {H0 : Hp} {Cc : Addr} {cl : List (Str × Addr)} {fp : List Addr} (hvs : ∀ i ∈ vs1, i ∈ vs)
    (hi : PI (Blk X scope s0 H0 Cc cl fp) t1 i1 wi) (hg : PG (Blk X scope s0 H0 Cc cl fp) t1 g) (hk : PE (Blk X scope s0 H0 Cc cl fp) kx tk) (hv : PE (Blk X scope s0 H0 Cc cl fp) vx tv) :
    PB (Blk X scope s0 H0 Cc cl fp) vs (bw2 X.prog X.w X.A (Dc2 kx vx t0 i0 t1 i1 scope pos) i1 D (compEnvC scope cl Cc X.env)) (uDc2 C.W wi g tk tv vs1 D) := ⟨fun pins s σ H Nx Post I h k => by
  refine thnF (hi.run pins s σ H _ I h) fun x s1 hx => thnF hx fun jv s2 h2 => ?_
  obtain ⟨it, fp1, tn, J, H2, rfl, I2, T, st2, f2, Wv, ⟨m0, w0⟩, turn⟩ := h2
  have still : ∀ {H' : Hp}, (∀ b ∈ fp1, H' b = none) → ∀ b ∈ fp1, FpOk (Blk X scope s0 H0 Cc cl fp) pins H' b := fun hn b hb => ⟨hn b hb, (f2 b hb).2⟩
  have loop : codeAny (model X.prog X.w) X.A (.compLoop (Dc2 kx vx t0 i0 t1 i1 scope pos) 1 (.ref it) (.ref D) (compEnvC scope cl Cc X.env)) (fun r s' => match r with
      | .ok _ => Post s'
      | .error _ => False) s2 := by
    refine loop2in (fun n s' => ∃ i H', Inv (Blk X scope s0 H0 Cc cl fp) pins (L2.wipe σ vs1) H' s' ∧ tn i s'.heap ∧ (∀ b ∈ fp1, H' b = none) ∧ Wv i n H') ?_ m0 ⟨0, H2, inv_wipe I2 vs1, st2, fun b hb => (f2 b hb).1, w0⟩
    rintro n s3 ⟨i, H3, I3, st3, n3, w3⟩
    rcases turn i n H3 w3 with ⟨stop, nx⟩ | ⟨go, N1, less, step⟩
    · refine thnF (T.done (Blk X scope s0 H0 Cc cl fp) rfl rfl rfl f.calm i _ s3 _ H3 (fun _ _ => False) I3 (still n3) st3 stop) fun r s4 ⟨hr, I4⟩ => ?_
      subst hr
      refine k s4 H3 ?_ nx
      have e : L2.wipe (L2.wipe σ vs1) vs = L2.wipe σ vs := wipe_eq (wipe_length σ vs1) fun j hj => wipe_get fun z => hj (hvs j z)
      rw [← e]
      exact inv_wipe I4 vs
    · refine thnF (T.item (Blk X scope s0 H0 Cc cl fp) rfl rfl rfl f.calm i _ s3 _ H3 (fun _ _ => False) I3 (still n3) st3 go) fun r s4 ⟨v, hr, h4⟩ => ?_
      subst hr
      refine thnF h4 fun _ s5 ⟨y, H5, I5, r5, y5, st5, n5⟩ => ?_
      refine thnF (hg.run _ s5 _ H5 y v _ (I5.pinned (still n5) (T.obj _ _ st5)) r5 (step y H5 y5)) fun _ s6 ⟨σ6, H6, I6, hw6, q6⟩ => ?_
      refine thnF (hk.run _ s6 σ6 H6 _ I6 q6) fun ky s7 ⟨a, H7, I7, r7, q7⟩ => ?_
      refine thnF (hv.run _ s7 σ6 H7 _ I7 q7) fun vy s8 ⟨b, H8, I8, r8, q8⟩ => ?_
      refine Put.set f (X' := Blk X scope s0 H0 Cc cl fp) rfl rfl rfl hu I8 r7 r8 q8 fun s9 H9 I9 nx => ?_
      obtain ⟨m', hm, w'⟩ := less H9 nx
      have stays : ∀ b ∈ fp1, ∀ o, s5.heap.get? b = some o → s9.heap.get? b = some o ∧ H9 b = none := fun b hb o e =>
        let z := I9.pin (b, o) (List.mem_append_right _ (List.mem_append_right _ (mem_pinsAt hb e)))
        ⟨z.1, z.2.1⟩
      have I10 := inv_wipe (I9.unpinned (pins := pins)) vs1
      rw [hw6] at I10
      exact ⟨m', hm, i + 1, H9, I10, T.keep _ _ _ st5 fun b hb o e => (stays b hb o e).1, fun b hb => by
        obtain ⟨o, e, _⟩ := T.obj _ _ st5 b hb
        exact (stays b hb o e).2, w'⟩
  exact start2 loop (T.self X.A 0 _ _ _ st2 loop)⟩
end
end VE
/-! VE23: dict comprehensions of two clauses: the reading; list(d.values()); sorted at its place -/
namespace VE
open PySem PySem.Spec
                        PyProof.Rows L2

def anyI (W : Wd) (t : RC → TI) : TI := fun σ H R => ∃ C' : RC, C'.W = W ∧ t C' σ H R
theorem pi_any {X : Cx} {tg e : Expr} {W : Wd} {t : RC → TI} (h : ∀ C' : RC, C'.W = W → PI X tg e (t C')) : PI X tg e (anyI W t) := ⟨fun pins s σ H R I ⟨C', hW, q⟩ => (h C' hW).run pins s σ H R I q⟩
theorem tgs_mem {t : Tg} {j : Nat} : j ∈ tgs t ↔ (t = .nm j ∨ ∃ is, t = .tp is ∧ j ∈ is) := by
  cases t with
  | nm i => exact ⟨fun h => .inl (by rw [List.mem_singleton.mp h]), fun h => h.elim (fun e => by cases e; exact List.mem_cons_self) fun ⟨_, e, _⟩ => by cases e⟩
  | tp is => exact ⟨fun h => .inr ⟨is, rfl, h⟩, fun h => h.elim (fun e => by cases e) fun ⟨_, e, h⟩ => by cases e; exact h⟩

section
variable {X : Cx} {C : RC}
theorem rn_dc2 {own : List (Str × Nat)} {t t2 : Tg} {gs gs2 : SrcF} {gk gv : ValF}
    (htv : ∀ j ∈ tgs t, j ∈ own.map (·.2)) (htv2 : ∀ j ∈ tgs t2, j ∈ own.map (·.2)) :
    ∀ σ H Q, tN C (dc2E gs gs2 gk gv t t2 (own.map (·.2))) σ H Q →
      tBk C.W (tSrc C gs) (anyG C.W fun C' => tTg C' t) (uDc2 C.W (anyI C.W fun C' => tSrc C' gs2) (anyG C.W fun C' => tTg C' t2) (anyE C.W fun C' => tV C' gk) (anyE C.W fun C' => tV C' gv) (tgs t2)) (own.map (·.2)) σ H Q := by
  intro σ H Q ⟨env, F, R, o, env', hev, k⟩
  generalize hvs : own.map (·.2) = vs at hev htv htv2 ⊢
  obtain ⟨⟨ds, l, env1⟩, h1, h2⟩ := rbind (show (gs env >>= _) = _ from hev)
  obtain ⟨envI, h3, h4⟩ := rbind h2
  obtain ⟨⟨acc, envE⟩, h5, h6⟩ := rbind h4
  cases h6
  have h3 := rof h3
  refine ⟨env, F, R, ds, l, env1, h1, fun J H1 F1 R1 s1 hlen hl hJ D hD => ?_⟩
  obtain ⟨RD, hz⟩ := R1.fresh (o := dHO C.W D []) hD
  obtain ⟨C2, eW, eZ, eL, eP, hln, eB, R2, lent, back⟩ := lend_ok RD hl
  have eW : C2.W = C.W := eW
  obtain ⟨w1, w2, w3⟩ := wipeE_spec h3
  have RI := R2.wipe h3
  have hDZ : C2.Z D := by rw [eZ]; exact .inr List.mem_cons_self
  have hDL : ¬ C2.L D := by rw [eL]; exact fun z => (hz D List.mem_cons_self).1 (C.lz D z)
  have lv : ∀ i, l = some i → i ∉ vs := fun i e hm => by
    obtain ⟨es, q⟩ := hln i e
    have z := R2.ln _ q
    have y := (w1 i hm).1
    rw [z] at y
    exact y
  have pv : ∀ p ∈ C2.pins, p.1 ∉ vs := fun p hp hm => (w1 p.1 hm).1.free.nopin (R2.pin p hp).2
  have nv : ∀ p ∈ C2.lents, p.1 ∉ vs := fun p hp hm => by
    have y := (w1 p.1 hm).1
    rw [R2.ln p hp] at y
    exact y
  have ww : L2.wipe (L2.wipe σ vs) vs = L2.wipe σ vs := wipe_eq (wipe_length σ vs) fun j hj => wipe_get hj
  have llen : (VE.lend env1 l).length = env1.length := by rw [← R2.len]; exact R1.len
  let Pv : Nat → Hp → Prop := fun i H2 => ∃ env2 F2 acc2 ks, Rel C2 H2 (L2.wipe σ vs) env2 F2 ∧ Step H1 (Om F1) H2 (Om F2) ∧ H2 D = some (dHO C.W D ks) ∧ DenKV C.W H2 (Th F2 (C.more [D]).Z) ks acc2 ∧
    (∀ v ∈ vs, env2[v]? = some .no) ∧ env2.length = env1.length ∧ dc2Go (dc2Turn gs2 gk gv t t2 vs) (ds.drop i) acc2 env2 = .ok (acc, envE)
  refine ⟨fun i m H2 => m = ds.length - i ∧ i ≤ ds.length ∧ Pv i H2, ⟨ds.length, by simp, Nat.zero_le _, envI, F1, [], [], RI, Step.new hD, upd_same, .nil, fun v hv => (w1 v hv).2, by rw [w3, llen], by rw [List.drop_zero]; exact h5⟩, ?_⟩
  rintro i m H2 ⟨rfl, hi2, env2, F2, acc2, ks, RR, SS, hDD, dl, nos, elen, ev⟩
  have stT : Step H1 (Th F1 C.Z) H2 (Th F2 (C.more [D]).Z) := SS.th hD
  have it := hJ H2 _ stT (by
    have q := lent H2 _ env2 F2 RR fun j e => wipe_get (lv j e)
    exact q)
  cases hd : ds[i]? with
  | none =>
    refine .inl ⟨(it i).1 hd, ?_⟩
    have hge := List.getElem?_eq_none_iff.mp hd
    rw [List.drop_of_length_le hge] at ev
    cases ev
    have st0 : Step (upd H1 D (dHO C.W D [])) (Th F1 C2.Z) H2 (Th F2 C2.Z) := by rw [eZ]; exact SS.th0 hD (fun _ z => by cases z) (fun _ _ z => by cases z) (by rw [hDD]; exact nofun)
    have Rb := Rel.back R2 RR rfl st0 (fun v hv => ⟨(w1 v hv).1, nos v hv⟩) (fun j hj => wipe_get hj) (by rw [elen, llen]) pv nv
    have Rf := back H2 σ _ F2 Rb fun _ _ => rfl
    exact k D [D] H2 F2 Rf (s1.trans SS) ⟨rfl, ks, hDD, dl⟩ fun b hb => by rw [List.mem_singleton.mp hb]; exact s1.dom D hD
  | some d =>
    have hlt := (List.getElem?_eq_some_iff.mp hd).1
    have hdrop : ds.drop i = d :: ds.drop (i + 1) := by
      rw [List.drop_eq_getElem_cons
                              hlt]
      congr 1
      exact (List.getElem?_eq_some_iff.mp
                              hd).2
    rw [hdrop] at ev
    obtain ⟨⟨acc3, env3⟩, e1, e2⟩ := rbind (show (dc2Turn gs2 gk gv t t2 vs acc2 d env2 >>= _) = _ from ev)
    obtain ⟨go, yl⟩ := (it i).2 d hd
    refine .inr ⟨go, Pv (i + 1), fun H' q => ⟨ds.length - (i + 1), by omega, rfl, hlt, q⟩, fun x H3 hy => ?_⟩
    obtain ⟨sm, dx⟩ := yl x H3 hy
    obtain ⟨ea, e3, e4⟩ := rbind (show (Rs.of (setT env2 t d) >>= _) = _ from e1)
    obtain ⟨⟨ds2, l2, eb⟩, e5, e6⟩ := rbind e4
    obtain ⟨ec, e7, e8⟩ := rbind e6
    obtain ⟨⟨acc4, ed⟩, e9, e10⟩ := rbind e8
    obtain ⟨ee, e11, e12⟩ := rbind e10
    cases e12
    have e7 := rof e7
    have e11 := rof e11
    refine ⟨C2, eW, env2, F2, d, ea, RR.same sm, by rw [eW, eZ]; exact dx, rof e3, fun σ4 F4 R4 st4 l4 o4 => ?_⟩
    have w4 : L2.wipe σ4 vs = L2.wipe σ vs := by
      rw [← ww]
      refine wipe_eq l4 fun j hj => o4 j ⟨fun e => hj (htv j (tgs_mem.mpr (.inl e))), fun is e z => hj (htv j (tgs_mem.mpr (.inr ⟨is, e, z⟩)))⟩
    have lea : ea.length = env2.length := by rw [← R4.len, l4, RR.len]
    refine ⟨w4, C2, eW, ea, F4, R4, ds2, l2, eb, e5, fun J2 H5 F5 R5 st5 hlen2 hl2 hJ2 => ?_⟩
    have s5 : Step H2 (Om F2) H5 (Om F5) := (Step.same sm).trans (st4.trans st5)
    have leb : eb.length = env2.length := by rw [← R5.len, R4.len, lea]
    -- the inner loop
    obtain ⟨C3, fW, fZ, fL, fP, fln, fB, R6, lent2, back2⟩ := lend_ok R5 hl2
    have fW : C3.W = C2.W := fW
    obtain ⟨u1, u2, u3⟩ := wipeE_spec e7
    have R7 := R6.wipe e7
    have lv2 : ∀ i, l2 = some i → i ∉ tgs t2 := fun i e hm => by
      obtain ⟨es, q⟩ := fln i e
      have z := R6.ln _ q
      have y := (u1 i hm).1
      rw [z] at y
      exact y
    have ww2 : L2.wipe (L2.wipe σ4 (tgs t2)) (tgs t2) = L2.wipe σ4 (tgs t2) := wipe_eq (wipe_length σ4 _) fun j hj => wipe_get hj
    have llen2 : (VE.lend eb l2).length = eb.length := by rw [← R6.len]; exact R5.len
    have hDZ3 : C3.Z D := by rw [fZ]; exact hDZ
    have hDL3 : ¬ C3.L D := by rw [fL]; exact hDL
    have hD5 : H5 D = some (dHO C.W D ks) := s5.keep D _ hDD (fun ⟨j, z⟩ => RR.apart j D z hDZ)
    let Pw : Nat → Hp → Prop := fun i H' => ∃ env' F' acc' ks', Rel C3 H' (L2.wipe σ4 (tgs t2)) env' F' ∧ Step H1 (Om F1) H' (Om F') ∧ Step H5 (Th F5 C2.Z) H' (Th F' C2.Z) ∧ H' D = some (dHO C.W D ks') ∧ DenKV C.W H' (Th F' (C.more [D]).Z) ks' acc' ∧
      (∀ v ∈ tgs t2, env'[v]? = some .no) ∧ env'.length = eb.length ∧ dcGo (dcTurn (fun e => .ok (true, e)) gk gv t2 (tgs t2)) (ds2.drop i) acc' env' = .ok (acc3, ed)
    refine ⟨fun i m H' => m = ds2.length - i ∧ i ≤ ds2.length ∧ Pw i H', ⟨ds2.length, by simp, Nat.zero_le _, ec, F5, acc2, ks, R7, SS.trans s5, Step.refl, hD5, dl.step (by rw [← eZ]; exact s5.plus C2.Z), fun v hv => (u1 v hv).2, by rw [u3, llen2], by rw [List.drop_zero]; exact e9⟩, ?_⟩
    rintro i' m H6 ⟨rfl, hi3, env6, F6, acc6, ks6, RR6, SS6, T6, hD6, dl6, nos6, elen6, ev6⟩
    have it2 := hJ2 H6 _ T6 (by
      have q := lent2 H6 _ env6 F6 RR6 fun j e => wipe_get (lv2 j e)
      exact q)
    cases hd2 : ds2[i']? with
    | none =>
      refine .inl ⟨(it2 i').1 hd2, ?_⟩
      have hge := List.getElem?_eq_none_iff.mp hd2
      rw [List.drop_of_length_le hge] at ev6
      cases ev6
      have Rb := back2 H6 _ _ F6 RR6 fun j e => wipe_get (lv2 j e)
      obtain ⟨x1, x2, x3⟩ := wipeE_spec e11
      have Rw := Rb.wipe e11
      have e : L2.wipe (L2.wipe σ4 (tgs t2)) vs = L2.wipe σ4 vs := wipe_eq (wipe_length σ4 _) fun j hj => wipe_get fun z => hj (htv2 j z)
      rw [e, w4] at Rw
      refine ⟨env3, F6, acc3, ks6, Rw, SS6, hD6, dl6, fun v hv => (x1 v hv).2, ?_, e2⟩
      rw [x3, ← Rb.len, wipe_length, R4.len, lea, elen]
    | some d2 =>
      have hlt2 := (List.getElem?_eq_some_iff.mp hd2).1
      have hdrop2 : ds2.drop i' = d2 :: ds2.drop (i' + 1) := by
        rw [List.drop_eq_getElem_cons hlt2]
        congr 1
        exact (List.getElem?_eq_some_iff.mp hd2).2
      rw [hdrop2] at ev6
      obtain ⟨⟨r, env7⟩, g1, g2⟩ := rbind (show (dcTurn (fun e => .ok (true, e)) gk gv t2 (tgs t2) d2 env6 >>= _) = _ from ev6)
      obtain ⟨go2, yl2⟩ := (it2 i').2 d2 hd2
      refine .inr ⟨go2, Pw (i' + 1), fun H' q => ⟨ds2.length - (i' + 1), by omega, rfl, hlt2, q⟩, fun x2 H7 hy2 => ?_⟩
      obtain ⟨sm2, dx2⟩ := yl2 x2 H7 hy2
      obtain ⟨ef, g3, g4⟩ := rbind (show (Rs.of (setT env6 t2 d2) >>= _) = _ from g1)
      obtain ⟨⟨y, eg⟩, g5, g6⟩ := rbind (show (gk ef >>= _) = _ from g4)
      obtain ⟨⟨y2, eh⟩, g7, g8⟩ := rbind g6
      obtain ⟨ei, g9, g10⟩ := rbind g8
      cases g10
      have g9 := rof g9
      obtain ⟨x1, x2', x3⟩ := wipeE_spec g9
      refine ⟨C3, fW.trans eW, env6, F6, d2, ef, RR6.same sm2, by rw [fW, fZ]; exact dx2, rof g3, fun σ8 F8 R8 st8 l8 o8 => ?_⟩
      have w8 : L2.wipe σ8 (tgs t2) = L2.wipe σ4 (tgs t2) := by
        rw [← ww2]
        refine wipe_eq l8 fun j hj => o8 j ⟨fun e => hj (tgs_mem.mpr (.inl e)), fun is e z => hj (tgs_mem.mpr (.inr ⟨is, e, z⟩))⟩
      have lef : ef.length = env6.length := by rw [← R8.len, l8, RR6.len]
      have g2 : (if keyOk y && decide (acc6.length < sizeLine) then dcGo (dcTurn (fun e => .ok (true, e)) gk gv t2 (tgs t2)) (ds2.drop (i' + 1)) (putD acc6 y y2) env7 else .bad) = .ok (acc3, ed) := g2
      by_cases hk : (keyOk y && decide (acc6.length < sizeLine)) = true
      · rw [if_pos hk] at g2
        rw [Bool.and_eq_true] at hk
        refine ⟨w8, C3, fW.trans eW, ef, F8, R8, y, eg, g5, fun v H9 F9 R9 st9 dn => ⟨C3, fW.trans eW, eg, F9, R9, y2, eh, g7, fun v2 H10 F10 R10 st10 dn2 => ?_⟩⟩
        have s10 : Step H6 (Om F6) H10 (Om F10) := (Step.same sm2).trans (st8.trans (st9.trans st10))
        have leg : eg.length = env6.length := by rw [← R9.len, R8.len, lef]
        have leh : eh.length = env6.length := by rw [← R10.len, R9.len, leg]
        have hD10 := s10.keep D _ hD6 (fun ⟨j, z⟩ => RR6.apart j D z hDZ3)
        have Rw := R10.wipe g9
        rw [w8] at Rw
        have zz : C3.Z = (C.more [D]).Z := fZ.trans eZ
        have dl10 : DenKV C.W H10 (Th F10 (C.more [D]).Z) ks6 acc6 := dl6.step (by rw [← zz]; exact s10.plus C3.Z)
        have dk10 : Den C.W H10 (Th F10 (C.more [D]).Z) v y := by
          have := dn.step (st10.plus C3.Z)
          rw [fW, eW, zz] at this
          exact this
        have dv10 : Den C.W H10 (Th F10 (C.more [D]).Z) v2 y2 := by
          rw [fW, eW, zz] at dn2
          exact dn2
        obtain ⟨kk, hkk, hdep, b, rfl⟩ := keyOk_spec hk.1 dk10
        have lacc := dl10.length
        have hl3 := of_decide_eq_true hk.2
        refine ⟨ks6, b, kk, _, acc6, y, hD10, by omega, rfl, dk10, hkk, hdep, dl10, env7, F10, putD acc6 y y2, putH ks6 kk b v2, Rw.poke hDZ3 hDL3 hD10 (fun _ z => by cases z) (fun _ _ z => by cases z), (SS6.trans s10).poke hD hD10 (fun _ z => by cases z) (fun _ _ z => by cases z), ?_, upd_same, ?_, fun v hv => (x1 v hv).2, by rw [x3, leh, elen6], g2⟩
        · have q : Step H6 (Th F6 C2.Z) H10 (Th F10 C2.Z) := s10.plus C2.Z
          exact (T6.trans q).trans (Step.pokeIn (.inr hDZ) hD10 (fun _ z => by cases z) (fun _ _ z => by cases z))
        · exact (dl10.put dk10 hkk hdep dv10).step (Step.pokeIn (.inr (.inr List.mem_cons_self)) hD10 (fun _ z => by cases z) (fun _ _ z => by cases z))
      · rw [if_neg hk] at g2; cases g2
end
end VE
/-! VE24: the last expressions at their places -/
namespace VE
open PySem PySem.Spec
                        PyProof.Rows L2

section
variable {X : Cx} {C : RC}
theorem at_dc2 (f : Fit X C) (hu : X.A.units + 66 < cLine) (hkd : X.env.scope.kind = .function) {kx vx t0 i0 t1 i1 : Expr} {scope : Scope} {own : List (Str × Nat)} {pos : Pos} {t t2 : Tg} {gs gs2 : SrcF} {gk gv : ValF}
    (hi : PI X t0 i0 (tSrc C gs)) (ok : BlkOk X.N X.env.scope scope own)
    (hg : ∀ (s : Shared) (H : Hp) (Cc : Addr) (cl : List (Str × Addr)) (fp : List Addr) (C' : RC), C'.W = C.W → PG (X.blk s H scope (compEnvC scope cl Cc X.env) fp) t0 (tTg C' t))
    (hi2 : ∀ (s : Shared) (H : Hp) (Cc : Addr) (cl : List (Str × Addr)) (fp : List Addr) (C' : RC), C'.W = C.W → PI (X.blk s H scope (compEnvC scope cl Cc X.env) fp) t1 i1 (tSrc C' gs2))
    (hg2 : ∀ (s : Shared) (H : Hp) (Cc : Addr) (cl : List (Str × Addr)) (fp : List Addr) (C' : RC), C'.W = C.W → PG (X.blk s H scope (compEnvC scope cl Cc X.env) fp) t1 (tTg C' t2))
    (hk : ∀ (s : Shared) (H : Hp) (Cc : Addr) (cl : List (Str × Addr)) (fp : List Addr) (C' : RC), C'.W = C.W → PE (X.blk s H scope (compEnvC scope cl Cc X.env) fp) kx (tV C' gk))
    (hv : ∀ (s : Shared) (H : Hp) (Cc : Addr) (cl : List (Str × Addr)) (fp : List Addr) (C' : RC), C'.W = C.W → PE (X.blk s H scope (compEnvC scope cl Cc X.env) fp) vx (tV C' gv))
    (hs : ∀ x, foldedSetIterable i0 X.env x = pure x) (hs2 : ∀ env x, foldedSetIterable i1 env x = pure x) (htv : ∀ j ∈ tgs t, j ∈ own.map (·.2)) (htv2 : ∀ j ∈ tgs t2, j ∈ own.map (·.2)) :
    AtP X (.DictComp kx vx [⟨t0, i0, [], 0⟩, ⟨t1, i1, [], 0⟩] scope pos) (tN C (dc2E gs gs2 gk gv t t2 (own.map (·.2)))) :=
  AtP.imp (at_blk f hkd hi ok hs (fun s H Cc cl fp => pg_any (hg s H Cc cl fp)) (fun s H Cc cl fp D => pb2 f hu htv2 (pi_any (hi2 s H Cc cl fp)) (pg_any (hg2 s H Cc cl fp)) (pe_any (hk s H Cc cl fp)) (pe_any (hv s H Cc cl fp)))
    fun R it D env J turn n s h => loop2 hs2 J turn n s h) (rn_dc2 htv htv2)

/-- a def's name as a value -/
theorem pe_fn {nm : Str} {fa : Addr} {pos : Pos} (hg : Gl X nm) (hm : X.mg nm = some (.ref fa)) (hdb : (nm == ("__debug__" : Str)) = false) : PE X (.Name nm pos) (tC (.ref fa)) :=
  ⟨fun pins s σ H Q I h => ld_glob I hg hm ⟨.ref fa, H, I, rfl, h⟩ hdb⟩
theorem rn_srtk {CX : CXT} {k : Nat} {rn : Runner} {nm : Str} {id : Nat} {ea : Expr} {g : Env → Rs (Opd × Env)} {p p2 p3 pos : Pos} (f : Fit X C) (ck : CallOk X CX k C.W rn nm id) (hr : Room (k + 1) X.A) (hnx : NoX CX) (hu : X.A.units + 66 < cLine)
    (hgs : Gl X "sorted") (hms : X.mg "sorted" = none) (hg : Gl X nm) (hdb : (nm == ("__debug__" : Str)) = false) (hs : star0 ea = true) (ha : PE X ea (tX C g)) :
    PE X (.Call (.Name "sorted" p) [ea] [⟨some "key", .Name nm p2, p3⟩] pos) (tN C fun env => do
      let (x, env1) ← g env
      match (deref env1 x).bind seqD with
      | some ds => do
        let ps ← keysOf rn id ds
        if sortB (ps.map (·.2)) then .ok (.lst (sortBy ps), env1) else .bad
      | _ => .bad) := by
  obtain ⟨fa, fd, ps, hm, hk, F, hb⟩ := ck
  refine PE.imp (pe_callBK (rk_sort (nm := nm) f F hb hr hnx hu) hgs hms PyProof.Rows.boot_sorted (pa_cons ha pa_nil (star_of hs [] _)) (pk_cons (pe_fn hg hm hdb) pk_nil) (by decide) (by decide) (by rw [star_of hs]; rfl) (by rw [star_of hs]; rfl)) fun σ H Q ⟨env, F0, R, o, env', hg, q⟩ => ?_
  obtain ⟨⟨x, env1⟩, h1, h2⟩ := rbind (show (g env >>= _) = _ from hg)
  refine ⟨env, F0, R, x, env1, h1, fun v H1 F1 R1 s1 o1 => ?_⟩
  cases q1 : deref env1 x with
  | none => simp only [q1] at h2; cases h2
  | some d =>
    cases q2 : seqD d with
    | none =>
      simp only [q1, Option.bind_some, q2] at h2
      cases h2
    | some ds =>
      simp only [q1, Option.bind_some, q2] at h2
      obtain ⟨ps', h3, h4⟩ := rbind h2
      by_cases hsb : sortB (ps'.map (·.2)) = true
      · rw [if_pos hsb] at h4
        cases h4
        exact ⟨v, rfl, rfl, σ, env', F1, d, ds, ps', R1, o1.lk R1 q1, q2, h3, hsb, fun a H' F' R' s' ow hz => q a [a] H' F' R' (s1.trans s') ow fun b hb => s1.dom b (hz b hb)⟩
      · rw [if_neg hsb] at h4; cases h4

theorem DenKL.vals {W : Wd} {H : Hp} {Z Z' : Addr → Prop} (hz : ∀ a, Z' a → Z a) : ∀ {ks : List (NestedKey × Addr × V)} {kvs : List (D × List D)} {bs : List Addr}, DenKL W H Z ks kvs bs → (∀ b ∈ bs, ¬ Z' b) → DenL W H Z' (ks.map fun q => q.2.2) (kvs.map fun p => .list p.2)
  | _, _, _, .nil, _ => .nil
  | _, _, _, .cons a n q c l t, h => .cons (.lst c (h _ List.mem_cons_self) (l.less hz)) (DenKL.vals hz t fun b hb => h b (List.mem_cons_of_mem _ hb))
/-- list(own.values()) -/
theorem rn_vals {i : Nat} {e : Expr} {p apos cpos pos : Pos} (f : Fit X C) (he : PE X e (tVar i)) (hb : attributeBase e "values" X.env (eval e X.env) = eval e X.env) (hl : (apos.endLine == cpos.line) = true) (hg : Gl X "list") (hm : X.mg "list" = none) :
    PE X (.Call (.Name "list" p) [.Call (.Attribute e "values" apos) [] [] cpos] [] pos) (tN C fun env => match env[i]? with
      | some (.own (.dil kvs) false) => .ok (.lst (kvs.map fun p => .list p.2), env.set i .no)
      | _ => .bad) := by
  refine PE.imp (pe_callTy cr_lvals hg hm PyProof.Rows.boot_list (pa_cons (pd_bm0 PySem.F.slot_dict_values PySem.F.type_dict_values mt_vals he hb hl) pa_nil (star_of rfl [] _)) (by decide) (by decide) (star_of rfl [] _) rfl) fun σ H Q ⟨env, F, R, o, env', hev, k⟩ => ?_
  cases q : env[i]? with
  | none => simp only [q] at hev; cases hev
  | some s =>
    simp only [q] at hev
    cases s <;> first | (cases hev; done) | skip
    rename_i o2 pn
    cases o2 <;> first | (cases hev; done) | skip
    cases pn <;> first | (cases hev; done) | skip
    rename_i kvs
    cases hev
    obtain ⟨a, e1, ks, bs, e2, nd, ha, l⟩ := R.sl i _ q
    refine ⟨.ref a, e1, ⟨C.W, a, ks, rfl, ha⟩, C.W, a, ks, rfl, rfl, ha, fun r hr => ⟨f.calm, C.W, r, a, ks, rfl, upd_same, by rw [upd_ne (ne_of_none ha hr)]; exact ha, f.P, f.w, fun pp hp => ?_⟩⟩
    have Rn := (R.forget q).1
    have sn := (R.forget q).2
    have hp0 : H pp = none := by
      by_cases e : pp = r
      · rw [e, upd_same] at hp; cases hp
      · rw [upd_ne e] at hp; exact hp
    have sm : Same H (upd (upd H r (vwO r a)) pp (.lst (ks.map fun q => q.2.2))) := fun b u e => by
      rw [upd_ne (ne_of_none e hp0), upd_ne (ne_of_none e hr)]; exact e
    have Rg : Rel (C.more [pp]) _ σ _ _ := Rn.grow sm (fun b hb => by rw [List.mem_singleton.mp hb]; exact hp0) fun b hb => by rw [List.mem_singleton.mp hb, upd_same]; exact nofun
    refine k pp [pp] _ _ Rg (sn.trans (Step.same sm)) ⟨rfl, _, upd_same, ?_⟩ fun b hb => by
      rw [List.mem_singleton.mp hb]
      exact hp0
    have base : DenL C.W H (Th (upF F i []) C.Z) (ks.map fun q => q.2.2) (kvs.map fun p => .list p.2) := DenKL.vals (fun x h => h.imp om_upF_nil id) l fun b hb h => by
      have hbi : b ∈ F i := by rw [e2]; exact List.mem_cons_of_mem _ hb
      rcases h with h | h
      · rcases om_upF h with h | ⟨j, hj, h⟩
        · cases h
        · exact hj (R.far j i b h hbi)
      · exact R.apart i b hbi h
    exact base.step (Step.more hp0 sm)
end
end VE
/-! VE25: statements -/
namespace VE
open PySem PySem.Spec
                        PyProof.Rows L2

/-- where a statement goes on -/
def FlP (C : RC) (H : Hp) (F : Nat → List Addr) (D : Ends) : Flow → Prop
  | .nx env' => ∀ σ' H' F', Rel C H' σ' env' F' → Step H (Om F) H' (Om F') → D.nx σ' H'
  | .bk env' => ∀ σ' H' F', Rel C H' σ' env' F' → Step H (Om F) H' (Om F') → D.bk σ' H'
  | .ct env' => ∀ σ' H' F', Rel C H' σ' env' F' → Step H (Om F) H' (Om F') → D.ct σ' H'
  | .rt r env' => ∀ v σ' H' F', RetP C H F σ' env' H' F' v r → D.rt v H'
def tSt (C : RC) (g : Env → Rs Flow) : TS := fun D σ H => ∃ env F, Rel C H σ env F ∧ ∃ fl, g env = .ok fl ∧ FlP C H F D fl
theorem RetP.from {C : RC} {H H1 : Hp} {F F1 : Nat → List Addr} {σ : VE.St} {outs : List Sl} {H' : Hp} {F' : Nat → List Addr} {v : V} {r : Ret} (s : Step H (Om F) H1 (Om F1)) (h : RetP C H1 F1 σ outs H' F' v r) : RetP C H F σ outs H' F' v r := by
  cases r with
  | val d => exact ⟨h.1, s.trans h.2.1, h.2.2⟩
  | own o => obtain ⟨a, fp, e, R, st, ow, hz⟩ := h; exact ⟨a, fp, e, R, s.trans st, ow, hz⟩
theorem FlP.from {C : RC} {H H1 : Hp} {F F1 : Nat → List Addr} {D : Ends} {fl : Flow} (s : Step H (Om F) H1 (Om F1)) (h : FlP C H F D fl) : FlP C H1 F1 D fl := by
  cases fl with
  | nx env' => exact fun σ' H' F' R st => h σ' H' F' R (s.trans st)
  | bk env' => exact fun σ' H' F' R st => h σ' H' F' R (s.trans st)
  | ct env' => exact fun σ' H' F' R st => h σ' H' F' R (s.trans st)
  | rt r env' => exact fun v σ' H' F' p => h v σ' H' F' (p.from s)

section
variable {X : Cx} {C : RC} {e : Expr} {g : Env → Rs (Opd × Env)} {py pos : Pos} {y : Str} {i : Nat}

theorem st_asg (h : AtP X e (tX C g)) (hn : nameOk X.N X.env.scope X.fn i (.Name y py) = true) (hs : swOk X.env.scope y py e = true) :
    PS X (.Assign [.Name y py] e pos) (tSt C fun env => do let (d, env1) ← asV (g env); let env2 ← Rs.of (setT env1 (.nm i) d); .ok (.nx env2)) := PS.imp (h.ps i y py pos hn hs) fun D σ H ⟨env, F, R, fl, hg, k⟩ => by
  obtain ⟨⟨d, env1⟩, h1, h2⟩ := rbind (show (asV (g env) >>= _) = _ from hg)
  obtain ⟨env2, h3, h4⟩ := rbind h2
  cases h4
  obtain ⟨hf, rfl⟩ := setV_eq (show setV env1 i d = some env2 from rof h3)
  refine ⟨env, F, R, .d d, env1, asV_inv h1, fun v H1 F1 R1 s1 dn => ?_⟩
  obtain ⟨R2, s2⟩ := R1.setVal hf dn
  exact k _ _ _ R2 (s1.trans s2)
theorem st_asgT (f : Fit X C) {is : List Nat} {es : List Expr} {kk : Nat} {tpos : Pos} (h : PE X e (tX C g)) (ht : tgOk X.N X.env.scope X.fn (.tp is) (.Tuple es kk tpos) = true) (he : noComp e = true) (he2 : (match e with | .Tuple .. => false | _ => true) = true) :
    PS X (.Assign [.Tuple es kk tpos] e pos) (tSt C fun env => do let (d, env1) ← asV (g env); let env2 ← Rs.of (setT env1 (.tp is) d); .ok (.nx env2)) := PS.imp (ps_asg h (pg_tg (C := C) f ht) (by cases e <;> first | rfl | cases he) (by cases e <;> first | rfl | cases he2)) fun D σ H ⟨env, F, R, fl, hg, k⟩ => by
  obtain ⟨⟨d, env1⟩, h1, h2⟩ := rbind (show (asV (g env) >>= _) = _ from hg)
  obtain ⟨env2, h3, h4⟩ := rbind h2
  cases h4
  exact ⟨env, F, R, .d d, env1, asV_inv h1, fun v H1 F1 R1 s1 dn => ⟨env1, F1, d, env2, R1, dn, rof h3, fun σ' F' R' s' _ _ => k _ _ _ R' (s1.trans s')⟩⟩
theorem setO_eq {env env' : Env} {o : O} (h : setO env i o = some env') : FreeSl env[i]? ∧ env' = env.set i (.own o false) := by
  unfold setO at h
  cases q : env[i]? with
  | none => rw [q] at h; cases h
  | some s =>
    rw [q] at h
    cases s with
    | no => cases h; exact ⟨trivial, rfl⟩
    | val d => cases h; exact ⟨trivial, rfl⟩
    | lent ds => cases h
    | scr ns => cases h
    | own u p => cases p with
      | false => cases h; exact ⟨trivial, rfl⟩
      | true => cases h
theorem st_own {gn : Env → Rs (O × Env)} (h : AtP X e (tN C gn)) (hn : nameOk X.N X.env.scope X.fn i (.Name y py) = true) (hs : swOk X.env.scope y py e = true) :
    PS X (.Assign [.Name y py] e pos) (tSt C fun env => do let (o, env1) ← gn env; let env2 ← Rs.of (setO env1 i o); .ok (.nx env2)) := PS.imp (h.ps i y py pos hn hs) fun D σ H ⟨env, F, R, fl, hg, k⟩ => by
  obtain ⟨⟨o, env1⟩, h1, h2⟩ := rbind (show (gn env >>= _) = _ from hg)
  obtain ⟨env2, h3, h4⟩ := rbind h2
  cases h4
  obtain ⟨hf, rfl⟩ := setO_eq (rof h3)
  refine ⟨env, F, R, o, env1, h1, fun a fp H1 F1 R1 s1 ow hz => ?_⟩
  have R2 := R1.setOwn hf ow fun b hb => ⟨fun z => R.zin b z (hz b hb), fun z => R.bin b z (hz b hb)⟩
  refine k _ _ _ R2 ⟨s1.keep, s1.tups, fun b hb => ?_, s1.dom, s1.frz⟩
  rcases om_upF hb with hb | ⟨j, _, hb⟩
  · exact .inr (hz b hb)
  · exact s1.news b ⟨j, hb⟩
/-- own[ix] = e -/
theorem st_setIx {et ei : Expr} {gi : Env → Rs (Opd × Env)} {tpos : Pos} (ht : PE X et (tVar i)) (hi : PE X ei (tX C gi)) (he : PE X e (tX C g)) (hn : noComp e = true) (hix : (match ei with | .Slice .. => false | _ => true) = true) :
    PS X (.Assign [.Subscript et ei tpos] e pos) (tSt C fun env => do
      let (d, env1) ← asV (g env)
      if bnd env1[i]? then do
        let (k, env2) ← asV (gi env1)
        match k, env2[i]? with
        | .int j, some (.own (.lst ds) p) => if 0 ≤ j ∧ j < ds.length then .ok (.nx (env2.set i (.own (.lst (ds.set j.toNat d)) p))) else .bad
        | _, _ => .bad
      else .bad) := PS.imp (ps_asg he (pg_sub ht hi set_list (by cases ei <;> first | (intro _; rfl) | cases hix)) (by cases e <;> first | rfl | cases hn) (by cases e <;> rfl)) fun D σ H ⟨env, F, R, fl, hg, k⟩ => by
  obtain ⟨⟨d, env1⟩, h1, h2⟩ := rbind (show (asV (g env) >>= _) = _ from hg)
  have h2 : (if bnd env1[i]? then (asV (gi env1) >>= fun x => match x with | (k, env2) => (match k, env2[i]? with
        | .int j, some (.own (.lst ds) p) => if 0 ≤ j ∧ j < ds.length then Rs.ok (Flow.nx (env2.set i (.own (.lst (ds.set j.toNat d)) p))) else .bad
        | _, _ => .bad)) else .bad) = .ok fl := h2
  by_cases hbn : bnd env1[i]? = true
  · rw [if_pos hbn] at h2
    obtain ⟨⟨kd, env2⟩, h3, h4⟩ := rbind h2
    cases kd <;> first | (cases h4; done) | skip
    rename_i j
    cases q : env2[i]? with
    | none => simp only [q] at h4; cases h4
    | some s =>
      simp only [q] at h4
      cases s <;> first | (cases h4; done) | skip
      rename_i o pn
      cases o <;> first | (cases h4; done) | skip
      rename_i ds
      have h4 : (if 0 ≤ j ∧ j < ds.length then Rs.ok (Flow.nx (env2.set i (.own (.lst (ds.set j.toNat d)) pn))) else .bad) = .ok fl := h4
      by_cases hj : 0 ≤ j ∧ j < ds.length
      · rw [if_pos hj] at h4
        cases h4
        refine ⟨env, F, R, .d d, env1, asV_inv h1, fun v H1 F1 R1 s1 dn => ?_⟩
        obtain ⟨w, hw⟩ := bnd_val R1 hbn
        refine ⟨w, hw, env1, F1, R1, _, env2, asV_inv h3, fun u H2 F2 R2 s2 o2 => ?_⟩
        have o2 : Den C.W H2 (Th F2 C.Z) u (.int j) := o2
        cases o2
        obtain ⟨a, xs, e1, ha, l, wr⟩ := R2.write q
        rw [hw] at e1
        cases e1
        have hx : ixN xs.length j = some j.toNat := by
          rw [l.length]
          unfold ixN
          rw [if_pos hj.1, if_pos hj.2]
        obtain ⟨R3, s3⟩ := wr _ _ (l.set j.toNat (Den.step (s2.plus C.Z) (show Den C.W H1 (Th F1 C.Z) v d from dn)))
        exact ⟨a, xs, j, j.toNat, rfl, rfl, ha, hx, k _ _ _ R3 ((s1.trans s2).trans s3)⟩
      · rw [if_neg hj] at h4; cases h4
  · rw [if_neg hbn] at h2; cases h2
/-- own.append(e) -/
theorem st_app {et : Expr} {apos cpos : Pos} (ht : PE X et (tVar i)) (he : PE X e (tX C g)) (hs : star0 e = true) (hb : attributeBase et "append" X.env (eval et X.env) = eval et X.env) (hl : (apos.endLine == cpos.line) = true) :
    PS X (.Expr (.Call (.Attribute et "append" apos) [e] [] cpos) pos) (tSt C fun env => if isOL env[i]? then do
      let (d, env1) ← asV (g env)
      match env1[i]? with
      | some (.own (.lst ds) p) => if ds.length < sizeLine then .ok (.nx (env1.set i (.own (.lst (ds ++ [d])) p))) else .bad
      | _ => .bad
    else .bad) := by
  refine PS.imp (ps_expr (pe_bm PySem.F.plainAttrs_list PySem.F.slot_list_append PySem.F.type_list_append (r := rAppend) (fun pins s σ H x xs v us Q I rx rxs h => mt_append pins s σ H x xs v us Q I rx rxs h) ht (pa_cons he pa_nil (star_of hs [] _)) hb (by rw [star_of hs]; rfl) hl (star_of hs [] _) rfl) rfl) fun D σ H ⟨env, F, R, fl, hg, k⟩ => ?_
  have hg : (if isOL env[i]? then (asV (g env) >>= fun x => match x with | (d, env1) => (match env1[i]? with
      | some (.own (.lst ds) p) => if ds.length < sizeLine then Rs.ok (Flow.nx (env1.set i (.own (.lst (ds ++ [d])) p))) else .bad
      | _ => .bad)) else .bad) = .ok fl := hg
  by_cases ho : isOL env[i]? = true
  · rw [if_pos ho] at hg
    obtain ⟨⟨d, env1⟩, h1, h2⟩ := rbind hg
    have r0 : ∃ a xs, σ[i]? = some (some (.ref a)) ∧ H a = some (.lst xs) := by
      cases q : env[i]? with
      | none => rw [q] at ho; cases ho
      | some s =>
        rw [q] at ho
        cases s <;> first | (cases ho; done) | skip
        rename_i o pn
        cases o <;> first | (cases ho; done) | skip
        obtain ⟨a, xs, e1, ha, _⟩ := R.write q
        exact ⟨a, xs, e1, ha⟩
    obtain ⟨a, xs0, ea, ha0⟩ := r0
    refine ⟨.ref a, ea, .inl ⟨rfl, xs0, .inl (.inl ha0)⟩, env, F, R, .d d, env1, asV_inv h1, fun v H1 F1 R1 s1 dn => ?_⟩
    cases q : env1[i]? with
    | none => simp only [q] at h2; cases h2
    | some s =>
      simp only [q] at h2
      cases s <;> first | (cases h2; done) | skip
      rename_i o pn
      cases o <;> first | (cases h2; done) | skip
      rename_i ds
      have h2 : (if ds.length < sizeLine then Rs.ok (Flow.nx (env1.set i (.own (.lst (ds ++ [d])) pn))) else .bad) = .ok fl := h2
      by_cases hz : ds.length < sizeLine
      · rw [if_pos hz] at h2
        cases h2
        obtain ⟨a', xs, e1, ha, l, wr⟩ := R1.write q
        rw [ea] at e1
        cases e1
        obtain ⟨R3, s3⟩ := wr _ _ (l.append (.cons (show Den C.W H1 (Th F1 C.Z) v d from dn) .nil))
        exact ⟨a, xs, v, rfl, rfl, ha, by rw [l.length]; exact hz, k _ _ _ R3 (s1.trans s3)⟩
      · rw [if_neg hz] at h2; cases h2
  · rw [if_neg ho] at hg; cases hg
/-- own.reverse() -/
theorem st_rev {et : Expr} {apos cpos : Pos} (ht : PE X et (tVar i)) (hb : attributeBase et "reverse" X.env (eval et X.env) = eval et X.env) (hl : (apos.endLine == cpos.line) = true) :
    PS X (.Expr (.Call (.Attribute et "reverse" apos) [] [] cpos) pos) (tSt C fun env => match env[i]? with
      | some (.own (.lst ds) p) => .ok (.nx (env.set i (.own (.lst ds.reverse) p)))
      | _ => .bad) := by
  refine PS.imp (ps_expr (pe_bm0 PySem.F.plainAttrs_list PySem.F.slot_list_reverse PySem.F.type_list_reverse (r := rReverse) (fun pins s σ H x xs v us Q I rx rxs h => mt_reverse pins s σ H x xs v us Q I rx rxs h) ht hb hl) rfl) fun D σ H ⟨env, F, R, fl, hg, k⟩ => ?_
  cases q : env[i]? with
  | none => simp only [q] at hg; cases hg
  | some s =>
    simp only [q] at hg
    cases s <;> first | (cases hg; done) | skip
    rename_i o pn
    cases o <;> first | (cases hg; done) | skip
    rename_i ds
    cases hg
    obtain ⟨a, xs, e1, ha, l, wr⟩ := R.write q
    obtain ⟨R3, s3⟩ := wr _ _ l.reverse
    exact ⟨.ref a, e1, .inl ⟨rfl, xs, .inl (.inl ha)⟩, a, xs, rfl, rfl, ha, k _ _ _ R3 s3⟩

/-! ### control -/
theorem st_ret (h : PE X e (tX C g)) : PS X (.Return (some e) pos) (tSt C fun env => do let (d, env1) ← asV (g env); .ok (.rt (.val d) env1)) := PS.imp (ps_ret h) fun D σ H ⟨env, F, R, fl, hg, k⟩ => by
  obtain ⟨⟨d, env1⟩, h1, h2⟩ := rbind (show (asV (g env) >>= _) = _ from hg)
  cases h2
  exact ⟨env, F, R, .d d, env1, asV_inv h1, fun v H1 F1 R1 s1 dn => k v σ H1 F1 ⟨R1, s1, dn⟩⟩
theorem st_ife {ec : Expr} {a b : List Stmt} {ga gb : Env → Rs Flow} (hc : PT X ec (tTt C fun env => asT (g env))) (ha : PSs X a (tSt C ga)) (hb : PSs X b (tSt C gb)) :
    PS X (.If ec a b pos) (tSt C fun env => do let (k, env1) ← asT (g env); if k then ga env1 else gb env1) := PS.imp (ps_if hc ha hb) fun D σ H ⟨env, F, R, fl, hg, k⟩ => by
  obtain ⟨⟨c, env1⟩, h1, h2⟩ := rbind (show (asT (g env) >>= _) = _ from hg)
  refine ⟨env, F, R, c, env1, h1, fun H1 F1 R1 s1 => ?_⟩
  cases c with
  | true => exact ⟨env1, F1, R1, fl, h2, k.from s1⟩
  | false => exact ⟨env1, F1, R1, fl, h2, k.from s1⟩
theorem st_nil : PSs X [] (tSt C fun env => .ok (.nx env)) := PSs.imp pss_nil fun D σ H ⟨env, F, R, fl, hg, k⟩ => by
  cases hg
  exact k σ H F R Step.refl
theorem st_cons {st : Stmt} {sts : List Stmt} {ga gb : Env → Rs Flow} (ha : PS X st (tSt C ga)) (hb : PSs X sts (tSt C gb)) : PSs X (st :: sts) (tSt C fun env => do match ← ga env with | .nx env1 => gb env1 | f => .ok f) := PSs.imp (pss_cons ha hb) fun D σ H ⟨env, F, R, fl, hg, k⟩ => by
  obtain ⟨f1, h1, h2⟩ := rbind (show (ga env >>= _) = _ from hg)
  refine ⟨env, F, R, f1, h1, ?_⟩
  cases f1 with
  | nx env1 => exact fun σ' H' F' R' s' => ⟨env1, F', R', fl, h2, k.from s'⟩
  | bk env1 => cases h2; exact k
  | ct env1 => cases h2; exact k
  | rt r env1 => cases h2; exact k
/-- what a slot owns is frozen, ahead of the rest -/
theorem st_frz {sts : List Stmt} {gb : Env → Rs Flow} (hb : PSs X sts (tSt C gb)) : PSs X sts (tSt C fun env => do
    match ← (match env[i]? with
      | some (.own o false) => Rs.ok (Flow.nx (env.set i (.val o.fr)))
      | some (.val _) => .ok (.nx env)
      | _ => .bad) with
    | .nx env1 => gb env1
    | f => .ok f) := PSs.imp hb fun D σ H ⟨env, F, R, fl, hg, k⟩ => by
  obtain ⟨f1, h1, h2⟩ := rbind (show ((match env[i]? with
      | some (.own o false) => Rs.ok (Flow.nx (env.set i (.val o.fr)))
      | some (.val _) => .ok (.nx env)
      | _ => .bad) >>= _) = _ from hg)
  cases q : env[i]? with
  | none => simp only [q] at h1; cases h1
  | some s =>
    simp only [q] at h1
    cases s <;> first | (cases h1; done) | skip
    · cases h1
      exact ⟨env, F, R, fl, h2, k⟩
    · rename_i o pn
      cases pn <;> first | (cases h1; done) | skip
      cases h1
      obtain ⟨R2, s2⟩ := R.freeze q
      exact ⟨_, _, R2, fl, h2, k.from s2⟩
end
end VE
/-! VE26: for; an own thing is handed back -/
namespace VE
open PySem PySem.Spec
                        PyProof.Rows L2

/-- what stood at the entry and is owned is owned by a slot that keeps its address -/
def GP (C : RC) : Prop := ∀ i b, b ∈ C.G i → ∃ a, (i, a) ∈ C.pins
def anyS (P : RC → Prop) (t : RC → TS) : TS := fun D σ H => ∃ C' : RC, P C' ∧ t C' D σ H
theorem pss_any {X : Cx} {es : List Stmt} {P : RC → Prop} {t : RC → TS} (h : ∀ C' : RC, P C' → PSs X es (t C')) : PSs X es (anyS P t) := ⟨fun pins s σ H D I ⟨C', hW, q⟩ => (h C' hW).run pins s σ H D I q⟩
section
variable {X : Cx} {C : RC} {H H' : Hp} {σ σ' : VE.St} {env env' : Env} {F F' : Nat → List Addr}
/-- the slot that is lent keeps its address -/
theorem pin_lent {C2 : RC} {l : Option Nat} (R : Rel C H σ env F) (hl : ∀ i, l = some i → ∃ es, (∃ p, env[i]? = some (.own (.lst es) p)) ∨ env[i]? = some (.lent es)) (R2 : Rel C2 H σ (VE.lend env l) F) (hln : ∀ i, l = some i → ∃ es, (i, es) ∈ C2.lents) :
    ∃ C3 : RC, C3.W = C2.W ∧ C3.Z = C2.Z ∧ C3.G = C2.G ∧ (∀ p ∈ C2.pins, p ∈ C3.pins) ∧ Rel C3 H σ (VE.lend env l) F ∧ ∀ H' (σ' : VE.St) env' F', Rel C3 H' σ' env' F' → Rel C2 H' σ' env' F' ∧ ∀ i, l = some i → σ'[i]? = σ[i]? := by
  cases l with
  | none => exact ⟨C2, rfl, rfl, rfl, fun _ h => h, R2, fun H' σ' env' F' R' => ⟨R', fun i e => by cases e⟩⟩
  | some i =>
    obtain ⟨es, he⟩ := hl i rfl
    have ha : ∃ a, σ[i]? = some (some (.ref a)) := by
      rcases he with ⟨p, he⟩ | he
      · obtain ⟨a, e, _⟩ := R.sl i _ he; exact ⟨a, e⟩
      · obtain ⟨a, xs, e, _⟩ := R.sl i _ he; exact ⟨a, e⟩
    obtain ⟨a, ha⟩ := ha
    obtain ⟨es2, hm⟩ := hln i rfl
    have e2 := R2.ln _ hm
    refine ⟨{ C2 with pins := (i, a) :: C2.pins }, rfl, rfl, rfl, fun _ h => List.mem_cons_of_mem _ h, ⟨R2.len, R2.sl, R2.far, R2.apart, R2.zin, R2.bin, R2.out, fun p hp => ?_, R2.young, R2.ln⟩, fun H' σ' env' F' R' => ⟨⟨R'.len, R'.sl, R'.far, R'.apart, R'.zin, R'.bin, R'.out, fun p hp => R'.pin p (List.mem_cons_of_mem _ hp), R'.young, R'.ln⟩, fun j e => ?_⟩⟩
    · rcases List.mem_cons.mp
                            hp with rfl | hp
      · refine ⟨ha, ?_⟩
        show PinSl (VE.lend env (some i))[i]?
        rw [e2]; trivial
      · exact R2.pin p hp
    · cases e
      rw [ha, (R'.pin (i, a) List.mem_cons_self).1]

theorem lend_G {l : Option Nat} (R : Rel C H σ env F) (hl : ∀ i, l = some i → ∃ es, (∃ p, env[i]? = some (.own (.lst es) p)) ∨ env[i]? = some (.lent es)) :
    ∃ C2 : RC, C2.W = C.W ∧ C2.Z = C.Z ∧ C2.G = C.G ∧ (∀ p ∈ C.pins, p ∈ C2.pins) ∧ Rel C2 H σ (VE.lend env l) F ∧
      (∀ H2 (σ2 : VE.St) env2 F2, Rel C2 H2 σ2 env2 F2 → Lent C.W H2 (Th F2 C.Z) σ env l) ∧ ∀ H2 (σ2 : VE.St) env2 F2, Rel C2 H2 σ2 env2 F2 → Rel C H2 σ2 (unlend env env2 l) F2 := by
  cases l with
  | none => exact ⟨C, rfl, rfl, rfl, fun _ h => h, R, fun H2 σ2 env2 F2 R2 i ds z => (by cases z), fun H2 σ2 env2 F2 R2 => R2⟩
  | some i =>
    obtain ⟨es, he⟩ := hl i rfl
    have RL : Rel (C.lend i es) H σ (VE.lend env (some i)) F := by
      rcases he with ⟨p, he⟩ | he
      · simp only [VE.lend, he]
        exact R.lend (.inl ⟨p, he⟩)
      · have q := R.lend (.inr he)
        simp only [VE.lend, he]
        obtain ⟨hi, e2⟩ := List.getElem?_eq_some_iff.mp he
        rw [← e2, List.set_getElem_self] at q
        exact q
    obtain ⟨C3, c1, c2, c3, c4, R3, down⟩ := pin_lent R hl RL fun j z => ⟨es, by cases z; exact List.mem_cons_self⟩
    refine ⟨C3, c1, c2, c3, fun p hp => c4 p hp, R3, fun H2 σ2 env2 F2 R2 j ds z ho => ?_, fun H2 σ2 env2 F2 R2 => ?_⟩
    · obtain ⟨R2, hs⟩ := down H2 σ2 env2 F2 R2
      cases z
      have e2 := R2.ln (i, es) List.mem_cons_self
      obtain ⟨a, xs, h1, h2, h3, h4⟩ := R2.sl i _ e2
      rw [hs i rfl] at h1
      have ee : ds = es := by
        rcases ho with ⟨p, ho⟩ | ho <;> rcases he with ⟨p', he⟩ | he <;> rw [he] at ho <;> cases ho <;> rfl
      subst ee
      exact ⟨a, xs, h1, h3, h4⟩
    · obtain ⟨R2, hs⟩ := down H2 σ2 env2 F2 R2
      have hsl : ∃ s, env[i]? = some s ∧ ((∃ p, s = .own (.lst es) p) ∨ s = .lent es) := by
        rcases he with ⟨p, he⟩ | he
        · exact ⟨_, he, .inl ⟨p, rfl⟩⟩
        · exact ⟨_, he, .inr rfl⟩
      obtain ⟨s, es1, es2⟩ := hsl
      unfold unlend
      simp only [es1]
      refine R2.unlend ?_
      rcases es2 with ⟨p, rfl⟩ | rfl
      · refine .inl ⟨p, rfl, ?_, fun q hq e => ?_, ?_⟩
        · have e2 := R2.ln (i, es) List.mem_cons_self
          obtain ⟨a, xs, h1, h2, _⟩ := R2.sl i _ e2
          obtain ⟨a0, g1, g2, _⟩ := R.sl i _ es1
          rw [hs i rfl, g1] at h1
          cases h1
          rcases h2 with h2 | ⟨_, h2⟩
          · rw [h2]; exact nofun
          · exact absurd (C.lz _ h2) (R.apart i _ (by rw [g2]; exact List.mem_cons_self))
        · have z := R.ln q hq
          rw [e, es1] at z
          cases z
        · cases p with
          | true => exact .inl rfl
          | false =>
            refine .inr fun q hq e => ?_
            have z := (R.pin q hq).2
            rw [e, es1] at z
            exact z
      · exact .inr rfl
end
section
variable {X : Cx} {C : RC} {pos : Pos} {i : Nat}
/-- for .. in .. -/
theorem st_for (f : Fit X C) (gp : GP C) {tg iter : Expr} {body : List Stmt} {t : Tg} {gs : SrcF} {gb : Env → Rs Flow} (hi : PI X tg iter (tSrc C gs)) (hg : ∀ C' : RC, C'.W = C.W → PG X tg (tTg C' t))
    (hb : ∀ C' : RC, (C'.W = C.W ∧ GP C') → PSs X body (tSt C' gb)) (hs : ∀ x, foldedSetIterable iter X.env x = pure x) : PS X (.For tg iter body [] pos) (tSt C fun env => do
      let (ds, l, env1) ← gs env
      match ← forGo (fun d e => do
        let e1 ← Rs.of (setT e t d)
        gb e1) ds (lend env1 l) with
      | .nx env2 => .ok (.nx (unlend env1 env2 l))
      | .rt (.val d) env2 => .ok (.rt (.val d) (unlend env1 env2 l))
      | _ => .bad) := PS.imp (ps_for f.po f.calm hi (pg_any hg) (pss_any hb) hs) fun D σ H ⟨env, F, R, fl, hev, k⟩ => by
  obtain ⟨⟨ds, l, env1⟩, h1, h2⟩ := rbind (show (gs env >>= _) = _ from hev)
  obtain ⟨f2, h3, h4⟩ := rbind h2
  refine ⟨env, F, R, ds, l, env1, h1, fun J H1 F1 R1 s1 hlen hl hJ => ?_⟩
  obtain ⟨C2, eW, eZ, eG, eP, R2, lent, back⟩ := lend_G R1 hl
  have gp2 : GP C2 := fun j b hb => by
    rw [eG] at hb
    obtain ⟨a, ha⟩ := gp j b hb
    exact ⟨a, eP _ ha⟩
  let Nv : Nat → VE.St → Hp → Prop := fun i σ' H' => ∃ env2 F2, Rel C2 H' σ' env2 F2 ∧ Step H1 (Om F1) H' (Om F2) ∧ forGo (fun d e => do
        let e1 ← Rs.of (setT e t d)
        gb e1) (ds.drop i) env2 = .ok f2
  refine ⟨fun i m σ' H' => m = ds.length - i ∧ i ≤ ds.length ∧ Nv i σ' H', ⟨ds.length, by simp, Nat.zero_le _, _, F1, R2, Step.refl, by rw [List.drop_zero]; exact h3⟩, ?_⟩
  rintro i m σ2 H2 ⟨rfl, hi2, env2, F2, RR, SS, ev⟩
  have it := hJ H2 _ (SS.plus C.Z) (lent H2 σ2 env2 F2 RR)
  cases hd : ds[i]? with
  | none =>
    refine .inl ⟨(it i).1 hd, ?_⟩
    have hge := List.getElem?_eq_none_iff.mp hd
    rw [List.drop_of_length_le hge] at ev
    cases ev
    cases h4
    exact k σ2 H2 F2 (back H2 σ2 env2 F2 RR) (s1.trans SS)
  | some d =>
    have hlt := (List.getElem?_eq_some_iff.mp hd).1
    have hdrop : ds.drop i = d :: ds.drop (i + 1) := by
      rw [List.drop_eq_getElem_cons
                              hlt]
      congr 1
      exact (List.getElem?_eq_some_iff.mp
                              hd).2
    rw [hdrop] at ev
    obtain ⟨f3, e1, e2⟩ := rbind (show ((do let e1 ← Rs.of (setT env2 t d); gb e1) >>= _) = _ from ev)
    obtain ⟨ea, e3, e4⟩ := rbind (show (Rs.of (setT env2 t d) >>= _) = _ from e1)
    obtain ⟨go, yl⟩ := (it i).2 d hd
    refine .inr ⟨go, Nv (i + 1), fun σ' H' q => ⟨ds.length - (i + 1), by omega, rfl, hlt, q⟩, fun x H3 hy => ?_⟩
    obtain ⟨sm, dx⟩ := yl x H3 hy
    refine ⟨C2, eW, env2, F2, d, ea, RR.same sm, by rw [eW, eZ]; exact dx, rof e3, fun σ4 F4 R4 st4 l4 o4 => ⟨C2, ⟨eW, gp2⟩, ea, F4, R4, f3, e4, ?_⟩⟩
    have S4 : Step H1 (Om F1) H3 (Om F4) := SS.trans ((Step.same sm).trans st4)
    cases f3 with
    | nx e5 => exact fun σ' H' F' R' s' => ⟨e5, F', R', S4.trans s', e2⟩
    | ct e5 => exact fun σ' H' F' R' s' => ⟨e5, F', R', S4.trans s', e2⟩
    | bk e5 =>
      cases e2
      cases h4
      exact fun σ' H' F' R' s' => k σ' H' F' (back H' σ' e5 F' R') (s1.trans (S4.trans s'))
    | rt r e5 =>
      cases e2
      cases r with
      | own o => cases h4
      | val dd =>
        cases h4
        exact fun v σ' H' F' ⟨R', s', dn⟩ => k v σ' H' F' ⟨back H' σ' e5 F' R', s1.trans (S4.trans s'), by rw [← eZ, ← eW]; exact dn⟩
/-- return own -/
theorem st_retO (gp : GP C) {e : Expr} (h : PE X e (tVar i)) : PS X (.Return (some e) pos) (tSt C fun env => match env[i]? with
    | some (.own o false) => .ok (.rt (.own o) (env.set i .no))
    | _ => .bad) := PS.imp (ps_ret h) fun D σ H ⟨env, F, R, fl, hg, k⟩ => by
  cases q : env[i]? with
  | none => simp only [q] at hg; cases hg
  | some s =>
    simp only [q] at hg
    cases s <;> first | (cases hg; done) | skip
    rename_i o pn
    cases pn <;> first | (cases hg; done) | skip
    cases hg
    obtain ⟨a, e1, ow⟩ := R.sl i _ q
    obtain ⟨Rf, sf⟩ := R.forget q
    have up : ∀ x, Th (upF F i []) (C.more (F i)).Z x ↔ Th F C.Z x := fun x => ⟨fun h => by
      rcases h with h | h | h
      · rcases om_upF h with h | ⟨j, _, h⟩
        · cases h
        · exact .inl ⟨j, h⟩
      · exact .inr h
      · exact .inl ⟨i, h⟩, fun h => by
      rcases h with ⟨j, h⟩ | h
      · by_cases e : j = i
        · rw [e] at h; exact .inr (.inr h)
        · exact .inl ⟨j, by rw [upF_ne e]; exact h⟩
      · exact .inr (.inl h)⟩
    have st : Step H (Th F C.Z) H (Th (upF F i []) (C.more (F i)).Z) := ⟨fun _ _ e _ => e, fun _ _ e => e, fun x h => .inl ((up x).mp h), fun _ e => e, fun _ _ _ e => e⟩
    have hi := (List.getElem?_eq_some_iff.mp q).1
    have Rm : Rel (C.more (F i)) H σ (env.set i .no) (upF F i []) := by
      refine ⟨Rf.len, fun j t ej => ?_, Rf.far, fun j x hx hz => ?_, fun x hz => ?_, Rf.bin, Rf.out, Rf.pin, Rf.young, Rf.ln⟩
      · by_cases hj : j = i
        · subst hj
          rw [List.getElem?_set_self hi] at ej
          cases ej
          exact upF_same
        · rw [List.getElem?_set_ne (Ne.symm hj)] at ej
          rw [upF_ne hj]
          exact SlAt.step st (fun _ _ _ hu => hu) (fun _ _ _ hu => hu) (fun _ z => z) (R.sl j t ej)
      · rcases hz with hz | hz
        · exact Rf.apart j x hx hz
        · by_cases hj : j = i
          · rw [hj, upF_same] at hx; cases hx
          · rw [upF_ne hj] at hx
            exact hj (R.far j i x hx hz)
      · rcases hz with hz | hz
        · exact R.zin x hz
        · exact R.dom hz
    refine ⟨.ref a, e1, k _ σ H (upF F i []) ⟨a, F i, rfl, Rm, sf, ow.step st fun _ _ _ e => e, fun b hb => ⟨R.apart i b hb, fun hB => ?_⟩⟩⟩
    obtain ⟨x, hx⟩ := gp i b (R.young i b hb hB)
    have z := (R.pin _ hx).2
    rw [q] at z
    exact z
end
end VE
/-! VE27: d.setdefault(k, []).append(x) -/
namespace VE
open PySem PySem.Spec
                        PyProof.Rows L2

section
variable {W : Wd} {H H' : Hp} {Z Z' : Addr → Prop}
theorem DenKL.kv0 : ∀ {ks : List (NestedKey × Addr × V)} {kvs : List (D × List D)} {bs : List Addr}, DenKL W H Z ks kvs bs → DenKV W H (fun _ => False) ks (kvs.map fun p => (p.1, .list p.2))
  | _, _, _, .nil => .nil
  | _, _, _, .cons a n q c l t => .cons (a.less fun _ h => h.elim) n q (.lst c id (l.less fun _ h => h.elim)) (DenKL.kv0 t)
theorem DenKL.length : ∀ {ks : List (NestedKey × Addr × V)} {kvs : List (D × List D)} {bs : List Addr}, DenKL W H Z ks kvs bs → ks.length = kvs.length
  | _, _, _, .nil => rfl
  | _, _, _, .cons _ _ _ _ _ t => congrArg (· + 1) (DenKL.length t)
/-- the key is there -/
theorem DenKL.hit {k : NestedKey} {kd : D} (n : nkey kd = some k) {v : V} {x : V} {d : D} : ∀ {ks : List (NestedKey × Addr × V)} {kvs : List (D × List D)} {bs : List Addr}, DenKL W H Z ks kvs bs → valH ks k = some v → bs.Nodup → (∀ b ∈ bs, Z b) →
    ∃ c xs, v = .ref c ∧ c ∈ bs ∧ H c = some (.lst xs) ∧ (∃ q ∈ kvs, xs.length = q.2.length) ∧ (Den W H Z x d → DenKL W (upd H c (.lst (xs ++ [x]))) Z ks (sdPut kvs kd d) bs)
  | _, _, _, .cons (k := k') (b := b) (c := c) (xs := xs) (ks := ks) (kd := kd') (ds := ds) (kvs := kvs) (bs := bs) a n' q hc l t, hv, nd, hz => by
    rw [List.nodup_cons] at nd
    have hv : ((((k', b, V.ref c) :: ks : List (NestedKey × Addr × V)).find? fun q => decide (q.1 = k)).map fun q => q.2.2) = some v := hv
    rw [List.find?_cons] at hv
    by_cases h : k' = k
    · rw [decide_eq_true h] at hv
      cases hv
      refine ⟨c, xs, rfl, List.mem_cons_self, hc, ⟨_, List.mem_cons_self, l.length⟩, fun dx => ?_⟩
      have st : Step H Z (upd H c (.lst (xs ++ [x]))) Z := Step.pokeIn (hz c List.mem_cons_self) hc (fun _ z => by cases z) (fun _ _ z => by cases z)
      have e : sdPut ((kd', ds) :: kvs) kd d = (kd', ds ++ [d]) :: kvs := by
        show (if nkey kd' = nkey kd then _ else _) = _
        rw [if_pos (by rw [n', n, h])]
      rw [e]
      refine .cons (a.step st) n' q upd_same ((l.step st).append (.cons (dx.step st) .nil)) (t.step st fun b' hb o e => ?_)
      rw [upd_ne (show b' ≠ c by rintro rfl; exact nd.1 hb)]
      exact e
    · rw [decide_eq_false h] at hv
      obtain ⟨c2, xs2, e1, e2, e3, ⟨q2, m2, l2⟩, e4⟩ := DenKL.hit n t hv nd.2 fun b hb => hz b (List.mem_cons_of_mem _ hb)
      refine ⟨c2, xs2, e1, List.mem_cons_of_mem _ e2, e3, ⟨q2, List.mem_cons_of_mem _ m2, l2⟩, fun dx => ?_⟩
      have st : Step H Z (upd H c2 (.lst (xs2 ++ [x]))) Z := Step.pokeIn (hz c2 (List.mem_cons_of_mem _ e2)) e3 (fun _ z => by cases z) (fun _ _ z => by cases z)
      have e : sdPut ((kd', ds) :: kvs) kd d = (kd', ds) :: sdPut kvs kd d := by
        show (if nkey kd' = nkey kd then _ else _) = _
        rw [if_neg (by rw [n', n]; exact fun z => h (Option.some.inj z))]
      rw [e]
      exact .cons (a.step st) n' q (by rw [upd_ne (show c ≠ c2 by rintro rfl; exact nd.1 e2)]; exact hc) (l.step st) (e4 dx)
/-- the key is not there -/
theorem DenKL.miss {k : NestedKey} {kd : D} (n : nkey kd = some k) (hq : k.depth ≤ 8) {b p : Addr} {x : V} {d : D} (dk : Den W H Z (.ref b) kd) (dx : Den W H Z x d) (hp : H p = some (.lst [x])) : ∀ {ks : List (NestedKey × Addr × V)} {kvs : List (D × List D)} {bs : List Addr}, DenKL W H Z ks kvs bs → valH ks k = none →
    DenKL W H Z (ks ++ [(k, b, .ref p)]) (sdPut kvs kd d) (bs ++ [p])
  | _, _, _, .nil, _ => .cons dk n hq hp (.cons dx .nil) .nil
  | _, _, _, .cons (k := k') (b := b') (c := c) (ks := ks) (kd := kd') (ds := ds) (kvs := kvs) (bs := bs) a n' q hc l t, hv => by
    have hv : ((((k', b', V.ref c) :: ks : List (NestedKey × Addr × V)).find? fun q => decide (q.1 = k)).map fun q => q.2.2) = none := hv
    rw [List.find?_cons] at hv
    by_cases h : k' = k
    · rw [decide_eq_true h] at hv; cases hv
    · rw [decide_eq_false h] at hv
      have e : sdPut ((kd', ds) :: kvs) kd d = (kd', ds) :: sdPut kvs kd d := by
        show (if nkey kd' = nkey kd then _ else _) = _
        rw [if_neg (by rw [n', n]; exact fun z => h (Option.some.inj z))]
      rw [e]
      exact .cons a n' q hc l (DenKL.miss n hq dk dx hp t hv)
end
section
variable {X : Cx} {C : RC} {pos p1 p2 lpos : Pos} {i j : Nat}
theorem st_sdapp (f : Fit X C) (hu : X.A.units + 66 < cLine) {et ek ev : Expr} {gk : Env → Rs (Opd × Env)} {a1 a2 c1 c2 : Pos} (ht : PE X et (tVar i)) (hk : PE X ek (tX C gk)) (hv : PE X ev (tVar j)) (sk : star0 ek = true) (sv : star0 ev = true)
    (hb : attributeBase et "setdefault" X.env (eval et X.env) = eval et X.env) (hl1 : (a1.endLine == c1.line) = true) (hl2 : (a2.endLine == c2.line) = true) :
    PS X (.Expr (.Call (.Attribute (.Call (.Attribute et "setdefault" a1) [ek, .List [] lpos] [] c1) "append" a2) [ev] [] c2) pos) (tSt C fun env => if isOD env[i]? then do
        let (kd, env1) ← asV (gk env)
        let d ← Rs.of (getV env1 j)
        if keyOk kd then match env1[i]? with
          | some (.own (.dil kvs) p) => if kvs.length < sizeLine ∧ kvs.all (fun q => decide (q.2.length < sizeLine)) then .ok (.nx (env1.set i (.own (.dil (sdPut kvs kd d)) p))) else .bad
          | _ => .bad
        else .bad
      else .bad) := by
  refine PS.imp (ps_expr (pe_bm PySem.F.plainAttrs_list PySem.F.slot_list_append PySem.F.type_list_append (r := rAppend) (fun pins s σ H x xs v us Q I rx rxs h => mt_append pins s σ H x xs v us Q I rx rxs h)
    (pd_bm PySem.F.slot_dict_setdefault PySem.F.type_dict_setdefault mt_sdef ht (pa_cons hk (pa_cons (pe_lst pa_nil) pa_nil (star_of rfl [] _)) (star_of sk _ _)) hb hl1 sk rfl (by simp)) (pa_cons hv pa_nil (star_of sv [] _)) rfl (by rw [star_of sv]; rfl) hl2 (star_of sv [] _) rfl) rfl) fun D σ H ⟨env, F, R, fl, hg, k⟩ => ?_
  have hg : (if isOD env[i]? then (asV (gk env) >>= fun x => match x with | (kd, env1) => (Rs.of (getV env1 j) >>= fun d => (if keyOk kd then (match env1[i]? with
          | some (.own (.dil kvs) p) => if kvs.length < sizeLine ∧ kvs.all (fun q => decide (q.2.length < sizeLine)) then Rs.ok (Flow.nx (env1.set i (.own (.dil (sdPut kvs kd d)) p))) else .bad
          | _ => .bad) else .bad))) else .bad) = .ok fl := hg
  by_cases ho : isOD env[i]? = true
  · rw [if_pos ho] at hg
    obtain ⟨⟨kd, env1⟩, h1, h2⟩ := rbind hg
    obtain ⟨d, h3, h4⟩ := rbind (show (Rs.of (getV env1 j) >>= _) = _ from h2)
    have h3 := rof h3
    have r0 : ∃ a ks, σ[i]? = some (some (.ref a)) ∧ H a = some (dHO C.W a ks) := by
      cases q : env[i]? with
      | none => rw [q] at ho; cases ho
      | some s =>
        rw [q] at ho
        cases s <;> first | (cases ho; done) | skip
        rename_i o pn
        cases o <;> first | (cases ho; done) | skip
        obtain ⟨a, e1, ks, bs, _, _, ha, _⟩ := R.sl i _ q
        exact ⟨a, ks, e1, ha⟩
    obtain ⟨a, ks0, ea, ha0⟩ := r0
    refine ⟨.ref a, ea, ⟨C.W, a, ks0, rfl, ha0⟩, env, F, R, .d kd, env1, asV_inv h1, fun kv H1 F1 R1 s1 dk => ⟨Nat.zero_le _, fun p hp => ?_⟩⟩
    have dk : Den C.W H1 (Th F1 C.Z) kv kd := dk
    by_cases hk1 : keyOk kd = true
    · rw [if_pos hk1] at h4
      cases q : env1[i]? with
      | none => simp only [q] at h4; cases h4
      | some s =>
        simp only [q] at h4
        cases s <;> first | (cases h4; done) | skip
        rename_i o pn
        cases o <;> first | (cases h4; done) | skip
        rename_i kvs
        have h4 : (if kvs.length < sizeLine ∧ kvs.all (fun q => decide (q.2.length < sizeLine)) then Rs.ok (Flow.nx (env1.set i (.own (.dil (sdPut kvs kd d)) pn))) else .bad) = .ok fl := h4
        by_cases hz : kvs.length < sizeLine ∧ kvs.all (fun q => decide (q.2.length < sizeLine)) = true
        · rw [if_pos hz] at h4
          cases h4
          obtain ⟨kk, hkk, hdep, b, rfl⟩ := keyOk_spec hk1 dk
          obtain ⟨a', e1, ks, bs, e2, nd, ha, l⟩ := R1.sl i _ q
          rw [ea] at e1
          cases e1
          -- the value
          obtain ⟨x, ex, dx⟩ : ∃ x, σ[j]? = some (some x) ∧ Den C.W H1 (Th F1 C.Z) x d := by
            unfold getV at h3
            cases qj : env1[j]? with
            | none => rw [qj] at h3; cases h3
            | some sj =>
              rw [qj] at h3
              cases sj <;> first | (cases h3; done) | skip
              cases h3
              obtain ⟨_, v, g1, g2⟩ := R1.sl j _ qj
              exact ⟨v, g1, g2⟩
          have sm : Same H1 (upd H1 p (.lst [])) := same_new hp
          have R2 := R1.same sm
          have hi := (List.getElem?_eq_some_iff.mp q).1
          rw [e2] at nd
          rw [List.nodup_cons] at nd
          have hap : a ≠ p := ne_of_none ha hp
          have es : σ.set i (some (.ref a)) = σ := by
            obtain ⟨g1, g2⟩ := List.getElem?_eq_some_iff.mp ea
            rw [← g2]; exact List.set_getElem_self g1
          have hpin : ∀ q' ∈ C.pins, q'.1 = i → (some (V.ref a) = some (.ref q'.2)) ∧ ∀ o, PinSl (some (Sl.own o pn)) := fun q' hq' e => by
            have z := (R1.pin q' hq').1
            rw [e, ea] at z
            cases z
            refine ⟨rfl, fun o => ?_⟩
            have z2 := (R1.pin q' hq').2
            rw [e, q] at z2
            cases pn with
            | true => trivial
            | false => exact z2.elim
          have aIn : Om F1 a := ⟨i, by rw [e2]; exact List.mem_cons_self⟩
          have bIn : ∀ c ∈ bs, Om F1 c := fun c hc => ⟨i, by rw [e2]; exact List.mem_cons_of_mem _ hc⟩
          refine ⟨hu, C.W, a, ks, _, b, kd, kk, .ref p, _, _, f.P, f.w, f.K, rfl, rfl, by rw [upd_ne hap]; exact ha, by rw [l.length]; exact hz.1, (l.kv0).step (Z' := fun _ => False) ⟨fun c o e _ => sm c o e, fun c xs e => e.imp (sm _ _) fun ⟨o, e⟩ => ⟨o, sm _ _ e⟩, fun _ h => h.elim, fun c e => sm.free e, fun c o u e => sm _ _ e⟩, dk.step (Step.same sm), hkk, hdep, fun v hv => ?_, fun hv => ?_⟩
          · -- the key is there
            have l2 : DenKL C.W (upd H1 p (.lst [])) (Th F1 C.Z) ks kvs bs := l.step (Step.same sm) fun c _ o e => sm c o e
            obtain ⟨c, xs, rfl, hc, hcx, ⟨q', m', l'⟩, wr⟩ := l2.hit hkk (x := x) (d := d) hv nd.2 fun c hc => .inl (bIn c hc)
            have lz := of_decide_eq_true (List.all_eq_true.mp hz.2 q' m')
            have st : Step (upd H1 p (.lst [])) (Om F1) (upd (upd H1 p (.lst [])) c (.lst (xs ++ [x]))) (Om F1) := Step.pokeIn (bIn c hc) hcx (fun _ z => by cases z) (fun _ _ z => by cases z)
            have hac : a ≠ c := by rintro rfl; exact nd.1 hc
            have eF : upF F1 i (a :: bs) = F1 := by
              funext t
              by_cases e : t = i
              · rw [e, upF_same, e2]
              · rw [upF_ne e]
            have key := R2.put (H' := upd (upd H1 p (.lst [])) c (.lst (xs ++ [x]))) (i := i) (x := some (.ref a)) (s := .own (.dil (sdPut kvs kd d)) pn) (fp := a :: bs) hi (fun ds' e => by rw [q] at e; cases e)
              (fun t o e nz => by
                rw [upd_ne (show t ≠ c by rintro rfl; exact nz (by rw [e2]; exact List.mem_cons_of_mem _ hc))]
                exact e) st.tups st.frz st.dom (fun t ht => .inl (by rw [e2]; exact ht)) ⟨a, rfl, ks, bs, rfl, by rw [List.nodup_cons]; exact nd, by rw [upd_ne hac, upd_ne hap]; exact ha, by rw [eF]; exact wr (dx.step (Step.same sm))⟩ (fun q' hq' e => ⟨(hpin q' hq' e).1, (hpin q' hq' e).2 _⟩)
            obtain ⟨R3, s3⟩ := key
            rw [es, eF] at R3
            rw [eF] at s3
            exact ⟨.inl ⟨rfl, xs, .inl (.inl hcx)⟩, x, ex, c, xs, x, rfl, rfl, hcx, by rw [l']; exact lz, k _ _ _ R3 (s1.trans ((Step.same sm).trans s3))⟩
          · -- the key is not there
            obtain ⟨H4, eH4⟩ : ∃ H4, H4 = upd (upd (upd H1 p (.lst [])) a (dHO C.W a (ks ++ [(kk, b, .ref p)]))) p (.lst ([] ++ [x])) := ⟨_, rfl⟩
            have at_a : H4 a = some (dHO C.W a (ks ++ [(kk, b, .ref p)])) := by rw [eH4, upd_ne hap, upd_same]
            have at_p : H4 p = some (.lst [x]) := by rw [eH4, upd_same]; rfl
            have rest : ∀ t, t ≠ a → t ≠ p → H4 t = H1 t := fun t h1 h2 => by rw [eH4, upd_ne h2, upd_ne h1, upd_ne h2]
            have hFp : ∀ t, t ∈ a :: (bs ++ [p]) → t ∈ F1 i ∨ t = p := fun t ht => by
              rcases List.mem_cons.mp ht with rfl | ht
              · exact .inl (by rw [e2]; exact List.mem_cons_self)
              · rcases List.mem_append.mp ht with ht | ht
                · exact .inl (by rw [e2]; exact List.mem_cons_of_mem _ ht)
                · exact .inr (List.mem_singleton.mp ht)
            have hf : ∀ t, t ∈ a :: (bs ++ [p]) → t ∈ F1 i ∨ H1 t = none := fun t ht => (hFp t ht).imp id fun e => by rw [e]; exact hp
            have tups : ∀ t ys, Rd H1 t (.tup ys) → Rd H4 t (.tup ys) := fun t ys e => by
              have t1 : t ≠ a := by
                rintro rfl
                rcases e with e | ⟨_, e⟩ <;> rw [ha] at e <;> cases e
              have t2 : t ≠ p := by
                rintro rfl
                rcases e with e | ⟨_, e⟩ <;> rw [hp] at e <;> cases e
              exact e.imp (fun q => by rw [rest t t1 t2]; exact q) fun ⟨o, q⟩ => ⟨o, by rw [rest t t1 t2]; exact q⟩
            have frz : ∀ t o u, H1 t = some (.frz o u) → H4 t = some (.frz o u) := fun t o u e => by
              rw [rest t (by rintro rfl; rw [ha] at e; cases e) (by rintro rfl; rw [hp] at e; cases e)]; exact e
            have dom : ∀ t, H4 t = none → H1 t = none := fun t e => by
              by_cases t1 : t = a
              · rw [t1, at_a] at e; cases e
              · by_cases t2 : t = p
                · rw [t2]; exact hp
                · rw [rest t t1 t2] at e; exact e
            have st : Step H1 (Th F1 C.Z) H4 (Th (upF F1 i (a :: (bs ++ [p]))) C.Z) := ⟨fun t o e nz => by
              rw [rest t (by rintro rfl; exact nz (.inl aIn)) (by rintro rfl; rw [hp] at e; cases e)]; exact e, tups, fun t h => by
              rcases h with h | h
              · rcases om_upF h with h | ⟨m, _, h⟩
                · exact (hf t h).imp (fun z => .inl ⟨i, z⟩) id
                · exact .inl (.inl ⟨m, h⟩)
              · exact .inl (.inr h), dom, frz⟩
            have nbs : ∀ c ∈ bs, c ≠ a ∧ c ≠ p := fun c hc => ⟨by rintro rfl; exact nd.1 hc, by
              rintro rfl
              obtain ⟨ys, hy⟩ := l.dom c hc
              rw [hp] at hy; cases hy⟩
            have l4 : DenKL C.W H4 (Th (upF F1 i (a :: (bs ++ [p]))) C.Z) ks kvs bs := l.step st fun c hc o e => by rw [rest c (nbs c hc).1 (nbs c hc).2]; exact e
            have m4 := l4.miss hkk hdep (b := b) (p := p) (x := x) (d := d) (dk.step st) (dx.step st) at_p hv
            have key := R1.put (H' := H4) (i := i) (x := some (.ref a)) (s := .own (.dil (sdPut kvs kd d)) pn) (fp := a :: (bs ++ [p])) hi (fun ds' e => by rw [q] at e; cases e)
              (fun t o e nz => by
                rw [rest t (by rintro rfl; exact nz (by rw [e2]; exact List.mem_cons_self)) (by rintro rfl; rw [hp] at e; cases e)]
                exact e) tups frz dom hf ⟨a, rfl, ks ++ [(kk, b, .ref p)], bs ++ [p], rfl, ?_, at_a, m4⟩ (fun q' hq' e => ⟨(hpin q' hq' e).1, (hpin q' hq' e).2 _⟩)
            · obtain ⟨R3, s3⟩ := key
              rw [es] at R3
              have hp3 : (upd (upd H1 p (.lst [])) a (dHO C.W a (ks ++ [(kk, b, .ref p)]))) p = some (.lst []) := by rw [upd_ne (Ne.symm hap), upd_same]
              refine ⟨.inl ⟨rfl, [], .inl (.inl hp3)⟩, x, ex, p, [], x, rfl, rfl, hp3, by show 0 < sizeLine; decide, ?_⟩
              rw [← eH4]
              exact k _ _ _ R3 (s1.trans s3)
            · rw [List.nodup_cons]
              refine ⟨fun z => ?_, ?_⟩
              · rcases List.mem_append.mp z with z | z
                · exact nd.1 z
                · exact hap (List.mem_singleton.mp z)
              · exact List.nodup_append.mpr ⟨nd.2, by simp, fun c hc t ht e => (nbs c hc).2 (by rw [e, List.mem_singleton.mp ht])⟩
        · rw [if_neg hz] at h4; cases h4
    · rw [if_neg hk1] at h4; cases h4
  · rw [if_neg ho] at hg; cases hg
end
end VE
/-! VE28: the checked form: a term of VE and the def's text -/
namespace VE
open PySem PySem.Spec
                        PyProof.Rows L2

/-- what is known of a place in the text -/
structure Kt where
  N : List Str
  sc : Scope
  fn : Str → Bool
  ft : List Str
def Kt.blk (K : Kt) (s : Scope) : Kt := { K with sc := relS s K.sc, fn := fun x => s.names.lookup x == some .cell }
def bns : List Str := ["len", "int", "tuple", "range", "enumerate", "list", "max", "isinstance", "sorted", "str", "bool"]
def glB (K : Kt) (x : Str) : Bool := decide (K.sc.names.lookup x = some .globalImplicit)
def visB (K : Kt) (i : Nat) : Expr → Bool
  | .Name x _ => decide (K.N[i]? = some x) && (match K.sc.names.lookup x with | some .local => true | some .cell => true | some .free => true | _ => false) && !(x == ("__debug__" : Str)) && !(x == ("__classdict__" : Str))
  | _ => false
def bnB (K : Kt) (b : Str) : Expr → Bool
  | .Name x _ => decide (x = b) && glB K x
  | _ => false
def fnB (K : Kt) (f : Nat) : Expr → Bool
  | .Name x _ => decide (K.ft[f]? = some x) && glB K x && !(x == ("__debug__" : Str))
  | _ => false
def opOf : Bop → Option Operator
  | .add => some .Add
  | .sub => some .Sub
  | .mul => some .Mult
  | .mod => some .Mod
  | .fdiv => some .FloorDiv
  | .pow => some .Pow
  | _ => none
def cmpOf : Bop → Option CmpOp
  | .eq => some .Eq
  | .ne => some .NotEq
  | .lt => some .Lt
  | .le => some .LtE
  | .gt => some .Gt
  | .ge => some .GtE
  | .isin => some .In
  | .notin => some .NotIn
  | _ => none
def isName : Expr → Bool
  | .Name .. => true
  | _ => false
def notSl : Expr → Bool
  | .Slice .. => false
  | _ => true
def notBor : E → Bool
  | .bor _ => false
  | _ => true
def noSet : Expr → Bool
  | .Set .. => false
  | _ => true
def isTupX : Expr → Bool
  | .Tuple .. => true
  | _ => false
def callOf : Uop → Option Str
  | .len => some "len"
  | .toInt => some "int"
  | .toTup => some "tuple"
  | .maxL => some "max"
  | _ => none
def tyName : Uop → Option Str
  | .isInt => some "int"
  | .isStr => some "str"
  | .isTup => some "tuple"
  | .isBool => some "bool"
  | .isList => some "list"
  | _ => none
def isOf : Uop → Option (CmpOp × Const)
  | .isNon => some (.Is, .none)
  | .notNon => some (.IsNot, .none)
  | .isTru => some (.Is, .bool true)
  | .notTru => some (.IsNot, .bool true)
  | _ => none
def ownOf (K : Kt) (vs : List Nat) : List (Str × Nat) := vs.map fun i => ((K.N[i]?).getD "", i)
theorem ownOf_snd (K : Kt) (vs : List Nat) : (ownOf K vs).map (·.2) = vs := by
  unfold ownOf
  rw [List.map_map]
  exact List.map_id vs
mutual
def ckE (K : Kt) : E → Expr → Bool
  | .int i, x => match x with
    | .Constant c _ _ => decide (c = .int i)
    | _ => false
  | .str s, x => match x with
    | .Constant c _ _ => decide (c = .str s)
    | _ => false
  | .bl b, x => match x with
    | .Constant c _ _ => decide (c = .bool b)
    | _ => false
  | .non, x => match x with
    | .Constant c _ _ => decide (c = .none)
    | _ => false
  | .var i, x => visB K i x
  | .bor i, x => visB K i x
  | .tup es, x => match x with
    | .Tuple xs _ _ => ckEs K es xs
    | _ => false
  | .nw n, x => ckN K n x
  | .un op a, x => match x with
    | .UnaryOp .Not y _ => decide (op = .not) && notBor a && ckE K a y
    | .UnaryOp .USub y _ => decide (op = .neg) && ckE K a y
    | .Compare y [c] [.Constant d _ _] _ => decide (isOf op = some (c, d)) && ckE K a y
    | .Call f [y] [] _ => (match callOf op with | some b => bnB K b f | none => false) && star0 y && ckE K a y
    | .Call f [y, .Name t _] [] _ => bnB K "isinstance" f && decide (tyName op = some t) && glB K t && star0 y && ckE K a y
    | .Call f [y, .Tuple [.Name t1 _, .Name t2 _] _ _] [] _ => bnB K "isinstance" f && decide (op = .isSeq) && decide (t1 = "tuple") && decide (t2 = "list") && glB K "tuple" && glB K "list" && star0 y && ckE K a y
    | _ => false
  | .bin op a b, x => match x with
    | .BinOp y o z _ => decide (opOf op = some o) && ckE K a y && ckE K b z
    | .Compare y [c] [z] _ => decide (cmpOf op = some c) && star0 z && ckE K a y && ckE K b z
    | .Subscript y z _ => decide (op = .idx) && notSl z && ckE K a y && ckE K b z
    | .Call (.Attribute (.Constant (.str s) _ _) nm apos) [z] [] pos => decide (op = .join) && decide (nm = "join") && (match a with | .str t => decide (s = t) | _ => false) && star0 z && (apos.endLine == pos.line) && ckE K b z
    | _ => false
  | .and a b, x => match x with
    | .BoolOp .And (y :: z :: rest) pos => ckE K a y && (match rest with
      | [] => ckE K b z
      | _ :: _ => ckE K b (.BoolOp .And (z :: rest) pos))
    | _ => false
  | .or a b, x => match x with
    | .BoolOp .Or (y :: z :: rest) pos => ckE K a y && (match rest with
      | [] => ckE K b z
      | _ :: _ => ckE K b (.BoolOp .Or (z :: rest) pos))
    | _ => false
  | .ite c a b, x => match x with
    | .IfExp t y z _ => ckE K c t && ckE K a y && ckE K b z
    | _ => false
  | .sl a lo hi, x => match x with
    | .Subscript y (.Slice (some l) (some h) none _) _ => ckE K a y && ckE K lo l && ckE K hi h
    | _ => false
  | .slf a lo, x => match x with
    | .Subscript y (.Slice (some l) none none _) _ => ckE K a y && ckE K lo l
    | _ => false
  | .call f as, x => match x with
    | .Call g xs [] _ => fnB K f g && xs.all star0 && ckA K as xs
    | _ => false
  | .pop i, x => match x with
    | .Call (.Attribute o nm apos) [] [] pos => decide (nm = "pop") && visB K i o && (apos.endLine == pos.line)
    | _ => false
def ckEs (K : Kt) : Es → List Expr → Bool
  | .nil, xs => match xs with
    | [] => true
    | _ => false
  | .cons e es, xs => match xs with
    | x :: xs => star0 x && ckE K e x && ckEs K es xs
    | [] => false
def ckA (K : Kt) : As → List Expr → Bool
  | .nil, xs => match xs with
    | [] => true
    | _ => false
  | .v e as, xs => match xs with
    | x :: xs => star0 x && ckE K e x && ckA K as xs
    | [] => false
  | .io i as, xs => match xs with
    | x :: xs => visB K i x && ckA K as xs
    | [] => false
  | .sc i as, xs => match xs with
    | x :: xs => visB K i x && ckA K as xs
    | [] => false
def ckN (K : Kt) : N → Expr → Bool
  | .lst es, x => match x with
    | .List xs _ => ckEs K es xs
    | _ => false
  | .lc elt tg src cd vs, x => match x with
    | .ListComp y [⟨t, it, ifs, n⟩] s _ => decide (n = 0) && blkC K.N K.sc s (ownOf K vs) && noSet it && ckSrc K src t it && tgOk K.N (relS s K.sc) (K.blk s).fn tg t && ckC (K.blk s) cd ifs && ckE (K.blk s) elt y && (tgs tg).all (fun j => decide (j ∈ vs))
    | _ => false
  | .dc k v tg src cd vs, x => match x with
    | .DictComp kx vx [⟨t, it, ifs, n⟩] s _ => decide (n = 0) && blkC K.N K.sc s (ownOf K vs) && noSet it && ckSrc K src t it && tgOk K.N (relS s K.sc) (K.blk s).fn tg t && ckC (K.blk s) cd ifs && ckE (K.blk s) k kx && ckE (K.blk s) v vx && (tgs tg).all (fun j => decide (j ∈ vs))
    | _ => false
  | .dc2 k v tg src tg2 src2 vs, x => match x with
    | .DictComp kx vx [⟨t, it, [], n⟩, ⟨t2, it2, [], n2⟩] s _ => decide (n = 0) && decide (n2 = 0) && blkC K.N K.sc s (ownOf K vs) && noSet it && noSet it2 && ckSrc K src t it && tgOk K.N (relS s K.sc) (K.blk s).fn tg t && ckSrc (K.blk s) src2 t2 it2 && tgOk K.N (relS s K.sc) (K.blk s).fn tg2 t2 && ckE (K.blk s) k kx && ckE (K.blk s) v vx && (tgs tg).all (fun j => decide (j ∈ vs)) && (tgs tg2).all (fun j => decide (j ∈ vs))
    | _ => false
  | .toL a, x => match x with
    | .Call f [y] [] _ => bnB K "list" f && star0 y && ckE K a y
    | _ => false
  | .keysL a, x => match x with
    | .Call f [y] [] _ => bnB K "list" f && star0 y && ckE K a y
    | _ => false
  | .vals i, x => match x with
    | .Call f [.Call (.Attribute o nm apos) [] [] cpos] [] _ => bnB K "list" f && decide (nm = "values") && visB K i o && (apos.endLine == cpos.line)
    | _ => false
  | .cat a b, x => match x with
    | .BinOp y .Add z _ => ckE K a y && ckE K b z
    | _ => false
  | .dnew, x => match x with
    | .Dict [] [] _ => true
    | _ => false
  | .srt _, _ => false
  | .srtk a f, x => match x with
    | .Call g [y] [⟨kw, fx, _⟩] _ => bnB K "sorted" g && decide (kw = some "key") && fnB K f fx && star0 y && ckE K a y
    | _ => false
  | .call f as, x => match x with
    | .Call g xs [] _ => fnB K f g && xs.all star0 && ckA K as xs
    | _ => false
def ckSrc (K : Kt) : Src → Expr → Expr → Bool
  | .seq e, _, x => ckE K e x
  | .scr i, _, x => visB K i x
  | .rng e, _, x => match x with
    | .Call f [y] [] _ => bnB K "range" f && star0 y && ckE K e y
    | _ => false
  | .rng2 a b, _, x => match x with
    | .Call f [y, z] [] _ => bnB K "range" f && star0 y && star0 z && ckE K a y && ckE K b z
    | _ => false
  | .enum e, t, x => match x with
    | .Call f [y] [] _ => isTupX t && bnB K "enumerate" f && star0 y && ckE K e y
    | _ => false
def ckC (K : Kt) : Cd → List Expr → Bool
  | .no, xs => match xs with
    | [] => true
    | _ => false
  | .on e, xs => match xs with
    | [x] => ckE K e x
    | _ => false
end
/-- an expression of the statement: its own place and what is bound to it -/
def tgNm : Expr → Bool
  | .Name .. => true
  | _ => false
mutual
def ckS (K : Kt) : S → Stmt → Bool
  | .asg t e, x => match x with
    | .Assign [y] v _ => (match t, y with
      | .nm i, .Name nm py => nameOk K.N K.sc K.fn i (.Name nm py) && swOk K.sc nm py v
      | .tp is, .Tuple es kk tp => tgOk K.N K.sc K.fn (.tp is) (.Tuple es kk tp) && noComp v && !(isTupX v)
      | _, _ => false) && ckE K e v
    | _ => false
  | .own i n, x => match x with
    | .Assign [.Name nm py] v _ => nameOk K.N K.sc K.fn i (.Name nm py) && swOk K.sc nm py v && ckN K n v
    | _ => false
  | .aug _ _ _, _ => false
  | .setIx i ix e, x => match x with
    | .Assign [.Subscript o y _] v _ => visB K i o && notSl y && noComp v && ckE K ix y && ckE K e v
    | _ => false
  | .app i e, x => match x with
    | .Expr (.Call (.Attribute o nm apos) [y] [] cpos) _ => visB K i o && decide (nm = "append") && (apos.endLine == cpos.line) && star0 y && ckE K e y
    | _ => false
  | .rev i, x => match x with
    | .Expr (.Call (.Attribute o nm apos) [] [] cpos) _ => visB K i o && decide (nm = "reverse") && (apos.endLine == cpos.line)
    | _ => false
  | .sdapp i k e, x => match x with
    | .Expr (.Call (.Attribute (.Call (.Attribute o nm apos) [y, .List [] _] [] cpos) nm2 apos2) [z] [] cpos2) _ => visB K i o && decide (nm = "setdefault") && decide (nm2 = "append") && (apos.endLine == cpos.line) && (apos2.endLine == cpos2.line) && star0 y && star0 z && ckE K k y && (match e with | .var j => visB K j z | _ => false)
    | _ => false
  | .ife c a b, x => match x with
    | .If t p q _ => ckE K c t && ckSs K a p && ckSs K b q
    | _ => false
  | .fr tg src body, x => match x with
    | .For t it p [] _ => noSet it && ckSrc K src t it && tgOk K.N K.sc K.fn tg t && ckSs K body p
    | _ => false
  | .whl _ _ _, _ => false
  | .ret e, x => match x with
    | .Return (some v) _ => ckE K e v
    | _ => false
  | .retO i, x => match x with
    | .Return (some v) _ => visB K i v
    | _ => false
  | .exp _, _ => false
  | .frz _, _ => false
  | .pass, _ => false
  | .brk, _ => false
  | .cnt, _ => false
def ckSs (K : Kt) : Ss → List Stmt → Bool
  | .nil, xs => match xs with
    | [] => true
    | _ => false
  | .cons s ss, xs => match s with
    | .frz _ => ckSs K ss xs
    | s => match xs with
      | x :: xs => ckS K s x && ckSs K ss xs
      | [] => false
end
end VE
/-! VE29: the checked form is sound: expressions (the rules it needs) -/
namespace VE
open PySem PySem.Spec
                        PyProof.Rows L2

def plainT : Expr → Bool
  | .BoolOp .. => false
  | .Compare .. => false
  | .UnaryOp .Not _ _ => false
  | .IfExp .. => false
  | _ => true
structure OkE (X : Cx) (C : RC) (x : Expr) (g : Env → Rs (Opd × Env)) : Prop where
  at_ : AtP X x (tX C g)
  pt : PT X x (tTt C fun env => asT (g env))
  pw : ∀ op es p, x = .BoolOp op es p → PW X x (tTt C fun env => asT (g env))
theorem plainT_isTrue {x : Expr} (h : plainT x = true) (env : PySem.Env) (whole : Sem Value) : isTrue x env whole = (do let v ← whole; standAt x.pos; holding [v] (truthy v)) := by
  cases x <;> first
    | (cases h; done)
    | rfl
    | (rename_i op y p
       cases op <;> first | (cases h; done) | rfl)
theorem plainT_noBool {x : Expr} (h : plainT x = true) : ∀ op es p, x ≠ .BoolOp op es p := by
  rintro op es p rfl
  cases h
section
variable {X : Cx} {C : RC} {x ea eb : Expr} {g h : Env → Rs (Opd × Env)} {p p2 p3 pos : Pos}
theorem OkE.plainA (h : AtP X x (tX C g)) (hx : plainT x = true) : OkE X C x g := ⟨h, rt_val h.pe (plainT_isTrue hx X.env), fun op es p e => absurd e (plainT_noBool hx op es p)⟩
theorem OkE.plain (f : Fit X C) (h : PE X x (tX C g)) (hx : plainT x = true) (hc : noComp x = true) : OkE X C x g := OkE.plainA (AtP.of f h hc) hx

theorem Lk.same {W : Wd} {H H' : Hp} {Z : Addr → Prop} {v : V} {d : D} (s : Same H H') (h : Lk W H Z v d) : Lk W H' Z v d := by
  cases d with
  | list ds => obtain ⟨a, xs, e, ha, l⟩ := h; exact ⟨a, xs, e, s _ _ ha, l.step (Step.same s)⟩
  | dict kvs =>
    rcases h with ⟨a, ks, e, ha, l⟩ | h
    · exact .inl ⟨a, ks, e, s _ _ ha, l.step (Step.same s)⟩
    · exact .inr h
  | none => exact Den.step (Step.same s) h
  | bool b => exact Den.step (Step.same s) h
  | int i => exact Den.step (Step.same s) h
  | str z => exact Den.step (Step.same s) h
  | tuple ds => exact Den.step (Step.same s) h
theorem rU1.same {op : D → Option D} {v : V} {H H' : Hp} {Q : VK} (s : Same H H') (h : rU1 C op v H Q) : rU1 C op v H' Q := by
  obtain ⟨F, d, r, hd, lk, ho, k⟩ := h
  refine ⟨F, d, r, fun a ha e => hd a ha (s.free e), lk.same s, ho, fun v' H2 s2 dn => k v' H2 (s.trans s2) dn⟩
abbrev unG (op : Uop) (g : Env → Rs (Opd × Env)) : Env → Rs (Opd × Env) := fun env => do let (x, env1) ← g env; let d ← Rs.of (deref env1 x); let r ← Rs.of (uop op d); .ok (.d r, env1)
abbrev binG (op : Bop) (g h : Env → Rs (Opd × Env)) : Env → Rs (Opd × Env) := fun env => do let (x, env1) ← g env; let (y, env2) ← h env1; let d ← Rs.of (deref env2 x); let e ← Rs.of (deref env2 y); let r ← Rs.of (bop op d e); .ok (.d r, env2)
theorem rx_isi (f : Fit X C) {op : Uop} {T : String} {t : Str} (hT : isT op = some T) (hv : bootBuiltins t = some (.type T)) (hn : t ≠ "__name__") (hd : (t == ("__debug__" : Str)) = false) (hg : Gl X "isinstance") (hm : X.mg "isinstance" = none) (hgt : Gl X t) (hmt : X.mg t = none)
    (hs : star0 ea = true) (ha : PE X ea (tX C g)) : PE X (.Call (.Name "isinstance" p) [ea, .Name t p2] [] pos) (tX C (unG op g)) :=
  PE.imp (pe_callB (rr_isi f hT) hg hm (by decide +kernel) (pa_cons ha (pa_cons (pe_bltn (v := .ty T) hgt hmt hv rfl hn hd) pa_nil (star_of rfl [] _)) (star_of hs _ _)) (by decide) (by decide) (star_of hs _ _) (by rw [star_of rfl]; rfl)) fun σ H Q q => by
    obtain ⟨env, F, R, y, env1, hg, k⟩ := un_imp (op := uop op) g σ H Q q
    exact ⟨env, F, R, y, env1, hg, fun v H' F' R' s o => ⟨v, rfl, k v H' F' R' s o⟩⟩
theorem rx_isSeq (f : Fit X C) {kk : Nat} {p4 : Pos} (hg : Gl X "isinstance") (hm : X.mg "isinstance" = none) (hg1 : Gl X "tuple") (hm1 : X.mg "tuple" = none) (hg2 : Gl X "list") (hm2 : X.mg "list" = none)
    (hs : star0 ea = true) (ha : PE X ea (tX C g)) : PE X (.Call (.Name "isinstance" p) [ea, .Tuple [.Name "tuple" p2, .Name "list" p3] kk p4] [] pos) (tX C (unG .isSeq g)) :=
  PE.imp (pe_callB (rr_isSeq f) hg hm (by decide +kernel) (pa_cons ha (pa_cons (pe_tup (pa_cons (pe_bltn (v := .ty "tuple") hg1 hm1 (by decide +kernel) rfl (by decide) (by decide)) (pa_cons (pe_bltn (v := .ty "list") hg2 hm2 (by decide +kernel) rfl (by decide) (by decide)) pa_nil (star_of rfl [] _)) (star_of rfl _ _))) pa_nil (star_of rfl [] _)) (star_of hs _ _)) (by decide) (by decide) (star_of hs _ _) (by rw [star_of rfl]; rfl)) fun σ H Q q => by
    obtain ⟨env, F, R, y, env1, hg, k⟩ := un_imp (op := uop .isSeq) g σ H Q q
    exact ⟨env, F, R, y, env1, hg, fun v H' F' R' s o => ⟨by decide, fun pp hp => ⟨v, pp, rfl, upd_same, (k v H' F' R' s o).same (same_new hp)⟩⟩⟩
/-- x is c -/
theorem ok_is (f : Fit X C) {op : Uop} {c : CmpOp} {d : Const} {j : Nat} (hi : isOf op = some (c, d)) (ha : PE X ea (tX C g)) : OkE X C (.Compare ea [c] [.Constant d j p] pos) (unG op g) := by
  have key : ∀ (u : V) (hu : PE X (.Constant d j p) (tC u)) (ho : OpR X (compareOp c) (fun v y H Q => y = u ∧ rU1 C (uop op) v H Q)), OkE X C (.Compare ea [c] [.Constant d j p] pos) (unG op g) := fun u hu ho => by
    have im : ∀ σ H Q, tX C (unG op g) σ H Q → tOp (fun v y H Q => y = u ∧ rU1 C (uop op) v H Q) (tX C g) (tC u) σ H Q := fun σ H Q q => by
      obtain ⟨env, F, R, y, env1, hg, k⟩ := un_imp (op := uop op) g σ H Q q
      exact ⟨env, F, R, y, env1, hg, fun v H' F' R' s o => ⟨rfl, k v H' F' R' s o⟩⟩
    have mk : behindInMarks c (.Constant d j p) = false := by cases c <;> rfl
    exact ⟨AtP.of f (PE.imp (pe_cmpR ho ha hu mk) im) rfl, rt_cmp (pt_cmpR ho ha hu mk) im, fun _ _ _ e => by cases e⟩
  cases op <;> first | (cases hi; done) | skip
  · cases hi; exact key .non pe_non rb_isNon
  · cases hi; exact key .non pe_non rb_notNon
  · cases hi; exact key (.bl true) pe_bl rb_isTru
  · cases hi; exact key (.bl true) pe_bl rb_notTru
theorem ok_cmp (f : Fit X C) (hu : X.A.units + 66 < cLine) {op : Bop} {c : CmpOp} (hc : cmpOf op = some c) (hs : star0 eb = true) (ha : PE X ea (tX C g)) (hb : PE X eb (tX C h)) : OkE X C (.Compare ea [c] [eb] pos) (binG op g h) := by
  have key : ∀ (ho : OpR X (compareOp c) (rU2 C (bop op))), OkE X C (.Compare ea [c] [eb] pos) (binG op g h) := fun ho => by
    have im : ∀ σ H Q, tX C (binG op g h) σ H Q → tOp (rU2 C (bop op)) (tX C g) (tX C h) σ H Q := fun σ H Q q => bin_imp g h σ H Q q
    exact ⟨AtP.of f (PE.imp (pe_cmpR ho ha hb (marks_of hs c)) im) rfl, rt_cmp (pt_cmpR ho ha hb (marks_of hs c)) im, fun _ _ _ e => by cases e⟩
  cases op <;> first | (cases hc; done) | skip
  all_goals cases hc
  · exact key (rb_eq f hu)
  · exact key (rb_ne f hu)
  · exact key rb_lt
  · exact key rb_le
  · exact key rb_gt
  · exact key rb_ge
  · exact key (rb_in f hu)
  · exact key (rb_notin f hu)
theorem ok_bin (f : Fit X C) {op : Bop} {o : Operator} (hc : opOf op = some o) (ha : PE X ea (tX C g)) (hb : PE X eb (tX C h)) : OkE X C (.BinOp ea o eb pos) (binG op g h) := by
  have key : ∀ (ho : OpR X (binaryOp o) (rU2 C (bop op))), OkE X C (.BinOp ea o eb pos) (binG op g h) := fun ho =>
    OkE.plain f (PE.imp (pe_op ho ha hb) fun σ H Q q => bin_imp g h σ H Q q) rfl rfl
  cases op <;> first | (cases hc; done) | skip
  all_goals cases hc
  · exact key (rb_add f)
  · exact key rb_sub
  · exact key rb_mul
  · exact key rb_mod
  · exact key rb_fdiv
  · exact key rb_pow
theorem ok_idx (f : Fit X C) (hs : notSl eb = true) (ha : PE X ea (tX C g)) (hb : PE X eb (tX C h)) : OkE X C (.Subscript ea eb pos) (binG .idx g h) :=
  OkE.plain f (PE.imp (pe_ix (rb_idx f) ha hb (by cases eb <;> first | (intro _ _; rfl) | cases hs)) fun σ H Q q => bin_imp g h σ H Q q) rfl rfl
theorem ok_callU (f : Fit X C) {op : Uop} {b : Str} (hc : callOf op = some b) (hg : Gl X b) (hm : X.mg b = none) (hs : star0 ea = true) (ha : PE X ea (tX C g)) : OkE X C (.Call (.Name b p) [ea] [] pos) (unG op g) := by
  cases op <;> first | (cases hc; done) | skip
  all_goals cases hc
  · exact OkE.plain f (un_callB (rr_len f) hg hm (by decide +kernel) (by decide) (by decide) hs (fun v H Q q => ⟨v, rfl, q⟩) ha) rfl rfl
  · exact OkE.plain f (un_callT (rr_int f) hg hm (by decide +kernel) (by decide) (by decide) hs (fun v H Q q => ⟨v, rfl, q⟩) ha) rfl rfl
  · exact OkE.plain f (un_callT (rr_tup f) hg hm (by decide +kernel) (by decide) (by decide) hs (fun v H Q q => ⟨v, rfl, q⟩) ha) rfl rfl
  · exact OkE.plain f (un_callB (rr_max f) hg hm (by decide +kernel) (by decide) (by decide) hs (fun v H Q q => ⟨v, rfl, q⟩) ha) rfl rfl
end
end VE
/-! VE30: the checked form is sound: expressions -/
namespace VE
open PySem PySem.Spec
        PyProof.Rows L2

structure Kx (CX : CXT) (k : Nat) (rn : Runner) (W : Wd) (X : Cx) (C : RC) (K : Kt) : Prop where
  fit : Fit X C
  wd : C.W = W
  N : X.N = K.N
  sc : X.env.scope = K.sc
  fn : X.fn = K.fn
  kind : X.env.scope.kind
          = .function
  hu : X.A.units + 66 < cLine
  hr : Room (k + 1) X.A
  nox : NoX CX
  blt : ∀ b ∈ bns, X.mg b = none
  fns : ∀ (id : Nat) (nm : Str), K.ft[id]? = some nm → CallOk X CX k W rn nm id
section
variable {CX : CXT} {k : Nat} {rn : Runner} {W : Wd} {X : Cx} {C : RC} {K : Kt}
theorem Kx.blk (c : Kx CX k rn W X C K) {s : Scope} (hk : s.kind = .function) (sh : Shared) (H : Hp) (Cc : Addr) (cl : List (Str × Addr)) (fp : List Addr) {C' : RC} (hW : C'.W = C.W) : Kx CX k rn W (X.blk sh H s (compEnvC s cl Cc X.env) fp) C' (K.blk s) where
  fit := ⟨by rw [hW]; exact c.fit.P, by rw [hW]; exact c.fit.w, by rw [hW]; exact c.fit.K, c.fit.calm, c.fit.nd, PassesOwn.never⟩
  wd := hW.trans c.wd
  N := c.N
  sc := by
    show relS s X.env.scope = relS s K.sc
    rw [c.sc]
  fn := rfl
  kind := hk
  hu := c.hu
  hr := c.hr
  nox := c.nox
  blt := c.blt
  fns := c.fns
theorem Kx.other (c : Kx CX k rn W X C K) {C' : RC} (hW : C'.W = C.W) : Kx CX k rn W X C' K :=
  ⟨⟨by rw [hW]; exact c.fit.P, by rw [hW]; exact c.fit.w, by rw [hW]; exact c.fit.K, c.fit.calm, c.fit.nd, c.fit.po⟩, hW.trans c.wd, c.N, c.sc, c.fn, c.kind, c.hu, c.hr, c.nox, c.blt, c.fns⟩
theorem Kx.vis (c : Kx CX k rn W X C K) {i : Nat} {x : Expr} (h : visB K i x = true) : PE X x (tVar i) ∧ isName x = true := by
  cases x <;> first | (cases h; done) | skip
  rename_i nm p
  have h : (decide (K.N[i]? = some nm) && (match K.sc.names.lookup nm with | some .local => true | some .cell => true | some .free => true | _ => false) && !(nm == ("__debug__" : Str)) && !(nm == ("__classdict__" : Str))) = true := h
  rw [Bool.and_eq_true, Bool.and_eq_true, Bool.and_eq_true] at h
  obtain ⟨⟨⟨h1, h2⟩,
          h3⟩, h4⟩ := h
  refine ⟨pe_var (by rw [c.N]; exact of_decide_eq_true h1) ?_ (by simpa using h3) (by simpa using h4), rfl⟩
  unfold Vis
  rw [c.sc]
  split at h2
  · rename_i q; exact .inl q
  · rename_i q; exact .inr (.inl q)
  · rename_i q; exact .inr (.inr q)
  · cases h2
theorem Kx.gl (c : Kx CX k rn W X C K) {x : Str} (h : glB K x = true) : Gl X x := by
  show X.env.scope.names.lookup x = _
  rw [c.sc]
  exact of_decide_eq_true h
theorem Kx.bn (c : Kx CX k rn W X C K) {b : Str} {x : Expr} (h : bnB K b x = true) : ∃ p, x = .Name b p ∧ Gl X b := by
  cases x <;> first | (cases h; done) | skip
  rename_i nm p
  have h : (decide (nm = b) && glB K nm) = true := h
  rw [Bool.and_eq_true] at h
  have e := of_decide_eq_true h.1
  subst e
  exact ⟨p, rfl, c.gl h.2⟩
theorem Kx.fnm (c : Kx CX k rn W X C K) {f : Nat} {x : Expr} (h : fnB K f x = true) : ∃ nm p, x = .Name nm p ∧ CallOk X CX k W rn nm f ∧ Gl X nm ∧ (nm == ("__debug__" : Str)) = false := by
  cases x <;> first | (cases h; done) | skip
  rename_i nm p
  have h : (decide (K.ft[f]? = some nm) && glB K nm && !(nm == ("__debug__" : Str))) = true := h
  rw [Bool.and_eq_true, Bool.and_eq_true] at h
  exact ⟨nm, p, rfl, c.fns _ _ (of_decide_eq_true h.1.1), c.gl h.1.2, by simpa using h.2⟩
theorem name_base {x : Expr} (h : isName x = true) (nm : Str) (env : PySem.Env) : attributeBase x nm env (eval x env) = eval x env := by
  cases x <;> first | (cases h; done) | rfl
theorem pass_no (hn : NoX CX) {X : Cx} : Passes CX X (fun _ _ _ => False) := fun _ _ _ _ _ _ _ h => (hn _ _ _ _ _ h).elim

/-! arguments -/
theorem pl_nil : PA X [] (tL C fun env => .ok ([], env)) := PA.imp pa_nil fun σ H Q ⟨env, F, R, ds, env', hg, k⟩ => by
  cases hg
  exact k [] H F R Step.refl .nil
theorem pl_cons {x : Expr} {xs : List Expr} {g : Env → Rs (Opd × Env)} {gs : Env → Rs (List D × Env)} (hs : star0 x = true) (h : PE X x (tX C g)) (hr : PA X xs (tL C gs)) : PA X (x :: xs) (tL C fun env => do
    let (d, env1) ← asV (g env)
    let (ds, env2) ← gs env1
    .ok (d :: ds, env2)) := PA.imp (pa_cons h hr (star_of hs _ _)) fun σ H Q ⟨env, F, R, ds, env', hg, k⟩ => by
  obtain ⟨⟨d, env1⟩, h1, h2⟩ := rbind (show (asV (g env) >>= _) = _ from hg)
  obtain ⟨⟨ds2, env2⟩, h3, h4⟩ := rbind h2
  cases h4
  exact ⟨env, F, R, .d d, env1, asV_inv h1, fun v H1 F1 R1 s1 dn => ⟨env1, F1, R1, ds2, env', h3, fun vs H2 F2 R2 s2 dl => k (v :: vs) H2 F2 R2 (s1.trans s2) (.cons (Den.step (s2.plus C.Z) (show Den C.W H1 (Th F1 C.Z) v d from dn)) dl)⟩⟩
theorem pA_nil : PA X [] (tA C fun env => .ok ([], env)) := PA.imp pa_nil fun σ H Q ⟨env, F, R, ds, env', hg, k⟩ => by
  cases hg
  exact k [] H F R Step.refl .nil
theorem pA_v {x : Expr} {xs : List Expr} {g : Env → Rs (Opd × Env)} {gs : Env → Rs (List Ao × Env)} (hs : star0 x = true) (h : PE X x (tX C g)) (hr : PA X xs (tA C gs)) : PA X (x :: xs) (tA C fun env => do
    let (d, env1) ← asV (g env)
    let (ds, env2) ← gs env1
    .ok (.d d :: ds, env2)) := PA.imp (pa_cons h hr (star_of hs _ _)) fun σ H Q ⟨env, F, R, ds, env', hg, k⟩ => by
  obtain ⟨⟨d, env1⟩, h1, h2⟩ := rbind (show (asV (g env) >>= _) = _ from hg)
  obtain ⟨⟨ds2, env2⟩, h3, h4⟩ := rbind h2
  cases h4
  exact ⟨env, F, R, .d d, env1, asV_inv h1, fun v H1 F1 R1 s1 dn => ⟨env1, F1, R1, ds2, env', h3, fun vs H2 F2 R2 s2 dl => k (v :: vs) H2 F2 R2 (s1.trans s2) (.d (Den.step (s2.plus C.Z) (show Den C.W H1 (Th F1 C.Z) v d from dn)) dl)⟩⟩
theorem pA_i {x : Expr} {xs : List Expr} {i : Nat} {gs : Env → Rs (List Ao × Env)} {ao : Ao} (ha : ao = .io i ∨ ao = .sc i) (hx : isName x = true) (h : PE X x (tVar i)) (hr : PA X xs (tA C gs)) : PA X (x :: xs) (tA C fun env => if bnd env[i]? then do
    let (ds, env2) ← gs env
    .ok (ao :: ds, env2) else .bad) := PA.imp (pa_cons h hr (star_of (by cases x <;> first | rfl | cases hx) _ _)) fun σ H Q ⟨env, F, R, ds, env', hg, k⟩ => by
  have hg : (if bnd env[i]? then (gs env >>= fun q => match q with | (ds, env2) => Rs.ok (ao :: ds, env2)) else .bad) = .ok (ds, env') := hg
  by_cases hb : bnd env[i]? = true
  · rw [if_pos hb] at hg
    obtain ⟨⟨ds2, env2⟩, h3, h4⟩ := rbind hg
    cases h4
    obtain ⟨v, hv⟩ := bnd_val R hb
    exact ⟨v, hv, env, F, R, ds2, env', h3, fun vs H2 F2 R2 s2 dl => k (v :: vs) H2 F2 R2 s2 (by rcases ha with rfl | rfl; exact .io hv dl; exact .sc hv dl)⟩
  · rw [if_neg hb] at hg; cases hg

/-! calls -/
theorem ev_d {e : E} {env env1 : Env} {x : Opd} (hb : notBor e = true) (h : ev rn e env = .ok (x, env1)) : ∃ d, x = .d d := by
  cases e with
  | bor i => cases hb
  | int i => cases h; exact ⟨_, rfl⟩
  | str s => cases h; exact ⟨_, rfl⟩
  | bl b => cases h; exact ⟨_, rfl⟩
  | non => cases h; exact ⟨_, rfl⟩
  | var i => obtain ⟨d, _, h2⟩ := rbind (show (Rs.of (getV env i) >>= _) = _ from h); cases h2; exact ⟨_, rfl⟩
  | tup es =>
    obtain ⟨⟨ds, e1⟩, _, h2⟩ := rbind (show (evs rn es env >>= _) = _ from h)
    have h2 : (if ds.length ≤ sizeLine then Rs.ok (Opd.d (.tuple ds), e1) else .bad) = .ok (x, env1) := h2
    by_cases hz : ds.length ≤ sizeLine
    · rw [if_pos hz] at h2; cases h2; exact ⟨_, rfl⟩
    · rw [if_neg hz] at h2; cases h2
  | nw n => obtain ⟨⟨o, e1⟩, _, h2⟩ := rbind (show (evN rn n env >>= _) = _ from h); cases h2; exact ⟨_, rfl⟩
  | un op a =>
    obtain ⟨⟨o, e1⟩, _, h2⟩ := rbind (show (ev rn a env >>= _) = _ from h)
    obtain ⟨d, _, h3⟩ := rbind h2
    obtain ⟨r, _, h4⟩ := rbind h3
    cases h4; exact ⟨_, rfl⟩
  | bin op a b =>
    obtain ⟨⟨o, e1⟩, _, h2⟩ := rbind (show (ev rn a env >>= _) = _ from h)
    obtain ⟨⟨o2, e2⟩, _, h3⟩ := rbind h2
    obtain ⟨d, _, h4⟩ := rbind h3
    obtain ⟨d2, _, h5⟩ := rbind h4
    obtain ⟨r, _, h6⟩ := rbind h5
    cases h6; exact ⟨_, rfl⟩
  | and a b => rcases and_cases (show evAnd (ev rn a) (ev rn b) env = _ from h) with ⟨_, e⟩ | ⟨_, _, _, _, e⟩ <;> exact ⟨_, e⟩
  | or a b => rcases or_cases (show evOr (ev rn a) (ev rn b) env = _ from h) with ⟨_, e⟩ | ⟨_, _, _, _, e⟩ <;> exact ⟨_, e⟩
  | ite c a b =>
    obtain ⟨⟨t, e1⟩, _, h2⟩ := rbind (show (asT (ev rn c env) >>= _) = _ from h)
    cases t with
    | true => obtain ⟨⟨d, e2⟩, _, h4⟩ := rbind (show (asV (ev rn a e1) >>= _) = _ from h2); cases h4; exact ⟨_, rfl⟩
    | false => obtain ⟨⟨d, e2⟩, _, h4⟩ := rbind (show (asV (ev rn b e1) >>= _) = _ from h2); cases h4; exact ⟨_, rfl⟩
  | sl a lo hi =>
    obtain ⟨⟨o, e1⟩, _, h2⟩ := rbind (show (ev rn a env >>= _) = _ from h)
    obtain ⟨⟨l, e2⟩, _, h3⟩ := rbind h2
    obtain ⟨⟨u, e3⟩, _, h4⟩ := rbind h3
    obtain ⟨d, _, h5⟩ := rbind h4
    obtain ⟨r, _, h6⟩ := rbind h5
    cases h6; exact ⟨_, rfl⟩
  | slf a lo =>
    obtain ⟨⟨o, e1⟩, _, h2⟩ := rbind (show (ev rn a env >>= _) = _ from h)
    obtain ⟨⟨l, e2⟩, _, h3⟩ := rbind h2
    obtain ⟨d, _, h5⟩ := rbind h3
    obtain ⟨r, _, h6⟩ := rbind h5
    cases h6; exact ⟨_, rfl⟩
  | call f as =>
    obtain ⟨⟨o, e1⟩, _, h2⟩ := rbind (show (evA rn as env >>= _) = _ from h)
    obtain ⟨⟨r, e2⟩, _, h3⟩ := rbind h2
    cases h3; exact ⟨_, rfl⟩
  | pop i =>
    have h : (match env[i]? with
      | some (.own (.lst ds) p) => match ds.getLast? with
        | some d => Rs.ok (Opd.d d, env.set i (.own (.lst ds.dropLast) p))
        | none => .bad
      | _ => .bad) = .ok (x, env1) := h
    split at h
    · split at h
      · cases h; exact ⟨_, rfl⟩
      · cases h
    · cases h
/-- a call's value, a call's own thing -/
theorem cl_val {f : Nat} {ga : Env → Rs (List Ao × Env)} : ∀ σ H Q, tX C (fun env => do let (aos, env1) ← ga env; let (r, env2) ← runCall rn f aos env1; .ok (.d r.fr, env2)) σ H Q → tCl C rn f ga σ H Q := fun σ H Q ⟨env, F, R, x, env', hg, k⟩ => by
  obtain ⟨⟨aos, env1⟩, h1, h2⟩ := rbind (show (ga env >>= _) = _ from hg)
  obtain ⟨⟨r, env2⟩, h3, h4⟩ := rbind h2
  cases h4
  refine ⟨env, F, R, aos, env1, h1, r, env', h3, fun v H' F' rp => ?_⟩
  cases r with
  | val d => exact k v H' F' rp.1 rp.2.1 rp.2.2
  | own o =>
    obtain ⟨a, fp, rfl, Rm, st, ow, hz⟩ := rp
    refine k _ H' F' Rm.drop st (ow.fr (fun x => th_more) fun b hb z => ?_)
    rcases z with ⟨j, z⟩ | z
    · exact Rm.apart j b z (.inr hb)
    · exact R.zin b z (hz b hb)
theorem cl_own {f : Nat} {ga : Env → Rs (List Ao × Env)} : ∀ σ H Q, tN C (fun env => do let (aos, env1) ← ga env; let (r, env2) ← runCall rn f aos env1; match r with | .own o => .ok (o, env2) | .val _ => .bad) σ H Q → tCl C rn f ga σ H Q := fun σ H Q ⟨env, F, R, o, env', hg, k⟩ => by
  obtain ⟨⟨aos, env1⟩, h1, h2⟩ := rbind (show (ga env >>= _) = _ from hg)
  obtain ⟨⟨r, env2⟩, h3, h4⟩ := rbind h2
  cases r with
  | val d => cases h4
  | own u =>
    cases h4
    refine ⟨env, F, R, aos, env1, h1, _, env', h3, fun v H' F' rp => ?_⟩
    obtain ⟨a, fp, rfl, Rm, st, ow, hz⟩ := rp
    exact k a fp H' F' Rm st ow hz
end
end VE
/-! VE31: the checked form is sound: expressions, the induction -/
namespace VE
open PySem PySem.Spec
                        PyProof.Rows L2

theorem noSet_fold {x : Expr} (h : noSet x = true) (env : PySem.Env) (v : Value) : foldedSetIterable x env v = pure v := by
  cases x <;> first | (cases h; done) | rfl
theorem ckN_plain {K : Kt} {n : N} {x : Expr} (h : ckN K n x = true) : plainT x = true := by
  cases n <;> first | (cases h; done) | (cases x <;> first | (cases h; done) | rfl)
theorem nw_imp {C : RC} (g : Env → Rs (O × Env)) : ∀ σ H Q, tX C (fun env => do let (o, env1) ← g env; .ok (.d o.fr, env1)) σ H Q → tN C g σ H Q := fun σ H Q ⟨env, F, R, x, env', hg, k⟩ => by
  obtain ⟨⟨o, env1⟩, h1, h2⟩ := rbind (show (g env >>= _) = _ from hg)
  cases h2
  refine ⟨env, F, R, o, env', h1, fun a fp H' F' R' s ow hz => k _ H' F' R'.drop s (ow.fr (fun x => th_more) fun b hb z => ?_)⟩
  rcases z with ⟨i, z⟩ | z
  · exact R'.apart i b z (.inr hb)
  · exact R.zin b z (hz b hb)
theorem rt_ite {X : Cx} {C : RC} {ec ea eb : Expr} {pos : Pos} {g h g2 : Env → Rs (Opd × Env)} (hc : PT X ec (tTt C fun env => asT (g env))) (ha : PT X ea (tTt C fun env => asT (h env))) (hb : PT X eb (tTt C fun env => asT (g2 env))) :
    PT X (.IfExp ec ea eb pos) (tTt C fun env => asT (evIte g h g2 env)) := ⟨fun pins s σ H Q I ⟨env, F, R, b, env', hg, k⟩ => by
  obtain ⟨⟨c, env1⟩, h1, h2⟩ := rbind (show (asT (g env) >>= _) = _ from asT_inv hg)
  refine isTrue_IfExp (thn (hc.run pins s σ H (fun c' H1 => if c' = true then tTt C (fun env => asT (h env)) σ H1 Q else tTt C (fun env => asT (g2 env)) σ H1 Q) I ⟨env, F, R, c, env1, h1, fun H1 F1 R1 s1 => ?_⟩) fun d s1 ⟨H1, I1, q1⟩ => ?_)
  · cases c with
    | true =>
      obtain ⟨⟨d, env2⟩, h3, h4⟩ := rbind (show (asV (h env1) >>= _) = _ from h2)
      cases h4
      exact ⟨env1, F1, R1, b, env', asT_of (asV_inv h3), fun H2 F2 R2 s2 => k H2 F2 R2 (s1.trans s2)⟩
    | false =>
      obtain ⟨⟨d, env2⟩, h3, h4⟩ := rbind (show (asV (g2 env1) >>= _) = _ from h2)
      cases h4
      exact ⟨env1, F1, R1, b, env', asT_of (asV_inv h3), fun H2 F2 R2 s2 => k H2 F2 R2 (s1.trans s2)⟩
  · cases d with
    | true => exact ha.run
                            pins s1 σ H1 Q I1 q1
    | false => exact hb.run pins s1 σ H1 Q I1 q1⟩
theorem as_nil {rn : Runner} (as : As) (xs : List Expr) (K : Kt) (h : ckA K as xs = true) : xs = [] → ∀ env aos env1, evA rn as env = .ok (aos, env1) → aos = [] ∧ env1 = env := by
  rintro rfl env aos env1 hg
  cases as <;> first | (cases h; done) | (cases hg; exact ⟨rfl, rfl⟩)
section
variable {CX : CXT} {k : Nat} {rn : Runner} {W : Wd}
theorem tgs_own {K : Kt} {tg : Tg} {vs : List Nat} (h : ((tgs tg).all fun j => decide (j ∈ vs)) = true) : ∀ j ∈ tgs tg, j ∈ (ownOf K vs).map (·.2) := fun j hj => by
  rw [ownOf_snd]
  exact of_decide_eq_true (List.all_eq_true.mp h j hj)
theorem Kx.tg {X : Cx} {C : RC} {K : Kt} (c : Kx CX k rn W X C K) {t : Tg} {e : Expr} (h : tgOk K.N K.sc K.fn t e = true) : PG X e (tTg C t) := pg_tg c.fit (by rw [c.N, c.sc, c.fn]; exact h)
theorem Kx.blkOk {X : Cx} {C : RC} {K : Kt} (c : Kx CX k rn W X C K) {s : Scope} {vs : List Nat} (h : blkC K.N K.sc s (ownOf K vs) = true) : BlkOk X.N X.env.scope s (ownOf K vs) := by
  rw [c.N, c.sc]
  exact blkOk_by h
mutual
theorem okE : ∀ (e : E) (x : Expr) (K : Kt) (X : Cx) (C : RC), ckE K e x = true → Kx CX k rn W X C K → OkE X C x (ev rn e)
  | .int i, x, K, X, C, h, c => by
    unfold ckE at h
    split at h
    · have e :=
                            of_decide_eq_true h
      subst e
      exact OkE.plain c.fit (rx_const pe_int fun _ _ => .int i) rfl rfl
    · cases h
  | .str i, x, K, X, C, h, c => by
    unfold ckE at h
    split at h
    · have e :=
                            of_decide_eq_true h
      subst e
      exact OkE.plain c.fit (rx_const pe_str fun _ _ => .str i) rfl rfl
    · cases h
  | .bl i, x, K, X, C, h, c => by
    unfold ckE at h
    split at h
    · have e :=
                            of_decide_eq_true h
      subst e
      exact OkE.plain c.fit (rx_const pe_bl fun _ _ => .bl i) rfl rfl
    · cases h
  | .non, x, K, X, C, h, c => by
    unfold ckE at h
    split at h
    · have e :=
                            of_decide_eq_true h
      subst e
      exact OkE.plain c.fit (rx_const pe_non fun _ _ => .non) rfl rfl
    · cases h
  | .var i, x, K, X, C, h, c => by
    obtain ⟨h1, h2⟩ := c.vis (show visB K i x = true from h)
    exact OkE.plain c.fit (rx_var h1) (by cases x <;> first | rfl | cases h2) (by cases x <;> first | rfl | cases h2)
  | .bor i, x, K, X, C, h, c => by
    obtain ⟨h1, h2⟩ := c.vis (show visB K i x = true from h)
    exact OkE.plain c.fit (rx_bor h1) (by cases x <;> first | rfl | cases h2) (by cases x <;> first | rfl | cases h2)
  | .tup es, x, K, X, C, h, c => by
    unfold ckE at h
    split at h
    · exact OkE.plain c.fit (rx_tup (okEs es _ K X C h c)) rfl rfl
    · cases h
  | .nw n, x, K, X, C, h, c => by
    have h : ckN K n x = true := h
    have q := okN n x K X C h c
    exact OkE.plainA (AtP.imp q (nw_imp _)) (ckN_plain h)
  | .un op a, x, K, X, C, h, c => by
    unfold ckE at h
    split at h
    · rename_i y p
      rw [Bool.and_eq_true, Bool.and_eq_true] at h
      have e := of_decide_eq_true h.1.1
      subst e
      have q := okE a y K X C h.2 c
      exact ⟨AtP.of c.fit (rx_not q.at_.pe) rfl, rt_not (fun env x env1 hx => ev_d h.1.2 hx) q.pt, fun _ _ _ e => by cases e⟩
    · rename_i y p
      rw [Bool.and_eq_true] at h
      have e := of_decide_eq_true h.1
      subst e
      have q := okE a y K X C h.2 c
      exact OkE.plain c.fit (PE.imp (pe_un ru_neg q.at_.pe) fun σ H Q t => un_imp _ σ H Q t) rfl rfl
    · rw [Bool.and_eq_true] at h
      exact ok_is c.fit (of_decide_eq_true h.1) (okE a _ K X C h.2 c).at_.pe
    · rw [Bool.and_eq_true, Bool.and_eq_true] at h
      obtain ⟨⟨h1, h2⟩, h3⟩ := h
      cases hc : callOf op with
      | none => rw [hc] at h1; cases h1
      | some b =>
        rw [hc] at h1
        obtain ⟨p', e, gl⟩ := c.bn h1
        subst e
        exact ok_callU c.fit hc gl (c.blt b (by cases op <;> cases hc <;> decide)) h2 (okE a _ K X C h3 c).at_.pe
    · rw [Bool.and_eq_true, Bool.and_eq_true, Bool.and_eq_true, Bool.and_eq_true] at h
      obtain ⟨⟨⟨⟨h1, h2⟩, h3⟩, h4⟩, h5⟩ := h
      obtain ⟨p', e, gl⟩ := c.bn h1
      subst e
      have q := (okE a _ K X C h5 c).at_.pe
      have hc := of_decide_eq_true h2
      have gt := c.gl h3
      cases op <;> first | (cases hc; done) | skip
      all_goals cases hc
      · exact OkE.plain c.fit (rx_isi c.fit (op := .isInt) (T := "int") rfl (by decide +kernel) (by decide) (by decide) gl (c.blt _ (by decide)) gt (c.blt _ (by decide)) h4 q) rfl rfl
      · exact OkE.plain c.fit (rx_isi c.fit (op := .isStr) (T := "str") rfl (by decide +kernel) (by decide) (by decide) gl (c.blt _ (by decide)) gt (c.blt _ (by decide)) h4 q) rfl rfl
      · exact OkE.plain c.fit (rx_isi c.fit (op := .isTup) (T := "tuple") rfl (by decide +kernel) (by decide) (by decide) gl (c.blt _ (by decide)) gt (c.blt _ (by decide)) h4 q) rfl rfl
      · exact OkE.plain c.fit (rx_isi c.fit (op := .isBool) (T := "bool") rfl (by decide +kernel) (by decide) (by decide) gl (c.blt _ (by decide)) gt (c.blt _ (by decide)) h4 q) rfl rfl
      · exact OkE.plain c.fit (rx_isi c.fit (op := .isList) (T := "list") rfl (by decide +kernel) (by decide) (by decide) gl (c.blt _ (by decide)) gt (c.blt _ (by decide)) h4 q) rfl rfl
    · rw [Bool.and_eq_true, Bool.and_eq_true, Bool.and_eq_true, Bool.and_eq_true, Bool.and_eq_true, Bool.and_eq_true, Bool.and_eq_true] at h
      obtain ⟨⟨⟨⟨⟨⟨⟨h1, h2⟩, h3⟩,
                              h4⟩, h5⟩, h6⟩, h7⟩, h8⟩ := h
      obtain ⟨p', e, gl⟩ := c.bn h1
      subst e
      have e1 := of_decide_eq_true h2
      have e2 := of_decide_eq_true h3
      have e3 := of_decide_eq_true h4
      subst e1 e2 e3
      exact OkE.plain c.fit (rx_isSeq c.fit gl (c.blt _ (by decide)) (c.gl h5) (c.blt _ (by decide)) (c.gl h6) (c.blt _ (by decide)) h7 (okE a _ K X C h8 c).at_.pe) rfl rfl
    · cases h
  | .bin op a b, x, K, X, C, h, c => by
    unfold ckE at h
    split at h
    · rw [Bool.and_eq_true, Bool.and_eq_true] at h
      exact ok_bin c.fit (of_decide_eq_true h.1.1) (okE a _ K X C h.1.2 c).at_.pe (okE b _ K X C h.2 c).at_.pe
    · rw [Bool.and_eq_true, Bool.and_eq_true, Bool.and_eq_true] at h
      exact ok_cmp c.fit c.hu (of_decide_eq_true h.1.1.1) h.1.1.2 (okE a _ K X C h.1.2 c).at_.pe (okE b _ K X C h.2 c).at_.pe
    · rw [Bool.and_eq_true, Bool.and_eq_true, Bool.and_eq_true] at h
      have e := of_decide_eq_true h.1.1.1
      subst e
      exact ok_idx c.fit h.1.1.2 (okE a _ K X C h.1.2 c).at_.pe (okE b _ K X C h.2 c).at_.pe
    · rw [Bool.and_eq_true, Bool.and_eq_true, Bool.and_eq_true, Bool.and_eq_true, Bool.and_eq_true] at h
      obtain ⟨⟨⟨⟨⟨h1, h2⟩, h3⟩, h4⟩, h5⟩, h6⟩ := h
      have e1 := of_decide_eq_true h1
      have e2 := of_decide_eq_true h2
      subst e1 e2
      have q := (okE b _ K X C h6 c).at_.pe
      split at h3
      · have e3 := of_decide_eq_true h3
        subst e3
        exact OkE.plain c.fit (rx_join q h4 h5) rfl rfl
      · cases h3
    · cases h
  | .and a b, x, K, X, C, h, c => by
    unfold ckE at h
    split at h
    · rename_i y z rest pos
      rw [Bool.and_eq_true] at h
      have qa := okE a _ K X C h.1 c
      have h2 := h.2
      split at h2
      · have qb := okE b _ K X C h2 c
        have w := rw_and (pos := pos) qa.pt (pw_and1 qb.pt)
        exact ⟨AtP.of c.fit (rx_and qa.at_.pe (pe_one qb.at_.pe)) rfl, w.pt, fun op es p e => by cases e; exact w⟩
      · have qb := okE b _ K X C h2 c
        have w := rw_and (pos := pos) qa.pt (qb.pw _ _ _ rfl)
        exact ⟨AtP.of c.fit (rx_and qa.at_.pe qb.at_.pe) rfl, w.pt, fun op es p e => by cases e; exact w⟩
    · cases h
  | .or a b, x, K, X, C, h, c => by
    unfold ckE at h
    split at h
    · rename_i y z rest pos
      rw [Bool.and_eq_true] at h
      have qa := okE a _ K X C h.1 c
      have h2 := h.2
      split at h2
      · have qb := okE b _ K X C h2 c
        have w := rw_or (pos := pos) qa.pt (pw_or1 qb.pt)
        exact ⟨AtP.of c.fit (rx_or qa.at_.pe (pe_one qb.at_.pe)) rfl, w.pt, fun op es p e => by cases e; exact w⟩
      · have qb := okE b _ K X C h2 c
        have w := rw_or (pos := pos) qa.pt (qb.pw _ _ _ rfl)
        exact ⟨AtP.of c.fit (rx_or qa.at_.pe qb.at_.pe) rfl, w.pt, fun op es p e => by cases e; exact w⟩
    · cases h
  | .ite a b d, x, K, X, C, h, c => by
    unfold ckE at h
    split at h
    · rw [Bool.and_eq_true, Bool.and_eq_true] at h
      have qa := okE a _ K X C h.1.1 c
      have qb := okE b _ K X C h.1.2 c
      have qd := okE d _ K X C h.2 c
      exact ⟨AtP.of c.fit (rx_ite qa.pt qb.at_.pe qd.at_.pe) rfl, rt_ite qa.pt qb.pt qd.pt, fun _ _ _ e => by cases e⟩
    · cases h
  | .sl a lo hi, x, K, X, C, h, c => by
    unfold ckE at h
    split at h
    · rw [Bool.and_eq_true, Bool.and_eq_true] at h
      exact OkE.plain c.fit (rx_sl c.fit (okE a _ K X C h.1.1 c).at_.pe (okE lo _ K X C h.1.2 c).at_.pe (okE hi _ K X C h.2 c).at_.pe) rfl rfl
    · cases h
  | .slf a lo, x, K, X, C, h, c => by
    unfold ckE at h
    split at h
    · rw [Bool.and_eq_true] at h
      exact OkE.plain c.fit (rx_slf c.fit (okE a _ K X C h.1 c).at_.pe (okE lo _ K X C h.2 c).at_.pe) rfl rfl
    · cases h
  | .call f as, x, K, X, C, h, c => by
    unfold ckE at h
    split at h
    · rw [Bool.and_eq_true, Bool.and_eq_true] at h
      obtain ⟨nm, p, e, ck, gl, hd⟩ := c.fnm h.1.1
      subst e
      exact OkE.plain c.fit (PE.imp (rx_call (c.wd ▸ ck) (c.hr.mono (Nat.le_succ _)) (pass_no c.nox) gl hd h.1.2 (as_nil as _ K h.2) (okA as _ K X C h.2 c)) cl_val) rfl rfl
    · cases h
  | .pop i, x, K, X, C, h, c => by
    unfold ckE at h
    split at h
    · rw [Bool.and_eq_true, Bool.and_eq_true] at h
      have e := of_decide_eq_true h.1.1
      subst e
      obtain ⟨h1, h2⟩ := c.vis h.1.2
      exact OkE.plain c.fit (rx_pop h1 (name_base h2 _ _) h.2) rfl rfl
    · cases h
theorem okEs : ∀ (es : Es) (xs : List Expr) (K : Kt) (X : Cx) (C : RC), ckEs K es xs = true → Kx CX k rn W X C K → PA X xs (tL C (evs rn es))
  | .nil, xs, K, X, C, h, c => by
    unfold ckEs at h
    split at h
    · exact pl_nil
    · cases h
  | .cons e es, xs, K, X, C, h, c => by
    unfold ckEs at h
    split at h
    · rw [Bool.and_eq_true, Bool.and_eq_true] at h
      exact pl_cons h.1.1 (okE e _ K X C h.1.2 c).at_.pe (okEs es _ K X C h.2 c)
    · cases h
theorem okA : ∀ (as : As) (xs : List Expr) (K : Kt) (X : Cx) (C : RC), ckA K as xs = true → Kx CX k rn W X C K → PA X xs (tA C (evA rn as))
  | .nil, xs, K, X, C, h, c => by
    unfold ckA at h
    split at h
    · exact pA_nil
    · cases h
  | .v e as, xs, K, X, C, h, c => by
    unfold ckA at h
    split at h
    · rw [Bool.and_eq_true, Bool.and_eq_true] at h
      exact pA_v h.1.1 (okE e _ K X C h.1.2 c).at_.pe (okA as _ K X C h.2 c)
    · cases h
  | .io i as, xs, K, X, C, h, c => by
    unfold ckA at h
    split at h
    · rw [Bool.and_eq_true] at h
      obtain ⟨h1, h2⟩ := c.vis h.1
      exact pA_i (.inl rfl) h2 h1 (okA as _ K X C h.2 c)
    · cases h
  | .sc i as, xs, K, X, C, h, c => by
    unfold ckA at h
    split at h
    · rw [Bool.and_eq_true] at h
      obtain ⟨h1, h2⟩ := c.vis h.1
      exact pA_i (.inr rfl) h2 h1 (okA as _ K X C h.2 c)
    · cases h
theorem okN : ∀ (n : N) (x : Expr) (K : Kt) (X : Cx) (C : RC), ckN K n x = true → Kx CX k rn W X C K → AtP X x (tN C (evN rn n))
  | .lst es, x, K, X, C, h, c => by
    unfold ckN at h
    split at h
    · exact AtP.of c.fit (rn_lst (okEs es _ K X C h c)) rfl
    · cases h
  | .lc elt tg src cd vs, x, K, X, C, h, c => by
    unfold ckN at h
    split at h
    · rename_i y t it ifs n s p
      rw [Bool.and_eq_true, Bool.and_eq_true, Bool.and_eq_true, Bool.and_eq_true, Bool.and_eq_true, Bool.and_eq_true, Bool.and_eq_true] at h
      obtain ⟨⟨⟨⟨⟨⟨⟨h1, h2⟩, h3⟩,
                              h4⟩, h5⟩, h6⟩, h7⟩, h8⟩ := h
      have e := of_decide_eq_true h1
      subst e
      have bo := c.blkOk h2
      have q := at_lc (own := ownOf K vs) (pos := p) c.fit c.kind (okSrc src t it K X C h4 c) bo
        (fun sh H Cc cl fp C' hW => (c.blk bo.kind sh H Cc cl fp hW).tg h5)
        (fun sh H Cc cl fp C' hW => okC cd ifs (K.blk s) _ C' h6 (c.blk bo.kind sh H Cc cl fp hW))
        (fun sh H Cc cl fp C' hW => tX.val (okE elt y (K.blk s) _ C' h7 (c.blk bo.kind sh H Cc cl fp hW)).at_.pe)
        (noSet_fold h3 _) (fun j hj => tgs_own h8 j (tgs_mem.mpr hj))
      rw [ownOf_snd] at q
      exact q
    · cases h
  | .dc kk v tg src cd vs, x, K, X, C, h, c => by
    unfold ckN at h
    split at h
    · rename_i kx vx t it ifs n s p
      rw [Bool.and_eq_true, Bool.and_eq_true, Bool.and_eq_true, Bool.and_eq_true, Bool.and_eq_true, Bool.and_eq_true, Bool.and_eq_true, Bool.and_eq_true] at h
      obtain ⟨⟨⟨⟨⟨⟨⟨⟨h1, h2⟩, h3⟩, h4⟩,
                              h5⟩, h6⟩, h7⟩, h8⟩, h9⟩ := h
      have e := of_decide_eq_true h1
      subst e
      have bo := c.blkOk h2
      have q := at_dc (own := ownOf K vs) (pos := p) c.fit c.hu c.kind (okSrc src t it K X C h4 c) bo
        (fun sh H Cc cl fp C' hW => (c.blk bo.kind sh H Cc cl fp hW).tg h5)
        (fun sh H Cc cl fp C' hW => okC cd ifs (K.blk s) _ C' h6 (c.blk bo.kind sh H Cc cl fp hW))
        (fun sh H Cc cl fp C' hW => tX.val (okE kk kx (K.blk s) _ C' h7 (c.blk bo.kind sh H Cc cl fp hW)).at_.pe)
        (fun sh H Cc cl fp C' hW => tX.val (okE v vx (K.blk s) _ C' h8 (c.blk bo.kind sh H Cc cl fp hW)).at_.pe)
        (noSet_fold h3 _) (fun j hj => tgs_own h9 j (tgs_mem.mpr hj))
      rw [ownOf_snd] at q
      exact q
    · cases h
  | .dc2 kk v tg src tg2 src2 vs, x, K, X, C, h, c => by
    unfold ckN at h
    split at h
    · rename_i kx vx t it n t2 it2 n2 s p
      rw [Bool.and_eq_true, Bool.and_eq_true, Bool.and_eq_true, Bool.and_eq_true, Bool.and_eq_true, Bool.and_eq_true, Bool.and_eq_true, Bool.and_eq_true, Bool.and_eq_true, Bool.and_eq_true, Bool.and_eq_true, Bool.and_eq_true] at h
      obtain ⟨⟨⟨⟨⟨⟨⟨⟨⟨⟨⟨⟨h1, h1'⟩, h2⟩, h3⟩, h3'⟩, h4⟩, h5⟩, h6⟩, h6'⟩, h7⟩, h8⟩, h9⟩, h10⟩ := h
      have e := of_decide_eq_true h1
      have e' := of_decide_eq_true h1'
      subst e e'
      have bo := c.blkOk h2
      have q := at_dc2 (own := ownOf K vs) (pos := p) c.fit c.hu c.kind (okSrc src t it K X C h4 c) bo
        (fun sh H Cc cl fp C' hW => (c.blk bo.kind sh H Cc cl fp hW).tg h5)
        (fun sh H Cc cl fp C' hW => okSrc src2 t2 it2 (K.blk s) _ C' h6 (c.blk bo.kind sh H Cc cl fp hW))
        (fun sh H Cc cl fp C' hW => (c.blk bo.kind sh H Cc cl fp hW).tg h6')
        (fun sh H Cc cl fp C' hW => tX.val (okE kk kx (K.blk s) _ C' h7 (c.blk bo.kind sh H Cc cl fp hW)).at_.pe)
        (fun sh H Cc cl fp C' hW => tX.val (okE v vx (K.blk s) _ C' h8 (c.blk bo.kind sh H Cc cl fp hW)).at_.pe)
        (noSet_fold h3 _) (fun env => noSet_fold h3' env) (fun j hj => tgs_own h9 j hj) (fun j hj => tgs_own h10 j hj)
      rw [ownOf_snd] at q
      exact q
    · cases h
  | .toL a, x, K, X, C, h, c => by
    unfold ckN at h
    split at h
    · rw [Bool.and_eq_true, Bool.and_eq_true] at h
      obtain ⟨p, e, gl⟩ := c.bn h.1.1
      subst e
      exact AtP.of c.fit (n1_run (okE a _ K X C h.2 c).at_.pe fun q => PE.imp (pe_callTy (rn_toL c.fit) gl (c.blt _ (by decide)) (by decide +kernel) (pa_cons q pa_nil (star_of h.1.2 [] _)) (by decide) (by decide) (star_of h.1.2 [] _) rfl) fun σ H Q ⟨env, F, R, y, env1, hg, kk⟩ => ⟨env, F, R, y, env1, hg, fun v H' F' R' s o => ⟨v, rfl, kk v H' F' R' s o⟩⟩) rfl
    · cases h
  | .keysL a, x, K, X, C, h, c => by
    unfold ckN at h
    split at h
    · rw [Bool.and_eq_true, Bool.and_eq_true] at h
      obtain ⟨p, e, gl⟩ := c.bn h.1.1
      subst e
      exact AtP.of c.fit (n1_run (okE a _ K X C h.2 c).at_.pe fun q => PE.imp (pe_callTy (rn_keys c.fit) gl (c.blt _ (by decide)) (by decide +kernel) (pa_cons q pa_nil (star_of h.1.2 [] _)) (by decide) (by decide) (star_of h.1.2 [] _) rfl) fun σ H Q ⟨env, F, R, y, env1, hg, kk⟩ => ⟨env, F, R, y, env1, hg, fun v H' F' R' s o => ⟨v, rfl, kk v H' F' R' s o⟩⟩) rfl
    · cases h
  | .vals i, x, K, X, C, h, c => by
    unfold ckN at h
    split at h
    · rw [Bool.and_eq_true, Bool.and_eq_true, Bool.and_eq_true] at h
      obtain ⟨⟨⟨h1, h2⟩,
                              h3⟩, h4⟩ := h
      obtain ⟨p, e, gl⟩ := c.bn h1
      have e2 := of_decide_eq_true h2
      subst e e2
      obtain ⟨g1, g2⟩ := c.vis h3
      exact AtP.of c.fit (rn_vals c.fit g1 (name_base g2 _ _) h4 gl (c.blt _ (by decide))) rfl
    · cases h
  | .cat a b, x, K, X, C, h, c => by
    unfold ckN at h
    split at h
    · rw [Bool.and_eq_true] at h
      exact AtP.of c.fit (n2_run (okE a _ K X C h.1 c).at_.pe (okE b _ K X C h.2 c).at_.pe fun qa qb => pe_op rn_cat qa qb) rfl
    · cases h
  | .dnew, x, K, X, C, h, c => by
    unfold ckN at h
    split at h
    · exact AtP.of c.fit (rn_dnew c.fit) rfl
    · cases h
  | .srt a, x, K, X, C, h, c => by
    unfold ckN at h
    cases h
  | .srtk a f, x, K, X, C, h, c => by
    unfold ckN at h
    split at h
    · rw [Bool.and_eq_true, Bool.and_eq_true, Bool.and_eq_true, Bool.and_eq_true] at h
      obtain ⟨⟨⟨⟨h1, h2⟩, h3⟩, h4⟩, h5⟩ := h
      obtain ⟨p, e, gl⟩ := c.bn h1
      have e2 := of_decide_eq_true h2
      obtain ⟨nm, p', e3, ck, gf, hd⟩ := c.fnm h3
      subst e e2 e3
      exact AtP.of c.fit (rn_srtk c.fit (c.wd ▸ ck) c.hr c.nox c.hu gl (c.blt _ (by decide)) gf hd h4 (okE a _ K X C h5 c).at_.pe) rfl
    · cases h
  | .call f as, x, K, X, C, h, c => by
    unfold ckN at h
    split at h
    · rw [Bool.and_eq_true, Bool.and_eq_true] at h
      obtain ⟨nm, p, e, ck, gl, hd⟩ := c.fnm h.1.1
      subst e
      exact AtP.of c.fit (PE.imp (rx_call (c.wd ▸ ck) (c.hr.mono (Nat.le_succ _)) (pass_no c.nox) gl hd h.1.2 (as_nil as _ K h.2) (okA as _ K X C h.2 c)) cl_own) rfl
    · cases h
theorem okSrc : ∀ (s : Src) (t x : Expr) (K : Kt) (X : Cx) (C : RC), ckSrc K s t x = true → Kx CX k rn W X C K → PI X t x (tSrc C (evSrc rn s))
  | .seq e, t, x, K, X, C, h, c => is_seq c.fit (okE e x K X C h c).at_.pe
  | .scr i, t, x, K, X, C, h, c => by
    replace h : visB K i x = true := h
    cases x <;> first | (cases h; done) | skip
    rename_i nm p
    have h' : (decide (K.N[i]? = some nm) && (match K.sc.names.lookup nm with | some .local => true | some .cell => true | some .free => true | _ => false) && !(nm == ("__debug__" : Str)) && !(nm == ("__classdict__" : Str))) = true := h
    rw [Bool.and_eq_true, Bool.and_eq_true, Bool.and_eq_true] at h'
    obtain ⟨⟨⟨h1, h2⟩, h3⟩, h4⟩ := h'
    refine is_scr c.fit (by rw [c.N]; exact of_decide_eq_true h1) ?_ (by simpa using h3) (by simpa using h4)
    unfold Vis
    rw [c.sc]
    split at h2
    · rename_i q; exact .inl q
    · rename_i q; exact .inr (.inl q)
    · rename_i q; exact .inr (.inr q)
    · cases h2
  | .rng e, t, x, K, X, C, h, c => by
    unfold ckSrc at h
    split at h
    · rw [Bool.and_eq_true, Bool.and_eq_true] at h
      obtain ⟨p, e1, gl⟩ := c.bn h.1.1
      subst e1
      exact is_rng c.fit gl (c.blt _ (by decide)) h.1.2 (tX.val (okE e _ K X C h.2 c).at_.pe)
    · cases h
  | .rng2 a b, t, x, K, X, C, h, c => by
    unfold ckSrc at h
    split at h
    · rw [Bool.and_eq_true, Bool.and_eq_true, Bool.and_eq_true, Bool.and_eq_true] at h
      obtain ⟨⟨⟨⟨h1, h2⟩, h3⟩, h4⟩, h5⟩ := h
      obtain ⟨p, e1, gl⟩ := c.bn h1
      subst e1
      exact is_rng2 c.fit gl (c.blt _ (by decide)) h2 h3 (tX.val (okE a _ K X C h4 c).at_.pe) (tX.val (okE b _ K X C h5 c).at_.pe)
    · cases h
  | .enum e, t, x, K, X, C, h, c => by
    unfold ckSrc at h
    split at h
    · rw [Bool.and_eq_true, Bool.and_eq_true, Bool.and_eq_true] at h
      obtain ⟨⟨⟨h1, h2⟩,
                              h3⟩, h4⟩ := h
      obtain ⟨p, e1, gl⟩ := c.bn h2
      subst e1
      cases t <;> first | (cases h1; done) | skip
      exact is_enum c.fit gl (c.blt _ (by decide)) h3 (okE e _ K X C h4 c).at_.pe
    · cases h
theorem okC : ∀ (d : Cd) (xs : List Expr) (K : Kt) (X : Cx) (C : RC), ckC K d xs = true → Kx CX k rn W X C K → PTs X xs (tTt C (evC rn d))
  | .no, xs, K, X, C, h, c => by
    unfold ckC at h
    split at h
    · exact ⟨fun pins s σ H Q I ⟨env, F, R, b, env', hg, kk⟩ => by
        cases hg
        exact pts_nil.run pins s σ H Q I (kk H F R Step.refl)⟩
    · cases h
  | .on e, xs, K, X, C, h, c => by
    unfold ckC at h
    split at h
    · exact pts_one (okE e _ K X C h c).pt
    · cases h
end
end
end VE
/-! VE32: the checked form is sound: statements -/
namespace VE
open PySem PySem.Spec
                        PyProof.Rows L2

section
variable {CX : CXT} {k : Nat} {rn : Runner} {W : Wd}
mutual
theorem okS : ∀ (s : S) (x : Stmt) (K : Kt) (X : Cx) (C : RC), ckS K s x = true → Kx CX k rn W X C K → GP C → PS X x (tSt C (ex rn s))
  | .asg t e, x, K, X, C, h, c, gp => by
    unfold ckS at h
    split at h
    · rw [Bool.and_eq_true] at h
      obtain ⟨h1, h2⟩ := h
      have q := okE e _ K X C h2 c
      split at h1
      · rw [Bool.and_eq_true] at h1
        exact st_asg q.at_ (by rw [c.N, c.sc, c.fn]; exact h1.1) (by rw [c.sc]; exact h1.2)
      · rw [Bool.and_eq_true, Bool.and_eq_true] at h1
        exact st_asgT c.fit q.at_.pe (by rw [c.N, c.sc, c.fn]; exact h1.1.1) h1.1.2 (by
          have z := h1.2
          revert z
          rename_i v _ _ _ _ _ _ _ 
          cases v <;> first | (intro _; rfl) | (intro z; cases z))
      · cases h1
    · cases h
  | .own i n, x, K, X, C, h, c, gp => by
    unfold ckS at h
    split at h
    · rw [Bool.and_eq_true, Bool.and_eq_true] at h
      exact st_own (okN n _ K X C h.2 c) (by rw [c.N, c.sc, c.fn]; exact h.1.1) (by rw [c.sc]; exact h.1.2)
    · cases h
  | .aug _ _ _, x, K, X, C, h, c, gp => by unfold ckS at h; cases h
  | .setIx i ix e, x, K, X, C, h, c, gp => by
    unfold ckS at h
    split at h
    · rw [Bool.and_eq_true, Bool.and_eq_true, Bool.and_eq_true, Bool.and_eq_true] at h
      obtain ⟨⟨⟨⟨h1, h2⟩, h3⟩, h4⟩, h5⟩ := h
      obtain ⟨g1, g2⟩ := c.vis h1
      have qi := okE ix _ K X C h4 c
      have qe := okE e _ K X C h5 c
      clear h4
      rename_i o y _ v _
      cases y <;> first
        | (cases h2; done)
        | exact st_setIx g1 qi.at_.pe qe.at_.pe h3 rfl
    · cases h
  | .app i e, x, K, X, C, h, c, gp => by
    unfold ckS at h
    split at h
    · rw [Bool.and_eq_true, Bool.and_eq_true, Bool.and_eq_true, Bool.and_eq_true] at h
      obtain ⟨⟨⟨⟨h1, h2⟩, h3⟩, h4⟩, h5⟩ := h
      have e2 := of_decide_eq_true h2
      subst e2
      obtain ⟨g1, g2⟩ := c.vis h1
      exact st_app g1 (okE e _ K X C h5 c).at_.pe h4 (name_base g2 _ _) h3
    · cases h
  | .rev i, x, K, X, C, h, c, gp => by
    unfold ckS at h
    split at h
    · rw [Bool.and_eq_true, Bool.and_eq_true] at h
      obtain ⟨⟨h1, h2⟩, h3⟩ := h
      have e2 := of_decide_eq_true h2
      subst e2
      obtain ⟨g1, g2⟩ := c.vis h1
      exact st_rev g1 (name_base g2 _ _) h3
    · cases h
  | .sdapp i kk e, x, K, X, C, h, c, gp => by
    unfold ckS at h
    split at h
    · rw [Bool.and_eq_true, Bool.and_eq_true, Bool.and_eq_true, Bool.and_eq_true, Bool.and_eq_true, Bool.and_eq_true, Bool.and_eq_true, Bool.and_eq_true] at h
      obtain ⟨⟨⟨⟨⟨⟨⟨⟨h1, h2⟩, h3⟩, h4⟩,
                              h5⟩, h6⟩, h7⟩, h8⟩, h9⟩ := h
      have e2 := of_decide_eq_true h2
      have e3 := of_decide_eq_true h3
      subst e2 e3
      obtain ⟨g1, g2⟩ := c.vis h1
      split at h9
      · obtain ⟨v1, v2⟩ := c.vis h9
        exact st_sdapp c.fit c.hu g1 (okE kk _ K X C h8 c).at_.pe v1 h6 h7 (name_base g2 _ _) h4 h5
      · cases h9
    · cases h
  | .ife a p q, x, K, X, C, h, c, gp => by
    unfold ckS at h
    split at h
    · rw [Bool.and_eq_true, Bool.and_eq_true] at h
      exact st_ife (okE a _ K X C h.1.1 c).pt (okSs p _ K X C h.1.2 c gp) (okSs q _ K X C h.2 c gp)
    · cases h
  | .fr tg src body, x, K, X, C, h, c, gp => by
    unfold ckS at h
    split at h
    · rw [Bool.and_eq_true, Bool.and_eq_true, Bool.and_eq_true] at h
      obtain ⟨⟨⟨h1, h2⟩,
                              h3⟩, h4⟩ := h
      exact st_for c.fit gp (okSrc src _ _ K X C h2 c) (fun C' hW => (c.other hW).tg h3) (fun C' hC => okSs body _ K X C' h4 (c.other hC.1) hC.2) (noSet_fold h1 _)
    · cases h
  | .whl _ _ _, x, K, X, C, h, c, gp => by unfold ckS at h; cases h
  | .ret e, x, K, X, C, h, c, gp => by
    unfold ckS at h
    split at h
    · exact st_ret (okE e _ K X C h c).at_.pe
    · cases h
  | .retO i, x, K, X, C, h, c, gp => by
    unfold ckS at h
    split at h
    · exact st_retO gp (c.vis h).1
    · cases h
  | .exp _, x, K, X, C, h, c, gp => by unfold ckS at h; cases h
  | .frz _, x, K, X, C, h, c, gp => by unfold ckS at h; cases h
  | .pass, x, K, X, C, h, c, gp => by unfold ckS at h; cases h
  | .brk, x, K, X, C, h, c, gp => by unfold ckS at h; cases h
  | .cnt, x, K, X, C, h, c, gp => by unfold ckS at h; cases h
theorem okSs : ∀ (ss : Ss) (xs : List Stmt) (K : Kt) (X : Cx) (C : RC), ckSs K ss xs = true → Kx CX k rn W X C K → GP C → PSs X xs (tSt C (exs rn ss))
  | .nil, xs, K, X, C, h, c, gp => by
    unfold ckSs at h
    split at h
    · exact st_nil
    · cases h
  | .cons s ss, xs, K, X, C, h, c, gp => by
    by_cases hf : ∃ i, s = .frz i
    · obtain ⟨i, e⟩ := hf
      subst e
      exact st_frz (okSs ss xs K X C h c gp)
    · cases xs with
      | nil => exfalso; cases s <;> first | (cases h; done) | exact hf ⟨_, rfl⟩
      | cons x xs =>
        have h : (ckS K s x && ckSs K ss xs) = true := by cases s <;> first | exact h | exact absurd ⟨_, rfl⟩ hf
        rw [Bool.and_eq_true] at h
        exact st_cons (okS s x K X C h.1 c gp) (okSs ss xs K X C h.2 c gp)
end
end
end VE
/-! VE33: a def from its entry to its end -/
namespace VE
open PySem PySem.Spec
                        PyProof.Rows L2

section
variable {C C' : RC} {H H' : Hp} {vs : List V} {σ' : VE.St} {args outs : List Sl} {env' : Env} {F F' : Nat → List Addr}
/-- the slots behind the parameters -/
theorem Rel.pad (R : Rel C H (vs.map some) args F) (n : Nat) : Rel C H (vs.map some ++ List.replicate n none) (args ++ List.replicate n .no) F := by
  have hl := R.len
  refine ⟨by rw [List.length_append, List.length_append, hl, List.length_replicate, List.length_replicate], fun i s e => ?_, R.far, R.apart, R.zin, R.bin, fun i hi => R.out i (by rw [List.length_append] at hi; omega), fun p hp => ?_, R.young, fun p hp => ?_⟩
  · by_cases hi : i < args.length
    · rw [List.getElem?_append_left hi] at e
      rw [List.getElem?_append_left (by rw [hl]; exact hi)]
      exact R.sl i s e
    · rw [List.getElem?_append_right (by omega)] at e
      have := List.eq_of_mem_replicate (List.mem_of_getElem? e)
      subst this
      exact R.out i (by omega)
  · obtain ⟨h1, h2⟩ := R.pin p hp
    have hi := (List.getElem?_eq_some_iff.mp h1).1
    rw [List.getElem?_append_left hi, List.getElem?_append_left (by rw [← hl]; exact hi)]
    exact ⟨h1, h2⟩
  · have h1 := R.ln p hp
    have hi := (List.getElem?_eq_some_iff.mp h1).1
    rw [List.getElem?_append_left hi]
    exact h1
/-- what a def leaves in a parameter -/
def OutK (a s x : Sl) : Prop := (∃ o o', a = .own o true ∧ s = .own o' true ∧ x = .own o' true) ∨ ((∀ o, a ≠ .own o true) ∧ (∀ ds, a ≠ .lent ds) ∧ x = a)
theorem out1_spec {a s x : Sl} (h : out1 a s = some x) : OutK a s x := by
  cases a with
  | no => cases h; exact .inr ⟨nofun, nofun, rfl⟩
  | val d => cases h; exact .inr ⟨nofun, nofun, rfl⟩
  | scr ns => cases h; exact .inr ⟨nofun, nofun, rfl⟩
  | lent ds => cases h
  | own o p =>
    cases p with
    | false => cases h; exact .inr ⟨fun o e => (by cases e), nofun, rfl⟩
    | true =>
      cases s <;> first | (cases h; done) | skip
      rename_i o' p'
      cases p' <;> first | (cases h; done) | skip
      cases h
      exact .inl ⟨o, o', rfl, rfl, rfl⟩
theorem outs_spec : ∀ {args outs : List Sl} {env : Env}, outsOf args env = some outs → outs.length = args.length ∧ ∀ (k : Nat) (a : Sl), args[k]? = some a → ∃ s x, env[k]? = some s ∧ outs[k]? = some x ∧ OutK a s x
  | [], outs, env, h => by cases h; exact ⟨rfl, fun k a e => by simp at e⟩
  | a :: as, outs, [], h => by cases h
  | a :: as, outs, s :: env, h => by
    unfold outsOf at h
    cases q1 : out1 a s with
    | none => rw [q1] at h; cases h
    | some x =>
      cases q2 : outsOf as env with
      | none => rw [q1, q2] at h; cases h
      | some xs =>
        rw [q1, q2] at h
        cases h
        obtain ⟨i1, i2⟩ := outs_spec q2
        refine ⟨by simp [i1], fun k b e => ?_⟩
        cases k with
        | zero =>
          simp at e
          subst e
          exact ⟨s, x, rfl, rfl, out1_spec q1⟩
        | succ k =>
          obtain ⟨s', x', e1, e2, e3⟩ := i2 k b (by simpa using e)
          exact ⟨s', x', by simpa using e1, by simpa using e2, e3⟩
/-- what the own parameters own behind the run -/
def foOf (args : List Sl) (F' : Nat → List Addr) : Nat → List Addr := fun k => match args[k]? with
  | some (.own _ true) => F' k
  | _ => []
theorem foOf_sub {k : Nat} {a : Addr} (h : a ∈ foOf args F' k) : a ∈ F' k := by
  unfold foOf at h
  split at h
  · exact h
  · cases h
theorem rel_out (R : Rel C H (vs.map some) args F) (R' : Rel C' H' σ' env' F') (eW : C'.W = C.W) (eP : C'.pins = C.pins) (eN : C'.lents = []) (sub : ∀ a, C.Z a → C'.Z a)
    (st : Step H (Om F) H' (Om F')) (hn : ∀ a, C'.Z a → C.Z a ∨ H a = none) (hpin : ∀ (k : Nat) (o : O), args[k]? = some (Sl.own o true) → ∃ a, (k, a) ∈ C.pins) (hno : ∀ (k : Nat) (o : O), args[k]? ≠ some (Sl.own o false)) (hall : ∀ p ∈ C.pins, ∃ o, args[p.1]? = some (Sl.own o true)) (h : outsOf args env' = some outs) :
    Rel C' H' (vs.map some) outs (foOf args F') ∧ Step H (Om F) H' (Om (foOf args F')) := by
  obtain ⟨o1, o2⟩ := outs_spec h
  have hl := R.len
  have stO : Step H (Om F) H' (Om (foOf args F')) := st.less fun x ⟨j, hj⟩ => ⟨j, foOf_sub hj⟩
  have stT : Step H (Th F C.Z) H' (Th (foOf args F') C'.Z) := ⟨fun a o e nz => st.keep a o e fun z => nz (.inl z), st.tups, fun a z => by
    rcases z with z | z
    · exact (stO.news a z).imp .inl id
    · exact (hn a z).imp .inr id, st.dom, st.frz⟩
  have stL : Step H' (Th F' C'.Z) H' (Th (foOf args F') C'.Z) := ⟨fun _ _ e _ => e, fun _ _ e => e, fun a z => .inl (z.imp (fun ⟨j, hj⟩ => ⟨j, foOf_sub hj⟩) id), fun _ e => e, fun _ _ _ e => e⟩
  have arg : ∀ k, k < outs.length → ∃ a, args[k]? = some a := fun k hk => ⟨_, List.getElem?_eq_getElem (by omega)⟩
  have pinned : ∀ (k : Nat) (o : O), args[k]? = some (Sl.own o true) → ∃ a, (vs.map some)[k]? = some (some (.ref a)) ∧ σ'[k]? = some (some (.ref a)) := fun k o e => by
    obtain ⟨a, ha⟩ := hpin k o e
    exact ⟨a, (R.pin _ ha).1, (R'.pin (k, a) (by rw [eP]; exact ha)).1⟩
  refine ⟨⟨by rw [o1]; exact hl, fun k s e => ?_, fun i j a h1 h2 => R'.far i j a (foOf_sub h1) (foOf_sub h2), fun i a h1 => R'.apart i a (foOf_sub h1), R'.zin, R'.bin, fun i hi => ?_, fun p hp => ?_, fun i a h1 => R'.young i a (foOf_sub h1), fun p hp => by rw [eN] at hp; cases hp⟩, stO⟩
  · obtain ⟨a, ha⟩ := arg k (List.getElem?_eq_some_iff.mp e).1
    obtain ⟨s', x, e1, e2, ok⟩ := o2 k a ha
    rw [e] at e2
    cases e2
    rcases ok with ⟨o, o', rfl, rfl, rfl⟩ | ⟨n1, n2, rfl⟩
    · obtain ⟨ad, p1, p2⟩ := pinned k o ha
      obtain ⟨a2, q1, q2⟩ := R'.sl k _ e1
      rw [p2] at q1
      cases q1
      have ef : foOf args F' k = F' k := by unfold foOf; rw [ha]
      refine ⟨ad, p1, ?_⟩
      rw [ef]
      exact q2.step stL fun _ _ _ q => q
    · have ef : foOf args F' k = [] := by
        unfold foOf
        split
        · rename_i o q; rw [ha] at q; exact absurd (Option.some.inj q) (n1 o)
        · rfl
      have r0 := R.sl k _ ha
      rw [ef]
      cases s with
      | no => rfl
      | val d =>
        obtain ⟨_, v, q1, q2⟩ := r0
        exact ⟨rfl, v, q1, by rw [eW]; exact q2.step stT⟩
      | own o p =>
        cases p with
        | true => exact absurd rfl (n1 o)
        | false => exact absurd ha (hno k o)
      | lent ds => exact absurd rfl (n2 ds)
      | scr ns =>
        obtain ⟨_, ad, q1, q2⟩ := r0
        refine ⟨rfl, ad, q1, ?_⟩
        rw [eW]
        exact q2.imp (fun ⟨o, q⟩ => ⟨o, st.frz _ _ _ q⟩) id
  · unfold foOf
    rw [List.getElem?_eq_none
                            (by omega)]
  · rw [eP] at hp
    obtain ⟨o, ho⟩ := hall p hp
    obtain ⟨s', x, e1, e2, ok⟩ := o2 p.1 _ ho
    rcases ok with ⟨o2', o', h1, rfl, rfl⟩ | ⟨n1, _, _⟩
    · exact ⟨(R.pin p hp).1, by rw [e2]; trivial⟩
    · exact absurd rfl (n1 o)
end
end VE
/-! VE34: a def keeps its promise -/
namespace VE
open PySem PySem.Spec
                        PyProof.Rows L2

/-- a def stands behind the top, and says what the runner says -/
def CallG (P : Program) (w : World) (K : PySem.W.Frag) (mg : Str → Option Value) (base : Heap) (k : Nat) (W : Wd) (rn : Runner) (nm : Str) (id : Nat) : Prop :=
  ∃ fa fd ps, mg nm = some (.ref fa) ∧ PySem.W.keepIn K (.ref fa) = true ∧ FnOk P w K mg base CX0 k fa fd ps (spRun W rn id) ∧ Binds K fd ps []
theorem fin_inv {args outs : List Sl} {r r' : Ret} {env : Env} (h : fin args r env = .ok (r', outs)) : r' = r ∧ outsOf args env = some outs := by
  obtain ⟨o, h1, h2⟩ := rbind (show (Rs.of (outsOf args env) >>= _) = _ from h)
  cases h2
  exact ⟨rfl, rof h1⟩
section
variable {P : Program} {w : World} {K : PySem.W.Frag} {mg : Str → Option Value} {base : Heap} {W : Wd} {T : Nat → Option FD} {ft : List Str}
theorem fn_zero {id : Nat} {f : Addr} {fd : FuncData} {ps : List Str} : FnOk P w K mg base CX0 0 f fd ps (spRun W (run T 0) id) :=
  ⟨fun vs H Q E ⟨C, args, F, r, outs, _, _, _, _, _, _, _, _, h, _⟩ => (by cases h), fun A outer s H args us vs Q E _ _ _ _ ⟨C, as, F, r, outs, _, _, _, _, _, _, _, _, h, _⟩ => (by cases h)⟩
theorem run_inv {j id : Nat} {fd : FD} (hT : T id = some fd) {args outs : List Sl} {r : Ret} (h : run T (j + 1) id args = .ok (r, outs)) : args.length = fd.np ∧ ∃ fl, exs (run T j) fd.body (args ++ List.replicate (fd.n - fd.np) .no) = .ok fl ∧
    ((∃ env, fl = .nx env ∧ r = .val .none ∧ outsOf args env = some outs) ∨ ∃ env, fl = .rt r env ∧ outsOf args env = some outs) := by
  unfold run at h
  rw [hT] at h
  have h : (if args.length = fd.np then (exs (run T j) fd.body (args ++ List.replicate (fd.n - fd.np) .no) >>= fun fl => match fl with
      | .nx env => fin args (.val .none) env
      | .rt r env => fin args r env
      | _ => .bad) else .bad) = .ok (r, outs) := h
  by_cases hl : args.length = fd.np
  · rw [if_pos hl] at h
    obtain ⟨fl, h1, h2⟩ := rbind h
    refine ⟨hl, fl, h1, ?_⟩
    cases fl with
    | nx env => obtain ⟨e, h3⟩ := fin_inv h2; exact .inl ⟨env, rfl, e, h3⟩
    | rt r' env => obtain ⟨e, h3⟩ := fin_inv h2; exact .inr ⟨env, by rw [e], h3⟩
    | bk env => cases h2
    | ct env => cases h2
  · rw [if_neg hl] at h; cases h
theorem fn_step (hP : W.P = P) (hw : W.w = w) (hK : W.K = K) {j : Nat} (ih : ∀ (id : Nat) (nm : Str), ft[id]? = some nm → CallG P w K mg base (2 * j) W (run T j) nm id) {id : Nat} {nm : Str} {st : Stmt} {f : Addr} {fdata : FuncData} {N ps : List Str} {fd : FD}
    (Fu : Fun K nm nm st f fdata) (S : FnScope N ps (defScope st)) (hT : T id = some fd) (hps : ps.length = fd.np) (hN : N.length = fd.n) (ck : ckSs ⟨N, defScope st, fun _ => true, ft⟩ fd.body (defBody st) = true) (blt : ∀ b ∈ bns, mg b = none) :
    FnOk P w K mg base CX0 (2 * (j + 1)) f fdata ps (spRun W (run T (j + 1)) id) := by
  show FnOk P w K mg base CX0 (2 * j + 1 + 1) f fdata ps (spRun W (run T (j + 1)) id)
  refine Fu.ok S (fun vs H Q E ⟨C, args, F, r, outs, _, _, _, _, _, _, _, R, h, _⟩ => ?_) fun cdv A outer s H vs Q E hr ⟨C, args, F, r, outs, eW, eN, hB, eG, hpin, hno, hall, R, h, k⟩ => ?_
  · have := R.len
    rw [List.length_map] at this
    rw [this, (run_inv hT h).1, hps]
  · obtain ⟨hl, fl, hfl, hend⟩ := run_inv hT h
    have hlen : vs.length = args.length := by have := R.len; rw [List.length_map] at this; exact this
    have houts : ∃ env, outsOf args env = some outs := by
      rcases hend with ⟨env, _, _, q⟩ | ⟨env, _, q⟩ <;> exact ⟨env, q⟩
    obtain ⟨env0, hout0⟩ := houts
    have gp : GP C := fun i b hb => by
      rw [eG] at hb
      cases q : args[i]? with
      | none => rw [R.out i (List.getElem?_eq_none_iff.mp q)] at hb; cases hb
      | some s =>
        have r := R.sl i s q
        cases s with
        | no => rw [show F i = [] from r] at hb; cases hb
        | val d => rw [r.1] at hb; cases hb
        | scr ns => rw [r.1] at hb; cases hb
        | own o p =>
          cases p with
          | true => exact hpin i o q
          | false => exact absurd q (hno i o)
        | lent ds =>
          obtain ⟨s', x, _, _, ok⟩ := (outs_spec hout0).2 i _ q
          rcases ok with ⟨_, _, e, _⟩ | ⟨_, n2, _⟩
          · cases e
          · exact absurd rfl (n2 ds)
    refine ⟨tSt C (exs (run T j) fd.body), okSs (CX := CX0) (k := 2 * j) (W := W) fd.body _ ⟨N, defScope st, fun _ => true, ft⟩ _ C ck ⟨⟨by rw [eW]; exact hP, by rw [eW]; exact hw, by rw [eW]; exact hK, rfl, S.nd, PassesOwn.never⟩, eW, rfl, rfl, rfl, S.kind, ?_, hr, fun _ _ _ _ _ z => z, blt, ih⟩ gp, ?_⟩
    · have := hr.un
      show (A.deeper _).units + 66 < cLine
      omega
    · refine ⟨args ++ List.replicate (fd.n - fd.np) .no, F, ?_, fl, hfl, ?_⟩
      · have e : L2.start N vs = vs.map some ++ List.replicate (fd.n - fd.np) none := by
          unfold L2.start
          rw [hN, hlen, hl]
        rw [e]
        exact R.pad _
      · rcases hend with ⟨env, rfl, rfl, ho⟩ | ⟨env, rfl, ho⟩
        · intro σ' H' F' R' st'
          obtain ⟨R2, s2⟩ := rel_out R R' rfl rfl eN (fun _ z => z) st' (fun _ z => .inl z) hpin hno hall ho
          exact k .non H' _ ⟨R2, s2, .non⟩
        · intro v σ' H' F' rp
          cases r with
          | val d =>
            obtain ⟨R', st', dn⟩ := rp
            obtain ⟨R2, s2⟩ := rel_out R R' rfl rfl eN (fun _ z => z) st' (fun _ z => .inl z) hpin hno hall ho
            exact k v H' _ ⟨R2, s2, dn.less fun a z => z.imp (fun ⟨i, z⟩ => ⟨i, foOf_sub z⟩) fun y => y⟩
          | own o =>
            obtain ⟨a, fp, e, R', st', ow, hz⟩ := rp
            obtain ⟨R2, s2⟩ := rel_out (C' := C.more fp) R R' rfl rfl eN (fun _ z => .inl z) st' (fun b z => z.imp (fun y => y) fun z => Classical.byContradiction fun n => (hz b z).2 (hB b n)) hpin hno hall ho
            exact k v H' _ ⟨a, fp, e, R2, s2, ow.step ⟨fun _ _ e _ => e, fun _ _ e => e, fun x z => .inl (z.imp (fun ⟨i, z⟩ => ⟨i, foOf_sub z⟩) fun y => y), fun _ e => e, fun _ _ _ e => e⟩ (fun _ _ _ e => e), hz⟩
/-- all defs of a text keep their promises, at every level -/
structure DefG (K : PySem.W.Frag) (mg : Str → Option Value) (T : Nat → Option FD) (ft : List Str) (id : Nat) (nm : Str) : Prop where
  ex : ∃ (st : Stmt) (f : Addr) (fdata : FuncData) (N ps : List Str) (fd : FD), Fun K nm nm st f fdata ∧ mg nm = some (.ref f) ∧ PySem.W.keepIn K (.ref f) = true ∧ Binds K fdata ps [] ∧ FnScope N ps (defScope st) ∧ T id = some fd ∧ ps.length = fd.np ∧ N.length = fd.n ∧
    ckSs ⟨N, defScope st, fun _ => true, ft⟩ fd.body (defBody st) = true
theorem all_ok (hP : W.P = P) (hw : W.w = w) (hK : W.K = K) (blt : ∀ b ∈ bns, mg b = none) (D : ∀ (id : Nat) (nm : Str), ft[id]? = some nm → DefG K mg T ft id nm) : ∀ (j id : Nat) (nm : Str), ft[id]? = some nm → CallG P w K mg base (2 * j) W (run T j) nm id
  | 0, id, nm, h => by
    obtain ⟨st, f, fdata, N, ps, fd, F, m, kp, bi, S, hT, h1, h2, ck⟩ := (D id nm h).ex
    exact ⟨f, fdata, ps, m, kp, fn_zero, bi⟩
  | j + 1, id, nm, h => by
    obtain ⟨st, f, fdata, N, ps, fd, F, m, kp, bi, S, hT, h1, h2, ck⟩ := (D id nm h).ex
    exact ⟨f, fdata, ps, m, kp, fn_step hP hw hK (all_ok hP hw hK blt D j) F S hT h1 h2 ck blt, bi⟩
/-- the last one, at a level above none -/
theorem fn_last (hP : W.P = P) (hw : W.w = w) (hK : W.K = K) (blt : ∀ b ∈ bns, mg b = none) (D : ∀ (id : Nat) (nm : Str), ft[id]? = some nm → DefG K mg T ft id nm) {j id : Nat} {nm : Str} {st : Stmt} {f : Addr} {fdata : FuncData} {N ps : List Str} {fd : FD}
    (Fu : Fun K nm nm st f fdata) (S : FnScope N ps (defScope st)) (hT : T id = some fd) (hps : ps.length = fd.np) (hN : N.length = fd.n) (ck : ckSs ⟨N, defScope st, fun _ => true, ft⟩ fd.body (defBody st) = true) :
    FnOk P w K mg base CX0 (2 * (j + 1)) f fdata ps (spRun W (run T (j + 1)) id) := fn_step hP hw hK (all_ok hP hw hK blt D j) Fu S hT hps hN ck blt
end
end VE
/-! VE35: the law's own promise -/
namespace VE
open PySem PySem.Spec
                        PyProof.Rows L2

/-- what is asked of the law's def -/
def spLaw (K : PySem.W.Frag) : Sp := fun vs H Q _ => ∃ (a : Addr) (ns : List Int), vs = [.ref a] ∧ ns.length ≤ 63 ∧ (∀ z ∈ ns, Builtin.Int.intBits z ≤ 1048576) ∧ Only H ∧ SqL K H a (ns.map V.int) ∧ ∀ H', Q (.bl true) H'
section
variable {P : Program} {w : World} {K : PySem.W.Frag} {mg : Str → Option Value} {base : Heap} {T : Nat → Option FD}
/-- the plain law -/
def Plain (T : Nat → Option FD) (k id : Nat) : Prop := ∀ ns : List Int, ns.length ≤ 63 → (∀ z ∈ ns, Builtin.Int.intBits z ≤ 1048576) → ∃ outs, run T k id [.scr ns] = .ok (.val (.bool true), outs)
theorem law_ok {W : Wd} (hK : W.K = K) {k id : Nat} {f : Addr} {fd : FuncData} {ps : List Str} (F : FnOk P w K mg base CX0 (2 * k) f fd ps (spRun W (run T k) id)) (pl : Plain T k id) : FnOk P w K mg base CX0 (2 * k) f fd ps (spLaw K) :=
  F.imp fun vs H Q E ⟨a, ns, e, hl, hb, ho, hS, q⟩ => by
    subst e
    obtain ⟨outs, hr⟩ := pl ns hl hb
    refine ⟨⟨W, fun _ => False, fun _ => False, fun a => H a ≠ none, fun _ => [], [], [], fun _ h => h.elim⟩, [.scr ns], fun _ => [], _, outs, rfl, rfl, fun _ z => z, rfl, fun k o e => ?_, fun k o e => ?_, fun p hp => (by cases hp), ⟨rfl, fun i s e => ?_, fun _ _ _ h => (by cases h), fun _ _ h => (by cases h), fun _ z => z.elim, fun _ z => z, fun _ _ => rfl, fun p hp => (by cases hp), fun _ _ h => (by cases h), fun p hp => (by cases hp)⟩, hr, fun v H' F' ⟨_, _, dn⟩ => ?_⟩
    · cases k with
      | zero => cases e
      | succ k => simp at e
    · cases k with
      | zero => cases e
      | succ k => simp at e
    · cases i with
      | zero =>
        cases e
        refine ⟨rfl, a, rfl, ?_⟩
        rcases hS with (hS | ⟨o, hS⟩) | hS
        · rcases ho a with z | ⟨o, xs, z⟩ <;> rw [hS] at z <;> cases z
        · exact .inl ⟨o, hS⟩
        · exact .inr (.inr (by rw [hK]; exact hS))
      | succ i => simp at e
    · cases dn
      exact q H'
end
end VE
/-! VE36: the evaluator on plain data -/
namespace VE
open PySem

theorem ok_bind {α β : Type} (a : α) (f : α → Rs β) : (Rs.ok a >>= f) = f a := rfl
theorem of_some {α : Type} (a : α) : Rs.of (some a) = .ok a := rfl
/-- a comprehension whose turns leave the slots as they are -/
theorem lcGo_pure {f : D → Env → Rs (Option D × Env)} {r : D → Option D} : ∀ {ds acc : List D} {env : Env}, (∀ d ∈ ds, f d env = .ok (r d, env)) → lcGo f ds acc env = .ok (acc ++ ds.filterMap r, env)
  | [], acc, env, _ => by simp [lcGo]
  | d :: ds, acc, env, h => by
    have ih := fun acc => lcGo_pure (f := f) (r := r) (acc := acc) (ds := ds) (env := env) fun x hx => h x (List.mem_cons_of_mem _ hx)
    show (f d env >>= fun q => match q with | (r', env') => (match r' with | some x => lcGo f ds (acc ++ [x]) env' | none => lcGo f ds acc env')) = _
    rw [h d List.mem_cons_self, ok_bind]
    cases q : r d with
    | none =>
      rw [List.filterMap_cons_none q]
      exact ih acc
    | some x =>
      rw [List.filterMap_cons_some q]
      show lcGo f ds (acc ++ [x]) env = _
      rw [ih, List.append_assoc]
      rfl
end VE
namespace VE
open PySem
/-! the defs of the text as terms of VE; printed by vetr.py -/
def k78_cells_at : Ss := (.cons (.ret (.un .toTup (.nw (.lc (.bin .idx (.var 0) (.var 2)) (.nm 2) (.seq (.var 1)) .no [2]))))
  .nil)
def k78_cell_key : Ss := (.cons (.ife (.un .isInt (.var 0)) (.cons (.ret (.tup (.cons (.int 0) (.cons (.var 0) (.cons (.str ("" : Str)) .nil)))))
  .nil) .nil)
  (.cons (.ife (.un .isStr (.var 0)) (.cons (.ret (.tup (.cons (.int 1) (.cons (.int 0) (.cons (.var 0) .nil)))))
  .nil) .nil)
  (.cons (.ret (.tup (.cons (.int 2) (.cons (.bin .idx (.var 0) (.int 1)) (.cons (.str ("" : Str)) .nil)))))
  .nil)))
def k78_row_key : Ss := (.cons (.ret (.un .toTup (.nw (.lc (.call 1 (.v (.var 1) .nil)) (.nm 1) (.seq (.var 0)) .no [1]))))
  .nil)
def k78_fact_key : Ss := (.cons (.ret (.tup (.cons (.bin .idx (.var 0) (.int 0)) (.cons (.call 2 (.v (.bin .idx (.var 0) (.int 1)) .nil)) .nil))))
  .nil)
def k78_store_of : Ss := (.cons (.asg (.nm 1) (.nw (.dc (.var 2) (.bl true) (.nm 2) (.seq (.var 0)) .no [2])))
  (.cons (.ret (.un .toTup (.nw (.srtk (.nw (.keysL (.var 1))) 3))))
  .nil))
def k78_merged : Ss := (.cons (.asg (.nm 3) (.nw (.dc (.var 8) (.bl true) (.nm 8) (.seq (.var 0)) .no [8])))
  (.cons (.asg (.nm 4) (.nw (.dc (.var 8) (.bl true) (.nm 8) (.seq (.var 1)) .no [8])))
  (.cons (.asg (.nm 5) (.nw (.dc (.var 8) (.bl true) (.nm 8) (.seq (.var 2)) .no [8])))
  (.cons (.asg (.nm 6) (.nw (.lc (.var 8) (.nm 8) (.seq (.var 0)) (.on (.and (.bin .isin (.var 8) (.var 4)) (.bin .isin (.var 8) (.var 5)))) [8])))
  (.cons (.asg (.nm 7) (.nw (.lc (.var 8) (.nm 8) (.seq (.bin .add (.var 1) (.var 2))) (.on (.bin .notin (.var 8) (.var 3))) [8])))
  (.cons (.ret (.call 4 (.v (.bin .add (.var 6) (.var 7)) .nil)))
  .nil))))))
def k78_groups_of : Ss := (.cons (.own 2 .dnew)
  (.cons (.fr (.nm 3) (.seq (.var 0)) (.cons (.sdapp 2 (.call 0 (.v (.bin .idx (.var 3) (.int 1)) (.v (.var 1) .nil))) (.var 3))
  .nil))
  (.cons (.ret (.nw (.vals 2)))
  .nil)))
def k78_clashes_of_tie : Ss := (.cons (.asg (.tp [2, 3, 4]) (.var 1))
  (.cons (.own 5 (.lst .nil))
  (.cons (.fr (.nm 6) (.seq (.call 6 (.v (.nw (.lc (.var 8) (.nm 8) (.seq (.var 0)) (.on (.bin .eq (.bin .idx (.var 8) (.int 0)) (.var 2))) [8])) (.v (.var 3) .nil)))) (.cons (.fr (.tp [7, 8]) (.enum (.var 6)) (.cons (.fr (.nm 9) (.seq (.slf (.var 6) (.bin .add (.var 7) (.int 1)))) (.cons (.ife (.bin .ne (.call 0 (.v (.bin .idx (.var 8) (.int 1)) (.v (.var 4) .nil))) (.call 0 (.v (.bin .idx (.var 9) (.int 1)) (.v (.var 4) .nil)))) (.cons (.app 5 (.tup (.cons (.var 8) (.cons (.var 9) .nil))))
  .nil) .nil)
  .nil))
  .nil))
  .nil))
  (.cons (.frz 5)
  (.cons (.ret (.var 5))
  .nil)))))
def k78_pair_key : Ss := (.cons (.ret (.tup (.cons (.call 3 (.v (.bin .idx (.var 0) (.int 0)) .nil)) (.cons (.call 3 (.v (.bin .idx (.var 0) (.int 1)) .nil)) .nil))))
  .nil)
def k78_clashes_in : Ss := (.cons (.asg (.nm 2) (.nw (.dc2 (.var 4) (.bl true) (.nm 3) (.seq (.var 1)) (.nm 4) (.seq (.call 7 (.v (.var 0) (.v (.var 3) .nil)))) [3, 4])))
  (.cons (.ret (.un .toTup (.nw (.srtk (.nw (.keysL (.var 2))) 8))))
  .nil))
def k78_clashes : Ss := (.cons (.ret (.call 9 (.v (.call 5 (.v (.var 0) (.v (.var 1) (.v (.var 2) .nil)))) (.v (.var 3) .nil))))
  .nil)
def k78_keeps_all : Ss := (.cons (.ret (.bin .eq (.un .len (.call 9 (.v (.var 0) (.v (.var 1) .nil)))) (.int 0)))
  .nil)
def k78__law_draws : Ss := (.cons (.own 2 (.lc (.un .toInt (.var 8)) (.nm 8) (.scr 0) .no [8]))
  (.cons (.ife (.bin .eq (.un .len (.bor 2)) (.int 0)) (.cons (.app 2 (.int 0))
  .nil) .nil)
  (.cons (.own 3 (.toL (.bor 2)))
  (.cons (.own 4 (.lst .nil))
  (.cons (.fr (.nm 5) (.rng (.var 1)) (.cons (.asg (.nm 6) (.bin .mod (.var 5) (.un .len (.bor 2))))
  (.cons (.ife (.and (.bin .ge (.bin .idx (.bor 2) (.var 6)) (.bin .pow (.int 10) (.int 18))) (.bin .gt (.bin .idx (.bor 3) (.var 6)) (.int 0))) (.cons (.app 4 (.bin .mod (.un .toInt (.bin .idx (.bor 3) (.var 6))) (.int 1000)))
  (.cons (.setIx 3 (.var 6) (.bin .fdiv (.bin .idx (.bor 3) (.var 6)) (.int 1000)))
  .nil)) (.cons (.asg (.nm 7) (.bin .mod (.un .toInt (.bin .add (.bin .add (.bin .mul (.bin .idx (.bor 2) (.var 6)) (.int 48271)) (.bin .mul (.var 5) (.int 69621))) (.int 11))) (.int 2147483647)))
  (.cons (.app 4 (.bin .mod (.un .toInt (.bin .add (.bin .add (.bin .mul (.var 7) (.var 7)) (.bin .mul (.int 3) (.var 7))) (.var 5))) (.int 1000003)))
  .nil)))
  .nil)))
  (.cons (.rev 4)
  (.cons (.retO 4)
  .nil)))))))
def k78__law_take : Ss := (.cons (.ife (.bin .eq (.un .len (.bor 0)) (.int 0)) (.cons (.ret (.int 0))
  .nil) .nil)
  (.cons (.ret (.bin .mod (.un .toInt (.pop 0)) (.var 1)))
  .nil))
def k78__law_pick : Ss := (.cons (.ret (.bin .idx (.var 1) (.call 13 (.io 0 (.v (.un .len (.var 1)) .nil)))))
  .nil)
def k78__law_same : Ss := (.cons (.ife (.un .isSeq (.var 1)) (.cons (.ife (.or (.bin .ne (.un .isTup (.var 0)) (.un .isTup (.var 1))) (.bin .ne (.un .isList (.var 0)) (.un .isList (.var 1)))) (.cons (.ret (.bl false))
  .nil) .nil)
  (.cons (.ife (.bin .ne (.un .len (.var 0)) (.un .len (.var 1))) (.cons (.ret (.bl false))
  .nil) .nil)
  (.cons (.ret (.bin .notin (.bl false) (.nw (.lc (.call 15 (.v (.bin .idx (.var 0) (.var 2)) (.v (.bin .idx (.var 1) (.var 2)) .nil))) (.nm 2) (.rng (.un .len (.var 1))) .no [2]))))
  .nil))) .nil)
  (.cons (.ife (.or (.bin .ne (.un .isBool (.var 0)) (.un .isBool (.var 1))) (.bin .ne (.un .isInt (.var 0)) (.un .isInt (.var 1)))) (.cons (.ret (.bl false))
  .nil) .nil)
  (.cons (.ife (.or (.bin .ne (.un .isStr (.var 0)) (.un .isStr (.var 1))) (.bin .ne (.un .isNon (.var 0)) (.un .isNon (.var 1)))) (.cons (.ret (.bl false))
  .nil) .nil)
  (.cons (.ret (.bin .eq (.var 0) (.var 1)))
  .nil))))
def k78__law_words : Ss := (.cons (.own 2 (.lst .nil))
  (.cons (.fr (.nm 3) (.rng (.var 1)) (.cons (.asg (.nm 4) (.bin .add (.int 1) (.call 13 (.io 0 (.v (.int 3) .nil)))))
  (.cons (.ife (.bin .eq (.call 13 (.io 0 (.v (.int 9) .nil))) (.int 0)) (.cons (.asg (.nm 4) (.bin .add (.bin .add (.var 4) (.int 3)) (.call 13 (.io 0 (.v (.int 20) .nil)))))
  .nil) .nil)
  (.cons (.asg (.nm 5) (.bin .join (.str ("" : Str)) (.nw (.lc (.bin .idx (.str ("abcdefghijklmnopqrstuvwxyz" : Str)) (.call 13 (.io 0 (.v (.int 26) .nil)))) (.nm 6) (.rng (.var 4)) .no [6]))))
  (.cons (.ife (.or (.bin .isin (.var 5) (.bor 2)) (.bin .eq (.var 5) (.str ("true" : Str)))) (.cons (.asg (.nm 5) (.bin .mul (.str ("z" : Str)) (.bin .add (.int 1) (.un .maxL (.bin .add (.nw (.lst (.cons (.int 4) .nil))) (.nw (.lc (.un .len (.var 7)) (.nm 7) (.seq (.bor 2)) .no [7])))))))
  .nil) .nil)
  (.cons (.app 2 (.var 5))
  .nil))))))
  (.cons (.frz 2)
  (.cons (.ret (.var 2))
  .nil))))
def k78__law_cell_key : Ss := (.cons (.ife (.un .isTup (.var 0)) (.cons (.ret (.tup (.cons (.int 2) (.cons (.bin .idx (.var 0) (.int 1)) (.cons (.str ("" : Str)) .nil)))))
  .nil) .nil)
  (.cons (.ife (.un .isInt (.var 0)) (.cons (.ret (.tup (.cons (.int 0) (.cons (.var 0) (.cons (.str ("" : Str)) .nil)))))
  .nil) .nil)
  (.cons (.ret (.tup (.cons (.int 1) (.cons (.int 0) (.cons (.var 0) .nil)))))
  .nil)))
def k78__law_row_key : Ss := (.cons (.ret (.un .toTup (.nw (.lc (.call 17 (.v (.var 1) .nil)) (.nm 1) (.seq (.var 0)) .no [1]))))
  .nil)
def k78__law_fact_key : Ss := (.cons (.ret (.tup (.cons (.bin .idx (.var 0) (.int 0)) (.cons (.call 18 (.v (.bin .idx (.var 0) (.int 1)) .nil)) .nil))))
  .nil)
def k78__law_store : Ss := (.cons (.own 1 (.lst .nil))
  (.cons (.fr (.nm 2) (.seq (.nw (.srtk (.var 0) 19))) (.cons (.ife (.or (.bin .eq (.un .len (.bor 1)) (.int 0)) (.bin .ne (.bin .idx (.bor 1) (.un .neg (.int 1))) (.var 2))) (.cons (.app 1 (.var 2))
  .nil) .nil)
  .nil))
  (.cons (.ret (.un .toTup (.bor 1)))
  .nil)))
def k78__law_values : Ss := (.cons (.asg (.nm 2) (.bin .sub (.call 13 (.io 0 (.v (.int 9) .nil))) (.int 3)))
  (.cons (.ife (.bin .eq (.call 13 (.io 0 (.v (.int 8) .nil))) (.int 0)) (.cons (.asg (.nm 2) (.bin .mul (.var 2) (.call 14 (.io 0 (.v (.nw (.lst (.cons (.int 1000003) (.cons (.bin .add (.bin .pow (.int 10) (.int 15)) (.int 37)) (.cons (.bin .add (.bin .pow (.int 10) (.int 40)) (.int 121)) .nil))))) .nil)))))
  .nil) .nil)
  (.cons (.ret (.bin .idx (.nw (.lst (.cons (.nw (.lst (.cons (.var 2) (.cons (.bin .add (.var 2) (.int 1)) (.cons (.call 14 (.io 0 (.v (.var 1) .nil))) .nil))))) (.cons (.nw (.lst (.cons (.bin .idx (.var 1) (.int 0)) (.cons (.var 2) (.cons (.bin .idx (.var 1) (.int 1)) .nil))))) .nil)))) (.call 13 (.io 0 (.v (.int 2) .nil)))))
  .nil)))
def k78__law_places : Ss := (.cons (.ret (.nw (.lc (.tup (.cons (.bin .idx (.var 1) (.var 3)) (.cons (.bin .idx (.nw (.lst (.cons (.int 1) (.cons (.int 2) (.cons (.int 1) (.cons (.int 2) (.cons (.int 2) (.cons (.int 0) (.cons (.int 3) .nil))))))))) (.call 13 (.io 0 (.v (.int 7) .nil)))) .nil))) (.nm 3) (.rng (.var 2)) .no [3])))
  .nil)
def k78__law_part : Ss := (.cons (.ret (.un .toTup (.nw (.lc (.bin .idx (.var 0) (.var 2)) (.nm 2) (.seq (.var 1)) .no [2]))))
  .nil)
def k78__law_clash : Ss := (.cons (.fr (.nm 3) (.seq (.var 2)) (.cons (.ife (.and (.bin .eq (.bin .idx (.var 0) (.int 0)) (.bin .idx (.var 3) (.int 0))) (.and (.bin .eq (.bin .idx (.var 1) (.int 0)) (.bin .idx (.var 3) (.int 0))) (.bin .eq (.call 23 (.v (.bin .idx (.var 0) (.int 1)) (.v (.bin .idx (.var 3) (.int 1)) .nil))) (.call 23 (.v (.bin .idx (.var 1) (.int 1)) (.v (.bin .idx (.var 3) (.int 1)) .nil)))))) (.cons (.ife (.bin .ne (.call 23 (.v (.bin .idx (.var 0) (.int 1)) (.v (.bin .idx (.var 3) (.int 2)) .nil))) (.call 23 (.v (.bin .idx (.var 1) (.int 1)) (.v (.bin .idx (.var 3) (.int 2)) .nil)))) (.cons (.ret (.bl true))
  .nil) .nil)
  .nil) .nil)
  .nil))
  (.cons (.ret (.bl false))
  .nil))
def k78__law_clashes : Ss := (.cons (.asg (.nm 2) (.nw (.lst .nil)))
  (.cons (.fr (.nm 3) (.rng (.un .len (.var 0))) (.cons (.asg (.nm 2) (.bin .add (.var 2) (.nw (.lc (.tup (.cons (.bin .idx (.var 0) (.var 3)) (.cons (.var 4) .nil))) (.nm 4) (.seq (.slf (.var 0) (.bin .add (.var 3) (.int 1)))) (.on (.call 24 (.v (.bin .idx (.var 0) (.var 3)) (.v (.var 4) (.v (.var 1) .nil))))) [4]))))
  .nil))
  (.cons (.ret (.un .toTup (.var 2)))
  .nil)))
def k78__law_merged : Ss := (.cons (.asg (.nm 3) (.nw (.lc (.var 4) (.nm 4) (.seq (.var 1)) (.on (.bin .isin (.var 4) (.var 2))) [4])))
  (.cons (.ret (.call 20 (.v (.bin .add (.var 3) (.nw (.lc (.var 4) (.nm 4) (.seq (.bin .add (.nw (.toL (.var 1))) (.nw (.toL (.var 2))))) (.on (.bin .notin (.var 4) (.var 0))) [4]))) .nil)))
  .nil))
def k78__law_grown : Ss := (.cons (.own 3 (.toL (.var 0)))
  (.cons (.fr (.nm 4) (.seq (.var 1)) (.cons (.ife (.bin .notin (.bl true) (.nw (.lc (.call 24 (.v (.var 5) (.v (.var 4) (.v (.var 2) .nil)))) (.nm 5) (.seq (.bor 3)) .no [5]))) (.cons (.app 3 (.var 4))
  .nil) .nil)
  .nil))
  (.cons (.frz 3)
  (.cons (.ret (.call 20 (.v (.var 3) .nil)))
  .nil))))
def k78__law_fact : Ss := (.cons (.asg (.nm 3) (.call 14 (.io 0 (.v (.var 1) .nil))))
  (.cons (.asg (.nm 4) (.nw (.lc (.call 14 (.io 0 (.v (.bin .add (.var 2) (.nw (.lst (.cons (.tup (.cons (.str ("blank" : Str)) (.cons (.bin .add (.int 1) (.call 13 (.io 0 (.v (.int 2) .nil)))) .nil))) .nil)))) .nil))) (.nm 5) (.rng (.bin .idx (.var 3) (.int 1))) .no [5])))
  (.cons (.ret (.tup (.cons (.bin .idx (.var 3) (.int 0)) (.cons (.un .toTup (.var 4)) .nil))))
  .nil)))
def k78__law_tie : Ss := (.cons (.asg (.nm 2) (.nw (.lc (.call 13 (.io 0 (.v (.int 5) .nil))) (.nm 4) (.rng (.bin .idx (.var 1) (.int 1))) .no [4])))
  (.cons (.asg (.nm 3) (.un .toTup (.nw (.lc (.var 4) (.nm 4) (.rng (.bin .idx (.var 1) (.int 1))) (.on (.bin .isin (.bin .idx (.var 2) (.var 4)) (.nw (.lst (.cons (.int 0) (.cons (.int 1) (.cons (.int 3) .nil))))))) [4]))))
  (.cons (.ret (.tup (.cons (.bin .idx (.var 1) (.int 0)) (.cons (.var 3) (.cons (.un .toTup (.nw (.lc (.var 4) (.nm 4) (.rng (.bin .idx (.var 1) (.int 1))) (.on (.bin .isin (.bin .idx (.var 2) (.var 4)) (.nw (.lst (.cons (.int 2) (.cons (.int 3) .nil)))))) [4]))) .nil)))))
  .nil)))
def k78__law_goes : Ss := (.cons (.asg (.nm 4) (.call 26 (.v (.var 0) (.v (.var 1) (.v (.var 2) .nil)))))
  (.cons (.asg (.nm 5) (.call 25 (.v (.var 4) (.v (.var 3) .nil))))
  (.cons (.fr (.tp [6, 7]) (.seq (.nw (.lst (.cons (.tup (.cons (.var 1) (.cons (.var 2) .nil))) (.cons (.tup (.cons (.var 2) (.cons (.var 1) .nil))) .nil))))) (.cons (.ife (.or (.un .not (.call 15 (.v (.call 5 (.v (.var 0) (.v (.var 6) (.v (.var 7) .nil)))) (.v (.var 4) .nil)))) (.un .not (.call 15 (.v (.call 10 (.v (.var 0) (.v (.var 6) (.v (.var 7) (.v (.var 3) .nil))))) (.v (.var 5) .nil))))) (.cons (.ret (.bl false))
  .nil) .nil)
  (.cons (.ife (.or (.un .not (.call 15 (.v (.call 5 (.v (.var 0) (.v (.var 6) (.v (.var 0) .nil)))) (.v (.var 6) .nil)))) (.un .not (.call 15 (.v (.call 5 (.v (.var 0) (.v (.var 0) (.v (.var 6) .nil)))) (.v (.var 6) .nil))))) (.cons (.ret (.bl false))
  .nil) .nil)
  (.cons (.ife (.or (.un .not (.call 15 (.v (.call 10 (.v (.var 0) (.v (.var 0) (.v (.var 6) (.v (.var 3) .nil))))) (.v (.tup .nil) .nil)))) (.un .notTru (.call 11 (.v (.var 6) (.v (.var 3) .nil))))) (.cons (.ret (.bl false))
  .nil) .nil)
  .nil))))
  (.cons (.ife (.or (.un .not (.call 15 (.v (.call 10 (.v (.var 0) (.v (.var 1) (.v (.var 2) (.v (.tup .nil) .nil))))) (.v (.tup .nil) .nil)))) (.un .not (.call 15 (.v (.call 5 (.v (.var 0) (.v (.var 0) (.v (.var 0) .nil)))) (.v (.var 0) .nil))))) (.cons (.ret (.bl false))
  .nil) .nil)
  (.cons (.ret (.and (.un .isTru (.call 11 (.v (.var 0) (.v (.var 3) .nil)))) (.call 15 (.v (.call 11 (.v (.var 4) (.v (.var 3) .nil))) (.v (.bin .eq (.un .len (.var 5)) (.int 0)) .nil)))))
  .nil)))))
def k78__law_numbered : Ss := (.cons (.asg (.nm 3) (.bin .sub (.call 13 (.io 0 (.v (.int 30) .nil))) (.int 10)))
  (.cons (.asg (.nm 4) (.bin .add (.int 2) (.call 13 (.io 0 (.v (.int 8) .nil)))))
  (.cons (.asg (.nm 5) (.nw (.lc (.tup (.cons (.bin .idx (.var 1) (.int 0)) (.cons (.tup (.cons (.bin .add (.var 3) (.bin .mul (.int 2) (.var 14))) (.cons (.bin .idx (.var 1) (.int 1)) (.cons (.var 14) .nil)))) .nil))) (.nm 14) (.rng (.var 4)) .no [14])))
  (.cons (.asg (.nm 6) (.call 13 (.io 0 (.v (.var 4) .nil))))
  (.cons (.asg (.nm 7) (.bin .idx (.nw (.lst (.cons (.var 6) (.cons (.var 6) (.cons (.bin .mod (.un .toInt (.bin .add (.var 6) (.int 1))) (.var 4)) .nil))))) (.var 2)))
  (.cons (.own 8 (.toL (.var 5)))
  (.cons (.setIx 8 (.var 6) (.tup (.cons (.bin .idx (.var 1) (.int 0)) (.cons (.tup (.cons (.bin .add (.var 3) (.bin .mul (.int 2) (.var 6))) (.cons (.bin .idx (.var 1) (.int 2)) (.cons (.var 6) .nil)))) .nil))))
  (.cons (.own 9 (.toL (.var 5)))
  (.cons (.setIx 9 (.var 7) (.tup (.cons (.bin .idx (.var 1) (.int 0)) (.cons (.tup (.cons (.bin .add (.var 3) (.bin .mul (.int 2) (.var 7))) (.cons (.bin .idx (.nw (.lst (.cons (.bin .idx (.var 1) (.int 3)) (.cons (.bin .idx (.var 1) (.int 2)) (.cons (.bin .idx (.var 1) (.int 3)) .nil))))) (.var 2)) (.cons (.var 7) .nil)))) .nil))))
  (.cons (.asg (.nm 10) (.tup (.cons (.tup (.cons (.bin .idx (.var 1) (.int 0)) (.cons (.tup (.cons (.int 0) .nil)) (.cons (.tup (.cons (.int 1) (.cons (.int 2) .nil))) .nil)))) .nil)))
  (.cons (.own 11 (.toL (.bor 8)))
  (.cons (.ife (.bin .eq (.var 2) (.int 2)) (.cons (.setIx 11 (.var 7) (.bin .idx (.bor 9) (.var 7)))
  .nil) .nil)
  (.cons (.asg (.nm 12) (.tup .nil))
  (.cons (.ife (.bin .eq (.var 2) (.int 0)) (.cons (.asg (.nm 11) (.call 20 (.v (.bin .add (.bor 8) (.nw (.lst (.cons (.bin .idx (.bor 9) (.var 6)) .nil)))) .nil)))
  (.cons (.asg (.nm 12) (.tup (.cons (.un .toTup (.nw (.lc (.var 15) (.nm 15) (.seq (.bor 11)) (.on (.bin .eq (.bin .idx (.bin .idx (.var 15) (.int 1)) (.int 0)) (.bin .add (.var 3) (.bin .mul (.int 2) (.var 6))))) [15]))) .nil)))
  .nil)) .nil)
  (.cons (.frz 8)
  (.cons (.frz 9)
  (.cons (.asg (.nm 13) (.call 5 (.v (.call 20 (.v (.var 5) .nil)) (.v (.call 20 (.v (.var 8) .nil)) (.v (.call 20 (.v (.var 9) .nil)) .nil)))))
  (.cons (.frz 11)
  (.cons (.ife (.or (.un .not (.call 15 (.v (.var 13) (.v (.call 20 (.v (.var 11) .nil)) .nil)))) (.un .not (.call 15 (.v (.call 11 (.v (.var 13) (.v (.var 10) .nil))) (.v (.bin .ne (.var 2) (.int 0)) .nil))))) (.cons (.ret (.bl false))
  .nil) .nil)
  (.cons (.frz 8)
  (.cons (.frz 9)
  (.cons (.ret (.call 15 (.v (.call 10 (.v (.call 20 (.v (.var 5) .nil)) (.v (.call 20 (.v (.var 8) .nil)) (.v (.call 20 (.v (.var 9) .nil)) (.v (.var 10) .nil))))) (.v (.var 12) .nil))))
  .nil))))))))))))))))))))))
def k78_law : Ss := (.cons (.own 1 (.call 12 (.sc 0 (.v (.int 900) .nil))))
  (.cons (.asg (.nm 2) (.call 16 (.io 1 (.v (.int 9) .nil))))
  (.cons (.asg (.nm 3) (.call 21 (.io 1 (.v (.var 2) .nil))))
  (.cons (.asg (.nm 4) (.bin .add (.nw (.lst (.cons (.tup (.cons (.bin .idx (.var 2) (.int 0)) (.cons (.int 2) .nil))) (.cons (.tup (.cons (.bin .idx (.var 2) (.int 1)) (.cons (.int 4) .nil))) .nil)))) (.call 22 (.io 1 (.v (.sl (.var 2) (.int 2) (.int 4)) (.v (.int 2) .nil))))))
  (.cons (.fr (.nm 5) (.rng (.int 2)) (.cons (.asg (.nm 6) (.un .toTup (.nw (.lc (.call 29 (.io 1 (.v (.call 14 (.io 1 (.v (.var 4) .nil))) .nil))) (.nm 10) (.rng (.call 13 (.io 1 (.v (.int 6) .nil)))) .no [10]))))
  (.cons (.asg (.nm 7) (.call 27 (.v (.tup .nil) (.v (.nw (.lc (.call 28 (.io 1 (.v (.var 4) (.v (.var 3) .nil)))) (.nm 10) (.rng (.call 13 (.io 1 (.v (.int 10) .nil)))) .no [10])) (.v (.var 6) .nil)))))
  (.cons (.asg (.nm 8) (.nw (.lc (.call 28 (.io 1 (.v (.var 4) (.v (.var 3) .nil)))) (.nm 10) (.rng (.int 6)) .no [10])))
  (.cons (.own 9 (.lst .nil))
  (.cons (.fr (.nm 10) (.rng (.int 2)) (.cons (.asg (.nm 11) (.un .toTup (.nw (.lc (.var 14) (.nm 14) (.seq (.var 7)) (.on (.bin .gt (.call 13 (.io 1 (.v (.int 3) .nil))) (.int 0))) [14]))))
  (.cons (.app 9 (.call 27 (.v (.var 11) (.v (.sl (.var 8) (.bin .mul (.int 2) (.var 10)) (.bin .add (.bin .add (.bin .mul (.int 2) (.var 10)) (.int 2)) (.call 13 (.io 1 (.v (.int 3) .nil))))) (.v (.var 6) .nil)))))
  .nil)))
  (.cons (.ife (.un .not (.call 30 (.v (.var 7) (.v (.bin .idx (.bor 9) (.int 0)) (.v (.bin .idx (.bor 9) (.int 1)) (.v (.var 6) .nil)))))) (.cons (.ret (.bl false))
  .nil) .nil)
  (.cons (.asg (.nm 12) (.call 20 (.v (.nw (.lc (.call 28 (.io 1 (.v (.var 4) (.v (.var 3) .nil)))) (.nm 10) (.rng (.call 13 (.io 1 (.v (.int 6) .nil)))) .no [10])) .nil)))
  (.cons (.ife (.un .not (.call 15 (.v (.call 11 (.v (.var 12) (.v (.var 6) .nil))) (.v (.bin .eq (.un .len (.call 25 (.v (.var 12) (.v (.var 6) .nil)))) (.int 0)) .nil)))) (.cons (.ret (.bl false))
  .nil) .nil)
  .nil)))))))))
  (.cons (.ret (.bin .notin (.bl false) (.nw (.lc (.call 31 (.io 1 (.v (.var 2) (.v (.var 13) .nil)))) (.nm 13) (.rng (.int 3)) .no [13]))))
  .nil))))))
def k78_fd : Nat → Option FD
  | 0 => some ⟨2, 3, k78_cells_at⟩ -- row, places, place | top 1
  | 1 => some ⟨1, 1, k78_cell_key⟩ -- cell | top 3
  | 2 => some ⟨1, 2, k78_row_key⟩ -- row, cell | top 4
  | 3 => some ⟨1, 1, k78_fact_key⟩ -- fact | top 5
  | 4 => some ⟨1, 3, k78_store_of⟩ -- facts, found, fact | top 6
  | 5 => some ⟨3, 9, k78_merged⟩ -- base, store, other, in_base, in_store, in_other, both, new, fact | top 8
  | 6 => some ⟨2, 4, k78_groups_of⟩ -- facts, places, groups, fact | top 9
  | 7 => some ⟨2, 10, k78_clashes_of_tie⟩ -- store, tie, name, left, right, found, group, at, fact, other | top 10
  | 8 => some ⟨1, 1, k78_pair_key⟩ -- pair | top 11
  | 9 => some ⟨2, 5, k78_clashes_in⟩ -- store, ties, found, tie, pair | top 12
  | 10 => some ⟨4, 4, k78_clashes⟩ -- base, store, other, ties | top 13
  | 11 => some ⟨2, 2, k78_keeps_all⟩ -- store, ties | top 14
  | 12 => some ⟨2, 9, k78__law_draws⟩ -- script, many, cells, left, draws, k, place, mixed, cell | top 16
  | 13 => some ⟨2, 2, k78__law_take⟩ -- draws, many | top 17
  | 14 => some ⟨2, 2, k78__law_pick⟩ -- draws, row | top 18
  | 15 => some ⟨2, 3, k78__law_same⟩ -- actual, due, k | top 19
  | 16 => some ⟨2, 8, k78__law_words⟩ -- draws, many, words, k, size, word, j, other | top 20
  | 17 => some ⟨1, 1, k78__law_cell_key⟩ -- cell | top 21
  | 18 => some ⟨1, 2, k78__law_row_key⟩ -- row, cell | top 22
  | 19 => some ⟨1, 1, k78__law_fact_key⟩ -- fact | top 23
  | 20 => some ⟨1, 3, k78__law_store⟩ -- facts, found, fact | top 24
  | 21 => some ⟨2, 3, k78__law_values⟩ -- draws, words, number | top 25
  | 22 => some ⟨3, 4, k78__law_places⟩ -- draws, words, many, k | top 26
  | 23 => some ⟨2, 3, k78__law_part⟩ -- row, places, place | top 27
  | 24 => some ⟨3, 4, k78__law_clash⟩ -- one, other, ties, tie | top 28
  | 25 => some ⟨2, 5, k78__law_clashes⟩ -- store, ties, told, k, other | top 29
  | 26 => some ⟨3, 5, k78__law_merged⟩ -- base, one, other, both, fact | top 30
  | 27 => some ⟨3, 6, k78__law_grown⟩ -- store, facts, ties, kept, fact, known | top 31
  | 28 => some ⟨3, 6, k78__law_fact⟩ -- draws, places, values, place, row, k | top 32
  | 29 => some ⟨2, 5, k78__law_tie⟩ -- draws, place, sides, left, k | top 33
  | 30 => some ⟨4, 8, k78__law_goes⟩ -- base, one, other, ties, due, pairs, first, second | top 34
  | 31 => some ⟨3, 16, k78__law_numbered⟩ -- draws, words, kind, start, many, base, at, place, one, other, ties, due, pairs, told, k, fact | top 35
  | 32 => some ⟨1, 15, k78_law⟩ -- script, draws, words, values, places, turn, ties, base, news, versions, k, kept, loose, kind, fact | top 36
  | _ => none

end VE
/-! VP1: cells, facts, pairs of facts as data -/
namespace VE
open PySem PySem.W
                        PyProof.Rows

/-- a text that may be a value -/
abbrev SW := {x : Str // PyData.strOk x = true}
inductive Cell where
  | i (n : Int) | s (x : SW) | b (n : Int)
  deriving DecidableEq
structure Fact where
  name : SW
  row : List Cell
  deriving DecidableEq
abbrev blk : Str := ("blank" : Str)
theorem blk_ok : PyData.strOk blk = true := by decide +kernel
def Cell.d : Cell → D
  | .i n => .int n
  | .s x => .str x.1
  | .b n => .tuple [.str blk, .int n]
def Fact.d (f : Fact) : D := .tuple [.str f.name.1, .tuple (f.row.map Cell.d)]
def Cell.key : Cell → D
  | .i n => .tuple [.int 0, .int n, .str ("" : Str)]
  | .s x => .tuple [.int 1, .int 0, .str x.1]
  | .b n => .tuple [.int 2, .int n, .str ("" : Str)]
def Fact.key (f : Fact) : D := .tuple [.str f.name.1, .tuple (f.row.map Cell.key)]
def Cell.nk : Cell → NestedKey
  | .i n => .num n
  | .s x => .text x.1
  | .b n => .tup [.text blk, .num n]
def Fact.nk (f : Fact) : NestedKey := .tup [.text f.name.1, .tup (f.row.map Cell.nk)]

/-! the order -/
mutual
theorem eq_of_eqv : ∀ x y : D, alike x y = true → PyData.eqv x y = true → x = y
  | .none, y, h, e => by cases y <;> simp [alike] at h; rfl
  | .bool a, y, h, e => by cases y <;> simp [alike] at h; simp [PyData.eqv] at e; rw [e]
  | .int a, y, h, e => by cases y <;> simp [alike] at h; simp [PyData.eqv] at e; rw [e]
  | .str a, y, h, e => by cases y <;> simp [alike] at h; simp [PyData.eqv] at e; rw [e]
  | .list xs, y, h, e => by
    cases y <;> simp [alike] at h
    rw [PyData.eqv] at e
    rw [eq_of_eqvAll xs _ h e]
  | .tuple xs, y, h, e => by
    cases y <;> simp [alike] at h
    rw [PyData.eqv] at e
    rw [eq_of_eqvAll xs _ h e]
  | .dict _, y, h, _ => by cases y <;> simp [alike] at h
theorem eq_of_eqvAll : ∀ xs ys : List D, alikeAll xs ys = true → PyData.eqvAll xs ys = true → xs = ys
  | [], [], _, _ => rfl
  | [], _ :: _, _, e => by simp [PyData.eqvAll] at e
  | _ :: _, [], _, e => by simp [PyData.eqvAll] at e
  | x :: xs, y :: ys, h, e => by
    rw [eqv_all_cons, Bool.and_eq_true] at e
    rw [eq_of_eqv x y (alike_all_cons h).1 e.1, eq_of_eqvAll xs ys (alike_all_cons h).2 e.2]
end
theorem eqv_of_toks {x y : D} (h : alike x y = true) (e : keyToks x = keyToks y) : PyData.eqv x y = true := by
  cases q : PyData.eqv x y with
  | true => rfl
  | false =>
    have t := (toks_eqv x y h).2 q [] [.inl 0]
    rw [← e, lex_pre, lex_irrefl] at t
    exact absurd t (by decide)
theorem eq_of_toks {x y : D} (h : alike x y = true) (e : keyToks x = keyToks y) : x = y := eq_of_eqv x y h (eqv_of_toks h e)

/-- what stands in lists and dicts here -/
class Dt (α : Type) [DecidableEq α] where
  d : α → D
  nk : α → NestedKey
  nkd : ∀ a, nkey (d a) = some (nk a)
  nki : ∀ a b, nk a = nk b → a = b
  nkh : ∀ a, (nk a).depth ≤ 8
  tup : ∀ a, ∃ ds, d a = .tuple ds
  eq : ∀ a b, PyData.eqv (d a) (d b) = decide (a = b)
  lay : ∀ a, PyData.canLay0 (d a) = true
  dep : ∀ a, PyData.depth (d a) ≤ 8
  key : α → D
  ka : ∀ a b, alike (key a) (key b) = true
  ki : ∀ a b, key a = key b → a = b
  kt : ∀ a, ∃ x xs, key a = .tuple (x :: xs)
  kd : ∀ a, PyData.depth (key a) ≤ 60
  kl : ∀ a, PyData.canLay0 (key a) = true

theorem beq_dec {α : Type} [DecidableEq α] [BEq α] [LawfulBEq α] (a b : α) : (a == b) = decide (a = b) := by
  by_cases h : a = b
  · subst h; simp
  · simp [h]
theorem Cell.eqv (a b : Cell) : PyData.eqv a.d b.d = decide (a = b) := by
  cases a <;> cases b <;> simp [Cell.d, PyData.eqv, PyData.eqvAll, Subtype.ext_iff, beq_dec]
theorem eqvAll_map {α : Type} [DecidableEq α] {f : α → D} (h : ∀ a b, PyData.eqv (f a) (f b) = decide (a = b)) : ∀ r s : List α, PyData.eqvAll (r.map f) (s.map f) = decide (r = s)
  | [], [] => by simp
                          [PyData.eqvAll]
  | [], b :: s => by simp [PyData.eqvAll]
  | a :: r, [] => by simp [PyData.eqvAll]
  | a :: r, b :: s => by
    rw [List.map_cons, List.map_cons, eqv_all_cons, h, eqvAll_map h r s]
    simp
theorem Fact.eqv (f g : Fact) : PyData.eqv f.d g.d = decide (f = g) := by
  obtain ⟨n, r⟩ := f
  obtain ⟨m, s⟩ := g
  simp [Fact.d, PyData.eqv, PyData.eqvAll, eqvAll_map Cell.eqv, Subtype.ext_iff, beq_dec]
theorem canLayAll_map {α : Type} {f : α → D} (h : ∀ a, PyData.canLay0 (f a) = true) : ∀ r : List α, PyData.canLayAll0 (r.map f) = true
  | [] => by simp
                          [PyData.canLayAll0]
  | a :: r => by rw [List.map_cons, PyData.canLayAll0, h, canLayAll_map h r]; rfl
theorem depthAll_map {α : Type} {f : α → D} {n : Nat} (h : ∀ a, PyData.depth (f a) ≤ n) : ∀ r : List α, PyData.depthAll (r.map f) ≤ n
  | [] => by simp
                          [PyData.depthAll]
  | a :: r => by
    have := h a
    have := depthAll_map h r
    rw [List.map_cons, PyData.depthAll]; omega
theorem Cell.lay (a : Cell) : PyData.canLay0 a.d = true := by
  cases a with
  | i n => simp [Cell.d, PyData.canLay0]
  | s x => simp only [Cell.d, PyData.canLay0]; exact x.2
  | b n => simp [Cell.d, PyData.canLay0, PyData.canLayAll0, blk_ok]
theorem Cell.dep (a : Cell) : PyData.depth a.d ≤ 1 := by
  cases a <;> simp [Cell.d, PyData.depth, PyData.depthAll]
theorem Fact.lay (a : Fact) : PyData.canLay0 a.d = true := by
  simp [Fact.d, PyData.canLay0, PyData.canLayAll0, a.name.2, canLayAll_map Cell.lay]
theorem Fact.dep (a : Fact) : PyData.depth a.d ≤ 3 := by
  have := depthAll_map Cell.dep a.row
  simp only [Fact.d, PyData.depth, PyData.depthAll]
  omega
theorem nks_map {α : Type} {f : α → D} {g : α → NestedKey} (h : ∀ a, nkey (f a) = some (g a)) : ∀ r : List α, nkeys (r.map f) = some (r.map g)
  | [] => by simp [nkeys]
  | a :: r => by simp [nkeys, h, nks_map h r]
theorem nkd_map {α : Type} {g : α → NestedKey} {n : Nat} (h : ∀ a, (g a).depth ≤ n) : ∀ r : List α, NestedKey.depthAll (r.map g) ≤ n
  | [] => by simp [NestedKey.depthAll]
  | a :: r => by
    have := h a
    have := nkd_map h r
    rw [List.map_cons, NestedKey.depthAll]; omega
theorem map_inj {α β : Type} {g : α → β} (h : ∀ a b, g a = g b → a = b) : ∀ r s : List α, r.map g = s.map g → r = s
  | [], [], _ => rfl
  | [], _ :: _, e
                          => by simp at e
  | _ :: _, [], e
                          => by simp at e
  | a :: r, b :: s, e => by
    simp only [List.map_cons,
                            List.cons.injEq] at e
    rw [h a b e.1, map_inj h r s e.2]
theorem Cell.nkd (a : Cell) : nkey a.d = some a.nk := by cases a <;> simp [Cell.d, Cell.nk, nkey, nkeys]
theorem Cell.nki (a b : Cell) (h : a.nk = b.nk) : a = b := by
  cases a <;> cases b <;> simp [Cell.nk] at h <;> simp [h, Subtype.ext_iff]
theorem Cell.nkh (a : Cell) : a.nk.depth ≤ 1 := by cases a <;> simp [Cell.nk, NestedKey.depth, NestedKey.depthAll]
theorem Fact.nkd (a : Fact) : nkey a.d = some a.nk := by simp [Fact.d, Fact.nk, nkey, nkeys, nks_map Cell.nkd]
theorem Fact.nki (a b : Fact) (h : a.nk = b.nk) : a = b := by
  obtain ⟨n, r⟩ := a
  obtain ⟨m, s⟩ := b
  simp only [Fact.nk, NestedKey.tup.injEq, NestedKey.text.injEq, List.cons.injEq, and_true] at h
  rw [Subtype.ext h.1, map_inj Cell.nki _ _ h.2]
theorem Fact.nkh (a : Fact) : a.nk.depth ≤ 3 := by
  have := nkd_map Cell.nkh a.row
  simp only [Fact.nk, NestedKey.depth, NestedKey.depthAll]
  omega
theorem Cell.ka (a b : Cell) : alike a.key b.key = true := by cases a <;> cases b <;> simp [Cell.key, alike, alikeAll]
theorem alikeAll_map {α : Type} {g : α → D} (h : ∀ a b, alike (g a) (g b) = true) : ∀ r s : List α, alikeAll (r.map g) (s.map g) = true
  | [], _ => by simp [alikeAll]
  | _ :: _, [] => by
                          simp [alikeAll]
  | a :: r, b :: s => by rw [List.map_cons, List.map_cons, alikeAll, h, alikeAll_map h r s]; rfl
theorem Cell.ki (a b : Cell) (h : a.key = b.key) : a = b := by
  cases a <;> cases b <;> simp [Cell.key] at h <;> simp [h, Subtype.ext_iff]
theorem Cell.kd (a : Cell) : PyData.depth a.key ≤ 1 := by cases a <;> simp [Cell.key, PyData.depth, PyData.depthAll]
theorem emp_ok : PyData.strOk ("" : Str) = true := by decide +kernel
theorem Cell.kl (a : Cell) : PyData.canLay0 a.key = true := by
  cases a with
  | i n => simp [Cell.key, PyData.canLay0, PyData.canLayAll0, emp_ok]
  | s x => simp [Cell.key, PyData.canLay0, PyData.canLayAll0, x.2]
  | b n => simp [Cell.key, PyData.canLay0, PyData.canLayAll0, emp_ok]
theorem Fact.ka (a b : Fact) : alike a.key b.key = true := by simp [Fact.key, alike, alikeAll, alikeAll_map Cell.ka]
theorem Fact.ki (a b : Fact) (h : a.key = b.key) : a = b := by
  obtain ⟨n, r⟩ := a
  obtain ⟨m, s⟩ := b
  simp only [Fact.key, PyData.tuple.injEq, PyData.str.injEq, List.cons.injEq, and_true] at h
  rw [Subtype.ext h.1, map_inj Cell.ki _ _ h.2]
theorem Fact.kd (a : Fact) : PyData.depth a.key ≤ 3 := by
  have := depthAll_map Cell.kd a.row
  simp only [Fact.key, PyData.depth, PyData.depthAll]
  omega
theorem Fact.kl (a : Fact) : PyData.canLay0 a.key = true := by
  simp [Fact.key, PyData.canLay0, PyData.canLayAll0, a.name.2, canLayAll_map Cell.kl]
instance : Dt Fact where
  d := Fact.d
  nk := Fact.nk
  nkd := Fact.nkd
  nki := Fact.nki
  nkh a := Nat.le_trans a.nkh (by decide)
  tup a := ⟨_, rfl⟩
  eq := Fact.eqv
  lay := Fact.lay
  dep a := Nat.le_trans a.dep (by decide)
  key := Fact.key
  ka := Fact.ka
  ki := Fact.ki
  kt a := ⟨_, _, rfl⟩
  kd a := Nat.le_trans a.kd (by decide)
  kl := Fact.kl
abbrev Pr := Fact × Fact
def prD (p : Pr) : D := .tuple [p.1.d, p.2.d]
def prK (p : Pr) : D := .tuple [p.1.key, p.2.key]
instance : Dt Pr where
  d := prD
  nk p := .tup [p.1.nk, p.2.nk]
  nkd p := by simp [prD, nkey, nkeys, Fact.nkd]
  nki a b h := by
    simp only [NestedKey.tup.injEq, List.cons.injEq, and_true] at h
    exact Prod.ext (Fact.nki _ _ h.1) (Fact.nki _ _ h.2)
  nkh a := by
    have := a.1.nkh
    have := a.2.nkh
    simp only [NestedKey.depth, NestedKey.depthAll]
    omega
  tup a := ⟨_, rfl⟩
  eq a b := by
    obtain ⟨a1, a2⟩ := a
    obtain ⟨b1, b2⟩ := b
    simp [prD, PyData.eqv, PyData.eqvAll, Fact.eqv]
  lay a := by simp [prD, PyData.canLay0, PyData.canLayAll0, Fact.lay]
  dep a := by
    have := a.1.dep
    have := a.2.dep
    simp only [prD, PyData.depth, PyData.depthAll]
    omega
  key := prK
  ka a b := by simp [prK, alike, alikeAll, Fact.ka]
  ki a b h := by
    simp only [prK, PyData.tuple.injEq, List.cons.injEq, and_true] at h
    exact Prod.ext (Fact.ki _ _ h.1) (Fact.ki _ _ h.2)
  kt a := ⟨_, _, rfl⟩
  kd a := by
    have := a.1.kd
    have := a.2.kd
    simp only [prK, PyData.depth, PyData.depthAll]
    omega
  kl a := by simp [prK, PyData.canLay0, PyData.canLayAll0, Fact.kl]

/-! ### the order of the store -/
section
variable {α : Type} [DecidableEq α] [Dt α]
def le (a b : α) : Bool := dataLe false Dt.key a b
theorem le_total : TotalLe (le (α := α)) := sortLe_total (listOrd itemOrd) false fun b : α => keyToks (Dt.key b)
theorem le_antisymm {a b : α} (h : le a b = true) (h' : le b a = true) : a = b := by
  refine Dt.ki _ _ (eq_of_toks (Dt.ka a b) ?_)
  have h1 : (!lexLt itemOrd (keyToks (Dt.key b)) (keyToks (Dt.key a))) = true := h
  have h2 : (!lexLt itemOrd (keyToks (Dt.key a)) (keyToks (Dt.key b))) = true := h'
  rw [Bool.not_eq_true'] at h1 h2
  exact lex_total _ _ h2 h1
/-- strictly ordered -/
def Srt (s : List α) : Prop := s.Pairwise fun a b => le a b = true ∧ a ≠ b
theorem Srt.nodup {s : List α} (h : Srt s) : s.Nodup := h.imp fun h => h.2
theorem Srt.ext : ∀ {s t : List α}, Srt s → Srt t → (∀ x, x ∈ s ↔ x ∈ t) → s = t
  | [], [], _, _, _ => rfl
  | [], b :: t, _, _, e => absurd ((e b).mpr List.mem_cons_self) (by simp)
  | a :: s, [], _, _, e => absurd ((e a).mp List.mem_cons_self) (by simp)
  | a :: s, b :: t, hs, ht, e => by
    have hs' := List.pairwise_cons.mp hs
    have ht' := List.pairwise_cons.mp ht
    have hab : a = b := by
      rcases List.mem_cons.mp ((e a).mp List.mem_cons_self) with q | q
      · exact q
      rcases List.mem_cons.mp ((e b).mpr List.mem_cons_self) with r | r
      · exact r.symm
      exact le_antisymm (hs'.1 b r).1 (ht'.1 a q).1
    subst hab
    rw [Srt.ext (s := s) (t := t) hs'.2 ht'.2 fun x => ?_]
    refine ⟨fun h => ?_, fun h => ?_⟩
    · rcases List.mem_cons.mp ((e x).mp (List.mem_cons_of_mem _ h)) with q | q
      · exact absurd q.symm (hs'.1 x h).2
      · exact q
    · rcases List.mem_cons.mp ((e x).mpr (List.mem_cons_of_mem _ h)) with q | q
      · exact absurd q.symm (ht'.1 x h).2
      · exact q
/-- without what stands before -/
def ddp : List α → List α → List α
  | acc, [] => acc
  | acc, a :: as => if a ∈ acc then ddp acc as else ddp (acc ++ [a]) as
theorem ddp_mem : ∀ {as acc : List α} {x : α}, x ∈ ddp acc as ↔ x ∈ acc ∨ x ∈ as
  | [], acc, x => by simp [ddp]
  | a :: as, acc, x => by
    unfold ddp
    split
    · rename_i h
      rw [ddp_mem, List.mem_cons]
      refine ⟨fun q => q.imp id .inr, fun q => q.elim .inl fun q => q.elim (fun e => .inl (e ▸ h)) .inr⟩
    · rw [ddp_mem, List.mem_append, List.mem_singleton, List.mem_cons, or_assoc]
theorem ddp_nodup : ∀ {as acc : List α}, acc.Nodup → (ddp acc as).Nodup
  | [], _, h => h
  | a :: as, acc, h => by
    unfold ddp
    split
    · exact ddp_nodup h
    · rename_i q
      refine ddp_nodup ?_
      rw [List.nodup_append]
      exact ⟨h, List.pairwise_singleton _ a, fun x hx y hy e => q (by rw [List.mem_singleton] at hy; rw [← hy, ← e]; exact hx)⟩
theorem ddp_len : ∀ {as acc : List α}, (ddp acc as).length ≤ acc.length + as.length
  | [], _ => Nat.le_refl _
  | a :: as, acc => by
    unfold ddp
    split
    · have := ddp_len (as := as) (acc := acc)
      rw [List.length_cons]; omega
    · have := ddp_len (as := as) (acc := acc ++ [a])
      rw [List.length_append, List.length_singleton] at this
      rw [List.length_cons]; omega
def canon (as : List α) : List α := (ddp [] as).mergeSort le
theorem canon_mem {as : List α} {x : α} : x ∈ canon as ↔ x ∈ as := by
  unfold canon
  rw [(List.mergeSort_perm _ _).mem_iff, ddp_mem]
  simp
theorem canon_srt (as : List α) : Srt (canon as) := by
  have h := sort_pairwise (le_total (α := α)) (ddp [] as)
  have n : (canon as).Nodup := (List.mergeSort_perm _ _).nodup_iff.mpr (ddp_nodup List.nodup_nil)
  exact h.and n
theorem canon_len (as : List α) : (canon as).length ≤ as.length := by
  unfold canon
  rw [List.length_mergeSort]
  have := ddp_len (as := as) (acc := [])
  simpa using this
theorem canon_eq {as s : List α} (hs : Srt s) (h : ∀ x, x ∈ as ↔ x ∈ s) : canon as = s :=
  (canon_srt as).ext hs fun x => canon_mem.trans (h x)
/-- without what is like its neighbour -/
def adj : List α → List α → List α
  | acc, [] => acc
  | acc, a :: as => if acc.getLast? = some a then adj acc as else adj (acc ++ [a]) as
theorem adj_mem : ∀ {as acc : List α} {x : α}, x ∈ adj acc as ↔ x ∈ acc ∨ x ∈ as
  | [], acc, x => by simp [adj]
  | a :: as, acc, x => by
    unfold adj
    split
    · rename_i h
      rw [adj_mem, List.mem_cons]
      refine ⟨fun q => q.imp id .inr, fun q => q.elim .inl fun q => q.elim (fun e => .inl (e ▸ List.mem_of_getLast? h)) .inr⟩
    · rw [adj_mem, List.mem_append, List.mem_singleton, List.mem_cons, or_assoc]
theorem adj_srt : ∀ {as acc : List α}, Srt acc → (∀ a ∈ acc, ∀ b ∈ as, le a b = true) → as.Pairwise (fun a b => le a b = true) → Srt (adj acc as)
  | [], _, h, _, _ => h
  | a :: as, acc, h, hl, hs => by
    have hs' := List.pairwise_cons.mp hs
    unfold adj
    split
    · exact adj_srt h (fun x hx y hy => hl x hx y (List.mem_cons_of_mem _ hy)) hs'.2
    · rename_i q
      refine adj_srt ?_ ?_ hs'.2
      · refine List.pairwise_append.mpr ⟨h, List.pairwise_singleton _ _, fun x hx y hy => ?_⟩
        rw [List.mem_singleton] at hy
        subst hy
        refine ⟨hl x hx _ List.mem_cons_self, fun e => q ?_⟩
        subst e
        -- x is in acc, the last one is at least x and at most x
        obtain ⟨l, hl'⟩ : ∃ l, acc.getLast? = some l := by
          cases z : acc.getLast? with
          | none => rw [List.getLast?_eq_none_iff.mp z] at hx; cases hx
          | some l => exact ⟨l, rfl⟩
        obtain ⟨pre, e⟩ := List.getLast?_eq_some_iff.mp hl'
        rw [e] at hx
        rcases List.mem_append.mp
                                hx with hx | hx
        · have t := (List.pairwise_append.mp (e ▸ h)).2.2 x hx l List.mem_cons_self
          have u := hl l (List.mem_of_getLast? hl') x List.mem_cons_self
          exact absurd (le_antisymm t.1 u) t.2
        · rw [List.mem_singleton] at hx
          rw [hl', hx]
      · intro x hx y hy
        rcases List.mem_append.mp
                                hx with hx | hx
        · exact hl x hx y (List.mem_cons_of_mem _ hy)
        · rw [List.mem_singleton] at hx
          rw [hx]
          exact hs'.1 y hy
theorem adj_canon (as : List α) : adj [] (as.mergeSort le) = canon as := by
  refine Srt.ext (adj_srt List.Pairwise.nil (by simp) (sort_pairwise le_total as)) (canon_srt as) fun x => ?_
  rw [adj_mem, canon_mem, (List.mergeSort_perm _ _).mem_iff]
  simp
end
end VE
/-! VP2: the evaluator's words on plain data -/
namespace VE
open PySem PySem.W
                        PyProof.Rows

/-- a nonnegative index -/
theorem atI_nat {α : Type} {xs : List α} {i : Nat} {x : α} (h : xs[i]? = some x) : L2.atI xs (i : Int) = some x := by
  have hl := (List.getElem?_eq_some_iff.mp h).1
  unfold L2.atI L2.ixN
  rw [if_pos (by omega),
                          if_pos (by omega)]
  simpa using h
theorem at0 {α : Type} {a : α} {l : List α} : L2.atI (a :: l) 0 = some a := atI_nat (i := 0) rfl
theorem at1 {α : Type} {a b : α} {l : List α} : L2.atI (a :: b :: l) 1 = some b := atI_nat (i := 1) rfl
theorem at2 {α : Type} {a b c : α} {l : List α} : L2.atI (a :: b :: c :: l) 2 = some c := atI_nat (i := 2) rfl
theorem at3 {α : Type} {a b c d : α} {l : List α} : L2.atI (a :: b :: c :: d :: l) 3 = some d := atI_nat (i := 3) rfl
/-- a bind whose second part simp leaves alone -/
inductive Kf {α β : Type} (f : α → Rs β) : Type where
  | mk
def bdk {α β : Type} (x : Rs α) (f : α → Rs β) (_ : Kf f) : Rs β := x >>= f
theorem bind_bdk {α β : Type} (x : Rs α) (f : α → Rs β) : (x >>= f) = bdk x f .mk := Eq.trans rfl rfl
theorem okbk {α β : Type} (a : α) (f : α → Rs β) (k : Kf f) : bdk (.ok a) f k = f a := Eq.trans rfl rfl
theorem bad_bind {α β : Type} (f : α → Rs β) : (Rs.bad >>= f) = Rs.bad := rfl
/-- not by rfl: so simp writes it down, and the kernel does not look for it -/
theorem okb {α β : Type} (a : α) (f : α → Rs β) : (Rs.ok a >>= f) = f a := Eq.trans (ok_bind a f) rfl
theorem ofs {α : Type} (a : α) : Rs.of (some a) = .ok a := Eq.trans (of_some a) rfl

section
variable {rn : Runner} {env : Env}
theorem q_ev_int {i} : ev rn (.int i) env = (.ok (.d (.int i), env)) := by first | (rw [ev]; done) | (rw [ev]; rfl)
theorem q_ev_str {x} : ev rn (.str x) env = (.ok (.d (.str x), env)) := by first | (rw [ev]; done) | (rw [ev]; rfl)
theorem q_ev_bl {b} : ev rn (.bl b) env = (.ok (.d (.bool b), env)) := by first | (rw [ev]; done) | (rw [ev]; rfl)
theorem q_ev_non : ev rn (.non) env = (.ok (.d .none, env)) := by first | (rw [ev]; done) | (rw [ev]; rfl)
theorem q_ev_var {i} : ev rn (.var i) env = (do
    let d ← Rs.of (getV env i)
    .ok (.d d, env)) := by first | (rw [ev]; done) | (rw [ev]; rfl)
theorem q_ev_bor {i} : ev rn (.bor i) env = (if bnd env[i]? then .ok (.s i, env) else .bad) := by first | (rw [ev]; done) | (rw [ev]; rfl)
theorem q_ev_tup {es} : ev rn (.tup es) env = (do
    let (ds, env1) ← evs rn es env
    if ds.length ≤ sizeLine then .ok (.d (.tuple ds), env1) else .bad) := by first | (rw [ev]; done) | (rw [ev]; rfl)
theorem q_ev_nw {n} : ev rn (.nw n) env = (do
    let (o, env1) ← evN rn n env
    .ok (.d o.fr, env1)) := by first | (rw [ev]; done) | (rw [ev]; rfl)
theorem q_ev_un {op} {a} : ev rn (.un op a) env = (do
    let (x, env1) ← ev rn a env
    let d ← Rs.of (deref env1 x)
    let r ← Rs.of (uop op d)
    .ok (.d r, env1)) := by first | (rw [ev]; done) | (rw [ev]; rfl)
theorem q_ev_bin {op} {a} {b} : ev rn (.bin op a b) env = (do
    let (x, env1) ← ev rn a env
    let (y, env2) ← ev rn b env1
    let d ← Rs.of (deref env2 x)
    let e ← Rs.of (deref env2 y)
    let r ← Rs.of (bop op d e)
    .ok (.d r, env2)) := by first | (rw [ev]; done) | (rw [ev]; rfl)
theorem q_ev_and {a} {b} : ev rn (.and a b) env = (do
    let (c, env1) ← asT (ev rn a env)
    if c then
      let (c2, env2) ← asT (ev rn b env1)
      .ok (.d (.bool c2), env2)
    else .ok (.d (.bool false), env1)) := by first | (rw [ev]; done) | (rw [ev]; rfl)
theorem q_ev_or {a} {b} : ev rn (.or a b) env = (do
    let (c, env1) ← asT (ev rn a env)
    if c then .ok (.d (.bool true), env1)
    else
      let (c2, env2) ← asT (ev rn b env1)
      .ok (.d (.bool c2), env2)) := by first | (rw [ev]; done) | (rw [ev]; rfl)
theorem q_ev_ite {c} {a} {b} : ev rn (.ite c a b) env = (do
    let (c, env1) ← asT (ev rn c env)
    if c then do
      let (d, env2) ← asV (ev rn a env1)
      .ok (.d d, env2)
    else do
      let (d, env2) ← asV (ev rn b env1)
      .ok (.d d, env2)) := by first | (rw [ev]; done) | (rw [ev]; rfl)
theorem q_ev_sl {a} {lo} {hi} : ev rn (.sl a lo hi) env = (do
    let (x, env1) ← ev rn a env
    let (l, env2) ← asV (ev rn lo env1)
    let (h, env3) ← asV (ev rn hi env2)
    let d ← Rs.of (deref env3 x)
    let r ← Rs.of (slD d l (some h))
    .ok (.d r, env3)) := by first | (rw [ev]; done) | (rw [ev]; rfl)
theorem q_ev_slf {a} {lo} : ev rn (.slf a lo) env = (do
    let (x, env1) ← ev rn a env
    let (l, env2) ← asV (ev rn lo env1)
    let d ← Rs.of (deref env2 x)
    let r ← Rs.of (slD d l none)
    .ok (.d r, env2)) := by first | (rw [ev]; done) | (rw [ev]; rfl)
theorem q_ev_call {f} {as} : ev rn (.call f as) env = (do
    let (aos, env1) ← evA rn as env
    let (r, env2) ← runCall rn f aos env1
    .ok (.d r.fr, env2)) := by first | (rw [ev]; done) | (rw [ev]; rfl)
theorem q_ev_pop {i} : ev rn (.pop i) env = (match env[i]? with
    | some (.own (.lst ds) p) => match ds.getLast? with
      | some d => .ok (.d d, env.set i (.own (.lst ds.dropLast) p))
      | none => .bad
    | _ => .bad) := by first | (rw [ev]; done) | (rw [ev]; rfl)
theorem q_evs_nil : evs rn (.nil) env = (.ok ([], env)) := by first | (rw [evs]; done) | (rw [evs]; rfl)
theorem q_evs_cons {e} {es} : evs rn (.cons e es) env = (do
    let (d, env1) ← asV (ev rn e env)
    let (ds, env2) ← evs rn es env1
    .ok (d :: ds, env2)) := by first | (rw [evs]; done) | (rw [evs]; rfl)
theorem q_evA_nil : evA rn (.nil) env = (.ok ([], env)) := by first | (rw [evA]; done) | (rw [evA]; rfl)
theorem q_evA_v {e} {as} : evA rn (.v e as) env = (do
    let (d, env1) ← asV (ev rn e env)
    let (ds, env2) ← evA rn as env1
    .ok (.d d :: ds, env2)) := by first | (rw [evA]; done) | (rw [evA]; rfl)
theorem q_evA_io {i} {as} : evA rn (.io i as) env = (if bnd env[i]? then do
      let (ds, env2) ← evA rn as env
      .ok (.io i :: ds, env2)
    else .bad) := by first | (rw [evA]; done) | (rw [evA]; rfl)
theorem q_evA_sc {i} {as} : evA rn (.sc i as) env = (if bnd env[i]? then do
      let (ds, env2) ← evA rn as env
      .ok (.sc i :: ds, env2)
    else .bad) := by first | (rw [evA]; done) | (rw [evA]; rfl)
theorem q_evN_lst {es} : evN rn (.lst es) env = (do
    let (ds, env1) ← evs rn es env
    if ds.length ≤ sizeLine then .ok (.lst ds, env1) else .bad) := by first | (rw [evN]; done) | (rw [evN]; rfl)
theorem q_evN_toL {a} : evN rn (.toL a) env = (n1 (ev rn a env) seqD) := by first | (rw [evN]; done) | (rw [evN]; rfl)
theorem q_evN_vals {i} : evN rn (.vals i) env = (match env[i]? with
    | some (.own (.dil kvs) false) => .ok (.lst (kvs.map fun p => .list p.2), env.set i .no)
    | _ => .bad) := by first | (rw [evN]; done) | (rw [evN]; rfl)
theorem q_evN_keysL {a} : evN rn (.keysL a) env = (n1 (ev rn a env) keysD) := by first | (rw [evN]; done) | (rw [evN]; rfl)
theorem q_evN_cat {a} {b} : evN rn (.cat a b) env = (do
    let (x, env1) ← ev rn a env
    let (y, env2) ← ev rn b env1
    let d ← Rs.of (deref env2 x)
    let e ← Rs.of (deref env2 y)
    let es ← Rs.of (catD d e)
    .ok (.lst es, env2)) := by first | (rw [evN]; done) | (rw [evN]; rfl)
theorem q_evN_dnew : evN rn (.dnew) env = (.ok (.dil [], env)) := by first | (rw [evN]; done) | (rw [evN]; rfl)
theorem q_evN_srt {a} : evN rn (.srt a) env = (n1 (ev rn a env) sortD) := by first | (rw [evN]; done) | (rw [evN]; rfl)
theorem q_evN_srtk {a} {f} : evN rn (.srtk a f) env = (do
    let (x, env1) ← ev rn a env
    match (deref env1 x).bind seqD with
    | some ds => do
      let ps ← keysOf rn f ds
      if sortB (ps.map (·.2)) then .ok (.lst (sortBy ps), env1) else .bad
    | _ => .bad) := by first | (rw [evN]; done) | (rw [evN]; rfl)
theorem q_evN_call {f} {as} : evN rn (.call f as) env = (do
    let (aos, env1) ← evA rn as env
    let (r, env2) ← runCall rn f aos env1
    match r with
    | .own o => .ok (o, env2)
    | .val _ => .bad) := by first | (rw [evN]; done) | (rw [evN]; rfl)
theorem q_evSrc_seq {e} : evSrc rn (.seq e) env = (do
    let (x, env1) ← ev rn e env
    let (ds, l) ← Rs.of (itemsOf env1 x)
    .ok (ds, l, env1)) := by first | (rw [evSrc]; done) | (rw [evSrc]; rfl)
theorem q_evSrc_scr {i} : evSrc rn (.scr i) env = (match env[i]? with
    | some (.scr ns) => .ok (ns.map .int, none, env)
    | _ => .bad) := by first | (rw [evSrc]; done) | (rw [evSrc]; rfl)
theorem q_evSrc_rng {e} : evSrc rn (.rng e) env = (do
    let (d, env1) ← asV (ev rn e env)
    match d with
    | .int n => if idx63 n && decide (n ≤ sizeLine) then .ok (rngL 0 n.toNat, none, env1) else .bad
    | _ => .bad) := by first | (rw [evSrc]; done) | (rw [evSrc]; rfl)
theorem q_evSrc_rng2 {a} {b} : evSrc rn (.rng2 a b) env = (do
    let (d, env1) ← asV (ev rn a env)
    let (d2, env2) ← asV (ev rn b env1)
    match d, d2 with
    | .int m, .int n => if idx63 m && idx63 n && decide (n - m ≤ sizeLine) then .ok (rngL m (n - m).toNat, none, env2) else .bad
    | _, _ => .bad) := by first | (rw [evSrc]; done) | (rw [evSrc]; rfl)
theorem q_evSrc_enum {e} : evSrc rn (.enum e) env = (do
    let (x, env1) ← ev rn e env
    let (ds, l) ← Rs.of (itemsL env1 x)
    .ok (enumL ds, l, env1)) := by first | (rw [evSrc]; done) | (rw [evSrc]; rfl)
theorem q_evC_no : evC rn (.no) env = (.ok (true, env)) := by first | (rw [evC]; done) | (rw [evC]; rfl)
theorem q_evC_on {e} : evC rn (.on e) env = (asT (ev rn e env)) := by first | (rw [evC]; done) | (rw [evC]; rfl)
theorem q_ex_asg {t} {e} : ex rn (.asg t e) env = (do
    let (d, env1) ← asV (ev rn e env)
    let env2 ← Rs.of (setT env1 t d)
    .ok (.nx env2)) := by first | (rw [ex]; done) | (rw [ex]; rfl)
theorem q_ex_own {i} {n} : ex rn (.own i n) env = (do
    let (o, env1) ← evN rn n env
    let env2 ← Rs.of (setO env1 i o)
    .ok (.nx env2)) := by first | (rw [ex]; done) | (rw [ex]; rfl)
theorem q_ex_aug {i} {op} {e} : ex rn (.aug i op e) env = (do
    let x ← Rs.of (getV env i)
    let (d, env1) ← asV (ev rn e env)
    match x with
    | .int _ => do
      let r ← Rs.of (bop op x d)
      let env2 ← Rs.of (setV env1 i r)
      .ok (.nx env2)
    | .str _ => do
      let r ← Rs.of (bop op x d)
      let env2 ← Rs.of (setV env1 i r)
      .ok (.nx env2)
    | _ => .bad) := by first | (rw [ex]; done) | (rw [ex]; rfl)
theorem q_ex_setIx {i} {ix} {e} : ex rn (.setIx i ix e) env = (do
    let (d, env1) ← asV (ev rn e env)
    if bnd env1[i]? then do
      let (k, env2) ← asV (ev rn ix env1)
      match k, env2[i]? with
      | .int j, some (.own (.lst ds) p) => if 0 ≤ j ∧ j < ds.length then .ok (.nx (env2.set i (.own (.lst (ds.set j.toNat d)) p))) else .bad
      | _, _ => .bad
    else .bad) := by first | (rw [ex]; done) | (rw [ex]; rfl)
theorem q_ex_app {i} {e} : ex rn (.app i e) env = (if isOL env[i]? then do
      let (d, env1) ← asV (ev rn e env)
      match env1[i]? with
      | some (.own (.lst ds) p) => if ds.length < sizeLine then .ok (.nx (env1.set i (.own (.lst (ds ++ [d])) p))) else .bad
      | _ => .bad
    else .bad) := by first | (rw [ex]; done) | (rw [ex]; rfl)
theorem q_ex_rev {i} : ex rn (.rev i) env = (match env[i]? with
    | some (.own (.lst ds) p) => .ok (.nx (env.set i (.own (.lst ds.reverse) p)))
    | _ => .bad) := by first | (rw [ex]; done) | (rw [ex]; rfl)
theorem q_ex_sdapp {i k j} : ex rn (.sdapp i k (.var j)) env = (if isOD env[i]? then do
        let (kd, env1) ← asV (ev rn k env)
        let d ← Rs.of (getV env1 j)
        if keyOk kd then match env1[i]? with
          | some (.own (.dil kvs) p) => if kvs.length < sizeLine ∧ kvs.all (fun q => decide (q.2.length < sizeLine)) then .ok (.nx (env1.set i (.own (.dil (sdPut kvs kd d)) p))) else .bad
          | _ => .bad
        else .bad
      else .bad) := by first | (rw [ex]; done) | (rw [ex]; rfl)
theorem q_ex_ife {c} {a} {b} : ex rn (.ife c a b) env = (do
    let (k, env1) ← asT (ev rn c env)
    if k then exs rn a env1 else exs rn b env1) := by first | (rw [ex]; done) | (rw [ex]; rfl)
theorem q_ex_ret {e} : ex rn (.ret e) env = (do
    let (d, env1) ← asV (ev rn e env)
    .ok (.rt (.val d) env1)) := by first | (rw [ex]; done) | (rw [ex]; rfl)
theorem q_ex_retO {i} : ex rn (.retO i) env = (match env[i]? with
    | some (.own o false) => .ok (.rt (.own o) (env.set i .no))
    | _ => .bad) := by first | (rw [ex]; done) | (rw [ex]; rfl)
theorem q_ex_exp {e} : ex rn (.exp e) env = (do
    let (x, env1) ← ev rn e env
    .ok (.nx env1)) := by first | (rw [ex]; done) | (rw [ex]; rfl)
theorem q_ex_frz {i} : ex rn (.frz i) env = (match env[i]? with
    | some (.own o false) => .ok (.nx (env.set i (.val o.fr)))
    | some (.val _) => .ok (.nx env)
    | _ => .bad) := by first | (rw [ex]; done) | (rw [ex]; rfl)
theorem q_ex_pass : ex rn (.pass) env = (.ok (.nx env)) := by first | (rw [ex]; done) | (rw [ex]; rfl)
theorem q_ex_brk : ex rn (.brk) env = (.ok (.bk env)) := by first | (rw [ex]; done) | (rw [ex]; rfl)
theorem q_ex_cnt : ex rn (.cnt) env = (.ok (.ct env)) := by first | (rw [ex]; done) | (rw [ex]; rfl)
theorem q_exs_nil : exs rn (.nil) env = (.ok (.nx env)) := by first | (rw [exs]; done) | (rw [exs]; rfl)
theorem q_exs_cons {s} {ss} : exs rn (.cons s ss) env = (do
    match ← ex rn s env with
    | .nx env1 => exs rn ss env1
    | f => .ok f) := by first | (rw [exs]; done) | (rw [exs]; rfl)
end
theorem u_len_l {ds} : uop .len (.list ds) = some (.int ds.length) := rfl
theorem u_len_t {ds} : uop .len (.tuple ds) = some (.int ds.length) := rfl
theorem u_len_s {x} : uop .len (.str x) = if x.length ≤ sizeLine then some (.int x.length) else none := rfl
theorem u_toInt {i} : uop .toInt (.int i) = some (.int i) := rfl
theorem u_tup_l {ds} : uop .toTup (.list ds) = some (.tuple ds) := rfl
theorem u_tup_t {ds} : uop .toTup (.tuple ds) = some (.tuple ds) := rfl
theorem u_isInt_int {i} : uop .isInt (.int i) = some (.bool true) := rfl
theorem u_isInt_bool {b} : uop .isInt (.bool b) = some (.bool true) := rfl
theorem u_isInt_str {x} : uop .isInt (.str x) = some (.bool false) := rfl
theorem u_isInt_tuple {ds} : uop .isInt (.tuple ds) = some (.bool false) := rfl
theorem u_isInt_list {ds} : uop .isInt (.list ds) = some (.bool false) := rfl
theorem u_isInt_none  : uop .isInt .none = some (.bool false) := rfl
theorem u_isStr_int {i} : uop .isStr (.int i) = some (.bool false) := rfl
theorem u_isStr_bool {b} : uop .isStr (.bool b) = some (.bool false) := rfl
theorem u_isStr_str {x} : uop .isStr (.str x) = some (.bool true) := rfl
theorem u_isStr_tuple {ds} : uop .isStr (.tuple ds) = some (.bool false) := rfl
theorem u_isStr_list {ds} : uop .isStr (.list ds) = some (.bool false) := rfl
theorem u_isStr_none  : uop .isStr .none = some (.bool false) := rfl
theorem u_isTup_int {i} : uop .isTup (.int i) = some (.bool false) := rfl
theorem u_isTup_bool {b} : uop .isTup (.bool b) = some (.bool false) := rfl
theorem u_isTup_str {x} : uop .isTup (.str x) = some (.bool false) := rfl
theorem u_isTup_tuple {ds} : uop .isTup (.tuple ds) = some (.bool true) := rfl
theorem u_isTup_list {ds} : uop .isTup (.list ds) = some (.bool false) := rfl
theorem u_isTup_none  : uop .isTup .none = some (.bool false) := rfl
theorem u_isBool_int {i} : uop .isBool (.int i) = some (.bool false) := rfl
theorem u_isBool_bool {b} : uop .isBool (.bool b) = some (.bool true) := rfl
theorem u_isBool_str {x} : uop .isBool (.str x) = some (.bool false) := rfl
theorem u_isBool_tuple {ds} : uop .isBool (.tuple ds) = some (.bool false) := rfl
theorem u_isBool_list {ds} : uop .isBool (.list ds) = some (.bool false) := rfl
theorem u_isBool_none  : uop .isBool .none = some (.bool false) := rfl
theorem u_isList_int {i} : uop .isList (.int i) = some (.bool false) := rfl
theorem u_isList_bool {b} : uop .isList (.bool b) = some (.bool false) := rfl
theorem u_isList_str {x} : uop .isList (.str x) = some (.bool false) := rfl
theorem u_isList_tuple {ds} : uop .isList (.tuple ds) = some (.bool false) := rfl
theorem u_isList_list {ds} : uop .isList (.list ds) = some (.bool true) := rfl
theorem u_isList_none  : uop .isList .none = some (.bool false) := rfl
theorem u_isSeq_int {i} : uop .isSeq (.int i) = some (.bool false) := rfl
theorem u_isSeq_bool {b} : uop .isSeq (.bool b) = some (.bool false) := rfl
theorem u_isSeq_str {x} : uop .isSeq (.str x) = some (.bool false) := rfl
theorem u_isSeq_tuple {ds} : uop .isSeq (.tuple ds) = some (.bool true) := rfl
theorem u_isSeq_list {ds} : uop .isSeq (.list ds) = some (.bool true) := rfl
theorem u_isSeq_none  : uop .isSeq .none = some (.bool false) := rfl
theorem u_isNon_int {i} : uop .isNon (.int i) = some (.bool false) := rfl
theorem u_isNon_bool {b} : uop .isNon (.bool b) = some (.bool false) := rfl
theorem u_isNon_str {x} : uop .isNon (.str x) = some (.bool false) := rfl
theorem u_isNon_tuple {ds} : uop .isNon (.tuple ds) = some (.bool false) := rfl
theorem u_isNon_list {ds} : uop .isNon (.list ds) = some (.bool false) := rfl
theorem u_isNon_none  : uop .isNon .none = some (.bool true) := rfl
theorem u_notNon_int {i} : uop .notNon (.int i) = some (.bool true) := rfl
theorem u_notNon_bool {b} : uop .notNon (.bool b) = some (.bool true) := rfl
theorem u_notNon_str {x} : uop .notNon (.str x) = some (.bool true) := rfl
theorem u_notNon_tuple {ds} : uop .notNon (.tuple ds) = some (.bool true) := rfl
theorem u_notNon_list {ds} : uop .notNon (.list ds) = some (.bool true) := rfl
theorem u_notNon_none  : uop .notNon .none = some (.bool false) := rfl
theorem u_not {b} : uop .not (.bool b) = some (.bool !b) := rfl
theorem u_neg {i} : uop .neg (.int i) = some (.int (-i)) := rfl
theorem u_isTru {b} : uop .isTru (.bool b) = some (.bool b) := rfl
theorem u_notTru {b} : uop .notTru (.bool b) = some (.bool !b) := rfl
theorem u_maxL {ds} : uop .maxL (.list ds) = ((intsOf ds).bind maxI).map .int := rfl
theorem b_add_i {i j} : bop .add (.int i) (.int j) = some (.int (i + j)) := rfl
theorem b_add_s {x y} : bop .add (.str x) (.str y) = if x.length + y.length ≤ sizeLine then some (.str (x ++ y)) else none := rfl
theorem b_add_l {xs ys} : bop .add (.list xs) (.list ys) = if xs.length + ys.length ≤ sizeLine then some (.list (xs ++ ys)) else none := rfl
theorem b_add_t {xs ys} : bop .add (.tuple xs) (.tuple ys) = if xs.length + ys.length ≤ sizeLine then some (.tuple (xs ++ ys)) else none := rfl
theorem b_sub {i j} : bop .sub (.int i) (.int j) = some (.int (i - j)) := rfl
theorem b_mul {i j} : bop .mul (.int i) (.int j) = if mulOk i j then some (.int (i * j)) else none := rfl
theorem b_mod {i j} : bop .mod (.int i) (.int j) = if 0 < j then some (.int (i % j)) else none := rfl
theorem b_lt {i j} : bop .lt (.int i) (.int j) = some (.bool (decide (i < j))) := rfl
theorem b_le {i j} : bop .le (.int i) (.int j) = some (.bool (decide (i ≤ j))) := rfl
theorem b_gt {i j} : bop .gt (.int i) (.int j) = some (.bool (decide (j < i))) := rfl
theorem b_ge {i j} : bop .ge (.int i) (.int j) = some (.bool (decide (j ≤ i))) := rfl
theorem b_idx_l {ds i} : bop .idx (.list ds) (.int i) = L2.atI ds i := rfl
theorem b_idx_t {ds i} : bop .idx (.tuple ds) (.int i) = L2.atI ds i := rfl
theorem b_eq {a b} : bop .eq a b = if SeqAt.shaped a && SeqAt.shaped b then some (.bool (PyData.eqv a b)) else none := by cases a <;> rfl
theorem b_ne {a b} : bop .ne a b = if SeqAt.shaped a && SeqAt.shaped b then some (.bool (!PyData.eqv a b)) else none := by cases a <;> rfl
theorem b_in {a b} : bop .isin a b = (inD a b).map .bool := by cases a <;> rfl
theorem b_nin {a b} : bop .notin a b = (inD a b).map fun c => .bool !c := by cases a <;> rfl
theorem shI {i : Int} : SeqAt.shaped (.int i) = true := by simp [SeqAt.shaped, PyData.canLay0, PyData.depth]
theorem shB {b : Bool} : SeqAt.shaped (.bool b) = true := by simp [SeqAt.shaped, PyData.canLay0, PyData.depth]
theorem eqvI {i j : Int} : PyData.eqv (.int i) (.int j) = decide (i = j) := by simp [PyData.eqv, beq_dec]
theorem eqvB {i j : Bool} : PyData.eqv (.bool i) (.bool j) = decide (i = j) := by simp [PyData.eqv, beq_dec]
theorem szN {n : Nat} (h : Nat.ble n 16777216 = true) : (n ≤ sizeLine) = True := eq_true (Nat.le_of_ble_eq_true h)
theorem sz0 : (0 ≤ sizeLine) = True := szN rfl
theorem sz1 : (1 ≤ sizeLine) = True := szN rfl
theorem sz2 : (2 ≤ sizeLine) = True := szN rfl
theorem sz3 : (3 ≤ sizeLine) = True := szN rfl
theorem sz4 : (4 ≤ sizeLine) = True := szN rfl
theorem sz5 : (5 ≤ sizeLine) = True := szN rfl
theorem sz6 : (6 ≤ sizeLine) = True := szN rfl
theorem sz7 : (7 ≤ sizeLine) = True := szN rfl
def K : Nat → Runner := run k78_fd
def endR (args : List Sl) (x : Rs Flow) : Rs (Ret × List Sl) := x >>= fun f => match f with
  | .nx env => fin args (.val .none) env
  | .rt r env => fin args r env
  | _ => .bad
theorem endR_nx {args : List Sl} {env : Env} : endR args (.ok (.nx env)) = fin args (.val .none) env := Eq.trans rfl rfl
theorem endR_rt {args : List Sl} {env : Env} {r : Ret} : endR args (.ok (.rt r env)) = fin args r env := Eq.trans rfl rfl
theorem K_step {n f : Nat} {args : List Sl} (fd : FD) (h : k78_fd f = some fd) (ha : args.length = fd.np) : K (n + 1) f args = endR args (exs (K n) fd.body (args ++ List.replicate (fd.n - fd.np) .no)) := by
  unfold K
  rw [run]
  simp only [h, if_pos ha]
  rfl
local macro_rules | `(tactic| simp! only [$ts,*]) => `(tactic| simp only [q_ev_int, q_ev_str, q_ev_bl, q_ev_non, q_ev_var, q_ev_bor, q_ev_tup, q_ev_nw, q_ev_un, q_ev_bin, q_ev_and, q_ev_or, q_ev_ite, q_ev_sl, q_ev_slf, q_ev_call, q_ev_pop, q_evs_nil, q_evs_cons, q_evA_nil, q_evA_v, q_evA_io, q_evA_sc, q_evN_lst, q_evN_toL, q_evN_vals, q_evN_keysL, q_evN_cat, q_evN_dnew, q_evN_srt, q_evN_srtk, q_evN_call, q_evSrc_seq, q_evSrc_scr, q_evSrc_rng, q_evSrc_rng2, q_evSrc_enum, q_evC_no, q_evC_on, q_ex_asg, q_ex_own, q_ex_aug, q_ex_setIx, q_ex_app, q_ex_rev, q_ex_sdapp, q_ex_ife, q_ex_ret, q_ex_retO, q_ex_exp, q_ex_frz, q_ex_pass, q_ex_brk, q_ex_cnt, q_exs_nil, q_exs_cons, u_len_l, u_len_t, u_len_s, u_toInt, u_tup_l, u_tup_t, u_isInt_int, u_isInt_bool, u_isInt_str, u_isInt_tuple, u_isInt_list, u_isInt_none, u_isStr_int, u_isStr_bool, u_isStr_str, u_isStr_tuple, u_isStr_list, u_isStr_none, u_isTup_int, u_isTup_bool, u_isTup_str, u_isTup_tuple, u_isTup_list, u_isTup_none, u_isBool_int, u_isBool_bool, u_isBool_str, u_isBool_tuple, u_isBool_list, u_isBool_none, u_isList_int, u_isList_bool, u_isList_str, u_isList_tuple, u_isList_list, u_isList_none, u_isSeq_int, u_isSeq_bool, u_isSeq_str, u_isSeq_tuple, u_isSeq_list, u_isSeq_none, u_isNon_int, u_isNon_bool, u_isNon_str, u_isNon_tuple, u_isNon_list, u_isNon_none, u_notNon_int, u_notNon_bool, u_notNon_str, u_notNon_tuple, u_notNon_list, u_notNon_none, u_not, u_neg, u_isTru, u_notTru, u_maxL, b_add_i, b_add_s, b_add_l, b_add_t, b_sub, b_mul, b_mod, b_lt, b_le, b_gt, b_ge, b_idx_l, b_idx_t, b_eq, b_ne, b_in, b_nin, shI, shB, eqvI, eqvB, asV, asT, getV, setV, setO, opV, deref, itemsOf, itemsL, lend, unlend, wipeE, backE, mkArgs, ios, putOuts, runCall, outsOf, out1, fin, setT, setAll, bnd, isOL, isOD, ↓bind_bdk, okbk, ofs, Ret.fr, O.fr, n1, seqD, List.length_cons, List.length_nil, List.length_replicate, List.replicate, List.cons_append, List.nil_append, List.append_nil, List.set, List.getElem?_cons_zero, List.getElem?_cons_succ, List.getElem?_nil, List.nodup_nil, List.nodup_cons, List.not_mem_nil, not_false_eq_true, and_self, true_and, and_true, if_true, if_false, Bool.false_eq_true, ↓reduceIte, reduceCtorEq, Nat.reduceAdd, Nat.reduceSub, Nat.reduceEqDiff, Nat.zero_add, Option.bind_some, Option.bind_none, Option.map_some, sz0, sz1, sz2, sz3, sz4, sz5, sz6, sz7, Bool.and_self, Bool.and_false, Bool.false_and, Bool.and_true, Bool.true_and, Bool.not_true, Bool.not_false, List.length_map, at0, at1, at2, at3, endR_nx, endR_rt, $ts,*])
abbrev nd (n : Nat) : D := .int (n : Int)

theorem backE_of {env : Env} : ∀ {vs : List Nat} {X : Env}, X.length = env.length → (∀ i, i ∉ vs → X[i]? = env[i]?) → backE env vs X = env
  | [], X, hl, h => List.ext_getElem? fun i => h i (by simp)
  | v :: vs, X, hl, h => by
    unfold backE
    cases q : env[v]? with
    | none =>
      refine backE_of hl fun i hi => ?_
      by_cases e : i = v
      · subst e
        rw [q, List.getElem?_eq_none_iff, hl]
        exact List.getElem?_eq_none_iff.mp q
      · exact h i (by simp [e, hi])
    | some s =>
      refine backE_of (by simpa using hl) fun i hi => ?_
      show (X.set v s)[i]? = _
      by_cases e : i = v
      · subst e
        rw [List.getElem?_set_self (by rw [hl]; exact (List.getElem?_eq_some_iff.mp q).1), q]
      · rw [List.getElem?_set_ne (Ne.symm e)]
        exact h i (by simp [e, hi])
theorem wipeE_of {env : Env} : ∀ {vs : List Nat} {X : Env}, wipeE env vs = some X → X.length = env.length ∧ ∀ i, i ∉ vs → X[i]? = env[i]?
  | [], X, h => by cases h; exact ⟨rfl, fun _ _ => rfl⟩
  | v :: vs, X, h => by
    unfold wipeE at h
    have t : ∀ {e : Env}, wipeE env vs = some e → X = e.set v .no → X.length = env.length ∧ ∀ i, i ∉ v :: vs → X[i]? = env[i]? := by
      intro e he hx
      obtain ⟨h1, h2⟩ := wipeE_of he
      subst hx
      refine ⟨by simpa using h1, fun i hi => ?_⟩
      rw [List.getElem?_set_ne (fun q => hi (by simp [q]))]
      exact h2 i fun q => hi (List.mem_cons_of_mem _ q)
    split at h
    · rename_i he
      exact t he (Option.some.inj h).symm
    · rename_i he
      exact t he (Option.some.inj h).symm
    · cases h
theorem unlend_lend {env : Env} (l : Option Nat) : unlend env (lend env l) l = env := by
  cases l with
  | none => rfl
  | some i =>
    unfold unlend lend
    cases q : env[i]? with
    | none => simp [q]
    | some s =>
      simp only [q]
      split
      · rw [List.set_set]
        exact List.ext_getElem? fun j => by
          by_cases e : i = j
          · subst e; rw [List.getElem?_set_self (List.getElem?_eq_some_iff.mp q).1, q]
          · rw [List.getElem?_set_ne e]
      · exact List.ext_getElem? fun j => by
          by_cases e : i = j
          · subst e; rw [List.getElem?_set_self (List.getElem?_eq_some_iff.mp q).1, q]
          · rw [List.getElem?_set_ne e]
section
variable {gs : SrcF} {gc : TstF} {ge gk gv : ValF} {t : Tg} {vs : List Nat} {env envI : Env} {ds : List D} {l : Option Nat}
theorem lcE_pure (r : D → Option D) (hg : gs env = .ok (ds, l, env)) (hw : wipeE (lend env l) vs = some envI) (ht : ∀ d ∈ ds, lcTurn gc ge t vs d envI = .ok (r d, envI)) :
    lcE gs gc ge t vs env = .ok (.lst (ds.filterMap r), env) := by
  unfold lcE
  obtain ⟨h1, h2⟩ := wipeE_of hw
  rw [hg]
  simp only [ok_bind, hw, of_some, lcGo_pure ht, List.nil_append]
  rw [backE_of h1 h2, unlend_lend]
/-- with a typed source and typed turns -/
theorem lcE_map {α : Type} {as : List α} {dd : α → D} {f : α → D} {q : α → Bool} (hg : gs env = .ok (as.map dd, l, env)) (hw : wipeE (lend env l) vs = some envI) (ht : ∀ a ∈ as, lcTurn gc ge t vs (dd a) envI = .ok (if q a = true then some (f a) else none, envI)) :
    lcE gs gc ge t vs env = .ok (.lst ((as.filter q).map f), env) := by
  have key : ∀ (as : List α) (acc : List D), (∀ a ∈ as, lcTurn gc ge t vs (dd a) envI = .ok (if q a = true then some (f a) else none, envI)) → lcGo (lcTurn gc ge t vs) (as.map dd) acc envI = .ok (acc ++ (as.filter q).map f, envI) := by
    intro as
    induction as with
    | nil => intro acc _; simp [lcGo]
    | cons a as ih =>
      intro acc h
      have h1 := h a List.mem_cons_self
      have h2 := fun acc => ih acc fun x hx => h x (List.mem_cons_of_mem _ hx)
      simp only [List.map_cons, lcGo, h1, ok_bind]
      by_cases c : q a = true
      · simp only [if_pos c, List.filter_cons_of_pos c, List.map_cons]
        rw [h2, List.append_assoc]; rfl
      · simp only [if_neg c, List.filter_cons_of_neg c]
        rw [h2]
  unfold lcE
  obtain ⟨h1, h2⟩ := wipeE_of hw
  rw [hg]
  simp only [ok_bind, hw, of_some, key as [] ht, List.nil_append]
  rw [backE_of h1 h2, unlend_lend]
theorem filter_tt {α : Type} (as : List α) : as.filter (fun _ => true) = as := by simp
/-- each one -/
theorem lcE_all {α : Type} {as : List α} {dd : α → D} {f : α → D} (hg : gs env = .ok (as.map dd, l, env)) (hw : wipeE (lend env l) vs = some envI) (ht : ∀ a ∈ as, lcTurn gc ge t vs (dd a) envI = .ok (some (f a), envI)) :
    lcE gs gc ge t vs env = .ok (.lst (as.map f), env) := by
  have h := lcE_map (q := fun _ => true) (f := f) hg hw (fun a ha => by rw [ht a ha]; rfl)
  rw [filter_tt] at h
  exact h
variable {rn : Runner} {elt ke ve : E} {src : Src} {cd : Cd}
theorem lc_map {α : Type} {as : List α} {dd : α → D} {f : α → D} {q : α → Bool} (hg : evSrc rn src env = .ok (as.map dd, l, env)) (hw : wipeE (lend env l) vs = some envI) (ht : ∀ a ∈ as, lcTurn (fun e => evC rn cd e) (fun e => asV (ev rn elt e)) t vs (dd a) envI = .ok (if q a = true then some (f a) else none, envI)) :
    evN rn (.lc elt t src cd vs) env = .ok (.lst ((as.filter q).map f), env) := by
  rw [evN]
  exact lcE_map hg hw ht
theorem lc_all {α : Type} {as : List α} {dd : α → D} {f : α → D} (hg : evSrc rn src env = .ok (as.map dd, l, env)) (hw : wipeE (lend env l) vs = some envI) (ht : ∀ a ∈ as, lcTurn (fun e => evC rn cd e) (fun e => asV (ev rn elt e)) t vs (dd a) envI = .ok (some (f a), envI)) :
    evN rn (.lc elt t src cd vs) env = .ok (.lst (as.map f), env) := by
  rw [evN]
  exact lcE_all hg hw ht
/-- a for: its walk -/
theorem ex_fr {tg : Tg} {body : Ss} : ex rn (.fr tg src body) env = (do
    let (ds, l, env1) ← evSrc rn src env
    match ← forGo (fun d e => do
        let e1 ← Rs.of (setT e tg d)
        exs rn body e1) ds (lend env1 l) with
    | .nx env2 => .ok (.nx (unlend env1 env2 l))
    | .rt (.val d) env2 => .ok (.rt (.val d) (unlend env1 env2 l))
    | _ => .bad) := by first | (rw [ex]; done) | (rw [ex]; rfl)
end
end VE
/-! VP3: keys -/
namespace VE
local macro_rules | `(tactic| simp! only [$ts,*]) => `(tactic| simp only [q_ev_int, q_ev_str, q_ev_bl, q_ev_non, q_ev_var, q_ev_bor, q_ev_tup, q_ev_nw, q_ev_un, q_ev_bin, q_ev_and, q_ev_or, q_ev_ite, q_ev_sl, q_ev_slf, q_ev_call, q_ev_pop, q_evs_nil, q_evs_cons, q_evA_nil, q_evA_v, q_evA_io, q_evA_sc, q_evN_lst, q_evN_toL, q_evN_vals, q_evN_keysL, q_evN_cat, q_evN_dnew, q_evN_srt, q_evN_srtk, q_evN_call, q_evSrc_seq, q_evSrc_scr, q_evSrc_rng, q_evSrc_rng2, q_evSrc_enum, q_evC_no, q_evC_on, q_ex_asg, q_ex_own, q_ex_aug, q_ex_setIx, q_ex_app, q_ex_rev, q_ex_sdapp, q_ex_ife, q_ex_ret, q_ex_retO, q_ex_exp, q_ex_frz, q_ex_pass, q_ex_brk, q_ex_cnt, q_exs_nil, q_exs_cons, u_len_l, u_len_t, u_len_s, u_toInt, u_tup_l, u_tup_t, u_isInt_int, u_isInt_bool, u_isInt_str, u_isInt_tuple, u_isInt_list, u_isInt_none, u_isStr_int, u_isStr_bool, u_isStr_str, u_isStr_tuple, u_isStr_list, u_isStr_none, u_isTup_int, u_isTup_bool, u_isTup_str, u_isTup_tuple, u_isTup_list, u_isTup_none, u_isBool_int, u_isBool_bool, u_isBool_str, u_isBool_tuple, u_isBool_list, u_isBool_none, u_isList_int, u_isList_bool, u_isList_str, u_isList_tuple, u_isList_list, u_isList_none, u_isSeq_int, u_isSeq_bool, u_isSeq_str, u_isSeq_tuple, u_isSeq_list, u_isSeq_none, u_isNon_int, u_isNon_bool, u_isNon_str, u_isNon_tuple, u_isNon_list, u_isNon_none, u_notNon_int, u_notNon_bool, u_notNon_str, u_notNon_tuple, u_notNon_list, u_notNon_none, u_not, u_neg, u_isTru, u_notTru, u_maxL, b_add_i, b_add_s, b_add_l, b_add_t, b_sub, b_mul, b_mod, b_lt, b_le, b_gt, b_ge, b_idx_l, b_idx_t, b_eq, b_ne, b_in, b_nin, shI, shB, eqvI, eqvB, asV, asT, getV, setV, setO, opV, deref, itemsOf, itemsL, lend, unlend, wipeE, backE, mkArgs, ios, putOuts, runCall, outsOf, out1, fin, setT, setAll, bnd, isOL, isOD, ↓bind_bdk, okbk, ofs, Ret.fr, O.fr, n1, seqD, List.length_cons, List.length_nil, List.length_replicate, List.replicate, List.cons_append, List.nil_append, List.append_nil, List.set, List.getElem?_cons_zero, List.getElem?_cons_succ, List.getElem?_nil, List.nodup_nil, List.nodup_cons, List.not_mem_nil, not_false_eq_true, and_self, true_and, and_true, if_true, if_false, Bool.false_eq_true, ↓reduceIte, reduceCtorEq, Nat.reduceAdd, Nat.reduceSub, Nat.reduceEqDiff, Nat.zero_add, Option.bind_some, Option.bind_none, Option.map_some, sz0, sz1, sz2, sz3, sz4, sz5, sz6, sz7, Bool.and_self, Bool.and_false, Bool.false_and, Bool.and_true, Bool.true_and, Bool.not_true, Bool.not_false, List.length_map, at0, at1, at2, at3, endR_nx, endR_rt, $ts,*])
open PySem PySem.W
                        PyProof.Rows

theorem r_cells_at (n : Nat) (row : List D) (pl : List Nat) (h : ∀ p ∈ pl, p < row.length) :
    K (n + 1) 0 [.val (.tuple row), .val (.tuple (pl.map nd))] = .ok (.val (.tuple (pl.map fun p => row.getD p .none)), [.val (.tuple row), .val (.tuple (pl.map nd))]) := by
  rw [K_step _ rfl rfl]; simp! only [k78_cells_at]
  rw [lc_all (as := pl) (dd := nd) (f := fun p => row.getD p .none) (l := none) (envI := [.val (.tuple row), .val (.tuple (pl.map nd)), .no]) (by simp! only []) (by simp! only [])]
  · simp! only [uop]
  · intro p hp
    have q : row[p]? = some (row.getD p .none) := by rw [List.getD_eq_getElem?_getD, List.getElem?_eq_getElem (h p hp)]; rfl
    simp! only [lcTurn, bop, atI_nat q]
theorem r_cell_key (n : Nat) (c : Cell) : K (n + 1) 1 [.val c.d] = .ok (.val c.key, [.val c.d]) := by
  cases c with
  | i m => rw [K_step _ rfl rfl]; simp! only [k78_cell_key, Cell.d, Cell.key]
  | s m => rw [K_step _ rfl rfl]; simp! only [k78_cell_key, Cell.d, Cell.key]
  | b m => rw [K_step _ rfl rfl]; simp! only [k78_cell_key, Cell.d, Cell.key]
theorem r_row_key (n : Nat) (r : List Cell) : K (n + 2) 2 [.val (.tuple (r.map Cell.d))] = .ok (.val (.tuple (r.map Cell.key)), [.val (.tuple (r.map Cell.d))]) := by
  rw [K_step _ rfl rfl]; simp! only [k78_row_key]
  rw [lc_all (as := r) (dd := Cell.d) (f := Cell.key) (l := none) (envI := [.val (.tuple (r.map Cell.d)), .no]) (by simp! only []) (by simp! only [])]
  · simp! only []
  · intro c hc
    simp! only [lcTurn, r_cell_key]
theorem r_fact_key (n : Nat) (f : Fact) : K (n + 3) 3 [.val f.d] = .ok (.val f.key, [.val f.d]) := by
  rw [K_step _ rfl rfl]; simp! only [k78_fact_key, Fact.d, Fact.key, r_row_key]
theorem r_pair_key (n : Nat) (f : Pr) : K (n + 4) 8 [.val (prD f)] = .ok (.val (prK f), [.val (prD f)]) := by
  rw [K_step _ rfl rfl]; simp! only [k78_pair_key, prD, prK, r_fact_key]
theorem r_lcell_key (n : Nat) (c : Cell) : K (n + 1) 17 [.val c.d] = .ok (.val c.key, [.val c.d]) := by
  cases c with
  | i m => rw [K_step _ rfl rfl]; simp! only [k78__law_cell_key, Cell.d, Cell.key]
  | s m => rw [K_step _ rfl rfl]; simp! only [k78__law_cell_key, Cell.d, Cell.key]
  | b m => rw [K_step _ rfl rfl]; simp! only [k78__law_cell_key, Cell.d, Cell.key]
theorem r_lrow_key (n : Nat) (r : List Cell) : K (n + 2) 18 [.val (.tuple (r.map Cell.d))] = .ok (.val (.tuple (r.map Cell.key)), [.val (.tuple (r.map Cell.d))]) := by
  rw [K_step _ rfl rfl]; simp! only [k78__law_row_key]
  rw [lc_all (as := r) (dd := Cell.d) (f := Cell.key) (l := none) (envI := [.val (.tuple (r.map Cell.d)), .no]) (by simp! only []) (by simp! only [])]
  · simp! only []
  · intro c hc
    simp! only [lcTurn, r_lcell_key]
theorem r_lfact_key (n : Nat) (f : Fact) : K (n + 3) 19 [.val f.d] = .ok (.val f.key, [.val f.d]) := by
  rw [K_step _ rfl rfl]; simp! only [k78__law_fact_key, Fact.d, Fact.key, r_lrow_key]
end VE
/-! VP4: stores -/
namespace VE
local macro_rules | `(tactic| simp! only [$ts,*]) => `(tactic| simp only [q_ev_int, q_ev_str, q_ev_bl, q_ev_non, q_ev_var, q_ev_bor, q_ev_tup, q_ev_nw, q_ev_un, q_ev_bin, q_ev_and, q_ev_or, q_ev_ite, q_ev_sl, q_ev_slf, q_ev_call, q_ev_pop, q_evs_nil, q_evs_cons, q_evA_nil, q_evA_v, q_evA_io, q_evA_sc, q_evN_lst, q_evN_toL, q_evN_vals, q_evN_keysL, q_evN_cat, q_evN_dnew, q_evN_srt, q_evN_srtk, q_evN_call, q_evSrc_seq, q_evSrc_scr, q_evSrc_rng, q_evSrc_rng2, q_evSrc_enum, q_evC_no, q_evC_on, q_ex_asg, q_ex_own, q_ex_aug, q_ex_setIx, q_ex_app, q_ex_rev, q_ex_sdapp, q_ex_ife, q_ex_ret, q_ex_retO, q_ex_exp, q_ex_frz, q_ex_pass, q_ex_brk, q_ex_cnt, q_exs_nil, q_exs_cons, u_len_l, u_len_t, u_len_s, u_toInt, u_tup_l, u_tup_t, u_isInt_int, u_isInt_bool, u_isInt_str, u_isInt_tuple, u_isInt_list, u_isInt_none, u_isStr_int, u_isStr_bool, u_isStr_str, u_isStr_tuple, u_isStr_list, u_isStr_none, u_isTup_int, u_isTup_bool, u_isTup_str, u_isTup_tuple, u_isTup_list, u_isTup_none, u_isBool_int, u_isBool_bool, u_isBool_str, u_isBool_tuple, u_isBool_list, u_isBool_none, u_isList_int, u_isList_bool, u_isList_str, u_isList_tuple, u_isList_list, u_isList_none, u_isSeq_int, u_isSeq_bool, u_isSeq_str, u_isSeq_tuple, u_isSeq_list, u_isSeq_none, u_isNon_int, u_isNon_bool, u_isNon_str, u_isNon_tuple, u_isNon_list, u_isNon_none, u_notNon_int, u_notNon_bool, u_notNon_str, u_notNon_tuple, u_notNon_list, u_notNon_none, u_not, u_neg, u_isTru, u_notTru, u_maxL, b_add_i, b_add_s, b_add_l, b_add_t, b_sub, b_mul, b_mod, b_lt, b_le, b_gt, b_ge, b_idx_l, b_idx_t, b_eq, b_ne, b_in, b_nin, shI, shB, eqvI, eqvB, asV, asT, getV, setV, setO, opV, deref, itemsOf, itemsL, lend, unlend, wipeE, backE, mkArgs, ios, putOuts, runCall, outsOf, out1, fin, setT, setAll, bnd, isOL, isOD, ↓bind_bdk, okbk, ofs, Ret.fr, O.fr, n1, seqD, List.length_cons, List.length_nil, List.length_replicate, List.replicate, List.cons_append, List.nil_append, List.append_nil, List.set, List.getElem?_cons_zero, List.getElem?_cons_succ, List.getElem?_nil, List.nodup_nil, List.nodup_cons, List.not_mem_nil, not_false_eq_true, and_self, true_and, and_true, if_true, if_false, Bool.false_eq_true, ↓reduceIte, reduceCtorEq, Nat.reduceAdd, Nat.reduceSub, Nat.reduceEqDiff, Nat.zero_add, Option.bind_some, Option.bind_none, Option.map_some, sz0, sz1, sz2, sz3, sz4, sz5, sz6, sz7, Bool.and_self, Bool.and_false, Bool.false_and, Bool.and_true, Bool.true_and, Bool.not_true, Bool.not_false, List.length_map, at0, at1, at2, at3, endR_nx, endR_rt, $ts,*])
open PySem PySem.W
                        PyProof.Rows
section
variable {α : Type} [DecidableEq α] [Dt α]
theorem shp (a : α) : SeqAt.shaped (Dt.d a) = true := by
  have := Dt.dep a
  simp [SeqAt.shaped, Dt.lay a]; omega
theorem shp_list (as : List α) : SeqAt.shaped (.list (as.map Dt.d)) = true := by
  have := depthAll_map (f := Dt.d (α := α)) Dt.dep as
  simp [SeqAt.shaped, PyData.canLay0, canLayAll_map Dt.lay, PyData.depth]; omega
theorem shp_tup (as : List α) : SeqAt.shaped (.tuple (as.map Dt.d)) = true := by
  have := depthAll_map (f := Dt.d (α := α)) Dt.dep as
  simp [SeqAt.shaped, PyData.canLay0, canLayAll_map Dt.lay, PyData.depth]; omega
theorem any_mem (as : List α) (a : α) : ((as.map Dt.d).any fun z => PyData.eqv z (Dt.d a)) = decide (a ∈ as) := by
  rw [List.any_map]
  have : ((fun z => PyData.eqv z (Dt.d a)) ∘ Dt.d) = fun x : α => decide (x = a) := by
    funext x
    exact Dt.eq x a
  rw [this, Bool.eq_iff_iff]
  simp
theorem inD_list (as : List α) (a : α) : inD (Dt.d a) (.list (as.map Dt.d)) = some (decide (a ∈ as)) := by
  unfold inD
  simp only [shp, shp_list, Bool.and_self, if_true]
  rw [any_mem]
theorem inD_tup (as : List α) (a : α) : inD (Dt.d a) (.tuple (as.map Dt.d)) = some (decide (a ∈ as)) := by
  unfold inD
  simp only [shp, shp_tup, Bool.and_self, if_true]
  rw [any_mem]
def kv (a : α) : D × D := (Dt.d a, .bool true)
theorem nkd_iff (a b : α) : (nkey (Dt.d a) = some (Dt.nk b)) ↔ a = b := by
  rw [Dt.nkd]
  exact ⟨fun h => Dt.nki _ _ (Option.some.inj h), fun h => by rw [h]⟩
theorem hasKey_kv (ks : List α) (a : α) : hasKey (ks.map kv) (Dt.nk a) = decide (a ∈ ks) := by
  unfold hasKey
  rw [List.any_map]
  rw [Bool.eq_iff_iff, List.any_eq_true, decide_eq_true_iff]
  constructor
  · rintro ⟨x, hx, h⟩
    simp only [Function.comp_apply, kv, Dt.nkd, decide_eq_true_iff] at h
    rw [← Dt.nki _ _ h]
    exact hx
  · intro h
    refine ⟨a, h, ?_⟩
    simp only [Function.comp_apply, kv, Dt.nkd, decide_true]
theorem isReal_kv (ks : List α) : isReal (ks.map kv) = true := by
  cases ks with
  | nil => rfl
  | cons k ks =>
    obtain ⟨ds, h⟩ := Dt.tup k
    show isReal ((Dt.d k, .bool true) :: _) = true
    rw [h]
    rfl
theorem inD_dict (ks : List α) (a : α) : inD (Dt.d a) (.dict (ks.map kv)) = some (decide (a ∈ ks)) := by
  obtain ⟨ds, h⟩ := Dt.tup a
  have hn := Dt.nkd a
  have hh := Dt.nkh a
  have hk := hasKey_kv ks a
  have hr := isReal_kv ks
  rw [h] at hn ⊢
  unfold inD
  simp only [hn, hr, Bool.and_true, decide_eq_true hh, if_true, hk]
theorem keyOk_d (a : α) : keyOk (Dt.d a) = true := by
  obtain ⟨ds, h⟩ := Dt.tup a
  have hn := Dt.nkd a
  rw [h] at hn ⊢
  simp only [keyOk, hn, decide_eq_true (Dt.nkh a)]
theorem putD_kv (ks : List α) (a : α) : putD (ks.map kv) (Dt.d a) (.bool true) = (if a ∈ ks then ks else ks ++ [a]).map kv := by
  unfold putD
  simp only [Dt.nkd, hasKey_kv]
  by_cases h : a ∈ ks
  · simp only [h, decide_true, if_true, List.map_map]
    refine List.map_congr_left fun x hx => ?_
    show (if nkey (kv x).1 = _ then ((kv x).1, PyData.bool true) else kv x) = kv x
    split <;> rfl
  · simp only [h, decide_false, Bool.false_eq_true, if_false, List.map_append]
    rfl
theorem dcGo_keys {f : D → Env → Rs (Option (D × D) × Env)} {env : Env} : ∀ {as acc : List α}, acc.length + as.length ≤ sizeLine → (∀ a ∈ as, f (Dt.d a) env = .ok (some (Dt.d a, .bool true), env)) → dcGo f (as.map Dt.d) (acc.map kv) env = .ok ((ddp acc as).map kv, env)
  | [], acc, _, _ => rfl
  | a :: as, acc, hl, h => by
    rw [List.length_cons] at hl
    have h1 := h a List.mem_cons_self
    have h2 := fun acc hl => dcGo_keys (as := as) (acc := acc) (f := f) (env := env) hl fun x hx => h x (List.mem_cons_of_mem _ hx)
    have hc : (decide ((acc.map kv).length < sizeLine)) = true := decide_eq_true (by rw [List.length_map]; omega)
    rw [List.map_cons]
    unfold dcGo ddp
    simp only [h1, ok_bind, keyOk_d, hc, Bool.and_self, if_true, putD_kv]
    split
    · exact h2 acc (by omega)
    · exact h2 _ (by rw [List.length_append, List.length_singleton]; omega)
theorem dcE_keys {gs : SrcF} {gc : TstF} {gk gv : ValF} {t : Tg} {vs : List Nat} {env envI : Env} {l : Option Nat} {as : List α} (hg : gs env = .ok (as.map Dt.d, l, env)) (hw : wipeE (lend env l) vs = some envI) (hl : as.length ≤ sizeLine)
    (ht : ∀ a ∈ as, dcTurn gc gk gv t vs (Dt.d a) envI = .ok (some (Dt.d a, .bool true), envI)) : dcE gs gc gk gv t vs env = .ok (.dic ((ddp [] as).map kv), env) := by
  unfold dcE
  obtain ⟨h1, h2⟩ := wipeE_of hw
  rw [hg]
  have h := dcGo_keys (as := as) (acc := []) (f := dcTurn gc gk gv t vs) (env := envI) (by simpa using hl) ht
  rw [List.map_nil] at h
  simp only [ok_bind, hw, of_some, h]
  rw [backE_of h1 h2, unlend_lend]
theorem dc_keys {rn : Runner} {ke ve : E} {src : Src} {cd : Cd} {t : Tg} {vs : List Nat} {env envI : Env} {l : Option Nat} {as : List α} (hg : evSrc rn src env = .ok (as.map Dt.d, l, env)) (hw : wipeE (lend env l) vs = some envI) (hl : as.length ≤ sizeLine)
    (ht : ∀ a ∈ as, dcTurn (fun e => evC rn cd e) (fun e => asV (ev rn ke e)) (fun e => asV (ev rn ve e)) t vs (Dt.d a) envI = .ok (some (Dt.d a, .bool true), envI)) : evN rn (.dc ke ve t src cd vs) env = .ok (.dic ((ddp [] as).map kv), env) := by
  rw [evN]
  exact dcE_keys hg hw hl ht
theorem dc2Go_keys {β : Type} {f : List (D × D) → D → Env → Rs (List (D × D) × Env)} {env : Env} {bd : β → D} {pp : β → List α} : ∀ {bs : List β} {acc : List α}, acc.length + (bs.flatMap pp).length ≤ sizeLine → (∀ b ∈ bs, ∀ acc : List α, acc.length + (pp b).length ≤ sizeLine → f (acc.map kv) (bd b) env = .ok ((ddp acc (pp b)).map kv, env)) →
    dc2Go f (bs.map bd) (acc.map kv) env = .ok ((ddp acc (bs.flatMap pp)).map kv, env)
  | [], acc, _, _ => rfl
  | b :: bs, acc, hl, h => by
    rw [List.flatMap_cons, List.length_append] at hl
    have h1 := h b List.mem_cons_self acc (by omega)
    have e : ∀ (xs ys acc : List α), ddp acc (xs ++ ys) = ddp (ddp acc xs) ys := by
      intro xs
      induction xs with
      | nil => intros; rfl
      | cons x xs ih =>
        intro ys acc
        simp only [List.cons_append, ddp]
        split <;> exact ih _ _
    have hd := ddp_len (as := pp b) (acc := acc)
    have h2 := dc2Go_keys (bs := bs) (acc := ddp acc (pp b)) (f := f) (env := env) (bd := bd) (pp := pp) (by omega) fun x hx => h x (List.mem_cons_of_mem _ hx)
    rw [List.map_cons]
    unfold dc2Go
    simp only [h1, ok_bind]
    rw [h2, List.flatMap_cons, e]
theorem keysOf_d {rn : Runner} {f : Nat} (h : ∀ a : α, rn f [.val (Dt.d a)] = .ok (.val (Dt.key a), [.val (Dt.d a)])) : ∀ as : List α, keysOf rn f (as.map Dt.d) = .ok (as.map fun a => (Dt.d a, Dt.key a))
  | [] => rfl
  | a :: as => by
    rw [List.map_cons]
    unfold keysOf
    have ih := keysOf_d h as
    simp! only [h, ih]
    rfl
theorem sortB_key (as : List α) : sortB ((as.map fun a => (Dt.d a, Dt.key a)).map (·.2)) = true := by
  have e : (as.map fun a => (Dt.d a, Dt.key a)).map (·.2) = as.map Dt.key := by rw [List.map_map]; rfl
  rw [e]
  unfold sortB allAlike sortable shallow
  simp only [List.all_map, Bool.and_eq_true, Bool.or_eq_true, List.all_eq_true, Function.comp_apply]
  refine ⟨⟨⟨fun a _ b _ => Dt.ka a b, .inl fun a _ => ?_⟩, fun a _ => decide_eq_true (Dt.kd a)⟩, fun a _ => Dt.kl a⟩
  obtain ⟨x, xs, h⟩ := Dt.kt a
  rw [h]
theorem sortBy_key (as : List α) : sortBy (as.map fun a => (Dt.d a, Dt.key a)) = (as.mergeSort le).map Dt.d := by
  unfold sortBy
  rw [← List.map_mergeSort (r := le) (f := fun a : α => ((Dt.d a, Dt.key a) : D × D)), List.map_map]
  · rfl
  · intro a _ b _; rfl
theorem keysD_kv (ks : List α) : keysD (.dict (ks.map kv)) = some (ks.map Dt.d) := by
  unfold keysD
  simp only [isReal_kv, if_true, List.map_map]
  rfl
end
theorem dD (f : Fact) : f.d = Dt.d f := rfl
theorem mD (fs : List Fact) : fs.map Fact.d = fs.map Dt.d := rfl
theorem r_store_of (n : Nat) (fs : List Fact) (hl : fs.length ≤ sizeLine) : K (n + 4) 4 [.val (.list (fs.map Dt.d))] = .ok (.val (.tuple ((canon fs).map Dt.d)), [.val (.list (fs.map Dt.d))]) := by
  rw [K_step _ rfl rfl]; simp! only [k78_store_of]
  rw [dc_keys (as := fs) (l := none) (envI := [.val (.list (fs.map Dt.d)), .no, .no]) (by simp! only []) (by simp! only []) hl]
  · unfold canon
    simp! only [keysD_kv, keysOf_d (rn := K (n + 3)) (f := 3) (α := Fact) (fun a => r_fact_key n a), sortB_key, sortBy_key]
  · intro a ha
    simp! only [dcTurn]
theorem forGo_ind {body : D → Env → Rs Flow} (I : List D → Env → Prop) (step : ∀ d ds env, I (d :: ds) env → ∃ env', body d env = .ok (.nx env') ∧ I ds env') : ∀ ds env, I ds env → ∃ env', forGo body ds env = .ok (.nx env') ∧ I [] env'
  | [], env, h => ⟨env, rfl, h⟩
  | d :: ds, env, h => by
    obtain ⟨e1, h1, h2⟩ := step d ds env h
    obtain ⟨e2, h3, h4⟩ := forGo_ind I step ds e1 h2
    refine ⟨e2, ?_, h4⟩
    unfold forGo
    rw [h1]
    exact h3
/-- a slot that may be bound anew -/
def FreeS (x : Sl) : Prop := x = .no ∨ ∃ d, x = .val d
theorem FreeS.no : FreeS .no := .inl rfl
theorem FreeS.val {d : D} : FreeS (.val d) := .inr ⟨d, rfl⟩
section
variable {rn : Runner} {src : Src} {tg : Tg} {body : Ss} {env env1 : Env} {l : Option Nat} {α : Type} {dd : α → D}
theorem fr_go (I : List α → Env → Prop) (h : ∀ a as e, I (a :: as) e → ∃ e1 e2, setT e tg (dd a) = some e1 ∧ exs rn body e1 = .ok (.nx e2) ∧ I as e2) : ∀ (as : List α) (e : Env), I as e → ∃ e', I [] e' ∧ forGo (fun d e => do
        let e1 ← Rs.of (setT e tg d)
        exs rn body e1) (as.map dd) e = .ok (.nx e')
  | [], e, hi => ⟨e, hi, rfl⟩
  | a :: as, e, hi => by
    obtain ⟨e1, e2, h1, h2, h3⟩ := h a as e hi
    obtain ⟨e', h4, h5⟩ := fr_go I h as e2 h3
    refine ⟨e', h4, ?_⟩
    rw [List.map_cons]
    unfold forGo
    simp only [h1, of_some, ok_bind, h2]
    exact h5
/-- a for that goes to its end -/
theorem fr_ind (as : List α) (dd : α → D) (I : List α → Env → Prop) (hg : evSrc rn src env = .ok (as.map dd, l, env1)) (h0 : I as (lend env1 l)) (h : ∀ a as e, I (a :: as) e → ∃ e1 e2, setT e tg (dd a) = some e1 ∧ exs rn body e1 = .ok (.nx e2) ∧ I as e2) :
    ∃ e, I [] e ∧ ex rn (.fr tg src body) env = .ok (.nx (unlend env1 e l)) := by
  obtain ⟨e, h1, h2⟩ := fr_go I h as _ h0
  refine ⟨e, h1, ?_⟩
  rw [ex_fr, hg]
  simp only [ok_bind, h2]
/-- a for that looks for one -/
theorem fr_any_go {r : D} (p : α → Bool) (E : Sl → Env) (hs : ∀ x d, FreeS x → setT (E x) tg d = some (E (.val d))) : ∀ (as : List α) (x : Sl), FreeS x → (∀ a ∈ as, exs rn body (E (.val (dd a))) = .ok (if p a = true then .rt (.val r) (E (.val (dd a))) else .nx (E (.val (dd a))))) → ∃ y, FreeS y ∧ forGo (fun d e => do
        let e1 ← Rs.of (setT e tg d)
        exs rn body e1) (as.map dd) (E x) = .ok (if as.any p = true then .rt (.val r) (E y) else .nx (E y))
  | [], x, hx, _ => ⟨x, hx, rfl⟩
  | a :: as, x, hx, h => by
    have h1 := h a List.mem_cons_self
    have h3 := hs x (dd a) hx
    rw [List.map_cons, List.any_cons]
    by_cases c : p a = true
    · refine ⟨.val (dd a), .val, ?_⟩
      unfold forGo
      simp only [h3, of_some, ok_bind, h1, if_pos c, c, Bool.true_or, if_true]
    · obtain ⟨y, hy, h2⟩ := fr_any_go p E hs as (.val (dd a)) .val fun b hb => h b (List.mem_cons_of_mem _ hb)
      refine ⟨y, hy, ?_⟩
      rw [Bool.not_eq_true] at c
      unfold forGo
      simp only [h3, of_some, ok_bind, h1]
      simp only [c, Bool.false_eq_true, if_false, Bool.false_or]
      exact h2
theorem fr_any (as : List α) (dd : α → D) {r : D} (p : α → Bool) (E : Sl → Env) {x : Sl} (hx : FreeS x) (hg : evSrc rn src (E x) = .ok (as.map dd, none, E x)) (hs : ∀ x d, FreeS x → setT (E x) tg d = some (E (.val d))) (h : ∀ a ∈ as, exs rn body (E (.val (dd a))) = .ok (if p a = true then .rt (.val r) (E (.val (dd a))) else .nx (E (.val (dd a))))) :
    ∃ y, FreeS y ∧ ex rn (.fr tg src body) (E x) = .ok (if as.any p = true then .rt (.val r) (E y) else .nx (E y)) := by
  obtain ⟨y, hy, h2⟩ := fr_any_go p E hs as x hx h
  refine ⟨y, hy, ?_⟩
  rw [ex_fr, hg]
  simp only [ok_bind, lend, h2]
  cases as.any p <;> rfl
end
theorem atI_last {α : Type} (xs : List α) (x : α) : L2.atI (xs ++ [x]) (-1) = some x := by
  unfold L2.atI L2.ixN
  rw [if_neg (by omega), if_pos (by simp; omega)]
  have : ((-1 : Int) + ((xs ++ [x]).length : Int)).toNat = xs.length := by simp; omega
  rw [Option.bind_some, this]
  simp
theorem r_law_store (n : Nat) (fs : List Fact) (hl : fs.length ≤ sizeLine) : K (n + 4) 20 [.val (.list (fs.map Dt.d))] = .ok (.val (.tuple ((canon fs).map Dt.d)), [.val (.list (fs.map Dt.d))]) := by
  rw [K_step _ rfl rfl]; simp! only [k78__law_store, keysOf_d (rn := K (n + 3)) (f := 19) (α := Fact) (fun a => r_lfact_key n a), sortB_key, sortBy_key]
  obtain ⟨e, ⟨acc, x, hx, hc, hn, rfl⟩, h⟩ := fr_ind (rn := K (n + 3)) (src := .seq (.nw (.srtk (.var 0) 19))) (tg := .nm 2) (l := none) (env := [.val (.list (fs.map Dt.d)), .own (.lst []) false, .no])
    (env1 := [.val (.list (fs.map Dt.d)), .own (.lst []) false, .no])
    (body := (.cons (.ife (.or (.bin .eq (.un .len (.bor 1)) (.int 0)) (.bin .ne (.bin .idx (.bor 1) (.un .neg (.int 1))) (.var 2))) (.cons (.app 1 (.var 2)) .nil) .nil) .nil)) (fs.mergeSort le) Dt.d
    (fun rest e => ∃ acc x, FreeS x ∧ adj acc rest = canon fs ∧ acc.length + rest.length ≤ sizeLine ∧ e = [.val (.list (fs.map Dt.d)), .own (.lst (acc.map Dt.d)) false, x])
    (by simp! only [keysOf_d (rn := K (n + 3)) (f := 19) (α := Fact) (fun a => r_lfact_key n a), sortB_key, sortBy_key])
    ⟨[], .no, .no, adj_canon fs, by simpa [List.length_mergeSort] using hl, rfl⟩
    (by
      rintro a as e ⟨acc, x, hx, hc, hn, rfl⟩
      refine ⟨[.val (.list (fs.map Dt.d)), .own (.lst (acc.map Dt.d)) false, .val (Dt.d a)], [.val (.list (fs.map Dt.d)), .own (.lst ((if acc.getLast? = some a then acc else acc ++ [a]).map Dt.d)) false, .val (Dt.d a)], ?_, ?_, if acc.getLast? = some a then acc else acc ++ [a], .val (Dt.d a), .val, ?_, ?_, rfl⟩
      · rcases hx with rfl | ⟨d, rfl⟩ <;> simp! only []
      · rw [List.length_cons] at hn
        rcases List.eq_nil_or_concat acc with rfl | ⟨pre, z, rfl⟩
        · have q : (0 < sizeLine) := by decide
          simp! only [List.map_nil, shI, eqvI, decide_true, List.getLast?_nil, q, List.map_append, List.map_cons]
          rfl
        · have q : pre.length + (0 + 1) < sizeLine := by simp at hn ⊢; omega
          have q2 : ¬ ((pre.length + 1 : Nat) : Int) = 0 := by omega
          simp! only [List.concat_eq_append, List.map_append, List.map_cons, List.map_nil, shI, eqvI, List.length_append, q2, decide_false, atI_last, shp, Dt.eq]
          by_cases c : z = a
          · simp! only [c, decide_true, Bool.not_true, List.getLast?_append, List.getLast?_singleton, Option.some_or]
            simp
          · simp! only [c, decide_false, Bool.not_false, q, List.getLast?_append, List.getLast?_singleton, Option.some_or]
            simp [c]
      · rw [← hc]
        conv => rhs; unfold adj
        split <;> rfl
      · rw [List.length_cons] at hn
        split
        · omega
        · rw [List.length_append, List.length_singleton]; omega)
  rw [h]
  have e : acc = canon fs := hc
  simp! only [e]
end VE
/-! VP5: parts, merged, clash, same -/
namespace VE
local macro_rules | `(tactic| simp! only [$ts,*]) => `(tactic| simp only [q_ev_int, q_ev_str, q_ev_bl, q_ev_non, q_ev_var, q_ev_bor, q_ev_tup, q_ev_nw, q_ev_un, q_ev_bin, q_ev_and, q_ev_or, q_ev_ite, q_ev_sl, q_ev_slf, q_ev_call, q_ev_pop, q_evs_nil, q_evs_cons, q_evA_nil, q_evA_v, q_evA_io, q_evA_sc, q_evN_lst, q_evN_toL, q_evN_vals, q_evN_keysL, q_evN_cat, q_evN_dnew, q_evN_srt, q_evN_srtk, q_evN_call, q_evSrc_seq, q_evSrc_scr, q_evSrc_rng, q_evSrc_rng2, q_evSrc_enum, q_evC_no, q_evC_on, q_ex_asg, q_ex_own, q_ex_aug, q_ex_setIx, q_ex_app, q_ex_rev, q_ex_sdapp, q_ex_ife, q_ex_ret, q_ex_retO, q_ex_exp, q_ex_frz, q_ex_pass, q_ex_brk, q_ex_cnt, q_exs_nil, q_exs_cons, u_len_l, u_len_t, u_len_s, u_toInt, u_tup_l, u_tup_t, u_isInt_int, u_isInt_bool, u_isInt_str, u_isInt_tuple, u_isInt_list, u_isInt_none, u_isStr_int, u_isStr_bool, u_isStr_str, u_isStr_tuple, u_isStr_list, u_isStr_none, u_isTup_int, u_isTup_bool, u_isTup_str, u_isTup_tuple, u_isTup_list, u_isTup_none, u_isBool_int, u_isBool_bool, u_isBool_str, u_isBool_tuple, u_isBool_list, u_isBool_none, u_isList_int, u_isList_bool, u_isList_str, u_isList_tuple, u_isList_list, u_isList_none, u_isSeq_int, u_isSeq_bool, u_isSeq_str, u_isSeq_tuple, u_isSeq_list, u_isSeq_none, u_isNon_int, u_isNon_bool, u_isNon_str, u_isNon_tuple, u_isNon_list, u_isNon_none, u_notNon_int, u_notNon_bool, u_notNon_str, u_notNon_tuple, u_notNon_list, u_notNon_none, u_not, u_neg, u_isTru, u_notTru, u_maxL, b_add_i, b_add_s, b_add_l, b_add_t, b_sub, b_mul, b_mod, b_lt, b_le, b_gt, b_ge, b_idx_l, b_idx_t, b_eq, b_ne, b_in, b_nin, shI, shB, eqvI, eqvB, asV, asT, getV, setV, setO, opV, deref, itemsOf, itemsL, lend, unlend, wipeE, backE, mkArgs, ios, putOuts, runCall, outsOf, out1, fin, setT, setAll, bnd, isOL, isOD, ↓bind_bdk, okbk, ofs, Ret.fr, O.fr, n1, seqD, List.length_cons, List.length_nil, List.length_replicate, List.replicate, List.cons_append, List.nil_append, List.append_nil, List.set, List.getElem?_cons_zero, List.getElem?_cons_succ, List.getElem?_nil, List.nodup_nil, List.nodup_cons, List.not_mem_nil, not_false_eq_true, and_self, true_and, and_true, if_true, if_false, Bool.false_eq_true, ↓reduceIte, reduceCtorEq, Nat.reduceAdd, Nat.reduceSub, Nat.reduceEqDiff, Nat.zero_add, Option.bind_some, Option.bind_none, Option.map_some, sz0, sz1, sz2, sz3, sz4, sz5, sz6, sz7, Bool.and_self, Bool.and_false, Bool.false_and, Bool.and_true, Bool.true_and, Bool.not_true, Bool.not_false, List.length_map, at0, at1, at2, at3, endR_nx, endR_rt, $ts,*])
open PySem PySem.W
                        PyProof.Rows

structure Tie where
  name : SW
  left : List Nat
  right : List Nat
def tup (pl : List Nat) : D := .tuple (pl.map nd)
def Tie.d (t : Tie) : D := .tuple [.str t.name.1, tup t.left, tup t.right]
def rowD (r : List Cell) : D := .tuple (r.map Cell.d)
theorem Fact.d_eq (f : Fact) : f.d = .tuple [.str f.name.1, rowD f.row] := rfl
def part (r : List Cell) (pl : List Nat) : List Cell := pl.map fun p => r.getD p (.i 0)
theorem part_getD {r : List Cell} {pl : List Nat} (h : ∀ p ∈ pl, p < r.length) : (pl.map fun p => (r.map Cell.d).getD p .none) = (part r pl).map Cell.d := by
  unfold part
  rw [List.map_map]
  refine List.map_congr_left
                          fun p hp => ?_
  have := h p hp
  simp [List.getD_eq_getElem?_getD,
                          this]
theorem r_part (n : Nat) {r : List Cell} {pl : List Nat} (h : ∀ p ∈ pl, p < r.length) : K (n + 1) 0 [.val (rowD r), .val (tup pl)] = .ok (.val (rowD (part r pl)), [.val (rowD r), .val (tup pl)]) := by
  have := r_cells_at n (r.map Cell.d) pl (by simpa using h)
  rw [part_getD h] at this
  exact this
theorem r_lpart (n : Nat) {r : List Cell} {pl : List Nat} (h : ∀ p ∈ pl, p < r.length) : K (n + 1) 23 [.val (rowD r), .val (tup pl)] = .ok (.val (rowD (part r pl)), [.val (rowD r), .val (tup pl)]) := by
  rw [rowD, rowD, ← part_getD h, tup]
  rw [K_step _ rfl rfl]; simp! only [k78__law_part]
  rw [lc_all (as := pl) (dd := nd) (f := fun p => (r.map Cell.d).getD p .none) (l := none) (envI := [.val (.tuple (r.map Cell.d)), .val (.tuple (pl.map nd)), .no]) (by simp! only []) (by simp! only [])]
  · simp! only []
  · intro p hp
    have q : (r.map Cell.d)[p]? = some ((r.map Cell.d).getD p .none) := by rw [List.getD_eq_getElem?_getD, List.getElem?_eq_getElem (by simpa using h p hp)]; rfl
    simp! only [lcTurn, atI_nat q]
theorem shp_row (r : List Cell) : SeqAt.shaped (rowD r) = true := by
  have := depthAll_map Cell.dep r
  simp [SeqAt.shaped, rowD, PyData.canLay0, canLayAll_map Cell.lay, PyData.depth]; omega
theorem eqv_row (r s : List Cell) : PyData.eqv (rowD r) (rowD s) = decide (r = s) := by
  rw [rowD, rowD, PyData.eqv, eqvAll_map Cell.eqv]
theorem shp_str (x : SW) : SeqAt.shaped (.str x.1) = true := by
  have := x.2
  simp [SeqAt.shaped, PyData.canLay0, PyData.depth]; exact this
theorem eqv_str (x y : SW) : PyData.eqv (.str x.1) (.str y.1) = decide (x = y) := by
  simp [PyData.eqv, beq_dec, Subtype.ext_iff]

/-- a tie's places are places of the facts of its name -/
def TFit (t : Tie) (f : Fact) : Prop := f.name = t.name → (∀ p ∈ t.left, p < f.row.length) ∧ ∀ p ∈ t.right, p < f.row.length
def clash1 (f g : Fact) (t : Tie) : Bool := decide (f.name = t.name) && (decide (g.name = t.name) && decide (part f.row t.left = part g.row t.left)) && !decide (part f.row t.right = part g.row t.right)
def clash (ts : List Tie) (f g : Fact) : Bool := ts.any (clash1 f g)
theorem r_law_clash (n : Nat) {ts : List Tie} {f g : Fact} (hf : ∀ t ∈ ts, TFit t f) (hg : ∀ t ∈ ts, TFit t g) :
    K (n + 2) 24 [.val (Dt.d f), .val (Dt.d g), .val (.tuple (ts.map Tie.d))] = .ok (.val (.bool (clash ts f g)), [.val (Dt.d f), .val (Dt.d g), .val (.tuple (ts.map Tie.d))]) := by
  rw [K_step _ rfl rfl]; simp! only [k78__law_clash]
  have h := fr_any (rn := K (n + 1)) (tg := .nm 3) (src := .seq (.var 2)) (body := (.cons (.ife (.and (.bin .eq (.bin .idx (.var 0) (.int 0)) (.bin .idx (.var 3) (.int 0))) (.and (.bin .eq (.bin .idx (.var 1) (.int 0)) (.bin .idx (.var 3) (.int 0))) (.bin .eq (.call 23 (.v (.bin .idx (.var 0) (.int 1)) (.v (.bin .idx (.var 3) (.int 1)) .nil))) (.call 23 (.v (.bin .idx (.var 1) (.int 1)) (.v (.bin .idx (.var 3) (.int 1)) .nil)))))) (.cons (.ife (.bin .ne (.call 23 (.v (.bin .idx (.var 0) (.int 1)) (.v (.bin .idx (.var 3) (.int 2)) .nil))) (.call 23 (.v (.bin .idx (.var 1) (.int 1)) (.v (.bin .idx (.var 3) (.int 2)) .nil)))) (.cons (.ret (.bl true))
  .nil) .nil)
  .nil) .nil)
  .nil)) ts Tie.d (r := .bool true) (clash1 f g) (fun x => [.val (Dt.d f), .val (Dt.d g), .val (.tuple (ts.map Tie.d)), x]) (x := .no) .no (by simp! only []) (by intro x d hx; rcases hx with rfl | ⟨y, rfl⟩ <;> simp! only []) (by
    intro t ht
    have df : Dt.d f = .tuple [.str f.name.1, rowD f.row] := rfl
    have dg : Dt.d g = .tuple [.str g.name.1, rowD g.row] := rfl
    have dt : t.d = .tuple [.str t.name.1, tup t.left, tup t.right] := rfl
    unfold clash1
    simp! only [df, dg, dt, shp_str, eqv_str]
    by_cases c1 : f.name = t.name
    · obtain ⟨l1, l2⟩ := hf t ht c1
      have c1' := decide_eq_true c1
      simp! only [c1', eqv_str, shp_str]
      by_cases c2 : g.name = t.name
      · obtain ⟨m1, m2⟩ := hg t ht c2
        have c2' := decide_eq_true c2
        simp! only [c2', r_lpart n l1, r_lpart n m1, shp_row, eqv_row]
        by_cases c3 : part f.row t.left = part g.row t.left
        · have c3' := decide_eq_true c3
          simp! only [c3', r_lpart n l2, r_lpart n m2, shp_row, eqv_row]
          by_cases c4 : part f.row t.right = part g.row t.right
          · have c4' := decide_eq_true c4
            simp! only [c4']
          · have c4' := decide_eq_false c4
            simp! only [c4']
        · have c3' := decide_eq_false c3
          simp! only [c3']
      · have c2' := decide_eq_false c2
        simp! only [c2']
    · have c1' := decide_eq_false c1
      simp! only [c1'])
  obtain ⟨y, hy, h2⟩ := h
  rw [h2]
  unfold clash
  cases c : ts.any (clash1 f g) <;> simp! only []
theorem r_merged (n : Nat) (bs ss os : List Fact) (h1 : bs.length ≤ 1000) (h2 : ss.length ≤ 1000) (h3 : os.length ≤ 1000) :
    K (n + 5) 5 [.val (.tuple (bs.map Dt.d)), .val (.tuple (ss.map Dt.d)), .val (.tuple (os.map Dt.d))] =
      .ok (.val (.tuple ((canon ((bs.filter fun f => decide (f ∈ ss) && decide (f ∈ os)) ++ ((ss ++ os).filter fun f => !decide (f ∈ bs)))).map Dt.d)), [.val (.tuple (bs.map Dt.d)), .val (.tuple (ss.map Dt.d)), .val (.tuple (os.map Dt.d))]) := by
  have sz : (4000 : Nat) ≤ sizeLine := Nat.le_of_ble_eq_true (by decide)
  rw [K_step _ rfl rfl]; simp! only [k78_merged]
  rw [dc_keys (as := bs) (l := none) (envI := [.val (.tuple (bs.map Dt.d)), .val (.tuple (ss.map Dt.d)), .val (.tuple (os.map Dt.d)), .no, .no, .no, .no, .no, .no]) (by simp! only []) (by simp! only []) (by omega) (by intro a ha; simp! only [dcTurn])]
  simp! only []
  rw [dc_keys (as := ss) (l := none) (envI := [.val (.tuple (bs.map Dt.d)), .val (.tuple (ss.map Dt.d)), .val (.tuple (os.map Dt.d)), .val (.dict ((ddp [] bs).map kv)), .no, .no, .no, .no, .no]) (by simp! only []) (by simp! only []) (by omega) (by intro a ha; simp! only [dcTurn])]
  simp! only []
  rw [dc_keys (as := os) (l := none) (envI := [.val (.tuple (bs.map Dt.d)), .val (.tuple (ss.map Dt.d)), .val (.tuple (os.map Dt.d)), .val (.dict ((ddp [] bs).map kv)), .val (.dict ((ddp [] ss).map kv)), .no, .no, .no, .no]) (by simp! only []) (by simp! only []) (by omega) (by intro a ha; simp! only [dcTurn])]
  simp! only []
  have e : ∀ (as : List Fact) (f : Fact), (f ∈ ddp [] as) = (f ∈ as) := fun as f => propext (by rw [ddp_mem]; simp)
  rw [lc_map (as := bs) (l := none) (dd := Dt.d) (f := Dt.d) (q := fun f => decide (f ∈ ss) && decide (f ∈ os)) (envI := [.val (.tuple (bs.map Dt.d)), .val (.tuple (ss.map Dt.d)), .val (.tuple (os.map Dt.d)), .val (.dict ((ddp [] bs).map kv)), .val (.dict ((ddp [] ss).map kv)), .val (.dict ((ddp [] os).map kv)), .no, .no, .no]) (by simp! only []) (by simp! only []) (by
    intro a ha
    by_cases c : a ∈ ss
    · by_cases c2 : a ∈ os <;> simp! only [lcTurn, inD_dict, e, c, c2, decide_true, decide_false]
    · simp! only [lcTurn, inD_dict, e, c, decide_false, Bool.false_and])]
  simp! only []
  have hs : ss.length + os.length ≤ sizeLine := by omega
  rw [lc_map (as := ss ++ os) (l := none) (dd := Dt.d) (f := Dt.d) (q := fun f => !decide (f ∈ bs)) (envI := [.val (.tuple (bs.map Dt.d)), .val (.tuple (ss.map Dt.d)), .val (.tuple (os.map Dt.d)), .val (.dict ((ddp [] bs).map kv)), .val (.dict ((ddp [] ss).map kv)), .val (.dict ((ddp [] os).map kv)), .val (.list ((bs.filter fun f => decide (f ∈ ss) && decide (f ∈ os)).map Dt.d)), .no, .no]) (by simp! only [hs, List.map_append]) (by simp! only []) (by
    intro a ha
    by_cases c : a ∈ bs <;> simp! only [lcTurn, inD_dict, e, c, decide_true, decide_false, Bool.not_true, Bool.not_false])]
  have l1 : (bs.filter fun f => decide (f ∈ ss) && decide (f ∈ os)).length ≤ bs.length := List.length_filter_le _ _
  have l2 : ((ss ++ os).filter fun f => !decide (f ∈ bs)).length ≤ (ss ++ os).length := List.length_filter_le _ _
  rw [List.length_append] at l2
  have l3 : (bs.filter fun f => decide (f ∈ ss) && decide (f ∈ os)).length + ((ss ++ os).filter fun f => !decide (f ∈ bs)).length ≤ sizeLine := by omega
  simp! only [l3]
  rw [← List.map_append, r_store_of n _ (by rw [List.length_append]; exact l3)]
  simp! only []
end VE
/-! VP6: the law's own words -/
namespace VE
local macro_rules | `(tactic| simp! only [$ts,*]) => `(tactic| simp only [q_ev_int, q_ev_str, q_ev_bl, q_ev_non, q_ev_var, q_ev_bor, q_ev_tup, q_ev_nw, q_ev_un, q_ev_bin, q_ev_and, q_ev_or, q_ev_ite, q_ev_sl, q_ev_slf, q_ev_call, q_ev_pop, q_evs_nil, q_evs_cons, q_evA_nil, q_evA_v, q_evA_io, q_evA_sc, q_evN_lst, q_evN_toL, q_evN_vals, q_evN_keysL, q_evN_cat, q_evN_dnew, q_evN_srt, q_evN_srtk, q_evN_call, q_evSrc_seq, q_evSrc_scr, q_evSrc_rng, q_evSrc_rng2, q_evSrc_enum, q_evC_no, q_evC_on, q_ex_asg, q_ex_own, q_ex_aug, q_ex_setIx, q_ex_app, q_ex_rev, q_ex_sdapp, q_ex_ife, q_ex_ret, q_ex_retO, q_ex_exp, q_ex_frz, q_ex_pass, q_ex_brk, q_ex_cnt, q_exs_nil, q_exs_cons, u_len_l, u_len_t, u_len_s, u_toInt, u_tup_l, u_tup_t, u_isInt_int, u_isInt_bool, u_isInt_str, u_isInt_tuple, u_isInt_list, u_isInt_none, u_isStr_int, u_isStr_bool, u_isStr_str, u_isStr_tuple, u_isStr_list, u_isStr_none, u_isTup_int, u_isTup_bool, u_isTup_str, u_isTup_tuple, u_isTup_list, u_isTup_none, u_isBool_int, u_isBool_bool, u_isBool_str, u_isBool_tuple, u_isBool_list, u_isBool_none, u_isList_int, u_isList_bool, u_isList_str, u_isList_tuple, u_isList_list, u_isList_none, u_isSeq_int, u_isSeq_bool, u_isSeq_str, u_isSeq_tuple, u_isSeq_list, u_isSeq_none, u_isNon_int, u_isNon_bool, u_isNon_str, u_isNon_tuple, u_isNon_list, u_isNon_none, u_notNon_int, u_notNon_bool, u_notNon_str, u_notNon_tuple, u_notNon_list, u_notNon_none, u_not, u_neg, u_isTru, u_notTru, u_maxL, b_add_i, b_add_s, b_add_l, b_add_t, b_sub, b_mul, b_mod, b_lt, b_le, b_gt, b_ge, b_idx_l, b_idx_t, b_eq, b_ne, b_in, b_nin, shI, shB, eqvI, eqvB, asV, asT, getV, setV, setO, opV, deref, itemsOf, itemsL, lend, unlend, wipeE, backE, mkArgs, ios, putOuts, runCall, outsOf, out1, fin, setT, setAll, bnd, isOL, isOD, ↓bind_bdk, okbk, ofs, Ret.fr, O.fr, n1, seqD, List.length_cons, List.length_nil, List.length_replicate, List.replicate, List.cons_append, List.nil_append, List.append_nil, List.set, List.getElem?_cons_zero, List.getElem?_cons_succ, List.getElem?_nil, List.nodup_nil, List.nodup_cons, List.not_mem_nil, not_false_eq_true, and_self, true_and, and_true, if_true, if_false, Bool.false_eq_true, ↓reduceIte, reduceCtorEq, Nat.reduceAdd, Nat.reduceSub, Nat.reduceEqDiff, Nat.zero_add, Option.bind_some, Option.bind_none, Option.map_some, sz0, sz1, sz2, sz3, sz4, sz5, sz6, sz7, Bool.and_self, Bool.and_false, Bool.false_and, Bool.and_true, Bool.true_and, Bool.not_true, Bool.not_false, List.length_map, at0, at1, at2, at3, endR_nx, endR_rt, $ts,*])
open PySem PySem.W
                        PyProof.Rows
theorem rng0 (n : Nat) : rngL 0 n = (List.range n).map nd := by
  unfold rngL nd
  exact List.map_congr_left fun k _ => by rw [Int.zero_add]
theorem szL : sizeLine = 16777216 := rfl
theorem idx63_nat {n : Nat} (h : n ≤ sizeLine) : idx63 (n : Int) = true := by
  unfold idx63
  refine decide_eq_true ?_
  have := szL
  omega
theorem rngOk {n : Nat} (hn : n ≤ sizeLine) : (idx63 (n : Int) && decide ((n : Int) ≤ (sizeLine : Int))) = true := by
  rw [Bool.and_eq_true]
  exact ⟨idx63_nat hn, decide_eq_true (Int.ofNat_le.mpr hn)⟩
theorem rng_src {rn : Runner} {e : E} {env : Env} {n : Nat} (h : ev rn e env = .ok (.d (.int n), env)) (hn : n ≤ sizeLine) : evSrc rn (.rng e) env = .ok ((List.range n).map nd, none, env) := by
  have q := rngOk hn
  rw [q_evSrc_rng, h]
  simp only [asV, okb, opV, ofs, q, if_true, Int.toNat_natCast, rng0]
theorem shp_bools (bs : List Bool) : SeqAt.shaped (.list (bs.map .bool)) = true := by
  have := depthAll_map (f := PyData.bool) (n := 0) (fun b => by simp [PyData.depth]) bs
  have h2 := canLayAll_map (f := PyData.bool) (fun b => by simp [PyData.canLay0]) bs
  simp [SeqAt.shaped, PyData.canLay0, h2, PyData.depth]; omega
theorem inD_bools (b : Bool) (bs : List Bool) : inD (.bool b) (.list (bs.map .bool)) = some (decide (b ∈ bs)) := by
  unfold inD
  simp only [shB, shp_bools, Bool.and_self, if_true]
  rw [List.any_map]
  have : ((fun z => PyData.eqv z (.bool b)) ∘ PyData.bool) = fun x : Bool => decide (x = b) := by
    funext x
    exact eqvB
  rw [this]
  congr 1
  rw [Bool.eq_iff_iff]
  simp

/-! _law_same on a thing and itself -/
def Same (n : Nat) (d : D) : Prop := K n 15 [.val d, .val d] = .ok (.val (.bool true), [.val d, .val d])
theorem same_int (n : Nat) (i : Int) : Same (n + 1) (.int i) := by
  unfold Same
  rw [K_step _ rfl rfl]; simp! only [k78__law_same, shI, shB, eqvI, eqvB, decide_true]
theorem same_bool (n : Nat) (i : Bool) : Same (n + 1) (.bool i) := by
  unfold Same
  rw [K_step _ rfl rfl]; simp! only [k78__law_same, shI, shB, eqvI, eqvB, decide_true]
theorem same_str (n : Nat) (x : SW) : Same (n + 1) (.str x.1) := by
  unfold Same
  rw [K_step _ rfl rfl]; simp! only [k78__law_same, shp_str, eqv_str, shB, eqvB, decide_true]
theorem same_tup (n : Nat) {α : Type} (as : List α) (f : α → D) (h : ∀ a ∈ as, Same n (f a)) (hl : as.length ≤ sizeLine) : Same (n + 1) (.tuple (as.map f)) := by
  unfold Same
  rw [K_step _ rfl rfl]; simp! only [k78__law_same, shB, eqvB, shI, eqvI, decide_true]
  rw [lc_all (as := List.range as.length) (dd := nd) (f := fun _ => .bool true) (l := none) (envI := [.val (.tuple (as.map f)), .val (.tuple (as.map f)), .no]) (rng_src (by simp! only []) hl) (by simp! only [])]
  · have e : (List.range as.length).map (fun _ => PyData.bool true) = ((List.range as.length).map (fun _ => true)).map PyData.bool := by rw [List.map_map]; rfl
    have e2 : (false ∈ (List.range as.length).map (fun _ => true)) = False := by simp
    simp! only [e, inD_bools, e2, decide_false]
  · intro k hk
    have hk' : k < as.length := List.mem_range.mp hk
    have q : (as.map f)[k]? = some (f as[k]) := by simp [hk']
    have s : K n 15 [.val (f as[k]), .val (f as[k])] = _ := h as[k] (List.getElem_mem hk')
    simp! only [lcTurn, atI_nat q, s]
theorem same_cell (n : Nat) (c : Cell) : Same (n + 2) c.d := by
  cases c with
  | i m => exact same_int _ m
  | s m => exact same_str _ m
  | b m =>
    have h := same_tup (n + 1) [(.str blk : D), .int m] id (fun a ha => by
      rcases List.mem_cons.mp
                              ha with rfl | ha
      · exact same_str n ⟨blk, blk_ok⟩
      · rw [List.mem_singleton] at ha; subst ha; exact same_int n m) (by rw [szL]; simp)
    exact h
theorem same_fact (n : Nat) (f : Fact) (hl : f.row.length ≤ sizeLine) : Same (n + 4) f.d := by
  have h := same_tup (n + 3) [(.str f.name.1 : D), rowD f.row] id (fun a ha => by
      rcases List.mem_cons.mp
                              ha with rfl | ha
      · exact same_str _ f.name
      · rw [List.mem_singleton] at ha; subst ha; exact same_tup _ f.row _ (fun c _ => same_cell n c) hl) (by rw [szL]; simp)
  exact h
theorem same_facts (n : Nat) (fs : List Fact) (h : ∀ f ∈ fs, f.row.length ≤ sizeLine) (hl : fs.length ≤ sizeLine) : Same (n + 5) (.tuple (fs.map Dt.d)) :=
  same_tup _ fs _ (fun f hf => same_fact n f (h f hf)) hl
theorem same_pairs (n : Nat) (ps : List Pr) (h : ∀ p ∈ ps, p.1.row.length ≤ sizeLine ∧ p.2.row.length ≤ sizeLine) (hl : ps.length ≤ sizeLine) : Same (n + 6) (.tuple (ps.map Dt.d)) :=
  same_tup _ ps _ (fun p hp => by
    have h := same_tup (n + 4) [p.1.d, p.2.d] id (fun a ha => by
      rcases List.mem_cons.mp
                              ha with rfl | ha
      · exact same_fact _ _ (h p hp).1
      · rw [List.mem_singleton] at ha; subst ha; exact same_fact _ _ (h p hp).2) (by rw [szL]; simp)
    exact h) hl

theorem r_law_merged (n : Nat) (bs ss os : List Fact) (h1 : bs.length ≤ 1000) (h2 : ss.length ≤ 1000) (h3 : os.length ≤ 1000) :
    K (n + 5) 26 [.val (.tuple (bs.map Dt.d)), .val (.tuple (ss.map Dt.d)), .val (.tuple (os.map Dt.d))] =
      .ok (.val (.tuple ((canon ((ss.filter fun f => decide (f ∈ os)) ++ ((ss ++ os).filter fun f => !decide (f ∈ bs)))).map Dt.d)), [.val (.tuple (bs.map Dt.d)), .val (.tuple (ss.map Dt.d)), .val (.tuple (os.map Dt.d))]) := by
  have sz : (4000 : Nat) ≤ sizeLine := by rw [szL]; omega
  rw [K_step _ rfl rfl]; simp! only [k78__law_merged]
  rw [lc_map (as := ss) (l := none) (dd := Dt.d) (f := Dt.d) (q := fun f => decide (f ∈ os)) (envI := [.val (.tuple (bs.map Dt.d)), .val (.tuple (ss.map Dt.d)), .val (.tuple (os.map Dt.d)), .no, .no]) (by simp! only []) (by simp! only []) (by
    intro a ha
    by_cases c : a ∈ os <;> simp! only [lcTurn, inD_tup, c, decide_true, decide_false])]
  simp! only []
  have hs : ss.length + os.length ≤ sizeLine := by omega
  rw [lc_map (as := ss ++ os) (l := none) (dd := Dt.d) (f := Dt.d) (q := fun f => !decide (f ∈ bs)) (envI := [.val (.tuple (bs.map Dt.d)), .val (.tuple (ss.map Dt.d)), .val (.tuple (os.map Dt.d)), .val (.list ((ss.filter fun f => decide (f ∈ os)).map Dt.d)), .no]) (by simp! only [hs, List.map_append]) (by simp! only []) (by
    intro a ha
    by_cases c : a ∈ bs <;> simp! only [lcTurn, inD_tup, c, decide_true, decide_false, Bool.not_true, Bool.not_false])]
  have l1 : (ss.filter fun f => decide (f ∈ os)).length ≤ ss.length := List.length_filter_le _ _
  have l2 : ((ss ++ os).filter fun f => !decide (f ∈ bs)).length ≤ (ss ++ os).length := List.length_filter_le _ _
  rw [List.length_append] at l2
  have l3 : (ss.filter fun f => decide (f ∈ os)).length + ((ss ++ os).filter fun f => !decide (f ∈ bs)).length ≤ sizeLine := by omega
  simp! only [l3]
  rw [← List.map_append, r_law_store n _ (by rw [List.length_append]; exact l3)]
  simp! only []
/-- the slices of the law -/
theorem cutL_from {α : Type} (xs : List α) (k : Nat) (h : k ≤ xs.length) : cutL xs (some (k : Int)) none = xs.drop k := by
  unfold cutL
  rw [HT.sIx_nat, HT.sIx_none, Nat.min_eq_left h, List.take_of_length_le]
  rw [List.length_drop]
  omega
def lprs (ts : List Tie) : List Fact → List Pr
  | [] => []
  | x :: ys => (ys.filter (clash ts x)).map (x, ·) ++ lprs ts ys
theorem lprs_len (ts : List Tie) (m : Nat) : ∀ (s : List Fact), s.length ≤ m → (lprs ts s).length ≤ s.length * m
  | [], _ => by simp [lprs]
  | x :: ys, h => by
    rw [List.length_cons] at h
    have h1 := lprs_len ts m ys (by omega)
    have h2 : (ys.filter (clash ts x)).length ≤ ys.length := List.length_filter_le _ _
    rw [lprs, List.length_append, List.length_map, List.length_cons, Nat.add_mul]
    omega
def AllFit (ts : List Tie) (fs : List Fact) : Prop := ∀ f ∈ fs, ∀ t ∈ ts, TFit t f
theorem pr_d (f g : Fact) : Dt.d (f, g) = .tuple [Dt.d f, Dt.d g] := rfl
theorem r_law_clashes (n : Nat) (s : List Fact) (ts : List Tie) (hf : AllFit ts s) (hl : s.length ≤ 1000) :
    K (n + 3) 25 [.val (.tuple (s.map Dt.d)), .val (.tuple (ts.map Tie.d))] = .ok (.val (.tuple ((lprs ts s).map Dt.d)), [.val (.tuple (s.map Dt.d)), .val (.tuple (ts.map Tie.d))]) := by
  have sz : (1000 * 1000 : Nat) ≤ sizeLine := by rw [szL]; omega
  have hL := lprs_len ts 1000 s hl
  have hL2 : (lprs ts s).length ≤ 1000 * 1000 := Nat.le_trans hL (Nat.mul_le_mul hl (Nat.le_refl _))
  rw [K_step _ rfl rfl]; simp! only [k78__law_clashes]
  obtain ⟨e, ⟨acc, x, y, hx, hy, pre, post, hs, hr, hc, rfl⟩, h⟩ := fr_ind (rn := K (n + 2)) (src := .rng (.un .len (.var 0))) (tg := .nm 3) (l := none) (env := [.val (.tuple (s.map Dt.d)), .val (.tuple (ts.map Tie.d)), .val (.list []), .no, .no])
    (env1 := [.val (.tuple (s.map Dt.d)), .val (.tuple (ts.map Tie.d)), .val (.list []), .no, .no])
    (body := (.cons (.asg (.nm 2) (.bin .add (.var 2) (.nw (.lc (.tup (.cons (.bin .idx (.var 0) (.var 3)) (.cons (.var 4) .nil))) (.nm 4) (.seq (.slf (.var 0) (.bin .add (.var 3) (.int 1)))) (.on (.call 24 (.v (.bin .idx (.var 0) (.var 3)) (.v (.var 4) (.v (.var 1) .nil))))) [4]))))
  .nil)) (List.range s.length) nd
    (fun rest e => ∃ (acc : List Pr) (x y : Sl), FreeS x ∧ y = .no ∧ ∃ pre post : List Fact, s = pre ++ post ∧ rest = (List.range post.length).map (· + pre.length) ∧ acc ++ lprs ts post = lprs ts s ∧ e = [.val (.tuple (s.map Dt.d)), .val (.tuple (ts.map Tie.d)), .val (.list (acc.map Dt.d)), x, y])
    (by
      have sz : s.length ≤ sizeLine := by omega
      rw [rng_src (n := s.length) (by simp! only []) sz])
    ⟨[], .no, .no, .no, rfl, [], s, rfl, by simp, rfl, rfl⟩
    (by
      rintro k rest e ⟨acc, x, y, hx, rfl, pre, post, hs, hr, hc, rfl⟩
      cases post with
      | nil => simp at hr
      | cons f post =>
        have hk : k = pre.length := by
          rw [List.length_cons, List.range_succ_eq_map, List.map_cons] at hr
          simpa using (List.cons.inj hr).1
        have hrest : rest = (List.range post.length).map (· + (pre ++ [f]).length) := by
          rw [List.length_cons, List.range_succ_eq_map, List.map_cons] at hr
          rw [(List.cons.inj hr).2, List.map_map, List.length_append, List.length_singleton]
          refine List.map_congr_left
                                  fun i _ => ?_
          show (i + 1) + pre.length = i + (pre.length + 1)
          omega
        subst hk
        have q : (s.map Dt.d)[pre.length]? = some (Dt.d f) := by rw [hs]; simp
        have hd : s.drop (pre.length + 1) = post := by rw [hs]; simp
        have hcut : cutL (s.map Dt.d) (some ((pre.length : Int) + 1)) none = post.map Dt.d := by
          have := cutL_from (s.map Dt.d) (pre.length + 1) (by rw [hs]; simp)
          rw [← List.map_drop, hd] at this
          exact this
        have hsl : slD (.tuple (s.map Dt.d)) (.int ((pre.length : Int) + 1)) none = some (.tuple (post.map Dt.d)) := by
          show some (PyData.tuple (cutL (s.map Dt.d) (some ((pre.length : Int) + 1)) none)) = _
          rw [hcut]
        have hlen : (acc.map Dt.d).length + ((post.filter (clash ts f)).map fun g => (Dt.d (f, g) : D)).length ≤ sizeLine := by
          have := congrArg List.length hc
          rw [lprs, List.length_append, List.length_append, List.length_map] at this
          rw [List.length_map, List.length_map]
          omega
        refine ⟨[.val (.tuple (s.map Dt.d)), .val (.tuple (ts.map Tie.d)), .val (.list (acc.map Dt.d)), .val (nd pre.length), .no], [.val (.tuple (s.map Dt.d)), .val (.tuple (ts.map Tie.d)), .val (.list ((acc ++ (post.filter (clash ts f)).map (f, ·)).map Dt.d)), .val (nd pre.length), .no], ?_, ?_, _, _, .no, .val, rfl, pre ++ [f], post, by rw [hs]; simp, hrest, ?_, rfl⟩
        · rcases hx with rfl | ⟨d, rfl⟩ <;> simp! only []
        · simp! only []
          rw [lc_map (as := post) (l := none) (dd := Dt.d) (f := fun g => Dt.d (f, g)) (q := clash ts f) (envI := [.val (.tuple (s.map Dt.d)), .val (.tuple (ts.map Tie.d)), .val (.list (acc.map Dt.d)), .val (nd pre.length), .no]) (by simp! only [hsl]) (by simp! only []) (by
            intro g hg
            have r := r_law_clash n (ts := ts) (f := f) (g := g) (fun t ht => hf f (by rw [hs]; simp) t ht) (fun t ht => hf g (by rw [hs]; simp [hg]) t ht)
            cases c : clash ts f g <;> rw [c] at r <;> simp! only [lcTurn, atI_nat q, r, pr_d])]
          rw [List.length_map, List.length_map] at hlen
          simp! only [hlen, List.map_append, List.map_map]
          rfl
        · rw [List.append_assoc]
          exact hc)
  rw [h]
  have hp : post = [] := by
    have := congrArg List.length hr
    simpa using this.symm
  subst hp
  rw [lprs, List.append_nil] at hc
  subst hc
  simp! only []
end VE
/-! VP7: groups, clashes of the program, grown -/
namespace VE
local macro_rules | `(tactic| simp! only [$ts,*]) => `(tactic| simp only [q_ev_int, q_ev_str, q_ev_bl, q_ev_non, q_ev_var, q_ev_bor, q_ev_tup, q_ev_nw, q_ev_un, q_ev_bin, q_ev_and, q_ev_or, q_ev_ite, q_ev_sl, q_ev_slf, q_ev_call, q_ev_pop, q_evs_nil, q_evs_cons, q_evA_nil, q_evA_v, q_evA_io, q_evA_sc, q_evN_lst, q_evN_toL, q_evN_vals, q_evN_keysL, q_evN_cat, q_evN_dnew, q_evN_srt, q_evN_srtk, q_evN_call, q_evSrc_seq, q_evSrc_scr, q_evSrc_rng, q_evSrc_rng2, q_evSrc_enum, q_evC_no, q_evC_on, q_ex_asg, q_ex_own, q_ex_aug, q_ex_setIx, q_ex_app, q_ex_rev, q_ex_sdapp, q_ex_ife, q_ex_ret, q_ex_retO, q_ex_exp, q_ex_frz, q_ex_pass, q_ex_brk, q_ex_cnt, q_exs_nil, q_exs_cons, u_len_l, u_len_t, u_len_s, u_toInt, u_tup_l, u_tup_t, u_isInt_int, u_isInt_bool, u_isInt_str, u_isInt_tuple, u_isInt_list, u_isInt_none, u_isStr_int, u_isStr_bool, u_isStr_str, u_isStr_tuple, u_isStr_list, u_isStr_none, u_isTup_int, u_isTup_bool, u_isTup_str, u_isTup_tuple, u_isTup_list, u_isTup_none, u_isBool_int, u_isBool_bool, u_isBool_str, u_isBool_tuple, u_isBool_list, u_isBool_none, u_isList_int, u_isList_bool, u_isList_str, u_isList_tuple, u_isList_list, u_isList_none, u_isSeq_int, u_isSeq_bool, u_isSeq_str, u_isSeq_tuple, u_isSeq_list, u_isSeq_none, u_isNon_int, u_isNon_bool, u_isNon_str, u_isNon_tuple, u_isNon_list, u_isNon_none, u_notNon_int, u_notNon_bool, u_notNon_str, u_notNon_tuple, u_notNon_list, u_notNon_none, u_not, u_neg, u_isTru, u_notTru, u_maxL, b_add_i, b_add_s, b_add_l, b_add_t, b_sub, b_mul, b_mod, b_lt, b_le, b_gt, b_ge, b_idx_l, b_idx_t, b_eq, b_ne, b_in, b_nin, shI, shB, eqvI, eqvB, asV, asT, getV, setV, setO, opV, deref, itemsOf, itemsL, lend, unlend, wipeE, backE, mkArgs, ios, putOuts, runCall, outsOf, out1, fin, setT, setAll, bnd, isOL, isOD, ↓bind_bdk, okbk, ofs, Ret.fr, O.fr, n1, seqD, List.length_cons, List.length_nil, List.length_replicate, List.replicate, List.cons_append, List.nil_append, List.append_nil, List.set, List.getElem?_cons_zero, List.getElem?_cons_succ, List.getElem?_nil, List.nodup_nil, List.nodup_cons, List.not_mem_nil, not_false_eq_true, and_self, true_and, and_true, if_true, if_false, Bool.false_eq_true, ↓reduceIte, reduceCtorEq, Nat.reduceAdd, Nat.reduceSub, Nat.reduceEqDiff, Nat.zero_add, Option.bind_some, Option.bind_none, Option.map_some, sz0, sz1, sz2, sz3, sz4, sz5, sz6, sz7, Bool.and_self, Bool.and_false, Bool.false_and, Bool.and_true, Bool.true_and, Bool.not_true, Bool.not_false, List.length_map, at0, at1, at2, at3, endR_nx, endR_rt, $ts,*])
open PySem PySem.W
                        PyProof.Rows

abbrev Gr := List (List Cell × List Fact)
def gput : Gr → List Cell → Fact → Gr
  | [], k, f => [(k, [f])]
  | (k', fs) :: r, k, f => if k' = k then (k', fs ++ [f]) :: r else (k', fs) :: gput r k f
def encG (g : Gr) : List (D × List D) := g.map fun p => (rowD p.1, p.2.map Dt.d)
def rowK (r : List Cell) : NestedKey := .tup (r.map Cell.nk)
theorem nkey_row (r : List Cell) : nkey (rowD r) = some (rowK r) := by simp [rowD, rowK, nkey, nks_map Cell.nkd]
theorem rowK_inj {r s : List Cell} (h : rowK r = rowK s) : r = s := by
  simp only [rowK, NestedKey.tup.injEq] at h
  exact map_inj Cell.nki _ _ h
theorem keyOk_row (r : List Cell) : keyOk (rowD r) = true := by
  have h := nkd_map Cell.nkh r
  have h2 : (rowK r).depth ≤ 8 := by simp only [rowK, NestedKey.depth]; omega
  have h3 := nkey_row r
  unfold rowD at h3 ⊢
  simp only [keyOk, h3, decide_eq_true h2]
theorem sdPut_enc (k : List Cell) (f : Fact) : ∀ g : Gr, sdPut (encG g) (rowD k) (Dt.d f) = encG (gput g k f)
  | [] => rfl
  | (k', fs) :: r => by
    have ih := sdPut_enc k f r
    show sdPut ((rowD k', fs.map Dt.d) :: encG r) (rowD k) (Dt.d f) = _
    unfold sdPut gput
    by_cases c : k' = k
    · subst c
      simp only [if_true, encG, List.map_cons, List.map_append]
      rfl
    · have c2 : ¬ nkey (rowD k') = nkey (rowD k) := by
        rw [nkey_row, nkey_row]
        exact fun e => c (rowK_inj (Option.some.inj e))
      simp only [if_neg c, if_neg c2, ih]
      rfl
/-- the groups: of each key the facts with it -/
structure GInv (pl : List Nat) (g : Gr) (fs : List Fact) : Prop where
  grp : ∀ p ∈ g, p.2 = fs.filter fun f => decide (part f.row pl = p.1)
  all : ∀ f ∈ fs, ∃ p ∈ g, p.1 = part f.row pl
  nd : (g.map (·.1)).Nodup
theorem gput_keys (k : List Cell) (f : Fact) : ∀ g : Gr, (gput g k f).map (·.1) = if k ∈ g.map (·.1) then g.map (·.1) else g.map (·.1) ++ [k]
  | [] => by simp [gput]
  | (k', fs) :: r => by
    unfold gput
    by_cases c : k' = k
    · subst c; simp
    · rw [if_neg c, List.map_cons, gput_keys k f r]
      have c' : ¬ k = k' := fun e => c e.symm
      by_cases c2 : k ∈ r.map (·.1)
      · simp [c2]
      · simp only [c2, if_false, List.map_cons, List.mem_cons, c', false_or, List.cons_append]
theorem gput_mem {k : List Cell} {f : Fact} : ∀ {g : Gr}, (g.map (·.1)).Nodup → ∀ {p : List Cell × List Fact}, p ∈ gput g k f → (p.1 ≠ k ∧ p ∈ g) ∨ (p.1 = k ∧ ((∃ fs, (k, fs) ∈ g ∧ p.2 = fs ++ [f]) ∨ (k ∉ g.map (·.1) ∧ p.2 = [f])))
  | [], _, p, h => by
    simp only [gput, List.mem_singleton] at h
    subst h
    exact .inr ⟨rfl, .inr ⟨by simp, rfl⟩⟩
  | (k', fs) :: r, hn, p, h => by
    rw [List.map_cons] at hn
    have hn' :=
                            List.nodup_cons.mp hn
    unfold gput at h
    by_cases c : k' = k
    · rw [if_pos c] at h
      subst c
      rcases List.mem_cons.mp
                              h with rfl | h
      · exact .inr ⟨rfl, .inl ⟨fs, List.mem_cons_self, rfl⟩⟩
      · refine .inl ⟨fun e => hn'.1 ?_, List.mem_cons_of_mem _ h⟩
        rw [← e]
        exact List.mem_map.mpr ⟨p, h, rfl⟩
    · rw [if_neg c] at h
      rcases List.mem_cons.mp
                              h with rfl | h
      · exact .inl ⟨c, List.mem_cons_self⟩
      · rcases gput_mem hn'.2 h with ⟨q, m⟩ | ⟨q, ⟨fs', m, e⟩ | ⟨m, e⟩⟩
        · exact .inl ⟨q, List.mem_cons_of_mem _ m⟩
        · exact .inr ⟨q, .inl ⟨fs', List.mem_cons_of_mem _ m, e⟩⟩
        · refine .inr ⟨q, .inr ⟨?_, e⟩⟩
          rw [List.map_cons, List.mem_cons]
          rintro (z | z)
          · exact c z.symm
          · exact m z
theorem GInv.put {pl : List Nat} {g : Gr} {fs : List Fact} (h : GInv pl g fs) (f : Fact) : GInv pl (gput g (part f.row pl) f) (fs ++ [f]) where
  grp p hp := by
    rw [List.filter_append]
    rcases gput_mem h.nd hp with ⟨q, m⟩ | ⟨q, ⟨fs', m, e⟩ | ⟨m, e⟩⟩
    · rw [h.grp p m]
      have : ¬ part f.row pl = p.1 := fun z => q z.symm
      simp [this]
    · have hm := h.grp _ m
      dsimp only at hm
      rw [e, q, hm]
      simp
    · rw [e, q]
      have : fs.filter (fun g => decide (part g.row pl = part f.row pl)) = [] := by
        rw [List.filter_eq_nil_iff]
        intro x hx
        obtain ⟨p', hp', e'⟩ := h.all x hx
        simp only [decide_eq_true_iff]
        intro z
        exact m (by rw [← z, ← e']; exact List.mem_map_of_mem hp')
      simp [this]
  all x hx := by
    have hk := gput_keys (part f.row pl) f g
    have key : part x.row pl ∈ (gput g (part f.row pl) f).map (·.1) := by
      rw [hk]
      rcases List.mem_append.mp
                              hx with hx | hx
      · obtain ⟨p, hp, e⟩ := h.all x hx
        have : part x.row pl ∈ g.map (·.1) := e ▸ List.mem_map_of_mem hp
        split
        · exact this
        · exact List.mem_append_left _ this
      · rw [List.mem_singleton] at hx
        subst hx
        split
        · assumption
        · simp
    obtain ⟨p, hp, e⟩ := List.mem_map.mp key
    exact ⟨p, hp, e⟩
  nd := by
    rw [gput_keys]
    split
    · exact h.nd
    · rename_i c
      rw [List.nodup_append]
      exact ⟨h.nd, List.pairwise_singleton _ _, fun x hx y hy e => c (by rw [List.mem_singleton] at hy; rw [← hy, ← e]; exact hx)⟩
theorem gput_len (k : List Cell) (f : Fact) : ∀ g : Gr, (gput g k f).length ≤ g.length + 1
  | [] => by simp [gput]
  | (k', fs) :: r => by
    have := gput_len k f r
    unfold gput
    split <;> simp only [List.length_cons] <;> omega
theorem r_groups (n : Nat) (fs : List Fact) (pl : List Nat) (hf : ∀ f ∈ fs, ∀ p ∈ pl, p < f.row.length) (hl : fs.length ≤ 1000) :
    ∃ g : Gr, GInv pl g fs ∧ g.length ≤ fs.length ∧ K (n + 2) 6 [.val (.list (fs.map Dt.d)), .val (tup pl)] = .ok (.val (.list (g.map fun p => .list (p.2.map Dt.d))), [.val (.list (fs.map Dt.d)), .val (tup pl)]) := by
  have sz := szL
  obtain ⟨e, ⟨pre, rest, g, x, hs, hr, hg, hgl, hx, rfl⟩, h⟩ := fr_ind (rn := K (n + 1)) (src := .seq (.var 0)) (tg := .nm 3) (l := none) (env := [.val (.list (fs.map Dt.d)), .val (tup pl), .own (.dil []) false, .no])
    (env1 := [.val (.list (fs.map Dt.d)), .val (tup pl), .own (.dil []) false, .no])
    (body := (.cons (.sdapp 2 (.call 0 (.v (.bin .idx (.var 3) (.int 1)) (.v (.var 1) .nil))) (.var 3))
  .nil)) fs Dt.d
    (fun rest e => ∃ (pre rest' : List Fact) (g : Gr) (x : Sl), fs = pre ++ rest' ∧ rest' = rest ∧ GInv pl g pre ∧ g.length ≤ pre.length ∧ FreeS x ∧ e = [.val (.list (fs.map Dt.d)), .val (tup pl), .own (.dil (encG g)) false, x])
    (by simp! only [])
    ⟨[], fs, [], .no, rfl, rfl, ⟨by simp, by simp, by simp⟩, by simp, .no, rfl⟩
    (by
      rintro f rest e ⟨pre, _, g, x, hs, rfl, hg, hgl, hx, rfl⟩
      refine ⟨[.val (.list (fs.map Dt.d)), .val (tup pl), .own (.dil (encG g)) false, .val (Dt.d f)], [.val (.list (fs.map Dt.d)), .val (tup pl), .own (.dil (encG (gput g (part f.row pl) f))) false, .val (Dt.d f)], ?_, ?_, pre ++ [f], rest, gput g (part f.row pl) f, .val (Dt.d f), by rw [hs]; simp, rfl, hg.put f, ?_, .val, rfl⟩
      · rcases hx with rfl | ⟨d, rfl⟩ <;> simp! only []
      · have df : Dt.d f = .tuple [.str f.name.1, rowD f.row] := rfl
        have hp := r_part n (hf f (by rw [hs]; simp))
        have hlen : pre.length ≤ 999 := by rw [hs, List.length_append, List.length_cons] at hl; omega
        have q1 : (encG g).length < sizeLine := by rw [encG, List.length_map]; omega
        have q2 : ((encG g).all fun q => decide (q.2.length < sizeLine)) = true := by
          rw [List.all_eq_true]
          intro q hq
          obtain ⟨p, hp, rfl⟩
                                  := List.mem_map.mp hq
          refine decide_eq_true ?_
          show (p.2.map Dt.d).length < sizeLine
          rw [List.length_map, hg.grp p hp]
          have := List.length_filter_le (fun f => decide (part f.row pl = p.1)) pre
          omega
        have sp := sdPut_enc (part f.row pl) f g
        rw [df] at sp
        simp! only [df, hp, keyOk_row, q1, q2, sp]
      · have := gput_len (part f.row pl) f g
        rw [List.length_append,
                                List.length_singleton]
        omega)
  refine ⟨g, ?_, ?_, ?_⟩
  · subst hr
    rw [List.append_nil] at hs
    subst hs
    exact hg
  · subst hr
    rw [List.append_nil] at hs
    subst hs
    exact hgl
  · rw [K_step _ rfl rfl]; simp! only [k78_groups_of]
    rw [h]
    simp! only [encG, List.map_map]
    rfl
end VE
/-! VP8: the program's clashes -/
namespace VE
local macro_rules | `(tactic| simp! only [$ts,*]) => `(tactic| simp only [q_ev_int, q_ev_str, q_ev_bl, q_ev_non, q_ev_var, q_ev_bor, q_ev_tup, q_ev_nw, q_ev_un, q_ev_bin, q_ev_and, q_ev_or, q_ev_ite, q_ev_sl, q_ev_slf, q_ev_call, q_ev_pop, q_evs_nil, q_evs_cons, q_evA_nil, q_evA_v, q_evA_io, q_evA_sc, q_evN_lst, q_evN_toL, q_evN_vals, q_evN_keysL, q_evN_cat, q_evN_dnew, q_evN_srt, q_evN_srtk, q_evN_call, q_evSrc_seq, q_evSrc_scr, q_evSrc_rng, q_evSrc_rng2, q_evSrc_enum, q_evC_no, q_evC_on, q_ex_asg, q_ex_own, q_ex_aug, q_ex_setIx, q_ex_app, q_ex_rev, q_ex_sdapp, q_ex_ife, q_ex_ret, q_ex_retO, q_ex_exp, q_ex_frz, q_ex_pass, q_ex_brk, q_ex_cnt, q_exs_nil, q_exs_cons, u_len_l, u_len_t, u_len_s, u_toInt, u_tup_l, u_tup_t, u_isInt_int, u_isInt_bool, u_isInt_str, u_isInt_tuple, u_isInt_list, u_isInt_none, u_isStr_int, u_isStr_bool, u_isStr_str, u_isStr_tuple, u_isStr_list, u_isStr_none, u_isTup_int, u_isTup_bool, u_isTup_str, u_isTup_tuple, u_isTup_list, u_isTup_none, u_isBool_int, u_isBool_bool, u_isBool_str, u_isBool_tuple, u_isBool_list, u_isBool_none, u_isList_int, u_isList_bool, u_isList_str, u_isList_tuple, u_isList_list, u_isList_none, u_isSeq_int, u_isSeq_bool, u_isSeq_str, u_isSeq_tuple, u_isSeq_list, u_isSeq_none, u_isNon_int, u_isNon_bool, u_isNon_str, u_isNon_tuple, u_isNon_list, u_isNon_none, u_notNon_int, u_notNon_bool, u_notNon_str, u_notNon_tuple, u_notNon_list, u_notNon_none, u_not, u_neg, u_isTru, u_notTru, u_maxL, b_add_i, b_add_s, b_add_l, b_add_t, b_sub, b_mul, b_mod, b_lt, b_le, b_gt, b_ge, b_idx_l, b_idx_t, b_eq, b_ne, b_in, b_nin, shI, shB, eqvI, eqvB, asV, asT, getV, setV, setO, opV, deref, itemsOf, itemsL, lend, unlend, wipeE, backE, mkArgs, ios, putOuts, runCall, outsOf, out1, fin, setT, setAll, bnd, isOL, isOD, ↓bind_bdk, okbk, ofs, Ret.fr, O.fr, n1, seqD, List.length_cons, List.length_nil, List.length_replicate, List.replicate, List.cons_append, List.nil_append, List.append_nil, List.set, List.getElem?_cons_zero, List.getElem?_cons_succ, List.getElem?_nil, List.nodup_nil, List.nodup_cons, List.not_mem_nil, not_false_eq_true, and_self, true_and, and_true, if_true, if_false, Bool.false_eq_true, ↓reduceIte, reduceCtorEq, Nat.reduceAdd, Nat.reduceSub, Nat.reduceEqDiff, Nat.zero_add, Option.bind_some, Option.bind_none, Option.map_some, sz0, sz1, sz2, sz3, sz4, sz5, sz6, sz7, Bool.and_self, Bool.and_false, Bool.false_and, Bool.and_true, Bool.true_and, Bool.not_true, Bool.not_false, List.length_map, at0, at1, at2, at3, endR_nx, endR_rt, $ts,*])
open PySem PySem.W
                        PyProof.Rows

def en (k : Nat) : List Fact → List (Nat × Fact)
  | [] => []
  | x :: xs => (k, x) :: en (k + 1) xs
def enD (p : Nat × Fact) : D := .tuple [nd p.1, Dt.d p.2]
theorem en_get : ∀ (g : List Fact) (k i : Nat), (en k g)[i]? = (g[i]?).map fun f => (k + i, f)
  | [], k, i => by simp [en]
  | x :: g, k, 0 => by simp [en]
  | x :: g, k, i + 1 => by
    rw [en, List.getElem?_cons_succ, List.getElem?_cons_succ, en_get g (k + 1) i]
    congr 1
    funext f
    rw [Nat.add_assoc, Nat.add_comm 1 i]
theorem enumL_en (g : List Fact) : enumL (g.map Dt.d) = (en 0 g).map enD := by
  refine List.ext_getElem? fun i => ?_
  unfold enumL
  rw [List.getElem?_map, en_get, List.getElem?_zipWith, List.length_map, List.getElem?_map]
  by_cases h : i < g.length
  · have h2 : (List.range g.length)[i]? = some i := by
      rw [List.getElem?_eq_getElem (by simpa using h)]; simp
    have h3 : g[i]? = some g[i] := List.getElem?_eq_getElem h
    rw [h2, h3]
    simp [enD]
  · have h2 : g[i]? = none := List.getElem?_eq_none_iff.mpr (by omega)
    rw [h2]
    cases (List.range g.length)[i]? <;> rfl

def pfrom (rt : List Nat) (x : Fact) (ys : List Fact) : List Pr := (ys.filter fun y => !decide (part x.row rt = part y.row rt)).map (x, ·)
def prs (rt : List Nat) : List Fact → List Pr
  | [] => []
  | x :: ys => pfrom rt x ys ++ prs rt ys
abbrev ct3 : Ss := (.cons (.ife (.bin .ne (.call 0 (.v (.bin .idx (.var 8) (.int 1)) (.v (.var 4) .nil))) (.call 0 (.v (.bin .idx (.var 9) (.int 1)) (.v (.var 4) .nil)))) (.cons (.app 5 (.tup (.cons (.var 8) (.cons (.var 9) .nil))))
  .nil) .nil)
  .nil)
abbrev ct2 : Ss := (.cons (.fr (.nm 9) (.seq (.slf (.var 6) (.bin .add (.var 7) (.int 1)))) ct3)
  .nil)
abbrev ct1 : Ss := (.cons (.fr (.tp [7, 8]) (.enum (.var 6)) ct2)
  .nil)
section
variable {n : Nat} {s0 s1 s2 s3 : Sl} {rt : List Nat} {T : List Pr}
theorem ct3_ok (hT : T.length < sizeLine) {f : Fact} {i : Nat} {pre post : List Fact} {x9 : Sl} (h9 : FreeS x9) (hpre : pre.length = i + 1) (hf : ∀ p ∈ rt, p < f.row.length) (hg : ∀ g ∈ post, ∀ p ∈ rt, p < g.row.length) {acc tail : List Pr} (hacc : acc ++ (pfrom rt f post ++ tail) = T) :
    ∃ x, FreeS x ∧ ex (K (n + 1)) (.fr (.nm 9) (.seq (.slf (.var 6) (.bin .add (.var 7) (.int 1)))) ct3) [s0, s1, s2, s3, .val (tup rt), .own (.lst (acc.map Dt.d)) false, .val (.list ((pre ++ post).map Dt.d)), .val (nd i), .val (Dt.d f), x9] =
      .ok (.nx [s0, s1, s2, s3, .val (tup rt), .own (.lst ((acc ++ pfrom rt f post).map Dt.d)) false, .val (.list ((pre ++ post).map Dt.d)), .val (nd i), .val (Dt.d f), x]) := by
  have hcut : slD (.list ((pre ++ post).map Dt.d)) (.int ((i : Int) + 1)) none = some (.list (post.map Dt.d)) := by
    show some (PyData.list (cutL ((pre ++ post).map Dt.d) (some ((i : Int) + 1)) none)) = _
    have := cutL_from ((pre ++ post).map Dt.d) (i + 1) (by rw [← hpre]; simp)
    rw [← List.map_drop, ← hpre, List.drop_left] at this
    rw [← this, hpre]
    rfl
  obtain ⟨e, ⟨acc', x, hx, hc, rfl⟩, h⟩ := fr_ind (rn := K (n + 1)) (src := .seq (.slf (.var 6) (.bin .add (.var 7) (.int 1)))) (tg := .nm 9) (l := none) (env := [s0, s1, s2, s3, .val (tup rt), .own (.lst (acc.map Dt.d)) false, .val (.list ((pre ++ post).map Dt.d)), .val (nd i), .val (Dt.d f), x9])
    (env1 := [s0, s1, s2, s3, .val (tup rt), .own (.lst (acc.map Dt.d)) false, .val (.list ((pre ++ post).map Dt.d)), .val (nd i), .val (Dt.d f), x9])
    (body := ct3) (post.attachWith (fun g => g ∈ post) fun _ h => h) (fun g => Dt.d g.1)
    (fun rest e => ∃ (acc' : List Pr) (x : Sl), FreeS x ∧ acc' ++ pfrom rt f (rest.map (·.1)) = acc ++ pfrom rt f post ∧ e = [s0, s1, s2, s3, .val (tup rt), .own (.lst (acc'.map Dt.d)) false, .val (.list ((pre ++ post).map Dt.d)), .val (nd i), .val (Dt.d f), x])
    (by
      have e : (post.attachWith (fun g => g ∈ post) fun _ h => h).map (fun g => (Dt.d g.1 : D)) = post.map Dt.d := by
        rw [List.map_attachWith]; simp
      simp! only [hcut, e])
    ⟨acc, x9, h9, by simp, rfl⟩
    (by
      rintro ⟨g, hgp⟩ rest e ⟨acc', x, hx, hc, rfl⟩
      refine ⟨[s0, s1, s2, s3, .val (tup rt), .own (.lst (acc'.map Dt.d)) false, .val (.list ((pre ++ post).map Dt.d)), .val (nd i), .val (Dt.d f), .val (Dt.d g)], [s0, s1, s2, s3, .val (tup rt), .own (.lst ((acc' ++ pfrom rt f [g]).map Dt.d)) false, .val (.list ((pre ++ post).map Dt.d)), .val (nd i), .val (Dt.d f), .val (Dt.d g)], ?_, ?_, acc' ++ pfrom rt f [g], .val (Dt.d g), .val, ?_, rfl⟩
      · rcases hx with rfl | ⟨d, rfl⟩ <;> simp! only []
      · have df : Dt.d f = .tuple [.str f.name.1, rowD f.row] := rfl
        have dg : Dt.d g = .tuple [.str g.name.1, rowD g.row] := rfl
        have p1 := r_part n hf
        have p2 := r_part n (hg g hgp)
        by_cases c : part f.row rt = part g.row rt
        · simp! only [df, dg, p1, p2, shp_row, eqv_row, c, decide_true, pfrom, List.filter_cons, List.filter_nil, List.map_nil]
        · have hlen : acc'.length < sizeLine := by
            have := congrArg List.length hc
            have h2 := congrArg List.length hacc
            simp only [List.length_append] at this h2
            omega
          simp! only [df, dg, p1, p2, shp_row, eqv_row, c, decide_false, pfrom, List.filter_cons, List.filter_nil, List.map_nil, List.map_cons, hlen, List.map_append]
          rfl
      · rw [← hc, List.append_assoc]
        congr 1
        rw [List.map_cons]
        unfold pfrom
        rw [← List.map_append, ← List.filter_append]
        rfl)
  refine ⟨x, hx, ?_⟩
  rw [h]
  have : acc' = acc ++ pfrom rt f post := by
    have e : pfrom rt f (([] : List {g // g ∈ post}).map (·.1)) = [] := rfl
    rw [e, List.append_nil] at hc
    exact hc
  rw [this]
  rfl
theorem ct2_ok (hT : T.length < sizeLine) {g : List Fact} (hg : ∀ f ∈ g, ∀ p ∈ rt, p < f.row.length) {x7 x8 x9 : Sl} (h7 : FreeS x7) (h8 : FreeS x8) (h9 : FreeS x9) {acc tail : List Pr} (hacc : acc ++ (prs rt g ++ tail) = T) :
    ∃ y7 y8 y9, FreeS y7 ∧ FreeS y8 ∧ FreeS y9 ∧ ex (K (n + 1)) (.fr (.tp [7, 8]) (.enum (.var 6)) ct2) [s0, s1, s2, s3, .val (tup rt), .own (.lst (acc.map Dt.d)) false, .val (.list (g.map Dt.d)), x7, x8, x9] =
      .ok (.nx [s0, s1, s2, s3, .val (tup rt), .own (.lst ((acc ++ prs rt g).map Dt.d)) false, .val (.list (g.map Dt.d)), y7, y8, y9]) := by
  obtain ⟨e, ⟨acc', y7, y8, y9, q7, q8, q9, pre, post, hs, hr, hc, rfl⟩, h⟩ := fr_ind (rn := K (n + 1)) (src := .enum (.var 6)) (tg := .tp [7, 8]) (l := none) (env := [s0, s1, s2, s3, .val (tup rt), .own (.lst (acc.map Dt.d)) false, .val (.list (g.map Dt.d)), x7, x8, x9])
    (env1 := [s0, s1, s2, s3, .val (tup rt), .own (.lst (acc.map Dt.d)) false, .val (.list (g.map Dt.d)), x7, x8, x9])
    (body := ct2) (en 0 g) enD
    (fun rest e => ∃ (acc' : List Pr) (y7 y8 y9 : Sl), FreeS y7 ∧ FreeS y8 ∧ FreeS y9 ∧ ∃ pre post, g = pre ++ post ∧ rest = en pre.length post ∧ acc' ++ prs rt post = acc ++ prs rt g ∧ e = [s0, s1, s2, s3, .val (tup rt), .own (.lst (acc'.map Dt.d)) false, .val (.list (g.map Dt.d)), y7, y8, y9])
    (by simp! only [enumL_en])
    ⟨acc, x7, x8, x9, h7, h8, h9, [], g, rfl, rfl, rfl, rfl⟩
    (by
      rintro ⟨i, f⟩ rest e ⟨acc', y7, y8, y9, q7, q8, q9, pre, post, hs, hr, hc, rfl⟩
      cases post with
      | nil => simp [en] at hr
      | cons f' post =>
        rw [en, List.cons.injEq, Prod.mk.injEq] at hr
        obtain ⟨⟨rfl, rfl⟩, rfl⟩ := hr
        have hg' : g = (pre ++ [f]) ++ post := by rw [hs]; simp
        obtain ⟨z, hz, h3⟩ := ct3_ok (n := n) (s0 := s0) (s1 := s1) (s2 := s2) (s3 := s3) hT (f := f) (i := pre.length) (pre := pre ++ [f]) (post := post) q9 (by simp) (hg f (by rw [hs]; simp)) (fun g hgp => hg g (by rw [hs]; simp [hgp])) (acc := acc') (tail := prs rt post ++ tail) (by rw [← hacc, ← List.append_assoc acc, ← hc]; simp [prs, List.append_assoc])
        rw [← hg'] at h3
        refine ⟨[s0, s1, s2, s3, .val (tup rt), .own (.lst (acc'.map Dt.d)) false, .val (.list (g.map Dt.d)), .val (nd pre.length), .val (Dt.d f), y9], [s0, s1, s2, s3, .val (tup rt), .own (.lst ((acc' ++ pfrom rt f post).map Dt.d)) false, .val (.list (g.map Dt.d)), .val (nd pre.length), .val (Dt.d f), z], ?_, ?_, acc' ++ pfrom rt f post, .val (nd pre.length), .val (Dt.d f), z, .val, .val, hz, pre ++ [f], post, hg', by simp, ?_, rfl⟩
        · rcases q7 with rfl | ⟨d, rfl⟩ <;> rcases q8 with rfl | ⟨d, rfl⟩ <;> simp! only [enD]
        · simp! only [h3]
        · rw [← hc, prs, List.append_assoc])
  refine ⟨y7, y8, y9, q7, q8, q9, ?_⟩
  rw [h]
  have hp : post = [] := by
    cases post with
    | nil => rfl
    | cons a b => simp [en] at hr
  subst hp
  rw [prs, List.append_nil] at hc
  rw [hc]
  rfl
end
end VE
/-! VP9: the program's clashes of a store -/
namespace VE
local macro_rules | `(tactic| simp! only [$ts,*]) => `(tactic| simp only [q_ev_int, q_ev_str, q_ev_bl, q_ev_non, q_ev_var, q_ev_bor, q_ev_tup, q_ev_nw, q_ev_un, q_ev_bin, q_ev_and, q_ev_or, q_ev_ite, q_ev_sl, q_ev_slf, q_ev_call, q_ev_pop, q_evs_nil, q_evs_cons, q_evA_nil, q_evA_v, q_evA_io, q_evA_sc, q_evN_lst, q_evN_toL, q_evN_vals, q_evN_keysL, q_evN_cat, q_evN_dnew, q_evN_srt, q_evN_srtk, q_evN_call, q_evSrc_seq, q_evSrc_scr, q_evSrc_rng, q_evSrc_rng2, q_evSrc_enum, q_evC_no, q_evC_on, q_ex_asg, q_ex_own, q_ex_aug, q_ex_setIx, q_ex_app, q_ex_rev, q_ex_sdapp, q_ex_ife, q_ex_ret, q_ex_retO, q_ex_exp, q_ex_frz, q_ex_pass, q_ex_brk, q_ex_cnt, q_exs_nil, q_exs_cons, u_len_l, u_len_t, u_len_s, u_toInt, u_tup_l, u_tup_t, u_isInt_int, u_isInt_bool, u_isInt_str, u_isInt_tuple, u_isInt_list, u_isInt_none, u_isStr_int, u_isStr_bool, u_isStr_str, u_isStr_tuple, u_isStr_list, u_isStr_none, u_isTup_int, u_isTup_bool, u_isTup_str, u_isTup_tuple, u_isTup_list, u_isTup_none, u_isBool_int, u_isBool_bool, u_isBool_str, u_isBool_tuple, u_isBool_list, u_isBool_none, u_isList_int, u_isList_bool, u_isList_str, u_isList_tuple, u_isList_list, u_isList_none, u_isSeq_int, u_isSeq_bool, u_isSeq_str, u_isSeq_tuple, u_isSeq_list, u_isSeq_none, u_isNon_int, u_isNon_bool, u_isNon_str, u_isNon_tuple, u_isNon_list, u_isNon_none, u_notNon_int, u_notNon_bool, u_notNon_str, u_notNon_tuple, u_notNon_list, u_notNon_none, u_not, u_neg, u_isTru, u_notTru, u_maxL, b_add_i, b_add_s, b_add_l, b_add_t, b_sub, b_mul, b_mod, b_lt, b_le, b_gt, b_ge, b_idx_l, b_idx_t, b_eq, b_ne, b_in, b_nin, shI, shB, eqvI, eqvB, asV, asT, getV, setV, setO, opV, deref, itemsOf, itemsL, lend, unlend, wipeE, backE, mkArgs, ios, putOuts, runCall, outsOf, out1, fin, setT, setAll, bnd, isOL, isOD, ↓bind_bdk, okbk, ofs, Ret.fr, O.fr, n1, seqD, List.length_cons, List.length_nil, List.length_replicate, List.replicate, List.cons_append, List.nil_append, List.append_nil, List.set, List.getElem?_cons_zero, List.getElem?_cons_succ, List.getElem?_nil, List.nodup_nil, List.nodup_cons, List.not_mem_nil, not_false_eq_true, and_self, true_and, and_true, if_true, if_false, Bool.false_eq_true, ↓reduceIte, reduceCtorEq, Nat.reduceAdd, Nat.reduceSub, Nat.reduceEqDiff, Nat.zero_add, Option.bind_some, Option.bind_none, Option.map_some, sz0, sz1, sz2, sz3, sz4, sz5, sz6, sz7, Bool.and_self, Bool.and_false, Bool.false_and, Bool.and_true, Bool.true_and, Bool.not_true, Bool.not_false, List.length_map, at0, at1, at2, at3, endR_nx, endR_rt, $ts,*])
open PySem PySem.W
                        PyProof.Rows

theorem att_map {α β : Type} {f : α → β} {l : List α} : (l.attachWith (fun p => p ∈ l) fun _ h => h).map (fun x => f x.1) = l.map f := by
  refine List.ext_getElem
                          (by simp) fun i h1 h2 => ?_
  simp
theorem two_cons {x y a : Fact} {g : List Fact} : [x, y].Sublist (a :: g) ↔ [x, y].Sublist g ∨ (x = a ∧ y ∈ g) := by
  rw [List.sublist_cons_iff]
  refine or_congr Iff.rfl ⟨?_, ?_⟩
  · rintro ⟨r, e, h⟩
    cases e
    exact ⟨rfl, List.singleton_sublist.mp h⟩
  · rintro ⟨rfl, h⟩
    exact ⟨[y], rfl, List.singleton_sublist.mpr h⟩
theorem two_filter {x y : Fact} {s : List Fact} {p : Fact → Bool} : [x, y].Sublist (s.filter p) ↔ [x, y].Sublist s ∧ p x = true ∧ p y = true := by
  constructor
  · intro h
    refine ⟨h.trans List.filter_sublist, ?_, ?_⟩
    · exact (List.mem_filter.mp (h.subset (by simp))).2
    · exact (List.mem_filter.mp (h.subset (by simp))).2
  · rintro ⟨h, hx, hy⟩
    have := h.filter p
    simpa [List.filter_cons, hx, hy] using this
theorem mem_prs {rt : List Nat} {x y : Fact} : ∀ {g : List Fact}, (x, y) ∈ prs rt g ↔ [x, y].Sublist g ∧ ¬ part x.row rt = part y.row rt
  | [] => by simp [prs]
  | a :: g => by
    rw [prs, List.mem_append, mem_prs (g := g), two_cons, or_and_right, or_comm]
    refine or_congr Iff.rfl ?_
    unfold pfrom
    rw [List.mem_map]
    constructor
    · rintro ⟨z, hz, e⟩
      simp only [Prod.mk.injEq] at e
      obtain ⟨rfl, rfl⟩ := e
      obtain ⟨h1, h2⟩ := List.mem_filter.mp hz
      exact ⟨⟨rfl, h1⟩, by simpa using h2⟩
    · rintro ⟨⟨rfl, h1⟩, h2⟩
      exact ⟨y, List.mem_filter.mpr ⟨h1, by simpa using h2⟩, rfl⟩
theorem mem_lprs {ts : List Tie} {x y : Fact} : ∀ {g : List Fact}, (x, y) ∈ lprs ts g ↔ [x, y].Sublist g ∧ clash ts x y = true
  | [] => by simp [lprs]
  | a :: g => by
    rw [lprs, List.mem_append, mem_lprs (g := g), two_cons, or_and_right, or_comm]
    refine or_congr Iff.rfl ?_
    rw [List.mem_map]
    constructor
    · rintro ⟨z, hz, e⟩
      simp only [Prod.mk.injEq] at e
      obtain ⟨rfl, rfl⟩ := e
      obtain ⟨h1, h2⟩ := List.mem_filter.mp hz
      exact ⟨⟨rfl, h1⟩, h2⟩
    · rintro ⟨⟨rfl, h1⟩, h2⟩
      exact ⟨y, List.mem_filter.mpr ⟨h1, h2⟩, rfl⟩
/-! pairs in order -/
theorem le_fst {x x' y y' : Fact} (h : le x x' = true) (hn : x ≠ x') : le ((x, y) : Pr) (x', y') = true := by
  have hne : PyData.eqv x'.key x.key = false := by
    cases q : PyData.eqv x'.key x.key with
    | false => rfl
    | true => exact absurd (Fact.ki _ _ (eq_of_eqv _ _ (Fact.ka _ _) q)).symm hn
  have h1 : (!lexLt itemOrd (keyToks x'.key) (keyToks x.key)) = true := h
  show (!lexLt itemOrd (keyToksAll [x'.key, y'.key]) (keyToksAll [x.key, y.key])) = true
  rw [dataLt_all_no (Fact.ka _ _) hne]
  exact h1
theorem le_snd {x y y' : Fact} (h : le y y' = true) : le ((x, y) : Pr) (x, y') = true := by
  by_cases c : y = y'
  · subst c
    exact le_total.refl _
  · have hne : PyData.eqv y'.key y.key = false := by
      cases q : PyData.eqv y'.key y.key with
      | false => rfl
      | true => exact absurd (Fact.ki _ _ (eq_of_eqv _ _ (Fact.ka _ _) q)).symm c
    have he : PyData.eqv x.key x.key = true := eqv_refl_alike _ (Fact.ka _ _)
    have h1 : (!lexLt itemOrd (keyToks y'.key) (keyToks y.key)) = true := h
    show (!lexLt itemOrd (keyToksAll [x.key, y'.key]) (keyToksAll [x.key, y.key])) = true
    rw [dataLt_all_yes (Fact.ka _ _) he, dataLt_all_no (Fact.ka _ _) hne]
    exact h1
theorem lprs_srt (ts : List Tie) : ∀ {s : List Fact}, Srt s → Srt (lprs ts s)
  | [], _ => List.Pairwise.nil
  | x :: ys, h => by
    have h' :=
                            List.pairwise_cons.mp h
    refine List.pairwise_append.mpr ⟨?_, lprs_srt ts h'.2, ?_⟩
    · rw [List.pairwise_map]
      refine (h'.2.sublist List.filter_sublist).imp fun {a b} hab => ⟨le_snd hab.1, fun e => hab.2 ?_⟩
      exact (Prod.mk.injEq _ _ _ _ ▸ e).2
    · rintro p hp ⟨u, v⟩ hq
      obtain ⟨z, hz, rfl⟩ := List.mem_map.mp hp
      have hu : u ∈ ys := (mem_lprs.mp hq).1.subset (by simp)
      have t := h'.1 u hu
      refine ⟨le_fst t.1 t.2, fun e => t.2 ?_⟩
      exact (Prod.mk.injEq _ _ _ _ ▸ e).1
theorem prs_len (rt : List Nat) (m : Nat) : ∀ (s : List Fact), s.length ≤ m → (prs rt s).length ≤ s.length * m
  | [], _ => by simp [prs]
  | x :: ys, h => by
    rw [List.length_cons] at h
    have h1 := prs_len rt m ys (by omega)
    have h2 : (pfrom rt x ys).length ≤ ys.length := by
      unfold pfrom
      rw [List.length_map]
      exact List.length_filter_le _ _
    rw [prs, List.length_append, List.length_cons, Nat.add_mul]
    omega
theorem flat_len {α β : Type} {f : α → List β} {m : Nat} : ∀ (l : List α), (∀ a ∈ l, (f a).length ≤ m) → (l.flatMap f).length ≤ l.length * m
  | [], _ => by simp
  | a :: l, h => by
    have h1 := flat_len l fun x hx => h x (List.mem_cons_of_mem _ hx)
    have h2 := h a List.mem_cons_self
    rw [List.flatMap_cons, List.length_append, List.length_cons, Nat.add_mul]
    omega
theorem r_clashes_of_tie (n : Nat) (s : List Fact) (t : Tie) (hf : ∀ f ∈ s, TFit t f) (hl : s.length ≤ 100) :
    ∃ ps : List Pr, ps.length ≤ 1000000 ∧ (∀ x y, (x, y) ∈ ps ↔ [x, y].Sublist s ∧ clash1 x y t = true) ∧
      K (n + 3) 7 [.val (.tuple (s.map Dt.d)), .val t.d] = .ok (.val (.list (ps.map Dt.d)), [.val (.tuple (s.map Dt.d)), .val t.d]) := by
  have sz := szL
  let fs := s.filter fun f => decide (f.name = t.name)
  have hfs : ∀ f ∈ fs, f ∈ s ∧ f.name = t.name := fun f h => by
    have := List.mem_filter.mp h
    exact ⟨this.1, by simpa using this.2⟩
  have hfl : fs.length ≤ 100 := Nat.le_trans (List.length_filter_le _ _) hl
  obtain ⟨g, hg, hgl, hgr⟩ := r_groups n fs t.left (fun f h => (hf f (hfs f h).1 (hfs f h).2).1) (by omega)
  have hgf : ∀ p ∈ g, (∀ f ∈ p.2, f ∈ fs) ∧ p.2.length ≤ 100 := fun p hp => by
    rw [hg.grp p hp]
    exact ⟨fun f h => (List.mem_filter.mp h).1, Nat.le_trans (List.length_filter_le _ _) hfl⟩
  let T := g.flatMap fun p => prs t.right p.2
  have hTl : T.length ≤ 1000000 := by
    have h1 := flat_len (f := fun p : List Cell × List Fact => prs t.right p.2) (m := 10000) g fun p hp => by
      have h2 := prs_len t.right 100 p.2 (hgf p hp).2
      have h3 := (hgf p hp).2
      have h4 := Nat.mul_le_mul h3 (Nat.le_refl 100)
      omega
    show (g.flatMap fun p => prs t.right p.2).length ≤ _
    have h2 : g.length * 10000 ≤ 100 * 10000 := Nat.mul_le_mul (by omega) (Nat.le_refl _)
    omega
  have hT : T.length < sizeLine := by omega
  refine ⟨T, hTl, fun x y => ?_, ?_⟩
  · show (x, y) ∈ g.flatMap _ ↔ _
    rw [List.mem_flatMap]
    constructor
    · rintro ⟨p, hp, h⟩
      obtain ⟨h1, h2⟩ := mem_prs.mp h
      rw [hg.grp p hp, two_filter] at h1
      obtain ⟨h3, h4, h5⟩ := h1
      rw [two_filter] at h3
      simp only [decide_eq_true_iff] at h3 h4 h5
      refine ⟨h3.1, ?_⟩
      unfold clash1
      simp only [h3.2.1, h3.2.2, h4, h5, h2, decide_true, decide_false]
      rfl
    · rintro ⟨h1, h2⟩
      unfold clash1 at h2
      simp only [Bool.and_eq_true, decide_eq_true_iff, Bool.not_eq_true', decide_eq_false_iff_not] at h2
      obtain ⟨⟨a1, a2, a3⟩, a4⟩ := h2
      have h3 : [x, y].Sublist fs := two_filter.mpr ⟨h1, by simpa using a1, by simpa using a2⟩
      obtain ⟨p, hp, e⟩ := hg.all x (h3.subset (by simp))
      refine ⟨p, hp, mem_prs.mpr ⟨?_, a4⟩⟩
      rw [hg.grp p hp, two_filter]
      exact ⟨h3, by simp [e], by simp [e, a3]⟩
  · have dt : t.d = .tuple [.str t.name.1, tup t.left, tup t.right] := rfl
    obtain ⟨e, ⟨acc, x6, x7, x8, x9, q6, q7, q8, q9, hc, rfl⟩, h⟩ := fr_ind (rn := K (n + 2)) (src := .seq (.call 6 (.v (.nw (.lc (.var 8) (.nm 8) (.seq (.var 0)) (.on (.bin .eq (.bin .idx (.var 8) (.int 0)) (.var 2))) [8])) (.v (.var 3) .nil)))) (tg := .nm 6) (l := none)
      (env := [.val (.tuple (s.map Dt.d)), .val t.d, .val (.str t.name.1), .val (tup t.left), .val (tup t.right), .own (.lst []) false, .no, .no, .no, .no])
      (env1 := [.val (.tuple (s.map Dt.d)), .val t.d, .val (.str t.name.1), .val (tup t.left), .val (tup t.right), .own (.lst []) false, .no, .no, .no, .no])
      (body := ct1) (g.attachWith (fun p => p ∈ g) fun _ h => h) (fun p => .list (p.1.2.map Dt.d))
      (fun rest e => ∃ (acc : List Pr) (x6 x7 x8 x9 : Sl), FreeS x6 ∧ FreeS x7 ∧ FreeS x8 ∧ FreeS x9 ∧ acc ++ (rest.flatMap fun p => prs t.right p.1.2) = T ∧ e = [.val (.tuple (s.map Dt.d)), .val t.d, .val (.str t.name.1), .val (tup t.left), .val (tup t.right), .own (.lst (acc.map Dt.d)) false, x6, x7, x8, x9])
      (by
        have e : (g.attachWith (fun p => p ∈ g) fun _ h => h).map (fun p => (.list (p.1.2.map Dt.d) : D)) = g.map fun p => .list (p.2.map Dt.d) := by
          exact att_map (f := fun p : List Cell × List Fact => (.list (p.2.map Dt.d) : D))
        rw [e]
        simp! only []
        rw [lc_map (as := s) (l := none) (dd := Dt.d) (f := Dt.d) (q := fun f => decide (f.name = t.name)) (envI := [.val (.tuple (s.map Dt.d)), .val t.d, .val (.str t.name.1), .val (tup t.left), .val (tup t.right), .own (.lst []) false, .no, .no, .no, .no]) (by simp! only []) (by simp! only []) (by
          intro f hf
          have df : Dt.d f = .tuple [.str f.name.1, rowD f.row] := rfl
          by_cases c : f.name = t.name <;> simp! only [lcTurn, df, shp_str, eqv_str, c, decide_true, decide_false])]
        have hgr' : K (n + 2) 6 [.val (.list ((s.filter fun f => decide (f.name = t.name)).map Dt.d)), .val (tup t.left)] = .ok (.val (.list (g.map fun p => .list (p.2.map Dt.d))), [.val (.list ((s.filter fun f => decide (f.name = t.name)).map Dt.d)), .val (tup t.left)]) := hgr
        simp! only [hgr'])
      ⟨[], .no, .no, .no, .no, .no, .no, .no, .no, by
        rw [List.nil_append]
        show _ = g.flatMap _
        have : (g.attachWith (fun p => p ∈ g) fun _ h => h).flatMap (fun p => prs t.right p.1.2) = ((g.attachWith (fun p => p ∈ g) fun _ h => h).map (·.1)).flatMap fun p => prs t.right p.2 := by
          rw [List.flatMap_map]
        rw [this, att_map (f := fun p : List Cell × List Fact => p), List.map_id'], rfl⟩
      (by
        rintro ⟨p, hp⟩ rest e ⟨acc, x6, x7, x8, x9, q6, q7, q8, q9, hc, rfl⟩
        rw [List.flatMap_cons] at hc
        obtain ⟨y7, y8, y9, r7, r8, r9, h2⟩ := ct2_ok (n := n + 1) (s0 := .val (.tuple (s.map Dt.d))) (s1 := .val t.d) (s2 := .val (.str t.name.1)) (s3 := .val (tup t.left)) (rt := t.right) hT (g := p.2) (fun f h => (hf f (hfs f ((hgf p hp).1 f h)).1 (hfs f ((hgf p hp).1 f h)).2).2) q7 q8 q9 (acc := acc) hc
        refine ⟨[.val (.tuple (s.map Dt.d)), .val t.d, .val (.str t.name.1), .val (tup t.left), .val (tup t.right), .own (.lst (acc.map Dt.d)) false, .val (.list (p.2.map Dt.d)), x7, x8, x9], [.val (.tuple (s.map Dt.d)), .val t.d, .val (.str t.name.1), .val (tup t.left), .val (tup t.right), .own (.lst ((acc ++ prs t.right p.2).map Dt.d)) false, .val (.list (p.2.map Dt.d)), y7, y8, y9], ?_, ?_, acc ++ prs t.right p.2, _, y7, y8, y9, .val, r7, r8, r9, by rw [List.append_assoc]; exact hc, rfl⟩
        · rcases q6 with rfl | ⟨d, rfl⟩ <;> simp! only []
        · simp! only [h2])
    have e : acc = T := by simpa using hc
    subst e
    rw [K_step _ rfl rfl]; simp! only [k78_clashes_of_tie, dt]
    rw [← dt, h]
    simp! only []
end VE
/-! VP10: clashes_in, keeps_all, grown -/
namespace VE
local macro_rules | `(tactic| simp! only [$ts,*]) => `(tactic| simp only [q_ev_int, q_ev_str, q_ev_bl, q_ev_non, q_ev_var, q_ev_bor, q_ev_tup, q_ev_nw, q_ev_un, q_ev_bin, q_ev_and, q_ev_or, q_ev_ite, q_ev_sl, q_ev_slf, q_ev_call, q_ev_pop, q_evs_nil, q_evs_cons, q_evA_nil, q_evA_v, q_evA_io, q_evA_sc, q_evN_lst, q_evN_toL, q_evN_vals, q_evN_keysL, q_evN_cat, q_evN_dnew, q_evN_srt, q_evN_srtk, q_evN_call, q_evSrc_seq, q_evSrc_scr, q_evSrc_rng, q_evSrc_rng2, q_evSrc_enum, q_evC_no, q_evC_on, q_ex_asg, q_ex_own, q_ex_aug, q_ex_setIx, q_ex_app, q_ex_rev, q_ex_sdapp, q_ex_ife, q_ex_ret, q_ex_retO, q_ex_exp, q_ex_frz, q_ex_pass, q_ex_brk, q_ex_cnt, q_exs_nil, q_exs_cons, u_len_l, u_len_t, u_len_s, u_toInt, u_tup_l, u_tup_t, u_isInt_int, u_isInt_bool, u_isInt_str, u_isInt_tuple, u_isInt_list, u_isInt_none, u_isStr_int, u_isStr_bool, u_isStr_str, u_isStr_tuple, u_isStr_list, u_isStr_none, u_isTup_int, u_isTup_bool, u_isTup_str, u_isTup_tuple, u_isTup_list, u_isTup_none, u_isBool_int, u_isBool_bool, u_isBool_str, u_isBool_tuple, u_isBool_list, u_isBool_none, u_isList_int, u_isList_bool, u_isList_str, u_isList_tuple, u_isList_list, u_isList_none, u_isSeq_int, u_isSeq_bool, u_isSeq_str, u_isSeq_tuple, u_isSeq_list, u_isSeq_none, u_isNon_int, u_isNon_bool, u_isNon_str, u_isNon_tuple, u_isNon_list, u_isNon_none, u_notNon_int, u_notNon_bool, u_notNon_str, u_notNon_tuple, u_notNon_list, u_notNon_none, u_not, u_neg, u_isTru, u_notTru, u_maxL, b_add_i, b_add_s, b_add_l, b_add_t, b_sub, b_mul, b_mod, b_lt, b_le, b_gt, b_ge, b_idx_l, b_idx_t, b_eq, b_ne, b_in, b_nin, shI, shB, eqvI, eqvB, asV, asT, getV, setV, setO, opV, deref, itemsOf, itemsL, lend, unlend, wipeE, backE, mkArgs, ios, putOuts, runCall, outsOf, out1, fin, setT, setAll, bnd, isOL, isOD, ↓bind_bdk, okbk, ofs, Ret.fr, O.fr, n1, seqD, List.length_cons, List.length_nil, List.length_replicate, List.replicate, List.cons_append, List.nil_append, List.append_nil, List.set, List.getElem?_cons_zero, List.getElem?_cons_succ, List.getElem?_nil, List.nodup_nil, List.nodup_cons, List.not_mem_nil, not_false_eq_true, and_self, true_and, and_true, if_true, if_false, Bool.false_eq_true, ↓reduceIte, reduceCtorEq, Nat.reduceAdd, Nat.reduceSub, Nat.reduceEqDiff, Nat.zero_add, Option.bind_some, Option.bind_none, Option.map_some, sz0, sz1, sz2, sz3, sz4, sz5, sz6, sz7, Bool.and_self, Bool.and_false, Bool.false_and, Bool.and_true, Bool.true_and, Bool.not_true, Bool.not_false, List.length_map, at0, at1, at2, at3, endR_nx, endR_rt, $ts,*])
open PySem PySem.W
                        PyProof.Rows

theorem r_clashes_in (n : Nat) (s : List Fact) (ts : List Tie) (hf : AllFit ts s) (hl : s.length ≤ 100) (ht : ts.length ≤ 10) (hs : Srt s) :
    K (n + 5) 9 [.val (.tuple (s.map Dt.d)), .val (.tuple (ts.map Tie.d))] = .ok (.val (.tuple ((lprs ts s).map Dt.d)), [.val (.tuple (s.map Dt.d)), .val (.tuple (ts.map Tie.d))]) := by
  have sz := szL
  have hex : ∀ t : Tie, ∃ ps : List Pr, t ∈ ts → (ps.length ≤ 1000000 ∧ (∀ x y, (x, y) ∈ ps ↔ [x, y].Sublist s ∧ clash1 x y t = true) ∧
      K (n + 4) 7 [.val (.tuple (s.map Dt.d)), .val t.d] = .ok (.val (.list (ps.map Dt.d)), [.val (.tuple (s.map Dt.d)), .val t.d])) := fun t => by
    by_cases c : t ∈ ts
    · obtain ⟨ps, h⟩ := r_clashes_of_tie (n + 1) s t (fun f hfs => hf f hfs t c) hl
      exact ⟨ps, fun _ => h⟩
    · exact ⟨[], fun h => absurd h c⟩
  obtain ⟨pp, hpp⟩ := Classical.skolem.mp hex
  have hfl : (ts.flatMap pp).length ≤ 10000000 := by
    have h1 := flat_len (f := pp) (m := 1000000) ts fun t h => (hpp t h).1
    have h2 : ts.length * 1000000 ≤ 10 * 1000000 := Nat.mul_le_mul ht (Nat.le_refl _)
    omega
  have hd : evN (K (n + 4)) (.dc2 (.var 4) (.bl true) (.nm 3) (.seq (.var 1)) (.nm 4) (.seq (.call 7 (.v (.var 0) (.v (.var 3) .nil)))) [3, 4]) [.val (.tuple (s.map Dt.d)), .val (.tuple (ts.map Tie.d)), .no, .no, .no] =
      .ok (.dic ((ddp [] (ts.flatMap pp)).map kv), [.val (.tuple (s.map Dt.d)), .val (.tuple (ts.map Tie.d)), .no, .no, .no]) := by
    rw [evN]
    unfold dc2E
    generalize hF : dc2Turn _ _ _ _ _ [3, 4] = F
    have h := dc2Go_keys (bs := ts) (acc := []) (bd := Tie.d) (pp := pp) (env := [.val (.tuple (s.map Dt.d)), .val (.tuple (ts.map Tie.d)), .no, .no, .no])
      (f := F)
      (by rw [List.length_nil]; omega)
      (by
        intro t htt acc hacc
        obtain ⟨h1, h2, h3⟩ := hpp t htt
        rw [← hF]
        generalize hk : (fun e => asV (ev (K (n + 4)) (.var 4) e)) = gk
        generalize hv : (fun e => asV (ev (K (n + 4)) (.bl true) e)) = gv
        have h4 := dcGo_keys (as := pp t) (acc := acc) (env := [.val (.tuple (s.map Dt.d)), .val (.tuple (ts.map Tie.d)), .no, .val t.d, .no]) (f := dcTurn (fun e => .ok (true, e)) gk gv (.nm 4) [4]) hacc (by
          intro p hp
          subst hk hv
          simp! only [dcTurn])
        simp! only [dc2Turn, h3, tgs, h4])
    rw [List.map_nil] at h
    simp! only [h]
  have hc : canon (ts.flatMap pp) = lprs ts s := by
    refine canon_eq (lprs_srt ts hs) fun ⟨x, y⟩ => ?_
    rw [List.mem_flatMap, mem_lprs]
    unfold clash
    rw [List.any_eq_true]
    constructor
    · rintro ⟨t, ht, h⟩
      obtain ⟨h1, h2⟩ := ((hpp t ht).2.1 x y).mp h
      exact ⟨h1, t, ht, h2⟩
    · rintro ⟨h1, t, ht, h2⟩
      exact ⟨t, ht, ((hpp t ht).2.1 x y).mpr ⟨h1, h2⟩⟩
  rw [K_step _ rfl rfl]; simp! only [k78_clashes_in, hd, keysD_kv, keysOf_d (rn := K (n + 4)) (f := 8) (α := Pr) (fun p => r_pair_key n p), sortB_key, sortBy_key]
  rw [← hc]
  rfl
theorem r_keeps_all (n : Nat) (s : List Fact) (ts : List Tie) (hf : AllFit ts s) (hl : s.length ≤ 100) (ht : ts.length ≤ 10) (hs : Srt s) :
    K (n + 6) 11 [.val (.tuple (s.map Dt.d)), .val (.tuple (ts.map Tie.d))] = .ok (.val (.bool (decide ((lprs ts s).length = 0))), [.val (.tuple (s.map Dt.d)), .val (.tuple (ts.map Tie.d))]) := by
  rw [K_step _ rfl rfl]; simp! only [k78_keeps_all, r_clashes_in n s ts hf hl ht hs, shI, eqvI]
  congr 4
  exact decide_eq_decide.mpr
                          (by omega)
/-- what is merged -/
def mrg (bs ss os : List Fact) : List Fact := canon ((bs.filter fun f => decide (f ∈ ss) && decide (f ∈ os)) ++ ((ss ++ os).filter fun f => !decide (f ∈ bs)))
theorem mrg_mem {bs ss os : List Fact} {f : Fact} : f ∈ mrg bs ss os ↔ (f ∈ bs ∧ f ∈ ss ∧ f ∈ os) ∨ ((f ∈ ss ∨ f ∈ os) ∧ f ∉ bs) := by
  unfold mrg
  rw [canon_mem, List.mem_append, List.mem_filter, List.mem_filter, List.mem_append]
  simp
theorem mrg_len (bs ss os : List Fact) : (mrg bs ss os).length ≤ bs.length + (ss.length + os.length) := by
  have h := canon_len ((bs.filter fun f => decide (f ∈ ss) && decide (f ∈ os)) ++ ((ss ++ os).filter fun f => !decide (f ∈ bs)))
  have h1 : (bs.filter fun f => decide (f ∈ ss) && decide (f ∈ os)).length ≤ bs.length := List.length_filter_le _ _
  have h2 : ((ss ++ os).filter fun f => !decide (f ∈ bs)).length ≤ (ss ++ os).length := List.length_filter_le _ _
  rw [List.length_append] at h h2
  unfold mrg
  omega
theorem r_clashes (n : Nat) (bs ss os : List Fact) (ts : List Tie) (h1 : bs.length ≤ 30) (h2 : ss.length ≤ 30) (h3 : os.length ≤ 30) (hf : AllFit ts (mrg bs ss os)) (ht : ts.length ≤ 10) :
    K (n + 6) 10 [.val (.tuple (bs.map Dt.d)), .val (.tuple (ss.map Dt.d)), .val (.tuple (os.map Dt.d)), .val (.tuple (ts.map Tie.d))] = .ok (.val (.tuple ((lprs ts (mrg bs ss os)).map Dt.d)), [.val (.tuple (bs.map Dt.d)), .val (.tuple (ss.map Dt.d)), .val (.tuple (os.map Dt.d)), .val (.tuple (ts.map Tie.d))]) := by
  have hl := mrg_len bs ss os
  have hr := r_merged n bs ss os (by omega) (by omega) (by omega)
  have hr' : K (n + 5) 5 [.val (.tuple (bs.map Dt.d)), .val (.tuple (ss.map Dt.d)), .val (.tuple (os.map Dt.d))] = .ok (.val (.tuple ((mrg bs ss os).map Dt.d)), [.val (.tuple (bs.map Dt.d)), .val (.tuple (ss.map Dt.d)), .val (.tuple (os.map Dt.d))]) := hr
  rw [K_step _ rfl rfl]; simp! only [k78_clashes, hr', r_clashes_in n (mrg bs ss os) ts hf (by omega) ht (canon_srt _)]
/-- no two of them break a tie together -/
def Keeps (ts : List Tie) (s : List Fact) : Prop := ∀ x ∈ s, ∀ y ∈ s, clash ts x y = false
theorem clash_symm (ts : List Tie) (x y : Fact) : clash ts x y = clash ts y x := by
  unfold clash
  congr 1
  funext t
  unfold clash1
  have e1 : decide (part x.row t.left = part y.row t.left) = decide (part y.row t.left = part x.row t.left) := decide_eq_decide.mpr ⟨Eq.symm, Eq.symm⟩
  have e2 : decide (part x.row t.right = part y.row t.right) = decide (part y.row t.right = part x.row t.right) := decide_eq_decide.mpr ⟨Eq.symm, Eq.symm⟩
  rw [e1, e2]
  cases decide (x.name = t.name) <;> cases decide (y.name = t.name) <;> rfl
theorem clash_self (ts : List Tie) (x : Fact) : clash ts x x = false := by
  unfold clash
  rw [List.any_eq_false]
  intro t _
  unfold clash1
  simp
theorem Keeps.none {ts : List Tie} {s : List Fact} (h : Keeps ts s) : lprs ts s = [] := by
  refine List.eq_nil_iff_forall_not_mem.mpr ?_
  rintro ⟨x, y⟩ hp
  obtain ⟨h1, h2⟩ := mem_lprs.mp hp
  rw [h x (h1.subset (by simp)) y (h1.subset (by simp))] at h2
  cases h2
def gstep (ts : List Tie) (kept : List Fact) (f : Fact) : List Fact := if kept.any (fun k => clash ts k f) then kept else kept ++ [f]
theorem gstep_keeps {ts : List Tie} {kept : List Fact} (h : Keeps ts kept) (f : Fact) : Keeps ts (gstep ts kept f) := by
  unfold gstep
  split
  · exact h
  · rename_i c
    rw [Bool.not_eq_true, List.any_eq_false] at c
    have c' : ∀ x ∈ kept, clash ts x f = false := fun x hx => by simpa using c x hx
    intro x hx y hy
    rcases List.mem_append.mp hx with hx1 | hx1 <;> rcases List.mem_append.mp hy with hy1 | hy1
    · exact h x hx1 y hy1
    · rw [List.mem_singleton.mp hy1]; exact c' x hx1
    · rw [List.mem_singleton.mp hx1, clash_symm]; exact c' y hy1
    · rw [List.mem_singleton.mp hx1, List.mem_singleton.mp hy1]; exact clash_self _ _
theorem gstep_mem {ts : List Tie} {kept : List Fact} {f x : Fact} (h : x ∈ gstep ts kept f) : x ∈ kept ∨ x = f := by
  unfold gstep at h
  split at h
  · exact .inl h
  · simpa using h
theorem gstep_len {ts : List Tie} {kept : List Fact} {f : Fact} : (gstep ts kept f).length ≤ kept.length + 1 := by
  unfold gstep
  split <;> simp
theorem r_grown (n : Nat) (s fs : List Fact) (ts : List Tie) (hs : AllFit ts s) (hf : AllFit ts fs) (h1 : s.length ≤ 100) (h2 : fs.length ≤ 100) (hk : Keeps ts s) :
    ∃ g : List Fact, Srt g ∧ g.length ≤ s.length + fs.length ∧ (∀ x ∈ g, x ∈ s ∨ x ∈ fs) ∧ Keeps ts g ∧
      K (n + 5) 27 [.val (.tuple (s.map Dt.d)), .val (.list (fs.map Dt.d)), .val (.tuple (ts.map Tie.d))] = .ok (.val (.tuple (g.map Dt.d)), [.val (.tuple (s.map Dt.d)), .val (.list (fs.map Dt.d)), .val (.tuple (ts.map Tie.d))]) := by
  have sz := szL
  obtain ⟨e, ⟨kept, x, hm, hlen, hkk, hx, rfl⟩, h⟩ := fr_ind (rn := K (n + 4)) (src := .seq (.var 1)) (tg := .nm 4) (l := none)
    (env := [.val (.tuple (s.map Dt.d)), .val (.list (fs.map Dt.d)), .val (.tuple (ts.map Tie.d)), .own (.lst (s.map Dt.d)) false, .no, .no])
    (env1 := [.val (.tuple (s.map Dt.d)), .val (.list (fs.map Dt.d)), .val (.tuple (ts.map Tie.d)), .own (.lst (s.map Dt.d)) false, .no, .no])
    (body := (.cons (.ife (.bin .notin (.bl true) (.nw (.lc (.call 24 (.v (.var 5) (.v (.var 4) (.v (.var 2) .nil)))) (.nm 5) (.seq (.bor 3)) .no [5]))) (.cons (.app 3 (.var 4))
  .nil) .nil)
  .nil)) (fs.attachWith (fun p => p ∈ fs) fun _ h => h) (fun p => Dt.d p.1)
    (fun rest e => ∃ (kept : List Fact) (x : Sl), (∀ y ∈ kept, y ∈ s ∨ y ∈ fs) ∧ kept.length + rest.length ≤ s.length + fs.length ∧ Keeps ts kept ∧ FreeS x ∧ e = [.val (.tuple (s.map Dt.d)), .val (.list (fs.map Dt.d)), .val (.tuple (ts.map Tie.d)), .own (.lst (kept.map Dt.d)) false, x, .no])
    (by
      rw [att_map (f := Dt.d)]
      simp! only [])
    ⟨s, .no, fun y hy => .inl hy, by simp, hk, .no, rfl⟩
    (by
      rintro ⟨f, hff⟩ rest e ⟨kept, x, hm, hlen, hkk, hx, rfl⟩
      rw [List.length_cons] at hlen
      refine ⟨[.val (.tuple (s.map Dt.d)), .val (.list (fs.map Dt.d)), .val (.tuple (ts.map Tie.d)), .own (.lst (kept.map Dt.d)) false, .val (Dt.d f), .no], [.val (.tuple (s.map Dt.d)), .val (.list (fs.map Dt.d)), .val (.tuple (ts.map Tie.d)), .own (.lst ((gstep ts kept f).map Dt.d)) false, .val (Dt.d f), .no], ?_, ?_, gstep ts kept f, .val (Dt.d f), ?_, ?_, gstep_keeps hkk f, .val, rfl⟩
      · rcases hx with rfl | ⟨d, rfl⟩ <;> simp! only []
      · have hl : kept.length < sizeLine := by omega
        have hlc : evN (K (n + 4)) (.lc (.call 24 (.v (.var 5) (.v (.var 4) (.v (.var 2) .nil)))) (.nm 5) (.seq (.bor 3)) .no [5]) [.val (.tuple (s.map Dt.d)), .val (.list (fs.map Dt.d)), .val (.tuple (ts.map Tie.d)), .own (.lst (kept.map Dt.d)) false, .val (Dt.d f), .no] = .ok (.lst ((kept.map fun k => clash ts k f).map .bool), [.val (.tuple (s.map Dt.d)), .val (.list (fs.map Dt.d)), .val (.tuple (ts.map Tie.d)), .own (.lst (kept.map Dt.d)) false, .val (Dt.d f), .no]) := by
          rw [lc_all (as := kept) (l := some 3) (dd := Dt.d) (f := fun k => .bool (clash ts k f)) (envI := [.val (.tuple (s.map Dt.d)), .val (.list (fs.map Dt.d)), .val (.tuple (ts.map Tie.d)), .lent (kept.map Dt.d), .val (Dt.d f), .no]) (by simp! only []) (by simp! only []) (by
            intro k hk
            have r := r_law_clash (n + 2) (ts := ts) (f := k) (g := f) (fun t ht => (hm k hk).elim (fun z => hs k z t ht) fun z => hf k z t ht) (fun t ht => hf f hff t ht)
            simp! only [lcTurn, r]), List.map_map]
          rfl
        have hin : (true ∈ kept.map fun k => clash ts k f) ↔ (kept.any fun k => clash ts k f) = true := by simp
        by_cases c : (kept.any fun k => clash ts k f) = true
        · have c2 := hin.mpr c
          simp! only [hlc, inD_bools, c2, decide_true, gstep, c]
        · have c2 : ¬ (true ∈ kept.map fun k => clash ts k f) := fun z => c (hin.mp z)
          simp! only [hlc, inD_bools, c2, decide_false, gstep, c, hl, List.map_append, List.map_cons, List.map_nil]
      · intro y hy
        rcases gstep_mem hy with hy | rfl
        · exact hm y hy
        · exact .inr hff
      · have := gstep_len (ts := ts) (kept := kept) (f := f)
        omega)
  rw [List.length_nil] at hlen
  refine ⟨canon kept, canon_srt _, ?_, fun x hx => hm x (canon_mem.mp hx), fun x hx y hy => hkk x (canon_mem.mp hx) y (canon_mem.mp hy), ?_⟩
  · have := canon_len kept
    omega
  · rw [K_step _ rfl rfl]; simp! only [k78__law_grown]
    rw [h]
    simp! only [r_law_store n kept (by omega)]
end VE
/-! VP11: _law_goes -/
namespace VE
local macro_rules | `(tactic| simp! only [$ts,*]) => `(tactic| simp only [q_ev_int, q_ev_str, q_ev_bl, q_ev_non, q_ev_var, q_ev_bor, q_ev_tup, q_ev_nw, q_ev_un, q_ev_bin, q_ev_and, q_ev_or, q_ev_ite, q_ev_sl, q_ev_slf, q_ev_call, q_ev_pop, q_evs_nil, q_evs_cons, q_evA_nil, q_evA_v, q_evA_io, q_evA_sc, q_evN_lst, q_evN_toL, q_evN_vals, q_evN_keysL, q_evN_cat, q_evN_dnew, q_evN_srt, q_evN_srtk, q_evN_call, q_evSrc_seq, q_evSrc_scr, q_evSrc_rng, q_evSrc_rng2, q_evSrc_enum, q_evC_no, q_evC_on, q_ex_asg, q_ex_own, q_ex_aug, q_ex_setIx, q_ex_app, q_ex_rev, q_ex_sdapp, q_ex_ife, q_ex_ret, q_ex_retO, q_ex_exp, q_ex_frz, q_ex_pass, q_ex_brk, q_ex_cnt, q_exs_nil, q_exs_cons, u_len_l, u_len_t, u_len_s, u_toInt, u_tup_l, u_tup_t, u_isInt_int, u_isInt_bool, u_isInt_str, u_isInt_tuple, u_isInt_list, u_isInt_none, u_isStr_int, u_isStr_bool, u_isStr_str, u_isStr_tuple, u_isStr_list, u_isStr_none, u_isTup_int, u_isTup_bool, u_isTup_str, u_isTup_tuple, u_isTup_list, u_isTup_none, u_isBool_int, u_isBool_bool, u_isBool_str, u_isBool_tuple, u_isBool_list, u_isBool_none, u_isList_int, u_isList_bool, u_isList_str, u_isList_tuple, u_isList_list, u_isList_none, u_isSeq_int, u_isSeq_bool, u_isSeq_str, u_isSeq_tuple, u_isSeq_list, u_isSeq_none, u_isNon_int, u_isNon_bool, u_isNon_str, u_isNon_tuple, u_isNon_list, u_isNon_none, u_notNon_int, u_notNon_bool, u_notNon_str, u_notNon_tuple, u_notNon_list, u_notNon_none, u_not, u_neg, u_isTru, u_notTru, u_maxL, b_add_i, b_add_s, b_add_l, b_add_t, b_sub, b_mul, b_mod, b_lt, b_le, b_gt, b_ge, b_idx_l, b_idx_t, b_eq, b_ne, b_in, b_nin, shI, shB, eqvI, eqvB, asV, asT, getV, setV, setO, opV, deref, itemsOf, itemsL, lend, unlend, wipeE, backE, mkArgs, ios, putOuts, runCall, outsOf, out1, fin, setT, setAll, bnd, isOL, isOD, ↓bind_bdk, okbk, ofs, Ret.fr, O.fr, n1, seqD, List.length_cons, List.length_nil, List.length_replicate, List.replicate, List.cons_append, List.nil_append, List.append_nil, List.set, List.getElem?_cons_zero, List.getElem?_cons_succ, List.getElem?_nil, List.nodup_nil, List.nodup_cons, List.not_mem_nil, not_false_eq_true, and_self, true_and, and_true, if_true, if_false, Bool.false_eq_true, ↓reduceIte, reduceCtorEq, Nat.reduceAdd, Nat.reduceSub, Nat.reduceEqDiff, Nat.zero_add, Option.bind_some, Option.bind_none, Option.map_some, sz0, sz1, sz2, sz3, sz4, sz5, sz6, sz7, Bool.and_self, Bool.and_false, Bool.false_and, Bool.and_true, Bool.true_and, Bool.not_true, Bool.not_false, List.length_map, at0, at1, at2, at3, endR_nx, endR_rt, $ts,*])
open PySem PySem.W
                        PyProof.Rows

abbrev TD (s : List Fact) : D := .tuple (s.map Dt.d)
abbrev TT (ts : List Tie) : D := .tuple (ts.map Tie.d)
abbrev TP (ps : List Pr) : D := .tuple (ps.map Dt.d)
theorem mrg_srt (bs ss os : List Fact) : Srt (mrg bs ss os) := canon_srt _
theorem lmrg_eq (bs ss os : List Fact) : canon ((ss.filter fun f => decide (f ∈ os)) ++ ((ss ++ os).filter fun f => !decide (f ∈ bs))) = mrg bs ss os := by
  refine canon_eq (mrg_srt _ _ _) fun f => ?_
  rw [mrg_mem, List.mem_append, List.mem_filter, List.mem_filter, List.mem_append]
  simp only [decide_eq_true_iff, Bool.not_eq_true', decide_eq_false_iff_not]
  by_cases c1 : f ∈ bs <;> by_cases c2 : f ∈ ss <;> by_cases c3 : f ∈ os <;> simp [c1, c2, c3]
theorem mrg_comm (bs ss os : List Fact) : mrg bs os ss = mrg bs ss os := by
  refine (mrg_srt _ _ _).ext (mrg_srt _ _ _) fun f => ?_
  rw [mrg_mem, mrg_mem]
  by_cases c1 : f ∈ bs <;> by_cases c2 : f ∈ ss <;> by_cases c3 : f ∈ os <;> simp [c1, c2, c3]
theorem mrg_left {bs ss : List Fact} (h : Srt ss) : mrg bs ss bs = ss := by
  refine (mrg_srt _ _ _).ext h fun f => ?_
  rw [mrg_mem]
  by_cases c1 : f ∈ bs <;> by_cases c2 : f ∈ ss <;> simp [c1, c2]
theorem mrg_right {bs ss : List Fact} (h : Srt ss) : mrg bs bs ss = ss := by
  rw [mrg_comm, mrg_left h]
/-- a good store -/
structure Good (ts : List Tie) (s : List Fact) : Prop where
  srt : Srt s
  len : s.length ≤ 30
  fit : AllFit ts s
  row : ∀ f ∈ s, f.row.length ≤ 4
theorem mrg_sub {bs ss os : List Fact} {f : Fact} (h : f ∈ mrg bs ss os) : f ∈ ss ∨ f ∈ os := by
  rcases mrg_mem.mp h with ⟨_, h, _⟩ | ⟨h, _⟩
  · exact .inl h
  · exact h
section
variable {n : Nat} {ts : List Tie} {bs ss os : List Fact}
theorem r_mrg (hb : Good ts bs) (hs : Good ts ss) (ho : Good ts os) : K (n + 6) 5 [.val (TD bs), .val (TD ss), .val (TD os)] = .ok (.val (TD (mrg bs ss os)), [.val (TD bs), .val (TD ss), .val (TD os)]) := by
  have := hb.len
  have := hs.len
  have := ho.len
  exact r_merged (n + 1) bs ss os (by omega) (by omega) (by omega)
theorem mrg_fit (hs : Good ts ss) (ho : Good ts os) : AllFit ts (mrg bs ss os) := fun f hf => (mrg_sub hf).elim (hs.fit f) (ho.fit f)
theorem mrg_row (hs : Good ts ss) (ho : Good ts os) : ∀ f ∈ mrg bs ss os, f.row.length ≤ 4 := fun f hf => (mrg_sub hf).elim (hs.row f) (ho.row f)
theorem r_cl (hb : Good ts bs) (hs : Good ts ss) (ho : Good ts os) (ht : ts.length ≤ 10) : K (n + 6) 10 [.val (TD bs), .val (TD ss), .val (TD os), .val (TT ts)] = .ok (.val (TP (lprs ts (mrg bs ss os))), [.val (TD bs), .val (TD ss), .val (TD os), .val (TT ts)]) :=
  r_clashes n bs ss os ts hb.len hs.len ho.len (mrg_fit hs ho) ht
theorem lprs_row {s : List Fact} (h : ∀ f ∈ s, f.row.length ≤ 4) : ∀ p ∈ lprs ts s, p.1.row.length ≤ sizeLine ∧ p.2.row.length ≤ sizeLine := by
  have sz := szL
  rintro ⟨x, y⟩ hp
  have h1 := (mem_lprs.mp hp).1
  have h2 := h x (h1.subset (by simp))
  have h3 := h y (h1.subset (by simp))
  constructor
  · show x.row.length ≤ _
    omega
  · show y.row.length ≤ _
    omega
theorem smF {s : List Fact} (h : ∀ f ∈ s, f.row.length ≤ 4) (hl : s.length ≤ 100) : K (n + 6) 15 [.val (TD s), .val (TD s)] = .ok (.val (.bool true), [.val (TD s), .val (TD s)]) := by
  have sz := szL
  exact same_facts (n + 1) s (fun f hf => by have := h f hf; omega) (by omega)
theorem smP {s : List Fact} (h : ∀ f ∈ s, f.row.length ≤ 4) (hl : s.length ≤ 100) : K (n + 6) 15 [.val (TP (lprs ts s)), .val (TP (lprs ts s))] = .ok (.val (.bool true), [.val (TP (lprs ts s)), .val (TP (lprs ts s))]) := by
  have sz := szL
  refine same_pairs n (lprs ts s) (lprs_row h) ?_
  have h1 := lprs_len ts 100 s hl
  have h2 := Nat.mul_le_mul hl (Nat.le_refl 100)
  omega
theorem smN : K (n + 6) 15 [.val (.tuple []), .val (.tuple [])] = .ok (.val (.bool true), [.val (.tuple []), .val (.tuple [])]) :=
  same_tup (n + 5) ([] : List D) id (by simp) (by rw [szL]; simp)
theorem smB (b : Bool) : K (n + 6) 15 [.val (.bool b), .val (.bool b)] = .ok (.val (.bool true), [.val (.bool b), .val (.bool b)]) := same_bool _ b
structure Pq (n : Nat) (ts : List Tie) (bs due : List Fact) (p : List Fact × List Fact) : Prop where
  g1 : Good ts p.1
  g2 : Good ts p.2
  k1 : Keeps ts p.1
  m : mrg bs p.1 p.2 = due
theorem r_goes (hb : Good ts bs) (hs : Good ts ss) (ho : Good ts os) (kb : Keeps ts bs) (ks : Keeps ts ss) (ko : Keeps ts os) (ht : ts.length ≤ 10) :
    K (n + 7) 30 [.val (TD bs), .val (TD ss), .val (TD os), .val (TT ts)] = .ok (.val (.bool true), [.val (TD bs), .val (TD ss), .val (TD os), .val (TT ts)]) := by
  have sz := szL
  have lb := hb.len
  have ls := hs.len
  have lo := ho.len
  have lm := mrg_len bs ss os
  obtain ⟨due, hdue⟩ : ∃ due, due = mrg bs ss os := ⟨_, rfl⟩
  rw [← hdue] at lm
  have hm : K (n + 6) 26 [.val (TD bs), .val (TD ss), .val (TD os)] = .ok (.val (TD due), [.val (TD bs), .val (TD ss), .val (TD os)]) := by
    have := r_law_merged (n + 1) bs ss os (by omega) (by omega) (by omega)
    rw [lmrg_eq, ← hdue] at this
    exact this
  have fd : AllFit ts due := hdue ▸ mrg_fit hs ho
  have rd : ∀ f ∈ due, f.row.length ≤ 4 := hdue ▸ mrg_row hs ho
  have hc : K (n + 6) 25 [.val (TD due), .val (TT ts)] = .ok (.val (TP (lprs ts due)), [.val (TD due), .val (TT ts)]) :=
    r_law_clashes (n + 3) due ts fd (by omega)
  have sF := smF (n := n) rd (by omega)
  have sP := smP (n := n) (ts := ts) rd (by omega)
  obtain ⟨e, ⟨x, y, hx, hy, _, rfl⟩, h⟩ := fr_ind (rn := K (n + 6)) (src := .seq (.nw (.lst (.cons (.tup (.cons (.var 1) (.cons (.var 2) .nil))) (.cons (.tup (.cons (.var 2) (.cons (.var 1) .nil))) .nil))))) (tg := .tp [6, 7]) (l := none)
    (env := [.val (TD bs), .val (TD ss), .val (TD os), .val (TT ts), .val (TD due), .val (TP (lprs ts due)), .no, .no])
    (env1 := [.val (TD bs), .val (TD ss), .val (TD os), .val (TT ts), .val (TD due), .val (TP (lprs ts due)), .no, .no])
    (body := (.cons (.ife (.or (.un .not (.call 15 (.v (.call 5 (.v (.var 0) (.v (.var 6) (.v (.var 7) .nil)))) (.v (.var 4) .nil)))) (.un .not (.call 15 (.v (.call 10 (.v (.var 0) (.v (.var 6) (.v (.var 7) (.v (.var 3) .nil))))) (.v (.var 5) .nil))))) (.cons (.ret (.bl false))
  .nil) .nil)
  (.cons (.ife (.or (.un .not (.call 15 (.v (.call 5 (.v (.var 0) (.v (.var 6) (.v (.var 0) .nil)))) (.v (.var 6) .nil)))) (.un .not (.call 15 (.v (.call 5 (.v (.var 0) (.v (.var 0) (.v (.var 6) .nil)))) (.v (.var 6) .nil))))) (.cons (.ret (.bl false))
  .nil) .nil)
  (.cons (.ife (.or (.un .not (.call 15 (.v (.call 10 (.v (.var 0) (.v (.var 0) (.v (.var 6) (.v (.var 3) .nil))))) (.v (.tup .nil) .nil)))) (.un .notTru (.call 11 (.v (.var 6) (.v (.var 3) .nil))))) (.cons (.ret (.bl false))
  .nil) .nil)
  .nil)))) [(ss, os), (os, ss)] (fun p => .tuple [TD p.1, TD p.2])
    (fun rest e => ∃ (x y : Sl), FreeS x ∧ FreeS y ∧ (∀ p ∈ rest, Pq n ts bs due p) ∧ e = [.val (TD bs), .val (TD ss), .val (TD os), .val (TT ts), .val (TD due), .val (TP (lprs ts due)), x, y])
    (by simp! only [List.map_cons, List.map_nil])
    ⟨.no, .no, .no, .no, by
      intro p hp
      rcases List.mem_cons.mp
                              hp with rfl | hp
      · exact ⟨hs, ho, ks, hdue.symm⟩
      · rw [List.mem_singleton] at hp
        subst hp
        exact ⟨ho, hs, ko, by rw [hdue]; exact mrg_comm _ _ _⟩, rfl⟩
    (by
      rintro ⟨f, s⟩ rest e ⟨x, y, hx, hy, hP, rfl⟩
      obtain ⟨g1, g2, k1, hm⟩ := hP (f, s) List.mem_cons_self
      dsimp only at g1 g2 k1 hm
      refine ⟨[.val (TD bs), .val (TD ss), .val (TD os), .val (TT ts), .val (TD due), .val (TP (lprs ts due)), .val (TD f), .val (TD s)], [.val (TD bs), .val (TD ss), .val (TD os), .val (TT ts), .val (TD due), .val (TP (lprs ts due)), .val (TD f), .val (TD s)], ?_, ?_, .val (TD f), .val (TD s), .val, .val, fun p hp => hP p (List.mem_cons_of_mem _ hp), rfl⟩
      · rcases hx with rfl | ⟨d, rfl⟩ <;> rcases hy with rfl | ⟨d, rfl⟩ <;> simp! only []
      · have e1 := r_mrg (n := n) hb g1 g2
        have e2 := r_cl (n := n) hb g1 g2 ht
        have e3 := r_mrg (n := n) hb g1 hb
        have e4 := r_mrg (n := n) hb hb g1
        have e5 := r_cl (n := n) hb hb g1 ht
        have e6 : K (n + 6) 11 [.val (TD f), .val (TT ts)] = _ := r_keeps_all n f ts g1.fit (by have := g1.len; omega) ht g1.srt
        rw [hm] at e1 e2
        rw [mrg_left g1.srt] at e3
        rw [mrg_right g1.srt] at e4 e5
        rw [k1.none] at e5 e6
        have e5' : K (n + 6) 10 [.val (TD bs), .val (TD bs), .val (TD f), .val (TT ts)] = .ok (.val (.tuple []), [.val (TD bs), .val (TD bs), .val (TD f), .val (TT ts)]) := e5
        have sf := smF (n := n) g1.row (by have := g1.len; omega)
        simp! only [e1, sF, e2, sP, e3, e4, e5', e6, sf, List.map_nil, smN, decide_true])
  have f1 := r_mrg (n := n) hb hb hb
  rw [mrg_left hb.srt] at f1
  have f2 : K (n + 6) 10 [.val (TD bs), .val (TD ss), .val (TD os), .val (TT [])] = .ok (.val (TP (lprs [] due)), [.val (TD bs), .val (TD ss), .val (TD os), .val (TT [])]) := by
    have := r_clashes n bs ss os [] lb ls lo (fun _ _ t ht => by cases ht) (by simp)
    rw [← hdue] at this
    exact this
  have f3 : lprs [] due = [] := (show Keeps [] due from fun _ _ _ _ => rfl).none
  rw [f3] at f2
  have f4 : K (n + 6) 11 [.val (TD bs), .val (TT ts)] = _ := r_keeps_all n bs ts hb.fit (by omega) ht hb.srt
  rw [kb.none] at f4
  have f5 : K (n + 6) 11 [.val (TD due), .val (TT ts)] = _ := r_keeps_all n due ts fd (by omega) ht (hdue ▸ mrg_srt _ _ _)
  have sb := smF (n := n) hb.row (by omega)
  have e7 : decide (((lprs ts due).length : Int) = 0) = decide ((lprs ts due).length = 0) := decide_eq_decide.mpr (by omega)
  rw [K_step _ rfl rfl]; simp! only [k78__law_goes, hm, hc]
  rw [h]
  have f2' : K (n + 6) 10 [.val (TD bs), .val (TD ss), .val (TD os), .val (.tuple [])] = .ok (.val (.tuple []), [.val (TD bs), .val (TD ss), .val (TD os), .val (.tuple [])]) := f2
  simp! only [f1, f2', smN, sb, f4, f5, smB, shI, eqvI, e7, List.map_nil, decide_true]
end
end VE
/-! VP12: draws -/
namespace VE
local macro_rules | `(tactic| simp! only [$ts,*]) => `(tactic| simp only [q_ev_int, q_ev_str, q_ev_bl, q_ev_non, q_ev_var, q_ev_bor, q_ev_tup, q_ev_nw, q_ev_un, q_ev_bin, q_ev_and, q_ev_or, q_ev_ite, q_ev_sl, q_ev_slf, q_ev_call, q_ev_pop, q_evs_nil, q_evs_cons, q_evA_nil, q_evA_v, q_evA_io, q_evA_sc, q_evN_lst, q_evN_toL, q_evN_vals, q_evN_keysL, q_evN_cat, q_evN_dnew, q_evN_srt, q_evN_srtk, q_evN_call, q_evSrc_seq, q_evSrc_scr, q_evSrc_rng, q_evSrc_rng2, q_evSrc_enum, q_evC_no, q_evC_on, q_ex_asg, q_ex_own, q_ex_aug, q_ex_setIx, q_ex_app, q_ex_rev, q_ex_sdapp, q_ex_ife, q_ex_ret, q_ex_retO, q_ex_exp, q_ex_frz, q_ex_pass, q_ex_brk, q_ex_cnt, q_exs_nil, q_exs_cons, u_len_l, u_len_t, u_len_s, u_toInt, u_tup_l, u_tup_t, u_isInt_int, u_isInt_bool, u_isInt_str, u_isInt_tuple, u_isInt_list, u_isInt_none, u_isStr_int, u_isStr_bool, u_isStr_str, u_isStr_tuple, u_isStr_list, u_isStr_none, u_isTup_int, u_isTup_bool, u_isTup_str, u_isTup_tuple, u_isTup_list, u_isTup_none, u_isBool_int, u_isBool_bool, u_isBool_str, u_isBool_tuple, u_isBool_list, u_isBool_none, u_isList_int, u_isList_bool, u_isList_str, u_isList_tuple, u_isList_list, u_isList_none, u_isSeq_int, u_isSeq_bool, u_isSeq_str, u_isSeq_tuple, u_isSeq_list, u_isSeq_none, u_isNon_int, u_isNon_bool, u_isNon_str, u_isNon_tuple, u_isNon_list, u_isNon_none, u_notNon_int, u_notNon_bool, u_notNon_str, u_notNon_tuple, u_notNon_list, u_notNon_none, u_not, u_neg, u_isTru, u_notTru, u_maxL, b_add_i, b_add_s, b_add_l, b_add_t, b_sub, b_mul, b_mod, b_lt, b_le, b_gt, b_ge, b_idx_l, b_idx_t, b_eq, b_ne, b_in, b_nin, shI, shB, eqvI, eqvB, asV, asT, getV, setV, setO, opV, deref, itemsOf, itemsL, lend, unlend, wipeE, backE, mkArgs, ios, putOuts, runCall, outsOf, out1, fin, setT, setAll, bnd, isOL, isOD, ↓bind_bdk, okbk, ofs, Ret.fr, O.fr, n1, seqD, List.length_cons, List.length_nil, List.length_replicate, List.replicate, List.cons_append, List.nil_append, List.append_nil, List.set, List.getElem?_cons_zero, List.getElem?_cons_succ, List.getElem?_nil, List.nodup_nil, List.nodup_cons, List.not_mem_nil, not_false_eq_true, and_self, true_and, and_true, if_true, if_false, Bool.false_eq_true, ↓reduceIte, reduceCtorEq, Nat.reduceAdd, Nat.reduceSub, Nat.reduceEqDiff, Nat.zero_add, Option.bind_some, Option.bind_none, Option.map_some, sz0, sz1, sz2, sz3, sz4, sz5, sz6, sz7, Bool.and_self, Bool.and_false, Bool.false_and, Bool.and_true, Bool.true_and, Bool.not_true, Bool.not_false, List.length_map, at0, at1, at2, at3, endR_nx, endR_rt, $ts,*])
open PySem PySem.W
                        PyProof.Rows

theorem bits_small {i : Int} {k : Nat} (h : i.natAbs < 2 ^ k) : Builtin.Int.intBits i ≤ k := by
  unfold Builtin.Int.intBits
  split
  · omega
  · rename_i c
    have hn : i.natAbs ≠ 0 := by
      intro e
      exact c (by simp [Int.natAbs_eq_zero.mp e])
    have := (Nat.log2_lt hn).mpr h
    omega
theorem mulOk_of {i j : Int} {a b : Nat} (h1 : Builtin.Int.intBits i ≤ a) (h2 : Builtin.Int.intBits j ≤ b) (h : a + b ≤ 134217728) : mulOk i j = true := by
  unfold mulOk
  exact decide_eq_true
                          (by omega)
abbrev DS (ds : List Int) : O := .lst (ds.map .int)
theorem DS_app (ds : List Int) (x : Int) : DS (ds ++ [x]) = .lst (ds.map .int ++ [.int x]) := by simp [DS]
theorem DS_rev (ds : List Int) : DS ds.reverse = .lst (ds.map .int).reverse := by simp [DS]
theorem r_take (n : Nat) (ds : List Int) (m : Int) (hm : 0 < m) : ∃ v ds', 0 ≤ v ∧ v < m ∧ K (n + 1) 13 [.own (DS ds) true, .val (.int m)] = .ok (.val (.int v), [.own (DS ds') true, .val (.int m)]) := by
  rcases List.eq_nil_or_concat ds with rfl | ⟨pre, z, rfl⟩
  · refine ⟨0, [], by omega, hm, ?_⟩
    rw [K_step _ rfl rfl]; simp! only [k78__law_take, List.map_nil, shI, eqvI, decide_true, Int.natCast_zero]
  · refine ⟨z % m, pre, Int.emod_nonneg _ (by omega), Int.emod_lt_of_pos _ hm, ?_⟩
    have q : ¬ ((((pre ++ [z]).map PyData.int).length : Int) = 0) := by simp; omega
    rw [List.length_map] at q
    have g : ((pre.map PyData.int) ++ [PyData.int z]).getLast? = some (.int z) := by simp
    have g2 : ((pre.map PyData.int) ++ [PyData.int z]).dropLast = pre.map PyData.int := by simp
    have q2 : ¬ ((((pre.map PyData.int) ++ [PyData.int z]).length : Int) = 0) := by simp; omega
    rw [K_step _ rfl rfl]; simp! only [k78__law_take, List.concat_eq_append, List.map_append, List.map_cons, List.map_nil, shI, eqvI, q2, decide_false, g, g2, hm]
theorem r_pick (n : Nat) (ds : List Int) (row : List D) (hr : row ≠ []) (hl : row.length ≤ sizeLine) : ∃ d ds', d ∈ row ∧ K (n + 2) 14 [.own (DS ds) true, .val (.list row)] = .ok (.val d, [.own (DS ds') true, .val (.list row)]) := by
  have hp : 0 < (row.length : Int) := by
    cases row with
    | nil => exact absurd rfl hr
    | cons a b => rw [List.length_cons]; omega
  obtain ⟨v, ds', h0, h1, h⟩ := r_take n ds row.length hp
  have hv : v = ((v.toNat : Nat) : Int) := (Int.toNat_of_nonneg h0).symm
  have hlt : v.toNat < row.length := by omega
  refine ⟨row[v.toNat], ds', List.getElem_mem hlt, ?_⟩
  have q : L2.atI row v = some row[v.toNat] := by
    have := atI_nat (xs := row) (i := v.toNat) (List.getElem?_eq_getElem hlt)
    rw [← hv] at this
    exact this
  rw [K_step _ rfl rfl]; simp! only [k78__law_pick, h, q]

/-! comprehensions that draw -/
section
variable {rn : Runner} {elt : E} {t : Tg} {src : Src} {cd : Cd} {vs : List Nat} {α β σ : Type}
theorem lc_st (bs : List β) (bd : β → D) (dd : α → D) (P : β → α → Prop) (E EI : σ → Env) {env : Env} {s1 : σ} (hg : evSrc rn src env = .ok (bs.map bd, none, E s1)) (hw : wipeE (E s1) vs = some (EI s1)) (hb : ∀ s s', backE (E s) vs (EI s') = E s')
    (ht : ∀ b ∈ bs, ∀ s, ∃ a s', P b a ∧ lcTurn (fun e => evC rn cd e) (fun e => asV (ev rn elt e)) t vs (bd b) (EI s) = .ok (some (dd a), EI s')) :
    ∃ (as : List α) (s' : σ), as.length = bs.length ∧ (∀ (i : Nat) (b : β), bs[i]? = some b → ∃ a, as[i]? = some a ∧ P b a) ∧ evN rn (.lc elt t src cd vs) env = .ok (.lst (as.map dd), E s') := by
  have key : ∀ (bs : List β) (s : σ) (acc : List D), (∀ b ∈ bs, ∀ s, ∃ a s', P b a ∧ lcTurn (fun e => evC rn cd e) (fun e => asV (ev rn elt e)) t vs (bd b) (EI s) = .ok (some (dd a), EI s')) →
      ∃ (as : List α) (s' : σ), as.length = bs.length ∧ (∀ (i : Nat) (b : β), bs[i]? = some b → ∃ a, as[i]? = some a ∧ P b a) ∧ lcGo (lcTurn (fun e => evC rn cd e) (fun e => asV (ev rn elt e)) t vs) (bs.map bd) acc (EI s) = .ok (acc ++ as.map dd, EI s') := by
    intro bs
    induction bs with
    | nil => exact fun s acc _ => ⟨[], s, rfl, by simp, by simp [lcGo]⟩
    | cons b bs ih =>
      intro s acc h
      obtain ⟨a, s', hp, h1⟩ := h b List.mem_cons_self s
      obtain ⟨as, s2, h2, h3, h4⟩ := ih s' (acc ++ [dd a]) fun x hx => h x (List.mem_cons_of_mem _ hx)
      refine ⟨a :: as, s2, by simp [h2], fun i x hx => ?_, ?_⟩
      · cases i with
        | zero =>
          simp only [List.getElem?_cons_zero,
                                  Option.some.injEq] at hx
          subst hx
          exact ⟨a, by simp, hp⟩
        | succ i =>
          rw [List.getElem?_cons_succ] at hx ⊢
          exact h3 i x hx
      · rw [List.map_cons]
        unfold lcGo
        simp only [h1, ok_bind, h4, List.map_cons, List.append_assoc, List.singleton_append]
  obtain ⟨as, s', h1, h2, h3⟩ := key bs s1 [] ht
  refine ⟨as, s', h1, h2, ?_⟩
  rw [evN]
  unfold lcE
  simp only [hg, ok_bind, lend, hw, of_some, h3, unlend, hb, List.nil_append]
theorem all_of {P : β → α → Prop} {bs : List β} {as : List α} (hl : as.length = bs.length) (h : ∀ (i : Nat) (b : β), bs[i]? = some b → ∃ a, as[i]? = some a ∧ P b a) : ∀ a ∈ as, ∃ b ∈ bs, P b a := by
  intro a ha
  obtain ⟨i, hi, rfl⟩ := List.getElem_of_mem ha
  have hb : bs[i]? = some (bs[i]'(by omega)) := List.getElem?_eq_getElem (by omega)
  obtain ⟨x, hx, hp⟩ := h i _ hb
  rw [List.getElem?_eq_getElem hi] at hx
  cases hx
  exact ⟨_, List.getElem_mem _, hp⟩
/-- .. that leave some out -/
theorem lc_sto (bs : List β) (bd : β → D) (dd : α → D) (P : β → α → Prop) (E EI : σ → Env) {env : Env} {s1 : σ} (hg : evSrc rn src env = .ok (bs.map bd, none, E s1)) (hw : wipeE (E s1) vs = some (EI s1)) (hb : ∀ s s', backE (E s) vs (EI s') = E s')
    (ht : ∀ b ∈ bs, ∀ s, ∃ a s', (∀ x, a = some x → P b x) ∧ lcTurn (fun e => evC rn cd e) (fun e => asV (ev rn elt e)) t vs (bd b) (EI s) = .ok (a.map dd, EI s')) :
    ∃ (as : List α) (s' : σ), as.length ≤ bs.length ∧ (∀ a ∈ as, ∃ b ∈ bs, P b a) ∧ evN rn (.lc elt t src cd vs) env = .ok (.lst (as.map dd), E s') := by
  have key : ∀ (bs : List β) (s : σ) (acc : List D), (∀ b ∈ bs, ∀ s, ∃ a s', (∀ x, a = some x → P b x) ∧ lcTurn (fun e => evC rn cd e) (fun e => asV (ev rn elt e)) t vs (bd b) (EI s) = .ok (a.map dd, EI s')) →
      ∃ (as : List α) (s' : σ), as.length ≤ bs.length ∧ (∀ a ∈ as, ∃ b ∈ bs, P b a) ∧ lcGo (lcTurn (fun e => evC rn cd e) (fun e => asV (ev rn elt e)) t vs) (bs.map bd) acc (EI s) = .ok (acc ++ as.map dd, EI s') := by
    intro bs
    induction bs with
    | nil => exact fun s acc _ => ⟨[], s, Nat.le_refl _, by simp, by simp [lcGo]⟩
    | cons b bs ih =>
      intro s acc h
      obtain ⟨a, s', hp, h1⟩ := h b List.mem_cons_self s
      cases a with
      | none =>
        obtain ⟨as, s2, h2, h3, h4⟩ := ih s' acc fun x hx => h x (List.mem_cons_of_mem _ hx)
        refine ⟨as, s2, by simp; omega, fun x hx => ?_, ?_⟩
        · obtain ⟨c, hc, hpc⟩ := h3 x hx
          exact ⟨c, List.mem_cons_of_mem _ hc, hpc⟩
        · rw [List.map_cons]
          unfold lcGo
          simp only [h1, ok_bind, Option.map_none, h4]
      | some a =>
        obtain ⟨as, s2, h2, h3, h4⟩ := ih s' (acc ++ [dd a]) fun x hx => h x (List.mem_cons_of_mem _ hx)
        refine ⟨a :: as, s2, by simp; omega, fun x hx => ?_, ?_⟩
        · rcases List.mem_cons.mp hx with rfl | hx
          · exact ⟨b, List.mem_cons_self, hp _ rfl⟩
          · obtain ⟨c, hc, hpc⟩ := h3 x hx
            exact ⟨c, List.mem_cons_of_mem _ hc, hpc⟩
        · rw [List.map_cons]
          unfold lcGo
          simp only [h1, ok_bind, Option.map_some, h4, List.map_cons, List.append_assoc, List.singleton_append]
  obtain ⟨as, s', h1, h2, h3⟩ := key bs s1 [] ht
  refine ⟨as, s', h1, h2, ?_⟩
  rw [evN]
  unfold lcE
  simp only [hg, ok_bind, lend, hw, of_some, h3, unlend, hb, List.nil_append]
end
theorem q_pow {i j : Int} : bop .pow (.int i) (.int j) = if 0 ≤ i ∧ i ≤ 10 ∧ 0 ≤ j ∧ j ≤ 60 then some (.int (i ^ j.toNat)) else none := rfl
theorem q_fdiv {i j : Int} : bop .fdiv (.int i) (.int j) = if 0 < j ∧ j.natAbs.log2 < 9000 then some (.int (i / j)) else none := rfl
theorem pow18 : bop .pow (.int 10) (.int 18) = some (.int 1000000000000000000) := by
  rw [q_pow, if_pos (by decide)]; rfl
theorem fdiv1000 {i : Int} : bop .fdiv (.int i) (.int 1000) = some (.int (i / 1000)) := by
  rw [q_fdiv, if_pos (by refine ⟨by omega, ?_⟩; decide +kernel)]
theorem r_draws (n : Nat) (ns : List Int) (hl : ns.length ≤ 63) (hb : ∀ z ∈ ns, Builtin.Int.intBits z ≤ 1048576) :
    ∃ ds : List Int, K (n + 1) 12 [.scr ns, .val (.int 900)] = .ok (.own (DS ds), [.scr ns, .val (.int 900)]) := by
  have sz := szL
  obtain ⟨C, hC0, hCl, hCb, hC⟩ : ∃ C : List Int, C ≠ [] ∧ C.length ≤ 64 ∧ (∀ z ∈ C, Builtin.Int.intBits z ≤ 1048576) ∧ C = if ns = [] then [0] else ns := by
    refine ⟨if ns = [] then [0] else ns, ?_, ?_, ?_, rfl⟩
    · split
      · simp
      · assumption
    · split
      · simp
      · omega
    · split
      · intro z hz
        rw [List.mem_singleton] at hz
        subst hz
        decide
      · exact hb
  have hpos : 0 < C.length := List.length_pos_iff.mpr hC0
  have hs1 : evN (K n) (.lc (.un .toInt (.var 8)) (.nm 8) (.scr 0) .no [8]) [.scr ns, .val (.int 900), .no, .no, .no, .no, .no, .no, .no] = .ok (.lst (ns.map .int), [.scr ns, .val (.int 900), .no, .no, .no, .no, .no, .no, .no]) := by
    rw [lc_all (as := ns) (l := none) (dd := .int) (f := .int) (envI := [.scr ns, .val (.int 900), .no, .no, .no, .no, .no, .no, .no]) (by simp! only []) (by simp! only []) (by
      intro a ha
      simp! only [lcTurn])]
  obtain ⟨e, ⟨L, ds, x5, x6, x7, hLl, hdl, h5, h6, h7, rfl⟩, h⟩ := fr_ind (rn := K n) (src := .rng (.var 1)) (tg := .nm 5) (l := none)
    (env := [.scr ns, .val (.int 900), .own (.lst (C.map .int)) false, .own (.lst (C.map .int)) false, .own (.lst []) false, .no, .no, .no, .no])
    (env1 := [.scr ns, .val (.int 900), .own (.lst (C.map .int)) false, .own (.lst (C.map .int)) false, .own (.lst []) false, .no, .no, .no, .no])
    (body := (.cons (.asg (.nm 6) (.bin .mod (.var 5) (.un .len (.bor 2))))
  (.cons (.ife (.and (.bin .ge (.bin .idx (.bor 2) (.var 6)) (.bin .pow (.int 10) (.int 18))) (.bin .gt (.bin .idx (.bor 3) (.var 6)) (.int 0))) (.cons (.app 4 (.bin .mod (.un .toInt (.bin .idx (.bor 3) (.var 6))) (.int 1000)))
  (.cons (.setIx 3 (.var 6) (.bin .fdiv (.bin .idx (.bor 3) (.var 6)) (.int 1000)))
  .nil)) (.cons (.asg (.nm 7) (.bin .mod (.un .toInt (.bin .add (.bin .add (.bin .mul (.bin .idx (.bor 2) (.var 6)) (.int 48271)) (.bin .mul (.var 5) (.int 69621))) (.int 11))) (.int 2147483647)))
  (.cons (.app 4 (.bin .mod (.un .toInt (.bin .add (.bin .add (.bin .mul (.var 7) (.var 7)) (.bin .mul (.int 3) (.var 7))) (.var 5))) (.int 1000003)))
  .nil)))
  .nil))) ((List.range 900).attachWith (fun k => k ∈ List.range 900) fun _ h => h) (fun k => nd k.1)
    (fun rest e => ∃ (L ds : List Int) (x5 x6 x7 : Sl), L.length = C.length ∧ ds.length + rest.length ≤ 900 ∧ FreeS x5 ∧ FreeS x6 ∧ FreeS x7 ∧ e = [.scr ns, .val (.int 900), .own (.lst (C.map .int)) false, .own (.lst (L.map .int)) false, .own (DS ds) false, x5, x6, x7, .no])
    (by
      rw [att_map (f := nd)]
      exact rng_src (n := 900) (by simp! only []; rfl) (by omega))
    ⟨C, [], .no, .no, .no, rfl, by simp, .no, .no, .no, rfl⟩
    (by
      rintro ⟨k, hk⟩ rest e ⟨L, ds, x5, x6, x7, hLl, hdl, h5, h6, h7, rfl⟩
      have hk' : k < 900 := List.mem_range.mp hk
      rw [List.length_cons] at hdl
      have hpl : k % C.length < C.length := Nat.mod_lt _ hpos
      have hmod : (k : Int) % (C.length : Int) = ((k % C.length : Nat) : Int) := (Int.natCast_emod _ _).symm
      have qC : L2.atI (C.map PyData.int) ((k % C.length : Nat) : Int) = some (.int C[k % C.length]) := atI_nat (by simp [hpl])
      have qL : L2.atI (L.map PyData.int) ((k % C.length : Nat) : Int) = some (.int (L[k % C.length]'(by omega))) := atI_nat (by simp [hLl, hpl])
      have hp2 : (0 : Int) < (C.length : Int) := by omega
      have hdl2 : ds.length < sizeLine := by omega
      have cb := hCb _ (List.getElem_mem hpl)
      by_cases c : (1000000000000000000 ≤ C[k % C.length]) ∧ 0 < (L[k % C.length]'(by omega))
      · refine ⟨[.scr ns, .val (.int 900), .own (.lst (C.map .int)) false, .own (.lst (L.map .int)) false, .own (DS ds) false, .val (nd k), x6, x7, .no], [.scr ns, .val (.int 900), .own (.lst (C.map .int)) false, .own (.lst ((L.set (k % C.length) ((L[k % C.length]'(by omega)) / 1000)).map .int)) false, .own (DS (ds ++ [(L[k % C.length]'(by omega)) % 1000])) false, .val (nd k), .val (nd (k % C.length)), x7, .no], ?_, ?_, L.set (k % C.length) ((L[k % C.length]'(by omega)) / 1000), ds ++ [(L[k % C.length]'(by omega)) % 1000], .val (nd k), .val (nd (k % C.length)), x7, by simp [hLl], by simp; omega, .val, .val, h7, rfl⟩
        · rcases h5 with rfl | ⟨d, rfl⟩ <;> simp! only []
        · have hset : (0 : Int) ≤ ((k % C.length : Nat) : Int) ∧ ((k % C.length : Nat) : Int) < (L.length : Int) := by omega
          have t1 : (0 : Int) < 1000 := by omega
          rcases h6 with rfl | ⟨d, rfl⟩ <;> simp! only [hp2, hmod, qC, qL, pow18, c.1, c.2, decide_true, fdiv1000, hdl2, hset, t1, Int.toNat_natCast, DS_app, List.map_set]
      · have t1 : (0 : Int) < 2147483647 := by omega
        have t2 : (0 : Int) < 1000003 := by omega
        have m0 := Int.emod_nonneg (C[k % C.length] * 48271 + (k : Int) * 69621 + 11) (show (2147483647 : Int) ≠ 0 by omega)
        have m1 := Int.emod_lt_of_pos (C[k % C.length] * 48271 + (k : Int) * 69621 + 11) t1
        obtain ⟨M, hM⟩ : ∃ M, M = (C[k % C.length] * 48271 + (k : Int) * 69621 + 11) % 2147483647 := ⟨_, rfl⟩
        rw [← hM] at m0 m1
        have b1 : Builtin.Int.intBits M ≤ 31 := bits_small (by omega)
        have u1 : mulOk C[k % C.length] 48271 = true := mulOk_of cb (bits_small (k := 20) (by decide)) (by omega)
        have u2 : mulOk (k : Int) 69621 = true := mulOk_of (a := 20) (b := 20) (bits_small (by omega)) (bits_small (by decide)) (by omega)
        have u3 : mulOk M M = true := mulOk_of b1 b1 (by omega)
        have u4 : mulOk 3 M = true := mulOk_of (a := 2) (bits_small (by decide)) b1 (by omega)
        refine ⟨[.scr ns, .val (.int 900), .own (.lst (C.map .int)) false, .own (.lst (L.map .int)) false, .own (DS ds) false, .val (nd k), x6, x7, .no], [.scr ns, .val (.int 900), .own (.lst (C.map .int)) false, .own (.lst (L.map .int)) false, .own (DS (ds ++ [(M * M + 3 * M + (k : Int)) % 1000003])) false, .val (nd k), .val (nd (k % C.length)), .val (.int M), .no], ?_, ?_, L, ds ++ [(M * M + 3 * M + (k : Int)) % 1000003], .val (nd k), .val (nd (k % C.length)), .val (.int M), hLl, by simp; omega, .val, .val, .val, rfl⟩
        · rcases h5 with rfl | ⟨d, rfl⟩ <;> simp! only []
        · by_cases c1 : (1000000000000000000 ≤ C[k % C.length])
          · have c2 : ¬ 0 < (L[k % C.length]'(by omega)) := fun z => c ⟨c1, z⟩
            rcases h6 with rfl | ⟨d, rfl⟩ <;> rcases h7 with rfl | ⟨d, rfl⟩ <;> simp! only [hp2, hmod, qC, qL, pow18, c1, c2, decide_true, decide_false, u1, u2, t1, ← hM, u3, u4, t2, hdl2, DS_app]
          · rcases h6 with rfl | ⟨d, rfl⟩ <;> rcases h7 with rfl | ⟨d, rfl⟩ <;> simp! only [hp2, hmod, qC, qL, pow18, c1, decide_true, decide_false, u1, u2, t1, ← hM, u3, u4, t2, hdl2, DS_app])
  refine ⟨ds.reverse, ?_⟩
  by_cases c : ns = []
  · subst c
    rw [if_pos rfl] at hC
    subst hC
    have q : 0 < sizeLine := by omega
    rw [K_step _ rfl rfl]; simp! only [k78__law_draws, hs1, List.map_nil, shI, eqvI, Int.natCast_zero, decide_true, q]
    have h' := h
    rw [List.map_cons, List.map_nil] at h'
    rw [h']
    simp! only [DS_rev]
  · rw [if_neg c] at hC
    subst hC
    have q : ¬ ((C.length : Int) = 0) := by omega
    rw [K_step _ rfl rfl]; simp! only [k78__law_draws, hs1, shI, eqvI, q, decide_false]
    rw [h]
    simp! only [DS_rev]
end VE
/-! VP13: words, values, places, facts, ties -/
namespace VE
local macro_rules | `(tactic| simp! only [$ts,*]) => `(tactic| simp only [q_ev_int, q_ev_str, q_ev_bl, q_ev_non, q_ev_var, q_ev_bor, q_ev_tup, q_ev_nw, q_ev_un, q_ev_bin, q_ev_and, q_ev_or, q_ev_ite, q_ev_sl, q_ev_slf, q_ev_call, q_ev_pop, q_evs_nil, q_evs_cons, q_evA_nil, q_evA_v, q_evA_io, q_evA_sc, q_evN_lst, q_evN_toL, q_evN_vals, q_evN_keysL, q_evN_cat, q_evN_dnew, q_evN_srt, q_evN_srtk, q_evN_call, q_evSrc_seq, q_evSrc_scr, q_evSrc_rng, q_evSrc_rng2, q_evSrc_enum, q_evC_no, q_evC_on, q_ex_asg, q_ex_own, q_ex_aug, q_ex_setIx, q_ex_app, q_ex_rev, q_ex_sdapp, q_ex_ife, q_ex_ret, q_ex_retO, q_ex_exp, q_ex_frz, q_ex_pass, q_ex_brk, q_ex_cnt, q_exs_nil, q_exs_cons, u_len_l, u_len_t, u_len_s, u_toInt, u_tup_l, u_tup_t, u_isInt_int, u_isInt_bool, u_isInt_str, u_isInt_tuple, u_isInt_list, u_isInt_none, u_isStr_int, u_isStr_bool, u_isStr_str, u_isStr_tuple, u_isStr_list, u_isStr_none, u_isTup_int, u_isTup_bool, u_isTup_str, u_isTup_tuple, u_isTup_list, u_isTup_none, u_isBool_int, u_isBool_bool, u_isBool_str, u_isBool_tuple, u_isBool_list, u_isBool_none, u_isList_int, u_isList_bool, u_isList_str, u_isList_tuple, u_isList_list, u_isList_none, u_isSeq_int, u_isSeq_bool, u_isSeq_str, u_isSeq_tuple, u_isSeq_list, u_isSeq_none, u_isNon_int, u_isNon_bool, u_isNon_str, u_isNon_tuple, u_isNon_list, u_isNon_none, u_notNon_int, u_notNon_bool, u_notNon_str, u_notNon_tuple, u_notNon_list, u_notNon_none, u_not, u_neg, u_isTru, u_notTru, u_maxL, b_add_i, b_add_s, b_add_l, b_add_t, b_sub, b_mul, b_mod, b_lt, b_le, b_gt, b_ge, b_idx_l, b_idx_t, b_eq, b_ne, b_in, b_nin, shI, shB, eqvI, eqvB, asV, asT, getV, setV, setO, opV, deref, itemsOf, itemsL, lend, unlend, wipeE, backE, mkArgs, ios, putOuts, runCall, outsOf, out1, fin, setT, setAll, bnd, isOL, isOD, ↓bind_bdk, okbk, ofs, Ret.fr, O.fr, n1, seqD, List.length_cons, List.length_nil, List.length_replicate, List.replicate, List.cons_append, List.nil_append, List.append_nil, List.set, List.getElem?_cons_zero, List.getElem?_cons_succ, List.getElem?_nil, List.nodup_nil, List.nodup_cons, List.not_mem_nil, not_false_eq_true, and_self, true_and, and_true, if_true, if_false, Bool.false_eq_true, ↓reduceIte, reduceCtorEq, Nat.reduceAdd, Nat.reduceSub, Nat.reduceEqDiff, Nat.zero_add, Option.bind_some, Option.bind_none, Option.map_some, sz0, sz1, sz2, sz3, sz4, sz5, sz6, sz7, Bool.and_self, Bool.and_false, Bool.false_and, Bool.and_true, Bool.true_and, Bool.not_true, Bool.not_false, List.length_map, at0, at1, at2, at3, endR_nx, endR_rt, $ts,*])
open PySem PySem.W
                        PyProof.Rows

/-! words -/
theorem strOk_iff {x : Str} : PyData.strOk x = true ↔ ∀ c ∈ x.cps.toList, c < 0x110000 := by
  unfold PyData.strOk
  rw [Array.all_eq_true']
  simp
theorem join_ok {ys : List Str} (h : ∀ y ∈ ys, y.length = 1 ∧ PyData.strOk y = true) : PyData.strOk (PySem.Txt.join ("" : Str) ys) = true ∧ (PySem.Txt.join ("" : Str) ys).length ≤ ys.length := by
  have e : PySem.Txt.join ("" : Str) ys = Str.join ("" : Str) ys := StrLaws.glued_eq_join _ _
  rw [e]
  have e0 : ("" : Str).cps.toList = [] := by decide +kernel
  constructor
  · rw [strOk_iff]
    intro c hc
    rcases (mem_join _ c ys).mp hc with ⟨t, ht, hct⟩ | ⟨_, h2⟩
    · exact strOk_iff.mp (h t ht).2 c hct
    · rw [e0] at h2; cases h2
  · have h1 := StrLaws.join_length_le ("" : Str) ys
    have h2 : (ys.map fun y : Str => y.length).sum ≤ ys.length := by
      clear h1 e
      induction ys with
      | nil => simp
      | cons y ys ih =>
        have := ih fun z hz => h z (List.mem_cons_of_mem _ hz)
        have := (h y List.mem_cons_self).1
        simp only [List.map_cons,
                                List.sum_cons, List.length_cons]
        omega
    have h3 : ("" : Str).length = 0 := by decide +kernel
    rw [h3, Nat.mul_zero] at h1
    omega
theorem strsOf_map : ∀ ys : List Str, strsOf (ys.map PyData.str) = some ys
  | [] => rfl
  | y :: ys => by
    rw [List.map_cons, strsOf, strsOf_map ys]
    rfl
theorem sum_one : ∀ {ys : List Str}, (∀ y ∈ ys, y.length = 1) → (ys.map fun y : Str => y.length).sum = ys.length
  | [], _ => by simp
  | y :: ys, h => by
    rw [List.map_cons, List.sum_cons, sum_one fun z hz => h z (List.mem_cons_of_mem _ hz), h y List.mem_cons_self, List.length_cons]
    omega
abbrev abc : Str := ("abcdefghijklmnopqrstuvwxyz" : Str)
theorem abc_len : abc.length = 26 := by decide +kernel
theorem abc_ok : PyData.strOk abc = true := by decide +kernel
theorem b_idx_s {x : Str} {i : Int} : bop .idx (.str x) (.int i) = if x.length ≤ sizeLine then (L2.atI x.cps.toList i).map fun c => .str ⟨#[c]⟩ else none := rfl
theorem abc_at {v : Int} (h0 : 0 ≤ v) (h1 : v < 26) : ∃ y : Str, y.length = 1 ∧ PyData.strOk y = true ∧ bop .idx (.str abc) (.int v) = some (.str y) := by
  have hl := abc_len
  have hlt : v.toNat < abc.cps.toList.length := by
    rw [Array.length_toList]
    show v.toNat < abc.length
    omega
  refine ⟨⟨#[abc.cps.toList[v.toNat]]⟩, rfl, ?_, ?_⟩
  · rw [strOk_iff]
    intro c hc
    simp at hc
    subst hc
    have := strOk_iff.mp abc_ok _ (List.getElem_mem hlt)
    simpa using this
  · have e := atI_nat (xs := abc.cps.toList) (i := v.toNat) (List.getElem?_eq_getElem hlt)
    rw [Int.toNat_of_nonneg
                            h0] at e
    rw [b_idx_s, if_pos (by rw [hl, szL]; omega), e]
    rfl
theorem b_join {x : Str} {ys : List Str} (h : (ys.map fun y : Str => y.length).sum + ys.length * x.length ≤ 16777216) : bop .join (.str x) (.list (ys.map .str)) = some (.str (PySem.Txt.join x ys)) := by
  show (match strsOf (ys.map .str) with | some ys => if (ys.map fun y : Str => y.length).sum + ys.length * x.length ≤ 16777216 then some (PyData.str (PySem.Txt.join x ys)) else none | none => none) = _
  rw [strsOf_map]
  exact if_pos h
theorem sw_shp (W : List SW) : SeqAt.shaped (.list (W.map fun w => .str w.1)) = true := by
  have := depthAll_map (f := fun w : SW => PyData.str w.1) (n := 0) (fun b => by simp [PyData.depth]) W
  have h2 := canLayAll_map (f := fun w : SW => PyData.str w.1) (fun b => by simp [PyData.canLay0]; exact b.2) W
  unfold SeqAt.shaped
  rw [PyData.canLay0, h2, PyData.depth, Bool.true_and]
  exact decide_eq_true
                          (by omega)
theorem inD_sw (w : SW) (W : List SW) : inD (.str w.1) (.list (W.map fun w => .str w.1)) = some (decide (w ∈ W)) := by
  unfold inD
  simp only [shp_str, sw_shp, Bool.and_self, if_true]
  rw [List.any_map]
  have : ((fun z => PyData.eqv z (.str w.1)) ∘ fun w : SW => PyData.str w.1) = fun x : SW => decide (x = w) := by
    funext x
    exact eqv_str x w
  rw [this]
  congr 1
  rw [Bool.eq_iff_iff]
  simp
theorem intsOf_map : ∀ is : List Int, intsOf (is.map .int) = some is
  | [] => rfl
  | i :: is => by
    rw [List.map_cons, intsOf, intsOf_map is]
    rfl
theorem fmx {is : List Int} : ∀ {a : Int}, a ≤ is.foldl max a ∧ ∀ i ∈ is, i ≤ is.foldl max a := by
  induction is with
  | nil => exact ⟨by simp, by simp⟩
  | cons i is ih =>
    intro a
    rw [List.foldl_cons]
    obtain ⟨h1, h2⟩ := ih (a := max a i)
    refine ⟨by omega,
                            fun j hj => ?_⟩
    rcases List.mem_cons.mp hj with rfl | hj
    · omega
    · exact h2 j hj
theorem fmx_le {is : List Int} {b : Int} : ∀ {a : Int}, a ≤ b → (∀ i ∈ is, i ≤ b) → is.foldl max a ≤ b := by
  induction is with
  | nil => exact fun h _ => h
  | cons i is ih =>
    intro a h1 h2
    rw [List.foldl_cons]
    refine ih ?_ fun j hj => h2 j (List.mem_cons_of_mem _ hj)
    have := h2 i List.mem_cons_self
    omega
abbrev zz : Str := ("z" : Str)
theorem zz_eq : zz = ⟨#[122]⟩ := by decide +kernel
theorem mul_zz {j : Int} (h0 : 0 ≤ j) (h1 : j ≤ 1000) : ∃ w : SW, w.1.length = j.toNat ∧ bop .mul (.str zz) (.int j) = some (.str w.1) := by
  have sz := szL
  have hl : (PySem.Txt.mul zz j).cps.toList = List.replicate j.toNat 122 := by
    rw [zz_eq]
    exact mul_one_list 122 j
  refine ⟨⟨PySem.Txt.mul zz j, ?_⟩, ?_, ?_⟩
  · rw [strOk_iff, hl]
    intro c hc
    rw [List.eq_of_mem_replicate hc]
    decide
  · show (PySem.Txt.mul zz j).cps.size = _
    rw [← Array.length_toList, hl, List.length_replicate]
  · show (if 0 ≤ j ∧ j < 2 ^ 40 ∧ zz.length * j.toNat ≤ sizeLine then some (PyData.str (PySem.Txt.mul zz j)) else none) = _
    have : zz.length = 1 := by decide +kernel
    rw [if_pos ⟨h0, by omega, by rw [this]; omega⟩]
abbrev LW (W : List SW) : O := .lst (W.map fun w => .str w.1)
theorem LW_app (W : List SW) (w : SW) : LW (W ++ [w]) = .lst ((W.map fun w => .str w.1) ++ [.str w.1]) := by simp [LW]
theorem r_words (n : Nat) (ds : List Int) : ∃ (W : List SW) (ds' : List Int), W.Nodup ∧ W.length = 9 ∧ (∀ w ∈ W, w.1.length ≤ 100) ∧ K (n + 2) 16 [.own (DS ds) true, .val (.int 9)] = .ok (.val (.list (W.map fun w => .str w.1)), [.own (DS ds') true, .val (.int 9)]) := by
  have sz := szL
  have tr_ok : PyData.strOk ("true" : Str) = true := by decide +kernel
  obtain ⟨e, ⟨W, ds', x3, x4, x5, h3, h4, h5, hW, hWl, hWb, rfl⟩, h⟩ := fr_ind (rn := K (n + 1)) (src := .rng (.var 1)) (tg := .nm 3) (l := none)
    (env := [.own (DS ds) true, .val (.int 9), .own (LW []) false, .no, .no, .no, .no, .no])
    (env1 := [.own (DS ds) true, .val (.int 9), .own (LW []) false, .no, .no, .no, .no, .no])
    (body := (.cons (.asg (.nm 4) (.bin .add (.int 1) (.call 13 (.io 0 (.v (.int 3) .nil)))))
  (.cons (.ife (.bin .eq (.call 13 (.io 0 (.v (.int 9) .nil))) (.int 0)) (.cons (.asg (.nm 4) (.bin .add (.bin .add (.var 4) (.int 3)) (.call 13 (.io 0 (.v (.int 20) .nil)))))
  .nil) .nil)
  (.cons (.asg (.nm 5) (.bin .join (.str ("" : Str)) (.nw (.lc (.bin .idx (.str ("abcdefghijklmnopqrstuvwxyz" : Str)) (.call 13 (.io 0 (.v (.int 26) .nil)))) (.nm 6) (.rng (.var 4)) .no [6]))))
  (.cons (.ife (.or (.bin .isin (.var 5) (.bor 2)) (.bin .eq (.var 5) (.str ("true" : Str)))) (.cons (.asg (.nm 5) (.bin .mul (.str ("z" : Str)) (.bin .add (.int 1) (.un .maxL (.bin .add (.nw (.lst (.cons (.int 4) .nil))) (.nw (.lc (.un .len (.var 7)) (.nm 7) (.seq (.bor 2)) .no [7])))))))
  .nil) .nil)
  (.cons (.app 2 (.var 5))
  .nil)))))) ((List.range 9).attachWith (fun k => k ∈ List.range 9) fun _ h => h) (fun k => nd k.1)
    (fun rest e => ∃ (W : List SW) (ds' : List Int) (x3 x4 x5 : Sl), FreeS x3 ∧ FreeS x4 ∧ FreeS x5 ∧ W.Nodup ∧ W.length + rest.length = 9 ∧ (∀ w ∈ W, w.1.length ≤ 30 + W.length) ∧ e = [.own (DS ds') true, .val (.int 9), .own (LW W) false, x3, x4, x5, .no, .no])
    (by
      rw [att_map (f := nd)]
      exact rng_src (n := 9) (by simp! only []; rfl) (by omega))
    ⟨[], ds, .no, .no, .no, .no, .no, .no, List.nodup_nil, by simp, by simp, rfl⟩
    (by
      rintro ⟨k, hk⟩ rest e ⟨W, ds, x3, x4, x5, h3, h4, h5, hW, hWl, hWb, rfl⟩
      have hk' : k < 9 := List.mem_range.mp hk
      rw [List.length_cons] at hWl
      obtain ⟨v1, ds1, a0, a1, t1⟩ := r_take n ds 3 (by omega)
      obtain ⟨v2, ds2, b0, b1, t2⟩ := r_take n ds1 9 (by omega)
      -- the size
      have hpre : setT [.own (DS ds) true, .val (.int 9), .own (LW W) false, x3, x4, x5, .no, .no] (.nm 3) (nd k) = some [.own (DS ds) true, .val (.int 9), .own (LW W) false, .val (nd k), x4, x5, .no, .no] := by
        rcases h3 with rfl | ⟨d, rfl⟩ <;> simp! only []
      have hs1 : ex (K (n + 1)) (.asg (.nm 4) (.bin .add (.int 1) (.call 13 (.io 0 (.v (.int 3) .nil))))) [.own (DS ds) true, .val (.int 9), .own (LW W) false, .val (nd k), x4, x5, .no, .no] = .ok (.nx [.own (DS ds1) true, .val (.int 9), .own (LW W) false, .val (nd k), .val (.int (1 + v1)), x5, .no, .no]) := by
        rcases h4 with rfl | ⟨d, rfl⟩ <;> simp! only [t1]
      obtain ⟨size, ds3, s0, s1, hs2⟩ : ∃ (size : Int) (ds3 : List Int), 1 ≤ size ∧ size ≤ 30 ∧ ex (K (n + 1)) (.ife (.bin .eq (.call 13 (.io 0 (.v (.int 9) .nil))) (.int 0)) (.cons (.asg (.nm 4) (.bin .add (.bin .add (.var 4) (.int 3)) (.call 13 (.io 0 (.v (.int 20) .nil)))))
  .nil) .nil) [.own (DS ds1) true, .val (.int 9), .own (LW W) false, .val (nd k), .val (.int (1 + v1)), x5, .no, .no] = .ok (.nx [.own (DS ds3) true, .val (.int 9), .own (LW W) false, .val (nd k), .val (.int size), x5, .no, .no]) := by
        by_cases c : v2 = 0
        · subst c
          obtain ⟨v3, ds3, c0, c1, t3⟩ := r_take n ds2 20 (by omega)
          refine ⟨1 + v1 + 3 + v3, ds3, by omega, by omega, ?_⟩
          simp! only [t2, shI, eqvI, decide_true, t3]
        · refine ⟨1 + v1, ds2, by omega, by omega, ?_⟩
          simp! only [t2, shI, eqvI, c, decide_false]
      obtain ⟨ys, ds4, hyl, hyp, hlc⟩ := lc_st (rn := K (n + 1)) (elt := .bin .idx (.str ("abcdefghijklmnopqrstuvwxyz" : Str)) (.call 13 (.io 0 (.v (.int 26) .nil)))) (t := .nm 6) (src := .rng (.var 4)) (cd := .no) (vs := [6]) (List.range size.toNat) nd (.str : Str → D) (fun _ y => y.length = 1 ∧ PyData.strOk y = true)
        (fun ds : List Int => [.own (DS ds) true, .val (.int 9), .own (LW W) false, .val (nd k), .val (.int size), x5, .no, .no])
        (fun ds : List Int => [.own (DS ds) true, .val (.int 9), .own (LW W) false, .val (nd k), .val (.int size), x5, .no, .no])
        (env := [.own (DS ds3) true, .val (.int 9), .own (LW W) false, .val (nd k), .val (.int size), x5, .no, .no]) (s1 := ds3)
        (rng_src (n := size.toNat) (by simp! only []; rw [Int.toNat_of_nonneg (by omega)]) (by omega)) (by simp! only []) (by intro s s'; simp! only []) (by
          intro b hb s
          obtain ⟨v, s', c0, c1, t⟩ := r_take n s 26 (by omega)
          obtain ⟨y, y1, y2, y3⟩ := abc_at c0 c1
          refine ⟨y, s', ⟨y1, y2⟩, ?_⟩
          simp! only [lcTurn, t, y3])
      have hyp' : ∀ y ∈ ys, y.length = 1 ∧ PyData.strOk y = true := fun y hy => by
        obtain ⟨_, _, h⟩ := all_of (by rw [hyl]) hyp y hy
        exact h
      rw [List.length_range] at hyl
      obtain ⟨wOk, wLen⟩ := join_ok hyp'
      have hj : bop .join (.str ("" : Str)) (.list (ys.map .str)) = some (.str (PySem.Txt.join ("" : Str) ys)) := by
        refine b_join ?_
        have e0 : ("" : Str).length = 0 := by decide +kernel
        rw [sum_one fun y hy => (hyp' y hy).1, e0]
        omega
      obtain ⟨w0, hw0⟩ : ∃ w0 : SW, w0.1 = PySem.Txt.join ("" : Str) ys := ⟨⟨_, wOk⟩, rfl⟩
      rw [← hw0] at hj wLen
      have hin := inD_sw w0 W
      have heq : PyData.eqv (.str w0.1) (.str ("true" : Str)) = decide (w0 = ⟨("true" : Str), tr_ok⟩) := eqv_str w0 ⟨("true" : Str), tr_ok⟩
      have hst : SeqAt.shaped (.str ("true" : Str)) = true := shp_str ⟨("true" : Str), tr_ok⟩
      -- the end of the turn
      have hend : ∀ w : SW, (ex (K (n + 1)) (.app 2 (.var 5)) [.own (DS ds4) true, .val (.int 9), .own (LW W) false, .val (nd k), .val (.int size), .val (.str w.1), .no, .no]) = .ok (.nx [.own (DS ds4) true, .val (.int 9), .own (LW (W ++ [w])) false, .val (nd k), .val (.int size), .val (.str w.1), .no, .no]) := by
        intro w
        have q : W.length < sizeLine := by omega
        simp! only [q, LW_app]
      have hs3 : ex (K (n + 1)) (.asg (.nm 5) (.bin .join (.str ("" : Str)) (.nw (.lc (.bin .idx (.str ("abcdefghijklmnopqrstuvwxyz" : Str)) (.call 13 (.io 0 (.v (.int 26) .nil)))) (.nm 6) (.rng (.var 4)) .no [6])))) [.own (DS ds3) true, .val (.int 9), .own (LW W) false, .val (nd k), .val (.int size), x5, .no, .no] = .ok (.nx [.own (DS ds4) true, .val (.int 9), .own (LW W) false, .val (nd k), .val (.int size), .val (.str w0.1), .no, .no]) := by
        rcases h5 with rfl | ⟨d, rfl⟩ <;> simp! only [hlc, hj]
      obtain ⟨M, hM, hMb, hMx⟩ : ∃ M : Int, M ≤ 30 + W.length ∧ (0 ≤ M ∧ ∀ w ∈ W, (w.1.length : Int) ≤ M) ∧ uop .maxL (.list (.int 4 :: W.map fun w => .int w.1.length)) = some (.int M) := by
        refine ⟨(W.map fun w => (w.1.length : Int)).foldl max 4, ?_, ⟨?_, ?_⟩, ?_⟩
        · refine fmx_le (by omega) fun i hi => ?_
          obtain ⟨w, hw, rfl⟩ := List.mem_map.mp hi
          have := hWb w hw
          omega
        · have := (fmx (is := W.map fun w => (w.1.length : Int)) (a := 4)).1
          omega
        · intro w hw
          exact (fmx (is := W.map fun w => (w.1.length : Int)) (a := 4)).2 _ (List.mem_map.mpr ⟨w, hw, rfl⟩)
        · rw [u_maxL]
          have e : (PyData.int 4 :: W.map fun w => PyData.int w.1.length) = ((4 : Int) :: W.map fun w => (w.1.length : Int)).map PyData.int := by
            rw [List.map_cons, List.map_map]; rfl
          rw [e, intsOf_map]
          rfl
      obtain ⟨zw, hzl, hzm⟩ := mul_zz (j := 1 + M) (by omega) (by omega)
      have hzW : zw ∉ W := fun h => by
        have := hMb.2 zw h
        omega
      have hlen : evN (K (n + 1)) (.lc (.un .len (.var 7)) (.nm 7) (.seq (.bor 2)) .no [7]) [.own (DS ds4) true, .val (.int 9), .own (LW W) false, .val (nd k), .val (.int size), .val (.str w0.1), .no, .no] = .ok (.lst (W.map fun w => .int w.1.length), [.own (DS ds4) true, .val (.int 9), .own (LW W) false, .val (nd k), .val (.int size), .val (.str w0.1), .no, .no]) := by
        rw [lc_all (as := W) (l := some 2) (dd := fun w => .str w.1) (f := fun w => .int w.1.length) (envI := [.own (DS ds4) true, .val (.int 9), .lent (W.map fun w => .str w.1), .val (nd k), .val (.int size), .val (.str w0.1), .no, .no]) (by simp! only []) (by simp! only []) (by
          intro w hw
          have q : w.1.length ≤ sizeLine := by have := hWb w hw; omega
          simp! only [lcTurn, q])]
      have hadd : 1 + W.length ≤ sizeLine := by omega
      obtain ⟨w, hwn, hwl, hs4⟩ : ∃ w : SW, w ∉ W ∧ w.1.length ≤ 30 + (W.length + 1) ∧ ex (K (n + 1)) (.ife (.or (.bin .isin (.var 5) (.bor 2)) (.bin .eq (.var 5) (.str ("true" : Str)))) (.cons (.asg (.nm 5) (.bin .mul (.str ("z" : Str)) (.bin .add (.int 1) (.un .maxL (.bin .add (.nw (.lst (.cons (.int 4) .nil))) (.nw (.lc (.un .len (.var 7)) (.nm 7) (.seq (.bor 2)) .no [7])))))))
  .nil) .nil) [.own (DS ds4) true, .val (.int 9), .own (LW W) false, .val (nd k), .val (.int size), .val (.str w0.1), .no, .no] = .ok (.nx [.own (DS ds4) true, .val (.int 9), .own (LW W) false, .val (nd k), .val (.int size), .val (.str w.1), .no, .no]) := by
        by_cases c1 : w0 ∈ W
        · refine ⟨zw, hzW, by omega, ?_⟩
          simp! only [hin, c1, decide_true, hlen, hadd, hMx, hzm]
        · by_cases c2 : w0 = ⟨("true" : Str), tr_ok⟩
          · refine ⟨zw, hzW, by omega, ?_⟩
            have c2' : decide (w0 = ⟨("true" : Str), tr_ok⟩) = true := decide_eq_true c2
            simp! only [hin, c1, decide_false, shp_str, hst, heq, c2', hlen, hadd, hMx, hzm]
          · refine ⟨w0, c1, by omega, ?_⟩
            simp! only [hin, c1, decide_false, shp_str, hst, heq, c2]
      have hs5 := hend w
      refine ⟨_, [.own (DS ds4) true, .val (.int 9), .own (LW (W ++ [w])) false, .val (nd k), .val (.int size), .val (.str w.1), .no, .no], hpre, ?_, W ++ [w], ds4, _, _, _, .val, .val, .val, ?_, ?_, ?_, rfl⟩
      · simp only [q_exs_cons, q_exs_nil, ↓bind_bdk, okbk, hs1, hs2, hs3, hs4, hs5]
      · rw [List.nodup_append]
        exact ⟨hW, List.pairwise_singleton _ _, fun x hx y hy e => hwn (by rw [List.mem_singleton] at hy; rw [← hy, ← e]; exact hx)⟩
      · rw [List.length_append,
                              List.length_singleton]; omega
      · intro u hu
        rw [List.length_append,
                                List.length_singleton]
        rcases List.mem_append.mp
                                hu with hu | hu
        · have := hWb u hu; omega
        · rw [List.mem_singleton] at hu; subst hu; exact hwl)
  refine ⟨W, ds', hW, by simpa using hWl, fun w hw => by have := hWb w hw; simp at hWl; omega, ?_⟩
  rw [K_step _ rfl rfl]; simp! only [k78__law_words]
  have h' := h
  rw [show LW [] = O.lst [] from rfl] at h'
  rw [h']
  simp! only []
end VE
/-! VP14: values, places, facts, ties -/
namespace VE
local macro_rules | `(tactic| simp! only [$ts,*]) => `(tactic| simp only [q_ev_int, q_ev_str, q_ev_bl, q_ev_non, q_ev_var, q_ev_bor, q_ev_tup, q_ev_nw, q_ev_un, q_ev_bin, q_ev_and, q_ev_or, q_ev_ite, q_ev_sl, q_ev_slf, q_ev_call, q_ev_pop, q_evs_nil, q_evs_cons, q_evA_nil, q_evA_v, q_evA_io, q_evA_sc, q_evN_lst, q_evN_toL, q_evN_vals, q_evN_keysL, q_evN_cat, q_evN_dnew, q_evN_srt, q_evN_srtk, q_evN_call, q_evSrc_seq, q_evSrc_scr, q_evSrc_rng, q_evSrc_rng2, q_evSrc_enum, q_evC_no, q_evC_on, q_ex_asg, q_ex_own, q_ex_aug, q_ex_setIx, q_ex_app, q_ex_rev, q_ex_sdapp, q_ex_ife, q_ex_ret, q_ex_retO, q_ex_exp, q_ex_frz, q_ex_pass, q_ex_brk, q_ex_cnt, q_exs_nil, q_exs_cons, u_len_l, u_len_t, u_len_s, u_toInt, u_tup_l, u_tup_t, u_isInt_int, u_isInt_bool, u_isInt_str, u_isInt_tuple, u_isInt_list, u_isInt_none, u_isStr_int, u_isStr_bool, u_isStr_str, u_isStr_tuple, u_isStr_list, u_isStr_none, u_isTup_int, u_isTup_bool, u_isTup_str, u_isTup_tuple, u_isTup_list, u_isTup_none, u_isBool_int, u_isBool_bool, u_isBool_str, u_isBool_tuple, u_isBool_list, u_isBool_none, u_isList_int, u_isList_bool, u_isList_str, u_isList_tuple, u_isList_list, u_isList_none, u_isSeq_int, u_isSeq_bool, u_isSeq_str, u_isSeq_tuple, u_isSeq_list, u_isSeq_none, u_isNon_int, u_isNon_bool, u_isNon_str, u_isNon_tuple, u_isNon_list, u_isNon_none, u_notNon_int, u_notNon_bool, u_notNon_str, u_notNon_tuple, u_notNon_list, u_notNon_none, u_not, u_neg, u_isTru, u_notTru, u_maxL, b_add_i, b_add_s, b_add_l, b_add_t, b_sub, b_mul, b_mod, b_lt, b_le, b_gt, b_ge, b_idx_l, b_idx_t, b_eq, b_ne, b_in, b_nin, shI, shB, eqvI, eqvB, asV, asT, getV, setV, setO, opV, deref, itemsOf, itemsL, lend, unlend, wipeE, backE, mkArgs, ios, putOuts, runCall, outsOf, out1, fin, setT, setAll, bnd, isOL, isOD, ↓bind_bdk, okbk, ofs, Ret.fr, O.fr, n1, seqD, List.length_cons, List.length_nil, List.length_replicate, List.replicate, List.cons_append, List.nil_append, List.append_nil, List.set, List.getElem?_cons_zero, List.getElem?_cons_succ, List.getElem?_nil, List.nodup_nil, List.nodup_cons, List.not_mem_nil, not_false_eq_true, and_self, true_and, and_true, if_true, if_false, Bool.false_eq_true, ↓reduceIte, reduceCtorEq, Nat.reduceAdd, Nat.reduceSub, Nat.reduceEqDiff, Nat.zero_add, Option.bind_some, Option.bind_none, Option.map_some, sz0, sz1, sz2, sz3, sz4, sz5, sz6, sz7, Bool.and_self, Bool.and_false, Bool.false_and, Bool.and_true, Bool.true_and, Bool.not_true, Bool.not_false, List.length_map, at0, at1, at2, at3, endR_nx, endR_rt, $ts,*])
open PySem PySem.W
                        PyProof.Rows

structure Place where
  name : SW
  ar : Nat
def Place.d (p : Place) : D := .tuple [.str p.name.1, nd p.ar]
theorem pd0 (p : Place) : bop .idx p.d (.int 0) = some (.str p.name.1) := at0
theorem pd1 (p : Place) : bop .idx p.d (.int 1) = some (nd p.ar) := at1
theorem q_pow15 : bop .pow (.int 10) (.int 15) = some (.int 1000000000000000) := by rw [q_pow, if_pos (by decide)]; rfl
theorem q_pow40 : bop .pow (.int 10) (.int 40) = some (.int 10000000000000000000000000000000000000000) := by rw [q_pow, if_pos (by decide)]; rfl
theorem r_values (n : Nat) (ds : List Int) (W : List SW) (hW : W.length = 9) : ∃ (vs : List Cell) (ds' : List Int), vs.length = 3 ∧ K (n + 3) 21 [.own (DS ds) true, .val (.list (W.map fun w => .str w.1))] = .ok (.val (.list (vs.map Cell.d)), [.own (DS ds') true, .val (.list (W.map fun w => .str w.1))]) := by
  have sz := szL
  obtain ⟨v1, ds1, a0, a1, t1⟩ := r_take (n + 1) ds 9 (by omega)
  obtain ⟨v2, ds2, b0, b1, t2⟩ := r_take (n + 1) ds1 8 (by omega)
  have hw0 : L2.atI (W.map fun w => (.str w.1 : D)) 0 = some (.str W[0].1) := atI_nat (i := 0) (by simp [hW])
  have hw1 : L2.atI (W.map fun w => (.str w.1 : D)) 1 = some (.str W[1].1) := atI_nat (i := 1) (by simp [hW])
  have hs1 : ex (K (n + 2)) (.asg (.nm 2) (.bin .sub (.call 13 (.io 0 (.v (.int 9) .nil))) (.int 3))) [.own (DS ds) true, .val (.list (W.map fun w => .str w.1)), .no] = .ok (.nx [.own (DS ds1) true, .val (.list (W.map fun w => .str w.1)), .val (.int (v1 - 3))]) := by
    simp! only [t1]
  obtain ⟨m, ds3, hs2⟩ : ∃ (m : Int) (ds3 : List Int), ex (K (n + 2)) (.ife (.bin .eq (.call 13 (.io 0 (.v (.int 8) .nil))) (.int 0)) (.cons (.asg (.nm 2) (.bin .mul (.var 2) (.call 14 (.io 0 (.v (.nw (.lst (.cons (.int 1000003) (.cons (.bin .add (.bin .pow (.int 10) (.int 15)) (.int 37)) (.cons (.bin .add (.bin .pow (.int 10) (.int 40)) (.int 121)) .nil))))) .nil)))))
  .nil) .nil) [.own (DS ds1) true, .val (.list (W.map fun w => .str w.1)), .val (.int (v1 - 3))] = .ok (.nx [.own (DS ds3) true, .val (.list (W.map fun w => .str w.1)), .val (.int m)]) := by
    by_cases c : v2 = 0
    · subst c
      obtain ⟨d, ds3, hd, p3⟩ := r_pick n ds2 [.int 1000003, .int (1000000000000000 + 37), .int (10000000000000000000000000000000000000000 + 121)] (by simp) (by rw [szL]; simp)
      obtain ⟨j, rfl, hj⟩ : ∃ j : Int, d = .int j ∧ Builtin.Int.intBits j ≤ 140 := by
        simp only [List.mem_cons, List.not_mem_nil, or_false] at hd
        rcases hd with rfl | rfl | rfl
        · exact ⟨_, rfl, bits_small (by decide)⟩
        · exact ⟨_, rfl, bits_small (by decide)⟩
        · exact ⟨_, rfl, bits_small (by decide)⟩
      have hm : mulOk (v1 - 3) j = true := mulOk_of (a := 10) (bits_small (by omega)) hj (by omega)
      refine ⟨(v1 - 3) * j, ds3, ?_⟩
      simp! only [t2, shI, eqvI, decide_true, q_pow15, q_pow40, p3, hm]
    · refine ⟨v1 - 3, ds2, ?_⟩
      simp! only [t2, shI, eqvI, c, decide_false]
  obtain ⟨d, ds4, hd, p4⟩ := r_pick n ds3 (W.map fun w => .str w.1) (by intro e; have := congrArg List.length e; simp [hW] at this) (by rw [List.length_map, hW, szL]; omega)
  obtain ⟨w, hw, rfl⟩ := List.mem_map.mp hd
  obtain ⟨v5, ds5, c0, c1, t5⟩ := r_take (n + 1) ds4 2 (by omega)
  obtain ⟨cs, hcl, hcs⟩ : ∃ cs : List Cell, cs.length = 3 ∧ L2.atI [(.list [.int m, .int (m + 1), .str w.1] : D), .list [.str W[0].1, .int m, .str W[1].1]] v5 = some (.list (cs.map Cell.d)) := by
    have : v5 = 0 ∨ v5 = 1 := by omega
    rcases this with rfl | rfl
    · exact ⟨[.i m, .i (m + 1), .s w], rfl, at0⟩
    · exact ⟨[.s W[0], .i m, .s W[1]], rfl, at1⟩
  refine ⟨cs, ds5, hcl, ?_⟩
  rw [K_step _ rfl rfl]
  show endR _ (exs (K (n + 2)) (.cons _ (.cons _ (.cons _ .nil))) [.own (DS ds) true, .val (.list (W.map fun w => .str w.1)), .no]) = _
  simp only [q_exs_cons, q_exs_nil, ↓bind_bdk, okbk, hs1, hs2]
  simp! only [p4, hw0, hw1, t5, hcs]
theorem r_places (n : Nat) (ds : List Int) (a b : SW) : ∃ (x y : Nat) (ds' : List Int), x ≤ 3 ∧ y ≤ 3 ∧ K (n + 2) 22 [.own (DS ds) true, .val (.list [.str a.1, .str b.1]), .val (.int 2)] = .ok (.val (.list [Place.d ⟨a, x⟩, Place.d ⟨b, y⟩]), [.own (DS ds') true, .val (.list [.str a.1, .str b.1]), .val (.int 2)]) := by
  have sz := szL
  obtain ⟨ps, ds', hl, hp, h⟩ := lc_st (rn := K (n + 1)) (elt := (.tup (.cons (.bin .idx (.var 1) (.var 3)) (.cons (.bin .idx (.nw (.lst (.cons (.int 1) (.cons (.int 2) (.cons (.int 1) (.cons (.int 2) (.cons (.int 2) (.cons (.int 0) (.cons (.int 3) .nil))))))))) (.call 13 (.io 0 (.v (.int 7) .nil)))) .nil)))) (t := .nm 3) (src := .rng (.var 2)) (cd := .no) (vs := [3]) (List.range 2) nd Place.d (fun k p => [a, b][k]? = some p.name ∧ p.ar ≤ 3)
    (fun ds : List Int => [.own (DS ds) true, .val (.list [.str a.1, .str b.1]), .val (.int 2), .no])
    (fun ds : List Int => [.own (DS ds) true, .val (.list [.str a.1, .str b.1]), .val (.int 2), .no])
    (env := [.own (DS ds) true, .val (.list [.str a.1, .str b.1]), .val (.int 2), .no]) (s1 := ds)
    (rng_src (n := 2) (by simp! only []; rfl) (by omega)) (by simp! only []) (by intro s s'; simp! only []) (by
      intro k hk s
      have hk' : k < 2 := List.mem_range.mp hk
      obtain ⟨v, s', c0, c1, t⟩ := r_take n s 7 (by omega)
      obtain ⟨z, hz, hq⟩ : ∃ z : Nat, z ≤ 3 ∧ L2.atI [(.int 1 : D), .int 2, .int 1, .int 2, .int 2, .int 0, .int 3] v = some (nd z) := by
        have : v = 0 ∨ v = 1 ∨ v = 2 ∨ v = 3 ∨ v = 4 ∨ v = 5 ∨ v = 6 := by omega
        rcases this with rfl | rfl | rfl | rfl | rfl | rfl | rfl
        · exact ⟨1, by omega, atI_nat (i := 0) rfl⟩
        · exact ⟨2, by omega, atI_nat (i := 1) rfl⟩
        · exact ⟨1, by omega, atI_nat (i := 2) rfl⟩
        · exact ⟨2, by omega, atI_nat (i := 3) rfl⟩
        · exact ⟨2, by omega, atI_nat (i := 4) rfl⟩
        · exact ⟨0, by omega, atI_nat (i := 5) rfl⟩
        · exact ⟨3, by omega, atI_nat (i := 6) rfl⟩
      have hk2 : k = 0 ∨ k = 1 := by omega
      rcases hk2 with rfl | rfl
      · refine ⟨⟨a, z⟩, s', ⟨rfl, hz⟩, ?_⟩
        have q : L2.atI [(.str a.1 : D), .str b.1] ((0 : Nat) : Int) = some (.str a.1) := atI_nat rfl
        simp! only [lcTurn, t, q, hq, Place.d]
      · refine ⟨⟨b, z⟩, s', ⟨rfl, hz⟩, ?_⟩
        have q : L2.atI [(.str a.1 : D), .str b.1] ((1 : Nat) : Int) = some (.str b.1) := atI_nat rfl
        simp! only [lcTurn, t, q, hq, Place.d])
  obtain ⟨p, hp0, hpa, hpb⟩ := hp 0 0 rfl
  obtain ⟨q, hq0, hqa, hqb⟩ := hp 1 1 rfl
  have e : ps = [p, q] := by
    rw [List.length_range] at hl
    match ps, hl with
    | [u, v], _ =>
      simp only [List.getElem?_cons_zero, List.getElem?_cons_succ, Option.some.injEq] at hp0 hq0
      rw [hp0, hq0]
  subst e
  obtain ⟨pn, pa⟩ := p
  obtain ⟨qn, qa⟩ := q
  simp only [List.getElem?_cons_zero, List.getElem?_cons_succ, Option.some.injEq] at hpa hqa
  subst hpa hqa
  refine ⟨pa, qa, ds', hpb, hqb, ?_⟩
  rw [K_step _ rfl rfl]; simp! only [k78__law_places, h, List.map_cons, List.map_nil]
theorem r_fact (n : Nat) (ds : List Int) (PL : List Place) (vs : List Cell) (hP : PL ≠ []) (hPl : PL.length ≤ 100) (ha : ∀ p ∈ PL, p.ar ≤ 4) (hv : vs.length = 3) :
    ∃ (f : Fact) (ds' : List Int), (∃ p ∈ PL, f.name = p.name ∧ f.row.length = p.ar) ∧ K (n + 3) 28 [.own (DS ds) true, .val (.list (PL.map Place.d)), .val (.list (vs.map Cell.d))] = .ok (.val (Dt.d f), [.own (DS ds') true, .val (.list (PL.map Place.d)), .val (.list (vs.map Cell.d))]) := by
  have sz := szL
  obtain ⟨d, ds1, hd, p1⟩ := r_pick n ds (PL.map Place.d) (by simpa using hP) (by rw [List.length_map]; omega)
  obtain ⟨p, hp, rfl⟩ := List.mem_map.mp hd
  have har := ha p hp
  obtain ⟨row, ds2, hl, hr, h⟩ := lc_st (rn := K (n + 2)) (elt := (.call 14 (.io 0 (.v (.bin .add (.var 2) (.nw (.lst (.cons (.tup (.cons (.str ("blank" : Str)) (.cons (.bin .add (.int 1) (.call 13 (.io 0 (.v (.int 2) .nil)))) .nil))) .nil)))) .nil)))) (t := .nm 5) (src := .rng (.bin .idx (.var 3) (.int 1))) (cd := .no) (vs := [5]) (List.range p.ar) nd Cell.d (fun _ _ => True)
    (fun ds : List Int => [.own (DS ds) true, .val (.list (PL.map Place.d)), .val (.list (vs.map Cell.d)), .val p.d, .no, .no])
    (fun ds : List Int => [.own (DS ds) true, .val (.list (PL.map Place.d)), .val (.list (vs.map Cell.d)), .val p.d, .no, .no])
    (env := [.own (DS ds1) true, .val (.list (PL.map Place.d)), .val (.list (vs.map Cell.d)), .val p.d, .no, .no]) (s1 := ds1)
    (rng_src (n := p.ar) (by simp! only [pd1]) (by omega)) (by simp! only []) (by intro s s'; simp! only []) (by
      intro k hk s
      obtain ⟨v, s', c0, c1, t⟩ := r_take (n + 1) s 2 (by omega)
      have e : vs.map Cell.d ++ [.tuple [.str ("blank" : Str), .int (1 + v)]] = (vs ++ [Cell.b (1 + v)]).map Cell.d := by simp [Cell.d]
      obtain ⟨d, s2, hd, p2⟩ := r_pick n s' ((vs ++ [Cell.b (1 + v)]).map Cell.d) (by simp) (by simp; omega)
      obtain ⟨c, hc, rfl⟩ := List.mem_map.mp hd
      refine ⟨c, s2, trivial, ?_⟩
      have q : vs.length + 1 ≤ sizeLine := by omega
      rw [← e] at p2
      simp! only [lcTurn, t, q, p2])
  rw [List.length_range] at hl
  refine ⟨⟨p.name, row⟩, ds2, ⟨p, hp, rfl, hl⟩, ?_⟩
  have df : Dt.d (⟨p.name, row⟩ : Fact) = .tuple [.str p.name.1, .tuple (row.map Cell.d)] := rfl
  rw [K_step _ rfl rfl]; simp! only [k78__law_fact, p1, h, pd0, df]
theorem shp_ints (is : List Int) : SeqAt.shaped (.list (is.map .int)) = true := by
  have := depthAll_map (f := PyData.int) (n := 0) (fun b => by simp [PyData.depth]) is
  have h2 := canLayAll_map (f := PyData.int) (fun b => by simp [PyData.canLay0]) is
  unfold SeqAt.shaped
  rw [PyData.canLay0, h2, PyData.depth, Bool.true_and]
  exact decide_eq_true
                          (by omega)
theorem inD_ints (i : Int) (is : List Int) : inD (.int i) (.list (is.map .int)) = some (decide (i ∈ is)) := by
  unfold inD
  simp only [shI, shp_ints, Bool.and_self, if_true]
  rw [List.any_map]
  have : ((fun z => PyData.eqv z (.int i)) ∘ PyData.int) = fun x : Int => decide (x = i) := by
    funext x
    exact eqvI
  rw [this]
  congr 1
  rw [Bool.eq_iff_iff]
  simp
theorem r_tie (n : Nat) (ds : List Int) (p : Place) (har : p.ar ≤ 4) :
    ∃ (t : Tie) (ds' : List Int), t.name = p.name ∧ (∀ i ∈ t.left, i < p.ar) ∧ (∀ i ∈ t.right, i < p.ar) ∧ K (n + 2) 29 [.own (DS ds) true, .val p.d] = .ok (.val t.d, [.own (DS ds') true, .val p.d]) := by
  have sz := szL
  obtain ⟨S, ds2, hl, hr, h⟩ := lc_st (rn := K (n + 1)) (elt := (.call 13 (.io 0 (.v (.int 5) .nil)))) (t := .nm 4) (src := .rng (.bin .idx (.var 1) (.int 1))) (cd := .no) (vs := [4]) (List.range p.ar) nd (.int : Int → D) (fun _ _ => True)
    (fun ds : List Int => [.own (DS ds) true, .val p.d, .no, .no, .no])
    (fun ds : List Int => [.own (DS ds) true, .val p.d, .no, .no, .no])
    (env := [.own (DS ds) true, .val p.d, .no, .no, .no]) (s1 := ds)
    (rng_src (n := p.ar) (by simp! only [pd1]) (by omega)) (by simp! only []) (by intro s s'; simp! only []) (by
      intro k hk s
      obtain ⟨v, s', c0, c1, t⟩ := r_take n s 5 (by omega)
      refine ⟨v, s', trivial, ?_⟩
      simp! only [lcTurn, t])
  rw [List.length_range] at hl
  have hflt : ∀ (is : List Int) (L : Es) (x3 : Sl), (∀ env, evN (K (n + 1)) (.lst L) env = .ok (.lst (is.map .int), env)) → ∃ l : List Nat, (∀ i ∈ l, i < p.ar) ∧ evN (K (n + 1)) (.lc (.var 4) (.nm 4) (.rng (.bin .idx (.var 1) (.int 1))) (.on (.bin .isin (.bin .idx (.var 2) (.var 4)) (.nw (.lst L)))) [4]) [.own (DS ds2) true, .val p.d, .val (.list (S.map .int)), x3, .no] = .ok (.lst (l.map nd), [.own (DS ds2) true, .val p.d, .val (.list (S.map .int)), x3, .no]) := by
    intro is L x3 hL
    refine ⟨(List.range p.ar).filter fun k => decide (S.getD k 0 ∈ is), fun i hi => List.mem_range.mp (List.mem_filter.mp hi).1, ?_⟩
    rw [lc_map (as := List.range p.ar) (l := none) (dd := nd) (f := nd) (q := fun k => decide (S.getD k 0 ∈ is)) (envI := [.own (DS ds2) true, .val p.d, .val (.list (S.map .int)), x3, .no]) (rng_src (n := p.ar) (by simp! only [pd1]) (by omega)) (by simp! only []) (by
      intro k hk
      have hk' : k < p.ar := List.mem_range.mp hk
      have q : L2.atI (S.map PyData.int) (k : Int) = some (.int (S.getD k 0)) := atI_nat (by simp [hl, hk', List.getD_eq_getElem?_getD])
      rw [← hl] at hk'
      by_cases c : S.getD k 0 ∈ is
      · have c' := decide_eq_true c
        simp only [lcTurn, evC, q_ev_bin, q_ev_nw, hL]
        simp! only [q, inD_ints, c']
      · have c' := decide_eq_false c
        simp only [lcTurn, evC, q_ev_bin, q_ev_nw, hL]
        simp! only [q, inD_ints, c'])]
  obtain ⟨l1, hl1, h1⟩ := hflt [0, 1, 3] (.cons (.int 0) (.cons (.int 1) (.cons (.int 3) .nil))) .no (fun env => by simp! only []; rfl)
  obtain ⟨l2, hl2, h2⟩ := hflt [2, 3] (.cons (.int 2) (.cons (.int 3) .nil)) (.val (tup l1)) (fun env => by simp! only []; rfl)
  refine ⟨⟨p.name, l1, l2⟩, ds2, rfl, hl1, hl2, ?_⟩
  have dt : Tie.d ⟨p.name, l1, l2⟩ = .tuple [.str p.name.1, tup l1, tup l2] := rfl
  have e1 : PyData.tuple (l1.map nd) = tup l1 := rfl
  have e2 : PyData.tuple (l2.map nd) = tup l2 := rfl
  rw [K_step _ rfl rfl]; simp! only [k78__law_tie, h, h1, e1, h2, e2, dt, pd0]
end VE
/-! VP15: the numbered tables -/
namespace VE
open PySem PySem.W
                        PyProof.Rows

section
variable (w0 : SW) (st : Int)
def vf (w : SW) (k : Nat) : Fact := ⟨w0, [.i (st + 2 * (k : Int)), .s w, .i k]⟩
def tab (c : Nat → SW) (m : Nat) : List Fact := (List.range m).map fun k => vf w0 st (c k) k
abbrev t0 : Tie := ⟨w0, [0], [1, 2]⟩
end
section
variable {w0 : SW} {st : Int}
theorem vf_inj {w w' : SW} {k k' : Nat} : vf w0 st w k = vf w0 st w' k' ↔ w = w' ∧ k = k' := by
  constructor
  · intro h
    simp only [vf, Fact.mk.injEq, List.cons.injEq, Cell.i.injEq, Cell.s.injEq, true_and, and_true] at h
    exact ⟨h.2.1, by omega⟩
  · rintro ⟨rfl, rfl⟩; rfl
theorem mem_tab {c : Nat → SW} {m : Nat} {w : SW} {k : Nat} : vf w0 st w k ∈ tab w0 st c m ↔ k < m ∧ w = c k := by
  unfold tab
  rw [List.mem_map]
  constructor
  · rintro ⟨j, hj, e⟩
    obtain ⟨rfl, rfl⟩ := vf_inj.mp e
    exact ⟨List.mem_range.mp hj, rfl⟩
  · rintro ⟨h, rfl⟩
    exact ⟨k, List.mem_range.mpr h, rfl⟩
theorem tab_form {c : Nat → SW} {m : Nat} {f : Fact} (h : f ∈ tab w0 st c m) : ∃ w k, f = vf w0 st w k := by
  obtain ⟨j, _, rfl⟩ := List.mem_map.mp h
  exact ⟨_, _, rfl⟩
theorem tab_len {c : Nat → SW} {m : Nat} : (tab w0 st c m).length = m := by simp [tab]
theorem tab_set {c : Nat → SW} {m a : Nat} {w : SW} (ha : a < m) : (tab w0 st c m).set a (vf w0 st w a) = tab w0 st (fun k => if k = a then w else c k) m := by
  refine List.ext_getElem (by simp [tab]) fun i h1 h2 => ?_
  rw [List.getElem_set]
  simp only [tab, List.getElem_map, List.getElem_range]
  by_cases e : a = i
  · subst e; simp
  · have e' : ¬ i = a := fun h => e h.symm
    simp [e, e']
theorem tab_get {c : Nat → SW} {m a : Nat} (ha : a < m) : (tab w0 st c m)[a]? = some (vf w0 st (c a) a) := by
  simp [tab, ha]
theorem vf_fit (w : SW) (k : Nat) : TFit (t0 w0) (vf w0 st w k) := fun _ => ⟨by simp [vf], by simp [vf]⟩
theorem vf_clash {w w' : SW} {k k' : Nat} : clash [t0 w0] (vf w0 st w k) (vf w0 st w' k') = true ↔ k = k' ∧ w ≠ w' := by
  have e : clash [t0 w0] (vf w0 st w k) (vf w0 st w' k') = (decide (k = k') && !decide (w = w' ∧ k = k')) := by
    have e1 : part (vf w0 st w k).row [0] = [.i (st + 2 * (k : Int))] := rfl
    have e2 : part (vf w0 st w' k').row [0] = [.i (st + 2 * (k' : Int))] := rfl
    have e3 : part (vf w0 st w k).row [1, 2] = [.s w, .i k] := rfl
    have e4 : part (vf w0 st w' k').row [1, 2] = [.s w', .i k'] := rfl
    have d1 : decide (([.i (st + 2 * (k : Int))] : List Cell) = [.i (st + 2 * (k' : Int))]) = decide (k = k') := decide_eq_decide.mpr (by
      simp only [List.cons.injEq, Cell.i.injEq, and_true]
      omega)
    have d2 : decide (([.s w, .i k] : List Cell) = [.s w', .i k']) = decide (w = w' ∧ k = k') := decide_eq_decide.mpr (by
      simp only [List.cons.injEq, Cell.i.injEq, Cell.s.injEq, and_true]
      exact and_congr Iff.rfl (by omega))
    unfold clash
    rw [List.any_cons, List.any_nil, Bool.or_false]
    unfold clash1
    show (decide (w0 = w0) && (decide (w0 = w0) && decide (part (vf w0 st w k).row [0] = part (vf w0 st w' k').row [0])) && !decide (part (vf w0 st w k).row [1, 2] = part (vf w0 st w' k').row [1, 2])) = _
    simp only [e1, e2, e3, e4, d1, d2, decide_true, Bool.true_and]
  rw [e]
  by_cases c : k = k'
  · subst c; simp
  · simp [c]
theorem two_srt {x y : Fact} {s : List Fact} (h : Srt s) (hs : [x, y].Sublist s) : le x y = true ∧ x ≠ y := by
  have := h.sublist hs
  exact (List.pairwise_cons.mp this).1 y (by simp)
/-- rows of these tables alone -/
def Vfs (w0 : SW) (st : Int) (s : List Fact) : Prop := ∀ f ∈ s, ∃ w k, f = vf w0 st w k
theorem good_vfs {s : List Fact} (h : Srt s) (hl : s.length ≤ 30) (hv : Vfs w0 st s) : Good [t0 w0] s :=
  ⟨h, hl, fun f hf t ht => by
    rw [List.mem_singleton] at ht
    subst ht
    obtain ⟨w, k, rfl⟩ := hv f hf
    exact vf_fit w k, fun f hf => by
    obtain ⟨w, k, rfl⟩ := hv f hf
    simp [vf]⟩
theorem tab_vfs {c : Nat → SW} {m : Nat} : Vfs w0 st (canon (tab w0 st c m)) := fun f hf => tab_form (canon_mem.mp hf)
theorem tab_good {c : Nat → SW} {m : Nat} (hm : m ≤ 30) : Good [t0 w0] (canon (tab w0 st c m)) :=
  good_vfs (canon_srt _) (by have := canon_len (tab w0 st c m); rw [tab_len] at this; omega) tab_vfs
theorem tab_keeps {c : Nat → SW} {m : Nat} : Keeps [t0 w0] (canon (tab w0 st c m)) := by
  intro x hx y hy
  obtain ⟨w, k, rfl⟩ := tab_form (canon_mem.mp hx)
  obtain ⟨w', k', rfl⟩ := tab_form (canon_mem.mp hy)
  rw [← Bool.not_eq_true, vf_clash]
  rintro ⟨rfl, h⟩
  rw [canon_mem, mem_tab] at hx hy
  exact h (hx.2.trans hy.2.symm)
theorem mrg_same {bs s : List Fact} (h : Srt s) : mrg bs s s = s := by
  refine (mrg_srt _ _ _).ext h fun f => ?_
  rw [mrg_mem]
  by_cases c1 : f ∈ bs <;> by_cases c2 : f ∈ s <;> simp [c1, c2]
theorem vfs_ext {s t : List Fact} (hs : Srt s) (ht : Srt t) (vs : Vfs w0 st s) (vt : Vfs w0 st t) (h : ∀ w k, vf w0 st w k ∈ s ↔ vf w0 st w k ∈ t) : s = t := by
  refine hs.ext ht fun f => ⟨fun hf => ?_, fun hf => ?_⟩
  · obtain ⟨w, k, rfl⟩ := vs f hf
    exact (h w k).mp hf
  · obtain ⟨w, k, rfl⟩ := vt f hf
    exact (h w k).mpr hf
theorem mrg_vfs {b s o : List Fact} (h1 : Vfs w0 st s) (h2 : Vfs w0 st o) : Vfs w0 st (mrg b s o) := fun f hf => (mrg_sub hf).elim (h1 f) (h2 f)
/-- changes of two facts -/
theorem mrg_two {w1 w2 w3 : SW} (h12 : w1 ≠ w2) (h13 : w1 ≠ w3) {m a p : Nat} (hap : a ≠ p) :
    mrg (canon (tab w0 st (fun _ => w1) m)) (canon (tab w0 st (fun k => if k = a then w2 else w1) m)) (canon (tab w0 st (fun k => if k = p then w3 else w1) m)) =
      canon (tab w0 st (fun k => if k = p then w3 else if k = a then w2 else w1) m) := by
  refine vfs_ext (mrg_srt _ _ _) (canon_srt _) (mrg_vfs tab_vfs tab_vfs) tab_vfs fun w k => ?_
  rw [mrg_mem]
  simp only [canon_mem, mem_tab]
  by_cases c1 : k = a
  · subst c1
    have c2 : ¬ k = p := hap
    simp only [c2, if_false, if_true]
    constructor
    · rintro (⟨⟨hm, rfl⟩, ⟨_, e⟩, _⟩ | ⟨h | h, e⟩)
      · exact absurd e h12
      · exact h
      · exact absurd h e
    · rintro ⟨hm, rfl⟩
      exact .inr ⟨.inl ⟨hm, rfl⟩, fun z => h12 z.2.symm⟩
  · by_cases c2 : k = p
    · subst c2
      simp only [c1, if_false, if_true]
      constructor
      · rintro (⟨⟨hm, rfl⟩, _, ⟨_, e⟩⟩ | ⟨h | h, e⟩)
        · exact absurd e h13
        · exact absurd h e
        · exact h
      · rintro ⟨hm, rfl⟩
        exact .inr ⟨.inr ⟨hm, rfl⟩, fun z => h13 z.2.symm⟩
    · simp only [c1, c2, if_false]
      constructor
      · rintro (⟨h, _, _⟩ | ⟨h | h, e⟩)
        · exact h
        · exact h
        · exact h
      · intro h
        exact .inl ⟨h, h, h⟩
/-- two unlike changes of one fact -/
def due0 (w0 : SW) (st : Int) (w1 w2 w3 : SW) (m a : Nat) : List Fact := canon (tab w0 st (fun k => if k = a then w2 else w1) m ++ [vf w0 st w3 a])
section
variable {w1 w2 w3 : SW} {m a : Nat}
theorem due0_mem (ha : a < m) {w : SW} {k : Nat} : vf w0 st w k ∈ due0 w0 st w1 w2 w3 m a ↔ k < m ∧ (if k = a then w = w2 ∨ w = w3 else w = w1) := by
  unfold due0
  rw [canon_mem, List.mem_append, mem_tab, List.mem_singleton, vf_inj]
  by_cases c : k = a
  · subst c
    simp only [if_true, and_true]
    constructor
    · rintro (⟨h, e⟩ | e)
      · exact ⟨h, .inl e⟩
      · exact ⟨ha, .inr e⟩
    · rintro ⟨h, e | e⟩
      · exact .inl ⟨h, e⟩
      · exact .inr e
  · simp [c]
theorem due0_vfs : Vfs w0 st (due0 w0 st w1 w2 w3 m a) := fun f hf => by
  rcases List.mem_append.mp (canon_mem.mp hf) with h | h
  · exact tab_form h
  · rw [List.mem_singleton] at h
    exact ⟨_, _, h⟩
theorem due0_srt : Srt (due0 w0 st w1 w2 w3 m a) := canon_srt _
theorem due0_len (hm : m ≤ 20) : (due0 w0 st w1 w2 w3 m a).length ≤ 30 := by
  have := canon_len (tab w0 st (fun k => if k = a then w2 else w1) m ++ [vf w0 st w3 a])
  rw [List.length_append, tab_len, List.length_singleton] at this
  unfold due0
  omega
theorem mrg_one (h12 : w1 ≠ w2) (h13 : w1 ≠ w3) (ha : a < m) :
    mrg (canon (tab w0 st (fun _ => w1) m)) (canon (tab w0 st (fun k => if k = a then w2 else w1) m)) (canon (tab w0 st (fun k => if k = a then w3 else w1) m)) = due0 w0 st w1 w2 w3 m a := by
  refine vfs_ext (mrg_srt _ _ _) due0_srt (mrg_vfs tab_vfs tab_vfs) due0_vfs fun w k => ?_
  rw [mrg_mem, due0_mem ha]
  simp only [canon_mem, mem_tab]
  by_cases c1 : k = a
  · subst c1
    simp only [if_true]
    constructor
    · rintro (⟨⟨hm, rfl⟩, ⟨_, e⟩, _⟩ | ⟨⟨hm, h⟩ | ⟨hm, h⟩, e⟩)
      · exact absurd e h12
      · exact ⟨hm, .inl h⟩
      · exact ⟨hm, .inr h⟩
    · rintro ⟨hm, rfl | rfl⟩
      · exact .inr ⟨.inl ⟨hm, rfl⟩, fun z => h12 z.2.symm⟩
      · exact .inr ⟨.inr ⟨hm, rfl⟩, fun z => h13 z.2.symm⟩
  · simp only [c1, if_false]
    constructor
    · rintro (⟨h, _, _⟩ | ⟨h | h, e⟩)
      · exact h
      · exact h
      · exact h
    · intro h
      exact .inl ⟨h, h, h⟩
/-- the pair that clashes -/
theorem due0_pair (h23 : w2 ≠ w3) (ha : a < m) (q : Fact → Bool) (hq : ∀ w k, q (vf w0 st w k) = decide (k = a)) :
    ∃ x y, (due0 w0 st w1 w2 w3 m a).filter q = [x, y] ∧ lprs [t0 w0] (due0 w0 st w1 w2 w3 m a) = [(x, y)] := by
  have hne : vf w0 st w2 a ≠ vf w0 st w3 a := fun e => h23 (vf_inj.mp e).1
  have main : ∀ u v : SW, u ≠ v → ((u = w2 ∧ v = w3) ∨ (u = w3 ∧ v = w2)) → le (vf w0 st u a) (vf w0 st v a) = true →
      ∃ x y, (due0 w0 st w1 w2 w3 m a).filter q = [x, y] ∧ lprs [t0 w0] (due0 w0 st w1 w2 w3 m a) = [(x, y)] := by
    intro u v huv hor hle
    have hm2 : ∀ w k, vf w0 st w k ∈ due0 w0 st w1 w2 w3 m a → k = a → w = u ∨ w = v := by
      intro w k h e
      have := (due0_mem ha).mp h
      rw [if_pos e] at this
      rcases hor with ⟨rfl, rfl⟩ | ⟨rfl, rfl⟩
      · exact this.2
      · exact this.2.symm
    have hu : vf w0 st u a ∈ due0 w0 st w1 w2 w3 m a := (due0_mem ha).mpr ⟨ha, by rw [if_pos rfl]; rcases hor with ⟨h, _⟩ | ⟨h, _⟩ <;> simp [h]⟩
    have hv : vf w0 st v a ∈ due0 w0 st w1 w2 w3 m a := (due0_mem ha).mpr ⟨ha, by rw [if_pos rfl]; rcases hor with ⟨_, h⟩ | ⟨_, h⟩ <;> simp [h]⟩
    have hn : vf w0 st u a ≠ vf w0 st v a := fun e => huv (vf_inj.mp e).1
    have hf : (due0 w0 st w1 w2 w3 m a).filter q = [vf w0 st u a, vf w0 st v a] := by
      refine Srt.ext (due0_srt.sublist List.filter_sublist) (List.pairwise_cons.mpr ⟨fun y hy => ?_, List.pairwise_singleton _ _⟩) fun f => ?_
      · rw [List.mem_singleton] at hy
        subst hy
        exact ⟨hle, hn⟩
      · rw [List.mem_filter]
        constructor
        · rintro ⟨h1, h2⟩
          obtain ⟨w, k, rfl⟩ := due0_vfs f h1
          rw [hq, decide_eq_true_iff] at h2
          subst h2
          rcases hm2 w _ h1 rfl with rfl | rfl <;> simp
        · intro h
          rcases List.mem_cons.mp
                                  h with rfl | h
          · exact ⟨hu, by rw [hq]; simp⟩
          · rw [List.mem_singleton] at h
            subst h
            exact ⟨hv, by rw [hq]; simp⟩
    refine ⟨_, _, hf, ?_⟩
    refine Srt.ext (lprs_srt _ due0_srt) (List.pairwise_singleton _ _) fun ⟨x, y⟩ => ?_
    rw [mem_lprs, List.mem_singleton]
    constructor
    · rintro ⟨h1, h2⟩
      have hx := h1.subset (show x ∈ [x, y] by simp)
      have hy := h1.subset (show y ∈ [x, y] by simp)
      obtain ⟨w, k, rfl⟩ := due0_vfs x hx
      obtain ⟨w', k', rfl⟩ := due0_vfs y hy
      obtain ⟨rfl, hww⟩ := vf_clash.mp h2
      obtain ⟨l1, l2⟩ := two_srt due0_srt h1
      have hk : k = a := by
        have e1 := (due0_mem ha).mp hx
        have e2 := (due0_mem ha).mp hy
        by_cases c : k = a
        · exact c
        · rw [if_neg c] at e1 e2
          exact absurd (e1.2.trans e2.2.symm) hww
      subst hk
      rcases hm2 w _ hx rfl with rfl | rfl <;> rcases hm2 w' _ hy rfl with rfl | rfl
      · exact absurd rfl hww
      · rfl
      · exact absurd (le_antisymm l1 hle) l2
      · exact absurd rfl hww
    · intro h
      simp only [Prod.mk.injEq] at h
      obtain ⟨rfl, rfl⟩ := h
      refine ⟨?_, vf_clash.mpr ⟨rfl, huv⟩⟩
      rw [← hf]
      exact List.filter_sublist
  rcases le_total.total (vf w0 st w2 a) (vf w0 st w3 a) with h | h
  · exact main w2 w3 h23 (.inl ⟨rfl, rfl⟩) h
  · exact main w3 w2 (Ne.symm h23) (.inr ⟨rfl, rfl⟩) h
end
end
end VE
/-! VP16: _law_numbered -/
namespace VE
local macro_rules | `(tactic| simp! only [$ts,*]) => `(tactic| simp only [q_ev_int, q_ev_str, q_ev_bl, q_ev_non, q_ev_var, q_ev_bor, q_ev_tup, q_ev_nw, q_ev_un, q_ev_bin, q_ev_and, q_ev_or, q_ev_ite, q_ev_sl, q_ev_slf, q_ev_call, q_ev_pop, q_evs_nil, q_evs_cons, q_evA_nil, q_evA_v, q_evA_io, q_evA_sc, q_evN_lst, q_evN_toL, q_evN_vals, q_evN_keysL, q_evN_cat, q_evN_dnew, q_evN_srt, q_evN_srtk, q_evN_call, q_evSrc_seq, q_evSrc_scr, q_evSrc_rng, q_evSrc_rng2, q_evSrc_enum, q_evC_no, q_evC_on, q_ex_asg, q_ex_own, q_ex_aug, q_ex_setIx, q_ex_app, q_ex_rev, q_ex_sdapp, q_ex_ife, q_ex_ret, q_ex_retO, q_ex_exp, q_ex_frz, q_ex_pass, q_ex_brk, q_ex_cnt, q_exs_nil, q_exs_cons, u_len_l, u_len_t, u_len_s, u_toInt, u_tup_l, u_tup_t, u_isInt_int, u_isInt_bool, u_isInt_str, u_isInt_tuple, u_isInt_list, u_isInt_none, u_isStr_int, u_isStr_bool, u_isStr_str, u_isStr_tuple, u_isStr_list, u_isStr_none, u_isTup_int, u_isTup_bool, u_isTup_str, u_isTup_tuple, u_isTup_list, u_isTup_none, u_isBool_int, u_isBool_bool, u_isBool_str, u_isBool_tuple, u_isBool_list, u_isBool_none, u_isList_int, u_isList_bool, u_isList_str, u_isList_tuple, u_isList_list, u_isList_none, u_isSeq_int, u_isSeq_bool, u_isSeq_str, u_isSeq_tuple, u_isSeq_list, u_isSeq_none, u_isNon_int, u_isNon_bool, u_isNon_str, u_isNon_tuple, u_isNon_list, u_isNon_none, u_notNon_int, u_notNon_bool, u_notNon_str, u_notNon_tuple, u_notNon_list, u_notNon_none, u_not, u_neg, u_isTru, u_notTru, u_maxL, b_add_i, b_add_s, b_add_l, b_add_t, b_sub, b_mul, b_mod, b_lt, b_le, b_gt, b_ge, b_idx_l, b_idx_t, b_eq, b_ne, b_in, b_nin, shI, shB, eqvI, eqvB, asV, asT, getV, setV, setO, opV, deref, itemsOf, itemsL, lend, unlend, wipeE, backE, mkArgs, ios, putOuts, runCall, outsOf, out1, fin, setT, setAll, bnd, isOL, isOD, ↓bind_bdk, okbk, ofs, Ret.fr, O.fr, n1, seqD, List.length_cons, List.length_nil, List.length_replicate, List.replicate, List.cons_append, List.nil_append, List.append_nil, List.set, List.getElem?_cons_zero, List.getElem?_cons_succ, List.getElem?_nil, List.nodup_nil, List.nodup_cons, List.not_mem_nil, not_false_eq_true, and_self, true_and, and_true, if_true, if_false, Bool.false_eq_true, ↓reduceIte, reduceCtorEq, Nat.reduceAdd, Nat.reduceSub, Nat.reduceEqDiff, Nat.zero_add, Option.bind_some, Option.bind_none, Option.map_some, sz0, sz1, sz2, sz3, sz4, sz5, sz6, sz7, Bool.and_self, Bool.and_false, Bool.false_and, Bool.and_true, Bool.true_and, Bool.not_true, Bool.not_false, List.length_map, at0, at1, at2, at3, endR_nx, endR_rt, $ts,*])
open PySem PySem.W
                        PyProof.Rows

theorem r_law_store_t (n : Nat) (fs : List Fact) (hl : fs.length ≤ sizeLine) : K (n + 4) 20 [.val (.tuple (fs.map Dt.d))] = .ok (.val (.tuple ((canon fs).map Dt.d)), [.val (.tuple (fs.map Dt.d))]) := by
  rw [K_step _ rfl rfl]; simp! only [k78__law_store, keysOf_d (rn := K (n + 3)) (f := 19) (α := Fact) (fun a => r_lfact_key n a), sortB_key, sortBy_key]
  obtain ⟨e, ⟨acc, x, hx, hc, hn, rfl⟩, h⟩ := fr_ind (rn := K (n + 3)) (src := .seq (.nw (.srtk (.var 0) 19))) (tg := .nm 2) (l := none) (env := [.val (.tuple (fs.map Dt.d)), .own (.lst []) false, .no])
    (env1 := [.val (.tuple (fs.map Dt.d)), .own (.lst []) false, .no])
    (body := (.cons (.ife (.or (.bin .eq (.un .len (.bor 1)) (.int 0)) (.bin .ne (.bin .idx (.bor 1) (.un .neg (.int 1))) (.var 2))) (.cons (.app 1 (.var 2)) .nil) .nil) .nil)) (fs.mergeSort le) Dt.d
    (fun rest e => ∃ acc x, FreeS x ∧ adj acc rest = canon fs ∧ acc.length + rest.length ≤ sizeLine ∧ e = [.val (.tuple (fs.map Dt.d)), .own (.lst (acc.map Dt.d)) false, x])
    (by simp! only [keysOf_d (rn := K (n + 3)) (f := 19) (α := Fact) (fun a => r_lfact_key n a), sortB_key, sortBy_key])
    ⟨[], .no, .no, adj_canon fs, by simpa [List.length_mergeSort] using hl, rfl⟩
    (by
      rintro a as e ⟨acc, x, hx, hc, hn, rfl⟩
      refine ⟨[.val (.tuple (fs.map Dt.d)), .own (.lst (acc.map Dt.d)) false, .val (Dt.d a)], [.val (.tuple (fs.map Dt.d)), .own (.lst ((if acc.getLast? = some a then acc else acc ++ [a]).map Dt.d)) false, .val (Dt.d a)], ?_, ?_, if acc.getLast? = some a then acc else acc ++ [a], .val (Dt.d a), .val, ?_, ?_, rfl⟩
      · rcases hx with rfl | ⟨d, rfl⟩ <;> simp! only []
      · rw [List.length_cons] at hn
        rcases List.eq_nil_or_concat acc with rfl | ⟨pre, z, rfl⟩
        · have q : (0 < sizeLine) := by decide
          simp! only [List.map_nil, shI, eqvI, decide_true, List.getLast?_nil, q, List.map_append, List.map_cons]
          rfl
        · have q : pre.length + (0 + 1) < sizeLine := by simp at hn ⊢; omega
          have q2 : ¬ ((pre.length + 1 : Nat) : Int) = 0 := by omega
          simp! only [List.concat_eq_append, List.map_append, List.map_cons, List.map_nil, shI, eqvI, List.length_append, q2, decide_false, atI_last, shp, Dt.eq]
          by_cases c : z = a
          · simp! only [c, decide_true, Bool.not_true, List.getLast?_append, List.getLast?_singleton, Option.some_or]
            simp
          · simp! only [c, decide_false, Bool.not_false, q, List.getLast?_append, List.getLast?_singleton, Option.some_or]
            simp [c]
      · rw [← hc]
        conv => rhs; unfold adj
        split <;> rfl
      · rw [List.length_cons] at hn
        split
        · omega
        · rw [List.length_append, List.length_singleton]; omega)
  rw [h]
  have e : acc = canon fs := hc
  simp! only [e]
theorem part_eq (i : Int) : (PyData.tuple [.int i]) = tup [] ∨ True := .inr trivial
/-- the text's tie -/
theorem t0_d (w0 : SW) : (t0 w0).d = .tuple [.str w0.1, .tuple [.int 0], .tuple [.int 1, .int 2]] := rfl
theorem vf_d (w0 : SW) (st : Int) (w : SW) (k : Nat) : Dt.d (vf w0 st w k) = .tuple [.str w0.1, .tuple [.int (st + 2 * (k : Int)), .str w.1, .int (k : Int)]] := rfl
section
variable {n : Nat} {m a : Nat} {ds ds3 : List Int} {W : List SW} {w0 w1 w2 w3 : SW} {st : Int}
abbrev WD (W : List SW) : D := .list (W.map fun w => .str w.1)
abbrev LD (s : List Fact) : D := .list (s.map Dt.d)
/-- the stores and what is merged -/
theorem store7 (s : List Fact) (hl : s.length ≤ 100) : K (n + 7) 20 [.val (LD s)] = .ok (.val (TD (canon s)), [.val (LD s)]) :=
  r_law_store (n + 3) s (by have := szL; omega)
theorem store7t (s : List Fact) (hl : s.length ≤ 100) : K (n + 7) 20 [.val (TD s)] = .ok (.val (TD (canon s)), [.val (TD s)]) :=
  r_law_store_t (n + 3) s (by have := szL; omega)
theorem take7 (ds : List Int) (m : Int) (hm : 0 < m) : ∃ v ds', 0 ≤ v ∧ v < m ∧ K (n + 7) 13 [.own (DS ds) true, .val (.int m)] = .ok (.val (.int v), [.own (DS ds') true, .val (.int m)]) := r_take (n + 6) ds m hm
theorem canon_self {s : List Fact} (h : Srt s) : canon s = s := canon_eq h fun _ => Iff.rfl
/-- what is asked at the end, with one store for both due and told -/
structure NumFin (n : Nat) (w0 : SW) (bs os ts : List Fact) (due : List Fact) (b : Bool) (ps : List Pr) : Prop where
  mrg : K (n + 7) 5 [.val (TD bs), .val (TD os), .val (TD ts)] = .ok (.val (TD due), [.val (TD bs), .val (TD os), .val (TD ts)])
  same : K (n + 7) 15 [.val (TD due), .val (TD due)] = .ok (.val (.bool true), [.val (TD due), .val (TD due)])
  keep : K (n + 7) 11 [.val (TD due), .val (.tuple [(t0 w0).d])] = .ok (.val (.bool b), [.val (TD due), .val (.tuple [(t0 w0).d])])
  cl : K (n + 7) 10 [.val (TD bs), .val (TD os), .val (TD ts), .val (.tuple [(t0 w0).d])] = .ok (.val (TP ps), [.val (TD bs), .val (TD os), .val (TD ts), .val (.tuple [(t0 w0).d])])
  samep : K (n + 7) 15 [.val (TP ps), .val (TP ps)] = .ok (.val (.bool true), [.val (TP ps), .val (TP ps)])
theorem fin_of {bs os ts due : List Fact} (hb : Good [t0 w0] bs) (ho : Good [t0 w0] os) (ht : Good [t0 w0] ts) (hm : mrg bs os ts = due) (hl : due.length ≤ 30) :
    NumFin n w0 bs os ts due (decide ((lprs [t0 w0] due).length = 0)) (lprs [t0 w0] due) := by
  have h1 := r_mrg (n := n + 1) hb ho ht
  have h2 := r_cl (n := n + 1) hb ho ht (by simp)
  have fd : AllFit [t0 w0] due := hm ▸ mrg_fit ho ht
  have rd : ∀ f ∈ due, f.row.length ≤ 4 := hm ▸ mrg_row ho ht
  have sd : Srt due := hm ▸ mrg_srt _ _ _
  rw [hm] at h1 h2
  exact ⟨h1, smF (n := n + 1) rd (by omega), r_keeps_all (n + 1) due [t0 w0] fd (by omega) (by simp) sd, h2, smP (n := n + 1) rd (by omega)⟩
end
theorem r_numbered (n : Nat) (ds : List Int) (W : List SW) (hW : W.Nodup) (hWl : W.length = 9) (kind : Int) (hk : kind = 0 ∨ kind = 1 ∨ kind = 2) :
    ∃ ds' : List Int, K (n + 8) 31 [.own (DS ds) true, .val (WD W), .val (.int kind)] = .ok (.val (.bool true), [.own (DS ds') true, .val (WD W), .val (.int kind)]) := by
  have sz := szL
  obtain ⟨v1, ds1, a0, a1, t1⟩ := take7 (n := n) ds 30 (by omega)
  obtain ⟨v2, ds2, b0, b1, t2⟩ := take7 (n := n) ds1 8 (by omega)
  obtain ⟨m, hm⟩ : ∃ m : Nat, 2 + v2 = (m : Int) := ⟨(2 + v2).toNat, (Int.toNat_of_nonneg (by omega)).symm⟩
  obtain ⟨v3, ds3, c0, c1, t3⟩ := take7 (n := n) ds2 m (by omega)
  obtain ⟨a, rfl⟩ : ∃ a : Nat, v3 = (a : Int) := ⟨v3.toNat, (Int.toNat_of_nonneg c0).symm⟩
  have ha : a < m := by omega
  have hm9 : m ≤ 9 := by omega
  have hm2 : 2 ≤ m := by omega
  obtain ⟨st, hst⟩ : ∃ st : Int, v1 - 10 = st := ⟨_, rfl⟩
  obtain ⟨w0, hw0⟩ : ∃ w, w = W[0] := ⟨_, rfl⟩
  obtain ⟨w1, hw1⟩ : ∃ w, w = W[1] := ⟨_, rfl⟩
  obtain ⟨w2, hw2⟩ : ∃ w, w = W[2] := ⟨_, rfl⟩
  obtain ⟨w3, hw3⟩ : ∃ w, w = W[3] := ⟨_, rfl⟩
  have hne : ∀ (i j : Nat) (hi : i < W.length) (hj : j < W.length), i < j → W[i] ≠ W[j] := fun i j hi hj hij => List.pairwise_iff_getElem.mp hW i j hi hj hij
  have h12 : w1 ≠ w2 := by rw [hw1, hw2]; exact hne _ _ _ _ (by omega)
  have h13 : w1 ≠ w3 := by rw [hw1, hw3]; exact hne _ _ _ _ (by omega)
  have h23 : w2 ≠ w3 := by rw [hw2, hw3]; exact hne _ _ _ _ (by omega)
  have i0 : L2.atI (W.map fun w => (.str w.1 : D)) 0 = some (.str w0.1) := by rw [hw0]; exact atI_nat (i := 0) (by simp [hWl])
  have i1 : L2.atI (W.map fun w => (.str w.1 : D)) 1 = some (.str w1.1) := by rw [hw1]; exact atI_nat (i := 1) (by simp [hWl])
  have i2 : L2.atI (W.map fun w => (.str w.1 : D)) 2 = some (.str w2.1) := by rw [hw2]; exact atI_nat (i := 2) (by simp [hWl])
  have i3 : L2.atI (W.map fun w => (.str w.1 : D)) 3 = some (.str w3.1) := by rw [hw3]; exact atI_nat (i := 3) (by simp [hWl])
  obtain ⟨p', hp'⟩ : ∃ p' : Nat, p' = (a + 1) % m := ⟨_, rfl⟩
  have hpm : p' < m := by rw [hp']; exact Nat.mod_lt _ (by omega)
  have hap : a ≠ p' := by
    intro e
    rw [hp'] at e
    by_cases c : a + 1 < m
    · rw [Nat.mod_eq_of_lt c] at e; omega
    · have : a + 1 = m := by omega
      rw [this, Nat.mod_self] at e; omega
  have hmod : ((a : Int) + 1) % (m : Int) = (p' : Int) := by rw [hp']; exact (Int.natCast_emod _ _).symm
  have hmpos : (0 : Int) < (m : Int) := by omega
  have hmul : ∀ k : Nat, k < m → mulOk 2 (k : Int) = true := fun k hk => mulOk_of (a := 2) (b := 10) (bits_small (by decide)) (bits_small (by omega)) (by omega)
  obtain ⟨B, hB⟩ : ∃ B, B = tab w0 st (fun _ => w1) m := ⟨_, rfl⟩
  have hBl : B.length = m := by rw [hB, tab_len]
  have seta : ∀ (c : Nat → SW) (w : SW) (k : Nat), k < m → ((tab w0 st c m).map Dt.d).set k (.tuple [.str w0.1, .tuple [.int (st + 2 * (k : Int)), .str w.1, .int (k : Int)]]) = (tab w0 st (fun j => if j = k then w else c j) m).map Dt.d := by
    intro c w k hk
    rw [← vf_d w0 st w k, ← List.map_set, tab_set hk]
  have hbase : evN (K (n + 7)) (.lc (.tup (.cons (.bin .idx (.var 1) (.int 0)) (.cons (.tup (.cons (.bin .add (.var 3) (.bin .mul (.int 2) (.var 14))) (.cons (.bin .idx (.var 1) (.int 1)) (.cons (.var 14) .nil)))) .nil))) (.nm 14) (.rng (.var 4)) .no [14]) [.own (DS ds2) true, .val (WD W), .val (.int kind), .val (.int st), .val (.int m), .no, .no, .no, .no, .no, .no, .no, .no, .no, .no, .no] = .ok (.lst (B.map Dt.d), [.own (DS ds2) true, .val (WD W), .val (.int kind), .val (.int st), .val (.int m), .no, .no, .no, .no, .no, .no, .no, .no, .no, .no, .no]) := by
    rw [lc_all (as := List.range m) (l := none) (dd := nd) (f := fun k => Dt.d (vf w0 st w1 k)) (envI := [.own (DS ds2) true, .val (WD W), .val (.int kind), .val (.int st), .val (.int m), .no, .no, .no, .no, .no, .no, .no, .no, .no, .no, .no]) (rng_src (n := m) (by simp! only []) (by omega)) (by simp! only []) (by
      intro k hk
      have u := hmul k (List.mem_range.mp hk)
      simp! only [lcTurn, i0, i1, u, vf_d])]
    rw [hB, tab, List.map_map]
    rfl
  have ua := hmul a ha
  have up := hmul p' hpm
  have hseta : (0 : Int) ≤ (a : Int) ∧ (a : Int) < (m : Int) := by omega
  have hsetp : (0 : Int) ≤ (p' : Int) ∧ (p' : Int) < (m : Int) := by omega
  obtain ⟨O, hO⟩ : ∃ O, O = tab w0 st (fun k => if k = a then w2 else w1) m := ⟨_, rfl⟩
  have hOl : O.length = m := by rw [hO, tab_len]
  have sO : (B.map Dt.d).set a (.tuple [.str w0.1, .tuple [.int (st + 2 * (a : Int)), .str w2.1, .int (a : Int)]]) = O.map Dt.d := by rw [hB, hO]; exact seta _ _ _ ha
  have gB : Good [t0 w0] (canon B) := hB ▸ tab_good (by omega)
  have gO : Good [t0 w0] (canon O) := hO ▸ tab_good (by omega)
  have stB := store7 (n := n) B (by omega)
  have stO := store7 (n := n) O (by omega)
  have d20 : decide ((2 : Int) = 0) = false := rfl
  have d22 : decide ((2 : Int) = 2) = true := rfl
  have d12 : decide ((1 : Int) = 2) = false := rfl
  have d10 : decide ((1 : Int) = 0) = false := rfl
  have d02 : decide ((0 : Int) = 2) = false := rfl
  have d00 : decide ((0 : Int) = 0) = true := rfl
  have sB : ∀ b : Bool, K (n + 7) 15 [.val (.bool b), .val (.bool b)] = .ok (.val (.bool true), [.val (.bool b), .val (.bool b)]) := fun b => same_bool _ b
  have eE : TP [] = .tuple [] := rfl
  rcases hk with rfl | rfl | rfl
  · -- two unlike changes
    obtain ⟨T, hT⟩ : ∃ T, T = tab w0 st (fun k => if k = a then w3 else w1) m := ⟨_, rfl⟩
    have hTl : T.length = m := by rw [hT, tab_len]
    have sT : (B.map Dt.d).set a (.tuple [.str w0.1, .tuple [.int (st + 2 * (a : Int)), .str w3.1, .int (a : Int)]]) = T.map Dt.d := by rw [hB, hT]; exact seta _ _ _ ha
    have gT : Good [t0 w0] (canon T) := hT ▸ tab_good (by omega)
    have iT : L2.atI (T.map Dt.d) (a : Int) = some (Dt.d (vf w0 st w3 a)) := atI_nat (by rw [List.getElem?_map, hT, tab_get ha]; simp)
    have stT := store7 (n := n) T (by omega)
    obtain ⟨U, hU⟩ : ∃ U, U = due0 w0 st w1 w2 w3 m a := ⟨_, rfl⟩
    have hUl : U.length ≤ 30 := by rw [hU]; exact due0_len (by omega)
    have sU : Srt U := hU ▸ due0_srt
    have stU0 : K (n + 7) 20 [.val (.list (O.map Dt.d ++ [Dt.d (vf w0 st w3 a)]))] = .ok (.val (TD U), [.val (.list (O.map Dt.d ++ [Dt.d (vf w0 st w3 a)]))]) := by
      have h := store7 (n := n) (O ++ [vf w0 st w3 a]) (by rw [List.length_append, hOl, List.length_singleton]; omega)
      have e : canon (O ++ [vf w0 st w3 a]) = U := by rw [hU, hO]; rfl
      have e2 : LD (O ++ [vf w0 st w3 a]) = .list (O.map Dt.d ++ [Dt.d (vf w0 st w3 a)]) := by simp [LD]
      rw [e, e2] at h
      exact h
    have stU := store7t (n := n) U (by omega)
    rw [canon_self sU] at stU
    have F := fin_of (n := n) gB gO gT (show mrg (canon B) (canon O) (canon T) = U by rw [hB, hO, hT, hU]; exact mrg_one h12 h13 ha) (by omega)
    obtain ⟨q, hqd⟩ : ∃ q : Fact → Bool, q = fun f => match f.row with | .i z :: _ => decide (z = st + 2 * (a : Int)) | _ => false := ⟨_, rfl⟩
    have hqv : ∀ w k, q (vf w0 st w k) = decide (st + 2 * (k : Int) = st + 2 * (a : Int)) := fun w k => by rw [hqd]; rfl
    obtain ⟨x, y, hxy, hl⟩ := due0_pair (w0 := w0) (st := st) (w1 := w1) h23 ha q fun w k => by rw [hqv]; exact decide_eq_decide.mpr (by omega)
    rw [← hU] at hxy hl
    rw [hl] at F
    have hlc : evN (K (n + 7)) (.lc (.var 15) (.nm 15) (.seq (.bor 11)) (.on (.bin .eq (.bin .idx (.bin .idx (.var 15) (.int 1)) (.int 0)) (.bin .add (.var 3) (.bin .mul (.int 2) (.var 6))))) [15])
        [.own (DS ds3) true, .val (WD W), .val (.int 0), .val (.int st), .val (.int m), .val (LD B), .val (.int a), .val (.int a), .own (.lst (O.map Dt.d)) false, .own (.lst (T.map Dt.d)) false, .val (.tuple [.tuple [.str w0.1, .tuple [.int 0], .tuple [.int 1, .int 2]]]), .val (TD U), .val (.tuple []), .no, .no, .no] =
      .ok (.lst [Dt.d x, Dt.d y], [.own (DS ds3) true, .val (WD W), .val (.int 0), .val (.int st), .val (.int m), .val (LD B), .val (.int a), .val (.int a), .own (.lst (O.map Dt.d)) false, .own (.lst (T.map Dt.d)) false, .val (.tuple [.tuple [.str w0.1, .tuple [.int 0], .tuple [.int 1, .int 2]]]), .val (TD U), .val (.tuple []), .no, .no, .no]) := by
      rw [lc_map (as := U) (l := none) (dd := Dt.d) (f := Dt.d) (q := q) (envI := [.own (DS ds3) true, .val (WD W), .val (.int 0), .val (.int st), .val (.int m), .val (LD B), .val (.int a), .val (.int a), .own (.lst (O.map Dt.d)) false, .own (.lst (T.map Dt.d)) false, .val (.tuple [.tuple [.str w0.1, .tuple [.int 0], .tuple [.int 1, .int 2]]]), .val (TD U), .val (.tuple []), .no, .no, .no]) (by simp! only []) (by simp! only []) (by
        intro f hf
        obtain ⟨w, k, rfl⟩ := due0_vfs f (hU ▸ hf)
        have hq := hqv w k
        rw [vf_d]
        by_cases c : st + 2 * (k : Int) = st + 2 * (a : Int)
        · have c' := decide_eq_true c
          rw [c'] at hq
          simp! only [lcTurn, ua, shI, eqvI, c', hq]
        · have c' := decide_eq_false c
          rw [c'] at hq
          simp! only [lcTurn, ua, shI, eqvI, c', hq]), hxy]
      rfl
    obtain ⟨f1, f2, f3, f4, f5⟩ := F
    rw [t0_d] at f3 f4
    have eP : TP [(x, y)] = .tuple [.tuple [Dt.d x, Dt.d y]] := rfl
    rw [eP] at f4 f5
    have f3' : K (n + 7) 11 [.val (TD U), .val (.tuple [.tuple [.str w0.1, .tuple [.int 0], .tuple [.int 1, .int 2]]])] = .ok (.val (.bool false), [.val (TD U), .val (.tuple [.tuple [.str w0.1, .tuple [.int 0], .tuple [.int 1, .int 2]]])]) := f3
    have hadd : m + 1 ≤ sizeLine := by omega
    refine ⟨ds3, ?_⟩
    rw [K_step _ rfl rfl]; simp! only [k78__law_numbered, t1, t2, t3, hst, hm, hbase, i0, i1, i2, i3, hmod, hmpos, ua, up, hseta, hBl, hOl, sO, sT, iT, Int.toNat_natCast, shI, eqvI, d02, d00, hadd, stU0, hlc, stB, stO, stT, stU, f1, f2, f3', f4, f5, sB, decide_false, decide_true]
  · -- the same change
    have F := fin_of (n := n) gB gO gO (mrg_same gO.srt) (by have := canon_len O; omega)
    rw [(hO ▸ tab_keeps : Keeps [t0 w0] (canon O)).none] at F
    obtain ⟨f1, f2, f3, f4, f5⟩ := F
    rw [t0_d] at f3 f4
    rw [eE] at f4 f5
    rw [List.length_nil, decide_eq_true rfl] at f3
    refine ⟨ds3, ?_⟩
    rw [K_step _ rfl rfl]; simp! only [k78__law_numbered, t1, t2, t3, hst, hm, hbase, i0, i1, i2, i3, hmod, hmpos, ua, up, hseta, hBl, hOl, sO, Int.toNat_natCast, shI, eqvI, d12, d10, stB, stO, f1, f2, f3, f4, f5, sB, decide_false, decide_true]
  · -- two changes
    obtain ⟨T, hT⟩ : ∃ T, T = tab w0 st (fun k => if k = p' then w3 else w1) m := ⟨_, rfl⟩
    have hTl : T.length = m := by rw [hT, tab_len]
    have sT : (B.map Dt.d).set p' (.tuple [.str w0.1, .tuple [.int (st + 2 * (p' : Int)), .str w3.1, .int (p' : Int)]]) = T.map Dt.d := by rw [hB, hT]; exact seta _ _ _ hpm
    have gT : Good [t0 w0] (canon T) := hT ▸ tab_good (by omega)
    obtain ⟨U, hU⟩ : ∃ U, U = tab w0 st (fun k => if k = p' then w3 else if k = a then w2 else w1) m := ⟨_, rfl⟩
    have hUl : U.length = m := by rw [hU, tab_len]
    have sU : (O.map Dt.d).set p' (Dt.d (vf w0 st w3 p')) = U.map Dt.d := by rw [hO, hU, vf_d]; exact seta _ _ _ hpm
    have iT : L2.atI (T.map Dt.d) (p' : Int) = some (Dt.d (vf w0 st w3 p')) := atI_nat (by rw [List.getElem?_map, hT, tab_get hpm]; simp)
    have stT := store7 (n := n) T (by omega)
    have stU := store7 (n := n) U (by omega)
    have F := fin_of (n := n) gB gO gT (show mrg (canon B) (canon O) (canon T) = canon U by rw [hB, hO, hT, hU]; exact mrg_two h12 h13 hap) (by have := canon_len U; omega)
    rw [(hU ▸ tab_keeps : Keeps [t0 w0] (canon U)).none] at F
    obtain ⟨f1, f2, f3, f4, f5⟩ := F
    rw [t0_d] at f3 f4
    rw [eE] at f4 f5
    rw [List.length_nil, decide_eq_true rfl] at f3
    refine ⟨ds3, ?_⟩
    rw [K_step _ rfl rfl]; simp! only [k78__law_numbered, t1, t2, t3, hst, hm, hbase, i0, i1, i2, i3, hmod, hmpos, ua, up, hseta, hsetp, hBl, hOl, sO, sT, sU, iT, Int.toNat_natCast, shI, eqvI, d20, d22, stB, stO, stT, stU, f1, f2, f3, f4, f5, sB, decide_false, decide_true]
end VE
/-! VP17: the law -/
namespace VE
local macro_rules | `(tactic| simp! only [$ts,*]) => `(tactic| simp only [q_ev_int, q_ev_str, q_ev_bl, q_ev_non, q_ev_var, q_ev_bor, q_ev_tup, q_ev_nw, q_ev_un, q_ev_bin, q_ev_and, q_ev_or, q_ev_ite, q_ev_sl, q_ev_slf, q_ev_call, q_ev_pop, q_evs_nil, q_evs_cons, q_evA_nil, q_evA_v, q_evA_io, q_evA_sc, q_evN_lst, q_evN_toL, q_evN_vals, q_evN_keysL, q_evN_cat, q_evN_dnew, q_evN_srt, q_evN_srtk, q_evN_call, q_evSrc_seq, q_evSrc_scr, q_evSrc_rng, q_evSrc_rng2, q_evSrc_enum, q_evC_no, q_evC_on, q_ex_asg, q_ex_own, q_ex_aug, q_ex_setIx, q_ex_app, q_ex_rev, q_ex_sdapp, q_ex_ife, q_ex_ret, q_ex_retO, q_ex_exp, q_ex_frz, q_ex_pass, q_ex_brk, q_ex_cnt, q_exs_nil, q_exs_cons, u_len_l, u_len_t, u_len_s, u_toInt, u_tup_l, u_tup_t, u_isInt_int, u_isInt_bool, u_isInt_str, u_isInt_tuple, u_isInt_list, u_isInt_none, u_isStr_int, u_isStr_bool, u_isStr_str, u_isStr_tuple, u_isStr_list, u_isStr_none, u_isTup_int, u_isTup_bool, u_isTup_str, u_isTup_tuple, u_isTup_list, u_isTup_none, u_isBool_int, u_isBool_bool, u_isBool_str, u_isBool_tuple, u_isBool_list, u_isBool_none, u_isList_int, u_isList_bool, u_isList_str, u_isList_tuple, u_isList_list, u_isList_none, u_isSeq_int, u_isSeq_bool, u_isSeq_str, u_isSeq_tuple, u_isSeq_list, u_isSeq_none, u_isNon_int, u_isNon_bool, u_isNon_str, u_isNon_tuple, u_isNon_list, u_isNon_none, u_notNon_int, u_notNon_bool, u_notNon_str, u_notNon_tuple, u_notNon_list, u_notNon_none, u_not, u_neg, u_isTru, u_notTru, u_maxL, b_add_i, b_add_s, b_add_l, b_add_t, b_sub, b_mul, b_mod, b_lt, b_le, b_gt, b_ge, b_idx_l, b_idx_t, b_eq, b_ne, b_in, b_nin, shI, shB, eqvI, eqvB, asV, asT, getV, setV, setO, opV, deref, itemsOf, itemsL, lend, unlend, wipeE, backE, mkArgs, ios, putOuts, runCall, outsOf, out1, fin, setT, setAll, bnd, isOL, isOD, ↓bind_bdk, okbk, ofs, Ret.fr, O.fr, n1, seqD, List.length_cons, List.length_nil, List.length_replicate, List.replicate, List.cons_append, List.nil_append, List.append_nil, List.set, List.getElem?_cons_zero, List.getElem?_cons_succ, List.getElem?_nil, List.nodup_nil, List.nodup_cons, List.not_mem_nil, not_false_eq_true, and_self, true_and, and_true, if_true, if_false, Bool.false_eq_true, ↓reduceIte, reduceCtorEq, Nat.reduceAdd, Nat.reduceSub, Nat.reduceEqDiff, Nat.zero_add, Option.bind_some, Option.bind_none, Option.map_some, sz0, sz1, sz2, sz3, sz4, sz5, sz6, sz7, Bool.and_self, Bool.and_false, Bool.false_and, Bool.and_true, Bool.true_and, Bool.not_true, Bool.not_false, List.length_map, at0, at1, at2, at3, endR_nx, endR_rt, $ts,*])
open PySem PySem.W
                        PyProof.Rows

section
variable {n : Nat}
theorem take8 (ds : List Int) (m : Int) (hm : 0 < m) : ∃ v ds', 0 ≤ v ∧ v < m ∧ K (n + 8) 13 [.own (DS ds) true, .val (.int m)] = .ok (.val (.int v), [.own (DS ds') true, .val (.int m)]) := r_take (n + 7) ds m hm
theorem pick8 (ds : List Int) (row : List D) (hr : row ≠ []) (hl : row.length ≤ sizeLine) : ∃ d ds', d ∈ row ∧ K (n + 8) 14 [.own (DS ds) true, .val (.list row)] = .ok (.val d, [.own (DS ds') true, .val (.list row)]) := r_pick (n + 6) ds row hr hl
theorem tie8 (ds : List Int) (p : Place) (har : p.ar ≤ 4) :
    ∃ (t : Tie) (ds' : List Int), t.name = p.name ∧ (∀ i ∈ t.left, i < p.ar) ∧ (∀ i ∈ t.right, i < p.ar) ∧ K (n + 8) 29 [.own (DS ds) true, .val p.d] = .ok (.val t.d, [.own (DS ds') true, .val p.d]) := r_tie (n + 6) ds p har
theorem fact8 (ds : List Int) (PL : List Place) (vs : List Cell) (hP : PL ≠ []) (hPl : PL.length ≤ 100) (ha : ∀ p ∈ PL, p.ar ≤ 4) (hv : vs.length = 3) :
    ∃ (f : Fact) (ds' : List Int), (∃ p ∈ PL, f.name = p.name ∧ f.row.length = p.ar) ∧ K (n + 8) 28 [.own (DS ds) true, .val (.list (PL.map Place.d)), .val (.list (vs.map Cell.d))] = .ok (.val (Dt.d f), [.own (DS ds') true, .val (.list (PL.map Place.d)), .val (.list (vs.map Cell.d))]) := r_fact (n + 5) ds PL vs hP hPl ha hv
theorem grown8 (s fs : List Fact) (ts : List Tie) (hs : AllFit ts s) (hf : AllFit ts fs) (h1 : s.length ≤ 100) (h2 : fs.length ≤ 100) (hk : Keeps ts s) :
    ∃ g : List Fact, Srt g ∧ g.length ≤ s.length + fs.length ∧ (∀ x ∈ g, x ∈ s ∨ x ∈ fs) ∧ Keeps ts g ∧
      K (n + 8) 27 [.val (TD s), .val (LD fs), .val (TT ts)] = .ok (.val (TD g), [.val (TD s), .val (LD fs), .val (TT ts)]) := r_grown (n + 3) s fs ts hs hf h1 h2 hk
theorem store8 (s : List Fact) (hl : s.length ≤ 100) : K (n + 8) 20 [.val (LD s)] = .ok (.val (TD (canon s)), [.val (LD s)]) := store7 (n := n + 1) s hl
theorem lcl8 (s : List Fact) (ts : List Tie) (hf : AllFit ts s) (hl : s.length ≤ 1000) :
    K (n + 8) 25 [.val (TD s), .val (TT ts)] = .ok (.val (TP (lprs ts s)), [.val (TD s), .val (TT ts)]) := r_law_clashes (n + 5) s ts hf hl
theorem keeps8 (s : List Fact) (ts : List Tie) (hf : AllFit ts s) (hl : s.length ≤ 100) (ht : ts.length ≤ 10) (hs : Srt s) :
    K (n + 8) 11 [.val (TD s), .val (TT ts)] = .ok (.val (.bool (decide ((lprs ts s).length = 0))), [.val (TD s), .val (TT ts)]) := r_keeps_all (n + 2) s ts hf hl ht hs
theorem same8 (b : Bool) : K (n + 8) 15 [.val (.bool b), .val (.bool b)] = .ok (.val (.bool true), [.val (.bool b), .val (.bool b)]) := same_bool _ b
theorem goes8 {ts : List Tie} {bs ss os : List Fact} (hb : Good ts bs) (hs : Good ts ss) (ho : Good ts os) (kb : Keeps ts bs) (ks : Keeps ts ss) (ko : Keeps ts os) (ht : ts.length ≤ 10) :
    K (n + 8) 30 [.val (TD bs), .val (TD ss), .val (TD os), .val (TT ts)] = .ok (.val (.bool true), [.val (TD bs), .val (TD ss), .val (TD os), .val (TT ts)]) := r_goes (n := n + 1) hb hs ho kb ks ko ht
theorem words8 (ds : List Int) : ∃ (W : List SW) (ds' : List Int), W.Nodup ∧ W.length = 9 ∧ K (n + 8) 16 [.own (DS ds) true, .val (.int 9)] = .ok (.val (WD W), [.own (DS ds') true, .val (.int 9)]) := by
  obtain ⟨W, ds', h1, h2, _, h⟩ := r_words (n + 6) ds
  exact ⟨W, ds', h1, h2, h⟩
theorem values8 (ds : List Int) (W : List SW) (hW : W.length = 9) : ∃ (vs : List Cell) (ds' : List Int), vs.length = 3 ∧ K (n + 8) 21 [.own (DS ds) true, .val (WD W)] = .ok (.val (.list (vs.map Cell.d)), [.own (DS ds') true, .val (WD W)]) := r_values (n + 5) ds W hW
theorem places8 (ds : List Int) (a b : SW) : ∃ (x y : Nat) (ds' : List Int), x ≤ 3 ∧ y ≤ 3 ∧ K (n + 8) 22 [.own (DS ds) true, .val (.list [.str a.1, .str b.1]), .val (.int 2)] = .ok (.val (.list [Place.d ⟨a, x⟩, Place.d ⟨b, y⟩]), [.own (DS ds') true, .val (.list [.str a.1, .str b.1]), .val (.int 2)]) := r_places (n + 6) ds a b
theorem draws8 (ns : List Int) (hl : ns.length ≤ 63) (hb : ∀ z ∈ ns, Builtin.Int.intBits z ≤ 1048576) :
    ∃ ds : List Int, K (n + 8) 12 [.scr ns, .val (.int 900)] = .ok (.own (DS ds), [.scr ns, .val (.int 900)]) := r_draws (n + 7) ns hl hb
end

/-- a fact, a tie of the places -/
def GF (PL : List Place) (f : Fact) : Prop := ∃ p ∈ PL, f.name = p.name ∧ f.row.length = p.ar
def GT (PL : List Place) (t : Tie) : Prop := ∃ p ∈ PL, t.name = p.name ∧ (∀ i ∈ t.left, i < p.ar) ∧ (∀ i ∈ t.right, i < p.ar)
structure GPL (PL : List Place) : Prop where
  ne : PL ≠ []
  len : PL.length ≤ 100
  ar : ∀ p ∈ PL, p.ar ≤ 4
  nd : ∀ p ∈ PL, ∀ q ∈ PL, p.name = q.name → p = q
section
variable {PL : List Place} (hP : GPL PL)
include hP
theorem GPL.fit {t : Tie} {f : Fact} (ht : GT PL t) (hf : GF PL f) : TFit t f := by
  intro e
  obtain ⟨p, hp, h1, h2, h3⟩ := ht
  obtain ⟨q, hq, h4, h5⟩ := hf
  have : p = q := hP.nd p hp q hq (h1.symm.trans (e.symm.trans h4))
  subst this
  rw [h5]
  exact ⟨h2, h3⟩
theorem GPL.all {ts : List Tie} {fs : List Fact} (ht : ∀ t ∈ ts, GT PL t) (hf : ∀ f ∈ fs, GF PL f) : AllFit ts fs := fun f h1 t h2 => hP.fit (ht t h2) (hf f h1)
theorem GPL.good {ts : List Tie} {s : List Fact} (ht : ∀ t ∈ ts, GT PL t) (hf : ∀ f ∈ s, GF PL f) (hs : Srt s) (hl : s.length ≤ 30) : Good ts s :=
  ⟨hs, hl, hP.all ht hf, fun f h => by
    obtain ⟨q, hq, _, h5⟩ := hf f h
    rw [h5]; exact hP.ar q hq⟩
end
theorem cutL_map {α β : Type} (f : α → β) (xs : List α) (lo hi : Option Int) : cutL (xs.map f) lo hi = (cutL xs lo hi).map f := by
  unfold cutL
  rw [List.length_map, List.map_take, List.map_drop]
theorem cutL_mem {α : Type} {xs : List α} {lo hi : Option Int} {x : α} (h : x ∈ cutL xs lo hi) : x ∈ xs := List.mem_of_mem_drop (List.mem_of_mem_take h)
theorem cutL_len {α : Type} (xs : List α) (lo hi : Option Int) : (cutL xs lo hi).length ≤ xs.length := by
  unfold cutL
  rw [List.length_take,
                          List.length_drop]
  omega
/-- the law's slots -/
abbrev EV (ns ds : List Int) (W : List SW) (cs : List Cell) (PL : List Place) (x5 x6 x7 x8 x9 x10 x11 x12 x13 x14 : Sl) : Env :=
  [.scr ns, .own (DS ds) false, .val (WD W), .val (.list (cs.map Cell.d)), .val (.list (PL.map Place.d)), x5, x6, x7, x8, x9, x10, x11, x12, x13, x14]
section
variable {n : Nat} {ns ds : List Int} {W : List SW} {cs : List Cell} {PL : List Place} {x5 x6 x7 x8 x9 x10 x11 x12 x13 x14 : Sl}
/-- drawn facts -/
theorem facts_ok (hP : GPL PL) (hc : cs.length = 3) (h10 : FreeS x10) {src : Src} {N : Nat} {ds1 : List Int} (hg : evSrc (K (n + 8)) src (EV ns ds W cs PL x5 x6 x7 x8 x9 x10 x11 x12 x13 x14) = .ok ((List.range N).map nd, none, EV ns ds1 W cs PL x5 x6 x7 x8 x9 x10 x11 x12 x13 x14)) :
    ∃ (fs : List Fact) (ds' : List Int), fs.length = N ∧ (∀ f ∈ fs, GF PL f) ∧
      evN (K (n + 8)) (.lc (.call 28 (.io 1 (.v (.var 4) (.v (.var 3) .nil)))) (.nm 10) src .no [10]) (EV ns ds W cs PL x5 x6 x7 x8 x9 x10 x11 x12 x13 x14) = .ok (.lst (fs.map Dt.d), EV ns ds' W cs PL x5 x6 x7 x8 x9 x10 x11 x12 x13 x14) := by
  obtain ⟨fs, ds', h1, h2, h3⟩ := lc_st (rn := K (n + 8)) (elt := .call 28 (.io 1 (.v (.var 4) (.v (.var 3) .nil)))) (t := .nm 10) (src := src) (cd := .no) (vs := [10]) (List.range N) nd (Dt.d : Fact → D) (fun _ f => GF PL f)
    (fun ds => EV ns ds W cs PL x5 x6 x7 x8 x9 x10 x11 x12 x13 x14) (fun ds => EV ns ds W cs PL x5 x6 x7 x8 x9 .no x11 x12 x13 x14) (s1 := ds1) hg
    (by rcases h10 with rfl | ⟨d, rfl⟩ <;> simp! only []) (by intro s s'; simp! only []) (by
      intro k hk s
      obtain ⟨f, s', hf, r⟩ := fact8 (n := n) s PL cs hP.ne hP.len hP.ar hc
      refine ⟨f, s', hf, ?_⟩
      simp! only [lcTurn, r])
  rw [List.length_range] at h1
  exact ⟨fs, ds', h1, fun f hf => (all_of (by rw [h1, List.length_range]) h2 f hf).elim fun _ h => h.2, h3⟩
/-- range of a draw -/
theorem rng_take (m : Int) (hm : 0 < m) (hm2 : m ≤ 1000) : ∃ (N : Nat) (ds1 : List Int), (N : Int) < m ∧ evSrc (K (n + 8)) (.rng (.call 13 (.io 1 (.v (.int m) .nil)))) (EV ns ds W cs PL x5 x6 x7 x8 x9 x10 x11 x12 x13 x14) = .ok ((List.range N).map nd, none, EV ns ds1 W cs PL x5 x6 x7 x8 x9 x10 x11 x12 x13 x14) := by
  have sz := szL
  obtain ⟨v, ds1, h0, h1, t⟩ := take8 (n := n) ds m (by omega)
  obtain ⟨N, rfl⟩ : ∃ N : Nat, v = (N : Int) := ⟨v.toNat, (Int.toNat_of_nonneg h0).symm⟩
  refine ⟨N, ds1, by omega, ?_⟩
  have q := rngOk (n := N) (by omega)
  rw [q_evSrc_rng]
  simp! only [t]
  simp only [q, if_true, Int.toNat_natCast, rng0]
/-- drawn ties -/
theorem ties_ok (hP : GPL PL) (h10 : FreeS x10) : ∃ (ts : List Tie) (ds' : List Int), ts.length ≤ 5 ∧ (∀ t ∈ ts, GT PL t) ∧
      evN (K (n + 8)) (.lc (.call 29 (.io 1 (.v (.call 14 (.io 1 (.v (.var 4) .nil))) .nil))) (.nm 10) (.rng (.call 13 (.io 1 (.v (.int 6) .nil)))) .no [10]) (EV ns ds W cs PL x5 x6 x7 x8 x9 x10 x11 x12 x13 x14) = .ok (.lst (ts.map Tie.d), EV ns ds' W cs PL x5 x6 x7 x8 x9 x10 x11 x12 x13 x14) := by
  have sz := szL
  obtain ⟨N, ds1, hN, hg⟩ := rng_take (n := n) (ns := ns) (ds := ds) (W := W) (cs := cs) (PL := PL) (x5 := x5) (x6 := x6) (x7 := x7) (x8 := x8) (x9 := x9) (x10 := x10) (x11 := x11) (x12 := x12) (x13 := x13) (x14 := x14) 6 (by omega) (by omega)
  obtain ⟨ts, ds', h1, h2, h3⟩ := lc_st (rn := K (n + 8)) (elt := .call 29 (.io 1 (.v (.call 14 (.io 1 (.v (.var 4) .nil))) .nil))) (t := .nm 10) (src := .rng (.call 13 (.io 1 (.v (.int 6) .nil)))) (cd := .no) (vs := [10]) (List.range N) nd Tie.d (fun _ t => GT PL t)
    (fun ds => EV ns ds W cs PL x5 x6 x7 x8 x9 x10 x11 x12 x13 x14) (fun ds => EV ns ds W cs PL x5 x6 x7 x8 x9 .no x11 x12 x13 x14) (s1 := ds1) hg
    (by rcases h10 with rfl | ⟨d, rfl⟩ <;> simp! only []) (by intro s s'; simp! only []) (by
      intro k hk s
      obtain ⟨d, s1, hd, r1⟩ := pick8 (n := n) s (PL.map Place.d) (by simpa using hP.ne) (by rw [List.length_map]; have := hP.len; omega)
      obtain ⟨p, hp, rfl⟩ := List.mem_map.mp hd
      obtain ⟨t, s2, e1, e2, e3, r2⟩ := tie8 (n := n) s1 p (hP.ar p hp)
      refine ⟨t, s2, ⟨p, hp, e1, e2, e3⟩, ?_⟩
      simp! only [lcTurn, r1, r2])
  rw [List.length_range] at h1
  exact ⟨ts, ds', by omega, fun f hf => (all_of (by rw [h1, List.length_range]) h2 f hf).elim fun _ h => h.2, h3⟩
end
end VE
/-! VP18: the law is True -/
namespace VE
local macro_rules | `(tactic| simp! only [$ts,*]) => `(tactic| simp only [q_ev_int, q_ev_str, q_ev_bl, q_ev_non, q_ev_var, q_ev_bor, q_ev_tup, q_ev_nw, q_ev_un, q_ev_bin, q_ev_and, q_ev_or, q_ev_ite, q_ev_sl, q_ev_slf, q_ev_call, q_ev_pop, q_evs_nil, q_evs_cons, q_evA_nil, q_evA_v, q_evA_io, q_evA_sc, q_evN_lst, q_evN_toL, q_evN_vals, q_evN_keysL, q_evN_cat, q_evN_dnew, q_evN_srt, q_evN_srtk, q_evN_call, q_evSrc_seq, q_evSrc_scr, q_evSrc_rng, q_evSrc_rng2, q_evSrc_enum, q_evC_no, q_evC_on, q_ex_asg, q_ex_own, q_ex_aug, q_ex_setIx, q_ex_app, q_ex_rev, q_ex_sdapp, q_ex_ife, q_ex_ret, q_ex_retO, q_ex_exp, q_ex_frz, q_ex_pass, q_ex_brk, q_ex_cnt, q_exs_nil, q_exs_cons, u_len_l, u_len_t, u_len_s, u_toInt, u_tup_l, u_tup_t, u_isInt_int, u_isInt_bool, u_isInt_str, u_isInt_tuple, u_isInt_list, u_isInt_none, u_isStr_int, u_isStr_bool, u_isStr_str, u_isStr_tuple, u_isStr_list, u_isStr_none, u_isTup_int, u_isTup_bool, u_isTup_str, u_isTup_tuple, u_isTup_list, u_isTup_none, u_isBool_int, u_isBool_bool, u_isBool_str, u_isBool_tuple, u_isBool_list, u_isBool_none, u_isList_int, u_isList_bool, u_isList_str, u_isList_tuple, u_isList_list, u_isList_none, u_isSeq_int, u_isSeq_bool, u_isSeq_str, u_isSeq_tuple, u_isSeq_list, u_isSeq_none, u_isNon_int, u_isNon_bool, u_isNon_str, u_isNon_tuple, u_isNon_list, u_isNon_none, u_notNon_int, u_notNon_bool, u_notNon_str, u_notNon_tuple, u_notNon_list, u_notNon_none, u_not, u_neg, u_isTru, u_notTru, u_maxL, b_add_i, b_add_s, b_add_l, b_add_t, b_sub, b_mul, b_mod, b_lt, b_le, b_gt, b_ge, b_idx_l, b_idx_t, b_eq, b_ne, b_in, b_nin, shI, shB, eqvI, eqvB, asV, asT, getV, setV, setO, opV, deref, itemsOf, itemsL, lend, unlend, wipeE, backE, mkArgs, ios, putOuts, runCall, outsOf, out1, fin, setT, setAll, bnd, isOL, isOD, ↓bind_bdk, okbk, ofs, Ret.fr, O.fr, n1, seqD, List.length_cons, List.length_nil, List.length_replicate, List.replicate, List.cons_append, List.nil_append, List.append_nil, List.set, List.getElem?_cons_zero, List.getElem?_cons_succ, List.getElem?_nil, List.nodup_nil, List.nodup_cons, List.not_mem_nil, not_false_eq_true, and_self, true_and, and_true, if_true, if_false, Bool.false_eq_true, ↓reduceIte, reduceCtorEq, Nat.reduceAdd, Nat.reduceSub, Nat.reduceEqDiff, Nat.zero_add, Option.bind_some, Option.bind_none, Option.map_some, sz0, sz1, sz2, sz3, sz4, sz5, sz6, sz7, Bool.and_self, Bool.and_false, Bool.false_and, Bool.and_true, Bool.true_and, Bool.not_true, Bool.not_false, List.length_map, at0, at1, at2, at3, endR_nx, endR_rt, $ts,*])
open PySem PySem.W
                        PyProof.Rows
section
variable {n : Nat} {ns ds : List Int} {W : List SW} {cs : List Cell} {PL : List Place} {x5 x6 x7 x8 x9 x10 x11 x12 x13 x14 : Sl}
abbrev lwV : Ss := (.cons (.asg (.nm 11) (.un .toTup (.nw (.lc (.var 14) (.nm 14) (.seq (.var 7)) (.on (.bin .gt (.call 13 (.io 1 (.v (.int 3) .nil))) (.int 0))) [14]))))
  (.cons (.app 9 (.call 27 (.v (.var 11) (.v (.sl (.var 8) (.bin .mul (.int 2) (.var 10)) (.bin .add (.bin .add (.bin .mul (.int 2) (.var 10)) (.int 2)) (.call 13 (.io 1 (.v (.int 3) .nil))))) (.v (.var 6) .nil)))))
  .nil))
/-- the versions: the one turn -/
theorem ver_ok {ts : List Tie} {base news : List Fact} {vers : List (List Fact)} {k : Nat} (hP : GPL PL) (ht : ∀ t ∈ ts, GT PL t) (hb : ∀ f ∈ base, GF PL f) (hn : ∀ f ∈ news, GF PL f) (hbl : base.length ≤ 9) (hnl : news.length = 6) (kb : Keeps ts base) (hk : k < 2) (hv : vers.length ≤ 10) (h11 : FreeS x11) (h14 : FreeS x14) :
    ∃ (g : List Fact) (ds' : List Int) (y11 : Sl), FreeS y11 ∧ Srt g ∧ g.length ≤ 20 ∧ (∀ f ∈ g, GF PL f) ∧ Keeps ts g ∧
      exs (K (n + 8)) lwV (EV ns ds W cs PL x5 (.val (TT ts)) (.val (TD base)) (.val (LD news)) (.own (.lst (vers.map TD)) false) (.val (nd k)) x11 x12 x13 x14) = .ok (.nx (EV ns ds' W cs PL x5 (.val (TT ts)) (.val (TD base)) (.val (LD news)) (.own (.lst ((vers ++ [g]).map TD)) false) (.val (nd k)) y11 x12 x13 x14)) := by
  have sz := szL
  obtain ⟨kept, ds1, h1, h2, h3⟩ := lc_sto (rn := K (n + 8)) (elt := .var 14) (t := .nm 14) (src := .seq (.var 7)) (cd := .on (.bin .gt (.call 13 (.io 1 (.v (.int 3) .nil))) (.int 0))) (vs := [14]) base Dt.d (Dt.d : Fact → D) (fun b a => b = a)
    (fun ds => EV ns ds W cs PL x5 (.val (TT ts)) (.val (TD base)) (.val (LD news)) (.own (.lst (vers.map TD)) false) (.val (nd k)) x11 x12 x13 x14) (fun ds => EV ns ds W cs PL x5 (.val (TT ts)) (.val (TD base)) (.val (LD news)) (.own (.lst (vers.map TD)) false) (.val (nd k)) x11 x12 x13 .no) (s1 := ds)
    (env := EV ns ds W cs PL x5 (.val (TT ts)) (.val (TD base)) (.val (LD news)) (.own (.lst (vers.map TD)) false) (.val (nd k)) x11 x12 x13 x14)
    (by simp! only []) (by rcases h14 with rfl | ⟨d, rfl⟩ <;> simp! only []) (by intro s s'; simp! only []) (by
      intro b hb s
      obtain ⟨v, s', v0, v1, t⟩ := take8 (n := n) s 3 (by omega)
      by_cases c : 0 < v
      · refine ⟨some b, s', ⟨fun x e => by cases e; rfl, ?_⟩⟩
        simp! only [lcTurn, t, c, decide_true]
      · refine ⟨none, s', ⟨fun x e => (by cases e), ?_⟩⟩
        simp! only [lcTurn, t, c, decide_false, Option.map_none])
  have hkb : ∀ f ∈ kept, f ∈ base := fun f hf => by
    obtain ⟨b, hb, rfl⟩ := h2 f hf
    exact hb
  obtain ⟨v, ds2, v0, v1, t⟩ := take8 (n := n) ds1 3 (by omega)
  obtain ⟨sl, hsl, hsll, hslm⟩ : ∃ sl : List Fact, slD (.list (news.map Dt.d)) (.int (2 * (k : Int))) (some (.int (2 * (k : Int) + 2 + v))) = some (LD sl) ∧ sl.length ≤ 6 ∧ ∀ f ∈ sl, f ∈ news := by
    refine ⟨cutL news (some (2 * (k : Int))) (some (2 * (k : Int) + 2 + v)), ?_, ?_, fun f hf => cutL_mem hf⟩
    · show some (PyData.list (cutL (news.map Dt.d) _ _)) = _
      rw [cutL_map]
    · have := cutL_len news (some (2 * (k : Int))) (some (2 * (k : Int) + 2 + v))
      omega
  obtain ⟨g, g1, g2, g3, g4, r⟩ := grown8 (n := n) kept sl ts (hP.all ht fun f hf => hb f (hkb f hf)) (hP.all ht fun f hf => hn f (hslm f hf)) (by omega) (by omega) (fun x hx y hy => kb x (hkb x hx) y (hkb y hy))
  have u1 : mulOk 2 (k : Int) = true := mulOk_of (a := 2) (b := 10) (bits_small (by decide)) (bits_small (by omega)) (by omega)
  have hvl : vers.length < sizeLine := by omega
  refine ⟨g, ds2, .val (TD kept), .val, g1, by omega, fun f hf => (g3 f hf).elim (fun z => hb f (hkb f z)) fun z => hn f (hslm f z), g4, ?_⟩
  rcases h11 with rfl | ⟨d, rfl⟩ <;> simp! only [h3, u1, t, hsl, r, hvl, List.map_append, List.map_cons, List.map_nil]
abbrev lwB : Ss := (.cons (.asg (.nm 6) (.un .toTup (.nw (.lc (.call 29 (.io 1 (.v (.call 14 (.io 1 (.v (.var 4) .nil))) .nil))) (.nm 10) (.rng (.call 13 (.io 1 (.v (.int 6) .nil)))) .no [10]))))
  (.cons (.asg (.nm 7) (.call 27 (.v (.tup .nil) (.v (.nw (.lc (.call 28 (.io 1 (.v (.var 4) (.v (.var 3) .nil)))) (.nm 10) (.rng (.call 13 (.io 1 (.v (.int 10) .nil)))) .no [10])) (.v (.var 6) .nil)))))
  (.cons (.asg (.nm 8) (.nw (.lc (.call 28 (.io 1 (.v (.var 4) (.v (.var 3) .nil)))) (.nm 10) (.rng (.int 6)) .no [10])))
  (.cons (.own 9 (.lst .nil))
  (.cons (.fr (.nm 10) (.rng (.int 2)) lwV)
  (.cons (.ife (.un .not (.call 30 (.v (.var 7) (.v (.bin .idx (.bor 9) (.int 0)) (.v (.bin .idx (.bor 9) (.int 1)) (.v (.var 6) .nil)))))) (.cons (.ret (.bl false))
  .nil) .nil)
  (.cons (.asg (.nm 12) (.call 20 (.v (.nw (.lc (.call 28 (.io 1 (.v (.var 4) (.v (.var 3) .nil)))) (.nm 10) (.rng (.call 13 (.io 1 (.v (.int 6) .nil)))) .no [10])) .nil)))
  (.cons (.ife (.un .not (.call 15 (.v (.call 11 (.v (.var 12) (.v (.var 6) .nil))) (.v (.bin .eq (.un .len (.call 25 (.v (.var 12) (.v (.var 6) .nil)))) (.int 0)) .nil)))) (.cons (.ret (.bl false))
  .nil) .nil)
  .nil))))))))
/-- free, or owned and not lent in -/
def FreeO (x : Sl) : Prop := FreeS x ∨ ∃ o, x = .own o false
theorem turn_ok (hP : GPL PL) (hc : cs.length = 3) (h6 : FreeS x6) (h7 : FreeS x7) (h8 : FreeS x8) (h9 : FreeO x9) (h10 : FreeS x10) (h11 : FreeS x11) (h12 : FreeS x12) :
    ∃ (ds' : List Int) (y6 y7 y8 y9 y10 y11 y12 : Sl), FreeS y6 ∧ FreeS y7 ∧ FreeS y8 ∧ FreeO y9 ∧ FreeS y10 ∧ FreeS y11 ∧ FreeS y12 ∧
      exs (K (n + 8)) lwB (EV ns ds W cs PL x5 x6 x7 x8 x9 x10 x11 x12 .no .no) = .ok (.nx (EV ns ds' W cs PL x5 y6 y7 y8 y9 y10 y11 y12 .no .no)) := by
  have sz := szL
  obtain ⟨ts, ds1, htl, ht, hts⟩ := ties_ok (n := n) (ns := ns) (ds := ds) (W := W) (cs := cs) (x5 := x5) (x6 := x6) (x7 := x7) (x8 := x8) (x9 := x9) (x11 := x11) (x12 := x12) (x13 := .no) (x14 := .no) hP h10
  have s1 : ex (K (n + 8)) (.asg (.nm 6) (.un .toTup (.nw (.lc (.call 29 (.io 1 (.v (.call 14 (.io 1 (.v (.var 4) .nil))) .nil))) (.nm 10) (.rng (.call 13 (.io 1 (.v (.int 6) .nil)))) .no [10])))) (EV ns ds W cs PL x5 x6 x7 x8 x9 x10 x11 x12 .no .no) = .ok (.nx (EV ns ds1 W cs PL x5 (.val (TT ts)) x7 x8 x9 x10 x11 x12 .no .no)) := by
    rcases h6 with rfl | ⟨d, rfl⟩ <;> simp! only [hts]
  -- base
  obtain ⟨N, ds2, hN, hg2⟩ := rng_take (n := n) (ns := ns) (ds := ds1) (W := W) (cs := cs) (PL := PL) (x5 := x5) (x6 := .val (TT ts)) (x7 := x7) (x8 := x8) (x9 := x9) (x10 := x10) (x11 := x11) (x12 := x12) (x13 := .no) (x14 := .no) 10 (by omega) (by omega)
  obtain ⟨F1, ds3, hF1l, hF1, hf1⟩ := facts_ok hP hc h10 hg2
  obtain ⟨base, g1, g2, g3, g4, rb⟩ := grown8 (n := n) [] F1 ts (fun f hf => by cases hf) (hP.all ht hF1) (by simp) (by omega) (fun x hx => by cases hx)
  have rb' : K (n + 8) 27 [.val (.tuple []), .val (LD F1), .val (TT ts)] = .ok (.val (TD base), [.val (.tuple []), .val (LD F1), .val (TT ts)]) := rb
  rw [List.length_nil, Nat.zero_add] at g2
  have gb : ∀ f ∈ base, GF PL f := fun f hf => (g3 f hf).elim (fun z => by cases z) (hF1 f)
  have s2 : ex (K (n + 8)) (.asg (.nm 7) (.call 27 (.v (.tup .nil) (.v (.nw (.lc (.call 28 (.io 1 (.v (.var 4) (.v (.var 3) .nil)))) (.nm 10) (.rng (.call 13 (.io 1 (.v (.int 10) .nil)))) .no [10])) (.v (.var 6) .nil))))) (EV ns ds1 W cs PL x5 (.val (TT ts)) x7 x8 x9 x10 x11 x12 .no .no) = .ok (.nx (EV ns ds3 W cs PL x5 (.val (TT ts)) (.val (TD base)) x8 x9 x10 x11 x12 .no .no)) := by
    have hf1' := hf1
    rcases h7 with rfl | ⟨d, rfl⟩ <;> simp! only [hf1', rb']
  -- news
  obtain ⟨news, ds4, hnl, hn, hf2⟩ := facts_ok (n := n) (ns := ns) (ds := ds3) (W := W) (x5 := x5) (x6 := .val (TT ts)) (x7 := .val (TD base)) (x8 := x8) (x9 := x9) (x11 := x11) (x12 := x12) (x13 := .no) (x14 := .no) hP hc h10 (src := .rng (.int 6)) (N := 6) (ds1 := ds3) (rng_src (n := 6) (by simp! only []; rfl) (by omega))
  have s3 : ex (K (n + 8)) (.asg (.nm 8) (.nw (.lc (.call 28 (.io 1 (.v (.var 4) (.v (.var 3) .nil)))) (.nm 10) (.rng (.int 6)) .no [10]))) (EV ns ds3 W cs PL x5 (.val (TT ts)) (.val (TD base)) x8 x9 x10 x11 x12 .no .no) = .ok (.nx (EV ns ds4 W cs PL x5 (.val (TT ts)) (.val (TD base)) (.val (LD news)) x9 x10 x11 x12 .no .no)) := by
    rcases h8 with rfl | ⟨d, rfl⟩ <;> simp! only [hf2]
  have s4 : ex (K (n + 8)) (.own 9 (.lst .nil)) (EV ns ds4 W cs PL x5 (.val (TT ts)) (.val (TD base)) (.val (LD news)) x9 x10 x11 x12 .no .no) = .ok (.nx (EV ns ds4 W cs PL x5 (.val (TT ts)) (.val (TD base)) (.val (LD news)) (.own (.lst []) false) x10 x11 x12 .no .no)) := by
    rcases h9 with (rfl | ⟨d, rfl⟩) | ⟨o, rfl⟩ <;> simp! only []
  -- versions
  obtain ⟨e, ⟨ds5, vers, y10, y11, z10, z11, hvl, hvg, rfl⟩, s5⟩ := fr_ind (rn := K (n + 8)) (src := .rng (.int 2)) (tg := .nm 10) (l := none) (body := lwV)
    (env := EV ns ds4 W cs PL x5 (.val (TT ts)) (.val (TD base)) (.val (LD news)) (.own (.lst []) false) x10 x11 x12 .no .no)
    (env1 := EV ns ds4 W cs PL x5 (.val (TT ts)) (.val (TD base)) (.val (LD news)) (.own (.lst []) false) x10 x11 x12 .no .no)
    ((List.range 2).attachWith (fun k => k ∈ List.range 2) fun _ h => h) (fun k => nd k.1)
    (fun rest e => ∃ (ds5 : List Int) (vers : List (List Fact)) (y10 y11 : Sl), FreeS y10 ∧ FreeS y11 ∧ vers.length + rest.length = 2 ∧ (∀ g ∈ vers, Srt g ∧ g.length ≤ 20 ∧ (∀ f ∈ g, GF PL f) ∧ Keeps ts g) ∧ e = EV ns ds5 W cs PL x5 (.val (TT ts)) (.val (TD base)) (.val (LD news)) (.own (.lst (vers.map TD)) false) y10 y11 x12 .no .no)
    (by
      rw [att_map (f := nd)]
      exact rng_src (n := 2) (by simp! only []; rfl) (by omega))
    ⟨ds4, [], x10, x11, h10, h11, by simp, by simp, rfl⟩
    (by
      rintro ⟨k, hk⟩ rest e ⟨ds5, vers, y10, y11, z10, z11, hvl, hvg, rfl⟩
      rw [List.length_cons] at hvl
      obtain ⟨g, ds6, w11, q11, a1, a2, a3, a4, r⟩ := ver_ok (n := n) (ns := ns) (ds := ds5) (W := W) (cs := cs) (x5 := x5) (x12 := x12) (x13 := .no) (x14 := .no) (vers := vers) (k := k) hP ht gb hn (by omega) hnl g4 (List.mem_range.mp hk) (by omega) z11 .no
      refine ⟨EV ns ds5 W cs PL x5 (.val (TT ts)) (.val (TD base)) (.val (LD news)) (.own (.lst (vers.map TD)) false) (.val (nd k)) y11 x12 .no .no, _, ?_, r, ds6, vers ++ [g], _, w11, .val, q11, by rw [List.length_append, List.length_singleton]; omega, ?_, rfl⟩
      · rcases z10 with rfl | ⟨d, rfl⟩ <;> simp! only []
      · intro u hu
        rcases List.mem_append.mp
                                hu with hu | hu
        · exact hvg u hu
        · rw [List.mem_singleton] at hu
          subst hu
          exact ⟨a1, a2, a3, a4⟩)
  have hv2 : vers.length = 2 := by simpa using hvl
  obtain ⟨o1, o2, rfl⟩ : ∃ o1 o2, vers = [o1, o2] := by
    match vers, hv2 with
    | [u, v], _ => exact ⟨u, v, rfl⟩
  obtain ⟨p1, p2, p3, p4⟩ := hvg o1 (by simp)
  obtain ⟨q1, q2, q3, q4⟩ := hvg o2 (by simp)
  have rg := goes8 (n := n) (hP.good ht gb g1 (by omega)) (hP.good ht p3 p1 (by omega)) (hP.good ht q3 q1 (by omega)) g4 p4 q4 (by omega)
  have s6 : ex (K (n + 8)) (.ife (.un .not (.call 30 (.v (.var 7) (.v (.bin .idx (.bor 9) (.int 0)) (.v (.bin .idx (.bor 9) (.int 1)) (.v (.var 6) .nil)))))) (.cons (.ret (.bl false))
  .nil) .nil) (EV ns ds5 W cs PL x5 (.val (TT ts)) (.val (TD base)) (.val (LD news)) (.own (.lst ([o1, o2].map TD)) false) y10 y11 x12 .no .no) = .ok (.nx (EV ns ds5 W cs PL x5 (.val (TT ts)) (.val (TD base)) (.val (LD news)) (.own (.lst ([o1, o2].map TD)) false) y10 y11 x12 .no .no)) := by
    simp! only [List.map_cons, List.map_nil, rg]
  -- loose
  obtain ⟨N2, ds6, hN2, hg6⟩ := rng_take (n := n) (ns := ns) (ds := ds5) (W := W) (cs := cs) (PL := PL) (x5 := x5) (x6 := .val (TT ts)) (x7 := .val (TD base)) (x8 := .val (LD news)) (x9 := .own (.lst ([o1, o2].map TD)) false) (x10 := y10) (x11 := y11) (x12 := x12) (x13 := .no) (x14 := .no) 6 (by omega) (by omega)
  obtain ⟨F2, ds7, hF2l, hF2, hf3⟩ := facts_ok hP hc z10 hg6
  have st := store8 (n := n) F2 (by omega)
  have s7 : ex (K (n + 8)) (.asg (.nm 12) (.call 20 (.v (.nw (.lc (.call 28 (.io 1 (.v (.var 4) (.v (.var 3) .nil)))) (.nm 10) (.rng (.call 13 (.io 1 (.v (.int 6) .nil)))) .no [10])) .nil))) (EV ns ds5 W cs PL x5 (.val (TT ts)) (.val (TD base)) (.val (LD news)) (.own (.lst ([o1, o2].map TD)) false) y10 y11 x12 .no .no) = .ok (.nx (EV ns ds7 W cs PL x5 (.val (TT ts)) (.val (TD base)) (.val (LD news)) (.own (.lst ([o1, o2].map TD)) false) y10 y11 (.val (TD (canon F2))) .no .no)) := by
    rcases h12 with rfl | ⟨d, rfl⟩ <;> simp! only [hf3, st]
  have hcl := canon_len F2
  have fl : AllFit ts (canon F2) := hP.all ht fun f hf => hF2 f (canon_mem.mp hf)
  have r1 := keeps8 (n := n) (canon F2) ts fl (by omega) (by omega) (canon_srt _)
  have r2 := lcl8 (n := n) (canon F2) ts fl (by omega)
  have e7 : decide (((lprs ts (canon F2)).length : Int) = 0) = decide ((lprs ts (canon F2)).length = 0) := decide_eq_decide.mpr (by omega)
  have r3 := same8 (n := n) (decide ((lprs ts (canon F2)).length = 0))
  have s8 : ex (K (n + 8)) (.ife (.un .not (.call 15 (.v (.call 11 (.v (.var 12) (.v (.var 6) .nil))) (.v (.bin .eq (.un .len (.call 25 (.v (.var 12) (.v (.var 6) .nil)))) (.int 0)) .nil)))) (.cons (.ret (.bl false))
  .nil) .nil) (EV ns ds7 W cs PL x5 (.val (TT ts)) (.val (TD base)) (.val (LD news)) (.own (.lst ([o1, o2].map TD)) false) y10 y11 (.val (TD (canon F2))) .no .no) = .ok (.nx (EV ns ds7 W cs PL x5 (.val (TT ts)) (.val (TD base)) (.val (LD news)) (.own (.lst ([o1, o2].map TD)) false) y10 y11 (.val (TD (canon F2))) .no .no)) := by
    simp! only [r1, r2, shI, eqvI, e7, r3]
  refine ⟨ds7, .val (TT ts), .val (TD base), .val (LD news), .own (.lst ([o1, o2].map TD)) false, y10, y11, .val (TD (canon F2)), .val, .val, .val, .inr ⟨_, rfl⟩, z10, z11, .val, ?_⟩
  have s5' : ex (K (n + 8)) (.fr (.nm 10) (.rng (.int 2)) lwV) (EV ns ds4 W cs PL x5 (.val (TT ts)) (.val (TD base)) (.val (LD news)) (.own (.lst []) false) x10 x11 x12 .no .no) = .ok (.nx (EV ns ds5 W cs PL x5 (.val (TT ts)) (.val (TD base)) (.val (LD news)) (.own (.lst ([o1, o2].map TD)) false) y10 y11 x12 .no .no)) := s5
  simp only [q_exs_cons, q_exs_nil, ↓bind_bdk, okbk, s1, s2, s3, s4, s5', s6, s7, s8]
end
theorem r_law (n : Nat) (ns : List Int) (hl : ns.length ≤ 63) (hb : ∀ z ∈ ns, Builtin.Int.intBits z ≤ 1048576) : K (n + 9) 32 [.scr ns] = .ok (.val (.bool true), [.scr ns]) := by
  have sz := szL
  obtain ⟨ds0, hd⟩ := draws8 (n := n) ns hl hb
  obtain ⟨W, ds1, hW, hWl, hw⟩ := words8 (n := n) ds0
  obtain ⟨cs, ds2, hc, hv⟩ := values8 (n := n) ds1 W hWl
  obtain ⟨w0, hw0⟩ : ∃ w, w = W[0] := ⟨_, rfl⟩
  obtain ⟨w1, hw1⟩ : ∃ w, w = W[1] := ⟨_, rfl⟩
  obtain ⟨w2, hw2⟩ : ∃ w, w = W[2] := ⟨_, rfl⟩
  obtain ⟨w3, hw3⟩ : ∃ w, w = W[3] := ⟨_, rfl⟩
  have hne : ∀ (i j : Nat) (hi : i < W.length) (hj : j < W.length), i < j → W[i] ≠ W[j] := fun i j hi hj hij => List.pairwise_iff_getElem.mp hW i j hi hj hij
  have h01 : w0 ≠ w1 := by rw [hw0, hw1]; exact hne _ _ _ _ (by omega)
  have h02 : w0 ≠ w2 := by rw [hw0, hw2]; exact hne _ _ _ _ (by omega)
  have h03 : w0 ≠ w3 := by rw [hw0, hw3]; exact hne _ _ _ _ (by omega)
  have h12 : w1 ≠ w2 := by rw [hw1, hw2]; exact hne _ _ _ _ (by omega)
  have h13 : w1 ≠ w3 := by rw [hw1, hw3]; exact hne _ _ _ _ (by omega)
  have h23 : w2 ≠ w3 := by rw [hw2, hw3]; exact hne _ _ _ _ (by omega)
  have i0 : L2.atI (W.map fun w => (.str w.1 : D)) 0 = some (.str w0.1) := by rw [hw0]; exact atI_nat (i := 0) (by simp [hWl])
  have i1 : L2.atI (W.map fun w => (.str w.1 : D)) 1 = some (.str w1.1) := by rw [hw1]; exact atI_nat (i := 1) (by simp [hWl])
  have hsl : slD (WD W) (.int 2) (some (.int 4)) = some (.list [.str w2.1, .str w3.1]) := by
    show some (PyData.list (cutL (W.map fun w => (.str w.1 : D)) (some 2) (some 4))) = _
    rw [hw2, hw3]
    match W, hWl with
    | [a, b, c, d, e, f, g, h, i], _ => rfl
  obtain ⟨px, py, ds3, hx, hy, hp⟩ := places8 (n := n) ds2 w2 w3
  obtain ⟨PL, hPL⟩ : ∃ PL : List Place, PL = [⟨w0, 2⟩, ⟨w1, 4⟩, ⟨w2, px⟩, ⟨w3, py⟩] := ⟨_, rfl⟩
  have hP : GPL PL := by
    subst hPL
    refine ⟨by simp, by simp, ?_, ?_⟩
    · intro p hp
      simp only [List.mem_cons, List.not_mem_nil, or_false] at hp
      rcases hp with rfl | rfl | rfl | rfl <;> dsimp only <;> omega
    · intro p hp q hq e
      simp only [List.mem_cons, List.not_mem_nil, or_false] at hp hq
      rcases hp with rfl | rfl | rfl | rfl <;> rcases hq with rfl | rfl | rfl | rfl <;> first
        | rfl
        | exact absurd e h01 | exact absurd e h02 | exact absurd e h03 | exact absurd e h12 | exact absurd e h13 | exact absurd e h23
        | exact absurd e.symm h01 | exact absurd e.symm h02 | exact absurd e.symm h03 | exact absurd e.symm h12 | exact absurd e.symm h13 | exact absurd e.symm h23
  have eP : PyData.list (PL.map Place.d) = .list [.tuple [.str w0.1, .int 2], .tuple [.str w1.1, .int 4], Place.d ⟨w2, px⟩, Place.d ⟨w3, py⟩] := by rw [hPL]; rfl
  obtain ⟨e, ⟨ds4, y5, y6, y7, y8, y9, y10, y11, y12, q5, q6, q7, q8, q9, q10, q11, q12, rfl⟩, s5⟩ := fr_ind (rn := K (n + 8)) (src := .rng (.int 2)) (tg := .nm 5) (l := none) (body := lwB)
    (env := EV ns ds3 W cs PL .no .no .no .no .no .no .no .no .no .no) (env1 := EV ns ds3 W cs PL .no .no .no .no .no .no .no .no .no .no) (List.range 2) nd
    (fun _ e => ∃ (ds4 : List Int) (y5 y6 y7 y8 y9 y10 y11 y12 : Sl), FreeS y5 ∧ FreeS y6 ∧ FreeS y7 ∧ FreeS y8 ∧ FreeO y9 ∧ FreeS y10 ∧ FreeS y11 ∧ FreeS y12 ∧ e = EV ns ds4 W cs PL y5 y6 y7 y8 y9 y10 y11 y12 .no .no)
    (rng_src (n := 2) (by simp! only []; rfl) (by omega))
    ⟨ds3, .no, .no, .no, .no, .no, .no, .no, .no, .no, .no, .no, .no, .inl .no, .no, .no, .no, rfl⟩
    (by
      rintro k rest e ⟨ds4, y5, y6, y7, y8, y9, y10, y11, y12, q5, q6, q7, q8, q9, q10, q11, q12, rfl⟩
      obtain ⟨ds5, z6, z7, z8, z9, z10, z11, z12, r6, r7, r8, r9, r10, r11, r12, r⟩ := turn_ok (n := n) (ns := ns) (ds := ds4) (W := W) (x5 := .val (nd k)) hP hc q6 q7 q8 q9 q10 q11 q12
      refine ⟨_, _, ?_, r, ds5, _, z6, z7, z8, z9, z10, z11, z12, .val, r6, r7, r8, r9, r10, r11, r12, rfl⟩
      rcases q5 with rfl | ⟨d, rfl⟩ <;> simp! only [])
  obtain ⟨bs, ds6, h1, h2, h3⟩ := lc_st (rn := K (n + 8)) (elt := .call 31 (.io 1 (.v (.var 2) (.v (.var 13) .nil)))) (t := .nm 13) (src := .rng (.int 3)) (cd := .no) (vs := [13]) (List.range 3) nd (.bool : Bool → D) (fun _ b => b = true)
    (fun ds => EV ns ds W cs PL y5 y6 y7 y8 y9 y10 y11 y12 .no .no) (fun ds => EV ns ds W cs PL y5 y6 y7 y8 y9 y10 y11 y12 .no .no) (s1 := ds4) (env := EV ns ds4 W cs PL y5 y6 y7 y8 y9 y10 y11 y12 .no .no)
    (rng_src (n := 3) (by simp! only []; rfl) (by omega)) (by simp! only []) (by intro s s'; simp! only []) (by
      intro k hk s
      have hk' : k < 3 := List.mem_range.mp hk
      obtain ⟨s', r⟩ := r_numbered n s W hW hWl (k : Int) (by omega)
      refine ⟨true, s', rfl, ?_⟩
      simp! only [lcTurn, r])
  have hbs : ¬ (false ∈ bs) := fun h => by
    obtain ⟨_, _, e⟩ := all_of h1 h2 false h
    cases e
  have s1 : ex (K (n + 8)) (.own 1 (.call 12 (.sc 0 (.v (.int 900) .nil)))) [.scr ns, .no, .no, .no, .no, .no, .no, .no, .no, .no, .no, .no, .no, .no, .no] = .ok (.nx [.scr ns, .own (DS ds0) false, .no, .no, .no, .no, .no, .no, .no, .no, .no, .no, .no, .no, .no]) := by
    simp! only [hd]
  have s2 : ex (K (n + 8)) (.asg (.nm 2) (.call 16 (.io 1 (.v (.int 9) .nil)))) [.scr ns, .own (DS ds0) false, .no, .no, .no, .no, .no, .no, .no, .no, .no, .no, .no, .no, .no] = .ok (.nx [.scr ns, .own (DS ds1) false, .val (WD W), .no, .no, .no, .no, .no, .no, .no, .no, .no, .no, .no, .no]) := by
    simp! only [hw]
  have s3 : ex (K (n + 8)) (.asg (.nm 3) (.call 21 (.io 1 (.v (.var 2) .nil)))) [.scr ns, .own (DS ds1) false, .val (WD W), .no, .no, .no, .no, .no, .no, .no, .no, .no, .no, .no, .no] = .ok (.nx [.scr ns, .own (DS ds2) false, .val (WD W), .val (.list (cs.map Cell.d)), .no, .no, .no, .no, .no, .no, .no, .no, .no, .no, .no]) := by
    simp! only [hv]
  have s4 : ex (K (n + 8)) (.asg (.nm 4) (.bin .add (.nw (.lst (.cons (.tup (.cons (.bin .idx (.var 2) (.int 0)) (.cons (.int 2) .nil))) (.cons (.tup (.cons (.bin .idx (.var 2) (.int 1)) (.cons (.int 4) .nil))) .nil)))) (.call 22 (.io 1 (.v (.sl (.var 2) (.int 2) (.int 4)) (.v (.int 2) .nil)))))) [.scr ns, .own (DS ds2) false, .val (WD W), .val (.list (cs.map Cell.d)), .no, .no, .no, .no, .no, .no, .no, .no, .no, .no, .no] = .ok (.nx (EV ns ds3 W cs PL .no .no .no .no .no .no .no .no .no .no)) := by
    simp! only [i0, i1, hsl, hp]
    rw [← eP]
  rw [K_step _ rfl rfl]
  show endR _ (exs (K (n + 8)) (.cons _ (.cons _ (.cons _ (.cons _ (.cons (.fr (.nm 5) (.rng (.int 2)) lwB) (.cons _ .nil)))))) [.scr ns, .no, .no, .no, .no, .no, .no, .no, .no, .no, .no, .no, .no, .no, .no]) = _
  simp only [q_exs_cons, q_exs_nil, ↓bind_bdk, okbk, s1, s2, s3, s4, s5]
  simp! only [h3, inD_bools, hbs, decide_false]
theorem k78_plain : ∀ ns : List Int, ns.length ≤ 63 → (∀ z ∈ ns, Builtin.Int.intBits z ≤ 1048576) → ∃ outs, run k78_fd 12 32 [.scr ns] = .ok (.val (.bool true), outs) :=
  fun ns hl hb => ⟨_, r_law 3 ns hl hb⟩
end VE
namespace VE
open PySem PySem.Spec
                        PyProof.Rows L2
def k78_top (i : Nat) : Stmt := PySem.Challenge.pw_broughtacross_k78_whole_versions.main.body.getD i (.Pass ⟨0, 0, 0, 0⟩)
def k78_ft : List Str := [("cells_at" : Str), ("cell_key" : Str), ("row_key" : Str), ("fact_key" : Str), ("store_of" : Str), ("merged" : Str), ("groups_of" : Str), ("clashes_of_tie" : Str), ("pair_key" : Str), ("clashes_in" : Str), ("clashes" : Str), ("keeps_all" : Str), ("_law_draws" : Str), ("_law_take" : Str), ("_law_pick" : Str), ("_law_same" : Str), ("_law_words" : Str), ("_law_cell_key" : Str), ("_law_row_key" : Str), ("_law_fact_key" : Str), ("_law_store" : Str), ("_law_values" : Str), ("_law_places" : Str), ("_law_part" : Str), ("_law_clash" : Str), ("_law_clashes" : Str), ("_law_merged" : Str), ("_law_grown" : Str), ("_law_fact" : Str), ("_law_tie" : Str), ("_law_goes" : Str), ("_law_numbered" : Str), ("law" : Str)]
def k78_K0 : Kt := ⟨[("row" : Str), ("places" : Str), ("place" : Str)], defScope (k78_top 1), fun _ => true, k78_ft⟩
def k78_K1 : Kt := ⟨[("cell" : Str)], defScope (k78_top 3), fun _ => true, k78_ft⟩
def k78_K2 : Kt := ⟨[("row" : Str), ("cell" : Str)], defScope (k78_top 4), fun _ => true, k78_ft⟩
def k78_K3 : Kt := ⟨[("fact" : Str)], defScope (k78_top 5), fun _ => true, k78_ft⟩
def k78_K4 : Kt := ⟨[("facts" : Str), ("found" : Str), ("fact" : Str)], defScope (k78_top 6), fun _ => true, k78_ft⟩
def k78_K5 : Kt := ⟨[("base" : Str), ("store" : Str), ("other" : Str), ("in_base" : Str), ("in_store" : Str), ("in_other" : Str), ("both" : Str), ("new" : Str), ("fact" : Str)], defScope (k78_top 8), fun _ => true, k78_ft⟩
def k78_K6 : Kt := ⟨[("facts" : Str), ("places" : Str), ("groups" : Str), ("fact" : Str)], defScope (k78_top 9), fun _ => true, k78_ft⟩
def k78_K7 : Kt := ⟨[("store" : Str), ("tie" : Str), ("name" : Str), ("left" : Str), ("right" : Str), ("found" : Str), ("group" : Str), ("at" : Str), ("fact" : Str), ("other" : Str)], defScope (k78_top 10), fun _ => true, k78_ft⟩
def k78_K8 : Kt := ⟨[("pair" : Str)], defScope (k78_top 11), fun _ => true, k78_ft⟩
def k78_K9 : Kt := ⟨[("store" : Str), ("ties" : Str), ("found" : Str), ("tie" : Str), ("pair" : Str)], defScope (k78_top 12), fun _ => true, k78_ft⟩
def k78_K10 : Kt := ⟨[("base" : Str), ("store" : Str), ("other" : Str), ("ties" : Str)], defScope (k78_top 13), fun _ => true, k78_ft⟩
def k78_K11 : Kt := ⟨[("store" : Str), ("ties" : Str)], defScope (k78_top 14), fun _ => true, k78_ft⟩
def k78_K12 : Kt := ⟨[("script" : Str), ("many" : Str), ("cells" : Str), ("left" : Str), ("draws" : Str), ("k" : Str), ("place" : Str), ("mixed" : Str), ("cell" : Str)], defScope (k78_top 16), fun _ => true, k78_ft⟩
def k78_K13 : Kt := ⟨[("draws" : Str), ("many" : Str)], defScope (k78_top 17), fun _ => true, k78_ft⟩
def k78_K14 : Kt := ⟨[("draws" : Str), ("row" : Str)], defScope (k78_top 18), fun _ => true, k78_ft⟩
def k78_K15 : Kt := ⟨[("actual" : Str), ("due" : Str), ("k" : Str)], defScope (k78_top 19), fun _ => true, k78_ft⟩
def k78_K16 : Kt := ⟨[("draws" : Str), ("many" : Str), ("words" : Str), ("k" : Str), ("size" : Str), ("word" : Str), ("j" : Str), ("other" : Str)], defScope (k78_top 20), fun _ => true, k78_ft⟩
def k78_K17 : Kt := ⟨[("cell" : Str)], defScope (k78_top 21), fun _ => true, k78_ft⟩
def k78_K18 : Kt := ⟨[("row" : Str), ("cell" : Str)], defScope (k78_top 22), fun _ => true, k78_ft⟩
def k78_K19 : Kt := ⟨[("fact" : Str)], defScope (k78_top 23), fun _ => true, k78_ft⟩
def k78_K20 : Kt := ⟨[("facts" : Str), ("found" : Str), ("fact" : Str)], defScope (k78_top 24), fun _ => true, k78_ft⟩
def k78_K21 : Kt := ⟨[("draws" : Str), ("words" : Str), ("number" : Str)], defScope (k78_top 25), fun _ => true, k78_ft⟩
def k78_K22 : Kt := ⟨[("draws" : Str), ("words" : Str), ("many" : Str), ("k" : Str)], defScope (k78_top 26), fun _ => true, k78_ft⟩
def k78_K23 : Kt := ⟨[("row" : Str), ("places" : Str), ("place" : Str)], defScope (k78_top 27), fun _ => true, k78_ft⟩
def k78_K24 : Kt := ⟨[("one" : Str), ("other" : Str), ("ties" : Str), ("tie" : Str)], defScope (k78_top 28), fun _ => true, k78_ft⟩
def k78_K25 : Kt := ⟨[("store" : Str), ("ties" : Str), ("told" : Str), ("k" : Str), ("other" : Str)], defScope (k78_top 29), fun _ => true, k78_ft⟩
def k78_K26 : Kt := ⟨[("base" : Str), ("one" : Str), ("other" : Str), ("both" : Str), ("fact" : Str)], defScope (k78_top 30), fun _ => true, k78_ft⟩
def k78_K27 : Kt := ⟨[("store" : Str), ("facts" : Str), ("ties" : Str), ("kept" : Str), ("fact" : Str), ("known" : Str)], defScope (k78_top 31), fun _ => true, k78_ft⟩
def k78_K28 : Kt := ⟨[("draws" : Str), ("places" : Str), ("values" : Str), ("place" : Str), ("row" : Str), ("k" : Str)], defScope (k78_top 32), fun _ => true, k78_ft⟩
def k78_K29 : Kt := ⟨[("draws" : Str), ("place" : Str), ("sides" : Str), ("left" : Str), ("k" : Str)], defScope (k78_top 33), fun _ => true, k78_ft⟩
def k78_K30 : Kt := ⟨[("base" : Str), ("one" : Str), ("other" : Str), ("ties" : Str), ("due" : Str), ("pairs" : Str), ("first" : Str), ("second" : Str)], defScope (k78_top 34), fun _ => true, k78_ft⟩
def k78_K31 : Kt := ⟨[("draws" : Str), ("words" : Str), ("kind" : Str), ("start" : Str), ("many" : Str), ("base" : Str), ("at" : Str), ("place" : Str), ("one" : Str), ("other" : Str), ("ties" : Str), ("due" : Str), ("pairs" : Str), ("told" : Str), ("k" : Str), ("fact" : Str)], defScope (k78_top 35), fun _ => true, k78_ft⟩
def k78_K32 : Kt := ⟨[("script" : Str), ("draws" : Str), ("words" : Str), ("values" : Str), ("places" : Str), ("turn" : Str), ("ties" : Str), ("base" : Str), ("news" : Str), ("versions" : Str), ("k" : Str), ("kept" : Str), ("loose" : Str), ("kind" : Str), ("fact" : Str)], defScope (k78_top 36), fun _ => true, k78_ft⟩
theorem k78_c0 : ckSs k78_K0 k78_cells_at (defBody (k78_top 1)) = true := by decide +kernel
theorem k78_c1 : ckSs k78_K1 k78_cell_key (defBody (k78_top 3)) = true := by decide +kernel
theorem k78_c2 : ckSs k78_K2 k78_row_key (defBody (k78_top 4)) = true := by decide +kernel
theorem k78_c3 : ckSs k78_K3 k78_fact_key (defBody (k78_top 5)) = true := by decide +kernel
theorem k78_c4 : ckSs k78_K4 k78_store_of (defBody (k78_top 6)) = true := by decide +kernel
theorem k78_c5 : ckSs k78_K5 k78_merged (defBody (k78_top 8)) = true := by decide +kernel
theorem k78_c6 : ckSs k78_K6 k78_groups_of (defBody (k78_top 9)) = true := by decide +kernel
theorem k78_c7 : ckSs k78_K7 k78_clashes_of_tie (defBody (k78_top 10)) = true := by decide +kernel
theorem k78_c8 : ckSs k78_K8 k78_pair_key (defBody (k78_top 11)) = true := by decide +kernel
theorem k78_c9 : ckSs k78_K9 k78_clashes_in (defBody (k78_top 12)) = true := by decide +kernel
theorem k78_c10 : ckSs k78_K10 k78_clashes (defBody (k78_top 13)) = true := by decide +kernel
theorem k78_c11 : ckSs k78_K11 k78_keeps_all (defBody (k78_top 14)) = true := by decide +kernel
theorem k78_c12 : ckSs k78_K12 k78__law_draws (defBody (k78_top 16)) = true := by decide +kernel
theorem k78_c13 : ckSs k78_K13 k78__law_take (defBody (k78_top 17)) = true := by decide +kernel
theorem k78_c14 : ckSs k78_K14 k78__law_pick (defBody (k78_top 18)) = true := by decide +kernel
theorem k78_c15 : ckSs k78_K15 k78__law_same (defBody (k78_top 19)) = true := by decide +kernel
theorem k78_c16 : ckSs k78_K16 k78__law_words (defBody (k78_top 20)) = true := by decide +kernel
theorem k78_c17 : ckSs k78_K17 k78__law_cell_key (defBody (k78_top 21)) = true := by decide +kernel
theorem k78_c18 : ckSs k78_K18 k78__law_row_key (defBody (k78_top 22)) = true := by decide +kernel
theorem k78_c19 : ckSs k78_K19 k78__law_fact_key (defBody (k78_top 23)) = true := by decide +kernel
theorem k78_c20 : ckSs k78_K20 k78__law_store (defBody (k78_top 24)) = true := by decide +kernel
theorem k78_c21 : ckSs k78_K21 k78__law_values (defBody (k78_top 25)) = true := by decide +kernel
theorem k78_c22 : ckSs k78_K22 k78__law_places (defBody (k78_top 26)) = true := by decide +kernel
theorem k78_c23 : ckSs k78_K23 k78__law_part (defBody (k78_top 27)) = true := by decide +kernel
theorem k78_c24 : ckSs k78_K24 k78__law_clash (defBody (k78_top 28)) = true := by decide +kernel
theorem k78_c25 : ckSs k78_K25 k78__law_clashes (defBody (k78_top 29)) = true := by decide +kernel
theorem k78_c26 : ckSs k78_K26 k78__law_merged (defBody (k78_top 30)) = true := by decide +kernel
theorem k78_c27 : ckSs k78_K27 k78__law_grown (defBody (k78_top 31)) = true := by decide +kernel
theorem k78_c28 : ckSs k78_K28 k78__law_fact (defBody (k78_top 32)) = true := by decide +kernel
theorem k78_c29 : ckSs k78_K29 k78__law_tie (defBody (k78_top 33)) = true := by decide +kernel
theorem k78_c30 : ckSs k78_K30 k78__law_goes (defBody (k78_top 34)) = true := by decide +kernel
theorem k78_c31 : ckSs k78_K31 k78__law_numbered (defBody (k78_top 35)) = true := by decide +kernel
theorem k78_c32 : ckSs k78_K32 k78_law (defBody (k78_top 36)) = true := by decide +kernel

theorem k78_s0 : FnScope [("row" : Str), ("places" : Str), ("place" : Str)] [("row" : Str), ("places" : Str)] (defScope (k78_top 1)) := ⟨rfl, rfl, rfl, by decide +kernel, rfl, by decide +kernel, by decide +kernel⟩
theorem k78_s1 : FnScope [("cell" : Str)] [("cell" : Str)] (defScope (k78_top 3)) := ⟨rfl, rfl, rfl, by decide +kernel, rfl, by decide +kernel, by decide +kernel⟩
theorem k78_s2 : FnScope [("row" : Str), ("cell" : Str)] [("row" : Str)] (defScope (k78_top 4)) := ⟨rfl, rfl, rfl, by decide +kernel, rfl, by decide +kernel, by decide +kernel⟩
theorem k78_s3 : FnScope [("fact" : Str)] [("fact" : Str)] (defScope (k78_top 5)) := ⟨rfl, rfl, rfl, by decide +kernel, rfl, by decide +kernel, by decide +kernel⟩
theorem k78_s4 : FnScope [("facts" : Str), ("found" : Str), ("fact" : Str)] [("facts" : Str)] (defScope (k78_top 6)) := ⟨rfl, rfl, rfl, by decide +kernel, rfl, by decide +kernel, by decide +kernel⟩
theorem k78_s5 : FnScope [("base" : Str), ("store" : Str), ("other" : Str), ("in_base" : Str), ("in_store" : Str), ("in_other" : Str), ("both" : Str), ("new" : Str), ("fact" : Str)] [("base" : Str), ("store" : Str), ("other" : Str)] (defScope (k78_top 8)) := ⟨rfl, rfl, rfl, by decide +kernel, rfl, by decide +kernel, by decide +kernel⟩
theorem k78_s6 : FnScope [("facts" : Str), ("places" : Str), ("groups" : Str), ("fact" : Str)] [("facts" : Str), ("places" : Str)] (defScope (k78_top 9)) := ⟨rfl, rfl, rfl, by decide +kernel, rfl, by decide +kernel, by decide +kernel⟩
theorem k78_s7 : FnScope [("store" : Str), ("tie" : Str), ("name" : Str), ("left" : Str), ("right" : Str), ("found" : Str), ("group" : Str), ("at" : Str), ("fact" : Str), ("other" : Str)] [("store" : Str), ("tie" : Str)] (defScope (k78_top 10)) := ⟨rfl, rfl, rfl, by decide +kernel, rfl, by decide +kernel, by decide +kernel⟩
theorem k78_s8 : FnScope [("pair" : Str)] [("pair" : Str)] (defScope (k78_top 11)) := ⟨rfl, rfl, rfl, by decide +kernel, rfl, by decide +kernel, by decide +kernel⟩
theorem k78_s9 : FnScope [("store" : Str), ("ties" : Str), ("found" : Str), ("tie" : Str), ("pair" : Str)] [("store" : Str), ("ties" : Str)] (defScope (k78_top 12)) := ⟨rfl, rfl, rfl, by decide +kernel, rfl, by decide +kernel, by decide +kernel⟩
theorem k78_s10 : FnScope [("base" : Str), ("store" : Str), ("other" : Str), ("ties" : Str)] [("base" : Str), ("store" : Str), ("other" : Str), ("ties" : Str)] (defScope (k78_top 13)) := ⟨rfl, rfl, rfl, by decide +kernel, rfl, by decide +kernel, by decide +kernel⟩
theorem k78_s11 : FnScope [("store" : Str), ("ties" : Str)] [("store" : Str), ("ties" : Str)] (defScope (k78_top 14)) := ⟨rfl, rfl, rfl, by decide +kernel, rfl, by decide +kernel, by decide +kernel⟩
theorem k78_s12 : FnScope [("script" : Str), ("many" : Str), ("cells" : Str), ("left" : Str), ("draws" : Str), ("k" : Str), ("place" : Str), ("mixed" : Str), ("cell" : Str)] [("script" : Str), ("many" : Str)] (defScope (k78_top 16)) := ⟨rfl, rfl, rfl, by decide +kernel, rfl, by decide +kernel, by decide +kernel⟩
theorem k78_s13 : FnScope [("draws" : Str), ("many" : Str)] [("draws" : Str), ("many" : Str)] (defScope (k78_top 17)) := ⟨rfl, rfl, rfl, by decide +kernel, rfl, by decide +kernel, by decide +kernel⟩
theorem k78_s14 : FnScope [("draws" : Str), ("row" : Str)] [("draws" : Str), ("row" : Str)] (defScope (k78_top 18)) := ⟨rfl, rfl, rfl, by decide +kernel, rfl, by decide +kernel, by decide +kernel⟩
theorem k78_s15 : FnScope [("actual" : Str), ("due" : Str), ("k" : Str)] [("actual" : Str), ("due" : Str)] (defScope (k78_top 19)) := ⟨rfl, rfl, rfl, by decide +kernel, rfl, by decide +kernel, by decide +kernel⟩
theorem k78_s16 : FnScope [("draws" : Str), ("many" : Str), ("words" : Str), ("k" : Str), ("size" : Str), ("word" : Str), ("j" : Str), ("other" : Str)] [("draws" : Str), ("many" : Str)] (defScope (k78_top 20)) := ⟨rfl, rfl, rfl, by decide +kernel, rfl, by decide +kernel, by decide +kernel⟩
theorem k78_s17 : FnScope [("cell" : Str)] [("cell" : Str)] (defScope (k78_top 21)) := ⟨rfl, rfl, rfl, by decide +kernel, rfl, by decide +kernel, by decide +kernel⟩
theorem k78_s18 : FnScope [("row" : Str), ("cell" : Str)] [("row" : Str)] (defScope (k78_top 22)) := ⟨rfl, rfl, rfl, by decide +kernel, rfl, by decide +kernel, by decide +kernel⟩
theorem k78_s19 : FnScope [("fact" : Str)] [("fact" : Str)] (defScope (k78_top 23)) := ⟨rfl, rfl, rfl, by decide +kernel, rfl, by decide +kernel, by decide +kernel⟩
theorem k78_s20 : FnScope [("facts" : Str), ("found" : Str), ("fact" : Str)] [("facts" : Str)] (defScope (k78_top 24)) := ⟨rfl, rfl, rfl, by decide +kernel, rfl, by decide +kernel, by decide +kernel⟩
theorem k78_s21 : FnScope [("draws" : Str), ("words" : Str), ("number" : Str)] [("draws" : Str), ("words" : Str)] (defScope (k78_top 25)) := ⟨rfl, rfl, rfl, by decide +kernel, rfl, by decide +kernel, by decide +kernel⟩
theorem k78_s22 : FnScope [("draws" : Str), ("words" : Str), ("many" : Str), ("k" : Str)] [("draws" : Str), ("words" : Str), ("many" : Str)] (defScope (k78_top 26)) := ⟨rfl, rfl, rfl, by decide +kernel, rfl, by decide +kernel, by decide +kernel⟩
theorem k78_s23 : FnScope [("row" : Str), ("places" : Str), ("place" : Str)] [("row" : Str), ("places" : Str)] (defScope (k78_top 27)) := ⟨rfl, rfl, rfl, by decide +kernel, rfl, by decide +kernel, by decide +kernel⟩
theorem k78_s24 : FnScope [("one" : Str), ("other" : Str), ("ties" : Str), ("tie" : Str)] [("one" : Str), ("other" : Str), ("ties" : Str)] (defScope (k78_top 28)) := ⟨rfl, rfl, rfl, by decide +kernel, rfl, by decide +kernel, by decide +kernel⟩
theorem k78_s25 : FnScope [("store" : Str), ("ties" : Str), ("told" : Str), ("k" : Str), ("other" : Str)] [("store" : Str), ("ties" : Str)] (defScope (k78_top 29)) := ⟨rfl, rfl, rfl, by decide +kernel, rfl, by decide +kernel, by decide +kernel⟩
theorem k78_s26 : FnScope [("base" : Str), ("one" : Str), ("other" : Str), ("both" : Str), ("fact" : Str)] [("base" : Str), ("one" : Str), ("other" : Str)] (defScope (k78_top 30)) := ⟨rfl, rfl, rfl, by decide +kernel, rfl, by decide +kernel, by decide +kernel⟩
theorem k78_s27 : FnScope [("store" : Str), ("facts" : Str), ("ties" : Str), ("kept" : Str), ("fact" : Str), ("known" : Str)] [("store" : Str), ("facts" : Str), ("ties" : Str)] (defScope (k78_top 31)) := ⟨rfl, rfl, rfl, by decide +kernel, rfl, by decide +kernel, by decide +kernel⟩
theorem k78_s28 : FnScope [("draws" : Str), ("places" : Str), ("values" : Str), ("place" : Str), ("row" : Str), ("k" : Str)] [("draws" : Str), ("places" : Str), ("values" : Str)] (defScope (k78_top 32)) := ⟨rfl, rfl, rfl, by decide +kernel, rfl, by decide +kernel, by decide +kernel⟩
theorem k78_s29 : FnScope [("draws" : Str), ("place" : Str), ("sides" : Str), ("left" : Str), ("k" : Str)] [("draws" : Str), ("place" : Str)] (defScope (k78_top 33)) := ⟨rfl, rfl, rfl, by decide +kernel, rfl, by decide +kernel, by decide +kernel⟩
theorem k78_s30 : FnScope [("base" : Str), ("one" : Str), ("other" : Str), ("ties" : Str), ("due" : Str), ("pairs" : Str), ("first" : Str), ("second" : Str)] [("base" : Str), ("one" : Str), ("other" : Str), ("ties" : Str)] (defScope (k78_top 34)) := ⟨rfl, rfl, rfl, by decide +kernel, rfl, by decide +kernel, by decide +kernel⟩
theorem k78_s31 : FnScope [("draws" : Str), ("words" : Str), ("kind" : Str), ("start" : Str), ("many" : Str), ("base" : Str), ("at" : Str), ("place" : Str), ("one" : Str), ("other" : Str), ("ties" : Str), ("due" : Str), ("pairs" : Str), ("told" : Str), ("k" : Str), ("fact" : Str)] [("draws" : Str), ("words" : Str), ("kind" : Str)] (defScope (k78_top 35)) := ⟨rfl, rfl, rfl, by decide +kernel, rfl, by decide +kernel, by decide +kernel⟩
theorem k78_s32 : FnScope [("script" : Str), ("draws" : Str), ("words" : Str), ("values" : Str), ("places" : Str), ("turn" : Str), ("ties" : Str), ("base" : Str), ("news" : Str), ("versions" : Str), ("k" : Str), ("kept" : Str), ("loose" : Str), ("kind" : Str), ("fact" : Str)] [("script" : Str)] (defScope (k78_top 36)) := ⟨rfl, rfl, rfl, by decide +kernel, rfl, by decide +kernel, by decide +kernel⟩
set_option maxHeartbeats 0 in
theorem k78_all {l : PySem.W.OpenLaw} {w : World} {K : PySem.W.Frag} {h : Heap} {mg : Str → Option Value} {fa f0 f1 f2 f3 f4 f5 f6 f7 f8 f9 f10 f11 f12 f13 f14 f15 f16 f17 f18 f19 f20 f21 f22 f23 f24 f25 f26 f27 f28 f29 f30 f31 f32 : Addr} (X : K.In h) (G : h.Ns mainGlobals mg) (hfa : mg "law" = some (.ref fa))
    {od0 an0 : Option Addr} {sl0 : Array (Option Value)} {oc0 kV0 dc0 pm0 cd0 ct0 : Value} (a0 : PySem.W.nsIn K mainGlobals "cells_at" = some (some (.ref f0))) (l0 : K.lookup f0 = some ⟨oc0, od0, .func (PySem.W.fnOf "cells_at" "cells_at" (defArgs (k78_top 1)) (defBody (k78_top 1)) (defScope (k78_top 1)) .none kV0 dc0 pm0 an0 cd0 ct0), sl0⟩) (c0 : PySem.W.codeIn K cd0 "cells_at" = true) (k0 : PySem.W.keepIn K (.ref f0) = true)
    {od1 an1 : Option Addr} {sl1 : Array (Option Value)} {oc1 kV1 dc1 pm1 cd1 ct1 : Value} (a1 : PySem.W.nsIn K mainGlobals "cell_key" = some (some (.ref f1))) (l1 : K.lookup f1 = some ⟨oc1, od1, .func (PySem.W.fnOf "cell_key" "cell_key" (defArgs (k78_top 3)) (defBody (k78_top 3)) (defScope (k78_top 3)) .none kV1 dc1 pm1 an1 cd1 ct1), sl1⟩) (c1 : PySem.W.codeIn K cd1 "cell_key" = true) (k1 : PySem.W.keepIn K (.ref f1) = true)
    {od2 an2 : Option Addr} {sl2 : Array (Option Value)} {oc2 kV2 dc2 pm2 cd2 ct2 : Value} (a2 : PySem.W.nsIn K mainGlobals "row_key" = some (some (.ref f2))) (l2 : K.lookup f2 = some ⟨oc2, od2, .func (PySem.W.fnOf "row_key" "row_key" (defArgs (k78_top 4)) (defBody (k78_top 4)) (defScope (k78_top 4)) .none kV2 dc2 pm2 an2 cd2 ct2), sl2⟩) (c2 : PySem.W.codeIn K cd2 "row_key" = true) (k2 : PySem.W.keepIn K (.ref f2) = true)
    {od3 an3 : Option Addr} {sl3 : Array (Option Value)} {oc3 kV3 dc3 pm3 cd3 ct3 : Value} (a3 : PySem.W.nsIn K mainGlobals "fact_key" = some (some (.ref f3))) (l3 : K.lookup f3 = some ⟨oc3, od3, .func (PySem.W.fnOf "fact_key" "fact_key" (defArgs (k78_top 5)) (defBody (k78_top 5)) (defScope (k78_top 5)) .none kV3 dc3 pm3 an3 cd3 ct3), sl3⟩) (c3 : PySem.W.codeIn K cd3 "fact_key" = true) (k3 : PySem.W.keepIn K (.ref f3) = true)
    {od4 an4 : Option Addr} {sl4 : Array (Option Value)} {oc4 kV4 dc4 pm4 cd4 ct4 : Value} (a4 : PySem.W.nsIn K mainGlobals "store_of" = some (some (.ref f4))) (l4 : K.lookup f4 = some ⟨oc4, od4, .func (PySem.W.fnOf "store_of" "store_of" (defArgs (k78_top 6)) (defBody (k78_top 6)) (defScope (k78_top 6)) .none kV4 dc4 pm4 an4 cd4 ct4), sl4⟩) (c4 : PySem.W.codeIn K cd4 "store_of" = true) (k4 : PySem.W.keepIn K (.ref f4) = true)
    {od5 an5 : Option Addr} {sl5 : Array (Option Value)} {oc5 kV5 dc5 pm5 cd5 ct5 : Value} (a5 : PySem.W.nsIn K mainGlobals "merged" = some (some (.ref f5))) (l5 : K.lookup f5 = some ⟨oc5, od5, .func (PySem.W.fnOf "merged" "merged" (defArgs (k78_top 8)) (defBody (k78_top 8)) (defScope (k78_top 8)) .none kV5 dc5 pm5 an5 cd5 ct5), sl5⟩) (c5 : PySem.W.codeIn K cd5 "merged" = true) (k5 : PySem.W.keepIn K (.ref f5) = true)
    {od6 an6 : Option Addr} {sl6 : Array (Option Value)} {oc6 kV6 dc6 pm6 cd6 ct6 : Value} (a6 : PySem.W.nsIn K mainGlobals "groups_of" = some (some (.ref f6))) (l6 : K.lookup f6 = some ⟨oc6, od6, .func (PySem.W.fnOf "groups_of" "groups_of" (defArgs (k78_top 9)) (defBody (k78_top 9)) (defScope (k78_top 9)) .none kV6 dc6 pm6 an6 cd6 ct6), sl6⟩) (c6 : PySem.W.codeIn K cd6 "groups_of" = true) (k6 : PySem.W.keepIn K (.ref f6) = true)
    {od7 an7 : Option Addr} {sl7 : Array (Option Value)} {oc7 kV7 dc7 pm7 cd7 ct7 : Value} (a7 : PySem.W.nsIn K mainGlobals "clashes_of_tie" = some (some (.ref f7))) (l7 : K.lookup f7 = some ⟨oc7, od7, .func (PySem.W.fnOf "clashes_of_tie" "clashes_of_tie" (defArgs (k78_top 10)) (defBody (k78_top 10)) (defScope (k78_top 10)) .none kV7 dc7 pm7 an7 cd7 ct7), sl7⟩) (c7 : PySem.W.codeIn K cd7 "clashes_of_tie" = true) (k7 : PySem.W.keepIn K (.ref f7) = true)
    {od8 an8 : Option Addr} {sl8 : Array (Option Value)} {oc8 kV8 dc8 pm8 cd8 ct8 : Value} (a8 : PySem.W.nsIn K mainGlobals "pair_key" = some (some (.ref f8))) (l8 : K.lookup f8 = some ⟨oc8, od8, .func (PySem.W.fnOf "pair_key" "pair_key" (defArgs (k78_top 11)) (defBody (k78_top 11)) (defScope (k78_top 11)) .none kV8 dc8 pm8 an8 cd8 ct8), sl8⟩) (c8 : PySem.W.codeIn K cd8 "pair_key" = true) (k8 : PySem.W.keepIn K (.ref f8) = true)
    {od9 an9 : Option Addr} {sl9 : Array (Option Value)} {oc9 kV9 dc9 pm9 cd9 ct9 : Value} (a9 : PySem.W.nsIn K mainGlobals "clashes_in" = some (some (.ref f9))) (l9 : K.lookup f9 = some ⟨oc9, od9, .func (PySem.W.fnOf "clashes_in" "clashes_in" (defArgs (k78_top 12)) (defBody (k78_top 12)) (defScope (k78_top 12)) .none kV9 dc9 pm9 an9 cd9 ct9), sl9⟩) (c9 : PySem.W.codeIn K cd9 "clashes_in" = true) (k9 : PySem.W.keepIn K (.ref f9) = true)
    {od10 an10 : Option Addr} {sl10 : Array (Option Value)} {oc10 kV10 dc10 pm10 cd10 ct10 : Value} (a10 : PySem.W.nsIn K mainGlobals "clashes" = some (some (.ref f10))) (l10 : K.lookup f10 = some ⟨oc10, od10, .func (PySem.W.fnOf "clashes" "clashes" (defArgs (k78_top 13)) (defBody (k78_top 13)) (defScope (k78_top 13)) .none kV10 dc10 pm10 an10 cd10 ct10), sl10⟩) (c10 : PySem.W.codeIn K cd10 "clashes" = true) (k10 : PySem.W.keepIn K (.ref f10) = true)
    {od11 an11 : Option Addr} {sl11 : Array (Option Value)} {oc11 kV11 dc11 pm11 cd11 ct11 : Value} (a11 : PySem.W.nsIn K mainGlobals "keeps_all" = some (some (.ref f11))) (l11 : K.lookup f11 = some ⟨oc11, od11, .func (PySem.W.fnOf "keeps_all" "keeps_all" (defArgs (k78_top 14)) (defBody (k78_top 14)) (defScope (k78_top 14)) .none kV11 dc11 pm11 an11 cd11 ct11), sl11⟩) (c11 : PySem.W.codeIn K cd11 "keeps_all" = true) (k11 : PySem.W.keepIn K (.ref f11) = true)
    {od12 an12 : Option Addr} {sl12 : Array (Option Value)} {oc12 kV12 dc12 pm12 cd12 ct12 : Value} (a12 : PySem.W.nsIn K mainGlobals "_law_draws" = some (some (.ref f12))) (l12 : K.lookup f12 = some ⟨oc12, od12, .func (PySem.W.fnOf "_law_draws" "_law_draws" (defArgs (k78_top 16)) (defBody (k78_top 16)) (defScope (k78_top 16)) .none kV12 dc12 pm12 an12 cd12 ct12), sl12⟩) (c12 : PySem.W.codeIn K cd12 "_law_draws" = true) (k12 : PySem.W.keepIn K (.ref f12) = true)
    {od13 an13 : Option Addr} {sl13 : Array (Option Value)} {oc13 kV13 dc13 pm13 cd13 ct13 : Value} (a13 : PySem.W.nsIn K mainGlobals "_law_take" = some (some (.ref f13))) (l13 : K.lookup f13 = some ⟨oc13, od13, .func (PySem.W.fnOf "_law_take" "_law_take" (defArgs (k78_top 17)) (defBody (k78_top 17)) (defScope (k78_top 17)) .none kV13 dc13 pm13 an13 cd13 ct13), sl13⟩) (c13 : PySem.W.codeIn K cd13 "_law_take" = true) (k13 : PySem.W.keepIn K (.ref f13) = true)
    {od14 an14 : Option Addr} {sl14 : Array (Option Value)} {oc14 kV14 dc14 pm14 cd14 ct14 : Value} (a14 : PySem.W.nsIn K mainGlobals "_law_pick" = some (some (.ref f14))) (l14 : K.lookup f14 = some ⟨oc14, od14, .func (PySem.W.fnOf "_law_pick" "_law_pick" (defArgs (k78_top 18)) (defBody (k78_top 18)) (defScope (k78_top 18)) .none kV14 dc14 pm14 an14 cd14 ct14), sl14⟩) (c14 : PySem.W.codeIn K cd14 "_law_pick" = true) (k14 : PySem.W.keepIn K (.ref f14) = true)
    {od15 an15 : Option Addr} {sl15 : Array (Option Value)} {oc15 kV15 dc15 pm15 cd15 ct15 : Value} (a15 : PySem.W.nsIn K mainGlobals "_law_same" = some (some (.ref f15))) (l15 : K.lookup f15 = some ⟨oc15, od15, .func (PySem.W.fnOf "_law_same" "_law_same" (defArgs (k78_top 19)) (defBody (k78_top 19)) (defScope (k78_top 19)) .none kV15 dc15 pm15 an15 cd15 ct15), sl15⟩) (c15 : PySem.W.codeIn K cd15 "_law_same" = true) (k15 : PySem.W.keepIn K (.ref f15) = true)
    {od16 an16 : Option Addr} {sl16 : Array (Option Value)} {oc16 kV16 dc16 pm16 cd16 ct16 : Value} (a16 : PySem.W.nsIn K mainGlobals "_law_words" = some (some (.ref f16))) (l16 : K.lookup f16 = some ⟨oc16, od16, .func (PySem.W.fnOf "_law_words" "_law_words" (defArgs (k78_top 20)) (defBody (k78_top 20)) (defScope (k78_top 20)) .none kV16 dc16 pm16 an16 cd16 ct16), sl16⟩) (c16 : PySem.W.codeIn K cd16 "_law_words" = true) (k16 : PySem.W.keepIn K (.ref f16) = true)
    {od17 an17 : Option Addr} {sl17 : Array (Option Value)} {oc17 kV17 dc17 pm17 cd17 ct17 : Value} (a17 : PySem.W.nsIn K mainGlobals "_law_cell_key" = some (some (.ref f17))) (l17 : K.lookup f17 = some ⟨oc17, od17, .func (PySem.W.fnOf "_law_cell_key" "_law_cell_key" (defArgs (k78_top 21)) (defBody (k78_top 21)) (defScope (k78_top 21)) .none kV17 dc17 pm17 an17 cd17 ct17), sl17⟩) (c17 : PySem.W.codeIn K cd17 "_law_cell_key" = true) (k17 : PySem.W.keepIn K (.ref f17) = true)
    {od18 an18 : Option Addr} {sl18 : Array (Option Value)} {oc18 kV18 dc18 pm18 cd18 ct18 : Value} (a18 : PySem.W.nsIn K mainGlobals "_law_row_key" = some (some (.ref f18))) (l18 : K.lookup f18 = some ⟨oc18, od18, .func (PySem.W.fnOf "_law_row_key" "_law_row_key" (defArgs (k78_top 22)) (defBody (k78_top 22)) (defScope (k78_top 22)) .none kV18 dc18 pm18 an18 cd18 ct18), sl18⟩) (c18 : PySem.W.codeIn K cd18 "_law_row_key" = true) (k18 : PySem.W.keepIn K (.ref f18) = true)
    {od19 an19 : Option Addr} {sl19 : Array (Option Value)} {oc19 kV19 dc19 pm19 cd19 ct19 : Value} (a19 : PySem.W.nsIn K mainGlobals "_law_fact_key" = some (some (.ref f19))) (l19 : K.lookup f19 = some ⟨oc19, od19, .func (PySem.W.fnOf "_law_fact_key" "_law_fact_key" (defArgs (k78_top 23)) (defBody (k78_top 23)) (defScope (k78_top 23)) .none kV19 dc19 pm19 an19 cd19 ct19), sl19⟩) (c19 : PySem.W.codeIn K cd19 "_law_fact_key" = true) (k19 : PySem.W.keepIn K (.ref f19) = true)
    {od20 an20 : Option Addr} {sl20 : Array (Option Value)} {oc20 kV20 dc20 pm20 cd20 ct20 : Value} (a20 : PySem.W.nsIn K mainGlobals "_law_store" = some (some (.ref f20))) (l20 : K.lookup f20 = some ⟨oc20, od20, .func (PySem.W.fnOf "_law_store" "_law_store" (defArgs (k78_top 24)) (defBody (k78_top 24)) (defScope (k78_top 24)) .none kV20 dc20 pm20 an20 cd20 ct20), sl20⟩) (c20 : PySem.W.codeIn K cd20 "_law_store" = true) (k20 : PySem.W.keepIn K (.ref f20) = true)
    {od21 an21 : Option Addr} {sl21 : Array (Option Value)} {oc21 kV21 dc21 pm21 cd21 ct21 : Value} (a21 : PySem.W.nsIn K mainGlobals "_law_values" = some (some (.ref f21))) (l21 : K.lookup f21 = some ⟨oc21, od21, .func (PySem.W.fnOf "_law_values" "_law_values" (defArgs (k78_top 25)) (defBody (k78_top 25)) (defScope (k78_top 25)) .none kV21 dc21 pm21 an21 cd21 ct21), sl21⟩) (c21 : PySem.W.codeIn K cd21 "_law_values" = true) (k21 : PySem.W.keepIn K (.ref f21) = true)
    {od22 an22 : Option Addr} {sl22 : Array (Option Value)} {oc22 kV22 dc22 pm22 cd22 ct22 : Value} (a22 : PySem.W.nsIn K mainGlobals "_law_places" = some (some (.ref f22))) (l22 : K.lookup f22 = some ⟨oc22, od22, .func (PySem.W.fnOf "_law_places" "_law_places" (defArgs (k78_top 26)) (defBody (k78_top 26)) (defScope (k78_top 26)) .none kV22 dc22 pm22 an22 cd22 ct22), sl22⟩) (c22 : PySem.W.codeIn K cd22 "_law_places" = true) (k22 : PySem.W.keepIn K (.ref f22) = true)
    {od23 an23 : Option Addr} {sl23 : Array (Option Value)} {oc23 kV23 dc23 pm23 cd23 ct23 : Value} (a23 : PySem.W.nsIn K mainGlobals "_law_part" = some (some (.ref f23))) (l23 : K.lookup f23 = some ⟨oc23, od23, .func (PySem.W.fnOf "_law_part" "_law_part" (defArgs (k78_top 27)) (defBody (k78_top 27)) (defScope (k78_top 27)) .none kV23 dc23 pm23 an23 cd23 ct23), sl23⟩) (c23 : PySem.W.codeIn K cd23 "_law_part" = true) (k23 : PySem.W.keepIn K (.ref f23) = true)
    {od24 an24 : Option Addr} {sl24 : Array (Option Value)} {oc24 kV24 dc24 pm24 cd24 ct24 : Value} (a24 : PySem.W.nsIn K mainGlobals "_law_clash" = some (some (.ref f24))) (l24 : K.lookup f24 = some ⟨oc24, od24, .func (PySem.W.fnOf "_law_clash" "_law_clash" (defArgs (k78_top 28)) (defBody (k78_top 28)) (defScope (k78_top 28)) .none kV24 dc24 pm24 an24 cd24 ct24), sl24⟩) (c24 : PySem.W.codeIn K cd24 "_law_clash" = true) (k24 : PySem.W.keepIn K (.ref f24) = true)
    {od25 an25 : Option Addr} {sl25 : Array (Option Value)} {oc25 kV25 dc25 pm25 cd25 ct25 : Value} (a25 : PySem.W.nsIn K mainGlobals "_law_clashes" = some (some (.ref f25))) (l25 : K.lookup f25 = some ⟨oc25, od25, .func (PySem.W.fnOf "_law_clashes" "_law_clashes" (defArgs (k78_top 29)) (defBody (k78_top 29)) (defScope (k78_top 29)) .none kV25 dc25 pm25 an25 cd25 ct25), sl25⟩) (c25 : PySem.W.codeIn K cd25 "_law_clashes" = true) (k25 : PySem.W.keepIn K (.ref f25) = true)
    {od26 an26 : Option Addr} {sl26 : Array (Option Value)} {oc26 kV26 dc26 pm26 cd26 ct26 : Value} (a26 : PySem.W.nsIn K mainGlobals "_law_merged" = some (some (.ref f26))) (l26 : K.lookup f26 = some ⟨oc26, od26, .func (PySem.W.fnOf "_law_merged" "_law_merged" (defArgs (k78_top 30)) (defBody (k78_top 30)) (defScope (k78_top 30)) .none kV26 dc26 pm26 an26 cd26 ct26), sl26⟩) (c26 : PySem.W.codeIn K cd26 "_law_merged" = true) (k26 : PySem.W.keepIn K (.ref f26) = true)
    {od27 an27 : Option Addr} {sl27 : Array (Option Value)} {oc27 kV27 dc27 pm27 cd27 ct27 : Value} (a27 : PySem.W.nsIn K mainGlobals "_law_grown" = some (some (.ref f27))) (l27 : K.lookup f27 = some ⟨oc27, od27, .func (PySem.W.fnOf "_law_grown" "_law_grown" (defArgs (k78_top 31)) (defBody (k78_top 31)) (defScope (k78_top 31)) .none kV27 dc27 pm27 an27 cd27 ct27), sl27⟩) (c27 : PySem.W.codeIn K cd27 "_law_grown" = true) (k27 : PySem.W.keepIn K (.ref f27) = true)
    {od28 an28 : Option Addr} {sl28 : Array (Option Value)} {oc28 kV28 dc28 pm28 cd28 ct28 : Value} (a28 : PySem.W.nsIn K mainGlobals "_law_fact" = some (some (.ref f28))) (l28 : K.lookup f28 = some ⟨oc28, od28, .func (PySem.W.fnOf "_law_fact" "_law_fact" (defArgs (k78_top 32)) (defBody (k78_top 32)) (defScope (k78_top 32)) .none kV28 dc28 pm28 an28 cd28 ct28), sl28⟩) (c28 : PySem.W.codeIn K cd28 "_law_fact" = true) (k28 : PySem.W.keepIn K (.ref f28) = true)
    {od29 an29 : Option Addr} {sl29 : Array (Option Value)} {oc29 kV29 dc29 pm29 cd29 ct29 : Value} (a29 : PySem.W.nsIn K mainGlobals "_law_tie" = some (some (.ref f29))) (l29 : K.lookup f29 = some ⟨oc29, od29, .func (PySem.W.fnOf "_law_tie" "_law_tie" (defArgs (k78_top 33)) (defBody (k78_top 33)) (defScope (k78_top 33)) .none kV29 dc29 pm29 an29 cd29 ct29), sl29⟩) (c29 : PySem.W.codeIn K cd29 "_law_tie" = true) (k29 : PySem.W.keepIn K (.ref f29) = true)
    {od30 an30 : Option Addr} {sl30 : Array (Option Value)} {oc30 kV30 dc30 pm30 cd30 ct30 : Value} (a30 : PySem.W.nsIn K mainGlobals "_law_goes" = some (some (.ref f30))) (l30 : K.lookup f30 = some ⟨oc30, od30, .func (PySem.W.fnOf "_law_goes" "_law_goes" (defArgs (k78_top 34)) (defBody (k78_top 34)) (defScope (k78_top 34)) .none kV30 dc30 pm30 an30 cd30 ct30), sl30⟩) (c30 : PySem.W.codeIn K cd30 "_law_goes" = true) (k30 : PySem.W.keepIn K (.ref f30) = true)
    {od31 an31 : Option Addr} {sl31 : Array (Option Value)} {oc31 kV31 dc31 pm31 cd31 ct31 : Value} (a31 : PySem.W.nsIn K mainGlobals "_law_numbered" = some (some (.ref f31))) (l31 : K.lookup f31 = some ⟨oc31, od31, .func (PySem.W.fnOf "_law_numbered" "_law_numbered" (defArgs (k78_top 35)) (defBody (k78_top 35)) (defScope (k78_top 35)) .none kV31 dc31 pm31 an31 cd31 ct31), sl31⟩) (c31 : PySem.W.codeIn K cd31 "_law_numbered" = true) (k31 : PySem.W.keepIn K (.ref f31) = true)
    {od32 an32 : Option Addr} {sl32 : Array (Option Value)} {oc32 kV32 dc32 pm32 cd32 ct32 : Value} (a32 : PySem.W.nsIn K mainGlobals "law" = some (some (.ref f32))) (l32 : K.lookup f32 = some ⟨oc32, od32, .func (PySem.W.fnOf "law" "law" (defArgs (k78_top 36)) (defBody (k78_top 36)) (defScope (k78_top 36)) .none kV32 dc32 pm32 an32 cd32 ct32), sl32⟩) (c32 : PySem.W.codeIn K cd32 "law" = true) (k32 : PySem.W.keepIn K (.ref f32) = true)
    (z0 : PySem.W.nsIn K mainGlobals "len" = some none)
    (z1 : PySem.W.nsIn K mainGlobals "int" = some none)
    (z2 : PySem.W.nsIn K mainGlobals "tuple" = some none)
    (z3 : PySem.W.nsIn K mainGlobals "range" = some none)
    (z4 : PySem.W.nsIn K mainGlobals "enumerate" = some none)
    (z5 : PySem.W.nsIn K mainGlobals "list" = some none)
    (z6 : PySem.W.nsIn K mainGlobals "max" = some none)
    (z7 : PySem.W.nsIn K mainGlobals "isinstance" = some none)
    (z8 : PySem.W.nsIn K mainGlobals "sorted" = some none)
    (z9 : PySem.W.nsIn K mainGlobals "str" = some none)
    (z10 : PySem.W.nsIn K mainGlobals "bool" = some none)
    (pl : Plain k78_fd 12 32) : ∃ fd : FuncData, (∀ (s : Shared) (v : Value), BindsTo s fd ⟨[v], []⟩ [("script", v)]) ∧ ∀ base : Heap, K.In base → base.Ns mainGlobals mg → FnOk l.prog w K mg base CX0 24 fa fd ["script"] (spLaw K) := by
  have e := hfa.symm.trans (PySem.W.mg_of X G a32)
  cases e
  have blt : ∀ b ∈ bns, mg b = none := by
    intro b hb
    simp only [bns, List.mem_cons, List.not_mem_nil, or_false] at hb
    rcases hb with rfl | rfl | rfl | rfl | rfl | rfl | rfl | rfl | rfl | rfl | rfl
    · exact PySem.W.mg_none_of X G z0
    · exact PySem.W.mg_none_of X G z1
    · exact PySem.W.mg_none_of X G z2
    · exact PySem.W.mg_none_of X G z3
    · exact PySem.W.mg_none_of X G z4
    · exact PySem.W.mg_none_of X G z5
    · exact PySem.W.mg_none_of X G z6
    · exact PySem.W.mg_none_of X G z7
    · exact PySem.W.mg_none_of X G z8
    · exact PySem.W.mg_none_of X G z9
    · exact PySem.W.mg_none_of X G z10
  have F0 := fun_mk (st := k78_top 1) l0 c0 k0
  have b0 := F0.binds (ps := [("row" : Str), ("places" : Str)]) fun _ _ _ _ _ _ us hl => match us, hl with | [_, _], _ => rfl
  have F1 := fun_mk (st := k78_top 3) l1 c1 k1
  have b1 := F1.binds (ps := [("cell" : Str)]) fun _ _ _ _ _ _ us hl => match us, hl with | [_], _ => rfl
  have F2 := fun_mk (st := k78_top 4) l2 c2 k2
  have b2 := F2.binds (ps := [("row" : Str)]) fun _ _ _ _ _ _ us hl => match us, hl with | [_], _ => rfl
  have F3 := fun_mk (st := k78_top 5) l3 c3 k3
  have b3 := F3.binds (ps := [("fact" : Str)]) fun _ _ _ _ _ _ us hl => match us, hl with | [_], _ => rfl
  have F4 := fun_mk (st := k78_top 6) l4 c4 k4
  have b4 := F4.binds (ps := [("facts" : Str)]) fun _ _ _ _ _ _ us hl => match us, hl with | [_], _ => rfl
  have F5 := fun_mk (st := k78_top 8) l5 c5 k5
  have b5 := F5.binds (ps := [("base" : Str), ("store" : Str), ("other" : Str)]) fun _ _ _ _ _ _ us hl => match us, hl with | [_, _, _], _ => rfl
  have F6 := fun_mk (st := k78_top 9) l6 c6 k6
  have b6 := F6.binds (ps := [("facts" : Str), ("places" : Str)]) fun _ _ _ _ _ _ us hl => match us, hl with | [_, _], _ => rfl
  have F7 := fun_mk (st := k78_top 10) l7 c7 k7
  have b7 := F7.binds (ps := [("store" : Str), ("tie" : Str)]) fun _ _ _ _ _ _ us hl => match us, hl with | [_, _], _ => rfl
  have F8 := fun_mk (st := k78_top 11) l8 c8 k8
  have b8 := F8.binds (ps := [("pair" : Str)]) fun _ _ _ _ _ _ us hl => match us, hl with | [_], _ => rfl
  have F9 := fun_mk (st := k78_top 12) l9 c9 k9
  have b9 := F9.binds (ps := [("store" : Str), ("ties" : Str)]) fun _ _ _ _ _ _ us hl => match us, hl with | [_, _], _ => rfl
  have F10 := fun_mk (st := k78_top 13) l10 c10 k10
  have b10 := F10.binds (ps := [("base" : Str), ("store" : Str), ("other" : Str), ("ties" : Str)]) fun _ _ _ _ _ _ us hl => match us, hl with | [_, _, _, _], _ => rfl
  have F11 := fun_mk (st := k78_top 14) l11 c11 k11
  have b11 := F11.binds (ps := [("store" : Str), ("ties" : Str)]) fun _ _ _ _ _ _ us hl => match us, hl with | [_, _], _ => rfl
  have F12 := fun_mk (st := k78_top 16) l12 c12 k12
  have b12 := F12.binds (ps := [("script" : Str), ("many" : Str)]) fun _ _ _ _ _ _ us hl => match us, hl with | [_, _], _ => rfl
  have F13 := fun_mk (st := k78_top 17) l13 c13 k13
  have b13 := F13.binds (ps := [("draws" : Str), ("many" : Str)]) fun _ _ _ _ _ _ us hl => match us, hl with | [_, _], _ => rfl
  have F14 := fun_mk (st := k78_top 18) l14 c14 k14
  have b14 := F14.binds (ps := [("draws" : Str), ("row" : Str)]) fun _ _ _ _ _ _ us hl => match us, hl with | [_, _], _ => rfl
  have F15 := fun_mk (st := k78_top 19) l15 c15 k15
  have b15 := F15.binds (ps := [("actual" : Str), ("due" : Str)]) fun _ _ _ _ _ _ us hl => match us, hl with | [_, _], _ => rfl
  have F16 := fun_mk (st := k78_top 20) l16 c16 k16
  have b16 := F16.binds (ps := [("draws" : Str), ("many" : Str)]) fun _ _ _ _ _ _ us hl => match us, hl with | [_, _], _ => rfl
  have F17 := fun_mk (st := k78_top 21) l17 c17 k17
  have b17 := F17.binds (ps := [("cell" : Str)]) fun _ _ _ _ _ _ us hl => match us, hl with | [_], _ => rfl
  have F18 := fun_mk (st := k78_top 22) l18 c18 k18
  have b18 := F18.binds (ps := [("row" : Str)]) fun _ _ _ _ _ _ us hl => match us, hl with | [_], _ => rfl
  have F19 := fun_mk (st := k78_top 23) l19 c19 k19
  have b19 := F19.binds (ps := [("fact" : Str)]) fun _ _ _ _ _ _ us hl => match us, hl with | [_], _ => rfl
  have F20 := fun_mk (st := k78_top 24) l20 c20 k20
  have b20 := F20.binds (ps := [("facts" : Str)]) fun _ _ _ _ _ _ us hl => match us, hl with | [_], _ => rfl
  have F21 := fun_mk (st := k78_top 25) l21 c21 k21
  have b21 := F21.binds (ps := [("draws" : Str), ("words" : Str)]) fun _ _ _ _ _ _ us hl => match us, hl with | [_, _], _ => rfl
  have F22 := fun_mk (st := k78_top 26) l22 c22 k22
  have b22 := F22.binds (ps := [("draws" : Str), ("words" : Str), ("many" : Str)]) fun _ _ _ _ _ _ us hl => match us, hl with | [_, _, _], _ => rfl
  have F23 := fun_mk (st := k78_top 27) l23 c23 k23
  have b23 := F23.binds (ps := [("row" : Str), ("places" : Str)]) fun _ _ _ _ _ _ us hl => match us, hl with | [_, _], _ => rfl
  have F24 := fun_mk (st := k78_top 28) l24 c24 k24
  have b24 := F24.binds (ps := [("one" : Str), ("other" : Str), ("ties" : Str)]) fun _ _ _ _ _ _ us hl => match us, hl with | [_, _, _], _ => rfl
  have F25 := fun_mk (st := k78_top 29) l25 c25 k25
  have b25 := F25.binds (ps := [("store" : Str), ("ties" : Str)]) fun _ _ _ _ _ _ us hl => match us, hl with | [_, _], _ => rfl
  have F26 := fun_mk (st := k78_top 30) l26 c26 k26
  have b26 := F26.binds (ps := [("base" : Str), ("one" : Str), ("other" : Str)]) fun _ _ _ _ _ _ us hl => match us, hl with | [_, _, _], _ => rfl
  have F27 := fun_mk (st := k78_top 31) l27 c27 k27
  have b27 := F27.binds (ps := [("store" : Str), ("facts" : Str), ("ties" : Str)]) fun _ _ _ _ _ _ us hl => match us, hl with | [_, _, _], _ => rfl
  have F28 := fun_mk (st := k78_top 32) l28 c28 k28
  have b28 := F28.binds (ps := [("draws" : Str), ("places" : Str), ("values" : Str)]) fun _ _ _ _ _ _ us hl => match us, hl with | [_, _, _], _ => rfl
  have F29 := fun_mk (st := k78_top 33) l29 c29 k29
  have b29 := F29.binds (ps := [("draws" : Str), ("place" : Str)]) fun _ _ _ _ _ _ us hl => match us, hl with | [_, _], _ => rfl
  have F30 := fun_mk (st := k78_top 34) l30 c30 k30
  have b30 := F30.binds (ps := [("base" : Str), ("one" : Str), ("other" : Str), ("ties" : Str)]) fun _ _ _ _ _ _ us hl => match us, hl with | [_, _, _, _], _ => rfl
  have F31 := fun_mk (st := k78_top 35) l31 c31 k31
  have b31 := F31.binds (ps := [("draws" : Str), ("words" : Str), ("kind" : Str)]) fun _ _ _ _ _ _ us hl => match us, hl with | [_, _, _], _ => rfl
  have F32 := fun_mk (st := k78_top 36) l32 c32 k32
  have b32 := F32.binds (ps := [("script" : Str)]) fun _ _ _ _ _ _ us hl => match us, hl with | [_], _ => rfl
  have d0 : DefG K mg k78_fd k78_ft 0 "cells_at" := ⟨k78_top 1, f0, _, [("row" : Str), ("places" : Str), ("place" : Str)], [("row" : Str), ("places" : Str)], ⟨2, 3, k78_cells_at⟩, F0, PySem.W.mg_of X G a0, k0, b0, k78_s0, rfl, rfl, rfl, k78_c0⟩
  have d1 : DefG K mg k78_fd k78_ft 1 "cell_key" := ⟨k78_top 3, f1, _, [("cell" : Str)], [("cell" : Str)], ⟨1, 1, k78_cell_key⟩, F1, PySem.W.mg_of X G a1, k1, b1, k78_s1, rfl, rfl, rfl, k78_c1⟩
  have d2 : DefG K mg k78_fd k78_ft 2 "row_key" := ⟨k78_top 4, f2, _, [("row" : Str), ("cell" : Str)], [("row" : Str)], ⟨1, 2, k78_row_key⟩, F2, PySem.W.mg_of X G a2, k2, b2, k78_s2, rfl, rfl, rfl, k78_c2⟩
  have d3 : DefG K mg k78_fd k78_ft 3 "fact_key" := ⟨k78_top 5, f3, _, [("fact" : Str)], [("fact" : Str)], ⟨1, 1, k78_fact_key⟩, F3, PySem.W.mg_of X G a3, k3, b3, k78_s3, rfl, rfl, rfl, k78_c3⟩
  have d4 : DefG K mg k78_fd k78_ft 4 "store_of" := ⟨k78_top 6, f4, _, [("facts" : Str), ("found" : Str), ("fact" : Str)], [("facts" : Str)], ⟨1, 3, k78_store_of⟩, F4, PySem.W.mg_of X G a4, k4, b4, k78_s4, rfl, rfl, rfl, k78_c4⟩
  have d5 : DefG K mg k78_fd k78_ft 5 "merged" := ⟨k78_top 8, f5, _, [("base" : Str), ("store" : Str), ("other" : Str), ("in_base" : Str), ("in_store" : Str), ("in_other" : Str), ("both" : Str), ("new" : Str), ("fact" : Str)], [("base" : Str), ("store" : Str), ("other" : Str)], ⟨3, 9, k78_merged⟩, F5, PySem.W.mg_of X G a5, k5, b5, k78_s5, rfl, rfl, rfl, k78_c5⟩
  have d6 : DefG K mg k78_fd k78_ft 6 "groups_of" := ⟨k78_top 9, f6, _, [("facts" : Str), ("places" : Str), ("groups" : Str), ("fact" : Str)], [("facts" : Str), ("places" : Str)], ⟨2, 4, k78_groups_of⟩, F6, PySem.W.mg_of X G a6, k6, b6, k78_s6, rfl, rfl, rfl, k78_c6⟩
  have d7 : DefG K mg k78_fd k78_ft 7 "clashes_of_tie" := ⟨k78_top 10, f7, _, [("store" : Str), ("tie" : Str), ("name" : Str), ("left" : Str), ("right" : Str), ("found" : Str), ("group" : Str), ("at" : Str), ("fact" : Str), ("other" : Str)], [("store" : Str), ("tie" : Str)], ⟨2, 10, k78_clashes_of_tie⟩, F7, PySem.W.mg_of X G a7, k7, b7, k78_s7, rfl, rfl, rfl, k78_c7⟩
  have d8 : DefG K mg k78_fd k78_ft 8 "pair_key" := ⟨k78_top 11, f8, _, [("pair" : Str)], [("pair" : Str)], ⟨1, 1, k78_pair_key⟩, F8, PySem.W.mg_of X G a8, k8, b8, k78_s8, rfl, rfl, rfl, k78_c8⟩
  have d9 : DefG K mg k78_fd k78_ft 9 "clashes_in" := ⟨k78_top 12, f9, _, [("store" : Str), ("ties" : Str), ("found" : Str), ("tie" : Str), ("pair" : Str)], [("store" : Str), ("ties" : Str)], ⟨2, 5, k78_clashes_in⟩, F9, PySem.W.mg_of X G a9, k9, b9, k78_s9, rfl, rfl, rfl, k78_c9⟩
  have d10 : DefG K mg k78_fd k78_ft 10 "clashes" := ⟨k78_top 13, f10, _, [("base" : Str), ("store" : Str), ("other" : Str), ("ties" : Str)], [("base" : Str), ("store" : Str), ("other" : Str), ("ties" : Str)], ⟨4, 4, k78_clashes⟩, F10, PySem.W.mg_of X G a10, k10, b10, k78_s10, rfl, rfl, rfl, k78_c10⟩
  have d11 : DefG K mg k78_fd k78_ft 11 "keeps_all" := ⟨k78_top 14, f11, _, [("store" : Str), ("ties" : Str)], [("store" : Str), ("ties" : Str)], ⟨2, 2, k78_keeps_all⟩, F11, PySem.W.mg_of X G a11, k11, b11, k78_s11, rfl, rfl, rfl, k78_c11⟩
  have d12 : DefG K mg k78_fd k78_ft 12 "_law_draws" := ⟨k78_top 16, f12, _, [("script" : Str), ("many" : Str), ("cells" : Str), ("left" : Str), ("draws" : Str), ("k" : Str), ("place" : Str), ("mixed" : Str), ("cell" : Str)], [("script" : Str), ("many" : Str)], ⟨2, 9, k78__law_draws⟩, F12, PySem.W.mg_of X G a12, k12, b12, k78_s12, rfl, rfl, rfl, k78_c12⟩
  have d13 : DefG K mg k78_fd k78_ft 13 "_law_take" := ⟨k78_top 17, f13, _, [("draws" : Str), ("many" : Str)], [("draws" : Str), ("many" : Str)], ⟨2, 2, k78__law_take⟩, F13, PySem.W.mg_of X G a13, k13, b13, k78_s13, rfl, rfl, rfl, k78_c13⟩
  have d14 : DefG K mg k78_fd k78_ft 14 "_law_pick" := ⟨k78_top 18, f14, _, [("draws" : Str), ("row" : Str)], [("draws" : Str), ("row" : Str)], ⟨2, 2, k78__law_pick⟩, F14, PySem.W.mg_of X G a14, k14, b14, k78_s14, rfl, rfl, rfl, k78_c14⟩
  have d15 : DefG K mg k78_fd k78_ft 15 "_law_same" := ⟨k78_top 19, f15, _, [("actual" : Str), ("due" : Str), ("k" : Str)], [("actual" : Str), ("due" : Str)], ⟨2, 3, k78__law_same⟩, F15, PySem.W.mg_of X G a15, k15, b15, k78_s15, rfl, rfl, rfl, k78_c15⟩
  have d16 : DefG K mg k78_fd k78_ft 16 "_law_words" := ⟨k78_top 20, f16, _, [("draws" : Str), ("many" : Str), ("words" : Str), ("k" : Str), ("size" : Str), ("word" : Str), ("j" : Str), ("other" : Str)], [("draws" : Str), ("many" : Str)], ⟨2, 8, k78__law_words⟩, F16, PySem.W.mg_of X G a16, k16, b16, k78_s16, rfl, rfl, rfl, k78_c16⟩
  have d17 : DefG K mg k78_fd k78_ft 17 "_law_cell_key" := ⟨k78_top 21, f17, _, [("cell" : Str)], [("cell" : Str)], ⟨1, 1, k78__law_cell_key⟩, F17, PySem.W.mg_of X G a17, k17, b17, k78_s17, rfl, rfl, rfl, k78_c17⟩
  have d18 : DefG K mg k78_fd k78_ft 18 "_law_row_key" := ⟨k78_top 22, f18, _, [("row" : Str), ("cell" : Str)], [("row" : Str)], ⟨1, 2, k78__law_row_key⟩, F18, PySem.W.mg_of X G a18, k18, b18, k78_s18, rfl, rfl, rfl, k78_c18⟩
  have d19 : DefG K mg k78_fd k78_ft 19 "_law_fact_key" := ⟨k78_top 23, f19, _, [("fact" : Str)], [("fact" : Str)], ⟨1, 1, k78__law_fact_key⟩, F19, PySem.W.mg_of X G a19, k19, b19, k78_s19, rfl, rfl, rfl, k78_c19⟩
  have d20 : DefG K mg k78_fd k78_ft 20 "_law_store" := ⟨k78_top 24, f20, _, [("facts" : Str), ("found" : Str), ("fact" : Str)], [("facts" : Str)], ⟨1, 3, k78__law_store⟩, F20, PySem.W.mg_of X G a20, k20, b20, k78_s20, rfl, rfl, rfl, k78_c20⟩
  have d21 : DefG K mg k78_fd k78_ft 21 "_law_values" := ⟨k78_top 25, f21, _, [("draws" : Str), ("words" : Str), ("number" : Str)], [("draws" : Str), ("words" : Str)], ⟨2, 3, k78__law_values⟩, F21, PySem.W.mg_of X G a21, k21, b21, k78_s21, rfl, rfl, rfl, k78_c21⟩
  have d22 : DefG K mg k78_fd k78_ft 22 "_law_places" := ⟨k78_top 26, f22, _, [("draws" : Str), ("words" : Str), ("many" : Str), ("k" : Str)], [("draws" : Str), ("words" : Str), ("many" : Str)], ⟨3, 4, k78__law_places⟩, F22, PySem.W.mg_of X G a22, k22, b22, k78_s22, rfl, rfl, rfl, k78_c22⟩
  have d23 : DefG K mg k78_fd k78_ft 23 "_law_part" := ⟨k78_top 27, f23, _, [("row" : Str), ("places" : Str), ("place" : Str)], [("row" : Str), ("places" : Str)], ⟨2, 3, k78__law_part⟩, F23, PySem.W.mg_of X G a23, k23, b23, k78_s23, rfl, rfl, rfl, k78_c23⟩
  have d24 : DefG K mg k78_fd k78_ft 24 "_law_clash" := ⟨k78_top 28, f24, _, [("one" : Str), ("other" : Str), ("ties" : Str), ("tie" : Str)], [("one" : Str), ("other" : Str), ("ties" : Str)], ⟨3, 4, k78__law_clash⟩, F24, PySem.W.mg_of X G a24, k24, b24, k78_s24, rfl, rfl, rfl, k78_c24⟩
  have d25 : DefG K mg k78_fd k78_ft 25 "_law_clashes" := ⟨k78_top 29, f25, _, [("store" : Str), ("ties" : Str), ("told" : Str), ("k" : Str), ("other" : Str)], [("store" : Str), ("ties" : Str)], ⟨2, 5, k78__law_clashes⟩, F25, PySem.W.mg_of X G a25, k25, b25, k78_s25, rfl, rfl, rfl, k78_c25⟩
  have d26 : DefG K mg k78_fd k78_ft 26 "_law_merged" := ⟨k78_top 30, f26, _, [("base" : Str), ("one" : Str), ("other" : Str), ("both" : Str), ("fact" : Str)], [("base" : Str), ("one" : Str), ("other" : Str)], ⟨3, 5, k78__law_merged⟩, F26, PySem.W.mg_of X G a26, k26, b26, k78_s26, rfl, rfl, rfl, k78_c26⟩
  have d27 : DefG K mg k78_fd k78_ft 27 "_law_grown" := ⟨k78_top 31, f27, _, [("store" : Str), ("facts" : Str), ("ties" : Str), ("kept" : Str), ("fact" : Str), ("known" : Str)], [("store" : Str), ("facts" : Str), ("ties" : Str)], ⟨3, 6, k78__law_grown⟩, F27, PySem.W.mg_of X G a27, k27, b27, k78_s27, rfl, rfl, rfl, k78_c27⟩
  have d28 : DefG K mg k78_fd k78_ft 28 "_law_fact" := ⟨k78_top 32, f28, _, [("draws" : Str), ("places" : Str), ("values" : Str), ("place" : Str), ("row" : Str), ("k" : Str)], [("draws" : Str), ("places" : Str), ("values" : Str)], ⟨3, 6, k78__law_fact⟩, F28, PySem.W.mg_of X G a28, k28, b28, k78_s28, rfl, rfl, rfl, k78_c28⟩
  have d29 : DefG K mg k78_fd k78_ft 29 "_law_tie" := ⟨k78_top 33, f29, _, [("draws" : Str), ("place" : Str), ("sides" : Str), ("left" : Str), ("k" : Str)], [("draws" : Str), ("place" : Str)], ⟨2, 5, k78__law_tie⟩, F29, PySem.W.mg_of X G a29, k29, b29, k78_s29, rfl, rfl, rfl, k78_c29⟩
  have d30 : DefG K mg k78_fd k78_ft 30 "_law_goes" := ⟨k78_top 34, f30, _, [("base" : Str), ("one" : Str), ("other" : Str), ("ties" : Str), ("due" : Str), ("pairs" : Str), ("first" : Str), ("second" : Str)], [("base" : Str), ("one" : Str), ("other" : Str), ("ties" : Str)], ⟨4, 8, k78__law_goes⟩, F30, PySem.W.mg_of X G a30, k30, b30, k78_s30, rfl, rfl, rfl, k78_c30⟩
  have d31 : DefG K mg k78_fd k78_ft 31 "_law_numbered" := ⟨k78_top 35, f31, _, [("draws" : Str), ("words" : Str), ("kind" : Str), ("start" : Str), ("many" : Str), ("base" : Str), ("at" : Str), ("place" : Str), ("one" : Str), ("other" : Str), ("ties" : Str), ("due" : Str), ("pairs" : Str), ("told" : Str), ("k" : Str), ("fact" : Str)], [("draws" : Str), ("words" : Str), ("kind" : Str)], ⟨3, 16, k78__law_numbered⟩, F31, PySem.W.mg_of X G a31, k31, b31, k78_s31, rfl, rfl, rfl, k78_c31⟩
  have d32 : DefG K mg k78_fd k78_ft 32 "law" := ⟨k78_top 36, fa, _, [("script" : Str), ("draws" : Str), ("words" : Str), ("values" : Str), ("places" : Str), ("turn" : Str), ("ties" : Str), ("base" : Str), ("news" : Str), ("versions" : Str), ("k" : Str), ("kept" : Str), ("loose" : Str), ("kind" : Str), ("fact" : Str)], [("script" : Str)], ⟨1, 15, k78_law⟩, F32, PySem.W.mg_of X G a32, k32, b32, k78_s32, rfl, rfl, rfl, k78_c32⟩
  have D : ∀ (id : Nat) (nm : Str), k78_ft[id]? = some nm → DefG K mg k78_fd k78_ft id nm := by
    intro id nm hn
    match id, hn with
    | 0, hn => cases (show some ("cells_at" : Str) = some nm from hn); exact d0
    | 1, hn => cases (show some ("cell_key" : Str) = some nm from hn); exact d1
    | 2, hn => cases (show some ("row_key" : Str) = some nm from hn); exact d2
    | 3, hn => cases (show some ("fact_key" : Str) = some nm from hn); exact d3
    | 4, hn => cases (show some ("store_of" : Str) = some nm from hn); exact d4
    | 5, hn => cases (show some ("merged" : Str) = some nm from hn); exact d5
    | 6, hn => cases (show some ("groups_of" : Str) = some nm from hn); exact d6
    | 7, hn => cases (show some ("clashes_of_tie" : Str) = some nm from hn); exact d7
    | 8, hn => cases (show some ("pair_key" : Str) = some nm from hn); exact d8
    | 9, hn => cases (show some ("clashes_in" : Str) = some nm from hn); exact d9
    | 10, hn => cases (show some ("clashes" : Str) = some nm from hn); exact d10
    | 11, hn => cases (show some ("keeps_all" : Str) = some nm from hn); exact d11
    | 12, hn => cases (show some ("_law_draws" : Str) = some nm from hn); exact d12
    | 13, hn => cases (show some ("_law_take" : Str) = some nm from hn); exact d13
    | 14, hn => cases (show some ("_law_pick" : Str) = some nm from hn); exact d14
    | 15, hn => cases (show some ("_law_same" : Str) = some nm from hn); exact d15
    | 16, hn => cases (show some ("_law_words" : Str) = some nm from hn); exact d16
    | 17, hn => cases (show some ("_law_cell_key" : Str) = some nm from hn); exact d17
    | 18, hn => cases (show some ("_law_row_key" : Str) = some nm from hn); exact d18
    | 19, hn => cases (show some ("_law_fact_key" : Str) = some nm from hn); exact d19
    | 20, hn => cases (show some ("_law_store" : Str) = some nm from hn); exact d20
    | 21, hn => cases (show some ("_law_values" : Str) = some nm from hn); exact d21
    | 22, hn => cases (show some ("_law_places" : Str) = some nm from hn); exact d22
    | 23, hn => cases (show some ("_law_part" : Str) = some nm from hn); exact d23
    | 24, hn => cases (show some ("_law_clash" : Str) = some nm from hn); exact d24
    | 25, hn => cases (show some ("_law_clashes" : Str) = some nm from hn); exact d25
    | 26, hn => cases (show some ("_law_merged" : Str) = some nm from hn); exact d26
    | 27, hn => cases (show some ("_law_grown" : Str) = some nm from hn); exact d27
    | 28, hn => cases (show some ("_law_fact" : Str) = some nm from hn); exact d28
    | 29, hn => cases (show some ("_law_tie" : Str) = some nm from hn); exact d29
    | 30, hn => cases (show some ("_law_goes" : Str) = some nm from hn); exact d30
    | 31, hn => cases (show some ("_law_numbered" : Str) = some nm from hn); exact d31
    | 32, hn => cases (show some ("law" : Str) = some nm from hn); exact d32
    | n + 33, hn => simp [k78_ft] at hn
  refine ⟨PySem.W.fnOf "law" "law" (defArgs (k78_top 36)) (defBody (k78_top 36)) (defScope (k78_top 36)) .none kV32 dc32 pm32 an32 cd32 ct32, fun s v => .of_eq rfl, fun base _ _ => ?_⟩
  exact law_ok (W := ⟨l.prog, w, K, fun _ _ => False⟩) rfl (fn_last (T := k78_fd) (ft := k78_ft) (j := 11) (id := 32) (nm := "law") (fd := ⟨1, 15, k78_law⟩) rfl rfl rfl blt D F32 k78_s32 rfl rfl rfl k78_c32) pl
end VE
open PySem PySem.W
                        PyProof.Rows
set_option maxHeartbeats 0 in
theorem PySem.Challenge.cw_broughtacross_k78_whole_versions_holds : PySem.Challenge.rw_broughtacross_k78_whole_versions.Holds := by
  w_on; o_law
  k_head
  (case hw => w_witness2)
  k_fill
  refine L2.walk_ofB (l := PySem.Challenge.rw_broughtacross_k78_whole_versions) (n := 63) (k := 24) (x := "script") (CX := fun _ => L2.CX0) (sp := fun w => VE.spLaw _) rfl (by decide) rfl ⟨rfl, by decide, by decide⟩ (fun w h Y => PySem.W.kIn_of Y) ?F (fun _ _ a ns hl hb ho hS => ⟨a, ns, rfl, hl, hb, ho, hS, fun _ => rfl⟩) (fun _ _ _ _ _ h => h)
  case F =>
    intro w mg fa h KX G hmg
    refine' VE.k78_all KX G hmg ?a0 ?l0 ?c0 ?k0 ?a1 ?l1 ?c1 ?k1 ?a2 ?l2 ?c2 ?k2 ?a3 ?l3 ?c3 ?k3 ?a4 ?l4 ?c4 ?k4 ?a5 ?l5 ?c5 ?k5 ?a6 ?l6 ?c6 ?k6 ?a7 ?l7 ?c7 ?k7 ?a8 ?l8 ?c8 ?k8 ?a9 ?l9 ?c9 ?k9 ?a10 ?l10 ?c10 ?k10 ?a11 ?l11 ?c11 ?k11 ?a12 ?l12 ?c12 ?k12 ?a13 ?l13 ?c13 ?k13 ?a14 ?l14 ?c14 ?k14 ?a15 ?l15 ?c15 ?k15 ?a16 ?l16 ?c16 ?k16 ?a17 ?l17 ?c17 ?k17 ?a18 ?l18 ?c18 ?k18 ?a19 ?l19 ?c19 ?k19 ?a20 ?l20 ?c20 ?k20 ?a21 ?l21 ?c21 ?k21 ?a22 ?l22 ?c22 ?k22 ?a23 ?l23 ?c23 ?k23 ?a24 ?l24 ?c24 ?k24 ?a25 ?l25 ?c25 ?k25 ?a26 ?l26 ?c26 ?k26 ?a27 ?l27 ?c27 ?k27 ?a28 ?l28 ?c28 ?k28 ?a29 ?l29 ?c29 ?k29 ?a30 ?l30 ?c30 ?k30 ?a31 ?l31 ?c31 ?k31 ?a32 ?l32 ?c32 ?k32 ?z0 ?z1 ?z2 ?z3 ?z4 ?z5 ?z6 ?z7 ?z8 ?z9 ?z10 VE.k78_plain
    (case a0 => k_is)
    (case l0 => k_is)
    (case c0 => k_is)
    (case k0 => k_is)
    (case a1 => k_is)
    (case l1 => k_is)
    (case c1 => k_is)
    (case k1 => k_is)
    (case a2 => k_is)
    (case l2 => k_is)
    (case c2 => k_is)
    (case k2 => k_is)
    (case a3 => k_is)
    (case l3 => k_is)
    (case c3 => k_is)
    (case k3 => k_is)
    (case a4 => k_is)
    (case l4 => k_is)
    (case c4 => k_is)
    (case k4 => k_is)
    (case a5 => k_is)
    (case l5 => k_is)
    (case c5 => k_is)
    (case k5 => k_is)
    (case a6 => k_is)
    (case l6 => k_is)
    (case c6 => k_is)
    (case k6 => k_is)
    (case a7 => k_is)
    (case l7 => k_is)
    (case c7 => k_is)
    (case k7 => k_is)
    (case a8 => k_is)
    (case l8 => k_is)
    (case c8 => k_is)
    (case k8 => k_is)
    (case a9 => k_is)
    (case l9 => k_is)
    (case c9 => k_is)
    (case k9 => k_is)
    (case a10 => k_is)
    (case l10 => k_is)
    (case c10 => k_is)
    (case k10 => k_is)
    (case a11 => k_is)
    (case l11 => k_is)
    (case c11 => k_is)
    (case k11 => k_is)
    (case a12 => k_is)
    (case l12 => k_is)
    (case c12 => k_is)
    (case k12 => k_is)
    (case a13 => k_is)
    (case l13 => k_is)
    (case c13 => k_is)
    (case k13 => k_is)
    (case a14 => k_is)
    (case l14 => k_is)
    (case c14 => k_is)
    (case k14 => k_is)
    (case a15 => k_is)
    (case l15 => k_is)
    (case c15 => k_is)
    (case k15 => k_is)
    (case a16 => k_is)
    (case l16 => k_is)
    (case c16 => k_is)
    (case k16 => k_is)
    (case a17 => k_is)
    (case l17 => k_is)
    (case c17 => k_is)
    (case k17 => k_is)
    (case a18 => k_is)
    (case l18 => k_is)
    (case c18 => k_is)
    (case k18 => k_is)
    (case a19 => k_is)
    (case l19 => k_is)
    (case c19 => k_is)
    (case k19 => k_is)
    (case a20 => k_is)
    (case l20 => k_is)
    (case c20 => k_is)
    (case k20 => k_is)
    (case a21 => k_is)
    (case l21 => k_is)
    (case c21 => k_is)
    (case k21 => k_is)
    (case a22 => k_is)
    (case l22 => k_is)
    (case c22 => k_is)
    (case k22 => k_is)
    (case a23 => k_is)
    (case l23 => k_is)
    (case c23 => k_is)
    (case k23 => k_is)
    (case a24 => k_is)
    (case l24 => k_is)
    (case c24 => k_is)
    (case k24 => k_is)
    (case a25 => k_is)
    (case l25 => k_is)
    (case c25 => k_is)
    (case k25 => k_is)
    (case a26 => k_is)
    (case l26 => k_is)
    (case c26 => k_is)
    (case k26 => k_is)
    (case a27 => k_is)
    (case l27 => k_is)
    (case c27 => k_is)
    (case k27 => k_is)
    (case a28 => k_is)
    (case l28 => k_is)
    (case c28 => k_is)
    (case k28 => k_is)
    (case a29 => k_is)
    (case l29 => k_is)
    (case c29 => k_is)
    (case k29 => k_is)
    (case a30 => k_is)
    (case l30 => k_is)
    (case c30 => k_is)
    (case k30 => k_is)
    (case a31 => k_is)
    (case l31 => k_is)
    (case c31 => k_is)
    (case k31 => k_is)
    (case a32 => k_is)
    (case l32 => k_is)
    (case c32 => k_is)
    (case k32 => k_is)
    (case z0 => k_is)
    (case z1 => k_is)
    (case z2 => k_is)
    (case z3 => k_is)
    (case z4 => k_is)
    (case z5 => k_is)
    (case z6 => k_is)
    (case z7 => k_is)
    (case z8 => k_is)
    (case z9 => k_is)
    (case z10 => k_is)

