import PyProof.Rows.All
import Wide.All
import OpenK.AllK
import Wide.FinOn
import HandS.ForMost
import HandS.ForExc
import HandS.Wide
import HandS.Flow
import HandS.Style
import HandS.IsInst
import HandS.TupAny
import HandS.TupMul
import HandS.TupSets
import HandS.Conv
import HandS.Zip
import HandS.Deep
import HandS.Defaults
import HandS.Lambda
import HandS.SetFor
import HandS.Strs
import HandS.HotCalls
import HandS.ExcCtx
import PyProof.Rows.TupIter
import HandS.ExcIs
import HandS.Text
import HandS.HeadHook1
import Lean
import KE.KStateDown
import HandS.Head0
import HandS.Head1
import HandS.Head2
import HandS.HeadEnd
import HandS.HeadHook2
import HandS.HeadHook3
import HandS.HeadHook4
import HandS.HeadWalk
import PySem.Challenge.RW_anytide_k01_harbours_boats_and_scripts_k
section
set_option Elab.async false
set_option linter.all false
set_option maxRecDepth 100000
set_option maxHeartbeats 4000000
/-! The pure reading of a Python program: values, a small store of lists that change, a monad. -/
namespace Pd
open PySem PySem.Spec PyProof.Rows L2

/-- a value, read as a whole; cell: a list that may change, by its place in the store; scr: the script; fn: a def of the module -/
inductive D where
  | non | bl (b : Bool) | int (i : Int) | str (x : Str) | tup (ds : List D) | lst (ds : List D) | cell (k : Nat) | scr (ns : List Int) | fn (i : Nat)

abbrev Store := List (List D)
abbrev Env' := List (Option D)
inductive R (α : Type) where
  | ok (a : α) (S : Store) | err (c : Nat) (S : Store) | bad

abbrev M (α : Type) := Store → R α
def M.pure {α : Type} (a : α) : M α := fun S => .ok a S
def R.bind {α β : Type} (x : R α) (f : α → M β) : R β := match x with
  | .ok a S => f a S
  | .err c S => .err c S
  | .bad => .bad
def M.bind {α β : Type} (x : M α) (f : α → M β) : M β := fun S => (x S).bind f
instance : Monad M where
  pure := M.pure
  bind := M.bind
def M.bad {α : Type} : M α := fun _ => .bad
def M.of {α : Type} (o : Option α) : M α := fun S => match o with
  | some a => .ok a S
  | none => .bad

/-- what the program is: the model's program, the world, the written part, the module's names, the base; where the defs stand, where the error classes stand -/
structure Tab where
  P : Program
  w : World
  K : PySem.W.Frag
  mg : Str → Option Value
  base : Heap
  fa : Nat → Addr
  ca : Nat → Addr
  tabs : List (Addr × Str)

/-! ### what stands for what -/
mutual
inductive Rep (T : Tab) (cs : List Addr) (F : Hp) : V → D → Prop
  | non : Rep T cs F .non .non
  | bl (b : Bool) : Rep T cs F (.bl b) (.bl b)
  | int (i : Int) : Rep T cs F (.int i) (.int i)
  | str (x : Str) : Rep T cs F (.str x) (.str x)
  | tup {a : Addr} {vs : List V} {ds : List D} : SqT T.K F a vs → RepL T cs F vs ds → Rep T cs F (.ref a) (.tup ds)
  | lst {a : Addr} {vs : List V} {ds : List D} : F a = some (.lst vs) → RepL T cs F vs ds → Rep T cs F (.ref a) (.lst ds)
  | cell {a : Addr} {k : Nat} : cs[k]? = some a → Rep T cs F (.ref a) (.cell k)
  | scr {a : Addr} {ns : List Int} : SqL T.K F a (ns.map V.int) → Rep T cs F (.ref a) (.scr ns)
  | fn (i : Nat) : Rep T cs F (.ref (T.fa i)) (.fn i)
inductive RepL (T : Tab) (cs : List Addr) (F : Hp) : List V → List D → Prop
  | nil : RepL T cs F [] []
  | cons {v : V} {d : D} {vs : List V} {ds : List D} : Rep T cs F v d → RepL T cs F vs ds → RepL T cs F (v :: vs) (d :: ds)
end

def Ext (F F' : Hp) : Prop := ∀ a o, F a = some o → F' a = some o
theorem Ext.refl (F : Hp) : Ext F F := fun _ _ h => h
theorem Ext.trans {F G H : Hp} (a : Ext F G) (b : Ext G H) : Ext F H := fun x o h => b x o (a x o h)
theorem Ext.new {H : Hp} {p : Addr} {o : HO} (h : H p = none) : Ext H (upd H p o) := fun a u e => by
  rw [upd_ne (ne_of_none e h)]
  exact e
theorem ext_rd {H H' : Hp} {a : Addr} {u : HO} (e : Ext H H') (h : Rd H a u) : Rd H' a u := by
  rcases h with h | ⟨o, h⟩
  · exact Or.inl (e a _ h)
  · exact Or.inr ⟨o, e a _ h⟩
theorem ext_l {K : PySem.W.Frag} {H H' : Hp} {a : Addr} {xs : List V} (e : Ext H H') (h : SqL K H a xs) : SqL K H' a xs := by
  rcases h with h | h
  · exact Or.inl (ext_rd e h)
  · exact Or.inr h
theorem ext_t {K : PySem.W.Frag} {H H' : Hp} {a : Addr} {xs : List V} (e : Ext H H') (h : SqT K H a xs) : SqT K H' a xs := by
  rcases h with h | h
  · exact Or.inl (ext_rd e h)
  · exact Or.inr h
section
variable {T : Tab} {cs cs' : List Addr} {F F' H H' : Hp} {v : V} {d : D} {vs : List V} {ds : List D} {S : Store}
mutual
theorem Rep.mono (e : Ext F F') (c : ∀ (k : Nat) (a : Addr), cs[k]? = some a → cs'[k]? = some a) : ∀ {v : V} {d : D}, Rep T cs F v d → Rep T cs' F' v d
  | _, _, .non => .non
  | _, _, .bl b => .bl b
  | _, _, .int i => .int i
  | _, _, .str x => .str x
  | _, _, .tup h r => .tup (ext_t e h) (RepL.mono e c r)
  | _, _, .lst h r => .lst (e _ _ h) (RepL.mono e c r)
  | _, _, .cell h => .cell (c _ _ h)
  | _, _, .scr h => .scr (ext_l e h)
  | _, _, .fn i => .fn i
theorem RepL.mono (e : Ext F F') (c : ∀ (k : Nat) (a : Addr), cs[k]? = some a → cs'[k]? = some a) : ∀ {vs : List V} {ds : List D}, RepL T cs F vs ds → RepL T cs' F' vs ds
  | _, _, .nil => .nil
  | _, _, .cons h r => .cons (Rep.mono e c h) (RepL.mono e c r)
end
/-- the cells grow -/
def Pre (cs cs' : List Addr) : Prop := ∀ (k : Nat) (a : Addr), cs[k]? = some a → cs'[k]? = some a
theorem Pre.refl (cs : List Addr) : Pre cs cs := fun _ _ h => h
theorem Pre.trans {a b c : List Addr} (x : Pre a b) (y : Pre b c) : Pre a c := fun k z h => y k z (x k z h)
theorem Pre.nil (cs : List Addr) : Pre [] cs := fun k a h => by simp at h
theorem Pre.app (cs ds : List Addr) : Pre cs (cs ++ ds) := fun k a h => by
  obtain ⟨hk, e⟩ := List.getElem?_eq_some_iff.mp h
  rw [List.getElem?_append_left hk]
  exact h
theorem RepL.length : ∀ {vs : List V} {ds : List D}, RepL T cs F vs ds → vs.length = ds.length
  | _, _, .nil => rfl
  | _, _, .cons _ r => by rw [List.length_cons, List.length_cons, RepL.length r]
theorem RepL.get : ∀ {vs : List V} {ds : List D} {i : Nat} {d : D}, RepL T cs F vs ds → ds[i]? = some d → ∃ v, vs[i]? = some v ∧ Rep T cs F v d
  | _, _, _, _, .nil, e => by simp at e
  | _, _, 0, _, .cons h _, e => by simp at e; subst e; exact ⟨_, rfl, h⟩
  | _, _, i + 1, _, .cons _ r, e => by
    obtain ⟨v, h1, h2⟩ := RepL.get (i := i) r (by simpa using e)
    exact ⟨v, by simpa using h1, h2⟩
theorem RepL.getV : ∀ {vs : List V} {ds : List D} {i : Nat} {v : V}, RepL T cs F vs ds → vs[i]? = some v → ∃ d, ds[i]? = some d ∧ Rep T cs F v d
  | _, _, _, _, .nil, e => by simp at e
  | _, _, 0, _, .cons h _, e => by simp at e; subst e; exact ⟨_, rfl, h⟩
  | _, _, i + 1, _, .cons _ r, e => by
    obtain ⟨v, h1, h2⟩ := RepL.getV (i := i) r (by simpa using e)
    exact ⟨v, by simpa using h1, h2⟩
theorem RepL.append : ∀ {vs us : List V} {ds es : List D}, RepL T cs F vs ds → RepL T cs F us es → RepL T cs F (vs ++ us) (ds ++ es)
  | _, _, _, _, .nil, s => s
  | _, _, _, _, .cons h r, s => .cons h (RepL.append r s)
theorem RepL.take : ∀ {vs : List V} {ds : List D} (n : Nat), RepL T cs F vs ds → RepL T cs F (vs.take n) (ds.take n)
  | _, _, 0, _ => .nil
  | _, _, _ + 1, .nil => .nil
  | _, _, n + 1, .cons h r => .cons h (RepL.take n r)
theorem RepL.drop : ∀ {vs : List V} {ds : List D} (n : Nat), RepL T cs F vs ds → RepL T cs F (vs.drop n) (ds.drop n)
  | _, _, 0, r => r
  | _, _, _ + 1, .nil => .nil
  | _, _, n + 1, .cons _ r => RepL.drop n r
theorem RepL.reverse (h : RepL T cs F vs ds) : RepL T cs F vs.reverse ds.reverse := by
  induction vs generalizing ds with
  | nil => cases h; exact .nil
  | cons v vs ih => cases h with
    | cons h r =>
      rw [List.reverse_cons, List.reverse_cons]
      exact (ih r).append (.cons h .nil)
theorem RepL.set : ∀ {vs : List V} {ds : List D} {v : V} {d : D} (i : Nat), RepL T cs F vs ds → Rep T cs F v d → RepL T cs F (vs.set i v) (ds.set i d)
  | _, _, _, _, _, .nil, _ => .nil
  | _, _, _, _, 0, .cons _ r, s => .cons s r
  | _, _, _, _, i + 1, .cons h r, s => .cons h (RepL.set i r s)
theorem RepL.eraseIdx : ∀ {vs : List V} {ds : List D} (i : Nat), RepL T cs F vs ds → RepL T cs F (vs.eraseIdx i) (ds.eraseIdx i)
  | _, _, _, .nil => .nil
  | _, _, 0, .cons _ r => r
  | _, _, i + 1, .cons h r => .cons h (RepL.eraseIdx i r)
theorem RepL.flat : ∀ (n : Nat), RepL T cs F vs ds → RepL T cs F (List.replicate n vs).flatten (List.replicate n ds).flatten
  | 0, _ => .nil
  | n + 1, h => by
    rw [List.replicate_succ, List.replicate_succ, List.flatten_cons, List.flatten_cons]
    exact h.append (RepL.flat n h)
theorem RepL.ints : ∀ {vs : List V} {ns : List Int}, RepL T cs F vs (ns.map D.int) → vs = ns.map V.int
  | _, [], .nil => rfl
  | _, n :: ns, .cons h r => by
    cases h
    rw [RepL.ints r]
    rfl
theorem RepL.bools : ∀ {vs : List V} {ns : List Bool}, RepL T cs F vs (ns.map D.bl) → vs = ns.map V.bl
  | _, [], .nil => rfl
  | _, n :: ns, .cons h r => by
    cases h
    rw [RepL.bools r]
    rfl
theorem RepL.strs : ∀ {vs : List V} {ns : List Str}, RepL T cs F vs (ns.map D.str) → vs = ns.map V.str
  | _, [], .nil => rfl
  | _, n :: ns, .cons h r => by
    cases h
    rw [RepL.strs r]
    rfl
theorem repL_ints : ∀ ns : List Int, RepL T cs F (ns.map V.int) (ns.map D.int)
  | [] => .nil
  | n :: ns => .cons (.int n) (repL_ints ns)
theorem repL_strs : ∀ ns : List Str, RepL T cs F (ns.map V.str) (ns.map D.str)
  | [] => .nil
  | n :: ns => .cons (.str n) (repL_strs ns)

/-- the state: F what is read as values, cs the lists that change -/
structure Good (T : Tab) (F H : Hp) (cs : List Addr) (S : Store) : Prop where
  sub : Ext F H
  nd : cs.Nodup
  len : cs.length = S.length
  cell : ∀ (k : Nat) (a : Addr) (ds : List D), cs[k]? = some a → S[k]? = some ds → F a = none ∧ ∃ vs, H a = some (.lst vs) ∧ RepL T [] F vs ds
  tabs : LamX.Tabs T.tabs H
  noT : ∀ (a : Addr) (ps : Array Value), F a ≠ some (.tbl ps)
/-- no table of code objects -/
def NoTbl (o : HO) : Prop := ∀ ps, o ≠ .tbl ps
theorem tabs_new {t : List (Addr × Str)} {H : Hp} {p : Addr} {o : HO} (h : LamX.Tabs t H) (hp : H p = none) : LamX.Tabs t (upd H p o) := h.ext (Ext.new hp)
theorem tabs_upd {t : List (Addr × Str)} {H : Hp} {p : Addr} {xs : List V} {o : HO} (h : LamX.Tabs t H) (hp : H p = some (.lst xs)) : LamX.Tabs t (upd H p o) := fun q hq => by
  obtain ⟨ps, h1, h2, h3⟩ := h q hq
  refine ⟨ps, ?_, h2, fun pos cv hc => ?_⟩
  · rw [upd_ne (fun z => by rw [z, hp] at h1; cases h1)]
    exact h1
  · obtain ⟨c, e1, e2⟩ := h3 pos cv hc
    refine ⟨c, e1, ?_⟩
    rw [upd_ne (fun z => by rw [z, hp] at e2; unfold LamX.CodeO at e2; cases e2)]
    exact e2

theorem Good.free (g : Good T F H cs S) {p : Addr} (h : H p = none) : F p = none := by
  cases e : F p with
  | none => rfl
  | some o => rw [g.sub p o e] at h; cases h
theorem Good.has (g : Good T F H cs S) {k : Nat} {a : Addr} (h : cs[k]? = some a) : ∃ ds, S[k]? = some ds := by
  obtain ⟨hk, _⟩ := List.getElem?_eq_some_iff.mp h
  rw [g.len] at hk
  exact ⟨S[k], List.getElem?_eq_getElem hk⟩
theorem Good.hasS (g : Good T F H cs S) {k : Nat} {ds : List D} (h : S[k]? = some ds) : ∃ a, cs[k]? = some a := by
  obtain ⟨hk, _⟩ := List.getElem?_eq_some_iff.mp h
  rw [← g.len] at hk
  exact ⟨cs[k], List.getElem?_eq_getElem hk⟩
/-- a new object, read as a value -/
theorem Good.new (g : Good T F H cs S) {p : Addr} (o : HO) (h : H p = none) (hn : NoTbl o := by intro _ z; cases z) : Good T (upd F p o) (upd H p o) cs S := by
  have fp := g.free h
  refine ⟨fun a u e => ?_, g.nd, g.len, fun k a ds h1 h2 => ?_, tabs_new g.tabs h, fun a ps e => ?_⟩
  rotate_right
  · by_cases ha : a = p
    · subst ha
      rw [upd_same] at e
      exact hn ps (Option.some.inj e)
    · rw [upd_ne ha] at e
      exact g.noT a ps e
  · by_cases ha : a = p
    · subst ha
      rw [upd_same] at e ⊢
      exact e
    · rw [upd_ne ha] at e ⊢
      exact g.sub a u e
  · obtain ⟨f0, vs, hv, r⟩ := g.cell k a ds h1 h2
    have ne : a ≠ p := ne_of_none hv h
    refine ⟨by rw [upd_ne ne]; exact f0, vs, by rw [upd_ne ne]; exact hv, r.mono (Ext.new fp) (Pre.refl _)⟩
/-- a new object that nobody reads -/
theorem Good.dust (g : Good T F H cs S) {p : Addr} (o : HO) (h : H p = none) : Good T F (upd H p o) cs S := by
  refine ⟨g.sub.trans (Ext.new h), g.nd, g.len, fun k a ds h1 h2 => ?_, tabs_new g.tabs h, g.noT⟩
  obtain ⟨f0, vs, hv, r⟩ := g.cell k a ds h1 h2
  exact ⟨f0, vs, by rw [upd_ne (ne_of_none hv h)]; exact hv, r⟩
/-- a new list that may change -/
theorem Good.newCell (g : Good T F H cs S) {p : Addr} (h : H p = none) (r : RepL T [] F vs ds) : Good T F (upd H p (.lst vs)) (cs ++ [p]) (S ++ [ds]) := by
  have hn : p ∉ cs := fun hm => by
    obtain ⟨k, hk, e⟩ := List.getElem_of_mem hm
    have h1 : cs[k]? = some p := by rw [List.getElem?_eq_getElem hk, e]
    obtain ⟨ds', h2⟩ := g.has h1
    obtain ⟨_, vs', hv, _⟩ := g.cell k p ds' h1 h2
    rw [h] at hv
    cases hv
  refine ⟨g.sub.trans (Ext.new h), ?_, by rw [List.length_append, List.length_append, g.len]; rfl, fun k a ds' h1 h2 => ?_, tabs_new g.tabs h, g.noT⟩
  · rw [List.nodup_append]
    refine ⟨g.nd, List.nodup_cons.mpr ⟨by simp, List.nodup_nil⟩, fun a ha b hb e => ?_⟩
    have hb' : b = p := by simpa using hb
    exact hn (by rw [← hb', ← e]; exact ha)
  · by_cases hk : k < cs.length
    · rw [List.getElem?_append_left hk] at h1
      rw [List.getElem?_append_left (by rw [← g.len]; exact hk)] at h2
      obtain ⟨f0, vs', hv, r'⟩ := g.cell k a ds' h1 h2
      exact ⟨f0, vs', by rw [upd_ne (ne_of_none hv h)]; exact hv, r'⟩
    · rw [List.getElem?_append_right (by omega)] at h1
      rw [List.getElem?_append_right (by rw [← g.len]; omega)] at h2
      have k0 : k - cs.length = 0 := by
        obtain ⟨hk2, _⟩ := List.getElem?_eq_some_iff.mp h1
        have : ([p] : List Addr).length = 1 := rfl
        omega
      have k1 : k - S.length = 0 := by rw [← g.len]; exact k0
      rw [k0] at h1
      rw [k1] at h2
      have e1 : p = a := Option.some.inj h1
      have e2 : ds = ds' := Option.some.inj h2
      subst e1 e2
      exact ⟨g.free h, vs, upd_same, r⟩
/-- a list that changes -/
theorem Good.setCell (g : Good T F H cs S) {k : Nat} {a : Addr} (hk : cs[k]? = some a) (r : RepL T [] F vs ds) : Good T F (upd H a (.lst vs)) cs (S.set k ds) := by
  obtain ⟨ds0, hS⟩ := g.has hk
  obtain ⟨fa, vs0, hv0, _⟩ := g.cell k a ds0 hk hS
  refine ⟨fun b u e => ?_, g.nd, by rw [List.length_set]; exact g.len, fun j b ds' h1 h2 => ?_, tabs_upd g.tabs hv0, g.noT⟩
  · have ne : b ≠ a := ne_of_none e fa
    rw [upd_ne ne]
    exact g.sub b u e
  · by_cases hj : j = k
    · subst hj
      rw [hk] at h1
      have e1 : a = b := Option.some.inj h1
      subst e1
      have hlt : j < S.length := (List.getElem?_eq_some_iff.mp hS).1
      rw [List.getElem?_set_self hlt] at h2
      have e2 : ds = ds' := Option.some.inj h2
      subst e2
      exact ⟨fa, vs, upd_same, r⟩
    · rw [List.getElem?_set_ne (Ne.symm hj)] at h2
      obtain ⟨f0, vs', hv, r'⟩ := g.cell j b ds' h1 h2
      have ne : b ≠ a := fun e => by
        subst e
        obtain ⟨l1, e1⟩ := List.getElem?_eq_some_iff.mp h1
        obtain ⟨l2, e2⟩ := List.getElem?_eq_some_iff.mp hk
        exact hj ((List.getElem_inj g.nd).mp (e1.trans e2.symm))
      exact ⟨f0, vs', by rw [upd_ne ne]; exact hv, r'⟩
/-- what a computation leaves: the values and the cells stand, all that is neither is untouched -/
structure Fr (F H : Hp) (cs : List Addr) (F' H' : Hp) (cs' : List Addr) : Prop where
  ext : Ext F F'
  pre : Pre cs cs'
  old : ∀ (a : Addr) (o : HO), H a = some o → F a = none → a ∉ cs → NoTbl o → H' a = some o ∧ F' a = none ∧ a ∉ cs'
theorem Fr.refl {F H : Hp} {cs : List Addr} : Fr F H cs F H cs := ⟨Ext.refl _, Pre.refl _, fun _ _ h1 h2 h3 _ => ⟨h1, h2, h3⟩⟩
theorem Fr.trans {F H F1 H1 F2 H2 : Hp} {cs cs1 cs2 : List Addr} (x : Fr F H cs F1 H1 cs1) (y : Fr F1 H1 cs1 F2 H2 cs2) : Fr F H cs F2 H2 cs2 :=
  ⟨x.ext.trans y.ext, x.pre.trans y.pre, fun a o h1 h2 h3 hn => by
    obtain ⟨e1, e2, e3⟩ := x.old a o h1 h2 h3 hn
    exact y.old a o e1 e2 e3 hn⟩
theorem Good.frNew (g : Good T F H cs S) {p : Addr} {o : HO} (h : H p = none) : Fr F H cs (upd F p o) (upd H p o) cs :=
  ⟨Ext.new (g.free h), Pre.refl _, fun a u h1 h2 h3 _ => by
    have ne : a ≠ p := ne_of_none h1 h
    exact ⟨by rw [upd_ne ne]; exact h1, by rw [upd_ne ne]; exact h2, h3⟩⟩
theorem Good.frDust (g : Good T F H cs S) {p : Addr} {o : HO} (h : H p = none) : Fr F H cs F (upd H p o) cs :=
  ⟨Ext.refl _, Pre.refl _, fun a u h1 h2 h3 _ => by
    have ne : a ≠ p := ne_of_none h1 h
    exact ⟨by rw [upd_ne ne]; exact h1, h2, h3⟩⟩
theorem Good.frCell (g : Good T F H cs S) {p : Addr} {o : HO} (h : H p = none) : Fr F H cs F (upd H p o) (cs ++ [p]) :=
  ⟨Ext.refl _, Pre.app _ _, fun a u h1 h2 h3 _ => by
    have ne : a ≠ p := ne_of_none h1 h
    exact ⟨by rw [upd_ne ne]; exact h1, h2, fun hm => (List.mem_append.mp hm).elim h3 fun hm => ne (by simpa using hm)⟩⟩
theorem Good.frSet (g : Good T F H cs S) {k : Nat} {p : Addr} {o : HO} (h : cs[k]? = some p) : Fr F H cs F (upd H p o) cs :=
  ⟨Ext.refl _, Pre.refl _, fun a u h1 h2 h3 _ => by
    have ne : a ≠ p := fun e => h3 (by rw [e]; exact List.mem_of_getElem? h)
    exact ⟨by rw [upd_ne ne]; exact h1, h2, h3⟩⟩
/-- a foreign list is taken for a value -/
theorem Good.adopt (g : Good T F H cs S) {p : Addr} (h : H p = some (.lst vs)) (hF : F p = none) (hc : p ∉ cs) : Good T (upd F p (.lst vs)) H cs S := by
  refine ⟨fun b u e => ?_, g.nd, g.len, fun k b ds' h1 h2 => ?_, g.tabs, fun b ps e => ?_⟩
  rotate_right
  · by_cases hb : b = p
    · subst hb
      rw [upd_same] at e
      cases e
    · rw [upd_ne hb] at e
      exact g.noT b ps e
  · by_cases hb : b = p
    · subst hb
      rw [upd_same] at e
      rw [h]
      exact e
    · rw [upd_ne hb] at e
      exact g.sub b u e
  · obtain ⟨f0, vs', hv', r'⟩ := g.cell k b ds' h1 h2
    have ne : b ≠ p := fun e => hc (by rw [← e]; exact List.mem_of_getElem? h1)
    exact ⟨by rw [upd_ne ne]; exact f0, vs', hv', r'.mono (Ext.new hF) (Pre.refl _)⟩
/-- a foreign list is taken for a cell -/
theorem Good.adoptCell (g : Good T F H cs S) {p : Addr} (h : H p = some (.lst vs)) (hF : F p = none) (hc : p ∉ cs) (r : RepL T [] F vs ds) : Good T F H (cs ++ [p]) (S ++ [ds]) := by
  refine ⟨g.sub, ?_, by rw [List.length_append, List.length_append, g.len]; rfl, fun k a ds' h1 h2 => ?_, g.tabs, g.noT⟩
  · rw [List.nodup_append]
    refine ⟨g.nd, List.nodup_cons.mpr ⟨by simp, List.nodup_nil⟩, fun a ha b hb e => ?_⟩
    have hb' : b = p := by simpa using hb
    exact hc (by rw [← hb', ← e]; exact ha)
  · by_cases hk : k < cs.length
    · rw [List.getElem?_append_left hk] at h1
      rw [List.getElem?_append_left (by rw [← g.len]; exact hk)] at h2
      exact g.cell k a ds' h1 h2
    · rw [List.getElem?_append_right (by omega)] at h1
      rw [List.getElem?_append_right (by rw [← g.len]; omega)] at h2
      have k0 : k - cs.length = 0 := by
        obtain ⟨hk2, _⟩ := List.getElem?_eq_some_iff.mp h1
        have : ([p] : List Addr).length = 1 := rfl
        omega
      have k1 : k - S.length = 0 := by rw [← g.len]; exact k0
      rw [k0] at h1
      rw [k1] at h2
      have e1 : p = a := Option.some.inj h1
      have e2 : ds = ds' := Option.some.inj h2
      subst e1 e2
      exact ⟨hF, vs, h, r⟩
/-- the last cells become values, or dust -/
theorem Good.cut (g : Good T F H cs S) (n : Nat) : Good T F H (cs.take n) (S.take n) := by
  refine ⟨g.sub, (List.take_sublist n cs).nodup g.nd, by rw [List.length_take, List.length_take, g.len], fun k a ds h1 h2 => ?_, g.tabs, g.noT⟩
  by_cases hk : k < n
  · rw [List.getElem?_take_of_lt hk] at h1 h2
    exact g.cell k a ds h1 h2
  · rw [List.getElem?_take_eq_none (by omega)] at h1
    cases h1
/-- a cell that is given up, read as a value from now on -/
theorem Good.freeze (g : Good T F H cs S) {n : Nat} {a : Addr} (hn : cs[n]? = some a) (hS : S[n]? = some ds) :
    ∃ vs, H a = some (.lst vs) ∧ F a = none ∧ Good T (upd F a (.lst vs)) H (cs.take n) (S.take n) ∧ Rep T (cs.take n) (upd F a (.lst vs)) (.ref a) (.lst ds) := by
  obtain ⟨fa, vs, hv, r⟩ := g.cell n a ds hn hS
  refine ⟨vs, hv, fa, ⟨fun b u e => ?_, (List.take_sublist n cs).nodup g.nd, by rw [List.length_take, List.length_take, g.len], fun k b ds' h1 h2 => ?_, g.tabs, fun b ps e => ?_⟩, ?_⟩
  rotate_right 2
  · by_cases hb : b = a
    · subst hb
      rw [upd_same] at e
      cases e
    · rw [upd_ne hb] at e
      exact g.noT b ps e
  · exact .lst upd_same (r.mono (Ext.new fa) (Pre.nil _))
  · by_cases hb : b = a
    · subst hb
      rw [upd_same] at e
      rw [hv]
      exact e
    · rw [upd_ne hb] at e
      exact g.sub b u e
  · by_cases hk : k < n
    · rw [List.getElem?_take_of_lt hk] at h1 h2
      obtain ⟨f0, vs', hv', r'⟩ := g.cell k b ds' h1 h2
      have ne : b ≠ a := fun e => by
        subst e
        obtain ⟨l1, e1⟩ := List.getElem?_eq_some_iff.mp h1
        obtain ⟨l2, e2⟩ := List.getElem?_eq_some_iff.mp hn
        have := (List.getElem_inj g.nd).mp (e1.trans e2.symm)
        omega
      exact ⟨by rw [upd_ne ne]; exact f0, vs', hv', r'.mono (Ext.new fa) (Pre.refl _)⟩
    · rw [List.getElem?_take_eq_none (by omega)] at h1
      cases h1
theorem nodup_ne (nd : cs.Nodup) {n k : Nat} {a : Addr} (hk : cs[k]? = some a) (h : n ≤ k) : a ∉ cs.take n := fun hm => by
  obtain ⟨j, hj, e⟩ := List.getElem_of_mem hm
  rw [List.length_take] at hj
  rw [List.getElem_take] at e
  obtain ⟨l2, e2⟩ := List.getElem?_eq_some_iff.mp hk
  have := (List.getElem_inj nd).mp (e.trans e2.symm)
  omega
theorem Pre.take {cs' : List Addr} (p : Pre cs cs') : Pre cs (cs'.take cs.length) := fun k a h => by
  obtain ⟨l1, _⟩ := List.getElem?_eq_some_iff.mp h
  rw [List.getElem?_take_of_lt l1]
  exact p k a h
/-- all cells made within are given up, read as values from now on -/
def iced (F H : Hp) (l : List Addr) : Hp := fun b => if b ∈ l then H b else F b
theorem Good.ice (g : Good T F H cs S) (n : Nat) : Ext F (iced F H (cs.drop n)) ∧ Good T (iced F H (cs.drop n)) H (cs.take n) (S.take n) ∧
    ∀ (k : Nat) (a : Addr) (ds : List D), n ≤ k → cs[k]? = some a → S[k]? = some ds → Rep T [] (iced F H (cs.drop n)) (.ref a) (.lst ds) := by
  have ex : Ext F (iced F H (cs.drop n)) := fun b o e => by
    unfold iced
    by_cases hb : b ∈ cs.drop n
    · rw [if_pos hb]
      exact g.sub b o e
    · rw [if_neg hb]
      exact e
  have isl : ∀ b, b ∈ cs.drop n → ∃ vs, H b = some (.lst vs) := fun b hb => by
    obtain ⟨k, hk, e⟩ := List.getElem_of_mem (List.mem_of_mem_drop hb)
    have h1 : cs[k]? = some b := by rw [List.getElem?_eq_getElem hk, e]
    obtain ⟨ds', h2⟩ := g.has h1
    obtain ⟨_, vs', hv, _⟩ := g.cell k b ds' h1 h2
    exact ⟨vs', hv⟩
  refine ⟨ex, ⟨fun b o e => ?_, (List.take_sublist n cs).nodup g.nd, by rw [List.length_take, List.length_take, g.len], fun k b ds h1 h2 => ?_, g.tabs, fun b ps e => ?_⟩, fun k a ds hk h1 h2 => ?_⟩
  rotate_right 2
  · unfold iced at e
    by_cases hb : b ∈ cs.drop n
    · rw [if_pos hb] at e
      obtain ⟨vs, hv⟩ := isl b hb
      rw [hv] at e
      cases e
    · rw [if_neg hb] at e
      exact g.noT b ps e
  · obtain ⟨f0, vs', hv', r'⟩ := g.cell k a ds h1 h2
    have mb : a ∈ cs.drop n := List.mem_of_getElem? (i := k - n) (by rw [List.getElem?_drop, show n + (k - n) = k by omega]; exact h1)
    refine .lst ?_ (r'.mono ex (Pre.refl _))
    unfold iced
    rw [if_pos mb]
    exact hv'
  · unfold iced at e
    by_cases hb : b ∈ cs.drop n
    · rw [if_pos hb] at e
      exact e
    · rw [if_neg hb] at e
      exact g.sub b o e
  · by_cases hk : k < n
    · rw [List.getElem?_take_of_lt hk] at h1 h2
      obtain ⟨f0, vs', hv', r'⟩ := g.cell k b ds h1 h2
      have nb : b ∉ cs.drop n := fun hm => by
        obtain ⟨j, hj, e⟩ := List.getElem_of_mem hm
        rw [List.getElem_drop] at e
        obtain ⟨l2, e2⟩ := List.getElem?_eq_some_iff.mp h1
        have := (List.getElem_inj g.nd).mp (e.trans e2.symm)
        omega
      refine ⟨?_, vs', hv', r'.mono ex (Pre.refl _)⟩
      unfold iced
      rw [if_neg nb]
      exact f0
    · rw [List.getElem?_take_eq_none (by omega)] at h1
      cases h1
end
end Pd

end
section
set_option Elab.async false
set_option linter.all false
set_option maxRecDepth 100000
set_option maxHeartbeats 4000000
/-! What is wanted of expressions, tests, argument lists; the operators by values. -/
namespace Pd
open PySem PySem.Spec PyProof.Rows L2

/-- a part's claim is weakened -/
theorem PE.imp {X : Cx} {e : Expr} {t t' : TE} (h : PE X e t) (i : ∀ σ H Q, t' σ H Q → t σ H Q) : PE X e t' := ⟨fun pins s σ H Q I w => h.run pins s σ H Q I (i σ H Q w)⟩
theorem PE.or {X : Cx} {e : Expr} {t t' : TE} (h : PE X e t) (h' : PE X e t') : PE X e (fun σ H Q => t σ H Q ∨ t' σ H Q) := ⟨fun pins s σ H Q I w => w.elim (h.run pins s σ H Q I) (h'.run pins s σ H Q I)⟩
theorem PT.imp {X : Cx} {e : Expr} {t t' : TT} (h : PT X e t) (i : ∀ σ H Q, t' σ H Q → t σ H Q) : PT X e t' := ⟨fun pins s σ H Q I w => h.run pins s σ H Q I (i σ H Q w)⟩
theorem PW.imp {X : Cx} {e : Expr} {t t' : TT} (h : PW X e t) (i : ∀ σ H Q, t' σ H Q → t σ H Q) : PW X e t' := ⟨fun wh pins s σ H Q I w => h.run wh pins s σ H Q I (i σ H Q w)⟩
theorem PA.imp {X : Cx} {e : List Expr} {t t' : TA} (h : PA X e t) (i : ∀ σ H Q, t' σ H Q → t σ H Q) : PA X e t' := ⟨fun pos pins s σ H Q I w => h.run pos pins s σ H Q I (i σ H Q w)⟩
theorem PS.imp {X : Cx} {e : Stmt} {t t' : TS} (h : PS X e t) (i : ∀ D σ H, t' D σ H → t D σ H) : PS X e t' := ⟨fun pins s σ H D I w => h.run pins s σ H D I (i D σ H w)⟩
theorem PSs.imp {X : Cx} {e : List Stmt} {t t' : TS} (h : PSs X e t) (i : ∀ D σ H, t' D σ H → t D σ H) : PSs X e t' := ⟨fun pins s σ H D I w => h.run pins s σ H D I (i D σ H w)⟩
theorem PI.imp {X : Cx} {tg e : Expr} {t t' : TI} (h : PI X tg e t) (i : ∀ σ H R, t' σ H R → t σ H R) : PI X tg e t' := ⟨fun pins s σ H R I w => h.run pins s σ H R I (i σ H R w)⟩
theorem PI.or {X : Cx} {tg e : Expr} {t t' : TI} (h : PI X tg e t) (h' : PI X tg e t') : PI X tg e (fun σ H Q => t σ H Q ∨ t' σ H Q) := ⟨fun pins s σ H Q I w => w.elim (h.run pins s σ H Q I) (h'.run pins s σ H Q I)⟩

/-! ### the wanted ends -/
/-- the slots hold the names' values -/
def RepE (T : Tab) (cs : List Addr) (F : Hp) (σ : L2.St) (ρ : Env') : Prop := ∀ (i : Nat) (d : D), ρ[i]? = some (some d) → ∃ v, σ[i]? = some (some v) ∧ Rep T cs F v d
theorem RepE.mono {T : Tab} {cs cs' : List Addr} {F F' : Hp} {σ : L2.St} {ρ : Env'} (r : RepE T cs F σ ρ) (e : Ext F F') (c : Pre cs cs') : RepE T cs' F' σ ρ := fun i d h => by
  obtain ⟨v, h1, h2⟩ := r i d h
  exact ⟨v, h1, h2.mono e c⟩
theorem RepE.set {T : Tab} {cs : List Addr} {F : Hp} {σ : L2.St} {ρ : Env'} {v : V} {d : D} (r : RepE T cs F σ ρ) (i : Nat) (h : Rep T cs F v d) (l : σ.length = ρ.length) : RepE T cs F (σ.set i (some v)) (ρ.set i (some d)) := fun j e h1 => by
  by_cases hj : i = j
  · subst hj
    by_cases hi : i < ρ.length
    · rw [List.getElem?_set_self hi] at h1
      cases h1
      exact ⟨v, by rw [List.getElem?_set_self (by omega)], h⟩
    · rw [List.getElem?_eq_none (by rw [List.length_set]; omega)] at h1
      cases h1
  · rw [List.getElem?_set_ne hj] at h1
    rw [List.getElem?_set_ne hj]
    exact r j e h1

/-- what is wanted behind a computation that hands a thing on -/
def After (T : Tab) (W : WX) (σ : L2.St) (F H : Hp) (cs : List Addr) {α : Type} (P : α → Store → Hp → Hp → List Addr → Prop) : R α → Prop
  | .ok d S => ∀ F' H' cs', Fr F H cs F' H' cs' → Good T F' H' cs' S → P d S F' H' cs'
  | .err c S => ∀ F' H' cs', Fr F H cs F' H' cs' → Good T F' H' cs' S → W (.ref (T.ca c)) none σ H'
  | .bad => False
abbrev PV (T : Tab) (Q : VK) : D → Store → Hp → Hp → List Addr → Prop := fun d _ F' H' cs' => ∀ v, Rep T cs' F' v d → Q v H'
abbrev PB (Q : Bool → Hp → Prop) : Bool → Store → Hp → Hp → List Addr → Prop := fun b _ _ H' _ => Q b H'
abbrev PL (T : Tab) (Q : List V → Hp → Prop) : List D → Store → Hp → Hp → List Addr → Prop := fun ds _ F' H' cs' => ∀ vs, RepL T cs' F' vs ds → Q vs H'
def tF (T : Tab) (W : WX) (f : Env' → M D) : TE := fun σ H Q => ∃ F cs ρ S, Good T F H cs S ∧ RepE T cs F σ ρ ∧ σ.length = ρ.length ∧ After T W σ F H cs (PV T Q) (f ρ S)
def tFT (T : Tab) (W : WX) (f : Env' → M Bool) : TT := fun σ H Q => ∃ F cs ρ S, Good T F H cs S ∧ RepE T cs F σ ρ ∧ σ.length = ρ.length ∧ After T W σ F H cs (PB Q) (f ρ S)
def tFA (T : Tab) (W : WX) (f : Env' → M (List D)) : TA := fun σ H Q => ∃ F cs ρ S, Good T F H cs S ∧ RepE T cs F σ ρ ∧ σ.length = ρ.length ∧ After T W σ F H cs (PL T Q) (f ρ S)

section
variable {T : Tab} {W : WX} {σ : L2.St} {F H : Hp} {cs : List Addr} {α β : Type}
/-- one computation behind another -/
theorem After.bind {x : R α} {f : α → M β} {P : β → Store → Hp → Hp → List Addr → Prop} (h : After T W σ F H cs P (x.bind f)) :
    After T W σ F H cs (fun a S F1 H1 cs1 => After T W σ F1 H1 cs1 P (f a S)) x := by
  cases x with
  | ok a S =>
    intro F1 H1 cs1 e1 g1
    have h' : After T W σ F H cs P (f a S) := h
    show After T W σ F1 H1 cs1 P (f a S)
    generalize f a S = y at h'
    cases y with
    | ok b S2 => exact fun F2 H2 cs2 e2 g2 => h' F2 H2 cs2 (e1.trans e2) g2
    | err c S2 => exact fun F2 H2 cs2 e2 g2 => h' F2 H2 cs2 (e1.trans e2) g2
    | bad => exact h'
  | err c S => exact h
  | bad => exact h
theorem After.mono {x : R α} {P P' : α → Store → Hp → Hp → List Addr → Prop} (h : After T W σ F H cs P x) (i : ∀ a S F1 H1 cs1, Fr F H cs F1 H1 cs1 → Good T F1 H1 cs1 S → P a S F1 H1 cs1 → P' a S F1 H1 cs1) : After T W σ F H cs P' x := by
  cases x with
  | ok a S => exact fun F1 H1 cs1 e1 g1 => i a S F1 H1 cs1 e1 g1 (h F1 H1 cs1 e1 g1)
  | err c S => exact h
  | bad => exact h
end
theorem bind_def {α β : Type} (x : M α) (f : α → M β) (S : Store) : (x >>= f) S = (x S).bind f := rfl
theorem pure_def {α : Type} (a : α) (S : Store) : (Pure.pure a : M α) S = .ok a S := rfl

/-! ### operators by values -/
/-- r does what g tells -/
def OpS (T : Tab) (r : R2) (g : Store → D → D → Option D) : Prop := ∀ (F H : Hp) (cs : List Addr) (S : Store) (x y : V) (dx dy dz : D) (Q : VK), Good T F H cs S → Rep T cs F x dx → Rep T cs F y dy → g S dx dy = some dz →
  (∀ v F' H', Fr F H cs F' H' cs → Good T F' H' cs S → Rep T cs F' v dz → Q v H') → r x y H Q
def opM (g : Store → D → D → Option D) (x y : D) : M D := fun S => match g S x y with
  | some z => .ok z S
  | none => .bad
def UnS (T : Tab) (r : V → Hp → VK → Prop) (g : Store → D → Option D) : Prop := ∀ (F H : Hp) (cs : List Addr) (S : Store) (x : V) (dx dz : D) (Q : VK), Good T F H cs S → Rep T cs F x dx → g S dx = some dz →
  (∀ v F' H', Fr F H cs F' H' cs → Good T F' H' cs S → Rep T cs F' v dz → Q v H') → r x H Q
def unM (g : Store → D → Option D) (x : D) : M D := fun S => match g S x with
  | some z => .ok z S
  | none => .bad
/-- a built-in's call -/
def CaS (T : Tab) (r : List V → Hp → VK → Prop) (g : Store → List D → Option D) : Prop := ∀ (F H : Hp) (cs : List Addr) (S : Store) (xs : List V) (dxs : List D) (dz : D) (Q : VK), Good T F H cs S → RepL T cs F xs dxs → g S dxs = some dz →
  (∀ v F' H', Fr F H cs F' H' cs → Good T F' H' cs S → Rep T cs F' v dz → Q v H') → r xs H Q
def caM (g : Store → List D → Option D) (xs : List D) : M D := fun S => match g S xs with
  | some z => .ok z S
  | none => .bad
section
variable {T : Tab} {W : WX} {r r' : R2} {g g' : Store → D → D → Option D} {fa fb : Env' → M D} {σ : L2.St} {H : Hp} {Q : VK}
theorem tF_op (hs : OpS T r g) (h : tF T W (fun ρ => do let x ← fa ρ; let y ← fb ρ; opM g x y) σ H Q) : tOp r (tF T W fa) (tF T W fb) σ H Q := by
  obtain ⟨F, cs, ρ, S, gd, re, hl, h⟩ := h
  refine ⟨F, cs, ρ, S, gd, re, hl, (After.bind h).mono fun dx S1 F1 H1 cs1 e1 g1 h1 => ?_⟩
  intro x rx
  refine ⟨F1, cs1, ρ, S1, g1, re.mono e1.ext e1.pre, hl, (After.bind h1).mono fun dy S2 F2 H2 cs2 e2 g2 h2 => ?_⟩
  intro y ry
  have h2' : After T W σ F2 H2 cs2 (PV T Q) (opM g dx dy S2) := h2
  unfold opM at h2'
  cases e : g S2 dx dy with
  | none => rw [e] at h2'; exact h2'.elim
  | some dz =>
    rw [e] at h2'
    exact hs F2 H2 cs2 S2 x y dx dy dz Q g2 (rx.mono e2.ext e2.pre) ry e fun v F3 H3 e3 g3 rv => h2' F3 H3 cs2 e3 g3 v rv
theorem tF_un {r : V → Hp → VK → Prop} {g : Store → D → Option D} (hs : UnS T r g) (h : tF T W (fun ρ => do let x ← fa ρ; unM g x) σ H Q) : tUn r (tF T W fa) σ H Q := by
  obtain ⟨F, cs, ρ, S, gd, re, hl, h⟩ := h
  refine ⟨F, cs, ρ, S, gd, re, hl, (After.bind h).mono fun dx S1 F1 H1 cs1 e1 g1 h1 => ?_⟩
  intro x rx
  have h2' : After T W σ F1 H1 cs1 (PV T Q) (unM g dx S1) := h1
  unfold unM at h2'
  cases e : g S1 dx with
  | none => rw [e] at h2'; exact h2'.elim
  | some dz =>
    rw [e] at h2'
    exact hs F1 H1 cs1 S1 x dx dz Q g1 rx e fun v F3 H3 e3 g3 rv => h2' F3 H3 cs1 e3 g3 v rv
end

/-! ### sequences -/
/-- the items of a list -/
def seqL (S : Store) : D → Option (List D)
  | .lst ds => some ds
  | .cell k => S[k]?
  | _ => none
/-- .. of a list, a tuple -/
def seqA (S : Store) : D → Option (List D)
  | .tup ds => some ds
  | d => seqL S d
section
variable {T : Tab} {F H : Hp} {cs : List Addr} {S : Store} {v : V} {d : D} {ds : List D}
theorem seqL_rep (g : Good T F H cs S) (r : Rep T cs F v d) (h : seqL S d = some ds) : ∃ a vs, v = .ref a ∧ H a = some (.lst vs) ∧ RepL T cs F vs ds := by
  cases r with
  | lst h1 h2 =>
    cases (show some _ = some ds from h)
    exact ⟨_, _, rfl, g.sub _ _ h1, h2⟩
  | @cell a k h1 =>
    obtain ⟨f0, vs, hv, r⟩ := g.cell k a ds h1 h
    exact ⟨a, vs, rfl, hv, r.mono (Ext.refl _) (Pre.nil _)⟩
  | _ => cases h
theorem tup_rep (g : Good T F H cs S) (r : Rep T cs F v (.tup ds)) : ∃ a vs, v = .ref a ∧ SqT T.K H a vs ∧ RepL T cs F vs ds := by
  cases r with
  | tup h1 h2 => exact ⟨_, _, rfl, ext_t g.sub h1, h2⟩
theorem seqA_rep (g : Good T F H cs S) (r : Rep T cs F v d) (h : seqA S d = some ds) : ∃ a vs, v = .ref a ∧ (SqL T.K H a vs ∨ SqT T.K H a vs) ∧ RepL T cs F vs ds := by
  cases d with
  | tup ds' =>
    cases (show some _ = some ds from h)
    obtain ⟨a, vs, e, h1, h2⟩ := tup_rep g r
    exact ⟨a, vs, e, .inr h1, h2⟩
  | lst ds' =>
    obtain ⟨a, vs, e, h1, h2⟩ := seqL_rep g r (show seqL S (.lst ds') = some ds from h)
    exact ⟨a, vs, e, .inl (SqL.of h1), h2⟩
  | cell k =>
    obtain ⟨a, vs, e, h1, h2⟩ := seqL_rep g r (show seqL S (.cell k) = some ds from h)
    exact ⟨a, vs, e, .inl (SqL.of h1), h2⟩
  | _ => cases h
end
theorem szOk {n : Nat} (h : n ≤ 16777216) : n ≤ sizeLine := by rw [sizeLine_eq]; exact h
theorem szLt {n : Nat} (h : n < 16777216) : n < sizeLine := by rw [sizeLine_eq]; exact h

/-! ### + -/
def opAdd (S : Store) (x y : D) : Option D := match x, y with
  | .int i, .int j => some (.int (i + j))
  | .str a, .str b => if a.length + b.length ≤ 16777216 then some (.str (a ++ b)) else none
  | .tup a, .tup b => if a.length + b.length ≤ 16777216 then some (.tup (a ++ b)) else none
  | .bl k, .int i => some (.int (b2i k + i))
  | .int i, .bl k => some (.int (i + b2i k))
  | .bl j, .bl k => some (.int (b2i j + b2i k))
  | x, y => match seqL S x, seqL S y with
    | some a, some b => if a.length + b.length ≤ 16777216 then some (.lst (a ++ b)) else none
    | _, _ => none
/-- a bool among ints -/
def rNb (f : Int → Int → Int) : R2 := fun x y H Q => (∃ i k, x = .bl k ∧ y = .int i ∧ Q (.int (f (b2i k) i)) H) ∨ (∃ i k, x = .int i ∧ y = .bl k ∧ Q (.int (f i (b2i k))) H) ∨ ∃ j k, x = .bl j ∧ y = .bl k ∧ Q (.int (f (b2i j) (b2i k))) H
theorem op_addNb {X : Cx} : OpR X (binaryOp .Add) (rNb fun i j => i + j) := by
  intro pins s σ H x y v u Q I rx ry h
  rcases h with ⟨i, k, rfl, rfl, q⟩ | ⟨i, k, rfl, rfl, q⟩ | ⟨j, k, rfl, rfl, q⟩
  · cases rx
    obtain ⟨t, rfl⟩ := ry
    exact PySem.IntBool.add_bool_int ⟨.int _, H, I.tok _, ⟨_, rfl⟩, q⟩
  · obtain ⟨t, rfl⟩ := rx
    cases ry
    exact add_int_bool ⟨.int _, H, I.tok _, ⟨_, rfl⟩, q⟩
  · cases rx
    cases ry
    exact add_bool ⟨.int _, H, I.tok _, ⟨_, rfl⟩, q⟩
theorem op_subNb {X : Cx} : OpR X (binaryOp .Sub) (rNb fun i j => i - j) := by
  intro pins s σ H x y v u Q I rx ry h
  rcases h with ⟨i, k, rfl, rfl, q⟩ | ⟨i, k, rfl, rfl, q⟩ | ⟨j, k, rfl, rfl, q⟩
  · cases rx
    obtain ⟨t, rfl⟩ := ry
    exact PySem.IntBool.sub_bool_int ⟨.int _, H, I.tok _, ⟨_, rfl⟩, q⟩
  · obtain ⟨t, rfl⟩ := rx
    cases ry
    exact PySem.IntBool.sub_int_bool ⟨.int _, H, I.tok _, ⟨_, rfl⟩, q⟩
  · cases rx
    cases ry
    exact sub_bool ⟨.int _, H, I.tok _, ⟨_, rfl⟩, q⟩
def rAddA (K : PySem.W.Frag) : R2 := fun x y H Q => (rI0 (fun i j => .int (i + j)) x y H Q ∨ (∃ i j, x = .str i ∧ y = .str j ∧ i.length + j.length ≤ sizeLine ∧ Q (.str (i ++ j)) H)) ∨ rCatA K x y H Q ∨ rCat x y H Q ∨ rNb (fun i j => i + j) x y H Q
theorem op_addA {X : Cx} : OpR X (binaryOp .Add) (rAddA X.K) := (op_add.or op_add_str).or (op_catA.or (op_cat.or op_addNb))
theorem sem_add {T : Tab} : OpS T (rAddA T.K) opAdd := by
  intro F H cs S x y dx dy dz Q g rx ry h q
  have lst : ∀ a b, seqL S dx = some a → seqL S dy = some b → (if a.length + b.length ≤ 16777216 then some (D.lst (a ++ b)) else none) = some dz → rAddA T.K x y H Q := fun a b h1 h2 h3 => by
    split at h3
    · rename_i hz
      cases h3
      obtain ⟨l, vs, rfl, hl, r1⟩ := seqL_rep g rx h1
      obtain ⟨l2, vs2, rfl, hl2, r2⟩ := seqL_rep g ry h2
      refine .inr (.inr (.inl ⟨l, l2, vs, vs2, rfl, rfl, hl, hl2, szOk (by rw [r1.length, r2.length]; exact hz), fun p np => ?_⟩))
      exact q _ _ _ (g.frNew np) (g.new _ np) (.lst upd_same ((r1.append r2).mono (Ext.new (g.free np)) (Pre.refl _)))
    · cases h3
  unfold opAdd at h
  split at h
  · cases h
    cases rx
    cases ry
    exact .inl (.inl ⟨_, _, rfl, rfl, q _ _ _ Fr.refl g (.int _)⟩)
  · split at h
    · rename_i hz
      cases h
      cases rx
      cases ry
      exact .inl (.inr ⟨_, _, rfl, rfl, szOk hz, q _ _ _ Fr.refl g (.str _)⟩)
    · cases h
  · rename_i a b
    split at h
    · rename_i hz
      cases h
      obtain ⟨l, vs, rfl, hl, r1⟩ := tup_rep g rx
      obtain ⟨l2, vs2, rfl, hl2, r2⟩ := tup_rep g ry
      refine .inr (.inl ⟨l, l2, vs, vs2, rfl, rfl, hl, hl2, szOk (by rw [r1.length, r2.length]; exact hz), fun e => ?_, fun _ e => ?_, fun _ _ p np => ?_⟩)
      · subst e
        cases r1
        exact q _ _ _ Fr.refl g ry
      · subst e
        cases r2
        rw [List.append_nil] at q
        exact q _ _ _ Fr.refl g rx
      · exact q _ _ _ (g.frNew np) (g.new _ np) (.tup (.of upd_same) ((r1.append r2).mono (Ext.new (g.free np)) (Pre.refl _)))
    · cases h
  · cases h
    cases rx
    cases ry
    exact .inr (.inr (.inr (.inl ⟨_, _, rfl, rfl, q _ _ _ Fr.refl g (.int _)⟩)))
  · cases h
    cases rx
    cases ry
    exact .inr (.inr (.inr (.inr (.inl ⟨_, _, rfl, rfl, q _ _ _ Fr.refl g (.int _)⟩))))
  · cases h
    cases rx
    cases ry
    exact .inr (.inr (.inr (.inr (.inr ⟨_, _, rfl, rfl, q _ _ _ Fr.refl g (.int _)⟩))))
  · split at h
    · rename_i h1 h2
      exact lst _ _ h1 h2 h
    · cases h

/-! ### - * // % ** -/
def opSub (_ : Store) (x y : D) : Option D := match x, y with
  | .int i, .int j => some (.int (i - j))
  | .bl k, .int i => some (.int (b2i k - i))
  | .int i, .bl k => some (.int (i - b2i k))
  | .bl j, .bl k => some (.int (b2i j - b2i k))
  | _, _ => none
def rSubA : R2 := fun x y H Q => rI0 (fun i j => .int (i - j)) x y H Q ∨ rNb (fun i j => i - j) x y H Q
theorem op_subA {X : Cx} : OpR X (binaryOp .Sub) rSubA := op_sub.or op_subNb
theorem sem_sub {T : Tab} : OpS T rSubA opSub := by
  intro F H cs S x y dx dy dz Q g rx ry h q
  unfold opSub at h
  split at h
  · cases h; cases rx; cases ry
    exact .inl ⟨_, _, rfl, rfl, q _ _ _ Fr.refl g (.int _)⟩
  · cases h; cases rx; cases ry
    exact .inr (.inl ⟨_, _, rfl, rfl, q _ _ _ Fr.refl g (.int _)⟩)
  · cases h; cases rx; cases ry
    exact .inr (.inr (.inl ⟨_, _, rfl, rfl, q _ _ _ Fr.refl g (.int _)⟩))
  · cases h; cases rx; cases ry
    exact .inr (.inr (.inr ⟨_, _, rfl, rfl, q _ _ _ Fr.refl g (.int _)⟩))
  · cases h
def small (i : Int) : Bool := decide (-18446744073709551616 < i) && decide (i < 18446744073709551616)
def opMul (S : Store) (x y : D) : Option D := match x, y with
  | .int i, .int j => if small i || small j then some (.int (i * j)) else none
  | .tup a, .int k => if !a.isEmpty && decide (2 ≤ k) && decide (k ≤ 1000) && decide (a.length ≤ 1000) then some (.tup (List.replicate k.toNat a).flatten) else none
  | x, .int k => match seqL S x with
    | some a => if decide (0 ≤ k) && decide (k ≤ 1000) && decide (a.length ≤ 1000) then some (.lst (List.replicate k.toNat a).flatten) else none
    | none => none
  | _, _ => none
def rMulA (K : PySem.W.Frag) : R2 := fun x y H Q => rI CMul (fun i j => .int (i * j)) x y H Q ∨ rRepT K x y H Q ∨ rRep x y H Q
theorem op_mulA {X : Cx} : OpR X (binaryOp .Mult) (rMulA X.K) := op_mul.or (op_repT.or op_rep)
theorem small_ok {i : Int} (h : small i = true) : -(2 ^ 64) < i ∧ i < 2 ^ 64 := by
  unfold small at h
  obtain ⟨h1, h2⟩ := Bool.and_eq_true_iff.mp h
  have e : (2 : Int) ^ 64 = 18446744073709551616 := by decide
  rw [e]
  exact ⟨of_decide_eq_true h1, of_decide_eq_true h2⟩
theorem len_rep (n : Nat) {α : Type} (l : List α) : (List.replicate n l).flatten.length = n * l.length := by
  induction n with
  | zero => simp
  | succ n ih => rw [List.replicate_succ, List.flatten_cons, List.length_append, ih, Nat.succ_mul, Nat.add_comm]
theorem sem_mul {T : Tab} : OpS T (rMulA T.K) opMul := by
  intro F H cs S x y dx dy dz Q g rx ry h q
  unfold opMul at h
  split at h
  · rename_i i j
    split at h
    · rename_i hz
      cases h; cases rx; cases ry
      refine .inl ⟨_, _, rfl, rfl, ?_, q _ _ _ Fr.refl g (.int _)⟩
      rcases Bool.or_eq_true_iff.mp hz with hz | hz
      · exact .inl (small_ok hz)
      · exact .inr (small_ok hz)
    · cases h
  · rename_i a k
    split at h
    · rename_i hz
      simp only [Bool.and_eq_true, decide_eq_true_eq] at hz
      obtain ⟨⟨⟨h0, h1⟩, h2⟩, h3⟩ := hz
      cases h; cases ry
      obtain ⟨l, vs, rfl, hl, r1⟩ := tup_rep g rx
      refine .inr (.inl ⟨l, _, vs, rfl, rfl, hl, fun e => ?_, h1, h2, by rw [r1.length]; exact h3, fun p np => ?_⟩)
      · subst e
        cases r1
        simp at h0
      · exact q _ _ _ (g.frNew np) (g.new _ np) (.tup (.of upd_same) ((r1.flat _).mono (Ext.new (g.free np)) (Pre.refl _)))
    · cases h
  · split at h
    · rename_i h1
      split at h
      · rename_i hz
        simp only [Bool.and_eq_true, decide_eq_true_eq] at hz
        obtain ⟨⟨h0, h2⟩, h3⟩ := hz
        cases h; cases ry
        obtain ⟨l, vs, rfl, hl, r1⟩ := seqL_rep g rx h1
        refine .inr (.inr ⟨l, _, vs, rfl, rfl, hl, by omega, by omega, szOk ?_, fun p np => ?_⟩)
        · rw [r1.length]
          exact Nat.le_trans (Nat.mul_le_mul h3 (show _ ≤ 1000 by omega)) (by decide)
        · exact q _ _ _ (g.frNew np) (g.new _ np) (.lst upd_same ((r1.flat _).mono (Ext.new (g.free np)) (Pre.refl _)))
      · cases h
    · cases h
  · cases h
def opDiv (_ : Store) (x y : D) : Option D := match x, y with
  | .int i, .int j => if 0 < j then (if j < 18446744073709551616 then some (.int (i / j)) else none) else if j ≠ 0 ∧ -1073741824 < j then some (.int (i.fdiv j)) else none
  | _, _ => none
def rDivA : R2 := fun x y H Q => rI CDivW (fun i j => .int (i / j)) x y H Q ∨ rI CDivN (fun i j => .int (i.fdiv j)) x y H Q
theorem op_divA {X : Cx} : OpR X (binaryOp .FloorDiv) rDivA := op_fdivW.or op_fdivN
theorem sem_div {T : Tab} : OpS T rDivA opDiv := by
  intro F H cs S x y dx dy dz Q g rx ry h q
  unfold opDiv at h
  split at h
  · rename_i i j
    split at h
    · rename_i h0
      split at h
      · rename_i h1
        cases h; cases rx; cases ry
        exact .inl ⟨_, _, rfl, rfl, wide_div (b := 64) h0 (by have e : (2 : Nat) ^ 64 = 18446744073709551616 := by decide
                                                              rw [e]; omega) (by decide) (by decide), q _ _ _ Fr.refl g (.int _)⟩
      · cases h
    · split at h
      · rename_i h1 h2
        cases h; cases rx; cases ry
        exact .inr ⟨_, _, rfl, rfl, ⟨h2.1, by omega⟩, q _ _ _ Fr.refl g (.int _)⟩
      · cases h
  · cases h
def opMod (_ : Store) (x y : D) : Option D := match x, y with
  | .int i, .int j => if 0 < j then some (.int (i % j)) else none
  | _, _ => none
theorem sem_mod {T : Tab} : OpS T (rI (fun _ j => 0 < j) fun i j => .int (i % j)) opMod := by
  intro F H cs S x y dx dy dz Q g rx ry h q
  unfold opMod at h
  split at h
  · split at h
    · rename_i h0
      cases h; cases rx; cases ry
      exact ⟨_, _, rfl, rfl, h0, q _ _ _ Fr.refl g (.int _)⟩
    · cases h
  · cases h
def opPow (_ : Store) (x y : D) : Option D := match x, y with
  | .int i, .int j => if 0 ≤ j ∧ j ≤ 1000 ∧ 0 ≤ i ∧ i ≤ 1000000 then some (.int (i ^ j.toNat)) else none
  | _, _ => none
theorem sem_pow {T : Tab} : OpS T (rI CPow fun i j => .int (i ^ j.toNat)) opPow := by
  intro F H cs S x y dx dy dz Q g rx ry h q
  unfold opPow at h
  split at h
  · split at h
    · rename_i h0
      cases h; cases rx; cases ry
      refine ⟨_, _, rfl, rfl, ⟨h0.1, by omega, ?_⟩, q _ _ _ Fr.refl g (.int _)⟩
      have e : (2 : Nat) ^ 64 = 18446744073709551616 := by decide
      rw [e]
      omega
    · cases h
  · cases h
def unNeg (_ : Store) (x : D) : Option D := match x with
  | .int i => some (.int (-i))
  | _ => none
theorem sem_neg {T : Tab} : UnS T (rU fun i => .int (-i)) unNeg := by
  intro F H cs S x dx dz Q g rx h q
  unfold unNeg at h
  split at h
  · cases h; cases rx
    exact ⟨_, rfl, q _ _ _ Fr.refl g (.int _)⟩
  · cases h
end Pd

end
section
set_option Elab.async false
set_option linter.all false
set_option maxRecDepth 100000
set_option maxHeartbeats 4000000
/-! Comparisons, items, lengths, classes, built-ins by values. -/
namespace Pd
open PySem PySem.Spec PyProof.Rows L2

/-! ### data as a whole -/
mutual
def deq : D → D → Bool
  | .non, .non => true
  | .bl a, .bl b => a == b
  | .bl a, .int j => (if a then 1 else 0) == j
  | .int i, .bl b => i == (if b then 1 else 0)
  | .int i, .int j => i == j
  | .str x, .str y => x == y
  | .tup a, .tup b => deqs a b
  | .lst a, .lst b => deqs a b
  | _, _ => false
def deqs : List D → List D → Bool
  | [], [] => true
  | x :: xs, y :: ys => deq x y && deqs xs ys
  | _, _ => false
end
mutual
def toPy : D → PyData
  | .non => .none
  | .bl b => .bool b
  | .int i => .int i
  | .str x => .str x
  | .tup ds => .tuple (toPys ds)
  | .lst ds => .list (toPys ds)
  | _ => .none
def toPys : List D → List PyData
  | [] => []
  | d :: ds => toPy d :: toPys ds
end
/-- a whole value: no cell, no def in it, not too deep -/
def shp : Nat → D → Bool
  | 0, _ => false
  | _ + 1, .non => true
  | _ + 1, .bl _ => true
  | _ + 1, .int _ => true
  | _ + 1, .str x => PyData.strOk x
  | n + 1, .tup ds => ds.all (shp n)
  | n + 1, .lst ds => ds.all (shp n)
  | _ + 1, _ => false
theorem toPys_map : ∀ ds : List D, toPys ds = ds.map toPy
  | [] => rfl
  | d :: ds => by rw [toPys, toPys_map ds, List.map_cons]
theorem canLayAll_map : ∀ ds : List D, (∀ d ∈ ds, (toPy d).canLay0 = true) → PyData.canLayAll0 (toPys ds) = true
  | [], _ => rfl
  | d :: ds, h => by
    rw [toPys, PyData.canLayAll0, h d List.mem_cons_self, canLayAll_map ds fun e he => h e (List.mem_cons_of_mem _ he)]
    rfl
theorem depthAll_map (n : Nat) : ∀ ds : List D, (∀ d ∈ ds, (toPy d).depth ≤ n) → PyData.depthAll (toPys ds) ≤ n
  | [], _ => Nat.zero_le _
  | d :: ds, h => by
    rw [toPys, PyData.depthAll]
    have h1 := h d List.mem_cons_self
    have h2 := depthAll_map n ds fun e he => h e (List.mem_cons_of_mem _ he)
    omega
theorem shp_can : ∀ (n : Nat) (d : D), shp n d = true → (toPy d).canLay0 = true ∧ (toPy d).depth ≤ n
  | 0, _, h => by cases h
  | n + 1, .non, _ => ⟨rfl, by simp [toPy, PyData.depth]⟩
  | n + 1, .bl _, _ => ⟨rfl, by simp [toPy, PyData.depth]⟩
  | n + 1, .int _, _ => ⟨rfl, by simp [toPy, PyData.depth]⟩
  | n + 1, .str x, h => ⟨by rw [toPy, PyData.canLay0]; exact h, by simp [toPy, PyData.depth]⟩
  | n + 1, .tup ds, h => by
    have h' : ∀ d ∈ ds, shp n d = true := List.all_eq_true.mp h
    refine ⟨?_, ?_⟩
    · rw [toPy, PyData.canLay0]
      exact canLayAll_map ds fun d hd => (shp_can n d (h' d hd)).1
    · rw [toPy, PyData.depth]
      have := depthAll_map n ds fun d hd => (shp_can n d (h' d hd)).2
      omega
  | n + 1, .lst ds, h => by
    have h' : ∀ d ∈ ds, shp n d = true := List.all_eq_true.mp h
    refine ⟨?_, ?_⟩
    · rw [toPy, PyData.canLay0]
      exact canLayAll_map ds fun d hd => (shp_can n d (h' d hd)).1
    · rw [toPy, PyData.depth]
      have := depthAll_map n ds fun d hd => (shp_can n d (h' d hd)).2
      omega
  | _ + 1, .cell _, h => by cases h
  | _ + 1, .scr _, h => by cases h
  | _ + 1, .fn _, h => by cases h
theorem shaped_of {n : Nat} {d : D} (hn : n ≤ 64) (h : shp n d = true) : SeqAt.shaped (toPy d) = true := by
  obtain ⟨h1, h2⟩ := shp_can n d h
  unfold SeqAt.shaped
  rw [h1, decide_eq_true (Nat.le_trans h2 hn)]
  rfl
mutual
theorem deq_eqv : ∀ {n m : Nat} (d e : D), shp n d = true → shp m e = true → PyData.eqv (toPy d) (toPy e) = deq d e
  | 0, _, _, _, h, _ => by cases h
  | _ + 1, 0, _, _, _, h => by cases h
  | n + 1, m + 1, .tup a, .tup b, h, h' => by
    rw [toPy, toPy, PyData.eqv, deq]
    exact deqs_eqv a b (List.all_eq_true.mp h) (List.all_eq_true.mp h')
  | n + 1, m + 1, .lst a, .lst b, h, h' => by
    rw [toPy, toPy, PyData.eqv, deq]
    exact deqs_eqv a b (List.all_eq_true.mp h) (List.all_eq_true.mp h')
  | _ + 1, _ + 1, .non, .non, _, _ => rfl
  | _ + 1, _ + 1, .non, .bl _, _, _ => by simp [toPy, PyData.eqv, deq]
  | _ + 1, _ + 1, .non, .int _, _, _ => by simp [toPy, PyData.eqv, deq]
  | _ + 1, _ + 1, .non, .str _, _, _ => by simp [toPy, PyData.eqv, deq]
  | _ + 1, _ + 1, .non, .tup _, _, _ => by simp [toPy, PyData.eqv, deq]
  | _ + 1, _ + 1, .non, .lst _, _, _ => by simp [toPy, PyData.eqv, deq]
  | _ + 1, _ + 1, .bl _, .non, _, _ => by simp [toPy, PyData.eqv, deq]
  | _ + 1, _ + 1, .bl _, .bl _, _, _ => by simp [toPy, PyData.eqv, deq]
  | _ + 1, _ + 1, .bl _, .int _, _, _ => by simp [toPy, PyData.eqv, deq]
  | _ + 1, _ + 1, .bl _, .str _, _, _ => by simp [toPy, PyData.eqv, deq]
  | _ + 1, _ + 1, .bl _, .tup _, _, _ => by simp [toPy, PyData.eqv, deq]
  | _ + 1, _ + 1, .bl _, .lst _, _, _ => by simp [toPy, PyData.eqv, deq]
  | _ + 1, _ + 1, .int _, .non, _, _ => by simp [toPy, PyData.eqv, deq]
  | _ + 1, _ + 1, .int _, .bl _, _, _ => by simp [toPy, PyData.eqv, deq]
  | _ + 1, _ + 1, .int _, .int _, _, _ => by simp [toPy, PyData.eqv, deq]
  | _ + 1, _ + 1, .int _, .str _, _, _ => by simp [toPy, PyData.eqv, deq]
  | _ + 1, _ + 1, .int _, .tup _, _, _ => by simp [toPy, PyData.eqv, deq]
  | _ + 1, _ + 1, .int _, .lst _, _, _ => by simp [toPy, PyData.eqv, deq]
  | _ + 1, _ + 1, .str _, .non, _, _ => by simp [toPy, PyData.eqv, deq]
  | _ + 1, _ + 1, .str _, .bl _, _, _ => by simp [toPy, PyData.eqv, deq]
  | _ + 1, _ + 1, .str _, .int _, _, _ => by simp [toPy, PyData.eqv, deq]
  | _ + 1, _ + 1, .str _, .str _, _, _ => by simp [toPy, PyData.eqv, deq]
  | _ + 1, _ + 1, .str _, .tup _, _, _ => by simp [toPy, PyData.eqv, deq]
  | _ + 1, _ + 1, .str _, .lst _, _, _ => by simp [toPy, PyData.eqv, deq]
  | _ + 1, _ + 1, .tup _, .non, _, _ => by simp [toPy, PyData.eqv, deq]
  | _ + 1, _ + 1, .tup _, .bl _, _, _ => by simp [toPy, PyData.eqv, deq]
  | _ + 1, _ + 1, .tup _, .int _, _, _ => by simp [toPy, PyData.eqv, deq]
  | _ + 1, _ + 1, .tup _, .str _, _, _ => by simp [toPy, PyData.eqv, deq]
  | _ + 1, _ + 1, .tup _, .lst _, _, _ => by simp [toPy, PyData.eqv, deq]
  | _ + 1, _ + 1, .lst _, .non, _, _ => by simp [toPy, PyData.eqv, deq]
  | _ + 1, _ + 1, .lst _, .bl _, _, _ => by simp [toPy, PyData.eqv, deq]
  | _ + 1, _ + 1, .lst _, .int _, _, _ => by simp [toPy, PyData.eqv, deq]
  | _ + 1, _ + 1, .lst _, .str _, _, _ => by simp [toPy, PyData.eqv, deq]
  | _ + 1, _ + 1, .lst _, .tup _, _, _ => by simp [toPy, PyData.eqv, deq]
  | _ + 1, _, .cell _, _, h, _ => by cases h
  | _ + 1, _, .scr _, _, h, _ => by cases h
  | _ + 1, _, .fn _, _, h, _ => by cases h
  | _, _ + 1, _, .cell _, _, h => by cases h
  | _, _ + 1, _, .scr _, _, h => by cases h
  | _, _ + 1, _, .fn _, _, h => by cases h
theorem deqs_eqv : ∀ {n m : Nat} (a b : List D), (∀ d ∈ a, shp n d = true) → (∀ d ∈ b, shp m d = true) → PyData.eqvAll (toPys a) (toPys b) = deqs a b
  | _, _, [], [], _, _ => rfl
  | _, _, [], _ :: _, _, _ => by simp [toPys, PyData.eqvAll, deqs]
  | _, _, _ :: _, [], _, _ => by simp [toPys, PyData.eqvAll, deqs]
  | _, _, x :: xs, y :: ys, h, h' => by
    rw [toPys, toPys, PyData.eqvAll, deqs, deq_eqv x y (h x List.mem_cons_self) (h' y List.mem_cons_self), deqs_eqv xs ys (fun d hd => h d (List.mem_cons_of_mem _ hd)) fun d hd => h' d (List.mem_cons_of_mem _ hd)]
end
section
variable {T : Tab} {F H : Hp} {cs : List Addr} {S : Store}
theorem dps_of {vs : List V} {ds : List D} (r : RepL T cs F vs ds) (h : ∀ v d, d ∈ ds → Rep T cs F v d → Dp T.K H v (toPy d)) : DpAll T.K H vs (toPys ds) := by
  induction vs generalizing ds with
  | nil => cases r; exact .nil
  | cons v vs ih => cases r with
    | cons r rs => exact .cons (h _ _ List.mem_cons_self r) (ih rs fun v d hd => h v d (List.mem_cons_of_mem _ hd))
theorem dp_of (e : Ext F H) : ∀ (n : Nat) (d : D) (v : V), shp n d = true → Rep T cs F v d → Dp T.K H v (toPy d)
  | 0, _, _, h, _ => by cases h
  | n + 1, .non, _, _, r => by cases r; exact .non
  | n + 1, .bl _, _, _, r => by cases r; exact .bl _
  | n + 1, .int _, _, _, r => by cases r; exact .int _
  | n + 1, .str _, _, _, r => by cases r; exact .str _
  | n + 1, .tup ds, _, h, r => by
    cases r with
    | tup h1 h2 => exact .tup (ext_t e h1) (dps_of h2 fun v d hd r => dp_of e n d v (List.all_eq_true.mp h d hd) r)
  | n + 1, .lst ds, _, h, r => by
    cases r with
    | lst h1 h2 => exact .lst (.of (e _ _ h1)) (dps_of h2 fun v d hd r => dp_of e n d v (List.all_eq_true.mp h d hd) r)
  | _ + 1, .cell _, _, h, _ => by cases h
  | _ + 1, .scr _, _, h, _ => by cases h
  | _ + 1, .fn _, _, h, _ => by cases h
/-- a list that may change, as it stands -/
def res (S : Store) : D → Option D
  | .cell k => (S[k]?).map .lst
  | d => some d
def shp9 (d : D) : Bool := shp 40 d
theorem dp_res (g : Good T F H cs S) {d d' : D} {v : V} (r : Rep T cs F v d) (h : res S d = some d') (hs : shp9 d' = true) : Dp T.K H v (toPy d') := by
  cases d with
  | cell k =>
    have h' : (S[k]?).map D.lst = some d' := h
    cases e : S[k]? with
    | none => rw [e] at h'; cases h'
    | some ds =>
      rw [e] at h'
      cases h'
      obtain ⟨a, vs, rfl, hv, r2⟩ := seqL_rep g r (show seqL S (.cell k) = some ds from e)
      rw [toPy]
      exact .lst (.of hv) (dps_of r2 fun v d hd r => dp_of g.sub 39 d v (List.all_eq_true.mp hs d hd) r)
  | _ => cases h; exact dp_of g.sub 40 _ _ hs r
end
def opEqB (S : Store) (x y : D) : Option Bool := match res S x, res S y with
  | some a, some b => if shp9 a && shp9 b then some (deq a b) else none
  | _, _ => none
def opEq (S : Store) (x y : D) : Option D := (opEqB S x y).map .bl
def opNe (S : Store) (x y : D) : Option D := (opEqB S x y).map fun b => .bl (!b)
theorem opEqB_rep {T : Tab} {F H : Hp} {cs : List Addr} {S : Store} (g : Good T F H cs S) {x y : V} {dx dy : D} {b : Bool} (rx : Rep T cs F x dx) (ry : Rep T cs F y dy) (h : opEqB S dx dy = some b) :
    ∃ d e, Dp T.K H x d ∧ Dp T.K H y e ∧ SeqAt.shaped d = true ∧ SeqAt.shaped e = true ∧ PyData.eqv d e = b := by
  unfold opEqB at h
  split at h
  · rename_i a b' h1 h2
    split at h
    · rename_i hs
      cases h
      obtain ⟨s1, s2⟩ := Bool.and_eq_true_iff.mp hs
      exact ⟨_, _, dp_res g rx h1 s1, dp_res g ry h2 s2, shaped_of (by decide) s1, shaped_of (by decide) s2, deq_eqv a b' s1 s2⟩
    · cases h
  · cases h
theorem sem_eq {T : Tab} : OpS T (rEqD T.K) opEq := by
  intro F H cs S x y dx dy dz Q g rx ry h q
  unfold opEq at h
  cases e : opEqB S dx dy with
  | none => rw [e] at h; cases h
  | some b =>
    rw [e] at h
    cases h
    obtain ⟨d, e, h1, h2, h3, h4, h5⟩ := opEqB_rep g rx ry e
    exact ⟨d, e, h1, h2, h3, h4, by rw [h5]; exact q _ _ _ Fr.refl g (.bl _)⟩
theorem sem_ne {T : Tab} : OpS T (rNeD T.K) opNe := by
  intro F H cs S x y dx dy dz Q g rx ry h q
  unfold opNe at h
  cases e : opEqB S dx dy with
  | none => rw [e] at h; cases h
  | some b =>
    rw [e] at h
    cases h
    obtain ⟨d, e, h1, h2, h3, h4, h5⟩ := opEqB_rep g rx ry e
    exact ⟨d, e, h1, h2, h3, h4, by rw [h5]; exact q _ _ _ Fr.refl g (.bl _)⟩

/-! ### order of ints -/
def opCmp (p : Int → Int → Bool) (_ : Store) (x y : D) : Option D := match x, y with
  | .int i, .int j => some (.bl (p i j))
  | _, _ => none
theorem sem_cmp {T : Tab} (p : Int → Int → Bool) : OpS T (rI0 fun i j => .bl (p i j)) (opCmp p) := by
  intro F H cs S x y dx dy dz Q g rx ry h q
  unfold opCmp at h
  split at h
  · cases h; cases rx; cases ry
    exact ⟨_, _, rfl, rfl, q _ _ _ Fr.refl g (.bl _)⟩
  · cases h
abbrev opLt := opCmp fun i j => decide (i < j)
abbrev opLe := opCmp fun i j => decide (i ≤ j)
abbrev opGt := opCmp fun i j => decide (j < i)
abbrev opGe := opCmp fun i j => decide (j ≤ i)

/-! ### is -/
def isNon : D → Bool
  | .non => true
  | _ => false
theorem isNon_rep {T : Tab} {F : Hp} {cs : List Addr} {x : V} {d : D} (r : Rep T cs F x d) : decide (x = .non) = isNon d := by
  cases r <;> first | rfl | exact decide_eq_false (fun h => by cases h)
def opIs (_ : Store) (x y : D) : Option D := match y with
  | .non => some (.bl (isNon x))
  | .bl b => match x with
    | .bl a => some (.bl (decide (a = b)))
    | _ => none
  | _ => none
def opIsNot (_ : Store) (x y : D) : Option D := match y with
  | .non => some (.bl (!isNon x))
  | .bl b => match x with
    | .bl a => some (.bl (!decide (a = b)))
    | _ => none
  | _ => none
def rIsA : R2 := fun x y H Q => (y = .non ∧ Q (.bl (decide (x = .non))) H) ∨ rIsB x y H Q
def rIsNotA : R2 := fun x y H Q => (y = .non ∧ Q (.bl (!decide (x = .non))) H) ∨ rNotB x y H Q
theorem op_isA {X : Cx} : OpR X (compareOp .Is) rIsA := op_isN.or op_isBl
theorem op_isNotA {X : Cx} : OpR X (compareOp .IsNot) rIsNotA := op_notN.or op_notBl
theorem sem_is {T : Tab} : OpS T rIsA opIs := by
  intro F H cs S x y dx dy dz Q g rx ry h q
  unfold opIs at h
  split at h
  · cases h; cases ry
    exact .inl ⟨rfl, by rw [isNon_rep rx]; exact q _ _ _ Fr.refl g (.bl _)⟩
  · split at h
    · cases h; cases ry; cases rx
      exact .inr ⟨_, _, rfl, rfl, q _ _ _ Fr.refl g (.bl _)⟩
    · cases h
  · cases h
theorem sem_isNot {T : Tab} : OpS T rIsNotA opIsNot := by
  intro F H cs S x y dx dy dz Q g rx ry h q
  unfold opIsNot at h
  split at h
  · cases h; cases ry
    exact .inl ⟨rfl, by rw [isNon_rep rx]; exact q _ _ _ Fr.refl g (.bl _)⟩
  · split at h
    · cases h; cases ry; cases rx
      exact .inr ⟨_, _, rfl, rfl, q _ _ _ Fr.refl g (.bl _)⟩
    · cases h
  · cases h

/-! ### in -/
def flatD : D → Option V
  | .non => some .non
  | .bl b => some (.bl b)
  | .int i => some (.int i)
  | .str x => some (.str x)
  | _ => none
def flatDs : List D → Option (List V)
  | [] => some []
  | d :: ds => match flatD d, flatDs ds with
    | some v, some vs => some (v :: vs)
    | _, _ => none
theorem flatD_rep {T : Tab} {F : Hp} {cs : List Addr} {x v : V} {d : D} (r : Rep T cs F x d) (h : flatD d = some v) : x = v ∧ flatV x = true := by
  cases r <;> first | (cases h; exact ⟨rfl, rfl⟩) | cases h
theorem flatDs_rep {T : Tab} {F : Hp} {cs : List Addr} : ∀ {xs : List V} {ds : List D} {vs : List V}, RepL T cs F xs ds → flatDs ds = some vs → xs = vs ∧ xs.all flatV = true
  | _, [], vs, .nil, h => by cases h; exact ⟨rfl, rfl⟩
  | _, d :: ds, vs, .cons r rs, h => by
    unfold flatDs at h
    split at h
    · rename_i v vs' h1 h2
      cases h
      obtain ⟨e1, f1⟩ := flatD_rep r h1
      obtain ⟨e2, f2⟩ := flatDs_rep rs h2
      exact ⟨by rw [e1, e2], by rw [List.all_cons, f1, f2]; rfl⟩
    · cases h
/-- x in y -/
def opInB (S : Store) (x y : D) : Option Bool := match y with
  | .str z => match x with
    | .str w => match w.cps.toList with
      | [c] => some (decide (c ∈ z.cps.toList))
      | _ => none
    | _ => none
  | .tup ds => match flatD x, flatDs ds with
    | some v, some vs => some (inV v vs)
    | _, _ => none
  | y => match seqL S y, res S x with
    | some ds, some a => if shp9 a && shp9 (.lst ds) then some (ds.any fun z => deq z a) else none
    | _, _ => none
def opIn (S : Store) (x y : D) : Option D := (opInB S x y).map .bl
def opNotIn (S : Store) (x y : D) : Option D := (opInB S x y).map fun b => .bl (!b)
/-- what the rules of in ask -/
def rInA (K : PySem.W.Frag) (neg : Bool) : R2 := fun x y H Q =>
  (∃ p xs, y = .ref p ∧ (SqL K H p xs ∨ SqT K H p xs) ∧ flatV x = true ∧ xs.all flatV = true ∧ Q (.bl (if neg then !inV x xs else inV x xs)) H) ∨
  (∃ d ds, Dp K H x d ∧ Dp K H y (.list ds) ∧ SeqAt.shaped d = true ∧ SeqAt.shaped (.list ds) = true ∧ Q (.bl (if neg then !ds.any fun z => PyData.eqv z d else ds.any fun z => PyData.eqv z d)) H) ∨
  (∃ (c : Nat) (z : Str), x = .str ⟨#[c]⟩ ∧ y = .str z ∧ Q (.bl (if neg then !decide (c ∈ z.cps.toList) else decide (c ∈ z.cps.toList))) H)
theorem any_eqv (d : D) {n : Nat} (hd : shp9 d = true) : ∀ ds : List D, (∀ e ∈ ds, shp n e = true) → ((toPys ds).any fun z => PyData.eqv z (toPy d)) = ds.any fun z => deq z d
  | [], _ => rfl
  | e :: ds, h => by
    rw [toPys, List.any_cons, List.any_cons, any_eqv d hd ds fun x hx => h x (List.mem_cons_of_mem _ hx), deq_eqv e d (h e List.mem_cons_self) hd]
theorem opInB_rep {T : Tab} {F H : Hp} {cs : List Addr} {S : Store} (g : Good T F H cs S) {x y : V} {dx dy : D} {b : Bool} (neg : Bool) {Q : VK} (rx : Rep T cs F x dx) (ry : Rep T cs F y dy) (h : opInB S dx dy = some b)
    (q : Q (.bl (if neg then !b else b)) H) : rInA T.K neg x y H Q := by
  have lst : ∀ ds, seqL S dy = some ds → (match some ds, res S dx with
      | some ds, some a => if shp9 a && shp9 (.lst ds) then some (ds.any fun z => deq z a) else none
      | _, _ => none) = some b → rInA T.K neg x y H Q := fun ds h1 h2 => by
    cases e : res S dx with
    | none => rw [e] at h2; cases h2
    | some a =>
      rw [e] at h2
      have h3 : (if shp9 a && shp9 (.lst ds) then some (ds.any fun z => deq z a) else none) = some b := h2
      split at h3
      · rename_i hs
        cases h3
        obtain ⟨s1, s2⟩ := Bool.and_eq_true_iff.mp hs
        obtain ⟨p, vs, rfl, hp, rp⟩ := seqL_rep g ry h1
        refine .inr (.inl ⟨toPy a, toPys ds, dp_res g rx e s1, ?_, shaped_of (by decide) s1, ?_, ?_⟩)
        · exact .lst (.of hp) (dps_of rp fun v d hd r => dp_of g.sub 39 d v (List.all_eq_true.mp s2 d hd) r)
        · have := shaped_of (d := .lst ds) (by decide) s2
          rw [toPy] at this
          exact this
        · rw [any_eqv a s1 ds (n := 39) (List.all_eq_true.mp s2)]
          exact q
      · cases h3
  unfold opInB at h
  split at h
  · split at h
    · rename_i w
      split at h
      · rename_i c hc
        cases h; cases rx; cases ry
        have e : w = ⟨#[c]⟩ := by
          cases w with
          | mk a => rw [show a = #[c] from Array.toList_inj.mp hc]
        subst e
        exact .inr (.inr ⟨_, _, rfl, rfl, q⟩)
      · cases h
    · cases h
  · split at h
    · rename_i ds v vs h1 h2
      cases h
      obtain ⟨e1, f1⟩ := flatD_rep rx h1
      obtain ⟨p, ws, rfl, hp, rp⟩ := tup_rep g ry
      obtain ⟨e2, f2⟩ := flatDs_rep rp h2
      subst e1 e2
      exact .inl ⟨p, ws, rfl, .inr hp, f1, f2, q⟩
    · cases h
  · cases e : seqL S dy with
    | none => rw [e] at h; cases h
    | some ds => rw [e] at h; exact lst ds e h
theorem op_inA {X : Cx} (hu : X.A.units + 65 < cLine) : OpR X (compareOp .In) (rInA X.K false) := by
  intro pins s σ H x y v u Q I rx ry h
  rcases h with h | h | h
  · exact op_in_seq pins s σ H x y v u Q I rx ry h
  · exact op_inD hu pins s σ H x y v u Q I rx ry h
  · obtain ⟨c, z, rfl, rfl, q⟩ := h
    exact op_in_sign pins s σ H _ _ v u Q I rx ry ⟨c, z, rfl, rfl, q⟩
theorem op_notInA {X : Cx} (hu : X.A.units + 65 < cLine) : OpR X (compareOp .NotIn) (rInA X.K true) := by
  intro pins s σ H x y v u Q I rx ry h
  rcases h with h | h | h
  · exact op_notIn_seq pins s σ H x y v u Q I rx ry h
  · exact op_notInD hu pins s σ H x y v u Q I rx ry h
  · obtain ⟨c, z, rfl, rfl, q⟩ := h
    exact op_notIn_sign pins s σ H _ _ v u Q I rx ry ⟨c, z, rfl, rfl, q⟩
theorem sem_in {T : Tab} : OpS T (rInA T.K false) opIn := by
  intro F H cs S x y dx dy dz Q g rx ry h q
  unfold opIn at h
  cases e : opInB S dx dy with
  | none => rw [e] at h; cases h
  | some b =>
    rw [e] at h
    cases h
    exact opInB_rep g false rx ry e (q _ _ _ Fr.refl g (.bl _))
theorem sem_notIn {T : Tab} : OpS T (rInA T.K true) opNotIn := by
  intro F H cs S x y dx dy dz Q g rx ry h q
  unfold opNotIn at h
  cases e : opInB S dx dy with
  | none => rw [e] at h; cases h
  | some b =>
    rw [e] at h
    cases h
    exact opInB_rep g true rx ry e (q _ _ _ Fr.refl g (.bl _))

/-! ### items, lengths -/
def opIdx (S : Store) (x y : D) : Option D := match y with
  | .int i => match x with
    | .scr ns => (atI ns i).map .int
    | .str z => if z.length ≤ 16777216 then (atI z.cps.toList i).map fun c => .str ⟨#[c]⟩ else none
    | x => match seqA S x with
      | some ds => atI ds i
      | none => none
  | _ => none
theorem atI_rep {T : Tab} {F : Hp} {cs : List Addr} {vs : List V} {ds : List D} {i : Int} {d : D} (r : RepL T cs F vs ds) (h : atI ds i = some d) : ∃ v, atI vs i = some v ∧ Rep T cs F v d := by
  unfold atI at h ⊢
  rw [r.length]
  cases e : ixN ds.length i with
  | none => rw [e] at h; cases h
  | some j =>
    rw [e] at h
    exact r.get h
theorem atI_map {α β : Type} (f : α → β) (xs : List α) (i : Int) : atI (xs.map f) i = (atI xs i).map f := by
  unfold atI
  rw [List.length_map]
  cases ixN xs.length i with
  | none => rfl
  | some j => exact List.getElem?_map
theorem sem_idx {T : Tab} : OpS T (rIx T.K) opIdx := by
  intro F H cs S x y dx dy dz Q g rx ry h q
  unfold opIdx at h
  split at h
  · rename_i i
    cases ry
    split at h
    · rename_i ns
      cases e : atI ns i with
      | none => rw [e] at h; cases h
      | some n =>
        rw [e] at h
        cases h
        cases rx with
        | scr h1 =>
          refine .inl ⟨_, _, i, .int n, rfl, rfl, ext_l g.sub h1, ?_, q _ _ _ Fr.refl g (.int _)⟩
          rw [atI_map, e]
          rfl
    · split at h
      · rename_i z hz
        cases e : atI z.cps.toList i with
        | none => rw [e] at h; cases h
        | some n =>
          rw [e] at h
          cases h
          cases rx
          exact .inr (.inr ⟨_, i, n, rfl, rfl, szOk hz, e, q _ _ _ Fr.refl g (.str _)⟩)
      · cases h
    · split at h
      · rename_i ds e
        obtain ⟨p, vs, rfl, hp, rp⟩ := seqA_rep g rx e
        obtain ⟨w, h1, h2⟩ := atI_rep rp h
        rcases hp with hp | hp
        · exact .inl ⟨p, vs, i, w, rfl, rfl, hp, h1, q _ _ _ Fr.refl g h2⟩
        · exact .inr (.inl ⟨p, vs, i, w, rfl, rfl, hp, h1, q _ _ _ Fr.refl g h2⟩)
      · cases h
  · cases h
def rLenA (K : PySem.W.Frag) : List V → Hp → VK → Prop := fun xs H Q => ∃ x n, xs = [x] ∧ LenV K x H n ∧ Q (.int n) H
def biLen (S : Store) : List D → Option D
  | [x] => match x with
    | .scr ns => some (.int ns.length)
    | .str z => if z.length ≤ 16777216 then some (.int z.length) else none
    | x => match seqA S x with
      | some ds => some (.int ds.length)
      | none => none
  | _ => none
theorem repL_one {T : Tab} {F : Hp} {cs : List Addr} {xs : List V} {d : D} (r : RepL T cs F xs [d]) : ∃ x, xs = [x] ∧ Rep T cs F x d := by
  cases r with
  | cons h r => cases r; exact ⟨_, rfl, h⟩
theorem repL_two {T : Tab} {F : Hp} {cs : List Addr} {xs : List V} {d e : D} (r : RepL T cs F xs [d, e]) : ∃ x y, xs = [x, y] ∧ Rep T cs F x d ∧ Rep T cs F y e := by
  cases r with
  | cons h r => obtain ⟨y, rfl, hy⟩ := repL_one r; exact ⟨_, _, rfl, h, hy⟩
theorem sem_len {T : Tab} : CaS T (rLenA T.K) biLen := by
  intro F H cs S xs dxs dz Q g rx h q
  unfold biLen at h
  split at h
  · obtain ⟨x, rfl, ry⟩ := repL_one rx
    split at h
    · cases h
      cases ry with
      | scr h1 =>
        refine ⟨.ref _, _, rfl, .inl ⟨_, ext_l g.sub h1, rfl⟩, ?_⟩
        rw [List.length_map]
        exact q _ _ _ Fr.refl g (.int _)
    · split at h
      · rename_i hz
        cases h; cases ry
        exact ⟨.str _, _, rfl, ⟨szOk hz, rfl⟩, q _ _ _ Fr.refl g (.int _)⟩
      · cases h
    · split at h
      · rename_i ds e
        cases h
        obtain ⟨p, vs, rfl, hp, rp⟩ := seqA_rep g ry e
        rw [← rp.length] at q
        rcases hp with hp | hp
        · exact ⟨.ref p, _, rfl, .inl ⟨_, hp, rfl⟩, q _ _ _ Fr.refl g (.int _)⟩
        · exact ⟨.ref p, _, rfl, .inr ⟨_, hp, rfl⟩, q _ _ _ Fr.refl g (.int _)⟩
      · cases h
  · cases h

/-! ### truth -/
def truD (S : Store) : D → Option Bool
  | .non => some false
  | .bl b => some b
  | .int i => some (i != 0)
  | .str z => if z.length ≤ 16777216 then some ((z.length : Int) != 0) else none
  | x => match seqA S x with
    | some ds => some (!ds.isEmpty)
    | none => none
theorem isEmpty_len {α β : Type} {xs : List α} {ys : List β} (h : xs.length = ys.length) : xs.isEmpty = ys.isEmpty := by
  cases xs <;> cases ys <;> first | rfl | simp at h
theorem truD_rep {T : Tab} {F H : Hp} {cs : List Addr} {S : Store} (g : Good T F H cs S) {x : V} {d : D} {b : Bool} (r : Rep T cs F x d) (h : truD S d = some b) : TruV T.K x H b := by
  have sq : ∀ ds, seqA S d = some ds → b = !ds.isEmpty → TruV T.K x H b := fun ds h1 h2 => by
    obtain ⟨p, vs, rfl, hp, rp⟩ := seqA_rep g r h1
    have e : b = !vs.isEmpty := by rw [h2, isEmpty_len rp.length]
    rcases hp with hp | hp
    · exact .inl ⟨vs, hp, e⟩
    · exact .inr (.inl ⟨vs, hp, e⟩)
  unfold truD at h
  split at h
  · cases h; cases r; rfl
  · cases h; cases r; rfl
  · cases h; cases r; rfl
  · split at h
    · rename_i hz
      cases h; cases r
      exact ⟨szOk hz, rfl⟩
    · cases h
  · split at h
    · rename_i ds e
      cases h
      exact sq ds e rfl
    · cases h

/-! ### classes of built-in values -/
def tyN : D → Option String
  | .non => some "NoneType"
  | .bl _ => some "bool"
  | .int _ => some "int"
  | .str _ => some "str"
  | .tup _ => some "tuple"
  | .lst _ => some "list"
  | _ => none
theorem tyN_rep {T : Tab} {F H : Hp} {cs : List Addr} {S : Store} (g : Good T F H cs S) {x : V} {d : D} {n : String} (r : Rep T cs F x d) (h : tyN d = some n) : TyX T.K H x (.type n) := by
  cases r with
  | non => cases h; exact .base .non
  | bl b => cases h; exact .base (.bl b)
  | int i => cases h; exact .base (.int i)
  | str z => cases h; exact .base (.str z)
  | tup h1 h2 =>
    cases h
    rcases h1 with (h1 | ⟨o, h1⟩) | ⟨o, its, n, hk, hc, _⟩
    · exact .base (.tup (g.sub _ _ h1))
    · exact .fTuple (g.sub _ _ h1)
    · exact .kTuple hk hc
  | lst h1 h2 => cases h; exact .base (.lst (g.sub _ _ h1))
  | _ => cases h
def isiD (n : String) (_ : Store) : List D → Option D
  | [x] => match tyN x with
    | some t => (kitB t n).map .bl
    | none => none
  | _ => none
/-- isinstance(x, T) with the class as it stands -/
def rIsi1 (K : PySem.W.Frag) (n : String) : List V → Hp → VK → Prop := fun xs H Q => ∃ x, xs = [x] ∧ rIsi K [x, .ty n] H Q
theorem sem_isi {T : Tab} (n : String) : CaS T (rIsi1 T.K n) (isiD n) := by
  intro F H cs S xs dxs dz Q g rx h q
  unfold isiD at h
  split at h
  · obtain ⟨x, rfl, ry⟩ := repL_one rx
    split at h
    · rename_i t ht
      cases e : kitB t n with
      | none => rw [e] at h; cases h
      | some b =>
        rw [e] at h
        cases h
        exact ⟨x, rfl, x, _, _, _, b, rfl, .ty n, tyN_rep g ry ht, kit_ty e, q _ _ _ Fr.refl g (.bl _)⟩
    · cases h
  · cases h
end Pd

end
section
set_option Elab.async false
set_option linter.all false
set_option maxRecDepth 100000
set_option maxHeartbeats 4000000
/-! More rules: t[::-1] of a tuple. -/
namespace HT
open PySem PySem.Spec PyProof.Rows
theorem adjust_rev (n : Nat) : Builtin.Slice.sliceAdjust none none (-1) (n : Int) = ((n : Int) - 1, -1) := by
  unfold Builtin.Slice.sliceAdjust
  simp
theorem places_rev (n : Nat) : Builtin.Slice.slicePlaces ((n : Int) - 1) (-1) (-1) = n := by
  unfold Builtin.Slice.slicePlaces
  have h1 : ¬ ((-1 : Int) > 0) := by omega
  simp only [h1, if_false]
  split
  · have e : ((n : Int) - 1 - -1 - 1) / (- -1) + 1 = (n : Int) := by
      have e1 : (- -1 : Int) = 1 := by omega
      rw [e1, Int.ediv_one]
      omega
    rw [e]
    omega
  · omega
theorem fm_congr {α β : Type} {f g : α → Option β} : ∀ {l : List α}, (∀ m ∈ l, f m = g m) → l.filterMap f = l.filterMap g
  | [], _ => rfl
  | a :: l, h => by rw [List.filterMap_cons, List.filterMap_cons, h a List.mem_cons_self, fm_congr fun m hm => h m (List.mem_cons_of_mem _ hm)]
theorem pick_rev (xs : Array Value) : ((List.range xs.size).filterMap fun (m : Nat) => xs[((xs.size : Int) - 1 + (m : Int) * (-1)).toNat]?).toArray = xs.toList.reverse.toArray := by
  congr 1
  apply List.ext_getElem?
  intro i
  have e : ∀ m ∈ List.range xs.size, (fun (m : Nat) => xs[((xs.size : Int) - 1 + (m : Int) * (-1)).toNat]?) m = (some ∘ fun m => xs.toList.getD (xs.size - 1 - m) .none) m := by
    intro m hm
    have hm := List.mem_range.mp hm
    have e1 : ((xs.size : Int) - 1 + (m : Int) * (-1)).toNat = xs.size - 1 - m := by omega
    simp only [e1, Function.comp]
    have hlt : xs.size - 1 - m < xs.size := by omega
    rw [Array.getElem?_eq_getElem hlt, List.getD_eq_getElem?_getD, List.getElem?_eq_getElem (by rw [Array.length_toList]; exact hlt)]
    simp
  rw [fm_congr e, List.filterMap_eq_map, List.getElem?_map]
  by_cases hi : i < xs.size
  · rw [List.getElem?_range hi, List.getElem?_reverse (by rw [Array.length_toList]; exact hi)]
    rw [Array.length_toList, Option.map_some, List.getD_eq_getElem?_getD]
    have hlt : xs.size - 1 - i < xs.toList.length := by rw [Array.length_toList]; omega
    rw [List.getElem?_eq_getElem hlt]
    rfl
  · rw [List.getElem?_eq_none (by rw [List.length_range]; omega), List.getElem?_eq_none (by rw [List.length_reverse, Array.length_toList]; omega)]
    rfl
section
variable {prog : Program} {w : World} {A : Around} {E : Value → Shared → Prop} {s : Shared}
theorem sliceApplied_rev {sl : Addr} {vl vu vs : Value} {n : Nat} {Q : Int × Int × Nat → Shared → Prop} (hs : s.heap.IsSliceOf sl vl vu vs) (pl : IsPart vl none) (pu : IsPart vu none) (ps : IsPart vs (some (-1)))
    (h : Q ((n : Int) - 1, -1, n) s) : wpAny (model prog w) A (Builtin.Slice.sliceApplied (.ref sl) (pure (n : Int))) Q E s := by
  obtain ⟨os, hos, hcs, hds⟩ := id hs
  unfold Builtin.Slice.sliceApplied Builtin.Slice.sliceFields
  refine wpAny_bind (wpAny_bind (wpAny_field hos hds (x := vl) rfl (wpAny_bind (wpAny_field hos hds (x := vu) rfl (wpAny_bind (wpAny_field hos hds (x := vs) rfl (wpAny_pure ?_)))))))
  refine wpAny_bind (slicePart_ ps ?_)
  show wpAny _ _ (if ((-1 : Int) == 0) = true then _ else _) _ _ s
  rw [if_neg (by decide)]
  refine wpAny_bind (slicePart_ pl (wpAny_bind (slicePart_ pu (wpAny_bind (wpAny_pure ?_)))))
  show wpAny _ _ (match Builtin.Slice.sliceAdjust none none (-1) (n : Int) with | (lo, hi) => pure (lo, (-1 : Int), Builtin.Slice.slicePlaces lo hi (-1))) _ _ s
  rw [adjust_rev n]
  show wpAny _ _ (pure ((n : Int) - 1, (-1 : Int), Builtin.Slice.slicePlaces ((n : Int) - 1) (-1) (-1))) _ _ s
  rw [places_rev]
  exact wpAny_pure h
theorem getItem_tuple_rev {t sl : Addr} {items : Array Value} {vl vu vs : Value} {Q : Value → Shared → Prop} (ht : IsTup s.heap t items) (hs : s.heap.IsSliceOf sl vl vu vs) (pl : IsPart vl none) (pu : IsPart vu none) (ps : IsPart vs (some (-1)))
    (hsz : items.size ≤ sizeLine) (h : Q (.ref s.heap.objs.size) { s with heap := s.heap.push { cls := .type "tuple", data := .seq items.toList.reverse.toArray } }) : wpAny (model prog w) A (getItem (.ref t) (.ref sl)) Q E s := by
  obtain ⟨os, hos, hcs, hds⟩ := id hs
  have hTs : s.TypeIs (.ref sl) "slice" := ⟨os, hos, hcs⟩
  unfold getItem
  try with_reducible refine wpAny_holding ?_
  first | refine wpAny_bind (wpAny_pure ?_) | skip
  refine wpAny_bind (wpAny_sequenceKey ht.typeIs (by decide) ?_)
  refine wpAny_bind (wpAny_callSpecial?_slot (name := Str.ofString "__getitem__") ht.typeIs PyProof.Rows.slot_tuple_getitem
    (wpAny_call_entry PyProof.Rows.slot_tuple_getitem ht.typeIs entry_tuple_getitem ?_ (args_tuple_getitem _ _)))
  show wpAny _ _ (Builtin.Tuple.tupleItemsOf (.ref t) >>= _) _ _ s
  refine wpAny_bind (tupleItemsOf_ ht ?_)
  refine wpAny_bind (wpAny_typeOf hTs ?_)
  rw [if_pos (by decide)]
  refine wpAny_bind (sliceApplied_rev hs pl pu ps ?_)
  have hno : ¬ ((((items.size : Int) - 1) == 0 && (-1 : Int) == 1 && items.size == items.size) = true) := by
    have e : ((-1 : Int) == 1) = false := by decide
    rw [e]
    simp
  show wpAny _ _ (if (((items.size : Int) - 1) == 0 && (-1 : Int) == 1 && items.size == items.size) = true then _ else _) _ _ s
  rw [if_neg hno]
  refine wpAny_bind ?_
  show wpAny _ _ (Builtin.Tuple.tupleExact ((List.range items.size).filterMap fun (m : Nat) => items[((items.size : Int) - 1 + (m : Int) * (-1)).toNat]?).toArray) _ _ s
  rw [pick_rev]
  unfold Builtin.Tuple.tupleExact
  refine wpAny_newObj_type ?_ (by show (items.toList.reverse.toArray).size ≤ sizeLine; rw [List.size_toArray, List.length_reverse, Array.length_toList]; exact hsz)
  exact wpAny_pure ⟨_, rfl, wpAny_pure h⟩
end
end HT
namespace L2
open PySem PySem.Spec PyProof.Rows
/-- xs[::-1] of a list, of a tuple -/
def tRevA (K : PySem.W.Frag) (te : TE) : TE := fun σ H Q => te σ H fun x H1 => ∃ a xs, x = .ref a ∧ ((SqL K H1 a xs ∧ ∀ p, H1 p = none → Q (.ref p) (upd H1 p (.lst xs.reverse))) ∨ (SqT K H1 a xs ∧ ∀ p, H1 p = none → Q (.ref p) (upd H1 p (.tup xs.reverse))))
theorem pe_revA {X : Cx} {e : Expr} {te : TE} {k : Nat} {p1 p2 p3 pos : Pos} (he : PE X e te) : PE X (.Subscript e (.Slice none none (some (.UnaryOp .USub (.Constant (.int 1) k p1) p2)) p3) pos) (tRevA X.K te) := by
  refine ⟨fun pins s σ H Q I h => ?_⟩
  refine Subscript_ (thn (he.run pins s σ H _ I h) fun v s1 ⟨x, H1, I1, r1, q1⟩ => ?_)
  obtain ⟨a, xs, ex, q⟩ := q1
  subst ex
  cases r1
  have hst : PO X (some (.UnaryOp .USub (.Constant (.int 1) k p1) p2)) (tPart (tUn (rU fun i => .int (-i)) (tC (.int 1)))) := po_some (pe_un un_neg pe_int)
  refine wpAny_Slice (thn (po_none.run pins s1 σ H1 (fun o H2 => o = none ∧ H2 = H1) I1 ⟨rfl, rfl⟩) fun vl s2 ⟨l, H2, I2, pl, el, e2⟩ => ?_)
  subst el e2
  refine thn (po_none.run pins s2 σ H2 (fun o H3 => o = none ∧ H3 = H2) I2 ⟨rfl, rfl⟩) fun vu s3 ⟨u, H3, I3, pu, eu, e3⟩ => ?_
  subst eu e3
  refine thn (hst.run pins s3 σ H3 (fun o H4 => o = some (-1) ∧ H4 = H3) I3 ⟨1, rfl, -1, rfl, rfl, rfl⟩) fun vs s4 ⟨o, H4, I4, ps, eo, e4⟩ => ?_
  subst eo e4
  have I5 : Inv X pins σ H4 { s4 with heap := s4.heap.push { cls := .type "slice", data := .fields #[vl, vu, vs] } } := I4.kept (t' := s4.toks) fun b ob q => Heap.get?_push_of_some _ q
  show wpAny (model X.prog X.w) X.A (subscriptTail e (.Slice none none (some (.UnaryOp .USub (.Constant (.int 1) k p1) p2)) p3) (.ref a) (.ref s4.heap.objs.size)) (EP X pins σ Q) X.xe { s4 with heap := s4.heap.push { cls := .type "slice", data := .fields #[vl, vu, vs] } }
  rcases q with ⟨hx, q⟩ | ⟨hx, q⟩
  · obtain ⟨its, r, ht, hz⟩ := I5.list hx
    have hlen := r.length
    refine tail_any (ops := [.ref a, .ref s4.heap.objs.size]) ht.isList.typeIs (PySem.slot_list_getitem.lookup) ?_ (by with_unfolding_all rfl)
    refine wpAny_getItem_list_slice ht.isList (Heap.IsSliceOf.new _ vl vu vs) pl pu ps (by decide) ?_ (by rw [List.size_toArray]; omega)
    rw [PySem.W.krv_pick]
    refine ⟨.ref _, _, I5.laid (t' := s4.toks) (o := .lst xs.reverse) (fun b ob q => Heap.get?_push_of_some _ q) (Nat.le_refl _) ?_, rfl, q _ (I5.hok.fresh (Nat.le_refl _))⟩
    exact ⟨by rw [List.length_reverse]; exact hz, _, 0, r.reverse, Heap.get?_push_size _ rfl⟩
  · obtain ⟨its, r, ht, hz⟩ := I5.tuple hx
    have hlen := r.length
    refine tail_any (ops := [.ref a, .ref s4.heap.objs.size]) ht.typeIs PyProof.Rows.slot_tuple_getitem.lookup ?_ (by with_unfolding_all rfl)
    refine HT.getItem_tuple_rev ht (Heap.IsSliceOf.new _ vl vu vs) pl pu ps (by rw [List.size_toArray]; omega) ?_
    refine ⟨.ref _, _, I5.laid (t' := s4.toks) (o := .tup xs.reverse) (fun b ob q => Heap.get?_push_of_some _ q) (Nat.le_refl _) ?_, rfl, q _ (I5.hok.fresh (Nat.le_refl _))⟩
    exact ⟨by rw [List.length_reverse]; exact hz, _, r.reverse, ⟨_, Heap.get?_push_size _ rfl, rfl, _, rfl⟩⟩
end L2

end
section
set_option Elab.async false
set_option linter.all false
set_option maxRecDepth 100000
set_option maxHeartbeats 4000000
/-! More rules: sorted(set(ints)), of a list. -/
namespace L2
open PySem PySem.Spec PyProof.Rows
section
variable {P : Program} {w : World} {A : Around} {E : Value → Shared → Prop} {s : Shared}
set_option maxHeartbeats 8000000 in
theorem call_set_listI {l : Addr} {items : Array Value} (ns : List Int) {Q : Value → Shared → Prop} (hh : A.handled = none) (hl : s.heap.IsList l items) (hit : IntsAre items.toList ns) (hb : ns.length + 1 < scanBound)
    (h : ∀ (h' : Heap) (tk c : Nat), SetR w h' s.heap.objs.size (fun j => decide (j ∈ ns)) c → c ≤ ns.length → (∀ b o, s.heap.get? b = some o → h'.get? b = some o) → Q (.ref s.heap.objs.size) { s with heap := h', toks := tk }) :
    wpAny (model P w) A (call (.type "set") [.ref l]) Q E s := by
  have hisz : items.size = ns.length := by
    have q := IntsAre.length hit
    rw [Array.length_toList] at q
    exact q
  obtain ⟨c, tl, hmro⟩ := F.called_set.mro
  have hmade := F.called_set.made
  have hsub := F.called_set.sub
  refine wpAny_call (codeAny_of_tree ?_)
  show wpAny _ _ (callAny (.type "set") _) _ _ _
  refine wpAny_pure ⟨Code.quiet_builtin _ (by decide +kernel), codeAny_builtin F.entry_type_call ?_⟩
  rw [Around.under_plain (weight_type_call_type "set" [.ref l] []) rfl]
  have h1 := F.called_set.notType
  have h2 := F.called_set.canCreate
  have hct := F.typeCall_set_1 (.ref l)
  repeat (any_goals (first | assumption | wp_step))

  refine codeAny_mono (code_set_led1 (.ref l) (E := E) (Q₁ := fun obj s₁ => obj = .ref s.heap.objs.size ∧ s₁ = { s with heap := s.heap.push { cls := .type "set", dict := none, data := .set #[] 0 (.fresh 0 0 (!w.params.followText "set-order")) } }) ⟨rfl, rfl⟩) fun r s₁ hr => ?_
  cases r with
  | error e => exact hr
  | ok fl =>
    cases fl with
    | ret obj =>
      obtain ⟨rfl, rfl⟩ := hr
      have hS : (s.heap.push { cls := .type "set", dict := none, data := .set #[] 0 (.fresh 0 0 (!w.params.followText "set-order")) }).get? s.heap.objs.size = some { cls := .type "set", dict := none, data := .set #[] 0 (.fresh 0 0 (!w.params.followText "set-order")) } := Heap.get?_push_size _ rfl
      have hT : Shared.TypeIs { s with heap := s.heap.push { cls := .type "set", dict := none, data := .set #[] 0 (.fresh 0 0 (!w.params.followText "set-order")) } } (.ref s.heap.objs.size) "set" := ⟨_, hS, rfl⟩
      have hli := F.called_set.init.lookup
      have hbi := F.called_set.init.bind (.ref s.heap.objs.size)
      repeat (any_goals (first | assumption | wp_step))

      refine codeAny_mono (codeAny_call_builtin (R := wants (fun r s₂ => r = .none ∧ ∃ h' tk c, s₂ = { s with heap := h', toks := tk } ∧ SetR w h' s.heap.objs.size (fun j => decide (j ∈ ns)) c ∧ c ≤ ns.length ∧
          (∀ b o, s.heap.get? b = some o → h'.get? b = some o)) E) F.called_set.init.plain F.entry_set_init (check_set_init_1 hT ?_)) fun r₂ s₂ hr₂ => ?_
      · obtain ⟨ol, hol, hcl, nl, hdl⟩ := hl
        obtain ⟨ocls, odict, odata, oslots⟩ := ol
        simp only at hcl hdl
        subst hcl; subst hdl
        have hol' : (s.heap.push { cls := .type "set", dict := none, data := .set #[] 0 (.fresh 0 0 (!w.params.followText "set-order")) }).get? l = some { cls := .type "list", dict := odict, data := .seq items nl, slots := oslots } := Heap.get?_push_of_some _ hol
        have hsls := F.sub_list_set
        have hslf := F.sub_list_frozenset
        have hne : (Value.type "list" == Value.type "dict") = false := by decide
        have hl1 : (s.heap.push { cls := .type "set", dict := none, data := .set #[] 0 (.fresh 0 0 (!w.params.followText "set-order")) }).IsList l items := ⟨_, hol', rfl, nl, rfl⟩
        unfold Builtin.«set.__init__» noKeywords Builtin.Frozenset.updateFrom
        generalize hPI : pyIter = PI
        wp_walk
        subst hPI

        refine wpAny_pyIter_list hl1 ?_
        refine wpAny_bind (wpAny_runValue ?_)
        have hlS : l < s.heap.objs.size := Heap.lt_size hol
        have hh3 : A.in1.in1.in1.handled = none := by simp [hh]
        have hz1 : (s.heap.push { cls := .type "set", dict := none, data := .set #[] 0 (.fresh 0 0 (!w.params.followText "set-order")) }).objs.size = s.heap.objs.size + 1 := Heap.size_push ..
        have hneI : l ≠ (s.heap.push { cls := .type "set", dict := none, data := .set #[] 0 (.fresh 0 0 (!w.params.followText "set-order")) }).objs.size := by
          rw [Heap.size_push]; exact Nat.ne_of_lt (Nat.lt_succ_of_lt hlS)
        have hSf : s.heap.objs.size ∉ [(s.heap.push { cls := .type "set", dict := none, data := .set #[] 0 (.fresh 0 0 (!w.params.followText "set-order")) }).objs.size, l] := by
          rw [Heap.size_push]; simp only [List.mem_cons, List.mem_singleton, List.not_mem_nil, or_false, not_or]
          exact ⟨Nat.ne_of_lt (Nat.lt_succ_self _), Nat.ne_of_gt hlS⟩
        have hval : ∀ (i : Nat) (v : Value), items[i]? = some v → ∃ k t, ns[i]? = some k ∧ v = .int k t := fun i v hv => by
          have hi : i < ns.length := by rw [← hisz]; exact (Array.getElem?_eq_some_iff.mp hv).1
          obtain ⟨t, e⟩ := PyProof.Rows.IntsAre.int_at hit i v (by rw [Array.getElem?_toList]; exact hv)
          refine ⟨ns[i], t, List.getElem?_eq_getElem hi, ?_⟩
          rw [e, List.getD_eq_getElem?_getD, List.getElem?_eq_getElem hi] <;> rfl
        refine set_update_ints ((Walks.list hh3 _ l hneI items).toS) s.heap.objs.size
          hSf ns hisz hb hval (items.size - 0) 0 _ (by omega) (Nat.zero_le _)
          ⟨⟨_, Heap.get?_push_size _ rfl, rfl, rfl⟩, (hl1.push _)⟩ ?hS0 ?hR
        case hS0 =>
          have hget : ((s.heap.push { cls := .type "set", dict := none, data := .set #[] 0 (.fresh 0 0 (!w.params.followText "set-order")) }).push { cls := .type "list_iterator", data := .fields #[.ref l, .int 0 0] }).get? s.heap.objs.size
              = some { cls := .type "set", dict := none, data := .set #[] 0 (.fresh 0 0 (!w.params.followText "set-order")) } := Heap.get?_push_of_some _ hS
          exact ⟨0, Nat.le_refl 0, setR_new_at hget⟩
        case hR =>
          intro s' c' hm hc' hS'
          obtain ⟨h', g2, d', tk', os'⟩ := s'
          have eg : g2 = s.gens := hm.gens
          have ed : d' = s.drawn := hm.drawn
          have eo : os' = s.os := hm.os
          subst eg; subst ed; subst eo
          show wpAny _ _ _ _ _ _
          refine wpAny_pure ?_
          show wpAny _ _ (ret Value.none) _ _ _
          rw [hisz] at hc'
          refine wpAny_pure ⟨rfl, h', tk', c', rfl, hS', hc', fun b o e => ?_⟩
          have hb0 : b < s.heap.objs.size := Heap.lt_size e
          have hb1 : b ≠ s.heap.objs.size := Nat.ne_of_lt hb0
          have hb2 : b ≠ (s.heap.push { cls := .type "set", dict := none, data := .set #[] 0 (.fresh 0 0 (!w.params.followText "set-order")) }).objs.size := by
            rw [Heap.size_push]; exact Nat.ne_of_lt (Nat.lt_succ_of_lt hb0)
          exact hm.heap b o (by simp only [List.mem_cons, List.mem_singleton, List.not_mem_nil, or_false, not_or]; exact ⟨hb1, hb2⟩) (Heap.get?_push_of_some _ (Heap.get?_push_of_some _ e))

      · cases r₂ with
        | error e => exact hr₂
        | ok fl₂ =>
          cases fl₂ with
          | ret r =>
            obtain ⟨rfl, h', tk, c', rfl, hS', hc', hk'⟩ := hr₂
            repeat (any_goals (first | assumption | wp_step))
            exact h _ _ _ hS' hc' hk'
          | _ => exact hr₂.elim
    | _ => exact hr.elim

end
/-- set(xs), xs a list of ints -/
def rSetLs (K : PySem.W.Frag) (w : World) : List V → Hp → VK → Prop := fun vs H Q => ∃ (l : Addr) (ns : List Int), vs = [V.ref l] ∧ SqL K H l (ns.map V.int) ∧ ns.length < 60 ∧ ∀ (p : Addr) (c : Nat), H p = none → c ≤ ns.length → Q (.ref p) (upd H p (SetO w p (fun j => decide (j ∈ ns)) c))
theorem cr_setL {X : Cx} (hc : X.calm = true) : CallR X (.type "set") (rSetLs X.K X.w) := by
  intro pins s σ H vs us Q I r h
  obtain ⟨l, ns, rfl, hl, hz, q⟩ := h
  rw [Vals.ref1 r]
  obtain ⟨its, rv, p, _⟩ := I.list hl
  have hi : IntsAre its ns := ints_of_vals rv
  refine call_set_listI ns (I.ok.hd hc) p.isList (by simpa using hi) (by unfold scanBound; omega) fun h' tk c R hcn kp => ?_
  exact ⟨.ref _, _, I.laid (t' := tk) kp (Nat.le_refl _) (setO_new R), rfl, q _ c (I.hok.fresh (Nat.le_refl _)) hcn⟩
end L2
namespace Pd
open PySem PySem.Spec PyProof.Rows L2
/-- the ints of a list once each, rising -/
def ins (x : Int) : List Int → List Int
  | [] => [x]
  | y :: ys => if x < y then x :: y :: ys else if x = y then y :: ys else y :: ins x ys
def srt : List Int → List Int
  | [] => []
  | x :: xs => ins x (srt xs)
theorem ins_mem (x : Int) : ∀ (ys : List Int) (k : Int), k ∈ ins x ys ↔ k = x ∨ k ∈ ys
  | [], k => by simp [ins]
  | y :: ys, k => by
    unfold ins
    split
    · simp
    · split
      · rename_i h; subst h; simp
      · rw [List.mem_cons, ins_mem x ys, List.mem_cons]
        constructor
        · rintro (h | h | h)
          · exact .inr (.inl h)
          · exact .inl h
          · exact .inr (.inr h)
        · rintro (h | h | h)
          · exact .inr (.inl h)
          · exact .inl h
          · exact .inr (.inr h)
theorem ins_rise (x : Int) : ∀ (ys : List Int), ys.Pairwise (· < ·) → (ins x ys).Pairwise (· < ·)
  | [], _ => by simp [ins]
  | y :: ys, h => by
    rw [List.pairwise_cons] at h
    unfold ins
    split
    · rename_i hx
      rw [List.pairwise_cons, List.pairwise_cons]
      refine ⟨fun z hz => ?_, h⟩
      rcases List.mem_cons.mp hz with e | e
      · rw [e]; exact hx
      · have := h.1 z e; omega
    · split
      · rw [List.pairwise_cons]; exact h
      · rw [List.pairwise_cons]
        refine ⟨fun z hz => ?_, ins_rise x ys h.2⟩
        rcases (ins_mem x ys z).mp hz with e | e
        · omega
        · exact h.1 z e
theorem srt_mem : ∀ (xs : List Int) (k : Int), k ∈ srt xs ↔ k ∈ xs
  | [], k => by simp [srt]
  | x :: xs, k => by rw [srt, ins_mem, srt_mem xs, List.mem_cons]
theorem srt_rise : ∀ xs : List Int, (srt xs).Pairwise (· < ·)
  | [] => List.Pairwise.nil
  | x :: xs => ins_rise x _ (srt_rise xs)
theorem rise_eq : ∀ (xs ys : List Int), xs.Pairwise (· < ·) → ys.Pairwise (· < ·) → (∀ k, k ∈ xs ↔ k ∈ ys) → xs = ys
  | [], [], _, _, _ => rfl
  | [], y :: ys, _, _, h => by have := (h y).mpr List.mem_cons_self; cases this
  | x :: xs, [], _, _, h => by have := (h x).mp List.mem_cons_self; cases this
  | x :: xs, y :: ys, hx, hy, h => by
    rw [List.pairwise_cons] at hx hy
    have e : x = y := by
      rcases List.mem_cons.mp ((h x).mp List.mem_cons_self) with e | e
      · exact e
      · rcases List.mem_cons.mp ((h y).mpr List.mem_cons_self) with e2 | e2
        · exact e2.symm
        · have h1 := hy.1 x e
          have h2 := hx.1 y e2
          omega
    subst e
    rw [rise_eq xs ys hx.2 hy.2 fun k => ?_]
    have hk := h k
    rw [List.mem_cons, List.mem_cons] at hk
    constructor
    · intro m
      rcases hk.mp (.inr m) with e | e
      · have := hx.1 k m; omega
      · exact e
    · intro m
      rcases hk.mpr (.inr m) with e | e
      · have := hy.1 k m; omega
      · exact e
end Pd

end
section
set_option Elab.async false
set_option linter.all false
set_option maxRecDepth 100000
set_option maxHeartbeats 4000000
/-! The built-ins by values; the terms of a program that is read, and what they are worth. -/
namespace Pd
open PySem PySem.Spec PyProof.Rows L2

/-! ### built-ins -/
def biAbs (_ : Store) : List D → Option D
  | [.int i] => some (.int (if i < 0 then -i else i))
  | _ => none
theorem sem_abs {T : Tab} : CaS T (fun xs H Q => ∃ i, xs = [.int i] ∧ Q (.int (if i < 0 then -i else i)) H) biAbs := by
  intro F H cs S xs dxs dz Q g rx h q
  unfold biAbs at h
  split at h
  · cases h
    obtain ⟨x, rfl, ry⟩ := repL_one rx
    cases ry
    exact ⟨_, rfl, q _ _ _ Fr.refl g (.int _)⟩
  · cases h
def biInt (_ : Store) : List D → Option D
  | [.int i] => some (.int i)
  | [.bl b] => some (.int (if b then 1 else 0))
  | _ => none
theorem sem_int {T : Tab} : CaS T (fun xs H Q => (∃ i, xs = [.int i] ∧ Q (.int i) H) ∨ ∃ k, xs = [.bl k] ∧ Q (.int (if k then 1 else 0)) H) biInt := by
  intro F H cs S xs dxs dz Q g rx h q
  unfold biInt at h
  split at h
  · cases h
    obtain ⟨x, rfl, ry⟩ := repL_one rx
    cases ry
    exact .inl ⟨_, rfl, q _ _ _ Fr.refl g (.int _)⟩
  · cases h
    obtain ⟨x, rfl, ry⟩ := repL_one rx
    cases ry
    exact .inr ⟨_, rfl, q _ _ _ Fr.refl g (.int _)⟩
  · cases h
def biBool (_ : Store) : List D → Option D
  | [.int i] => some (.bl (i != 0))
  | [.bl b] => some (.bl b)
  | _ => none
theorem sem_bool {T : Tab} : CaS T (fun xs H Q => (∃ i, xs = [.int i] ∧ Q (.bl (i != 0)) H) ∨ ∃ k, xs = [.bl k] ∧ Q (.bl k) H) biBool := by
  intro F H cs S xs dxs dz Q g rx h q
  unfold biBool at h
  split at h
  · cases h
    obtain ⟨x, rfl, ry⟩ := repL_one rx
    cases ry
    exact .inl ⟨_, rfl, q _ _ _ Fr.refl g (.bl _)⟩
  · cases h
    obtain ⟨x, rfl, ry⟩ := repL_one rx
    cases ry
    exact .inr ⟨_, rfl, q _ _ _ Fr.refl g (.bl _)⟩
  · cases h
def biMax (_ : Store) : List D → Option D
  | [.int i, .int j] => some (.int (if j > i then j else i))
  | _ => none
def biMin (_ : Store) : List D → Option D
  | [.int i, .int j] => some (.int (if j < i then j else i))
  | _ => none
theorem sem_max {T : Tab} : CaS T (fun xs H Q => ∃ i j, xs = [.int i, .int j] ∧ Q (.int (if j > i then j else i)) H) biMax := by
  intro F H cs S xs dxs dz Q g rx h q
  unfold biMax at h
  split at h
  · cases h
    obtain ⟨x, y, rfl, ry, rz⟩ := repL_two rx
    cases ry; cases rz
    exact ⟨_, _, rfl, q _ _ _ Fr.refl g (.int _)⟩
  · cases h
theorem sem_min {T : Tab} : CaS T (fun xs H Q => ∃ i j, xs = [.int i, .int j] ∧ Q (.int (if j < i then j else i)) H) biMin := by
  intro F H cs S xs dxs dz Q g rx h q
  unfold biMin at h
  split at h
  · cases h
    obtain ⟨x, y, rfl, ry, rz⟩ := repL_two rx
    cases ry; cases rz
    exact ⟨_, _, rfl, q _ _ _ Fr.refl g (.int _)⟩
  · cases h
def boolsD : List D → Option (List Bool)
  | [] => some []
  | .bl b :: ds => (boolsD ds).map (b :: ·)
  | _ :: _ => none
theorem boolsD_ok : ∀ {ds : List D} {bs : List Bool}, boolsD ds = some bs → ds = bs.map .bl
  | [], _, h => by cases h; rfl
  | d :: ds, bs, h => by
    cases d with
    | bl b =>
      have h' : (boolsD ds).map (b :: ·) = some bs := h
      cases e : boolsD ds with
      | none => rw [e] at h'; cases h'
      | some cs =>
        rw [e] at h'
        cases h'
        rw [boolsD_ok e]
        rfl
    | _ => cases h
def biAll (S : Store) : List D → Option D
  | [x] => match seqL S x with
    | some ds => (boolsD ds).map fun bs => .bl (bs.all id)
    | none => none
  | _ => none
def biAny (S : Store) : List D → Option D
  | [x] => match seqL S x with
    | some ds => (boolsD ds).map fun bs => .bl (bs.any id)
    | none => none
  | _ => none
theorem sem_all {T : Tab} : CaS T (rAll T.K) biAll := by
  intro F H cs S xs dxs dz Q g rx h q
  unfold biAll at h
  split at h
  · obtain ⟨x, rfl, ry⟩ := repL_one rx
    split at h
    · rename_i ds e
      cases e2 : boolsD ds with
      | none => rw [e2] at h; cases h
      | some bs =>
        rw [e2] at h
        cases h
        have e3 := boolsD_ok e2
        subst e3
        obtain ⟨p, vs, rfl, hp, rp⟩ := seqL_rep g ry e
        have e4 := rp.bools
        subst e4
        exact ⟨p, bs, rfl, .of hp, q _ _ _ Fr.refl g (.bl _)⟩
    · cases h
  · cases h
theorem sem_any {T : Tab} : CaS T (rAny T.K) biAny := by
  intro F H cs S xs dxs dz Q g rx h q
  unfold biAny at h
  split at h
  · obtain ⟨x, rfl, ry⟩ := repL_one rx
    split at h
    · rename_i ds e
      cases e2 : boolsD ds with
      | none => rw [e2] at h; cases h
      | some bs =>
        rw [e2] at h
        cases h
        have e3 := boolsD_ok e2
        subst e3
        obtain ⟨p, vs, rfl, hp, rp⟩ := seqL_rep g ry e
        have e4 := rp.bools
        subst e4
        exact ⟨p, bs, rfl, .of hp, q _ _ _ Fr.refl g (.bl _)⟩
    · cases h
  · cases h
/-- tuple(xs), list(xs) -/
def biTup (S : Store) : List D → Option D
  | [x] => (seqA S x).map .tup
  | _ => none
def biLst (S : Store) : List D → Option D
  | [x] => (seqA S x).map .lst
  | _ => none
def rTupOf (K : PySem.W.Frag) : List V → Hp → VK → Prop := fun xs H Q => ∃ p ys, xs = [.ref p] ∧ ((SqL K H p ys ∧ ∀ l, H l = none → Q (.ref l) (upd H l (.tup ys))) ∨ (SqT K H p ys ∧ Q (.ref p) H))
def rLstOf (K : PySem.W.Frag) : List V → Hp → VK → Prop := fun xs H Q => ∃ p ys, xs = [.ref p] ∧ (SqL K H p ys ∨ SqT K H p ys) ∧ ∀ l, H l = none → Q (.ref l) (upd H l (.lst ys))
theorem sem_tup {T : Tab} : CaS T (rTupOf T.K) biTup := by
  intro F H cs S xs dxs dz Q g rx h q
  unfold biTup at h
  split at h
  · rename_i d
    obtain ⟨x, rfl, ry⟩ := repL_one rx
    cases e : seqA S d with
    | none => rw [e] at h; cases h
    | some ds =>
      rw [e] at h
      cases h
      cases d with
      | tup ds' =>
        cases e
        obtain ⟨p, vs, rfl, hp, rp⟩ := tup_rep g ry
        exact ⟨p, vs, rfl, .inr ⟨hp, q _ _ _ Fr.refl g ry⟩⟩
      | lst ds' =>
        obtain ⟨p, vs, rfl, hp, rp⟩ := seqL_rep g ry e
        exact ⟨p, vs, rfl, .inl ⟨.of hp, fun l nl => q _ _ _ (g.frNew nl) (g.new _ nl) (.tup (.of upd_same) (rp.mono (Ext.new (g.free nl)) (Pre.refl _)))⟩⟩
      | cell k =>
        obtain ⟨p, vs, rfl, hp, rp⟩ := seqL_rep g ry e
        exact ⟨p, vs, rfl, .inl ⟨.of hp, fun l nl => q _ _ _ (g.frNew nl) (g.new _ nl) (.tup (.of upd_same) (rp.mono (Ext.new (g.free nl)) (Pre.refl _)))⟩⟩
      | _ => cases e
  · cases h
theorem sem_lst {T : Tab} : CaS T (rLstOf T.K) biLst := by
  intro F H cs S xs dxs dz Q g rx h q
  unfold biLst at h
  split at h
  · rename_i d
    obtain ⟨x, rfl, ry⟩ := repL_one rx
    cases e : seqA S d with
    | none => rw [e] at h; cases h
    | some ds =>
      rw [e] at h
      cases h
      obtain ⟨p, vs, rfl, hp, rp⟩ := seqA_rep g ry e
      exact ⟨p, vs, rfl, hp, fun l nl => q _ _ _ (g.frNew nl) (g.new _ nl) (.lst upd_same (rp.mono (Ext.new (g.free nl)) (Pre.refl _)))⟩
  · cases h
/-- str(n) -/
def biStr (_ : Store) : List D → Option D
  | [.int i] => if -1000000000000 < i ∧ i < 1000000000000 then some (.str (toString i)) else none
  | _ => none
theorem sem_str {T : Tab} : CaS T (fun xs H Q => ∃ i, xs = [.int i] ∧ i.natAbs.log2 < 1920 ∧ Q (.str (toString i)) H) biStr := by
  intro F H cs S xs dxs dz Q g rx h q
  unfold biStr at h
  split at h
  · split at h
    · rename_i hz
      cases h
      obtain ⟨x, rfl, ry⟩ := repL_one rx
      cases ry
      refine ⟨_, rfl, ?_, q _ _ _ Fr.refl g (.str _)⟩
      refine Nat.lt_of_lt_of_le (PySem.Flt.log2_lt_of (k := 64) (by decide) ?_) (by decide)
      have e : (2 : Nat) ^ 64 = 18446744073709551616 := by decide
      rw [e]
      omega
    · cases h
  · cases h

/-- sorted(set(xs)), ints -/
def intsD : List D → Option (List Int)
  | [] => some []
  | .int i :: ds => (intsD ds).map (i :: ·)
  | _ => none
theorem intsD_ok : ∀ {ds : List D} {ns : List Int}, intsD ds = some ns → ds = ns.map .int
  | [], ns, h => by cases h; rfl
  | d :: ds, ns, h => by
    cases d with
    | int i =>
      have h' : (intsD ds).map (i :: ·) = some ns := h
      cases e : intsD ds with
      | none => rw [e] at h'; cases h'
      | some cs =>
        rw [e] at h'
        cases h'
        rw [intsD_ok e]
        rfl
    | _ => cases h
def biSset (S : Store) : List D → Option D
  | [x] => match seqL S x with
    | some ds => match intsD ds with
      | some ns => if ns.length < 60 then some (.lst ((srt ns).map .int)) else none
      | none => none
    | none => none
  | _ => none
/-! ### terms -/
inductive Op where
  | add | sub | mul | div | mod | pow | eq | ne | lt | le | gt | ge | is | isNot | in_ | notIn | idx
def Op.g : Op → Store → D → D → Option D
  | .add => opAdd | .sub => opSub | .mul => opMul | .div => opDiv | .mod => opMod | .pow => opPow | .eq => opEq | .ne => opNe
  | .lt => opLt | .le => opLe | .gt => opGt | .ge => opGe | .is => opIs | .isNot => opIsNot | .in_ => opIn | .notIn => opNotIn | .idx => opIdx
inductive Bi where
  | len | abs | int | bool | all | any | tup | lst | max | min | str | sset | isi (n : String)
def Bi.g : Bi → Store → List D → Option D
  | .len => biLen | .abs => biAbs | .int => biInt | .bool => biBool | .all => biAll | .any => biAny | .tup => biTup | .lst => biLst | .max => biMax | .min => biMin | .str => biStr | .sset => biSset | .isi n => isiD n
inductive G where
  | nm (i : Nat) | tup (gs : List G)
mutual
inductive E where
  | nm (i : Nat) | k (d : D) | op (o : Op) (a b : E) | neg (a : E) | not (a : E) | and (a b : E) | or (a b : E) | ite (c a b : E)
  | tup (es : List E) | lst (cel : Bool) (es : List E) | slc (a : E) (lo hi : Option E) | rev (a : E) | chain (o p : Op) (a b c : E)
  | bi (b : Bi) (es : List E) | call (keep : Bool) (f : Nat) (es : List E) | comp (elt : E) (g : G) (it : It) (ifs : Option E) (own : List Nat)
  | push (a e : E) | pop0 (a : E) | lstC (a : E) | lam (nm : List Str) (e : E)
inductive It where
  | seq (e : E) | rng (a : E) | rng2 (a b : E) | zip (a b : E) | enum (a : E)
end
inductive S where
  | set (g : G) (e : E) | par (is : List Nat) (es : List E) | ret (e : E) | retN | expr (e : E) | ite (c : E) (a b : List S) | for_ (g : G) (it : It) (b : List S)
  | while_ (c : E) (b : List S) | setix (a i e : E) | raise (c : Nat) | pass

def tupD : D → Option (List D)
  | .tup ds => some ds
  | _ => none
mutual
def bindG : G → D → Env' → Option Env'
  | .nm i, d, ρ => some (ρ.set i (some d))
  | .tup gs, d, ρ => match tupD d with
    | some ds => bindGs gs ds ρ
    | none => none
def bindGs : List G → List D → Env' → Option Env'
  | [], ds, ρ => match ds.isEmpty with
    | true => some ρ
    | false => none
  | g :: gs, ds, ρ => match ds.head? with
    | none => none
    | some d => match bindG g d ρ with
      | some ρ1 => bindGs gs ds.tail ρ1
      | none => none
end

/-! ### what the terms do to the store -/
def newCell (ds : List D) : M D := fun S => if ds.all shp9 then .ok (.cell S.length) (S ++ [ds]) else .bad
def lstM (cel : Bool) (ds : List D) : M D := match cel with
  | true => newCell ds
  | false => Pure.pure (.lst ds)
def asCell : D → M Nat
  | .cell k => Pure.pure k
  | _ => M.bad
def pushM (k : Nat) (y : D) : M D := fun S => match S[k]? with
  | some ds => if ds.length < 16777216 && shp9 y then .ok .non (S.set k (ds ++ [y])) else .bad
  | none => .bad
def pop0M (k : Nat) : M D := fun S => match S[k]? with
  | some (d :: ds) => .ok d (S.set k ds)
  | _ => .bad
def setixM (x i y : D) : M Unit := fun S => match x with
  | .cell k => match i with
    | .int j => match S[k]? with
      | some ds => match ixN ds.length j with
        | some m => if shp9 y then .ok () (S.set k (ds.set m y)) else .bad
        | none => .bad
      | none => .bad
    | _ => .bad
  | _ => .bad
def noErr {α : Type} (m : M α) : M α := fun S => match m S with
  | .ok a S => .ok a S
  | _ => .bad
/-- a list that was made within goes out as a value -/
def thaw (keep : Bool) (m : M D) : M D := fun S => match m S with
  | .ok (.cell k) S' => if keep then .ok (.cell k) S' else if k < S.length then .ok (.cell k) S' else if k = S.length then (match S'[k]? with
    | some ds => .ok (.lst ds) (S'.take k)
    | none => .bad) else .bad
  | r => r
/-- a call without arguments is wanted to raise nothing -/
def callM (C : Nat → List D → M D) (f : Nat) : List D → M D
  | [] => noErr (C f [])
  | ds => C f ds
def lcLoop (f : D → M (Option D)) : List D → List D → M (List D)
  | [], acc => Pure.pure acc
  | d :: ds, acc => do
    match ← f d with
    | some x => if acc.length < 16777216 then lcLoop f ds (acc ++ [x]) else M.bad
    | none => lcLoop f ds acc
def wipeD (ρ : Env') : List Nat → Env'
  | [] => ρ
  | v :: vs => (wipeD ρ vs).set v none
/-- what a walk goes over -/
def itemsOf (S : Store) : D → Option (List D)
  | .lst ds => some ds
  | .tup ds => some ds
  | .str z => some (z.cps.toList.map fun c => .str ⟨#[c]⟩)
  | _ => none
def rngOf (i j : Int) : List D := (List.range (j - i).toNat).map fun (n : Nat) => .int (i + n)
def zipOf : List D → List D → List D
  | x :: xs, y :: ys => .tup [x, y] :: zipOf xs ys
  | _, _ => []
def enumOf : Nat → List D → List D
  | _, [] => []
  | n, x :: xs => .tup [.int n, x] :: enumOf (n + 1) xs
def sliceD (x : D) (lo hi : Option Int) (S : Store) : Option D := match x with
  | .tup ds => some (.tup ((ds.drop (HT.sIx ds.length 0 lo)).take (HT.sIx ds.length ds.length hi - HT.sIx ds.length 0 lo)))
  | .str z => if z.length ≤ 16777216 then some (.str (cutS z lo hi)) else none
  | x => match seqL S x with
    | some ds => some (.lst ((ds.drop (HT.sIx ds.length 0 lo)).take (HT.sIx ds.length ds.length hi - HT.sIx ds.length 0 lo)))
    | none => none
def revD (x : D) (S : Store) : Option D := match x with
  | .tup ds => some (.tup ds.reverse)
  | x => match seqL S x with
    | some ds => some (.lst ds.reverse)
    | none => none
def lift {α : Type} (f : Store → Option α) : M α := fun S => match f S with
  | some a => .ok a S
  | none => .bad

mutual
def den (C : Nat → List D → M D) : E → Env' → M D
  | .nm i, ρ => match ρ[i]? with
    | some (some d) => Pure.pure d
    | _ => M.bad
  | .k d, _ => Pure.pure d
  | .op o a b, ρ => do let x ← den C a ρ; let y ← den C b ρ; opM o.g x y
  | .neg a, ρ => do let x ← den C a ρ; unM unNeg x
  | .not a, ρ => do
    match ← den C a ρ with
    | .bl b => Pure.pure (.bl !b)
    | _ => M.bad
  | .and a b, ρ => do
    match ← den C a ρ with
    | .bl true => den C b ρ
    | .bl false => Pure.pure (.bl false)
    | _ => M.bad
  | .or a b, ρ => do
    match ← den C a ρ with
    | .bl true => Pure.pure (.bl true)
    | .bl false => den C b ρ
    | _ => M.bad
  | .ite c a b, ρ => do
    match ← denT C c ρ with
    | true => den C a ρ
    | false => den C b ρ
  | .tup es, ρ => do let ds ← denL C es ρ; if ds.length ≤ 16777216 then Pure.pure (.tup ds) else M.bad
  | .lst cel es, ρ => do
    let ds ← denL C es ρ
    if ds.length ≤ 16777216 then lstM cel ds else M.bad
  | .slc a lo hi, ρ => do let x ← den C a ρ; let l ← denO C lo ρ; let h ← denO C hi ρ; lift (sliceD x l h)
  | .rev a, ρ => do let x ← den C a ρ; lift (revD x)
  | .chain o p a b c, ρ => do
    let x ← den C a ρ
    let y ← den C b ρ
    match ← opM o.g x y with
    | .bl true => do let z ← den C c ρ; opM p.g y z
    | .bl false => Pure.pure (.bl false)
    | _ => M.bad
  | .bi b es, ρ => do let ds ← denL C es ρ; caM b.g ds
  | .call keep f es, ρ => do let ds ← denL C es ρ; thaw keep (callM C f ds)
  | .comp elt g it ifs own, ρ => do
    let items ← denI C it ρ
    let ds ← noErr (lcLoop (fun d => match bindG g d (wipeD ρ own) with
      | some ρ1 => do
        match ← denC C ifs ρ1 with
        | true => do let x ← den C elt ρ1; Pure.pure (some x)
        | false => Pure.pure none
      | none => M.bad) items [])
    Pure.pure (.lst ds)
  | .push a e, ρ => do let x ← den C a ρ; let k ← asCell x; let y ← den C e ρ; pushM k y
  | .pop0 a, ρ => do let x ← den C a ρ; let k ← asCell x; pop0M k
  | .lstC a, ρ => do
    let x ← den C a ρ
    let ds ← lift fun S => seqA S x
    newCell ds
  | .lam nm e, ρ => fun S => match den C e ρ S with
    | .ok _ S' => .ok (.str ("" : Str)) S'
    | .err c S' => match nm[c]? with
      | some t => .ok (.str t) S'
      | none => .bad
    | .bad => .bad
def denT (C : Nat → List D → M D) : E → Env' → M Bool
  | .not a, ρ => do let b ← denT C a ρ; Pure.pure !b
  | .and a b, ρ => do
    match ← denT C a ρ with
    | true => denT C b ρ
    | false => Pure.pure false
  | .or a b, ρ => do
    match ← denT C a ρ with
    | true => Pure.pure true
    | false => denT C b ρ
  | .ite _ _ _, _ => M.bad
  | e, ρ => do let x ← den C e ρ; lift fun S => truD S x
def denL (C : Nat → List D → M D) : List E → Env' → M (List D)
  | [], _ => Pure.pure []
  | e :: es, ρ => do let d ← den C e ρ; let ds ← denL C es ρ; Pure.pure (d :: ds)
def denO (C : Nat → List D → M D) : Option E → Env' → M (Option Int)
  | none, _ => Pure.pure none
  | some e, ρ => do
    match ← den C e ρ with
    | .int i => Pure.pure (some i)
    | _ => M.bad
def denC (C : Nat → List D → M D) : Option E → Env' → M Bool
  | none, _ => Pure.pure true
  | some e, ρ => denT C e ρ
def denI (C : Nat → List D → M D) : It → Env' → M (List D)
  | .seq e, ρ => do let x ← den C e ρ; lift fun S => itemsOf S x
  | .rng a, ρ => do
    match ← den C a ρ with
    | .int j => if j ≤ 16777216 ∧ -16777216 ≤ j then Pure.pure (rngOf 0 j) else M.bad
    | _ => M.bad
  | .rng2 a b, ρ => do
    let x ← den C a ρ
    match x, ← den C b ρ with
    | .int i, .int j => if j ≤ 16777216 ∧ -16777216 ≤ j ∧ i ≤ 16777216 ∧ -16777216 ≤ i then Pure.pure (rngOf i j) else M.bad
    | _, _ => M.bad
  | .zip a b, ρ => do
    let x ← den C a ρ
    match x, ← den C b ρ with
    | .lst xs, .lst ys => Pure.pure (zipOf xs ys)
    | .tup xs, .tup ys => Pure.pure (zipOf xs ys)
    | _, _ => M.bad
  | .enum a, ρ => do
    match ← den C a ρ with
    | .lst xs => Pure.pure (enumOf 0 xs)
    | _ => M.bad
end

inductive Fl where
  | nx (ρ : Env') | ret (d : D)
def forM' (f : D → Env' → M Fl) : List D → Env' → M Fl
  | [], ρ => Pure.pure (.nx ρ)
  | d :: ds, ρ => do
    match ← f d ρ with
    | .nx ρ1 => forM' f ds ρ1
    | .ret d => Pure.pure (.ret d)
def whileM (c : Env' → M Bool) (b : Env' → M Fl) : Nat → Env' → M Fl
  | 0, _ => M.bad
  | n + 1, ρ => do
    match ← c ρ with
    | true => do
      match ← b ρ with
      | .nx ρ1 => whileM c b n ρ1
      | .ret d => Pure.pure (.ret d)
    | false => Pure.pure (.nx ρ)
def setAll : List Nat → List D → Env' → Env'
  | i :: is, d :: ds, ρ => setAll is ds (ρ.set i (some d))
  | _, _, ρ => ρ
mutual
def exec (C : Nat → List D → M D) (w : Nat) : S → Env' → M Fl
  | .set g e, ρ => do
    let d ← den C e ρ
    match bindG g d ρ with
    | some ρ1 => Pure.pure (.nx ρ1)
    | none => M.bad
  | .par is es, ρ => do
    let ds ← denL C es ρ
    Pure.pure (.nx (setAll is ds ρ))
  | .ret e, ρ => do let d ← den C e ρ; Pure.pure (.ret d)
  | .retN, _ => Pure.pure (.ret .non)
  | .expr e, ρ => do let _ ← den C e ρ; Pure.pure (.nx ρ)
  | .ite c a b, ρ => do
    match ← denT C c ρ with
    | true => execs C w a ρ
    | false => execs C w b ρ
  | .for_ g it b, ρ => do
    let items ← denI C it ρ
    forM' (fun d ρ => match bindG g d ρ with
      | some ρ1 => execs C w b ρ1
      | none => M.bad) items ρ
  | .while_ c b, ρ => whileM (denT C c) (execs C w b) w ρ
  | .setix a i e, ρ => do
    let y ← den C e ρ
    let x ← den C a ρ
    let j ← den C i ρ
    let _ ← setixM x j y
    Pure.pure (.nx ρ)
  | .raise c, _ => fun S => .err c S
  | .pass, ρ => Pure.pure (.nx ρ)
def execs (C : Nat → List D → M D) (w : Nat) : List S → Env' → M Fl
  | [], ρ => Pure.pure (.nx ρ)
  | s :: ss, ρ => do
    match ← exec C w s ρ with
    | .nx ρ1 => execs C w ss ρ1
    | .ret d => Pure.pure (.ret d)
end
/-- what a def hands back: cells made within, inside of a tuple, become values -/
def frz (S : Store) (n : Nat) : Nat → D → Option D
  | _, .cell k => if k < n then some (.cell k) else (S[k]?).map .lst
  | 0, .tup _ => none
  | m + 1, .tup ds => (ds.mapM (frz S n m)).map .tup
  | _, d => if shp9 d then some d else none
def finish (n : Nat) (d : D) : M D := fun S => match d with
  | .cell k => if k < n then .ok (.cell k) (S.take n) else match S[k]? with
    | some ds => .ok (.cell n) (S.take n ++ [ds])
    | none => .bad
  | d => if S.length = n then .ok d S else match frz S n 9 d with
    | some d' => .ok d' (S.take n)
    | none => .bad
def runDef (C : Nat → List D → M D) (w : Nat) (slots : Nat) (b : List S) (args : List D) : M D := fun S =>
  match execs C w b (args.map some ++ List.replicate (slots - args.length) none) S with
  | .ok (.ret d) S1 => finish S.length d S1
  | .ok (.nx _) S1 => finish S.length .non S1
  | .err c S1 => .err c (S1.take S.length)
  | .bad => .bad
end Pd

end
section
set_option Elab.async false
set_option linter.all false
set_option maxRecDepth 100000
set_option maxHeartbeats 4000000
/-! Each construct: its rule of the layer, asked by its term. -/
namespace Pd
open PySem PySem.Spec PyProof.Rows L2

/-! ### forms of expressions -/
def noStar : Expr → Bool
  | .Starred _ _ => false
  | _ => true
theorem starEach_cons {e : Expr} {es : List Expr} {env : Env} (h : noStar e = true) : starEach (e :: es) env = (false, eval e env) :: starEach es env := by
  cases e <;> first | rfl | cases h
theorem assignEach_cons {e : Expr} {es : List Expr} {env : Env} (h : noStar e = true) : assignEach (e :: es) env = (false, assign e env) :: assignEach es env := by
  cases e <;> first | rfl | cases h
theorem back_any (pos : Pos) (env : Env) : ∀ es : List Expr, es.all noStar = true → (backTo pos (starEach es env)).any (·.1) = false
  | [], _ => rfl
  | e :: es, h => by
    obtain ⟨h1, h2⟩ := Bool.and_eq_true_iff.mp (show (noStar e && es.all noStar) = true from h)
    rw [starEach_cons h1]
    have ih := back_any pos env es h2
    unfold backTo at ih ⊢
    rw [List.map_cons, List.any_cons, ih]
    rfl
theorem back_all (pos : Pos) (env : Env) : ∀ es : List Expr, es.all noStar = true → (backTo pos (starEach es env)).all (fun x => !x.1) = true
  | [], _ => rfl
  | e :: es, h => by
    obtain ⟨h1, h2⟩ := Bool.and_eq_true_iff.mp (show (noStar e && es.all noStar) = true from h)
    rw [starEach_cons h1]
    have ih := back_all pos env es h2
    unfold backTo at ih ⊢
    rw [List.map_cons, List.all_cons, ih]
    rfl
theorem assign_find {env : Env} : ∀ es : List Expr, es.all noStar = true → (assignEach es env).findIdx? (·.1) = none ∧ (assignEach es env).length = es.length
  | [], _ => ⟨rfl, rfl⟩
  | e :: es, h => by
    obtain ⟨h1, h2⟩ := Bool.and_eq_true_iff.mp (show (noStar e && es.all noStar) = true from h)
    rw [assignEach_cons h1]
    obtain ⟨i1, i2⟩ := assign_find (env := env) es h2
    exact ⟨by rw [List.findIdx?_cons, i1]; rfl, by rw [List.length_cons, List.length_cons, i2]⟩
def noSet : Expr → Bool
  | .Set _ _ _ => false
  | _ => true
theorem marks_no {op : CmpOp} {e : Expr} (h : noSet e = true) : behindInMarks op e = false := by
  cases e <;> first | rfl | cases h
theorem fold_no {e : Expr} {env : Env} (h : noSet e = true) : ∀ x, foldedSetIterable e env x = pure x := by
  intro x
  cases e <;> first | rfl | cases h
def noSlice : Expr → Bool
  | .Slice _ _ _ _ => false
  | _ => true
theorem plainIx_no {e : Expr} (h : noSlice e = true) : PlainIx e := by
  intro o i
  cases e <;> first | rfl | cases h
/-- no form of which truth asks in a way of its own -/
def plainT : Expr → Bool
  | .UnaryOp .Not _ _ => false
  | .BoolOp _ _ _ => false
  | .IfExp _ _ _ _ => false
  | .Compare _ _ _ _ => false
  | _ => true
theorem isTrue_of {e : Expr} {env : Env} (h : plainT e = true) : ∀ whole, isTrue e env whole = (do let v ← whole; standAt e.pos; holding [v] (truthy v)) := by
  intro whole
  cases e with
  | UnaryOp op a p => cases op <;> first | rfl | cases h
  | _ => first | rfl | cases h

section
variable {T : Tab} {W : WX} {X : Cx} {C : Nat → List D → M D} {σ : L2.St} {H : Hp} {Q : VK}

/-! ### readings -/
theorem tF_nm {i : Nat} (h : tF T W (den C (.nm i)) σ H Q) : tVar i σ H Q := by
  obtain ⟨F, cs, ρ, S, g, re, hl, h⟩ := h
  have h' : After T W σ F H cs (PV T Q) ((match ρ[i]? with
    | some (some d) => Pure.pure d
    | _ => M.bad : M D) S) := by
    rw [den] at h
    exact h
  cases e : ρ[i]? with
  | none => rw [e] at h'; exact h'.elim
  | some o =>
    rw [e] at h'
    cases o with
    | none => exact h'.elim
    | some d =>
      obtain ⟨v, hv, r⟩ := re i d e
      exact ⟨v, hv, h' F H cs Fr.refl g v r⟩
theorem tF_k {d : D} {v : V} (hv : ∀ cs F, Rep T cs F v d) (h : tF T W (den C (.k d)) σ H Q) : tC v σ H Q := by
  obtain ⟨F, cs, ρ, S, g, re, hl, h⟩ := h
  rw [den] at h
  exact h F H cs Fr.refl g v (hv cs F)
theorem tF_op' {r : R2} {o : Op} {a b : E} (hs : OpS T r o.g) (h : tF T W (den C (.op o a b)) σ H Q) : tOp r (tF T W (den C a)) (tF T W (den C b)) σ H Q := by
  refine tF_op hs ?_
  obtain ⟨F, cs, ρ, S, g, re, hl, h⟩ := h
  refine ⟨F, cs, ρ, S, g, re, hl, ?_⟩
  rw [den] at h
  exact h
theorem tF_neg {a : E} (h : tF T W (den C (.neg a)) σ H Q) : tUn (rU fun i => .int (-i)) (tF T W (den C a)) σ H Q := by
  refine tF_un sem_neg ?_
  obtain ⟨F, cs, ρ, S, g, re, hl, h⟩ := h
  refine ⟨F, cs, ρ, S, g, re, hl, ?_⟩
  rw [den] at h
  exact h
theorem tF_not {a : E} (h : tF T W (den C (.not a)) σ H Q) : tNotV (tF T W (den C a)) σ H Q := by
  obtain ⟨F, cs, ρ, S, g, re, hl, h⟩ := h
  rw [den] at h
  refine ⟨F, cs, ρ, S, g, re, hl, (After.bind h).mono fun d S1 F1 H1 cs1 e1 g1 h1 => ?_⟩
  intro v r
  cases r with
  | bl b => exact ⟨b, rfl, h1 F1 H1 cs1 Fr.refl g1 _ (.bl _)⟩
  | _ => exact h1.elim
theorem tF_and {a b : E} (h : tF T W (den C (.and a b)) σ H Q) : tAndV (tF T W (den C a)) (tF T W (den C b)) σ H Q := by
  obtain ⟨F, cs, ρ, S, g, re, hl, h⟩ := h
  rw [den] at h
  refine ⟨F, cs, ρ, S, g, re, hl, (After.bind h).mono fun d S1 F1 H1 cs1 e1 g1 h1 => ?_⟩
  intro v r
  cases r with
  | bl c =>
    refine ⟨c, rfl, ?_⟩
    cases c with
    | true => exact ⟨F1, cs1, ρ, S1, g1, re.mono e1.ext e1.pre, hl, h1⟩
    | false => exact h1 F1 H1 cs1 Fr.refl g1 _ (.bl _)
  | _ => exact h1.elim
theorem tF_or {a b : E} (h : tF T W (den C (.or a b)) σ H Q) : tOrV (tF T W (den C a)) (tF T W (den C b)) σ H Q := by
  obtain ⟨F, cs, ρ, S, g, re, hl, h⟩ := h
  rw [den] at h
  refine ⟨F, cs, ρ, S, g, re, hl, (After.bind h).mono fun d S1 F1 H1 cs1 e1 g1 h1 => ?_⟩
  intro v r
  cases r with
  | bl c =>
    refine ⟨c, rfl, ?_⟩
    cases c with
    | false => exact ⟨F1, cs1, ρ, S1, g1, re.mono e1.ext e1.pre, hl, h1⟩
    | true => exact h1 F1 H1 cs1 Fr.refl g1 _ (.bl _)
  | _ => exact h1.elim
theorem tF_ite {c a b : E} (h : tF T W (den C (.ite c a b)) σ H Q) : tIf (tFT T W (denT C c)) (tF T W (den C a)) (tF T W (den C b)) σ H Q := by
  obtain ⟨F, cs, ρ, S, g, re, hl, h⟩ := h
  rw [den] at h
  refine ⟨F, cs, ρ, S, g, re, hl, (After.bind h).mono fun d S1 F1 H1 cs1 e1 g1 h1 => ?_⟩
  cases d with
  | true => exact ⟨F1, cs1, ρ, S1, g1, re.mono e1.ext e1.pre, hl, h1⟩
  | false => exact ⟨F1, cs1, ρ, S1, g1, re.mono e1.ext e1.pre, hl, h1⟩
/-- argument lists -/
theorem tFA_nil {Q : List V → Hp → Prop} (h : tFA T W (denL C []) σ H Q) : tNil σ H Q := by
  obtain ⟨F, cs, ρ, S, g, re, hl, h⟩ := h
  rw [denL] at h
  exact h F H cs Fr.refl g [] .nil
theorem tFA_cons {e : E} {es : List E} {Q : List V → Hp → Prop} (h : tFA T W (denL C (e :: es)) σ H Q) : tCons (tF T W (den C e)) (tFA T W (denL C es)) σ H Q := by
  obtain ⟨F, cs, ρ, S, g, re, hl, h⟩ := h
  rw [denL] at h
  refine ⟨F, cs, ρ, S, g, re, hl, (After.bind h).mono fun d S1 F1 H1 cs1 e1 g1 h1 => ?_⟩
  intro v r
  refine ⟨F1, cs1, ρ, S1, g1, re.mono e1.ext e1.pre, hl, (After.bind h1).mono fun ds S2 F2 H2 cs2 e2 g2 h2 => ?_⟩
  intro vs rs
  exact h2 F2 H2 cs2 Fr.refl g2 (v :: vs) (.cons (r.mono e2.ext e2.pre) rs)
theorem tF_tup {es : List E} (h : tF T W (den C (.tup es)) σ H Q) : tTup (tFA T W (denL C es)) σ H Q := by
  obtain ⟨F, cs, ρ, S, g, re, hl, h⟩ := h
  rw [den] at h
  refine ⟨F, cs, ρ, S, g, re, hl, (After.bind h).mono fun ds S1 F1 H1 cs1 e1 g1 h1 => ?_⟩
  intro vs rs
  have h1' : After T W σ F1 H1 cs1 (PV T Q) ((if ds.length ≤ 16777216 then Pure.pure (D.tup ds) else M.bad : M D) S1) := h1
  split at h1'
  · rename_i hz
    refine ⟨szOk (by rw [rs.length]; exact hz), fun p np => ?_⟩
    exact h1' _ _ _ (g1.frNew np) (g1.new _ np) _ (.tup (.of upd_same) (rs.mono (Ext.new (g1.free np)) (Pre.refl _)))
  · exact h1'.elim
/-- whole values hold no cells -/
theorem shp_rep {F : Hp} {cs : List Addr} : ∀ (n : Nat) {d : D} {v : V}, shp n d = true → Rep T cs F v d → Rep T [] F v d
  | 0, _, _, h, _ => by cases h
  | n + 1, d, v, h, r => by
    have all : ∀ {vs : List V} {ds : List D}, (∀ d ∈ ds, shp n d = true) → RepL T cs F vs ds → RepL T [] F vs ds := by
      intro vs
      induction vs with
      | nil => intro ds _ r; cases r; exact .nil
      | cons v vs ih =>
        intro ds h r
        cases r with
        | cons r rs => exact .cons (shp_rep n (h _ List.mem_cons_self) r) (ih (fun d hd => h d (List.mem_cons_of_mem _ hd)) rs)
    cases r with
    | non => exact .non
    | bl b => exact .bl b
    | int i => exact .int i
    | str x => exact .str x
    | tup h1 h2 => exact .tup h1 (all (List.all_eq_true.mp h) h2)
    | lst h1 h2 => exact .lst h1 (all (List.all_eq_true.mp h) h2)
    | cell _ => cases h
    | scr _ => cases h
    | fn _ => cases h
theorem shps_rep {F : Hp} {cs : List Addr} {vs : List V} {ds : List D} (h : ds.all shp9 = true) (r : RepL T cs F vs ds) : RepL T [] F vs ds := by
  induction vs generalizing ds with
  | nil => cases r; exact .nil
  | cons v vs ih => cases r with
    | cons r rs =>
      obtain ⟨h1, h2⟩ := Bool.and_eq_true_iff.mp (show (shp9 _ && List.all _ shp9) = true from h)
      exact .cons (shp_rep 40 h1 r) (ih h2 rs)
theorem newCell_after {F : Hp} {cs : List Addr} {S : Store} {ds : List D} {vs : List V} {p : Addr} (h : After T W σ F H cs (PV T Q) (newCell ds S)) (g : Good T F H cs S) (r : RepL T cs F vs ds) (np : H p = none) : Q (.ref p) (upd H p (.lst vs)) := by
  unfold newCell at h
  split at h
  · rename_i hz
    refine h _ _ _ (g.frCell np) (g.newCell np (shps_rep hz r)) _ (.cell ?_)
    rw [← g.len, List.getElem?_append_right (Nat.le_refl _), Nat.sub_self]
    rfl
  · exact h.elim
theorem tF_lst {cel : Bool} {es : List E} (h : tF T W (den C (.lst cel es)) σ H Q) : tLst (tFA T W (denL C es)) σ H Q := by
  obtain ⟨F, cs, ρ, S, g, re, hl, h⟩ := h
  rw [den] at h
  refine ⟨F, cs, ρ, S, g, re, hl, (After.bind h).mono fun ds S1 F1 H1 cs1 e1 g1 h1 => ?_⟩
  intro vs rs
  have h1' : After T W σ F1 H1 cs1 (PV T Q) ((if ds.length ≤ 16777216 then lstM cel ds else M.bad : M D) S1) := h1
  split at h1'
  · rename_i hz
    refine ⟨szOk (by rw [rs.length]; exact hz), fun p np => ?_⟩
    cases cel with
    | true => exact newCell_after h1' g1 rs np
    | false => exact h1' _ _ _ (g1.frNew np) (g1.new _ np) _ (.lst upd_same (rs.mono (Ext.new (g1.free np)) (Pre.refl _)))
  · exact h1'.elim
theorem tF_chain {r r' : R2} {o p : Op} {a b c : E} (hs : OpS T r o.g) (hs' : OpS T r' p.g) (h : tF T W (den C (.chain o p a b c)) σ H Q) : tChain r r' (tF T W (den C a)) (tF T W (den C b)) (tF T W (den C c)) σ H Q := by
  obtain ⟨F, cs, ρ, S, g, re, hl, h⟩ := h
  rw [den] at h
  refine ⟨F, cs, ρ, S, g, re, hl, (After.bind h).mono fun dx S1 F1 H1 cs1 e1 g1 h1 => ?_⟩
  intro x rx
  have re1 := re.mono e1.ext e1.pre
  refine ⟨F1, cs1, ρ, S1, g1, re1, hl, (After.bind h1).mono fun dy S2 F2 H2 cs2 e2 g2 h2 => ?_⟩
  intro y ry
  have re2 := re1.mono e2.ext e2.pre
  have h3 := After.bind h2
  unfold opM at h3
  cases e : o.g S2 dx dy with
  | none => rw [e] at h3; exact h3.elim
  | some dz =>
    rw [e] at h3
    refine hs F2 H2 cs2 S2 x y dx dy dz _ g2 (rx.mono e2.ext e2.pre) ry e fun v F3 H3 e3 g3 rv => ?_
    have h4 := h3 F3 H3 cs2 e3 g3
    cases rv with
    | bl k =>
      refine ⟨k, rfl, ?_⟩
      cases k with
      | true =>
        refine ⟨F3, cs2, ρ, S2, g3, re2.mono e3.ext e3.pre, hl, (After.bind h4).mono fun dw S4 F4 H4 cs4 e4 g4 h5 => ?_⟩
        intro w rw'
        have h6 : After T W σ F4 H4 cs4 (PV T Q) (opM p.g dy dw S4) := h5
        unfold opM at h6
        cases e' : p.g S4 dy dw with
        | none => rw [e'] at h6; exact h6.elim
        | some dq =>
          rw [e'] at h6
          exact hs' F4 H4 cs4 S4 y w dy dw dq Q g4 ((ry.mono e3.ext e3.pre).mono e4.ext e4.pre) rw' e' fun v F5 H5 e5 g5 rv => h6 F5 H5 cs4 e5 g5 v rv
      | false => exact h4 F3 H3 cs2 Fr.refl g3 _ (.bl _)
    | _ => exact h4.elim
theorem tF_bi {b : Bi} {es : List E} {r : List V → Hp → VK → Prop} (hs : CaS T r b.g) (h : tF T W (den C (.bi b es)) σ H Q) : tCB r (tFA T W (denL C es)) σ H Q := by
  obtain ⟨F, cs, ρ, S, g, re, hl, h⟩ := h
  rw [den] at h
  refine ⟨F, cs, ρ, S, g, re, hl, (After.bind h).mono fun ds S1 F1 H1 cs1 e1 g1 h1 => ?_⟩
  intro vs rs
  have h2 : After T W σ F1 H1 cs1 (PV T Q) (caM b.g ds S1) := h1
  unfold caM at h2
  cases e : b.g S1 ds with
  | none => rw [e] at h2; exact h2.elim
  | some dz =>
    rw [e] at h2
    exact hs F1 H1 cs1 S1 vs ds dz Q g1 rs e fun v F3 H3 e3 g3 rv => h2 F3 H3 cs1 e3 g3 v rv
/-! ### slices -/
def rSlAll (K : PySem.W.Frag) : V → Option Int → Option Int → Hp → VK → Prop := fun x lo hi H Q => rSlA K x lo hi H Q ∨ rSlL K x lo hi H Q ∨ rSlS x lo hi H Q
theorem sl_all : SlR X (rSlAll X.K) := sl_tupA.or (sl_list.or sl_str)
theorem RepL.cut {F : Hp} {cs : List Addr} {vs : List V} {ds : List D} (r : RepL T cs F vs ds) (lo hi : Option Int) :
    RepL T cs F (cutV vs lo hi) ((ds.drop (HT.sIx ds.length 0 lo)).take (HT.sIx ds.length ds.length hi - HT.sIx ds.length 0 lo)) := by
  unfold cutV
  rw [r.length]
  exact (r.drop _).take _
theorem sem_slice {F : Hp} {cs : List Addr} {S : Store} {x : V} {dx dz : D} {lo hi : Option Int} (g : Good T F H cs S) (rx : Rep T cs F x dx) (h : sliceD dx lo hi S = some dz)
    (q : ∀ v F' H', Fr F H cs F' H' cs → Good T F' H' cs S → Rep T cs F' v dz → Q v H') : rSlAll T.K x lo hi H Q := by
  unfold sliceD at h
  split at h
  · rename_i ds
    cases h
    obtain ⟨p, vs, rfl, hp, rp⟩ := tup_rep g rx
    refine .inl ⟨p, vs, rfl, hp, fun hw => ?_, fun hw l nl => ?_⟩
    · refine q _ _ _ Fr.refl g ?_
      rw [rp.length] at hw
      rw [hw.1, hw.2, List.drop_zero, Nat.sub_zero, List.take_length]
      exact rx
    · exact q _ _ _ (g.frNew nl) (g.new _ nl) (.tup (.of upd_same) ((rp.cut lo hi).mono (Ext.new (g.free nl)) (Pre.refl _)))
  · split at h
    · rename_i hz
      cases h; cases rx
      exact .inr (.inr ⟨_, rfl, szOk hz, q _ _ _ Fr.refl g (.str _)⟩)
    · cases h
  · split at h
    · rename_i ds e
      cases h
      obtain ⟨p, vs, rfl, hp, rp⟩ := seqL_rep g rx e
      exact .inr (.inl ⟨p, vs, rfl, .of hp, fun l nl => q _ _ _ (g.frNew nl) (g.new _ nl) (.lst upd_same ((rp.cut lo hi).mono (Ext.new (g.free nl)) (Pre.refl _)))⟩)
    · cases h
def tFO (T : Tab) (W : WX) (f : Env' → M (Option Int)) : TO := fun σ H Q => ∃ F cs ρ S, Good T F H cs S ∧ RepE T cs F σ ρ ∧ σ.length = ρ.length ∧ After T W σ F H cs (fun o _ _ H' _ => Q o H') (f ρ S)
theorem tF_slc {a : E} {lo hi : Option E} (h : tF T W (den C (.slc a lo hi)) σ H Q) : tSl (rSlAll T.K) (tF T W (den C a)) (tFO T W (denO C lo)) (tFO T W (denO C hi)) σ H Q := by
  obtain ⟨F, cs, ρ, S, g, re, hl, h⟩ := h
  rw [den] at h
  refine ⟨F, cs, ρ, S, g, re, hl, (After.bind h).mono fun dx S1 F1 H1 cs1 e1 g1 h1 => ?_⟩
  intro x rx
  have re1 := re.mono e1.ext e1.pre
  refine ⟨F1, cs1, ρ, S1, g1, re1, hl, (After.bind h1).mono fun l S2 F2 H2 cs2 e2 g2 h2 => ?_⟩
  have re2 := re1.mono e2.ext e2.pre
  refine ⟨F2, cs2, ρ, S2, g2, re2, hl, (After.bind h2).mono fun u S3 F3 H3 cs3 e3 g3 h3 => ?_⟩
  have h4 : After T W σ F3 H3 cs3 (PV T Q) (lift (sliceD dx l u) S3) := h3
  unfold lift at h4
  cases e : sliceD dx l u S3 with
  | none => rw [e] at h4; exact h4.elim
  | some dz =>
    rw [e] at h4
    exact sem_slice g3 ((rx.mono e2.ext e2.pre).mono e3.ext e3.pre) e fun v F' H' e' g' rv => h4 F' H' cs3 e' g' v rv
theorem tFO_none {Q : Option Int → Hp → Prop} (h : tFO T W (denO C none) σ H Q) : tNoPart σ H Q := by
  obtain ⟨F, cs, ρ, S, g, re, hl, h⟩ := h
  rw [denO] at h
  exact h F H cs Fr.refl g
theorem tFO_some {a : E} {Q : Option Int → Hp → Prop} (h : tFO T W (denO C (some a)) σ H Q) : tPart (tF T W (den C a)) σ H Q := by
  obtain ⟨F, cs, ρ, S, g, re, hl, h⟩ := h
  rw [denO] at h
  refine ⟨F, cs, ρ, S, g, re, hl, (After.bind h).mono fun d S1 F1 H1 cs1 e1 g1 h1 => ?_⟩
  intro v r
  cases r with
  | int i => exact ⟨i, rfl, h1 F1 H1 cs1 Fr.refl g1⟩
  | _ => exact h1.elim
theorem PO.imp {e : Option Expr} {t t' : TO} (h : PO X e t) (i : ∀ σ H Q, t' σ H Q → t σ H Q) : PO X e t' := ⟨fun pins s σ H Q I w => h.run pins s σ H Q I (i σ H Q w)⟩
/-- xs[::-1] of a list -/
theorem tF_revL {a : E} (h : tF T W (den C (.rev a)) σ H Q) : tF T W (den C a) σ H fun x H1 => ∃ F1 cs1 S1 dx dz, Good T F1 H1 cs1 S1 ∧ Rep T cs1 F1 x dx ∧ revD dx S1 = some dz ∧ ∀ v F' H', Fr F1 H1 cs1 F' H' cs1 → Good T F' H' cs1 S1 → Rep T cs1 F' v dz → Q v H' := by
  obtain ⟨F, cs, ρ, S, g, re, hl, h⟩ := h
  rw [den] at h
  refine ⟨F, cs, ρ, S, g, re, hl, (After.bind h).mono fun dx S1 F1 H1 cs1 e1 g1 h1 => ?_⟩
  intro x rx
  have h4 : After T W σ F1 H1 cs1 (PV T Q) (lift (revD dx) S1) := h1
  unfold lift at h4
  cases e : revD dx S1 with
  | none => rw [e] at h4; exact h4.elim
  | some dz =>
    rw [e] at h4
    exact ⟨F1, cs1, S1, dx, dz, g1, rx, e, fun v F' H' e' g' rv => h4 F' H' cs1 e' g' v rv⟩

/-! ### tests -/
theorem tFT_not {a : E} {Q : Bool → Hp → Prop} (h : tFT T W (denT C (.not a)) σ H Q) : tNot (tFT T W (denT C a)) σ H Q := by
  obtain ⟨F, cs, ρ, S, g, re, hl, h⟩ := h
  rw [denT] at h
  exact ⟨F, cs, ρ, S, g, re, hl, (After.bind h).mono fun d S1 F1 H1 cs1 e1 g1 h1 => h1 F1 H1 cs1 Fr.refl g1⟩
theorem tFT_and {a b : E} {Q : Bool → Hp → Prop} (h : tFT T W (denT C (.and a b)) σ H Q) : tAnd (tFT T W (denT C a)) (tFT T W (denT C b)) σ H Q := by
  obtain ⟨F, cs, ρ, S, g, re, hl, h⟩ := h
  rw [denT] at h
  refine ⟨F, cs, ρ, S, g, re, hl, (After.bind h).mono fun d S1 F1 H1 cs1 e1 g1 h1 => ?_⟩
  cases d with
  | true => exact ⟨F1, cs1, ρ, S1, g1, re.mono e1.ext e1.pre, hl, h1⟩
  | false => exact h1 F1 H1 cs1 Fr.refl g1
theorem tFT_or {a b : E} {Q : Bool → Hp → Prop} (h : tFT T W (denT C (.or a b)) σ H Q) : tOr (tFT T W (denT C a)) (tFT T W (denT C b)) σ H Q := by
  obtain ⟨F, cs, ρ, S, g, re, hl, h⟩ := h
  rw [denT] at h
  refine ⟨F, cs, ρ, S, g, re, hl, (After.bind h).mono fun d S1 F1 H1 cs1 e1 g1 h1 => ?_⟩
  cases d with
  | false => exact ⟨F1, cs1, ρ, S1, g1, re.mono e1.ext e1.pre, hl, h1⟩
  | true => exact h1 F1 H1 cs1 Fr.refl g1
/-- the truth of a value -/
def asTest (C : Nat → List D → M D) (e : E) (ρ : Env') : M Bool := do let x ← den C e ρ; lift fun S => truD S x
theorem tFT_val {e : E} {Q : Bool → Hp → Prop} (h : tFT T W (asTest C e) σ H Q) : tF T W (den C e) σ H fun x H' => ∃ k, TruV T.K x H' k ∧ Q k H' := by
  obtain ⟨F, cs, ρ, S, g, re, hl, h⟩ := h
  refine ⟨F, cs, ρ, S, g, re, hl, (After.bind h).mono fun d S1 F1 H1 cs1 e1 g1 h1 => ?_⟩
  intro v r
  have h2 : After T W σ F1 H1 cs1 (PB Q) (lift (fun S => truD S d) S1) := h1
  unfold lift at h2
  cases e : truD S1 d with
  | none => simp only [e] at h2; exact h2.elim
  | some b =>
    simp only [e] at h2
    exact ⟨b, truD_rep g1 r e, h2 F1 H1 cs1 Fr.refl g1⟩
/-- a value that is True or False -/
theorem tFT_bl {e : E} {Q : Bool → Hp → Prop} (hb : ∀ ρ S d S', den C e ρ S = .ok d S' → ∃ b, d = .bl b) (h : tFT T W (asTest C e) σ H Q) : tF T W (den C e) σ H fun x H' => ∃ k, x = .bl k ∧ Q k H' := by
  obtain ⟨F, cs, ρ, S, g, re, hl, h⟩ := h
  refine ⟨F, cs, ρ, S, g, re, hl, ?_⟩
  have h0 := After.bind h
  cases ev : den C e ρ S with
  | ok d S1 =>
    rw [ev] at h0
    obtain ⟨b, rfl⟩ := hb ρ S d S1 ev
    exact fun F1 H1 cs1 e1 g1 v r => by
      cases r
      exact ⟨b, rfl, h0 F1 H1 cs1 e1 g1 F1 H1 cs1 Fr.refl g1⟩
  | err c S1 => rw [ev] at h0; exact h0
  | bad => rw [ev] at h0; exact h0
end
/-- the comparisons give True or False -/
def Op.isCmp : Op → Bool
  | .eq | .ne | .lt | .le | .gt | .ge | .is | .isNot | .in_ | .notIn => true
  | _ => false
theorem cmp_bl {o : Op} (ho : o.isCmp = true) {S : Store} {x y z : D} (h : o.g S x y = some z) : ∃ b, z = .bl b := by
  cases o with
  | eq =>
    have h' : (opEqB S x y).map D.bl = some z := h
    cases e : opEqB S x y with
    | none => rw [e] at h'; cases h'
    | some b => rw [e] at h'; cases h'; exact ⟨_, rfl⟩
  | ne =>
    have h' : (opEqB S x y).map (fun b => D.bl (!b)) = some z := h
    cases e : opEqB S x y with
    | none => rw [e] at h'; cases h'
    | some b => rw [e] at h'; cases h'; exact ⟨_, rfl⟩
  | in_ =>
    have h' : (opInB S x y).map D.bl = some z := h
    cases e : opInB S x y with
    | none => rw [e] at h'; cases h'
    | some b => rw [e] at h'; cases h'; exact ⟨_, rfl⟩
  | notIn =>
    have h' : (opInB S x y).map (fun b => D.bl (!b)) = some z := h
    cases e : opInB S x y with
    | none => rw [e] at h'; cases h'
    | some b => rw [e] at h'; cases h'; exact ⟨_, rfl⟩
  | lt => unfold Op.g at h; simp only [opLt, opCmp] at h; split at h <;> cases h; exact ⟨_, rfl⟩
  | le => unfold Op.g at h; simp only [opLe, opCmp] at h; split at h <;> cases h; exact ⟨_, rfl⟩
  | gt => unfold Op.g at h; simp only [opGt, opCmp] at h; split at h <;> cases h; exact ⟨_, rfl⟩
  | ge => unfold Op.g at h; simp only [opGe, opCmp] at h; split at h <;> cases h; exact ⟨_, rfl⟩
  | is =>
    have h' : opIs S x y = some z := h
    unfold opIs at h'
    split at h'
    · cases h'; exact ⟨_, rfl⟩
    · split at h' <;> cases h'
      exact ⟨_, rfl⟩
    · cases h'
  | isNot =>
    have h' : opIsNot S x y = some z := h
    unfold opIsNot at h'
    split at h'
    · cases h'; exact ⟨_, rfl⟩
    · split at h' <;> cases h'
      exact ⟨_, rfl⟩
    · cases h'
  | _ => cases ho
theorem bind_ok {α β : Type} {x : M α} {f : α → M β} {S S' : Store} {b : β} (h : (x >>= f) S = .ok b S') : ∃ a S1, x S = .ok a S1 ∧ f a S1 = .ok b S' := by
  have h' : (x S).bind f = .ok b S' := h
  cases e : x S with
  | ok a S1 => rw [e] at h'; exact ⟨a, S1, rfl, h'⟩
  | err c S1 => rw [e] at h'; cases h'
  | bad => rw [e] at h'; cases h'
theorem den_cmp_bl {C : Nat → List D → M D} {o : Op} (ho : o.isCmp = true) {a b : E} : ∀ ρ S d S', den C (.op o a b) ρ S = .ok d S' → ∃ k, d = .bl k := by
  intro ρ S d S' h
  rw [den] at h
  obtain ⟨x, S1, _, h⟩ := bind_ok h
  obtain ⟨y, S2, _, h⟩ := bind_ok h
  unfold opM at h
  cases e : o.g S2 x y with
  | none => simp only [e] at h; cases h
  | some z => simp only [e] at h; cases h; exact cmp_bl ho e
theorem den_chain_bl {C : Nat → List D → M D} {o p : Op} (hp : p.isCmp = true) {a b c : E} : ∀ ρ S d S', den C (.chain o p a b c) ρ S = .ok d S' → ∃ k, d = .bl k := by
  intro ρ S d S' h
  rw [den] at h
  obtain ⟨x, S1, _, h⟩ := bind_ok h
  obtain ⟨y, S2, _, h⟩ := bind_ok h
  obtain ⟨z, S3, _, h⟩ := bind_ok h
  split at h
  · obtain ⟨w, S4, _, h⟩ := bind_ok h
    unfold opM at h
    cases e : p.g S4 y w with
    | none => simp only [e] at h; cases h
    | some z => simp only [e] at h; cases h; exact cmp_bl hp e
  · cases h; exact ⟨_, rfl⟩
  · cases h
end Pd

end
section
set_option Elab.async false
set_option linter.all false
set_option maxRecDepth 100000
set_option maxHeartbeats 4000000
/-! Targets, walks, comprehensions, calls. -/
namespace Pd
open PySem PySem.Spec PyProof.Rows L2

section
variable {T : Tab} {W : WX} {σ : L2.St} {F H : Hp} {cs : List Addr} {S : Store} {α β : Type}
/-- the same wish, told from a later state -/
theorem After.step {x : R α} {P : α → Store → Hp → Hp → List Addr → Prop} {F' H' : Hp} {cs' : List Addr} (h : After T W σ F H cs P x) (f : Fr F H cs F' H' cs') : After T W σ F' H' cs' P x := by
  cases x with
  | ok a S => exact fun F1 H1 cs1 e1 g1 => h F1 H1 cs1 (f.trans e1) g1
  | err c S => exact fun F1 H1 cs1 e1 g1 => h F1 H1 cs1 (f.trans e1) g1
  | bad => exact h
/-- .. a thing behind another, all told from one state -/
theorem After.bindB {x : R α} {f : α → M β} {P : β → Store → Hp → Hp → List Addr → Prop} (h : After T W σ F H cs P (x.bind f)) : After T W σ F H cs (fun a S _ _ _ => After T W σ F H cs P (f a S)) x := by
  cases x with
  | ok a S => exact fun F1 H1 cs1 e1 g1 => h
  | err c S => exact h
  | bad => exact h
abbrev W0 : WX := fun _ _ _ _ => False
theorem After.w0 {x : R α} {P : α → Store → Hp → Hp → List Addr → Prop} {σ σ' : L2.St} (h : After T W0 σ F H cs P x) : After T W0 σ' F H cs P x := by
  cases x with
  | ok a S => exact h
  | err c S => exact h
  | bad => exact h
theorem noErr_after {m : M α} {P : α → Store → Hp → Hp → List Addr → Prop} {σ' : L2.St} (h : After T W σ F H cs P (noErr m S)) : After T W0 σ' F H cs P (m S) := by
  unfold noErr at h
  cases e : m S with
  | ok a S1 => rw [e] at h; exact h
  | err c S1 => rw [e] at h; exact h.elim
  | bad => rw [e] at h; exact h.elim
end

/-! ### targets -/
mutual
def G.slots : G → List Nat
  | .nm i => [i]
  | .tup gs => G.slotsL gs
def G.slotsL : List G → List Nat
  | [] => []
  | g :: gs => g.slots ++ G.slotsL gs
end
theorem set_none {α : Type} (l : List (Option α)) (i : Nat) (x y : Option α) : (l.set i x).set i y = l.set i y := List.set_set x
theorem wipe_set_none (σ : L2.St) (i : Nat) (x : Option V) : ∀ vs : List Nat, (wipe (σ.set i x) vs).set i none = (wipe σ vs).set i none
  | [] => by unfold wipe; exact List.set_set _
  | v :: vs => by
    unfold wipe
    by_cases h : v = i
    · subst h
      rw [wipe_set_none σ v x vs]
    · rw [List.set_comm _ _ h, wipe_set_none σ i x vs, List.set_comm _ _ (Ne.symm h)]
theorem wipe_set (σ : L2.St) (i : Nat) (x : Option V) : ∀ vs : List Nat, i ∈ vs → wipe (σ.set i x) vs = wipe σ vs
  | v :: vs, h => by
    unfold wipe
    by_cases hv : v = i
    · subst hv
      exact wipe_set_none σ v x vs
    · rw [wipe_set σ i x vs ((List.mem_cons.mp h).resolve_left (Ne.symm hv))]
theorem wipeD_len (ρ : Env') : ∀ vs : List Nat, (wipeD ρ vs).length = ρ.length
  | [] => rfl
  | v :: vs => by unfold wipeD; rw [List.length_set, wipeD_len ρ vs]
theorem wipeD_some {ρ : Env'} {i : Nat} {d : D} : ∀ {vs : List Nat}, (wipeD ρ vs)[i]? = some (some d) → ρ[i]? = some (some d) ∧ i ∉ vs
  | [], h => ⟨h, by simp⟩
  | v :: vs, h => by
    unfold wipeD at h
    by_cases hi : v = i
    · subst hi
      by_cases hv : v < (wipeD ρ vs).length
      · rw [List.getElem?_set_self hv] at h; cases h
      · rw [List.getElem?_eq_none (by simpa using hv)] at h; cases h
    · rw [List.getElem?_set_ne hi] at h
      obtain ⟨h1, h2⟩ := wipeD_some h
      exact ⟨h1, by simp only [List.mem_cons, not_or]; exact ⟨fun e => hi e.symm, h2⟩⟩
theorem wipe_keep {σ : L2.St} {i : Nat} : ∀ {vs : List Nat}, i ∉ vs → (wipe σ vs)[i]? = σ[i]?
  | [], _ => rfl
  | v :: vs, h => by
    unfold wipe
    simp only [List.mem_cons, not_or] at h
    rw [List.getElem?_set_ne (Ne.symm h.1)]
    exact wipe_keep h.2
theorem RepE.wipe {T : Tab} {cs : List Addr} {F : Hp} {σ : L2.St} {ρ : Env'} (r : RepE T cs F σ ρ) (vs : List Nat) : RepE T cs F (wipe σ vs) (wipeD ρ vs) := fun i d h => by
  obtain ⟨h1, h2⟩ := wipeD_some h
  obtain ⟨v, hv, rv⟩ := r i d h1
  exact ⟨v, by rw [wipe_keep h2]; exact hv, rv⟩
mutual
theorem bindG_len : ∀ {g : G} {d : D} {ρ ρ1 : Env'}, bindG g d ρ = some ρ1 → ρ1.length = ρ.length
  | .nm i, d, ρ, ρ1, h => by
    rw [bindG] at h
    cases h
    exact List.length_set
  | .tup gs, d, ρ, ρ1, h => by
    rw [bindG] at h
    cases e : tupD d with
    | none => rw [e] at h; cases h
    | some ds => rw [e] at h; exact bindGs_len h
theorem bindGs_len : ∀ {gs : List G} {ds : List D} {ρ ρ1 : Env'}, bindGs gs ds ρ = some ρ1 → ρ1.length = ρ.length
  | [], ds, ρ, ρ1, h => by
    rw [bindGs] at h
    cases e : ds.isEmpty with
    | true => rw [e] at h; cases h; rfl
    | false => rw [e] at h; cases h
  | g :: gs, ds, ρ, ρ1, h => by
    rw [bindGs] at h
    cases e : ds.head? with
    | none => rw [e] at h; cases h
    | some d =>
      rw [e] at h
      simp only at h
      cases e2 : bindG g d ρ with
      | none => rw [e2] at h; cases h
      | some ρ2 => rw [e2] at h; rw [bindGs_len h, bindG_len e2]
end
def tGr (T : Tab) (g : G) : TG := fun v σ H Q => ∃ F cs ρ S d ρ1, Good T F H cs S ∧ RepE T cs F σ ρ ∧ σ.length = ρ.length ∧ Rep T cs F v d ∧ bindG g d ρ = some ρ1 ∧
  ∀ σ', RepE T cs F σ' ρ1 → σ'.length = ρ1.length → (∀ vs, (∀ i ∈ g.slots, i ∈ vs) → wipe σ' vs = wipe σ vs) → Q σ' H
def tGrs (T : Tab) (gs : List G) : TGs := fun us σ H Q => ∃ F cs ρ S ds ρ1, Good T F H cs S ∧ RepE T cs F σ ρ ∧ σ.length = ρ.length ∧ RepL T cs F us ds ∧ bindGs gs ds ρ = some ρ1 ∧
  ∀ σ', RepE T cs F σ' ρ1 → σ'.length = ρ1.length → (∀ vs, (∀ i ∈ G.slotsL gs, i ∈ vs) → wipe σ' vs = wipe σ vs) → Q σ' H
section
variable {T : Tab} {X : Cx}
theorem PG.imp {e : Expr} {t t' : TG} (h : PG X e t) (i : ∀ v σ H Q, t' v σ H Q → t v σ H Q) : PG X e t' := ⟨fun pins s σ H v u Q I r w => h.run pins s σ H v u Q I r (i v σ H Q w)⟩
theorem PGs.imp {e : List Expr} {t t' : TGs} (h : PGs X e t) (i : ∀ v σ H Q, t' v σ H Q → t v σ H Q) : PGs X e t' := ⟨fun pins s σ H v u Q I r w => h.run pins s σ H v u Q I r (i v σ H Q w)⟩
theorem tGr_nm {i : Nat} (v : V) (σ : L2.St) (H : Hp) (Q : L2.St → Hp → Prop) (h : tGr T (.nm i) v σ H Q) : gName i v σ H Q := by
  obtain ⟨F, cs, ρ, S, d, ρ1, g, re, hl, r, e, h⟩ := h
  rw [bindG] at e
  cases e
  exact h _ (re.set i r hl) (by rw [List.length_set, List.length_set]; exact hl) fun vs hv => wipe_set σ i _ vs (hv i (by simp [G.slots]))
theorem tGrs_nil (us : List V) (σ : L2.St) (H : Hp) (Q : L2.St → Hp → Prop) (h : tGrs T [] us σ H Q) : gNil us σ H Q := by
  obtain ⟨F, cs, ρ, S, ds, ρ1, g, re, hl, r, e, h⟩ := h
  rw [bindGs] at e
  cases ds with
  | nil =>
    cases e
    cases r
    exact ⟨rfl, h σ re hl fun _ _ => rfl⟩
  | cons d ds => cases e
theorem tGrs_cons {g : G} {gs : List G} (us : List V) (σ : L2.St) (H : Hp) (Q : L2.St → Hp → Prop) (h : tGrs T (g :: gs) us σ H Q) : gCons (tGr T g) (tGrs T gs) us σ H Q := by
  obtain ⟨F, cs, ρ, S, ds, ρ1, gd, re, hl, r, e, h⟩ := h
  rw [bindGs] at e
  cases ds with
  | nil => cases e
  | cons d ds =>
    have e0 : (match bindG g d ρ with
      | some ρ1 => bindGs gs ds ρ1
      | none => none) = some ρ1 := e
    cases e1 : bindG g d ρ with
    | none => rw [e1] at e0; cases e0
    | some ρ2 =>
      rw [e1] at e0
      cases r with
      | cons r rs =>
        refine ⟨_, _, rfl, F, cs, ρ, S, d, ρ2, gd, re, hl, r, e1, fun σ' re' hl' hw => ?_⟩
        refine ⟨F, cs, ρ2, S, ds, ρ1, gd, re', hl', rs, e0, fun σ2 re2 hl2 hw2 => h σ2 re2 hl2 fun vs hv => ?_⟩
        rw [hw2 vs fun i hi => hv i (by rw [G.slotsL]; exact List.mem_append_right _ hi), hw vs fun i hi => hv i (by rw [G.slotsL]; exact List.mem_append_left _ hi)]
theorem bindGs_count : ∀ (gs : List G) (ds : List D) (ρ ρ1 : Env'), bindGs gs ds ρ = some ρ1 → ds.length = gs.length
  | [], ds, ρ, ρ1, e => by
    rw [bindGs] at e
    cases ds with
    | nil => rfl
    | cons d ds => cases e
  | g :: gs, ds, ρ, ρ1, e => by
    rw [bindGs] at e
    cases ds with
    | nil => cases e
    | cons d ds =>
      have e0 : (match bindG g d ρ with
        | some ρ1 => bindGs gs ds ρ1
        | none => none) = some ρ1 := e
      cases e1 : bindG g d ρ with
      | none => rw [e1] at e0; cases e0
      | some ρ2 =>
        rw [e1] at e0
        rw [List.length_cons, List.length_cons, bindGs_count gs ds ρ2 ρ1 e0]
theorem tGr_tup {gs : List G} {n : Nat} (hn : gs.length = n) (v : V) (σ : L2.St) (H : Hp) (Q : L2.St → Hp → Prop) (h : tGr T (.tup gs) v σ H Q) : gTup T.K n (tGrs T gs) v σ H Q := by
  obtain ⟨F, cs, ρ, S, d, ρ1, g, re, hl, r, e, h⟩ := h
  rw [bindG] at e
  cases d with
  | tup ds =>
    obtain ⟨a, vs, rfl, hp, rp⟩ := tup_rep g r
    have e0 : bindGs gs ds ρ = some ρ1 := e
    exact ⟨a, vs, rfl, hp, by rw [rp.length, bindGs_count _ _ _ _ e0]; exact hn, F, cs, ρ, S, ds, ρ1, g, re, hl, rp, e0, fun σ' r' l' w' => h σ' r' l' fun vs hv => w' vs fun i hi => hv i (by rw [G.slots]; exact hi)⟩
  | _ => cases e
end

/-! ### walks -/
structure Walk (T : Tab) (J : L2.It) (items : List D) (F : Hp) (cs : List Addr) : Prop where
  go : ∀ (i : Nat) (d : D) (F1 H1 : Hp) (cs1 : List Addr) (S1 : Store), Ext F F1 → Pre cs cs1 → Good T F1 H1 cs1 S1 → items[i]? = some d →
    J.go i H1 ∧ ∀ x H2, J.yld i H1 x H2 → ∃ F2, Fr F1 H1 cs1 F2 H2 cs1 ∧ Good T F2 H2 cs1 S1 ∧ Rep T cs1 F2 x d
  stop : ∀ (F1 H1 : Hp) (cs1 : List Addr) (S1 : Store), Ext F F1 → Pre cs cs1 → Good T F1 H1 cs1 S1 → J.stop items.length H1
section
variable {T : Tab} {F H : Hp} {cs : List Addr} {S : Store}
theorem walk_list {a : Addr} {vs : List V} {ds : List D} (h : F a = some (.lst vs)) (r : RepL T cs F vs ds) : Walk T (Itl T.K a) ds F cs where
  go := fun i d F1 H1 cs1 S1 e p g hd => by
    obtain ⟨v, hv, rv⟩ := r.get hd
    have hs : SqL T.K H1 a vs := .of (g.sub _ _ (e _ _ h))
    refine ⟨⟨vs, v, hs, hv⟩, fun x H2 hy => ?_⟩
    obtain ⟨rfl, hx⟩ := hy
    have e2 : v = x := Option.some.inj (hv.symm.trans (hx vs hs))
    subst e2
    exact ⟨F1, Fr.refl, g, rv.mono e p⟩
  stop := fun F1 H1 cs1 S1 e p g => ⟨vs, .of (g.sub _ _ (e _ _ h)), by rw [r.length]; exact Nat.le_refl _⟩
theorem walk_tup {a : Addr} {vs : List V} {ds : List D} (h : SqT T.K F a vs) (r : RepL T cs F vs ds) : Walk T (Itt T.K a) ds F cs where
  go := fun i d F1 H1 cs1 S1 e p g hd => by
    obtain ⟨v, hv, rv⟩ := r.get hd
    have hs : SqT T.K H1 a vs := ext_t g.sub (ext_t e h)
    refine ⟨⟨vs, v, hs, hv⟩, fun x H2 hy => ?_⟩
    obtain ⟨rfl, hx⟩ := hy
    have e2 : v = x := Option.some.inj (hv.symm.trans (hx vs hs))
    subst e2
    exact ⟨F1, Fr.refl, g, rv.mono e p⟩
  stop := fun F1 H1 cs1 S1 e p g => ⟨vs, ext_t g.sub (ext_t e h), by rw [r.length]; exact Nat.le_refl _⟩
theorem walk_str {z : Str} : Walk T (Its z) (z.cps.toList.map fun c => D.str ⟨#[c]⟩) F cs where
  go := fun i d F1 H1 cs1 S1 e p g hd => by
    rw [List.getElem?_map] at hd
    cases e1 : z.cps.toList[i]? with
    | none => rw [e1] at hd; cases hd
    | some c =>
      rw [e1] at hd
      cases hd
      have e2 : z.cps[i]? = some c := by rw [← Array.getElem?_toList]; exact e1
      have hlt : i < z.cps.size := (Array.getElem?_eq_some_iff.mp e2).1
      refine ⟨hlt, fun x H2 hy => ?_⟩
      obtain ⟨rfl, c', hc, rfl⟩ := hy
      have e3 : c = c' := Option.some.inj (e2.symm.trans hc)
      subst e3
      exact ⟨F1, Fr.refl, g, .str _⟩
  stop := fun F1 H1 cs1 S1 e p g => by
    show z.cps.size ≤ _
    rw [List.length_map, Array.length_toList]
    exact Nat.le_refl _
theorem walk_rng {lo j : Int} : Walk T (Itr lo (j - lo).toNat) (rngOf lo j) F cs where
  go := fun i d F1 H1 cs1 S1 e p g hd => by
    unfold rngOf at hd
    rw [List.getElem?_map] at hd
    by_cases hi : i < (j - lo).toNat
    · rw [List.getElem?_range hi] at hd
      cases hd
      refine ⟨hi, fun x H2 hy => ?_⟩
      obtain ⟨rfl, rfl⟩ := hy
      exact ⟨F1, Fr.refl, g, .int _⟩
    · rw [List.getElem?_eq_none (by rw [List.length_range]; omega)] at hd
      cases hd
  stop := fun F1 H1 cs1 S1 e p g => by
    show (j - lo).toNat ≤ _
    unfold rngOf
    rw [List.length_map, List.length_range]
    exact Nat.le_refl _
theorem zipOf_get : ∀ {xs ys : List D} {i : Nat} {d : D}, (zipOf xs ys)[i]? = some d → ∃ x y, xs[i]? = some x ∧ ys[i]? = some y ∧ d = .tup [x, y]
  | [], _, _, _, h => by simp [zipOf] at h
  | _ :: _, [], _, _, h => by simp [zipOf] at h
  | x :: xs, y :: ys, 0, d, h => by
    have h' : some (D.tup [x, y]) = some d := h
    cases h'
    exact ⟨x, y, rfl, rfl, rfl⟩
  | x :: xs, y :: ys, i + 1, d, h => zipOf_get (xs := xs) (ys := ys) (i := i) (show (zipOf xs ys)[i]? = some d from h)
theorem zipOf_len : ∀ xs ys : List D, (zipOf xs ys).length = min xs.length ys.length
  | [], _ => by simp [zipOf]
  | _ :: _, [] => by simp [zipOf]
  | x :: xs, y :: ys => by
    rw [zipOf, List.length_cons, List.length_cons, List.length_cons, zipOf_len xs ys]
    omega
theorem walk_zip {a b : Addr} {vs us : List V} {ds es : List D} (h : F a = some (.lst vs)) (r : RepL T cs F vs ds) (h2 : F b = some (.lst us)) (r2 : RepL T cs F us es) : Walk T (Itz T.K a b) (zipOf ds es) F cs where
  go := fun i d F1 H1 cs1 S1 e p g hd => by
    obtain ⟨dx, dy, h3, h4, rfl⟩ := zipOf_get hd
    obtain ⟨v, hv, rv⟩ := r.get h3
    obtain ⟨u, hu, ru⟩ := r2.get h4
    have hs : SqL T.K H1 a vs := .of (g.sub _ _ (e _ _ h))
    have hs2 : SqL T.K H1 b us := .of (g.sub _ _ (e _ _ h2))
    refine ⟨⟨vs, us, v, u, hs, hs2, hv, hu⟩, fun x H2 hy => ?_⟩
    obtain ⟨t, x1, y1, rfl, nt, rfl, hx, hy⟩ := hy
    have e2 : v = x1 := Option.some.inj (hv.symm.trans (hx vs hs))
    have e3 : u = y1 := Option.some.inj (hu.symm.trans (hy us hs2))
    subst e2 e3
    exact ⟨_, g.frNew nt, g.new _ nt, .tup (.of upd_same) (.cons ((rv.mono e p).mono (Ext.new (g.free nt)) (Pre.refl _)) (.cons ((ru.mono e p).mono (Ext.new (g.free nt)) (Pre.refl _)) .nil))⟩
  stop := fun F1 H1 cs1 S1 e p g => by
    refine ⟨vs, us, .of (g.sub _ _ (e _ _ h)), .of (g.sub _ _ (e _ _ h2)), ?_⟩
    rw [zipOf_len, r.length, r2.length]
    omega
theorem walk_zipT {a b : Addr} {vs us : List V} {ds es : List D} (h : SqT T.K F a vs) (r : RepL T cs F vs ds) (h2 : SqT T.K F b us) (r2 : RepL T cs F us es) : Walk T (RZ.ItzT T.K a b) (zipOf ds es) F cs where
  go := fun i d F1 H1 cs1 S1 e p g hd => by
    obtain ⟨dx, dy, h3, h4, rfl⟩ := zipOf_get hd
    obtain ⟨v, hv, rv⟩ := r.get h3
    obtain ⟨u, hu, ru⟩ := r2.get h4
    have hs : SqT T.K H1 a vs := ext_t g.sub (ext_t e h)
    have hs2 : SqT T.K H1 b us := ext_t g.sub (ext_t e h2)
    refine ⟨⟨vs, us, v, u, hs, hs2, hv, hu⟩, fun x H2 hy => ?_⟩
    obtain ⟨t, x1, y1, rfl, nt, rfl, hx, hy⟩ := hy
    have e2 : v = x1 := Option.some.inj (hv.symm.trans (hx vs hs))
    have e3 : u = y1 := Option.some.inj (hu.symm.trans (hy us hs2))
    subst e2 e3
    exact ⟨_, g.frNew nt, g.new _ nt, .tup (.of upd_same) (.cons ((rv.mono e p).mono (Ext.new (g.free nt)) (Pre.refl _)) (.cons ((ru.mono e p).mono (Ext.new (g.free nt)) (Pre.refl _)) .nil))⟩
  stop := fun F1 H1 cs1 S1 e p g => by
    refine ⟨vs, us, ext_t g.sub (ext_t e h), ext_t g.sub (ext_t e h2), ?_⟩
    rw [zipOf_len, r.length, r2.length]
    omega
theorem enumOf_get : ∀ {xs : List D} {n i : Nat} {d : D}, (enumOf n xs)[i]? = some d → ∃ x, xs[i]? = some x ∧ d = .tup [.int ((n + i : Nat) : Int), x]
  | [], _, _, _, h => by simp [enumOf] at h
  | x :: xs, n, 0, d, h => by
    have h' : some (D.tup [.int n, x]) = some d := h
    cases h'
    exact ⟨x, rfl, rfl⟩
  | x :: xs, n, i + 1, d, h => by
    obtain ⟨y, h1, h2⟩ := enumOf_get (xs := xs) (n := n + 1) (i := i) (show (enumOf (n + 1) xs)[i]? = some d from h)
    exact ⟨y, h1, by rw [h2, show n + 1 + i = n + (i + 1) by omega]⟩
theorem enumOf_len : ∀ (xs : List D) (n : Nat), (enumOf n xs).length = xs.length
  | [], _ => rfl
  | x :: xs, n => by rw [enumOf, List.length_cons, List.length_cons, enumOf_len xs (n + 1)]
theorem walk_enum {a : Addr} {vs : List V} {ds : List D} (h : F a = some (.lst vs)) (r : RepL T cs F vs ds) : Walk T (Ite T.K a) (enumOf 0 ds) F cs where
  go := fun i d F1 H1 cs1 S1 e p g hd => by
    obtain ⟨dx, h3, rfl⟩ := enumOf_get hd
    obtain ⟨v, hv, rv⟩ := r.get h3
    have hs : SqL T.K H1 a vs := .of (g.sub _ _ (e _ _ h))
    refine ⟨⟨vs, v, hs, hv⟩, fun x H2 hy => ?_⟩
    obtain ⟨t, x1, rfl, nt, rfl, hx⟩ := hy
    have e2 : v = x1 := Option.some.inj (hv.symm.trans (hx vs hs))
    subst e2
    rw [Nat.zero_add]
    exact ⟨_, g.frNew nt, g.new _ nt, .tup (.of upd_same) (.cons (.int _) (.cons ((rv.mono e p).mono (Ext.new (g.free nt)) (Pre.refl _)) .nil))⟩
  stop := fun F1 H1 cs1 S1 e p g => ⟨vs, .of (g.sub _ _ (e _ _ h)), by rw [enumOf_len, r.length]; exact Nat.le_refl _⟩
end
/-- what is wanted of a walk's start -/
def tI (T : Tab) (W : WX) (f : Env' → M (List D)) : TI := fun σ H R' => ∃ F cs ρ S, Good T F H cs S ∧ RepE T cs F σ ρ ∧ σ.length = ρ.length ∧ After T W σ F H cs (fun items _ F1 H1 cs1 => ∀ J, Walk T J items F1 cs1 → R' J H1) (f ρ S)
section
variable {T : Tab} {W : WX} {C : Nat → List D → M D} {σ : L2.St} {H : Hp} {R' : L2.It → Hp → Prop}
theorem tI_seq {e : E} (h : tI T W (denI C (.seq e)) σ H R') : tF T W (den C e) σ H fun x H1 =>
    (∃ a, x = .ref a ∧ (∃ xs, SqL T.K H1 a xs) ∧ R' (Itl T.K a) H1) ∨ (∃ a, x = .ref a ∧ (∃ xs, SqT T.K H1 a xs) ∧ R' (Itt T.K a) H1) ∨ ∃ z, x = .str z ∧ R' (Its z) H1 := by
  obtain ⟨F, cs, ρ, S, g, re, hl, h⟩ := h
  rw [denI] at h
  refine ⟨F, cs, ρ, S, g, re, hl, (After.bind h).mono fun d S1 F1 H1 cs1 e1 g1 h1 => ?_⟩
  intro v r
  have h2 : After T W σ F1 H1 cs1 (fun items _ F1 H1 cs1 => ∀ J, Walk T J items F1 cs1 → R' J H1) (lift (fun S => itemsOf S d) S1) := h1
  unfold lift at h2
  cases r with
  | lst h3 h4 => exact .inl ⟨_, rfl, ⟨_, .of (g1.sub _ _ h3)⟩, h2 F1 H1 cs1 Fr.refl g1 _ (walk_list h3 h4)⟩
  | tup h3 h4 => exact .inr (.inl ⟨_, rfl, ⟨_, ext_t g1.sub h3⟩, h2 F1 H1 cs1 Fr.refl g1 _ (walk_tup h3 h4)⟩)
  | str z => exact .inr (.inr ⟨z, rfl, h2 F1 H1 cs1 Fr.refl g1 _ walk_str⟩)
  | _ => exact h2.elim
theorem tI_rng {a : E} (h : tI T W (denI C (.rng a)) σ H R') : iRng1 (tCons (tF T W (den C a)) tNil) σ H R' := by
  obtain ⟨F, cs, ρ, S, g, re, hl, h⟩ := h
  rw [denI] at h
  refine ⟨F, cs, ρ, S, g, re, hl, (After.bind h).mono fun d S1 F1 H1 cs1 e1 g1 h1 => ?_⟩
  intro v r
  cases r with
  | int j =>
    have h2 : After T W σ F1 H1 cs1 (fun items _ F1 H1 cs1 => ∀ J, Walk T J items F1 cs1 → R' J H1) ((if j ≤ 16777216 ∧ -16777216 ≤ j then Pure.pure (rngOf 0 j) else M.bad : M (List D)) S1) := h1
    split at h2
    · rename_i hj
      refine ⟨j, rfl, by omega, by omega, ?_⟩
      have w := walk_rng (T := T) (F := F1) (cs := cs1) (lo := 0) (j := j)
      rw [Int.sub_zero] at w
      exact h2 F1 H1 cs1 Fr.refl g1 _ w
    · exact h2.elim
  | _ => exact h1.elim
theorem tI_rng2 {a b : E} (h : tI T W (denI C (.rng2 a b)) σ H R') : iRng2 (tCons (tF T W (den C a)) (tCons (tF T W (den C b)) tNil)) σ H R' := by
  obtain ⟨F, cs, ρ, S, g, re, hl, h⟩ := h
  rw [denI] at h
  refine ⟨F, cs, ρ, S, g, re, hl, (After.bind h).mono fun d S1 F1 H1 cs1 e1 g1 h1 => ?_⟩
  intro v r
  refine ⟨F1, cs1, ρ, S1, g1, re.mono e1.ext e1.pre, hl, (After.bind h1).mono fun d2 S2 F2 H2 cs2 e2 g2 h2 => ?_⟩
  intro v2 r2
  cases r with
  | int i =>
    cases r2 with
    | int j =>
      have h3 : After T W σ F2 H2 cs2 (fun items _ F1 H1 cs1 => ∀ J, Walk T J items F1 cs1 → R' J H1) ((if j ≤ 16777216 ∧ -16777216 ≤ j ∧ i ≤ 16777216 ∧ -16777216 ≤ i then Pure.pure (rngOf i j) else M.bad : M (List D)) S2) := h2
      split at h3
      · rename_i hj
        exact ⟨i, j, rfl, ⟨by omega, by omega, by omega, by omega⟩, h3 F2 H2 cs2 Fr.refl g2 _ walk_rng⟩
      · exact h3.elim
    | _ => exact h2.elim
  | _ => cases r2 <;> exact h2.elim
theorem tI_zip {a b : E} (h : tI T W (denI C (.zip a b)) σ H R') : RZ.iZipA T.K (tCons (tF T W (den C a)) (tCons (tF T W (den C b)) tNil)) σ H R' := by
  obtain ⟨F, cs, ρ, S, g, re, hl, h⟩ := h
  rw [denI] at h
  refine ⟨F, cs, ρ, S, g, re, hl, (After.bind h).mono fun d S1 F1 H1 cs1 e1 g1 h1 => ?_⟩
  intro v r
  refine ⟨F1, cs1, ρ, S1, g1, re.mono e1.ext e1.pre, hl, (After.bind h1).mono fun d2 S2 F2 H2 cs2 e2 g2 h2 => ?_⟩
  intro v2 r2
  cases r with
  | lst h3 h4 =>
    cases r2 with
    | lst h5 h6 => exact ⟨_, _, _, _, rfl, .inl ⟨.of (g2.sub _ _ (e2.ext _ _ h3)), .of (g2.sub _ _ h5), h2 F2 H2 cs2 Fr.refl g2 _ (walk_zip (e2.ext _ _ h3) (h4.mono e2.ext e2.pre) h5 h6)⟩⟩
    | _ => exact h2.elim
  | tup h3 h4 =>
    cases r2 with
    | tup h5 h6 => exact ⟨_, _, _, _, rfl, .inr ⟨ext_t g2.sub (ext_t e2.ext h3), ext_t g2.sub h5, h2 F2 H2 cs2 Fr.refl g2 _ (walk_zipT (ext_t e2.ext h3) (h4.mono e2.ext e2.pre) h5 h6)⟩⟩
    | _ => exact h2.elim
  | _ => cases r2 <;> exact h2.elim
theorem tI_enum {a : E} (h : tI T W (denI C (.enum a)) σ H R') : iEnum T.K (tCons (tF T W (den C a)) tNil) σ H R' := by
  obtain ⟨F, cs, ρ, S, g, re, hl, h⟩ := h
  rw [denI] at h
  refine ⟨F, cs, ρ, S, g, re, hl, (After.bind h).mono fun d S1 F1 H1 cs1 e1 g1 h1 => ?_⟩
  intro v r
  cases r with
  | lst h3 h4 => exact ⟨_, _, rfl, .of (g1.sub _ _ h3), h1 F1 H1 cs1 Fr.refl g1 _ (walk_enum h3 h4)⟩
  | _ => exact h1.elim
end

/-! ### comprehensions -/
section
variable {T : Tab} {W : WX} {C : Nat → List D → M D} {σ : L2.St} {H : Hp} {Q : VK}
theorem tF_comp {elt : E} {g : G} {it : It} {ifs : Option E} {own : List Nat} (hg : ∀ i ∈ g.slots, i ∈ own) (h : tF T W (den C (.comp elt g it ifs own)) σ H Q) :
    tLc (tI T W (denI C it)) (tGr T g) (tFT T W0 (denC C ifs)) (tF T W0 (den C elt)) own σ H Q := by
  obtain ⟨F, cs, ρ, S, gd, re, hl, h⟩ := h
  rw [den] at h
  refine ⟨F, cs, ρ, S, gd, re, hl, (After.bind h).mono fun items S1 F1 H1 cs1 e1 g1 h1 => ?_⟩
  intro J hJ D0 hD
  have re1 := re.mono e1.ext e1.pre
  have h2 := noErr_after (σ' := []) (After.bindB h1)
  clear h h1
  generalize hf : (fun d => (match bindG g d (wipeD ρ own) with
      | some ρ1 => do
        match ← denC C ifs ρ1 with
        | true => do let x ← den C elt ρ1; Pure.pure (some x)
        | false => Pure.pure none
      | none => M.bad : M (Option D))) = f at h2
  -- P: what is wanted of the list at the end
  generalize hP : (fun (a : List D) (S : Store) (_ _ : Hp) (_ : List Addr) => After T W σ F1 H1 cs1 (PV T Q) ((fun ds => (Pure.pure (D.lst ds) : M D)) a S)) = P at h2
  refine ⟨fun i m H2 => ∃ F2 cs2 S2 vs acc rest, m = rest.length ∧ items.drop i = rest ∧ i + rest.length = items.length ∧ Good T F2 H2 cs2 S2 ∧ Fr F1 H1 cs1 F2 H2 cs2 ∧ H2 D0 = some (.lst vs) ∧ F2 D0 = none ∧ D0 ∉ cs2 ∧ RepL T cs2 F2 vs acc ∧ After T W0 [] F1 H1 cs1 P (lcLoop f rest acc S2),
    ⟨items.length, F1, cs1, S1, [], [], items, rfl, rfl, by omega, g1.dust _ hD, g1.frDust hD, upd_same, g1.free hD, ?_, .nil, h2⟩, ?_⟩
  · intro hm
    obtain ⟨k, hk, e⟩ := List.getElem_of_mem hm
    have hk' : cs1[k]? = some D0 := by rw [List.getElem?_eq_getElem hk, e]
    obtain ⟨ds', hds⟩ := g1.has hk'
    obtain ⟨_, vs', hv, _⟩ := g1.cell k D0 ds' hk' hds
    rw [hD] at hv
    cases hv
  rintro i m H2 ⟨F2, cs2, S2, vs, acc, rest, rfl, hdr, hlen, g2, f2, hD2, fD2, cD2, ra, h3⟩
  cases rest with
  | nil =>
    have hi : items.length = i := by simpa using hlen.symm
    refine .inl ⟨by rw [← hi]; exact hJ.stop F2 H2 cs2 S2 f2.ext f2.pre g2, ?_⟩
    rw [lcLoop] at h3
    subst hP
    have h4 : After T W σ F1 H1 cs1 (PV T Q) ((Pure.pure (D.lst acc) : M D) S2) := h3 F2 H2 cs2 f2 g2
    refine h4 (upd F2 D0 (.lst vs)) H2 cs2 ⟨f2.ext.trans (Ext.new fD2), f2.pre, fun a o ha hF hc hn => ?_⟩ (g2.adopt hD2 fD2 cD2) _ (.lst upd_same (ra.mono (Ext.new fD2) (Pre.refl _)))
    obtain ⟨q1, q2, q3⟩ := f2.old a o ha hF hc hn
    have ne : a ≠ D0 := ne_of_none ha hD
    exact ⟨q1, by rw [upd_ne ne]; exact q2, q3⟩
  | cons d rest =>
    have hget : items[i]? = some d := by
      have := congrArg (fun l => l[0]?) hdr
      simpa [List.getElem?_drop] using this
    obtain ⟨go, yl⟩ := hJ.go i d F2 H2 cs2 S2 f2.ext f2.pre g2 hget
    refine .inr ⟨go, fun H' => ∃ F2 cs2 S2 vs acc, Good T F2 H' cs2 S2 ∧ Fr F1 H1 cs1 F2 H' cs2 ∧ H' D0 = some (.lst vs) ∧ F2 D0 = none ∧ D0 ∉ cs2 ∧ RepL T cs2 F2 vs acc ∧ After T W0 [] F1 H1 cs1 P (lcLoop f rest acc S2), fun H' hN => ?_, fun x H3 hy => ?_⟩
    · obtain ⟨F3, cs3, S3, vs3, acc3, q1, q2, q3, q4, q5, q6, q7⟩ := hN
      refine ⟨rest.length, by rw [List.length_cons]; omega, F3, cs3, S3, vs3, acc3, rest, rfl, ?_, by rw [List.length_cons] at hlen; omega, q1, q2, q3, q4, q5, q6, q7⟩
      rw [← List.drop_drop, hdr]
      rfl
    · obtain ⟨F3, f3, g3, rx⟩ := yl x H3 hy
      have f13 := f2.trans f3
      obtain ⟨hD3, fD3, cD3⟩ := f3.old D0 _ hD2 fD2 cD2 (fun _ z => by cases z)
      have ra3 := ra.mono f3.ext f3.pre
      rw [lcLoop] at h3
      have h4 := After.bindB h3
      have h5 : After T W0 [] F1 H1 cs1 _ (f d S2) := h4
      have fd : f d = (match bindG g d (wipeD ρ own) with
      | some ρ1 => do
        match ← denC C ifs ρ1 with
        | true => do let x ← den C elt ρ1; Pure.pure (some x)
        | false => Pure.pure none
      | none => M.bad : M (Option D)) := by rw [← hf]
      rw [fd] at h5
      cases eb : bindG g d (wipeD ρ own) with
      | none => simp only [eb] at h5; exact h5.elim
      | some ρ1 =>
        simp only [eb] at h5
        have re3 := ((re1.mono f2.ext f2.pre).mono f3.ext f3.pre).wipe own
        refine ⟨F3, cs2, wipeD ρ own, S2, d, ρ1, g3, re3, by rw [wipe_length, wipeD_len]; exact hl, rx, eb, fun σ4 re4 hl4 hw4 => ⟨?_, ?_⟩⟩
        · rw [hw4 own hg]
          have ww : ∀ vs : List Nat, wipe (wipe σ vs) vs = wipe σ vs := by
            intro vs
            have : ∀ (us vs : List Nat), (∀ i ∈ vs, i ∈ us) → wipe (wipe σ vs) us = wipe σ us := by
              intro us vs
              induction vs with
              | nil => intro _; rfl
              | cons v vs ih =>
                intro hm
                show wipe ((wipe σ vs).set v none) us = _
                rw [wipe_set _ v none us (hm v List.mem_cons_self)]
                exact ih fun i hi => hm i (List.mem_cons_of_mem _ hi)
            exact this vs vs fun _ h => h
          exact ww own
        · have h6 := (After.bindB h5).step f13
          refine ⟨F3, cs2, ρ1, S2, g3, re4, hl4, ?_⟩
          refine (After.w0 (σ' := σ4) h6).mono fun b S4 F4 H4 cs4 f4 g4 h7 => ?_
          obtain ⟨hD4, fD4, cD4⟩ := f4.old D0 _ hD3 fD3 cD3 (fun _ z => by cases z)
          have ra4 := ra3.mono f4.ext f4.pre
          have f14 := f13.trans f4
          cases b with
          | false =>
            simp only [Bool.false_eq_true, if_false]
            exact ⟨F4, cs4, S4, vs, acc, g4, f14, hD4, fD4, cD4, ra4, h7 F4 H4 cs4 f14 g4⟩
          | true =>
            simp only [if_true]
            refine ⟨F4, cs4, ρ1, S4, g4, re4.mono f4.ext f4.pre, hl4, ?_⟩
            have h8 := (After.bindB (x := den C elt ρ1 S4) h7).step f14
            refine (After.w0 (σ' := σ4) h8).mono fun y S5 F5 H5 cs5 f5 g5 h9 => ?_
            intro yv ry
            obtain ⟨hD5, fD5, cD5⟩ := f5.old D0 _ hD4 fD4 cD4 (fun _ z => by cases z)
            have ra5 := ra4.mono f5.ext f5.pre
            have f15 := f14.trans f5
            have h10 := h9 F5 H5 cs5 f15 g5
            have h11 : After T W0 [] F1 H1 cs1 P ((if acc.length < 16777216 then lcLoop f rest (acc ++ [y]) else M.bad : M (List D)) S5) := h10
            split at h11
            · rename_i hz
              refine ⟨vs, hD5, szLt (by rw [ra5.length]; exact hz), F5, cs5, S5, vs ++ [yv], acc ++ [y], ?_, ?_, upd_same, fD5, cD5, ra5.append (.cons ry .nil), h11⟩
              · refine ⟨fun a o e => ?_, g5.nd, g5.len, fun k a ds' q1 q2 => ?_, tabs_upd g5.tabs hD5, g5.noT⟩
                · have ne : a ≠ D0 := fun z => by rw [z, fD5] at e; cases e
                  rw [upd_ne ne]
                  exact g5.sub a o e
                · obtain ⟨f0, vs', hv', r'⟩ := g5.cell k a ds' q1 q2
                  have ne : a ≠ D0 := fun z => cD5 (by rw [← z]; exact List.mem_of_getElem? q1)
                  exact ⟨f0, vs', by rw [upd_ne ne]; exact hv', r'⟩
              · refine ⟨f15.ext, f15.pre, fun a o ha hF hc hn => ?_⟩
                obtain ⟨q1, q2, q3⟩ := f15.old a o ha hF hc hn
                have ne : a ≠ D0 := ne_of_none ha hD
                exact ⟨by rw [upd_ne ne]; exact q1, q2, q3⟩
            · exact h11.elim
end
end Pd

end
section
set_option Elab.async false
set_option linter.all false
set_option maxRecDepth 100000
set_option maxHeartbeats 4000000
/-! Calls, lists that change, statements. -/
namespace Pd
open PySem PySem.Spec PyProof.Rows L2

/-! ### calls -/
/-- a def's promise: what its reading is worth -/
def spD (T : Tab) (n : Nat) (C : List D → M D) : Sp := fun vs H Q Ex => vs.length = n ∧ ∃ F cs ds S, Good T F H cs S ∧ RepL T cs F vs ds ∧ After T (fun c d _ H => Ex c d H) [] F H cs (PV T Q) (C ds S)
section
variable {T : Tab} {W : WX} {C : Nat → List D → M D} {σ : L2.St} {F H : Hp} {cs : List Addr} {S : Store} {Q : VK}
theorem After.wish {α : Type} {W' : WX} {σ' : L2.St} {x : R α} {P : α → Store → Hp → Hp → List Addr → Prop} (h : After T W σ F H cs P x) (i : ∀ c H', W (.ref (T.ca c)) none σ H' → W' (.ref (T.ca c)) none σ' H') : After T W' σ' F H cs P x := by
  cases x with
  | ok a S => exact h
  | err c S => exact fun F' H' cs' f g => i c H' (h F' H' cs' f g)
  | bad => exact h
/-- a list made within, given out as a value -/
theorem thaw_after {keep : Bool} {m : M D} (g : Good T F H cs S) (h : After T W σ F H cs (PV T Q) (thaw keep m S)) : After T W σ F H cs (PV T Q) (m S) := by
  unfold thaw at h
  cases e : m S with
  | err c S1 => simp only [e] at h; exact h
  | bad => simp only [e] at h; exact h
  | ok d S1 =>
    cases d with
    | cell k =>
      simp only [e] at h
      cases keep with
      | true => exact h
      | false =>
        simp only [Bool.false_eq_true, if_false] at h
        by_cases h1 : k < S.length
        · rw [if_pos h1] at h
          exact h
        · rw [if_neg h1] at h
          by_cases h2 : k = S.length
          · rw [if_pos h2] at h
            cases e3 : S1[k]? with
            | none => rw [e3] at h; exact h.elim
            | some ds =>
              rw [e3] at h
              intro F1 H1 cs1 f1 g1 v rv
              cases rv with
              | @cell a _ hk =>
                obtain ⟨vs, hv, fa, g2, r2⟩ := g1.freeze hk e3
                have hlen : cs.length = k := by rw [h2]; exact g.len
                refine h (upd F1 a (.lst vs)) H1 (cs1.take k) ⟨f1.ext.trans (Ext.new fa), ?_, fun b o hb hF hc hn => ?_⟩ g2 _ r2
                · rw [← hlen]
                  exact Pre.take f1.pre
                · obtain ⟨q1, q2, q3⟩ := f1.old b o hb hF hc hn
                  have ne : b ≠ a := fun z => q3 (by rw [z]; exact List.mem_of_getElem? hk)
                  exact ⟨q1, by rw [upd_ne ne]; exact q2, fun hm => q3 (List.mem_of_mem_take hm)⟩
          · rw [if_neg h2] at h
            exact h.elim
    | _ => simp only [e] at h; exact h
theorem tF_call {keep : Bool} {f n : Nat} {es : List E} (hn : es.length = n) (h0 : es ≠ []) (h : tF T W (den C (.call keep f es)) σ H Q) : tCallS (spD T n (C f)) (WE W) (tFA T W (denL C es)) σ H Q := by
  obtain ⟨F, cs, ρ, S, g, re, hl, h⟩ := h
  rw [den] at h
  have len : ∀ (es : List E) (ρ : Env') (S : Store) (ds : List D) (S' : Store), denL C es ρ S = .ok ds S' → ds.length = es.length := by
    intro es
    induction es with
    | nil => intro ρ S ds S' e; rw [denL] at e; cases e; rfl
    | cons x es ih =>
      intro ρ S ds S' e
      rw [denL] at e
      obtain ⟨d, S1, _, e⟩ := bind_ok e
      obtain ⟨ds', S2, e2, e⟩ := bind_ok e
      cases e
      rw [List.length_cons, List.length_cons, ih _ _ _ _ e2]
  refine ⟨F, cs, ρ, S, g, re, hl, ?_⟩
  have h1 := After.bind h
  cases ev : denL C es ρ S with
  | err c S1 => rw [ev] at h1; exact h1
  | bad => rw [ev] at h1; exact h1
  | ok ds S1 =>
    rw [ev] at h1
    intro F1 H1 cs1 f1 g1 vs rs
    have hds := len es ρ S ds S1 ev
    have h2 : After T W σ F1 H1 cs1 (PV T Q) (thaw keep (callM C f ds) S1) := h1 F1 H1 cs1 f1 g1
    have hc : callM C f ds = C f ds := by
      cases ds with
      | nil =>
        cases es with
        | nil => exact absurd rfl h0
        | cons e es => simp at hds
      | cons d ds => rfl
    rw [hc] at h2
    exact ⟨by rw [rs.length, hds]; exact hn, F1, cs1, ds, S1, g1, rs, (thaw_after g1 h2).wish fun c H' w => w⟩
theorem tF_call0 {keep : Bool} {f : Nat} (h : tF T W (den C (.call keep f [])) σ H Q) : tCall (spD T 0 (C f)) [] E0 tNil σ H Q := by
  obtain ⟨F, cs, ρ, S, g, re, hl, h⟩ := h
  rw [den, denL] at h
  have h2 : After T W σ F H cs (PV T Q) (thaw keep (callM C f []) S) := h
  have h3 := thaw_after g h2
  have h4 : After T W0 [] F H cs (PV T Q) (C f [] S) := noErr_after h3
  exact ⟨rfl, F, cs, [], S, g, .nil, h4⟩

/-! ### lists that change -/
theorem tF_push {a e : E} (h : tF T W (den C (.push a e)) σ H Q) : tBM T.K "list" rAppend (tF T W (den C a)) (tCons (tF T W (den C e)) tNil) σ H Q := by
  obtain ⟨F, cs, ρ, S, g, re, hl, h⟩ := h
  rw [den] at h
  refine ⟨F, cs, ρ, S, g, re, hl, (After.bind h).mono fun dx S1 F1 H1 cs1 f1 g1 h1 => ?_⟩
  intro x rx
  have re1 := re.mono f1.ext f1.pre
  cases rx with
  | @cell b k hk =>
    have h2 : After T W σ F1 H1 cs1 (PV T Q) ((do let y ← den C e ρ; pushM k y : M D) S1) := h1
    obtain ⟨ds0, hds0⟩ := g1.has hk
    obtain ⟨_, vs0, hv0, _⟩ := g1.cell k b ds0 hk hds0
    refine ⟨.inl ⟨rfl, vs0, .of hv0⟩, F1, cs1, ρ, S1, g1, re1, hl, (After.bind h2).mono fun dy S2 F2 H2 cs2 f2 g2 h3 => ?_⟩
    intro y ry
    have h4 : After T W σ F2 H2 cs2 (PV T Q) (pushM k dy S2) := h3
    unfold pushM at h4
    cases e2 : S2[k]? with
    | none => rw [e2] at h4; exact h4.elim
    | some ds =>
      rw [e2] at h4
      simp only at h4
      split at h4
      · rename_i hz
        obtain ⟨z1, z2⟩ := Bool.and_eq_true_iff.mp hz
        have hk2 := f2.pre k b hk
        obtain ⟨_, vs, hv, rv⟩ := g2.cell k b ds hk2 e2
        have ry' := shp_rep 40 z2 ry
        refine ⟨b, vs, y, rfl, rfl, hv, szLt (by rw [rv.length]; exact of_decide_eq_true z1), ?_⟩
        exact h4 _ _ _ (g2.frSet hk2) (g2.setCell hk2 (rv.append (.cons ry' .nil))) _ .non
      · exact h4.elim
  | _ => exact h1.elim
theorem tF_pop0 {a : E} (h : tF T W (den C (.pop0 a)) σ H Q) : tBM T.K "list" rPopAt (tF T W (den C a)) (tCons (tC (.int 0)) tNil) σ H Q := by
  obtain ⟨F, cs, ρ, S, g, re, hl, h⟩ := h
  rw [den] at h
  refine ⟨F, cs, ρ, S, g, re, hl, (After.bind h).mono fun dx S1 F1 H1 cs1 f1 g1 h1 => ?_⟩
  intro x rx
  cases rx with
  | @cell b k hk =>
    have h4 : After T W σ F1 H1 cs1 (PV T Q) (pop0M k S1) := h1
    unfold pop0M at h4
    cases e2 : S1[k]? with
    | none => rw [e2] at h4; exact h4.elim
    | some ds =>
      rw [e2] at h4
      obtain ⟨_, vs, hv, rv⟩ := g1.cell k b ds hk e2
      cases ds with
      | nil => exact h4.elim
      | cons d ds =>
        cases rv with
        | cons r rs =>
          refine ⟨.inl ⟨rfl, _, .of hv⟩, b, _, 0, 0, _, rfl, rfl, hv, by decide, by decide, ?_, rfl, ?_⟩
          · unfold seqIndex?
            simp
          · exact h4 _ _ _ (g1.frSet hk) (g1.setCell hk rs) _ (r.mono (Ext.refl _) (Pre.nil _))
  | _ => exact h1.elim
theorem tF_lstC {a : E} (h : tF T W (den C (.lstC a)) σ H Q) : tCB (rLstOf T.K) (tCons (tF T W (den C a)) tNil) σ H Q := by
  obtain ⟨F, cs, ρ, S, g, re, hl, h⟩ := h
  rw [den] at h
  refine ⟨F, cs, ρ, S, g, re, hl, (After.bind h).mono fun dx S1 F1 H1 cs1 f1 g1 h1 => ?_⟩
  intro x rx
  have h2 := After.bind h1
  unfold lift at h2
  cases e : seqA S1 dx with
  | none => simp only [e] at h2; exact h2.elim
  | some ds =>
    simp only [e] at h2
    obtain ⟨p, vs, rfl, hp, rp⟩ := seqA_rep g1 rx e
    exact ⟨p, vs, rfl, hp, fun l nl => newCell_after (h2 F1 H1 cs1 Fr.refl g1) g1 rp nl⟩
end

/-! ### the slots stay as many -/
theorem setAll_len : ∀ (is : List Nat) (ds : List D) (ρ : Env'), (setAll is ds ρ).length = ρ.length
  | [], _, _ => rfl
  | _ :: _, [], _ => rfl
  | i :: is, d :: ds, ρ => by rw [setAll, setAll_len is ds, List.length_set]
theorem forM_len {f : D → Env' → M Fl} (hf : ∀ d ρ S ρ1 S1, f d ρ S = .ok (.nx ρ1) S1 → ρ1.length = ρ.length) : ∀ (ds : List D) (ρ : Env') (S : Store) (ρ1 : Env') (S1 : Store), forM' f ds ρ S = .ok (.nx ρ1) S1 → ρ1.length = ρ.length
  | [], ρ, S, ρ1, S1, h => by rw [forM'] at h; cases h; rfl
  | d :: ds, ρ, S, ρ1, S1, h => by
    rw [forM'] at h
    obtain ⟨fl, S2, e, h⟩ := bind_ok h
    cases fl with
    | ret d => cases h
    | nx ρ2 => rw [forM_len hf ds ρ2 S2 ρ1 S1 h, hf d ρ S ρ2 S2 e]
theorem whileM_len {c : Env' → M Bool} {b : Env' → M Fl} (hb : ∀ ρ S ρ1 S1, b ρ S = .ok (.nx ρ1) S1 → ρ1.length = ρ.length) : ∀ (n : Nat) (ρ : Env') (S : Store) (ρ1 : Env') (S1 : Store), whileM c b n ρ S = .ok (.nx ρ1) S1 → ρ1.length = ρ.length
  | 0, ρ, S, ρ1, S1, h => by rw [whileM] at h; cases h
  | n + 1, ρ, S, ρ1, S1, h => by
    rw [whileM] at h
    obtain ⟨k, S2, e, h⟩ := bind_ok h
    cases k with
    | false => cases h; rfl
    | true =>
      obtain ⟨fl, S3, e2, h⟩ := bind_ok h
      cases fl with
      | ret d => cases h
      | nx ρ2 => rw [whileM_len hb n ρ2 S3 ρ1 S1 h, hb ρ S2 ρ2 S3 e2]
mutual
theorem exec_len {C : Nat → List D → M D} {w : Nat} : ∀ (s : S) (ρ : Env') (T : Store) (ρ1 : Env') (T1 : Store), exec C w s ρ T = .ok (.nx ρ1) T1 → ρ1.length = ρ.length
  | .set g e, ρ, T, ρ1, T1, h => by
    rw [exec] at h
    obtain ⟨d, T2, _, h⟩ := bind_ok h
    cases e1 : bindG g d ρ with
    | none => simp only [e1] at h; cases h
    | some ρ2 => simp only [e1] at h; cases h; exact bindG_len e1
  | .par is es, ρ, T, ρ1, T1, h => by
    rw [exec] at h
    obtain ⟨d, T2, _, h⟩ := bind_ok h
    cases h
    exact setAll_len _ _ _
  | .ret e, ρ, T, ρ1, T1, h => by
    rw [exec] at h
    obtain ⟨d, T2, _, h⟩ := bind_ok h
    cases h
  | .retN, ρ, T, ρ1, T1, h => by rw [exec] at h; cases h
  | .expr e, ρ, T, ρ1, T1, h => by
    rw [exec] at h
    obtain ⟨d, T2, _, h⟩ := bind_ok h
    cases h
    rfl
  | .ite c a b, ρ, T, ρ1, T1, h => by
    rw [exec] at h
    obtain ⟨k, T2, _, h⟩ := bind_ok h
    cases k with
    | true => exact execs_len a ρ T2 ρ1 T1 h
    | false => exact execs_len b ρ T2 ρ1 T1 h
  | .for_ g it b, ρ, T, ρ1, T1, h => by
    rw [exec] at h
    obtain ⟨ds, T2, _, h⟩ := bind_ok h
    refine forM_len (fun d ρ S ρ1 S1 h => ?_) ds ρ T2 ρ1 T1 h
    cases e1 : bindG g d ρ with
    | none => simp only [e1] at h; cases h
    | some ρ2 => simp only [e1] at h; rw [execs_len b ρ2 S ρ1 S1 h, bindG_len e1]
  | .while_ c b, ρ, T, ρ1, T1, h => by
    rw [exec] at h
    exact whileM_len (fun ρ S ρ1 S1 h => execs_len b ρ S ρ1 S1 h) w ρ T ρ1 T1 h
  | .setix a i e, ρ, T, ρ1, T1, h => by
    rw [exec] at h
    obtain ⟨d, T2, _, h⟩ := bind_ok h
    obtain ⟨d2, T3, _, h⟩ := bind_ok h
    obtain ⟨d3, T4, _, h⟩ := bind_ok h
    obtain ⟨d4, T5, _, h⟩ := bind_ok h
    cases h
    rfl
  | .raise c, ρ, T, ρ1, T1, h => by rw [exec] at h; cases h
  | .pass, ρ, T, ρ1, T1, h => by rw [exec] at h; cases h; rfl
theorem execs_len {C : Nat → List D → M D} {w : Nat} : ∀ (ss : List S) (ρ : Env') (T : Store) (ρ1 : Env') (T1 : Store), execs C w ss ρ T = .ok (.nx ρ1) T1 → ρ1.length = ρ.length
  | [], ρ, T, ρ1, T1, h => by rw [execs] at h; cases h; rfl
  | s :: ss, ρ, T, ρ1, T1, h => by
    rw [execs] at h
    obtain ⟨fl, T2, e, h⟩ := bind_ok h
    cases fl with
    | ret d => cases h
    | nx ρ2 => rw [execs_len ss ρ2 T2 ρ1 T1 h, exec_len s ρ T ρ2 T2 e]
end

/-! ### statements -/
/-- the wish about exceptions, whatever the slots hold -/
abbrev WU (W : WX) (n : Nat) : WX := fun c d _ H => ∀ σ' : L2.St, σ'.length = n → W c d σ' H
def PX (T : Tab) (D : Ends) (n : Nat) : Fl → Store → Hp → Hp → List Addr → Prop
  | .nx ρ', _, F', H', cs' => ρ'.length = n ∧ ∀ σ', RepE T cs' F' σ' ρ' → σ'.length = ρ'.length → D.nx σ' H'
  | .ret d, _, F', H', cs' => ∀ v, Rep T cs' F' v d → D.rt v H'
def tX (T : Tab) (W : WX) (f : Env' → M Fl) : TS := fun D σ H => ∃ F cs ρ S, Good T F H cs S ∧ RepE T cs F σ ρ ∧ σ.length = ρ.length ∧ After T (WU W σ.length) [] F H cs (PX T D σ.length) (f ρ S)
section
variable {T : Tab} {W : WX} {C : Nat → List D → M D} {w : Nat} {σ : L2.St} {H : Hp} {D : Ends}
theorem tX_set {g : G} {e : E} (h : tX T W (exec C w (.set g e)) D σ H) : tAsg (tF T W (den C e)) (tGr T g) D σ H := by
  obtain ⟨F, cs, ρ, S, gd, re, hl, h⟩ := h
  rw [exec] at h
  refine ⟨F, cs, ρ, S, gd, re, hl, ((After.bind h).wish fun c H' w => w σ rfl).mono fun d S1 F1 H1 cs1 f1 g1 h1 => ?_⟩
  intro v r
  cases e1 : bindG g d ρ with
  | none => simp only [e1] at h1; exact h1.elim
  | some ρ1 =>
    simp only [e1] at h1
    obtain ⟨q1, q2⟩ := h1 F1 H1 cs1 Fr.refl g1
    exact ⟨F1, cs1, ρ, S1, d, ρ1, g1, re.mono f1.ext f1.pre, hl, r, e1, fun σ' re' hl' _ => q2 σ' re' hl'⟩
theorem tX_par2 {i j : Nat} {a b : E} (h : tX T W (exec C w (.par [i, j] [a, b])) D σ H) : tPar i j (tFA T W (denL C [a, b])) D σ H := by
  obtain ⟨F, cs, ρ, S, gd, re, hl, h⟩ := h
  rw [exec] at h
  refine ⟨F, cs, ρ, S, gd, re, hl, ?_⟩
  have h0 := (After.bind h).wish (W' := W) (σ' := σ) fun c H' w => w σ rfl
  cases ev : denL C [a, b] ρ S with
  | err c S1 => rw [ev] at h0; exact h0
  | bad => rw [ev] at h0; exact h0
  | ok ds S1 =>
    rw [ev] at h0
    intro F1 H1 cs1 f1 g1 vs rs
    have h1 := h0 F1 H1 cs1 f1 g1
    rw [denL] at ev
    obtain ⟨x, S2, _, ev⟩ := bind_ok ev
    obtain ⟨ds1, S3, e3, ev⟩ := bind_ok ev
    rw [denL] at e3
    obtain ⟨y, S4, _, e3⟩ := bind_ok e3
    obtain ⟨ds2, S5, e5, e3⟩ := bind_ok e3
    rw [denL] at e5
    cases e5; cases e3; cases ev
    obtain ⟨vx, vy, rfl, rx, ry⟩ := repL_two rs
    obtain ⟨q1, q2⟩ := h1 F1 H1 cs1 Fr.refl g1
    exact ⟨vx, vy, rfl, q2 _ (((re.mono f1.ext f1.pre).set i rx hl).set j ry (by rw [List.length_set, List.length_set]; exact hl)) (by
      rw [List.length_set, List.length_set]
      show σ.length = ((ρ.set i (some x)).set j (some y)).length
      rw [List.length_set, List.length_set]
      exact hl)⟩
theorem tX_par3 {i j k : Nat} {a b c : E} (h : tX T W (exec C w (.par [i, j, k] [a, b, c])) D σ H) : tPar3 i j k (tFA T W (denL C [a, b, c])) D σ H := by
  obtain ⟨F, cs, ρ, S, gd, re, hl, h⟩ := h
  rw [exec] at h
  refine ⟨F, cs, ρ, S, gd, re, hl, ?_⟩
  have h0 := (After.bind h).wish (W' := W) (σ' := σ) fun c H' w => w σ rfl
  cases ev : denL C [a, b, c] ρ S with
  | err c S1 => rw [ev] at h0; exact h0
  | bad => rw [ev] at h0; exact h0
  | ok ds S1 =>
    rw [ev] at h0
    intro F1 H1 cs1 f1 g1 vs rs
    have h1 := h0 F1 H1 cs1 f1 g1
    rw [denL] at ev
    obtain ⟨x, S2, _, ev⟩ := bind_ok ev
    obtain ⟨ds1, S3, e3, ev⟩ := bind_ok ev
    rw [denL] at e3
    obtain ⟨y, S4, _, e3⟩ := bind_ok e3
    obtain ⟨ds2, S5, e5, e3⟩ := bind_ok e3
    rw [denL] at e5
    obtain ⟨z, S6, _, e5⟩ := bind_ok e5
    obtain ⟨ds3, S7, e7, e5⟩ := bind_ok e5
    rw [denL] at e7
    cases e7; cases e5; cases e3; cases ev
    cases rs with
    | cons rx rs =>
      obtain ⟨vy, vz, rfl, ry, rz⟩ := repL_two rs
      obtain ⟨q1, q2⟩ := h1 F1 H1 cs1 Fr.refl g1
      exact ⟨_, vy, vz, rfl, q2 _ ((((re.mono f1.ext f1.pre).set i rx hl).set j ry (by rw [List.length_set, List.length_set]; exact hl)).set k rz (by rw [List.length_set, List.length_set, List.length_set, List.length_set]; exact hl)) (by
        rw [List.length_set, List.length_set, List.length_set]
        show σ.length = (((ρ.set i (some x)).set j (some y)).set k (some z)).length
        rw [List.length_set, List.length_set, List.length_set]
        exact hl)⟩
theorem tX_ret {e : E} (h : tX T W (exec C w (.ret e)) D σ H) : tRet (tF T W (den C e)) D σ H := by
  obtain ⟨F, cs, ρ, S, gd, re, hl, h⟩ := h
  rw [exec] at h
  refine ⟨F, cs, ρ, S, gd, re, hl, ((After.bind h).wish fun c H' w => w σ rfl).mono fun d S1 F1 H1 cs1 f1 g1 h1 => ?_⟩
  exact h1 F1 H1 cs1 Fr.refl g1
theorem tX_retN (h : tX T W (exec C w .retN) D σ H) : tRetN D σ H := by
  obtain ⟨F, cs, ρ, S, gd, re, hl, h⟩ := h
  rw [exec] at h
  exact h F H cs Fr.refl gd .non .non
theorem tX_expr {e : E} (h : tX T W (exec C w (.expr e)) D σ H) : tDrop (tF T W (den C e)) D σ H := by
  obtain ⟨F, cs, ρ, S, gd, re, hl, h⟩ := h
  rw [exec] at h
  refine ⟨F, cs, ρ, S, gd, re, hl, ((After.bind h).wish fun c H' w => w σ rfl).mono fun d S1 F1 H1 cs1 f1 g1 h1 => ?_⟩
  intro v r
  exact (h1 F1 H1 cs1 Fr.refl g1).2 σ (re.mono f1.ext f1.pre) hl
theorem tX_pass (h : tX T W (exec C w .pass) D σ H) : tNext D σ H := by
  obtain ⟨F, cs, ρ, S, gd, re, hl, h⟩ := h
  rw [exec] at h
  exact (h F H cs Fr.refl gd).2 σ re hl
theorem tX_ite {c : E} {a b : List S} (h : tX T W (exec C w (.ite c a b)) D σ H) : tIfS (tFT T W (denT C c)) (tX T W (execs C w a)) (tX T W (execs C w b)) D σ H := by
  obtain ⟨F, cs, ρ, S, gd, re, hl, h⟩ := h
  rw [exec] at h
  refine ⟨F, cs, ρ, S, gd, re, hl, ((After.bind h).wish fun c H' w => w σ rfl).mono fun d S1 F1 H1 cs1 f1 g1 h1 => ?_⟩
  cases d with
  | true => exact ⟨F1, cs1, ρ, S1, g1, re.mono f1.ext f1.pre, hl, h1⟩
  | false => exact ⟨F1, cs1, ρ, S1, g1, re.mono f1.ext f1.pre, hl, h1⟩
theorem tX_nil (h : tX T W (execs C w []) D σ H) : tNext D σ H := by
  obtain ⟨F, cs, ρ, S, gd, re, hl, h⟩ := h
  rw [execs] at h
  exact (h F H cs Fr.refl gd).2 σ re hl
theorem tX_cons {s : S} {ss : List S} (h : tX T W (execs C w (s :: ss)) D σ H) : tSeq (tX T W (exec C w s)) (tX T W (execs C w ss)) D σ H := by
  obtain ⟨F, cs, ρ, S, gd, re, hl, h⟩ := h
  rw [execs] at h
  refine ⟨F, cs, ρ, S, gd, re, hl, ?_⟩
  have h0 := After.bind h
  cases ev : exec C w s ρ S with
  | err c S1 => rw [ev] at h0; exact h0
  | bad => rw [ev] at h0; exact h0
  | ok fl S1 =>
    rw [ev] at h0
    intro F1 H1 cs1 f1 g1
    have h1 := h0 F1 H1 cs1 f1 g1
    cases fl with
    | ret d => exact h1 F1 H1 cs1 Fr.refl g1
    | nx ρ1 =>
      have el := exec_len s ρ S ρ1 S1 ev
      refine ⟨by rw [el, hl], fun σ' re' hl' => ?_⟩
      have e : σ'.length = σ.length := by rw [hl', el, hl]
      refine ⟨F1, cs1, ρ1, S1, g1, re', hl', ?_⟩
      rw [e]
      exact h1
/-- a for: told from the state ahead of it -/
theorem tX_for {g : G} {it : It} {b : List S} (h : tX T W (exec C w (.for_ g it b)) D σ H) : tFor (tI T W (denI C it)) (tGr T g) (tX T W (execs C w b)) D σ H := by
  obtain ⟨F, cs, ρ, S, gd, re, hl, h⟩ := h
  rw [exec] at h
  refine ⟨F, cs, ρ, S, gd, re, hl, ((After.bind h).wish fun c H' w => w σ rfl).mono fun items S1 F1 H1 cs1 f1 g1 h1 => ?_⟩
  intro J hJ
  have re1 := re.mono f1.ext f1.pre
  generalize hf : (fun d ρ => (match bindG g d ρ with
      | some ρ1 => execs C w b ρ1
      | none => M.bad : M Fl)) = f at h1
  generalize hn : σ.length = n at h1 hl
  refine ⟨fun i m σ2 H2 => ∃ F2 cs2 ρ2 S2 rest, m = rest.length ∧ items.drop i = rest ∧ i + rest.length = items.length ∧ Good T F2 H2 cs2 S2 ∧ Ext F1 F2 ∧ Pre cs1 cs2 ∧ RepE T cs2 F2 σ2 ρ2 ∧ σ2.length = ρ2.length ∧ σ2.length = n ∧ After T (WU W n) [] F2 H2 cs2 (PX T D n) (forM' f rest ρ2 S2),
    ⟨items.length, F1, cs1, ρ, S1, items, rfl, rfl, by omega, g1, Ext.refl _, Pre.refl _, re1, by rw [hn]; exact hl, hn, h1⟩, ?_⟩
  rintro i m σ2 H2 ⟨F2, cs2, ρ2, S2, rest, rfl, hdr, hlen, g2, e2, p2, re2, hl2, hn2, h3⟩
  cases rest with
  | nil =>
    have hi : items.length = i := by simpa using hlen.symm
    refine .inl ⟨by rw [← hi]; exact hJ.stop F2 H2 cs2 S2 e2 p2 g2, ?_⟩
    rw [forM'] at h3
    exact (h3 F2 H2 cs2 Fr.refl g2).2 σ2 re2 hl2
  | cons d rest =>
    have hget : items[i]? = some d := by
      have := congrArg (fun l => l[0]?) hdr
      simpa [List.getElem?_drop] using this
    obtain ⟨go, yl⟩ := hJ.go i d F2 H2 cs2 S2 e2 p2 g2 hget
    refine .inr ⟨go, fun σ' H' => ∃ F3 cs3 ρ3 S3, Good T F3 H' cs3 S3 ∧ Ext F1 F3 ∧ Pre cs1 cs3 ∧ RepE T cs3 F3 σ' ρ3 ∧ σ'.length = ρ3.length ∧ σ'.length = n ∧ After T (WU W n) [] F3 H' cs3 (PX T D n) (forM' f rest ρ3 S3), fun σ' H' hN => ?_, fun x H3 hy => ?_⟩
    · obtain ⟨F3, cs3, ρ3, S3, q1, q2, q3, q4, q5, q6, q7⟩ := hN
      refine ⟨rest.length, by rw [List.length_cons]; omega, F3, cs3, ρ3, S3, rest, rfl, ?_, by rw [List.length_cons] at hlen; omega, q1, q2, q3, q4, q5, q6, q7⟩
      rw [← List.drop_drop, hdr]
      rfl
    · obtain ⟨F3, f3, g3, rx⟩ := yl x H3 hy
      rw [forM'] at h3
      have h4 := (After.bind h3)
      have fd : f d ρ2 = (match bindG g d ρ2 with
        | some ρ1 => execs C w b ρ1
        | none => M.bad : M Fl) := by rw [← hf]
      rw [fd] at h4
      cases eb : bindG g d ρ2 with
      | none => simp only [eb] at h4; exact h4.elim
      | some ρ1 =>
        simp only [eb] at h4
        refine ⟨F3, cs2, ρ2, S2, d, ρ1, g3, re2.mono f3.ext f3.pre, hl2, rx, eb, fun σ4 re4 hl4 _ => ?_⟩
        have hn4 : σ4.length = n := by rw [hl4, bindG_len eb, ← hl2, hn2]
        refine ⟨F3, cs2, ρ1, S2, g3, re4, hl4, ?_⟩
        have h5 := h4.step f3
        rw [hn4]
        cases ev : execs C w b ρ1 S2 with
        | err c S5 => rw [ev] at h5; exact h5
        | bad => rw [ev] at h5; exact h5
        | ok fl S5 =>
          rw [ev] at h5
          intro F5 H5 cs5 f5 g5
          have h6 := h5 F5 H5 cs5 f5 g5
          cases fl with
          | ret d => exact h6 F5 H5 cs5 Fr.refl g5
          | nx ρ5 =>
            have el : ρ5.length = n := by rw [execs_len b ρ1 S2 ρ5 S5 ev, ← hl4, hn4]
            refine ⟨el, fun σ5 re5 hl5 => ?_⟩
            exact ⟨F5, cs5, ρ5, S5, g5, (e2.trans f3.ext).trans f5.ext, (p2.trans f3.pre).trans f5.pre, re5, hl5, by rw [hl5, el], h6⟩
theorem tX_while {c : E} {b : List S} (h : tX T W (exec C w (.while_ c b)) D σ H) : tWhile (tFT T W (denT C c)) (tX T W (execs C w b)) D σ H := by
  obtain ⟨F, cs, ρ, S, gd, re, hl, h⟩ := h
  rw [exec] at h
  generalize hn : σ.length = n at h hl
  refine ⟨fun m σ2 H2 => ∃ F2 cs2 ρ2 S2, Good T F2 H2 cs2 S2 ∧ RepE T cs2 F2 σ2 ρ2 ∧ σ2.length = ρ2.length ∧ σ2.length = n ∧ After T (WU W n) [] F2 H2 cs2 (PX T D n) (whileM (denT C c) (execs C w b) m ρ2 S2),
    ⟨w, F, cs, ρ, S, gd, re, by rw [hn]; exact hl, hn, h⟩, ?_⟩
  rintro m σ2 H2 ⟨F2, cs2, ρ2, S2, g2, re2, hl2, hn2, h3⟩
  cases m with
  | zero => rw [whileM] at h3; exact h3.elim
  | succ m =>
    rw [whileM] at h3
    refine ⟨F2, cs2, ρ2, S2, g2, re2, hl2, ((After.bind h3).wish fun c H' w => w σ2 hn2).mono fun k S3 F3 H3 cs3 f3 g3 h4 => ?_⟩
    cases k with
    | false =>
      simp only [Bool.false_eq_true, if_false]
      exact (h4 F3 H3 cs3 Fr.refl g3).2 σ2 (re2.mono f3.ext f3.pre) hl2
    | true =>
      simp only [if_true]
      refine ⟨fun σ' H' => ∃ F4 cs4 ρ4 S4, Good T F4 H' cs4 S4 ∧ RepE T cs4 F4 σ' ρ4 ∧ σ'.length = ρ4.length ∧ σ'.length = n ∧ After T (WU W n) [] F4 H' cs4 (PX T D n) (whileM (denT C c) (execs C w b) m ρ4 S4), fun σ' H' hN => ⟨m, Nat.lt_succ_self m, hN⟩, ?_⟩
      refine ⟨F3, cs3, ρ2, S3, g3, re2.mono f3.ext f3.pre, hl2, ?_⟩
      have h5 := After.bind h4
      rw [hn2]
      cases ev : execs C w b ρ2 S3 with
      | err c S5 => rw [ev] at h5; exact h5
      | bad => rw [ev] at h5; exact h5
      | ok fl S5 =>
        rw [ev] at h5
        intro F5 H5 cs5 f5 g5
        have h6 := h5 F5 H5 cs5 f5 g5
        cases fl with
        | ret d => exact h6 F5 H5 cs5 Fr.refl g5
        | nx ρ5 =>
          have el : ρ5.length = n := by rw [execs_len b ρ2 S3 ρ5 S5 ev, ← hl2, hn2]
          exact ⟨el, fun σ5 re5 hl5 => ⟨F5, cs5, ρ5, S5, g5, re5, hl5, by rw [hl5, el], h6⟩⟩
theorem tX_setix {a i e : E} (h : tX T W (exec C w (.setix a i e)) D σ H) : tAsg (tF T W (den C e)) (gSub (tF T W (den C a)) (tF T W (den C i)) rSetL) D σ H := by
  obtain ⟨F, cs, ρ, S, gd, re, hl, h⟩ := h
  rw [exec] at h
  have wi : ∀ c H', WU W σ.length (.ref (T.ca c)) none [] H' → W (.ref (T.ca c)) none σ H' := fun c H' w => w σ rfl
  refine ⟨F, cs, ρ, S, gd, re, hl, ((After.bind h).wish wi).mono fun dy S1 F1 H1 cs1 f1 g1 h1 => ?_⟩
  intro y ry
  have re1 := re.mono f1.ext f1.pre
  refine ⟨F1, cs1, ρ, S1, g1, re1, hl, ((After.bind h1).wish wi).mono fun dx S2 F2 H2 cs2 f2 g2 h2 => ?_⟩
  intro x rx
  have re2 := re1.mono f2.ext f2.pre
  refine ⟨F2, cs2, ρ, S2, g2, re2, hl, ((After.bind h2).wish wi).mono fun dj S3 F3 H3 cs3 f3 g3 h3 => ?_⟩
  intro j rj
  have re3 := re2.mono f3.ext f3.pre
  have ry3 := (ry.mono f2.ext f2.pre).mono f3.ext f3.pre
  have rx3 := rx.mono f3.ext f3.pre
  have h4 := After.bind h3
  unfold setixM at h4
  cases rx3 with
  | @cell p k hk =>
    cases rj with
    | int j =>
      simp only at h4
      cases e1 : S3[k]? with
      | none => rw [e1] at h4; exact h4.elim
      | some ds =>
        rw [e1] at h4
        simp only at h4
        cases e2 : ixN ds.length j with
        | none => rw [e2] at h4; exact h4.elim
        | some m =>
          rw [e2] at h4
          simp only at h4
          split at h4
          · rename_i hz
            obtain ⟨_, vs, hv, rv⟩ := g3.cell k p ds hk e1
            have ry' := shp_rep 40 hz ry3
            refine ⟨p, vs, j, m, rfl, rfl, hv, by rw [rv.length]; exact e2, ?_⟩
            have h5 := h4 _ _ _ (g3.frSet hk) (g3.setCell hk (rv.set m ry'))
            exact (h5 _ _ _ Fr.refl (g3.setCell hk (rv.set m ry'))).2 σ re3 hl
          · exact h4.elim
    | _ => exact h4.elim
  | _ => exact h4.elim
end
end Pd

end
section
set_option Elab.async false
set_option linter.all false
set_option maxRecDepth 100000
set_option maxHeartbeats 2000000
/-! While an exception is handled: ends of walks. -/
namespace PdH
open PySem PySem.Spec PyProof.Rows L2 HotX
section
variable {prog : Program} {w : World} {A : Around} {E : Value → Shared → Prop} {s : Shared}
/-- a StopIteration is made and raised, the handled exception becomes its context -/
theorem stop_hot {α : Type} {x1 it : Addr} {h0 : Heap} {Q : α → Shared → Prop} (hh : A.handled = some (.ref x1)) {o1 : Obj} {vs1 : Array Value} (h1 : s.heap.get? x1 = some o1) (d1 : o1.data = .fields vs1) (c1 : vs1[2]? = some .none)
    (b0 : Heap.ExtBut it h0 s.heap) (hE : ∀ h' e, Heap.ExtBut it h0 h' → (∃ o, h'.get? e = some o ∧ o.cls = .type "StopIteration") → E (.ref e) { s with heap := h' }) :
    wpAny (model prog w) A (newExc (.type "StopIteration") [] >>= fun e => (raiseNew e : Sem α)) Q E s := by
  refine wpAny_bind ?_
  simp only [newExc, newTuple]
  refine wpAny_bind (wpAny_newObj_type ?_ (by size_fits))
  refine wpAny_bind (m := firstArgMember _ _) (wpAny_of_eq (a := Value.none) (by first | rfl | (simp only [firstArgMember]; rfl)) ?_)
  refine wpAny_newObj_type ?_ (by size_fits)
  refine raiseNew_hot (x1 := x1) ⟨hh, o1, vs1, Heap.get?_push_of_some _ (Heap.get?_push_of_some _ h1), d1, c1⟩ (Nat.ne_of_lt (Heap.lt_size (Heap.get?_push_of_some _ h1))) (Heap.get?_push_size _ rfl) rfl (by first | (simp; done) | (simp; omega) | (simp only [Array.size_append]; simp; omega)) ?_
  refine hE _ _ (fun b o hb e => ?_) ⟨_, Heap.get?_update_self _ (Heap.get?_push_size _ rfl) rfl, rfl⟩
  have e' := b0 b o hb e
  rw [Heap.get?_update_other _ _ (Nat.ne_of_gt (Heap.lt_size (Heap.get?_push_of_some _ e')))]
  exact Heap.get?_push_of_some _ (Heap.get?_push_of_some _ e')
/-- a tuple's iterator at its end -/
theorem next_tuple_end_hot {it t x1 : Addr} {i : Nat} {items} {Q : Option Value → Shared → Prop} (hot : HotAt A x1 s.heap) (hne : x1 ≠ it)
    (hit : IsTupIter s.heap it t i) (ht : IsTup s.heap t items) (hx : items[i]? = none)
    (hQ : ∀ h', Heap.ExtBut it s.heap h' → Q none { s with heap := h' }) : wpAny (model prog w) A (pyNext (.ref it)) Q E s := by
  obtain ⟨hh, o1, vs1, h1, d1, c1⟩ := hot
  obtain ⟨o, ho, hc, hd⟩ := id hit
  obtain ⟨ol, hol, _, nl, hdl⟩ := ht
  unfold pyNext
  refine wpAny_bind (wpAny_attempt (wpAny_callSpecial?_slot (name := Str.ofString "__next__") hit.typeIs slot_tupleiter_next
    (wpAny_call_entry slot_tupleiter_next hit.typeIs entry_tupleiter_next ?_ (args_tupleiter_next _))))
  show wpAny _ _ (field (.ref it) 0 >>= _) _ _ s
  refine wpAny_bind (wpAny_field ho hd (x := .ref t) rfl ?_)
  show wpAny _ _ (if (Value.ref t == Value.none) = true then _ else _) _ _ s
  rw [if_neg (show ¬ ((Value.ref t == Value.none) = true) from Bool.false_ne_true)]
  show wpAny _ _ (field (.ref it) 1 >>= _) _ _ s
  refine wpAny_bind (wpAny_field ho hd (x := .int i 0) rfl ?_)
  show wpAny _ _ (seqItems? (.ref t) >>= _) _ _ s
  refine wpAny_bind (wpAny_seqItems hol hdl ?_)
  simp only [Int.toNat_natCast, hx]
  refine wpAny_bind (wpAny_rule (wpAny_bind (wpAny_setField ho hd (by simp) ?_)))
  refine stop_hot (it := it) (h0 := s.heap) (x1 := x1) hh ((Heap.get?_update_other _ _ (Ne.symm hne)).trans h1) d1 c1 (Heap.SameBut.update ..).extBut fun h' e hk he => ?_
  obtain ⟨oe, hoe, hce⟩ := he
  refine wpAny_bind (wpAny_isInstance (T := "StopIteration") (b := true) ⟨oe, hoe, hce⟩ isSubtype_stop ?_)
  exact wpAny_pure (hQ _ hk)
/-- a list's iterator at its end, within zip -/
theorem nextOf_list_end_hot {it l x1 : Addr} {i : Nat} {items} {Q : Value → Shared → Prop} (hot : HotAt A x1 s.heap) (hne : x1 ≠ it)
    (hit : s.heap.IsListIter it l i) (hl : s.heap.IsList l items) (hx : items[i]? = none)
    (hE : ∀ h' e, Heap.ExtBut it s.heap h' → (∃ o, h'.get? e = some o ∧ o.cls = .type "StopIteration") → E (.ref e) { s with heap := h' }) :
    wpAny (model prog w) A (Builtin.SmallTypes.nextOf (.ref it)) Q E s := by
  obtain ⟨hh, o1, vs1, h1, d1, c1⟩ := hot
  obtain ⟨o, ho, hc, hd⟩ := id hit
  obtain ⟨ol, hol, _, nl, hdl⟩ := hl
  unfold Builtin.SmallTypes.nextOf
  refine wpAny_bind (wpAny_callSpecial?_slot (name := Str.ofString "__next__") hit.typeIs slot_listiter_next
    (wpAny_call_entry slot_listiter_next hit.typeIs entry_listiter_next ?_ (args_listiter_next _)))
  show wpAny _ _ (field (.ref it) 0 >>= _) _ _ s
  refine wpAny_bind (wpAny_field ho hd (x := .ref l) rfl ?_)
  show wpAny _ _ (if (Value.ref l == Value.none) = true then _ else _) _ _ s
  rw [if_neg (show ¬ ((Value.ref l == Value.none) = true) from Bool.false_ne_true)]
  show wpAny _ _ (field (.ref it) 1 >>= _) _ _ s
  refine wpAny_bind (wpAny_field ho hd (x := .int i 0) rfl ?_)
  show wpAny _ _ (seqItems? (.ref l) >>= _) _ _ s
  refine wpAny_bind (wpAny_seqItems hol hdl ?_)
  simp only [Int.toNat_natCast, hx]
  refine wpAny_bind (wpAny_rule (wpAny_bind (wpAny_setField ho hd (by simp) ?_)))
  exact stop_hot (it := it) (h0 := s.heap) (x1 := x1) hh ((Heap.get?_update_other _ _ (Ne.symm hne)).trans h1) d1 c1 (Heap.SameBut.update ..).extBut hE
/-- zip's end by its first list -/
theorem zip_next_end_hot {z TI TO i1 i2 l1 l2 x1 : Addr} {k1 : Nat} {xs : Array Value} {a b : Value} {Q : Fin → Shared → Prop} (hot : HotAt A x1 s.heap) (n1 : x1 ≠ z) (n2 : x1 ≠ i1) (D : ZipApart z TI TO i1 i2 l1 l2)
    (hz : IsZip s.heap z TI TO .none) (hTI : IsPair s.heap TI (.ref i1) (.ref i2)) (hTO : IsPair s.heap TO a b)
    (h1 : s.heap.IsListIter i1 l1 k1) (hl1 : s.heap.IsList l1 xs) (hend : xs[k1]? = none)
    (hE : ∀ h' e, (∀ c o, c ≠ z → c ≠ TO → c ≠ i1 → c ≠ i2 → s.heap.get? c = some o → h'.get? c = some o) → (∃ o, h'.get? e = some o ∧ o.cls = .type "StopIteration") → E (.ref e) { s with heap := h' }) :
    wpAny (model prog w) A (Builtin.«zip.__next__» ⟨[.ref z], []⟩) Q E s := by
  obtain ⟨hh, o1, vs1, g1, d1, c1⟩ := hot
  show wpAny _ _ (field (.ref z) 2 >>= _) _ _ _
  refine wpAny_bind (wpAny_field hz rfl (x := .bool false) rfl ?_)
  show wpAny _ _ (field (.ref z) 3 >>= _) _ _ _
  refine wpAny_bind (wpAny_field hz rfl (x := .ref TI) rfl ?_)
  refine wpAny_bind (wpAny_seqItems hTI rfl ?_)
  show wpAny _ _ (Builtin.SmallTypes.ownedTupleIsFree (.ref z) >>= _) _ _ _
  refine wpAny_bind ?_
  unfold Builtin.SmallTypes.ownedTupleIsFree
  refine wpAny_bind (wpAny_field hz rfl (x := .none) rfl (wpAny_pure ?_))
  simp only [if_true]
  refine wpAny_bind (wpAny_rule ?_)
  refine wpAny_bind (wpAny_field hz rfl (x := .ref TO) rfl ?_)
  refine wpAny_bind (wpAny_setField_rec hz (by simp) fun h₁ hz₁ hs₁ => ?_)
  replace hz₁ : IsZip h₁ z TI TO .ellipsis := hz₁
  refine wpAny_bind ?_
  simp only [List.zipIdx_cons, List.zipIdx_nil, List.forIn_cons, List.forIn_nil]
  refine wpAny_bind (wpAny_bind (wpAny_onRaise ?_))
  show wpAny _ _ (Builtin.SmallTypes.nextOf (.ref i1) >>= _) _ _ _
  refine wpAny_bind (nextOf_list_end_hot (x1 := x1) ⟨hh, o1, vs1, hs₁.extBut _ _ n1 g1, d1, c1⟩ n2 (h1.extBut hs₁.extBut D.i1z) (hl1.extBut hs₁.extBut D.l1z) hend fun h₂ e hs₂ he => ?_)
  obtain ⟨oe, hoe, hce⟩ := he
  have hz₂ : IsZip h₂ z TI TO .ellipsis := hs₂ _ _ D.i1z.symm hz₁
  have hez : e ≠ z := fun x => by subst x; rw [hz₂] at hoe; cases hoe; simp at hce
  refine wpAny_setField_rec hz₂ (by simp) fun h₃ _ hs₃ => hE h₃ e (fun c o c1 _ c3 _ x => hs₃.extBut _ _ c1 (hs₂ _ _ c3 (hs₁.extBut _ _ c1 x))) ⟨oe, hs₃.extBut _ _ hez hoe, hce⟩
theorem pyNext_zip_end_hot {z TI TO i1 i2 l1 l2 x1 : Addr} {k1 : Nat} {xs : Array Value} {a b : Value} {Q : Option Value → Shared → Prop} (hot : HotAt A x1 s.heap) (n1 : x1 ≠ z) (n2 : x1 ≠ i1) (D : ZipApart z TI TO i1 i2 l1 l2)
    (hz : IsZip s.heap z TI TO .none) (hTI : IsPair s.heap TI (.ref i1) (.ref i2)) (hTO : IsPair s.heap TO a b)
    (h1 : s.heap.IsListIter i1 l1 k1) (hl1 : s.heap.IsList l1 xs) (hend : xs[k1]? = none)
    (hQ : ∀ h', (∀ c o, c ≠ z → c ≠ TO → c ≠ i1 → c ≠ i2 → s.heap.get? c = some o → h'.get? c = some o) → Q none { s with heap := h' }) : wpAny (model prog w) A (pyNext (.ref z)) Q E s := by
  have hT : s.TypeIs (.ref z) "zip" := ⟨_, hz, rfl⟩
  unfold pyNext
  refine wpAny_bind (wpAny_attempt (wpAny_callSpecial?_slot (name := Str.ofString "__next__") hT F.slot_zip_next
    (wpAny_call_entry F.slot_zip_next hT F.entry_zip_next (zip_next_end_hot (x1 := x1) (show HotAt A.in1 x1 s.heap from hot) n1 n2 D hz hTI hTO h1 hl1 hend fun h' e hk he => ?_) (F.args_zip_next_1 _))))
  obtain ⟨o, ho, hc⟩ := he
  refine wpAny_bind (wpAny_isInstance (T := "StopIteration") (b := true) ⟨o, ho, hc⟩ isSubtype_stop ?_)
  exact wpAny_pure (hQ _ hk)
/-- (a, b, ..) = a tuple -/
theorem assign_Tuple_hot {env : Env} {elts : List Expr} {x2} {pos : Pos} {t x1 : Addr} {items : Array Value} {Q : Unit → Shared → Prop} (hot : HotAt A x1 s.heap) (ht : IsTup s.heap t items)
    (hn : (assignEach elts env).length = items.size) (hstar : (assignEach elts env).findIdx? (·.1) = none)
    (h : ∀ h', Heap.ExtBut s.heap.objs.size s.heap h' → wpAny (model prog w) A (assignInOrder ((assignEach elts env).map (·.2)) items.toList) Q E { s with heap := h' }) :
    wpAny (model prog w) A (assign (.Tuple elts x2 pos) env (.ref t)) Q E s := by
  obtain ⟨hh, o1, vs1, g1, d1, c1⟩ := hot
  rw [assign_Tuple]
  refine wpAny_bind (wpAny_standAt ?_)
  unfold unpack
  rw [hn, hstar]
  have hlt : t ≠ s.heap.objs.size := by obtain ⟨o, ho, _⟩ := ht; exact Nat.ne_of_lt (Heap.lt_size ho)
  have n1 : x1 ≠ s.heap.objs.size := Nat.ne_of_lt (Heap.lt_size g1)
  refine wpAny_bind (wpAny_holding ?_)
  unfold unpackItems
  refine wpAny_bind ?_
  unfold notIterableAtAll
  refine wpAny_bind (wpAny_specialOf ht.typeIs slot_tuple_iter.lookup ?_)
  refine wpAny_pure ?_
  simp only [Bool.false_eq_true, if_false]
  refine wpAny_bind (wpAny_holding (iter_tuple ht ?_))
  refine wpAny_bind (wpAny_holding (draw_tuple hlt items.size 0 _ _ ⟨_, Heap.get?_push_size _ rfl, rfl, rfl⟩ (ht.push _) (by omega) fun h₁ hit₁ hs₁ => ?_))
  have hall : List.take items.size (List.drop 0 items.toList) = items.toList := by
    rw [List.drop_zero]; exact List.take_of_length_le (by simp)
  rw [hall]
  rw [if_neg (by simp)]
  have ht₁ : IsTup h₁ t items := (ht.push _).extBut hs₁.extBut hlt
  refine wpAny_bind (wpAny_holding (next_tuple_end_hot (x1 := x1) ⟨hh, o1, vs1, hs₁.extBut _ _ n1 (Heap.get?_push_of_some _ g1), d1, c1⟩ n1 hit₁ ht₁ (by simp) fun h₂ he₂ => ?_))
  simp only [Option.isSome_none, Bool.false_eq_true, if_false]
  exact wpAny_pure (h h₂ fun b o hb e => he₂ b o hb (hs₁.extBut b o hb (Heap.get?_push_of_some _ e)))
end
end PdH

end
section
set_option Elab.async false
set_option linter.all false
set_option maxRecDepth 100000
set_option maxHeartbeats 4000000
/-! While an exception is handled: targets, zip, comprehensions. -/
namespace PdH
open PySem PySem.Spec PyProof.Rows L2 L2H HotX
section
variable {X : Cx}
theorem pg_tupH {es : List Expr} {k : Nat} {t : TGs} {n : Nat} {pos : Pos} (hc : HotC X) (h : PGs X es t)
    (hn : (assignEach es X.env).length = n := by rfl) (hst : (assignEach es X.env).findIdx? (·.1) = none := by rfl) : PG X (.Tuple es k pos) (gTup X.K n t) := by
  refine ⟨fun pins s σ H v u Q I r hw => ?_⟩
  obtain ⟨a, xs, e1, hq, hl, hw⟩ := hw
  subst e1
  cases r
  obtain ⟨its, rv, ht, hz⟩ := I.tuple hq
  obtain ⟨x1, hot⟩ := hc.at I
  refine assign_Tuple_hot hot ht (by simp [hn, ← hl, rv.length]) hst fun h' hx => ?_
  have I1 : Inv X pins σ H { s with heap := h' } := I.kept (t' := s.toks) fun b o e => hx b o (Nat.ne_of_lt (Heap.lt_size e)) e
  exact h.run pins _ σ H xs _ Q I1 (by simpa using rv) hw
/-- zip of two lists, the first no longer than the second -/
def ItzF (K : PySem.W.Frag) (a b : Addr) : It := ⟨(Itz K a b).go, (Itz K a b).yld, fun i H => ∃ xs ys : List V, SqL K H a xs ∧ SqL K H b ys ∧ xs.length ≤ i⟩
theorem turn_zipH {P : Program} {w : World} {K : PySem.W.Frag} {elts : List Expr} {kk : Nat} {tpos : Pos} {a b z TI TO i1 i2 : Addr} (D : ZipApart z TI TO i1 i2 a b) :
    TurnH P w K (.Tuple elts kk tpos) (ItzF K a b) [z, TI, TO, i1, i2] z (fun i h => IsZip h z TI TO .none ∧ IsPair h TI (.ref i1) (.ref i2) ∧ (∃ x y, IsPair h TO x y) ∧ h.IsListIter i1 a i ∧ h.IsListIter i2 b i) where
  mem := by simp
  obj := (turn_zip (P := P) (w := w) (K := K) (elts := elts) (kk := kk) (tpos := tpos) D).obj
  keep := (turn_zip (P := P) (w := w) (K := K) (elts := elts) (kk := kk) (tpos := tpos) D).keep
  item := by
    intro X hP hw hK hc i pins s σ H E I hf st hg
    subst hP hw hK
    obtain ⟨hz, hTI, ⟨x0, y0, hTO⟩, h1, h2⟩ := st
    obtain ⟨xs, ys, x, y, hqx, hqy, hx, hy⟩ := hg
    obtain ⟨its, rv, p, _⟩ := I.list hqx
    obtain ⟨its2, rv2, p2, _⟩ := I.list hqy
    obtain ⟨u, hu, ru⟩ := rv.get hx
    obtain ⟨u2, hu2, ru2⟩ := rv2.get hy
    have hzl : z < s.heap.objs.size := Heap.lt_size hz
    refine wpAny_pyNext_zip_item D hz hTI hTO h1 h2 p.isList p2.isList (x := u) (y := u2) (by simpa using hu) (by simpa using hu2) fun h' z' TO' h1' h2' hT hsz hk => ?_
    refine ⟨_, rfl, wpAny_letOwnedTupleGo_zip (s := { s with heap := h' }) z' fun h'' z'' sb => ?_⟩
    have hT2 : h''.get? s.heap.objs.size = some { cls := .type "tuple", data := .seq #[u, u2] } := (sb.2 _ (Nat.ne_of_gt hzl)).trans hT
    have new : ObjOk X.prog X.w (upd H s.heap.objs.size (.tup [x, y])) h'' s.heap.objs.size (.tup [x, y]) :=
      ⟨by show 2 ≤ sizeLine; decide, [u, u2], .cons ru (.cons ru2 .nil), ⟨_, hT2, rfl, _, rfl⟩⟩
    have I1 : Inv X pins σ (upd H s.heap.objs.size (.tup [x, y])) { s with heap := h'' } :=
      I.turnedNew (t' := s.toks) (ch := [z, TI, TO, i1, i2]) (fun c o hb q => (sb.2 c (fun q' => hb (by simp [q']))).trans (hk c o (fun q' => hb (by simp [q'])) (fun q' => hb (by simp [q'])) (fun q' => hb (by simp [q'])) (fun q' => hb (by simp [q'])) q)) hf (Nat.le_refl _) new
    refine ⟨.ref s.heap.objs.size, _, I1, rfl, ⟨_, x, y, rfl, I.hok.fresh (Nat.le_refl _), rfl, fun l hl => by rw [I.list_inj hl hqx]; exact hx, fun l hl => by rw [I.list_inj hl hqy]; exact hy⟩, ⟨z'', ?_, ⟨u, u2, ?_⟩, ?_, ?_⟩, fun c hcm => ?_⟩
    · exact (sb.2 _ D.TIz).trans (hk _ _ D.TIz D.TITO D.TIi1 D.TIi2 hTI)
    · exact (sb.2 _ D.TOz).trans TO'
    · exact h1'.at fun o q => (sb.2 _ D.i1z).trans q
    · exact h2'.at fun o q => (sb.2 _ D.i2z).trans q
    · have hlt : c < s.heap.objs.size := by
        have e' : c = z ∨ c = TI ∨ c = TO ∨ c = i1 ∨ c = i2 := by simpa using hcm
        rcases e' with q | q | q | q | q
        · rw [q]; exact hzl
        · rw [q]; exact Heap.lt_size hTI
        · rw [q]; exact Heap.lt_size hTO
        · rw [q]; obtain ⟨_, e1, _⟩ := h1; exact Heap.lt_size e1
        · rw [q]; obtain ⟨_, e2, _⟩ := h2; exact Heap.lt_size e2
      rw [upd_ne (Nat.ne_of_lt hlt)]
      exact (hf c hcm).1
  done := by
    intro X hP hw hK hc i pins s σ H E I hf st hg
    subst hP hw hK
    obtain ⟨hz, hTI, ⟨x0, y0, hTO⟩, h1, h2⟩ := st
    obtain ⟨xs, ys, hqx, hqy, hend⟩ := hg
    obtain ⟨its, rv, p, _⟩ := I.list hqx
    have l1 := rv.length
    obtain ⟨q, ⟨hh, v1, d1, c1⟩, hq⟩ := hc
    have hq' : q ∈ X.pn ++ pins := List.mem_append_left _ hq
    have P1 := I.pin q hq'
    refine pyNext_zip_end_hot (x1 := q.1) ⟨hh, q.2, v1, P1.1, d1, c1⟩ ((hf z (by simp)).2.2.2.2.2 q hq') ((hf i1 (by simp)).2.2.2.2.2 q hq') D hz hTI hTO h1 p.isList (by simp; omega) fun h' hk => ⟨rfl, I.turnedL (t' := s.toks) (ch := [z, TI, TO, i1, i2]) (fun c o hb q =>
      hk c o (fun q' => hb (by simp [q'])) (fun q' => hb (by simp [q'])) (fun q' => hb (by simp [q'])) (fun q' => hb (by simp [q'])) q) hf⟩
  self := fun A i s Q E st h => wpAny_pyIter_zip st.1 h
def iZipF (K : PySem.W.Frag) (ta : TA) : TI := fun σ H R => ta σ H fun vs H1 => ∃ a b xs ys, vs = [.ref a, .ref b] ∧ SqL K H1 a xs ∧ SqL K H1 b ys ∧ R (ItzF K a b) H1
theorem pi_zipH {e e2 : Expr} {ta : TA} {p pos tpos : Pos} {elts : List Expr} {kk : Nat} (hg : Gl X "zip") (hm : X.mg "zip" = none) (ha : PA X [e, e2] ta)
    (hs : starEach [e, e2] X.env = (false, eval e X.env) :: starEach [e2] X.env := by rfl) (hpl : (backTo pos (starEach [e2] X.env)).any (·.1) = false := by rfl) :
    PIH X (.Tuple elts kk tpos) (.Call (.Name "zip" p) [e, e2] [] pos) (iZipF X.K ta) := by
  refine ⟨fun pins s σ H R I h => ?_⟩
  refine Call_ (ld_blt I hg hm PyProof.Rows.boot_zip (PyProof.Rows.callWith_type1 (thn (ha.run pos pins s σ H _ I h) fun us s1 ⟨vs, H1, I1, r1, q1⟩ => ?_) hs hpl))
  obtain ⟨a, b, xs, ys, ex, hqx, hqy, q⟩ := q1
  subst ex
  cases r1 with
  | cons r rr =>
    cases rr with
    | cons r' rr =>
      cases rr
      cases r
      cases r'
      have fresh5 : ∀ c, c ∈ [s1.heap.objs.size + 4, s1.heap.objs.size + 2, s1.heap.objs.size + 3, s1.heap.objs.size, s1.heap.objs.size + 1] → FpOk X pins H1 c := fun c hcm => by
        have e' : c = s1.heap.objs.size + 4 ∨ c = s1.heap.objs.size + 2 ∨ c = s1.heap.objs.size + 3 ∨ c = s1.heap.objs.size ∨ c = s1.heap.objs.size + 1 := by simpa using hcm
        have hle : s1.heap.objs.size ≤ c := by omega
        exact I1.fpOk hle (I1.hok.fresh hle)
      obtain ⟨its, rv, p1, _⟩ := I1.list hqx
      obtain ⟨its2, rv2, p2, _⟩ := I1.list hqy
      refine call_zip_2 p1.isList p2.isList fun h' hz hTI hTO h1 h2 hsz hk => wpAny_pyIter_zip hz ?_
      have I2 : Inv X pins σ H1 { s1 with heap := h' } := I1.kept (t' := s1.toks) hk
      exact ⟨s1.heap.objs.size + 4, [s1.heap.objs.size + 4, s1.heap.objs.size + 2, s1.heap.objs.size + 3, s1.heap.objs.size, s1.heap.objs.size + 1], _, _, H1, rfl, I2, turn_zipH (PySem.W.ktu_apart s1.heap.objs.size a b p1.lt p2.lt), ⟨hz, hTI, ⟨_, _, hTO⟩, h1, h2⟩, fresh5, q⟩
end
end PdH

end
section
set_option Elab.async false
set_option linter.all false
set_option maxRecDepth 100000
set_option maxHeartbeats 4000000
/-! While an exception is handled: a list comprehension. -/
namespace PdH
open PySem PySem.Spec PyProof.Rows L2 L2H HotX
/-- the block's context, the handled exception kept in sight -/
abbrev blkP (X : Cx) (s : Shared) (H : Hp) (scope : Scope) (cenv : Env) (fp : List Addr) (p : Addr × Obj) : Cx := { X.blk s H scope cenv fp with pn := [p] }
section
variable {X : Cx}
theorem inv_pin {s0 : Shared} {H0 : Hp} {scope : Scope} {cenv : Env} {fp : List Addr} {p : Addr × Obj} {σ : L2.St} {H : Hp} {s : Shared} (I : Inv (X.blk s0 H0 scope cenv fp) [] σ H s)
    (hp : s.heap.get? p.1 = some p.2 ∧ H p.1 = none ∧ p.1 ≠ cenv.locals ∧ p.1 ∉ frs X.stack ∧ ∀ v, p.2.data ≠ .cell v) : Inv (blkP X s0 H0 scope cenv fp p) [] σ H s :=
  ⟨⟨I.ok.mod, I.ok.kind, I.ok.glob, I.ok.blt, I.ok.above, I.ok.inj, I.ok.has, I.ok.cab, I.ok.hd, I.ok.frames, I.ok.stk, I.ok.exf, I.ok.bs, I.ok.bsz, I.ok.noex, I.ok.exfs, I.ok.funs, I.ok.frf⟩, I.os, I.bare, I.base, I.loc, I.cell, I.free, I.freeC, fun q hq => by
    have e : q = p := by simpa using (show q ∈ [p] ++ ([] : List (Addr × Obj)) from hq)
    rw [e]
    exact hp, I.hok, I.len⟩
theorem lcH_core {pins : List (Addr × Obj)} {s : Shared} {σ : L2.St} {H : Hp} {Q : VK} {elt tg iter : Expr} {ifs : List Expr} {scope : Scope} {own : List (Str × Nat)} {pos pos' : Pos} {wi : TI} {g : TG} {tt : TT} {te : TE} {use : Option (Value → Sem Unit)} {Qf : Value → Shared → Prop} {p : Addr × Obj}
    (hot : Hot1 X.A p) (hpX : p ∈ X.pn) (hN : X.N.Nodup) (I : Inv X pins σ H s) (hi : PIH X tg iter wi) (ok : BlkOk X.N X.env.scope scope own)
    (hg : ∀ (s : Shared) (H : Hp) (C : Addr) (cl : List (Str × Addr)) (fp : List Addr), PG (blkP X s H scope (compEnvC scope cl C X.env) fp p) tg g) (ht : ∀ (s : Shared) (H : Hp) (C : Addr) (cl : List (Str × Addr)) (fp : List Addr), PTs (blkP X s H scope (compEnvC scope cl C X.env) fp p) ifs tt)
    (he : ∀ (s : Shared) (H : Hp) (C : Addr) (cl : List (Str × Addr)) (fp : List Addr), PE (blkP X s H scope (compEnvC scope cl C X.env) fp p) elt te) (hs : ∀ x, foldedSetIterable iter X.env x = pure x)
    (h : tLc wi g tt te (own.map (·.2)) σ H Q)
    (hRR : ∀ D C s' m H', Inv X pins σ H' s' → Q (.ref D) H' → s'.heap.Ns C m → FpOk X pins H' C → compPost (model X.prog X.w) X.A X.xe use Qf (.ref D) C (.ok .next) s') :
    wpAny (model X.prog X.w) X.A (comprehension (.ListComp elt [⟨tg, iter, ifs, 0⟩] scope pos) scope X.env pos' (newList []) false (eval iter X.env) use) Qf X.xe s := by
  have hfree : ∀ y ∈ scope.names, y.2 = .free → ∃ c, X.env.cells.lookup y.1 = some c := fun y hy e => by
    rcases ok.free y hy e with k | k
    · exact I.ok.has _ (.inl k)
    · exact I.ok.has _ (.inr k)
  refine wpAny_comprehension_free (use := use) rfl hs (closure_ok hfree) ok.kind (fun y hy e => by rw [ok.uniq y hy, e])
    (thn (hi.run pins s σ H _ I h) fun xv s1 hx => thn hx fun itv s2 h2 => ?_)
  obtain ⟨it, fp, tn, J, H2, e, I2, T, st2, f2, q⟩ := h2
  subst e
  refine wpAny_newObj_type (newEnv_comp ?_) (by show 0 ≤ sizeLine; decide)
  generalize hD : s2.heap.objs.size = D
  have hDn : H2 D = none := I2.hok.fresh (Nat.le_of_eq hD)
  obtain ⟨W, ⟨m0, w0⟩, turn⟩ := q D hDn
  generalize hs3 : ({ s2 with heap := s2.heap.push { cls := .type "list", data := .seq ([] : List Value).toArray } } : Shared) = s3
  have I3 : Inv X pins σ (upd H2 D (.lst [])) s3 := by
    rw [← hs3]
    refine I2.laid (t' := s2.toks) (fun b o e => Heap.get?_push_of_some _ e) (Nat.le_of_eq hD) ⟨Nat.zero_le _, [], 0, .nil, ?_⟩
    rw [← hD]
    exact Heap.get?_push_size _ rfl
  have h3 : s3.heap = s2.heap.push { cls := .type "list", data := .seq ([] : List Value).toArray } := by rw [← hs3]
  have sz : ∀ b ∈ fp, b < s2.heap.objs.size := fun b hb => by
    obtain ⟨o, e, _⟩ := T.obj _ _ st2 b hb
    exact Heap.lt_size e
  have f3 : ∀ b ∈ fp, FpOk X pins (upd H2 D (.lst [])) b ∧ b < s3.heap.objs.size := fun b hb => by
    have hlt := sz b hb
    refine ⟨⟨?_, (f2 b hb).2⟩, by rw [h3, Heap.size_push]; exact Nat.lt_succ_of_lt hlt⟩
    rw [upd_ne (by rw [← hD]; exact Nat.ne_of_lt hlt)]
    exact (f2 b hb).1
  have st3 : tn 0 s3.heap := T.keep _ _ _ st2 fun b _ o e => by rw [h3]; exact Heap.get?_push_of_some _ e
  have hpp : p ∈ X.pn ++ pins := List.mem_append_left _ hpX
  have P3 := I3.pin p hpp
  have I4 := block_start I3 ok hN f3
  have pg := hg s3 (upd H2 D (.lst [])) s3.heap.objs.size (cellsFrom (s3.heap.objs.size + 1) scope.names (cloFrom X.env.cells scope.names [])) fp
  have pt := ht s3 (upd H2 D (.lst [])) s3.heap.objs.size (cellsFrom (s3.heap.objs.size + 1) scope.names (cloFrom X.env.cells scope.names [])) fp
  have pe := he s3 (upd H2 D (.lst [])) s3.heap.objs.size (cellsFrom (s3.heap.objs.size + 1) scope.names (cloFrom X.env.cells scope.names [])) fp
  show codeAny _ _ (.compStart (.ListComp elt [⟨tg, iter, ifs, 0⟩] scope pos) 0 (.ref it) (.ref D) (compEnvC scope (cellsFrom (s3.heap.objs.size + 1) scope.names (cloFrom X.env.cells scope.names [])) s3.heap.objs.size X.env)) (compPost (model X.prog X.w) X.A X.xe use Qf (.ref D) s3.heap.objs.size) { s3 with heap := pushCells (s3.heap.push { cls := .type "dict", data := .dict #[] }) scope.names }
  have nfp : ∀ b ∈ fp, (upd H2 D (.lst [])) b = none := fun b hb => (f3 b hb).1.1
  generalize hce : compEnvC scope (cellsFrom (s3.heap.objs.size + 1) scope.names (cloFrom X.env.cells scope.names [])) s3.heap.objs.size X.env = ce at I4 pg pt pe ⊢
  have cL : ce.locals = s3.heap.objs.size := by subst hce; rfl
  generalize hH3 : upd H2 D (.lst []) = H3 at I3 I4 pg pt pe w0 nfp f3 P3
  generalize hs4 : ({ s3 with heap := pushCells (s3.heap.push { cls := .type "dict", data := .dict #[] }) scope.names } : Shared) = s4 at I4 ⊢
  have I4 : Inv (blkP X s3 H3 scope ce fp p) [] (wipe σ (own.map (·.2))) H3 s4 := by
    refine inv_pin I4 ⟨?_, P3.2.1, ?_, fun hm => (List.mem_cons.mp (I3.stkSub p.1 hm)).elim P3.2.2.1 P3.2.2.2.1, P3.2.2.2.2⟩
    · rw [← hs4]
      exact pushCells_keeps _ _ _ _ (Heap.get?_push_of_some _ P3.1)
    · rw [cL]
      exact Nat.ne_of_lt (Heap.lt_size P3.1)
  have hcb : HotC (blkP X s3 H3 scope ce fp p) := ⟨p, hot, by simp⟩
  have st4 : tn 0 s4.heap := T.keep _ _ _ st3 fun b _ o e => by rw [← hs4]; exact pushCells_keeps _ _ _ _ (Heap.get?_push_of_some _ e)
  have npf : ∀ b ∈ fp, p.1 ≠ b := fun b hb => (f2 b hb).2.2.2.2.2 p hpp
  have stat : ∀ {σ' : L2.St} {H' : Hp} {s' : Shared}, Inv (blkP X s3 H3 scope ce fp p) [] σ' H' s' → (∀ b ∈ fp, H' b = none) → ∀ b ∈ fp, FpOk (blkP X s3 H3 scope ce fp p) [] H' b := fun {σ' H' s'} I' hn b hb =>
    ⟨hn b hb, (I'.ok.exf b hb).1, I'.ok.exfs b hb, .inl hb, fun x c e => (I'.ok.exf b hb).2 x c e, fun q hq => by
      have e : q = p := by simpa using (show q ∈ [p] ++ ([] : List (Addr × Obj)) from hq)
      rw [e]
      exact npf b hb⟩
  have loop : codeAny (model X.prog X.w) X.A (.compLoop (.ListComp elt [⟨tg, iter, ifs, 0⟩] scope pos) 0 (.ref it) (.ref D) ce) (compPost (model X.prog X.w) X.A X.xe use Qf (.ref D) s3.heap.objs.size) s4 := by
    refine compLoop_any (fun n s' => ∃ i H', Inv (blkP X s3 H3 scope ce fp p) [] (wipe σ (own.map (·.2))) H' s' ∧ tn i s'.heap ∧ (∀ b ∈ fp, H' b = none) ∧ W i n H') ?_ m0 ⟨0, H3, I4, st4, nfp, w0⟩
    rintro n s5 ⟨i, H5, I5, st5, n5, w5⟩
    rcases turn i n H5 w5 with ⟨stop, qq⟩ | ⟨go, Nx, hNx, step⟩
    · have td := T.done (blkP X s3 H3 scope ce fp p) rfl rfl rfl hcb i [] s5 _ H5 (fun _ _ => False) I5 (stat I5 n5) st5 stop
      refine thnF td fun r s6 ⟨hr, I6⟩ => ?_
      subst hr
      have I7 : Inv X pins σ H5 s6 := I3.call' (ch := fp) I6.os I6.base I6.hok I6.bare fun b hb => ⟨(f3 b hb).1.2.2.2.1, (f3 b hb).1.2.1, (f3 b hb).1.2.2.2.2.1, (f3 b hb).1.2.2.2.2.2⟩
      have nC : H5 s3.heap.objs.size = none := by
        have z : H5 ce.locals = none := I6.free
        rw [cL] at z
        exact z
      obtain ⟨m, hn, _⟩ := I6.loc
      have hn : s6.heap.Ns ce.locals m := hn
      rw [cL] at hn
      exact hRR D s3.heap.objs.size s6 m H5 I7 qq hn (I3.fpOk (Nat.le_refl _) nC)
    · have ti := T.item (blkP X s3 H3 scope ce fp p) rfl rfl rfl hcb i [] s5 _ H5 (fun _ _ => False) I5 (stat I5 n5) st5 go
      refine thnF ti fun r s6 ⟨u, hr, h6⟩ => ?_
      subst hr
      refine thnF h6 fun _ s7 ⟨x, H7, I7, r7, y7, st7, n7⟩ => ?_
      have I7' := I7.pinned (stat I7 n7) (T.obj _ _ st7)
      refine thnF (pg.run _ s7 _ H7 x u _ I7' r7 (step x H7 y7)) fun _ s8 ⟨σ8, H8, I8, hw8, q8⟩ => ?_
      refine thnF (pt.run _ s8 σ8 H8 _ I8 q8) fun b s9 ⟨H9, I9, q9⟩ => ?_
      have fin : ∀ {s' : Shared} {H' : Hp}, Inv (blkP X s3 H3 scope ce fp p) ([] ++ pinsAt fp s7.heap) σ8 H' s' → Nx H' → ∃ m, m < n ∧ ∃ i H', Inv (blkP X s3 H3 scope ce fp p) [] (wipe σ (own.map (·.2))) H' s' ∧ tn i s'.heap ∧ (∀ b ∈ fp, H' b = none) ∧ W i m H' := fun {s' H'} I' nx => by
        obtain ⟨m', hm, w'⟩ := hNx H' nx
        have pin' : ∀ b ∈ fp, ∀ o, s7.heap.get? b = some o → s'.heap.get? b = some o ∧ H' b = none := fun b hb o e =>
          let z := I'.pin (b, o) (List.mem_append_right _ (List.mem_append_right _ (mem_pinsAt hb e)))
          ⟨z.1, z.2.1⟩
        have hl : (wipe σ (own.map (·.2))).length = σ8.length := by rw [← hw8, wipe_length]
        refine ⟨m', hm, i + 1, H', (I'.unpinned (pins := [])).weak hl (fun j v e => ?_), T.keep _ _ _ st7 fun b hb o e => (pin' b hb o e).1, fun b hb => ?_, w'⟩
        · rw [← hw8] at e
          exact (wipe_some e).1
        · obtain ⟨o, e, _⟩ := T.obj _ _ st7 b hb
          exact (pin' b hb o e).2
      cases b with
      | false =>
        simp only [Bool.false_eq_true, if_false] at q9 ⊢
        exact fin I9 q9
      | true =>
        simp only [if_true] at q9 ⊢
        refine thnF (pe.run _ s9 σ8 H9 _ I9 q9) fun z s10 ⟨yv, H10, I10, r10, acc, hD10, hz10, nx⟩ => ?_
        exact app_ok (X := blkP X s3 H3 scope ce fp p) I10 hD10 hz10 r10 fun s11 I11 => fin I11 nx
  exact codeAny_compStart_list loop (T.self X.A 0 _ _ _ st4 loop)
theorem pe_lcH {elt tg iter : Expr} {ifs : List Expr} {scope : Scope} {own : List (Str × Nat)} {pos : Pos} {wi : TI} {g : TG} {tt : TT} {te : TE} {p : Addr × Obj} (hot : Hot1 X.A p) (hpX : p ∈ X.pn) (hN : X.N.Nodup) (hi : PIH X tg iter wi) (ok : BlkOk X.N X.env.scope scope own)
    (hg : ∀ (s : Shared) (H : Hp) (C : Addr) (cl : List (Str × Addr)) (fp : List Addr), PG (blkP X s H scope (compEnvC scope cl C X.env) fp p) tg g) (ht : ∀ (s : Shared) (H : Hp) (C : Addr) (cl : List (Str × Addr)) (fp : List Addr), PTs (blkP X s H scope (compEnvC scope cl C X.env) fp p) ifs tt)
    (he : ∀ (s : Shared) (H : Hp) (C : Addr) (cl : List (Str × Addr)) (fp : List Addr), PE (blkP X s H scope (compEnvC scope cl C X.env) fp p) elt te) (hs : ∀ x, foldedSetIterable iter X.env x = pure x := by intro _; rfl) :
    PE X (.ListComp elt [⟨tg, iter, ifs, 0⟩] scope pos) (tLc wi g tt te (own.map (·.2))) := by
  refine ⟨fun pins s σ H Q I h => ?_⟩
  rw [eval_ListComp]
  refine lcH_core hot hpX hN I hi ok hg ht he hs h fun D C s' m H' I' q hn f => ⟨m, hn, fun h'' sb => ?_⟩
  obtain ⟨f0, f1, f2, f3, f4, f5⟩ := f
  exact ⟨.ref D, H', I'.turned (t' := s'.toks) (fun b o hb e => (sb.2 b hb).trans e) f0 f1 f3 f4 f5, rfl, q⟩
end
end PdH

end
section
set_option Elab.async false
set_option linter.all false
set_option maxRecDepth 100000
set_option maxHeartbeats 4000000
/-! A def called while p is handled. -/
namespace PdH
open PySem PySem.Spec PyProof.Rows L2 L2H HotX
/-- a def's promise, p being handled -/
structure FnP (P : Program) (w : World) (K : PySem.W.Frag) (mg : Str → Option Value) (base : Heap) (CX : CXT) (k : Nat) (f : Addr) (fd : FuncData) (ps : List Str) (p : Addr × Obj) (sp : Sp) : Prop where
  len : ∀ vs H Q E, sp vs H Q E → vs.length = ps.length
  run : ∀ (A : Around) (outer : List Env) (s : Shared) (H : Hp) (args : Args) (us : List Value) (vs : List V) (Q : VK) (E : XK), RoomH k A → Hot1 A p → PinOk outer H s p → Env0 P w K mg base A outer s H → BindsTo s fd args (ps.zip us) → Vals vs us → sp vs H Q E →
    codeAny (model P w) A (.call (.ref f) args) (CR CX outer P w H s Q E) s
theorem fn_ofP {CX : CXT} {P : Program} {w : World} {K : PySem.W.Frag} {mg : Str → Option Value} {base : Heap} {k : Nat} {f : Addr} {fd : FuncData} {x qual : Str} {params : Arguments} {body : List Stmt} {scope : Scope} {dvs : List V} {kws : List (Str × V)}
    {N ps : List Str} {sp : Sp} {p : Addr × Obj} (F : FunD K x qual params body scope dvs kws f fd) (S : FnScope N ps scope) (len : ∀ vs H Q E, sp vs H Q E → vs.length = ps.length)
    (hbody : ∀ (cdv : Value) (A : Around) (outer : List Env) (s : Shared) (H : Hp) (vs : List V) (Q : VK) (E : XK), Hot1 A p → RoomH k (A.deeper (envOfC qual scope s.heap.objs.size f cdv)) → sp vs H Q E →
      ∃ t, PSs (cxH CX P w K mg base N qual scope f cdv A outer s H E p) body t ∧ t { nx := fun _ H' => Q .non H', rt := Q } (L2.start N vs) H) :
    FnP P w K mg base CX (k + 1) f fd ps p sp := by
  obtain ⟨oc, od, dV, kV, doc, pm, an, cdv, ct, osl, rfl, lk, hcd, _, _⟩ := F.ex
  refine ⟨len, fun A outer s H args us vs Q E hr hot hpin e0 hb r hsp => ?_⟩
  have hl := len _ _ _ _ hsp
  have KX : K.In s.heap := e0.mod.kin.keeps fun b o e => (e0.bs b o e).1
  have lim : s.heap.NoLimit := e0.mod.nolimit.keeps fun b o e => (e0.bs b o e).1
  have hkind : ∀ y ∈ ps.zip us, scope.names.lookup y.1 = some .local ∨ (scope.names.lookup y.1 = some .cell ∧ ((cellsFrom (s.heap.objs.size + 1) scope.names []).lookup y.1).isSome = true) := fun ⟨n, v⟩ hy => by
    rcases S.par n (List.of_mem_zip hy).1 with q | q
    · exact .inl q
    · exact .inr ⟨q, PySem.W.cellsFrom_some _ _ _ (.inl q)⟩
  refine codeAny_call_function hr.depth (KX _ _ lk) rfl S.co S.gen rfl (PySem.W.codeRec_of KX hcd) (hb _ _ _ _ ?_)
  refine wpAny_newFunctionEnv_cells S.kind hkind fun env he s1 x => ?_
  subst he
  refine ⟨lim.keeps x.toInCall.keep, codeAny_func ?_⟩
  obtain ⟨t, ht, hq⟩ := hbody cdv A outer s H vs Q E hot (hr.deeper _) hsp
  have I : Inv (cxH CX P w K mg base N qual scope f cdv A outer s H E p) [] (L2.start N vs) H s1 := inv_startH S hpin e0 hl r x
  refine wpAny_mono (ht.run [] s1 (L2.start N vs) H _ I hq) (fun fl s' hs => ?_) fun e s' hs => hs
  have fin : ∀ {σ' : L2.St} {H' : Hp} {v : V} {u : Value}, Inv (cxH CX P w K mg base N qual scope f cdv A outer s H E p) [] σ' H' s' → RelV v u → Q v H' → CE outer P w H s Q u s' :=
    fun {σ' H' v u} J rv q => ⟨v, H', J.os, J.bare, J.base, J.hok, rv, q⟩
  cases fl with
  | ret u =>
    obtain ⟨v, σ', H', J, rv, q⟩ := hs
    exact fin J rv q
  | next =>
    obtain ⟨σ', H', J, q⟩ := hs
    exact fin (v := V.non) (u := Value.none) J rfl q
  | brk =>
    obtain ⟨_, _, _, q⟩ := hs
    exact False.elim q
  | cont =>
    obtain ⟨_, _, _, q⟩ := hs
    exact False.elim q
section
variable {X : Cx} {CX : CXT} {k : Nat} {f : Addr} {fd : FuncData} {ps : List Str} {sp : Sp} {E : L2.St → XK} {x : Str} {q pos : Pos} {e : Expr} {es : List Expr} {t : TA} {p : Addr × Obj}
theorem pe_callP (F : FnP X.prog X.w X.K X.mg X.base CX k f fd ps p sp) (hr : RoomH k X.A) (hot : Hot1 X.A p) (hp : p ∈ X.pn) (hg : Gl X x) (hm : X.mg x = some (.ref f)) (hk : PySem.W.keepIn X.K (.ref f) = true) (hb : Binds X.K fd ps []) (hx : ∀ σ, PassesAt CX X σ (E σ))
    (ha : PA X (e :: es) t) (hdb : (x == ("__debug__" : Str)) = false := by decide) (he : starEach (e :: es) X.env = (false, eval e X.env) :: starEach es X.env := by rfl) (hpl : (backTo pos (starEach es X.env)).any (·.1) = false := by rfl) :
    PE X (.Call (.Name x q) (e :: es) [] pos) (tCallS sp E t) := by
  refine ⟨fun pins s σ H Q I h => ?_⟩
  refine wpAny_Call_Name_kw (ld_glob I hg hm ?_ hdb)
  refine PySem.W.callWith_K (h₀ := X.base) I.ok.mod.kin hk (thn (ha.run pos pins s σ H _ I h) fun us s1 ⟨vs, H1, I1, r, q⟩ => ⟨I1.kIn, ?_⟩) he hpl
  have hl : us.length = ps.length := by rw [← r.length]; exact F.len _ _ _ _ q
  have b := hb s1 us I1.kIn (by rw [List.append_nil]; exact hl)
  rw [List.append_nil] at b
  have P1 := I1.pin p (List.mem_append_left _ hp)
  have hpin : PinOk X.stack H1 s1 p := ⟨P1.1, P1.2.1, fun hm => (List.mem_cons.mp (I1.stkSub p.1 hm)).elim P1.2.2.1 P1.2.2.2.1, P1.2.2.2.2⟩
  refine wpAny_call (codeAny_mono (F.run X.A X.stack s1 H1 ⟨us, []⟩ us vs Q (E σ) hr hot hpin I1.env0 b r q) fun r s' hq => ?_)
  cases r with
  | error e => exact hx σ pins H1 s1 e s' I1 hq
  | ok fl =>
    cases fl with
    | ret u => exact I1.after hq
    | next => exact False.elim hq
    | brk => exact False.elim hq
    | cont => exact False.elim hq
/-- isinstance(e, c), e the handled exception -/
theorem call_isP {D : Addr} (C : ExcC X.K D) (hp : p ∈ X.pn) (hz : L2N.Zn (.ref D) none p.2) (hf : ∃ vs, p.2.data = .fields vs) : CallR X (.builtin "isinstance") (rIsE X.K D p.1) := by
  intro pins s σ H xs us Q I r h
  obtain ⟨c, cv, b, rfl, hcv, e, q⟩ := h
  cases r with
  | cons rx rr =>
    cases rr with
    | cons rt rr =>
      cases rr
      cases rx
      have ec := hcv _ rt
      subst ec
      obtain ⟨hget, _⟩ := I.pin p (List.mem_append_left _ hp)
      obtain ⟨vs, hv⟩ := hf
      have J : PySem.W.InstAt s.heap p.1 p.2 D none := by
        obtain ⟨pa, oc, od, oda, osl⟩ := p
        obtain ⟨h1, h2, _⟩ := hz
        dsimp only at h1 h2 hv
        subst h1 h2 hv
        exact ⟨hget, rfl, rfl, trivial⟩
      exact PySem.W.kia_one (PySem.W.handS_kitx_exc C.hg C.hk C.hs C.hd C.ha C.hn C.ht C.hm) I.kIn J e (fun z => nomatch z) fun tk => ⟨.bl b, H, I.kept (t' := tk) fun _ _ z => z, rfl, q⟩
end
end PdH

end
section
set_option Elab.async false
set_option linter.all false
set_option maxRecDepth 100000
set_option maxHeartbeats 4000000
/-! The words that are picked. -/
namespace PdH
open PySem PySem.Spec PyProof.Rows L2 L2H HotX Pd
def pickF : Str × Bool → Option Str
  | (w, true) => some w
  | (_, false) => none
def pick (ws : List Str) (bs : List Bool) : List Str := (ws.zip bs).filterMap pickF
abbrev tNameT (K : PySem.W.Frag) (i : Nat) : TT := fun σ H Q => tVar i σ H fun x H' => ∃ k, TruV K x H' k ∧ Q k H'
theorem pick_lc {K : PySem.W.Frag} {a b D : Addr} {ws : List Str} {bs : List Bool} {vs : List Nat} {σ : L2.St} {H1 : Hp} {Qd : Hp → Prop} {iw ig : Nat} (hl : ws.length = bs.length) (hsz : ws.length < sizeLine) (hiw : iw ∈ vs) (hig : ig ∈ vs) (hne : iw ≠ ig) (liw : iw < σ.length) (lig : ig < σ.length)
    (ha : H1 a = some (.lst (ws.map V.str))) (hb : H1 b = some (.lst (bs.map V.bl))) (hD : H1 D = none) (hQ : ∀ H', Ext H1 H' → H' D = some (.lst ((pick ws bs).map V.str)) → Qd H') :
    ∃ W : Nat → Nat → Hp → Prop, (∃ m, W 0 m (upd H1 D (.lst []))) ∧ ∀ i m H, W i m H →
      ((ItzF K a b).stop i H ∧ Qd H) ∨ ((ItzF K a b).go i H ∧ ∃ Nx : Hp → Prop, (∀ H', Nx H' → ∃ m', m' < m ∧ W (i + 1) m' H') ∧ ∀ x H', (ItzF K a b).yld i H x H' → gTup K 2 (gCons (gName iw) (gCons (gName ig) gNil)) x (wipe σ vs) H' fun σ2 H2 => wipe σ2 vs = wipe σ vs ∧ tNameT K ig σ2 H2 fun b H3 =>
        if b = true then tVar iw σ2 H3 fun y H4 => ∃ acc, H4 D = some (.lst acc) ∧ acc.length < sizeLine ∧ Nx (upd H4 D (.lst (acc ++ [y]))) else Nx H3) := by
  generalize hz : ws.zip bs = zs
  have lz : zs.length = ws.length := by rw [← hz, List.length_zip]; omega
  refine ⟨fun i m H => m = zs.length - i ∧ i ≤ zs.length ∧ Ext H1 H ∧ H D = some (.lst (((zs.take i).filterMap pickF).map V.str)), ⟨_, rfl, Nat.zero_le _, Ext.new hD, upd_same⟩, ?_⟩
  rintro i m H ⟨rfl, hi, ex, hd⟩
  have qa := ex _ _ ha
  have qb := ex _ _ hb
  by_cases hlt : i < zs.length
  · have e : zs[i]? = some zs[i] := List.getElem?_eq_getElem hlt
    have e2 : zs[i] = (ws[i]'(by omega), bs[i]'(by omega)) := by
      subst hz
      rw [List.getElem_zip]
    generalize hw : ws[i]'(by omega) = wd at e2
    generalize hbb : bs[i]'(by omega) = bd at e2
    have ew : (ws.map V.str)[i]? = some (V.str wd) := by rw [List.getElem?_map, List.getElem?_eq_getElem (by omega), hw]; rfl
    have eb : (bs.map V.bl)[i]? = some (V.bl bd) := by rw [List.getElem?_map, List.getElem?_eq_getElem (by omega), hbb]; rfl
    have nxt : (zs.take (i + 1)).filterMap pickF = (zs.take i).filterMap pickF ++ (pickF (wd, bd)).toList := by
      rw [List.take_succ_eq_append_getElem hlt, List.filterMap_append, e2]
      cases bd <;> rfl
    refine .inr ⟨⟨_, _, V.str wd, V.bl bd, .of qa, .of qb, ew, eb⟩, fun H' => Ext H1 H' ∧ H' D = some (.lst (((zs.take (i + 1)).filterMap pickF).map V.str)), fun H' ⟨h1, h2⟩ => ⟨zs.length - (i + 1), by omega, rfl, hlt, h1, h2⟩, fun x H' hy => ?_⟩
    obtain ⟨t, x', y', rfl, ht, rfl, hx, hy⟩ := hy
    have hx' := hx _ (.of qa)
    have hy' := hy _ (.of qb)
    rw [ew] at hx'
    rw [eb] at hy'
    cases hx'
    cases hy'
    have exT : Ext H1 (upd H t (.tup [V.str wd, V.bl bd])) := ex.trans (Ext.new ht)
    have neD : D ≠ t := ne_of_none hd ht
    refine ⟨t, _, rfl, .of upd_same, rfl, _, _, rfl, _, _, rfl, rfl, ?_, ?_⟩
    · rw [wipe_set _ ig _ vs hig, wipe_set _ iw _ vs hiw]
      have ww : ∀ (us vs : List Nat), (∀ i ∈ vs, i ∈ us) → wipe (wipe σ vs) us = wipe σ us := by
        intro us vs
        induction vs with
        | nil => intro _; rfl
        | cons v vs ih =>
          intro hm
          show wipe ((wipe σ vs).set v none) us = _
          rw [wipe_set _ v none us (hm v List.mem_cons_self)]
          exact ih fun i hi => hm i (List.mem_cons_of_mem _ hi)
      exact ww vs vs fun _ h => h
    · refine ⟨V.bl bd, by rw [List.getElem?_set_self (by rw [List.length_set, wipe_length]; exact lig)], bd, rfl, ?_⟩
      cases bd with
      | false =>
        simp only [Bool.false_eq_true, if_false]
        refine ⟨exT, ?_⟩
        rw [upd_ne neD, nxt, hd]
        simp [pickF]
      | true =>
        simp only [if_true]
        refine ⟨V.str wd, by rw [List.getElem?_set_ne (Ne.symm hne), List.getElem?_set_self (by rw [wipe_length]; exact liw)], _, by rw [upd_ne neD]; exact hd, ?_, ?_, ?_⟩
        · rw [List.length_map]
          refine Nat.lt_of_le_of_lt (List.length_filterMap_le _ _) ?_
          rw [List.length_take]
          omega
        · intro c o h
          have ne : c ≠ D := fun z => by rw [z, hD] at h; cases h
          rw [upd_ne ne]
          exact exT c o h
        · rw [upd_same, nxt]
          simp [pickF]
  · have e : i = zs.length := by omega
    subst e
    refine .inl ⟨⟨_, _, .of qa, .of qb, by rw [List.length_map]; omega⟩, hQ H ex ?_⟩
    rw [hd, List.take_length]
    unfold pick
    rw [hz]
end PdH

end
section
set_option Elab.async false
set_option linter.all false
set_option maxRecDepth 100000
set_option maxHeartbeats 4000000
/-! A lambda handed to a def that tells errors. -/
namespace PdH
open PySem PySem.Spec PyProof.Rows L2 L2H HotX LamX
abbrev lamXe (X : Cx) (A : Around) (outer : List Env) (s : Shared) (H : Hp) (E : XK) (scope : Scope) (f c' : Addr) : Value → Shared → Prop := fun e s' => wpAny (model X.prog X.w) (A.deeper (lamEnv X scope s.heap.objs.size f c')) (leaving (lamEnv X scope s.heap.objs.size f c') e) (fun _ s'' => L2N.CX X.prog X.w outer H s E e s'') (fun e' s'' => L2N.CX X.prog X.w outer H s E e' s'') s'
/-- the context of the lambda's body -/
abbrev lamCxN (X : Cx) (A : Around) (outer : List Env) (s : Shared) (H : Hp) (E : XK) (scope : Scope) (f c' : Addr) : Cx := (lamCx X A outer s H E scope f c').tr [] (lamXe X A outer s H E scope f c')
section
variable {X : Cx} {pins : List (Addr × Obj)} {σ : L2.St} {H HZ : Hp} {s s1 : Shared}
theorem pe_actN {CXg : CXT} {Eg : XK} {Ng : List Str} {qg : Str} {sg : Scope} {g f c' : Addr} {cdg pm ctv : Value} {params : Arguments} {body : Expr} {scope : Scope} {k i : Nat} {a : Str} {pn : List (Addr × Obj)} {xe : Value → Shared → Prop} {W : WX} {E : XK} {tb : TE} {p1 p2 : Pos}
    (I : Inv X pins σ H s) (L : LamS X.env.scope scope) (hf : s.heap.get? f = some (PySem.W.kla_obj "<lambda>" (X.env.qual ++ "<lambda>") params body scope (cloFrom X.env.cells scope.names []) pm c' ctv)) (hfn : H f = none) (hfr : f ∉ frs X.stack)
    (hbind : bindArgs (PySem.W.kla_fn "<lambda>" (X.env.qual ++ "<lambda>") params body scope (cloFrom X.env.cells scope.names []) pm (.ref c') ctv) ⟨[], []⟩ = pure [])
    (tk : L2N.Takes ((cxOf CXg X.prog X.w X.K X.mg X.base Ng qg sg g cdg X.A X.stack s H Eg).tr pn xe) W) (hW : ∀ cls d σ' H', E cls d H' → W cls d σ' H') (hr : Room (k + 1) (X.A.deeper (envOfC qg sg s.heap.objs.size g cdg)))
    (hbody : ∀ (A : Around) (outer : List Env) (s : Shared) (H : Hp), Room k (A.deeper (lamEnv X scope s.heap.objs.size f c')) → PE (lamCxN X A outer s H E scope f c') body tb)
    (hN : Ng[i]? = some a) (hv : Vis sg a) (hd : (a == ("__debug__" : Str)) = false := by decide) (hcd : (a == ("__classdict__" : Str)) = false := by decide) :
    PE ((cxOf CXg X.prog X.w X.K X.mg X.base Ng qg sg g cdg X.A X.stack s H Eg).tr pn xe) (.Call (.Name a p1) [] [] p2)
      (fun σZ HZ Q => σZ[i]? = some (some (.ref f)) ∧ HZ c' = some (CodeO c' (X.env.qual ++ "<lambda>")) ∧ tb σ HZ Q) := by
  refine ⟨fun pinsZ sZ σZ HZ Q IZ h => ?_⟩
  obtain ⟨hs, hc, ht⟩ := h
  refine wpAny_Call_Name_kw (thn ((pe_var (pos := p1) (i := i) hN hv hd hcd).run pinsZ sZ σZ HZ (fun v H1 => v = .ref f ∧ H1 = HZ) IZ ⟨.ref f, hs, rfl, rfl⟩) fun u s1 ⟨v, H1, I1, r1, q1⟩ => ?_)
  obtain ⟨ev, eH⟩ := q1
  subst ev
  rw [eH] at I1
  obtain rfl : u = Value.ref f := r1
  have of1 : s1.heap.get? f = some (PySem.W.kla_obj "<lambda>" (X.env.qual ++ "<lambda>") params body scope (cloFrom X.env.cells scope.names []) pm c' ctv) := I1.base.keep f _ hf hfn hfr (fun z => nomatch (show f ∈ ([] : List Addr) from z))
  refine PySem.W.callWith_F0 ⟨_, _, _, _, of1⟩ ?_
  have un : Un (frs X.stack) [] H HZ s.heap s1.heap := I1.base
  obtain ⟨⟨oc, vs, t, hoc, hdc, hvc⟩, _, _⟩ := I1.hok c' _ hc
  have rc : codeAny (model X.prog X.w) (X.A.deeper (envOfC qg sg s.heap.objs.size g cdg)) (.call (.ref f) ⟨[], []⟩) (CR (L2N.CX X.prog X.w) (envOfC qg sg s.heap.objs.size g cdg :: X.stack) X.prog X.w HZ s1 Q E) s1 := by
    refine PySem.W.kla_callFunE hr.depth of1 rfl L.co L.gen rfl ⟨c', oc, vs, t, rfl, hoc, hdc, hvc⟩ ?_
    rw [hbind]
    refine wpAny_pure (wpAny_newFunctionEnv (fun y hy => (L.own y hy).2) (fun y hy => absurd hy (by simp)) (fun h₁ hns hsb => ⟨I1.nolimit.fresh _ hsb, ?_⟩) L.kind)
    show codeAny _ _ (.expr body (lamEnv X scope s1.heap.objs.size f c')) _ _
    have kp : ∀ b o, s1.heap.get? b = some o → h₁.get? b = some o := fun b o e => hsb.extBut b o (Nat.ne_of_lt (Heap.lt_size e)) (Heap.get?_push_of_some _ e)
    have J0 : Inv (lamCx X (X.A.deeper (envOfC qg sg s.heap.objs.size g cdg)) (envOfC qg sg s.heap.objs.size g cdg :: X.stack) s1 HZ E scope f c') [] σ HZ { s1 with heap := h₁, toks := s1.toks + ([] : List (Str × Value)).length } :=
      lam_start2 I L I1.env0 hr.hd un hns kp
    have J : Inv (lamCxN X (X.A.deeper (envOfC qg sg s.heap.objs.size g cdg)) (envOfC qg sg s.heap.objs.size g cdg :: X.stack) s1 HZ E scope f c') [] σ HZ { s1 with heap := h₁, toks := s1.toks + ([] : List (Str × Value)).length } := J0.toTry _
    refine PySem.W.kla_codeExpr (wpAny_mono ((hbody _ _ s1 HZ (hr.deeper _)).run [] _ _ HZ Q J ht) (fun v s' hq => ?_) fun e s' hq => hq)
    obtain ⟨w', H', J', rv, q⟩ := hq
    exact ⟨w', H', J'.os, J'.bare, J'.base, J'.hok, rv, q⟩
  have hx : Passes (L2N.CX X.prog X.w) ((cxOf CXg X.prog X.w X.K X.mg X.base Ng qg sg g cdg X.A X.stack s H Eg).tr pn xe) E := L2N.passes_call tk hW
  refine wpAny_call (codeAny_mono rc fun r s' hq => ?_)
  cases r with
  | error e => exact hx pinsZ σZ HZ s1 e s' I1 hq
  | ok fl =>
    cases fl with
    | ret u => exact I1.after hq
    | next => exact False.elim hq
    | brk => exact False.elim hq
    | cont => exact False.elim hq
end
/-- the def that calls what it got -/
def GivesN (X : Cx) (k : Nat) (Ng : List Str) (x : Str) (sg : Scope) (g : Addr) (cdg : Value) (bg : List Stmt) (a : Str) (q : Str) (TT : (XK → Hp → VK → Prop) → Hp → VK → Prop) : Prop :=
  ∀ (f c' : Addr) (s : Shared) (H : Hp) (Q : VK) (tl : XK → Hp → VK → Prop), Room k (X.A.deeper (envOfC x sg s.heap.objs.size g cdg)) →
    (∀ (W : WX) (pn : List (Addr × Obj)) (xe : Value → Shared → Prop) (E : XK) (p1 p2 : Pos), L2N.Takes ((cxOf C8.CX0 X.prog X.w X.K X.mg X.base Ng x sg g cdg X.A X.stack s H C8.E0).tr pn xe) W → (∀ cls d σ' H', E cls d H' → W cls d σ' H') →
      PE ((cxOf C8.CX0 X.prog X.w X.K X.mg X.base Ng x sg g cdg X.A X.stack s H C8.E0).tr pn xe) (.Call (.Name a p1) [] [] p2) (fun σZ HZ Q => σZ[0]? = some (some (.ref f)) ∧ HZ c' = some (CodeO c' q) ∧ tl E HZ Q)) →
    H c' = some (CodeO c' q) → TT tl H Q →
    ∃ t, PSs (cxOf C8.CX0 X.prog X.w X.K X.mg X.base Ng x sg g cdg X.A X.stack s H C8.E0).nox bg t ∧ t { nx := fun _ H' => Q .non H', rt := Q } (L2.start Ng [.ref f]) H
section
variable {X : Cx}
/-- x(lambda: body) -/
theorem pe_lamN {T : List (Addr × Str)} {TT : (XK → Hp → VK → Prop) → Hp → VK → Prop} {x a : Str} {g c P : Addr} {k : Nat} {pg : Arguments} {bg : List Stmt} {sg : Scope} {fd : FuncData} {Ng : List Str}
    {params : Arguments} {body : Expr} {scope : Scope} {t : XK → TE} {p lpos pos : Pos} (hg : Gl X x) (hm : X.mg x = some (.ref g))
    (F : FunD X.K x x pg bg sg [] [] g fd) (hb : L2.Binds X.K fd [a] []) (Sg : FnScope Ng [a] sg) (hNg : Ng[0]? = some a) (hva : Vis sg a)
    (hG : ∀ cdv, GivesN X (k + 1) Ng x sg g cdv bg a (X.env.qual ++ "<lambda>") TT)
    (TB : TabB X.base X.mg c P) (hcode : X.env.code = .ref c) (hmT : (P, X.env.qual ++ "<lambda>") ∈ T) (hu : ∀ p ∈ T, p.1 = P → p.2 = X.env.qual ++ "<lambda>") (hr : Room (k + 2) X.A) (L : LamS X.env.scope scope) (hdef : defaultsOf params X.env = ([], []))
    (hbind : ∀ (q : Str) (cl : List (Str × Addr)) (pm cv ctv : Value), bindArgs (PySem.W.kla_fn "<lambda>" q params body scope cl pm cv ctv) ⟨[], []⟩ = pure [])
    (hbody : ∀ (A : Around) (outer : List Env) (s : Shared) (H : Hp) (E : XK) (f c' : Addr), Room k (A.deeper (lamEnv X scope s.heap.objs.size f c')) → PE (lamCxN X A outer s H E scope f c') body (t E))
    (hdb : (x == ("__debug__" : Str)) = false := by decide) (hd : (a == ("__debug__" : Str)) = false := by decide) (hcd : (a == ("__classdict__" : Str)) = false := by decide) :
    PE X (.Call (.Name x p) [.Lambda params body scope lpos] [] pos) (tLam T TT t) := by
  obtain ⟨oc, od, dV, kV, doc, pm, an, cdv, ct, osl, rfl, lk, hcg, _, _⟩ := F.ex
  refine ⟨fun pins s σ H Q I h => ?_⟩
  obtain ⟨hT, h⟩ := h
  refine wpAny_Call_Name_kw (ld_glob I hg hm ?_ hdb)
  refine PySem.W.callWith_K (h₀ := X.base) I.ok.mod.kin F.kp ?_ (by rfl) (by rfl)
  show wpAny _ _ (spliced ((false, eval (.Lambda params body scope lpos) X.env) :: backTo pos (starEach [] X.env))) _ _ s
  refine Calls.spliced_cons (lam_make2 I TB hcode hmT hu hT hdef (L.has I.ok) fun f c' pm' ctv H1 s' I1 eN T1 hf hfn hfr hco => ?_)
  refine Calls.spliced_nil ⟨I1.kIn, ?_⟩
  have rc : codeAny (model X.prog X.w) X.A (.call (.ref g) ⟨[.ref f], []⟩) (CR C8.CX0 X.stack X.prog X.w H1 s' Q C8.E0) s' := by
    refine run_ofS (N := Ng) (ps := [a]) (us := [.ref f]) (vs := [.ref f]) lk hcg Sg hr I1.env0 (hb s' [.ref f] I1.kIn rfl) (.cons rfl .nil) rfl fun hr' => ?_
    obtain ⟨t', ht', hq'⟩ := hG cdv f c' s' H1 Q (fun E H' Q' => t E σ H' Q') hr' (fun W pn xe E p1 p2 tk hW => pe_actN (i := 0) I1 L hf hfn hfr (hbind _ _ _ _ _) tk hW hr' (fun A outer s H hr2 => hbody A outer s H E f c' hr2) hNg hva hd hcd) hco (h H1 eN T1)
    exact ⟨t', ht'.nox, hq'⟩
  refine wpAny_call (codeAny_mono rc fun r s2 hq => ?_)
  cases r with
  | error e => exact (show False from hq).elim
  | ok fl =>
    cases fl with
    | ret u => exact I1.after hq
    | next => exact False.elim hq
    | brk => exact False.elim hq
    | cont => exact False.elim hq
end
end PdH

end
section
set_option Elab.async false
set_option linter.all false
set_option maxRecDepth 100000
set_option maxHeartbeats 4000000
/-! From the text to the terms, and that the terms are true of it. -/
namespace Pd
open PySem PySem.Spec PyProof.Rows L2

/-- the module's names: defs (number, arity), constants, error classes (number); built-ins that no name hides -/
structure Gs where
  fn : Str → Option (Nat × Nat)
  con : Str → Option D
  exc : Str → Option Nat
  free : List Str
  lam : Option (Str × List Str) := none

/-! ### from the text to the terms -/
def ixOf (N : List Str) (x : Str) : Option Nat := match N.findIdx? (· == x) with
  | some i => if N[i]? = some x then some i else none
  | none => none
def vis (sc : Scope) (x : Str) : Bool := match sc.names.lookup x with
  | some .local => true
  | some .cell => true
  | some .free => true
  | _ => false
def glo (sc : Scope) (x : Str) : Bool := match sc.names.lookup x with
  | some .globalImplicit => true
  | _ => false
def trOp : Operator → Option Op
  | .Add => some .add | .Sub => some .sub | .Mult => some .mul | .FloorDiv => some .div | .Mod => some .mod | .Pow => some .pow
  | _ => none
def trCmp : CmpOp → Option Op
  | .Eq => some .eq | .NotEq => some .ne | .Lt => some .lt | .LtE => some .le | .Gt => some .gt | .GtE => some .ge | .Is => some .is | .IsNot => some .isNot | .In => some .in_ | .NotIn => some .notIn
def trConst : Const → Option D
  | .int i => some (.int i)
  | .str x => some (.str x)
  | .bool b => some (.bl b)
  | .none => some .non
  | _ => none
def plainName (x : Str) : Bool := !(x == ("__debug__" : Str)) && !(x == ("__classdict__" : Str)) && !(x == ("__name__" : Str))
def biOf (x : Str) (n : Nat) : Option Bi :=
  if n = 1 then (if x = "len" then some .len else if x = "abs" then some .abs else if x = "int" then some .int else if x = "bool" then some .bool else if x = "all" then some .all else if x = "any" then some .any
    else if x = "tuple" then some .tup else if x = "list" then some .lst else if x = "str" then some .str else none)
  else if n = 2 then (if x = "max" then some .max else if x = "min" then some .min else none) else none
def isiOf (x : Str) : Option String :=
  if x = "int" then some "int" else if x = "bool" then some "bool" else if x = "str" then some "str" else if x = "tuple" then some "tuple" else if x = "list" then some "list" else none
section
variable (G : Gs) (N : List Str)
def trName (sc : Scope) (x : Str) : Option E :=
  if plainName x then (if vis sc x then (ixOf N x).map .nm else if glo sc x then (match G.con x with
    | some d => some (.k d)
    | none => match G.fn x with
      | some (i, _) => some (.k (.fn i))
      | none => none) else none) else none
def isB (sc : Scope) (x : Str) : Bool := glo sc x && plainName x && G.free.contains x
/-- a target -/
def stor (blk : Option Scope) (sc : Scope) (x : Str) : Bool := match blk with
  | none => match sc.names.lookup x with
    | some .local => true
    | some .cell => true
    | _ => false
  | some b => match b.names.lookup x with
    | some .local => true
    | _ => false
def trG (blk : Option Scope) (sc : Scope) : Nat → Expr → Option Pd.G
  | 0, _ => none
  | n + 1, e => match e with
    | .Name x _ => if stor blk sc x then (ixOf N x).map .nm else none
    | .Tuple es _ _ => if es.all noStar then (es.mapM (trG blk sc n)).map .tup else none
    | _ => none
def isTupE : Expr → Bool
  | .Tuple _ _ _ => true
  | _ => false
variable (f f0 : Scope → Expr → Option E)
def trI (sc : Scope) (tg e : Expr) : Option It := match e with
  | .Call (.Name x p) [a] [] q => if isB G sc x && x == "range" then (f sc a).map .rng else if isB G sc x && x == "enumerate" && isTupE tg then (f sc a).map .enum else (f sc (.Call (.Name x p) [a] [] q)).map .seq
  | .Call (.Name x p) [a, b] [] q => if isB G sc x && x == "range" then (do let a ← f sc a; let b ← f sc b; pure (.rng2 a b)) else if isB G sc x && x == "zip" && isTupE tg then (do let a ← f sc a; let b ← f sc b; pure (.zip a b))
    else (f sc (.Call (.Name x p) [a, b] [] q)).map .seq
  | e => if noSet e then (f sc e).map .seq else none
def ownOf (scope : Scope) : List (Str × Nat) := scope.names.filterMap fun (n, k) => match k with
  | .local => (ixOf N n).map (n, ·)
  | .cell => (ixOf N n).map (n, ·)
  | _ => none
def trCall (sc : Scope) (keep : Bool) (x : Str) (es : List Expr) : Option E :=
  if glo sc x && plainName x && !G.free.contains x then (match G.fn x with
    | some (i, n) => if es.length = n then (es.mapM (f sc)).map (.call keep i) else none
    | none => none) else none
def trLC (sc : Scope) (elt tg iter : Expr) (ifs : List Expr) (scope : Scope) : Option E := do
  let own := ownOf N scope
  if blkC N sc scope own && noSet iter then
    let it ← trI G f sc tg iter
    let sc' := relS scope sc
    let g ← trG N (some scope) sc' 4 tg
    if g.slots.all fun i => (own.map (·.2)).contains i then
      let e ← f sc' elt
      match ifs with
      | [] => pure (.comp e g it none (own.map (·.2)))
      | [c] => do let c ← f sc' c; pure (.comp e g it (some c) (own.map (·.2)))
      | _ => none
    else none
  else none
def trIsi (sc : Scope) : List Expr → Option E
  | [a, .Name t _] => if isB G sc t then (do let n ← isiOf t; let a ← f sc a; pure (.bi (.isi n) [a])) else none
  | _ => none
def trSset (sc : Scope) : List Expr → Option E
  | [.Call (.Name y _) [a] [] _] => if isB G sc y && y == "set" then (do let a ← f sc a; pure (.bi .sset [a])) else none
  | _ => none
def trE1 (sc : Scope) (e : Expr) : Option E := match e with
  | .Name x _ => trName G N sc x
  | .Constant c _ _ => (trConst c).map .k
  | .BinOp a o b _ => do let o ← trOp o; let a ← f sc a; let b ← f sc b; pure (.op o a b)
  | .UnaryOp .USub a _ => do let a ← f sc a; pure (.neg a)
  | .UnaryOp .Not a _ => do let a ← f sc a; pure (.not a)
  | .Compare a [o] [b] _ => do let o ← trCmp o; let a ← f sc a; let b' ← f sc b; if noSet b then pure (.op o a b') else none
  | .Compare a [o, p] [b, c] _ => do let o ← trCmp o; let p ← trCmp p; let a ← f sc a; let b' ← f sc b; let c' ← f sc c; if noSet c then pure (.chain o p a b' c') else none
  | .BoolOp .And [a] _ => f sc a
  | .BoolOp .Or [a] _ => f sc a
  | .BoolOp .And (a :: b :: r) p => do let a ← f sc a; let b ← f sc (.BoolOp .And (b :: r) p); pure (.and a b)
  | .BoolOp .Or (a :: b :: r) p => do let a ← f sc a; let b ← f sc (.BoolOp .Or (b :: r) p); pure (.or a b)
  | .IfExp c a b _ => do let c ← f sc c; let a ← f sc a; let b ← f sc b; pure (.ite c a b)
  | .Tuple es _ _ => (es.mapM (f sc)).map .tup
  | .List es _ => (es.mapM (f sc)).map (.lst false)
  | .Subscript a (.Slice none none (some (.UnaryOp .USub (.Constant (.int 1) _ _) _)) _) _ => do let a ← f sc a; pure (.rev a)
  | .Subscript a (.Slice lo hi none _) _ => do
    let a ← f sc a
    let lo ← (match lo with
      | none => some none
      | some l => (f sc l).map some)
    let hi ← (match hi with
      | none => some none
      | some l => (f sc l).map some)
    pure (.slc a lo hi)
  | .Subscript a b _ => if noSlice b then (do let a ← f sc a; let b ← f sc b; pure (.op .idx a b)) else none
  | .Call (.Name x _) [.Lambda ⟨[], [], none, [], [], none, []⟩ body scope _] [] _ => (match G.lam with
    | some (y, nm) => if x == y && glo sc x && plainName x && LamX.lamSB sc scope then (f0 scope body).map (.lam nm) else none
    | none => none)
  | .Call (.Name x _) es [] _ => if isB G sc x then (if x = "isinstance" then trIsi G f sc es else if x = "sorted" then trSset G f sc es else (do let b ← biOf x es.length; let es ← es.mapM (f sc); pure (.bi b es))) else trCall G f sc false x es
  | .Call (.Attribute (.Name o op) m apos) [a] [] cpos => if apos.endLine == cpos.line then (if m = "append" then (do let o ← f sc (.Name o op); let a ← f sc a; pure (.push o a))
      else if m = "pop" then (match a with
        | .Constant (.int 0) _ _ => do let o ← f sc (.Name o op); pure (.pop0 o)
        | _ => none) else none) else none
  | .ListComp elt [⟨tg, iter, ifs, 0⟩] scope _ => trLC G N f sc elt tg iter ifs scope
  | _ => none
end
def Gs.noLam (G : Gs) : Gs := { G with lam := none }
def trE : Nat → Gs → List Str → Scope → Expr → Option E
  | 0, _, _, _, _ => none
  | n + 1, G, N, sc, e => trE1 G N (trE n G N) (trE n G.noLam N) sc e

/-! ### the context -/
/-- where a lambda may be made -/
def LamHere (T : Tab) (k : Nat) (X : Cx) : Prop := ∃ c P, LamX.TabB X.base X.mg c P ∧ X.env.code = .ref c ∧ (P, X.env.qual ++ "<lambda>") ∈ T.tabs ∧ (∀ p ∈ T.tabs, p.1 = P → p.2 = X.env.qual ++ "<lambda>") ∧ Room (3 * k + 2) X.A
structure CxOk (T : Tab) (k : Nat) (N : List Str) (sc : Scope) (blk : Option Scope) (lm : Bool) (X : Cx) : Prop where
  hP : X.prog = T.P
  hw : X.w = T.w
  hK : X.K = T.K
  hmg : X.mg = T.mg
  hB : X.base = T.base
  hN : X.N = N
  nd : N.Nodup
  hsc : X.env.scope = sc
  calm : X.calm = true
  room : Room (3 * k) X.A
  lamc : lm = true → LamHere T k X
  fns : blk = none → ∀ x, X.fn x = true
  blks : ∀ b, blk = some b → ∃ sc0, sc = relS b sc0
  pass : PassesOwn (model X.prog X.w) X.A X.env X.xe
  kind : sc.kind = .function
/-- what the error teller makes of a lambda -/
def TErrN (ca : Nat → Addr) (nm : List Str) : (XK → Hp → VK → Prop) → Hp → VK → Prop := fun tl H Q => tl (fun cls d H' => ∃ c t, nm[c]? = some t ∧ cls = .ref (ca c) ∧ d = none ∧ ∀ H'', Ext H' H'' → Q (.str t) H'') H fun _ H' => Q (.str ("" : Str)) H'
/-- the error teller -/
def LamF (T : Tab) (x : Str) (nm : List Str) : Prop := ∃ (g : Addr) (pg : Arguments) (bg : List Stmt) (sg : Scope) (fd : FuncData) (Ng : List Str) (a : Str), T.mg x = some (.ref g) ∧ FunD T.K x x pg bg sg [] [] g fd ∧ Binds T.K fd [a] [] ∧ FnScope Ng [a] sg ∧ Ng[0]? = some a ∧ Vis sg a ∧
  (a == ("__debug__" : Str)) = false ∧ (a == ("__classdict__" : Str)) = false ∧ ∀ (X : Cx) (cdv : Value) (q : Str) (k : Nat), X.prog = T.P → X.w = T.w → X.K = T.K → X.mg = T.mg → X.base = T.base → PdH.GivesN X (k + 1) Ng x sg g cdv bg a q (TErrN T.ca nm)
/-- the facts of the module's names, at level k -/
structure TabOk (T : Tab) (G : Gs) (C : Nat → List D → M D) (k : Nat) : Prop where
  fn : ∀ x i n, G.fn x = some (i, n) → T.mg x = some (.ref (T.fa i)) ∧ PySem.W.keepIn T.K (.ref (T.fa i)) = true ∧ ∃ fd ps, FnOk T.P T.w T.K T.mg T.base (L2N.CX T.P T.w) (3 * k) (T.fa i) fd ps (spD T n (C i)) ∧ Binds T.K fd ps []
  con : ∀ x d, G.con x = some d → ∃ v u, T.mg x = some u ∧ RelV v u ∧ ∀ cs F, Rep T cs F v d
  free : ∀ x, x ∈ G.free → T.mg x = none
  exc : ∀ x c, G.exc x = some c → T.mg x = some (.ref (T.ca c)) ∧ PySem.W.keepIn T.K (.ref (T.ca c)) = true ∧ PySem.W.excIn T.K (T.ca c) He.veBase "ValueError.__new__" = true ∧
    PySem.W.subIn T.K (.ref (T.ca c)) (.type "BaseException") = some true ∧ PySem.W.typeIn T.K (.ref (T.ca c)) = some (.type "type")
  lam : ∀ x nm, G.lam = some (x, nm) → LamF T x nm
theorem ixOf_ok {N : List Str} {x : Str} {i : Nat} (h : ixOf N x = some i) : N[i]? = some x := by
  unfold ixOf at h
  split at h
  · split at h
    · rename_i e
      cases h
      exact e
    · cases h
  · cases h
theorem vis_ok {sc : Scope} {x : Str} (h : vis sc x = true) : Vis sc x := by
  unfold vis at h
  split at h
  · exact .inl (by assumption)
  · exact .inr (.inl (by assumption))
  · exact .inr (.inr (by assumption))
  · cases h
theorem plain_ok {x : Str} (h : plainName x = true) : (x == ("__debug__" : Str)) = false ∧ (x == ("__classdict__" : Str)) = false ∧ x ≠ "__name__" := by
  unfold plainName at h
  simp only [Bool.and_eq_true, Bool.not_eq_true'] at h
  exact ⟨h.1.1, h.1.2, fun e => by rw [e] at h; exact absurd h.2 (by decide +kernel)⟩
section
variable {T : Tab} {G : Gs} {C : Nat → List D → M D} {k : Nat} {N : List Str} {sc : Scope} {blk : Option Scope} {lm : Bool} {X : Cx}
theorem CxOk.vis (c : CxOk T k N sc blk lm X) {x : Str} (h : Pd.vis sc x = true) : Vis X.env.scope x := by rw [c.hsc]; exact vis_ok h
theorem CxOk.glo (c : CxOk T k N sc blk lm X) {x : Str} (h : Pd.glo sc x = true) : Gl X x := by
  unfold Pd.glo at h
  split at h
  · rename_i e
    show X.env.scope.names.lookup x = some .globalImplicit
    rw [c.hsc]
    exact e
  · cases h
theorem CxOk.stor (c : CxOk T k N sc blk lm X) {x : Str} (h : Pd.stor blk sc x = true) : Loc X.env.scope x ∧ (X.fn x = true ∨ X.env.scope.names.lookup x = some .local) := by
  rw [c.hsc]
  cases hb : blk with
  | none =>
    rw [hb] at h
    unfold Pd.stor at h
    refine ⟨?_, .inl (c.fns hb x)⟩
    simp only at h
    split at h
    · exact .inl (by assumption)
    · exact .inr (by assumption)
    · cases h
  | some b =>
    rw [hb] at h
    unfold Pd.stor at h
    simp only at h
    split at h
    · rename_i e
      obtain ⟨sc0, rfl⟩ := c.blks b hb
      have e2 : (relS b sc0).names.lookup x = some .local := lookup_relS_keep (by decide) e
      exact ⟨.inl e2, .inr e2⟩
    · cases h
theorem CxOk.hu (c : CxOk T k N sc blk lm X) : X.A.units + 65 < cLine := by have := c.room.un; omega
end
end Pd

end
section
set_option Elab.async false
set_option linter.all false
set_option maxRecDepth 100000
set_option maxHeartbeats 4000000
/-! The terms are true of the text: expressions. -/
namespace Pd
open PySem PySem.Spec PyProof.Rows L2

def plainE : E → Bool
  | .not _ => false
  | .and _ _ => false
  | .or _ _ => false
  | .ite _ _ _ => false
  | _ => true
theorem denT_plain {C : Nat → List D → M D} {e : E} (h : plainE e = true) : denT C e = asTest C e := by
  funext ρ
  cases e <;> first | (rw [denT]; rfl; all_goals (intros; rename_i hh; cases hh)) | rfl | cases h
theorem passLN {X : Cx} : Passes (L2N.CX X.prog X.w) X E0 := fun _ _ _ _ _ _ _ h => by
  obtain ⟨_, _, _, _, _, _, _, _, _, _, _, _, z⟩ := h
  exact z.elim
def isBool : Expr → Bool
  | .BoolOp _ _ _ => true
  | _ => false
def SndAt (T : Tab) (C : Nat → List D → M D) (X : Cx) (W : WX) (e : Expr) (ir : E) : Prop :=
  PE X e (tF T W (den C ir)) ∧ PT X e (tFT T W (denT C ir)) ∧ noStar e = true ∧ (isBool e = true → PW X e (tFT T W (denT C ir)))
def Snd (T : Tab) (C : Nat → List D → M D) (k : Nat) (N : List Str) (lm : Bool) (f : Scope → Expr → Option E) : Prop :=
  ∀ sc blk X W e ir, CxOk T k N sc blk lm X → L2N.Takes X W → f sc e = some ir → SndAt T C X W e ir
section
variable {T : Tab} {G : Gs} {C : Nat → List D → M D} {k : Nat} {N : List Str} {sc : Scope} {blk : Option Scope} {lm : Bool} {X : Cx} {W : WX} {f : Scope → Expr → Option E}
theorem PT.false {e : Expr} {t : TT} (h : ∀ σ H Q, t σ H Q → False) : PT X e t := ⟨fun _ _ σ H Q _ w => (h σ H Q w).elim⟩
/-- a plain form's truth is its value's -/
theorem snd_plain {e : Expr} {ir : E} (c : CxOk T k N sc blk lm X) (h : PE X e (tF T W (den C ir))) (hp : plainT e = true) (hi : plainE ir = true) (hs : noStar e = true) (hb : isBool e = false) : SndAt T C X W e ir := by
  refine ⟨h, ?_, hs, fun z => by rw [hb] at z; cases z⟩
  refine PT.imp (pt_truth h (isTrue_of hp)) fun σ H Q q => ?_
  rw [denT_plain hi] at q
  rw [c.hK]
  exact tFT_val q
theorem opR {o : Op} {op : Operator} (c : CxOk T k N sc blk lm X) (h : trOp op = some o) : ∃ r, OpR X (binaryOp op) r ∧ OpS T r o.g := by
  have hK := c.hK
  cases op <;> cases h
  · exact ⟨_, by rw [← hK]; exact op_addA, sem_add⟩
  · exact ⟨_, op_subA, sem_sub⟩
  · exact ⟨_, by rw [← hK]; exact op_mulA, sem_mul⟩
  · exact ⟨_, op_mod, sem_mod⟩
  · exact ⟨_, op_pow, sem_pow⟩
  · exact ⟨_, op_divA, sem_div⟩
theorem cmpR {o : Op} {op : CmpOp} (c : CxOk T k N sc blk lm X) (h : trCmp op = some o) : o.isCmp = true ∧ ∃ r, OpR X (compareOp op) r ∧ OpS T r o.g := by
  have hK := c.hK
  have hu := c.hu
  cases op <;> cases h <;> refine ⟨rfl, ?_⟩
  · exact ⟨_, by rw [← hK]; exact op_eqD (by omega), sem_eq⟩
  · exact ⟨_, by rw [← hK]; exact op_neD (by omega), sem_ne⟩
  · exact ⟨_, op_lt, sem_cmp _⟩
  · exact ⟨_, op_le, sem_cmp _⟩
  · exact ⟨_, op_gt, sem_cmp _⟩
  · exact ⟨_, op_ge, sem_cmp _⟩
  · exact ⟨_, op_isA, sem_is⟩
  · exact ⟨_, op_isNotA, sem_isNot⟩
  · exact ⟨_, by rw [← hK]; exact op_inA hu, sem_in⟩
  · exact ⟨_, by rw [← hK]; exact op_notInA hu, sem_notIn⟩
theorem some_bind {α β : Type} {o : Option α} {g : α → Option β} {b : β} (h : (do let a ← o; g a) = some b) : ∃ a, o = some a ∧ g a = some b := by
  cases o with
  | none => cases h
  | some a => exact ⟨a, rfl, h⟩
theorem some_map {α β : Type} {o : Option α} {g : α → β} {b : β} (h : o.map g = some b) : ∃ a, o = some a ∧ g a = b := by
  cases o with
  | none => cases h
  | some a => exact ⟨a, rfl, by simpa using h⟩
/-- argument lists -/
theorem snd_args (hf : Snd T C k N lm f) (c : CxOk T k N sc blk lm X) (tk : L2N.Takes X W) : ∀ {es : List Expr} {irs : List E}, es.mapM (f sc) = some irs → PA X es (tFA T W (denL C irs)) ∧ es.all noStar = true ∧ irs.length = es.length
  | [], irs, h => by
    cases h
    exact ⟨PA.imp pa_nil fun σ H Q q => tFA_nil q, rfl, rfl⟩
  | e :: es, irs, h => by
    rw [List.mapM_cons] at h
    obtain ⟨i, h1, h⟩ := some_bind h
    obtain ⟨is, h2, h⟩ := some_bind h
    cases h
    obtain ⟨p1, _, p3, _⟩ := hf sc blk X W e i c tk h1
    obtain ⟨q1, q2, q3⟩ := snd_args hf c tk h2
    refine ⟨PA.imp (pa_cons p1 q1 (starEach_cons p3)) fun σ H Q q => tFA_cons q, ?_, by rw [List.length_cons, List.length_cons, q3]⟩
    rw [List.all_cons, p3, q2]
    rfl
theorem biR {b : Bi} {x : Str} {n : Nat} {e : Expr} {es : List Expr} {pos p : Pos} {t : TA} (c : CxOk T k N sc blk lm X) (hb : biOf x n = some b) (hg : Gl X x) (hm : X.mg x = none) (hp : plainName x = true) (ha : PA X (e :: es) t) (hs : (e :: es).all noStar = true) :
    ∃ r, PE X (.Call (.Name x p) (e :: es) [] pos) (tCB r t) ∧ CaS T r b.g := by
  obtain ⟨p1, p2, p3⟩ := plain_ok hp
  obtain ⟨s1, s2⟩ := Bool.and_eq_true_iff.mp (show (noStar e && es.all noStar) = true from hs)
  have he : starEach (e :: es) X.env = (false, eval e X.env) :: starEach es X.env := starEach_cons s1
  have hpl : (backTo pos (starEach es X.env)).any (·.1) = false := back_any _ _ _ s2
  have hK := c.hK
  have hc := c.calm
  unfold biOf at hb
  split at hb
  · split at hb
    · rename_i _ hx; subst hx; cases hb
      exact ⟨rLenA T.K, pe_callB (by rw [← hK]; exact call_len) hg hm boot_len ha p3 p1 he hpl, sem_len⟩
    split at hb
    · rename_i _ hx; subst hx; cases hb
      exact ⟨_, pe_callB call_abs hg hm boot_abs ha p3 p1 he hpl, sem_abs⟩
    split at hb
    · rename_i _ hx; subst hx; cases hb
      exact ⟨_, pe_callTy call_int1 hg hm boot_int ha p3 p1 he hpl, sem_int⟩
    split at hb
    · rename_i _ hx; subst hx; cases hb
      exact ⟨_, pe_callTy call_bool1 hg hm boot_bool ha p3 p1 he hpl, sem_bool⟩
    split at hb
    · rename_i _ hx; subst hx; cases hb
      exact ⟨rAll T.K, pe_callB (by rw [← hK]; exact cr_all hc) hg hm boot_all ha p3 p1 he hpl, sem_all⟩
    split at hb
    · rename_i _ hx; subst hx; cases hb
      exact ⟨rAny T.K, pe_callB (by rw [← hK]; exact cr_any hc) hg hm boot_any ha p3 p1 he hpl, sem_any⟩
    split at hb
    · rename_i _ hx; subst hx; cases hb
      exact ⟨rTupOf T.K, pe_callTy (by rw [← hK]; exact call_tuple_of) hg hm boot_tuple ha p3 p1 he hpl, sem_tup⟩
    split at hb
    · rename_i _ hx; subst hx; cases hb
      exact ⟨rLstOf T.K, pe_callTy (by rw [← hK]; exact call_list_of) hg hm boot_list ha p3 p1 he hpl, sem_lst⟩
    split at hb
    · rename_i _ hx; subst hx; cases hb
      exact ⟨_, pe_callTy call_str_int hg hm boot_str ha p3 p1 he hpl, sem_str⟩
    · cases hb
  · split at hb
    · split at hb
      · rename_i _ hx; subst hx; cases hb
        exact ⟨_, pe_callB (call_max2 hc) hg hm boot_max ha p3 p1 he hpl, sem_max⟩
      split at hb
      · rename_i _ hx; subst hx; cases hb
        exact ⟨_, pe_callB (call_min2 hc) hg hm boot_min ha p3 p1 he hpl, sem_min⟩
      · cases hb
    · cases hb
theorem isB_ok (tb : TabOk T G C k) (c : CxOk T k N sc blk lm X) {x : Str} (h : isB G sc x = true) : Gl X x ∧ X.mg x = none ∧ plainName x = true := by
  unfold isB at h
  simp only [Bool.and_eq_true] at h
  refine ⟨c.glo h.1.1, ?_, h.1.2⟩
  rw [c.hmg]
  exact tb.free x (List.contains_iff_mem.mp h.2)
theorem snd_name (tb : TabOk T G C k) (c : CxOk T k N sc blk lm X) {x : Str} {p : Pos} {ir : E} (h : trName G N sc x = some ir) : PE X (.Name x p) (tF T W (den C ir)) ∧ plainE ir = true := by
  unfold trName at h
  split at h
  · rename_i hp
    obtain ⟨p1, p2, p3⟩ := plain_ok hp
    split at h
    · rename_i hv
      obtain ⟨i, h1, rfl⟩ := some_map h
      exact ⟨PE.imp (pe_var (by rw [c.hN]; exact ixOf_ok h1) (c.vis hv) p1 p2) fun σ H Q q => tF_nm q, rfl⟩
    · split at h
      · rename_i hg
        split at h
        · rename_i d hd
          cases h
          obtain ⟨v, u, h1, h2, h3⟩ := tb.con x d hd
          exact ⟨PE.imp (pe_glob (c.glo hg) (by rw [c.hmg]; exact h1) h2 p1) fun σ H Q q => tF_k h3 q, rfl⟩
        · split at h
          · rename_i i n hfn
            cases h
            obtain ⟨h1, _⟩ := tb.fn x i n hfn
            exact ⟨PE.imp (pe_glob (v := .ref (T.fa i)) (c.glo hg) (by rw [c.hmg]; exact h1) rfl p1) fun σ H Q q => tF_k (fun _ _ => .fn i) q, rfl⟩
          · cases h
      · cases h
  · cases h
theorem snd_call (tb : TabOk T G C k) (hf : Snd T C k N lm f) (c : CxOk T k N sc blk lm X) (tk : L2N.Takes X W) {keep : Bool} {x : Str} {es : List Expr} {p pos : Pos} {ir : E} (h : trCall G f sc keep x es = some ir) :
    PE X (.Call (.Name x p) es [] pos) (tF T W (den C ir)) ∧ plainE ir = true := by
  unfold trCall at h
  split at h
  · rename_i hg
    simp only [Bool.and_eq_true] at hg
    obtain ⟨p1, p2, p3⟩ := plain_ok hg.1.2
    split at h
    · rename_i i n hfn
      split at h
      · rename_i hlen
        obtain ⟨irs, h1, rfl⟩ := some_map h
        obtain ⟨g1, g2, fd, ps, g3, g4⟩ := tb.fn x i n hfn
        obtain ⟨a1, a2, a3⟩ := snd_args hf c tk h1
        have F : FnOk X.prog X.w X.K X.mg X.base (L2N.CX X.prog X.w) (3 * k) (T.fa i) fd ps (spD T n (C i)) := by
          rw [c.hP, c.hw, c.hK, c.hmg, c.hB]
          exact g3
        have hm : X.mg x = some (.ref (T.fa i)) := by rw [c.hmg]; exact g1
        have hkp : PySem.W.keepIn X.K (.ref (T.fa i)) = true := by rw [c.hK]; exact g2
        have hbd : Binds X.K fd ps [] := by rw [c.hK]; exact g4
        cases es with
        | nil =>
          cases h1
          have e0 : n = 0 := by rw [← hlen]; rfl
          subst e0
          exact ⟨PE.imp (pe_call0 F c.room (c.glo hg.1.1) hm hkp hbd .nil passLN p1) fun σ H Q q => tF_call0 q, rfl⟩
        | cons e es =>
          obtain ⟨s1, s2⟩ := Bool.and_eq_true_iff.mp (show (noStar e && es.all noStar) = true from a2)
          refine ⟨PE.imp (pe_callS F c.room (c.glo hg.1.1) hm hkp hbd (fun σ => L2N.passAt tk σ) a1 p1 (starEach_cons s1) (back_any _ _ _ s2)) fun σ H Q q => tF_call (by rw [a3]; exact hlen) (fun z => ?_) q, rfl⟩
          rw [z] at a3
          simp at a3
      · cases h
    · cases h
  · cases h
end
end Pd

end
section
set_option Elab.async false
set_option linter.all false
set_option maxRecDepth 100000
set_option maxHeartbeats 4000000
/-! The terms are true of the text: expressions, part two. -/
namespace Pd
open PySem PySem.Spec PyProof.Rows L2
section
variable {T : Tab} {G : Gs} {C : Nat → List D → M D} {k : Nat} {N : List Str} {sc : Scope} {blk : Option Scope} {lm : Bool} {X : Cx} {W : WX} {f : Scope → Expr → Option E}
/-- a walk over a list, a tuple, a text -/
theorem pi_any {tg l : Expr} {tl : TE} (hl : PE X l tl) : PI X tg l (fun σ H R' => tl σ H fun x H1 =>
    (∃ a, x = .ref a ∧ (∃ xs, SqL X.K H1 a xs) ∧ R' (Itl X.K a) H1) ∨ (∃ a, x = .ref a ∧ (∃ xs, SqT X.K H1 a xs) ∧ R' (Itt X.K a) H1) ∨ ∃ z, x = .str z ∧ R' (Its z) H1) := by
  refine ⟨fun pins s σ H R I h => ?_⟩
  refine thn (hl.run pins s σ H _ I h) fun v s1 ⟨x, H1, I1, r1, q1⟩ => ?_
  rcases q1 with ⟨a, e, ⟨xs, hq⟩, q⟩ | ⟨a, e, ⟨xs, hq⟩, q⟩ | ⟨z, e, q⟩
  · subst e
    cases r1
    obtain ⟨its, rv, p, hz⟩ := I1.list hq
    refine wpAny_pyIter_list p.isList ?_
    refine ⟨s1.heap.objs.size, [s1.heap.objs.size], _, _, H1, rfl, I1.kept (t' := s1.toks) fun b o e => Heap.get?_push_of_some _ e, turn_list a _, ⟨_, Heap.get?_push_size _ rfl, rfl, rfl⟩, fun b hb => ?_, q⟩
    have e : b = s1.heap.objs.size := by simpa using hb
    subst e
    exact I1.fpOk (Nat.le_refl _) (I1.hok.fresh (Nat.le_refl _))
  · subst e
    cases r1
    obtain ⟨its, rv, p, hz⟩ := I1.tuple hq
    refine wpAny_pyIter_tuple (show s1.heap.IsTuple a its.toArray from p) ?_
    refine ⟨s1.heap.objs.size, [s1.heap.objs.size], _, _, H1, rfl, I1.kept (t' := s1.toks) fun b o e => Heap.get?_push_of_some _ e, turn_tuple a _, ⟨_, Heap.get?_push_size _ rfl, rfl, rfl⟩, fun b hb => ?_, q⟩
    have e : b = s1.heap.objs.size := by simpa using hb
    subst e
    exact I1.fpOk (Nat.le_refl _) (I1.hok.fresh (Nat.le_refl _))
  · subst e
    obtain ⟨t, rfl⟩ := r1
    cases ha : z.cps.all (· < 128)
    · exact wpAny_pyIter_wide ha (pi_one (tk := s1.toks) I1 _ (turn_str _ z t "str_iterator" (.inr rfl)) ⟨_, Heap.get?_push_size _ rfl, rfl, rfl⟩ q)
    · exact wpAny_pyIter_ascii ha (pi_one (tk := s1.toks) I1 _ (turn_str _ z t "str_ascii_iterator" (.inl rfl)) ⟨_, Heap.get?_push_size _ rfl, rfl, rfl⟩ q)
theorem pi_seq (hf : Snd T C k N lm f) (c : CxOk T k N sc blk lm X) (tk : L2N.Takes X W) {tg e : Expr} {ir : E} (h : f sc e = some ir) : PI X tg e (tI T W (denI C (.seq ir))) := by
  refine PI.imp (pi_any (hf sc blk X W e ir c tk h).1) fun σ H R' q => ?_
  rw [c.hK]
  exact tI_seq q
theorem star1 {e : Expr} {env : Env} (h : noStar e = true) : starEach [e] env = [(false, eval e env)] := starEach_cons h
theorem sndI (tb : TabOk T G C k) (hf : Snd T C k N lm f) (c : CxOk T k N sc blk lm X) (tk : L2N.Takes X W) {tg e : Expr} {it : It} (h : trI G f sc tg e = some it) : PI X tg e (tI T W (denI C it)) := by
  unfold trI at h
  split at h
  · rename_i x p a q
    split at h
    · rename_i hb
      obtain ⟨hb, hx⟩ := Bool.and_eq_true_iff.mp hb
      have hx := eq_of_beq hx
      subst hx
      obtain ⟨hg, hm, _⟩ := isB_ok tb c hb
      obtain ⟨i, h1, rfl⟩ := some_map h
      obtain ⟨p1, _, p3, _⟩ := hf sc blk X W a i c tk h1
      exact PI.imp (pi_range1 hg hm (pa_cons p1 pa_nil (starEach_cons p3)) (star1 p3)) fun σ H R' q => tI_rng q
    · split at h
      · rename_i hb
        simp only [Bool.and_eq_true] at hb
        obtain ⟨⟨hb, hx⟩, ht⟩ := hb
        have hx := eq_of_beq hx
        subst hx
        obtain ⟨hg, hm, _⟩ := isB_ok tb c hb
        obtain ⟨i, h1, rfl⟩ := some_map h
        obtain ⟨p1, _, p3, _⟩ := hf sc blk X W a i c tk h1
        cases tg <;> first
          | (cases ht; done)
          | (refine PI.imp (pi_enum hg hm (pa_cons p1 pa_nil (starEach_cons p3)) (star1 p3)) fun σ H R' q => ?_
             rw [c.hK]
             exact tI_enum q)
      · obtain ⟨i, h1, rfl⟩ := some_map h
        exact pi_seq hf c tk h1
  · rename_i x p a b q
    split at h
    · rename_i hb
      obtain ⟨hb, hx⟩ := Bool.and_eq_true_iff.mp hb
      have hx := eq_of_beq hx
      subst hx
      obtain ⟨hg, hm, _⟩ := isB_ok tb c hb
      obtain ⟨i, h1, h⟩ := some_bind h
      obtain ⟨j, h2, h⟩ := some_bind h
      cases h
      obtain ⟨p1, _, p3, _⟩ := hf sc blk X W a i c tk h1
      obtain ⟨q1, _, q3, _⟩ := hf sc blk X W b j c tk h2
      exact PI.imp (pi_range2 hg hm (pa_cons p1 (pa_cons q1 pa_nil (starEach_cons q3)) (starEach_cons p3)) (by rw [starEach_cons p3, star1 q3]) (star1 q3)) fun σ H R' q => tI_rng2 q
    · split at h
      · rename_i hb
        simp only [Bool.and_eq_true] at hb
        obtain ⟨⟨hb, hx⟩, ht⟩ := hb
        have hx := eq_of_beq hx
        subst hx
        obtain ⟨hg, hm, _⟩ := isB_ok tb c hb
        obtain ⟨i, h1, h⟩ := some_bind h
        obtain ⟨j, h2, h⟩ := some_bind h
        cases h
        obtain ⟨p1, _, p3, _⟩ := hf sc blk X W a i c tk h1
        obtain ⟨q1, _, q3, _⟩ := hf sc blk X W b j c tk h2
        cases tg <;> first
          | (cases ht; done)
          | (refine PI.imp (RZ.pi_zipA hg hm (pa_cons p1 (pa_cons q1 pa_nil (starEach_cons q3)) (starEach_cons p3)) (starEach_cons p3) (by rw [star1 q3]; rfl)) fun σ H R' q => ?_
             rw [c.hK]
             exact tI_zip q)
      · obtain ⟨i, h1, rfl⟩ := some_map h
        exact pi_seq hf c tk h1
  · split at h
    · obtain ⟨i, h1, rfl⟩ := some_map h
      exact pi_seq hf c tk h1
    · cases h
/-- targets -/
theorem sndG : ∀ (n : Nat) {blk : Option Scope} {sc : Scope} {X : Cx} {e : Expr} {g : Pd.G}, CxOk T k N sc blk lm X → trG N blk sc n e = some g → PG X e (tGr T g)
  | 0, _, _, _, _, _, _, h => by cases h
  | n + 1, blk, sc, X, e, g, c, h => by
    have ih : ∀ (es : List Expr) (gs : List Pd.G), es.all noStar = true → es.mapM (trG N blk sc n) = some gs → PGs X es (tGrs T gs) ∧ gs.length = es.length := by
      intro es
      induction es with
      | nil =>
        intro gs _ h
        cases h
        exact ⟨PGs.imp pgs_nil fun us σ H Q q => tGrs_nil us σ H Q q, rfl⟩
      | cons e es ih2 =>
        intro gs hs h
        obtain ⟨s1, s2⟩ := Bool.and_eq_true_iff.mp (show (noStar e && es.all noStar) = true from hs)
        rw [List.mapM_cons] at h
        obtain ⟨i, h1, h⟩ := some_bind h
        obtain ⟨is, h2, h⟩ := some_bind h
        cases h
        obtain ⟨a1, a2⟩ := ih2 is s2 h2
        exact ⟨PGs.imp (pgs_cons (sndG n c h1) a1 (by rw [assignEach_cons s1]; rfl)) fun us σ H Q q => tGrs_cons us σ H Q q, by rw [List.length_cons, List.length_cons, a2]⟩
    unfold trG at h
    split at h
    · split at h
      · rename_i hst
        obtain ⟨i, h1, rfl⟩ := some_map h
        obtain ⟨l1, l2⟩ := c.stor hst
        exact PG.imp (pg_name (by rw [c.hN]; exact c.nd) (by rw [c.hN]; exact ixOf_ok h1) l1 l2) fun v σ H Q q => tGr_nm v σ H Q q
      · cases h
    · rename_i es kk pos
      split at h
      · rename_i hs
        obtain ⟨gs, h1, rfl⟩ := some_map h
        obtain ⟨a1, a2⟩ := ih es gs hs h1
        obtain ⟨f1, f2⟩ := assign_find (env := X.env) es hs
        refine PG.imp (pg_tup c.calm a1 f2 f1) fun v σ H Q q => ?_
        rw [c.hK]
        exact tGr_tup a2 v σ H Q q
      · cases h
    · cases h
end
end Pd

end
section
set_option Elab.async false
set_option linter.all false
set_option maxRecDepth 100000
set_option maxHeartbeats 4000000
/-! The terms are true of the text: expressions, part three. -/
namespace Pd
open PySem PySem.Spec PyProof.Rows L2
theorem lookup_names_kind {b sc : Scope} : (relS b sc).kind = b.kind := rfl
section
variable {T : Tab} {G : Gs} {C : Nat → List D → M D} {k : Nat} {N : List Str} {sc : Scope} {blk : Option Scope} {lm : Bool} {X : Cx} {W : WX} {f : Scope → Expr → Option E}
theorem PTs.imp {es : List Expr} {t t' : TT} (h : PTs X es t) (i : ∀ σ H Q, t' σ H Q → t σ H Q) : PTs X es t' := ⟨fun pins s σ H Q I w => h.run pins s σ H Q I (i σ H Q w)⟩
theorem tFT_yes {σ : L2.St} {H : Hp} {Q : Bool → Hp → Prop} (h : tFT T W (denC C none) σ H Q) : tYes σ H Q := by
  obtain ⟨F, cs, ρ, S, g, re, hl, h⟩ := h
  rw [denC] at h
  exact h F H cs Fr.refl g
theorem ptsNil : PTs X [] (tFT T W (denC C none)) := PTs.imp pts_nil fun σ H Q q => tFT_yes q
theorem takes00 {X : Cx} : L2N.Takes X W0 := fun _ _ x => by
  obtain ⟨_, _, _, _, _, _, _, _, _, _, _, _, _, _, _, _, z⟩ := x
  exact z.elim
/-- a comprehension's own block -/
theorem CxOk.inner (c : CxOk T k N sc blk lm X) {scope : Scope} (hk : scope.kind = .function) (s : Shared) (H : Hp) (A : Addr) (cl : List (Str × Addr)) (fp : List Addr) : CxOk T k N (relS scope sc) (some scope) lm (X.blk s H scope (compEnvC scope cl A X.env) fp) where
  hP := c.hP
  hw := c.hw
  hK := c.hK
  hmg := c.hmg
  hB := c.hB
  hN := c.hN
  nd := c.nd
  hsc := by
    show relabel scope X.env = relS scope sc
    rw [← c.hsc]
    rfl
  calm := c.calm
  room := c.room
  lamc := fun h => c.lamc h
  fns := fun h => by cases h
  blks := fun b h => by cases h; exact ⟨sc, rfl⟩
  pass := PassesOwn.never
  kind := hk
/-- what a comprehension is made of -/
theorem lcParts (tb : TabOk T G C k) (hf : Snd T C k N lm f) (c : CxOk T k N sc blk lm X) (tk : L2N.Takes X W) {elt tg iter : Expr} {ifs : List Expr} {scope : Scope} {ir : E} (h : trLC G N f sc elt tg iter ifs scope = some ir) :
    ∃ (wi : TI) (g : TG) (tt : TT) (te : TE), PI X tg iter wi ∧ BlkOk X.N X.env.scope scope (ownOf N scope) ∧
      (∀ (s : Shared) (H : Hp) (A : Addr) (cl : List (Str × Addr)) (fp : List Addr), PG (X.blk s H scope (compEnvC scope cl A X.env) fp) tg g) ∧
      (∀ (s : Shared) (H : Hp) (A : Addr) (cl : List (Str × Addr)) (fp : List Addr), PTs (X.blk s H scope (compEnvC scope cl A X.env) fp) ifs tt) ∧
      (∀ (s : Shared) (H : Hp) (A : Addr) (cl : List (Str × Addr)) (fp : List Addr), PE (X.blk s H scope (compEnvC scope cl A X.env) fp) elt te) ∧
      (∀ x, foldedSetIterable iter X.env x = pure x) ∧ plainE ir = true ∧
      ∀ σ H Q, tF T W (den C ir) σ H Q → tLc wi g tt te ((ownOf N scope).map (·.2)) σ H Q := by
  unfold trLC at h
  simp only at h
  split at h
  · rename_i hb
    obtain ⟨hb, hs⟩ := Bool.and_eq_true_iff.mp hb
    obtain ⟨it, h1, h⟩ := some_bind h
    obtain ⟨g, h2, h⟩ := some_bind h
    split at h
    · rename_i hsl
      obtain ⟨e, h3, h⟩ := some_bind h
      have ok : BlkOk X.N X.env.scope scope (ownOf N scope) := by
        rw [c.hN, c.hsc]
        exact blkOk_by hb
      have hslots : ∀ i ∈ g.slots, i ∈ (ownOf N scope).map (·.2) := fun i hi => List.contains_iff_mem.mp (List.all_eq_true.mp hsl i hi)
      have hi := sndI tb hf c tk (tg := tg) h1
      have hc' := fun (s : Shared) (H : Hp) (A : Addr) (cl : List (Str × Addr)) (fp : List Addr) => c.inner (scope := scope) ok.kind s H A cl fp
      split at h
      · cases h
        exact ⟨_, _, _, _, hi, ok, fun s H A cl fp => sndG 4 (hc' s H A cl fp) h2, fun s H A cl fp => ptsNil (T := T) (W := W0) (C := C), fun s H A cl fp => (hf _ _ _ W0 elt e (hc' s H A cl fp) takes00 h3).1, fold_no hs, rfl, fun σ H Q q => tF_comp hslots q⟩
      · obtain ⟨c2, h4, h⟩ := some_bind h
        cases h
        refine ⟨_, _, _, _, hi, ok, fun s H A cl fp => sndG 4 (hc' s H A cl fp) h2, fun s H A cl fp => pts_one (hf _ _ _ W0 _ c2 (hc' s H A cl fp) takes00 h4).2.1, fun s H A cl fp => (hf _ _ _ W0 elt e (hc' s H A cl fp) takes00 h3).1, fold_no hs, rfl, fun σ H Q q => ?_⟩
        have e : tFT T W0 (denC C (some c2)) = tFT T W0 (denT C c2) := by
          congr 1
          funext ρ
          rw [denC]
        have q2 := tF_comp hslots q
        rw [e] at q2
        exact q2
      · cases h
    · cases h
  · cases h
theorem sndLC (tb : TabOk T G C k) (hf : Snd T C k N lm f) (c : CxOk T k N sc blk lm X) (tk : L2N.Takes X W) {elt tg iter : Expr} {ifs : List Expr} {scope : Scope} {pos : Pos} {ir : E} (h : trLC G N f sc elt tg iter ifs scope = some ir) :
    PE X (.ListComp elt [⟨tg, iter, ifs, 0⟩] scope pos) (tF T W (den C ir)) ∧ plainE ir = true := by
  obtain ⟨wi, g, tt, te, hi, ok, hg, ht, he, hs, hp, i⟩ := lcParts tb hf c tk h
  exact ⟨PE.imp (pe_lc c.calm (by rw [c.hN]; exact c.nd) hi ok hg ht he hs) i, hp⟩
end
end Pd

end
section
set_option Elab.async false
set_option linter.all false
set_option maxRecDepth 100000
set_option maxHeartbeats 4000000
/-! The terms are true of the text: expressions, part four. -/
namespace Pd
open PySem PySem.Spec PyProof.Rows L2
section
variable {T : Tab} {G : Gs} {C : Nat → List D → M D} {k : Nat} {N : List Str} {sc : Scope} {blk : Option Scope} {lm : Bool} {X : Cx} {W : WX} {f : Scope → Expr → Option E}
theorem tF_mono {f : Env' → M D} {σ : L2.St} {H : Hp} {Q Q' : VK} (h : tF T W f σ H Q) (i : ∀ x H', Q x H' → Q' x H') : tF T W f σ H Q' := by
  obtain ⟨F, cs, ρ, S, g, re, hl, h⟩ := h
  exact ⟨F, cs, ρ, S, g, re, hl, h.mono fun d S1 F1 H1 cs1 e1 g1 h1 v rv => i _ _ (h1 v rv)⟩
theorem tRev_of {a : E} {σ : L2.St} {H : Hp} {Q : VK} (h : tF T W (den C (.rev a)) σ H Q) : tRevA T.K (tF T W (den C a)) σ H Q := by
  obtain ⟨F, cs, ρ, S, g, re, hl, h⟩ := tF_revL h
  refine ⟨F, cs, ρ, S, g, re, hl, h.mono fun dx S1 F1 H1 cs1 e1 g1 h1 => ?_⟩
  intro x rx
  obtain ⟨F2, cs2, S2, dy, dz, g2, ry, e, q⟩ := h1 x rx
  unfold revD at e
  split at e
  · cases e
    obtain ⟨p, vs, rfl, hp, rp⟩ := tup_rep g2 ry
    refine ⟨p, vs, rfl, .inr ⟨hp, fun l nl => q _ _ _ (g2.frNew nl) (g2.new _ nl) (.tup (.of upd_same) ?_)⟩⟩
    exact (rp.mono (Ext.new (g2.free nl)) (Pre.refl _)).reverse
  · split at e
    · rename_i ds e2
      cases e
      obtain ⟨p, vs, rfl, hp, rp⟩ := seqL_rep g2 ry e2
      refine ⟨p, vs, rfl, .inl ⟨.of hp, fun l nl => q _ _ _ (g2.frNew nl) (g2.new _ nl) (.lst upd_same ?_)⟩⟩
      exact (rp.mono (Ext.new (g2.free nl)) (Pre.refl _)).reverse
    · cases e
theorem tF_sset {a : E} {σ : L2.St} {H : Hp} {Q : VK} (h : tF T W (den C (.bi .sset [a])) σ H Q) : tCB (rSortedSet T.w) (tCons (tCB (rSetLs T.K T.w) (tCons (tF T W (den C a)) tNil)) tNil) σ H Q := by
  obtain ⟨F, cs, ρ, S, g, re, hl, h⟩ := h
  rw [den, denL, denL] at h
  have h := After.bind h
  refine ⟨F, cs, ρ, S, g, re, hl, (After.bind h).mono fun dx S1 F1 H1 cs1 e1 g1 h1 => ?_⟩
  intro x rx
  have h2 : After T W σ F1 H1 cs1 (PV T Q) (caM biSset [dx] S1) := h1 F1 H1 cs1 Fr.refl g1
  unfold caM at h2
  cases e : biSset S1 [dx] with
  | none => rw [e] at h2; exact h2.elim
  | some dz =>
    rw [e] at h2
    unfold biSset at e
    cases e2 : seqL S1 dx with
    | none => simp only [e2] at e; cases e
    | some ds =>
      simp only [e2] at e
      cases e3 : intsD ds with
      | none => simp only [e3] at e; cases e
      | some ns =>
        simp only [e3] at e
        split at e
        · rename_i hz
          cases e
          have e4 := intsD_ok e3
          subst e4
          obtain ⟨p, vs, rfl, hp, rp⟩ := seqL_rep g1 rx e2
          have e5 := rp.ints
          subst e5
          refine ⟨p, ns, rfl, .of hp, hz, fun q c hq hc => ?_⟩
          refine ⟨q, _, c, rfl, upd_same, by omega, fun ns' p2 hs hm hl2 hp2 => ?_⟩
          have e6 : ns' = srt ns := rise_eq _ _ hs (srt_rise ns) fun k => by rw [hm k, srt_mem, decide_eq_true_eq]
          subst e6
          have g2 := g1.dust (SetO T.w q (fun j => decide (j ∈ ns)) c) hq
          have f2 := g1.frDust (o := SetO T.w q (fun j => decide (j ∈ ns)) c) hq
          exact h2 _ _ _ (f2.trans (g2.frNew hp2)) (g2.new _ hp2) _ (.lst upd_same (repL_ints _))
        · cases e
/-- a scope whose names stay as they are -/
theorem relS_id (b : Scope) : ∃ sc0, b = relS b sc0 := by
  refine ⟨{ b with kind := .module }, ?_⟩
  unfold relS
  have e : (b.names.map fun (x : Str × NameKind) => match x with
    | (n, k) => if (k == NameKind.free && ScopeKind.module == .function && b.names.lookup n == some .cell) then (n, NameKind.cell) else (n, k)) = b.names := by
    have h : ∀ x : Str × NameKind, (match x with
      | (n, k) => if (k == NameKind.free && ScopeKind.module == .function && b.names.lookup n == some .cell) then (n, NameKind.cell) else (n, k)) = x := by
      rintro ⟨n, k⟩
      have e : (ScopeKind.module == ScopeKind.function) = false := by decide
      simp [e]
    rw [List.map_congr_left fun x _ => h x, List.map_id']
  obtain ⟨a1, a2, a3, a4, a5⟩ := b
  simp only [Scope.mk.injEq]
  exact ⟨trivial, e.symm, trivial, trivial, trivial⟩
theorem Good.extN {F H H1 : Hp} {cs : List Addr} {S : Store} (g : Good T F H cs S) (e : LamX.ExtN H H1) (t : LamX.Tabs T.tabs H1) : Good T F H1 cs S ∧ Fr F H cs F H1 cs := by
  refine ⟨⟨fun a o h => e a o (g.sub a o h) fun ps z => g.noT a ps (by rw [h, z]), g.nd, g.len, fun k a ds h1 h2 => ?_, t, g.noT⟩, Ext.refl _, Pre.refl _, fun a o h1 h2 h3 hn => ⟨e a o h1 hn, h2, h3⟩⟩
  obtain ⟨f0, vs, hv, r⟩ := g.cell k a ds h1 h2
  exact ⟨f0, vs, e a _ hv (fun ps z => by cases z), r⟩
theorem Good.extH {F H H1 : Hp} {cs : List Addr} {S : Store} (g : Good T F H cs S) (e : Ext H H1) : Good T F H1 cs S ∧ Fr F H cs F H1 cs := g.extN (LamX.ExtN.of e) (g.tabs.ext e)
theorem tF_lam {nm : List Str} {e : E} {σ : L2.St} {H : Hp} {Q : VK} (h : tF T W (den C (.lam nm e)) σ H Q) : LamX.tLam T.tabs (TErrN T.ca nm) (fun E => tF T (fun c d _ H => E c d H) (den C e)) σ H Q := by
  obtain ⟨F, cs, ρ, S, g, re, hl, h⟩ := h
  rw [den] at h
  simp only [] at h
  refine ⟨g.tabs, fun H1 eN t1 => ?_⟩
  obtain ⟨g1, f1⟩ := g.extN eN t1
  refine ⟨F, cs, ρ, S, g1, re, hl, ?_⟩
  cases ev : den C e ρ S with
  | bad => rw [ev] at h; exact h
  | ok d S1 =>
    rw [ev] at h
    intro F2 H2 cs2 f2 g2 v rv
    have h' : After T W σ F H cs (PV T Q) (.ok (D.str ("" : Str)) S1) := h
    exact h' F2 H2 cs2 (f1.trans f2) g2 _ (.str _)
  | err c S1 =>
    rw [ev] at h
    simp only at h
    cases en : nm[c]? with
    | none => rw [en] at h; exact h.elim
    | some t =>
      rw [en] at h
      intro F2 H2 cs2 f2 g2
      refine ⟨c, t, en, rfl, rfl, fun H3 e3 => ?_⟩
      obtain ⟨g3, f3⟩ := g2.extH e3
      have h' : After T W σ F H cs (PV T Q) (.ok (D.str t) S1) := h
      exact h' F2 H3 cs2 ((f1.trans f2).trans f3) g3 _ (.str _)
theorem cxOk_lam (c : CxOk T k N sc blk lm X) {A : Around} {outer : List Env} {s : Shared} {H : Hp} {E : XK} {scope : Scope} {f c' : Addr} (hk : scope.kind = .function) (hr : Room (3 * k) (A.deeper (LamX.lamEnv X scope s.heap.objs.size f c'))) :
    CxOk T k N scope (some scope) false (PdH.lamCxN X A outer s H E scope f c') where
  hP := c.hP
  hw := c.hw
  hK := c.hK
  hmg := c.hmg
  hB := c.hB
  hN := c.hN
  nd := c.nd
  hsc := rfl
  calm := rfl
  room := hr
  lamc := fun h => by cases h
  fns := fun h => by cases h
  blks := fun b h => by cases h; exact relS_id _
  pass := passes_of rfl
  kind := hk
theorem snd_const {c : Const} {p : Pos} {kk : Nat} {d : D} (h : trConst c = some d) : PE X (.Constant c kk p) (tF T W (den C (.k d))) := by
  unfold trConst at h
  split at h
  · cases h; exact PE.imp pe_int fun σ H Q q => tF_k (fun _ _ => .int _) q
  · cases h; exact PE.imp pe_str fun σ H Q q => tF_k (fun _ _ => .str _) q
  · cases h; exact PE.imp pe_bl fun σ H Q q => tF_k (fun _ _ => .bl _) q
  · cases h; exact PE.imp pe_non fun σ H Q q => tF_k (fun _ _ => .non) q
  · cases h
theorem isi_ok {x n : String} (h : isiOf (Str.ofString x) = some n) : True := trivial
theorem snd_isi (tb : TabOk T G C k) (hf : Snd T C k N lm f) (c : CxOk T k N sc blk lm X) (tk : L2N.Takes X W) {es : List Expr} {p pos : Pos} {ir : E} (hb : isB G sc "isinstance" = true) (h : trIsi G f sc es = some ir) :
    PE X (.Call (.Name "isinstance" p) es [] pos) (tF T W (den C ir)) ∧ plainE ir = true := by
  obtain ⟨hg, hm, hp⟩ := isB_ok tb c hb
  unfold trIsi at h
  split at h
  · rename_i a t q
    split at h
    · rename_i hb2
      obtain ⟨hg2, hm2, hp2⟩ := isB_ok tb c hb2
      obtain ⟨n, h1, h⟩ := some_bind h
      obtain ⟨i, h2, h⟩ := some_bind h
      cases h
      obtain ⟨p1, _, p3, _⟩ := hf sc blk X W a i c tk h2
      have hT : ∃ y : String, bootBuiltins t = some (.type y) ∧ y = n := by
        unfold isiOf at h1
        split at h1
        · rename_i e; subst e; cases h1; exact ⟨_, boot_int, rfl⟩
        split at h1
        · rename_i e; subst e; cases h1; exact ⟨_, boot_bool, rfl⟩
        split at h1
        · rename_i e; subst e; cases h1; exact ⟨_, boot_str, rfl⟩
        split at h1
        · rename_i e; subst e; cases h1; exact ⟨_, boot_tuple, rfl⟩
        split at h1
        · rename_i e; subst e; cases h1; exact ⟨_, boot_list, rfl⟩
        · cases h1
      obtain ⟨y, hv, rfl⟩ := hT
      obtain ⟨q1, q2, q3⟩ := plain_ok hp2
      have pb : PE X (.Name t q) (tC (.ty y)) := pe_bltn hg2 hm2 hv rfl q3 q1
      refine ⟨PE.imp (pe_callB call_isi hg hm boot_isinstance (pa_cons p1 (pa_cons pb pa_nil) (starEach_cons p3)) (by decide) (by decide) (starEach_cons p3) rfl) fun σ H Q q => ?_, rfl⟩
      have q' := tFA_cons (tF_bi (sem_isi y) q)
      refine tF_mono q' fun x H1 q1 => ?_
      have q2 := tFA_nil q1
      obtain ⟨x', ex, q3⟩ := q2
      cases ex
      rw [c.hK]
      exact q3
    · cases h
  · cases h
end
end Pd

end
section
set_option Elab.async false
set_option linter.all false
set_option maxRecDepth 100000
set_option maxHeartbeats 4000000
/-! The terms are true of the text: expressions, part five. -/
namespace Pd
open PySem PySem.Spec PyProof.Rows L2
section
variable {T : Tab} {G : Gs} {C : Nat → List D → M D} {k : Nat} {N : List Str} {sc : Scope} {blk : Option Scope} {lm : Bool} {X : Cx} {W : WX} {f : Scope → Expr → Option E}
theorem snd_bi (tb : TabOk T G C k) (hf : Snd T C k N lm f) (c : CxOk T k N sc blk lm X) (tk : L2N.Takes X W) {x : Str} {es : List Expr} {p pos : Pos} {b : Bi} {is : List E} (hb : isB G sc x = true) (h1 : biOf x es.length = some b) (h2 : es.mapM (f sc) = some is) :
    PE X (.Call (.Name x p) es [] pos) (tF T W (den C (.bi b is))) := by
  obtain ⟨hg, hm, hp⟩ := isB_ok tb c hb
  obtain ⟨a1, a2, a3⟩ := snd_args hf c tk h2
  cases es with
  | nil =>
    unfold biOf at h1
    simp at h1
  | cons e es =>
    obtain ⟨r, b1, b2⟩ := biR c h1 hg hm hp a1 a2
    exact PE.imp b1 fun σ H Q q => tF_bi b2 q
theorem snd_sset (tb : TabOk T G C k) (hf : Snd T C k N lm f) (c : CxOk T k N sc blk lm X) (tk : L2N.Takes X W) {es : List Expr} {p pos : Pos} {ir : E} (hb : isB G sc "sorted" = true) (h : trSset G f sc es = some ir) :
    PE X (.Call (.Name "sorted" p) es [] pos) (tF T W (den C ir)) ∧ plainE ir = true := by
  unfold trSset at h
  split at h
  · split at h
    · rename_i hb2
      obtain ⟨hb2, hy⟩ := Bool.and_eq_true_iff.mp hb2
      have hy := eq_of_beq hy
      subst hy
      obtain ⟨i, h1, h⟩ := some_bind h
      cases h
      obtain ⟨g1, m1, _⟩ := isB_ok tb c hb
      obtain ⟨g2, m2, _⟩ := isB_ok tb c hb2
      obtain ⟨p1, _, p3, _⟩ := hf sc blk X W _ i c tk h1
      refine ⟨PE.imp (pe_callB (cr_sortedSet c.calm) g1 m1 boot_sorted (pa_cons (pe_callTy (cr_setL c.calm) g2 m2 boot_set (pa_cons p1 pa_nil (starEach_cons p3)) (by decide) (by decide) (starEach_cons p3) rfl) pa_nil)) fun σ H Q q => ?_, rfl⟩
      rw [c.hK, c.hw]
      exact tF_sset q
    · cases h
  · cases h
theorem sndE1 {f0 : Scope → Expr → Option E} (tb : TabOk T G C k) (hlm : lm = G.lam.isSome) (hf : Snd T C k N lm f) (hf0 : Snd T C k N false f0) : Snd T C k N lm (trE1 G N f f0) := by
  intro sc blk X W e ir c tk h
  unfold trE1 at h
  split at h
  · -- a name
    obtain ⟨p1, p2⟩ := snd_name tb c h
    exact snd_plain c p1 rfl p2 rfl rfl
  · -- a constant
    obtain ⟨d, h1, rfl⟩ := some_map h
    exact snd_plain c (snd_const h1) rfl rfl rfl rfl
  · -- a op b
    obtain ⟨o, h1, h⟩ := some_bind h
    obtain ⟨i, h2, h⟩ := some_bind h
    obtain ⟨j, h3, h⟩ := some_bind h
    cases h
    obtain ⟨r, o1, o2⟩ := opR c h1
    exact snd_plain c (PE.imp (pe_op o1 (hf sc blk X W _ i c tk h2).1 (hf sc blk X W _ j c tk h3).1) fun σ H Q q => tF_op' o2 q) rfl rfl rfl rfl
  · -- -a
    obtain ⟨i, h2, h⟩ := some_bind h
    cases h
    exact snd_plain c (PE.imp (pe_un un_neg (hf sc blk X W _ i c tk h2).1) fun σ H Q q => tF_neg q) rfl rfl rfl rfl
  · -- not a
    obtain ⟨i, h2, h⟩ := some_bind h
    cases h
    obtain ⟨p1, p2, p3, _⟩ := hf sc blk X W _ i c tk h2
    exact ⟨PE.imp (pe_not p1) fun σ H Q q => tF_not q, PT.imp (pt_not p2) fun σ H Q q => tFT_not q, rfl, fun z => by cases z⟩
  · -- a o b
    obtain ⟨o, h1, h⟩ := some_bind h
    obtain ⟨i, h2, h⟩ := some_bind h
    obtain ⟨j, h3, h⟩ := some_bind h
    split at h
    · rename_i hs
      cases h
      obtain ⟨ho, r, o1, o2⟩ := cmpR c h1
      have a1 := (hf sc blk X W _ i c tk h2).1
      have b1 := (hf sc blk X W _ j c tk h3).1
      refine ⟨PE.imp (pe_cmpR o1 a1 b1 (marks_no hs)) fun σ H Q q => tF_op' o2 q, PT.imp (pt_cmpR o1 a1 b1 (marks_no hs)) fun σ H Q q => ?_, rfl, fun z => by cases z⟩
      rw [denT_plain (by rfl)] at q
      exact tF_op' o2 (tFT_bl (den_cmp_bl ho) q)
    · cases h
  · -- a o b p c
    obtain ⟨o, h1, h⟩ := some_bind h
    obtain ⟨p, h1', h⟩ := some_bind h
    obtain ⟨i, h2, h⟩ := some_bind h
    obtain ⟨j, h3, h⟩ := some_bind h
    obtain ⟨l, h4, h⟩ := some_bind h
    split at h
    · rename_i hs
      cases h
      obtain ⟨ho, r, o1, o2⟩ := cmpR c h1
      obtain ⟨hp, r', o1', o2'⟩ := cmpR c h1'
      have a1 := (hf sc blk X W _ i c tk h2).1
      have b1 := (hf sc blk X W _ j c tk h3).1
      have c1 := (hf sc blk X W _ l c tk h4).1
      refine ⟨PE.imp (pe_chain o1 o1' a1 b1 c1 (marks_no hs)) fun σ H Q q => tF_chain o2 o2' q, PT.imp (pt_chain o1 o1' a1 b1 c1 (marks_no hs)) fun σ H Q q => ?_, rfl, fun z => by cases z⟩
      rw [denT_plain (by rfl)] at q
      exact tF_chain o2 o2' (tFT_bl (den_chain_bl hp) q)
    · cases h
  · obtain ⟨p1, p2, _, _⟩ := hf sc blk X W _ ir c tk h
    exact ⟨pe_one p1, (pw_and1 p2).pt, rfl, fun _ => pw_and1 p2⟩
  · obtain ⟨p1, p2, _, _⟩ := hf sc blk X W _ ir c tk h
    exact ⟨pe_one p1, (pw_or1 p2).pt, rfl, fun _ => pw_or1 p2⟩
  · obtain ⟨i, h2, h⟩ := some_bind h
    obtain ⟨j, h3, h⟩ := some_bind h
    cases h
    obtain ⟨p1, p2, _, _⟩ := hf sc blk X W _ i c tk h2
    obtain ⟨q1, _, _, q4⟩ := hf sc blk X W _ j c tk h3
    have w := PW.imp (pw_and (pos := _) p2 (q4 rfl)) (t' := tFT T W (denT C (.and i j))) fun σ H Q q => tFT_and q
    exact ⟨PE.imp (pe_and p1 q1) fun σ H Q q => tF_and q, w.pt, rfl, fun _ => w⟩
  · obtain ⟨i, h2, h⟩ := some_bind h
    obtain ⟨j, h3, h⟩ := some_bind h
    cases h
    obtain ⟨p1, p2, _, _⟩ := hf sc blk X W _ i c tk h2
    obtain ⟨q1, _, _, q4⟩ := hf sc blk X W _ j c tk h3
    have w := PW.imp (pw_or (pos := _) p2 (q4 rfl)) (t' := tFT T W (denT C (.or i j))) fun σ H Q q => tFT_or q
    exact ⟨PE.imp (pe_or p1 q1) fun σ H Q q => tF_or q, w.pt, rfl, fun _ => w⟩
  · -- a if t else b
    obtain ⟨t, h1, h⟩ := some_bind h
    obtain ⟨i, h2, h⟩ := some_bind h
    obtain ⟨j, h3, h⟩ := some_bind h
    cases h
    refine ⟨PE.imp (pe_ifExp (hf sc blk X W _ t c tk h1).2.1 (hf sc blk X W _ i c tk h2).1 (hf sc blk X W _ j c tk h3).1) fun σ H Q q => tF_ite q, PT.false fun σ H Q q => ?_, rfl, fun z => by cases z⟩
    obtain ⟨F, cs, ρ, S, g, re, hl, q⟩ := q
    rw [denT] at q
    exact q
  · obtain ⟨is, h1, rfl⟩ := some_map h
    exact snd_plain c (PE.imp (pe_tup (snd_args hf c tk h1).1) fun σ H Q q => tF_tup q) rfl rfl rfl rfl
  · obtain ⟨is, h1, rfl⟩ := some_map h
    exact snd_plain c (PE.imp (pe_lst (snd_args hf c tk h1).1) fun σ H Q q => tF_lst q) rfl rfl rfl rfl
  · obtain ⟨i, h2, h⟩ := some_bind h
    cases h
    refine snd_plain c (PE.imp (pe_revA (hf sc blk X W _ i c tk h2).1) fun σ H Q q => ?_) rfl rfl rfl rfl
    rw [c.hK]
    exact tRev_of q
  · -- a[lo:hi]
    obtain ⟨i, h2, h⟩ := some_bind h
    obtain ⟨l, h3, h⟩ := some_bind h
    obtain ⟨u, h4, h⟩ := some_bind h
    cases h
    have part : ∀ (x : Option Expr) (y : Option E), (match x with
      | none => some none
      | some l => (f sc l).map some) = some y → PO X x (tFO T W (denO C y)) := by
      intro x y e
      cases x with
      | none => cases e; exact PO.imp po_none fun σ H Q q => tFO_none q
      | some z =>
        obtain ⟨w, e1, rfl⟩ := some_map e
        exact PO.imp (po_some (hf sc blk X W z w c tk e1).1) fun σ H Q q => tFO_some q
    refine snd_plain c (PE.imp (pe_slice sl_all (hf sc blk X W _ i c tk h2).1 (part _ l h3) (part _ u h4)) fun σ H Q q => ?_) rfl rfl rfl rfl
    rw [c.hK]
    exact tF_slc q
  · split at h
    · rename_i hs
      obtain ⟨i, h2, h⟩ := some_bind h
      obtain ⟨j, h3, h⟩ := some_bind h
      cases h
      refine snd_plain c (PE.imp (pe_ix ix_seq (hf sc blk X W _ i c tk h2).1 (hf sc blk X W _ j c tk h3).1 (plainIx_no hs)) fun σ H Q q => ?_) rfl rfl rfl rfl
      rw [c.hK]
      exact tF_op' sem_idx q
    · cases h
  · -- an error told of a lambda
    split at h
    · rename_i y nm hl
      split at h
      · rename_i hcond
        simp only [Bool.and_eq_true] at hcond
        obtain ⟨⟨⟨hxy, hg⟩, hp⟩, hls⟩ := hcond
        have hxy := eq_of_beq hxy
        subst hxy
        obtain ⟨i, h1, rfl⟩ := some_map h
        obtain ⟨p1, p2, p3⟩ := plain_ok hp
        obtain ⟨g, pg, bg, sg, fd, Ng, a, q1, q2, q3, q4, q5, q6, q7, q8, q9⟩ := tb.lam _ _ hl
        obtain ⟨c0, P0, TB, hcode, hmT, hu, hr⟩ := c.lamc (by rw [hlm, hl]; rfl)
        have L := LamX.lamS_by hls
        rw [← c.hsc] at L
        refine snd_plain c (PE.imp (PdH.pe_lamN (T := T.tabs) (TT := TErrN T.ca nm) (k := 3 * k) (Ng := Ng) (a := a) (t := fun E => tF T (fun c d _ H => E c d H) (den C i)) (c.glo hg) (by rw [c.hmg]; exact q1) (by rw [c.hK]; exact q2) (by rw [c.hK]; exact q3) q4 q5 q6
          (fun cdv => q9 X cdv _ _ c.hP c.hw c.hK c.hmg c.hB) TB hcode hmT hu hr L rfl (fun _ _ _ _ _ => rfl)
          (fun A outer s H E f c' hr2 => (hf0 _ (some _) _ _ _ i (cxOk_lam c L.kind hr2) (L2N.takes_of rfl rfl rfl rfl) h1).1) p1 q7 q8) fun σ H Q q => tF_lam q) rfl rfl rfl rfl
      · cases h
    · cases h
  · -- a call
    split at h
    · rename_i hb
      split at h
      · rename_i hx
        subst hx
        obtain ⟨p1, p2⟩ := snd_isi tb hf c tk hb h
        exact snd_plain c p1 rfl p2 rfl rfl
      split at h
      · rename_i hx
        subst hx
        obtain ⟨p1, p2⟩ := snd_sset tb hf c tk hb h
        exact snd_plain c p1 rfl p2 rfl rfl
      · obtain ⟨b, h1, h⟩ := some_bind h
        obtain ⟨is, h2, h⟩ := some_bind h
        cases h
        exact snd_plain c (snd_bi tb hf c tk hb h1 h2) rfl rfl rfl rfl
    · obtain ⟨p1, p2⟩ := snd_call tb hf c tk h
      exact snd_plain c p1 rfl p2 rfl rfl
  · -- a method
    split at h
    · rename_i hline
      split at h
      · rename_i hx
        subst hx
        obtain ⟨i, h2, h⟩ := some_bind h
        obtain ⟨j, h3, h⟩ := some_bind h
        cases h
        obtain ⟨p1, _, _, _⟩ := hf sc blk X W _ i c tk h2
        obtain ⟨q1, _, q3, _⟩ := hf sc blk X W _ j c tk h3
        refine snd_plain c (PE.imp (pe_bm PySem.F.plainAttrs_list PySem.F.slot_list_append PySem.F.type_list_append mt_append p1 (pa_cons q1 pa_nil (starEach_cons q3)) rfl (by rw [starEach_cons q3]; rfl) hline (starEach_cons q3) rfl) fun σ H Q q => ?_) rfl rfl rfl rfl
        rw [c.hK]
        exact tF_push q
      · split at h
        · rename_i hx
          subst hx
          split at h
          · obtain ⟨i, h2, h⟩ := some_bind h
            cases h
            obtain ⟨p1, _, _, _⟩ := hf sc blk X W _ i c tk h2
            refine snd_plain c (PE.imp (pe_bm PySem.F.plainAttrs_list PySem.F.slot_list_pop PySem.F.type_list_pop mt_popAt p1 (pa_cons pe_int pa_nil) rfl rfl hline rfl rfl) fun σ H Q q => ?_) rfl rfl rfl rfl
            rw [c.hK]
            exact tF_pop0 q
          · cases h
        · cases h
    · cases h
  · obtain ⟨p1, p2⟩ := sndLC tb hf c tk h
    exact snd_plain c p1 rfl p2 rfl rfl
  · cases h
theorem TabOk.noLam (tb : TabOk T G C k) : TabOk T G.noLam C k := ⟨tb.fn, tb.con, tb.free, tb.exc, fun x nm h => by cases h⟩
theorem sndE : ∀ (n : Nat) {G : Gs}, TabOk T G C k → Snd T C k N G.lam.isSome (trE n G N)
  | 0, _, _ => fun sc blk X W e ir c tk h => by cases h
  | n + 1, G, tb => sndE1 tb rfl (sndE n tb) (sndE n tb.noLam)
end
end Pd

end
section
set_option Elab.async false
set_option linter.all false
set_option maxRecDepth 100000
set_option maxHeartbeats 4000000
/-! From the text to the terms: statements. -/
namespace Pd
open PySem PySem.Spec PyProof.Rows L2
def lcE : Expr → Bool
  | .ListComp _ _ _ _ => true
  | .SetComp _ _ _ _ => true
  | .DictComp _ _ _ _ _ => true
  | _ => false
theorem sw_no {e : Expr} {t : Option Expr} {l : Nat} {env : Env} (h : lcE e = false) : swapsWith e t l env = pure false := by
  cases e <;> first | rfl | cases h
theorem sw_tup {e : Expr} {ts : List Expr} {kk : Nat} {p : Pos} {l : Nat} {env : Env} : swapsWith e (some (.Tuple ts kk p)) l env = pure false := by
  cases e <;> rfl
theorem sw_sub {e a b : Expr} {p : Pos} {l : Nat} {env : Env} : swapsWith e (some (.Subscript a b p)) l env = pure false := by
  cases e <;> rfl
def isTup : Expr → Bool
  | .Tuple _ _ _ => true
  | _ => false
theorem st_no {e : Expr} {ts : List Expr} {kk : Nat} {p : Pos} {env : Env} (h : isTup e = false) : swappedStores [.Tuple ts kk p] e env = pure none := by
  cases e <;> first | rfl | cases h
/-- the names stored from the right -/
def swN (sc : Scope) (ts : List Expr) : List Str :=
  ts.filterMap fun
    | .Name id pos => if sc.names.lookup id == some .local && pos.line == (ts.head?.map (·.pos.line)).getD 0 then some id else none
    | _ => none
def swCase (sc : Scope) (ts vs : List Expr) : Option (Option (List Str)) :=
  if !(ts.length == 2 || ts.length == 3) || vs.length != ts.length then some none
  else if vs.any (fun | .Starred .. => true | _ => false) then some none
  else if (swN sc ts).length != ts.length || (swN sc ts).eraseDups.length != (swN sc ts).length then some none
  else if vs.all (foldedForSure 8) then some none
  else if vs.all (constantsAlone 8) then none
  else some (some (swN sc ts))
theorem bk_fun {env : Env} (h : env.scope.kind = .function) : env.blockKind = .function := by unfold Env.blockKind; rw [h]; rfl
theorem st_case {ts vs : List Expr} {kk k2 : Nat} {p p2 : Pos} {env : Env} {r : Option (List Str)} (hk : env.scope.kind = .function) (h : swCase env.scope ts vs = some r) : swappedStores [.Tuple ts kk p] (.Tuple vs k2 p2) env = pure r := by
  have hb := bk_fun hk
  unfold swCase at h
  unfold swappedStores
  have e1 : (env.blockKind != ScopeKind.function) = false := by rw [hb]; rfl
  simp only [e1, Bool.or_false]
  split at h
  · rename_i q
    cases h
    exact if_pos q
  rename_i q
  refine (if_neg q).trans ?_
  split at h
  · rename_i q2
    cases h
    exact if_pos q2
  rename_i q2
  refine (if_neg q2).trans ?_
  split at h
  · rename_i q3
    cases h
    exact if_pos q3
  rename_i q3
  refine (if_neg q3).trans ?_
  split at h
  · rename_i q4
    cases h
    exact if_pos q4
  rename_i q4
  refine (if_neg q4).trans ?_
  split at h
  · cases h
  rename_i q5
  cases h
  exact if_neg q5
end Pd

end
section
set_option Elab.async false
set_option linter.all false
set_option maxRecDepth 100000
set_option maxHeartbeats 4000000
namespace Pd
open PySem PySem.Spec PyProof.Rows L2
def isLoc (sc : Scope) (x : Str) : Bool := match sc.names.lookup x with
  | some .local => true
  | _ => false
section
variable (G : Gs) (N : List Str) (mu : List Str) (f : Scope → Expr → Option E)
/-- a value that is to be changed later -/
def trV (sc : Scope) : Bool → Expr → Option E
  | true, .List es _ => (es.mapM (f sc)).map (.lst true)
  | true, .Call (.Name x _) [a] [] _ => if isB G sc x && x == "list" then (f sc a).map .lstC else trCall G f sc true x [a]
  | true, .Call (.Name x _) es [] _ => trCall G f sc true x es
  | _, e => f sc e
def trVs (sc : Scope) : List Str → List Expr → Option (List E)
  | [], [] => some []
  | x :: xs, e :: es => do
    let e ← trV G f sc (mu.contains x) e
    let es ← trVs sc xs es
    pure (e :: es)
  | _, _ => none
def trPar (sc : Scope) (ts vs : List Expr) (names : List Str) : Option S := do
  let es ← trVs G mu f sc names vs
  match ts, vs, names with
  | [.Name x _, .Name y _], [_, _], [x', y'] => do
    let i ← ixOf N x
    let j ← ixOf N y
    if x == x' && y == y' && i != j && vs.all noStar && isLoc sc x && isLoc sc y then pure (.par [i, j] es) else none
  | [.Name x _, .Name y _, .Name z _], [_, _, _], [x', y', z'] => do
    let i ← ixOf N x
    let j ← ixOf N y
    let l ← ixOf N z
    if x == x' && y == y' && z == z' && i != j && i != l && j != l && vs.all noStar && isLoc sc x && isLoc sc y && isLoc sc z then pure (.par [i, j, l] es) else none
  | _, _, _ => none
def trSetLc (sc : Scope) (x : Str) (xp : Pos) (e : Expr) : Option S := match e with
  | .ListComp elt [⟨tg, iter, ifs, 0⟩] scope pos =>
    if isLoc sc x && xp.line == pos.line && !(scope.names.any fun (n, k) => n == x && (k == .local || k == .cell)) then do
      let i ← ixOf N x
      let e ← trLC G N f sc elt tg iter ifs scope
      pure (.set (.nm i) e)
    else none
  | _ => none
def trS : Nat → Scope → Stmt → Option S
  | 0, _, _ => none
  | n + 1, sc, st => match st with
    | .Assign [.Name x xp] e _ => if lcE e then trSetLc G N f sc x xp e else do
      let g ← trG N none sc 4 (.Name x xp)
      let e ← trV G f sc (mu.contains x) e
      pure (.set g e)
    | .Assign [.Tuple ts kk tp] (.Tuple vs k2 p2) _ => match swCase sc ts vs with
      | some none => do
        let g ← trG N none sc 4 (.Tuple ts kk tp)
        let e ← f sc (.Tuple vs k2 p2)
        pure (.set g e)
      | some (some names) => trPar G N mu f sc ts vs names
      | none => none
    | .Assign [.Tuple ts kk tp] e _ => if isTup e then none else do
      let g ← trG N none sc 4 (.Tuple ts kk tp)
      let e ← f sc e
      pure (.set g e)
    | .Assign [.Subscript a i _] e _ => if noSlice i then do
      let y ← f sc e
      let x ← f sc a
      let j ← f sc i
      pure (.setix x j y)
      else none
    | .Return (some e) _ => (trV G f sc (mu.contains ("return" : Str)) e).map .ret
    | .Return none _ => some .retN
    | .Expr e _ => if lcE e then none else (f sc e).map .expr
    | .Pass _ => some .pass
    | .If c a b _ => do
      let c ← f sc c
      let a ← a.mapM (trS n sc)
      let b ← b.mapM (trS n sc)
      pure (.ite c a b)
    | .For tg it b [] _ => if noSet it then do
      let g ← trG N none sc 4 tg
      let i ← trI G f sc tg it
      let b ← b.mapM (trS n sc)
      pure (.for_ g i b)
      else none
    | .While c b [] _ => do
      let c ← f sc c
      let b ← b.mapM (trS n sc)
      pure (.while_ c b)
    | .Raise (some (.Call (.Name x _) [.Constant (.str _) _ _] [] _)) none _ => if glo sc x && plainName x then (G.exc x).map .raise else none
    | _ => none
end
section
variable {T : Tab} {G : Gs} {C : Nat → List D → M D} {k w : Nat} {N mu : List Str} {sc : Scope} {blk : Option Scope} {lm : Bool} {X : Cx} {W : WX} {f : Scope → Expr → Option E}
theorem sole {t e : Expr} {l : Nat} {env : Env} {r : Sem Bool} (h : swapsWith e (some t) l env = r) : swapsWithSole [t] e l env = r := by
  show swapsWith e (some t) l env = r
  exact h
theorem sndV (tb : TabOk T G C k) (hf : Snd T C k N lm f) (c : CxOk T k N sc blk lm X) (tk : L2N.Takes X W) {own : Bool} {e : Expr} {ir : E} (h : trV G f sc own e = some ir) : PE X e (tF T W (den C ir)) := by
  unfold trV at h
  split at h
  · obtain ⟨is, h1, rfl⟩ := some_map h
    exact PE.imp (pe_lst (snd_args hf c tk h1).1) fun σ H Q q => tF_lst q
  · split at h
    · rename_i hb
      obtain ⟨hb, hx⟩ := Bool.and_eq_true_iff.mp hb
      have hx := eq_of_beq hx
      subst hx
      obtain ⟨hg, hm, hp⟩ := isB_ok tb c hb
      obtain ⟨i, h1, rfl⟩ := some_map h
      obtain ⟨p1, _, p3, _⟩ := hf sc blk X W _ i c tk h1
      refine PE.imp (pe_callTy (r := rLstOf X.K) call_list_of hg hm boot_list (pa_cons p1 pa_nil (starEach_cons p3)) (by decide) (by decide) (starEach_cons p3) rfl) fun σ H Q q => ?_
      rw [c.hK]
      exact tF_lstC q
    · exact (snd_call tb hf c tk h).1
  · exact (snd_call tb hf c tk h).1
  · exact (hf sc blk X W _ ir c tk h).1
theorem sndVs (tb : TabOk T G C k) (hf : Snd T C k N lm f) (c : CxOk T k N sc blk lm X) (tk : L2N.Takes X W) : ∀ {xs : List Str} {es : List Expr} {irs : List E}, trVs G mu f sc xs es = some irs → es.all noStar = true → PA X es (tFA T W (denL C irs)) ∧ irs.length = es.length
  | [], [], irs, h, _ => by
    cases h
    exact ⟨PA.imp pa_nil fun σ H Q q => tFA_nil q, rfl⟩
  | x :: xs, e :: es, irs, h, hs => by
    rw [trVs] at h
    obtain ⟨s1, s2⟩ := Bool.and_eq_true_iff.mp (show (noStar e && es.all noStar) = true from hs)
    obtain ⟨i, h1, h⟩ := some_bind h
    obtain ⟨is, h2, h⟩ := some_bind h
    cases h
    obtain ⟨q1, q2⟩ := sndVs tb hf c tk h2 s2
    exact ⟨PA.imp (pa_cons (sndV tb hf c tk h1) q1 (starEach_cons s1)) fun σ H Q q => tFA_cons q, by rw [List.length_cons, List.length_cons, q2]⟩
  | [], _ :: _, _, h, _ => by cases h
  | _ :: _, [], _, h, _ => by cases h
theorem loc_of {sc : Scope} {x : Str} (h : isLoc sc x = true) : sc.names.lookup x = some .local := by
  unfold isLoc at h
  split at h
  · assumption
  · cases h
theorem sndPar (tb : TabOk T G C k) (hf : Snd T C k N lm f) (c : CxOk T k N sc none lm X) (tk : L2N.Takes X W) {ts vs : List Expr} {names : List Str} {kk k2 : Nat} {tp p2 pos : Pos} {ir : S} (hsw : swCase sc ts vs = some (some names)) (h : trPar G N mu f sc ts vs names = some ir) :
    PS X (.Assign [.Tuple ts kk tp] (.Tuple vs k2 p2) pos) (tX T W (exec C w ir)) := by
  unfold trPar at h
  obtain ⟨es, h1, h⟩ := some_bind h
  have hk : X.env.scope.kind = .function := by rw [c.hsc]; exact c.kind
  have hsw' : swCase X.env.scope ts vs = some (some names) := by rw [c.hsc]; exact hsw
  split at h
  · obtain ⟨i, h2, h⟩ := some_bind h
    obtain ⟨j, h3, h⟩ := some_bind h
    split at h
    · rename_i hc
      cases h
      simp only [Bool.and_eq_true] at hc
      obtain ⟨⟨⟨⟨⟨e1, e2⟩, hij⟩, hst⟩, l1⟩, l2⟩ := hc
      have e1 := eq_of_beq e1
      have e2 := eq_of_beq e2
      subst e1 e2
      obtain ⟨a1, a2⟩ := sndVs tb hf c tk h1 hst
      have hij' : i ≠ j := by simpa using hij
      refine PS.imp (ps_par c.calm (by rw [c.hN]; exact c.nd) (by rw [c.hN]; exact ixOf_ok h2) (by rw [c.hN]; exact ixOf_ok h3) hij' (by rw [c.hsc]; exact loc_of l1) (by rw [c.hsc]; exact loc_of l2) a1 (st_case hk hsw') (sole sw_tup)) fun D σ H q => ?_
      match es, a2 with
      | [a, b], _ => exact tX_par2 q
    · cases h
  · obtain ⟨i, h2, h⟩ := some_bind h
    obtain ⟨j, h3, h⟩ := some_bind h
    obtain ⟨l, h4, h⟩ := some_bind h
    split at h
    · rename_i hc
      cases h
      simp only [Bool.and_eq_true] at hc
      obtain ⟨⟨⟨⟨⟨⟨⟨⟨⟨e1, e2⟩, e3⟩, hij⟩, hil⟩, hjl⟩, hst⟩, l1⟩, l2⟩, l3⟩ := hc
      have e1 := eq_of_beq e1
      have e2 := eq_of_beq e2
      have e3 := eq_of_beq e3
      subst e1 e2 e3
      obtain ⟨a1, a2⟩ := sndVs tb hf c tk h1 hst
      have hij' : i ≠ j := by simpa using hij
      have hil' : i ≠ l := by simpa using hil
      have hjl' : j ≠ l := by simpa using hjl
      refine PS.imp (ps_par3 c.calm (by rw [c.hN]; exact c.nd) (by rw [c.hN]; exact ixOf_ok h2) (by rw [c.hN]; exact ixOf_ok h3) (by rw [c.hN]; exact ixOf_ok h4) hij' hil' hjl' (by rw [c.hsc]; exact loc_of l1) (by rw [c.hsc]; exact loc_of l2) (by rw [c.hsc]; exact loc_of l3) a1 (st_case hk hsw') (sole sw_tup)) fun D σ H q => ?_
      match es, a2 with
      | [a, b, d], _ => exact tX_par3 q
    · cases h
  · cases h
theorem sndSetLc (tb : TabOk T G C k) (hf : Snd T C k N lm f) (c : CxOk T k N sc none lm X) (tk : L2N.Takes X W) {x : Str} {xp pos : Pos} {e : Expr} {ir : S} (h : trSetLc G N f sc x xp e = some ir) : PS X (.Assign [.Name x xp] e pos) (tX T W (exec C w ir)) := by
  unfold trSetLc at h
  split at h
  · split at h
    · rename_i hc
      simp only [Bool.and_eq_true] at hc
      obtain ⟨⟨l1, hline⟩, hno⟩ := hc
      obtain ⟨i, h1, h⟩ := some_bind h
      obtain ⟨e', h2, h⟩ := some_bind h
      cases h
      have hk : X.env.scope.kind = .function := by rw [c.hsc]; exact c.kind
      have hl : X.env.scope.names.lookup x = some .local := by rw [c.hsc]; exact loc_of l1
      obtain ⟨wi, g, tt, te, hi, ok, hg, ht, he, hs, hp, im⟩ := lcParts tb hf c tk h2
      refine PS.imp (ps_setLc c.calm (by rw [c.hN]; exact c.nd) (by rw [c.hN]; exact ixOf_ok h1) hl (sw_true hk hl hline (by simpa using hno)) hi ok hg ht he hs) fun D σ H q => ?_
      have q2 := tX_set q
      refine im σ H _ (tF_mono q2 fun x H' q3 => ?_)
      exact tGr_nm _ _ _ _ q3
    · cases h
  · cases h
theorem sndS (tb : TabOk T G C k) (hf : Snd T C k N lm f) : ∀ (n : Nat) {X : Cx} {st : Stmt} {ir : S}, CxOk T k N sc none lm X → L2N.Takes X W → trS G N mu f n sc st = some ir → PS X st (tX T W (exec C w ir))
  | 0, _, _, _, _, _, h => by cases h
  | n + 1, X, st, ir, c, tk, h => by
    have ih : ∀ (ss : List Stmt) (irs : List S), ss.mapM (trS G N mu f n sc) = some irs → PSs X ss (tX T W (execs C w irs)) := by
      intro ss
      induction ss with
      | nil =>
        intro irs h
        cases h
        exact PSs.imp pss_nil fun D σ H q => tX_nil q
      | cons s ss ih2 =>
        intro irs h
        rw [List.mapM_cons] at h
        obtain ⟨i, h1, h⟩ := some_bind h
        obtain ⟨is, h2, h⟩ := some_bind h
        cases h
        exact PSs.imp (pss_cons (sndS tb hf n c tk h1) (ih2 is h2)) fun D σ H q => tX_cons q
    unfold trS at h
    split at h
    · split at h
      · exact sndSetLc tb hf c tk h
      · rename_i hl
        obtain ⟨g, h1, h⟩ := some_bind h
        obtain ⟨e, h2, h⟩ := some_bind h
        cases h
        exact PS.imp (ps_asg (sndV tb hf c tk h2) (sndG 4 c h1) (sole (sw_no (by simpa using hl)))) fun D σ H q => tX_set q
    · split at h
      · rename_i hsw
        obtain ⟨g, h1, h⟩ := some_bind h
        obtain ⟨e, h2, h⟩ := some_bind h
        cases h
        exact PS.imp (ps_asg (hf sc none X W _ e c tk h2).1 (sndG 4 c h1) (sole sw_tup) (st_case (by rw [c.hsc]; exact c.kind) (by rw [c.hsc]; exact hsw))) fun D σ H q => tX_set q
      · rename_i hsw
        exact sndPar tb hf c tk hsw h
      · cases h
    · split at h
      · cases h
      · rename_i ht
        obtain ⟨g, h1, h⟩ := some_bind h
        obtain ⟨e, h2, h⟩ := some_bind h
        cases h
        exact PS.imp (ps_asg (hf sc none X W _ e c tk h2).1 (sndG 4 c h1) (sole sw_tup) (st_no (by simpa using ht))) fun D σ H q => tX_set q
    · split at h
      · rename_i a i p e p2 hs
        obtain ⟨y, h1, h⟩ := some_bind h
        obtain ⟨x, h2, h⟩ := some_bind h
        obtain ⟨j, h3, h⟩ := some_bind h
        cases h
        refine PS.imp (ps_asg (hf sc none X W _ y c tk h1).1 (pg_sub (hf sc none X W _ x c tk h2).1 (hf sc none X W _ j c tk h3).1 set_list (fun v => ?_)) (sole sw_sub) (by cases e <;> rfl)) fun D σ H q => tX_setix q
        cases i <;> first | rfl | cases hs
      · cases h
    · obtain ⟨e, h1, rfl⟩ := some_map h
      exact PS.imp (ps_ret (sndV tb hf c tk h1)) fun D σ H q => tX_ret q
    · cases h
      exact PS.imp ps_retN fun D σ H q => tX_retN q
    · split at h
      · cases h
      · rename_i hl
        obtain ⟨e, h1, rfl⟩ := some_map h
        exact PS.imp (ps_expr (hf sc none X W _ e c tk h1).1 (sw_no (by simpa using hl))) fun D σ H q => tX_expr q
    · cases h
      exact PS.imp ps_pass fun D σ H q => tX_pass q
    · obtain ⟨e, h1, h⟩ := some_bind h
      obtain ⟨a, h2, h⟩ := some_bind h
      obtain ⟨b, h3, h⟩ := some_bind h
      cases h
      exact PS.imp (ps_if (hf sc none X W _ e c tk h1).2.1 (ih _ _ h2) (ih _ _ h3)) fun D σ H q => tX_ite q
    · split at h
      · rename_i hs
        obtain ⟨g, h1, h⟩ := some_bind h
        obtain ⟨i, h2, h⟩ := some_bind h
        obtain ⟨b, h3, h⟩ := some_bind h
        cases h
        exact PS.imp (ps_for c.pass c.calm (sndI tb hf c tk h2) (sndG 4 c h1) (ih _ _ h3) (fold_no hs)) fun D σ H q => tX_for q
      · cases h
    · obtain ⟨e, h1, h⟩ := some_bind h
      obtain ⟨b, h3, h⟩ := some_bind h
      cases h
      exact PS.imp (ps_while c.pass (hf sc none X W _ e c tk h1).2.1 (ih _ _ h3)) fun D σ H q => tX_while q
    · split at h
      · rename_i hg
        obtain ⟨hg, hp⟩ := Bool.and_eq_true_iff.mp hg
        obtain ⟨cl, h1, rfl⟩ := some_map h
        obtain ⟨e1, e2, e3, e4, e5⟩ := tb.exc _ _ h1
        obtain ⟨p1, p2, p3⟩ := plain_ok hp
        refine PS.imp (L2N.ps_raise c.calm tk (L2N.pmk_own (C := T.ca cl) PySem.F.excBase_ValueError (by rw [c.hK]; exact e3) (by rw [c.hmg]; exact e1) (by rw [c.hK]; exact e2) (raises_own (by rw [c.hK]; exact e4) (by rw [c.hK]; exact e5)) (c.glo hg) p1)) fun D σ H q => ?_
        obtain ⟨F, cs, ρ, S, gd, re, hl, q⟩ := q
        rw [exec] at q
        exact q F H cs Fr.refl gd σ rfl
      · cases h
    · cases h
theorem sndSs (tb : TabOk T G C k) (hf : Snd T C k N lm f) (n : Nat) {X : Cx} (c : CxOk T k N sc none lm X) (tk : L2N.Takes X W) : ∀ {ss : List Stmt} {irs : List S}, ss.mapM (trS G N mu f n sc) = some irs → PSs X ss (tX T W (execs C w irs))
  | [], irs, h => by
    cases h
    exact PSs.imp pss_nil fun D σ H q => tX_nil q
  | s :: ss, irs, h => by
    rw [List.mapM_cons] at h
    obtain ⟨i, h1, h⟩ := some_bind h
    obtain ⟨is, h2, h⟩ := some_bind h
    cases h
    exact PSs.imp (pss_cons (sndS tb hf n c tk h1) (sndSs tb hf n c tk h2)) fun D σ H q => tX_cons q
end
end Pd

end
section
set_option Elab.async false
set_option linter.all false
set_option maxRecDepth 100000
set_option maxHeartbeats 4000000
/-! Defs. -/
namespace Pd
open PySem PySem.Spec PyProof.Rows L2
section
variable {T : Tab} {W : WX} {C : Nat → List D → M D} {σ : L2.St} {F H : Hp} {cs : List Addr} {S : Store} {Q : VK}
/-- what goes out of a def, its own lists become values -/
theorem frz_rep (g : Good T F H cs S) {n : Nat} {F2 : Hp} (hF : F2 = iced F H (cs.drop n)) : ∀ (m : Nat) {d d' : D} {v : V}, Rep T cs F v d → frz S n m d = some d' → Rep T (cs.take n) F2 v d' := by
  subst hF
  obtain ⟨i1, i2, i3⟩ := g.ice n
  have leaf : ∀ {m : Nat} {d d' : D} {v : V}, Rep T cs F v d → (if shp9 d = true then some d else none) = some d' → Rep T (cs.take n) (iced F H (cs.drop n)) v d' := by
    intro m d d' v r h
    split at h
    · rename_i hz
      cases h
      exact (shp_rep 40 hz r).mono i1 (Pre.nil _)
    · cases h
  have cell : ∀ {m k : Nat} {d' : D} {v : V}, Rep T cs F v (.cell k) → (if k < n then some (D.cell k) else (S[k]?).map .lst) = some d' → Rep T (cs.take n) (iced F H (cs.drop n)) v d' := by
    intro m k d' v r h
    cases r with
    | @cell a _ hk =>
      split at h
      · rename_i hl
        cases h
        exact .cell (by rw [List.getElem?_take_of_lt hl]; exact hk)
      · rename_i hl
        cases e : S[k]? with
        | none => rw [e] at h; cases h
        | some ds =>
          rw [e] at h
          cases h
          exact (i3 k a ds (by omega) hk e).mono (Ext.refl _) (Pre.nil _)
  intro m
  induction m with
  | zero =>
    intro d d' v r h
    cases d with
    | cell k => exact cell (m := 0) r h
    | tup ds => cases h
    | _ => exact leaf (m := 0) r h
  | succ m ih =>
    intro d d' v r h
    cases d with
    | cell k => exact cell (m := 0) r h
    | tup ds =>
      have h' : (ds.mapM (frz S n m)).map D.tup = some d' := h
      obtain ⟨es, h1, rfl⟩ := some_map h'
      cases r with
      | tup ht rs =>
        refine .tup (ext_t i1 ht) ?_
        clear ht h h'
        rename_i vs
        induction ds generalizing es vs with
        | nil => cases h1; cases rs; exact .nil
        | cons d ds ih2 =>
          rw [List.mapM_cons] at h1
          obtain ⟨e, q1, h1⟩ := some_bind h1
          obtain ⟨es', q2, h1⟩ := some_bind h1
          cases h1
          cases rs with
          | cons r rs => exact .cons (ih r q1) (ih2 es' q2 rs)
    | _ => exact leaf (m := 0) r h
theorem fr_take {F' H' : Hp} {cs' : List Addr} (f : Fr F H cs F' H' cs') : Fr F H cs F' H' (cs'.take cs.length) :=
  ⟨f.ext, Pre.take f.pre, fun a o h1 h2 h3 h4 => by
    obtain ⟨q1, q2, q3⟩ := f.old a o h1 h2 h3 h4
    exact ⟨q1, q2, fun hm => q3 (List.mem_of_mem_take hm)⟩⟩
theorem finish_after (g : Good T F H cs S) {d : D} {F1 H1 : Hp} {cs1 : List Addr} {S1 : Store} (f1 : Fr F H cs F1 H1 cs1) (g1 : Good T F1 H1 cs1 S1) {v : V} (r : Rep T cs1 F1 v d) (h : After T W σ F H cs (PV T Q) (finish S.length d S1)) : Q v H1 := by
  have hlen : cs.length = S.length := g.len
  have f2 := fr_take f1
  have g2 := g1.cut cs.length
  unfold finish at h
  have rest : ∀ {d : D}, Rep T cs1 F1 v d → After T W σ F H cs (PV T Q) (if S1.length = S.length then .ok d S1 else match frz S1 S.length 9 d with
    | some d' => .ok d' (S1.take S.length)
    | none => .bad) → Q v H1 := by
    intro d r h
    split at h
    · exact h F1 H1 cs1 f1 g1 v r
    · cases e : frz S1 S.length 9 d with
      | none => rw [e] at h; exact h.elim
      | some d' =>
        rw [e] at h
        have r2 := frz_rep g1 rfl 9 r e
        obtain ⟨i1, i2, i3⟩ := g1.ice S.length
        rw [← hlen] at i1 i2 r2 h
        refine h _ H1 _ ⟨f2.ext.trans i1, f2.pre, fun a o h1 h2 h3 h4 => ?_⟩ i2 v r2
        obtain ⟨q1, q2, q3⟩ := f1.old a o h1 h2 h3 h4
        refine ⟨q1, ?_, fun hm => q3 (List.mem_of_mem_take hm)⟩
        unfold iced
        rw [if_neg fun hm => q3 (List.mem_of_mem_drop hm)]
        exact q2
  cases d with
  | cell k =>
    cases r with
    | @cell a _ hk =>
      simp only at h
      split at h
      · rename_i hl
        rw [← hlen] at h hl
        exact h F1 H1 _ f2 g2 _ (.cell (by rw [List.getElem?_take_of_lt hl]; exact hk))
      · rename_i hl
        cases e : S1[k]? with
        | none => rw [e] at h; exact h.elim
        | some ds =>
          rw [e] at h
          obtain ⟨f0, vs, hv, rv⟩ := g1.cell k a ds hk e
          have na := nodup_ne g1.nd hk (n := cs.length) (by omega)
          rw [← hlen] at h
          refine h F1 H1 _ ⟨f2.ext, f2.pre.trans (Pre.app _ _), fun b o h1 h2 h3 h4 => ?_⟩ (g2.adoptCell hv f0 na rv) _ (.cell ?_)
          · obtain ⟨q1, q2, q3⟩ := f1.old b o h1 h2 h3 h4
            refine ⟨q1, q2, fun hm => ?_⟩
            rcases List.mem_append.mp hm with z | z
            · exact q3 (List.mem_of_mem_take z)
            · have z' : b = a := by simpa using z
              rw [z'] at q3
              exact q3 (List.mem_of_getElem? hk)
          · have lt : cs.length ≤ cs1.length := by
              have := (List.getElem?_eq_some_iff.mp hk).1
              omega
            have e2 : (List.take cs.length cs1).length = cs.length := by rw [List.length_take]; omega
            rw [List.getElem?_append_right (by omega), e2, Nat.sub_self]
            rfl
  | _ => exact rest r h
theorem reps_env {T : Tab} {cs : List Addr} {F : Hp} : ∀ {vs : List V} {ds : List D} (a b : Nat), RepL T cs F vs ds → RepE T cs F (vs.map some ++ List.replicate a none) (ds.map some ++ List.replicate b none)
  | _, _, a, b, .nil => fun i d h => by
    simp only [List.map_nil, List.nil_append] at h
    rw [List.getElem?_replicate] at h
    split at h
    · have h' := Option.some.inj h
      cases h'
    · cases h
  | _, _, a, b, .cons r rs => fun i d h => by
    cases i with
    | zero =>
      have h' : some (some _) = some (some d) := h
      cases h'
      exact ⟨_, rfl, r⟩
    | succ i => exact reps_env a b rs i d h
theorem run_tX {n slots w : Nat} {N : List Str} {irs : List Pd.S} {E : XK} {vs : List V} (hN : N.length = slots) (hn : n ≤ slots) (h : spD T n (runDef C w slots irs) vs H Q E) : tX T (fun cls d _ H => E cls d H) (execs C w irs) { nx := fun _ H' => Q .non H', rt := Q } (L2.start N vs) H := by
  obtain ⟨hl, F, cs, ds, S, g, r, h⟩ := h
  have hd : ds.length = n := by rw [← r.length]; exact hl
  have l1 : (L2.start N vs).length = slots := by
    unfold L2.start
    rw [List.length_append, List.length_map, List.length_replicate]
    omega
  refine ⟨F, cs, ds.map some ++ List.replicate (slots - ds.length) none, S, g, reps_env _ _ r, ?_, ?_⟩
  · rw [l1, List.length_append, List.length_map, List.length_replicate]
    omega
  unfold runDef at h
  have ll : (ds.map some ++ List.replicate (slots - ds.length) (none : Option D)).length = slots := by
    rw [List.length_append, List.length_map, List.length_replicate]
    omega
  generalize ds.map some ++ List.replicate (slots - ds.length) (none : Option D) = ρ at h ll
  cases ev : execs C w irs ρ S with
  | bad => rw [ev] at h; exact h
  | err c S1 =>
    rw [ev] at h
    intro F1 H1 cs1 f1 g1 σ' _
    have h' : After T (fun c d _ H => E c d H) [] F H cs (PV T Q) (.err c (S1.take S.length)) := h
    have g2 := g1.cut S.length
    rw [← g.len] at g2 h'
    exact h' F1 H1 _ (fr_take f1) g2
  | ok fl S1 =>
    rw [ev] at h
    intro F1 H1 cs1 f1 g1
    cases fl with
    | ret d => exact fun v rv => finish_after g f1 g1 rv h
    | nx ρ1 =>
      have el := execs_len irs ρ S ρ1 S1 ev
      refine ⟨?_, fun σ' _ _ => finish_after g f1 g1 .non h⟩
      rw [el, ll, l1]
end
end Pd

end
section
set_option Elab.async false
set_option linter.all false
set_option maxRecDepth 100000
set_option maxHeartbeats 4000000
/-! A program's defs. -/
namespace Pd
open PySem PySem.Spec PyProof.Rows L2
/-- a def: its name, its row, parameters, slots, the names of lists that change, its terms -/
structure DefI where
  x : Str
  st : Stmt
  ps : List Str
  N : List Str
  mu : List Str
  ir : List Pd.S
  lm : Bool := false
def trDef (G : Gs) (N mu : List Str) (st : Stmt) : Option (List Pd.S) := (defBody st).mapM (trS G N mu (trE 60 G N) 20 (defScope st))
/-- what the defs do, calls k deep -/
def Cs (tab : List DefI) (w : Nat) : Nat → Nat → List D → M D
  | 0, _, _ => M.bad
  | k + 1, i, args => match tab[i]? with
    | some d => runDef (Cs tab w k) w d.N.length d.ir args
    | none => M.bad
structure DefOk (T : Tab) (G : Gs) (d : DefI) (a : Addr) (fd : FuncData) : Prop where
  fun_ : FunD T.K d.x d.x (defArgs d.st) (defBody d.st) (defScope d.st) [] [] a fd
  sc : FnScope d.N d.ps (defScope d.st)
  tr : trDef (if d.lm then G else G.noLam) d.N d.mu d.st = some d.ir
  bi : Binds T.K fd d.ps []
  lamc : d.lm = true → ∃ c P, fd.code = .ref c ∧ LamX.TabB T.base T.mg c P ∧ (P, d.x ++ ".<locals>." ++ "<lambda>") ∈ T.tabs ∧ ∀ p ∈ T.tabs, p.1 = P → p.2 = d.x ++ ".<locals>." ++ "<lambda>"
theorem cxOk_of {T : Tab} {k : Nat} {d : DefI} {G : Gs} {a : Addr} {fd : FuncData} (h : DefOk T G d a fd) {cdv : Value} (hcd : fd.code = cdv) {A : Around} {outer : List Env} {s : Shared} {H : Hp} {E : XK} (hr : Room (3 * k + 2) (A.deeper (envOfC d.x (defScope d.st) s.heap.objs.size a cdv))) :
    CxOk T k d.N (defScope d.st) none d.lm (cxOf (L2N.CX T.P T.w) T.P T.w T.K T.mg T.base d.N d.x (defScope d.st) a cdv A outer s H E) where
  hP := rfl
  hw := rfl
  hK := rfl
  hmg := rfl
  hB := rfl
  hN := rfl
  nd := h.sc.nd
  hsc := rfl
  calm := rfl
  room := hr.mono (by omega)
  lamc := fun hl => by
    obtain ⟨c, P, e1, e2, e3, e4⟩ := h.lamc hl
    exact ⟨c, P, e2, hcd.symm.trans e1, e3, e4, hr⟩
  fns := fun _ _ => rfl
  blks := fun b h => by cases h
  pass := passes_of rfl
  kind := h.sc.kind
theorem fnOk_step {T : Tab} {G : Gs} {tab : List DefI} {w k i n : Nat} {d : DefI} {a : Addr} {fd : FuncData} (ih : TabOk T G (Cs tab w k) k) (h3 : tab[i]? = some d) (h4 : d.ps.length = n) (h5 : DefOk T G d a fd) :
    FnOk T.P T.w T.K T.mg T.base (L2N.CX T.P T.w) (3 * (k + 1)) a fd d.ps (spD T n (Cs tab w (k + 1) i)) := by
  obtain ⟨oc, od, dV, kV, doc, pm, an, cdv, ct, osl, rfl, lk, hcd, _, _⟩ := h5.fun_.ex
  show FnOk _ _ _ _ _ _ (3 * k + 2 + 1) _ _ _ _
  refine fn_of lk hcd h5.sc (fun vs H Q E hs => by rw [h4]; exact hs.1) fun A outer s H vs Q E hr hs => ?_
  have e : Cs tab w (k + 1) i = runDef (Cs tab w k) w d.N.length d.ir := by
    funext args
    rw [Cs, h3]
  rw [e] at hs
  have tk : L2N.Takes (cxOf (L2N.CX T.P T.w) T.P T.w T.K T.mg T.base d.N d.x (defScope d.st) a cdv A outer s H E) (fun c d _ H => E c d H) := L2N.takes_of rfl rfl rfl rfl
  have hn : n ≤ d.N.length := by
    rw [← h4, ← h5.sc.pre, List.length_take]
    exact Nat.min_le_right _ _
  have cx := cxOk_of h5 (cdv := cdv) rfl (E := E) (outer := outer) (H := H) hr
  have tr := h5.tr
  cases hl : d.lm with
  | true =>
    rw [hl] at cx tr
    cases hg : G.lam with
    | none =>
      have cx' : CxOk T k d.N (defScope d.st) none false _ := { cx with lamc := fun h => by cases h }
      have sn := sndE (N := d.N) 60 ih
      rw [hg] at sn
      exact ⟨_, sndSs (w := w) ih sn 20 cx' tk tr, run_tX rfl hn hs⟩
    | some z =>
      have sn := sndE (N := d.N) 60 ih
      rw [hg] at sn
      exact ⟨_, sndSs (w := w) ih sn 20 cx tk tr, run_tX rfl hn hs⟩
  | false =>
    rw [hl] at cx tr
    exact ⟨_, sndSs (w := w) ih.noLam (sndE (N := d.N) 60 ih.noLam) 20 cx tk tr, run_tX rfl hn hs⟩
theorem tabOk_all {T : Tab} {G : Gs} {tab : List DefI} {w : Nat} (hA : ∀ x i n, G.fn x = some (i, n) → T.mg x = some (.ref (T.fa i)) ∧ PySem.W.keepIn T.K (.ref (T.fa i)) = true ∧ ∃ d fd, tab[i]? = some d ∧ d.ps.length = n ∧ DefOk T G d (T.fa i) fd)
    (hcon : ∀ x d, G.con x = some d → ∃ v u, T.mg x = some u ∧ RelV v u ∧ ∀ cs F, Rep T cs F v d) (hfree : ∀ x, x ∈ G.free → T.mg x = none)
    (hexc : ∀ x c, G.exc x = some c → T.mg x = some (.ref (T.ca c)) ∧ PySem.W.keepIn T.K (.ref (T.ca c)) = true ∧ PySem.W.excIn T.K (T.ca c) He.veBase "ValueError.__new__" = true ∧
    PySem.W.subIn T.K (.ref (T.ca c)) (.type "BaseException") = some true ∧ PySem.W.typeIn T.K (.ref (T.ca c)) = some (.type "type")) (hlam : ∀ x nm, G.lam = some (x, nm) → LamF T x nm) : ∀ k, TabOk T G (Cs tab w k) k
  | 0 => ⟨fun x i n h => by
      obtain ⟨h1, h2, d, fd, h3, h4, h5⟩ := hA x i n h
      refine ⟨h1, h2, fd, d.ps, ⟨fun vs H Q E hs => ?_, fun A outer s H args us vs Q E hr e0 hb r hs => ?_⟩, h5.bi⟩
      · rw [h4]
        exact hs.1
      · obtain ⟨_, F, cs, ds, S, g, r, z⟩ := hs
        exact (show False from z).elim, hcon, hfree, hexc, hlam⟩
  | k + 1 => ⟨fun x i n h => by
      obtain ⟨h1, h2, d, fd, h3, h4, h5⟩ := hA x i n h
      have ih := tabOk_all hA hcon hfree hexc hlam (tab := tab) (w := w) k
      exact ⟨h1, h2, fd, d.ps, fnOk_step ih h3 h4 h5, h5.bi⟩, hcon, hfree, hexc, hlam⟩
end Pd

end
section
set_option Elab.async false
set_option linter.all false
set_option maxRecDepth 100000
set_option maxHeartbeats 0
namespace Lw
open PySem PySem.Spec PyProof.Rows L2 Pd
def top (i : Nat) : Stmt := PySem.Challenge.pw_anytide_k01_harbours_boats_and_scripts_k.main.body.getD i (.Pass ⟨0, 0, 0, 0⟩)
def fns0 : List (Str × (Nat × Nat)) := [("divisor_of", (0, 2)), ("is_plain", (1, 1)), ("is_whole", (2, 3)), ("is_row", (3, 3)), ("is_pair", (4, 5)), ("is_tide", (5, 1)), ("is_harbour", (6, 1)), ("is_fraction", (7, 2)), ("is_unit", (8, 1)), ("fits_boat", (9, 2)), ("is_side", (10, 1)), ("is_step", (11, 1))]
def fns1 : List (Str × (Nat × Nat)) := [("is_any_step", (12, 1)), ("is_script", (13, 1)), ("need_harbour", (14, 1)), ("is_boat", (15, 2)), ("_law_cell", (16, 2)), ("_law_draws", (17, 4)), ("_law_bag", (18, 2)), ("_law_take", (19, 2)), ("_law_choice", (20, 2)), ("_law_tide", (21, 1)), ("_law_harbour", (22, 2)), ("_law_boat", (23, 2))]
def fns2 : List (Str × (Nat × Nat)) := [("_law_step", (24, 1)), ("_law_steps", (25, 2)), ("_law_truly", (26, 2)), ("_law_whole", (27, 3)), ("_law_spoilt", (28, 2)), ("_law_pair", (29, 5)), ("_law_good_tide", (30, 1)), ("_law_good_harbour", (31, 1)), ("_law_good_boat", (32, 2)), ("_law_good_step", (33, 1)), ("_law_good_script", (34, 1)), ("law", (35, 1))]
def fns : List (Str × (Nat × Nat)) := fns0 ++ fns1 ++ fns2
def cons0 : List (Str × D) := [("GREATEST", (.int 1000000)), ("SIDES", (.tup [(.str "out"), (.str "in")]))]
def cons : List (Str × D) := cons0
def excs0 : List (Str × Nat) := [("TideError", 0), ("InvalidTide", 1), ("InvalidHarbour", 2), ("InvalidBoat", 3), ("InvalidUnit", 4), ("InvalidScript", 5), ("InvalidNumber", 6), ("InvalidFacts", 7), ("InvalidText", 8), ("Ended", 9), ("NothingToUndo", 10)]
def excs : List (Str × Nat) := excs0
def frees0 : List Str := ["len", "abs", "int", "bool", "all", "tuple", "list", "str", "range", "zip", "isinstance", "sorted"]
def frees1 : List Str := ["set"]
def frees : List Str := frees0 ++ frees1
def errNms : List Str := ["value", "tide value", "harbour value", "boat value", "unit value", "script value", "number value", "facts value", "text value", "ended value", "undo value"]
def G : Gs := ⟨fun x => fns.lookup x, fun x => cons.lookup x, fun x => excs.lookup x, frees, some ("_law_error", errNms)⟩
def ir_divisor_of : List Pd.S := [.par [0, 1] [(.bi .abs [(.nm 0)]), (.bi .abs [(.nm 1)])], .while_ (.op .ne (.nm 1) (.k (.int 0))) [.par [0, 1] [(.nm 1), (.op .mod (.nm 0) (.nm 1))]], .ret (.nm 0)]
def d_divisor_of : DefI := ⟨"divisor_of", top 13, ["one", "other"], ["one", "other"], [], ir_divisor_of, false⟩
theorem t_divisor_of : trDef (if d_divisor_of.lm then G else G.noLam) d_divisor_of.N d_divisor_of.mu d_divisor_of.st = some d_divisor_of.ir := by kernel_rfl
theorem s_divisor_of : FnScope d_divisor_of.N d_divisor_of.ps (defScope d_divisor_of.st) := ⟨by kernel_rfl, by kernel_rfl, by kernel_rfl, by decide +kernel, by kernel_rfl, by decide +kernel, by decide +kernel⟩
def ir_is_plain : List Pd.S := [.ret (.and (.bi (.isi "int") [(.nm 0)]) (.not (.bi (.isi "bool") [(.nm 0)])))]
def d_is_plain : DefI := ⟨"is_plain", top 17, ["value"], ["value"], [], ir_is_plain, false⟩
theorem t_is_plain : trDef (if d_is_plain.lm then G else G.noLam) d_is_plain.N d_is_plain.mu d_is_plain.st = some d_is_plain.ir := by kernel_rfl
theorem s_is_plain : FnScope d_is_plain.N d_is_plain.ps (defScope d_is_plain.st) := ⟨by kernel_rfl, by kernel_rfl, by kernel_rfl, by decide +kernel, by kernel_rfl, by decide +kernel, by decide +kernel⟩
def ir_is_whole : List Pd.S := [.ret (.and (.call false 1 [(.nm 0)]) (.chain .le .le (.nm 1) (.nm 0) (.nm 2)))]
def d_is_whole : DefI := ⟨"is_whole", top 18, ["value", "low", "high"], ["value", "low", "high"], [], ir_is_whole, false⟩
theorem t_is_whole : trDef (if d_is_whole.lm then G else G.noLam) d_is_whole.N d_is_whole.mu d_is_whole.st = some d_is_whole.ir := by kernel_rfl
theorem s_is_whole : FnScope d_is_whole.N d_is_whole.ps (defScope d_is_whole.st) := ⟨by kernel_rfl, by kernel_rfl, by kernel_rfl, by decide +kernel, by kernel_rfl, by decide +kernel, by decide +kernel⟩
def ir_is_row : List Pd.S := [.ret (.and (.bi (.isi "tuple") [(.nm 0)]) (.chain .le .le (.nm 1) (.bi .len [(.nm 0)]) (.nm 2)))]
def d_is_row : DefI := ⟨"is_row", top 19, ["value", "low", "high"], ["value", "low", "high"], [], ir_is_row, false⟩
theorem t_is_row : trDef (if d_is_row.lm then G else G.noLam) d_is_row.N d_is_row.mu d_is_row.st = some d_is_row.ir := by kernel_rfl
theorem s_is_row : FnScope d_is_row.N d_is_row.ps (defScope d_is_row.st) := ⟨by kernel_rfl, by kernel_rfl, by kernel_rfl, by decide +kernel, by kernel_rfl, by decide +kernel, by decide +kernel⟩
def ir_is_pair : List Pd.S := [.ret (.and (.call false 3 [(.nm 0), (.k (.int 2)), (.k (.int 2))]) (.and (.call false 2 [(.op .idx (.nm 0) (.k (.int 0))), (.nm 1), (.nm 2)]) (.call false 2 [(.op .idx (.nm 0) (.k (.int 1))), (.nm 3), (.nm 4)])))]
def d_is_pair : DefI := ⟨"is_pair", top 20, ["value", "low", "high", "least", "most"], ["value", "low", "high", "least", "most"], [], ir_is_pair, false⟩
theorem t_is_pair : trDef (if d_is_pair.lm then G else G.noLam) d_is_pair.N d_is_pair.mu d_is_pair.st = some d_is_pair.ir := by kernel_rfl
theorem s_is_pair : FnScope d_is_pair.N d_is_pair.ps (defScope d_is_pair.st) := ⟨by kernel_rfl, by kernel_rfl, by kernel_rfl, by decide +kernel, by kernel_rfl, by decide +kernel, by decide +kernel⟩
def ir_is_tide : List Pd.S := [.ite (.or (.not (.call false 3 [(.nm 0), (.k (.int 2)), (.k (.int 6))])) (.not (.bi .all [(.comp (.call false 4 [(.nm 1), (.k (.int 0)), (.k (.int 23)), (.k (.int 0)), (.k (.int 24))]) (.nm 1) (.seq (.nm 0)) none [1])]))) [.ret (.k (.bl false))] [], .ret (.and (.op .eq (.op .idx (.op .idx (.nm 0) (.k (.int 0))) (.k (.int 0))) (.k (.int 0))) (.bi .all [(.comp (.op .lt (.op .idx (.nm 2) (.k (.int 0))) (.op .idx (.nm 3) (.k (.int 0)))) (.tup [(.nm 2), (.nm 3)]) (.zip (.nm 0) (.slc (.nm 0) (some (.k (.int 1))) none)) none [2, 3])]))]
def d_is_tide : DefI := ⟨"is_tide", top 21, ["value"], ["value", "pair", "one", "other"], [], ir_is_tide, false⟩
theorem t_is_tide : trDef (if d_is_tide.lm then G else G.noLam) d_is_tide.N d_is_tide.mu d_is_tide.st = some d_is_tide.ir := by kernel_rfl
theorem s_is_tide : FnScope d_is_tide.N d_is_tide.ps (defScope d_is_tide.st) := ⟨by kernel_rfl, by kernel_rfl, by kernel_rfl, by decide +kernel, by kernel_rfl, by decide +kernel, by decide +kernel⟩
def ir_is_harbour : List Pd.S := [.ite (.or (.not (.call false 3 [(.nm 0), (.k (.int 3)), (.k (.int 3))])) (.or (.not (.call false 5 [(.op .idx (.nm 0) (.k (.int 0)))])) (.not (.call false 3 [(.op .idx (.nm 0) (.k (.int 1))), (.k (.int 1)), (.k (.int 4))])))) [.ret (.k (.bl false))] [], .ite (.not (.call false 3 [(.op .idx (.nm 0) (.k (.int 2))), (.op .sub (.bi .len [(.op .idx (.nm 0) (.k (.int 1)))]) (.k (.int 1))), (.op .sub (.bi .len [(.op .idx (.nm 0) (.k (.int 1)))]) (.k (.int 1)))])) [.ret (.k (.bl false))] [], .ite (.not (.bi .all [(.comp (.call false 2 [(.nm 2), (.neg (.k (.int 9))), (.k (.int 9))]) (.nm 2) (.seq (.op .idx (.nm 0) (.k (.int 1)))) none [2])])) [.ret (.k (.bl false))] [], .ret (.bi .all [(.comp (.call false 4 [(.nm 1), (.neg (.k (.int 9))), (.k (.int 9)), (.k (.int 1)), (.k (.int 12))]) (.nm 1) (.seq (.op .idx (.nm 0) (.k (.int 2)))) none [1])])]
def d_is_harbour : DefI := ⟨"is_harbour", top 22, ["value"], ["value", "bar", "sill"], [], ir_is_harbour, false⟩
theorem t_is_harbour : trDef (if d_is_harbour.lm then G else G.noLam) d_is_harbour.N d_is_harbour.mu d_is_harbour.st = some d_is_harbour.ir := by kernel_rfl
theorem s_is_harbour : FnScope d_is_harbour.N d_is_harbour.ps (defScope d_is_harbour.st) := ⟨by kernel_rfl, by kernel_rfl, by kernel_rfl, by decide +kernel, by kernel_rfl, by decide +kernel, by decide +kernel⟩
def ir_is_fraction : List Pd.S := [.ite (.or (.not (.call false 3 [(.nm 0), (.k (.int 2)), (.k (.int 2))])) (.or (.not (.call false 2 [(.op .idx (.nm 0) (.k (.int 0))), (.k (.int 0)), (.nm 1)])) (.not (.call false 2 [(.op .idx (.nm 0) (.k (.int 1))), (.k (.int 1)), (.nm 1)])))) [.ret (.k (.bl false))] [], .ret (.op .eq (.call false 0 [(.op .idx (.nm 0) (.k (.int 0))), (.op .idx (.nm 0) (.k (.int 1)))]) (.k (.int 1)))]
def d_is_fraction : DefI := ⟨"is_fraction", top 23, ["value", "most"], ["value", "most"], [], ir_is_fraction, false⟩
theorem t_is_fraction : trDef (if d_is_fraction.lm then G else G.noLam) d_is_fraction.N d_is_fraction.mu d_is_fraction.st = some d_is_fraction.ir := by kernel_rfl
theorem s_is_fraction : FnScope d_is_fraction.N d_is_fraction.ps (defScope d_is_fraction.st) := ⟨by kernel_rfl, by kernel_rfl, by kernel_rfl, by decide +kernel, by kernel_rfl, by decide +kernel, by decide +kernel⟩
def ir_is_unit : List Pd.S := [.ret (.and (.call false 7 [(.nm 0), (.k (.int 1000000))]) (.op .le (.op .idx (.nm 0) (.k (.int 0))) (.op .mul (.k (.int 12)) (.op .idx (.nm 0) (.k (.int 1))))))]
def d_is_unit : DefI := ⟨"is_unit", top 24, ["value"], ["value"], [], ir_is_unit, false⟩
theorem t_is_unit : trDef (if d_is_unit.lm then G else G.noLam) d_is_unit.N d_is_unit.mu d_is_unit.st = some d_is_unit.ir := by kernel_rfl
theorem s_is_unit : FnScope d_is_unit.N d_is_unit.ps (defScope d_is_unit.st) := ⟨by kernel_rfl, by kernel_rfl, by kernel_rfl, by decide +kernel, by kernel_rfl, by decide +kernel, by decide +kernel⟩
def ir_fits_boat : List Pd.S := [.ite (.or (.not (.call false 3 [(.nm 1), (.k (.int 3)), (.k (.int 3))])) (.not (.call false 2 [(.op .idx (.nm 1) (.k (.int 0))), (.k (.int 0)), (.op .sub (.bi .len [(.op .idx (.nm 0) (.k (.int 1)))]) (.k (.int 1)))]))) [.ret (.k (.bl false))] [], .ret (.and (.call false 2 [(.op .idx (.nm 1) (.k (.int 1))), (.k (.int 0)), (.k (.int 9))]) (.call false 2 [(.op .idx (.nm 1) (.k (.int 2))), (.k (.int 0)), (.k (.int 100))]))]
def d_fits_boat : DefI := ⟨"fits_boat", top 25, ["harbour", "value"], ["harbour", "value"], [], ir_fits_boat, false⟩
theorem t_fits_boat : trDef (if d_fits_boat.lm then G else G.noLam) d_fits_boat.N d_fits_boat.mu d_fits_boat.st = some d_fits_boat.ir := by kernel_rfl
theorem s_fits_boat : FnScope d_fits_boat.N d_fits_boat.ps (defScope d_fits_boat.st) := ⟨by kernel_rfl, by kernel_rfl, by kernel_rfl, by decide +kernel, by kernel_rfl, by decide +kernel, by decide +kernel⟩
def ir_is_side : List Pd.S := [.ret (.and (.bi (.isi "str") [(.nm 0)]) (.op .in_ (.nm 0) (.k (.tup [(.str "out"), (.str "in")]))))]
def d_is_side : DefI := ⟨"is_side", top 26, ["value"], ["value"], [], ir_is_side, false⟩
theorem t_is_side : trDef (if d_is_side.lm then G else G.noLam) d_is_side.N d_is_side.mu d_is_side.st = some d_is_side.ir := by kernel_rfl
theorem s_is_side : FnScope d_is_side.N d_is_side.ps (defScope d_is_side.st) := ⟨by kernel_rfl, by kernel_rfl, by kernel_rfl, by decide +kernel, by kernel_rfl, by decide +kernel, by decide +kernel⟩
def ir_is_step : List Pd.S := [.ite (.or (.not (.call false 3 [(.nm 0), (.k (.int 1)), (.k (.int 2))])) (.not (.bi (.isi "str") [(.op .idx (.nm 0) (.k (.int 0)))]))) [.ret (.k (.bl false))] [], .ite (.op .eq (.bi .len [(.nm 0)]) (.k (.int 1))) [.ret (.op .in_ (.op .idx (.nm 0) (.k (.int 0))) (.tup [(.k (.str "lie")), (.k (.str "top"))]))] [], .ite (.op .eq (.op .idx (.nm 0) (.k (.int 0))) (.k (.str "wait"))) [.ret (.call false 2 [(.op .idx (.nm 0) (.k (.int 1))), (.k (.int 0)), (.k (.int 24))])] [], .ite (.op .eq (.op .idx (.nm 0) (.k (.int 0))) (.k (.str "sail"))) [.ret (.call false 10 [(.op .idx (.nm 0) (.k (.int 1)))])] [], .ret (.and (.op .eq (.op .idx (.nm 0) (.k (.int 0))) (.k (.str "load"))) (.and (.call false 2 [(.op .idx (.nm 0) (.k (.int 1))), (.neg (.k (.int 9))), (.k (.int 9))]) (.op .ne (.op .idx (.nm 0) (.k (.int 1))) (.k (.int 0)))))]
def d_is_step : DefI := ⟨"is_step", top 27, ["value"], ["value"], [], ir_is_step, false⟩
theorem t_is_step : trDef (if d_is_step.lm then G else G.noLam) d_is_step.N d_is_step.mu d_is_step.st = some d_is_step.ir := by kernel_rfl
theorem s_is_step : FnScope d_is_step.N d_is_step.ps (defScope d_is_step.st) := ⟨by kernel_rfl, by kernel_rfl, by kernel_rfl, by decide +kernel, by kernel_rfl, by decide +kernel, by decide +kernel⟩
def ir_is_any_step : List Pd.S := [.ite (.or (.not (.call false 3 [(.nm 0), (.k (.int 4)), (.k (.int 4))])) (.or (.not (.bi (.isi "str") [(.op .idx (.nm 0) (.k (.int 0)))])) (.op .ne (.op .idx (.nm 0) (.k (.int 0))) (.k (.str "if"))))) [.ret (.call false 11 [(.nm 0)])] [], .ite (.or (.not (.call false 10 [(.op .idx (.nm 0) (.k (.int 1)))])) (.or (.not (.call false 3 [(.op .idx (.nm 0) (.k (.int 2))), (.k (.int 0)), (.k (.int 2))])) (.not (.call false 3 [(.op .idx (.nm 0) (.k (.int 3))), (.k (.int 0)), (.k (.int 2))])))) [.ret (.k (.bl false))] [], .ret (.bi .all [(.comp (.call false 11 [(.nm 1)]) (.nm 1) (.seq (.op .add (.op .idx (.nm 0) (.k (.int 2))) (.op .idx (.nm 0) (.k (.int 3))))) none [1])])]
def d_is_any_step : DefI := ⟨"is_any_step", top 28, ["value"], ["value", "step"], [], ir_is_any_step, false⟩
theorem t_is_any_step : trDef (if d_is_any_step.lm then G else G.noLam) d_is_any_step.N d_is_any_step.mu d_is_any_step.st = some d_is_any_step.ir := by kernel_rfl
theorem s_is_any_step : FnScope d_is_any_step.N d_is_any_step.ps (defScope d_is_any_step.st) := ⟨by kernel_rfl, by kernel_rfl, by kernel_rfl, by decide +kernel, by kernel_rfl, by decide +kernel, by decide +kernel⟩
def ir_is_script : List Pd.S := [.ret (.and (.call false 3 [(.nm 0), (.k (.int 0)), (.k (.int 4))]) (.bi .all [(.comp (.call false 12 [(.nm 1)]) (.nm 1) (.seq (.nm 0)) none [1])]))]
def d_is_script : DefI := ⟨"is_script", top 29, ["value"], ["value", "step"], [], ir_is_script, false⟩
theorem t_is_script : trDef (if d_is_script.lm then G else G.noLam) d_is_script.N d_is_script.mu d_is_script.st = some d_is_script.ir := by kernel_rfl
theorem s_is_script : FnScope d_is_script.N d_is_script.ps (defScope d_is_script.st) := ⟨by kernel_rfl, by kernel_rfl, by kernel_rfl, by decide +kernel, by kernel_rfl, by decide +kernel, by decide +kernel⟩
def ir_need_harbour : List Pd.S := [.ite (.not (.call false 6 [(.nm 0)])) [.raise 2] []]
def d_need_harbour : DefI := ⟨"need_harbour", top 30, ["harbour"], ["harbour"], [], ir_need_harbour, false⟩
theorem t_need_harbour : trDef (if d_need_harbour.lm then G else G.noLam) d_need_harbour.N d_need_harbour.mu d_need_harbour.st = some d_need_harbour.ir := by kernel_rfl
theorem s_need_harbour : FnScope d_need_harbour.N d_need_harbour.ps (defScope d_need_harbour.st) := ⟨by kernel_rfl, by kernel_rfl, by kernel_rfl, by decide +kernel, by kernel_rfl, by decide +kernel, by decide +kernel⟩
def ir_is_boat : List Pd.S := [.expr (.call false 14 [(.nm 0)]), .ret (.call false 9 [(.nm 0), (.nm 1)])]
def d_is_boat : DefI := ⟨"is_boat", top 31, ["harbour", "value"], ["harbour", "value"], [], ir_is_boat, false⟩
theorem t_is_boat : trDef (if d_is_boat.lm then G else G.noLam) d_is_boat.N d_is_boat.mu d_is_boat.st = some d_is_boat.ir := by kernel_rfl
theorem s_is_boat : FnScope d_is_boat.N d_is_boat.ps (defScope d_is_boat.st) := ⟨by kernel_rfl, by kernel_rfl, by kernel_rfl, by decide +kernel, by kernel_rfl, by decide +kernel, by decide +kernel⟩
def ir__law_cell : List Pd.S := [.ite (.op .lt (.nm 1) (.bi .len [(.nm 0)])) [.ret (.op .idx (.nm 0) (.nm 1))] [], .ite (.op .eq (.bi .len [(.nm 0)]) (.k (.int 0))) [.ret (.op .add (.op .mul (.k (.int 7919)) (.nm 1)) (.k (.int 101)))] [], .ret (.op .add (.op .mod (.op .idx (.nm 0) (.op .mod (.nm 1) (.bi .len [(.nm 0)]))) (.k (.int 1000003))) (.op .mul (.k (.int 7919)) (.nm 1)))]
def d__law_cell : DefI := ⟨"_law_cell", top 33, ["script", "k"], ["script", "k"], [], ir__law_cell, false⟩
theorem t__law_cell : trDef (if d__law_cell.lm then G else G.noLam) d__law_cell.N d__law_cell.mu d__law_cell.st = some d__law_cell.ir := by kernel_rfl
theorem s__law_cell : FnScope d__law_cell.N d__law_cell.ps (defScope d__law_cell.st) := ⟨by kernel_rfl, by kernel_rfl, by kernel_rfl, by decide +kernel, by kernel_rfl, by decide +kernel, by decide +kernel⟩
def ir__law_draws : List Pd.S := [.set (.nm 4) (.tup [(.k (.int 2147483647)), (.k (.int 2147483629)), (.k (.int 2147483587)), (.k (.int 2147483579)), (.k (.int 2147483563)), (.k (.int 2147483549)), (.k (.int 2147483543)), (.k (.int 2147483497))]), .set (.nm 5) (.call false 16 [(.nm 0), (.nm 1)]), .set (.nm 6) (.k (.int 0)), .ite (.op .ge (.nm 5) (.op .pow (.k (.int 10)) (.k (.int 18)))) [.set (.nm 6) (.nm 5)] [], .set (.nm 7) (.lst true []), .for_ (.nm 8) (.rng (.nm 2)) [.set (.nm 9) (.op .mul (.op .mod (.nm 5) (.op .idx (.nm 4) (.op .mod (.nm 8) (.k (.int 8))))) (.op .add (.k (.int 48271)) (.op .mul (.op .mul (.k (.int 2)) (.nm 8)) (.nm 8)))), .set (.nm 9) (.op .add (.op .add (.nm 9) (.op .mul (.op .mul (.k (.int 7919)) (.op .add (.nm 8) (.k (.int 1)))) (.op .add (.nm 8) (.k (.int 1))))) (.op .mul (.k (.int 104729)) (.nm 1))), .set (.nm 9) (.op .mod (.nm 9) (.op .idx (.nm 4) (.op .mod (.op .add (.op .mul (.k (.int 3)) (.nm 8)) (.nm 1)) (.k (.int 8))))), .set (.nm 9) (.op .mod (.op .mul (.op .mul (.nm 9) (.nm 9)) (.nm 9)) (.op .idx (.nm 4) (.op .mod (.op .add (.nm 8) (.k (.int 5))) (.k (.int 8))))), .ite (.op .gt (.nm 6) (.k (.int 0))) [.set (.nm 9) (.nm 6)] [], .expr (.push (.nm 7) (.op .mod (.nm 9) (.nm 3))), .set (.nm 6) (.op .div (.nm 6) (.nm 3))], .ret (.nm 7)]
def d__law_draws : DefI := ⟨"_law_draws", top 34, ["script", "k", "many", "base"], ["script", "k", "many", "base", "primes", "cell", "rest", "row", "j", "mash"], ["row"], ir__law_draws, false⟩
theorem t__law_draws : trDef (if d__law_draws.lm then G else G.noLam) d__law_draws.N d__law_draws.mu d__law_draws.st = some d__law_draws.ir := by kernel_rfl
theorem s__law_draws : FnScope d__law_draws.N d__law_draws.ps (defScope d__law_draws.st) := ⟨by kernel_rfl, by kernel_rfl, by kernel_rfl, by decide +kernel, by kernel_rfl, by decide +kernel, by decide +kernel⟩
def ir__law_bag : List Pd.S := [.ret (.call true 17 [(.nm 0), (.nm 1), (.k (.int 150)), (.k (.int 27720))])]
def d__law_bag : DefI := ⟨"_law_bag", top 35, ["script", "k"], ["script", "k"], ["return"], ir__law_bag, false⟩
theorem t__law_bag : trDef (if d__law_bag.lm then G else G.noLam) d__law_bag.N d__law_bag.mu d__law_bag.st = some d__law_bag.ir := by kernel_rfl
theorem s__law_bag : FnScope d__law_bag.N d__law_bag.ps (defScope d__law_bag.st) := ⟨by kernel_rfl, by kernel_rfl, by kernel_rfl, by decide +kernel, by kernel_rfl, by decide +kernel, by decide +kernel⟩
def ir__law_take : List Pd.S := [.set (.nm 2) (.ite (.op .ne (.nm 0) (.lst false [])) (.pop0 (.nm 0)) (.k (.int 0))), .ret (.op .mod (.bi .int [(.nm 2)]) (.nm 1))]
def d__law_take : DefI := ⟨"_law_take", top 36, ["bag", "many"], ["bag", "many", "draw"], ["bag"], ir__law_take, false⟩
theorem t__law_take : trDef (if d__law_take.lm then G else G.noLam) d__law_take.N d__law_take.mu d__law_take.st = some d__law_take.ir := by kernel_rfl
theorem s__law_take : FnScope d__law_take.N d__law_take.ps (defScope d__law_take.st) := ⟨by kernel_rfl, by kernel_rfl, by kernel_rfl, by decide +kernel, by kernel_rfl, by decide +kernel, by decide +kernel⟩
def ir__law_choice : List Pd.S := [.ret (.op .idx (.nm 1) (.call false 19 [(.nm 0), (.bi .len [(.nm 1)])]))]
def d__law_choice : DefI := ⟨"_law_choice", top 37, ["bag", "some"], ["bag", "some"], [], ir__law_choice, false⟩
theorem t__law_choice : trDef (if d__law_choice.lm then G else G.noLam) d__law_choice.N d__law_choice.mu d__law_choice.st = some d__law_choice.ir := by kernel_rfl
theorem s__law_choice : FnScope d__law_choice.N d__law_choice.ps (defScope d__law_choice.st) := ⟨by kernel_rfl, by kernel_rfl, by kernel_rfl, by decide +kernel, by kernel_rfl, by decide +kernel, by decide +kernel⟩
def ir__law_tide : List Pd.S := [.par [1, 2] [(.k (.int 0)), (.lst true [])], .while_ (.and (.op .lt (.nm 1) (.k (.int 24))) (.op .lt (.bi .len [(.nm 2)]) (.k (.int 5)))) [.expr (.push (.nm 2) (.tup [(.nm 1), (.call false 19 [(.nm 0), (.k (.int 13))])])), .set (.nm 1) (.op .add (.op .add (.nm 1) (.k (.int 3))) (.call false 19 [(.nm 0), (.k (.int 6))]))], .ret (.ite (.op .gt (.bi .len [(.nm 2)]) (.k (.int 1))) (.bi .tup [(.nm 2)]) (.tup [(.tup [(.k (.int 0)), (.k (.int 0))]), (.tup [(.k (.int 12)), (.k (.int 9))])]))]
def d__law_tide : DefI := ⟨"_law_tide", top 38, ["bag"], ["bag", "hour", "rows"], ["rows"], ir__law_tide, false⟩
theorem t__law_tide : trDef (if d__law_tide.lm then G else G.noLam) d__law_tide.N d__law_tide.mu d__law_tide.st = some d__law_tide.ir := by kernel_rfl
theorem s__law_tide : FnScope d__law_tide.N d__law_tide.ps (defScope d__law_tide.st) := ⟨by kernel_rfl, by kernel_rfl, by kernel_rfl, by decide +kernel, by kernel_rfl, by decide +kernel, by decide +kernel⟩
def ir__law_harbour : List Pd.S := [.par [3, 4] [(.tup [(.op .sub (.call false 19 [(.nm 0), (.k (.int 4))]) (.k (.int 2)))]), (.tup [])], .for_ (.nm 2) (.rng (.call false 19 [(.nm 0), (.nm 1)])) [.set (.nm 4) (.op .add (.nm 4) (.tup [(.tup [(.op .sub (.call false 19 [(.nm 0), (.k (.int 4))]) (.k (.int 1))), (.op .add (.k (.int 1)) (.call false 19 [(.nm 0), (.k (.int 5))]))])])), .set (.nm 3) (.op .add (.nm 3) (.tup [(.op .sub (.call false 19 [(.nm 0), (.k (.int 4))]) (.k (.int 2)))]))], .ret (.tup [(.call false 21 [(.nm 0)]), (.nm 3), (.nm 4)])]
def d__law_harbour : DefI := ⟨"_law_harbour", top 39, ["bag", "most"], ["bag", "most", "turn", "sills", "bars"], [], ir__law_harbour, false⟩
theorem t__law_harbour : trDef (if d__law_harbour.lm then G else G.noLam) d__law_harbour.N d__law_harbour.mu d__law_harbour.st = some d__law_harbour.ir := by kernel_rfl
theorem s__law_harbour : FnScope d__law_harbour.N d__law_harbour.ps (defScope d__law_harbour.st) := ⟨by kernel_rfl, by kernel_rfl, by kernel_rfl, by decide +kernel, by kernel_rfl, by decide +kernel, by decide +kernel⟩
def ir__law_boat : List Pd.S := [.ret (.tup [(.call false 19 [(.nm 0), (.bi .len [(.op .idx (.nm 1) (.k (.int 1)))])]), (.call false 19 [(.nm 0), (.k (.int 4))]), (.call false 19 [(.nm 0), (.k (.int 30))])])]
def d__law_boat : DefI := ⟨"_law_boat", top 40, ["bag", "harbour_so"], ["bag", "harbour_so"], [], ir__law_boat, false⟩
theorem t__law_boat : trDef (if d__law_boat.lm then G else G.noLam) d__law_boat.N d__law_boat.mu d__law_boat.st = some d__law_boat.ir := by kernel_rfl
theorem s__law_boat : FnScope d__law_boat.N d__law_boat.ps (defScope d__law_boat.st) := ⟨by kernel_rfl, by kernel_rfl, by kernel_rfl, by decide +kernel, by kernel_rfl, by decide +kernel, by decide +kernel⟩
def ir__law_step : List Pd.S := [.set (.nm 1) (.call false 19 [(.nm 0), (.k (.int 9))]), .ite (.op .lt (.nm 1) (.k (.int 4))) [.ret (.tup [(.k (.str "sail")), (.call false 20 [(.nm 0), (.lst false [(.k (.str "out")), (.k (.str "out")), (.k (.str "in"))])])])] [], .ite (.op .eq (.nm 1) (.k (.int 4))) [.ret (.tup [(.k (.str "wait")), (.call false 19 [(.nm 0), (.k (.int 25))])])] [], .ite (.op .lt (.nm 1) (.k (.int 7))) [.ret (.tup [(.k (.str "lie"))])] [], .ret (.ite (.op .eq (.nm 1) (.k (.int 7))) (.tup [(.k (.str "top"))]) (.tup [(.k (.str "load")), (.call false 20 [(.nm 0), (.lst false [(.neg (.k (.int 9))), (.neg (.k (.int 2))), (.neg (.k (.int 1))), (.k (.int 1)), (.k (.int 2)), (.k (.int 5))])])]))]
def d__law_step : DefI := ⟨"_law_step", top 41, ["bag"], ["bag", "way"], [], ir__law_step, false⟩
theorem t__law_step : trDef (if d__law_step.lm then G else G.noLam) d__law_step.N d__law_step.mu d__law_step.st = some d__law_step.ir := by kernel_rfl
theorem s__law_step : FnScope d__law_step.N d__law_step.ps (defScope d__law_step.st) := ⟨by kernel_rfl, by kernel_rfl, by kernel_rfl, by decide +kernel, by kernel_rfl, by decide +kernel, by decide +kernel⟩
def ir__law_steps : List Pd.S := [.set (.nm 2) (.tup []), .for_ (.nm 3) (.rng (.call false 19 [(.nm 0), (.op .add (.nm 1) (.k (.int 1)))])) [.ite (.op .eq (.call false 19 [(.nm 0), (.k (.int 5))]) (.k (.int 0))) [.set (.nm 4) (.lst true []), .for_ (.nm 5) (.rng (.k (.int 2))) [.expr (.push (.nm 4) (.bi .tup [(.comp (.call false 24 [(.nm 0)]) (.nm 6) (.rng (.call false 19 [(.nm 0), (.k (.int 2))])) none [6])]))], .set (.nm 2) (.op .add (.nm 2) (.tup [(.tup [(.k (.str "if")), (.call false 20 [(.nm 0), (.lst false [(.k (.str "out")), (.k (.str "in"))])]), (.op .idx (.nm 4) (.k (.int 0))), (.op .idx (.nm 4) (.k (.int 1)))])]))] [.set (.nm 2) (.op .add (.nm 2) (.tup [(.call false 24 [(.nm 0)])]))]], .ret (.nm 2)]
def d__law_steps : DefI := ⟨"_law_steps", top 42, ["bag", "most"], ["bag", "most", "found", "turn", "rows", "branch", "step"], ["rows"], ir__law_steps, false⟩
theorem t__law_steps : trDef (if d__law_steps.lm then G else G.noLam) d__law_steps.N d__law_steps.mu d__law_steps.st = some d__law_steps.ir := by kernel_rfl
theorem s__law_steps : FnScope d__law_steps.N d__law_steps.ps (defScope d__law_steps.st) := ⟨by kernel_rfl, by kernel_rfl, by kernel_rfl, by decide +kernel, by kernel_rfl, by decide +kernel, by decide +kernel⟩
def ir__law_truly : List Pd.S := [.ret (.and (.bi (.isi "bool") [(.nm 0)]) (.op .eq (.nm 0) (.nm 1)))]
def d__law_truly : DefI := ⟨"_law_truly", top 45, ["found", "due"], ["found", "due"], [], ir__law_truly, false⟩
theorem t__law_truly : trDef (if d__law_truly.lm then G else G.noLam) d__law_truly.N d__law_truly.mu d__law_truly.st = some d__law_truly.ir := by kernel_rfl
theorem s__law_truly : FnScope d__law_truly.N d__law_truly.ps (defScope d__law_truly.st) := ⟨by kernel_rfl, by kernel_rfl, by kernel_rfl, by decide +kernel, by kernel_rfl, by decide +kernel, by decide +kernel⟩
def ir__law_whole : List Pd.S := [.ret (.and (.bi (.isi "int") [(.nm 0)]) (.and (.not (.bi (.isi "bool") [(.nm 0)])) (.chain .le .le (.nm 1) (.nm 0) (.nm 2))))]
def d__law_whole : DefI := ⟨"_law_whole", top 46, ["value", "low", "high"], ["value", "low", "high"], [], ir__law_whole, false⟩
theorem t__law_whole : trDef (if d__law_whole.lm then G else G.noLam) d__law_whole.N d__law_whole.mu d__law_whole.st = some d__law_whole.ir := by kernel_rfl
theorem s__law_whole : FnScope d__law_whole.N d__law_whole.ps (defScope d__law_whole.st) := ⟨by kernel_rfl, by kernel_rfl, by kernel_rfl, by decide +kernel, by kernel_rfl, by decide +kernel, by decide +kernel⟩
def ir__law_spoilt : List Pd.S := [.ite (.bi (.isi "list") [(.nm 1)]) [.ret (.bi .tup [(.nm 1)])] [], .ite (.and (.bi (.isi "tuple") [(.nm 1)]) (.and (.op .ne (.nm 1) (.tup [])) (.op .gt (.call false 19 [(.nm 0), (.k (.int 6))]) (.k (.int 0))))) [.set (.nm 3) (.call false 19 [(.nm 0), (.bi .len [(.nm 1)])]), .ret (.op .add (.op .add (.slc (.nm 1) none (some (.nm 3))) (.tup [(.call false 28 [(.nm 0), (.op .idx (.nm 1) (.nm 3))])])) (.slc (.nm 1) (some (.op .add (.nm 3) (.k (.int 1)))) none))] [], .set (.nm 2) (.call false 19 [(.nm 0), (.k (.int 7))]), .ite (.bi (.isi "tuple") [(.nm 1)]) [.set (.nm 4) (.op .idx (.lst false [(.tup [(.k (.int 3)), (.k (.int 5))]), (.tup [(.k (.str "lie"))]), (.tup [(.k (.str "sail")), (.k (.str "in"))]), (.k (.int 4))]) (.call false 19 [(.nm 0), (.k (.int 4))])), .ret (.op .idx (.lst false [(.bi .lst [(.nm 1)]), (.slc (.nm 1) (some (.k (.int 1))) none), (.op .add (.nm 1) (.slc (.nm 1) (some (.neg (.k (.int 1)))) none)), (.rev (.nm 1)), (.tup []), (.op .add (.nm 1) (.tup [(.nm 4)])), (.k .non)]) (.nm 2))] [], .ite (.bi (.isi "int") [(.nm 1)]) [.ret (.op .idx (.lst false [(.op .add (.nm 1) (.k (.int 1))), (.op .sub (.nm 1) (.k (.int 1))), (.op .add (.nm 1) (.k (.int 30))), (.k (.bl true)), (.k .non), (.k (.int 0)), (.k (.str "1"))]) (.nm 2))] [], .ret (.op .idx (.lst false [(.k (.str "sail")), (.k (.str "out")), (.k (.str "top")), (.k (.str "load")), (.k (.str "if")), (.k (.int 3)), (.k (.str "wait"))]) (.nm 2))]
def d__law_spoilt : DefI := ⟨"_law_spoilt", top 47, ["bag", "value"], ["bag", "value", "way", "at", "more"], [], ir__law_spoilt, false⟩
theorem t__law_spoilt : trDef (if d__law_spoilt.lm then G else G.noLam) d__law_spoilt.N d__law_spoilt.mu d__law_spoilt.st = some d__law_spoilt.ir := by kernel_rfl
theorem s__law_spoilt : FnScope d__law_spoilt.N d__law_spoilt.ps (defScope d__law_spoilt.st) := ⟨by kernel_rfl, by kernel_rfl, by kernel_rfl, by decide +kernel, by kernel_rfl, by decide +kernel, by decide +kernel⟩
def ir__law_pair : List Pd.S := [.ite (.or (.not (.bi (.isi "tuple") [(.nm 0)])) (.op .ne (.bi .len [(.nm 0)]) (.k (.int 2)))) [.ret (.k (.bl false))] [], .ret (.and (.call false 27 [(.op .idx (.nm 0) (.k (.int 0))), (.nm 1), (.nm 2)]) (.call false 27 [(.op .idx (.nm 0) (.k (.int 1))), (.nm 3), (.nm 4)]))]
def d__law_pair : DefI := ⟨"_law_pair", top 48, ["value", "low", "high", "least", "most"], ["value", "low", "high", "least", "most"], [], ir__law_pair, false⟩
theorem t__law_pair : trDef (if d__law_pair.lm then G else G.noLam) d__law_pair.N d__law_pair.mu d__law_pair.st = some d__law_pair.ir := by kernel_rfl
theorem s__law_pair : FnScope d__law_pair.N d__law_pair.ps (defScope d__law_pair.st) := ⟨by kernel_rfl, by kernel_rfl, by kernel_rfl, by decide +kernel, by kernel_rfl, by decide +kernel, by decide +kernel⟩
def ir__law_good_tide : List Pd.S := [.ite (.or (.not (.bi (.isi "tuple") [(.nm 0)])) (.not (.chain .le .le (.k (.int 2)) (.bi .len [(.nm 0)]) (.k (.int 6))))) [.ret (.k (.bl false))] [], .for_ (.nm 1) (.seq (.nm 0)) [.ite (.not (.call false 29 [(.nm 1), (.k (.int 0)), (.k (.int 23)), (.k (.int 0)), (.k (.int 24))])) [.ret (.k (.bl false))] []], .set (.nm 2) (.comp (.op .idx (.nm 1) (.k (.int 0))) (.nm 1) (.seq (.nm 0)) none [1]), .ret (.and (.op .eq (.op .idx (.nm 2) (.k (.int 0))) (.k (.int 0))) (.op .eq (.nm 2) (.bi .sset [(.nm 2)])))]
def d__law_good_tide : DefI := ⟨"_law_good_tide", top 49, ["value"], ["value", "pair", "hours"], [], ir__law_good_tide, false⟩
theorem t__law_good_tide : trDef (if d__law_good_tide.lm then G else G.noLam) d__law_good_tide.N d__law_good_tide.mu d__law_good_tide.st = some d__law_good_tide.ir := by kernel_rfl
theorem s__law_good_tide : FnScope d__law_good_tide.N d__law_good_tide.ps (defScope d__law_good_tide.st) := ⟨by kernel_rfl, by kernel_rfl, by kernel_rfl, by decide +kernel, by kernel_rfl, by decide +kernel, by decide +kernel⟩
def ir__law_good_harbour : List Pd.S := [.ite (.or (.not (.bi (.isi "tuple") [(.nm 0)])) (.or (.op .ne (.bi .len [(.nm 0)]) (.k (.int 3))) (.not (.call false 30 [(.op .idx (.nm 0) (.k (.int 0)))])))) [.ret (.k (.bl false))] [], .ite (.or (.not (.bi (.isi "tuple") [(.op .idx (.nm 0) (.k (.int 1)))])) (.or (.not (.bi (.isi "tuple") [(.op .idx (.nm 0) (.k (.int 2)))])) (.not (.chain .le .le (.k (.int 1)) (.bi .len [(.op .idx (.nm 0) (.k (.int 1)))]) (.k (.int 4)))))) [.ret (.k (.bl false))] [], .ite (.op .ne (.bi .len [(.op .idx (.nm 0) (.k (.int 2)))]) (.op .sub (.bi .len [(.op .idx (.nm 0) (.k (.int 1)))]) (.k (.int 1)))) [.ret (.k (.bl false))] [], .ite (.op .ne (.comp (.nm 1) (.nm 1) (.seq (.op .idx (.nm 0) (.k (.int 1)))) (some (.not (.call false 27 [(.nm 1), (.neg (.k (.int 9))), (.k (.int 9))]))) [1]) (.lst false [])) [.ret (.k (.bl false))] [], .ret (.op .eq (.comp (.nm 2) (.nm 2) (.seq (.op .idx (.nm 0) (.k (.int 2)))) (some (.not (.call false 29 [(.nm 2), (.neg (.k (.int 9))), (.k (.int 9)), (.k (.int 1)), (.k (.int 12))]))) [2]) (.lst false []))]
def d__law_good_harbour : DefI := ⟨"_law_good_harbour", top 50, ["value"], ["value", "sill", "bar"], [], ir__law_good_harbour, false⟩
theorem t__law_good_harbour : trDef (if d__law_good_harbour.lm then G else G.noLam) d__law_good_harbour.N d__law_good_harbour.mu d__law_good_harbour.st = some d__law_good_harbour.ir := by kernel_rfl
theorem s__law_good_harbour : FnScope d__law_good_harbour.N d__law_good_harbour.ps (defScope d__law_good_harbour.st) := ⟨by kernel_rfl, by kernel_rfl, by kernel_rfl, by decide +kernel, by kernel_rfl, by decide +kernel, by decide +kernel⟩
def ir__law_good_boat : List Pd.S := [.ite (.or (.not (.bi (.isi "tuple") [(.nm 1)])) (.or (.op .ne (.bi .len [(.nm 1)]) (.k (.int 3))) (.not (.call false 27 [(.op .idx (.nm 1) (.k (.int 0))), (.k (.int 0)), (.op .sub (.bi .len [(.op .idx (.nm 0) (.k (.int 1)))]) (.k (.int 1)))])))) [.ret (.k (.bl false))] [], .ret (.and (.call false 27 [(.op .idx (.nm 1) (.k (.int 1))), (.k (.int 0)), (.k (.int 9))]) (.call false 27 [(.op .idx (.nm 1) (.k (.int 2))), (.k (.int 0)), (.k (.int 100))]))]
def d__law_good_boat : DefI := ⟨"_law_good_boat", top 51, ["harbour_so", "value"], ["harbour_so", "value"], [], ir__law_good_boat, false⟩
theorem t__law_good_boat : trDef (if d__law_good_boat.lm then G else G.noLam) d__law_good_boat.N d__law_good_boat.mu d__law_good_boat.st = some d__law_good_boat.ir := by kernel_rfl
theorem s__law_good_boat : FnScope d__law_good_boat.N d__law_good_boat.ps (defScope d__law_good_boat.st) := ⟨by kernel_rfl, by kernel_rfl, by kernel_rfl, by decide +kernel, by kernel_rfl, by decide +kernel, by decide +kernel⟩
def ir__law_good_step : List Pd.S := [.ite (.or (.not (.bi (.isi "tuple") [(.nm 0)])) (.or (.not (.chain .le .le (.k (.int 1)) (.bi .len [(.nm 0)]) (.k (.int 2)))) (.not (.bi (.isi "str") [(.op .idx (.nm 0) (.k (.int 0)))])))) [.ret (.k (.bl false))] [], .ite (.op .eq (.bi .len [(.nm 0)]) (.k (.int 1))) [.ret (.op .in_ (.op .idx (.nm 0) (.k (.int 0))) (.lst false [(.k (.str "lie")), (.k (.str "top"))]))] [], .ite (.op .eq (.op .idx (.nm 0) (.k (.int 0))) (.k (.str "sail"))) [.ret (.and (.bi (.isi "str") [(.op .idx (.nm 0) (.k (.int 1)))]) (.op .in_ (.op .idx (.nm 0) (.k (.int 1))) (.lst false [(.k (.str "out")), (.k (.str "in"))])))] [], .ite (.op .eq (.op .idx (.nm 0) (.k (.int 0))) (.k (.str "wait"))) [.ret (.call false 27 [(.op .idx (.nm 0) (.k (.int 1))), (.k (.int 0)), (.k (.int 24))])] [], .ret (.and (.op .eq (.op .idx (.nm 0) (.k (.int 0))) (.k (.str "load"))) (.and (.call false 27 [(.op .idx (.nm 0) (.k (.int 1))), (.neg (.k (.int 9))), (.k (.int 9))]) (.op .ne (.op .idx (.nm 0) (.k (.int 1))) (.k (.int 0)))))]
def d__law_good_step : DefI := ⟨"_law_good_step", top 52, ["value"], ["value"], [], ir__law_good_step, false⟩
theorem t__law_good_step : trDef (if d__law_good_step.lm then G else G.noLam) d__law_good_step.N d__law_good_step.mu d__law_good_step.st = some d__law_good_step.ir := by kernel_rfl
theorem s__law_good_step : FnScope d__law_good_step.N d__law_good_step.ps (defScope d__law_good_step.st) := ⟨by kernel_rfl, by kernel_rfl, by kernel_rfl, by decide +kernel, by kernel_rfl, by decide +kernel, by decide +kernel⟩
def ir__law_good_script : List Pd.S := [.ite (.or (.not (.bi (.isi "tuple") [(.nm 0)])) (.op .gt (.bi .len [(.nm 0)]) (.k (.int 4)))) [.ret (.k (.bl false))] [], .for_ (.nm 1) (.seq (.nm 0)) [.ite (.and (.bi (.isi "tuple") [(.nm 1)]) (.and (.op .eq (.bi .len [(.nm 1)]) (.k (.int 4))) (.and (.bi (.isi "str") [(.op .idx (.nm 1) (.k (.int 0)))]) (.op .eq (.op .idx (.nm 1) (.k (.int 0))) (.k (.str "if")))))) [.ite (.or (.not (.bi (.isi "str") [(.op .idx (.nm 1) (.k (.int 1)))])) (.op .notIn (.op .idx (.nm 1) (.k (.int 1))) (.lst false [(.k (.str "out")), (.k (.str "in"))]))) [.ret (.k (.bl false))] [], .for_ (.nm 2) (.seq (.slc (.nm 1) (some (.k (.int 2))) none)) [.ite (.or (.not (.bi (.isi "tuple") [(.nm 2)])) (.op .gt (.bi .len [(.nm 2)]) (.k (.int 2)))) [.ret (.k (.bl false))] [], .ite (.op .ne (.comp (.nm 3) (.nm 3) (.seq (.nm 2)) (some (.not (.call false 33 [(.nm 3)]))) [3]) (.lst false [])) [.ret (.k (.bl false))] []]] [.ite (.not (.call false 33 [(.nm 1)])) [.ret (.k (.bl false))] []]], .ret (.k (.bl true))]
def d__law_good_script : DefI := ⟨"_law_good_script", top 53, ["value"], ["value", "step", "row", "one"], [], ir__law_good_script, false⟩
theorem t__law_good_script : trDef (if d__law_good_script.lm then G else G.noLam) d__law_good_script.N d__law_good_script.mu d__law_good_script.st = some d__law_good_script.ir := by kernel_rfl
theorem s__law_good_script : FnScope d__law_good_script.N d__law_good_script.ps (defScope d__law_good_script.st) := ⟨by kernel_rfl, by kernel_rfl, by kernel_rfl, by decide +kernel, by kernel_rfl, by decide +kernel, by decide +kernel⟩
def ir_law : List Pd.S := [.for_ (.nm 1) (.rng (.k (.int 7))) [.set (.nm 3) (.call true 18 [(.nm 0), (.nm 1)]), .set (.nm 4) (.call false 22 [(.nm 3), (.k (.int 4))]), .par [7, 8] [(.call false 23 [(.nm 3), (.nm 4)]), (.call false 25 [(.nm 3), (.k (.int 4))])], .ite (.or (.op .isNot (.call false 6 [(.nm 4)]) (.k (.bl true))) (.op .isNot (.call false 5 [(.op .idx (.nm 4) (.k (.int 0)))]) (.k (.bl true)))) [.ret (.k (.bl false))] [], .set (.tup [(.nm 9), (.nm 10), (.nm 11)]) (.tup [(.nm 4), (.nm 7), (.nm 8)]), .for_ (.nm 5) (.rng (.k (.int 18))) [.set (.nm 9) (.call false 28 [(.nm 3), (.ite (.op .eq (.op .mod (.nm 5) (.k (.int 3))) (.k (.int 0))) (.nm 4) (.nm 9))]), .set (.nm 10) (.call false 28 [(.nm 3), (.ite (.op .eq (.op .mod (.nm 5) (.k (.int 3))) (.k (.int 0))) (.nm 7) (.nm 10))]), .set (.nm 11) (.call false 28 [(.nm 3), (.ite (.op .eq (.op .mod (.nm 5) (.k (.int 3))) (.k (.int 0))) (.nm 8) (.nm 11))]), .set (.nm 12) (.call false 31 [(.nm 9)]), .ite (.not (.call false 26 [(.call false 6 [(.nm 9)]), (.nm 12)])) [.ret (.k (.bl false))] [], .ite (.and (.bi (.isi "tuple") [(.nm 9)]) (.op .ne (.nm 9) (.tup []))) [.ite (.not (.call false 26 [(.call false 5 [(.op .idx (.nm 9) (.k (.int 0)))]), (.call false 30 [(.op .idx (.nm 9) (.k (.int 0)))])])) [.ret (.k (.bl false))] []] [], .ite (.not (.call false 26 [(.call false 15 [(.nm 4), (.nm 10)]), (.call false 32 [(.nm 4), (.nm 10)])])) [.ret (.k (.bl false))] [], .ite (.not (.call false 26 [(.call false 13 [(.nm 11)]), (.call false 34 [(.nm 11)])])) [.ret (.k (.bl false))] [], .ite (.and (.not (.nm 12)) (.op .ne (.lam errNms (.call false 15 [(.nm 9), (.k .non)])) (.k (.str "harbour value")))) [.ret (.k (.bl false))] []], .for_ (.nm 6) (.seq (.lst false [(.tup [(.neg (.k (.int 1))), (.k (.int 2))]), (.tup [(.k (.int 25)), (.k (.int 2))]), (.tup [(.k (.int 2)), (.k (.int 4))]), (.tup [(.k (.int 1)), (.k (.int 0))]), (.tup [(.k (.bl true)), (.k (.int 2))]), (.lst false [(.k (.int 1)), (.k (.int 2))]), (.k (.int 1)), (.k .non), (.tup [(.k (.int 1)), (.op .add (.op .pow (.k (.int 10)) (.k (.int 6))) (.k (.int 1)))])])) [.ite (.op .isNot (.call false 8 [(.nm 6)]) (.k (.bl false))) [.ret (.k (.bl false))] []], .ite (.or (.not (.call false 8 [(.tup [(.k (.int 12)), (.k (.int 1))])])) (.or (.not (.call false 8 [(.tup [(.k (.int 0)), (.k (.int 1))])])) (.not (.call false 8 [(.tup [(.k (.int 1)), (.op .pow (.k (.int 10)) (.k (.int 6)))])])))) [.ret (.k (.bl false))] []], .set (.nm 2) (.lst false [(.call false 5 [(.tup [(.tup [(.k (.int 1)), (.k (.int 0))]), (.tup [(.k (.int 2)), (.k (.int 3))])])]), (.call false 5 [(.tup [(.tup [(.k (.int 0)), (.k (.int 0))])])]), (.call false 5 [(.tup [(.tup [(.k (.int 0)), (.k (.int 0))]), (.tup [(.k (.int 24)), (.k (.int 1))])])]), (.call false 5 [(.tup [(.tup [(.k (.int 0)), (.k (.int 25))]), (.tup [(.k (.int 3)), (.k (.int 1))])])])]), .set (.nm 2) (.op .add (.nm 2) (.lst false [(.call false 13 [(.tup [(.tup [(.k (.str "load")), (.k (.int 0))])])]), (.call false 13 [(.tup [(.tup [(.k (.str "if")), (.k (.str "up")), (.tup []), (.tup [])])])]), (.call false 13 [(.op .mul (.tup [(.tup [(.k (.str "lie"))])]) (.k (.int 5)))])])), .ret (.and (.op .eq (.nm 2) (.op .mul (.lst false [(.k (.bl false))]) (.k (.int 7)))) (.op .is (.call false 13 [(.tup [(.tup [(.k (.str "if")), (.k (.str "in")), (.tup []), (.op .mul (.tup [(.tup [(.k (.str "lie"))])]) (.k (.int 2)))])])]) (.k (.bl true))))]
def d_law : DefI := ⟨"law", top 54, ["script"], ["script", "k", "some", "bag", "harbour_so", "turn", "odd", "boat_so", "steps", "value", "other", "third", "good"], ["bag"], ir_law, true⟩
theorem t_law : trDef (if d_law.lm then G else G.noLam) d_law.N d_law.mu d_law.st = some d_law.ir := by kernel_rfl
theorem s_law : FnScope d_law.N d_law.ps (defScope d_law.st) := ⟨by kernel_rfl, by kernel_rfl, by kernel_rfl, by decide +kernel, by kernel_rfl, by decide +kernel, by decide +kernel⟩
def tab0 : List DefI := [d_divisor_of, d_is_plain, d_is_whole, d_is_row, d_is_pair, d_is_tide, d_is_harbour, d_is_fraction, d_is_unit, d_fits_boat, d_is_side, d_is_step]
def tab1 : List DefI := [d_is_any_step, d_is_script, d_need_harbour, d_is_boat, d__law_cell, d__law_draws, d__law_bag, d__law_take, d__law_choice, d__law_tide, d__law_harbour, d__law_boat]
def tab2 : List DefI := [d__law_step, d__law_steps, d__law_truly, d__law_whole, d__law_spoilt, d__law_pair, d__law_good_tide, d__law_good_harbour, d__law_good_boat, d__law_good_step, d__law_good_script, d_law]
def tab : List DefI := tab0 ++ tab1 ++ tab2
def WF : Nat := 1000000000
end Lw

end
section
set_option Elab.async false
set_option linter.all false
set_option maxRecDepth 100000
set_option maxHeartbeats 4000000
namespace Lw
open PySem PySem.Spec PyProof.Rows L2 L2H HotX LamX Pd PdH
abbrev sNamed : Stmt := top 43
abbrev sErr : Stmt := top 44
def words11 : List Str := ["tide", "harbour", "boat", "unit", "script", "number", "facts", "text", "ended", "undo", "value"]
def bools11 (c : Nat) : List Bool := [decide (1 = c), decide (2 = c), decide (3 = c), decide (4 = c), decide (5 = c), decide (6 = c), decide (7 = c), decide (8 = c), decide (9 = c), decide (10 = c), true]
def errTx (c : Nat) : Str := Txt.join (" " : Str) (pick words11 (bools11 c))
/-- what the classes say -/
structure NmF (K : PySem.W.Frag) (mg : Str → Option Value) (ca : Nat → Addr) (c : Nat) : Prop where
  ex : ExcC K (ca c)
  isi : mg ("isinstance" : Str) = none
  zip : mg ("zip" : Str) = none
  val : mg ("ValueError" : Str) = none
  c1 : mg ("InvalidTide" : Str) = some (.ref (ca 1))
  c2 : mg ("InvalidHarbour" : Str) = some (.ref (ca 2))
  c3 : mg ("InvalidBoat" : Str) = some (.ref (ca 3))
  c4 : mg ("InvalidUnit" : Str) = some (.ref (ca 4))
  c5 : mg ("InvalidScript" : Str) = some (.ref (ca 5))
  c6 : mg ("InvalidNumber" : Str) = some (.ref (ca 6))
  c7 : mg ("InvalidFacts" : Str) = some (.ref (ca 7))
  c8 : mg ("InvalidText" : Str) = some (.ref (ca 8))
  c9 : mg ("Ended" : Str) = some (.ref (ca 9))
  c10 : mg ("NothingToUndo" : Str) = some (.ref (ca 10))
  kit : ∀ i, 1 ≤ i → i ≤ 10 → PySem.W.kitOne K (.ref (ca c)) (.ref (ca i)) = some (decide (i = c))
  kitV : PySem.W.kitOne K (.ref (ca c)) (.type "ValueError") = some true
def spNm (p : Addr × Obj) (c : Nat) : Sp := fun vs H Q _ => vs = [.ref p.1] ∧ ∀ H', Ext H H' → Q (.str (errTx c)) H'
abbrev nNm : List Str := ["e", "some", "words", "word", "good"]
theorem scNm : FnScope nNm ["e"] (defScope sNamed) := ⟨by kernel_rfl, by kernel_rfl, by kernel_rfl, by decide +kernel, by kernel_rfl, by decide +kernel, by decide +kernel⟩
def scLc : Scope := { kind := .function, names := [(".0", .local), ("word", .local), ("good", .local)], isGenerator := false, isCoroutine := false }
theorem splitW : Txt.split ("tide harbour boat unit script number facts text ended undo value" : Str) (" " : Str) = words11 := by decide +kernel
theorem tIsi {K : PySem.W.Frag} {D a : Addr} {v : V} {cv : Value} {b : Bool} {σ : L2.St} {H : Hp} {Q : VK} (h0 : σ[0]? = some (some (.ref a))) (hv : ∀ u, RelV v u → u = cv) (hk : PySem.W.kitOne K (.ref D) cv = some b) (q : Q (.bl b) H) :
    tCB (rIsE K D a) (tCons (tVar 0) (tCons (tC v) tNil)) σ H Q := ⟨.ref a, h0, v, cv, b, rfl, hv, hk, q⟩
theorem pick_small (c : Nat) (hc : c ≤ 10) : ((pick words11 (bools11 c)).map (·.length)).sum + (pick words11 (bools11 c)).length * (" " : Str).length ≤ 16777216 := by
  have h : ∀ c ∈ List.range 11, ((pick words11 (bools11 c)).map (·.length)).sum + (pick words11 (bools11 c)).length * (" " : Str).length ≤ 16777216 := by decide +kernel
  exact h c (List.mem_range.mpr (by omega))
theorem ok_named {P : Program} {w : World} {K : PySem.W.Frag} {mg : Str → Option Value} {base : Heap} {CX : CXT} {f : Addr} {fd : FuncData} {ca : Nat → Addr} {c : Nat} {p : Addr × Obj}
    (F : FunD K "_law_named_error" "_law_named_error" (defArgs sNamed) (defBody sNamed) (defScope sNamed) [] [] f fd) (N : NmF K mg ca c) (hc : c ≤ 10) (hz : L2N.Zn (.ref (ca c)) none p.2) (hf : ∃ vs, p.2.data = .fields vs) :
    FnP P w K mg base CX 1 f fd ["e"] p (spNm p c) := by
  refine fn_ofP F scNm (fun vs H Q E h => by rw [h.1]; rfl) fun cdv A outer s H vs Q E hot hr h => ?_
  generalize hX : cxH CX P w K mg base nNm "_law_named_error" (defScope sNamed) f cdv A outer s H E p = X
  have hpX : p ∈ X.pn := by rw [← hX]; exact List.mem_singleton.mpr rfl
  have hS : X.env.scope = defScope sNamed := by rw [← hX]; rfl
  have hN : X.N = nNm := by rw [← hX]; rfl
  have hK : X.K = K := by rw [← hX]; rfl
  have hM : X.mg = mg := by rw [← hX]; rfl
  have hA : Hot1 X.A p := by rw [← hX]; exact hot
  have hF : ∀ x, X.fn x = true := by rw [← hX]; exact fun _ => rfl
  have nd : X.N.Nodup := by rw [hN]; exact scNm.nd
  have gl : ∀ x : Str, (defScope sNamed).names.lookup x = some .globalImplicit → Gl X x := fun x h => by
    show X.env.scope.names.lookup x = _
    rw [hS]
    exact h
  have lo : ∀ x : Str, (defScope sNamed).names.lookup x = some .local → Loc X.env.scope x := fun x h => by
    rw [hS]
    exact .inl h
  have vi : ∀ x : Str, (defScope sNamed).names.lookup x = some .local → Vis X.env.scope x := fun x h => by
    rw [hS]
    exact .inl h
  have isC := fun (nm : Str) (i : Nat) (hm : mg nm = some (.ref (ca i))) (hg : (defScope sNamed).names.lookup nm = some .globalImplicit) (hd : (nm == ("__debug__" : Str)) = false) (q1 q2 q3 q4 : Pos) =>
    pe_callB (X := X) (p := q1) (pos := q4) (call_isP (D := ca c) (by rw [hK]; exact N.ex) hpX hz hf) (gl "isinstance" (by kernel_rfl)) (by rw [hM]; exact N.isi) boot_isinstance (pa_cons (pe_var (pos := q2) (i := 0) (x := "e") (by rw [hN]; rfl) (vi _ (by kernel_rfl))) (pa_cons (pe_glob (pos := q3) (v := .ref (ca i)) (gl nm hg) (by rw [hM]; exact hm) rfl hd) pa_nil))
  have isV := fun (q1 q2 q3 q4 : Pos) =>
    pe_callB (X := X) (p := q1) (pos := q4) (call_isP (D := ca c) (by rw [hK]; exact N.ex) hpX hz hf) (gl "isinstance" (by kernel_rfl)) (by rw [hM]; exact N.isi) boot_isinstance (pa_cons (pe_var (pos := q2) (i := 0) (x := "e") (by rw [hN]; rfl) (vi _ (by kernel_rfl))) (pa_cons (pe_bltn (x := "ValueError") (pos := q3) (v := .ty "ValueError") (gl _ (by kernel_rfl)) (by rw [hM]; exact N.val) (by decide +kernel) rfl) pa_nil))
  have okb : BlkOk X.N X.env.scope scLc [("word", 3), ("good", 4)] := by
    rw [hN, hS]
    exact blkOk_by (by kernel_rfl)
  refine ⟨_, pss_cons (ps_set (i := 1) nd (by rw [hN]; rfl) (lo _ (by kernel_rfl)) (pe_lst (pa_cons (isC _ 1 N.c1 (by kernel_rfl) (by decide) _ _ _ _) (pa_cons (isC _ 2 N.c2 (by kernel_rfl) (by decide) _ _ _ _) (pa_cons (isC _ 3 N.c3 (by kernel_rfl) (by decide) _ _ _ _) pa_nil)))) rfl (.inl (hF _)))
    (pss_cons (ps_set (i := 1) nd (by rw [hN]; rfl) (lo _ (by kernel_rfl)) (pe_op op_cat (pe_var (i := 1) (by rw [hN]; rfl) (vi _ (by kernel_rfl))) (pe_lst (pa_cons (isC _ 4 N.c4 (by kernel_rfl) (by decide) _ _ _ _) (pa_cons (isC _ 5 N.c5 (by kernel_rfl) (by decide) _ _ _ _) (pa_cons (isC _ 6 N.c6 (by kernel_rfl) (by decide) _ _ _ _) pa_nil))))) rfl (.inl (hF _)))
    (pss_cons (ps_set (i := 1) nd (by rw [hN]; rfl) (lo _ (by kernel_rfl)) (pe_op op_cat (pe_var (i := 1) (by rw [hN]; rfl) (vi _ (by kernel_rfl))) (pe_lst (pa_cons (isC _ 7 N.c7 (by kernel_rfl) (by decide) _ _ _ _) (pa_cons (isC _ 8 N.c8 (by kernel_rfl) (by decide) _ _ _ _) (pa_cons (isC _ 9 N.c9 (by kernel_rfl) (by decide) _ _ _ _) pa_nil))))) rfl (.inl (hF _)))
    (pss_cons (ps_set (i := 1) nd (by rw [hN]; rfl) (lo _ (by kernel_rfl)) (pe_op op_cat (pe_var (i := 1) (by rw [hN]; rfl) (vi _ (by kernel_rfl))) (pe_lst (pa_cons (isC _ 10 N.c10 (by kernel_rfl) (by decide) _ _ _ _) (pa_cons (isV _ _ _ _) pa_nil)))) rfl (.inl (hF _)))
    (pss_cons (ps_set (i := 2) nd (by rw [hN]; rfl) (lo _ (by kernel_rfl)) pe_str rfl (.inl (hF _)))
    (pss_one (ps_ret (pe_join pe_str (pe_lcH (g := gTup X.K 2 (gCons (gName 3) (gCons (gName 4) gNil))) (tt := tNameT X.K 4) (te := tVar 3) hA hpX nd (pi_zipH (gl _ (by kernel_rfl)) (by rw [hM]; exact N.zip) (pa_cons (pe_split (pe_var (i := 2) (by rw [hN]; rfl) (vi _ (by kernel_rfl))) pe_str) (pa_cons (pe_var (i := 1) (by rw [hN]; rfl) (vi _ (by kernel_rfl))) pa_nil))) okb
      (fun s H C cl fp => ?pg) (fun s H C cl fp => ?pt) (fun s H C cl fp => ?pe))))))))), ?fin⟩
  case pg =>
    refine pg_tupH ⟨p, hA, List.mem_singleton.mpr rfl⟩ (pgs_cons (pg_name (i := 3) nd (by show X.N[3]? = _; rw [hN]; rfl) (.inl ?_) (.inr ?_)) (pgs_cons (pg_name (i := 4) nd (by show X.N[4]? = _; rw [hN]; rfl) (.inl ?_) (.inr ?_)) pgs_nil))
    all_goals (exact lookup_relS_keep (sc := X.env.scope) (by decide) (by kernel_rfl))
  case pt =>
    exact pts_one (pt_truth (pe_var (i := 4) (by show X.N[4]? = _; rw [hN]; rfl) (.inl (lookup_relS_keep (sc := X.env.scope) (by decide) (by kernel_rfl)))) (fun _ => rfl))
  case pe =>
    exact pe_var (i := 3) (by show X.N[3]? = _; rw [hN]; rfl) (.inl (lookup_relS_keep (sc := X.env.scope) (by decide) (by kernel_rfl)))
  case fin =>
    obtain ⟨rfl, h⟩ := h
    have e0 : ∀ i : Nat, ∀ u, RelV (V.ref (ca i)) u → u = .ref (ca i) := fun i u r => r
    have k0 : ∀ i : Nat, 1 ≤ i → i ≤ 10 → PySem.W.kitOne X.K (.ref (ca c)) (.ref (ca i)) = some (decide (i = c)) := fun i a b => by rw [hK]; exact N.kit i a b
    refine tIsi rfl (e0 1) (k0 1 (by decide) (by decide)) (tIsi rfl (e0 2) (k0 2 (by decide) (by decide)) (tIsi rfl (e0 3) (k0 3 (by decide) (by decide)) ⟨by show 3 ≤ sizeLine; decide, fun p1 n1 => ?_⟩))
    refine ⟨.ref p1, rfl, ?_⟩
    refine tIsi rfl (e0 4) (k0 4 (by decide) (by decide)) (tIsi rfl (e0 5) (k0 5 (by decide) (by decide)) (tIsi rfl (e0 6) (k0 6 (by decide) (by decide)) ⟨by show 3 ≤ sizeLine; decide, fun p2 n2 => ?_⟩))
    have d12 : p1 ≠ p2 := ne_of_none upd_same n2
    refine ⟨p1, p2, _, _, rfl, rfl, by rw [upd_ne d12]; exact upd_same, upd_same, by show 3 + 3 ≤ sizeLine; decide, fun p3 n3 => ?_⟩
    refine ⟨.ref p3, rfl, ?_⟩
    refine tIsi rfl (e0 7) (k0 7 (by decide) (by decide)) (tIsi rfl (e0 8) (k0 8 (by decide) (by decide)) (tIsi rfl (e0 9) (k0 9 (by decide) (by decide)) ⟨by show 3 ≤ sizeLine; decide, fun p4 n4 => ?_⟩))
    have d34 : p3 ≠ p4 := ne_of_none upd_same n4
    refine ⟨p3, p4, _, _, rfl, rfl, by rw [upd_ne d34]; exact upd_same, upd_same, by show 6 + 3 ≤ sizeLine; decide, fun p5 n5 => ?_⟩
    refine ⟨.ref p5, rfl, ?_⟩
    refine tIsi rfl (e0 10) (k0 10 (by decide) (by decide)) (tIsi rfl (fun u r => r) (by rw [hK]; exact N.kitV) ⟨by show 2 ≤ sizeLine; decide, fun p6 n6 => ?_⟩)
    have d56 : p5 ≠ p6 := ne_of_none upd_same n6
    refine ⟨p5, p6, _, _, rfl, rfl, by rw [upd_ne d56]; exact upd_same, upd_same, by show 9 + 2 ≤ sizeLine; decide, fun p7 n7 => ?_⟩
    refine ⟨⟨_, rfl⟩, ?_⟩
    refine ⟨_, rfl, ⟨_, rfl⟩, _, _, rfl, rfl, by decide +kernel, by decide +kernel, fun p8 n8 => ?_⟩
    have d78 : p7 ≠ p8 := ne_of_none upd_same n8
    rw [splitW]
    refine ⟨.ref p7, rfl, p8, p7, _, _, rfl, .of upd_same, .of (by rw [upd_ne d78]; exact upd_same), fun D hD => ?_⟩
    refine pick_lc (ws := words11) (bs := bools11 c) rfl (by decide) (by decide) (by decide) (by decide) (by show 3 < 5; decide) (by show 4 < 5; decide) upd_same (by rw [upd_ne d78]; exact upd_same) hD fun H' e hd => ?_
    exact ⟨_, D, pick words11 (bools11 c), rfl, rfl, .inl (.of hd), pick_small c hc, h H' ((((((((Ext.new n1).trans (Ext.new n2)).trans (Ext.new n3)).trans (Ext.new n4)).trans (Ext.new n5)).trans (Ext.new n6)).trans (Ext.new n7)).trans ((Ext.new n8).trans e))⟩
/-- what a told error is worth -/
def TErr (ca : Nat → Addr) : (XK → Hp → VK → Prop) → Hp → VK → Prop := fun tl H Q => tl (fun cls d H' => ∃ c, c ≤ 10 ∧ cls = .ref (ca c) ∧ d = none ∧ ∀ H'', Ext H' H'' → Q (.str (errTx c)) H'') H fun _ H' => Q (.str ("" : Str)) H'
theorem scErr : FnScope ["call", "e"] ["call"] (defScope sErr) := ⟨by kernel_rfl, by kernel_rfl, by kernel_rfl, by decide +kernel, by kernel_rfl, by decide +kernel, by decide +kernel⟩
theorem gives_err {X : Cx} {g f : Addr} {fd : FuncData} {cdg : Value} {ca : Nat → Addr} {k : Nat} {q : Str} (F : FunD X.K "_law_named_error" "_law_named_error" (defArgs sNamed) (defBody sNamed) (defScope sNamed) [] [] f fd) (hb : L2.Binds X.K fd ["e"] [])
    (gN : X.mg ("_law_named_error" : Str) = some (.ref f)) (gT : X.mg ("TideError" : Str) = some (.ref (ca 0))) (N : ∀ c, c ≤ 10 → NmF X.K X.mg ca c) (em : ∀ c, c ≤ 10 → PySem.W.exmOne X.K (.ref (ca c)) (.ref (ca 0)) = some true) :
    GivesN X (k + 1) ["call", "e"] "_law_error" (defScope sErr) g cdg (defBody sErr) "call" q (TErr ca) := by
  intro f' c' s H Q tl hr act hc h
  generalize hY : (cxOf C8.CX0 X.prog X.w X.K X.mg X.base ["call", "e"] "_law_error" (defScope sErr) g cdg X.A X.stack s H C8.E0).nox = Y
  have hS : Y.env.scope = defScope sErr := by rw [← hY]; rfl
  have hN : Y.N = (["call", "e"] : List Str) := by rw [← hY]; rfl
  have hK : Y.K = X.K := by rw [← hY]; rfl
  have hM : Y.mg = X.mg := by rw [← hY]; rfl
  have hP : Y.prog = X.prog := by rw [← hY]; rfl
  have hw : Y.w = X.w := by rw [← hY]; rfl
  have hB : Y.base = X.base := by rw [← hY]; rfl
  have hA : Room (k + 1) Y.A := by rw [← hY]; exact hr
  have nd : Y.N.Nodup := by rw [hN]; exact scErr.nd
  have gl : ∀ x : Str, (defScope sErr).names.lookup x = some .globalImplicit → Gl Y x := fun x h => by
    show Y.env.scope.names.lookup x = _
    rw [hS]
    exact h
  have lo : ∀ x : Str, (defScope sErr).names.lookup x = some .local → Y.env.scope.names.lookup x = some .local := fun x h => by
    rw [hS]
    exact h
  refine ⟨_, pss_cons (L2N.ps_try_as (X := Y) (i := 1) (c := .ref (ca 0)) (Wout := W0)
      (tb := fun W D σ H => ∃ Ech : XK, (∀ cls d σ' H', Ech cls d H' → W cls d σ' H') ∧ σ[0]? = some (some (.ref f')) ∧ H c' = some (CodeO c' q) ∧ tl Ech H fun _ H' => D.nx σ H')
      (ts := fun a cls d D σ H => ∃ c, c ≤ 10 ∧ cls = .ref (ca c) ∧ d = none ∧ (σ.length = 2 → σ[1]? = some (some (.ref a))) ∧ ∀ H', Ext H H' → D.rt (.str (errTx c)) H')
      (by rw [← hY]; rfl) (by rw [← hY]; rfl) nd (by rw [hN]; rfl) (lo _ (by kernel_rfl)) ⟨gl _ (by kernel_rfl), by decide, .inl (by rw [hM]; exact gT)⟩ takes00 (fun W pn xe tk _ => ?b) (fun a oe cls d pn hz hf => ?s)) (pss_one (ps_ret pe_str)), ?fin⟩
  case b =>
    refine pss_one ⟨fun pins s' σ H' D I h' => ?_⟩
    obtain ⟨Ech, hW, h1, h2, h3⟩ := h'
    subst hY
    have hp := fun p1 p2 => act W pn xe Ech p1 p2 tk hW
    exact (ps_expr (hp _ _)).run pins s' σ H' D I ⟨h1, h2, h3⟩
  case s =>
    refine ⟨fun pins s' σ H' D I h' => ?_⟩
    obtain ⟨c, hc, rfl, rfl, hσ, h'⟩ := h'
    have FP := ok_named (P := Y.prog) (w := Y.w) (K := Y.K) (mg := Y.mg) (base := Y.base) (CX := fun _ _ _ _ _ _ => False) (ca := ca) (c := c) (p := (a, oe)) (by rw [hK]; exact F) (by rw [hK, hM]; exact N c hc) hc hz hf
    have hot : Hot1 (Y.suite a ((a, oe) :: pn)).A (a, oe) := by
      obtain ⟨vs, hv⟩ := hf
      exact ⟨rfl, vs, hv, hz.2.2 vs hv⟩
    have rm : RoomH 1 (Y.suite a ((a, oe) :: pn)).A := ⟨by have := hA.dp; show Y.A.depth + 3 * 1 + 5 < _; omega, by have := hA.un; show Y.A.units + 16 * 1 + 200 < _; omega⟩
    have pc := fun q1 q2 q3 => pe_callP (X := Y.suite a ((a, oe) :: pn)) (q := q1) (pos := q2) (E := fun _ _ _ _ => False) FP rm hot (List.mem_cons_self ..) (gl "_law_named_error" (by kernel_rfl)) (by rw [hM]; exact gN) (by rw [hK]; exact F.kp) (by rw [hK]; exact hb) (fun σ pins H s e s' _ z => (show False from z).elim) (pa_cons (pe_var (X := Y.suite a ((a, oe) :: pn)) (i := 1) (x := "e") (pos := q3) (by show Y.N[1]? = _; rw [hN]; rfl) (.inl (lo _ (by kernel_rfl)))) pa_nil)
    refine (pss_one (ps_ret (pc _ _ _))).run pins s' σ H' D I ?_
    have ln : σ.length = 2 := by
      have := I.len
      rw [this]
      show Y.N.length = 2
      rw [hN]
      rfl
    exact ⟨.ref a, hσ ln, rfl, h'⟩
  case fin =>
    refine ⟨_, fun cls d σ' H' he => ?_, rfl, hc, h⟩
    obtain ⟨c, hc, rfl, rfl, hq⟩ := he
    refine ⟨true, by rw [hK]; exact em c hc, fun _ a na => ⟨c, hc, rfl, rfl, fun hl => ?_, hq⟩, fun z => by cases z⟩
    rw [List.length_set] at hl
    rw [List.getElem?_set_self (by omega)]
end Lw

end
section
set_option Elab.async false
set_option linter.all false
set_option maxRecDepth 100000
set_option maxHeartbeats 0
namespace Lw
open PySem PySem.Spec PyProof.Rows L2 Pd
def dd (x : Str) (i : Nat) : He.DefD := ⟨(x, none), x, x, defArgs (top i), defBody (top i), defScope (top i), [], []⟩
def fnD0 : List He.DefD := [dd "divisor_of" 13, dd "is_plain" 17, dd "is_whole" 18, dd "is_row" 19, dd "is_pair" 20, dd "is_tide" 21, dd "is_harbour" 22, dd "is_fraction" 23, dd "is_unit" 24, dd "fits_boat" 25, dd "is_side" 26, dd "is_step" 27]
def fnD1 : List He.DefD := [dd "is_any_step" 28, dd "is_script" 29, dd "need_harbour" 30, dd "is_boat" 31, dd "_law_cell" 33, dd "_law_draws" 34, dd "_law_bag" 35, dd "_law_take" 36, dd "_law_choice" 37, dd "_law_tide" 38, dd "_law_harbour" 39, dd "_law_boat" 40]
def fnD2 : List He.DefD := [dd "_law_step" 41, dd "_law_steps" 42, dd "_law_named_error" 43, dd "_law_error" 44, dd "_law_truly" 45, dd "_law_whole" 46, dd "_law_spoilt" 47, dd "_law_pair" 48, dd "_law_good_tide" 49, dd "_law_good_harbour" 50, dd "_law_good_boat" 51, dd "_law_good_step" 52]
def fnD3 : List He.DefD := [dd "_law_good_script" 53, dd "law" 54]
def fnD : List He.DefD := fnD0 ++ fnD1 ++ fnD2 ++ fnD3
def fnN0 : List Str := ["divisor_of", "is_plain", "is_whole", "is_row", "is_pair", "is_tide", "is_harbour", "is_fraction", "is_unit", "fits_boat", "is_side", "is_step"]
def fnN1 : List Str := ["is_any_step", "is_script", "need_harbour", "is_boat", "_law_cell", "_law_draws", "_law_bag", "_law_take", "_law_choice", "_law_tide", "_law_harbour", "_law_boat"]
def fnN2 : List Str := ["_law_step", "_law_steps", "_law_truly", "_law_whole", "_law_spoilt", "_law_pair", "_law_good_tide", "_law_good_harbour", "_law_good_boat", "_law_good_step", "_law_good_script", "law"]
def fnN : List Str := fnN0 ++ fnN1 ++ fnN2
def cn0 : List Str := ["TideError", "InvalidTide", "InvalidHarbour", "InvalidBoat", "InvalidUnit", "InvalidScript", "InvalidNumber", "InvalidFacts", "InvalidText", "Ended", "NothingToUndo"]
def cn : List Str := cn0
def fac0 : List He.Fa := [.glo "divisor_of", .glo "is_plain", .glo "is_whole", .glo "is_row", .glo "is_pair", .glo "is_tide", .glo "is_harbour", .glo "is_fraction", .glo "is_unit", .glo "fits_boat", .glo "is_side", .glo "is_step"]
def fac1 : List He.Fa := [.glo "is_any_step", .glo "is_script", .glo "need_harbour", .glo "is_boat", .glo "_law_cell", .glo "_law_draws", .glo "_law_bag", .glo "_law_take", .glo "_law_choice", .glo "_law_tide", .glo "_law_harbour", .glo "_law_boat"]
def fac2 : List He.Fa := [.glo "_law_step", .glo "_law_steps", .glo "_law_named_error", .glo "_law_error", .glo "_law_truly", .glo "_law_whole", .glo "_law_spoilt", .glo "_law_pair", .glo "_law_good_tide", .glo "_law_good_harbour", .glo "_law_good_boat", .glo "_law_good_step"]
def fac3 : List He.Fa := [.glo "_law_good_script", .glo "law", .glo "TideError", .glo "InvalidTide", .glo "InvalidHarbour", .glo "InvalidBoat", .glo "InvalidUnit", .glo "InvalidScript", .glo "InvalidNumber", .glo "InvalidFacts", .glo "InvalidText", .glo "Ended"]
def fac4 : List He.Fa := [.glo "NothingToUndo", .exc "TideError", .exc "InvalidTide", .exc "InvalidHarbour", .exc "InvalidBoat", .exc "InvalidUnit", .exc "InvalidScript", .exc "InvalidNumber", .exc "InvalidFacts", .exc "InvalidText", .exc "Ended", .exc "NothingToUndo"]
def fac5 : List He.Fa := [.int "GREATEST" 1000000, .glo "SIDES", .free "len", .free "abs", .free "int", .free "bool", .free "all", .free "tuple", .free "list", .free "str", .free "range", .free "zip"]
def fac6 : List He.Fa := [.free "isinstance", .free "sorted", .free "set", .free "ValueError"]
def fac : List He.Fa := fac0 ++ fac1 ++ fac2 ++ fac3 ++ fac4 ++ fac5 ++ fac6
def lawN : He.Defn := ("law", none)
def exC (K : PySem.W.Frag) (D : Addr) : Bool :=
  decide (PySem.W.findIn K (.ref D) "__getattribute__" = some (some (.builtin "BaseException.__getattribute__"))) && decide (PySem.W.findIn K (.ref D) "__getattr__" = some none) && decide (PySem.W.subIn K (.ref D) (.type "BaseException") = some true) && PySem.W.hasDictIn K D &&
  decide (PySem.W.findIn K (.ref D) "__class__" = some (some (.builtin "object.__class__"))) && decide (PySem.W.specialIn K (.builtin "object.__class__") "__get__" = some (some (.builtin "getset_descriptor.__get__"))) && decide (PySem.W.takesIn K (.builtin "object.__class__") = some true) && decide (PySem.W.mroIn K D (.type "object") = some true)
def ga' (K : PySem.W.Frag) (c : Nat) : Addr := He.ga K (cn.getD c "")
def exB (K : PySem.W.Frag) : Bool := (List.range 11).all fun c => exC K (ga' K c) && ((List.range 10).all fun i => decide (PySem.W.kitOne K (.ref (ga' K c)) (.ref (ga' K (i + 1))) = some (decide (i + 1 = c)))) &&
  decide (PySem.W.kitOne K (.ref (ga' K c)) (.type "ValueError") = some true) && decide (PySem.W.exmOne K (.ref (ga' K c)) (.ref (ga' K 0)) = some true)
def exA (K : PySem.W.Frag) : Bool := He.tupB K "SIDES" [.str "out", .str "in"] && exB K
abbrev R : PySem.W.OpenRow := PySem.W.OpenLaw.row PySem.Challenge.rw_anytide_k01_harbours_boats_and_scripts_k
abbrev hk : PySem.W.Hook := He.hookX 2 fac fnD [] [lawN] exA
def ob (s : PySem.W.SharedT) : He.AlX := He.obsX 2 fac fnD [] [lawN] exA (HandSHeadRun.getT s)
theorem ob_eq (s : PySem.W.SharedT) : ob s = hk.obs s.abs := He.obsX_eq (HandSHeadRun.getT_eq s)
def nms0 : List Str := ["divisor_of", "is_plain", "is_whole", "is_row", "is_pair", "is_tide", "is_harbour", "is_fraction", "is_unit", "fits_boat", "is_side", "is_step", "is_any_step", "is_script", "need_harbour", "is_boat"]
def nms1 : List Str := ["_law_cell", "_law_draws", "_law_bag", "_law_take", "_law_choice", "_law_tide", "_law_harbour", "_law_boat", "_law_step", "_law_steps", "_law_named_error", "_law_error", "_law_truly", "_law_whole", "_law_spoilt", "_law_pair"]
def nms2 : List Str := ["_law_good_tide", "_law_good_harbour", "_law_good_boat", "_law_good_step", "_law_good_script", "TideError", "InvalidTide", "InvalidHarbour", "InvalidBoat", "InvalidUnit", "InvalidScript", "InvalidNumber", "InvalidFacts", "InvalidText", "Ended", "NothingToUndo"]
def nms3 : List Str := ["GREATEST", "SIDES"]
def nms : List Str := nms0 ++ nms1 ++ nms2 ++ nms3
theorem run (w : World) : HandSHeadRun.RunEq R (PySem.W.view R.prog [54]) hk ob 6000 nms w := by
  intro os
  kernel_rfl
end Lw

end
section
set_option Elab.async false
set_option linter.all false
set_option maxRecDepth 100000
set_option maxHeartbeats 4000000
namespace Lw
open PySem PySem.Spec PyProof.Rows L2 Pd
abbrev KK : Nat := 30
/-- what the law does -/
def lawRun (ns : List Int) : Pd.R D := Cs tab WF KK 35 [.scr ns] []
def mkT (w : World) (K : PySem.W.Frag) (mg : Str → Option Value) (base : Heap) : Pd.Tab :=
  ⟨(PySem.Challenge.rw_anytide_k01_harbours_boats_and_scripts_k).prog, w, K, mg, base, fun i => He.ga K (fnN.getD i ""), fun c => He.ga K (cn.getD c ""), [((He.cT K lawN).2, ("law" : Str) ++ ".<locals>." ++ "<lambda>")]⟩
section
variable {w : World} {h : Heap} {K : PySem.W.Frag} {mg : Str → Option Value} {base : Heap}
abbrev Sy (w : World) (h : Heap) (K : PySem.W.Frag) : Prop := He.SaysX fac fnD [] [lawN] exA w h K
theorem m_glo (X : K.In h) (G : h.Ns mainGlobals mg) (c : Sy w h K) {x : Str} (hm : He.Fa.glo x ∈ fac) : mg x = some (.ref (He.ga K x)) := He.glo_ok X G (c.t.d.facts hm)
theorem m_free (X : K.In h) (G : h.Ns mainGlobals mg) (c : Sy w h K) {x : Str} (hm : He.Fa.free x ∈ fac) : mg x = none := He.free_ok X G (c.t.d.facts hm)

theorem dk_divisor_of {fd : FuncData} (F : FunD K "divisor_of" "divisor_of" (defArgs (top 13)) (defBody (top 13)) (defScope (top 13)) [] [] (He.ga K "divisor_of") fd) : DefOk (mkT w K mg base) G d_divisor_of (He.ga K "divisor_of") fd :=
  ⟨F, s_divisor_of, t_divisor_of, F.bindsN fun _ _ _ _ _ _ us hl => match us, hl with | [_, _], _ => rfl, fun h => by cases h⟩
theorem do_divisor_of (c : Sy w h K) : ∃ fd, DefOk (mkT w K mg base) G d_divisor_of (He.ga K "divisor_of") fd := by
  obtain ⟨fd, F⟩ := c.t.d.defs (d := dd "divisor_of" 13) (List.mem_of_getElem? (i := 0) rfl)
  exact ⟨fd, dk_divisor_of F⟩
theorem dk_is_plain {fd : FuncData} (F : FunD K "is_plain" "is_plain" (defArgs (top 17)) (defBody (top 17)) (defScope (top 17)) [] [] (He.ga K "is_plain") fd) : DefOk (mkT w K mg base) G d_is_plain (He.ga K "is_plain") fd :=
  ⟨F, s_is_plain, t_is_plain, F.bindsN fun _ _ _ _ _ _ us hl => match us, hl with | [_], _ => rfl, fun h => by cases h⟩
theorem do_is_plain (c : Sy w h K) : ∃ fd, DefOk (mkT w K mg base) G d_is_plain (He.ga K "is_plain") fd := by
  obtain ⟨fd, F⟩ := c.t.d.defs (d := dd "is_plain" 17) (List.mem_of_getElem? (i := 1) rfl)
  exact ⟨fd, dk_is_plain F⟩
theorem dk_is_whole {fd : FuncData} (F : FunD K "is_whole" "is_whole" (defArgs (top 18)) (defBody (top 18)) (defScope (top 18)) [] [] (He.ga K "is_whole") fd) : DefOk (mkT w K mg base) G d_is_whole (He.ga K "is_whole") fd :=
  ⟨F, s_is_whole, t_is_whole, F.bindsN fun _ _ _ _ _ _ us hl => match us, hl with | [_, _, _], _ => rfl, fun h => by cases h⟩
theorem do_is_whole (c : Sy w h K) : ∃ fd, DefOk (mkT w K mg base) G d_is_whole (He.ga K "is_whole") fd := by
  obtain ⟨fd, F⟩ := c.t.d.defs (d := dd "is_whole" 18) (List.mem_of_getElem? (i := 2) rfl)
  exact ⟨fd, dk_is_whole F⟩
theorem dk_is_row {fd : FuncData} (F : FunD K "is_row" "is_row" (defArgs (top 19)) (defBody (top 19)) (defScope (top 19)) [] [] (He.ga K "is_row") fd) : DefOk (mkT w K mg base) G d_is_row (He.ga K "is_row") fd :=
  ⟨F, s_is_row, t_is_row, F.bindsN fun _ _ _ _ _ _ us hl => match us, hl with | [_, _, _], _ => rfl, fun h => by cases h⟩
theorem do_is_row (c : Sy w h K) : ∃ fd, DefOk (mkT w K mg base) G d_is_row (He.ga K "is_row") fd := by
  obtain ⟨fd, F⟩ := c.t.d.defs (d := dd "is_row" 19) (List.mem_of_getElem? (i := 3) rfl)
  exact ⟨fd, dk_is_row F⟩
theorem dk_is_pair {fd : FuncData} (F : FunD K "is_pair" "is_pair" (defArgs (top 20)) (defBody (top 20)) (defScope (top 20)) [] [] (He.ga K "is_pair") fd) : DefOk (mkT w K mg base) G d_is_pair (He.ga K "is_pair") fd :=
  ⟨F, s_is_pair, t_is_pair, F.bindsN fun _ _ _ _ _ _ us hl => match us, hl with | [_, _, _, _, _], _ => rfl, fun h => by cases h⟩
theorem do_is_pair (c : Sy w h K) : ∃ fd, DefOk (mkT w K mg base) G d_is_pair (He.ga K "is_pair") fd := by
  obtain ⟨fd, F⟩ := c.t.d.defs (d := dd "is_pair" 20) (List.mem_of_getElem? (i := 4) rfl)
  exact ⟨fd, dk_is_pair F⟩
theorem dk_is_tide {fd : FuncData} (F : FunD K "is_tide" "is_tide" (defArgs (top 21)) (defBody (top 21)) (defScope (top 21)) [] [] (He.ga K "is_tide") fd) : DefOk (mkT w K mg base) G d_is_tide (He.ga K "is_tide") fd :=
  ⟨F, s_is_tide, t_is_tide, F.bindsN fun _ _ _ _ _ _ us hl => match us, hl with | [_], _ => rfl, fun h => by cases h⟩
theorem do_is_tide (c : Sy w h K) : ∃ fd, DefOk (mkT w K mg base) G d_is_tide (He.ga K "is_tide") fd := by
  obtain ⟨fd, F⟩ := c.t.d.defs (d := dd "is_tide" 21) (List.mem_of_getElem? (i := 5) rfl)
  exact ⟨fd, dk_is_tide F⟩
theorem dk_is_harbour {fd : FuncData} (F : FunD K "is_harbour" "is_harbour" (defArgs (top 22)) (defBody (top 22)) (defScope (top 22)) [] [] (He.ga K "is_harbour") fd) : DefOk (mkT w K mg base) G d_is_harbour (He.ga K "is_harbour") fd :=
  ⟨F, s_is_harbour, t_is_harbour, F.bindsN fun _ _ _ _ _ _ us hl => match us, hl with | [_], _ => rfl, fun h => by cases h⟩
theorem do_is_harbour (c : Sy w h K) : ∃ fd, DefOk (mkT w K mg base) G d_is_harbour (He.ga K "is_harbour") fd := by
  obtain ⟨fd, F⟩ := c.t.d.defs (d := dd "is_harbour" 22) (List.mem_of_getElem? (i := 6) rfl)
  exact ⟨fd, dk_is_harbour F⟩
theorem dk_is_fraction {fd : FuncData} (F : FunD K "is_fraction" "is_fraction" (defArgs (top 23)) (defBody (top 23)) (defScope (top 23)) [] [] (He.ga K "is_fraction") fd) : DefOk (mkT w K mg base) G d_is_fraction (He.ga K "is_fraction") fd :=
  ⟨F, s_is_fraction, t_is_fraction, F.bindsN fun _ _ _ _ _ _ us hl => match us, hl with | [_, _], _ => rfl, fun h => by cases h⟩
theorem do_is_fraction (c : Sy w h K) : ∃ fd, DefOk (mkT w K mg base) G d_is_fraction (He.ga K "is_fraction") fd := by
  obtain ⟨fd, F⟩ := c.t.d.defs (d := dd "is_fraction" 23) (List.mem_of_getElem? (i := 7) rfl)
  exact ⟨fd, dk_is_fraction F⟩
theorem dk_is_unit {fd : FuncData} (F : FunD K "is_unit" "is_unit" (defArgs (top 24)) (defBody (top 24)) (defScope (top 24)) [] [] (He.ga K "is_unit") fd) : DefOk (mkT w K mg base) G d_is_unit (He.ga K "is_unit") fd :=
  ⟨F, s_is_unit, t_is_unit, F.bindsN fun _ _ _ _ _ _ us hl => match us, hl with | [_], _ => rfl, fun h => by cases h⟩
theorem do_is_unit (c : Sy w h K) : ∃ fd, DefOk (mkT w K mg base) G d_is_unit (He.ga K "is_unit") fd := by
  obtain ⟨fd, F⟩ := c.t.d.defs (d := dd "is_unit" 24) (List.mem_of_getElem? (i := 8) rfl)
  exact ⟨fd, dk_is_unit F⟩
theorem dk_fits_boat {fd : FuncData} (F : FunD K "fits_boat" "fits_boat" (defArgs (top 25)) (defBody (top 25)) (defScope (top 25)) [] [] (He.ga K "fits_boat") fd) : DefOk (mkT w K mg base) G d_fits_boat (He.ga K "fits_boat") fd :=
  ⟨F, s_fits_boat, t_fits_boat, F.bindsN fun _ _ _ _ _ _ us hl => match us, hl with | [_, _], _ => rfl, fun h => by cases h⟩
theorem do_fits_boat (c : Sy w h K) : ∃ fd, DefOk (mkT w K mg base) G d_fits_boat (He.ga K "fits_boat") fd := by
  obtain ⟨fd, F⟩ := c.t.d.defs (d := dd "fits_boat" 25) (List.mem_of_getElem? (i := 9) rfl)
  exact ⟨fd, dk_fits_boat F⟩
theorem dk_is_side {fd : FuncData} (F : FunD K "is_side" "is_side" (defArgs (top 26)) (defBody (top 26)) (defScope (top 26)) [] [] (He.ga K "is_side") fd) : DefOk (mkT w K mg base) G d_is_side (He.ga K "is_side") fd :=
  ⟨F, s_is_side, t_is_side, F.bindsN fun _ _ _ _ _ _ us hl => match us, hl with | [_], _ => rfl, fun h => by cases h⟩
theorem do_is_side (c : Sy w h K) : ∃ fd, DefOk (mkT w K mg base) G d_is_side (He.ga K "is_side") fd := by
  obtain ⟨fd, F⟩ := c.t.d.defs (d := dd "is_side" 26) (List.mem_of_getElem? (i := 10) rfl)
  exact ⟨fd, dk_is_side F⟩
theorem dk_is_step {fd : FuncData} (F : FunD K "is_step" "is_step" (defArgs (top 27)) (defBody (top 27)) (defScope (top 27)) [] [] (He.ga K "is_step") fd) : DefOk (mkT w K mg base) G d_is_step (He.ga K "is_step") fd :=
  ⟨F, s_is_step, t_is_step, F.bindsN fun _ _ _ _ _ _ us hl => match us, hl with | [_], _ => rfl, fun h => by cases h⟩
theorem do_is_step (c : Sy w h K) : ∃ fd, DefOk (mkT w K mg base) G d_is_step (He.ga K "is_step") fd := by
  obtain ⟨fd, F⟩ := c.t.d.defs (d := dd "is_step" 27) (List.mem_of_getElem? (i := 11) rfl)
  exact ⟨fd, dk_is_step F⟩
theorem dk_is_any_step {fd : FuncData} (F : FunD K "is_any_step" "is_any_step" (defArgs (top 28)) (defBody (top 28)) (defScope (top 28)) [] [] (He.ga K "is_any_step") fd) : DefOk (mkT w K mg base) G d_is_any_step (He.ga K "is_any_step") fd :=
  ⟨F, s_is_any_step, t_is_any_step, F.bindsN fun _ _ _ _ _ _ us hl => match us, hl with | [_], _ => rfl, fun h => by cases h⟩
theorem do_is_any_step (c : Sy w h K) : ∃ fd, DefOk (mkT w K mg base) G d_is_any_step (He.ga K "is_any_step") fd := by
  obtain ⟨fd, F⟩ := c.t.d.defs (d := dd "is_any_step" 28) (List.mem_of_getElem? (i := 12) rfl)
  exact ⟨fd, dk_is_any_step F⟩
theorem dk_is_script {fd : FuncData} (F : FunD K "is_script" "is_script" (defArgs (top 29)) (defBody (top 29)) (defScope (top 29)) [] [] (He.ga K "is_script") fd) : DefOk (mkT w K mg base) G d_is_script (He.ga K "is_script") fd :=
  ⟨F, s_is_script, t_is_script, F.bindsN fun _ _ _ _ _ _ us hl => match us, hl with | [_], _ => rfl, fun h => by cases h⟩
theorem do_is_script (c : Sy w h K) : ∃ fd, DefOk (mkT w K mg base) G d_is_script (He.ga K "is_script") fd := by
  obtain ⟨fd, F⟩ := c.t.d.defs (d := dd "is_script" 29) (List.mem_of_getElem? (i := 13) rfl)
  exact ⟨fd, dk_is_script F⟩
theorem dk_need_harbour {fd : FuncData} (F : FunD K "need_harbour" "need_harbour" (defArgs (top 30)) (defBody (top 30)) (defScope (top 30)) [] [] (He.ga K "need_harbour") fd) : DefOk (mkT w K mg base) G d_need_harbour (He.ga K "need_harbour") fd :=
  ⟨F, s_need_harbour, t_need_harbour, F.bindsN fun _ _ _ _ _ _ us hl => match us, hl with | [_], _ => rfl, fun h => by cases h⟩
theorem do_need_harbour (c : Sy w h K) : ∃ fd, DefOk (mkT w K mg base) G d_need_harbour (He.ga K "need_harbour") fd := by
  obtain ⟨fd, F⟩ := c.t.d.defs (d := dd "need_harbour" 30) (List.mem_of_getElem? (i := 14) rfl)
  exact ⟨fd, dk_need_harbour F⟩
theorem dk_is_boat {fd : FuncData} (F : FunD K "is_boat" "is_boat" (defArgs (top 31)) (defBody (top 31)) (defScope (top 31)) [] [] (He.ga K "is_boat") fd) : DefOk (mkT w K mg base) G d_is_boat (He.ga K "is_boat") fd :=
  ⟨F, s_is_boat, t_is_boat, F.bindsN fun _ _ _ _ _ _ us hl => match us, hl with | [_, _], _ => rfl, fun h => by cases h⟩
theorem do_is_boat (c : Sy w h K) : ∃ fd, DefOk (mkT w K mg base) G d_is_boat (He.ga K "is_boat") fd := by
  obtain ⟨fd, F⟩ := c.t.d.defs (d := dd "is_boat" 31) (List.mem_of_getElem? (i := 15) rfl)
  exact ⟨fd, dk_is_boat F⟩
theorem dk__law_cell {fd : FuncData} (F : FunD K "_law_cell" "_law_cell" (defArgs (top 33)) (defBody (top 33)) (defScope (top 33)) [] [] (He.ga K "_law_cell") fd) : DefOk (mkT w K mg base) G d__law_cell (He.ga K "_law_cell") fd :=
  ⟨F, s__law_cell, t__law_cell, F.bindsN fun _ _ _ _ _ _ us hl => match us, hl with | [_, _], _ => rfl, fun h => by cases h⟩
theorem do__law_cell (c : Sy w h K) : ∃ fd, DefOk (mkT w K mg base) G d__law_cell (He.ga K "_law_cell") fd := by
  obtain ⟨fd, F⟩ := c.t.d.defs (d := dd "_law_cell" 33) (List.mem_of_getElem? (i := 16) rfl)
  exact ⟨fd, dk__law_cell F⟩
theorem dk__law_draws {fd : FuncData} (F : FunD K "_law_draws" "_law_draws" (defArgs (top 34)) (defBody (top 34)) (defScope (top 34)) [] [] (He.ga K "_law_draws") fd) : DefOk (mkT w K mg base) G d__law_draws (He.ga K "_law_draws") fd :=
  ⟨F, s__law_draws, t__law_draws, F.bindsN fun _ _ _ _ _ _ us hl => match us, hl with | [_, _, _, _], _ => rfl, fun h => by cases h⟩
theorem do__law_draws (c : Sy w h K) : ∃ fd, DefOk (mkT w K mg base) G d__law_draws (He.ga K "_law_draws") fd := by
  obtain ⟨fd, F⟩ := c.t.d.defs (d := dd "_law_draws" 34) (List.mem_of_getElem? (i := 17) rfl)
  exact ⟨fd, dk__law_draws F⟩
theorem dk__law_bag {fd : FuncData} (F : FunD K "_law_bag" "_law_bag" (defArgs (top 35)) (defBody (top 35)) (defScope (top 35)) [] [] (He.ga K "_law_bag") fd) : DefOk (mkT w K mg base) G d__law_bag (He.ga K "_law_bag") fd :=
  ⟨F, s__law_bag, t__law_bag, F.bindsN fun _ _ _ _ _ _ us hl => match us, hl with | [_, _], _ => rfl, fun h => by cases h⟩
theorem do__law_bag (c : Sy w h K) : ∃ fd, DefOk (mkT w K mg base) G d__law_bag (He.ga K "_law_bag") fd := by
  obtain ⟨fd, F⟩ := c.t.d.defs (d := dd "_law_bag" 35) (List.mem_of_getElem? (i := 18) rfl)
  exact ⟨fd, dk__law_bag F⟩
theorem dk__law_take {fd : FuncData} (F : FunD K "_law_take" "_law_take" (defArgs (top 36)) (defBody (top 36)) (defScope (top 36)) [] [] (He.ga K "_law_take") fd) : DefOk (mkT w K mg base) G d__law_take (He.ga K "_law_take") fd :=
  ⟨F, s__law_take, t__law_take, F.bindsN fun _ _ _ _ _ _ us hl => match us, hl with | [_, _], _ => rfl, fun h => by cases h⟩
theorem do__law_take (c : Sy w h K) : ∃ fd, DefOk (mkT w K mg base) G d__law_take (He.ga K "_law_take") fd := by
  obtain ⟨fd, F⟩ := c.t.d.defs (d := dd "_law_take" 36) (List.mem_of_getElem? (i := 19) rfl)
  exact ⟨fd, dk__law_take F⟩
theorem dk__law_choice {fd : FuncData} (F : FunD K "_law_choice" "_law_choice" (defArgs (top 37)) (defBody (top 37)) (defScope (top 37)) [] [] (He.ga K "_law_choice") fd) : DefOk (mkT w K mg base) G d__law_choice (He.ga K "_law_choice") fd :=
  ⟨F, s__law_choice, t__law_choice, F.bindsN fun _ _ _ _ _ _ us hl => match us, hl with | [_, _], _ => rfl, fun h => by cases h⟩
theorem do__law_choice (c : Sy w h K) : ∃ fd, DefOk (mkT w K mg base) G d__law_choice (He.ga K "_law_choice") fd := by
  obtain ⟨fd, F⟩ := c.t.d.defs (d := dd "_law_choice" 37) (List.mem_of_getElem? (i := 20) rfl)
  exact ⟨fd, dk__law_choice F⟩
theorem dk__law_tide {fd : FuncData} (F : FunD K "_law_tide" "_law_tide" (defArgs (top 38)) (defBody (top 38)) (defScope (top 38)) [] [] (He.ga K "_law_tide") fd) : DefOk (mkT w K mg base) G d__law_tide (He.ga K "_law_tide") fd :=
  ⟨F, s__law_tide, t__law_tide, F.bindsN fun _ _ _ _ _ _ us hl => match us, hl with | [_], _ => rfl, fun h => by cases h⟩
theorem do__law_tide (c : Sy w h K) : ∃ fd, DefOk (mkT w K mg base) G d__law_tide (He.ga K "_law_tide") fd := by
  obtain ⟨fd, F⟩ := c.t.d.defs (d := dd "_law_tide" 38) (List.mem_of_getElem? (i := 21) rfl)
  exact ⟨fd, dk__law_tide F⟩
theorem dk__law_harbour {fd : FuncData} (F : FunD K "_law_harbour" "_law_harbour" (defArgs (top 39)) (defBody (top 39)) (defScope (top 39)) [] [] (He.ga K "_law_harbour") fd) : DefOk (mkT w K mg base) G d__law_harbour (He.ga K "_law_harbour") fd :=
  ⟨F, s__law_harbour, t__law_harbour, F.bindsN fun _ _ _ _ _ _ us hl => match us, hl with | [_, _], _ => rfl, fun h => by cases h⟩
theorem do__law_harbour (c : Sy w h K) : ∃ fd, DefOk (mkT w K mg base) G d__law_harbour (He.ga K "_law_harbour") fd := by
  obtain ⟨fd, F⟩ := c.t.d.defs (d := dd "_law_harbour" 39) (List.mem_of_getElem? (i := 22) rfl)
  exact ⟨fd, dk__law_harbour F⟩
theorem dk__law_boat {fd : FuncData} (F : FunD K "_law_boat" "_law_boat" (defArgs (top 40)) (defBody (top 40)) (defScope (top 40)) [] [] (He.ga K "_law_boat") fd) : DefOk (mkT w K mg base) G d__law_boat (He.ga K "_law_boat") fd :=
  ⟨F, s__law_boat, t__law_boat, F.bindsN fun _ _ _ _ _ _ us hl => match us, hl with | [_, _], _ => rfl, fun h => by cases h⟩
theorem do__law_boat (c : Sy w h K) : ∃ fd, DefOk (mkT w K mg base) G d__law_boat (He.ga K "_law_boat") fd := by
  obtain ⟨fd, F⟩ := c.t.d.defs (d := dd "_law_boat" 40) (List.mem_of_getElem? (i := 23) rfl)
  exact ⟨fd, dk__law_boat F⟩
theorem dk__law_step {fd : FuncData} (F : FunD K "_law_step" "_law_step" (defArgs (top 41)) (defBody (top 41)) (defScope (top 41)) [] [] (He.ga K "_law_step") fd) : DefOk (mkT w K mg base) G d__law_step (He.ga K "_law_step") fd :=
  ⟨F, s__law_step, t__law_step, F.bindsN fun _ _ _ _ _ _ us hl => match us, hl with | [_], _ => rfl, fun h => by cases h⟩
theorem do__law_step (c : Sy w h K) : ∃ fd, DefOk (mkT w K mg base) G d__law_step (He.ga K "_law_step") fd := by
  obtain ⟨fd, F⟩ := c.t.d.defs (d := dd "_law_step" 41) (List.mem_of_getElem? (i := 24) rfl)
  exact ⟨fd, dk__law_step F⟩
theorem dk__law_steps {fd : FuncData} (F : FunD K "_law_steps" "_law_steps" (defArgs (top 42)) (defBody (top 42)) (defScope (top 42)) [] [] (He.ga K "_law_steps") fd) : DefOk (mkT w K mg base) G d__law_steps (He.ga K "_law_steps") fd :=
  ⟨F, s__law_steps, t__law_steps, F.bindsN fun _ _ _ _ _ _ us hl => match us, hl with | [_, _], _ => rfl, fun h => by cases h⟩
theorem do__law_steps (c : Sy w h K) : ∃ fd, DefOk (mkT w K mg base) G d__law_steps (He.ga K "_law_steps") fd := by
  obtain ⟨fd, F⟩ := c.t.d.defs (d := dd "_law_steps" 42) (List.mem_of_getElem? (i := 25) rfl)
  exact ⟨fd, dk__law_steps F⟩
theorem dk__law_truly {fd : FuncData} (F : FunD K "_law_truly" "_law_truly" (defArgs (top 45)) (defBody (top 45)) (defScope (top 45)) [] [] (He.ga K "_law_truly") fd) : DefOk (mkT w K mg base) G d__law_truly (He.ga K "_law_truly") fd :=
  ⟨F, s__law_truly, t__law_truly, F.bindsN fun _ _ _ _ _ _ us hl => match us, hl with | [_, _], _ => rfl, fun h => by cases h⟩
theorem do__law_truly (c : Sy w h K) : ∃ fd, DefOk (mkT w K mg base) G d__law_truly (He.ga K "_law_truly") fd := by
  obtain ⟨fd, F⟩ := c.t.d.defs (d := dd "_law_truly" 45) (List.mem_of_getElem? (i := 28) rfl)
  exact ⟨fd, dk__law_truly F⟩
theorem dk__law_whole {fd : FuncData} (F : FunD K "_law_whole" "_law_whole" (defArgs (top 46)) (defBody (top 46)) (defScope (top 46)) [] [] (He.ga K "_law_whole") fd) : DefOk (mkT w K mg base) G d__law_whole (He.ga K "_law_whole") fd :=
  ⟨F, s__law_whole, t__law_whole, F.bindsN fun _ _ _ _ _ _ us hl => match us, hl with | [_, _, _], _ => rfl, fun h => by cases h⟩
theorem do__law_whole (c : Sy w h K) : ∃ fd, DefOk (mkT w K mg base) G d__law_whole (He.ga K "_law_whole") fd := by
  obtain ⟨fd, F⟩ := c.t.d.defs (d := dd "_law_whole" 46) (List.mem_of_getElem? (i := 29) rfl)
  exact ⟨fd, dk__law_whole F⟩
theorem dk__law_spoilt {fd : FuncData} (F : FunD K "_law_spoilt" "_law_spoilt" (defArgs (top 47)) (defBody (top 47)) (defScope (top 47)) [] [] (He.ga K "_law_spoilt") fd) : DefOk (mkT w K mg base) G d__law_spoilt (He.ga K "_law_spoilt") fd :=
  ⟨F, s__law_spoilt, t__law_spoilt, F.bindsN fun _ _ _ _ _ _ us hl => match us, hl with | [_, _], _ => rfl, fun h => by cases h⟩
theorem do__law_spoilt (c : Sy w h K) : ∃ fd, DefOk (mkT w K mg base) G d__law_spoilt (He.ga K "_law_spoilt") fd := by
  obtain ⟨fd, F⟩ := c.t.d.defs (d := dd "_law_spoilt" 47) (List.mem_of_getElem? (i := 30) rfl)
  exact ⟨fd, dk__law_spoilt F⟩
theorem dk__law_pair {fd : FuncData} (F : FunD K "_law_pair" "_law_pair" (defArgs (top 48)) (defBody (top 48)) (defScope (top 48)) [] [] (He.ga K "_law_pair") fd) : DefOk (mkT w K mg base) G d__law_pair (He.ga K "_law_pair") fd :=
  ⟨F, s__law_pair, t__law_pair, F.bindsN fun _ _ _ _ _ _ us hl => match us, hl with | [_, _, _, _, _], _ => rfl, fun h => by cases h⟩
theorem do__law_pair (c : Sy w h K) : ∃ fd, DefOk (mkT w K mg base) G d__law_pair (He.ga K "_law_pair") fd := by
  obtain ⟨fd, F⟩ := c.t.d.defs (d := dd "_law_pair" 48) (List.mem_of_getElem? (i := 31) rfl)
  exact ⟨fd, dk__law_pair F⟩
theorem dk__law_good_tide {fd : FuncData} (F : FunD K "_law_good_tide" "_law_good_tide" (defArgs (top 49)) (defBody (top 49)) (defScope (top 49)) [] [] (He.ga K "_law_good_tide") fd) : DefOk (mkT w K mg base) G d__law_good_tide (He.ga K "_law_good_tide") fd :=
  ⟨F, s__law_good_tide, t__law_good_tide, F.bindsN fun _ _ _ _ _ _ us hl => match us, hl with | [_], _ => rfl, fun h => by cases h⟩
theorem do__law_good_tide (c : Sy w h K) : ∃ fd, DefOk (mkT w K mg base) G d__law_good_tide (He.ga K "_law_good_tide") fd := by
  obtain ⟨fd, F⟩ := c.t.d.defs (d := dd "_law_good_tide" 49) (List.mem_of_getElem? (i := 32) rfl)
  exact ⟨fd, dk__law_good_tide F⟩
theorem dk__law_good_harbour {fd : FuncData} (F : FunD K "_law_good_harbour" "_law_good_harbour" (defArgs (top 50)) (defBody (top 50)) (defScope (top 50)) [] [] (He.ga K "_law_good_harbour") fd) : DefOk (mkT w K mg base) G d__law_good_harbour (He.ga K "_law_good_harbour") fd :=
  ⟨F, s__law_good_harbour, t__law_good_harbour, F.bindsN fun _ _ _ _ _ _ us hl => match us, hl with | [_], _ => rfl, fun h => by cases h⟩
theorem do__law_good_harbour (c : Sy w h K) : ∃ fd, DefOk (mkT w K mg base) G d__law_good_harbour (He.ga K "_law_good_harbour") fd := by
  obtain ⟨fd, F⟩ := c.t.d.defs (d := dd "_law_good_harbour" 50) (List.mem_of_getElem? (i := 33) rfl)
  exact ⟨fd, dk__law_good_harbour F⟩
theorem dk__law_good_boat {fd : FuncData} (F : FunD K "_law_good_boat" "_law_good_boat" (defArgs (top 51)) (defBody (top 51)) (defScope (top 51)) [] [] (He.ga K "_law_good_boat") fd) : DefOk (mkT w K mg base) G d__law_good_boat (He.ga K "_law_good_boat") fd :=
  ⟨F, s__law_good_boat, t__law_good_boat, F.bindsN fun _ _ _ _ _ _ us hl => match us, hl with | [_, _], _ => rfl, fun h => by cases h⟩
theorem do__law_good_boat (c : Sy w h K) : ∃ fd, DefOk (mkT w K mg base) G d__law_good_boat (He.ga K "_law_good_boat") fd := by
  obtain ⟨fd, F⟩ := c.t.d.defs (d := dd "_law_good_boat" 51) (List.mem_of_getElem? (i := 34) rfl)
  exact ⟨fd, dk__law_good_boat F⟩
theorem dk__law_good_step {fd : FuncData} (F : FunD K "_law_good_step" "_law_good_step" (defArgs (top 52)) (defBody (top 52)) (defScope (top 52)) [] [] (He.ga K "_law_good_step") fd) : DefOk (mkT w K mg base) G d__law_good_step (He.ga K "_law_good_step") fd :=
  ⟨F, s__law_good_step, t__law_good_step, F.bindsN fun _ _ _ _ _ _ us hl => match us, hl with | [_], _ => rfl, fun h => by cases h⟩
theorem do__law_good_step (c : Sy w h K) : ∃ fd, DefOk (mkT w K mg base) G d__law_good_step (He.ga K "_law_good_step") fd := by
  obtain ⟨fd, F⟩ := c.t.d.defs (d := dd "_law_good_step" 52) (List.mem_of_getElem? (i := 35) rfl)
  exact ⟨fd, dk__law_good_step F⟩
theorem dk__law_good_script {fd : FuncData} (F : FunD K "_law_good_script" "_law_good_script" (defArgs (top 53)) (defBody (top 53)) (defScope (top 53)) [] [] (He.ga K "_law_good_script") fd) : DefOk (mkT w K mg base) G d__law_good_script (He.ga K "_law_good_script") fd :=
  ⟨F, s__law_good_script, t__law_good_script, F.bindsN fun _ _ _ _ _ _ us hl => match us, hl with | [_], _ => rfl, fun h => by cases h⟩
theorem do__law_good_script (c : Sy w h K) : ∃ fd, DefOk (mkT w K mg base) G d__law_good_script (He.ga K "_law_good_script") fd := by
  obtain ⟨fd, F⟩ := c.t.d.defs (d := dd "_law_good_script" 53) (List.mem_of_getElem? (i := 36) rfl)
  exact ⟨fd, dk__law_good_script F⟩
theorem dk_law {fd : FuncData} (F : FunD K "law" "law" (defArgs (top 54)) (defBody (top 54)) (defScope (top 54)) [] [] (He.ga K "law") fd) (tb : LamX.TabB base mg (He.cT K lawN).1 (He.cT K lawN).2) : DefOk (mkT w K mg base) G d_law (He.ga K "law") fd :=
  ⟨F, s_law, t_law, F.bindsN fun _ _ _ _ _ _ us hl => match us, hl with | [_], _ => rfl, fun _ => by
    obtain ⟨oc, od, dV, kV, doc, pm, an, cdv, ct, osl, rfl, lk, hcd, _, _⟩ := F.ex
    obtain ⟨cc, hcc⟩ := He.codeIn_ref hcd
    refine ⟨cc, (He.cT K lawN).2, hcc, ?_, List.mem_cons_self, fun p hp _ => by rw [List.mem_singleton.mp hp]; rfl⟩
    have e : (He.cT K lawN).1 = cc := He.codeOf_eq lk hcc
    rw [← e]
    exact tb⟩
theorem do_law (c : Sy w h K) (tb : LamX.TabB base mg (He.cT K lawN).1 (He.cT K lawN).2) : ∃ fd, DefOk (mkT w K mg base) G d_law (He.ga K "law") fd := by
  obtain ⟨fd, F⟩ := c.t.d.defs (d := dd "law" 54) (List.mem_of_getElem? (i := 37) rfl)
  exact ⟨fd, dk_law F tb⟩
abbrev HA (w : World) (K : PySem.W.Frag) (mg : Str → Option Value) (base : Heap) (x : Str) (v : Nat × Nat) : Prop :=
  (mkT w K mg base).mg x = some (.ref ((mkT w K mg base).fa v.1)) ∧ PySem.W.keepIn K (.ref ((mkT w K mg base).fa v.1)) = true ∧ ∃ d fd, tab[v.1]? = some d ∧ d.ps.length = v.2 ∧ DefOk (mkT w K mg base) G d ((mkT w K mg base).fa v.1) fd
theorem ha0 (X : K.In h) (G : h.Ns mainGlobals mg) (c : Sy w h K) (tb : LamX.TabB base mg (He.cT K lawN).1 (He.cT K lawN).2) : ∀ e ∈ fns0, HA w K mg base e.1 e.2 := by
  refine List.forall_mem_cons.2 ⟨?_, List.forall_mem_cons.2 ⟨?_, List.forall_mem_cons.2 ⟨?_, List.forall_mem_cons.2 ⟨?_, List.forall_mem_cons.2 ⟨?_, List.forall_mem_cons.2 ⟨?_, List.forall_mem_cons.2 ⟨?_, List.forall_mem_cons.2 ⟨?_, List.forall_mem_cons.2 ⟨?_, List.forall_mem_cons.2 ⟨?_, List.forall_mem_cons.2 ⟨?_, List.forall_mem_cons.2 ⟨?_, fun _ h => (List.not_mem_nil h).elim⟩⟩⟩⟩⟩⟩⟩⟩⟩⟩⟩⟩
  · obtain ⟨fd, D⟩ := do_divisor_of (mg := mg) (base := base) c
    exact ⟨m_glo X G c (List.mem_of_getElem? (i := 0) rfl), D.fun_.kp, _, fd, rfl, rfl, D⟩
  · obtain ⟨fd, D⟩ := do_is_plain (mg := mg) (base := base) c
    exact ⟨m_glo X G c (List.mem_of_getElem? (i := 1) rfl), D.fun_.kp, _, fd, rfl, rfl, D⟩
  · obtain ⟨fd, D⟩ := do_is_whole (mg := mg) (base := base) c
    exact ⟨m_glo X G c (List.mem_of_getElem? (i := 2) rfl), D.fun_.kp, _, fd, rfl, rfl, D⟩
  · obtain ⟨fd, D⟩ := do_is_row (mg := mg) (base := base) c
    exact ⟨m_glo X G c (List.mem_of_getElem? (i := 3) rfl), D.fun_.kp, _, fd, rfl, rfl, D⟩
  · obtain ⟨fd, D⟩ := do_is_pair (mg := mg) (base := base) c
    exact ⟨m_glo X G c (List.mem_of_getElem? (i := 4) rfl), D.fun_.kp, _, fd, rfl, rfl, D⟩
  · obtain ⟨fd, D⟩ := do_is_tide (mg := mg) (base := base) c
    exact ⟨m_glo X G c (List.mem_of_getElem? (i := 5) rfl), D.fun_.kp, _, fd, rfl, rfl, D⟩
  · obtain ⟨fd, D⟩ := do_is_harbour (mg := mg) (base := base) c
    exact ⟨m_glo X G c (List.mem_of_getElem? (i := 6) rfl), D.fun_.kp, _, fd, rfl, rfl, D⟩
  · obtain ⟨fd, D⟩ := do_is_fraction (mg := mg) (base := base) c
    exact ⟨m_glo X G c (List.mem_of_getElem? (i := 7) rfl), D.fun_.kp, _, fd, rfl, rfl, D⟩
  · obtain ⟨fd, D⟩ := do_is_unit (mg := mg) (base := base) c
    exact ⟨m_glo X G c (List.mem_of_getElem? (i := 8) rfl), D.fun_.kp, _, fd, rfl, rfl, D⟩
  · obtain ⟨fd, D⟩ := do_fits_boat (mg := mg) (base := base) c
    exact ⟨m_glo X G c (List.mem_of_getElem? (i := 9) rfl), D.fun_.kp, _, fd, rfl, rfl, D⟩
  · obtain ⟨fd, D⟩ := do_is_side (mg := mg) (base := base) c
    exact ⟨m_glo X G c (List.mem_of_getElem? (i := 10) rfl), D.fun_.kp, _, fd, rfl, rfl, D⟩
  · obtain ⟨fd, D⟩ := do_is_step (mg := mg) (base := base) c
    exact ⟨m_glo X G c (List.mem_of_getElem? (i := 11) rfl), D.fun_.kp, _, fd, rfl, rfl, D⟩
theorem ha1 (X : K.In h) (G : h.Ns mainGlobals mg) (c : Sy w h K) (tb : LamX.TabB base mg (He.cT K lawN).1 (He.cT K lawN).2) : ∀ e ∈ fns1, HA w K mg base e.1 e.2 := by
  refine List.forall_mem_cons.2 ⟨?_, List.forall_mem_cons.2 ⟨?_, List.forall_mem_cons.2 ⟨?_, List.forall_mem_cons.2 ⟨?_, List.forall_mem_cons.2 ⟨?_, List.forall_mem_cons.2 ⟨?_, List.forall_mem_cons.2 ⟨?_, List.forall_mem_cons.2 ⟨?_, List.forall_mem_cons.2 ⟨?_, List.forall_mem_cons.2 ⟨?_, List.forall_mem_cons.2 ⟨?_, List.forall_mem_cons.2 ⟨?_, fun _ h => (List.not_mem_nil h).elim⟩⟩⟩⟩⟩⟩⟩⟩⟩⟩⟩⟩
  · obtain ⟨fd, D⟩ := do_is_any_step (mg := mg) (base := base) c
    exact ⟨m_glo X G c (List.mem_of_getElem? (i := 12) rfl), D.fun_.kp, _, fd, rfl, rfl, D⟩
  · obtain ⟨fd, D⟩ := do_is_script (mg := mg) (base := base) c
    exact ⟨m_glo X G c (List.mem_of_getElem? (i := 13) rfl), D.fun_.kp, _, fd, rfl, rfl, D⟩
  · obtain ⟨fd, D⟩ := do_need_harbour (mg := mg) (base := base) c
    exact ⟨m_glo X G c (List.mem_of_getElem? (i := 14) rfl), D.fun_.kp, _, fd, rfl, rfl, D⟩
  · obtain ⟨fd, D⟩ := do_is_boat (mg := mg) (base := base) c
    exact ⟨m_glo X G c (List.mem_of_getElem? (i := 15) rfl), D.fun_.kp, _, fd, rfl, rfl, D⟩
  · obtain ⟨fd, D⟩ := do__law_cell (mg := mg) (base := base) c
    exact ⟨m_glo X G c (List.mem_of_getElem? (i := 16) rfl), D.fun_.kp, _, fd, rfl, rfl, D⟩
  · obtain ⟨fd, D⟩ := do__law_draws (mg := mg) (base := base) c
    exact ⟨m_glo X G c (List.mem_of_getElem? (i := 17) rfl), D.fun_.kp, _, fd, rfl, rfl, D⟩
  · obtain ⟨fd, D⟩ := do__law_bag (mg := mg) (base := base) c
    exact ⟨m_glo X G c (List.mem_of_getElem? (i := 18) rfl), D.fun_.kp, _, fd, rfl, rfl, D⟩
  · obtain ⟨fd, D⟩ := do__law_take (mg := mg) (base := base) c
    exact ⟨m_glo X G c (List.mem_of_getElem? (i := 19) rfl), D.fun_.kp, _, fd, rfl, rfl, D⟩
  · obtain ⟨fd, D⟩ := do__law_choice (mg := mg) (base := base) c
    exact ⟨m_glo X G c (List.mem_of_getElem? (i := 20) rfl), D.fun_.kp, _, fd, rfl, rfl, D⟩
  · obtain ⟨fd, D⟩ := do__law_tide (mg := mg) (base := base) c
    exact ⟨m_glo X G c (List.mem_of_getElem? (i := 21) rfl), D.fun_.kp, _, fd, rfl, rfl, D⟩
  · obtain ⟨fd, D⟩ := do__law_harbour (mg := mg) (base := base) c
    exact ⟨m_glo X G c (List.mem_of_getElem? (i := 22) rfl), D.fun_.kp, _, fd, rfl, rfl, D⟩
  · obtain ⟨fd, D⟩ := do__law_boat (mg := mg) (base := base) c
    exact ⟨m_glo X G c (List.mem_of_getElem? (i := 23) rfl), D.fun_.kp, _, fd, rfl, rfl, D⟩
theorem ha2 (X : K.In h) (G : h.Ns mainGlobals mg) (c : Sy w h K) (tb : LamX.TabB base mg (He.cT K lawN).1 (He.cT K lawN).2) : ∀ e ∈ fns2, HA w K mg base e.1 e.2 := by
  refine List.forall_mem_cons.2 ⟨?_, List.forall_mem_cons.2 ⟨?_, List.forall_mem_cons.2 ⟨?_, List.forall_mem_cons.2 ⟨?_, List.forall_mem_cons.2 ⟨?_, List.forall_mem_cons.2 ⟨?_, List.forall_mem_cons.2 ⟨?_, List.forall_mem_cons.2 ⟨?_, List.forall_mem_cons.2 ⟨?_, List.forall_mem_cons.2 ⟨?_, List.forall_mem_cons.2 ⟨?_, List.forall_mem_cons.2 ⟨?_, fun _ h => (List.not_mem_nil h).elim⟩⟩⟩⟩⟩⟩⟩⟩⟩⟩⟩⟩
  · obtain ⟨fd, D⟩ := do__law_step (mg := mg) (base := base) c
    exact ⟨m_glo X G c (List.mem_of_getElem? (i := 24) rfl), D.fun_.kp, _, fd, rfl, rfl, D⟩
  · obtain ⟨fd, D⟩ := do__law_steps (mg := mg) (base := base) c
    exact ⟨m_glo X G c (List.mem_of_getElem? (i := 25) rfl), D.fun_.kp, _, fd, rfl, rfl, D⟩
  · obtain ⟨fd, D⟩ := do__law_truly (mg := mg) (base := base) c
    exact ⟨m_glo X G c (List.mem_of_getElem? (i := 28) rfl), D.fun_.kp, _, fd, rfl, rfl, D⟩
  · obtain ⟨fd, D⟩ := do__law_whole (mg := mg) (base := base) c
    exact ⟨m_glo X G c (List.mem_of_getElem? (i := 29) rfl), D.fun_.kp, _, fd, rfl, rfl, D⟩
  · obtain ⟨fd, D⟩ := do__law_spoilt (mg := mg) (base := base) c
    exact ⟨m_glo X G c (List.mem_of_getElem? (i := 30) rfl), D.fun_.kp, _, fd, rfl, rfl, D⟩
  · obtain ⟨fd, D⟩ := do__law_pair (mg := mg) (base := base) c
    exact ⟨m_glo X G c (List.mem_of_getElem? (i := 31) rfl), D.fun_.kp, _, fd, rfl, rfl, D⟩
  · obtain ⟨fd, D⟩ := do__law_good_tide (mg := mg) (base := base) c
    exact ⟨m_glo X G c (List.mem_of_getElem? (i := 32) rfl), D.fun_.kp, _, fd, rfl, rfl, D⟩
  · obtain ⟨fd, D⟩ := do__law_good_harbour (mg := mg) (base := base) c
    exact ⟨m_glo X G c (List.mem_of_getElem? (i := 33) rfl), D.fun_.kp, _, fd, rfl, rfl, D⟩
  · obtain ⟨fd, D⟩ := do__law_good_boat (mg := mg) (base := base) c
    exact ⟨m_glo X G c (List.mem_of_getElem? (i := 34) rfl), D.fun_.kp, _, fd, rfl, rfl, D⟩
  · obtain ⟨fd, D⟩ := do__law_good_step (mg := mg) (base := base) c
    exact ⟨m_glo X G c (List.mem_of_getElem? (i := 35) rfl), D.fun_.kp, _, fd, rfl, rfl, D⟩
  · obtain ⟨fd, D⟩ := do__law_good_script (mg := mg) (base := base) c
    exact ⟨m_glo X G c (List.mem_of_getElem? (i := 36) rfl), D.fun_.kp, _, fd, rfl, rfl, D⟩
  · obtain ⟨fd, D⟩ := do_law (mg := mg) (base := base) c tb
    exact ⟨m_glo X G c (List.mem_of_getElem? (i := 37) rfl), D.fun_.kp, _, fd, rfl, rfl, D⟩
theorem lookup_mem {α : Type} {x : Str} {v : α} : ∀ {l : List (Str × α)}, l.lookup x = some v → (x, v) ∈ l
  | [], h => by cases h
  | (b, u) :: r, h => by
    have h2 : (match x == b with | true => some u | false => r.lookup x) = some v := h
    cases q : (x == b) with
    | true =>
      rw [q] at h2
      have e : u = v := Option.some.inj h2
      rw [beq_iff_eq.mp q, e]
      exact List.mem_cons_self
    | false =>
      rw [q] at h2
      exact List.mem_cons_of_mem _ (lookup_mem h2)
theorem ha (X : K.In h) (G : h.Ns mainGlobals mg) (c : Sy w h K) (tb : LamX.TabB base mg (He.cT K lawN).1 (He.cT K lawN).2) : ∀ e ∈ fns, HA w K mg base e.1 e.2 := by
  unfold fns
  exact List.forall_mem_append.2 ⟨List.forall_mem_append.2 ⟨ha0 X G c tb, ha1 X G c tb⟩, ha2 X G c tb⟩
theorem hcon (X : K.In h) (G : h.Ns mainGlobals mg) (c : Sy w h K) : ∀ e ∈ cons, ∃ v u, mg e.1 = some u ∧ RelV v u ∧ ∀ cs F, Rep (mkT w K mg base) cs F v e.2 := by
  refine List.forall_mem_cons.2 ⟨?_, List.forall_mem_cons.2 ⟨?_, fun _ h => (List.not_mem_nil h).elim⟩⟩
  · obtain ⟨t, ht⟩ := He.int_ok X G (c.t.d.facts (f := .int "GREATEST" 1000000) (List.mem_of_getElem? (i := 60) rfl))
    exact ⟨.int _, _, ht, ⟨t, rfl⟩, fun cs F => .int _⟩
  · exact ⟨.ref (He.ga K "SIDES"), _, m_glo X G c (List.mem_of_getElem? (i := 61) rfl), rfl, fun cs F => .tup (He.tupB_ok (Bool.and_eq_true_iff.mp c.more).1 F) (.cons (.str _) (.cons (.str _) .nil))⟩
theorem hfree (X : K.In h) (G : h.Ns mainGlobals mg) (c : Sy w h K) : ∀ x ∈ frees, mg x = none := by
  unfold frees
  show ∀ x ∈ (["len", "abs", "int", "bool", "all", "tuple", "list", "str", "range", "zip", "isinstance", "sorted", "set"] : List Str), mg x = none
  exact List.forall_mem_cons.2 ⟨m_free X G c (List.mem_of_getElem? (i := 62) rfl), List.forall_mem_cons.2 ⟨m_free X G c (List.mem_of_getElem? (i := 63) rfl), List.forall_mem_cons.2 ⟨m_free X G c (List.mem_of_getElem? (i := 64) rfl), List.forall_mem_cons.2 ⟨m_free X G c (List.mem_of_getElem? (i := 65) rfl), List.forall_mem_cons.2 ⟨m_free X G c (List.mem_of_getElem? (i := 66) rfl), List.forall_mem_cons.2 ⟨m_free X G c (List.mem_of_getElem? (i := 67) rfl), List.forall_mem_cons.2 ⟨m_free X G c (List.mem_of_getElem? (i := 68) rfl), List.forall_mem_cons.2 ⟨m_free X G c (List.mem_of_getElem? (i := 69) rfl), List.forall_mem_cons.2 ⟨m_free X G c (List.mem_of_getElem? (i := 70) rfl), List.forall_mem_cons.2 ⟨m_free X G c (List.mem_of_getElem? (i := 71) rfl), List.forall_mem_cons.2 ⟨m_free X G c (List.mem_of_getElem? (i := 72) rfl), List.forall_mem_cons.2 ⟨m_free X G c (List.mem_of_getElem? (i := 73) rfl), List.forall_mem_cons.2 ⟨m_free X G c (List.mem_of_getElem? (i := 74) rfl), fun _ h => (List.not_mem_nil h).elim⟩⟩⟩⟩⟩⟩⟩⟩⟩⟩⟩⟩⟩
theorem hexc (X : K.In h) (G : h.Ns mainGlobals mg) (c : Sy w h K) : ∀ e ∈ excs, mg e.1 = some (.ref ((mkT w K mg base).ca e.2)) ∧ PySem.W.keepIn K (.ref ((mkT w K mg base).ca e.2)) = true ∧ PySem.W.excIn K ((mkT w K mg base).ca e.2) He.veBase "ValueError.__new__" = true ∧
    PySem.W.subIn K (.ref ((mkT w K mg base).ca e.2)) (.type "BaseException") = some true ∧ PySem.W.typeIn K (.ref ((mkT w K mg base).ca e.2)) = some (.type "type") := by
  refine List.forall_mem_cons.2 ⟨?_, List.forall_mem_cons.2 ⟨?_, List.forall_mem_cons.2 ⟨?_, List.forall_mem_cons.2 ⟨?_, List.forall_mem_cons.2 ⟨?_, List.forall_mem_cons.2 ⟨?_, List.forall_mem_cons.2 ⟨?_, List.forall_mem_cons.2 ⟨?_, List.forall_mem_cons.2 ⟨?_, List.forall_mem_cons.2 ⟨?_, List.forall_mem_cons.2 ⟨?_, fun _ h => (List.not_mem_nil h).elim⟩⟩⟩⟩⟩⟩⟩⟩⟩⟩⟩
  · obtain ⟨a1, a2, a3, a4⟩ := He.exc_ok (c.t.d.facts (f := .exc "TideError") (List.mem_of_getElem? (i := 49) rfl))
    exact ⟨m_glo X G c (List.mem_of_getElem? (i := 38) rfl), a2, a1, a3, a4⟩
  · obtain ⟨a1, a2, a3, a4⟩ := He.exc_ok (c.t.d.facts (f := .exc "InvalidTide") (List.mem_of_getElem? (i := 50) rfl))
    exact ⟨m_glo X G c (List.mem_of_getElem? (i := 39) rfl), a2, a1, a3, a4⟩
  · obtain ⟨a1, a2, a3, a4⟩ := He.exc_ok (c.t.d.facts (f := .exc "InvalidHarbour") (List.mem_of_getElem? (i := 51) rfl))
    exact ⟨m_glo X G c (List.mem_of_getElem? (i := 40) rfl), a2, a1, a3, a4⟩
  · obtain ⟨a1, a2, a3, a4⟩ := He.exc_ok (c.t.d.facts (f := .exc "InvalidBoat") (List.mem_of_getElem? (i := 52) rfl))
    exact ⟨m_glo X G c (List.mem_of_getElem? (i := 41) rfl), a2, a1, a3, a4⟩
  · obtain ⟨a1, a2, a3, a4⟩ := He.exc_ok (c.t.d.facts (f := .exc "InvalidUnit") (List.mem_of_getElem? (i := 53) rfl))
    exact ⟨m_glo X G c (List.mem_of_getElem? (i := 42) rfl), a2, a1, a3, a4⟩
  · obtain ⟨a1, a2, a3, a4⟩ := He.exc_ok (c.t.d.facts (f := .exc "InvalidScript") (List.mem_of_getElem? (i := 54) rfl))
    exact ⟨m_glo X G c (List.mem_of_getElem? (i := 43) rfl), a2, a1, a3, a4⟩
  · obtain ⟨a1, a2, a3, a4⟩ := He.exc_ok (c.t.d.facts (f := .exc "InvalidNumber") (List.mem_of_getElem? (i := 55) rfl))
    exact ⟨m_glo X G c (List.mem_of_getElem? (i := 44) rfl), a2, a1, a3, a4⟩
  · obtain ⟨a1, a2, a3, a4⟩ := He.exc_ok (c.t.d.facts (f := .exc "InvalidFacts") (List.mem_of_getElem? (i := 56) rfl))
    exact ⟨m_glo X G c (List.mem_of_getElem? (i := 45) rfl), a2, a1, a3, a4⟩
  · obtain ⟨a1, a2, a3, a4⟩ := He.exc_ok (c.t.d.facts (f := .exc "InvalidText") (List.mem_of_getElem? (i := 57) rfl))
    exact ⟨m_glo X G c (List.mem_of_getElem? (i := 46) rfl), a2, a1, a3, a4⟩
  · obtain ⟨a1, a2, a3, a4⟩ := He.exc_ok (c.t.d.facts (f := .exc "Ended") (List.mem_of_getElem? (i := 58) rfl))
    exact ⟨m_glo X G c (List.mem_of_getElem? (i := 47) rfl), a2, a1, a3, a4⟩
  · obtain ⟨a1, a2, a3, a4⟩ := He.exc_ok (c.t.d.facts (f := .exc "NothingToUndo") (List.mem_of_getElem? (i := 59) rfl))
    exact ⟨m_glo X G c (List.mem_of_getElem? (i := 48) rfl), a2, a1, a3, a4⟩
theorem errNms_eq : errNms = (List.range 11).map errTx := by decide +kernel
theorem tErr_eq (ca : Nat → Addr) (tl : XK → Hp → VK → Prop) (H : Hp) (Q : VK) : TErrN ca errNms tl H Q = TErr ca tl H Q := by
  have e : (fun (cls : Value) (d : Option Addr) (H' : Hp) => ∃ c t, errNms[c]? = some t ∧ cls = .ref (ca c) ∧ d = none ∧ ∀ H'', Pd.Ext H' H'' → Q (.str t) H'') = fun cls d H' => ∃ c, c ≤ 10 ∧ cls = .ref (ca c) ∧ d = none ∧ ∀ H'', Pd.Ext H' H'' → Q (.str (errTx c)) H'' := by
    funext cls d H'
    apply propext
    rw [errNms_eq]
    constructor
    · rintro ⟨c, t, h1, h2, h3, h4⟩
      rw [List.getElem?_map] at h1
      by_cases hc : c < 11
      · rw [List.getElem?_range hc] at h1
        cases h1
        exact ⟨c, by omega, h2, h3, h4⟩
      · rw [List.getElem?_eq_none (by rw [List.length_range]; omega)] at h1
        cases h1
    · rintro ⟨c, h1, h2, h3, h4⟩
      exact ⟨c, _, by rw [List.getElem?_map, List.getElem?_range (by omega)]; rfl, h2, h3, h4⟩
  unfold TErrN TErr
  rw [e]
theorem exD {K : PySem.W.Frag} {D : Addr} (h : exC K D = true) : ExcC K D := by
  unfold exC at h
  simp only [Bool.and_eq_true, decide_eq_true_eq] at h
  obtain ⟨⟨⟨⟨⟨⟨⟨h1, h2⟩, h3⟩, h4⟩, h5⟩, h6⟩, h7⟩, h8⟩ := h
  exact ⟨h1, h2, h3, h4, h5, h6, h7, h8⟩
theorem ex_at (c : Sy w h K) (k : Nat) (hk : k ≤ 10) : ExcC K (ga' K k) ∧ (∀ i, 1 ≤ i → i ≤ 10 → PySem.W.kitOne K (.ref (ga' K k)) (.ref (ga' K i)) = some (decide (i = k))) ∧ PySem.W.kitOne K (.ref (ga' K k)) (.type "ValueError") = some true ∧ PySem.W.exmOne K (.ref (ga' K k)) (.ref (ga' K 0)) = some true := by
  have e : exB K = true := (Bool.and_eq_true_iff.mp c.more).2
  unfold exB at e
  have e1 := List.all_eq_true.mp e k (List.mem_range.mpr (by omega))
  simp only [Bool.and_eq_true, decide_eq_true_eq] at e1
  obtain ⟨⟨⟨a1, a2⟩, a3⟩, a4⟩ := e1
  refine ⟨exD a1, fun i h1 h2 => ?_, a3, a4⟩
  have e2 := List.all_eq_true.mp a2 (i - 1) (List.mem_range.mpr (by omega))
  have e3 : i - 1 + 1 = i := by omega
  rw [e3] at e2
  exact of_decide_eq_true e2
theorem hlam (X : K.In h) (G' : h.Ns mainGlobals mg) (c : Sy w h K) : ∀ x nm, G.lam = some (x, nm) → LamF (mkT w K mg base) x nm := by
  intro x nm hx
  cases hx
  obtain ⟨fdE, FE⟩ := c.t.d.defs (d := dd "_law_error" 44) (List.mem_of_getElem? (i := 27) rfl)
  obtain ⟨fdN, FN⟩ := c.t.d.defs (d := dd "_law_named_error" 43) (List.mem_of_getElem? (i := 26) rfl)
  have bE : Binds K fdE ["call"] [] := FE.bindsN fun _ _ _ _ _ _ us hl => match us, hl with | [_], _ => rfl
  have bN : Binds K fdN ["e"] [] := FN.bindsN fun _ _ _ _ _ _ us hl => match us, hl with | [_], _ => rfl
  refine ⟨He.ga K "_law_error", _, _, _, fdE, ["call", "e"], "call", m_glo X G' c (List.mem_of_getElem? (i := 27) rfl), FE, bE, scErr, rfl, .inl (by kernel_rfl), by decide, by decide, fun Y cdv q k hP hw hK hM hB => ?_⟩
  have hK' : Y.K = K := hK
  have hM' : Y.mg = mg := hM
  have NN : ∀ k, k ≤ 10 → NmF Y.K Y.mg (ga' K) k := fun k hk => by
    rw [hK', hM']
    obtain ⟨a1, a2, a3, a4⟩ := ex_at c k hk
    exact ⟨a1, m_free X G' c (List.mem_of_getElem? (i := 72) rfl), m_free X G' c (List.mem_of_getElem? (i := 71) rfl), m_free X G' c (List.mem_of_getElem? (i := 75) rfl),
      m_glo X G' c (List.mem_of_getElem? (i := 39) rfl), m_glo X G' c (List.mem_of_getElem? (i := 40) rfl), m_glo X G' c (List.mem_of_getElem? (i := 41) rfl), m_glo X G' c (List.mem_of_getElem? (i := 42) rfl), m_glo X G' c (List.mem_of_getElem? (i := 43) rfl), m_glo X G' c (List.mem_of_getElem? (i := 44) rfl), m_glo X G' c (List.mem_of_getElem? (i := 45) rfl), m_glo X G' c (List.mem_of_getElem? (i := 46) rfl), m_glo X G' c (List.mem_of_getElem? (i := 47) rfl), m_glo X G' c (List.mem_of_getElem? (i := 48) rfl), a2, a3⟩
  have g := gives_err (X := Y) (f := He.ga K "_law_named_error") (fd := fdN) (cdg := cdv) (g := He.ga K "_law_error") (ca := ga' K) (k := k) (q := q) (by rw [hK']; exact FN) (by rw [hK']; exact bN) (by rw [hM']; exact m_glo X G' c (List.mem_of_getElem? (i := 26) rfl)) (by rw [hM']; exact m_glo X G' c (List.mem_of_getElem? (i := 38) rfl)) NN (fun k hk => by rw [hK']; exact (ex_at c k hk).2.2.2)
  intro f' c' s H Q tl hr act hc ht
  exact g f' c' s H Q tl hr act hc ((tErr_eq (ga' K) tl H Q) ▸ ht)

abbrev Pure : Prop := ∀ ns : List Int, ns.length ≤ 63 → (∀ z ∈ ns, Builtin.Int.intBits z ≤ 1048576) → ∃ S, lawRun ns = .ok (.bl true) S
theorem facts (pure : Pure) (X : K.In h) (G' : h.Ns mainGlobals mg) (c : Sy w h K) : LamX.LawAtS PySem.Challenge.rw_anytide_k01_harbours_boats_and_scripts_k w K (L2N.CX (PySem.Challenge.rw_anytide_k01_harbours_boats_and_scripts_k).prog w) (3 * KK) 63 "script" mg (He.ga K "law") h := by
  obtain ⟨fd, F⟩ := c.t.d.defs (d := dd "law" 54) (List.mem_of_getElem? (i := 37) rfl)
  refine ⟨fd, [He.cT K lawN], fun vs H Q E => ∀ base, spD (mkT w K mg base) 1 (Cs tab WF KK 35) vs H Q E, fun p hp => ?_, fun p hp => ?_, fun p hp => ?_, fun s u => F.bindsA (ps := ["script"]) (fun _ _ _ _ _ _ us hl => match us, hl with | [_], _ => rfl) s [u] rfl, fun H a ns hl hbits hTb hS base => ?_, fun base KB GB TBs => ?_⟩
  · rw [List.mem_singleton.mp hp]; exact c.empty lawN List.mem_cons_self
  · rw [List.mem_singleton.mp hp]; exact c.out lawN List.mem_cons_self
  · rw [List.mem_singleton.mp hp]; exact PySem.W.codeHd_of_K X (c.hd lawN List.mem_cons_self)
  · have tabsOk : LamX.Tabs (mkT w K mg base).tabs H := fun p hp => by
      rw [List.mem_singleton.mp hp]; exact LamX.TabS.nil (hTb _ List.mem_cons_self)
    obtain ⟨S, e⟩ := pure ns hl hbits
    have fin : ∀ (F0 : Hp), Pd.Ext F0 H → (∀ (a : Addr) (ps : Array Value), F0 a ≠ some (.tbl ps)) → SqL K F0 a (ns.map V.int) → spD (mkT w K mg base) 1 (Cs tab WF KK 35) [.ref a] H (fun v _ => v = .bl true) (fun _ _ _ => False) := fun F0 sub noT hs => by
      refine ⟨rfl, F0, [], [.scr ns], [], ⟨sub, List.nodup_nil, rfl, fun k a ds h1 _ => (by simp at h1), tabsOk, noT⟩, .cons (.scr hs) .nil, ?_⟩
      show After _ _ _ _ _ _ _ (lawRun ns)
      rw [e]
      intro F' H' cs' _ _ v rv
      cases rv
      rfl
    rcases hS with (hS | ⟨o, hS⟩) | hS
    · refine fin (fun b => if b = a then some (.lst (ns.map V.int)) else none) (fun b o q => ?_) (fun b ps q => ?_) (.of (if_pos rfl))
      · by_cases hb : b = a
        · have q := (if_pos hb).symm.trans q; rw [hb, ← q]; exact hS
        · have q := (if_neg hb).symm.trans q; cases q
      · by_cases hb : b = a
        · have q := (if_pos hb).symm.trans q; cases q
        · have q := (if_neg hb).symm.trans q; cases q
    · refine fin (fun b => if b = a then some (.frz o (.lst (ns.map V.int))) else none) (fun b o q => ?_) (fun b ps q => ?_) (.inl (.inr ⟨o, if_pos rfl⟩))
      · by_cases hb : b = a
        · have q := (if_pos hb).symm.trans q; rw [hb, ← q]; exact hS
        · have q := (if_neg hb).symm.trans q; cases q
      · by_cases hb : b = a
        · have q := (if_pos hb).symm.trans q; cases q
        · have q := (if_neg hb).symm.trans q; cases q
    · exact fin (fun _ => none) (fun b o q => by cases q) (fun b ps q => by cases q) (.inr hS)
  · have tk := tabOk_all (T := mkT w K mg base) (G := G) (tab := tab) (w := WF) (fun x i n hx => ha X G' c (TBs _ List.mem_cons_self) (x, (i, n)) (lookup_mem hx)) (fun x d hx => hcon X G' c (x, d) (lookup_mem hx)) (hfree X G' c) (fun x k hx => hexc X G' c (x, k) (lookup_mem hx)) (hlam X G' c)
    exact (fnOk_step (k := KK - 1) (tk (KK - 1)) (i := 35) (n := 1) rfl rfl (dk_law F (TBs _ List.mem_cons_self))).imp fun vs H Q E q => q base
end
end Lw
open PySem PySem.W PySem.Calls PyProof.Rows
theorem Lw.holds (pure : Lw.Pure) : PySem.Challenge.rw_anytide_k01_harbours_boats_and_scripts_k.Holds := by
  w_on; o_law
  refine HandSHeadRun.head_any (r := OpenLaw.row PySem.Challenge.rw_anytide_k01_harbours_boats_and_scripts_k) (q := view (OpenLaw.row PySem.Challenge.rw_anytide_k01_harbours_boats_and_scripts_k).prog [54]) (H := Lw.hk) (ob := Lw.ob) (M := 6000) (loose := Lw.nms) (d := HandSHeadRun.topDef (OpenLaw.row PySem.Challenge.rw_anytide_k01_harbours_boats_and_scripts_k).prog 54) (kwd := []) Lw.ob_eq
    (by kernel_rfl) (fun s => by kernel_rfl) Lw.run (by kernel_rfl) (by kernel_rfl) (by kernel_rfl) (by rfl) (by first | assumption | decide +kernel) (by decide +kernel) ⟨rfl, rfl, rfl, rfl, rfl, by decide +kernel⟩ ?hw ?hc
  case hw => w_witness2
  case hc =>
    refine LamX.walk_ofTsE (l := PySem.Challenge.rw_anytide_k01_harbours_boats_and_scripts_k) (n := 63) (k := 3 * Lw.KK) (x := "script") (CX := fun w => L2N.CX (PySem.Challenge.rw_anytide_k01_harbours_boats_and_scripts_k).prog w) rfl (by decide) (by kernel_rfl) ⟨rfl, by decide, by decide⟩ ?F (fun w H s e s' z => ?_)
    · intro w mg fa h Y G hmg0
      obtain ⟨K, KX, c⟩ := Y
      have hmg : mg ("law" : PySem.Str) = some (.ref fa) := by
        have e : (HandSHeadRun.topDef (OpenLaw.row PySem.Challenge.rw_anytide_k01_harbours_boats_and_scripts_k).prog 54).name = ("law" : PySem.Str) := by kernel_rfl
        rw [← e]
        exact hmg0
      have e := hmg.symm.trans (Lw.m_glo KX G c (List.mem_of_getElem? (i := 37) rfl))
      cases e
      exact ⟨K, KX, Lw.facts pure KX G c⟩
    · obtain ⟨_, _, _, _, _, _, _, _, _, _, _, _, z⟩ := z
      exact z

end
section
set_option Elab.async false
set_option linter.all false
set_option maxRecDepth 100000
set_option maxHeartbeats 1000000
namespace Lw
open Pd
theorem ok_bind {α β : Type} (a : α) (S : Store) (f : α → M β) : R.bind (.ok a S) f = f a S := rfl
theorem pure_ok {α : Type} (a : α) (S : Store) : (Pure.pure a : M α) S = .ok a S := rfl
theorem bind_ap {α β : Type} (x : M α) (f : α → M β) (S : Store) : (x >>= f) S = (x S).bind f := rfl
theorem kb_NoneType_int : L2.kitB "NoneType" "int" = some false := by decide +kernel
theorem kb_NoneType_bool : L2.kitB "NoneType" "bool" = some false := by decide +kernel
theorem kb_NoneType_str : L2.kitB "NoneType" "str" = some false := by decide +kernel
theorem kb_NoneType_tuple : L2.kitB "NoneType" "tuple" = some false := by decide +kernel
theorem kb_NoneType_list : L2.kitB "NoneType" "list" = some false := by decide +kernel
theorem kb_bool_int : L2.kitB "bool" "int" = some true := by decide +kernel
theorem kb_bool_bool : L2.kitB "bool" "bool" = some true := by decide +kernel
theorem kb_bool_str : L2.kitB "bool" "str" = some false := by decide +kernel
theorem kb_bool_tuple : L2.kitB "bool" "tuple" = some false := by decide +kernel
theorem kb_bool_list : L2.kitB "bool" "list" = some false := by decide +kernel
theorem kb_int_int : L2.kitB "int" "int" = some true := by decide +kernel
theorem kb_int_bool : L2.kitB "int" "bool" = some false := by decide +kernel
theorem kb_int_str : L2.kitB "int" "str" = some false := by decide +kernel
theorem kb_int_tuple : L2.kitB "int" "tuple" = some false := by decide +kernel
theorem kb_int_list : L2.kitB "int" "list" = some false := by decide +kernel
theorem kb_str_int : L2.kitB "str" "int" = some false := by decide +kernel
theorem kb_str_bool : L2.kitB "str" "bool" = some false := by decide +kernel
theorem kb_str_str : L2.kitB "str" "str" = some true := by decide +kernel
theorem kb_str_tuple : L2.kitB "str" "tuple" = some false := by decide +kernel
theorem kb_str_list : L2.kitB "str" "list" = some false := by decide +kernel
theorem kb_tuple_int : L2.kitB "tuple" "int" = some false := by decide +kernel
theorem kb_tuple_bool : L2.kitB "tuple" "bool" = some false := by decide +kernel
theorem kb_tuple_str : L2.kitB "tuple" "str" = some false := by decide +kernel
theorem kb_tuple_tuple : L2.kitB "tuple" "tuple" = some true := by decide +kernel
theorem kb_tuple_list : L2.kitB "tuple" "list" = some false := by decide +kernel
theorem kb_list_int : L2.kitB "list" "int" = some false := by decide +kernel
theorem kb_list_bool : L2.kitB "list" "bool" = some false := by decide +kernel
theorem kb_list_str : L2.kitB "list" "str" = some false := by decide +kernel
theorem kb_list_tuple : L2.kitB "list" "tuple" = some false := by decide +kernel
theorem kb_list_list : L2.kitB "list" "list" = some true := by decide +kernel
theorem d_nm (C : Nat → List D → M D) (i : Nat) (ρ : Env') : den C (.nm i) ρ = (match ρ[i]? with
    | some (some d) => Pure.pure d
    | _ => M.bad) := by rw [den] <;> rfl
theorem d_k (C : Nat → List D → M D) (d : D) (ρ : Env') : den C (.k d) ρ = (Pure.pure d) := by rw [den] <;> rfl
theorem d_op (C : Nat → List D → M D) (o : Op) (a : E) (b : E) (ρ : Env') : den C (.op o a b) ρ = (do let x ← den C a ρ; let y ← den C b ρ; opM o.g x y) := by rw [den] <;> rfl
theorem d_neg (C : Nat → List D → M D) (a : E) (ρ : Env') : den C (.neg a) ρ = (do let x ← den C a ρ; unM unNeg x) := by rw [den] <;> rfl
theorem d_not (C : Nat → List D → M D) (a : E) (ρ : Env') : den C (.not a) ρ = (do
    match ← den C a ρ with
    | .bl b => Pure.pure (.bl !b)
    | _ => M.bad) := by rw [den] <;> rfl
theorem d_and (C : Nat → List D → M D) (a : E) (b : E) (ρ : Env') : den C (.and a b) ρ = (do
    match ← den C a ρ with
    | .bl true => den C b ρ
    | .bl false => Pure.pure (.bl false)
    | _ => M.bad) := by rw [den] <;> rfl
theorem d_or (C : Nat → List D → M D) (a : E) (b : E) (ρ : Env') : den C (.or a b) ρ = (do
    match ← den C a ρ with
    | .bl true => Pure.pure (.bl true)
    | .bl false => den C b ρ
    | _ => M.bad) := by rw [den] <;> rfl
theorem d_ite (C : Nat → List D → M D) (c : E) (a : E) (b : E) (ρ : Env') : den C (.ite c a b) ρ = (do
    match ← denT C c ρ with
    | true => den C a ρ
    | false => den C b ρ) := by rw [den] <;> rfl
theorem d_tup (C : Nat → List D → M D) (es : List E) (ρ : Env') : den C (.tup es) ρ = (do let ds ← denL C es ρ; if ds.length ≤ 16777216 then Pure.pure (.tup ds) else M.bad) := by rw [den] <;> rfl
theorem d_lst (C : Nat → List D → M D) (cel : Bool) (es : List E) (ρ : Env') : den C (.lst cel es) ρ = (do
    let ds ← denL C es ρ
    if ds.length ≤ 16777216 then lstM cel ds else M.bad) := by rw [den] <;> rfl
theorem d_slc (C : Nat → List D → M D) (a : E) (lo : Option E) (hi : Option E) (ρ : Env') : den C (.slc a lo hi) ρ = (do let x ← den C a ρ; let l ← denO C lo ρ; let h ← denO C hi ρ; lift (sliceD x l h)) := by rw [den] <;> rfl
theorem d_rev (C : Nat → List D → M D) (a : E) (ρ : Env') : den C (.rev a) ρ = (do let x ← den C a ρ; lift (revD x)) := by rw [den] <;> rfl
theorem d_chain (C : Nat → List D → M D) (o : Op) (p : Op) (a : E) (b : E) (c : E) (ρ : Env') : den C (.chain o p a b c) ρ = (do
    let x ← den C a ρ
    let y ← den C b ρ
    match ← opM o.g x y with
    | .bl true => do let z ← den C c ρ; opM p.g y z
    | .bl false => Pure.pure (.bl false)
    | _ => M.bad) := by rw [den] <;> rfl
theorem d_bi (C : Nat → List D → M D) (b : Bi) (es : List E) (ρ : Env') : den C (.bi b es) ρ = (do let ds ← denL C es ρ; caM b.g ds) := by rw [den] <;> rfl
theorem d_call (C : Nat → List D → M D) (keep : Bool) (f : Nat) (es : List E) (ρ : Env') : den C (.call keep f es) ρ = (do let ds ← denL C es ρ; thaw keep (callM C f ds)) := by rw [den] <;> rfl
theorem d_push (C : Nat → List D → M D) (a : E) (e : E) (ρ : Env') : den C (.push a e) ρ = (do let x ← den C a ρ; let k ← asCell x; let y ← den C e ρ; pushM k y) := by rw [den] <;> rfl
theorem d_pop0 (C : Nat → List D → M D) (a : E) (ρ : Env') : den C (.pop0 a) ρ = (do let x ← den C a ρ; let k ← asCell x; pop0M k) := by rw [den] <;> rfl
theorem d_lstC (C : Nat → List D → M D) (a : E) (ρ : Env') : den C (.lstC a) ρ = (do
    let x ← den C a ρ
    let ds ← lift fun S => seqA S x
    newCell ds) := by rw [den] <;> rfl
theorem s_set (C : Nat → List D → M D) (w : Nat) (g : Pd.G) (e : E) (ρ : Env') : Pd.exec C w (.set g e) ρ = (do
    let d ← den C e ρ
    match bindG g d ρ with
    | some ρ1 => Pure.pure (.nx ρ1)
    | none => M.bad) := by rw [Pd.exec] <;> rfl
theorem s_par (C : Nat → List D → M D) (w : Nat) (is : List Nat) (es : List E) (ρ : Env') : Pd.exec C w (.par is es) ρ = (do
    let ds ← denL C es ρ
    Pure.pure (.nx (setAll is ds ρ))) := by rw [Pd.exec] <;> rfl
theorem s_ret (C : Nat → List D → M D) (w : Nat) (e : E) (ρ : Env') : Pd.exec C w (.ret e) ρ = (do let d ← den C e ρ; Pure.pure (.ret d)) := by rw [Pd.exec] <;> rfl
theorem s_retN (C : Nat → List D → M D) (w : Nat)  (ρ : Env') : Pd.exec C w (.retN) ρ = (Pure.pure (.ret .non)) := by rw [Pd.exec] <;> rfl
theorem s_expr (C : Nat → List D → M D) (w : Nat) (e : E) (ρ : Env') : Pd.exec C w (.expr e) ρ = (do let _ ← den C e ρ; Pure.pure (.nx ρ)) := by rw [Pd.exec] <;> rfl
theorem s_ite (C : Nat → List D → M D) (w : Nat) (c : E) (a : List Pd.S) (b : List Pd.S) (ρ : Env') : Pd.exec C w (.ite c a b) ρ = (do
    match ← denT C c ρ with
    | true => execs C w a ρ
    | false => execs C w b ρ) := by rw [Pd.exec] <;> rfl
theorem s_setix (C : Nat → List D → M D) (w : Nat) (a : E) (i : E) (e : E) (ρ : Env') : Pd.exec C w (.setix a i e) ρ = (do
    let y ← den C e ρ
    let x ← den C a ρ
    let j ← den C i ρ
    let _ ← setixM x j y
    Pure.pure (.nx ρ)) := by rw [Pd.exec] <;> rfl
theorem s_raise (C : Nat → List D → M D) (w : Nat) (c : Nat) (ρ : Env') : Pd.exec C w (.raise c) ρ = (fun S => .err c S) := by rw [Pd.exec] <;> rfl
theorem s_pass (C : Nat → List D → M D) (w : Nat)  (ρ : Env') : Pd.exec C w (.pass) ρ = (Pure.pure (.nx ρ)) := by rw [Pd.exec] <;> rfl

/-- whole values: not deeper than n, not longer than l -/
def vok : Nat → Nat → D → Prop
  | 0, _, _ => False
  | _ + 1, _, .non => True
  | _ + 1, _, .bl _ => True
  | _ + 1, _, .int _ => True
  | _ + 1, _, .str x => PySem.PyData.strOk x = true ∧ x.length ≤ 100
  | n + 1, l, .tup ds => ds.length ≤ l ∧ ∀ d ∈ ds, vok n l d
  | n + 1, l, .lst ds => ds.length ≤ l ∧ ∀ d ∈ ds, vok n l d
  | _ + 1, _, _ => False
theorem vok_mono : ∀ {n m l l' : Nat} {d : D}, n ≤ m → l ≤ l' → vok n l d → vok m l' d
  | 0, _, _, _, _, _, _, h => by cases h
  | n + 1, 0, _, _, _, h, _, _ => by omega
  | n + 1, m + 1, l, l', d, hn, hl, h => by
    cases d with
    | tup ds => exact ⟨Nat.le_trans h.1 hl, fun d hd => vok_mono (by omega) hl (h.2 d hd)⟩
    | lst ds => exact ⟨Nat.le_trans h.1 hl, fun d hd => vok_mono (by omega) hl (h.2 d hd)⟩
    | _ => exact h
theorem vok_ty {n l : Nat} {d : D} (h : vok n l d) : (d = .non) ∨ (∃ b, d = .bl b) ∨ (∃ i, d = .int i) ∨ (∃ x, d = .str x ∧ PySem.PyData.strOk x = true ∧ x.length ≤ 100) ∨ (∃ ds, d = .tup ds) ∨ ∃ ds, d = .lst ds := by
  cases n with
  | zero => cases h
  | succ n => cases d <;> simp_all [vok]
/-! ### what the deciders say -/
def plainB : D → Bool
  | .int _ => true
  | _ => false
def wholeB (d : D) (lo hi : Int) : Bool := match d with
  | .int i => decide (lo ≤ i) && decide (i ≤ hi)
  | _ => false
def rowB (d : D) (lo hi : Int) : Bool := match d with
  | .tup ds => decide (lo ≤ ds.length) && decide ((ds.length : Int) ≤ hi)
  | _ => false
def pairB (d : D) (a b c e : Int) : Bool := match d with
  | .tup [x, y] => wholeB x a b && wholeB y c e
  | _ => false
variable {k n l : Nat} {S : Store} {v : D}
theorem ev_is_plain (h : vok n l v) : Cs tab WF (k + 1) 1 [v] S = .ok (.bl (plainB v)) S := by
  show runDef (Cs tab WF k) WF 1 ir_is_plain [v] S = _
  rcases vok_ty h with rfl | ⟨b, rfl⟩ | ⟨i, rfl⟩ | ⟨x, rfl, _, _⟩ | ⟨ds, rfl⟩ | ⟨ds, rfl⟩ <;> simp [runDef, Pd.execs, s_set, s_par, s_ret, s_retN, s_expr, s_ite, s_setix, s_raise, s_pass, d_nm, d_k, d_op, d_neg, d_not, d_and, d_or, d_ite, d_tup, d_lst, d_slc, d_rev, d_chain, d_bi, d_call, d_push, d_pop0, d_lstC, denT, denL, denI, denC, denO, lstM, bind_ap, ok_bind, pure_ok, caM, opM, unM, lift, Op.g, Bi.g, Pd.finish, thaw, callM, truD, ir_is_plain, isiD, tyN, plainB, kb_NoneType_int, kb_NoneType_bool, kb_NoneType_str, kb_NoneType_tuple, kb_NoneType_list, kb_bool_int, kb_bool_bool, kb_bool_str, kb_bool_tuple, kb_bool_list, kb_int_int, kb_int_bool, kb_int_str, kb_int_tuple, kb_int_list, kb_str_int, kb_str_bool, kb_str_str, kb_str_tuple, kb_str_list, kb_tuple_int, kb_tuple_bool, kb_tuple_str, kb_tuple_tuple, kb_tuple_list, kb_list_int, kb_list_bool, kb_list_str, kb_list_tuple, kb_list_list]
theorem ev_is_whole (lo hi : Int) (h : vok n l v) : Cs tab WF (k + 2) 2 [v, .int lo, .int hi] S = .ok (.bl (wholeB v lo hi)) S := by
  show runDef (Cs tab WF (k + 1)) WF 3 ir_is_whole [v, .int lo, .int hi] S = _
  rcases vok_ty h with rfl | ⟨b, rfl⟩ | ⟨i, rfl⟩ | ⟨x, rfl, _, _⟩ | ⟨ds, rfl⟩ | ⟨ds, rfl⟩
  case inr.inr.inl => by_cases h1 : lo ≤ i <;> simp [runDef, Pd.execs, s_set, s_par, s_ret, s_retN, s_expr, s_ite, s_setix, s_raise, s_pass, d_nm, d_k, d_op, d_neg, d_not, d_and, d_or, d_ite, d_tup, d_lst, d_slc, d_rev, d_chain, d_bi, d_call, d_push, d_pop0, d_lstC, denT, denL, denI, denC, denO, lstM, bind_ap, ok_bind, pure_ok, caM, opM, unM, lift, Op.g, Bi.g, Pd.finish, thaw, callM, truD, ir_is_whole, ev_is_plain h, plainB, wholeB, opLe, opCmp, h1]
  all_goals simp [runDef, Pd.execs, s_set, s_par, s_ret, s_retN, s_expr, s_ite, s_setix, s_raise, s_pass, d_nm, d_k, d_op, d_neg, d_not, d_and, d_or, d_ite, d_tup, d_lst, d_slc, d_rev, d_chain, d_bi, d_call, d_push, d_pop0, d_lstC, denT, denL, denI, denC, denO, lstM, bind_ap, ok_bind, pure_ok, caM, opM, unM, lift, Op.g, Bi.g, Pd.finish, thaw, callM, truD, ir_is_whole, ev_is_plain h, plainB, wholeB, opLe, opCmp]
theorem ev_is_row (lo hi : Int) (h : vok n l v) : Cs tab WF (k + 1) 3 [v, .int lo, .int hi] S = .ok (.bl (rowB v lo hi)) S := by
  show runDef (Cs tab WF k) WF 3 ir_is_row [v, .int lo, .int hi] S = _
  rcases vok_ty h with rfl | ⟨b, rfl⟩ | ⟨i, rfl⟩ | ⟨x, rfl, _, _⟩ | ⟨ds, rfl⟩ | ⟨ds, rfl⟩
  case inr.inr.inr.inr.inl => by_cases h1 : lo ≤ ds.length <;> simp [runDef, Pd.execs, s_set, s_par, s_ret, s_retN, s_expr, s_ite, s_setix, s_raise, s_pass, d_nm, d_k, d_op, d_neg, d_not, d_and, d_or, d_ite, d_tup, d_lst, d_slc, d_rev, d_chain, d_bi, d_call, d_push, d_pop0, d_lstC, denT, denL, denI, denC, denO, lstM, bind_ap, ok_bind, pure_ok, caM, opM, unM, lift, Op.g, Bi.g, Pd.finish, thaw, callM, truD, ir_is_row, isiD, tyN, kb_NoneType_int, kb_NoneType_bool, kb_NoneType_str, kb_NoneType_tuple, kb_NoneType_list, kb_bool_int, kb_bool_bool, kb_bool_str, kb_bool_tuple, kb_bool_list, kb_int_int, kb_int_bool, kb_int_str, kb_int_tuple, kb_int_list, kb_str_int, kb_str_bool, kb_str_str, kb_str_tuple, kb_str_list, kb_tuple_int, kb_tuple_bool, kb_tuple_str, kb_tuple_tuple, kb_tuple_list, kb_list_int, kb_list_bool, kb_list_str, kb_list_tuple, kb_list_list, rowB, opLe, opCmp, biLen, seqA, h1]
  all_goals simp [runDef, Pd.execs, s_set, s_par, s_ret, s_retN, s_expr, s_ite, s_setix, s_raise, s_pass, d_nm, d_k, d_op, d_neg, d_not, d_and, d_or, d_ite, d_tup, d_lst, d_slc, d_rev, d_chain, d_bi, d_call, d_push, d_pop0, d_lstC, denT, denL, denI, denC, denO, lstM, bind_ap, ok_bind, pure_ok, caM, opM, unM, lift, Op.g, Bi.g, Pd.finish, thaw, callM, truD, ir_is_row, isiD, tyN, kb_NoneType_int, kb_NoneType_bool, kb_NoneType_str, kb_NoneType_tuple, kb_NoneType_list, kb_bool_int, kb_bool_bool, kb_bool_str, kb_bool_tuple, kb_bool_list, kb_int_int, kb_int_bool, kb_int_str, kb_int_tuple, kb_int_list, kb_str_int, kb_str_bool, kb_str_str, kb_str_tuple, kb_str_list, kb_tuple_int, kb_tuple_bool, kb_tuple_str, kb_tuple_tuple, kb_tuple_list, kb_list_int, kb_list_bool, kb_list_str, kb_list_tuple, kb_list_list, rowB, opLe, opCmp, biLen, seqA]
theorem rowB_tup {d : D} {a b : Int} (h : rowB d a b = true) : ∃ ds, d = .tup ds ∧ a ≤ ds.length ∧ (ds.length : Int) ≤ b := by
  unfold rowB at h
  split at h
  · simp only [Bool.and_eq_true, decide_eq_true_eq] at h
    exact ⟨_, rfl, h.1, h.2⟩
  · cases h
theorem vok_tup {n l : Nat} {ds : List D} (h : vok n l (.tup ds)) : ∃ m, n = m + 1 ∧ ds.length ≤ l ∧ ∀ d ∈ ds, vok m l d := by
  cases n with
  | zero => cases h
  | succ m => exact ⟨m, rfl, h.1, h.2⟩
theorem two_of {ds : List D} (h1 : (2 : Int) ≤ ds.length) (h2 : (ds.length : Int) ≤ 2) : ∃ x y, ds = [x, y] := by
  match ds, h1, h2 with
  | [x, y], _, _ => exact ⟨x, y, rfl⟩
  | [], h1, _ => simp at h1
  | [x], h1, _ => simp at h1
  | x :: y :: z :: r, _, h2 => simp at h2; omega
theorem three_of {ds : List D} (h1 : (3 : Int) ≤ ds.length) (h2 : (ds.length : Int) ≤ 3) : ∃ x y z, ds = [x, y, z] := by
  match ds, h1, h2 with
  | [x, y, z], _, _ => exact ⟨x, y, z, rfl⟩
  | [], h1, _ => simp at h1
  | [x], h1, _ => simp at h1
  | [x, y], h1, _ => simp at h1
  | x :: y :: z :: u :: r, _, h2 => simp at h2; omega
theorem ixn {xs : List D} {i : Nat} (h : i < xs.length) : L2.atI xs (i : Int) = xs[i]? := by
  unfold L2.atI L2.ixN
  have h1 : (i : Int) < xs.length := by exact_mod_cast h
  simp [h1]
theorem ix0 {x : D} {r : List D} : L2.atI (x :: r) 0 = some x := (ixn (i := 0) (by simp)).trans rfl
theorem ix1 {x y : D} {r : List D} : L2.atI (x :: y :: r) 1 = some y := (ixn (i := 1) (by simp)).trans rfl
theorem ix2 {x y z : D} {r : List D} : L2.atI (x :: y :: z :: r) 2 = some z := (ixn (i := 2) (by simp)).trans rfl
theorem ev_is_pair (a b c e : Int) (h : vok n l v) : Cs tab WF (k + 3) 4 [v, .int a, .int b, .int c, .int e] S = .ok (.bl (pairB v a b c e)) S := by
  show runDef (Cs tab WF (k + 2)) WF 5 ir_is_pair [v, .int a, .int b, .int c, .int e] S = _
  cases hr : rowB v 2 2 with
  | false =>
    have hp : pairB v a b c e = false := by
      unfold pairB
      split
      · simp [rowB] at hr
      · rfl
    simp [runDef, Pd.execs, s_set, s_par, s_ret, s_retN, s_expr, s_ite, s_setix, s_raise, s_pass, d_nm, d_k, d_op, d_neg, d_not, d_and, d_or, d_ite, d_tup, d_lst, d_slc, d_rev, d_chain, d_bi, d_call, d_push, d_pop0, d_lstC, denT, denL, denI, denC, denO, lstM, bind_ap, ok_bind, pure_ok, caM, opM, unM, lift, Op.g, Bi.g, Pd.finish, thaw, callM, truD, ir_is_pair, ev_is_row (k := k + 1) 2 2 h, hr, hp]
  | true =>
    obtain ⟨ds, rfl, h1, h2⟩ := rowB_tup hr
    obtain ⟨x, y, rfl⟩ := two_of h1 h2
    obtain ⟨m, rfl, _, hv⟩ := vok_tup h
    have hx : vok m l x := hv x (by simp)
    have hy : vok m l y := hv y (by simp)
    cases hw : wholeB x a b <;> simp [runDef, Pd.execs, s_set, s_par, s_ret, s_retN, s_expr, s_ite, s_setix, s_raise, s_pass, d_nm, d_k, d_op, d_neg, d_not, d_and, d_or, d_ite, d_tup, d_lst, d_slc, d_rev, d_chain, d_bi, d_call, d_push, d_pop0, d_lstC, denT, denL, denI, denC, denO, lstM, bind_ap, ok_bind, pure_ok, caM, opM, unM, lift, Op.g, Bi.g, Pd.finish, thaw, callM, truD, ir_is_pair, ev_is_row (k := k + 1) 2 2 h, hr, pairB, opIdx, seqA, ix0, ix1, ev_is_whole (k := k) a b hx, ev_is_whole (k := k) c e hy, hw]
end Lw

end
section
set_option Elab.async false
set_option linter.all false
set_option maxRecDepth 100000
set_option maxHeartbeats 2000000
namespace Lw
open Pd
variable {k n l : Nat} {S : Store} {v : D}
theorem shp_of : ∀ {n m l : Nat} {d : D}, n ≤ m → vok n l d → shp m d = true
  | 0, _, _, _, _, h => by cases h
  | n + 1, 0, _, _, h, _ => by omega
  | n + 1, m + 1, l, d, hn, h => by
    cases d with
    | tup ds => exact List.all_eq_true.mpr fun d hd => shp_of (by omega) (h.2 d hd)
    | lst ds => exact List.all_eq_true.mpr fun d hd => shp_of (by omega) (h.2 d hd)
    | str x => exact h.1
    | cell => cases h
    | scr => cases h
    | fn => cases h
    | _ => rfl
theorem shp9_of (hn : n ≤ 40) (h : vok n l v) : shp9 v = true := shp_of hn h
/-- comprehensions without a test -/
theorem lc_map {f : D → M (Option D)} {g : D → D} : ∀ (items acc : List D), (∀ d ∈ items, f d S = .ok (some (g d)) S) → acc.length + items.length ≤ 16777216 → lcLoop f items acc S = .ok (acc ++ items.map g) S
  | [], acc, _, _ => by rw [lcLoop]; simp [pure_ok]
  | d :: ds, acc, h, hl => by
    rw [lcLoop, bind_ap, h d List.mem_cons_self, ok_bind]
    rw [List.length_cons] at hl
    have e : acc.length < 16777216 := by omega
    simp only [e, if_true]
    rw [lc_map ds _ (fun d hd => h d (List.mem_cons_of_mem _ hd)) (by rw [List.length_append]; simp; omega)]
    simp
/-- comprehensions with a test -/
theorem lc_filt {f : D → M (Option D)} {g : D → D} {p : D → Bool} : ∀ (items acc : List D), (∀ d ∈ items, f d S = .ok (if p d then some (g d) else none) S) → acc.length + items.length ≤ 16777216 → lcLoop f items acc S = .ok (acc ++ (items.filter p).map g) S
  | [], acc, _, _ => by rw [lcLoop]; simp [pure_ok]
  | d :: ds, acc, h, hl => by
    rw [lcLoop, bind_ap, h d List.mem_cons_self, ok_bind]
    rw [List.length_cons] at hl
    have e : acc.length < 16777216 := by omega
    cases hp : p d with
    | true =>
      simp only [if_true, e]
      rw [lc_filt ds _ (fun d hd => h d (List.mem_cons_of_mem _ hd)) (by rw [List.length_append]; simp; omega)]
      simp [hp]
    | false =>
      simp only [Bool.false_eq_true, if_false]
      rw [lc_filt ds _ (fun d hd => h d (List.mem_cons_of_mem _ hd)) (by omega)]
      simp [hp]
theorem den_map {C : Nat → List D → M D} {elt : E} {tg : Pd.G} {it : It} {own : List Nat} {ρ : Env'} {items : List D} {g : D → D} (hi : denI C it ρ S = .ok items S) (hl : items.length ≤ 16777216) (h : ∀ d ∈ items, ∃ ρ1, bindG tg d (wipeD ρ own) = some ρ1 ∧ den C elt ρ1 S = .ok (g d) S) :
    den C (.comp elt tg it none own) ρ S = .ok (.lst (items.map g)) S := by
  rw [den, bind_ap, hi, ok_bind]
  unfold noErr
  rw [bind_ap]
  rw [lc_map (g := g) items [] ?_ (by simpa using hl)]
  · simp [ok_bind, pure_ok]
  · intro d hd
    obtain ⟨ρ1, h1, h2⟩ := h d hd
    simp only [h1, bind_ap, denC, pure_ok, ok_bind, h2]
theorem den_filt {C : Nat → List D → M D} {elt t : E} {tg : Pd.G} {it : It} {own : List Nat} {ρ : Env'} {items : List D} {g : D → D} {p : D → Bool} (hi : denI C it ρ S = .ok items S) (hl : items.length ≤ 16777216) (h : ∀ d ∈ items, ∃ ρ1, bindG tg d (wipeD ρ own) = some ρ1 ∧ denT C t ρ1 S = .ok (p d) S ∧ den C elt ρ1 S = .ok (g d) S) :
    den C (.comp elt tg it (some t) own) ρ S = .ok (.lst ((items.filter p).map g)) S := by
  rw [den, bind_ap, hi, ok_bind]
  unfold noErr
  rw [bind_ap]
  rw [lc_filt (g := g) (p := p) items [] ?_ (by simpa using hl)]
  · simp [ok_bind, pure_ok]
  · intro d hd
    obtain ⟨ρ1, h1, h2, h3⟩ := h d hd
    cases hp : p d <;> simp only [h1, bind_ap, denC, pure_ok, ok_bind, h2, h3, hp] <;> rfl
theorem bools_map {α : Type} (p : α → Bool) : ∀ xs : List α, boolsD (xs.map fun d => D.bl (p d)) = some (xs.map p)
  | [] => rfl
  | x :: xs => by
    rw [List.map_cons, boolsD, bools_map p xs]
    rfl
theorem all_map {α : Type} (p : α → Bool) (xs : List α) : biAll S [.lst (xs.map fun d => D.bl (p d))] = some (.bl (xs.all p)) := by
  simp [biAll, seqL, bools_map, List.all_map, Function.comp_def]
/-! ### the deciders -/
def lessB (x y : D) : Bool := match x, y with
  | .tup (.int a :: _), .tup (.int b :: _) => decide (a < b)
  | _, _ => false
def tideB (d : D) : Bool := match d with
  | .tup ds => decide (2 ≤ ds.length) && decide (ds.length ≤ 6) && (ds.all fun p => pairB p 0 23 0 24) && (match ds with
    | .tup (.int a :: _) :: _ => decide (a = 0)
    | _ => false) && ((ds.zip ds.tail).all fun q => lessB q.1 q.2)
  | _ => false
theorem pairB_tup {d : D} {a b c e : Int} (h : pairB d a b c e = true) : ∃ x y, d = .tup [.int x, .int y] ∧ a ≤ x ∧ x ≤ b ∧ c ≤ y ∧ y ≤ e := by
  unfold pairB at h
  split at h
  · rename_i x y
    obtain ⟨h1, h2⟩ := Bool.and_eq_true_iff.mp h
    unfold wholeB at h1 h2
    split at h1
    · split at h2
      · simp only [Bool.and_eq_true, decide_eq_true_eq] at h1 h2
        exact ⟨_, _, rfl, h1.1, h1.2, h2.1, h2.2⟩
      · cases h2
    · cases h1
  · cases h
theorem zipOf_zip : ∀ xs ys : List D, zipOf xs ys = (xs.zip ys).map fun q => D.tup [q.1, q.2]
  | [], _ => by simp [zipOf]
  | _ :: _, [] => by simp [zipOf]
  | x :: xs, y :: ys => by rw [zipOf, zipOf_zip xs ys]; simp
theorem slice_from {ds : List D} {j : Nat} (h : j ≤ ds.length) : sliceD (.tup ds) (some (j : Int)) none S = some (.tup (ds.drop j)) := by
  unfold sliceD
  have e : HT.sIx ds.length 0 (some (j : Int)) = j := by rw [HT.sIx_nat]; omega
  simp only [e, HT.sIx_none]
  rw [List.take_of_length_le (by rw [List.length_drop]; omega)]
theorem slice_to {ds : List D} {j : Nat} (h : j ≤ ds.length) : sliceD (.tup ds) none (some (j : Int)) S = some (.tup (ds.take j)) := by
  unfold sliceD
  have e : HT.sIx ds.length ds.length (some (j : Int)) = j := by rw [HT.sIx_nat]; omega
  simp only [e, HT.sIx_none]
  simp
theorem zip_mem {xs ys : List D} {d : D} (h : d ∈ zipOf xs ys) : ∃ x y, d = .tup [x, y] ∧ x ∈ xs ∧ y ∈ ys := by
  rw [zipOf_zip] at h
  obtain ⟨q, hq, rfl⟩ := List.mem_map.mp h
  exact ⟨q.1, q.2, rfl, (List.of_mem_zip hq).1, (List.of_mem_zip hq).2⟩
theorem ev_is_tide (h : vok n l v) : Cs tab WF (k + 4) 5 [v] S = .ok (.bl (tideB v)) S := by
  show runDef (Cs tab WF (k + 3)) WF 4 ir_is_tide [v] S = _
  cases hr : rowB v 2 6 with
  | false =>
    have ht : tideB v = false := by
      unfold tideB
      split
      · simp only [rowB] at hr
        simp only [Bool.and_eq_false_iff, decide_eq_false_iff_not] at hr
        rcases hr with hr | hr
        · have e : ¬ (2 ≤ _) := fun q => hr (by exact_mod_cast q)
          simp [e]
        · have e : ¬ (_ ≤ 6) := fun q => hr (by exact_mod_cast q)
          simp [e]
      · rfl
    simp [runDef, Pd.execs, s_set, s_par, s_ret, s_retN, s_expr, s_ite, s_setix, s_raise, s_pass, d_nm, d_k, d_op, d_neg, d_not, d_and, d_or, d_ite, d_tup, d_lst, d_slc, d_rev, d_chain, d_bi, d_call, d_push, d_pop0, d_lstC, denT, denL, denI, denC, denO, lstM, bind_ap, ok_bind, pure_ok, caM, opM, unM, lift, Op.g, Bi.g, Pd.finish, thaw, callM, truD, ir_is_tide, ev_is_row (k := k + 2) 2 6 h, hr, ht]
  | true =>
    obtain ⟨ds, rfl, h1, h2⟩ := rowB_tup hr
    obtain ⟨m, rfl, hlen, hv⟩ := vok_tup h
    have g1 : 2 ≤ ds.length := by omega
    have g2 : ds.length ≤ 6 := by omega
    have e1 : den (Cs tab WF (k + 3)) (.comp (.call false 4 [(.nm 1), (.k (.int 0)), (.k (.int 23)), (.k (.int 0)), (.k (.int 24))]) (.nm 1) (.seq (.nm 0)) none [1]) [some (.tup ds), none, none, none] S = .ok (.lst (ds.map fun d => .bl (pairB d 0 23 0 24))) S := by
      refine den_map (items := ds) (by simp [runDef, Pd.execs, s_set, s_par, s_ret, s_retN, s_expr, s_ite, s_setix, s_raise, s_pass, d_nm, d_k, d_op, d_neg, d_not, d_and, d_or, d_ite, d_tup, d_lst, d_slc, d_rev, d_chain, d_bi, d_call, d_push, d_pop0, d_lstC, denT, denL, denI, denC, denO, lstM, bind_ap, ok_bind, pure_ok, caM, opM, unM, lift, Op.g, Bi.g, Pd.finish, thaw, callM, truD, itemsOf]) (by omega) fun d hd => ⟨_, rfl, ?_⟩
      simp [runDef, Pd.execs, s_set, s_par, s_ret, s_retN, s_expr, s_ite, s_setix, s_raise, s_pass, d_nm, d_k, d_op, d_neg, d_not, d_and, d_or, d_ite, d_tup, d_lst, d_slc, d_rev, d_chain, d_bi, d_call, d_push, d_pop0, d_lstC, denT, denL, denI, denC, denO, lstM, bind_ap, ok_bind, pure_ok, caM, opM, unM, lift, Op.g, Bi.g, Pd.finish, thaw, callM, truD, wipeD, ev_is_pair (k := k) 0 23 0 24 (hv d hd)]
    cases ha : ds.all fun p => pairB p 0 23 0 24 with
    | false => simp [runDef, Pd.execs, s_set, s_par, s_ret, s_retN, s_expr, s_ite, s_setix, s_raise, s_pass, d_nm, d_k, d_op, d_neg, d_not, d_and, d_or, d_ite, d_tup, d_lst, d_slc, d_rev, d_chain, d_bi, d_call, d_push, d_pop0, d_lstC, denT, denL, denI, denC, denO, lstM, bind_ap, ok_bind, pure_ok, caM, opM, unM, lift, Op.g, Bi.g, Pd.finish, thaw, callM, truD, ir_is_tide, ev_is_row (k := k + 2) 2 6 h, hr, e1, all_map, ha, tideB]
    | true =>
      have hp := List.all_eq_true.mp ha
      have e2 : den (Cs tab WF (k + 3)) (.comp (.op .lt (.op .idx (.nm 2) (.k (.int 0))) (.op .idx (.nm 3) (.k (.int 0)))) (.tup [(.nm 2), (.nm 3)]) (.zip (.nm 0) (.slc (.nm 0) (some (.k (.int 1))) none)) none [2, 3]) [some (.tup ds), none, none, none] S = .ok (.lst ((zipOf ds ds.tail).map fun q => .bl (match q with | .tup [x, y] => lessB x y | _ => false))) S := by
        refine den_map (items := zipOf ds ds.tail) ?_ ?_ fun d hd => ?_
        · have es : sliceD (.tup ds) (some 1) none S = some (.tup (ds.drop 1)) := slice_from (j := 1) (by omega)
          simp [runDef, Pd.execs, s_set, s_par, s_ret, s_retN, s_expr, s_ite, s_setix, s_raise, s_pass, d_nm, d_k, d_op, d_neg, d_not, d_and, d_or, d_ite, d_tup, d_lst, d_slc, d_rev, d_chain, d_bi, d_call, d_push, d_pop0, d_lstC, denT, denL, denI, denC, denO, lstM, bind_ap, ok_bind, pure_ok, caM, opM, unM, lift, Op.g, Bi.g, Pd.finish, thaw, callM, truD, es]
        · rw [zipOf_len]; omega
        · obtain ⟨x, y, rfl, hx, hy⟩ := zip_mem hd
          obtain ⟨a, b, rfl, _⟩ := pairB_tup (hp x hx)
          obtain ⟨a', b', rfl, _⟩ := pairB_tup (hp y (List.mem_of_mem_tail hy))
          refine ⟨_, rfl, ?_⟩
          simp [runDef, Pd.execs, s_set, s_par, s_ret, s_retN, s_expr, s_ite, s_setix, s_raise, s_pass, d_nm, d_k, d_op, d_neg, d_not, d_and, d_or, d_ite, d_tup, d_lst, d_slc, d_rev, d_chain, d_bi, d_call, d_push, d_pop0, d_lstC, denT, denL, denI, denC, denO, lstM, bind_ap, ok_bind, pure_ok, caM, opM, unM, lift, Op.g, Bi.g, Pd.finish, thaw, callM, truD, wipeD, opIdx, seqA, ix0, opLt, opCmp, lessB]
      have e3 : biAll S [.lst ((zipOf ds ds.tail).map fun q => .bl (match q with | .tup [x, y] => lessB x y | _ => false))] = some (.bl ((ds.zip ds.tail).all fun q => lessB q.1 q.2)) := by
        rw [all_map, zipOf_zip, List.all_map]
        rfl
      have e4 : biAll S [.lst (ds.map fun d => .bl (pairB d 0 23 0 24))] = some (.bl true) := by rw [all_map, ha]
      obtain ⟨x, r, hx⟩ : ∃ x r, ds = x :: r := by cases ds with | nil => simp at g1 | cons x r => exact ⟨x, r, rfl⟩
      obtain ⟨a, b, rfl, _⟩ := pairB_tup (hp x (by rw [hx]; simp))
      have q0 : opIdx S (.tup ds) (.int 0) = some (.tup [.int a, .int b]) := by simp [opIdx, seqA, hx, ix0]
      have q2 : opIdx S (.tup [.int a, .int b]) (.int 0) = some (.int a) := by simp [opIdx, seqA, ix0]
      have q1 : opEq S (.int a) (.int 0) = some (.bl (decide (a = 0))) := by
        by_cases z : a = 0 <;> simp [opEq, opEqB, res, shp9, shp, deq, z]
      have ht : tideB (.tup ds) = (decide (a = 0) && (ds.zip ds.tail).all fun q => lessB q.1 q.2) := by
        unfold tideB
        simp only [ha, g1, g2, decide_true, Bool.true_and]
        rw [hx]
      rw [ht]
      cases hz : decide (a = 0) <;> simp [runDef, Pd.execs, s_set, s_par, s_ret, s_retN, s_expr, s_ite, s_setix, s_raise, s_pass, d_nm, d_k, d_op, d_neg, d_not, d_and, d_or, d_ite, d_tup, d_lst, d_slc, d_rev, d_chain, d_bi, d_call, d_push, d_pop0, d_lstC, denT, denL, denI, denC, denO, lstM, bind_ap, ok_bind, pure_ok, caM, opM, unM, lift, Op.g, Bi.g, Pd.finish, thaw, callM, truD, ir_is_tide, ev_is_row (k := k + 2) 2 6 h, hr, e1, e4, e2, e3, q0, q1, q2, hz]
end Lw

end
section
set_option Elab.async false
set_option linter.all false
set_option maxRecDepth 100000
set_option maxHeartbeats 4000000
namespace Lw
open Pd
variable {k n l : Nat} {S : Store} {v : D}
def lenD : D → Int
  | .tup ds => ds.length
  | _ => 0
def allD (p : D → Bool) : D → Bool
  | .tup ds => ds.all p
  | _ => false
def harbB (d : D) : Bool := match d with
  | .tup [t, s, b] => tideB t && (rowB s 1 4 && (rowB b (lenD s - 1) (lenD s - 1) && (allD (fun x => wholeB x (-9) 9) s && allD (fun x => pairB x (-9) 9 1 12) b)))
  | _ => false
theorem len2 {ds : List D} (h : ds.length = 2) : ∃ x y, ds = [x, y] := two_of (by omega) (by omega)
theorem len3 {ds : List D} (h : ds.length = 3) : ∃ x y z, ds = [x, y, z] := three_of (by omega) (by omega)
theorem rowB_three {d : D} (h : rowB d 3 3 = false) : ∀ t s b, d ≠ .tup [t, s, b] := by
  rintro t s b rfl
  simp [rowB] at h
theorem id0 {x : D} {r : List D} : opIdx S (.tup (x :: r)) (.int 0) = some x := by simp [opIdx, seqA, ix0]
theorem id1 {x y : D} {r : List D} : opIdx S (.tup (x :: y :: r)) (.int 1) = some y := by simp [opIdx, seqA, ix1]
theorem id2 {x y z : D} {r : List D} : opIdx S (.tup (x :: y :: z :: r)) (.int 2) = some z := by simp [opIdx, seqA, ix2]
theorem il0 {x : D} {r : List D} : opIdx S (.lst (x :: r)) (.int 0) = some x := by simp [opIdx, seqA, seqL, ix0]
theorem len_tup {ds : List D} : biLen S [.tup ds] = some (.int ds.length) := rfl
theorem ev_is_harbour (hn : l ≤ 16777216) (h : vok n l v) : Cs tab WF (k + 5) 6 [v] S = .ok (.bl (harbB v)) S := by
  show runDef (Cs tab WF (k + 4)) WF 3 ir_is_harbour [v] S = _
  cases hr : rowB v 3 3 with
  | false =>
    have ht : harbB v = false := by
      unfold harbB
      split
      · exact absurd rfl (rowB_three hr _ _ _)
      · rfl
    simp [runDef, Pd.execs, s_set, s_par, s_ret, s_retN, s_expr, s_ite, s_setix, s_raise, s_pass, d_nm, d_k, d_op, d_neg, d_not, d_and, d_or, d_ite, d_tup, d_lst, d_slc, d_rev, d_chain, d_bi, d_call, d_push, d_pop0, d_lstC, denT, denL, denI, denC, denO, lstM, bind_ap, ok_bind, pure_ok, caM, opM, unM, lift, Op.g, Bi.g, Pd.finish, thaw, callM, truD, ir_is_harbour, ev_is_row (k := k + 3) 3 3 h, hr, ht]
  | true =>
    obtain ⟨ds, rfl, h1, h2⟩ := rowB_tup hr
    obtain ⟨t, s, b, rfl⟩ := three_of h1 h2
    obtain ⟨m, rfl, hlen, hv⟩ := vok_tup h
    have ht : vok m l t := hv t (by simp)
    have hs : vok m l s := hv s (by simp)
    have hb : vok m l b := hv b (by simp)
    cases e1 : tideB t with
    | false => simp [runDef, Pd.execs, s_set, s_par, s_ret, s_retN, s_expr, s_ite, s_setix, s_raise, s_pass, d_nm, d_k, d_op, d_neg, d_not, d_and, d_or, d_ite, d_tup, d_lst, d_slc, d_rev, d_chain, d_bi, d_call, d_push, d_pop0, d_lstC, denT, denL, denI, denC, denO, lstM, bind_ap, ok_bind, pure_ok, caM, opM, unM, lift, Op.g, Bi.g, Pd.finish, thaw, callM, truD, ir_is_harbour, ev_is_row (k := k + 3) 3 3 h, hr, id0, id1, id2, ev_is_tide (k := k) ht, e1, harbB]
    | true =>
      cases e2 : rowB s 1 4 with
      | false => simp [runDef, Pd.execs, s_set, s_par, s_ret, s_retN, s_expr, s_ite, s_setix, s_raise, s_pass, d_nm, d_k, d_op, d_neg, d_not, d_and, d_or, d_ite, d_tup, d_lst, d_slc, d_rev, d_chain, d_bi, d_call, d_push, d_pop0, d_lstC, denT, denL, denI, denC, denO, lstM, bind_ap, ok_bind, pure_ok, caM, opM, unM, lift, Op.g, Bi.g, Pd.finish, thaw, callM, truD, ir_is_harbour, ev_is_row (k := k + 3) 3 3 h, hr, id0, id1, id2, ev_is_tide (k := k) ht, e1, ev_is_row (k := k + 3) 1 4 hs, e2, harbB]
      | true =>
        obtain ⟨ss, rfl, _, _⟩ := rowB_tup e2
        obtain ⟨m1, rfl, hl1, hvs⟩ := vok_tup hs
        cases e3 : rowB b (lenD (.tup ss) - 1) (lenD (.tup ss) - 1) with
        | false =>
          have e3' : rowB b ((ss.length : Int) - 1) ((ss.length : Int) - 1) = false := e3
          simp [runDef, Pd.execs, s_set, s_par, s_ret, s_retN, s_expr, s_ite, s_setix, s_raise, s_pass, d_nm, d_k, d_op, d_neg, d_not, d_and, d_or, d_ite, d_tup, d_lst, d_slc, d_rev, d_chain, d_bi, d_call, d_push, d_pop0, d_lstC, denT, denL, denI, denC, denO, lstM, bind_ap, ok_bind, pure_ok, caM, opM, unM, lift, Op.g, Bi.g, Pd.finish, thaw, callM, truD, ir_is_harbour, ev_is_row (k := k + 3) 3 3 h, hr, id0, id1, id2, ev_is_tide (k := k) ht, e1, ev_is_row (k := k + 3) 1 4 hs, e2, len_tup, opSub, ev_is_row (k := k + 3) ((ss.length : Int) - 1) ((ss.length : Int) - 1) hb, e3', harbB, e3]
        | true =>
          have e3' : rowB b ((ss.length : Int) - 1) ((ss.length : Int) - 1) = true := e3
          obtain ⟨bs, rfl, _, _⟩ := rowB_tup e3
          have hvb := vok_tup hb
          obtain ⟨m2, hm2, hl2, hvb⟩ := hvb
          have f1 : den (Cs tab WF (k + 4)) (.comp (.call false 2 [(.nm 2), (.neg (.k (.int 9))), (.k (.int 9))]) (.nm 2) (.seq (.op .idx (.nm 0) (.k (.int 1)))) none [2]) [some (.tup [t, .tup ss, .tup bs]), none, none] S = .ok (.lst (ss.map fun d => .bl (wholeB d (-9) 9))) S := by
            refine den_map (items := ss) (by simp [runDef, Pd.execs, s_set, s_par, s_ret, s_retN, s_expr, s_ite, s_setix, s_raise, s_pass, d_nm, d_k, d_op, d_neg, d_not, d_and, d_or, d_ite, d_tup, d_lst, d_slc, d_rev, d_chain, d_bi, d_call, d_push, d_pop0, d_lstC, denT, denL, denI, denC, denO, lstM, bind_ap, ok_bind, pure_ok, caM, opM, unM, lift, Op.g, Bi.g, Pd.finish, thaw, callM, truD, itemsOf, id1]) (by omega) fun d hd => ⟨_, rfl, ?_⟩
            simp [runDef, Pd.execs, s_set, s_par, s_ret, s_retN, s_expr, s_ite, s_setix, s_raise, s_pass, d_nm, d_k, d_op, d_neg, d_not, d_and, d_or, d_ite, d_tup, d_lst, d_slc, d_rev, d_chain, d_bi, d_call, d_push, d_pop0, d_lstC, denT, denL, denI, denC, denO, lstM, bind_ap, ok_bind, pure_ok, caM, opM, unM, lift, Op.g, Bi.g, Pd.finish, thaw, callM, truD, wipeD, unNeg, ev_is_whole (k := k + 2) (-9) 9 (hvs d hd)]
          have f2 : den (Cs tab WF (k + 4)) (.comp (.call false 4 [(.nm 1), (.neg (.k (.int 9))), (.k (.int 9)), (.k (.int 1)), (.k (.int 12))]) (.nm 1) (.seq (.op .idx (.nm 0) (.k (.int 2)))) none [1]) [some (.tup [t, .tup ss, .tup bs]), none, none] S = .ok (.lst (bs.map fun d => .bl (pairB d (-9) 9 1 12))) S := by
            refine den_map (items := bs) (by simp [runDef, Pd.execs, s_set, s_par, s_ret, s_retN, s_expr, s_ite, s_setix, s_raise, s_pass, d_nm, d_k, d_op, d_neg, d_not, d_and, d_or, d_ite, d_tup, d_lst, d_slc, d_rev, d_chain, d_bi, d_call, d_push, d_pop0, d_lstC, denT, denL, denI, denC, denO, lstM, bind_ap, ok_bind, pure_ok, caM, opM, unM, lift, Op.g, Bi.g, Pd.finish, thaw, callM, truD, itemsOf, id2]) (by omega) fun d hd => ⟨_, rfl, ?_⟩
            simp [runDef, Pd.execs, s_set, s_par, s_ret, s_retN, s_expr, s_ite, s_setix, s_raise, s_pass, d_nm, d_k, d_op, d_neg, d_not, d_and, d_or, d_ite, d_tup, d_lst, d_slc, d_rev, d_chain, d_bi, d_call, d_push, d_pop0, d_lstC, denT, denL, denI, denC, denO, lstM, bind_ap, ok_bind, pure_ok, caM, opM, unM, lift, Op.g, Bi.g, Pd.finish, thaw, callM, truD, wipeD, unNeg, ev_is_pair (k := k + 1) (-9) 9 1 12 (hvb d hd)]
          have g1 : biAll S [.lst (ss.map fun d => .bl (wholeB d (-9) 9))] = some (.bl (ss.all fun x => wholeB x (-9) 9)) := all_map _ _
          have g2 : biAll S [.lst (bs.map fun d => .bl (pairB d (-9) 9 1 12))] = some (.bl (bs.all fun x => pairB x (-9) 9 1 12)) := all_map _ _
          cases e4 : ss.all fun x => wholeB x (-9) 9 <;> simp [runDef, Pd.execs, s_set, s_par, s_ret, s_retN, s_expr, s_ite, s_setix, s_raise, s_pass, d_nm, d_k, d_op, d_neg, d_not, d_and, d_or, d_ite, d_tup, d_lst, d_slc, d_rev, d_chain, d_bi, d_call, d_push, d_pop0, d_lstC, denT, denL, denI, denC, denO, lstM, bind_ap, ok_bind, pure_ok, caM, opM, unM, lift, Op.g, Bi.g, Pd.finish, thaw, callM, truD, ir_is_harbour, ev_is_row (k := k + 3) 3 3 h, hr, id0, id1, id2, ev_is_tide (k := k) ht, e1, ev_is_row (k := k + 3) 1 4 hs, e2, len_tup, opSub, ev_is_row (k := k + 3) ((ss.length : Int) - 1) ((ss.length : Int) - 1) hb, e3', harbB, e3, f1, f2, g1, g2, e4, allD]
/-! ### the law's own deciders -/
theorem ev_lwhole (lo hi : Int) (h : vok n l v) : Cs tab WF (k + 1) 27 [v, .int lo, .int hi] S = .ok (.bl (wholeB v lo hi)) S := by
  show runDef (Cs tab WF k) WF 3 ir__law_whole [v, .int lo, .int hi] S = _
  rcases vok_ty h with rfl | ⟨b, rfl⟩ | ⟨i, rfl⟩ | ⟨x, rfl, _, _⟩ | ⟨ds, rfl⟩ | ⟨ds, rfl⟩
  case inr.inr.inl => by_cases h1 : lo ≤ i <;> simp [runDef, Pd.execs, s_set, s_par, s_ret, s_retN, s_expr, s_ite, s_setix, s_raise, s_pass, d_nm, d_k, d_op, d_neg, d_not, d_and, d_or, d_ite, d_tup, d_lst, d_slc, d_rev, d_chain, d_bi, d_call, d_push, d_pop0, d_lstC, denT, denL, denI, denC, denO, lstM, bind_ap, ok_bind, pure_ok, caM, opM, unM, lift, Op.g, Bi.g, Pd.finish, thaw, callM, truD, ir__law_whole, isiD, tyN, kb_NoneType_int, kb_NoneType_bool, kb_NoneType_str, kb_NoneType_tuple, kb_NoneType_list, kb_bool_int, kb_bool_bool, kb_bool_str, kb_bool_tuple, kb_bool_list, kb_int_int, kb_int_bool, kb_int_str, kb_int_tuple, kb_int_list, kb_str_int, kb_str_bool, kb_str_str, kb_str_tuple, kb_str_list, kb_tuple_int, kb_tuple_bool, kb_tuple_str, kb_tuple_tuple, kb_tuple_list, kb_list_int, kb_list_bool, kb_list_str, kb_list_tuple, kb_list_list, wholeB, opLe, opCmp, h1]
  all_goals simp [runDef, Pd.execs, s_set, s_par, s_ret, s_retN, s_expr, s_ite, s_setix, s_raise, s_pass, d_nm, d_k, d_op, d_neg, d_not, d_and, d_or, d_ite, d_tup, d_lst, d_slc, d_rev, d_chain, d_bi, d_call, d_push, d_pop0, d_lstC, denT, denL, denI, denC, denO, lstM, bind_ap, ok_bind, pure_ok, caM, opM, unM, lift, Op.g, Bi.g, Pd.finish, thaw, callM, truD, ir__law_whole, isiD, tyN, kb_NoneType_int, kb_NoneType_bool, kb_NoneType_str, kb_NoneType_tuple, kb_NoneType_list, kb_bool_int, kb_bool_bool, kb_bool_str, kb_bool_tuple, kb_bool_list, kb_int_int, kb_int_bool, kb_int_str, kb_int_tuple, kb_int_list, kb_str_int, kb_str_bool, kb_str_str, kb_str_tuple, kb_str_list, kb_tuple_int, kb_tuple_bool, kb_tuple_str, kb_tuple_tuple, kb_tuple_list, kb_list_int, kb_list_bool, kb_list_str, kb_list_tuple, kb_list_list, wholeB, opLe, opCmp]
theorem ev_lpair (a b c e : Int) (h : vok n l v) : Cs tab WF (k + 2) 29 [v, .int a, .int b, .int c, .int e] S = .ok (.bl (pairB v a b c e)) S := by
  show runDef (Cs tab WF (k + 1)) WF 5 ir__law_pair [v, .int a, .int b, .int c, .int e] S = _
  rcases vok_ty h with rfl | ⟨b, rfl⟩ | ⟨i, rfl⟩ | ⟨x, rfl, _, _⟩ | ⟨ds, rfl⟩ | ⟨ds, rfl⟩
  case inr.inr.inr.inr.inl =>
    by_cases h2 : ds.length = 2
    · obtain ⟨x, y, rfl⟩ := len2 h2
      obtain ⟨m, rfl, _, hv⟩ := vok_tup h
      have hx : vok m l x := hv x (by simp)
      have hy : vok m l y := hv y (by simp)
      cases hw : wholeB x a b <;> simp [runDef, Pd.execs, s_set, s_par, s_ret, s_retN, s_expr, s_ite, s_setix, s_raise, s_pass, d_nm, d_k, d_op, d_neg, d_not, d_and, d_or, d_ite, d_tup, d_lst, d_slc, d_rev, d_chain, d_bi, d_call, d_push, d_pop0, d_lstC, denT, denL, denI, denC, denO, lstM, bind_ap, ok_bind, pure_ok, caM, opM, unM, lift, Op.g, Bi.g, Pd.finish, thaw, callM, truD, ir__law_pair, isiD, tyN, kb_NoneType_int, kb_NoneType_bool, kb_NoneType_str, kb_NoneType_tuple, kb_NoneType_list, kb_bool_int, kb_bool_bool, kb_bool_str, kb_bool_tuple, kb_bool_list, kb_int_int, kb_int_bool, kb_int_str, kb_int_tuple, kb_int_list, kb_str_int, kb_str_bool, kb_str_str, kb_str_tuple, kb_str_list, kb_tuple_int, kb_tuple_bool, kb_tuple_str, kb_tuple_tuple, kb_tuple_list, kb_list_int, kb_list_bool, kb_list_str, kb_list_tuple, kb_list_list, len_tup, opNe, opEqB, res, shp9, shp, deq, pairB, id0, id1, ev_lwhole (k := k) a b hx, ev_lwhole (k := k) c e hy, hw]
    · have hp : pairB (.tup ds) a b c e = false := by
        unfold pairB
        split
        · rename_i q; cases q; simp at h2
        · rfl
      have e2 : ((ds.length : Int) == 2) = false := by
        rw [beq_eq_false_iff_ne]; exact fun q => h2 (by exact_mod_cast q)
      simp [runDef, Pd.execs, s_set, s_par, s_ret, s_retN, s_expr, s_ite, s_setix, s_raise, s_pass, d_nm, d_k, d_op, d_neg, d_not, d_and, d_or, d_ite, d_tup, d_lst, d_slc, d_rev, d_chain, d_bi, d_call, d_push, d_pop0, d_lstC, denT, denL, denI, denC, denO, lstM, bind_ap, ok_bind, pure_ok, caM, opM, unM, lift, Op.g, Bi.g, Pd.finish, thaw, callM, truD, ir__law_pair, isiD, tyN, kb_NoneType_int, kb_NoneType_bool, kb_NoneType_str, kb_NoneType_tuple, kb_NoneType_list, kb_bool_int, kb_bool_bool, kb_bool_str, kb_bool_tuple, kb_bool_list, kb_int_int, kb_int_bool, kb_int_str, kb_int_tuple, kb_int_list, kb_str_int, kb_str_bool, kb_str_str, kb_str_tuple, kb_str_list, kb_tuple_int, kb_tuple_bool, kb_tuple_str, kb_tuple_tuple, kb_tuple_list, kb_list_int, kb_list_bool, kb_list_str, kb_list_tuple, kb_list_list, len_tup, opNe, opEqB, res, shp9, shp, deq, hp, e2]
  all_goals simp [runDef, Pd.execs, s_set, s_par, s_ret, s_retN, s_expr, s_ite, s_setix, s_raise, s_pass, d_nm, d_k, d_op, d_neg, d_not, d_and, d_or, d_ite, d_tup, d_lst, d_slc, d_rev, d_chain, d_bi, d_call, d_push, d_pop0, d_lstC, denT, denL, denI, denC, denO, lstM, bind_ap, ok_bind, pure_ok, caM, opM, unM, lift, Op.g, Bi.g, Pd.finish, thaw, callM, truD, ir__law_pair, isiD, tyN, kb_NoneType_int, kb_NoneType_bool, kb_NoneType_str, kb_NoneType_tuple, kb_NoneType_list, kb_bool_int, kb_bool_bool, kb_bool_str, kb_bool_tuple, kb_bool_list, kb_int_int, kb_int_bool, kb_int_str, kb_int_tuple, kb_int_list, kb_str_int, kb_str_bool, kb_str_str, kb_str_tuple, kb_str_list, kb_tuple_int, kb_tuple_bool, kb_tuple_str, kb_tuple_tuple, kb_tuple_list, kb_list_int, kb_list_bool, kb_list_str, kb_list_tuple, kb_list_list, pairB]
/-- a walk that ends at the first bad one -/
theorem for_all {f : D → Env' → M Fl} {p : D → Bool} {w : D → Env' → Env'} (b : D) : ∀ (ds : List D) (ρ : Env'), (∀ d ∈ ds, ∀ ρ, f d ρ S = .ok (if p d then .nx (w d ρ) else .ret b) S) → forM' f ds ρ S = .ok (if ds.all p then .nx (ds.foldl (fun ρ d => w d ρ) ρ) else .ret b) S
  | [], ρ, _ => by rw [forM']; rfl
  | d :: ds, ρ, h => by
    rw [forM', bind_ap, h d List.mem_cons_self]
    cases hp : p d with
    | true =>
      simp only [if_true, ok_bind]
      rw [for_all b ds _ fun d hd => h d (List.mem_cons_of_mem _ hd)]
      simp [hp]
    | false => simp [ok_bind, pure_ok, hp]
end Lw

end
section
set_option Elab.async false
set_option linter.all false
set_option maxRecDepth 100000
set_option maxHeartbeats 4000000
namespace Lw
open Pd
variable {k n l : Nat} {S : Store} {v : D}
theorem for_inv {f : D → Env' → M Fl} {p : D → Bool} (I : Env' → Prop) (b : D) : ∀ (ds : List D) (ρ : Env'), I ρ → (∀ d ∈ ds, ∀ ρ, I ρ → ∃ ρ', I ρ' ∧ f d ρ S = .ok (if p d then .nx ρ' else .ret b) S) → ∃ ρ', I ρ' ∧ forM' f ds ρ S = .ok (if ds.all p then .nx ρ' else .ret b) S
  | [], ρ, hI, _ => ⟨ρ, hI, by rw [forM']; rfl⟩
  | d :: ds, ρ, hI, h => by
    obtain ⟨ρ1, h1, e1⟩ := h d List.mem_cons_self ρ hI
    obtain ⟨ρ2, h2, e2⟩ := for_inv I b ds ρ1 h1 fun d hd => h d (List.mem_cons_of_mem _ hd)
    cases hp : p d with
    | true => exact ⟨ρ2, h2, by rw [forM', bind_ap, e1, hp]; simp [ok_bind, e2, hp]⟩
    | false => exact ⟨ρ1, h1, by rw [forM', bind_ap, e1, hp]; simp [ok_bind, pure_ok, hp]⟩
theorem for_ex {C : Nat → List D → M D} {w : Nat} {g : Pd.G} {it : It} {b : List Pd.S} {p : D → Bool} (I : Env' → Prop) (r : D) {items : List D} {ρ : Env'} (hi : denI C it ρ S = .ok items S) (h0 : I ρ)
    (h : ∀ d ∈ items, ∀ ρ, I ρ → ∃ ρ1, bindG g d ρ = some ρ1 ∧ ∃ ρ', I ρ' ∧ Pd.execs C w b ρ1 S = .ok (if p d then .nx ρ' else .ret r) S) : ∃ ρ', I ρ' ∧ Pd.exec C w (.for_ g it b) ρ S = .ok (if items.all p then .nx ρ' else .ret r) S := by
  rw [Pd.exec, bind_ap, hi, ok_bind]
  refine for_inv I r items ρ h0 fun d hd ρ hI => ?_
  obtain ⟨ρ1, h1, ρ', h2, h3⟩ := h d hd ρ hI
  exact ⟨ρ', h2, by simp only [h1]; exact h3⟩
/-! ### rising ints -/
theorem adj_rise : ∀ ns : List Int, ((ns.zip ns.tail).all fun q => decide (q.1 < q.2)) = true → ns.Pairwise (· < ·)
  | [], _ => List.Pairwise.nil
  | [x], _ => by simp
  | x :: y :: r, h => by
    have h' : (decide (x < y) && (((y :: r).zip r).all fun q => decide (q.1 < q.2))) = true := h
    obtain ⟨h1, h2⟩ := Bool.and_eq_true_iff.mp h'
    have h1 := of_decide_eq_true h1
    have ih := adj_rise (y :: r) h2
    rw [List.pairwise_cons]
    refine ⟨fun z hz => ?_, ih⟩
    rcases List.mem_cons.mp hz with e | e
    · rw [e]; exact h1
    · have := (List.pairwise_cons.mp ih).1 z e
      omega
theorem rise_adj : ∀ ns : List Int, ns.Pairwise (· < ·) → ((ns.zip ns.tail).all fun q => decide (q.1 < q.2)) = true
  | [], _ => rfl
  | [x], _ => rfl
  | x :: y :: r, h => by
    rw [List.pairwise_cons] at h
    have e : decide (x < y) = true := decide_eq_true (h.1 y (by simp))
    show (decide (x < y) && (((y :: r).zip r).all fun q => decide (q.1 < q.2))) = true
    rw [e]
    exact rise_adj (y :: r) h.2
theorem adj_srt (ns : List Int) : ((ns.zip ns.tail).all fun q => decide (q.1 < q.2)) = decide (ns = srt ns) := by
  by_cases h : ns = srt ns
  · rw [decide_eq_true h]
    exact rise_adj ns (by rw [h]; exact srt_rise ns)
  · rw [decide_eq_false h]
    refine Bool.eq_false_iff.mpr fun q => h ?_
    exact rise_eq _ _ (adj_rise ns q) (srt_rise ns) fun k => (srt_mem ns k).symm
theorem deqs_ints : ∀ as bs : List Int, deqs (as.map D.int) (bs.map D.int) = decide (as = bs)
  | [], [] => rfl
  | [], _ :: _ => rfl
  | _ :: _, [] => rfl
  | a :: as, b :: bs => by
    show (deq (.int a) (.int b) && deqs (as.map D.int) (bs.map D.int)) = _
    rw [deqs_ints as bs]
    by_cases h1 : a = b
    · by_cases h2 : as = bs
      · simp [deq, h1, h2]
      · simp [deq, h1, h2]
    · simp [deq, h1]
theorem shp_ints (ns : List Int) : shp9 (.lst (ns.map D.int)) = true := by
  show (ns.map D.int).all (shp 39) = true
  rw [List.all_map]
  exact List.all_eq_true.mpr fun _ _ => rfl
theorem eq_ints (as bs : List Int) : opEq S (.lst (as.map D.int)) (.lst (bs.map D.int)) = some (.bl (decide (as = bs))) := by
  have e : deq (.lst (as.map D.int)) (.lst (bs.map D.int)) = deqs (as.map D.int) (bs.map D.int) := by rw [deq]
  simp [opEq, opEqB, res, shp_ints, e, deqs_ints]
theorem eq_int0 (a : Int) : opEq S (.int a) (.int 0) = some (.bl (decide (a = 0))) := by
  by_cases z : a = 0 <;> simp [opEq, opEqB, res, shp9, shp, deq, z]
theorem sset_ints (ns : List Int) (h : ns.length < 60) : biSset S [.lst (ns.map D.int)] = some (.lst ((srt ns).map D.int)) := by
  have e : intsD (ns.map D.int) = some ns := by
    clear h
    induction ns with
    | nil => rfl
    | cons x xs ih => rw [List.map_cons, intsD, ih]; rfl
  simp [biSset, seqL, e, h]
def firstI : D → Int
  | .tup (.int a :: _) => a
  | _ => 0
theorem ev_good_tide (hn : l ≤ 16777216) (h : vok n l v) : Cs tab WF (k + 3) 30 [v] S = .ok (.bl (tideB v)) S := by
  show runDef (Cs tab WF (k + 2)) WF 3 ir__law_good_tide [v] S = _
  rcases vok_ty h with rfl | ⟨b, rfl⟩ | ⟨i, rfl⟩ | ⟨x, rfl, _, _⟩ | ⟨ds, rfl⟩ | ⟨ds, rfl⟩
  case inr.inr.inr.inr.inl =>
    obtain ⟨m, rfl, hlen, hv⟩ := vok_tup h
    by_cases g1 : 2 ≤ ds.length
    · by_cases g2 : ds.length ≤ 6
      · have i1 : ((2 : Int) ≤ ds.length) := by omega
        have i2 : ((ds.length : Int) ≤ 6) := by omega
        obtain ⟨ρ', ⟨x, rfl⟩, e1⟩ := for_ex (S := S) (C := Cs tab WF (k + 2)) (w := WF) (g := .nm 1) (it := .seq (.nm 0)) (b := [.ite (.not (.call false 29 [(.nm 1), (.k (.int 0)), (.k (.int 23)), (.k (.int 0)), (.k (.int 24))])) [.ret (.k (.bl false))] []]) (p := fun d => pairB d 0 23 0 24) (fun ρ => ∃ x, ρ = [some (.tup ds), x, none]) (.bl false) (items := ds) (ρ := [some (.tup ds), none, none]) (by simp [runDef, Pd.execs, s_set, s_par, s_ret, s_retN, s_expr, s_ite, s_setix, s_raise, s_pass, d_nm, d_k, d_op, d_neg, d_not, d_and, d_or, d_ite, d_tup, d_lst, d_slc, d_rev, d_chain, d_bi, d_call, d_push, d_pop0, d_lstC, denT, denL, denI, denC, denO, lstM, bind_ap, ok_bind, pure_ok, caM, opM, unM, lift, Op.g, Bi.g, Pd.finish, thaw, callM, truD, itemsOf]) ⟨_, rfl⟩ (fun d hd ρ ⟨x, hx⟩ => by
            subst hx
            refine ⟨_, rfl, [some (.tup ds), some d, none], ⟨_, rfl⟩, ?_⟩
            cases hp : pairB d 0 23 0 24 <;> simp [runDef, Pd.execs, s_set, s_par, s_ret, s_retN, s_expr, s_ite, s_setix, s_raise, s_pass, d_nm, d_k, d_op, d_neg, d_not, d_and, d_or, d_ite, d_tup, d_lst, d_slc, d_rev, d_chain, d_bi, d_call, d_push, d_pop0, d_lstC, denT, denL, denI, denC, denO, lstM, bind_ap, ok_bind, pure_ok, caM, opM, unM, lift, Op.g, Bi.g, Pd.finish, thaw, callM, truD, ev_lpair (k := k) 0 23 0 24 (hv d hd), hp])
        cases ha : ds.all fun p => pairB p 0 23 0 24 with
        | false =>
          have ht : tideB (.tup ds) = false := by simp [tideB, ha]
          rw [ha] at e1
          simp [runDef, Pd.execs, s_set, s_par, s_ret, s_retN, s_expr, s_ite, s_setix, s_raise, s_pass, d_nm, d_k, d_op, d_neg, d_not, d_and, d_or, d_ite, d_tup, d_lst, d_slc, d_rev, d_chain, d_bi, d_call, d_push, d_pop0, d_lstC, denT, denL, denI, denC, denO, lstM, bind_ap, ok_bind, pure_ok, caM, opM, unM, lift, Op.g, Bi.g, Pd.finish, thaw, callM, truD, ir__law_good_tide, isiD, tyN, kb_NoneType_int, kb_NoneType_bool, kb_NoneType_str, kb_NoneType_tuple, kb_NoneType_list, kb_bool_int, kb_bool_bool, kb_bool_str, kb_bool_tuple, kb_bool_list, kb_int_int, kb_int_bool, kb_int_str, kb_int_tuple, kb_int_list, kb_str_int, kb_str_bool, kb_str_str, kb_str_tuple, kb_str_list, kb_tuple_int, kb_tuple_bool, kb_tuple_str, kb_tuple_tuple, kb_tuple_list, kb_list_int, kb_list_bool, kb_list_str, kb_list_tuple, kb_list_list, len_tup, opLe, opCmp, i1, i2, itemsOf, e1, ht]
        | true =>
          rw [ha] at e1
          have hp := List.all_eq_true.mp ha
          have e2 : den (Cs tab WF (k + 2)) (.comp (.op .idx (.nm 1) (.k (.int 0))) (.nm 1) (.seq (.nm 0)) none [1]) [some (.tup ds), x, none] S = .ok (.lst ((ds.map firstI).map D.int)) S := by
            have q := den_map (C := Cs tab WF (k + 2)) (S := S) (elt := .op .idx (.nm 1) (.k (.int 0))) (tg := .nm 1) (it := .seq (.nm 0)) (own := [1]) (ρ := [some (.tup ds), x, none]) (items := ds) (g := fun d => .int (firstI d)) (by simp [runDef, Pd.execs, s_set, s_par, s_ret, s_retN, s_expr, s_ite, s_setix, s_raise, s_pass, d_nm, d_k, d_op, d_neg, d_not, d_and, d_or, d_ite, d_tup, d_lst, d_slc, d_rev, d_chain, d_bi, d_call, d_push, d_pop0, d_lstC, denT, denL, denI, denC, denO, lstM, bind_ap, ok_bind, pure_ok, caM, opM, unM, lift, Op.g, Bi.g, Pd.finish, thaw, callM, truD, itemsOf]) (by omega) (fun d hd => by
              obtain ⟨a, b, rfl, _⟩ := pairB_tup (hp d hd)
              refine ⟨_, rfl, ?_⟩
              simp [runDef, Pd.execs, s_set, s_par, s_ret, s_retN, s_expr, s_ite, s_setix, s_raise, s_pass, d_nm, d_k, d_op, d_neg, d_not, d_and, d_or, d_ite, d_tup, d_lst, d_slc, d_rev, d_chain, d_bi, d_call, d_push, d_pop0, d_lstC, denT, denL, denI, denC, denO, lstM, bind_ap, ok_bind, pure_ok, caM, opM, unM, lift, Op.g, Bi.g, Pd.finish, thaw, callM, truD, wipeD, id0, firstI])
            rw [q, List.map_map]
            rfl
          have e3 : biSset S [.lst ((ds.map firstI).map D.int)] = some (.lst ((srt (ds.map firstI)).map D.int)) := sset_ints _ (by rw [List.length_map]; omega)
          obtain ⟨y, r, hy⟩ : ∃ y r, ds = y :: r := by cases ds with | nil => simp at g1 | cons x r => exact ⟨x, r, rfl⟩
          obtain ⟨a, b, rfl, _⟩ := pairB_tup (hp y (by rw [hy]; simp))
          have q0 : opIdx S (.lst ((ds.map firstI).map D.int)) (.int 0) = some (.int a) := by rw [hy]; exact il0
          have e5 : ((ds.zip ds.tail).all fun q => lessB q.1 q.2) = decide (ds.map firstI = srt (ds.map firstI)) := by
            rw [← adj_srt, ← List.map_tail, List.zip_map, List.all_map]
            have cg : ∀ q ∈ ds.zip ds.tail, lessB q.1 q.2 = decide (firstI q.1 < firstI q.2) := fun q hq => by
              obtain ⟨a1, b1, e1, _⟩ := pairB_tup (hp q.1 (List.of_mem_zip hq).1)
              obtain ⟨a2, b2, e2, _⟩ := pairB_tup (hp q.2 (List.mem_of_mem_tail (List.of_mem_zip hq).2))
              rw [e1, e2]
              rfl
            clear e1 e2 e3 hy q0
            generalize ds.zip ds.tail = zs at cg
            induction zs with
            | nil => rfl
            | cons z zs ih =>
              rw [List.all_cons, List.all_cons, cg z List.mem_cons_self, ih fun q hq => cg q (List.mem_cons_of_mem _ hq)]
              rfl
          have ht : tideB (.tup ds) = (decide (a = 0) && (ds.zip ds.tail).all fun q => lessB q.1 q.2) := by
            unfold tideB
            simp only [ha, g1, g2, decide_true, Bool.true_and]
            rw [hy]
          rw [ht, e5]
          clear e5
          obtain ⟨ns, hns⟩ : ∃ ns, ds.map firstI = ns := ⟨_, rfl⟩
          rw [hns] at e2 e3 q0 ⊢
          cases hz : decide (a = 0) <;> simp [runDef, Pd.execs, s_set, s_par, s_ret, s_retN, s_expr, s_ite, s_setix, s_raise, s_pass, d_nm, d_k, d_op, d_neg, d_not, d_and, d_or, d_ite, d_tup, d_lst, d_slc, d_rev, d_chain, d_bi, d_call, d_push, d_pop0, d_lstC, denT, denL, denI, denC, denO, lstM, bind_ap, ok_bind, pure_ok, caM, opM, unM, lift, Op.g, Bi.g, Pd.finish, thaw, callM, truD, ir__law_good_tide, isiD, tyN, kb_NoneType_int, kb_NoneType_bool, kb_NoneType_str, kb_NoneType_tuple, kb_NoneType_list, kb_bool_int, kb_bool_bool, kb_bool_str, kb_bool_tuple, kb_bool_list, kb_int_int, kb_int_bool, kb_int_str, kb_int_tuple, kb_int_list, kb_str_int, kb_str_bool, kb_str_str, kb_str_tuple, kb_str_list, kb_tuple_int, kb_tuple_bool, kb_tuple_str, kb_tuple_tuple, kb_tuple_list, kb_list_int, kb_list_bool, kb_list_str, kb_list_tuple, kb_list_list, len_tup, opLe, opCmp, i1, i2, itemsOf, e1, e2, e3, q0, eq_int0, eq_ints, bindG, hz]
      · have i1 : ((2 : Int) ≤ ds.length) := by omega
        have i2 : ¬ ((ds.length : Int) ≤ 6) := by omega
        simp [runDef, Pd.execs, s_set, s_par, s_ret, s_retN, s_expr, s_ite, s_setix, s_raise, s_pass, d_nm, d_k, d_op, d_neg, d_not, d_and, d_or, d_ite, d_tup, d_lst, d_slc, d_rev, d_chain, d_bi, d_call, d_push, d_pop0, d_lstC, denT, denL, denI, denC, denO, lstM, bind_ap, ok_bind, pure_ok, caM, opM, unM, lift, Op.g, Bi.g, Pd.finish, thaw, callM, truD, ir__law_good_tide, isiD, tyN, kb_NoneType_int, kb_NoneType_bool, kb_NoneType_str, kb_NoneType_tuple, kb_NoneType_list, kb_bool_int, kb_bool_bool, kb_bool_str, kb_bool_tuple, kb_bool_list, kb_int_int, kb_int_bool, kb_int_str, kb_int_tuple, kb_int_list, kb_str_int, kb_str_bool, kb_str_str, kb_str_tuple, kb_str_list, kb_tuple_int, kb_tuple_bool, kb_tuple_str, kb_tuple_tuple, kb_tuple_list, kb_list_int, kb_list_bool, kb_list_str, kb_list_tuple, kb_list_list, len_tup, opLe, opCmp, i1, i2, tideB, g2]
    · have i1 : ¬ ((2 : Int) ≤ ds.length) := by omega
      simp [runDef, Pd.execs, s_set, s_par, s_ret, s_retN, s_expr, s_ite, s_setix, s_raise, s_pass, d_nm, d_k, d_op, d_neg, d_not, d_and, d_or, d_ite, d_tup, d_lst, d_slc, d_rev, d_chain, d_bi, d_call, d_push, d_pop0, d_lstC, denT, denL, denI, denC, denO, lstM, bind_ap, ok_bind, pure_ok, caM, opM, unM, lift, Op.g, Bi.g, Pd.finish, thaw, callM, truD, ir__law_good_tide, isiD, tyN, kb_NoneType_int, kb_NoneType_bool, kb_NoneType_str, kb_NoneType_tuple, kb_NoneType_list, kb_bool_int, kb_bool_bool, kb_bool_str, kb_bool_tuple, kb_bool_list, kb_int_int, kb_int_bool, kb_int_str, kb_int_tuple, kb_int_list, kb_str_int, kb_str_bool, kb_str_str, kb_str_tuple, kb_str_list, kb_tuple_int, kb_tuple_bool, kb_tuple_str, kb_tuple_tuple, kb_tuple_list, kb_list_int, kb_list_bool, kb_list_str, kb_list_tuple, kb_list_list, len_tup, opLe, opCmp, i1, tideB, g1]
  all_goals simp [runDef, Pd.execs, s_set, s_par, s_ret, s_retN, s_expr, s_ite, s_setix, s_raise, s_pass, d_nm, d_k, d_op, d_neg, d_not, d_and, d_or, d_ite, d_tup, d_lst, d_slc, d_rev, d_chain, d_bi, d_call, d_push, d_pop0, d_lstC, denT, denL, denI, denC, denO, lstM, bind_ap, ok_bind, pure_ok, caM, opM, unM, lift, Op.g, Bi.g, Pd.finish, thaw, callM, truD, ir__law_good_tide, isiD, tyN, kb_NoneType_int, kb_NoneType_bool, kb_NoneType_str, kb_NoneType_tuple, kb_NoneType_list, kb_bool_int, kb_bool_bool, kb_bool_str, kb_bool_tuple, kb_bool_list, kb_int_int, kb_int_bool, kb_int_str, kb_int_tuple, kb_int_list, kb_str_int, kb_str_bool, kb_str_str, kb_str_tuple, kb_str_list, kb_tuple_int, kb_tuple_bool, kb_tuple_str, kb_tuple_tuple, kb_tuple_list, kb_list_int, kb_list_bool, kb_list_str, kb_list_tuple, kb_list_list, tideB]
end Lw

end
section
set_option Elab.async false
set_option linter.all false
set_option maxRecDepth 100000
set_option maxHeartbeats 4000000
namespace Lw
open Pd
variable {k n l : Nat} {S : Store} {v : D}
theorem deqs_nil : ∀ xs : List D, deqs xs [] = xs.isEmpty
  | [] => rfl
  | _ :: _ => rfl
theorem shp_lst {xs : List D} (hn : n ≤ 39) (h : ∀ d ∈ xs, vok n l d) : shp9 (.lst xs) = true := by
  show xs.all (shp 39) = true
  exact List.all_eq_true.mpr fun d hd => shp_of hn (h d hd)
theorem shp_tup {xs : List D} (hn : n ≤ 39) (h : ∀ d ∈ xs, vok n l d) : shp9 (.tup xs) = true := by
  show xs.all (shp 39) = true
  exact List.all_eq_true.mpr fun d hd => shp_of hn (h d hd)
theorem ne_nil {xs : List D} (h : shp9 (.lst xs) = true) : opNe S (.lst xs) (.lst []) = some (.bl (!xs.isEmpty)) := by
  have e : deq (.lst xs) (.lst []) = xs.isEmpty := by rw [deq, deqs_nil]
  have e2 : shp9 (.lst []) = true := rfl
  simp [opNe, opEqB, res, h, e, e2]
theorem eq_nil {xs : List D} (h : shp9 (.lst xs) = true) : opEq S (.lst xs) (.lst []) = some (.bl xs.isEmpty) := by
  have e : deq (.lst xs) (.lst []) = xs.isEmpty := by rw [deq, deqs_nil]
  have e2 : shp9 (.lst []) = true := rfl
  simp [opEq, opEqB, res, h, e, e2]
theorem filt_all {α : Type} (p : α → Bool) : ∀ xs : List α, (xs.filter fun d => !p d).isEmpty = xs.all p
  | [] => rfl
  | x :: xs => by
    cases h : p x with
    | true => simp only [List.filter_cons, h, List.all_cons]; exact filt_all p xs
    | false => simp [List.filter_cons, h]
theorem ne_int (a b : Int) : opNe S (.int a) (.int b) = some (.bl (!decide (a = b))) := by
  by_cases z : a = b <;> simp [opNe, opEqB, res, shp9, shp, deq, z]
theorem eq_int (a b : Int) : opEq S (.int a) (.int b) = some (.bl (decide (a = b))) := by
  by_cases z : a = b <;> simp [opEq, opEqB, res, shp9, shp, deq, z]
theorem rowB_eq (d : D) (a : Int) : rowB d a a = (match d with | .tup ds => decide ((ds.length : Int) = a) | _ => false) := by
  cases d with
  | tup ds =>
    show (decide (a ≤ ds.length) && decide ((ds.length : Int) ≤ a)) = decide ((ds.length : Int) = a)
    by_cases h : (ds.length : Int) = a
    · simp [h]
    · rw [decide_eq_false h]
      by_cases h1 : a ≤ ds.length
      · have h2 : ¬ (ds.length : Int) ≤ a := by omega
        simp [h1, h2]
      · simp [h1]
  | _ => rfl
theorem not_tup (h : vok n l v) (ht : ∀ ds, v ≠ .tup ds) (lo hi : Int) : rowB v lo hi = false := by
  unfold rowB
  split
  · exact absurd rfl (ht _)
  · rfl
def isT : D → Bool
  | .tup _ => true
  | _ => false
theorem isi_tup (h : vok n l v) : isiD "tuple" S [v] = some (.bl (isT v)) := by
  rcases vok_ty h with rfl | ⟨b, rfl⟩ | ⟨i, rfl⟩ | ⟨x, rfl, _, _⟩ | ⟨ds, rfl⟩ | ⟨ds, rfl⟩ <;> simp [isiD, tyN, kb_NoneType_int, kb_NoneType_bool, kb_NoneType_str, kb_NoneType_tuple, kb_NoneType_list, kb_bool_int, kb_bool_bool, kb_bool_str, kb_bool_tuple, kb_bool_list, kb_int_int, kb_int_bool, kb_int_str, kb_int_tuple, kb_int_list, kb_str_int, kb_str_bool, kb_str_str, kb_str_tuple, kb_str_list, kb_tuple_int, kb_tuple_bool, kb_tuple_str, kb_tuple_tuple, kb_tuple_list, kb_list_int, kb_list_bool, kb_list_str, kb_list_tuple, kb_list_list, isT]
theorem isT_of {d : D} (h : isT d = true) : ∃ ds, d = .tup ds := by
  cases d <;> first | exact ⟨_, rfl⟩ | cases h
theorem harb_len {ds : List D} (h : ds.length ≠ 3) : harbB (.tup ds) = false := by
  unfold harbB
  split
  · rename_i q; cases q; simp at h
  · rfl
theorem ev_good_harbour (hn : l ≤ 16777216) (hd : n ≤ 38) (h : vok n l v) : Cs tab WF (k + 4) 31 [v] S = .ok (.bl (harbB v)) S := by
  show runDef (Cs tab WF (k + 3)) WF 3 ir__law_good_harbour [v] S = _
  cases ht : isT v with
  | false =>
    have hb : harbB v = false := by
      unfold harbB
      split
      · cases ht
      · rfl
    simp [runDef, Pd.execs, s_set, s_par, s_ret, s_retN, s_expr, s_ite, s_setix, s_raise, s_pass, d_nm, d_k, d_op, d_neg, d_not, d_and, d_or, d_ite, d_tup, d_lst, d_slc, d_rev, d_chain, d_bi, d_call, d_push, d_pop0, d_lstC, denT, denL, denI, denC, denO, lstM, bind_ap, ok_bind, pure_ok, caM, opM, unM, lift, Op.g, Bi.g, Pd.finish, thaw, callM, truD, ir__law_good_harbour, isi_tup h, ht, hb]
  | true =>
    obtain ⟨ds, rfl⟩ := isT_of ht
    by_cases h3 : ds.length = 3
    · obtain ⟨t, s, b, rfl⟩ := len3 h3
      obtain ⟨m, rfl, hlen, hv⟩ := vok_tup h
      have htt : vok m l t := hv t (by simp)
      have hs : vok m l s := hv s (by simp)
      have hb : vok m l b := hv b (by simp)
      have w3 : opNe S (.int 3) (.int 3) = some (.bl false) := by rw [ne_int]; rfl
      cases e1 : tideB t with
      | false => simp [runDef, Pd.execs, s_set, s_par, s_ret, s_retN, s_expr, s_ite, s_setix, s_raise, s_pass, d_nm, d_k, d_op, d_neg, d_not, d_and, d_or, d_ite, d_tup, d_lst, d_slc, d_rev, d_chain, d_bi, d_call, d_push, d_pop0, d_lstC, denT, denL, denI, denC, denO, lstM, bind_ap, ok_bind, pure_ok, caM, opM, unM, lift, Op.g, Bi.g, Pd.finish, thaw, callM, truD, ir__law_good_harbour, isi_tup h, ht, len_tup, w3, id0, ev_good_tide (k := k) hn htt, e1, harbB]
      | true =>
        cases ts : isT s with
        | false => simp [runDef, Pd.execs, s_set, s_par, s_ret, s_retN, s_expr, s_ite, s_setix, s_raise, s_pass, d_nm, d_k, d_op, d_neg, d_not, d_and, d_or, d_ite, d_tup, d_lst, d_slc, d_rev, d_chain, d_bi, d_call, d_push, d_pop0, d_lstC, denT, denL, denI, denC, denO, lstM, bind_ap, ok_bind, pure_ok, caM, opM, unM, lift, Op.g, Bi.g, Pd.finish, thaw, callM, truD, ir__law_good_harbour, isi_tup h, ht, len_tup, w3, id0, id1, id2, ev_good_tide (k := k) hn htt, e1, isi_tup hs, ts, harbB, not_tup hs (by rintro ds rfl; cases ts)]
        | true =>
          obtain ⟨ss, rfl⟩ := isT_of ts
          cases tb : isT b with
          | false => simp [runDef, Pd.execs, s_set, s_par, s_ret, s_retN, s_expr, s_ite, s_setix, s_raise, s_pass, d_nm, d_k, d_op, d_neg, d_not, d_and, d_or, d_ite, d_tup, d_lst, d_slc, d_rev, d_chain, d_bi, d_call, d_push, d_pop0, d_lstC, denT, denL, denI, denC, denO, lstM, bind_ap, ok_bind, pure_ok, caM, opM, unM, lift, Op.g, Bi.g, Pd.finish, thaw, callM, truD, ir__law_good_harbour, isi_tup h, ht, len_tup, w3, id0, id1, id2, ev_good_tide (k := k) hn htt, e1, isi_tup hs, ts, isi_tup hb, tb, harbB, not_tup hb (by rintro ds rfl; cases tb)]
          | true =>
            obtain ⟨bs, rfl⟩ := isT_of tb
            have r1 : rowB (.tup ss) 1 4 = (decide ((1 : Int) ≤ ss.length) && decide ((ss.length : Int) ≤ 4)) := rfl
            have r2 : rowB (.tup bs) (lenD (.tup ss) - 1) (lenD (.tup ss) - 1) = decide ((bs.length : Int) = ss.length - 1) := rowB_eq _ _
            obtain ⟨m1, rfl, _, hvs⟩ := vok_tup hs
            obtain ⟨m2, hm2, _, hvb⟩ := vok_tup hb
            have hsl := (vok_tup hs).choose_spec.2.1
            have hbl := (vok_tup hb).choose_spec.2.1
            cases q1 : decide ((1 : Int) ≤ ss.length) with
            | false => simp [runDef, Pd.execs, s_set, s_par, s_ret, s_retN, s_expr, s_ite, s_setix, s_raise, s_pass, d_nm, d_k, d_op, d_neg, d_not, d_and, d_or, d_ite, d_tup, d_lst, d_slc, d_rev, d_chain, d_bi, d_call, d_push, d_pop0, d_lstC, denT, denL, denI, denC, denO, lstM, bind_ap, ok_bind, pure_ok, caM, opM, unM, lift, Op.g, Bi.g, Pd.finish, thaw, callM, truD, ir__law_good_harbour, isi_tup h, ht, len_tup, w3, id0, id1, id2, ev_good_tide (k := k) hn htt, e1, isi_tup hs, ts, isi_tup hb, tb, opLe, opCmp, q1, harbB, r1]
            | true =>
              cases q2 : decide ((ss.length : Int) ≤ 4) with
              | false => simp [runDef, Pd.execs, s_set, s_par, s_ret, s_retN, s_expr, s_ite, s_setix, s_raise, s_pass, d_nm, d_k, d_op, d_neg, d_not, d_and, d_or, d_ite, d_tup, d_lst, d_slc, d_rev, d_chain, d_bi, d_call, d_push, d_pop0, d_lstC, denT, denL, denI, denC, denO, lstM, bind_ap, ok_bind, pure_ok, caM, opM, unM, lift, Op.g, Bi.g, Pd.finish, thaw, callM, truD, ir__law_good_harbour, isi_tup h, ht, len_tup, w3, id0, id1, id2, ev_good_tide (k := k) hn htt, e1, isi_tup hs, ts, isi_tup hb, tb, opLe, opCmp, q1, q2, harbB, r1]
              | true =>
                cases q3 : decide ((bs.length : Int) = ss.length - 1) with
                | false => simp [runDef, Pd.execs, s_set, s_par, s_ret, s_retN, s_expr, s_ite, s_setix, s_raise, s_pass, d_nm, d_k, d_op, d_neg, d_not, d_and, d_or, d_ite, d_tup, d_lst, d_slc, d_rev, d_chain, d_bi, d_call, d_push, d_pop0, d_lstC, denT, denL, denI, denC, denO, lstM, bind_ap, ok_bind, pure_ok, caM, opM, unM, lift, Op.g, Bi.g, Pd.finish, thaw, callM, truD, ir__law_good_harbour, isi_tup h, ht, len_tup, w3, id0, id1, id2, ev_good_tide (k := k) hn htt, e1, isi_tup hs, ts, isi_tup hb, tb, opLe, opCmp, q1, q2, opSub, ne_int, q3, harbB, r1, r2]
                | true =>
                  have f1 : den (Cs tab WF (k + 3)) (.comp (.nm 1) (.nm 1) (.seq (.op .idx (.nm 0) (.k (.int 1)))) (some (.not (.call false 27 [(.nm 1), (.neg (.k (.int 9))), (.k (.int 9))]))) [1]) [some (.tup [t, .tup ss, .tup bs]), none, none] S = .ok (.lst (ss.filter fun d => !wholeB d (-9) 9)) S := by
                    have q := den_filt (C := Cs tab WF (k + 3)) (S := S) (elt := .nm 1) (t := .not (.call false 27 [(.nm 1), (.neg (.k (.int 9))), (.k (.int 9))])) (tg := .nm 1) (it := .seq (.op .idx (.nm 0) (.k (.int 1)))) (own := [1]) (ρ := [some (.tup [t, .tup ss, .tup bs]), none, none]) (items := ss) (g := id) (p := fun d => !wholeB d (-9) 9) (by simp [runDef, Pd.execs, s_set, s_par, s_ret, s_retN, s_expr, s_ite, s_setix, s_raise, s_pass, d_nm, d_k, d_op, d_neg, d_not, d_and, d_or, d_ite, d_tup, d_lst, d_slc, d_rev, d_chain, d_bi, d_call, d_push, d_pop0, d_lstC, denT, denL, denI, denC, denO, lstM, bind_ap, ok_bind, pure_ok, caM, opM, unM, lift, Op.g, Bi.g, Pd.finish, thaw, callM, truD, itemsOf, id1]) (by omega) (fun d hd => by
                      refine ⟨_, rfl, ?_, ?_⟩
                      · simp [runDef, Pd.execs, s_set, s_par, s_ret, s_retN, s_expr, s_ite, s_setix, s_raise, s_pass, d_nm, d_k, d_op, d_neg, d_not, d_and, d_or, d_ite, d_tup, d_lst, d_slc, d_rev, d_chain, d_bi, d_call, d_push, d_pop0, d_lstC, denT, denL, denI, denC, denO, lstM, bind_ap, ok_bind, pure_ok, caM, opM, unM, lift, Op.g, Bi.g, Pd.finish, thaw, callM, truD, wipeD, unNeg, ev_lwhole (k := k + 2) (-9) 9 (hvs d hd)]
                      · simp [runDef, Pd.execs, s_set, s_par, s_ret, s_retN, s_expr, s_ite, s_setix, s_raise, s_pass, d_nm, d_k, d_op, d_neg, d_not, d_and, d_or, d_ite, d_tup, d_lst, d_slc, d_rev, d_chain, d_bi, d_call, d_push, d_pop0, d_lstC, denT, denL, denI, denC, denO, lstM, bind_ap, ok_bind, pure_ok, caM, opM, unM, lift, Op.g, Bi.g, Pd.finish, thaw, callM, truD, wipeD])
                    rw [q, List.map_id]
                  have f2 : den (Cs tab WF (k + 3)) (.comp (.nm 2) (.nm 2) (.seq (.op .idx (.nm 0) (.k (.int 2)))) (some (.not (.call false 29 [(.nm 2), (.neg (.k (.int 9))), (.k (.int 9)), (.k (.int 1)), (.k (.int 12))]))) [2]) [some (.tup [t, .tup ss, .tup bs]), none, none] S = .ok (.lst (bs.filter fun d => !pairB d (-9) 9 1 12)) S := by
                    have q := den_filt (C := Cs tab WF (k + 3)) (S := S) (elt := .nm 2) (t := .not (.call false 29 [(.nm 2), (.neg (.k (.int 9))), (.k (.int 9)), (.k (.int 1)), (.k (.int 12))])) (tg := .nm 2) (it := .seq (.op .idx (.nm 0) (.k (.int 2)))) (own := [2]) (ρ := [some (.tup [t, .tup ss, .tup bs]), none, none]) (items := bs) (g := id) (p := fun d => !pairB d (-9) 9 1 12) (by simp [runDef, Pd.execs, s_set, s_par, s_ret, s_retN, s_expr, s_ite, s_setix, s_raise, s_pass, d_nm, d_k, d_op, d_neg, d_not, d_and, d_or, d_ite, d_tup, d_lst, d_slc, d_rev, d_chain, d_bi, d_call, d_push, d_pop0, d_lstC, denT, denL, denI, denC, denO, lstM, bind_ap, ok_bind, pure_ok, caM, opM, unM, lift, Op.g, Bi.g, Pd.finish, thaw, callM, truD, itemsOf, id2]) (by omega) (fun d hd => by
                      refine ⟨_, rfl, ?_, ?_⟩
                      · simp [runDef, Pd.execs, s_set, s_par, s_ret, s_retN, s_expr, s_ite, s_setix, s_raise, s_pass, d_nm, d_k, d_op, d_neg, d_not, d_and, d_or, d_ite, d_tup, d_lst, d_slc, d_rev, d_chain, d_bi, d_call, d_push, d_pop0, d_lstC, denT, denL, denI, denC, denO, lstM, bind_ap, ok_bind, pure_ok, caM, opM, unM, lift, Op.g, Bi.g, Pd.finish, thaw, callM, truD, wipeD, unNeg, ev_lpair (k := k + 1) (-9) 9 1 12 (hvb d hd)]
                      · simp [runDef, Pd.execs, s_set, s_par, s_ret, s_retN, s_expr, s_ite, s_setix, s_raise, s_pass, d_nm, d_k, d_op, d_neg, d_not, d_and, d_or, d_ite, d_tup, d_lst, d_slc, d_rev, d_chain, d_bi, d_call, d_push, d_pop0, d_lstC, denT, denL, denI, denC, denO, lstM, bind_ap, ok_bind, pure_ok, caM, opM, unM, lift, Op.g, Bi.g, Pd.finish, thaw, callM, truD, wipeD])
                    rw [q, List.map_id]
                  have s1 : shp9 (.lst (ss.filter fun d => !wholeB d (-9) 9)) = true := shp_lst (by omega) fun d hd => hvs d ((List.mem_filter.mp hd).1)
                  have s2 : shp9 (.lst (bs.filter fun d => !pairB d (-9) 9 1 12)) = true := shp_lst (by omega) fun d hd => hvb d ((List.mem_filter.mp hd).1)
                  have n1 : opNe S (.lst (ss.filter fun d => !wholeB d (-9) 9)) (.lst []) = some (.bl (!(ss.all fun d => wholeB d (-9) 9))) := by rw [ne_nil s1, filt_all]
                  have n2 : opEq S (.lst (bs.filter fun d => !pairB d (-9) 9 1 12)) (.lst []) = some (.bl (bs.all fun d => pairB d (-9) 9 1 12)) := by rw [eq_nil s2, filt_all]
                  clear s1 s2
                  generalize (ss.filter fun d => !wholeB d (-9) 9) = zs1 at f1 n1
                  generalize (bs.filter fun d => !pairB d (-9) 9 1 12) = zs2 at f2 n2
                  cases e4 : ss.all fun d => wholeB d (-9) 9 <;> simp [runDef, Pd.execs, s_set, s_par, s_ret, s_retN, s_expr, s_ite, s_setix, s_raise, s_pass, d_nm, d_k, d_op, d_neg, d_not, d_and, d_or, d_ite, d_tup, d_lst, d_slc, d_rev, d_chain, d_bi, d_call, d_push, d_pop0, d_lstC, denT, denL, denI, denC, denO, lstM, bind_ap, ok_bind, pure_ok, caM, opM, unM, lift, Op.g, Bi.g, Pd.finish, thaw, callM, truD, ir__law_good_harbour, isi_tup h, ht, len_tup, w3, id0, id1, id2, ev_good_tide (k := k) hn htt, e1, isi_tup hs, ts, isi_tup hb, tb, opLe, opCmp, q1, q2, opSub, ne_int, q3, harbB, r1, r2, f1, f2, n1, n2, e4, allD]
    · have e2 : opNe S (.int ds.length) (.int 3) = some (.bl true) := by
        rw [ne_int, decide_eq_false (fun q => h3 (by exact_mod_cast q))]
        rfl
      simp [runDef, Pd.execs, s_set, s_par, s_ret, s_retN, s_expr, s_ite, s_setix, s_raise, s_pass, d_nm, d_k, d_op, d_neg, d_not, d_and, d_or, d_ite, d_tup, d_lst, d_slc, d_rev, d_chain, d_bi, d_call, d_push, d_pop0, d_lstC, denT, denL, denI, denC, denO, lstM, bind_ap, ok_bind, pure_ok, caM, opM, unM, lift, Op.g, Bi.g, Pd.finish, thaw, callM, truD, ir__law_good_harbour, isi_tup h, ht, len_tup, e2, harb_len h3]
end Lw

end
section
set_option Elab.async false
set_option linter.all false
set_option maxRecDepth 100000
set_option maxHeartbeats 4000000
namespace Lw
open Pd
variable {k n l : Nat} {S : Store} {v : D}
def boatB (m : Int) (d : D) : Bool := match d with
  | .tup [a, b, c] => wholeB a 0 m && wholeB b 0 9 && wholeB c 0 100
  | _ => false
theorem boat_len {m : Int} {ds : List D} (h : ds.length ≠ 3) : boatB m (.tup ds) = false := by
  unfold boatB
  split
  · rename_i q; cases q; simp at h
  · rfl
theorem ev_fits {t : D} {ss r : List D} (h : vok n l v) : Cs tab WF (k + 3) 9 [.tup (t :: .tup ss :: r), v] S = .ok (.bl (boatB (ss.length - 1) v)) S := by
  show runDef (Cs tab WF (k + 2)) WF 2 ir_fits_boat [.tup (t :: .tup ss :: r), v] S = _
  cases hr : rowB v 3 3 with
  | false =>
    have hp : boatB (ss.length - 1) v = false := by
      unfold boatB
      split
      · exact absurd rfl (rowB_three hr _ _ _)
      · rfl
    simp [runDef, Pd.execs, s_set, s_par, s_ret, s_retN, s_expr, s_ite, s_setix, s_raise, s_pass, d_nm, d_k, d_op, d_neg, d_not, d_and, d_or, d_ite, d_tup, d_lst, d_slc, d_rev, d_chain, d_bi, d_call, d_push, d_pop0, d_lstC, denT, denL, denI, denC, denO, lstM, bind_ap, ok_bind, pure_ok, caM, opM, unM, lift, Op.g, Bi.g, Pd.finish, thaw, callM, truD, ir_fits_boat, ev_is_row (k := k + 1) 3 3 h, hr, hp]
  | true =>
    obtain ⟨ds, rfl, h1, h2⟩ := rowB_tup hr
    obtain ⟨a, b, c, rfl⟩ := three_of h1 h2
    obtain ⟨m, rfl, _, hv⟩ := vok_tup h
    have ha : vok m l a := hv a (by simp)
    have hb : vok m l b := hv b (by simp)
    have hc : vok m l c := hv c (by simp)
    cases e1 : wholeB a 0 (ss.length - 1) <;> cases e2 : wholeB b 0 9 <;> simp [runDef, Pd.execs, s_set, s_par, s_ret, s_retN, s_expr, s_ite, s_setix, s_raise, s_pass, d_nm, d_k, d_op, d_neg, d_not, d_and, d_or, d_ite, d_tup, d_lst, d_slc, d_rev, d_chain, d_bi, d_call, d_push, d_pop0, d_lstC, denT, denL, denI, denC, denO, lstM, bind_ap, ok_bind, pure_ok, caM, opM, unM, lift, Op.g, Bi.g, Pd.finish, thaw, callM, truD, ir_fits_boat, ev_is_row (k := k + 1) 3 3 h, hr, boatB, id0, id1, id2, len_tup, opSub, ev_is_whole (k := k) 0 (ss.length - 1) ha, ev_is_whole (k := k) 0 9 hb, ev_is_whole (k := k) 0 100 hc, e1, e2]
theorem ev_good_boat {t : D} {ss r : List D} (h : vok n l v) : Cs tab WF (k + 2) 32 [.tup (t :: .tup ss :: r), v] S = .ok (.bl (boatB (ss.length - 1) v)) S := by
  show runDef (Cs tab WF (k + 1)) WF 2 ir__law_good_boat [.tup (t :: .tup ss :: r), v] S = _
  cases ht : isT v with
  | false =>
    have hb : boatB (ss.length - 1) v = false := by
      unfold boatB
      split
      · cases ht
      · rfl
    simp [runDef, Pd.execs, s_set, s_par, s_ret, s_retN, s_expr, s_ite, s_setix, s_raise, s_pass, d_nm, d_k, d_op, d_neg, d_not, d_and, d_or, d_ite, d_tup, d_lst, d_slc, d_rev, d_chain, d_bi, d_call, d_push, d_pop0, d_lstC, denT, denL, denI, denC, denO, lstM, bind_ap, ok_bind, pure_ok, caM, opM, unM, lift, Op.g, Bi.g, Pd.finish, thaw, callM, truD, ir__law_good_boat, isi_tup h, ht, hb]
  | true =>
    obtain ⟨ds, rfl⟩ := isT_of ht
    by_cases h3 : ds.length = 3
    · obtain ⟨a, b, c, rfl⟩ := len3 h3
      obtain ⟨m, rfl, hlen, hv⟩ := vok_tup h
      have ha : vok m l a := hv a (by simp)
      have hb : vok m l b := hv b (by simp)
      have hc : vok m l c := hv c (by simp)
      have w3 : opNe S (.int 3) (.int 3) = some (.bl false) := by rw [ne_int]; rfl
      cases e1 : wholeB a 0 (ss.length - 1) <;> cases e2 : wholeB b 0 9 <;> simp [runDef, Pd.execs, s_set, s_par, s_ret, s_retN, s_expr, s_ite, s_setix, s_raise, s_pass, d_nm, d_k, d_op, d_neg, d_not, d_and, d_or, d_ite, d_tup, d_lst, d_slc, d_rev, d_chain, d_bi, d_call, d_push, d_pop0, d_lstC, denT, denL, denI, denC, denO, lstM, bind_ap, ok_bind, pure_ok, caM, opM, unM, lift, Op.g, Bi.g, Pd.finish, thaw, callM, truD, ir__law_good_boat, isi_tup h, ht, boatB, id0, id1, id2, len_tup, w3, opSub, ev_lwhole (k := k) 0 (ss.length - 1) ha, ev_lwhole (k := k) 0 9 hb, ev_lwhole (k := k) 0 100 hc, e1, e2]
    · have e2 : opNe S (.int ds.length) (.int 3) = some (.bl true) := by
        rw [ne_int, decide_eq_false (fun q => h3 (by exact_mod_cast q))]
        rfl
      simp [runDef, Pd.execs, s_set, s_par, s_ret, s_retN, s_expr, s_ite, s_setix, s_raise, s_pass, d_nm, d_k, d_op, d_neg, d_not, d_and, d_or, d_ite, d_tup, d_lst, d_slc, d_rev, d_chain, d_bi, d_call, d_push, d_pop0, d_lstC, denT, denL, denI, denC, denO, lstM, bind_ap, ok_bind, pure_ok, caM, opM, unM, lift, Op.g, Bi.g, Pd.finish, thaw, callM, truD, ir__law_good_boat, isi_tup h, ht, len_tup, e2, boat_len h3]
theorem ev_need (hn : l ≤ 16777216) (h : vok n l v) : Cs tab WF (k + 6) 14 [v] S = (if harbB v then .ok .non S else .err 2 S) := by
  show runDef (Cs tab WF (k + 5)) WF 1 ir_need_harbour [v] S = _
  cases e : harbB v <;> simp [runDef, Pd.execs, s_set, s_par, s_ret, s_retN, s_expr, s_ite, s_setix, s_raise, s_pass, d_nm, d_k, d_op, d_neg, d_not, d_and, d_or, d_ite, d_tup, d_lst, d_slc, d_rev, d_chain, d_bi, d_call, d_push, d_pop0, d_lstC, denT, denL, denI, denC, denO, lstM, bind_ap, ok_bind, pure_ok, caM, opM, unM, lift, Op.g, Bi.g, Pd.finish, thaw, callM, truD, ir_need_harbour, ev_is_harbour (k := k) hn h, e, R.bind]
theorem ev_is_boat {t : D} {ss r : List D} (hn : l ≤ 16777216) (hh : vok n l (.tup (t :: .tup ss :: r))) (hb : harbB (.tup (t :: .tup ss :: r)) = true) {n2 : Nat} {l2 : Nat} (h : vok n2 l2 v) : Cs tab WF (k + 7) 15 [.tup (t :: .tup ss :: r), v] S = .ok (.bl (boatB (ss.length - 1) v)) S := by
  show runDef (Cs tab WF (k + 6)) WF 2 ir_is_boat [.tup (t :: .tup ss :: r), v] S = _
  simp [runDef, Pd.execs, s_set, s_par, s_ret, s_retN, s_expr, s_ite, s_setix, s_raise, s_pass, d_nm, d_k, d_op, d_neg, d_not, d_and, d_or, d_ite, d_tup, d_lst, d_slc, d_rev, d_chain, d_bi, d_call, d_push, d_pop0, d_lstC, denT, denL, denI, denC, denO, lstM, bind_ap, ok_bind, pure_ok, caM, opM, unM, lift, Op.g, Bi.g, Pd.finish, thaw, callM, truD, ir_is_boat, ev_need (k := k) hn hh, hb, ev_fits (k := k + 3) h]
theorem ev_no_boat {w : D} (hn : l ≤ 16777216) (h : vok n l v) (hb : harbB v = false) : Cs tab WF (k + 7) 15 [v, w] S = .err 2 S := by
  show runDef (Cs tab WF (k + 6)) WF 2 ir_is_boat [v, w] S = _
  simp [runDef, Pd.execs, s_set, s_par, s_ret, s_retN, s_expr, s_ite, s_setix, s_raise, s_pass, d_nm, d_k, d_op, d_neg, d_not, d_and, d_or, d_ite, d_tup, d_lst, d_slc, d_rev, d_chain, d_bi, d_call, d_push, d_pop0, d_lstC, denT, denL, denI, denC, denO, lstM, bind_ap, ok_bind, pure_ok, caM, opM, unM, lift, Op.g, Bi.g, Pd.finish, thaw, callM, truD, ir_is_boat, ev_need (k := k) hn h, hb, R.bind]
/-! ### texts -/
abbrev sOk (x : PySem.Str) : Prop := PySem.PyData.strOk x = true
theorem eq_str {x a : PySem.Str} (h1 : sOk x) (h2 : sOk a) : opEq S (.str x) (.str a) = some (.bl (decide (x = a))) := by
  have e : deq (.str x) (.str a) = decide (x = a) := by rw [deq]; rfl
  have e1 : shp9 (.str x) = true := h1
  have e2 : shp9 (.str a) = true := h2
  simp [opEq, opEqB, res, e, e1, e2]
theorem in_tup2 {x a b : PySem.Str} : opIn S (.str x) (.tup [.str a, .str b]) = some (.bl (decide (x = a) || decide (x = b))) := by
  have e : ∀ c, L2.eqV (.str c) (.str x) = decide (x = c) := fun c => by
    rw [L2.eqV]
    by_cases z : x = c
    · subst z; simp
    · rw [decide_eq_false z]; exact beq_eq_false_iff_ne.mpr fun q => z q.symm
  simp [opIn, opInB, flatD, flatDs, L2.inV, e]
theorem in_lst2B {x a b : PySem.Str} (h : sOk x) (h1 : sOk a) (h2 : sOk b) : opInB S (.str x) (.lst [.str a, .str b]) = some (decide (x = a) || decide (x = b)) := by
  have e : ∀ c, deq (.str c) (.str x) = decide (x = c) := fun c => by
    rw [deq]
    by_cases z : x = c
    · subst z; simp
    · rw [decide_eq_false z]; exact beq_eq_false_iff_ne.mpr fun q => z q.symm
  have e1 : shp9 (.str x) = true := h
  have e2 : shp9 (.lst [.str a, .str b]) = true := by
    show ([D.str a, D.str b].all (shp 39)) = true
    have g1 : shp 39 (.str a) = true := h1
    have g2 : shp 39 (.str b) = true := h2
    simp [g1, g2]
  simp [opInB, seqL, res, e1, e2, e]
theorem in_lst2 {x a b : PySem.Str} (h : sOk x) (h1 : sOk a) (h2 : sOk b) : opIn S (.str x) (.lst [.str a, .str b]) = some (.bl (decide (x = a) || decide (x = b))) := by
  simp [opIn, in_lst2B h h1 h2]
theorem notin_lst2 {x a b : PySem.Str} (h : sOk x) (h1 : sOk a) (h2 : sOk b) : opNotIn S (.str x) (.lst [.str a, .str b]) = some (.bl (!(decide (x = a) || decide (x = b)))) := by
  simp [opNotIn, in_lst2B h h1 h2]
def isS : D → Bool
  | .str _ => true
  | _ => false
theorem isi_str (h : vok n l v) : isiD "str" S [v] = some (.bl (isS v)) := by
  rcases vok_ty h with rfl | ⟨b, rfl⟩ | ⟨i, rfl⟩ | ⟨x, rfl, _, _⟩ | ⟨ds, rfl⟩ | ⟨ds, rfl⟩ <;> simp [isiD, tyN, kb_NoneType_int, kb_NoneType_bool, kb_NoneType_str, kb_NoneType_tuple, kb_NoneType_list, kb_bool_int, kb_bool_bool, kb_bool_str, kb_bool_tuple, kb_bool_list, kb_int_int, kb_int_bool, kb_int_str, kb_int_tuple, kb_int_list, kb_str_int, kb_str_bool, kb_str_str, kb_str_tuple, kb_str_list, kb_tuple_int, kb_tuple_bool, kb_tuple_str, kb_tuple_tuple, kb_tuple_list, kb_list_int, kb_list_bool, kb_list_str, kb_list_tuple, kb_list_list, isS]
theorem isS_of (h : vok n l v) (hs : isS v = true) : ∃ x, v = .str x ∧ sOk x := by
  rcases vok_ty h with rfl | ⟨b, rfl⟩ | ⟨i, rfl⟩ | ⟨x, rfl, h1, _⟩ | ⟨ds, rfl⟩ | ⟨ds, rfl⟩
  case inr.inr.inr.inl => exact ⟨x, rfl, h1⟩
  all_goals cases hs
def sideB : D → Bool
  | .str x => decide (x = "out") || decide (x = "in")
  | _ => false
theorem ev_side (h : vok n l v) : Cs tab WF (k + 1) 10 [v] S = .ok (.bl (sideB v)) S := by
  show runDef (Cs tab WF k) WF 1 ir_is_side [v] S = _
  cases hs : isS v with
  | true =>
    obtain ⟨x, rfl, _⟩ := isS_of h hs
    simp [runDef, Pd.execs, s_set, s_par, s_ret, s_retN, s_expr, s_ite, s_setix, s_raise, s_pass, d_nm, d_k, d_op, d_neg, d_not, d_and, d_or, d_ite, d_tup, d_lst, d_slc, d_rev, d_chain, d_bi, d_call, d_push, d_pop0, d_lstC, denT, denL, denI, denC, denO, lstM, bind_ap, ok_bind, pure_ok, caM, opM, unM, lift, Op.g, Bi.g, Pd.finish, thaw, callM, truD, ir_is_side, isi_str h, hs, in_tup2, sideB]
  | false =>
    have e : sideB v = false := by cases v <;> first | rfl | cases hs
    simp [runDef, Pd.execs, s_set, s_par, s_ret, s_retN, s_expr, s_ite, s_setix, s_raise, s_pass, d_nm, d_k, d_op, d_neg, d_not, d_and, d_or, d_ite, d_tup, d_lst, d_slc, d_rev, d_chain, d_bi, d_call, d_push, d_pop0, d_lstC, denT, denL, denI, denC, denO, lstM, bind_ap, ok_bind, pure_ok, caM, opM, unM, lift, Op.g, Bi.g, Pd.finish, thaw, callM, truD, ir_is_side, isi_str h, hs, e]
def zeroB : D → Bool
  | .int i => decide (i = 0)
  | _ => false
def stepB (d : D) : Bool := match d with
  | .tup [.str w] => decide (w = "lie") || decide (w = "top")
  | .tup [.str w, y] => bif decide (w = "wait") then wholeB y 0 24 else bif decide (w = "sail") then sideB y else decide (w = "load") && (wholeB y (-9) 9 && !zeroB y)
  | _ => false
theorem one_two {ds : List D} (h1 : (1 : Int) ≤ ds.length) (h2 : (ds.length : Int) ≤ 2) : (∃ x, ds = [x]) ∨ ∃ x y, ds = [x, y] := by
  match ds, h1, h2 with
  | [x, y], _, _ => exact .inr ⟨x, y, rfl⟩
  | [], h1, _ => simp at h1
  | [x], h1, _ => exact .inl ⟨x, rfl⟩
  | x :: y :: z :: r, _, h2 => simp at h2; omega
theorem step_not {ds : List D} (h : rowB (.tup ds) 1 2 = false) : stepB (.tup ds) = false := by
  unfold stepB
  split
  · rename_i q; cases q; simp [rowB] at h
  · rename_i q; cases q; simp [rowB] at h
  · rfl
theorem step_no {v : D} (h : rowB v 1 2 = false) : stepB v = false := by
  cases v with
  | tup ds => exact step_not h
  | _ => rfl
theorem step_nostr {x : D} {r : List D} (h : isS x = false) : stepB (.tup (x :: r)) = false := by
  unfold stepB
  split
  · rename_i q; cases q; cases h
  · rename_i q; cases q; cases h
  · rfl
theorem ne_zero {y : D} (h : wholeB y (-9) 9 = true) : opNe S y (.int 0) = some (.bl (!zeroB y)) := by
  cases y with
  | int i => exact ne_int i 0
  | _ => cases h
theorem ok_lie : sOk "lie" := by decide +kernel
theorem ok_top : sOk "top" := by decide +kernel
theorem ok_wait : sOk "wait" := by decide +kernel
theorem ok_sail : sOk "sail" := by decide +kernel
theorem ok_load : sOk "load" := by decide +kernel
theorem ok_if : sOk "if" := by decide +kernel
theorem ok_out : sOk "out" := by decide +kernel
theorem ok_in : sOk "in" := by decide +kernel
theorem ev_is_step (h : vok n l v) : Cs tab WF (k + 3) 11 [v] S = .ok (.bl (stepB v)) S := by
  show runDef (Cs tab WF (k + 2)) WF 1 ir_is_step [v] S = _
  cases hr : rowB v 1 2 with
  | false => simp [runDef, Pd.execs, s_set, s_par, s_ret, s_retN, s_expr, s_ite, s_setix, s_raise, s_pass, d_nm, d_k, d_op, d_neg, d_not, d_and, d_or, d_ite, d_tup, d_lst, d_slc, d_rev, d_chain, d_bi, d_call, d_push, d_pop0, d_lstC, denT, denL, denI, denC, denO, lstM, bind_ap, ok_bind, pure_ok, caM, opM, unM, lift, Op.g, Bi.g, Pd.finish, thaw, callM, truD, ir_is_step, ev_is_row (k := k + 1) 1 2 h, hr, step_no hr]
  | true =>
    obtain ⟨ds, rfl, h1, h2⟩ := rowB_tup hr
    obtain ⟨m, rfl, _, hv⟩ := vok_tup h
    rcases one_two h1 h2 with ⟨x, rfl⟩ | ⟨x, y, rfl⟩
    · have hx : vok m l x := hv x (by simp)
      have e1 : opEq S (.int 1) (.int 1) = some (.bl true) := by rw [eq_int]; rfl
      cases hs : isS x with
      | false => simp [runDef, Pd.execs, s_set, s_par, s_ret, s_retN, s_expr, s_ite, s_setix, s_raise, s_pass, d_nm, d_k, d_op, d_neg, d_not, d_and, d_or, d_ite, d_tup, d_lst, d_slc, d_rev, d_chain, d_bi, d_call, d_push, d_pop0, d_lstC, denT, denL, denI, denC, denO, lstM, bind_ap, ok_bind, pure_ok, caM, opM, unM, lift, Op.g, Bi.g, Pd.finish, thaw, callM, truD, ir_is_step, ev_is_row (k := k + 1) 1 2 h, hr, id0, isi_str hx, hs, step_nostr hs]
      | true =>
        obtain ⟨w, rfl, hw⟩ := isS_of hx hs
        simp [runDef, Pd.execs, s_set, s_par, s_ret, s_retN, s_expr, s_ite, s_setix, s_raise, s_pass, d_nm, d_k, d_op, d_neg, d_not, d_and, d_or, d_ite, d_tup, d_lst, d_slc, d_rev, d_chain, d_bi, d_call, d_push, d_pop0, d_lstC, denT, denL, denI, denC, denO, lstM, bind_ap, ok_bind, pure_ok, caM, opM, unM, lift, Op.g, Bi.g, Pd.finish, thaw, callM, truD, ir_is_step, ev_is_row (k := k + 1) 1 2 h, hr, id0, isi_str hx, hs, len_tup, e1, in_tup2, stepB]
    · have hx : vok m l x := hv x (by simp)
      have hy : vok m l y := hv y (by simp)
      have e2 : opEq S (.int 2) (.int 1) = some (.bl false) := by rw [eq_int]; rfl
      cases hs : isS x with
      | false => simp [runDef, Pd.execs, s_set, s_par, s_ret, s_retN, s_expr, s_ite, s_setix, s_raise, s_pass, d_nm, d_k, d_op, d_neg, d_not, d_and, d_or, d_ite, d_tup, d_lst, d_slc, d_rev, d_chain, d_bi, d_call, d_push, d_pop0, d_lstC, denT, denL, denI, denC, denO, lstM, bind_ap, ok_bind, pure_ok, caM, opM, unM, lift, Op.g, Bi.g, Pd.finish, thaw, callM, truD, ir_is_step, ev_is_row (k := k + 1) 1 2 h, hr, id0, isi_str hx, hs, step_nostr hs]
      | true =>
        obtain ⟨w, rfl, hw⟩ := isS_of hx hs
        have q1 := eq_str (S := S) hw ok_wait
        have q2 := eq_str (S := S) hw ok_sail
        have q3 := eq_str (S := S) hw ok_load
        have sb : stepB (.tup [.str w, y]) = bif decide (w = "wait") then wholeB y 0 24 else bif decide (w = "sail") then sideB y else decide (w = "load") && (wholeB y (-9) 9 && !zeroB y) := rfl
        rw [sb]
        generalize decide (w = "wait") = b1 at q1 ⊢
        generalize decide (w = "sail") = b2 at q2 ⊢
        generalize decide (w = "load") = b3 at q3 ⊢
        cases b1 <;> cases b2 <;> cases b3 <;> cases e9 : wholeB y (-9) 9 <;> simp [runDef, Pd.execs, s_set, s_par, s_ret, s_retN, s_expr, s_ite, s_setix, s_raise, s_pass, d_nm, d_k, d_op, d_neg, d_not, d_and, d_or, d_ite, d_tup, d_lst, d_slc, d_rev, d_chain, d_bi, d_call, d_push, d_pop0, d_lstC, denT, denL, denI, denC, denO, lstM, bind_ap, ok_bind, pure_ok, caM, opM, unM, lift, Op.g, Bi.g, Pd.finish, thaw, callM, truD, ir_is_step, ev_is_row (k := k + 1) 1 2 h, hr, id0, id1, isi_str hx, hs, len_tup, e2, q1, q2, q3, ev_is_whole (k := k) 0 24 hy, ev_is_whole (k := k) (-9) 9 hy, ev_side (k := k + 1) hy, unNeg, e9, ne_zero]
theorem ev_good_step (h : vok n l v) : Cs tab WF (k + 2) 33 [v] S = .ok (.bl (stepB v)) S := by
  show runDef (Cs tab WF (k + 1)) WF 1 ir__law_good_step [v] S = _
  cases ht : isT v with
  | false =>
    have hb : stepB v = false := by cases v <;> first | rfl | cases ht
    simp [runDef, Pd.execs, s_set, s_par, s_ret, s_retN, s_expr, s_ite, s_setix, s_raise, s_pass, d_nm, d_k, d_op, d_neg, d_not, d_and, d_or, d_ite, d_tup, d_lst, d_slc, d_rev, d_chain, d_bi, d_call, d_push, d_pop0, d_lstC, denT, denL, denI, denC, denO, lstM, bind_ap, ok_bind, pure_ok, caM, opM, unM, lift, Op.g, Bi.g, Pd.finish, thaw, callM, truD, ir__law_good_step, isi_tup h, ht, hb]
  | true =>
    obtain ⟨ds, rfl⟩ := isT_of ht
    cases q1 : decide ((1 : Int) ≤ ds.length) with
    | false => simp [runDef, Pd.execs, s_set, s_par, s_ret, s_retN, s_expr, s_ite, s_setix, s_raise, s_pass, d_nm, d_k, d_op, d_neg, d_not, d_and, d_or, d_ite, d_tup, d_lst, d_slc, d_rev, d_chain, d_bi, d_call, d_push, d_pop0, d_lstC, denT, denL, denI, denC, denO, lstM, bind_ap, ok_bind, pure_ok, caM, opM, unM, lift, Op.g, Bi.g, Pd.finish, thaw, callM, truD, ir__law_good_step, isi_tup h, ht, len_tup, opLe, opCmp, q1, step_not (ds := ds) (by simp [rowB, q1])]
    | true =>
      cases q2 : decide ((ds.length : Int) ≤ 2) with
      | false => simp [runDef, Pd.execs, s_set, s_par, s_ret, s_retN, s_expr, s_ite, s_setix, s_raise, s_pass, d_nm, d_k, d_op, d_neg, d_not, d_and, d_or, d_ite, d_tup, d_lst, d_slc, d_rev, d_chain, d_bi, d_call, d_push, d_pop0, d_lstC, denT, denL, denI, denC, denO, lstM, bind_ap, ok_bind, pure_ok, caM, opM, unM, lift, Op.g, Bi.g, Pd.finish, thaw, callM, truD, ir__law_good_step, isi_tup h, ht, len_tup, opLe, opCmp, q1, q2, step_not (ds := ds) (by simp [rowB, q2])]
      | true =>
        obtain ⟨m, rfl, _, hv⟩ := vok_tup h
        rcases one_two (of_decide_eq_true q1) (of_decide_eq_true q2) with ⟨x, rfl⟩ | ⟨x, y, rfl⟩
        · have hx : vok m l x := hv x (by simp)
          have e1 : opEq S (.int 1) (.int 1) = some (.bl true) := by rw [eq_int]; rfl
          cases hs : isS x with
          | false => simp [runDef, Pd.execs, s_set, s_par, s_ret, s_retN, s_expr, s_ite, s_setix, s_raise, s_pass, d_nm, d_k, d_op, d_neg, d_not, d_and, d_or, d_ite, d_tup, d_lst, d_slc, d_rev, d_chain, d_bi, d_call, d_push, d_pop0, d_lstC, denT, denL, denI, denC, denO, lstM, bind_ap, ok_bind, pure_ok, caM, opM, unM, lift, Op.g, Bi.g, Pd.finish, thaw, callM, truD, ir__law_good_step, isi_tup h, ht, len_tup, opLe, opCmp, id0, isi_str hx, hs, step_nostr hs]
          | true =>
            obtain ⟨w, rfl, hw⟩ := isS_of hx hs
            simp [runDef, Pd.execs, s_set, s_par, s_ret, s_retN, s_expr, s_ite, s_setix, s_raise, s_pass, d_nm, d_k, d_op, d_neg, d_not, d_and, d_or, d_ite, d_tup, d_lst, d_slc, d_rev, d_chain, d_bi, d_call, d_push, d_pop0, d_lstC, denT, denL, denI, denC, denO, lstM, bind_ap, ok_bind, pure_ok, caM, opM, unM, lift, Op.g, Bi.g, Pd.finish, thaw, callM, truD, ir__law_good_step, isi_tup h, ht, len_tup, opLe, opCmp, id0, isi_str hx, hs, e1, in_lst2 hw ok_lie ok_top, stepB]
        · have hx : vok m l x := hv x (by simp)
          have hy : vok m l y := hv y (by simp)
          have e2 : opEq S (.int 2) (.int 1) = some (.bl false) := by rw [eq_int]; rfl
          cases hs : isS x with
          | false => simp [runDef, Pd.execs, s_set, s_par, s_ret, s_retN, s_expr, s_ite, s_setix, s_raise, s_pass, d_nm, d_k, d_op, d_neg, d_not, d_and, d_or, d_ite, d_tup, d_lst, d_slc, d_rev, d_chain, d_bi, d_call, d_push, d_pop0, d_lstC, denT, denL, denI, denC, denO, lstM, bind_ap, ok_bind, pure_ok, caM, opM, unM, lift, Op.g, Bi.g, Pd.finish, thaw, callM, truD, ir__law_good_step, isi_tup h, ht, len_tup, opLe, opCmp, id0, isi_str hx, hs, step_nostr hs]
          | true =>
            obtain ⟨w, rfl, hw⟩ := isS_of hx hs
            have q1 := eq_str (S := S) hw ok_wait
            have q2 := eq_str (S := S) hw ok_sail
            have q3 := eq_str (S := S) hw ok_load
            have sb : stepB (.tup [.str w, y]) = bif decide (w = "wait") then wholeB y 0 24 else bif decide (w = "sail") then sideB y else decide (w = "load") && (wholeB y (-9) 9 && !zeroB y) := rfl
            have nb : (decide (w = "wait") && decide (w = "sail")) = false := by
              by_cases z : w = "wait"
              · rw [z]; decide +kernel
              · simp [z]
            rw [sb]
            generalize decide (w = "wait") = b1 at q1 nb ⊢
            generalize decide (w = "sail") = b2 at q2 nb ⊢
            generalize decide (w = "load") = b3 at q3 ⊢
            cases hz : isS y with
            | true =>
              obtain ⟨z, rfl, hzz⟩ := isS_of hy hz
              have sd : sideB (.str z) = (decide (z = "out") || decide (z = "in")) := rfl
              have il := in_lst2 (S := S) hzz ok_out ok_in
              rw [← sd] at il
              cases b1 <;> cases b2 <;> cases b3 <;> first | (cases nb; done) | (cases e9 : wholeB (.str z) (-9) 9 <;> simp [runDef, Pd.execs, s_set, s_par, s_ret, s_retN, s_expr, s_ite, s_setix, s_raise, s_pass, d_nm, d_k, d_op, d_neg, d_not, d_and, d_or, d_ite, d_tup, d_lst, d_slc, d_rev, d_chain, d_bi, d_call, d_push, d_pop0, d_lstC, denT, denL, denI, denC, denO, lstM, bind_ap, ok_bind, pure_ok, caM, opM, unM, lift, Op.g, Bi.g, Pd.finish, thaw, callM, truD, ir__law_good_step, isi_tup h, ht, len_tup, opLe, opCmp, id0, id1, isi_str hx, isi_str hy, hz, hs, e2, q1, q2, q3, il, ev_lwhole (k := k) 0 24 hy, ev_lwhole (k := k) (-9) 9 hy, unNeg, e9, ne_zero])
            | false =>
              have sd : sideB y = false := by cases y <;> first | rfl | cases hz
              cases b1 <;> cases b2 <;> cases b3 <;> first | (cases nb; done) | (cases e9 : wholeB y (-9) 9 <;> simp [runDef, Pd.execs, s_set, s_par, s_ret, s_retN, s_expr, s_ite, s_setix, s_raise, s_pass, d_nm, d_k, d_op, d_neg, d_not, d_and, d_or, d_ite, d_tup, d_lst, d_slc, d_rev, d_chain, d_bi, d_call, d_push, d_pop0, d_lstC, denT, denL, denI, denC, denO, lstM, bind_ap, ok_bind, pure_ok, caM, opM, unM, lift, Op.g, Bi.g, Pd.finish, thaw, callM, truD, ir__law_good_step, isi_tup h, ht, len_tup, opLe, opCmp, id0, id1, isi_str hx, isi_str hy, hz, hs, e2, q1, q2, q3, sd, ev_lwhole (k := k) 0 24 hy, ev_lwhole (k := k) (-9) 9 hy, unNeg, e9, ne_zero])
end Lw

end
section
set_option Elab.async false
set_option linter.all false
set_option maxRecDepth 100000
set_option maxHeartbeats 4000000
namespace Lw
open Pd
variable {k n l : Nat} {S : Store} {v : D}
def rowsB : D → Bool
  | .tup ds => decide ((ds.length : Int) ≤ 2) && ds.all stepB
  | _ => false
def anyB (d : D) : Bool := match d with
  | .tup [.str w, x, y, z] => decide (w = "if") && (sideB x && (rowsB y && rowsB z))
  | d => stepB d
def scriptB : D → Bool
  | .tup ds => decide ((ds.length : Int) ≤ 4) && ds.all anyB
  | _ => false
theorem four_of {ds : List D} (h1 : (4 : Int) ≤ ds.length) (h2 : (ds.length : Int) ≤ 4) : ∃ w x y z, ds = [w, x, y, z] := by
  match ds, h1, h2 with
  | [w, x, y, z], _, _ => exact ⟨w, x, y, z, rfl⟩
  | [], h1, _ => simp at h1
  | [x], h1, _ => simp at h1
  | [x, y], h1, _ => simp at h1
  | [x, y, z], h1, _ => simp at h1
  | x :: y :: z :: u :: w :: r, _, h2 => simp at h2; omega
theorem any_step {d : D} (h : ∀ w x y z, d ≠ .tup [.str w, x, y, z]) : anyB d = stepB d := by
  unfold anyB
  split
  · exact absurd rfl (h _ _ _ _)
  · rfl
theorem id3 {x y z u : D} {r : List D} : opIdx S (.tup (x :: y :: z :: u :: r)) (.int 3) = some u := by
  have e : L2.atI (x :: y :: z :: u :: r) 3 = some u := (ixn (i := 3) (by simp)).trans rfl
  simp [opIdx, seqA, e]
theorem ne_str {x a : PySem.Str} (h1 : sOk x) (h2 : sOk a) : opNe S (.str x) (.str a) = some (.bl (!decide (x = a))) := by
  have e : deq (.str x) (.str a) = decide (x = a) := by rw [deq]; rfl
  have e1 : shp9 (.str x) = true := h1
  have e2 : shp9 (.str a) = true := h2
  simp [opNe, opEqB, res, e, e1, e2]
theorem step4 {w x y z : D} : stepB (.tup [w, x, y, z]) = false := step_not (by simp [rowB])
theorem row0 {ds : List D} {m : Int} : rowB (.tup ds) 0 m = decide ((ds.length : Int) ≤ m) := by
  have e : (0 : Int) ≤ ds.length := by omega
  simp [rowB, e]
theorem ev_any (h : vok n l v) : Cs tab WF (k + 4) 12 [v] S = .ok (.bl (anyB v)) S := by
  show runDef (Cs tab WF (k + 3)) WF 2 ir_is_any_step [v] S = _
  cases hr : rowB v 4 4 with
  | false =>
    have e : anyB v = stepB v := any_step fun w x y z q => by rw [q] at hr; simp [rowB] at hr
    simp [runDef, Pd.execs, s_set, s_par, s_ret, s_retN, s_expr, s_ite, s_setix, s_raise, s_pass, d_nm, d_k, d_op, d_neg, d_not, d_and, d_or, d_ite, d_tup, d_lst, d_slc, d_rev, d_chain, d_bi, d_call, d_push, d_pop0, d_lstC, denT, denL, denI, denC, denO, lstM, bind_ap, ok_bind, pure_ok, caM, opM, unM, lift, Op.g, Bi.g, Pd.finish, thaw, callM, truD, ir_is_any_step, ev_is_row (k := k + 2) 4 4 h, hr, ev_is_step (k := k) h, e]
  | true =>
    obtain ⟨ds, rfl, h1, h2⟩ := rowB_tup hr
    obtain ⟨w, x, y, z, rfl⟩ := four_of h1 h2
    obtain ⟨m, rfl, _, hv⟩ := vok_tup h
    have hw : vok m l w := hv w (by simp)
    have hx : vok m l x := hv x (by simp)
    have hy : vok m l y := hv y (by simp)
    have hz : vok m l z := hv z (by simp)
    cases hs : isS w with
    | false =>
      have e : anyB (.tup [w, x, y, z]) = stepB (.tup [w, x, y, z]) := any_step fun w' x y z q => by cases q; cases hs
      simp [runDef, Pd.execs, s_set, s_par, s_ret, s_retN, s_expr, s_ite, s_setix, s_raise, s_pass, d_nm, d_k, d_op, d_neg, d_not, d_and, d_or, d_ite, d_tup, d_lst, d_slc, d_rev, d_chain, d_bi, d_call, d_push, d_pop0, d_lstC, denT, denL, denI, denC, denO, lstM, bind_ap, ok_bind, pure_ok, caM, opM, unM, lift, Op.g, Bi.g, Pd.finish, thaw, callM, truD, ir_is_any_step, ev_is_row (k := k + 2) 4 4 h, hr, ev_is_step (k := k) h, e, id0, isi_str hw, hs]
    | true =>
      obtain ⟨w, rfl, ow⟩ := isS_of hw hs
      have q1 := ne_str (S := S) ow ok_if
      have ab : anyB (.tup [.str w, x, y, z]) = (decide (w = "if") && (sideB x && (rowsB y && rowsB z))) := rfl
      rw [ab]
      generalize decide (w = "if") = b1 at q1 ⊢
      cases b1 with
      | false => simp [runDef, Pd.execs, s_set, s_par, s_ret, s_retN, s_expr, s_ite, s_setix, s_raise, s_pass, d_nm, d_k, d_op, d_neg, d_not, d_and, d_or, d_ite, d_tup, d_lst, d_slc, d_rev, d_chain, d_bi, d_call, d_push, d_pop0, d_lstC, denT, denL, denI, denC, denO, lstM, bind_ap, ok_bind, pure_ok, caM, opM, unM, lift, Op.g, Bi.g, Pd.finish, thaw, callM, truD, ir_is_any_step, ev_is_row (k := k + 2) 4 4 h, hr, ev_is_step (k := k) h, id0, isi_str hw, hs, q1, step4]
      | true =>
        cases e1 : sideB x with
        | false => simp [runDef, Pd.execs, s_set, s_par, s_ret, s_retN, s_expr, s_ite, s_setix, s_raise, s_pass, d_nm, d_k, d_op, d_neg, d_not, d_and, d_or, d_ite, d_tup, d_lst, d_slc, d_rev, d_chain, d_bi, d_call, d_push, d_pop0, d_lstC, denT, denL, denI, denC, denO, lstM, bind_ap, ok_bind, pure_ok, caM, opM, unM, lift, Op.g, Bi.g, Pd.finish, thaw, callM, truD, ir_is_any_step, ev_is_row (k := k + 2) 4 4 h, hr, id0, id1, isi_str hw, hs, q1, ev_side (k := k + 2) hx, e1]
        | true =>
          cases e2 : rowB y 0 2 with
          | false =>
            have e3 : rowsB y = false := by
              cases y with
              | tup ys => rw [row0] at e2; simp [rowsB, e2]
              | _ => rfl
            simp [runDef, Pd.execs, s_set, s_par, s_ret, s_retN, s_expr, s_ite, s_setix, s_raise, s_pass, d_nm, d_k, d_op, d_neg, d_not, d_and, d_or, d_ite, d_tup, d_lst, d_slc, d_rev, d_chain, d_bi, d_call, d_push, d_pop0, d_lstC, denT, denL, denI, denC, denO, lstM, bind_ap, ok_bind, pure_ok, caM, opM, unM, lift, Op.g, Bi.g, Pd.finish, thaw, callM, truD, ir_is_any_step, ev_is_row (k := k + 2) 4 4 h, hr, id0, id1, id2, isi_str hw, hs, q1, ev_side (k := k + 2) hx, e1, ev_is_row (k := k + 2) 0 2 hy, e2, e3]
          | true =>
            cases e3 : rowB z 0 2 with
            | false =>
              have e4 : rowsB z = false := by
                cases z with
                | tup ys => rw [row0] at e3; simp [rowsB, e3]
                | _ => rfl
              simp [runDef, Pd.execs, s_set, s_par, s_ret, s_retN, s_expr, s_ite, s_setix, s_raise, s_pass, d_nm, d_k, d_op, d_neg, d_not, d_and, d_or, d_ite, d_tup, d_lst, d_slc, d_rev, d_chain, d_bi, d_call, d_push, d_pop0, d_lstC, denT, denL, denI, denC, denO, lstM, bind_ap, ok_bind, pure_ok, caM, opM, unM, lift, Op.g, Bi.g, Pd.finish, thaw, callM, truD, ir_is_any_step, ev_is_row (k := k + 2) 4 4 h, hr, id0, id1, id2, id3, isi_str hw, hs, q1, ev_side (k := k + 2) hx, e1, ev_is_row (k := k + 2) 0 2 hy, ev_is_row (k := k + 2) 0 2 hz, e2, e3, e4]
            | true =>
              obtain ⟨ys, rfl, _, ly⟩ := rowB_tup e2
              obtain ⟨zs, rfl, _, lz⟩ := rowB_tup e3
              obtain ⟨m1, rfl, _, hvy⟩ := vok_tup hy
              have hvz := (vok_tup hz)
              obtain ⟨m2, hm2, _, hvz⟩ := hvz
              have ll : ys.length + zs.length ≤ 16777216 := by omega
              have ad : opAdd S (.tup ys) (.tup zs) = some (.tup (ys ++ zs)) := by simp [opAdd, ll]
              have f1 : den (Cs tab WF (k + 3)) (.comp (.call false 11 [(.nm 1)]) (.nm 1) (.seq (.op .add (.op .idx (.nm 0) (.k (.int 2))) (.op .idx (.nm 0) (.k (.int 3))))) none [1]) [some (.tup [.str w, x, .tup ys, .tup zs]), none] S = .ok (.lst ((ys ++ zs).map fun d => .bl (stepB d))) S := by
                refine den_map (items := ys ++ zs) (by simp [runDef, Pd.execs, s_set, s_par, s_ret, s_retN, s_expr, s_ite, s_setix, s_raise, s_pass, d_nm, d_k, d_op, d_neg, d_not, d_and, d_or, d_ite, d_tup, d_lst, d_slc, d_rev, d_chain, d_bi, d_call, d_push, d_pop0, d_lstC, denT, denL, denI, denC, denO, lstM, bind_ap, ok_bind, pure_ok, caM, opM, unM, lift, Op.g, Bi.g, Pd.finish, thaw, callM, truD, itemsOf, id2, id3, ad]) (by rw [List.length_append]; exact ll) fun d hd => ⟨_, rfl, ?_⟩
                rcases List.mem_append.mp hd with hd | hd
                · simp [runDef, Pd.execs, s_set, s_par, s_ret, s_retN, s_expr, s_ite, s_setix, s_raise, s_pass, d_nm, d_k, d_op, d_neg, d_not, d_and, d_or, d_ite, d_tup, d_lst, d_slc, d_rev, d_chain, d_bi, d_call, d_push, d_pop0, d_lstC, denT, denL, denI, denC, denO, lstM, bind_ap, ok_bind, pure_ok, caM, opM, unM, lift, Op.g, Bi.g, Pd.finish, thaw, callM, truD, wipeD, ev_is_step (k := k) (hvy d hd)]
                · simp [runDef, Pd.execs, s_set, s_par, s_ret, s_retN, s_expr, s_ite, s_setix, s_raise, s_pass, d_nm, d_k, d_op, d_neg, d_not, d_and, d_or, d_ite, d_tup, d_lst, d_slc, d_rev, d_chain, d_bi, d_call, d_push, d_pop0, d_lstC, denT, denL, denI, denC, denO, lstM, bind_ap, ok_bind, pure_ok, caM, opM, unM, lift, Op.g, Bi.g, Pd.finish, thaw, callM, truD, wipeD, ev_is_step (k := k) (hvz d hd)]
              have g1 : biAll S [.lst ((ys ++ zs).map fun d => .bl (stepB d))] = some (.bl (rowsB (.tup ys) && rowsB (.tup zs))) := by
                rw [all_map, List.all_append]
                simp [rowsB, ly, lz]
              generalize (ys ++ zs).map (fun d => D.bl (stepB d)) = bs at f1 g1
              simp [runDef, Pd.execs, s_set, s_par, s_ret, s_retN, s_expr, s_ite, s_setix, s_raise, s_pass, d_nm, d_k, d_op, d_neg, d_not, d_and, d_or, d_ite, d_tup, d_lst, d_slc, d_rev, d_chain, d_bi, d_call, d_push, d_pop0, d_lstC, denT, denL, denI, denC, denO, lstM, bind_ap, ok_bind, pure_ok, caM, opM, unM, lift, Op.g, Bi.g, Pd.finish, thaw, callM, truD, ir_is_any_step, ev_is_row (k := k + 2) 4 4 h, hr, id0, id1, id2, id3, isi_str hw, hs, q1, ev_side (k := k + 2) hx, e1, ev_is_row (k := k + 2) 0 2 hy, ev_is_row (k := k + 2) 0 2 hz, e2, e3, f1, g1]
theorem ev_script (hn : l ≤ 16777216) (h : vok n l v) : Cs tab WF (k + 5) 13 [v] S = .ok (.bl (scriptB v)) S := by
  show runDef (Cs tab WF (k + 4)) WF 2 ir_is_script [v] S = _
  cases hr : rowB v 0 4 with
  | false =>
    have e : scriptB v = false := by
      cases v with
      | tup ys => rw [row0] at hr; simp [scriptB, hr]
      | _ => rfl
    simp [runDef, Pd.execs, s_set, s_par, s_ret, s_retN, s_expr, s_ite, s_setix, s_raise, s_pass, d_nm, d_k, d_op, d_neg, d_not, d_and, d_or, d_ite, d_tup, d_lst, d_slc, d_rev, d_chain, d_bi, d_call, d_push, d_pop0, d_lstC, denT, denL, denI, denC, denO, lstM, bind_ap, ok_bind, pure_ok, caM, opM, unM, lift, Op.g, Bi.g, Pd.finish, thaw, callM, truD, ir_is_script, ev_is_row (k := k + 3) 0 4 h, hr, e]
  | true =>
    obtain ⟨ds, rfl, _, hl⟩ := rowB_tup hr
    obtain ⟨m, rfl, _, hv⟩ := vok_tup h
    have f1 : den (Cs tab WF (k + 4)) (.comp (.call false 12 [(.nm 1)]) (.nm 1) (.seq (.nm 0)) none [1]) [some (.tup ds), none] S = .ok (.lst (ds.map fun d => .bl (anyB d))) S := by
      refine den_map (items := ds) (by simp [runDef, Pd.execs, s_set, s_par, s_ret, s_retN, s_expr, s_ite, s_setix, s_raise, s_pass, d_nm, d_k, d_op, d_neg, d_not, d_and, d_or, d_ite, d_tup, d_lst, d_slc, d_rev, d_chain, d_bi, d_call, d_push, d_pop0, d_lstC, denT, denL, denI, denC, denO, lstM, bind_ap, ok_bind, pure_ok, caM, opM, unM, lift, Op.g, Bi.g, Pd.finish, thaw, callM, truD, itemsOf]) (by omega) fun d hd => ⟨_, rfl, ?_⟩
      simp [runDef, Pd.execs, s_set, s_par, s_ret, s_retN, s_expr, s_ite, s_setix, s_raise, s_pass, d_nm, d_k, d_op, d_neg, d_not, d_and, d_or, d_ite, d_tup, d_lst, d_slc, d_rev, d_chain, d_bi, d_call, d_push, d_pop0, d_lstC, denT, denL, denI, denC, denO, lstM, bind_ap, ok_bind, pure_ok, caM, opM, unM, lift, Op.g, Bi.g, Pd.finish, thaw, callM, truD, wipeD, ev_any (k := k) (hv d hd)]
    have g1 : biAll S [.lst (ds.map fun d => .bl (anyB d))] = some (.bl (scriptB (.tup ds))) := by
      rw [all_map]
      simp [scriptB, hl]
    generalize ds.map (fun d => D.bl (anyB d)) = bs at f1 g1
    simp [runDef, Pd.execs, s_set, s_par, s_ret, s_retN, s_expr, s_ite, s_setix, s_raise, s_pass, d_nm, d_k, d_op, d_neg, d_not, d_and, d_or, d_ite, d_tup, d_lst, d_slc, d_rev, d_chain, d_bi, d_call, d_push, d_pop0, d_lstC, denT, denL, denI, denC, denO, lstM, bind_ap, ok_bind, pure_ok, caM, opM, unM, lift, Op.g, Bi.g, Pd.finish, thaw, callM, truD, ir_is_script, ev_is_row (k := k + 3) 0 4 h, hr, f1, g1]
end Lw

end
section
set_option Elab.async false
set_option linter.all false
set_option maxRecDepth 100000
set_option maxHeartbeats 4000000
namespace Lw
open Pd
variable {k n l : Nat} {S : Store} {v : D}
theorem ev_rows {a b c : Option D} {r : D} (hn : l ≤ 16777216) (hd : n ≤ 38) (h : vok n l r) : Pd.execs (Cs tab WF (k + 2)) WF [.ite (.or (.not (.bi (.isi "tuple") [(.nm 2)])) (.op .gt (.bi .len [(.nm 2)]) (.k (.int 2)))) [.ret (.k (.bl false))] [], .ite (.op .ne (.comp (.nm 3) (.nm 3) (.seq (.nm 2)) (some (.not (.call false 33 [(.nm 3)]))) [3]) (.lst false [])) [.ret (.k (.bl false))] []] [a, b, some r, c] S = .ok (if rowsB r then .nx [a, b, some r, c] else .ret (.bl false)) S := by
  cases ht : isT r with
  | false =>
    have hb : rowsB r = false := by cases r <;> first | rfl | cases ht
    simp [runDef, Pd.execs, s_set, s_par, s_ret, s_retN, s_expr, s_ite, s_setix, s_raise, s_pass, d_nm, d_k, d_op, d_neg, d_not, d_and, d_or, d_ite, d_tup, d_lst, d_slc, d_rev, d_chain, d_bi, d_call, d_push, d_pop0, d_lstC, denT, denL, denI, denC, denO, lstM, bind_ap, ok_bind, pure_ok, caM, opM, unM, lift, Op.g, Bi.g, Pd.finish, thaw, callM, truD, isi_tup h, ht, hb]
  | true =>
    obtain ⟨ds, rfl⟩ := isT_of ht
    obtain ⟨m, rfl, _, hv⟩ := vok_tup h
    by_cases hl : (ds.length : Int) ≤ 2
    · have hg : ¬ (2 < (ds.length : Int)) := by omega
      have f1 : den (Cs tab WF (k + 2)) (.comp (.nm 3) (.nm 3) (.seq (.nm 2)) (some (.not (.call false 33 [(.nm 3)]))) [3]) [a, b, some (.tup ds), c] S = .ok (.lst (ds.filter fun d => !stepB d)) S := by
        have q := den_filt (C := Cs tab WF (k + 2)) (S := S) (elt := .nm 3) (t := .not (.call false 33 [(.nm 3)])) (tg := .nm 3) (it := .seq (.nm 2)) (own := [3]) (ρ := [a, b, some (.tup ds), c]) (items := ds) (g := id) (p := fun d => !stepB d) (by simp [runDef, Pd.execs, s_set, s_par, s_ret, s_retN, s_expr, s_ite, s_setix, s_raise, s_pass, d_nm, d_k, d_op, d_neg, d_not, d_and, d_or, d_ite, d_tup, d_lst, d_slc, d_rev, d_chain, d_bi, d_call, d_push, d_pop0, d_lstC, denT, denL, denI, denC, denO, lstM, bind_ap, ok_bind, pure_ok, caM, opM, unM, lift, Op.g, Bi.g, Pd.finish, thaw, callM, truD, itemsOf]) (by omega) (fun d hd => by
          refine ⟨_, rfl, ?_, ?_⟩
          · simp [runDef, Pd.execs, s_set, s_par, s_ret, s_retN, s_expr, s_ite, s_setix, s_raise, s_pass, d_nm, d_k, d_op, d_neg, d_not, d_and, d_or, d_ite, d_tup, d_lst, d_slc, d_rev, d_chain, d_bi, d_call, d_push, d_pop0, d_lstC, denT, denL, denI, denC, denO, lstM, bind_ap, ok_bind, pure_ok, caM, opM, unM, lift, Op.g, Bi.g, Pd.finish, thaw, callM, truD, wipeD, ev_good_step (k := k) (hv d hd)]
          · simp [runDef, Pd.execs, s_set, s_par, s_ret, s_retN, s_expr, s_ite, s_setix, s_raise, s_pass, d_nm, d_k, d_op, d_neg, d_not, d_and, d_or, d_ite, d_tup, d_lst, d_slc, d_rev, d_chain, d_bi, d_call, d_push, d_pop0, d_lstC, denT, denL, denI, denC, denO, lstM, bind_ap, ok_bind, pure_ok, caM, opM, unM, lift, Op.g, Bi.g, Pd.finish, thaw, callM, truD, wipeD])
        rw [q, List.map_id]
      have s1 : shp9 (.lst (ds.filter fun d => !stepB d)) = true := shp_lst (by omega) fun d hd => hv d (List.mem_filter.mp hd).1
      have n1 : opNe S (.lst (ds.filter fun d => !stepB d)) (.lst []) = some (.bl (!(rowsB (.tup ds)))) := by
        rw [ne_nil s1, filt_all]
        simp [rowsB, hl]
      clear s1
      generalize (ds.filter fun d => !stepB d) = zs1 at f1 n1
      cases e : rowsB (.tup ds) <;> simp [runDef, Pd.execs, s_set, s_par, s_ret, s_retN, s_expr, s_ite, s_setix, s_raise, s_pass, d_nm, d_k, d_op, d_neg, d_not, d_and, d_or, d_ite, d_tup, d_lst, d_slc, d_rev, d_chain, d_bi, d_call, d_push, d_pop0, d_lstC, denT, denL, denI, denC, denO, lstM, bind_ap, ok_bind, pure_ok, caM, opM, unM, lift, Op.g, Bi.g, Pd.finish, thaw, callM, truD, isi_tup h, ht, len_tup, opGt, opCmp, hg, f1, n1, e]
    · have hg : (2 < (ds.length : Int)) := by omega
      have hb : rowsB (.tup ds) = false := by simp [rowsB, hl]
      simp [runDef, Pd.execs, s_set, s_par, s_ret, s_retN, s_expr, s_ite, s_setix, s_raise, s_pass, d_nm, d_k, d_op, d_neg, d_not, d_and, d_or, d_ite, d_tup, d_lst, d_slc, d_rev, d_chain, d_bi, d_call, d_push, d_pop0, d_lstC, denT, denL, denI, denC, denO, lstM, bind_ap, ok_bind, pure_ok, caM, opM, unM, lift, Op.g, Bi.g, Pd.finish, thaw, callM, truD, isi_tup h, ht, len_tup, opGt, opCmp, hg, hb]
theorem anyB_ne {ds : List D} (h : ¬ (ds.length : Int) = 4) : anyB (.tup ds) = stepB (.tup ds) := any_step fun w x y z q => by cases q; simp at h
theorem anyB_nostr {x : D} {r : List D} (h : isS x = false) : anyB (.tup (x :: r)) = stepB (.tup (x :: r)) := any_step fun w' x y z q => by cases q; cases h
theorem ev_one {a c : D} {r : Option D} (hn : l ≤ 16777216) (hd : n ≤ 39) (h : vok n l c) : ∃ r', Pd.execs (Cs tab WF (k + 2)) WF [.ite (.and (.bi (.isi "tuple") [(.nm 1)]) (.and (.op .eq (.bi .len [(.nm 1)]) (.k (.int 4))) (.and (.bi (.isi "str") [(.op .idx (.nm 1) (.k (.int 0)))]) (.op .eq (.op .idx (.nm 1) (.k (.int 0))) (.k (.str "if")))))) [.ite (.or (.not (.bi (.isi "str") [(.op .idx (.nm 1) (.k (.int 1)))])) (.op .notIn (.op .idx (.nm 1) (.k (.int 1))) (.lst false [(.k (.str "out")), (.k (.str "in"))]))) [.ret (.k (.bl false))] [], .for_ (.nm 2) (.seq (.slc (.nm 1) (some (.k (.int 2))) none)) [.ite (.or (.not (.bi (.isi "tuple") [(.nm 2)])) (.op .gt (.bi .len [(.nm 2)]) (.k (.int 2)))) [.ret (.k (.bl false))] [], .ite (.op .ne (.comp (.nm 3) (.nm 3) (.seq (.nm 2)) (some (.not (.call false 33 [(.nm 3)]))) [3]) (.lst false [])) [.ret (.k (.bl false))] []]] [.ite (.not (.call false 33 [(.nm 1)])) [.ret (.k (.bl false))] []]] [some a, some c, r, none] S = .ok (if anyB c then .nx [some a, some c, r', none] else .ret (.bl false)) S := by
  cases ht : isT c with
  | false =>
    have hb : anyB c = stepB c := any_step fun w x y z q => by rw [q] at ht; cases ht
    refine ⟨r, ?_⟩
    rw [hb]
    cases e : stepB c <;> simp [runDef, Pd.execs, s_set, s_par, s_ret, s_retN, s_expr, s_ite, s_setix, s_raise, s_pass, d_nm, d_k, d_op, d_neg, d_not, d_and, d_or, d_ite, d_tup, d_lst, d_slc, d_rev, d_chain, d_bi, d_call, d_push, d_pop0, d_lstC, denT, denL, denI, denC, denO, lstM, bind_ap, ok_bind, pure_ok, caM, opM, unM, lift, Op.g, Bi.g, Pd.finish, thaw, callM, truD, isi_tup h, ht, ev_good_step (k := k) h, e]
  | true =>
    obtain ⟨ds, rfl⟩ := isT_of ht
    obtain ⟨m, rfl, _, hv⟩ := vok_tup h
    by_cases h4 : (ds.length : Int) = 4
    · obtain ⟨w, x, y, z, rfl⟩ := four_of (ds := ds) (by omega) (by omega)
      have hw : vok m l w := hv w (by simp)
      have hx : vok m l x := hv x (by simp)
      have hy : vok m l y := hv y (by simp)
      have hz : vok m l z := hv z (by simp)
      have e4 : opEq S (.int 4) (.int 4) = some (.bl true) := by rw [eq_int]; rfl
      cases hs : isS w with
      | false =>
        refine ⟨r, ?_⟩
        rw [anyB_nostr hs, step4]
        simp [runDef, Pd.execs, s_set, s_par, s_ret, s_retN, s_expr, s_ite, s_setix, s_raise, s_pass, d_nm, d_k, d_op, d_neg, d_not, d_and, d_or, d_ite, d_tup, d_lst, d_slc, d_rev, d_chain, d_bi, d_call, d_push, d_pop0, d_lstC, denT, denL, denI, denC, denO, lstM, bind_ap, ok_bind, pure_ok, caM, opM, unM, lift, Op.g, Bi.g, Pd.finish, thaw, callM, truD, isi_tup h, ht, len_tup, e4, id0, isi_str hw, hs, ev_good_step (k := k) h, step4]
      | true =>
        obtain ⟨w, rfl, ow⟩ := isS_of hw hs
        have q1 := eq_str (S := S) ow ok_if
        have ab : anyB (.tup [.str w, x, y, z]) = (decide (w = "if") && (sideB x && (rowsB y && rowsB z))) := rfl
        rw [ab]
        clear ab
        generalize decide (w = "if") = b1 at q1 ⊢
        cases b1 with
        | false =>
          refine ⟨r, ?_⟩
          simp [runDef, Pd.execs, s_set, s_par, s_ret, s_retN, s_expr, s_ite, s_setix, s_raise, s_pass, d_nm, d_k, d_op, d_neg, d_not, d_and, d_or, d_ite, d_tup, d_lst, d_slc, d_rev, d_chain, d_bi, d_call, d_push, d_pop0, d_lstC, denT, denL, denI, denC, denO, lstM, bind_ap, ok_bind, pure_ok, caM, opM, unM, lift, Op.g, Bi.g, Pd.finish, thaw, callM, truD, isi_tup h, ht, len_tup, e4, id0, isi_str hw, hs, q1, ev_good_step (k := k) h, step4]
        | true =>
          cases hxs : isS x with
          | false =>
            have sd : sideB x = false := by cases x <;> first | rfl | cases hxs
            refine ⟨r, ?_⟩
            simp [runDef, Pd.execs, s_set, s_par, s_ret, s_retN, s_expr, s_ite, s_setix, s_raise, s_pass, d_nm, d_k, d_op, d_neg, d_not, d_and, d_or, d_ite, d_tup, d_lst, d_slc, d_rev, d_chain, d_bi, d_call, d_push, d_pop0, d_lstC, denT, denL, denI, denC, denO, lstM, bind_ap, ok_bind, pure_ok, caM, opM, unM, lift, Op.g, Bi.g, Pd.finish, thaw, callM, truD, isi_tup h, ht, len_tup, e4, id0, id1, isi_str hw, isi_str hx, hxs, hs, q1, sd]
          | true =>
            obtain ⟨x, rfl, ox⟩ := isS_of hx hxs
            have sd : sideB (.str x) = (decide (x = "out") || decide (x = "in")) := rfl
            have il := notin_lst2 (S := S) ox ok_out ok_in
            rw [← sd] at il
            cases e1 : sideB (.str x) with
            | false =>
              refine ⟨r, ?_⟩
              simp [runDef, Pd.execs, s_set, s_par, s_ret, s_retN, s_expr, s_ite, s_setix, s_raise, s_pass, d_nm, d_k, d_op, d_neg, d_not, d_and, d_or, d_ite, d_tup, d_lst, d_slc, d_rev, d_chain, d_bi, d_call, d_push, d_pop0, d_lstC, denT, denL, denI, denC, denO, lstM, bind_ap, ok_bind, pure_ok, caM, opM, unM, lift, Op.g, Bi.g, Pd.finish, thaw, callM, truD, isi_tup h, ht, len_tup, e4, id0, id1, isi_str hw, isi_str hx, hxs, hs, q1, il, e1]
            | true =>
              have es : sliceD (.tup [.str w, .str x, y, z]) (some 2) none S = some (.tup [y, z]) := slice_from (j := 2) (by simp)
              obtain ⟨ρ', ⟨r', rfl⟩, f1⟩ := for_ex (S := S) (C := Cs tab WF (k + 2)) (w := WF) (g := .nm 2) (it := .seq (.slc (.nm 1) (some (.k (.int 2))) none)) (b := [.ite (.or (.not (.bi (.isi "tuple") [(.nm 2)])) (.op .gt (.bi .len [(.nm 2)]) (.k (.int 2)))) [.ret (.k (.bl false))] [], .ite (.op .ne (.comp (.nm 3) (.nm 3) (.seq (.nm 2)) (some (.not (.call false 33 [(.nm 3)]))) [3]) (.lst false [])) [.ret (.k (.bl false))] []]) (p := rowsB) (fun ρ => ∃ x', ρ = [some a, some (.tup [.str w, .str x, y, z]), x', none]) (.bl false) (items := [y, z]) (ρ := [some a, some (.tup [.str w, .str x, y, z]), r, none]) (by simp [runDef, Pd.execs, s_set, s_par, s_ret, s_retN, s_expr, s_ite, s_setix, s_raise, s_pass, d_nm, d_k, d_op, d_neg, d_not, d_and, d_or, d_ite, d_tup, d_lst, d_slc, d_rev, d_chain, d_bi, d_call, d_push, d_pop0, d_lstC, denT, denL, denI, denC, denO, lstM, bind_ap, ok_bind, pure_ok, caM, opM, unM, lift, Op.g, Bi.g, Pd.finish, thaw, callM, truD, itemsOf, es]) ⟨_, rfl⟩ (fun d hd' ρ ⟨x', hx'⟩ => by
                subst hx'
                have hdv : vok m l d := by
                  rcases List.mem_cons.mp hd' with e | hd'
                  · rw [e]; exact hy
                  · rw [List.mem_singleton.mp hd']; exact hz
                exact ⟨_, rfl, _, ⟨_, rfl⟩, ev_rows (k := k) hn (by omega) hdv⟩)
              refine ⟨r', ?_⟩
              have al : ([y, z].all rowsB) = (rowsB y && rowsB z) := by simp
              rw [al] at f1
              simp only [Bool.true_and]
              generalize (rowsB y && rowsB z) = b2 at f1 ⊢
              cases b2 <;> simp [runDef, Pd.execs, s_set, s_par, s_ret, s_retN, s_expr, s_ite, s_setix, s_raise, s_pass, d_nm, d_k, d_op, d_neg, d_not, d_and, d_or, d_ite, d_tup, d_lst, d_slc, d_rev, d_chain, d_bi, d_call, d_push, d_pop0, d_lstC, denT, denL, denI, denC, denO, lstM, bind_ap, ok_bind, pure_ok, caM, opM, unM, lift, Op.g, Bi.g, Pd.finish, thaw, callM, truD, isi_tup h, ht, len_tup, e4, id0, id1, isi_str hw, isi_str hx, hxs, hs, q1, il, e1, f1]
    · refine ⟨r, ?_⟩
      rw [anyB_ne h4]
      have e4 : opEq S (.int ds.length) (.int 4) = some (.bl false) := by rw [eq_int, decide_eq_false h4]
      cases e : stepB (.tup ds) <;> simp [runDef, Pd.execs, s_set, s_par, s_ret, s_retN, s_expr, s_ite, s_setix, s_raise, s_pass, d_nm, d_k, d_op, d_neg, d_not, d_and, d_or, d_ite, d_tup, d_lst, d_slc, d_rev, d_chain, d_bi, d_call, d_push, d_pop0, d_lstC, denT, denL, denI, denC, denO, lstM, bind_ap, ok_bind, pure_ok, caM, opM, unM, lift, Op.g, Bi.g, Pd.finish, thaw, callM, truD, isi_tup h, ht, len_tup, e4, ev_good_step (k := k) h, e]
theorem ev_good_script (hn : l ≤ 16777216) (hd : n ≤ 38) (h : vok n l v) : Cs tab WF (k + 3) 34 [v] S = .ok (.bl (scriptB v)) S := by
  show runDef (Cs tab WF (k + 2)) WF 4 ir__law_good_script [v] S = _
  cases ht : isT v with
  | false =>
    have hb : scriptB v = false := by cases v <;> first | rfl | cases ht
    simp [runDef, Pd.execs, s_set, s_par, s_ret, s_retN, s_expr, s_ite, s_setix, s_raise, s_pass, d_nm, d_k, d_op, d_neg, d_not, d_and, d_or, d_ite, d_tup, d_lst, d_slc, d_rev, d_chain, d_bi, d_call, d_push, d_pop0, d_lstC, denT, denL, denI, denC, denO, lstM, bind_ap, ok_bind, pure_ok, caM, opM, unM, lift, Op.g, Bi.g, Pd.finish, thaw, callM, truD, ir__law_good_script, isi_tup h, ht, hb]
  | true =>
    obtain ⟨ds, rfl⟩ := isT_of ht
    obtain ⟨m, rfl, _, hv⟩ := vok_tup h
    by_cases hl : (ds.length : Int) ≤ 4
    · have hg : ¬ (4 < (ds.length : Int)) := by omega
      obtain ⟨ρ', ⟨x', r', rfl⟩, f1⟩ := for_ex (S := S) (C := Cs tab WF (k + 2)) (w := WF) (g := .nm 1) (it := .seq (.nm 0)) (b := [.ite (.and (.bi (.isi "tuple") [(.nm 1)]) (.and (.op .eq (.bi .len [(.nm 1)]) (.k (.int 4))) (.and (.bi (.isi "str") [(.op .idx (.nm 1) (.k (.int 0)))]) (.op .eq (.op .idx (.nm 1) (.k (.int 0))) (.k (.str "if")))))) [.ite (.or (.not (.bi (.isi "str") [(.op .idx (.nm 1) (.k (.int 1)))])) (.op .notIn (.op .idx (.nm 1) (.k (.int 1))) (.lst false [(.k (.str "out")), (.k (.str "in"))]))) [.ret (.k (.bl false))] [], .for_ (.nm 2) (.seq (.slc (.nm 1) (some (.k (.int 2))) none)) [.ite (.or (.not (.bi (.isi "tuple") [(.nm 2)])) (.op .gt (.bi .len [(.nm 2)]) (.k (.int 2)))) [.ret (.k (.bl false))] [], .ite (.op .ne (.comp (.nm 3) (.nm 3) (.seq (.nm 2)) (some (.not (.call false 33 [(.nm 3)]))) [3]) (.lst false [])) [.ret (.k (.bl false))] []]] [.ite (.not (.call false 33 [(.nm 1)])) [.ret (.k (.bl false))] []]]) (p := anyB) (fun ρ => ∃ x r, ρ = [some (.tup ds), x, r, none]) (.bl false) (items := ds) (ρ := [some (.tup ds), none, none, none]) (by simp [runDef, Pd.execs, s_set, s_par, s_ret, s_retN, s_expr, s_ite, s_setix, s_raise, s_pass, d_nm, d_k, d_op, d_neg, d_not, d_and, d_or, d_ite, d_tup, d_lst, d_slc, d_rev, d_chain, d_bi, d_call, d_push, d_pop0, d_lstC, denT, denL, denI, denC, denO, lstM, bind_ap, ok_bind, pure_ok, caM, opM, unM, lift, Op.g, Bi.g, Pd.finish, thaw, callM, truD, itemsOf]) ⟨_, _, rfl⟩ (fun d hd' ρ ⟨x', r, hx'⟩ => by
        subst hx'
        obtain ⟨r', q⟩ := ev_one (k := k) (S := S) (a := .tup ds) (r := r) hn (by omega) (hv d hd')
        exact ⟨_, rfl, _, ⟨_, _, rfl⟩, q⟩)
      have sb : scriptB (.tup ds) = ds.all anyB := by simp [scriptB, hl]
      rw [sb]
      generalize ds.all anyB = b2 at f1 ⊢
      cases b2 <;> simp [runDef, Pd.execs, s_set, s_par, s_ret, s_retN, s_expr, s_ite, s_setix, s_raise, s_pass, d_nm, d_k, d_op, d_neg, d_not, d_and, d_or, d_ite, d_tup, d_lst, d_slc, d_rev, d_chain, d_bi, d_call, d_push, d_pop0, d_lstC, denT, denL, denI, denC, denO, lstM, bind_ap, ok_bind, pure_ok, caM, opM, unM, lift, Op.g, Bi.g, Pd.finish, thaw, callM, truD, ir__law_good_script, isi_tup h, ht, len_tup, opGt, opCmp, hg, f1]
    · have hg : (4 < (ds.length : Int)) := by omega
      have hb : scriptB (.tup ds) = false := by simp [scriptB, hl]
      simp [runDef, Pd.execs, s_set, s_par, s_ret, s_retN, s_expr, s_ite, s_setix, s_raise, s_pass, d_nm, d_k, d_op, d_neg, d_not, d_and, d_or, d_ite, d_tup, d_lst, d_slc, d_rev, d_chain, d_bi, d_call, d_push, d_pop0, d_lstC, denT, denL, denI, denC, denO, lstM, bind_ap, ok_bind, pure_ok, caM, opM, unM, lift, Op.g, Bi.g, Pd.finish, thaw, callM, truD, ir__law_good_script, isi_tup h, ht, len_tup, opGt, opCmp, hg, hb]
end Lw

end
section
set_option Elab.async false
set_option linter.all false
set_option maxRecDepth 100000
set_option maxHeartbeats 4000000
namespace Lw
open Pd
variable {k n l c : Nat} {S S' S'' : Store} {v : D} {bs : List D}
def Ints (bs : List D) : Prop := ∀ d ∈ bs, ∃ i, d = D.int i
def Bag (c : Nat) (S : Store) : Prop := ∃ bs, S[c]? = some bs ∧ Ints bs
structure Sm (c : Nat) (S S' : Store) : Prop where
  bag : Bag c S'
  len : S'.length = S.length
  same : ∀ d, d ≠ c → S'[d]? = S[d]?
theorem Sm.refl (h : Bag c S) : Sm c S S := ⟨h, rfl, fun _ _ => rfl⟩
theorem Sm.trans (a : Sm c S S') (b : Sm c S' S'') : Sm c S S'' := ⟨b.bag, b.len.trans a.len, fun d h => (b.same d h).trans (a.same d h)⟩
theorem Bag.lt (h : Bag c S) : c < S.length := by
  obtain ⟨bs, h, _⟩ := h
  exact (List.getElem?_eq_some_iff.mp h).1
theorem ints_shp (h : Ints bs) : shp9 (.lst bs) = true := by
  show bs.all (shp 39) = true
  exact List.all_eq_true.mpr fun d hd => by
    obtain ⟨i, rfl⟩ := h d hd
    rfl
theorem ev_truly (b : Bool) : Cs tab WF (k + 1) 26 [.bl b, .bl b] S = .ok (.bl true) S := by
  show runDef (Cs tab WF k) WF 2 ir__law_truly [.bl b, .bl b] S = _
  have e : opEq S (.bl b) (.bl b) = some (.bl true) := by
    have e : deq (.bl b) (.bl b) = true := by cases b <;> rfl
    have e1 : shp9 (.bl b) = true := rfl
    simp [opEq, opEqB, res, e, e1]
  simp [runDef, Pd.execs, s_set, s_par, s_ret, s_retN, s_expr, s_ite, s_setix, s_raise, s_pass, d_nm, d_k, d_op, d_neg, d_not, d_and, d_or, d_ite, d_tup, d_lst, d_slc, d_rev, d_chain, d_bi, d_call, d_push, d_pop0, d_lstC, denT, denL, denI, denC, denO, lstM, bind_ap, ok_bind, pure_ok, caM, opM, unM, lift, Op.g, Bi.g, Pd.finish, thaw, callM, truD, ir__law_truly, isiD, tyN, kb_NoneType_int, kb_NoneType_bool, kb_NoneType_str, kb_NoneType_tuple, kb_NoneType_list, kb_bool_int, kb_bool_bool, kb_bool_str, kb_bool_tuple, kb_bool_list, kb_int_int, kb_int_bool, kb_int_str, kb_int_tuple, kb_int_list, kb_str_int, kb_str_bool, kb_str_str, kb_str_tuple, kb_str_list, kb_tuple_int, kb_tuple_bool, kb_tuple_str, kb_tuple_tuple, kb_tuple_list, kb_list_int, kb_list_bool, kb_list_str, kb_list_tuple, kb_list_list, e]
theorem ne_cell (hc : S[c]? = some bs) (hb : Ints bs) : opNe S (.cell c) (.lst []) = some (.bl (!bs.isEmpty)) := by
  have e : deq (.lst bs) (.lst []) = bs.isEmpty := by rw [deq, deqs_nil]
  have e2 : shp9 (.lst []) = true := rfl
  simp [opNe, opEqB, res, hc, ints_shp hb, e, e2]
theorem at_ex {α : Type} (xs : List α) {j : Int} (h0 : 0 ≤ j) (h1 : j < xs.length) : ∃ x, L2.atI xs j = some x ∧ x ∈ xs := by
  have e : L2.ixN xs.length j = some j.toNat := by
    unfold L2.ixN
    simp [h0, h1]
  have hj : j.toNat < xs.length := by omega
  exact ⟨xs[j.toNat], by unfold L2.atI; rw [e]; simp [hj], List.getElem_mem _⟩
theorem ev_take (hb : Bag c S) {m : Int} (hm : 0 < m) : ∃ i S', Sm c S S' ∧ 0 ≤ i ∧ i < m ∧ Cs tab WF (k + 1) 19 [.cell c, .int m] S = .ok (.int i) S' := by
  obtain ⟨bs, hc, hi⟩ := hb
  have hcl : c < S.length := (List.getElem?_eq_some_iff.mp hc).1
  have q := ne_cell hc hi
  cases bs with
  | nil =>
    refine ⟨0, S, .refl ⟨[], hc, hi⟩, Int.le_refl _, hm, ?_⟩
    show runDef (Cs tab WF k) WF 3 ir__law_take [.cell c, .int m] S = _
    simp [runDef, Pd.execs, s_set, s_par, s_ret, s_retN, s_expr, s_ite, s_setix, s_raise, s_pass, d_nm, d_k, d_op, d_neg, d_not, d_and, d_or, d_ite, d_tup, d_lst, d_slc, d_rev, d_chain, d_bi, d_call, d_push, d_pop0, d_lstC, denT, denL, denI, denC, denO, lstM, bind_ap, ok_bind, pure_ok, caM, opM, unM, lift, Op.g, Bi.g, Pd.finish, thaw, callM, truD, ir__law_take, q, biInt, opMod, hm, bindG]
  | cons x r =>
    obtain ⟨i, rfl⟩ := hi x (by simp)
    refine ⟨i % m, S.set c r, ⟨⟨r, by simp [hcl], fun d hd => hi d (by simp [hd])⟩, by simp, fun d hd => by rw [List.getElem?_set_ne (Ne.symm hd)]⟩, Int.emod_nonneg _ (by omega), Int.emod_lt_of_pos _ hm, ?_⟩
    show runDef (Cs tab WF k) WF 3 ir__law_take [.cell c, .int m] S = _
    simp [runDef, Pd.execs, s_set, s_par, s_ret, s_retN, s_expr, s_ite, s_setix, s_raise, s_pass, d_nm, d_k, d_op, d_neg, d_not, d_and, d_or, d_ite, d_tup, d_lst, d_slc, d_rev, d_chain, d_bi, d_call, d_push, d_pop0, d_lstC, denT, denL, denI, denC, denO, lstM, bind_ap, ok_bind, pure_ok, caM, opM, unM, lift, Op.g, Bi.g, Pd.finish, thaw, callM, truD, ir__law_take, q, biInt, opMod, hm, bindG, asCell, pop0M, hc]
theorem len_lst {ds : List D} : biLen S [.lst ds] = some (.int ds.length) := rfl
theorem ev_choice {ds : List D} (hb : Bag c S) (hne : 0 < ds.length) (hv : ∀ d ∈ ds, vok 1 0 d) : ∃ d S', Sm c S S' ∧ d ∈ ds ∧ Cs tab WF (k + 2) 20 [.cell c, .lst ds] S = .ok d S' := by
  obtain ⟨i, S', hs, h0, h1, e⟩ := ev_take (k := k) hb (m := ds.length) (by omega)
  obtain ⟨d, hd, hm⟩ := at_ex ds h0 h1
  refine ⟨d, S', hs, hm, ?_⟩
  show runDef (Cs tab WF (k + 1)) WF 2 ir__law_choice [.cell c, .lst ds] S = _
  rcases vok_ty (hv d hm) with rfl | ⟨b, rfl⟩ | ⟨i, rfl⟩ | ⟨x, rfl, _, _⟩ | ⟨ds, rfl⟩ | ⟨ds, rfl⟩ <;> simp [runDef, Pd.execs, s_set, s_par, s_ret, s_retN, s_expr, s_ite, s_setix, s_raise, s_pass, d_nm, d_k, d_op, d_neg, d_not, d_and, d_or, d_ite, d_tup, d_lst, d_slc, d_rev, d_chain, d_bi, d_call, d_push, d_pop0, d_lstC, denT, denL, denI, denC, denO, lstM, bind_ap, ok_bind, pure_ok, caM, opM, unM, lift, Op.g, Bi.g, Pd.finish, thaw, callM, truD, ir__law_choice, len_lst, e, opIdx, seqA, seqL, hd, hs.len]
def sV (x : PySem.Str) : Prop := sOk x ∧ x.length ≤ 100
theorem sv_lie : sV "lie" := ⟨by decide +kernel, by decide +kernel⟩
theorem sv_top : sV "top" := ⟨by decide +kernel, by decide +kernel⟩
theorem sv_wait : sV "wait" := ⟨by decide +kernel, by decide +kernel⟩
theorem sv_sail : sV "sail" := ⟨by decide +kernel, by decide +kernel⟩
theorem sv_load : sV "load" := ⟨by decide +kernel, by decide +kernel⟩
theorem sv_if : sV "if" := ⟨by decide +kernel, by decide +kernel⟩
theorem sv_out : sV "out" := ⟨by decide +kernel, by decide +kernel⟩
theorem sv_in : sV "in" := ⟨by decide +kernel, by decide +kernel⟩
theorem sv_1 : sV "1" := ⟨by decide +kernel, by decide +kernel⟩
theorem vok_str {x : PySem.Str} (h : sV x) : vok (n + 1) l (.str x) := h
theorem vok_int {i : Int} : vok (n + 1) l (.int i) := trivial
theorem vok_tup' {ds : List D} (h1 : ds.length ≤ l) (h2 : ∀ d ∈ ds, vok n l d) : vok (n + 1) l (.tup ds) := ⟨h1, h2⟩
theorem ev_gstep (hb : Bag c S) : ∃ ds S', Sm c S S' ∧ vok 2 2 (.tup ds) ∧ Cs tab WF (k + 3) 24 [.cell c] S = .ok (.tup ds) S' := by
  obtain ⟨i, S1, s1, h0, h1, e⟩ := ev_take (k := k + 1) hb (m := 9) (by decide)
  by_cases a1 : i < 4
  · have hl : ∀ d ∈ ([.str "out", .str "out", .str "in"] : List D), ∃ x, d = .str x ∧ sV x := fun d hd => by
      simp only [List.mem_cons, List.not_mem_nil, or_false] at hd
      rcases hd with rfl | rfl | rfl
      · exact ⟨_, rfl, sv_out⟩
      · exact ⟨_, rfl, sv_out⟩
      · exact ⟨_, rfl, sv_in⟩
    obtain ⟨d, S2, s2, hm, e2⟩ := ev_choice (k := k) (ds := [.str "out", .str "out", .str "in"]) s1.bag (by simp) (fun d hd => by
      obtain ⟨x, rfl, hx⟩ := hl d hd
      exact hx)
    obtain ⟨x, rfl, hx⟩ := hl d hm
    refine ⟨[.str "sail", .str x], S2, s1.trans s2, vok_tup' (by simp) ?_, ?_⟩
    · intro d hd
      simp only [List.mem_cons, List.not_mem_nil, or_false] at hd
      rcases hd with rfl | rfl
      · exact sv_sail
      · exact hx
    · show runDef (Cs tab WF (k + 2)) WF 2 ir__law_step [.cell c] S = _
      simp [runDef, Pd.execs, s_set, s_par, s_ret, s_retN, s_expr, s_ite, s_setix, s_raise, s_pass, d_nm, d_k, d_op, d_neg, d_not, d_and, d_or, d_ite, d_tup, d_lst, d_slc, d_rev, d_chain, d_bi, d_call, d_push, d_pop0, d_lstC, denT, denL, denI, denC, denO, lstM, bind_ap, ok_bind, pure_ok, caM, opM, unM, lift, Op.g, Bi.g, Pd.finish, thaw, callM, truD, ir__law_step, e, bindG, opLt, opCmp, a1, e2, s1.len, s2.len]
  · by_cases a2 : i = 4
    · obtain ⟨j, S2, s2, _, _, e2⟩ := ev_take (k := k + 1) s1.bag (m := 25) (by decide)
      have q : opEq S1 (.int i) (.int 4) = some (.bl true) := by rw [eq_int, decide_eq_true a2]
      refine ⟨[.str "wait", .int j], S2, s1.trans s2, vok_tup' (by simp) ?_, ?_⟩
      · intro d hd
        simp only [List.mem_cons, List.not_mem_nil, or_false] at hd
        rcases hd with rfl | rfl
        · exact sv_wait
        · exact vok_int
      · show runDef (Cs tab WF (k + 2)) WF 2 ir__law_step [.cell c] S = _
        simp [runDef, Pd.execs, s_set, s_par, s_ret, s_retN, s_expr, s_ite, s_setix, s_raise, s_pass, d_nm, d_k, d_op, d_neg, d_not, d_and, d_or, d_ite, d_tup, d_lst, d_slc, d_rev, d_chain, d_bi, d_call, d_push, d_pop0, d_lstC, denT, denL, denI, denC, denO, lstM, bind_ap, ok_bind, pure_ok, caM, opM, unM, lift, Op.g, Bi.g, Pd.finish, thaw, callM, truD, ir__law_step, e, bindG, opLt, opCmp, a1, q, e2, s1.len, s2.len]
    · have q : opEq S1 (.int i) (.int 4) = some (.bl false) := by rw [eq_int, decide_eq_false a2]
      by_cases a3 : i < 7
      · refine ⟨[.str "lie"], S1, s1, vok_tup' (by simp) ?_, ?_⟩
        · intro d hd
          rw [List.mem_singleton.mp hd]
          exact sv_lie
        · show runDef (Cs tab WF (k + 2)) WF 2 ir__law_step [.cell c] S = _
          simp [runDef, Pd.execs, s_set, s_par, s_ret, s_retN, s_expr, s_ite, s_setix, s_raise, s_pass, d_nm, d_k, d_op, d_neg, d_not, d_and, d_or, d_ite, d_tup, d_lst, d_slc, d_rev, d_chain, d_bi, d_call, d_push, d_pop0, d_lstC, denT, denL, denI, denC, denO, lstM, bind_ap, ok_bind, pure_ok, caM, opM, unM, lift, Op.g, Bi.g, Pd.finish, thaw, callM, truD, ir__law_step, e, bindG, opLt, opCmp, a1, q, a3, s1.len]
      · by_cases a4 : i = 7
        · have q2 : opEq S1 (.int i) (.int 7) = some (.bl true) := by rw [eq_int, decide_eq_true a4]
          refine ⟨[.str "top"], S1, s1, vok_tup' (by simp) ?_, ?_⟩
          · intro d hd
            rw [List.mem_singleton.mp hd]
            exact sv_top
          · show runDef (Cs tab WF (k + 2)) WF 2 ir__law_step [.cell c] S = _
            simp [runDef, Pd.execs, s_set, s_par, s_ret, s_retN, s_expr, s_ite, s_setix, s_raise, s_pass, d_nm, d_k, d_op, d_neg, d_not, d_and, d_or, d_ite, d_tup, d_lst, d_slc, d_rev, d_chain, d_bi, d_call, d_push, d_pop0, d_lstC, denT, denL, denI, denC, denO, lstM, bind_ap, ok_bind, pure_ok, caM, opM, unM, lift, Op.g, Bi.g, Pd.finish, thaw, callM, truD, ir__law_step, e, bindG, opLt, opCmp, a1, q, a3, q2, s1.len]
        · have q2 : opEq S1 (.int i) (.int 7) = some (.bl false) := by rw [eq_int, decide_eq_false a4]
          have hl : ∀ d ∈ ([.int (-9), .int (-2), .int (-1), .int 1, .int 2, .int 5] : List D), ∃ x, d = .int x := fun d hd => by
            simp only [List.mem_cons, List.not_mem_nil, or_false] at hd
            rcases hd with rfl | rfl | rfl | rfl | rfl | rfl <;> exact ⟨_, rfl⟩
          obtain ⟨d, S2, s2, hm, e2⟩ := ev_choice (k := k) (ds := [.int (-9), .int (-2), .int (-1), .int 1, .int 2, .int 5]) s1.bag (by simp) (fun d hd => by
            obtain ⟨x, rfl⟩ := hl d hd
            exact vok_int)
          obtain ⟨x, rfl⟩ := hl d hm
          refine ⟨[.str "load", .int x], S2, s1.trans s2, vok_tup' (by simp) ?_, ?_⟩
          · intro d hd
            simp only [List.mem_cons, List.not_mem_nil, or_false] at hd
            rcases hd with rfl | rfl
            · exact sv_load
            · exact vok_int
          · show runDef (Cs tab WF (k + 2)) WF 2 ir__law_step [.cell c] S = _
            simp [runDef, Pd.execs, s_set, s_par, s_ret, s_retN, s_expr, s_ite, s_setix, s_raise, s_pass, d_nm, d_k, d_op, d_neg, d_not, d_and, d_or, d_ite, d_tup, d_lst, d_slc, d_rev, d_chain, d_bi, d_call, d_push, d_pop0, d_lstC, denT, denL, denI, denC, denO, lstM, bind_ap, ok_bind, pure_ok, caM, opM, unM, lift, Op.g, Bi.g, Pd.finish, thaw, callM, truD, ir__law_step, e, bindG, opLt, opCmp, a1, q, a3, q2, unNeg, e2, s1.len, s2.len]
theorem ev_gboat {t : D} {ss r : List D} (hb : Bag c S) (hs : 0 < ss.length) : ∃ ds S', Sm c S S' ∧ vok 2 3 (.tup ds) ∧ Cs tab WF (k + 2) 23 [.cell c, .tup (t :: .tup ss :: r)] S = .ok (.tup ds) S' := by
  obtain ⟨i1, S1, s1, _, _, e1⟩ := ev_take (k := k) hb (m := ss.length) (by omega)
  obtain ⟨i2, S2, s2, _, _, e2⟩ := ev_take (k := k) s1.bag (m := 4) (by decide)
  obtain ⟨i3, S3, s3, _, _, e3⟩ := ev_take (k := k) s2.bag (m := 30) (by decide)
  refine ⟨[.int i1, .int i2, .int i3], S3, (s1.trans s2).trans s3, vok_tup' (by simp) ?_, ?_⟩
  · intro d hd
    simp only [List.mem_cons, List.not_mem_nil, or_false] at hd
    rcases hd with rfl | rfl | rfl <;> exact vok_int
  · show runDef (Cs tab WF (k + 1)) WF 2 ir__law_boat [.cell c, .tup (t :: .tup ss :: r)] S = _
    simp [runDef, Pd.execs, s_set, s_par, s_ret, s_retN, s_expr, s_ite, s_setix, s_raise, s_pass, d_nm, d_k, d_op, d_neg, d_not, d_and, d_or, d_ite, d_tup, d_lst, d_slc, d_rev, d_chain, d_bi, d_call, d_push, d_pop0, d_lstC, denT, denL, denI, denC, denO, lstM, bind_ap, ok_bind, pure_ok, caM, opM, unM, lift, Op.g, Bi.g, Pd.finish, thaw, callM, truD, ir__law_boat, id1, len_tup, e1, e2, e3, s1.len, s2.len, s3.len]
end Lw

end
section
set_option Elab.async false
set_option linter.all false
set_option maxRecDepth 100000
set_option maxHeartbeats 1000000
/-! Derivations: what the terms evaluate to, rule by rule. -/
namespace Pd
open PySem PySem.Spec PyProof.Rows L2
theorem ok_bind {α β : Type} (a : α) (S : Store) (f : α → M β) : R.bind (.ok a S) f = f a S := rfl
theorem err_bind {α β : Type} (c : Nat) (S : Store) (f : α → M β) : R.bind (.err c S) f = .err c S := rfl
theorem pure_ok {α : Type} (a : α) (S : Store) : (Pure.pure a : M α) S = .ok a S := rfl
theorem bind_ap {α β : Type} (x : M α) (f : α → M β) (S : Store) : (x >>= f) S = (x S).bind f := rfl
section
variable {C : Nat → List D → M D} {w : Nat} {ρ ρ1 ρ2 : Env'} {S S1 S2 S3 S4 : Store} {d x y z u : D} {a b c e : E} {ds items : List D} {b1 b2 : Bool} {n i j k f cl : Nat} {l h : Option Int}
/-! values -/
theorem v_nm (hr : ρ[i]? = some (some d)) : den C (.nm i) ρ S = .ok d S := by rw [den, hr]; rfl
theorem v_k : den C (.k d) ρ S = .ok d S := by rw [den]; rfl
theorem v_op {o : Op} (ha : den C a ρ S = .ok x S1) (hb : den C b ρ S1 = .ok y S2) (ho : o.g S2 x y = some z) : den C (.op o a b) ρ S = .ok z S2 := by
  rw [den]; simp only [bind_ap, ha, ok_bind, hb, opM, ho]
theorem v_neg (ha : den C a ρ S = .ok x S1) (ho : unNeg S1 x = some z) : den C (.neg a) ρ S = .ok z S1 := by
  rw [den]; simp only [bind_ap, ha, ok_bind, unM, ho]
theorem v_not (ha : den C a ρ S = .ok (.bl b1) S1) : den C (.not a) ρ S = .ok (.bl !b1) S1 := by
  rw [den]; simp only [bind_ap, ha, ok_bind]; rfl
theorem v_and_t (ha : den C a ρ S = .ok (.bl b1) S1) (h1 : b1 = true) (hb : den C b ρ S1 = .ok y S2) : den C (.and a b) ρ S = .ok y S2 := by
  rw [den]; simp only [bind_ap, ha, ok_bind, h1, hb]
theorem v_and_f (ha : den C a ρ S = .ok (.bl b1) S1) (h1 : b1 = false) : den C (.and a b) ρ S = .ok (.bl false) S1 := by
  rw [den]; simp only [bind_ap, ha, ok_bind, h1]; rfl
theorem v_and (ha : den C a ρ S = .ok (.bl b1) S1) (hb : den C b ρ S1 = .ok (.bl b2) S1) : den C (.and a b) ρ S = .ok (.bl (b1 && b2)) S1 := by
  cases b1
  · exact v_and_f ha rfl
  · exact v_and_t ha rfl hb
theorem v_or_t (ha : den C a ρ S = .ok (.bl b1) S1) (h1 : b1 = true) : den C (.or a b) ρ S = .ok (.bl true) S1 := by
  rw [den]; simp only [bind_ap, ha, ok_bind, h1]; rfl
theorem v_or_f (ha : den C a ρ S = .ok (.bl b1) S1) (h1 : b1 = false) (hb : den C b ρ S1 = .ok y S2) : den C (.or a b) ρ S = .ok y S2 := by
  rw [den]; simp only [bind_ap, ha, ok_bind, h1, hb]
theorem v_or (ha : den C a ρ S = .ok (.bl b1) S1) (hb : den C b ρ S1 = .ok (.bl b2) S1) : den C (.or a b) ρ S = .ok (.bl (b1 || b2)) S1 := by
  cases b1
  · exact v_or_f ha rfl hb
  · exact v_or_t ha rfl
theorem v_ite_t (hc : denT C c ρ S = .ok b1 S1) (h1 : b1 = true) (ha : den C a ρ S1 = .ok x S2) : den C (.ite c a b) ρ S = .ok x S2 := by
  rw [den]; simp only [bind_ap, hc, ok_bind, h1, ha]
theorem v_ite_f (hc : denT C c ρ S = .ok b1 S1) (h1 : b1 = false) (hb : den C b ρ S1 = .ok y S2) : den C (.ite c a b) ρ S = .ok y S2 := by
  rw [den]; simp only [bind_ap, hc, ok_bind, h1, hb]
theorem v_ite (hc : denT C c ρ S = .ok b1 S1) (ha : den C a ρ S1 = .ok x S1) (hb : den C b ρ S1 = .ok y S1) : den C (.ite c a b) ρ S = .ok (bif b1 then x else y) S1 := by
  cases b1
  · exact v_ite_f hc rfl hb
  · exact v_ite_t hc rfl ha
theorem l_nil : denL C [] ρ S = .ok [] S := by rw [denL]; rfl
theorem l_cons {es : List E} (ha : den C e ρ S = .ok d S1) (hb : denL C es ρ S1 = .ok ds S2) : denL C (e :: es) ρ S = .ok (d :: ds) S2 := by
  rw [denL]; simp only [bind_ap, ha, ok_bind, hb]; rfl
theorem v_tup {es : List E} (hl : denL C es ρ S = .ok ds S1) (hz : ds.length ≤ 16777216) : den C (.tup es) ρ S = .ok (.tup ds) S1 := by
  rw [den]; simp only [bind_ap, hl, ok_bind, hz, if_true]; rfl
theorem v_lst {es : List E} (hl : denL C es ρ S = .ok ds S1) (hz : ds.length ≤ 16777216) : den C (.lst false es) ρ S = .ok (.lst ds) S1 := by
  rw [den]; simp only [bind_ap, hl, ok_bind, hz, if_true, lstM]; rfl
theorem v_lstN {es : List E} (hl : denL C es ρ S = .ok ds S1) (hz : ds.length ≤ 16777216) (hs : ds.all shp9 = true) : den C (.lst true es) ρ S = .ok (.cell S1.length) (S1 ++ [ds]) := by
  rw [den]; simp only [bind_ap, hl, ok_bind, hz, if_true, lstM, newCell, hs]
theorem o_none : denO C none ρ S = .ok none S := by rw [denO]; rfl
theorem o_some {i : Int} (ha : den C a ρ S = .ok (.int i) S1) : denO C (some a) ρ S = .ok (some i) S1 := by rw [denO]; simp only [bind_ap, ha, ok_bind]; rfl
theorem v_slc {lo hi : Option E} (ha : den C a ρ S = .ok x S1) (h1 : denO C lo ρ S1 = .ok l S2) (h2 : denO C hi ρ S2 = .ok h S3) (hs : sliceD x l h S3 = some z) : den C (.slc a lo hi) ρ S = .ok z S3 := by
  rw [den]; simp only [bind_ap, ha, ok_bind, h1, h2, lift, hs]
theorem v_rev (ha : den C a ρ S = .ok x S1) (hs : revD x S1 = some z) : den C (.rev a) ρ S = .ok z S1 := by
  rw [den]; simp only [bind_ap, ha, ok_bind, lift, hs]
theorem v_chain_t {o p : Op} (ha : den C a ρ S = .ok x S1) (hb : den C b ρ S1 = .ok y S2) (ho : o.g S2 x y = some (.bl b1)) (h1 : b1 = true) (hc : den C c ρ S2 = .ok z S3) (hp : p.g S3 y z = some u) : den C (.chain o p a b c) ρ S = .ok u S3 := by
  subst h1; rw [den]; simp only [bind_ap, ha, ok_bind, hb, opM, ho, hc, hp]
theorem v_chain_f {o p : Op} (ha : den C a ρ S = .ok x S1) (hb : den C b ρ S1 = .ok y S2) (ho : o.g S2 x y = some (.bl b1)) (h1 : b1 = false) : den C (.chain o p a b c) ρ S = .ok (.bl false) S2 := by
  subst h1; rw [den]; simp only [bind_ap, ha, ok_bind, hb, opM, ho]; rfl
theorem v_chain {o p : Op} (ha : den C a ρ S = .ok x S1) (hb : den C b ρ S1 = .ok y S2) (ho : o.g S2 x y = some (.bl b1)) (hc : den C c ρ S2 = .ok z S2) (hp : p.g S2 y z = some (.bl b2)) : den C (.chain o p a b c) ρ S = .ok (.bl (b1 && b2)) S2 := by
  cases b1
  · exact v_chain_f ha hb ho rfl
  · exact v_chain_t ha hb ho rfl hc hp
theorem v_bi {bi : Bi} {es : List E} (hl : denL C es ρ S = .ok ds S1) (hb : bi.g S1 ds = some z) : den C (.bi bi es) ρ S = .ok z S1 := by
  rw [den]; simp only [bind_ap, hl, ok_bind, caM, hb]
theorem callM_ok (hc : C f ds S = .ok d S1) : callM C f ds S = .ok d S1 := by
  cases ds with
  | nil => show noErr (C f []) S = _; simp only [noErr, hc]
  | cons d ds => exact hc
def isCell : D → Bool
  | .cell _ => true
  | _ => false
theorem thaw_v {keep : Bool} {m : M D} (hm : m S = .ok d S1) (hd : isCell d = false) : thaw keep m S = .ok d S1 := by
  unfold thaw
  rw [hm]
  cases d <;> first | rfl | cases hd
/-- a call that hands back no list of its own -/
theorem v_call {keep : Bool} {es : List E} (hl : denL C es ρ S = .ok ds S1) (hc : C f ds S1 = .ok d S2) (hd : isCell d = false) : den C (.call keep f es) ρ S = .ok d S2 := by
  rw [den]; simp only [bind_ap, hl, ok_bind]
  exact thaw_v (callM_ok hc) hd
theorem v_callK {es : List E} (hl : denL C es ρ S = .ok ds S1) (hc : C f ds S1 = .ok (.cell k) S2) : den C (.call true f es) ρ S = .ok (.cell k) S2 := by
  rw [den]; simp only [bind_ap, hl, ok_bind, thaw, callM_ok hc, if_true]
/-- .. a list of its own, taken as a value -/
theorem v_callF {es : List E} (hl : denL C es ρ S = .ok ds S1) (hc : C f ds S1 = .ok (.cell S1.length) (S1 ++ [items])) : den C (.call false f es) ρ S = .ok (.lst items) S1 := by
  rw [den]; simp only [bind_ap, hl, ok_bind, thaw, callM_ok hc]
  simp
theorem v_push (ha : den C a ρ S = .ok (.cell k) S1) (he : den C e ρ S1 = .ok y S2) (hk : S2[k]? = some ds) (hz : ds.length < 16777216) (hs : shp9 y = true) : den C (.push a e) ρ S = .ok .non (S2.set k (ds ++ [y])) := by
  rw [den]; simp only [bind_ap, ha, ok_bind, asCell, pure_ok, he, pushM, hk, hz, hs, decide_true, Bool.and_self, if_true]
theorem v_pop0 (ha : den C a ρ S = .ok (.cell k) S1) (hk : S1[k]? = some (d :: ds)) : den C (.pop0 a) ρ S = .ok d (S1.set k ds) := by
  rw [den]; simp only [bind_ap, ha, ok_bind, asCell, pure_ok, pop0M, hk]
theorem v_lstC (ha : den C a ρ S = .ok x S1) (hq : seqA S1 x = some ds) (hs : ds.all shp9 = true) : den C (.lstC a) ρ S = .ok (.cell S1.length) (S1 ++ [ds]) := by
  rw [den]; simp only [bind_ap, ha, ok_bind, lift, hq, newCell, hs, if_true]
theorem v_lam {nm : List Str} (he : den C e ρ S = .ok d S1) : den C (.lam nm e) ρ S = .ok (.str ("" : Str)) S1 := by
  rw [den]; simp only [he]
theorem v_lamE {nm : List Str} {t : Str} (he : den C e ρ S = .err cl S1) (ht : nm[cl]? = some t) : den C (.lam nm e) ρ S = .ok (.str t) S1 := by
  rw [den]; simp only [he, ht]
/-! tests -/
def plainTest : E → Bool
  | .not _ => false | .and _ _ => false | .or _ _ => false | .ite _ _ _ => false
  | _ => true
theorem t_of (hp : plainTest e = true) (he : den C e ρ S = .ok x S1) (ht : truD S1 x = some b1) : denT C e ρ S = .ok b1 S1 := by
  cases e <;> first | (cases hp; done) | (rw [denT] <;> first | (simp only [bind_ap, he, ok_bind, lift, ht]; done) | (intros; contradiction))
theorem t_not (ha : denT C a ρ S = .ok b1 S1) : denT C (.not a) ρ S = .ok (!b1) S1 := by
  rw [denT]; simp only [bind_ap, ha, ok_bind]; rfl
theorem t_and_t (ha : denT C a ρ S = .ok b1 S1) (h1 : b1 = true) (hb : denT C b ρ S1 = .ok b2 S2) : denT C (.and a b) ρ S = .ok b2 S2 := by
  rw [denT]; simp only [bind_ap, ha, ok_bind, h1, hb]
theorem t_and_f (ha : denT C a ρ S = .ok b1 S1) (h1 : b1 = false) : denT C (.and a b) ρ S = .ok false S1 := by
  rw [denT]; simp only [bind_ap, ha, ok_bind, h1]; rfl
theorem t_and (ha : denT C a ρ S = .ok b1 S1) (hb : denT C b ρ S1 = .ok b2 S1) : denT C (.and a b) ρ S = .ok (b1 && b2) S1 := by
  cases b1
  · exact t_and_f ha rfl
  · exact t_and_t ha rfl hb
theorem t_or_t (ha : denT C a ρ S = .ok b1 S1) (h1 : b1 = true) : denT C (.or a b) ρ S = .ok true S1 := by
  rw [denT]; simp only [bind_ap, ha, ok_bind, h1]; rfl
theorem t_or_f (ha : denT C a ρ S = .ok b1 S1) (h1 : b1 = false) (hb : denT C b ρ S1 = .ok b2 S2) : denT C (.or a b) ρ S = .ok b2 S2 := by
  rw [denT]; simp only [bind_ap, ha, ok_bind, h1, hb]
theorem t_or (ha : denT C a ρ S = .ok b1 S1) (hb : denT C b ρ S1 = .ok b2 S1) : denT C (.or a b) ρ S = .ok (b1 || b2) S1 := by
  cases b1
  · exact t_or_f ha rfl hb
  · exact t_or_t ha rfl
theorem c_none : denC C none ρ S = .ok true S := by rw [denC]; rfl
theorem c_some (ha : denT C a ρ S = .ok b1 S1) : denC C (some a) ρ S = .ok b1 S1 := by rw [denC]; exact ha
/-! what is walked -/
theorem i_seq (ha : den C a ρ S = .ok x S1) (hi : itemsOf S1 x = some items) : denI C (.seq a) ρ S = .ok items S1 := by
  rw [denI]; simp only [bind_ap, ha, ok_bind, lift, hi]
theorem i_rng {j : Int} (ha : den C a ρ S = .ok (.int j) S1) (hz : j ≤ 16777216 ∧ -16777216 ≤ j) : denI C (.rng a) ρ S = .ok (rngOf 0 j) S1 := by
  rw [denI]; simp only [bind_ap, ha, ok_bind, hz, and_self, if_true]; rfl
theorem i_rng2 {i j : Int} (ha : den C a ρ S = .ok (.int i) S1) (hb : den C b ρ S1 = .ok (.int j) S2) (hz : j ≤ 16777216 ∧ -16777216 ≤ j ∧ i ≤ 16777216 ∧ -16777216 ≤ i) : denI C (.rng2 a b) ρ S = .ok (rngOf i j) S2 := by
  rw [denI]; simp only [bind_ap, ha, ok_bind, hb, hz, and_self, if_true]; rfl
theorem i_zipT {xs ys : List D} (ha : den C a ρ S = .ok (.tup xs) S1) (hb : den C b ρ S1 = .ok (.tup ys) S2) : denI C (.zip a b) ρ S = .ok (zipOf xs ys) S2 := by
  rw [denI]; simp only [bind_ap, ha, ok_bind, hb]; rfl
theorem i_zipL {xs ys : List D} (ha : den C a ρ S = .ok (.lst xs) S1) (hb : den C b ρ S1 = .ok (.lst ys) S2) : denI C (.zip a b) ρ S = .ok (zipOf xs ys) S2 := by
  rw [denI]; simp only [bind_ap, ha, ok_bind, hb]; rfl
theorem i_enum {xs : List D} (ha : den C a ρ S = .ok (.lst xs) S1) : denI C (.enum a) ρ S = .ok (enumOf 0 xs) S1 := by
  rw [denI]; simp only [bind_ap, ha, ok_bind]; rfl
/-! comprehensions: f what is made of each item, none where it is left out -/
theorem lc_go {g : D → M (Option D)} {fo : D → Option D} : ∀ (items acc : List D), (∀ d ∈ items, g d S = .ok (fo d) S) → acc.length + items.length ≤ 16777216 → lcLoop g items acc S = .ok (acc ++ items.filterMap fo) S
  | [], acc, _, _ => by rw [lcLoop]; simp [pure_ok]
  | d :: ds, acc, h, hz => by
    rw [List.length_cons] at hz
    rw [lcLoop]
    simp only [bind_ap, h d List.mem_cons_self, ok_bind]
    cases e : fo d with
    | none =>
      simp only []
      rw [lc_go ds acc (fun d hd => h d (List.mem_cons_of_mem _ hd)) (by omega), List.filterMap_cons, e]
    | some x =>
      simp only []
      rw [if_pos (by omega), lc_go ds (acc ++ [x]) (fun d hd => h d (List.mem_cons_of_mem _ hd)) (by rw [List.length_append, List.length_singleton]; omega), List.filterMap_cons, e]
      simp
theorem v_comp {elt : E} {g : G} {it : It} {ifs : Option E} {own : List Nat} (fo : D → Option D) (hi : denI C it ρ S = .ok items S1) (hz : items.length ≤ 16777216)
    (h : ∀ d ∈ items, ∃ ρ1, bindG g d (wipeD ρ own) = some ρ1 ∧ ((denC C ifs ρ1 S1 = .ok false S1 ∧ fo d = none) ∨ ∃ x, denC C ifs ρ1 S1 = .ok true S1 ∧ den C elt ρ1 S1 = .ok x S1 ∧ fo d = some x)) : den C (.comp elt g it ifs own) ρ S = .ok (.lst (items.filterMap fo)) S1 := by
  rw [den]
  simp only [bind_ap, hi, ok_bind, noErr]
  rw [lc_go (S := S1) (fo := fo) items [] (fun d hd => ?_) (by simpa using hz)]
  · simp [ok_bind, pure_ok]
  · obtain ⟨ρ1, h1, h2⟩ := h d hd
    rw [h1]
    rcases h2 with ⟨h2, h3⟩ | ⟨x, h2, h3, h4⟩
    · simp [bind_ap, h2, ok_bind, h3, pure_ok]
    · simp [bind_ap, h2, ok_bind, h3, h4, pure_ok]
theorem fm_map (fm : D → D) (items : List D) : items.filterMap (fun d => some (fm d)) = items.map fm := by simp
/-- without a condition -/
theorem v_compM {elt : E} {g : G} {it : It} {own : List Nat} (fm : D → D) (hi : denI C it ρ S = .ok items S1) (hz : items.length ≤ 16777216)
    (h : ∀ d ∈ items, ∃ ρ1, bindG g d (wipeD ρ own) = some ρ1 ∧ den C elt ρ1 S1 = .ok (fm d) S1) : den C (.comp elt g it none own) ρ S = .ok (.lst (items.map fm)) S1 := by
  rw [← fm_map]
  exact v_comp _ hi hz fun d hd => by
    obtain ⟨ρ1, h1, h2⟩ := h d hd
    exact ⟨ρ1, h1, .inr ⟨_, c_none, h2, rfl⟩⟩
theorem fm_filter (p : D → Bool) (fm : D → D) (items : List D) : items.filterMap (fun d => bif p d then some (fm d) else none) = (items.filter p).map fm := by
  induction items with
  | nil => rfl
  | cons d ds ih => cases e : p d <;> simp [List.filterMap_cons, List.filter_cons, e, ih]
theorem v_compF {elt t : E} {g : G} {it : It} {own : List Nat} (p : D → Bool) (fm : D → D) (hi : denI C it ρ S = .ok items S1) (hz : items.length ≤ 16777216)
    (h : ∀ d ∈ items, ∃ ρ1, bindG g d (wipeD ρ own) = some ρ1 ∧ denT C t ρ1 S1 = .ok (p d) S1 ∧ (p d = true → den C elt ρ1 S1 = .ok (fm d) S1)) : den C (.comp elt g it (some t) own) ρ S = .ok (.lst ((items.filter p).map fm)) S1 := by
  rw [← fm_filter]
  exact v_comp _ hi hz fun d hd => by
    obtain ⟨ρ1, h1, h2, h3⟩ := h d hd
    refine ⟨ρ1, h1, ?_⟩
    cases e : p d with
    | false => exact .inl ⟨by rw [← e]; exact c_some h2, rfl⟩
    | true => exact .inr ⟨_, by rw [← e]; exact c_some h2, h3 e, rfl⟩
/-! statements -/
theorem x_set {g : G} (he : den C e ρ S = .ok d S1) (hb : bindG g d ρ = some ρ1) : Pd.exec C w (.set g e) ρ S = .ok (.nx ρ1) S1 := by
  rw [Pd.exec]; simp only [bind_ap, he, ok_bind, hb]; rfl
theorem x_par {is : List Nat} {es : List E} (hl : denL C es ρ S = .ok ds S1) (hr : setAll is ds ρ = ρ1) : Pd.exec C w (.par is es) ρ S = .ok (.nx ρ1) S1 := by
  subst hr; rw [Pd.exec]; simp only [bind_ap, hl, ok_bind]; rfl
theorem x_ret (he : den C e ρ S = .ok d S1) : Pd.exec C w (.ret e) ρ S = .ok (.ret d) S1 := by
  rw [Pd.exec]; simp only [bind_ap, he, ok_bind]; rfl
theorem x_retN : Pd.exec C w .retN ρ S = .ok (.ret .non) S := by rw [Pd.exec]; rfl
theorem x_expr (he : den C e ρ S = .ok d S1) : Pd.exec C w (.expr e) ρ S = .ok (.nx ρ) S1 := by
  rw [Pd.exec]; simp only [bind_ap, he, ok_bind]; rfl
theorem x_ite_t {xs ys : List Pd.S} {r : Pd.R Fl} (hc : denT C c ρ S = .ok b1 S1) (h1 : b1 = true) (ha : execs C w xs ρ S1 = r) : Pd.exec C w (.ite c xs ys) ρ S = r := by
  rw [Pd.exec]; simp only [bind_ap, hc, ok_bind, h1, ha]
theorem x_ite_f {xs ys : List Pd.S} {r : Pd.R Fl} (hc : denT C c ρ S = .ok b1 S1) (h1 : b1 = false) (ha : execs C w ys ρ S1 = r) : Pd.exec C w (.ite c xs ys) ρ S = r := by
  rw [Pd.exec]; simp only [bind_ap, hc, ok_bind, h1, ha]
theorem x_raise : Pd.exec C w (.raise cl) ρ S = .err cl S := by rw [Pd.exec]
theorem x_pass : Pd.exec C w .pass ρ S = .ok (.nx ρ) S := by rw [Pd.exec]; rfl
theorem x_setix {j : Int} {m : Nat} {i : E} (he : den C e ρ S = .ok y S1) (ha : den C a ρ S1 = .ok (.cell k) S2) (hi : den C i ρ S2 = .ok (.int j) S3) (hk : S3[k]? = some ds) (hj : ixN ds.length j = some m) (hs : shp9 y = true) : Pd.exec C w (.setix a i e) ρ S = .ok (.nx ρ) (S3.set k (ds.set m y)) := by
  rw [Pd.exec]; simp only [bind_ap, he, ha, hi, ok_bind, setixM, hk, hj, hs, if_true]; rfl
theorem x_expE (he : den C e ρ S = .err cl S1) : Pd.exec C w (.expr e) ρ S = .err cl S1 := by
  rw [Pd.exec]; simp only [bind_ap, he, err_bind]
theorem x_retE (he : den C e ρ S = .err cl S1) : Pd.exec C w (.ret e) ρ S = .err cl S1 := by
  rw [Pd.exec]; simp only [bind_ap, he, err_bind]
theorem x_setE {g : G} (he : den C e ρ S = .err cl S1) : Pd.exec C w (.set g e) ρ S = .err cl S1 := by
  rw [Pd.exec]; simp only [bind_ap, he, err_bind]
theorem v_callE {keep : Bool} {es : List E} (hl : denL C es ρ S = .ok (d :: ds) S1) (hc : C f (d :: ds) S1 = .err cl S2) : den C (.call keep f es) ρ S = .err cl S2 := by
  rw [den]; simp only [bind_ap, hl, ok_bind, thaw, callM, hc]
theorem xs_nil : execs C w [] ρ S = .ok (.nx ρ) S := by rw [execs]; rfl
theorem xs_cons {s : Pd.S} {ss : List Pd.S} {r : Pd.R Fl} (h : Pd.exec C w s ρ S = .ok (.nx ρ1) S1) (h2 : execs C w ss ρ1 S1 = r) : execs C w (s :: ss) ρ S = r := by
  rw [execs]; simp only [bind_ap, h, ok_bind, h2]
theorem xs_ret {s : Pd.S} {ss : List Pd.S} (h : Pd.exec C w s ρ S = .ok (.ret d) S1) : execs C w (s :: ss) ρ S = .ok (.ret d) S1 := by
  rw [execs]; simp only [bind_ap, h, ok_bind]; rfl
theorem xs_err {s : Pd.S} {ss : List Pd.S} (h : Pd.exec C w s ρ S = .err cl S1) : execs C w (s :: ss) ρ S = .err cl S1 := by
  rw [execs]; simp only [bind_ap, h, err_bind]
/-! defs -/
theorem fin_v (hd : isCell d = false) (hl : S1.length = n) : finish n d S1 = .ok d S1 := by
  subst hl
  cases d <;> first | (cases hd; done) | (unfold finish; exact if_pos rfl)
theorem fin_f {d' : D} (hd : isCell d = false) (hf : frz S1 n 9 d = some d') (hl : S1.length ≠ n) : finish n d S1 = .ok d' (S1.take n) := by
  cases d <;> first | (cases hd; done) | (unfold finish; simp only [hf]; exact if_neg hl)
theorem fin_c (hk : S1[k]? = some ds) (hn : ¬ k < n) : finish n (.cell k) S1 = .ok (.cell n) (S1.take n ++ [ds]) := by
  unfold finish; simp only [hn, if_false, hk]
theorem r_ret {slots : Nat} {ir : List Pd.S} {args : List D} {r : Pd.R D} (h : execs C w ir (args.map some ++ List.replicate (slots - args.length) none) S = .ok (.ret d) S1) (hf : finish S.length d S1 = r) : runDef C w slots ir args S = r := by
  unfold runDef; rw [h]; exact hf
theorem r_nx {slots : Nat} {ir : List Pd.S} {args : List D} {r : Pd.R D} (h : execs C w ir (args.map some ++ List.replicate (slots - args.length) none) S = .ok (.nx ρ1) S1) (hf : finish S.length .non S1 = r) : runDef C w slots ir args S = r := by
  unfold runDef; rw [h]; exact hf
theorem r_err {slots : Nat} {ir : List Pd.S} {args : List D} (h : execs C w ir (args.map some ++ List.replicate (slots - args.length) none) S = .err cl S1) : runDef C w slots ir args S = .err cl (S1.take S.length) := by
  unfold runDef; rw [h]
theorem cs_run {tab : List DefI} {w k i : Nat} {args : List D} {r : Pd.R D} {df : DefI} (ht : tab[i]? = some df) (h : runDef (Cs tab w k) w df.N.length df.ir args S = r) : Cs tab w (k + 1) i args S = r := by
  rw [Cs, ht]; exact h
end
end Pd

end
section
set_option Elab.async false
set_option linter.all false
set_option maxRecDepth 100000
set_option maxHeartbeats 1000000
/-! Leaves of derivations. -/
namespace Pd
open PySem PySem.Spec PyProof.Rows L2
theorem vcast {α : Type} {X : Pd.R α} {d d' : α} {S1 S2 : Store} (h : X = .ok d S1) (e : d = d') (e2 : S1 = S2) : X = .ok d' S2 := by rw [h, e, e2]
section
variable {S : Store} {x y z u d : D} {r xs ys ds : List D} {i j : Int} {b b1 b2 : Bool}
theorem ix0 : L2.atI (x :: r) 0 = some x := by
  have h : (0 : Int) < ((x :: r).length : Int) := by rw [List.length_cons]; omega
  unfold L2.atI L2.ixN; rw [if_pos (by decide), if_pos h]; rfl
theorem ix1 : L2.atI (x :: y :: r) 1 = some y := by
  have h : (1 : Int) < ((x :: y :: r).length : Int) := by rw [List.length_cons, List.length_cons]; omega
  unfold L2.atI L2.ixN; rw [if_pos (by decide), if_pos h]; rfl
theorem ix2 : L2.atI (x :: y :: z :: r) 2 = some z := by
  have h : (2 : Int) < ((x :: y :: z :: r).length : Int) := by rw [List.length_cons, List.length_cons, List.length_cons]; omega
  unfold L2.atI L2.ixN; rw [if_pos (by decide), if_pos h]; rfl
theorem ix3 : L2.atI (x :: y :: z :: u :: r) 3 = some u := by
  have h : (3 : Int) < ((x :: y :: z :: u :: r).length : Int) := by rw [List.length_cons, List.length_cons, List.length_cons, List.length_cons]; omega
  unfold L2.atI L2.ixN; rw [if_pos (by decide), if_pos h]; rfl
theorem ixNn {α : Type} {xs : List α} {n : Nat} (h : n < xs.length) : L2.atI xs (n : Int) = xs[n]? := by
  unfold L2.atI L2.ixN; rw [if_pos (by omega), if_pos (by omega)]; rfl
theorem ixNn' {α : Type} {xs : List α} {i : Int} (h0 : 0 ≤ i) (h : i < xs.length) : L2.atI xs i = xs[i.toNat]? := by
  unfold L2.atI L2.ixN; rw [if_pos h0, if_pos h]; rfl
theorem at_ex {α : Type} (xs : List α) {j : Int} (h0 : 0 ≤ j) (h1 : j < xs.length) : ∃ x, L2.atI xs j = some x ∧ x ∈ xs := by
  have hj : j.toNat < xs.length := by omega
  exact ⟨xs[j.toNat], by rw [ixNn' h0 h1]; simp [hj], List.getElem_mem _⟩
theorem small_of {i : Int} (h0 : -18446744073709551616 < i) (h1 : i < 18446744073709551616) : small i = true := by
  unfold small
  simp [h0, h1]
theorem g_add : Op.add.g S (.int i) (.int j) = some (.int (i + j)) := rfl
theorem g_sub : Op.sub.g S (.int i) (.int j) = some (.int (i - j)) := rfl
theorem g_lt : Op.lt.g S (.int i) (.int j) = some (.bl (decide (i < j))) := rfl
theorem g_le : Op.le.g S (.int i) (.int j) = some (.bl (decide (i ≤ j))) := rfl
theorem g_gt : Op.gt.g S (.int i) (.int j) = some (.bl (decide (j < i))) := rfl
theorem g_ge : Op.ge.g S (.int i) (.int j) = some (.bl (decide (j ≤ i))) := rfl
theorem g_eqI : Op.eq.g S (.int i) (.int j) = some (.bl (decide (i = j))) := by
  by_cases z : i = j <;> simp [Op.g, opEq, opEqB, res, shp9, shp, deq, z]
theorem g_neI : Op.ne.g S (.int i) (.int j) = some (.bl (!decide (i = j))) := by
  by_cases z : i = j <;> simp [Op.g, opNe, opEqB, res, shp9, shp, deq, z]
theorem g_mulL (h : small i = true) : Op.mul.g S (.int i) (.int j) = some (.int (i * j)) := by simp [Op.g, opMul, h]
theorem g_mulR (h : small j = true) : Op.mul.g S (.int i) (.int j) = some (.int (i * j)) := by simp [Op.g, opMul, h]
theorem g_mod (h : 0 < j) : Op.mod.g S (.int i) (.int j) = some (.int (i % j)) := by simp only [Op.g, opMod, h, if_true]
theorem g_div (h : 0 < j) (h2 : j < 18446744073709551616) : Op.div.g S (.int i) (.int j) = some (.int (i / j)) := by simp only [Op.g, opDiv, h, h2, if_true]
theorem g_idxT (h : L2.atI xs i = some d) : Op.idx.g S (.tup xs) (.int i) = some d := h
theorem g_idxL (h : L2.atI xs i = some d) : Op.idx.g S (.lst xs) (.int i) = some d := h
theorem g_is : Op.is.g S x .non = some (.bl (isNon x)) := rfl
theorem g_isN : Op.isNot.g S x .non = some (.bl (!isNon x)) := rfl
theorem g_isB : Op.is.g S (.bl b1) (.bl b2) = some (.bl (decide (b1 = b2))) := rfl
theorem g_isNB : Op.isNot.g S (.bl b1) (.bl b2) = some (.bl (!decide (b1 = b2))) := rfl
theorem g_addT (h : xs.length + ys.length ≤ 16777216) : Op.add.g S (.tup xs) (.tup ys) = some (.tup (xs ++ ys)) := by
  show opAdd S (.tup xs) (.tup ys) = _
  unfold opAdd
  simp [h]
theorem g_addL (h : xs.length + ys.length ≤ 16777216) : Op.add.g S (.lst xs) (.lst ys) = some (.lst (xs ++ ys)) := by
  show opAdd S (.lst xs) (.lst ys) = _
  unfold opAdd seqL
  simp [h]
theorem g_lenT : Bi.len.g S [.tup ds] = some (.int ds.length) := rfl
theorem g_lenL : Bi.len.g S [.lst ds] = some (.int ds.length) := rfl
theorem g_lenS {ns : List Int} : Bi.len.g S [.scr ns] = some (.int ns.length) := rfl
theorem g_lenC {k : Nat} (h : S[k]? = some ds) : Bi.len.g S [.cell k] = some (.int ds.length) := by
  show (match seqA S (.cell k) with | some _ => _ | none => _) = _
  simp only [seqA, seqL, h]
theorem g_tupL : Bi.tup.g S [.lst ds] = some (.tup ds) := rfl
theorem g_tupT : Bi.tup.g S [.tup ds] = some (.tup ds) := rfl
theorem g_lstT : Bi.lst.g S [.tup ds] = some (.lst ds) := rfl
theorem g_boolB : Bi.bool.g S [.bl b] = some (.bl b) := rfl
theorem g_absI : Bi.abs.g S [.int i] = some (.int i.natAbs) := by
  show some (D.int (if i < 0 then -i else i)) = _
  split <;> simp <;> omega
theorem sl_T {lo hi : Option Int} : sliceD (.tup ds) lo hi S = some (.tup ((ds.drop (HT.sIx ds.length 0 lo)).take (HT.sIx ds.length ds.length hi - HT.sIx ds.length 0 lo))) := rfl
theorem sl_L {lo hi : Option Int} : sliceD (.lst ds) lo hi S = some (.lst ((ds.drop (HT.sIx ds.length 0 lo)).take (HT.sIx ds.length ds.length hi - HT.sIx ds.length 0 lo))) := rfl
theorem rv_T : revD (.tup ds) S = some (.tup ds.reverse) := rfl
theorem tr_b : truD S (.bl b) = some b := rfl
theorem bp {X : Prop} [Decidable X] (h : X) : decide X = true := decide_eq_true h
theorem bn {X : Prop} [Decidable X] (h : ¬ X) : decide X = false := decide_eq_false h
theorem np {b : Bool} (h : b = true) : (!b) = false := by rw [h]; rfl
theorem nn {b : Bool} (h : b = false) : (!b) = true := by rw [h]; rfl
theorem ap {a b : Bool} (h : a = true) (g : b = true) : (a && b) = true := by rw [h, g]; rfl
theorem al {a b : Bool} (h : a = false) : (a && b) = false := by rw [h]; rfl
theorem ar {a b : Bool} (h : b = false) : (a && b) = false := by rw [h]; cases a <;> rfl
theorem ol {a b : Bool} (h : a = true) : (a || b) = true := by rw [h]; rfl
theorem or' {a b : Bool} (h : b = true) : (a || b) = true := by rw [h]; cases a <;> rfl
theorem on {a b : Bool} (h : a = false) (g : b = false) : (a || b) = false := by rw [h, g]; rfl
end
end Pd

end
section
set_option Elab.async false
set_option linter.all false
set_option maxRecDepth 100000
set_option maxHeartbeats 1000000
/-! Loops in derivations. -/
namespace Pd
open PySem PySem.Spec PyProof.Rows L2
section
variable {C : Nat → List D → M D} {w : Nat} {ρ ρ1 ρ2 : Env'} {S S1 S2 S3 S4 : Store} {d x y z u : D} {a b c e : E} {ds items : List D}
theorem for_st {f : D → Env' → M Fl} {I : Nat → Env' → Store → Prop} : ∀ (items : List D) (i : Nat) (ρ : Env') (S : Store), I i ρ S → (∀ j d, items[j]? = some d → ∀ ρ S, I (i + j) ρ S → ∃ ρ' S', I (i + j + 1) ρ' S' ∧ f d ρ S = .ok (.nx ρ') S') → ∃ ρ' S', I (i + items.length) ρ' S' ∧ forM' f items ρ S = .ok (.nx ρ') S'
  | [], i, ρ, S, hI, _ => ⟨ρ, S, hI, by rw [forM']; rfl⟩
  | d :: ds, i, ρ, S, hI, h => by
    obtain ⟨ρ1, S1, h1, e1⟩ := h 0 d rfl ρ S hI
    obtain ⟨ρ2, S2, h2, e2⟩ := for_st ds (i + 1) ρ1 S1 h1 fun j d hd ρ S hI => by
      have q := h (j + 1) d (by rw [List.getElem?_cons_succ]; exact hd) ρ S (by rw [show i + (j + 1) = i + 1 + j by omega]; exact hI)
      rw [show i + (j + 1) + 1 = i + 1 + j + 1 by omega] at q
      exact q
    refine ⟨ρ2, S2, by rw [List.length_cons, show i + (ds.length + 1) = i + 1 + ds.length by omega]; exact h2, ?_⟩
    rw [forM', bind_ap, e1]
    simp [ok_bind, e2]
theorem rng_get {m : Int} {j : Nat} {d : D} (h : (rngOf 0 m)[j]? = some d) : (j : Int) < m ∧ d = .int j := by
  unfold rngOf at h
  rw [List.getElem?_map, Int.sub_zero] at h
  cases e : (List.range m.toNat)[j]? with
  | none => rw [e] at h; cases h
  | some j' =>
    rw [e] at h
    obtain ⟨h1, h2⟩ := List.getElem?_eq_some_iff.mp e
    rw [List.length_range] at h1
    rw [List.getElem_range] at h2
    subst h2
    have hd' : D.int (0 + (j : Int)) = d := Option.some.inj h
    rw [Int.zero_add] at hd'
    exact ⟨by omega, hd'.symm⟩
theorem rng_len {m : Int} : (rngOf 0 m).length = m.toNat := by simp [rngOf]
/-- a for over the items of anything, nothing ends it early -/
theorem x_for {g : G} {it : It} {b : List Pd.S} (I : Nat → Env' → Store → Prop) (hi : denI C it ρ S = .ok items S1) (h0 : I 0 ρ S1)
    (h : ∀ j d, items[j]? = some d → ∀ ρ S, I j ρ S → ∃ ρ1 ρ' S', I (j + 1) ρ' S' ∧ bindG g d ρ = some ρ1 ∧ execs C w b ρ1 S = .ok (.nx ρ') S') : ∃ ρ' S', I items.length ρ' S' ∧ Pd.exec C w (.for_ g it b) ρ S = .ok (.nx ρ') S' := by
  obtain ⟨ρ', S', h1, h2⟩ := for_st (f := fun d ρ => match bindG g d ρ with
      | some ρ1 => execs C w b ρ1
      | none => M.bad) (I := I) items 0 ρ S1 h0 (fun j d hd ρ S hI => by
    rw [Nat.zero_add] at hI ⊢
    obtain ⟨ρ1, ρ', S', h1, h2, h3⟩ := h j d hd ρ S hI
    refine ⟨ρ', S', h1, ?_⟩
    rw [h2]
    exact h3)
  rw [Nat.zero_add] at h1
  refine ⟨ρ', S', h1, ?_⟩
  rw [Pd.exec, bind_ap, hi, ok_bind]
  exact h2
theorem for_rng {v : Nat} {e : E} {b : List Pd.S} {m : Int} (I : Nat → Env' → Store → Prop) (he : den C e ρ S = .ok (.int m) S1) (hm : 0 ≤ m ∧ m ≤ 16777216) (h0 : I 0 ρ S1)
    (h : ∀ j : Nat, (j : Int) < m → ∀ ρ S, I j ρ S → ∃ ρ' S', I (j + 1) ρ' S' ∧ execs C w b (ρ.set v (some (.int j))) S = .ok (.nx ρ') S') : ∃ ρ' S', I m.toNat ρ' S' ∧ Pd.exec C w (.for_ (.nm v) (.rng e) b) ρ S = .ok (.nx ρ') S' := by
  obtain ⟨ρ', S', h1, h2⟩ := x_for (w := w) (g := .nm v) (b := b) I (i_rng he ⟨hm.2, by omega⟩) h0 (fun j d hd ρ S hI => by
    obtain ⟨hj, rfl⟩ := rng_get hd
    obtain ⟨ρ', S', h1, h2⟩ := h j hj ρ S hI
    exact ⟨_, ρ', S', h1, rfl, h2⟩)
  rw [rng_len] at h1
  exact ⟨ρ', S', h1, h2⟩
/-- a while: m falls -/
theorem wh_st {cnd : Env' → M Bool} {body : Env' → M Fl} {I : Nat → Env' → Store → Prop} {Q : Env' → Store → Prop}
    (h : ∀ m ρ S, I m ρ S → (∃ S1, cnd ρ S = .ok false S1 ∧ Q ρ S1) ∨ ∃ S1 ρ2 S2 m2, cnd ρ S = .ok true S1 ∧ body ρ S1 = .ok (.nx ρ2) S2 ∧ m2 < m ∧ I m2 ρ2 S2) : ∀ (n m : Nat) (ρ : Env') (S : Store), I m ρ S → m < n → ∃ ρ' S', Q ρ' S' ∧ whileM cnd body n ρ S = .ok (.nx ρ') S'
  | 0, m, ρ, S, _, hn => by omega
  | n + 1, m, ρ, S, hI, hn => by
    rcases h m ρ S hI with ⟨S1, h1, h2⟩ | ⟨S1, ρ2, S2, m2, h1, h2, h3, h4⟩
    · refine ⟨ρ, S1, h2, ?_⟩
      rw [whileM, bind_ap, h1, ok_bind]
      rfl
    · obtain ⟨ρ', S', q1, q2⟩ := wh_st h n m2 ρ2 S2 h4 (by omega)
      refine ⟨ρ', S', q1, ?_⟩
      rw [whileM, bind_ap, h1, ok_bind]
      simp only [bind_ap, h2, ok_bind]
      exact q2
theorem x_wh {c : E} {b : List Pd.S} (I : Nat → Env' → Store → Prop) (Q : Env' → Store → Prop) {m : Nat} (h0 : I m ρ S) (hm : m < w)
    (h : ∀ m ρ S, I m ρ S → (∃ S1, denT C c ρ S = .ok false S1 ∧ Q ρ S1) ∨ ∃ S1 ρ2 S2 m2, denT C c ρ S = .ok true S1 ∧ execs C w b ρ S1 = .ok (.nx ρ2) S2 ∧ m2 < m ∧ I m2 ρ2 S2) : ∃ ρ' S', Q ρ' S' ∧ Pd.exec C w (.while_ c b) ρ S = .ok (.nx ρ') S' := by
  obtain ⟨ρ', S', h1, h2⟩ := wh_st h w m ρ S h0 hm
  refine ⟨ρ', S', h1, ?_⟩
  rw [Pd.exec]
  exact h2
/-- a comprehension that changes the store -/
theorem lc_st {f : D → M (Option D)} {I : Nat → List D → Store → Prop} : ∀ (items acc : List D) (i : Nat) (S : Store), I i acc S → acc.length + items.length ≤ 16777216 → (∀ j d, items[j]? = some d → ∀ acc S, I (i + j) acc S → ∃ x S', I (i + j + 1) (acc ++ [x]) S' ∧ f d S = .ok (some x) S') → ∃ res S', I (i + items.length) res S' ∧ lcLoop f items acc S = .ok res S'
  | [], acc, i, S, hI, _, _ => ⟨acc, S, hI, by rw [lcLoop]; rfl⟩
  | d :: ds, acc, i, S, hI, hz, h => by
    rw [List.length_cons] at hz
    obtain ⟨x, S1, h1, e1⟩ := h 0 d rfl acc S hI
    obtain ⟨res, S2, h2, e2⟩ := lc_st ds (acc ++ [x]) (i + 1) S1 h1 (by rw [List.length_append, List.length_singleton]; omega) fun j d hd acc S hI => by
      have q := h (j + 1) d (by rw [List.getElem?_cons_succ]; exact hd) acc S (by rw [show i + (j + 1) = i + 1 + j by omega]; exact hI)
      rw [show i + (j + 1) + 1 = i + 1 + j + 1 by omega] at q
      exact q
    refine ⟨res, S2, by rw [List.length_cons, show i + (ds.length + 1) = i + 1 + ds.length by omega]; exact h2, ?_⟩
    rw [lcLoop, bind_ap, e1, ok_bind]
    simp only [show acc.length < 16777216 by omega, if_true]
    exact e2
theorem v_compS {elt : E} {g : G} {it : It} {own : List Nat} (I : Nat → List D → Store → Prop) (hi : denI C it ρ S = .ok items S1) (hz : items.length ≤ 16777216) (h0 : I 0 [] S1)
    (h : ∀ j d, items[j]? = some d → ∀ acc S, I j acc S → ∃ ρ1 x S', I (j + 1) (acc ++ [x]) S' ∧ bindG g d (wipeD ρ own) = some ρ1 ∧ den C elt ρ1 S = .ok x S') : ∃ res S', I items.length res S' ∧ den C (.comp elt g it none own) ρ S = .ok (.lst res) S' := by
  obtain ⟨res, S', h1, h2⟩ := lc_st (f := fun d => match bindG g d (wipeD ρ own) with
      | some ρ1 => do
        match ← denC C none ρ1 with
        | true => do let x ← den C elt ρ1; Pure.pure (some x)
        | false => Pure.pure none
      | none => M.bad) (I := I) items [] 0 S1 h0 (by simpa using hz) (fun j d hd acc S hI => by
    rw [Nat.zero_add] at hI ⊢
    obtain ⟨ρ1, x, S', h1, h2, h3⟩ := h j d hd acc S hI
    refine ⟨x, S', h1, ?_⟩
    rw [h2]
    simp only [bind_ap, c_none, ok_bind, h3]
    rfl)
  rw [Nat.zero_add] at h1
  refine ⟨res, S', h1, ?_⟩
  have q : noErr (lcLoop (fun d => match bindG g d (wipeD ρ own) with
      | some ρ1 => do
        match ← denC C none ρ1 with
        | true => do let x ← den C elt ρ1; Pure.pure (some x)
        | false => Pure.pure none
      | none => M.bad) items []) S1 = .ok res S' := by unfold noErr; rw [h2]
  rw [den, bind_ap, hi, ok_bind, bind_ap]
  exact (congrArg (fun r => R.bind r fun ds => (Pure.pure (D.lst ds) : M D)) q).trans rfl
/-- data without cells goes out as it is -/
def flt : Nat → D → Bool
  | 0, _ => false
  | n + 1, .tup ds => ds.all (flt n)
  | _ + 1, d => shp9 d
theorem frz_flt {N : Nat} : ∀ {n m : Nat} {d : D}, flt n d = true → n ≤ m → frz S N m d = some d
  | 0, _, _, h, _ => by cases h
  | n + 1, 0, d, _, hm => by omega
  | n + 1, m + 1, d, h, hm => by
    cases d with
    | tup ds =>
      have h' : ∀ d ∈ ds, flt n d = true := List.all_eq_true.mp h
      have e : ds.mapM (frz S N m) = some ds := by
        clear h
        induction ds with
        | nil => rfl
        | cons d ds ih =>
          rw [List.mapM_cons, frz_flt (h' d List.mem_cons_self) (by omega), ih fun d hd => h' d (List.mem_cons_of_mem _ hd)]
          rfl
      show (ds.mapM (frz S N m)).map D.tup = _
      rw [e]
      rfl
    | cell k => cases h
    | _ => exact if_pos h
theorem fin_flt {N n : Nat} (h : flt n d = true) (hn : n ≤ 9) (hl : S1.length ≠ N) : finish N d S1 = .ok d (S1.take N) := by
  cases d with
  | cell k => cases n <;> cases h
  | _ => exact fin_f rfl (frz_flt h hn) hl
end
end Pd

end
section
set_option Elab.async false
set_option linter.all false
set_option maxRecDepth 100000
set_option maxHeartbeats 4000000
namespace Lw
open Pd
local macro_rules | `(tactic| walk_at "B") => `(tactic| first
  | rfl
  | assumption
  | exact bp (by first | assumption | omega)
  | exact bn (by first | assumption | omega)
  | (apply np; walk_at "B")
  | (apply nn; walk_at "B")
  | (apply ap <;> walk_at "B")
  | (apply al; walk_at "B")
  | (apply ar; walk_at "B")
  | (apply ol; walk_at "B")
  | (apply or'; walk_at "B")
  | (apply on <;> walk_at "B"))
local macro_rules | `(tactic| walk_at "L") => `(tactic| first
  | assumption
  | exact g_add | exact g_sub | exact g_lt | exact g_le | exact g_gt | exact g_ge | exact g_eqI | exact g_neI
  | exact g_mod (by first | assumption | omega)
  | exact g_div (by first | assumption | omega) (by first | assumption | omega)
  | exact g_mulL (by first | assumption | exact small_of (by omega) (by omega))
  | exact g_mulR (by first | assumption | exact small_of (by omega) (by omega))
  | exact g_idxT ix0 | exact g_idxT ix1 | exact g_idxT ix2 | exact g_idxT ix3
  | exact g_idxT (by assumption) | exact g_idxL (by assumption)
  | exact g_is | exact g_isN | exact g_isB | exact g_isNB | exact g_lenT | exact g_lenL | exact g_lenS | exact g_lenC (by assumption)
  | exact g_addT (by first | omega | (simp only [List.length_append, List.length_cons, List.length_nil]; omega))
  | exact g_addL (by first | omega | (simp only [List.length_append, List.length_cons, List.length_nil]; omega))
  | rfl)
local macro_rules | `(tactic| walk_at "C") => `(tactic| first | assumption)
local macro_rules | `(tactic| walk_at "Z") => `(tactic| first | assumption | exact Nat.le_of_ble_eq_true rfl | omega | (simp only [List.length_append, List.length_cons, List.length_nil]; omega))
local macro_rules | `(tactic| walk_at "LL") => `(tactic| first
  | exact l_nil
  | (apply l_cons; walk_at "V"; walk_at "LL"))
local macro_rules | `(tactic| walk_at "O") => `(tactic| first
  | exact o_none
  | (apply o_some; walk_at "V"))
local macro_rules | `(tactic| walk_at "V") => `(tactic| first
  | assumption
  | exact v_nm rfl
  | exact v_k
  | (apply v_op; walk_at "V"; walk_at "V"; walk_at "L")
  | (apply v_call; walk_at "LL"; walk_at "C"; first | rfl | assumption)
  | (apply v_callK; walk_at "LL"; walk_at "C")
  | (apply v_callF; walk_at "LL"; walk_at "C")
  | (apply v_bi; walk_at "LL"; walk_at "L")
  | (apply v_tup; walk_at "LL"; walk_at "Z")
  | (apply v_neg; walk_at "V"; rfl)
  | (apply v_not; walk_at "V")
  | (apply v_and; walk_at "V"; walk_at "V")
  | (apply v_and_f; walk_at "V"; walk_at "B")
  | (apply v_and_t; walk_at "V"; walk_at "B"; walk_at "V")
  | (apply v_or; walk_at "V"; walk_at "V")
  | (apply v_or_t; walk_at "V"; walk_at "B")
  | (apply v_or_f; walk_at "V"; walk_at "B"; walk_at "V")
  | (apply v_ite_t; walk_at "T"; walk_at "B"; walk_at "V")
  | (apply v_ite_f; walk_at "T"; walk_at "B"; walk_at "V")
  | (apply v_chain; walk_at "V"; walk_at "V"; walk_at "L"; walk_at "V"; walk_at "L")
  | (apply v_chain_f; walk_at "V"; walk_at "V"; walk_at "L"; walk_at "B")
  | (apply v_chain_t; walk_at "V"; walk_at "V"; walk_at "L"; walk_at "B"; walk_at "V"; walk_at "L")
  | (apply v_slc; walk_at "V"; walk_at "O"; walk_at "O"; walk_at "L")
  | (apply v_rev; walk_at "V"; walk_at "L")
  | (apply v_lst; walk_at "LL"; walk_at "Z")
  | (apply v_lstN; walk_at "LL"; walk_at "Z"; walk_at "H")
  | (apply v_push; walk_at "V"; walk_at "V"; walk_at "K"; walk_at "Z"; walk_at "H")
  | (apply v_pop0; walk_at "V"; walk_at "K")
  | (apply v_lstC; walk_at "V"; walk_at "L"; walk_at "H"))
local macro_rules | `(tactic| walk_at "H") => `(tactic| first | rfl | assumption)
local macro_rules | `(tactic| walk_at "K") => `(tactic| first | assumption | rfl)
local macro_rules | `(tactic| walk_at "T") => `(tactic| first
  | assumption
  | (apply t_not; walk_at "T")
  | (apply t_and; walk_at "T"; walk_at "T")
  | (apply t_and_f; walk_at "T"; walk_at "B")
  | (apply t_and_t; walk_at "T"; walk_at "B"; walk_at "T")
  | (apply t_or; walk_at "T"; walk_at "T")
  | (apply t_or_t; walk_at "T"; walk_at "B")
  | (apply t_or_f; walk_at "T"; walk_at "B"; walk_at "T")
  | (apply t_of; rfl; walk_at "V"; first | exact tr_b | rfl | assumption))
local macro_rules | `(tactic| walk_at "I") => `(tactic| first
  | assumption
  | (apply i_seq; walk_at "V"; first | rfl | assumption)
  | (apply i_rng; walk_at "V"; omega)
  | (apply i_rng2; walk_at "V"; walk_at "V"; omega)
  | (apply i_zipT; walk_at "V"; walk_at "V")
  | (apply i_zipL; walk_at "V"; walk_at "V")
  | (apply i_enum; walk_at "V"))
local macro_rules | `(tactic| walk_at "X") => `(tactic| first
  | assumption
  | exact xs_nil
  | (apply xs_ret; walk_at "S")
  | (apply xs_cons; walk_at "S"; walk_at "X"))
local macro_rules | `(tactic| walk_at "S") => `(tactic| first
  | assumption
  | (apply x_set; walk_at "V"; rfl)
  | (apply x_ret; walk_at "V")
  | exact x_retN
  | (apply x_expr; walk_at "V")
  | (apply x_par; walk_at "LL"; rfl)
  | (apply x_ite_t; walk_at "T"; walk_at "B"; walk_at "X")
  | (apply x_ite_f; walk_at "T"; walk_at "B"; walk_at "X")
  | exact x_pass
  | (apply x_setix; walk_at "V"; walk_at "V"; walk_at "V"; walk_at "K"; walk_at "L"; walk_at "H"))
local macro_rules | `(tactic| walk_at "F") => `(tactic| first
  | exact fin_v rfl rfl
  | exact fin_v rfl (by simp only [List.length_set]; omega)
  | exact fin_v rfl (by simp; omega))
/- a def from its call to its end; what it hands back stays open -/
local macro_rules | `(tactic| walk_at "R") => `(tactic| (apply cs_run; rfl; first
  | (apply r_ret; walk_at "X"; walk_at "F")
  | (apply r_nx; walk_at "X"; walk_at "F")))

variable {k n l c : Nat} {S S' S'' S0 : Store} {v : D} {bs ds : List D}
theorem slc_ex (ds : List D) (lo hi : Option Int) (S : Store) : ∃ X, sliceD (.tup ds) lo hi S = some (.tup X) ∧ X.length ≤ ds.length ∧ ∀ d ∈ X, d ∈ ds :=
  ⟨_, rfl, by rw [List.length_take, List.length_drop]; omega, fun d h => List.mem_of_mem_drop (List.mem_of_mem_take h)⟩
theorem ne_tup {xs : List D} (h : shp9 (.tup xs) = true) : opNe S (.tup xs) (.tup []) = some (.bl (!xs.isEmpty)) := by
  have e : deq (.tup xs) (.tup []) = xs.isEmpty := by rw [deq, deqs_nil]
  have e2 : shp9 (.tup []) = true := rfl
  simp [opNe, opEqB, res, h, e, e2]
def spL1 : List D := [.str "sail", .str "out", .str "top", .str "load", .str "if", .int 3, .str "wait"]
theorem vok_nc (h : vok n l v) : isCell v = false := by
  rcases vok_ty h with rfl | ⟨b, rfl⟩ | ⟨i, rfl⟩ | ⟨x, rfl, _, _⟩ | ⟨ds, rfl⟩ | ⟨ds, rfl⟩ <;> rfl
local macro_rules | `(tactic| walk_at "F") => `(tactic| exact fin_v (by first | rfl | assumption) (by first | rfl | assumption))
theorem sp_lst : Cs tab WF (k + 1) 28 [.cell c, .lst ds] S = .ok (.tup ds) S := by
  have q1 : isiD "list" S [.lst ds] = some (.bl true) := rfl
  walk_at "R"
theorem sp_str (hb : Bag c S) (q1 : isiD "list" S [v] = some (.bl false)) (q2 : ∀ S, isiD "tuple" S [v] = some (.bl false)) (q3 : ∀ S, isiD "int" S [v] = some (.bl false)) : ∃ v' S', Sm c S S' ∧ vok (n + 1) l v' ∧ Cs tab WF (k + 2) 28 [.cell c, v] S = .ok v' S' := by
  obtain ⟨w, S1, s1, w0, w7, e1⟩ := ev_take (k := k) hb (m := 7) (by decide)
  obtain ⟨d, hd, hm⟩ := at_ex spL1 w0 w7
  have dv : vok (n + 1) l d := by
    simp only [spL1, List.mem_cons, List.not_mem_nil, or_false] at hm
    rcases hm with rfl | rfl | rfl | rfl | rfl | rfl | rfl
    · exact sv_sail
    · exact sv_out
    · exact sv_top
    · exact sv_load
    · exact sv_if
    · exact vok_int
    · exact sv_wait
  have nc := vok_nc dv
  have hl := s1.len
  have p2 := q2 S
  have p3 := q2 S1
  have p4 := q3 S1
  refine ⟨d, S1, s1, dv, ?_⟩
  walk_at "R"
theorem sp_int {i1 i2 i3 : Int} (hb : Bag c S) (a1 : ∀ S, opAdd S v (.int 1) = some (.int i1)) (a2 : ∀ S, opSub S v (.int 1) = some (.int i2)) (a3 : ∀ S, opAdd S v (.int 30) = some (.int i3)) (q1 : isiD "list" S [v] = some (.bl false)) (q2 : ∀ S, isiD "tuple" S [v] = some (.bl false)) (q3 : ∀ S, isiD "int" S [v] = some (.bl true)) : ∃ v' S', Sm c S S' ∧ vok (n + 1) l v' ∧ Cs tab WF (k + 2) 28 [.cell c, v] S = .ok v' S' := by
  obtain ⟨w, S1, s1, w0, w7, e1⟩ := ev_take (k := k) hb (m := 7) (by decide)
  obtain ⟨d, hd, hm⟩ := at_ex ([.int i1, .int i2, .int i3, .bl true, .non, .int 0, .str "1"] : List D) w0 w7
  have dv : vok (n + 1) l d := by
    simp only [List.mem_cons, List.not_mem_nil, or_false] at hm
    rcases hm with rfl | rfl | rfl | rfl | rfl | rfl | rfl
    · exact vok_int
    · exact vok_int
    · exact vok_int
    · trivial
    · trivial
    · exact vok_int
    · exact sv_1
  have nc := vok_nc dv
  have hl := s1.len
  have p2 := q2 S
  have p3 := q2 S1
  have p4 := q3 S1
  have b1 := a1 S1
  have b2 := a2 S1
  have b3 := a3 S1
  refine ⟨d, S1, s1, dv, ?_⟩
  walk_at "R"
/-- a tuple otherwise -/
theorem sp_tup {n : Nat} (hl : l ≤ 4000000) (s0 : Sm c S S0) (hlen : ds.length ≤ l) (hv : ∀ d ∈ ds, vok n l d) : ∃ v' S', Sm c S S' ∧ vok (n + 3) (2 * l + 2) v' ∧ ∀ r : List Pd.S, Pd.execs (Cs tab WF (k + 1)) WF (.set (.nm 2) (.call false 19 [(.nm 0), (.k (.int 7))]) :: .ite (.bi (.isi "tuple") [(.nm 1)]) [.set (.nm 4) (.op .idx (.lst false [(.tup [(.k (.int 3)), (.k (.int 5))]), (.tup [(.k (.str "lie"))]), (.tup [(.k (.str "sail")), (.k (.str "in"))]), (.k (.int 4))]) (.call false 19 [(.nm 0), (.k (.int 4))])), .ret (.op .idx (.lst false [(.bi .lst [(.nm 1)]), (.slc (.nm 1) (some (.k (.int 1))) none), (.op .add (.nm 1) (.slc (.nm 1) (some (.neg (.k (.int 1)))) none)), (.rev (.nm 1)), (.tup []), (.op .add (.nm 1) (.tup [(.nm 4)])), (.k .non)]) (.nm 2))] [] :: r) [some (.cell c), some (.tup ds), none, none, none] S0 = .ok (.ret v') S' := by
  have mono : ∀ d, vok n l d → vok (n + 2) (2 * l + 2) d := fun d hd => vok_mono (by omega) (by omega) hd
  obtain ⟨w, S1, s1, w0, w7, e1⟩ := ev_take (k := k) s0.bag (m := 7) (by decide)
  obtain ⟨u, S2, s2, u0, u4, e2⟩ := ev_take (k := k) s1.bag (m := 4) (by decide)
  obtain ⟨mo, hmo, mm⟩ := at_ex ([.tup [.int 3, .int 5], .tup [.str "lie"], .tup [.str "sail", .str "in"], .int 4] : List D) u0 u4
  have mv : vok (n + 2) (2 * l + 2) mo := by
    simp only [List.mem_cons, List.not_mem_nil, or_false] at mm
    rcases mm with rfl | rfl | rfl | rfl
    · exact vok_tup' (by simp) fun d hd => by
        simp only [List.mem_cons, List.not_mem_nil, or_false] at hd
        rcases hd with rfl | rfl <;> exact vok_int
    · exact vok_tup' (by simp) fun d hd => by
        rw [List.mem_singleton.mp hd]
        exact sv_lie
    · exact vok_tup' (by simp) fun d hd => by
        simp only [List.mem_cons, List.not_mem_nil, or_false] at hd
        rcases hd with rfl | rfl
        · exact sv_sail
        · exact sv_in
    · exact vok_int
  obtain ⟨A, eA, lA, mA⟩ := slc_ex ds (some 1) none S2
  obtain ⟨B, eB, lB, mB⟩ := slc_ex ds (some (-1)) none S2
  obtain ⟨d, hd, hm⟩ := at_ex ([.lst ds, .tup A, .tup (ds ++ B), .tup ds.reverse, .tup [], .tup (ds ++ [mo]), .non] : List D) w0 w7
  have dv : vok (n + 3) (2 * l + 2) d := by
    simp only [List.mem_cons, List.not_mem_nil, or_false] at hm
    rcases hm with rfl | rfl | rfl | rfl | rfl | rfl | rfl
    · exact ⟨by omega, fun d hd => mono d (hv d hd)⟩
    · exact ⟨by omega, fun d hd => mono d (hv d (mA d hd))⟩
    · refine ⟨by rw [List.length_append]; omega, fun d hd => ?_⟩
      rcases List.mem_append.mp hd with hd | hd
      · exact mono d (hv d hd)
      · exact mono d (hv d (mB d hd))
    · exact ⟨by rw [List.length_reverse]; omega, fun d hd => mono d (hv d (List.mem_reverse.mp hd))⟩
    · exact ⟨by simp, fun d hd => by simp at hd⟩
    · refine ⟨by rw [List.length_append, List.length_singleton]; omega, fun d hd => ?_⟩
      rcases List.mem_append.mp hd with hd | hd
      · exact mono d (hv d hd)
      · rw [List.mem_singleton.mp hd]; exact mv
    · trivial
  have p1 : isiD "tuple" S1 [.tup ds] = some (.bl true) := rfl
  have aB := g_addT (S := S2) (xs := ds) (ys := B) (by omega)
  have aM := g_addT (S := S2) (xs := ds) (ys := [mo]) (by simp; omega)
  refine ⟨d, S2, (s0.trans s1).trans s2, dv, fun r => ?_⟩
  walk_at "X"
theorem sp_rec {n : Nat} {v' : D} {S2 S3 : Store} (hn : n ≤ 30) (hl : l ≤ 4000000) (hlen : ds.length ≤ l) (hv : ∀ d ∈ ds, vok n l d) (hz : ds ≠ []) {i at' : Int} {S1 : Store} (i0 : 0 < i) (h0 : 0 ≤ at') (h1 : at' < ds.length) (e1 : Cs tab WF (k + 1) 19 [.cell c, .int 6] S = .ok (.int i) S1) (e2 : Cs tab WF (k + 1) 19 [.cell c, .int ds.length] S1 = .ok (.int at') S2)
    {d : D} (hd : L2.atI ds at' = some d) (e3 : Cs tab WF (k + 1) 28 [.cell c, d] S2 = .ok v' S3) (nc : isCell v' = false) (hs : S3.length = S.length) : ∃ A B, A.length ≤ ds.length ∧ B.length ≤ ds.length ∧ (∀ d ∈ A, d ∈ ds) ∧ (∀ d ∈ B, d ∈ ds) ∧ Cs tab WF (k + 2) 28 [.cell c, .tup ds] S = .ok (.tup (A ++ [v'] ++ B)) S3 := by
  obtain ⟨A, eA, lA, mA⟩ := slc_ex ds none (some at') S2
  obtain ⟨B, eB, lB, mB⟩ := slc_ex ds (some (at' + 1)) none S3
  refine ⟨A, B, lA, lB, mA, mB, ?_⟩
  have sp : shp9 (.tup ds) = true := shp9_of (n := n + 1) (l := l) (by omega) ⟨hlen, hv⟩
  have z : ds.isEmpty = false := by cases ds with | nil => exact absurd rfl hz | cons => rfl
  have ne := ne_tup (S := S) sp
  rw [z] at ne
  have p1 : isiD "list" S [.tup ds] = some (.bl false) := rfl
  have p2 : isiD "tuple" S [.tup ds] = some (.bl true) := rfl
  have aB := g_addT (S := S2) (xs := A) (ys := [v']) (by simp; omega)
  walk_at "R"
theorem sp_no (hl : l ≤ 4000000) (hn : n ≤ 30) (hb : Bag c S) (hlen : ds.length ≤ l) (hv : ∀ d ∈ ds, vok n l d) (hz : ds = [] ∨ ∃ i S1, Sm c S S1 ∧ ¬ 0 < i ∧ Cs tab WF (k + 1) 19 [.cell c, .int 6] S = .ok (.int i) S1) : ∃ v' S', Sm c S S' ∧ vok (n + 3) (2 * l + 2) v' ∧ Cs tab WF (k + 2) 28 [.cell c, .tup ds] S = .ok v' S' := by
  have sp : shp9 (.tup ds) = true := shp9_of (n := n + 1) (l := l) (by omega) ⟨hlen, hv⟩
  have ne := ne_tup (S := S) sp
  have p1 : isiD "list" S [.tup ds] = some (.bl false) := rfl
  have p2 : isiD "tuple" S [.tup ds] = some (.bl true) := rfl
  by_cases hd : ds = []
  · obtain ⟨v', S', s1, dv, h⟩ := sp_tup (k := k) hl (Sm.refl hb) hlen hv
    have z : ds.isEmpty = true := by rw [hd]; rfl
    rw [z] at ne
    have nc := vok_nc dv
    have hs := s1.len
    refine ⟨v', S', s1, dv, ?_⟩
    apply cs_run
    rfl
    apply r_ret
    apply xs_cons
    walk_at "S"
    apply xs_cons
    walk_at "S"
    exact h _
    walk_at "F"
  · obtain ⟨i, S1, s0, hi, e1⟩ := hz.resolve_left hd
    obtain ⟨v', S', s1, dv, h⟩ := sp_tup (k := k) hl s0 hlen hv
    have z : ds.isEmpty = false := by cases ds with | nil => exact absurd rfl hd | cons => rfl
    rw [z] at ne
    have nc := vok_nc dv
    have hs := s1.len
    refine ⟨v', S', s1, dv, ?_⟩
    apply cs_run
    rfl
    apply r_ret
    apply xs_cons
    walk_at "S"
    apply xs_cons
    walk_at "S"
    exact h _
    walk_at "F"
theorem ev_spoilt (hl : l ≤ 4000000) : ∀ {n : Nat} {v : D} {S : Store}, n ≤ 30 → vok n l v → Bag c S → ∃ v' S', Sm c S S' ∧ vok (n + 2) (2 * l + 2) v' ∧ Cs tab WF (k + n + 1) 28 [.cell c, v] S = .ok v' S'
  | 0, _, _, _, h, _ => by cases h
  | n + 1, v, S, hn, h, hb => by
    show ∃ v' S', Sm c S S' ∧ vok (n + 3) (2 * l + 2) v' ∧ Cs tab WF (k + n + 2) 28 [.cell c, v] S = .ok v' S'
    have up : (∃ v' S', Sm c S S' ∧ vok 1 0 v' ∧ Cs tab WF (k + n + 2) 28 [.cell c, v] S = .ok v' S') → ∃ v' S', Sm c S S' ∧ vok (n + 3) (2 * l + 2) v' ∧ Cs tab WF (k + n + 2) 28 [.cell c, v] S = .ok v' S' := fun ⟨v', S', h1, h2, h3⟩ => ⟨v', S', h1, vok_mono (by omega) (by omega) h2, h3⟩
    rcases vok_ty h with rfl | ⟨b, rfl⟩ | ⟨i, rfl⟩ | ⟨x, rfl, _, _⟩ | ⟨ds, rfl⟩ | ⟨ds, rfl⟩
    · exact up (sp_str hb rfl (fun _ => rfl) fun _ => rfl)
    · exact up (sp_int (i1 := _) (i2 := _) (i3 := _) hb (fun _ => rfl) (fun _ => rfl) (fun _ => rfl) rfl (fun _ => rfl) fun _ => rfl)
    · exact up (sp_int (i1 := i + 1) (i2 := i - 1) (i3 := i + 30) hb (fun _ => rfl) (fun _ => rfl) (fun _ => rfl) rfl (fun _ => rfl) fun _ => rfl)
    · exact up (sp_str hb rfl (fun _ => rfl) fun _ => rfl)
    · obtain ⟨hlen, hv⟩ := (show ds.length ≤ l ∧ ∀ d ∈ ds, vok n l d from h)
      by_cases hd : ds = []
      · exact sp_no hl (by omega) hb hlen hv (.inl hd)
      · obtain ⟨i, S1, s1, i0, i6, e1⟩ := ev_take (k := k + n) hb (m := 6) (by decide)
        by_cases hi : 0 < i
        · have hp : 0 < ds.length := List.length_pos_iff.mpr hd
          obtain ⟨a, S2, s2, h0, h1, e2⟩ := ev_take (k := k + n) s1.bag (m := ds.length) (by omega)
          obtain ⟨d, hat, hm⟩ := at_ex ds h0 h1
          obtain ⟨v', S3, s3, dv, e3⟩ := ev_spoilt hl (n := n) (v := d) (by omega) (hv d hm) s2.bag
          have nc := vok_nc dv
          obtain ⟨A, B, lA, lB, mA, mB, e⟩ := sp_rec (k := k + n) (by omega) hl hlen hv hd hi h0 h1 e1 e2 hat e3 nc ((s1.trans s2).trans s3).len
          refine ⟨.tup (A ++ [v'] ++ B), S3, (s1.trans s2).trans s3, ⟨?_, fun q hq => ?_⟩, e⟩
          · rw [List.length_append, List.length_append, List.length_singleton]; omega
          · rcases List.mem_append.mp hq with hq | hq
            · rcases List.mem_append.mp hq with hq | hq
              · exact vok_mono (by omega) (by omega) (hv q (mA q hq))
              · rw [List.mem_singleton.mp hq]; exact dv
            · exact vok_mono (by omega) (by omega) (hv q (mB q hq))
        · exact sp_no hl (by omega) hb hlen hv (.inr ⟨i, S1, s1, hi, e1⟩)
    · obtain ⟨hlen, hv⟩ := (show ds.length ≤ l ∧ ∀ d ∈ ds, vok n l d from h)
      exact ⟨.tup ds, S, .refl hb, ⟨by omega, fun d hd => vok_mono (by omega) (by omega) (hv d hd)⟩, sp_lst⟩
end Lw

end
section
set_option Elab.async false
set_option linter.all false
set_option maxRecDepth 100000
set_option maxHeartbeats 4000000
namespace Lw
open Pd
local macro_rules | `(tactic| walk_at "B") => `(tactic| first
  | rfl
  | assumption
  | exact bp (by first | assumption | omega)
  | exact bn (by first | assumption | omega)
  | (apply np; walk_at "B")
  | (apply nn; walk_at "B")
  | (apply ap <;> walk_at "B")
  | (apply al; walk_at "B")
  | (apply ar; walk_at "B")
  | (apply ol; walk_at "B")
  | (apply or'; walk_at "B")
  | (apply on <;> walk_at "B"))
local macro_rules | `(tactic| walk_at "L") => `(tactic| first
  | assumption
  | exact g_add | exact g_sub | exact g_lt | exact g_le | exact g_gt | exact g_ge | exact g_eqI | exact g_neI
  | exact g_mod (by first | assumption | omega)
  | exact g_div (by first | assumption | omega) (by first | assumption | omega)
  | exact g_mulL (by first | assumption | exact small_of (by omega) (by omega))
  | exact g_mulR (by first | assumption | exact small_of (by omega) (by omega))
  | exact g_idxT ix0 | exact g_idxT ix1 | exact g_idxT ix2 | exact g_idxT ix3
  | exact g_idxT (by assumption) | exact g_idxL (by assumption)
  | exact g_absI | exact g_tupL | exact g_tupT | exact g_is | exact g_isN | exact g_isB | exact g_isNB | exact g_lenT | exact g_lenL | exact g_lenS | exact g_lenC (by assumption)
  | exact g_addT (by first | omega | (simp only [List.length_append, List.length_cons, List.length_nil, List.length_map]; omega))
  | exact g_addL (by first | omega | (simp only [List.length_append, List.length_cons, List.length_nil, List.length_map]; omega))
  | rfl)
local macro_rules | `(tactic| walk_at "C") => `(tactic| first | assumption)
local macro_rules | `(tactic| walk_at "Z") => `(tactic| first | assumption | exact Nat.le_of_ble_eq_true rfl | omega | (simp only [List.length_append, List.length_cons, List.length_nil, List.length_map]; omega))
local macro_rules | `(tactic| walk_at "LL") => `(tactic| first
  | exact l_nil
  | (apply l_cons; walk_at "V"; walk_at "LL"))
local macro_rules | `(tactic| walk_at "O") => `(tactic| first
  | exact o_none
  | (apply o_some; walk_at "V"))
local macro_rules | `(tactic| walk_at "V") => `(tactic| first
  | assumption
  | exact v_nm rfl
  | exact v_k
  | (apply v_op; walk_at "V"; walk_at "V"; walk_at "L")
  | (apply v_call; walk_at "LL"; walk_at "C"; first | rfl | assumption)
  | (apply v_callK; walk_at "LL"; walk_at "C")
  | (apply v_callF; walk_at "LL"; walk_at "C")
  | (apply v_bi; walk_at "LL"; walk_at "L")
  | (apply v_tup; walk_at "LL"; walk_at "Z")
  | (apply v_neg; walk_at "V"; rfl)
  | (apply v_not; walk_at "V")
  | (apply v_and; walk_at "V"; walk_at "V")
  | (apply v_and_f; walk_at "V"; walk_at "B")
  | (apply v_and_t; walk_at "V"; walk_at "B"; walk_at "V")
  | (apply v_or; walk_at "V"; walk_at "V")
  | (apply v_or_t; walk_at "V"; walk_at "B")
  | (apply v_or_f; walk_at "V"; walk_at "B"; walk_at "V")
  | (apply v_ite_t; walk_at "T"; walk_at "B"; walk_at "V")
  | (apply v_ite_f; walk_at "T"; walk_at "B"; walk_at "V")
  | (apply v_chain; walk_at "V"; walk_at "V"; walk_at "L"; walk_at "V"; walk_at "L")
  | (apply v_chain_f; walk_at "V"; walk_at "V"; walk_at "L"; walk_at "B")
  | (apply v_chain_t; walk_at "V"; walk_at "V"; walk_at "L"; walk_at "B"; walk_at "V"; walk_at "L")
  | (apply v_slc; walk_at "V"; walk_at "O"; walk_at "O"; walk_at "L")
  | (apply v_rev; walk_at "V"; walk_at "L")
  | (apply v_lst; walk_at "LL"; walk_at "Z")
  | (apply v_lstN; walk_at "LL"; walk_at "Z"; walk_at "H")
  | (apply v_push; walk_at "V"; walk_at "V"; walk_at "K"; walk_at "Z"; walk_at "H")
  | (apply v_pop0; walk_at "V"; walk_at "K")
  | (apply v_lstC; walk_at "V"; walk_at "L"; walk_at "H"))
local macro_rules | `(tactic| walk_at "H") => `(tactic| first | rfl | assumption)
local macro_rules | `(tactic| walk_at "K") => `(tactic| first | assumption | rfl)
local macro_rules | `(tactic| walk_at "T") => `(tactic| first
  | assumption
  | (apply t_not; walk_at "T")
  | (apply t_and; walk_at "T"; walk_at "T")
  | (apply t_and_f; walk_at "T"; walk_at "B")
  | (apply t_and_t; walk_at "T"; walk_at "B"; walk_at "T")
  | (apply t_or; walk_at "T"; walk_at "T")
  | (apply t_or_t; walk_at "T"; walk_at "B")
  | (apply t_or_f; walk_at "T"; walk_at "B"; walk_at "T")
  | (apply t_of; rfl; walk_at "V"; first | exact tr_b | rfl | assumption))
local macro_rules | `(tactic| walk_at "I") => `(tactic| first
  | assumption
  | (apply i_seq; walk_at "V"; first | rfl | assumption)
  | (apply i_rng; walk_at "V"; omega)
  | (apply i_rng2; walk_at "V"; walk_at "V"; omega)
  | (apply i_zipT; walk_at "V"; walk_at "V")
  | (apply i_zipL; walk_at "V"; walk_at "V")
  | (apply i_enum; walk_at "V"))
local macro_rules | `(tactic| walk_at "X") => `(tactic| first
  | assumption
  | exact xs_nil
  | (apply xs_ret; walk_at "S")
  | (apply xs_cons; walk_at "S"; walk_at "X"))
local macro_rules | `(tactic| walk_at "S") => `(tactic| first
  | assumption
  | (apply x_set; walk_at "V"; rfl)
  | (apply x_ret; walk_at "V")
  | exact x_retN
  | (apply x_expr; walk_at "V")
  | (apply x_par; walk_at "LL"; rfl)
  | (apply x_ite_t; walk_at "T"; walk_at "B"; walk_at "X")
  | (apply x_ite_f; walk_at "T"; walk_at "B"; walk_at "X")
  | exact x_pass
  | (apply x_setix; walk_at "V"; walk_at "V"; walk_at "V"; walk_at "K"; walk_at "L"; walk_at "H"))
local macro_rules | `(tactic| walk_at "F") => `(tactic| first
  | exact fin_v (by first | rfl | assumption) (by first | rfl | assumption | omega)
  | exact fin_v rfl (by simp only [List.length_set]; omega)
  | exact fin_v rfl (by simp; omega))
/- a def from its call to its end; what it hands back stays open -/
local macro_rules | `(tactic| walk_at "R") => `(tactic| (apply cs_run; rfl; first
  | (apply r_ret; walk_at "X"; walk_at "F")
  | (apply r_nx; walk_at "X"; walk_at "F")))

variable {k n l c : Nat} {S S' S'' S0 T T' : Store} {v : D} {bs ds : List D}
/-- the bag is used, new lists may stand behind -/
structure Go (c : Nat) (S S' : Store) : Prop where
  bag : Bag c S'
  len : S.length ≤ S'.length
  same : ∀ d, d ≠ c → d < S.length → S'[d]? = S[d]?
theorem Go.refl (h : Bag c S) : Go c S S := ⟨h, Nat.le_refl _, fun _ _ _ => rfl⟩
theorem Go.sm (a : Go c S S') (b : Sm c S' S'') : Go c S S'' := ⟨b.bag, by rw [b.len]; exact a.len, fun d h1 h2 => (b.same d h1).trans (a.same d h1 h2)⟩
theorem Sm.go (b : Sm c S S') : Go c S S' := ⟨b.bag, Nat.le_of_eq b.len.symm, fun d h1 h2 => b.same d h1⟩
theorem Go.trans (a : Go c S S') (b : Go c S' S'') : Go c S S'' := ⟨b.bag, Nat.le_trans a.len b.len, fun d h1 h2 => (b.same d h1 (Nat.lt_of_lt_of_le h2 a.len)).trans (a.same d h1 h2)⟩
theorem Go.take (hb : Bag c S) (a : Go c S S') : Sm c S (S'.take S.length) := by
  obtain ⟨bs, h1, h2⟩ := a.bag
  refine ⟨⟨bs, by rw [List.getElem?_take_of_lt hb.lt]; exact h1, h2⟩, by rw [List.length_take, Nat.min_eq_left a.len], fun d hd => ?_⟩
  by_cases h : d < S.length
  · rw [List.getElem?_take_of_lt h]
    exact a.same d hd h
  · rw [List.getElem?_eq_none (by rw [List.length_take]; omega), List.getElem?_eq_none (by omega)]
theorem Go.push (a : Go c S S') (ds : List D) : Go c S (S' ++ [ds]) := by
  obtain ⟨bs, h1, h2⟩ := a.bag
  have hl : c < S'.length := (List.getElem?_eq_some_iff.mp h1).1
  refine ⟨⟨bs, by rw [List.getElem?_append_left hl]; exact h1, h2⟩, by rw [List.length_append]; have := a.len; omega, fun d hd hs => ?_⟩
  rw [List.getElem?_append_left (Nat.lt_of_lt_of_le hs a.len)]
  exact a.same d hd hs
theorem Go.set (a : Go c S S') {j : Nat} (hj : S.length ≤ j) (hc : c < S.length) (ds : List D) : Go c S (S'.set j ds) := by
  obtain ⟨bs, h1, h2⟩ := a.bag
  refine ⟨⟨bs, by rw [List.getElem?_set_ne (by omega)]; exact h1, h2⟩, by rw [List.length_set]; exact a.len, fun d hd hs => ?_⟩
  rw [List.getElem?_set_ne (by omega)]
  exact a.same d hd hs
abbrev pr (p : Int × Int) : D := .tup [.int p.1, .int p.2]
structure TideP (ps : List (Int × Int)) : Prop where
  two : 2 ≤ ps.length
  six : ps.length ≤ 6
  bd : ∀ p ∈ ps, 0 ≤ p.1 ∧ p.1 ≤ 23 ∧ 0 ≤ p.2 ∧ p.2 ≤ 24
  hd : ∀ p, ps.head? = some p → p.1 = 0
  up : ps.Pairwise fun p q => p.1 < q.1
structure TideW (h : Int) (ps : List (Int × Int)) : Prop where
  five : ps.length ≤ 5
  h0 : 0 ≤ h
  bd : ∀ p ∈ ps, 0 ≤ p.1 ∧ p.1 ≤ 23 ∧ 0 ≤ p.2 ∧ p.2 ≤ 24
  lt : ∀ p ∈ ps, p.1 < h
  nil : ps = [] → h = 0
  hd : ∀ p, ps.head? = some p → p.1 = 0
  up : ps.Pairwise fun p q => p.1 < q.1
theorem TideW.step {h x r : Int} {ps : List (Int × Int)} (w : TideW h ps) (h1 : h < 24) (h2 : ps.length < 5) (x0 : 0 ≤ x) (x1 : x < 13) (r0 : 0 ≤ r) : TideW (h + 3 + r) (ps ++ [(h, x)]) := by
  have w0 := w.h0
  refine ⟨by rw [List.length_append]; simp; omega, by omega, fun p hp => ?_, fun p hp => ?_, fun e => ?_, fun p hp => ?_, ?_⟩
  · rcases List.mem_append.mp hp with hp | hp
    · exact w.bd p hp
    · rw [List.mem_singleton.mp hp]; exact ⟨by omega, by omega, by omega, by omega⟩
  · rcases List.mem_append.mp hp with hp | hp
    · have := w.lt p hp; omega
    · rw [List.mem_singleton.mp hp]; show h < _; omega
  · exact absurd e (by simp)
  · cases ps with
    | nil => have := w.nil rfl; simp at hp; rw [← hp]; exact this
    | cons q qs => exact w.hd p hp
  · rw [List.pairwise_append]
    refine ⟨w.up, List.pairwise_singleton _ _, fun a ha b hb => ?_⟩
    rw [List.mem_singleton.mp hb]
    exact w.lt a ha
theorem shp_pr (p : Int × Int) : shp9 (pr p) = true := rfl
theorem prs_shp (ps : List (Int × Int)) : (ps.map pr).all shp9 = true := by
  rw [List.all_eq_true]
  intro d hd
  obtain ⟨p, _, rfl⟩ := List.mem_map.mp hd
  rfl
theorem prs_flt (ps : List (Int × Int)) : flt 3 (.tup (ps.map pr)) = true := by
  show (ps.map pr).all (flt 2) = true
  rw [List.all_eq_true]
  intro d hd
  obtain ⟨p, _, rfl⟩ := List.mem_map.mp hd
  rfl
theorem ev_gtide (hb : Bag c S) : ∃ ps S', Sm c S S' ∧ TideP ps ∧ Cs tab WF (k + 2) 21 [.cell c] S = .ok (.tup (ps.map pr)) S' := by
  have hc := hb.lt
  have st : Pd.exec (Cs tab WF (k + 1)) WF (.par [1, 2] [(.k (.int 0)), (.lst true [])]) [some (.cell c), none, none] S = .ok (.nx [some (.cell c), some (.int 0), some (.cell S.length)]) (S ++ [[]]) := by walk_at "S"
  obtain ⟨ρ', T, ⟨h, ps, rfl, g, hk, w, hend⟩, e⟩ := x_wh (C := Cs tab WF (k + 1)) (w := WF) (c := (.and (.op .lt (.nm 1) (.k (.int 24))) (.op .lt (.bi .len [(.nm 2)]) (.k (.int 5))))) (b := [.expr (.push (.nm 2) (.tup [(.nm 1), (.call false 19 [(.nm 0), (.k (.int 13))])])), .set (.nm 1) (.op .add (.op .add (.nm 1) (.k (.int 3))) (.call false 19 [(.nm 0), (.k (.int 6))]))])
    (fun m ρ T => ∃ h ps, ρ = [some (.cell c), some (.int h), some (.cell S.length)] ∧ Go c S T ∧ T[S.length]? = some (ps.map pr) ∧ TideW h ps ∧ m = 5 - ps.length)
    (fun ρ T => ∃ h ps, ρ = [some (.cell c), some (.int h), some (.cell S.length)] ∧ Go c S T ∧ T[S.length]? = some (ps.map pr) ∧ TideW h ps ∧ (24 ≤ h ∨ 5 ≤ ps.length))
    (m := 5) (ρ := [some (.cell c), some (.int 0), some (.cell S.length)]) (S := S ++ [[]])
    ⟨0, [], rfl, (Go.refl hb).push [], by simp, ⟨by simp, by omega, by simp, by simp, fun _ => rfl, by simp, .nil⟩, rfl⟩ (by decide) (fun m ρ T ⟨h, ps, hρ, g, hk, w, hm⟩ => by
      subst hρ
      have tst : denT (Cs tab WF (k + 1)) (.and (.op .lt (.nm 1) (.k (.int 24))) (.op .lt (.bi .len [(.nm 2)]) (.k (.int 5)))) [some (.cell c), some (.int h), some (.cell S.length)] T = .ok (decide (h < 24) && decide (((ps.map pr).length : Int) < 5)) T := by walk_at "T"
      rw [List.length_map] at tst
      by_cases h1 : h < 24
      · by_cases h2 : ps.length < 5
        · right
          obtain ⟨x, T1, s1, x0, x1, e1⟩ := ev_take (k := k) g.bag (m := 13) (by decide)
          have hk1 : T1[S.length]? = some (ps.map pr) := by rw [s1.same _ (by omega)]; exact hk
          have g2 : Go c S (T1.set S.length (ps.map pr ++ [pr (h, x)])) := (g.sm s1).set (Nat.le_refl _) hc _
          obtain ⟨r, T2, s2, r0, r1, e2⟩ := ev_take (k := k) g2.bag (m := 6) (by decide)
          have hz : (ps.map pr).length < 16777216 := by rw [List.length_map]; omega
          have hl1 : S.length < T1.length := (List.getElem?_eq_some_iff.mp hk1).1
          refine ⟨T, [some (.cell c), some (.int (h + 3 + r)), some (.cell S.length)], T2, 5 - (ps.length + 1), ?_, ?_, by omega, h + 3 + r, ps ++ [(h, x)], rfl, g2.sm s2, ?_, w.step h1 h2 x0 x1 r0, ?_⟩
          · rw [tst, decide_eq_true h1, decide_eq_true (show (ps.length : Int) < 5 by omega)]
            rfl
          · walk_at "X"
          · rw [s2.same _ (by omega), List.getElem?_set_self hl1, List.map_append]
            rfl
          · rw [List.length_append]; rfl
        · left
          refine ⟨T, ?_, h, ps, rfl, g, hk, w, .inr (by omega)⟩
          rw [tst, decide_eq_false (show ¬ (ps.length : Int) < 5 by omega), Bool.and_false]
      · left
        refine ⟨T, ?_, h, ps, rfl, g, hk, w, .inl (by omega)⟩
        rw [tst, decide_eq_false h1]
        rfl)
  have hT : T.length ≠ S.length := by have := (List.getElem?_eq_some_iff.mp hk).1; omega
  have ln : Bi.len.g T [.cell S.length] = some (.int ps.length) := by rw [g_lenC hk, List.length_map]
  have tp : Bi.tup.g T [.cell S.length] = some (.tup (ps.map pr)) := by
    show (seqA T (.cell S.length)).map D.tup = _
    simp only [seqA, seqL, hk]
    rfl
  by_cases h2 : (1 : Int) < ps.length
  · refine ⟨ps, T.take S.length, g.take hb, ⟨by omega, by have := w.five; omega, w.bd, w.hd, w.up⟩, ?_⟩
    apply cs_run
    rfl
    apply r_ret
    · walk_at "X"
    · exact fin_flt (prs_flt ps) (by decide) hT
  · refine ⟨[(0, 0), (12, 9)], T.take S.length, g.take hb, ⟨by decide, by decide, by decide, ?_, by simp⟩, ?_⟩
    · intro p hp; simp at hp; rw [← hp]
    · apply cs_run
      rfl
      apply r_ret
      · walk_at "X"
      · exact fin_flt (n := 3) rfl (by decide) hT
end Lw

end
section
set_option Elab.async false
set_option linter.all false
set_option maxRecDepth 100000
set_option maxHeartbeats 4000000
namespace Lw
open Pd
local macro_rules | `(tactic| walk_at "B") => `(tactic| first
  | rfl
  | assumption
  | exact bp (by first | assumption | omega)
  | exact bn (by first | assumption | omega)
  | (apply np; walk_at "B")
  | (apply nn; walk_at "B")
  | (apply ap <;> walk_at "B")
  | (apply al; walk_at "B")
  | (apply ar; walk_at "B")
  | (apply ol; walk_at "B")
  | (apply or'; walk_at "B")
  | (apply on <;> walk_at "B"))
local macro_rules | `(tactic| walk_at "L") => `(tactic| first
  | assumption
  | exact g_add | exact g_sub | exact g_lt | exact g_le | exact g_gt | exact g_ge | exact g_eqI | exact g_neI
  | exact g_mod (by first | assumption | omega)
  | exact g_div (by first | assumption | omega) (by first | assumption | omega)
  | exact g_mulL (by first | assumption | exact small_of (by omega) (by omega))
  | exact g_mulR (by first | assumption | exact small_of (by omega) (by omega))
  | exact g_idxT ix0 | exact g_idxT ix1 | exact g_idxT ix2 | exact g_idxT ix3
  | exact g_idxT (by assumption) | exact g_idxL (by assumption)
  | exact g_absI | exact g_tupL | exact g_tupT | exact g_is | exact g_isN | exact g_isB | exact g_isNB | exact g_lenT | exact g_lenL | exact g_lenS | exact g_lenC (by assumption)
  | exact g_addT (by first | omega | (simp only [List.length_append, List.length_cons, List.length_nil, List.length_map]; omega))
  | exact g_addL (by first | omega | (simp only [List.length_append, List.length_cons, List.length_nil, List.length_map]; omega))
  | rfl)
local macro_rules | `(tactic| walk_at "C") => `(tactic| first | assumption)
local macro_rules | `(tactic| walk_at "Z") => `(tactic| first | assumption | exact Nat.le_of_ble_eq_true rfl | omega | (simp only [List.length_append, List.length_cons, List.length_nil, List.length_map]; omega))
local macro_rules | `(tactic| walk_at "LL") => `(tactic| first
  | exact l_nil
  | (apply l_cons; walk_at "V"; walk_at "LL"))
local macro_rules | `(tactic| walk_at "O") => `(tactic| first
  | exact o_none
  | (apply o_some; walk_at "V"))
local macro_rules | `(tactic| walk_at "V") => `(tactic| first
  | assumption
  | exact v_nm rfl
  | exact v_k
  | (apply v_op; walk_at "V"; walk_at "V"; walk_at "L")
  | (apply v_call; walk_at "LL"; walk_at "C"; first | rfl | assumption)
  | (apply v_callK; walk_at "LL"; walk_at "C")
  | (apply v_callF; walk_at "LL"; walk_at "C")
  | (apply v_bi; walk_at "LL"; walk_at "L")
  | (apply v_tup; walk_at "LL"; walk_at "Z")
  | (apply v_neg; walk_at "V"; rfl)
  | (apply v_not; walk_at "V")
  | (apply v_and; walk_at "V"; walk_at "V")
  | (apply v_and_f; walk_at "V"; walk_at "B")
  | (apply v_and_t; walk_at "V"; walk_at "B"; walk_at "V")
  | (apply v_or; walk_at "V"; walk_at "V")
  | (apply v_or_t; walk_at "V"; walk_at "B")
  | (apply v_or_f; walk_at "V"; walk_at "B"; walk_at "V")
  | (apply v_ite_t; walk_at "T"; walk_at "B"; walk_at "V")
  | (apply v_ite_f; walk_at "T"; walk_at "B"; walk_at "V")
  | (apply v_chain; walk_at "V"; walk_at "V"; walk_at "L"; walk_at "V"; walk_at "L")
  | (apply v_chain_f; walk_at "V"; walk_at "V"; walk_at "L"; walk_at "B")
  | (apply v_chain_t; walk_at "V"; walk_at "V"; walk_at "L"; walk_at "B"; walk_at "V"; walk_at "L")
  | (apply v_slc; walk_at "V"; walk_at "O"; walk_at "O"; walk_at "L")
  | (apply v_rev; walk_at "V"; walk_at "L")
  | (apply v_lst; walk_at "LL"; walk_at "Z")
  | (apply v_lstN; walk_at "LL"; walk_at "Z"; walk_at "H")
  | (apply v_push; walk_at "V"; walk_at "V"; walk_at "K"; walk_at "Z"; walk_at "H")
  | (apply v_pop0; walk_at "V"; walk_at "K")
  | (apply v_lstC; walk_at "V"; walk_at "L"; walk_at "H"))
local macro_rules | `(tactic| walk_at "H") => `(tactic| first | rfl | assumption)
local macro_rules | `(tactic| walk_at "K") => `(tactic| first | assumption | rfl)
local macro_rules | `(tactic| walk_at "T") => `(tactic| first
  | assumption
  | (apply t_not; walk_at "T")
  | (apply t_and; walk_at "T"; walk_at "T")
  | (apply t_and_f; walk_at "T"; walk_at "B")
  | (apply t_and_t; walk_at "T"; walk_at "B"; walk_at "T")
  | (apply t_or; walk_at "T"; walk_at "T")
  | (apply t_or_t; walk_at "T"; walk_at "B")
  | (apply t_or_f; walk_at "T"; walk_at "B"; walk_at "T")
  | (apply t_of; rfl; walk_at "V"; first | exact tr_b | rfl | assumption))
local macro_rules | `(tactic| walk_at "I") => `(tactic| first
  | assumption
  | (apply i_seq; walk_at "V"; first | rfl | assumption)
  | (apply i_rng; walk_at "V"; omega)
  | (apply i_rng2; walk_at "V"; walk_at "V"; omega)
  | (apply i_zipT; walk_at "V"; walk_at "V")
  | (apply i_zipL; walk_at "V"; walk_at "V")
  | (apply i_enum; walk_at "V"))
local macro_rules | `(tactic| walk_at "X") => `(tactic| first
  | assumption
  | exact xs_nil
  | (apply xs_ret; walk_at "S")
  | (apply xs_cons; walk_at "S"; walk_at "X"))
local macro_rules | `(tactic| walk_at "S") => `(tactic| first
  | assumption
  | (apply x_set; walk_at "V"; rfl)
  | (apply x_ret; walk_at "V")
  | exact x_retN
  | (apply x_expr; walk_at "V")
  | (apply x_par; walk_at "LL"; rfl)
  | (apply x_ite_t; walk_at "T"; walk_at "B"; walk_at "X")
  | (apply x_ite_f; walk_at "T"; walk_at "B"; walk_at "X")
  | exact x_pass
  | (apply x_setix; walk_at "V"; walk_at "V"; walk_at "V"; walk_at "K"; walk_at "L"; walk_at "H"))
local macro_rules | `(tactic| walk_at "F") => `(tactic| first
  | exact fin_v (by first | rfl | assumption) (by first | rfl | assumption | omega)
  | exact fin_v rfl (by simp only [List.length_set]; omega)
  | exact fin_v rfl (by simp; omega))
/- a def from its call to its end; what it hands back stays open -/
local macro_rules | `(tactic| walk_at "R") => `(tactic| (apply cs_run; rfl; first
  | (apply r_ret; walk_at "X"; walk_at "F")
  | (apply r_nx; walk_at "X"; walk_at "F")))

variable {k n l c : Nat} {S S' S'' S0 T T' : Store} {v : D} {bs ds : List D}
structure HarbP (ps : List (Int × Int)) (ss : List Int) (rs : List (Int × Int)) : Prop where
  tide : TideP ps
  one : 1 ≤ ss.length
  four : ss.length ≤ 4
  len : rs.length + 1 = ss.length
  sb : ∀ s ∈ ss, -2 ≤ s ∧ s ≤ 1
  rb : ∀ p ∈ rs, -1 ≤ p.1 ∧ p.1 ≤ 2 ∧ 1 ≤ p.2 ∧ p.2 ≤ 5
abbrev harbD (ps : List (Int × Int)) (ss : List Int) (rs : List (Int × Int)) : D := .tup [.tup (ps.map pr), .tup (ss.map D.int), .tup (rs.map pr)]
theorem ev_gharb {m : Int} (m0 : 0 < m) (m4 : m ≤ 4) (hb : Bag c S) : ∃ ps ss rs S', Sm c S S' ∧ HarbP ps ss rs ∧ (ss.length : Int) ≤ m ∧ Cs tab WF (k + 3) 22 [.cell c, .int m] S = .ok (harbD ps ss rs) S' := by
  obtain ⟨s1, S1, q1, a0, a1, e1⟩ := ev_take (k := k + 1) hb (m := 4) (by decide)
  obtain ⟨tn, S2, q2, t0, t1, e2⟩ := ev_take (k := k + 1) q1.bag (m := m) m0
  have he : den (Cs tab WF (k + 2)) (.call false 19 [(.nm 0), (.nm 1)]) [some (.cell c), some (.int m), none, some (.tup [.int (s1 - 2)]), some (.tup [])] S1 = .ok (.int tn) S2 := by walk_at "V"
  obtain ⟨ρ', T, ⟨ss, rs, x2, rfl, g, h1, h2, h3, h4⟩, e⟩ := Pd.for_rng (C := Cs tab WF (k + 2)) (w := WF) (v := 2) (b := [.set (.nm 4) (.op .add (.nm 4) (.tup [(.tup [(.op .sub (.call false 19 [(.nm 0), (.k (.int 4))]) (.k (.int 1))), (.op .add (.k (.int 1)) (.call false 19 [(.nm 0), (.k (.int 5))]))])])), .set (.nm 3) (.op .add (.nm 3) (.tup [(.op .sub (.call false 19 [(.nm 0), (.k (.int 4))]) (.k (.int 2)))]))])
    (fun j ρ T => ∃ ss rs x2, ρ = [some (.cell c), some (.int m), x2, some (.tup (ss.map D.int)), some (.tup (rs.map pr))] ∧ Sm c S T ∧ ss.length = j + 1 ∧ rs.length = j ∧ (∀ s ∈ ss, -2 ≤ s ∧ s ≤ 1) ∧ ∀ p ∈ rs, -1 ≤ p.1 ∧ p.1 ≤ 2 ∧ 1 ≤ p.2 ∧ p.2 ≤ 5)
    he ⟨t0, by omega⟩ ⟨[s1 - 2], [], none, rfl, q1.trans q2, rfl, rfl, fun s hs => by rw [List.mem_singleton.mp hs]; omega, by simp⟩ (fun j hj ρ T ⟨ss, rs, x2, hρ, g, h1, h2, h3, h4⟩ => by
      subst hρ
      obtain ⟨i1, T1, g1, b0, b1, f1⟩ := ev_take (k := k + 1) g.bag (m := 4) (by decide)
      obtain ⟨i2, T2, g2, c0, c1, f2⟩ := ev_take (k := k + 1) g1.bag (m := 5) (by decide)
      obtain ⟨i3, T3, g3, d0, d1, f3⟩ := ev_take (k := k + 1) g2.bag (m := 4) (by decide)
      refine ⟨[some (.cell c), some (.int m), some (.int j), some (.tup ((ss ++ [i3 - 2]).map D.int)), some (.tup ((rs ++ [(i1 - 1, 1 + i2)]).map pr))], T3, ⟨_, _, _, rfl, ((g.trans g1).trans g2).trans g3, by simp; omega, by simp; omega, fun s hs => ?_, fun p hp => ?_⟩, ?_⟩
      · rcases List.mem_append.mp hs with hs | hs
        · exact h3 s hs
        · rw [List.mem_singleton.mp hs]; omega
      · rcases List.mem_append.mp hp with hp | hp
        · exact h4 p hp
        · rw [List.mem_singleton.mp hp]; show -1 ≤ i1 - 1 ∧ i1 - 1 ≤ 2 ∧ 1 ≤ 1 + i2 ∧ 1 + i2 ≤ 5; omega
      · rw [List.map_append, List.map_append]
        walk_at "X")
  obtain ⟨ps, S', s3, tp, e3⟩ := ev_gtide (k := k) g.bag
  have hl : S'.length = S.length := (g.trans s3).len
  refine ⟨ps, ss, rs, S', g.trans s3, ⟨tp, by omega, by omega, by omega, h3, h4⟩, by omega, ?_⟩
  walk_at "R"
end Lw

end
section
set_option Elab.async false
set_option linter.all false
set_option maxRecDepth 100000
set_option maxHeartbeats 4000000
namespace Lw
open Pd
local macro_rules | `(tactic| walk_at "B") => `(tactic| first
  | rfl
  | assumption
  | exact bp (by first | assumption | omega)
  | exact bn (by first | assumption | omega)
  | (apply np; walk_at "B")
  | (apply nn; walk_at "B")
  | (apply ap <;> walk_at "B")
  | (apply al; walk_at "B")
  | (apply ar; walk_at "B")
  | (apply ol; walk_at "B")
  | (apply or'; walk_at "B")
  | (apply on <;> walk_at "B"))
local macro_rules | `(tactic| walk_at "L") => `(tactic| first
  | assumption
  | exact g_add | exact g_sub | exact g_lt | exact g_le | exact g_gt | exact g_ge | exact g_eqI | exact g_neI
  | exact g_mod (by first | assumption | omega)
  | exact g_div (by first | assumption | omega) (by first | assumption | omega)
  | exact g_mulL (by first | assumption | exact small_of (by omega) (by omega))
  | exact g_mulR (by first | assumption | exact small_of (by omega) (by omega))
  | exact g_idxT ix0 | exact g_idxT ix1 | exact g_idxT ix2 | exact g_idxT ix3
  | exact g_idxT (by assumption) | exact g_idxL (by assumption)
  | exact g_absI | exact g_tupL | exact g_tupT | exact g_is | exact g_isN | exact g_isB | exact g_isNB | exact g_lenT | exact g_lenL | exact g_lenS | exact g_lenC (by assumption)
  | exact g_addT (by first | omega | (simp only [List.length_append, List.length_cons, List.length_nil, List.length_map]; omega))
  | exact g_addL (by first | omega | (simp only [List.length_append, List.length_cons, List.length_nil, List.length_map]; omega))
  | rfl)
local macro_rules | `(tactic| walk_at "C") => `(tactic| first | assumption)
local macro_rules | `(tactic| walk_at "Z") => `(tactic| first | assumption | exact Nat.le_of_ble_eq_true rfl | omega | (simp only [List.length_append, List.length_cons, List.length_nil, List.length_map]; omega))
local macro_rules | `(tactic| walk_at "LL") => `(tactic| first
  | exact l_nil
  | (apply l_cons; walk_at "V"; walk_at "LL"))
local macro_rules | `(tactic| walk_at "O") => `(tactic| first
  | exact o_none
  | (apply o_some; walk_at "V"))
local macro_rules | `(tactic| walk_at "V") => `(tactic| first
  | assumption
  | exact v_nm rfl
  | exact v_k
  | (apply v_op; walk_at "V"; walk_at "V"; walk_at "L")
  | (apply v_call; walk_at "LL"; walk_at "C"; first | rfl | assumption)
  | (apply v_callK; walk_at "LL"; walk_at "C")
  | (apply v_callF; walk_at "LL"; walk_at "C")
  | (apply v_bi; walk_at "LL"; walk_at "L")
  | (apply v_tup; walk_at "LL"; walk_at "Z")
  | (apply v_neg; walk_at "V"; rfl)
  | (apply v_not; walk_at "V")
  | (apply v_and; walk_at "V"; walk_at "V")
  | (apply v_and_f; walk_at "V"; walk_at "B")
  | (apply v_and_t; walk_at "V"; walk_at "B"; walk_at "V")
  | (apply v_or; walk_at "V"; walk_at "V")
  | (apply v_or_t; walk_at "V"; walk_at "B")
  | (apply v_or_f; walk_at "V"; walk_at "B"; walk_at "V")
  | (apply v_ite_t; walk_at "T"; walk_at "B"; walk_at "V")
  | (apply v_ite_f; walk_at "T"; walk_at "B"; walk_at "V")
  | (apply v_chain; walk_at "V"; walk_at "V"; walk_at "L"; walk_at "V"; walk_at "L")
  | (apply v_chain_f; walk_at "V"; walk_at "V"; walk_at "L"; walk_at "B")
  | (apply v_chain_t; walk_at "V"; walk_at "V"; walk_at "L"; walk_at "B"; walk_at "V"; walk_at "L")
  | (apply v_slc; walk_at "V"; walk_at "O"; walk_at "O"; walk_at "L")
  | (apply v_rev; walk_at "V"; walk_at "L")
  | (apply v_lst; walk_at "LL"; walk_at "Z")
  | (apply v_lstN; walk_at "LL"; walk_at "Z"; walk_at "H")
  | (apply v_push; walk_at "V"; walk_at "V"; walk_at "K"; walk_at "Z"; walk_at "H")
  | (apply v_pop0; walk_at "V"; walk_at "K")
  | (apply v_lstC; walk_at "V"; walk_at "L"; walk_at "H"))
local macro_rules | `(tactic| walk_at "H") => `(tactic| first | rfl | assumption)
local macro_rules | `(tactic| walk_at "K") => `(tactic| first | assumption | rfl)
local macro_rules | `(tactic| walk_at "T") => `(tactic| first
  | assumption
  | (apply t_not; walk_at "T")
  | (apply t_and; walk_at "T"; walk_at "T")
  | (apply t_and_f; walk_at "T"; walk_at "B")
  | (apply t_and_t; walk_at "T"; walk_at "B"; walk_at "T")
  | (apply t_or; walk_at "T"; walk_at "T")
  | (apply t_or_t; walk_at "T"; walk_at "B")
  | (apply t_or_f; walk_at "T"; walk_at "B"; walk_at "T")
  | (apply t_of; rfl; walk_at "V"; first | exact tr_b | rfl | assumption))
local macro_rules | `(tactic| walk_at "I") => `(tactic| first
  | assumption
  | (apply i_seq; walk_at "V"; first | rfl | assumption)
  | (apply i_rng; walk_at "V"; omega)
  | (apply i_rng2; walk_at "V"; walk_at "V"; omega)
  | (apply i_zipT; walk_at "V"; walk_at "V")
  | (apply i_zipL; walk_at "V"; walk_at "V")
  | (apply i_enum; walk_at "V"))
local macro_rules | `(tactic| walk_at "X") => `(tactic| first
  | assumption
  | exact xs_nil
  | (apply xs_ret; walk_at "S")
  | (apply xs_cons; walk_at "S"; walk_at "X"))
local macro_rules | `(tactic| walk_at "S") => `(tactic| first
  | assumption
  | (apply x_set; walk_at "V"; rfl)
  | (apply x_ret; walk_at "V")
  | exact x_retN
  | (apply x_expr; walk_at "V")
  | (apply x_par; walk_at "LL"; rfl)
  | (apply x_ite_t; walk_at "T"; walk_at "B"; walk_at "X")
  | (apply x_ite_f; walk_at "T"; walk_at "B"; walk_at "X")
  | exact x_pass
  | (apply x_setix; walk_at "V"; walk_at "V"; walk_at "V"; walk_at "K"; walk_at "L"; walk_at "H"))
local macro_rules | `(tactic| walk_at "F") => `(tactic| first
  | exact fin_v (by first | rfl | assumption) (by first | rfl | assumption | omega)
  | exact fin_v rfl (by simp only [List.length_set]; omega)
  | exact fin_v rfl (by simp; omega))
/- a def from its call to its end; what it hands back stays open -/
local macro_rules | `(tactic| walk_at "R") => `(tactic| (apply cs_run; rfl; first
  | (apply r_ret; walk_at "X"; walk_at "F")
  | (apply r_nx; walk_at "X"; walk_at "F")))

variable {k n l c : Nat} {S S' S'' S0 T T' : Store} {v : D} {bs ds : List D}
theorem vok_flt : ∀ {n l : Nat} {d : D}, n ≤ 40 → vok n l d → flt n d = true
  | 0, _, _, _, h => by cases h
  | n + 1, l, d, hn, h => by
    cases d with
    | tup ds => exact List.all_eq_true.mpr fun d hd => vok_flt (by omega) (h.2 d hd)
    | lst ds => exact shp9_of (n := n + 1) (l := l) hn h
    | _ => first | (cases h; done) | rfl | exact h.1
theorem g_idxC {q : Nat} {xs : List D} {i : Int} {d : D} (hk : S[q]? = some xs) (h : L2.atI xs i = some d) : Op.idx.g S (.cell q) (.int i) = some d := by
  show (match seqA S (.cell q) with | some ds => L2.atI ds i | none => none) = _
  simp only [seqA, seqL, hk]
  exact h
local macro_rules | `(tactic| walk_at "L") => `(tactic| first | exact g_idxC (by assumption) ix0 | exact g_idxC (by assumption) ix1)
/-- one branch of an "if": no step or one -/
theorem ev_row {x0 x1 x2 x3 x5 x6 : Option D} {q : Nat} {rs : List D} (hx : x0 = some (.cell c)) (hb : Bag c S) (hq : q ≠ c) (hk : S[q]? = some rs) (hr : rs.length < 100) : ∃ r x6' S', Sm c S S' ∧ vok 3 2 r ∧ Pd.execs (Cs tab WF (k + 3)) WF [.expr (.push (.nm 4) (.bi .tup [(.comp (.call false 24 [(.nm 0)]) (.nm 6) (.rng (.call false 19 [(.nm 0), (.k (.int 2))])) none [6])]))] [x0, x1, x2, x3, some (.cell q), x5, x6] S = .ok (.nx [x0, x1, x2, x3, some (.cell q), x5, x6']) (S'.set q (rs ++ [r])) := by
  subst hx
  obtain ⟨tn, S1, s1, t0, t1, e1⟩ := ev_take (k := k + 2) hb (m := 2) (by decide)
  have hi : denI (Cs tab WF (k + 3)) (.rng (.call false 19 [(.nm 0), (.k (.int 2))])) [some (.cell c), x1, x2, x3, some (.cell q), x5, x6] S = .ok (rngOf 0 tn) S1 := by walk_at "I"
  obtain ⟨res, S2, ⟨s2, h2, h3⟩, e2⟩ := v_compS (C := Cs tab WF (k + 3)) (elt := .call false 24 [(.nm 0)]) (g := .nm 6) (own := [6]) (fun j acc T => Sm c S1 T ∧ acc.length = j ∧ ∀ d ∈ acc, vok 2 2 d) hi (by rw [rng_len]; omega) ⟨.refl s1.bag, rfl, by simp⟩ (fun j d hd acc T ⟨g, h1, h2⟩ => by
    obtain ⟨xs, T', g', hv, e⟩ := ev_gstep (k := k) g.bag
    refine ⟨_, .tup xs, T', ⟨g.trans g', by rw [List.length_append, h1]; rfl, fun d hd => ?_⟩, rfl, ?_⟩
    · rcases List.mem_append.mp hd with hd | hd
      · exact h2 d hd
      · rw [List.mem_singleton.mp hd]; exact hv
    · walk_at "V")
  have hv : vok 3 2 (.tup res) := ⟨by rw [h2, rng_len]; omega, h3⟩
  have hs : shp9 (.tup res) = true := shp9_of (by decide) hv
  have hk2 : S2[q]? = some rs := by rw [(s1.trans s2).same _ hq]; exact hk
  refine ⟨.tup res, x6, S2, s1.trans s2, hv, ?_⟩
  walk_at "X"
theorem ev_gsteps (hb : Bag c S) : ∃ ds S', Sm c S S' ∧ vok 5 4 (.tup ds) ∧ Cs tab WF (k + 4) 25 [.cell c, .int 4] S = .ok (.tup ds) S' := by
  have hc := hb.lt
  obtain ⟨tn, S1, q1, t0, t1, e1⟩ := ev_take (k := k + 2) hb (m := 5) (by decide)
  have he : den (Cs tab WF (k + 3)) (.call false 19 [(.nm 0), (.op .add (.nm 1) (.k (.int 1)))]) [some (.cell c), some (.int 4), some (.tup []), none, none, none, none] S = .ok (.int tn) S1 := by
    have e1' : Cs tab WF (k + 3) 19 [.cell c, .int (4 + 1)] S = .ok (.int tn) S1 := e1
    walk_at "V"
  obtain ⟨ρ', T, ⟨fs, x3, x4, x5, x6, rfl, g, hl, hv⟩, e⟩ := Pd.for_rng (C := Cs tab WF (k + 3)) (w := WF) (v := 3) (b := [.ite (.op .eq (.call false 19 [(.nm 0), (.k (.int 5))]) (.k (.int 0))) [.set (.nm 4) (.lst true []), .for_ (.nm 5) (.rng (.k (.int 2))) [.expr (.push (.nm 4) (.bi .tup [(.comp (.call false 24 [(.nm 0)]) (.nm 6) (.rng (.call false 19 [(.nm 0), (.k (.int 2))])) none [6])]))], .set (.nm 2) (.op .add (.nm 2) (.tup [(.tup [(.k (.str "if")), (.call false 20 [(.nm 0), (.lst false [(.k (.str "out")), (.k (.str "in"))])]), (.op .idx (.nm 4) (.k (.int 0))), (.op .idx (.nm 4) (.k (.int 1)))])]))] [.set (.nm 2) (.op .add (.nm 2) (.tup [(.call false 24 [(.nm 0)])]))]])
    (fun j ρ T => ∃ fs x3 x4 x5 x6, ρ = [some (.cell c), some (.int 4), some (.tup fs), x3, x4, x5, x6] ∧ Go c S T ∧ fs.length = j ∧ ∀ d ∈ fs, vok 4 4 d)
    he ⟨t0, by omega⟩ ⟨[], none, none, none, none, rfl, q1.go, rfl, by simp⟩ (fun j hj ρ T ⟨fs, x3, x4, x5, x6, hρ, g, hl, hv⟩ => by
      subst hρ
      obtain ⟨i, T1, g1, i0, i5, f1⟩ := ev_take (k := k + 2) g.bag (m := 5) (by decide)
      by_cases hi : i = 0
      · have hle : S.length ≤ T1.length := (g.sm g1).len
        have b1 := (g.sm g1).push []
        have hq : T1.length ≠ c := by have := g1.bag.lt; omega
        obtain ⟨ρ2, T2, ⟨y5, y6, rs, rfl, g2, hk2, hr2, hv2⟩, f2⟩ := Pd.for_rng (C := Cs tab WF (k + 3)) (w := WF) (v := 5) (e := .k (.int 2)) (m := 2) (ρ := [some (.cell c), some (.int 4), some (.tup fs), some (.int j), some (.cell T1.length), x5, x6]) (S := T1 ++ [[]]) (b := [.expr (.push (.nm 4) (.bi .tup [(.comp (.call false 24 [(.nm 0)]) (.nm 6) (.rng (.call false 19 [(.nm 0), (.k (.int 2))])) none [6])]))])
          (fun j2 ρ T => ∃ y5 y6 rs, ρ = [some (.cell c), some (.int 4), some (.tup fs), some (.int j), some (.cell T1.length), y5, y6] ∧ Go c S T ∧ T[T1.length]? = some rs ∧ rs.length = j2 ∧ ∀ d ∈ rs, vok 3 2 d)
          v_k ⟨by decide, by decide⟩ ⟨x5, x6, [], rfl, b1, by simp, rfl, by simp⟩ (fun j2 hj2 ρ T ⟨y5, y6, rs, hρ, g, hk, hr, hv⟩ => by
            subst hρ
            obtain ⟨r, y6', T', s', hr', e'⟩ := ev_row (k := k) (x1 := some (.int 4)) (x2 := some (.tup fs)) (x3 := some (.int j)) (x5 := some (.int j2)) (x6 := y6) rfl g.bag hq hk (by omega)
            have hlt : T1.length < T'.length := by rw [s'.len]; exact (List.getElem?_eq_some_iff.mp hk).1
            refine ⟨_, _, ⟨some (.int j2), y6', rs ++ [r], rfl, (g.sm s').set hle hc _, by rw [List.getElem?_set_self hlt], by rw [List.length_append, hr]; rfl, fun d hd => ?_⟩, e'⟩
            rcases List.mem_append.mp hd with hd | hd
            · exact hv d hd
            · rw [List.mem_singleton.mp hd]; exact hr')
        obtain ⟨r0, r1, rfl⟩ : ∃ r0 r1, rs = [r0, r1] := len2 hr2
        obtain ⟨d, T3, g3, hm, f3⟩ := ev_choice (k := k + 1) (ds := [.str "out", .str "in"]) g2.bag (by decide) (fun d hd => by
          simp only [List.mem_cons, List.not_mem_nil, or_false] at hd
          rcases hd with rfl | rfl
          · exact sv_out
          · exact sv_in)
        have dv : vok 1 0 d := by
          simp only [List.mem_cons, List.not_mem_nil, or_false] at hm
          rcases hm with rfl | rfl
          · exact sv_out
          · exact sv_in
        have nc := vok_nc dv
        have hk3 : T3[T1.length]? = some [r0, r1] := by rw [g3.same _ hq]; exact hk2
        have tst : denT (Cs tab WF (k + 3)) (.op .eq (.call false 19 [(.nm 0), (.k (.int 5))]) (.k (.int 0))) [some (.cell c), some (.int 4), some (.tup fs), some (.int j), x4, x5, x6] T = .ok (decide (i = 0)) T1 := by walk_at "T"
        have hb1 : decide (i = 0) = true := decide_eq_true hi
        refine ⟨[some (.cell c), some (.int 4), some (.tup (fs ++ [.tup [.str "if", d, r0, r1]])), some (.int j), some (.cell T1.length), y5, y6], T3, ⟨_, _, _, _, _, rfl, g2.sm g3, by rw [List.length_append, hl]; rfl, fun q hq => ?_⟩, ?_⟩
        · rcases List.mem_append.mp hq with hq | hq
          · exact hv q hq
          · rw [List.mem_singleton.mp hq]
            refine ⟨by simp, fun q hq => ?_⟩
            simp only [List.mem_cons, List.not_mem_nil, or_false] at hq
            rcases hq with rfl | rfl | rfl | rfl
            · exact vok_mono (n := 1) (l := 0) (by decide) (by decide) sv_if
            · exact vok_mono (by decide) (by decide) dv
            · exact vok_mono (by decide) (by decide) (hv2 _ (by simp))
            · exact vok_mono (by decide) (by decide) (hv2 _ (by simp))
        · apply xs_cons
          · apply x_ite_t
            · exact tst
            · exact hb1
            · walk_at "X"
          · exact xs_nil
      · obtain ⟨xs, T2, g2, xv, f2⟩ := ev_gstep (k := k) g1.bag
        have tst : denT (Cs tab WF (k + 3)) (.op .eq (.call false 19 [(.nm 0), (.k (.int 5))]) (.k (.int 0))) [some (.cell c), some (.int 4), some (.tup fs), some (.int j), x4, x5, x6] T = .ok (decide (i = 0)) T1 := by walk_at "T"
        have hb1 : decide (i = 0) = false := decide_eq_false hi
        refine ⟨[some (.cell c), some (.int 4), some (.tup (fs ++ [.tup xs])), some (.int j), x4, x5, x6], T2, ⟨_, _, _, _, _, rfl, (g.sm g1).sm g2, by rw [List.length_append, hl]; rfl, fun q hq => ?_⟩, ?_⟩
        · rcases List.mem_append.mp hq with hq | hq
          · exact hv q hq
          · rw [List.mem_singleton.mp hq]
            exact vok_mono (by decide) (by decide) xv
        · apply xs_cons
          · apply x_ite_f
            · exact tst
            · exact hb1
            · walk_at "X"
          · exact xs_nil)
  have hv' : vok 5 4 (.tup fs) := ⟨by omega, hv⟩
  have sp : shp9 (.tup fs) = true := shp9_of (by decide) hv'
  have fl : flt 5 (.tup fs) = true := vok_flt (by decide) hv'
  by_cases hl2 : T.length = S.length
  · refine ⟨fs, T, ⟨g.bag, hl2, fun d hd => ?_⟩, hv', ?_⟩
    · by_cases h : d < S.length
      · exact g.same d hd h
      · rw [List.getElem?_eq_none (by omega), List.getElem?_eq_none (by omega)]
    · walk_at "R"
  · refine ⟨fs, T.take S.length, g.take hb, hv', ?_⟩
    apply cs_run
    rfl
    apply r_ret
    · walk_at "X"
    · exact fin_flt fl (by decide) hl2
end Lw

end
section
set_option Elab.async false
set_option linter.all false
set_option maxRecDepth 100000
set_option maxHeartbeats 4000000
namespace Lw
open Pd
local macro_rules | `(tactic| walk_at "B") => `(tactic| first
  | rfl
  | assumption
  | exact bp (by first | assumption | omega)
  | exact bn (by first | assumption | omega)
  | (apply np; walk_at "B")
  | (apply nn; walk_at "B")
  | (apply ap <;> walk_at "B")
  | (apply al; walk_at "B")
  | (apply ar; walk_at "B")
  | (apply ol; walk_at "B")
  | (apply or'; walk_at "B")
  | (apply on <;> walk_at "B"))
local macro_rules | `(tactic| walk_at "L") => `(tactic| first
  | assumption
  | exact g_add | exact g_sub | exact g_lt | exact g_le | exact g_gt | exact g_ge | exact g_eqI | exact g_neI
  | exact g_mod (by first | assumption | omega)
  | exact g_div (by first | assumption | omega) (by first | assumption | omega)
  | exact g_mulL (by first | assumption | exact small_of (by omega) (by omega))
  | exact g_mulR (by first | assumption | exact small_of (by omega) (by omega))
  | exact g_idxT ix0 | exact g_idxT ix1 | exact g_idxT ix2 | exact g_idxT ix3
  | exact g_idxT (by assumption) | exact g_idxL (by assumption)
  | exact g_absI | exact g_tupL | exact g_tupT | exact g_is | exact g_isN | exact g_isB | exact g_isNB | exact g_lenT | exact g_lenL | exact g_lenS | exact g_lenC (by assumption)
  | exact g_addT (by first | omega | (simp only [List.length_append, List.length_cons, List.length_nil, List.length_map]; omega))
  | exact g_addL (by first | omega | (simp only [List.length_append, List.length_cons, List.length_nil, List.length_map]; omega))
  | rfl)
local macro_rules | `(tactic| walk_at "C") => `(tactic| first | assumption)
local macro_rules | `(tactic| walk_at "Z") => `(tactic| first | assumption | exact Nat.le_of_ble_eq_true rfl | omega | (simp only [List.length_append, List.length_cons, List.length_nil, List.length_map]; omega))
local macro_rules | `(tactic| walk_at "LL") => `(tactic| first
  | exact l_nil
  | (apply l_cons; walk_at "V"; walk_at "LL"))
local macro_rules | `(tactic| walk_at "O") => `(tactic| first
  | exact o_none
  | (apply o_some; walk_at "V"))
local macro_rules | `(tactic| walk_at "V") => `(tactic| first
  | assumption
  | exact v_nm rfl
  | exact v_k
  | (apply v_op; walk_at "V"; walk_at "V"; walk_at "L")
  | (apply v_call; walk_at "LL"; walk_at "C"; first | rfl | assumption)
  | (apply v_callK; walk_at "LL"; walk_at "C")
  | (apply v_callF; walk_at "LL"; walk_at "C")
  | (apply v_bi; walk_at "LL"; walk_at "L")
  | (apply v_tup; walk_at "LL"; walk_at "Z")
  | (apply v_neg; walk_at "V"; rfl)
  | (apply v_not; walk_at "V")
  | (apply v_and; walk_at "V"; walk_at "V")
  | (apply v_and_f; walk_at "V"; walk_at "B")
  | (apply v_and_t; walk_at "V"; walk_at "B"; walk_at "V")
  | (apply v_or; walk_at "V"; walk_at "V")
  | (apply v_or_t; walk_at "V"; walk_at "B")
  | (apply v_or_f; walk_at "V"; walk_at "B"; walk_at "V")
  | (apply v_ite_t; walk_at "T"; walk_at "B"; walk_at "V")
  | (apply v_ite_f; walk_at "T"; walk_at "B"; walk_at "V")
  | (apply v_chain; walk_at "V"; walk_at "V"; walk_at "L"; walk_at "V"; walk_at "L")
  | (apply v_chain_f; walk_at "V"; walk_at "V"; walk_at "L"; walk_at "B")
  | (apply v_chain_t; walk_at "V"; walk_at "V"; walk_at "L"; walk_at "B"; walk_at "V"; walk_at "L")
  | (apply v_slc; walk_at "V"; walk_at "O"; walk_at "O"; walk_at "L")
  | (apply v_rev; walk_at "V"; walk_at "L")
  | (apply v_lst; walk_at "LL"; walk_at "Z")
  | (apply v_lstN; walk_at "LL"; walk_at "Z"; walk_at "H")
  | (apply v_push; walk_at "V"; walk_at "V"; walk_at "K"; walk_at "Z"; walk_at "H")
  | (apply v_pop0; walk_at "V"; walk_at "K")
  | (apply v_lstC; walk_at "V"; walk_at "L"; walk_at "H"))
local macro_rules | `(tactic| walk_at "H") => `(tactic| first | rfl | assumption)
local macro_rules | `(tactic| walk_at "K") => `(tactic| first | assumption | rfl)
local macro_rules | `(tactic| walk_at "T") => `(tactic| first
  | assumption
  | (apply t_not; walk_at "T")
  | (apply t_and; walk_at "T"; walk_at "T")
  | (apply t_and_f; walk_at "T"; walk_at "B")
  | (apply t_and_t; walk_at "T"; walk_at "B"; walk_at "T")
  | (apply t_or; walk_at "T"; walk_at "T")
  | (apply t_or_t; walk_at "T"; walk_at "B")
  | (apply t_or_f; walk_at "T"; walk_at "B"; walk_at "T")
  | (apply t_of; rfl; walk_at "V"; first | exact tr_b | rfl | assumption))
local macro_rules | `(tactic| walk_at "I") => `(tactic| first
  | assumption
  | (apply i_seq; walk_at "V"; first | rfl | assumption)
  | (apply i_rng; walk_at "V"; omega)
  | (apply i_rng2; walk_at "V"; walk_at "V"; omega)
  | (apply i_zipT; walk_at "V"; walk_at "V")
  | (apply i_zipL; walk_at "V"; walk_at "V")
  | (apply i_enum; walk_at "V"))
local macro_rules | `(tactic| walk_at "X") => `(tactic| first
  | assumption
  | exact xs_nil
  | (apply xs_ret; walk_at "S")
  | (apply xs_cons; walk_at "S"; walk_at "X"))
local macro_rules | `(tactic| walk_at "S") => `(tactic| first
  | assumption
  | (apply x_set; walk_at "V"; rfl)
  | (apply x_ret; walk_at "V")
  | exact x_retN
  | (apply x_expr; walk_at "V")
  | (apply x_par; walk_at "LL"; rfl)
  | (apply x_ite_t; walk_at "T"; walk_at "B"; walk_at "X")
  | (apply x_ite_f; walk_at "T"; walk_at "B"; walk_at "X")
  | exact x_pass
  | (apply x_setix; walk_at "V"; walk_at "V"; walk_at "V"; walk_at "K"; walk_at "L"; walk_at "H"))
local macro_rules | `(tactic| walk_at "F") => `(tactic| first
  | exact fin_v (by first | rfl | assumption) (by first | rfl | assumption | omega)
  | exact fin_v rfl (by simp only [List.length_set]; omega)
  | exact fin_v rfl (by simp; omega))
/- a def from its call to its end; what it hands back stays open -/
local macro_rules | `(tactic| walk_at "R") => `(tactic| (apply cs_run; rfl; first
  | (apply r_ret; walk_at "X"; walk_at "F")
  | (apply r_nx; walk_at "X"; walk_at "F")))

variable {k n l c : Nat} {S S' S'' S0 T T' : Store} {v : D} {bs ds : List D}
theorem gcd_step {x y : Int} (hx : 0 ≤ x) (hy : 0 ≤ y) : Int.gcd y (x % y) = Int.gcd x y := by
  obtain ⟨a, rfl⟩ := Int.eq_ofNat_of_zero_le hx
  obtain ⟨b, rfl⟩ := Int.eq_ofNat_of_zero_le hy
  show Nat.gcd b (((a : Int) % (b : Int)).natAbs) = Nat.gcd a b
  have e : ((a : Int) % (b : Int)).natAbs = a % b := by rw [← Int.natCast_emod]; rfl
  rw [e, Nat.gcd_comm b, ← Nat.gcd_rec, Nat.gcd_comm]
theorem ev_gcd {a b : Int} (hb : b.natAbs < WF) : Cs tab WF (k + 1) 0 [.int a, .int b] S = .ok (.int (Int.gcd a b)) S := by
  obtain ⟨ρ', T, ⟨x, hρ, hT, hx⟩, e⟩ := x_wh (C := Cs tab WF k) (w := WF) (c := .op .ne (.nm 1) (.k (.int 0))) (b := [.par [0, 1] [(.nm 1), (.op .mod (.nm 0) (.nm 1))]])
    (fun m ρ T => ∃ x y : Int, ρ = [some (.int x), some (.int y)] ∧ T = S ∧ 0 ≤ x ∧ 0 ≤ y ∧ Int.gcd x y = Int.gcd a b ∧ m = y.toNat)
    (fun ρ T => ∃ x : Int, ρ = [some (.int x), some (.int 0)] ∧ T = S ∧ x = Int.gcd a b)
    (m := b.natAbs) (ρ := [some (.int a.natAbs), some (.int b.natAbs)]) (S := S)
    ⟨_, _, rfl, rfl, by omega, by omega, by simp [Int.gcd], by simp⟩ hb (fun m ρ T ⟨x, y, hρ, hT, hx, hy, hg, hm⟩ => by
      subst hρ hT
      have tst : denT (Cs tab WF k) (.op .ne (.nm 1) (.k (.int 0))) [some (.int x), some (.int y)] T = .ok (!decide (y = 0)) T := by walk_at "T"
      by_cases h : y = 0
      · left
        refine ⟨T, by rw [tst, decide_eq_true h]; rfl, x, by rw [h], rfl, ?_⟩
        rw [h] at hg
        rw [← hg]
        simp [Int.gcd]
        omega
      · right
        have hp : 0 < y := by omega
        refine ⟨T, [some (.int y), some (.int (x % y))], T, (x % y).toNat, by rw [tst, decide_eq_false h]; rfl, by walk_at "X", ?_, y, x % y, rfl, rfl, hy, Int.emod_nonneg _ h, ?_, rfl⟩
        · have := Int.emod_lt_of_pos x hp
          have := Int.emod_nonneg x h
          omega
        · rw [← hg]
          exact gcd_step hx hy)
  subst hρ hT hx
  walk_at "R"
def unitB : D → Bool
  | .tup [.int a, .int b] => decide (0 ≤ a) && (decide (a ≤ 1000000) && (decide (1 ≤ b) && (decide (b ≤ 1000000) && (decide ((Int.gcd a b : Int) = 1) && decide (a ≤ 12 * b)))))
  | _ => false
theorem ev_is_unit (h : vok n l v) : Cs tab WF (k + 4) 8 [v] S = .ok (.bl (unitB v)) S := by
  have fr : ∀ b, Cs tab WF (k + 3) 7 [v, .int 1000000] S = .ok (.bl b) S → b = false → unitB v = false → Cs tab WF (k + 4) 8 [v] S = .ok (.bl (unitB v)) S := fun b e hb hu => by
    subst hb
    rw [hu]
    walk_at "R"
  have er := ev_is_row (k := k + 1) (S := S) 2 2 h
  cases hr : rowB v 2 2 with
  | false =>
    rw [hr] at er
    refine fr false ?_ rfl ?_
    · walk_at "R"
    · unfold unitB
      split
      · simp [rowB] at hr
      · rfl
  | true =>
    rw [hr] at er
    obtain ⟨ds, rfl, h1, h2⟩ := rowB_tup hr
    obtain ⟨x, y, rfl⟩ := two_of h1 h2
    obtain ⟨m, rfl, _, hv⟩ := vok_tup h
    have ex := ev_is_whole (k := k) (S := S) 0 1000000 (hv x (by simp))
    have ey := ev_is_whole (k := k) (S := S) 1 1000000 (hv y (by simp))
    cases hx : wholeB x 0 1000000 with
    | false =>
      rw [hx] at ex
      refine fr false ?_ rfl ?_
      · walk_at "R"
      · cases x <;> cases y <;> first | rfl | (simp [wholeB] at hx; simp [unitB]; omega)
    | true =>
      rw [hx] at ex
      cases hy : wholeB y 1 1000000 with
      | false =>
        rw [hy] at ey
        refine fr false ?_ rfl ?_
        · walk_at "R"
        · cases x <;> cases y <;> first | rfl | (simp [wholeB] at hy; simp [unitB]; omega)
      | true =>
        rw [hy] at ey
        obtain ⟨a, rfl⟩ : ∃ a, x = .int a := by cases x <;> first | exact ⟨_, rfl⟩ | cases hx
        obtain ⟨b, rfl⟩ : ∃ b, y = .int b := by cases y <;> first | exact ⟨_, rfl⟩ | cases hy
        simp only [wholeB, Bool.and_eq_true, decide_eq_true_eq] at hx hy
        have eg := ev_gcd (k := k + 1) (S := S) (a := a) (b := b) (by show b.natAbs < 1000000000; omega)
        have ef : Cs tab WF (k + 3) 7 [.tup [.int a, .int b], .int 1000000] S = .ok (.bl (decide ((Int.gcd a b : Int) = 1))) S := by walk_at "R"
        have u : unitB (.tup [.int a, .int b]) = (decide ((Int.gcd a b : Int) = 1) && decide (a ≤ 12 * b)) := by simp [unitB, hx, hy]
        rw [u]
        walk_at "R"
end Lw

end
section
set_option Elab.async false
set_option linter.all false
set_option maxRecDepth 100000
set_option maxHeartbeats 4000000
namespace Lw
open Pd
local macro_rules | `(tactic| walk_at "B") => `(tactic| first
  | rfl
  | assumption
  | exact bp (by first | assumption | omega)
  | exact bn (by first | assumption | omega)
  | (apply np; walk_at "B")
  | (apply nn; walk_at "B")
  | (apply ap <;> walk_at "B")
  | (apply al; walk_at "B")
  | (apply ar; walk_at "B")
  | (apply ol; walk_at "B")
  | (apply or'; walk_at "B")
  | (apply on <;> walk_at "B"))
local macro_rules | `(tactic| walk_at "L") => `(tactic| first
  | assumption
  | exact g_add | exact g_sub | exact g_lt | exact g_le | exact g_gt | exact g_ge | exact g_eqI | exact g_neI
  | exact g_mod (by first | assumption | omega)
  | exact g_div (by first | assumption | omega) (by first | assumption | omega)
  | exact g_mulL (by first | assumption | exact small_of (by omega) (by omega))
  | exact g_mulR (by first | assumption | exact small_of (by omega) (by omega))
  | exact g_idxT ix0 | exact g_idxT ix1 | exact g_idxT ix2 | exact g_idxT ix3
  | exact g_idxT (by assumption) | exact g_idxL (by assumption)
  | exact g_absI | exact g_tupL | exact g_tupT | exact g_is | exact g_isN | exact g_isB | exact g_isNB | exact g_lenT | exact g_lenL | exact g_lenS | exact g_lenC (by assumption)
  | exact g_addT (by first | omega | (simp only [List.length_append, List.length_cons, List.length_nil, List.length_map]; omega))
  | exact g_addL (by first | omega | (simp only [List.length_append, List.length_cons, List.length_nil, List.length_map]; omega))
  | rfl)
local macro_rules | `(tactic| walk_at "C") => `(tactic| first | assumption)
local macro_rules | `(tactic| walk_at "Z") => `(tactic| first | assumption | exact Nat.le_of_ble_eq_true rfl | omega | (simp only [List.length_append, List.length_cons, List.length_nil, List.length_map]; omega))
local macro_rules | `(tactic| walk_at "LL") => `(tactic| first
  | exact l_nil
  | (apply l_cons; walk_at "V"; walk_at "LL"))
local macro_rules | `(tactic| walk_at "O") => `(tactic| first
  | exact o_none
  | (apply o_some; walk_at "V"))
local macro_rules | `(tactic| walk_at "V") => `(tactic| first
  | assumption
  | exact v_nm rfl
  | exact v_k
  | (apply v_op; walk_at "V"; walk_at "V"; walk_at "L")
  | (apply v_call; walk_at "LL"; walk_at "C"; first | rfl | assumption)
  | (apply v_callK; walk_at "LL"; walk_at "C")
  | (apply v_callF; walk_at "LL"; walk_at "C")
  | (apply v_bi; walk_at "LL"; walk_at "L")
  | (apply v_tup; walk_at "LL"; walk_at "Z")
  | (apply v_neg; walk_at "V"; rfl)
  | (apply v_not; walk_at "V")
  | (apply v_and; walk_at "V"; walk_at "V")
  | (apply v_and_f; walk_at "V"; walk_at "B")
  | (apply v_and_t; walk_at "V"; walk_at "B"; walk_at "V")
  | (apply v_or; walk_at "V"; walk_at "V")
  | (apply v_or_t; walk_at "V"; walk_at "B")
  | (apply v_or_f; walk_at "V"; walk_at "B"; walk_at "V")
  | (apply v_ite_t; walk_at "T"; walk_at "B"; walk_at "V")
  | (apply v_ite_f; walk_at "T"; walk_at "B"; walk_at "V")
  | (apply v_chain; walk_at "V"; walk_at "V"; walk_at "L"; walk_at "V"; walk_at "L")
  | (apply v_chain_f; walk_at "V"; walk_at "V"; walk_at "L"; walk_at "B")
  | (apply v_chain_t; walk_at "V"; walk_at "V"; walk_at "L"; walk_at "B"; walk_at "V"; walk_at "L")
  | (apply v_slc; walk_at "V"; walk_at "O"; walk_at "O"; walk_at "L")
  | (apply v_rev; walk_at "V"; walk_at "L")
  | (apply v_lst; walk_at "LL"; walk_at "Z")
  | (apply v_lstN; walk_at "LL"; walk_at "Z"; walk_at "H")
  | (apply v_push; walk_at "V"; walk_at "V"; walk_at "K"; walk_at "Z"; walk_at "H")
  | (apply v_pop0; walk_at "V"; walk_at "K")
  | (apply v_lstC; walk_at "V"; walk_at "L"; walk_at "H"))
local macro_rules | `(tactic| walk_at "H") => `(tactic| first | rfl | assumption)
local macro_rules | `(tactic| walk_at "K") => `(tactic| first | assumption | rfl)
local macro_rules | `(tactic| walk_at "T") => `(tactic| first
  | assumption
  | (apply t_not; walk_at "T")
  | (apply t_and; walk_at "T"; walk_at "T")
  | (apply t_and_f; walk_at "T"; walk_at "B")
  | (apply t_and_t; walk_at "T"; walk_at "B"; walk_at "T")
  | (apply t_or; walk_at "T"; walk_at "T")
  | (apply t_or_t; walk_at "T"; walk_at "B")
  | (apply t_or_f; walk_at "T"; walk_at "B"; walk_at "T")
  | (apply t_of; rfl; walk_at "V"; first | exact tr_b | rfl | assumption))
local macro_rules | `(tactic| walk_at "I") => `(tactic| first
  | assumption
  | (apply i_seq; walk_at "V"; first | rfl | assumption)
  | (apply i_rng; walk_at "V"; omega)
  | (apply i_rng2; walk_at "V"; walk_at "V"; omega)
  | (apply i_zipT; walk_at "V"; walk_at "V")
  | (apply i_zipL; walk_at "V"; walk_at "V")
  | (apply i_enum; walk_at "V"))
local macro_rules | `(tactic| walk_at "X") => `(tactic| first
  | assumption
  | exact xs_nil
  | (apply xs_ret; walk_at "S")
  | (apply xs_cons; walk_at "S"; walk_at "X"))
local macro_rules | `(tactic| walk_at "S") => `(tactic| first
  | assumption
  | (apply x_set; walk_at "V"; rfl)
  | (apply x_ret; walk_at "V")
  | exact x_retN
  | (apply x_expr; walk_at "V")
  | (apply x_par; walk_at "LL"; rfl)
  | (apply x_ite_t; walk_at "T"; walk_at "B"; walk_at "X")
  | (apply x_ite_f; walk_at "T"; walk_at "B"; walk_at "X")
  | exact x_pass
  | (apply x_setix; walk_at "V"; walk_at "V"; walk_at "V"; walk_at "K"; walk_at "L"; walk_at "H"))
local macro_rules | `(tactic| walk_at "F") => `(tactic| first
  | exact fin_v (by first | rfl | assumption) (by first | rfl | assumption | omega)
  | exact fin_v rfl (by simp only [List.length_set]; omega)
  | exact fin_v rfl (by simp; omega))
/- a def from its call to its end; what it hands back stays open -/
local macro_rules | `(tactic| walk_at "R") => `(tactic| (apply cs_run; rfl; first
  | (apply r_ret; walk_at "X"; walk_at "F")
  | (apply r_nx; walk_at "X"; walk_at "F")))

variable {k n l c : Nat} {S S' S'' S0 T T' : Store} {v : D} {bs ds : List D}
theorem prs_adj : ∀ ps : List (Int × Int), ps.Pairwise (fun p q => p.1 < q.1) → ((ps.map pr).zip (ps.map pr).tail).all (fun q => lessB q.1 q.2) = true
  | [], _ => rfl
  | [p], _ => rfl
  | p :: q :: r, h => by
    have h1 := List.pairwise_cons.mp h
    have ih := prs_adj (q :: r) h1.2
    simp only [List.map_cons, List.tail_cons, List.zip_cons_cons, List.all_cons, Bool.and_eq_true] at ih ⊢
    refine ⟨?_, ih⟩
    have := h1.1 q (by simp)
    simp [lessB, this]
theorem TideP.tide {ps : List (Int × Int)} (h : TideP ps) : tideB (.tup (ps.map pr)) = true := by
  have h1 := h.two
  have h2 := h.six
  unfold tideB
  simp only [List.length_map, Bool.and_eq_true, decide_eq_true_eq]
  refine ⟨⟨⟨⟨by omega, by omega⟩, ?_⟩, ?_⟩, prs_adj ps h.up⟩
  · rw [List.all_eq_true]
    intro d hd
    obtain ⟨p, hp, rfl⟩ := List.mem_map.mp hd
    have := h.bd p hp
    simp [pairB, wholeB, this]
  · cases ps with
    | nil => simp at h1
    | cons p ps => simp [h.hd p rfl]
theorem HarbP.harb {ps : List (Int × Int)} {ss : List Int} {rs : List (Int × Int)} (h : HarbP ps ss rs) : harbB (harbD ps ss rs) = true := by
  have h1 := h.one
  have h2 := h.four
  have h3 := h.len
  unfold harbB
  simp only [h.tide.tide, rowB, lenD, allD, List.length_map, Bool.and_eq_true, decide_eq_true_eq, Bool.true_and]
  refine ⟨⟨by omega, by omega⟩, ⟨by omega, by omega⟩, ?_, ?_⟩
  · rw [List.all_eq_true]
    intro d hd
    obtain ⟨s, hs, rfl⟩ := List.mem_map.mp hd
    have := h.sb s hs
    simp only [wholeB, Bool.and_eq_true, decide_eq_true_eq]
    omega
  · rw [List.all_eq_true]
    intro d hd
    obtain ⟨p, hp, rfl⟩ := List.mem_map.mp hd
    have := h.rb p hp
    simp only [pairB, wholeB, Bool.and_eq_true, decide_eq_true_eq]
    omega
theorem prs_vok (ps : List (Int × Int)) (h : ps.length ≤ l) (h2 : 2 ≤ l) : vok 3 l (.tup (ps.map pr)) := by
  refine ⟨by rw [List.length_map]; exact h, fun d hd => ?_⟩
  obtain ⟨p, _, rfl⟩ := List.mem_map.mp hd
  refine ⟨h2, fun d hd => ?_⟩
  simp only [List.mem_cons, List.not_mem_nil, or_false] at hd
  rcases hd with rfl | rfl <;> exact vok_int
theorem HarbP.vok {ps : List (Int × Int)} {ss : List Int} {rs : List (Int × Int)} (h : HarbP ps ss rs) : Lw.vok 4 6 (harbD ps ss rs) := by
  refine ⟨by simp, fun d hd => ?_⟩
  have h1 := h.four
  have h2 := h.len
  simp only [List.mem_cons, List.not_mem_nil, or_false] at hd
  rcases hd with rfl | rfl | rfl
  · exact prs_vok ps h.tide.six (by decide)
  · refine ⟨by rw [List.length_map]; omega, fun d hd => ?_⟩
    obtain ⟨p, _, rfl⟩ := List.mem_map.mp hd
    exact vok_int
  · exact prs_vok rs (by omega) (by decide)
abbrev tailB : List Pd.S := [.set (.nm 12) (.call false 31 [(.nm 9)]), .ite (.not (.call false 26 [(.call false 6 [(.nm 9)]), (.nm 12)])) [.ret (.k (.bl false))] [],
 .ite (.and (.bi (.isi "tuple") [(.nm 9)]) (.op .ne (.nm 9) (.tup []))) [.ite (.not (.call false 26 [(.call false 5 [(.op .idx (.nm 9) (.k (.int 0)))]), (.call false 30 [(.op .idx (.nm 9) (.k (.int 0)))])])) [.ret (.k (.bl false))] []] [],
 .ite (.not (.call false 26 [(.call false 15 [(.nm 4), (.nm 10)]), (.call false 32 [(.nm 4), (.nm 10)])])) [.ret (.k (.bl false))] [],
 .ite (.not (.call false 26 [(.call false 13 [(.nm 11)]), (.call false 34 [(.nm 11)])])) [.ret (.k (.bl false))] [],
 .ite (.and (.not (.nm 12)) (.op .ne (.lam errNms (.call false 15 [(.nm 9), (.k .non)])) (.k (.str "harbour value")))) [.ret (.k (.bl false))] []]
theorem str_ne : opNe S (.str "harbour value") (.str "harbour value") = some (.bl false) := by
  rw [ne_str (by decide +kernel) (by decide +kernel)]; simp
theorem ev_tail {x0 x1 x2 x3 x5 x6 x7 x8 x12 : Option D} {ps : List (Int × Int)} {ss : List Int} {rs : List (Int × Int)} (h : HarbP ps ss rs) {v9 v10 v11 : D} {n l : Nat} (hn : n ≤ 30) (hl : l ≤ 4000) (h9 : vok n l v9) (h10 : vok n l v10) (h11 : vok n l v11) :
    Pd.execs (Cs tab WF (k + 7)) WF tailB [x0, x1, x2, x3, some (harbD ps ss rs), x5, x6, x7, x8, some v9, some v10, some v11, x12] S = .ok (.nx [x0, x1, x2, x3, some (harbD ps ss rs), x5, x6, x7, x8, some v9, some v10, some v11, some (.bl (harbB v9))]) S := by
  have e1 := ev_good_harbour (k := k + 3) (S := S) (by omega) (by omega) h9
  have e2 := ev_is_harbour (k := k + 2) (S := S) (by omega) h9
  have e3 := ev_truly (k := k + 6) (S := S) (harbB v9)
  have e5 := ev_is_boat (k := k) (S := S) (by decide) h.vok h.harb h10
  have e6 := ev_good_boat (k := k + 5) (S := S) (t := .tup (ps.map pr)) (ss := ss.map D.int) (r := [.tup (rs.map pr)]) h10
  have e7 := ev_truly (k := k + 6) (S := S) (boatB ((ss.map D.int).length - 1) v10)
  have e8 := ev_script (k := k + 2) (S := S) (by omega) h11
  have e9 := ev_good_script (k := k + 4) (S := S) (by omega) (by omega) h11
  have e10 := ev_truly (k := k + 6) (S := S) (scriptB v11)
  have hs := shp9_of (by omega) h9
  have mid : ∀ z : Option D, Pd.exec (Cs tab WF (k + 7)) WF (.ite (.and (.bi (.isi "tuple") [(.nm 9)]) (.op .ne (.nm 9) (.tup []))) [.ite (.not (.call false 26 [(.call false 5 [(.op .idx (.nm 9) (.k (.int 0)))]), (.call false 30 [(.op .idx (.nm 9) (.k (.int 0)))])])) [.ret (.k (.bl false))] []] []) [x0, x1, x2, x3, some (harbD ps ss rs), x5, x6, x7, x8, some v9, some v10, some v11, z] S = .ok (.nx [x0, x1, x2, x3, some (harbD ps ss rs), x5, x6, x7, x8, some v9, some v10, some v11, z]) S := fun z => by
    have it := isi_tup (S := S) h9
    cases ht : isT v9 with
    | false =>
      rw [ht] at it
      apply x_ite_f
      · apply t_and_f
        · apply t_of; rfl; walk_at "V"; exact tr_b
        · rfl
      · rfl
      · exact xs_nil
    | true =>
      rw [ht] at it
      obtain ⟨ds, rfl⟩ := isT_of ht
      have ne := ne_tup (S := S) hs
      cases ds with
      | nil =>
        apply x_ite_f
        · walk_at "T"
        · rfl
        · exact xs_nil
      | cons d ds =>
        obtain ⟨m, rfl, _, hv⟩ := vok_tup h9
        have f1 := ev_is_tide (k := k + 3) (S := S) (hv d (by simp))
        have f2 := ev_good_tide (k := k + 4) (S := S) (by omega) (hv d (by simp))
        have f3 := ev_truly (k := k + 6) (S := S) (tideB d)
        apply x_ite_t
        · walk_at "T"
        · rfl
        · walk_at "X"
  have lst : Pd.exec (Cs tab WF (k + 7)) WF (.ite (.and (.not (.nm 12)) (.op .ne (.lam errNms (.call false 15 [(.nm 9), (.k .non)])) (.k (.str "harbour value")))) [.ret (.k (.bl false))] []) [x0, x1, x2, x3, some (harbD ps ss rs), x5, x6, x7, x8, some v9, some v10, some v11, some (.bl (harbB v9))] S = .ok (.nx [x0, x1, x2, x3, some (harbD ps ss rs), x5, x6, x7, x8, some v9, some v10, some v11, some (.bl (harbB v9))]) S := by
    cases hb : harbB v9 with
    | true =>
      apply x_ite_f
      · apply t_and_f
        · walk_at "T"
        · rfl
      · rfl
      · exact xs_nil
    | false =>
      have er := ev_no_boat (k := k) (S := S) (w := .non) (by omega) h9 hb
      have le : den (Cs tab WF (k + 7)) (.lam errNms (.call false 15 [(.nm 9), (.k .non)])) [x0, x1, x2, x3, some (harbD ps ss rs), x5, x6, x7, x8, some v9, some v10, some v11, some (.bl false)] S = .ok (.str "harbour value") S := by
        apply v_lamE
        · apply v_callE
          · walk_at "LL"
          · exact er
        · rfl
      have sn := str_ne (S := S)
      apply x_ite_f
      · walk_at "T"
      · rfl
      · exact xs_nil
  have mid' := mid (some (.bl (harbB v9)))
  walk_at "X"
end Lw

end
section
set_option Elab.async false
set_option linter.all false
set_option maxRecDepth 100000
set_option maxHeartbeats 4000000
namespace Lw
open Pd
local macro_rules | `(tactic| walk_at "B") => `(tactic| first
  | rfl
  | assumption
  | exact bp (by first | assumption | omega)
  | exact bn (by first | assumption | omega)
  | (apply np; walk_at "B")
  | (apply nn; walk_at "B")
  | (apply ap <;> walk_at "B")
  | (apply al; walk_at "B")
  | (apply ar; walk_at "B")
  | (apply ol; walk_at "B")
  | (apply or'; walk_at "B")
  | (apply on <;> walk_at "B"))
local macro_rules | `(tactic| walk_at "L") => `(tactic| first
  | assumption
  | exact g_add | exact g_sub | exact g_lt | exact g_le | exact g_gt | exact g_ge | exact g_eqI | exact g_neI
  | exact g_mod (by first | assumption | omega)
  | exact g_div (by first | assumption | omega) (by first | assumption | omega)
  | exact g_mulL (by first | assumption | exact small_of (by omega) (by omega))
  | exact g_mulR (by first | assumption | exact small_of (by omega) (by omega))
  | exact g_idxT ix0 | exact g_idxT ix1 | exact g_idxT ix2 | exact g_idxT ix3
  | exact g_idxT (by assumption) | exact g_idxL (by assumption)
  | exact g_absI | exact g_tupL | exact g_tupT | exact g_is | exact g_isN | exact g_isB | exact g_isNB | exact g_lenT | exact g_lenL | exact g_lenS | exact g_lenC (by assumption)
  | exact g_addT (by first | omega | (simp only [List.length_append, List.length_cons, List.length_nil, List.length_map]; omega))
  | exact g_addL (by first | omega | (simp only [List.length_append, List.length_cons, List.length_nil, List.length_map]; omega))
  | rfl)
local macro_rules | `(tactic| walk_at "C") => `(tactic| first | assumption)
local macro_rules | `(tactic| walk_at "Z") => `(tactic| first | assumption | exact Nat.le_of_ble_eq_true rfl | omega | (simp only [List.length_append, List.length_cons, List.length_nil, List.length_map]; omega))
local macro_rules | `(tactic| walk_at "LL") => `(tactic| first
  | exact l_nil
  | (apply l_cons; walk_at "V"; walk_at "LL"))
local macro_rules | `(tactic| walk_at "O") => `(tactic| first
  | exact o_none
  | (apply o_some; walk_at "V"))
local macro_rules | `(tactic| walk_at "V") => `(tactic| first
  | assumption
  | exact v_nm rfl
  | exact v_k
  | (apply v_op; walk_at "V"; walk_at "V"; walk_at "L")
  | (apply v_call; walk_at "LL"; walk_at "C"; first | rfl | assumption)
  | (apply v_callK; walk_at "LL"; walk_at "C")
  | (apply v_callF; walk_at "LL"; walk_at "C")
  | (apply v_bi; walk_at "LL"; walk_at "L")
  | (apply v_tup; walk_at "LL"; walk_at "Z")
  | (apply v_neg; walk_at "V"; rfl)
  | (apply v_not; walk_at "V")
  | (apply v_and; walk_at "V"; walk_at "V")
  | (apply v_and_f; walk_at "V"; walk_at "B")
  | (apply v_and_t; walk_at "V"; walk_at "B"; walk_at "V")
  | (apply v_or; walk_at "V"; walk_at "V")
  | (apply v_or_t; walk_at "V"; walk_at "B")
  | (apply v_or_f; walk_at "V"; walk_at "B"; walk_at "V")
  | (apply v_ite_t; walk_at "T"; walk_at "B"; walk_at "V")
  | (apply v_ite_f; walk_at "T"; walk_at "B"; walk_at "V")
  | (apply v_chain; walk_at "V"; walk_at "V"; walk_at "L"; walk_at "V"; walk_at "L")
  | (apply v_chain_f; walk_at "V"; walk_at "V"; walk_at "L"; walk_at "B")
  | (apply v_chain_t; walk_at "V"; walk_at "V"; walk_at "L"; walk_at "B"; walk_at "V"; walk_at "L")
  | (apply v_slc; walk_at "V"; walk_at "O"; walk_at "O"; walk_at "L")
  | (apply v_rev; walk_at "V"; walk_at "L")
  | (apply v_lst; walk_at "LL"; walk_at "Z")
  | (apply v_lstN; walk_at "LL"; walk_at "Z"; walk_at "H")
  | (apply v_push; walk_at "V"; walk_at "V"; walk_at "K"; walk_at "Z"; walk_at "H")
  | (apply v_pop0; walk_at "V"; walk_at "K")
  | (apply v_lstC; walk_at "V"; walk_at "L"; walk_at "H"))
local macro_rules | `(tactic| walk_at "H") => `(tactic| first | rfl | assumption)
local macro_rules | `(tactic| walk_at "K") => `(tactic| first | assumption | rfl)
local macro_rules | `(tactic| walk_at "T") => `(tactic| first
  | assumption
  | (apply t_not; walk_at "T")
  | (apply t_and; walk_at "T"; walk_at "T")
  | (apply t_and_f; walk_at "T"; walk_at "B")
  | (apply t_and_t; walk_at "T"; walk_at "B"; walk_at "T")
  | (apply t_or; walk_at "T"; walk_at "T")
  | (apply t_or_t; walk_at "T"; walk_at "B")
  | (apply t_or_f; walk_at "T"; walk_at "B"; walk_at "T")
  | (apply t_of; rfl; walk_at "V"; first | exact tr_b | rfl | assumption))
local macro_rules | `(tactic| walk_at "I") => `(tactic| first
  | assumption
  | (apply i_seq; walk_at "V"; first | rfl | assumption)
  | (apply i_rng; walk_at "V"; omega)
  | (apply i_rng2; walk_at "V"; walk_at "V"; omega)
  | (apply i_zipT; walk_at "V"; walk_at "V")
  | (apply i_zipL; walk_at "V"; walk_at "V")
  | (apply i_enum; walk_at "V"))
local macro_rules | `(tactic| walk_at "X") => `(tactic| first
  | assumption
  | exact xs_nil
  | (apply xs_ret; walk_at "S")
  | (apply xs_cons; walk_at "S"; walk_at "X"))
local macro_rules | `(tactic| walk_at "S") => `(tactic| first
  | assumption
  | (apply x_set; walk_at "V"; rfl)
  | (apply x_ret; walk_at "V")
  | exact x_retN
  | (apply x_expr; walk_at "V")
  | (apply x_par; walk_at "LL"; rfl)
  | (apply x_ite_t; walk_at "T"; walk_at "B"; walk_at "X")
  | (apply x_ite_f; walk_at "T"; walk_at "B"; walk_at "X")
  | exact x_pass
  | (apply x_setix; walk_at "V"; walk_at "V"; walk_at "V"; walk_at "K"; walk_at "L"; walk_at "H"))
local macro_rules | `(tactic| walk_at "F") => `(tactic| first
  | exact fin_v (by first | rfl | assumption) (by first | rfl | assumption | omega)
  | exact fin_v rfl (by simp only [List.length_set]; omega)
  | exact fin_v rfl (by simp; omega))
/- a def from its call to its end; what it hands back stays open -/
local macro_rules | `(tactic| walk_at "R") => `(tactic| (apply cs_run; rfl; first
  | (apply r_ret; walk_at "X"; walk_at "F")
  | (apply r_nx; walk_at "X"; walk_at "F")))

variable {k n l c : Nat} {S S' S'' S0 T T' : Store} {v : D} {bs ds : List D}
def lr : Nat → Nat
  | 0 => 6
  | r + 1 => 2 * lr r + 2
abbrev turnB : List Pd.S := .set (.nm 9) (.call false 28 [(.nm 3), (.ite (.op .eq (.op .mod (.nm 5) (.k (.int 3))) (.k (.int 0))) (.nm 4) (.nm 9))]) :: .set (.nm 10) (.call false 28 [(.nm 3), (.ite (.op .eq (.op .mod (.nm 5) (.k (.int 3))) (.k (.int 0))) (.nm 7) (.nm 10))]) :: .set (.nm 11) (.call false 28 [(.nm 3), (.ite (.op .eq (.op .mod (.nm 5) (.k (.int 3))) (.k (.int 0))) (.nm 8) (.nm 11))]) :: tailB
/-- one turn: the three are spoilt, all is told rightly -/
theorem ev_turn {x0 x1 x2 x6 x12 : Option D} {j : Nat} {ps : List (Int × Int)} {ss : List Int} {rs : List (Int × Int)} (h : HarbP ps ss rs) {bt st v9 v10 v11 : D} (hb : Bag c S) (r : Nat) (hr : r ≤ 2) (a9 a10 a11 : D) (h9 : vok (6 + 2 * r) (lr r) a9) (h10 : vok (6 + 2 * r) (lr r) a10) (h11 : vok (6 + 2 * r) (lr r) a11)
    (hj : (j % 3 = 0 ∧ a9 = harbD ps ss rs ∧ a10 = bt ∧ a11 = st) ∨ (j % 3 ≠ 0 ∧ a9 = v9 ∧ a10 = v10 ∧ a11 = v11)) : ∃ w9 w10 w11 x12' S', Sm c S S' ∧ vok (6 + 2 * (r + 1)) (lr (r + 1)) w9 ∧ vok (6 + 2 * (r + 1)) (lr (r + 1)) w10 ∧ vok (6 + 2 * (r + 1)) (lr (r + 1)) w11 ∧
    Pd.execs (Cs tab WF (k + 13)) WF turnB [x0, x1, x2, some (.cell c), some (harbD ps ss rs), some (.int j), x6, some bt, some st, some v9, some v10, some v11, x12] S = .ok (.nx [x0, x1, x2, some (.cell c), some (harbD ps ss rs), some (.int j), x6, some bt, some st, some w9, some w10, some w11, x12']) S' := by
  have hl : lr r ≤ 4000000 := by
    have : r = 0 ∨ r = 1 ∨ r = 2 := by omega
    rcases this with rfl | rfl | rfl <;> decide
  have hl2 : lr (r + 1) ≤ 4000 := by
    have : r = 0 ∨ r = 1 ∨ r = 2 := by omega
    rcases this with rfl | rfl | rfl <;> decide
  obtain ⟨w9, S1, s1, q9, e1⟩ := ev_spoilt (k := k + 12 - (6 + 2 * r)) hl (by omega) h9 hb
  obtain ⟨w10, S2, s2, q10, e2⟩ := ev_spoilt (k := k + 12 - (6 + 2 * r)) hl (by omega) h10 s1.bag
  obtain ⟨w11, S3, s3, q11, e3⟩ := ev_spoilt (k := k + 12 - (6 + 2 * r)) hl (by omega) h11 s2.bag
  rw [show k + 12 - (6 + 2 * r) + (6 + 2 * r) + 1 = k + 13 by omega] at e1 e2 e3
  have q9 : vok (6 + 2 * (r + 1)) (lr (r + 1)) w9 := q9
  have q10 : vok (6 + 2 * (r + 1)) (lr (r + 1)) w10 := q10
  have q11 : vok (6 + 2 * (r + 1)) (lr (r + 1)) w11 := q11
  have n9 := vok_nc q9
  have n10 := vok_nc q10
  have n11 := vok_nc q11
  have tl := ev_tail (k := k + 6) (S := S3) (x0 := x0) (x1 := x1) (x2 := x2) (x3 := some (.cell c)) (x5 := some (.int j)) (x6 := x6) (x7 := some bt) (x8 := some st) (x12 := x12) h (by omega) hl2 q9 q10 q11
  refine ⟨w9, w10, w11, some (.bl (harbB w9)), S3, (s1.trans s2).trans s3, q9, q10, q11, ?_⟩
  rcases hj with ⟨hj, rfl, rfl, rfl⟩ | ⟨hj, rfl, rfl, rfl⟩
  · have hd : decide ((j : Int) % 3 = 0) = true := decide_eq_true (by omega)
    walk_at "X"
  · have hd : decide ((j : Int) % 3 = 0) = false := decide_eq_false (by omega)
    walk_at "X"
end Lw

end
section
set_option Elab.async false
set_option linter.all false
set_option maxRecDepth 100000
set_option maxHeartbeats 4000000
namespace Lw
open Pd
local macro_rules | `(tactic| walk_at "B") => `(tactic| first
  | rfl
  | assumption
  | exact bp (by first | assumption | omega)
  | exact bn (by first | assumption | omega)
  | (apply np; walk_at "B")
  | (apply nn; walk_at "B")
  | (apply ap <;> walk_at "B")
  | (apply al; walk_at "B")
  | (apply ar; walk_at "B")
  | (apply ol; walk_at "B")
  | (apply or'; walk_at "B")
  | (apply on <;> walk_at "B"))
local macro_rules | `(tactic| walk_at "L") => `(tactic| first
  | assumption
  | exact g_add | exact g_sub | exact g_lt | exact g_le | exact g_gt | exact g_ge | exact g_eqI | exact g_neI
  | exact g_mod (by first | assumption | omega)
  | exact g_div (by first | assumption | omega) (by first | assumption | omega)
  | exact g_mulL (by first | assumption | exact small_of (by omega) (by omega))
  | exact g_mulR (by first | assumption | exact small_of (by omega) (by omega))
  | exact g_idxT ix0 | exact g_idxT ix1 | exact g_idxT ix2 | exact g_idxT ix3
  | exact g_idxT (by assumption) | exact g_idxL (by assumption)
  | exact g_absI | exact g_tupL | exact g_tupT | exact g_is | exact g_isN | exact g_isB | exact g_isNB | exact g_lenT | exact g_lenL | exact g_lenS | exact g_lenC (by assumption)
  | exact g_addT (by first | omega | (simp only [List.length_append, List.length_cons, List.length_nil, List.length_map]; omega))
  | exact g_addL (by first | omega | (simp only [List.length_append, List.length_cons, List.length_nil, List.length_map]; omega))
  | rfl)
local macro_rules | `(tactic| walk_at "C") => `(tactic| first | assumption)
local macro_rules | `(tactic| walk_at "Z") => `(tactic| first | assumption | exact Nat.le_of_ble_eq_true rfl | omega | (simp only [List.length_append, List.length_cons, List.length_nil, List.length_map]; omega))
local macro_rules | `(tactic| walk_at "LL") => `(tactic| first
  | exact l_nil
  | (apply l_cons; walk_at "V"; walk_at "LL"))
local macro_rules | `(tactic| walk_at "O") => `(tactic| first
  | exact o_none
  | (apply o_some; walk_at "V"))
local macro_rules | `(tactic| walk_at "V") => `(tactic| first
  | assumption
  | exact v_nm rfl
  | exact v_k
  | (apply v_op; walk_at "V"; walk_at "V"; walk_at "L")
  | (apply v_call; walk_at "LL"; walk_at "C"; first | rfl | assumption)
  | (apply v_callK; walk_at "LL"; walk_at "C")
  | (apply v_callF; walk_at "LL"; walk_at "C")
  | (apply v_bi; walk_at "LL"; walk_at "L")
  | (apply v_tup; walk_at "LL"; walk_at "Z")
  | (apply v_neg; walk_at "V"; rfl)
  | (apply v_not; walk_at "V")
  | (apply v_and; walk_at "V"; walk_at "V")
  | (apply v_and_f; walk_at "V"; walk_at "B")
  | (apply v_and_t; walk_at "V"; walk_at "B"; walk_at "V")
  | (apply v_or; walk_at "V"; walk_at "V")
  | (apply v_or_t; walk_at "V"; walk_at "B")
  | (apply v_or_f; walk_at "V"; walk_at "B"; walk_at "V")
  | (apply v_ite_t; walk_at "T"; walk_at "B"; walk_at "V")
  | (apply v_ite_f; walk_at "T"; walk_at "B"; walk_at "V")
  | (apply v_chain; walk_at "V"; walk_at "V"; walk_at "L"; walk_at "V"; walk_at "L")
  | (apply v_chain_f; walk_at "V"; walk_at "V"; walk_at "L"; walk_at "B")
  | (apply v_chain_t; walk_at "V"; walk_at "V"; walk_at "L"; walk_at "B"; walk_at "V"; walk_at "L")
  | (apply v_slc; walk_at "V"; walk_at "O"; walk_at "O"; walk_at "L")
  | (apply v_rev; walk_at "V"; walk_at "L")
  | (apply v_lst; walk_at "LL"; walk_at "Z")
  | (apply v_lstN; walk_at "LL"; walk_at "Z"; walk_at "H")
  | (apply v_push; walk_at "V"; walk_at "V"; walk_at "K"; walk_at "Z"; walk_at "H")
  | (apply v_pop0; walk_at "V"; walk_at "K")
  | (apply v_lstC; walk_at "V"; walk_at "L"; walk_at "H"))
local macro_rules | `(tactic| walk_at "H") => `(tactic| first | rfl | assumption)
local macro_rules | `(tactic| walk_at "K") => `(tactic| first | assumption | rfl)
local macro_rules | `(tactic| walk_at "T") => `(tactic| first
  | assumption
  | (apply t_not; walk_at "T")
  | (apply t_and; walk_at "T"; walk_at "T")
  | (apply t_and_f; walk_at "T"; walk_at "B")
  | (apply t_and_t; walk_at "T"; walk_at "B"; walk_at "T")
  | (apply t_or; walk_at "T"; walk_at "T")
  | (apply t_or_t; walk_at "T"; walk_at "B")
  | (apply t_or_f; walk_at "T"; walk_at "B"; walk_at "T")
  | (apply t_of; rfl; walk_at "V"; first | exact tr_b | rfl | assumption))
local macro_rules | `(tactic| walk_at "I") => `(tactic| first
  | assumption
  | (apply i_seq; walk_at "V"; first | rfl | assumption)
  | (apply i_rng; walk_at "V"; omega)
  | (apply i_rng2; walk_at "V"; walk_at "V"; omega)
  | (apply i_zipT; walk_at "V"; walk_at "V")
  | (apply i_zipL; walk_at "V"; walk_at "V")
  | (apply i_enum; walk_at "V"))
local macro_rules | `(tactic| walk_at "X") => `(tactic| first
  | assumption
  | exact xs_nil
  | (apply xs_ret; walk_at "S")
  | (apply xs_cons; walk_at "S"; walk_at "X"))
local macro_rules | `(tactic| walk_at "S") => `(tactic| first
  | assumption
  | (apply x_set; walk_at "V"; rfl)
  | (apply x_ret; walk_at "V")
  | exact x_retN
  | (apply x_expr; walk_at "V")
  | (apply x_par; walk_at "LL"; rfl)
  | (apply x_ite_t; walk_at "T"; walk_at "B"; walk_at "X")
  | (apply x_ite_f; walk_at "T"; walk_at "B"; walk_at "X")
  | exact x_pass
  | (apply x_setix; walk_at "V"; walk_at "V"; walk_at "V"; walk_at "K"; walk_at "L"; walk_at "H"))
local macro_rules | `(tactic| walk_at "F") => `(tactic| first
  | exact fin_v (by first | rfl | assumption) (by first | rfl | assumption | omega)
  | exact fin_v rfl (by simp only [List.length_set]; omega)
  | exact fin_v rfl (by simp; omega))
/- a def from its call to its end; what it hands back stays open -/
local macro_rules | `(tactic| walk_at "R") => `(tactic| (apply cs_run; rfl; first
  | (apply r_ret; walk_at "X"; walk_at "F")
  | (apply r_nx; walk_at "X"; walk_at "F")))

variable {k n l c : Nat} {S S' S'' S0 T T' : Store} {v : D} {bs ds : List D}
theorem ev_turns {x0 x1 x2 x5 x6 x12 : Option D} {ps : List (Int × Int)} {ss : List Int} {rs : List (Int × Int)} (h : HarbP ps ss rs) {bt st v9 v10 v11 : D} (hb : Bag c S) (h9 : vok 6 6 bt) (h10 : vok 6 6 st) :
    ∃ w9 w10 w11 y5 y12 S', Sm c S S' ∧ Pd.exec (Cs tab WF (k + 13)) WF (.for_ (.nm 5) (.rng (.k (.int 18))) turnB) [x0, x1, x2, some (.cell c), some (harbD ps ss rs), x5, x6, some bt, some st, some v9, some v10, some v11, x12] S = .ok (.nx [x0, x1, x2, some (.cell c), some (harbD ps ss rs), y5, x6, some bt, some st, some w9, some w10, some w11, y12]) S' := by
  obtain ⟨ρ', T, ⟨w9, w10, w11, y5, y12, rfl, g, _⟩, e⟩ := Pd.for_rng (C := Cs tab WF (k + 13)) (w := WF) (v := 5) (e := .k (.int 18)) (m := 18) (b := turnB) (S := S) (S1 := S) (ρ := [x0, x1, x2, some (.cell c), some (harbD ps ss rs), x5, x6, some bt, some st, some v9, some v10, some v11, x12])
    (fun j ρ T => ∃ w9 w10 w11 y5 y12, ρ = [x0, x1, x2, some (.cell c), some (harbD ps ss rs), y5, x6, some bt, some st, some w9, some w10, some w11, y12] ∧ Sm c S T ∧ (j % 3 ≠ 0 → vok (6 + 2 * (j % 3)) (lr (j % 3)) w9 ∧ vok (6 + 2 * (j % 3)) (lr (j % 3)) w10 ∧ vok (6 + 2 * (j % 3)) (lr (j % 3)) w11))
    v_k ⟨by decide, by decide⟩ ⟨v9, v10, v11, x5, x12, rfl, .refl hb, fun q => absurd rfl q⟩ (fun j hj ρ T ⟨w9, w10, w11, y5, y12, hρ, g, hv⟩ => by
      subst hρ
      by_cases hz : j % 3 = 0
      · obtain ⟨u9, u10, u11, u12, T', s', q9, q10, q11, e⟩ := ev_turn (k := k) (x0 := x0) (x1 := x1) (x2 := x2) (x6 := x6) (x12 := y12) (j := j) (v9 := w9) (v10 := w10) (v11 := w11) h g.bag 0 (by decide) (harbD ps ss rs) bt st (vok_mono (by decide) (by decide) h.vok) h9 h10 (.inl ⟨hz, rfl, rfl, rfl⟩)
        refine ⟨_, T', ⟨u9, u10, u11, some (.int j), u12, rfl, g.trans s', fun _ => ?_⟩, e⟩
        rw [show (j + 1) % 3 = 1 by omega]
        exact ⟨q9, q10, q11⟩
      · obtain ⟨a9, a10, a11⟩ := hv hz
        obtain ⟨u9, u10, u11, u12, T', s', q9, q10, q11, e⟩ := ev_turn (k := k) (x0 := x0) (x1 := x1) (x2 := x2) (x6 := x6) (x12 := y12) (j := j) (bt := bt) (st := st) h g.bag (j % 3) (by omega) w9 w10 w11 a9 a10 a11 (.inr ⟨hz, rfl, rfl, rfl⟩)
        refine ⟨_, T', ⟨u9, u10, u11, some (.int j), u12, rfl, g.trans s', fun hz2 => ?_⟩, e⟩
        rw [show (j + 1) % 3 = j % 3 + 1 by omega]
        exact ⟨q9, q10, q11⟩)
  exact ⟨w9, w10, w11, y5, y12, T, g, e⟩
def odds : List D := [.tup [.int (-1), .int 2], .tup [.int 25, .int 2], .tup [.int 2, .int 4], .tup [.int 1, .int 0], .tup [.bl true, .int 2], .lst [.int 1, .int 2], .int 1, .non, .tup [.int 1, .int 1000001]]
theorem odds_no : ∀ d ∈ odds, vok 3 3 d ∧ unitB d = false := by
  intro d hd
  simp only [odds, List.mem_cons, List.not_mem_nil, or_false] at hd
  rcases hd with rfl | rfl | rfl | rfl | rfl | rfl | rfl | rfl | rfl <;> exact ⟨by simp [vok], by decide +kernel⟩
theorem pw6 : opPow S (.int 10) (.int 6) = some (.int 1000000) := by simp [opPow]
abbrev oddE : E := .lst false [(.tup [(.neg (.k (.int 1))), (.k (.int 2))]), (.tup [(.k (.int 25)), (.k (.int 2))]), (.tup [(.k (.int 2)), (.k (.int 4))]), (.tup [(.k (.int 1)), (.k (.int 0))]), (.tup [(.k (.bl true)), (.k (.int 2))]), (.lst false [(.k (.int 1)), (.k (.int 2))]), (.k (.int 1)), (.k .non), (.tup [(.k (.int 1)), (.op .add (.op .pow (.k (.int 10)) (.k (.int 6))) (.k (.int 1)))])]
theorem ev_odds {x0 x1 x2 x3 x4 x5 x6 x7 x8 x9 x10 x11 x12 : Option D} : ∃ y6, Pd.exec (Cs tab WF (k + 13)) WF (.for_ (.nm 6) (.seq oddE) [.ite (.op .isNot (.call false 8 [(.nm 6)]) (.k (.bl false))) [.ret (.k (.bl false))] []]) [x0, x1, x2, x3, x4, x5, x6, x7, x8, x9, x10, x11, x12] S = .ok (.nx [x0, x1, x2, x3, x4, x5, y6, x7, x8, x9, x10, x11, x12]) S := by
  have p := pw6 (S := S)
  have hi : denI (Cs tab WF (k + 13)) (.seq oddE) [x0, x1, x2, x3, x4, x5, x6, x7, x8, x9, x10, x11, x12] S = .ok odds S := by
    apply vcast
    walk_at "I"
    rfl
    rfl
  obtain ⟨ρ', T, ⟨y6, rfl, rfl⟩, e⟩ := x_for (C := Cs tab WF (k + 13)) (w := WF) (g := .nm 6) (b := [.ite (.op .isNot (.call false 8 [(.nm 6)]) (.k (.bl false))) [.ret (.k (.bl false))] []]) (fun j ρ T => ∃ y6, ρ = [x0, x1, x2, x3, x4, x5, y6, x7, x8, x9, x10, x11, x12] ∧ T = S) hi ⟨x6, rfl, rfl⟩ (fun j d hd ρ T ⟨y6, hρ, hT⟩ => by
    subst hρ hT
    obtain ⟨hv, hu⟩ := odds_no d (List.mem_of_getElem? hd)
    have eu := ev_is_unit (k := k + 9) (S := T) hv
    rw [hu] at eu
    refine ⟨_, _, T, ⟨some d, rfl, rfl⟩, rfl, ?_⟩
    walk_at "X")
  exact ⟨y6, e⟩
theorem un1 : unitB (.tup [.int 12, .int 1]) = true := by decide +kernel
theorem un2 : unitB (.tup [.int 0, .int 1]) = true := by decide +kernel
theorem un3 : unitB (.tup [.int 1, .int 1000000]) = true := by decide +kernel
theorem ev_goods {ρ : Env'} : Pd.exec (Cs tab WF (k + 13)) WF (.ite (.or (.not (.call false 8 [(.tup [(.k (.int 12)), (.k (.int 1))])])) (.or (.not (.call false 8 [(.tup [(.k (.int 0)), (.k (.int 1))])])) (.not (.call false 8 [(.tup [(.k (.int 1)), (.op .pow (.k (.int 10)) (.k (.int 6)))])])))) [.ret (.k (.bl false))] []) ρ S = .ok (.nx ρ) S := by
  have p := pw6 (S := S)
  have e1 := ev_is_unit (k := k + 9) (S := S) (n := 3) (l := 3) (v := .tup [.int 12, .int 1]) (by simp [vok])
  have e2 := ev_is_unit (k := k + 9) (S := S) (n := 3) (l := 3) (v := .tup [.int 0, .int 1]) (by simp [vok])
  have e3 := ev_is_unit (k := k + 9) (S := S) (n := 3) (l := 3) (v := .tup [.int 1, .int 1000000]) (by simp [vok])
  rw [un1] at e1
  rw [un2] at e2
  rw [un3] at e3
  walk_at "S"
/-- the constants at the end -/
theorem ev_end {x0 x1 x2 x3 x4 x5 x6 x7 x8 x9 x10 x11 x12 : Option D} : Pd.execs (Cs tab WF (k + 13)) WF [.set (.nm 2) (.lst false [(.call false 5 [(.tup [(.tup [(.k (.int 1)), (.k (.int 0))]), (.tup [(.k (.int 2)), (.k (.int 3))])])]), (.call false 5 [(.tup [(.tup [(.k (.int 0)), (.k (.int 0))])])]), (.call false 5 [(.tup [(.tup [(.k (.int 0)), (.k (.int 0))]), (.tup [(.k (.int 24)), (.k (.int 1))])])]), (.call false 5 [(.tup [(.tup [(.k (.int 0)), (.k (.int 25))]), (.tup [(.k (.int 3)), (.k (.int 1))])])])]), .set (.nm 2) (.op .add (.nm 2) (.lst false [(.call false 13 [(.tup [(.tup [(.k (.str "load")), (.k (.int 0))])])]), (.call false 13 [(.tup [(.tup [(.k (.str "if")), (.k (.str "up")), (.tup []), (.tup [])])])]), (.call false 13 [(.op .mul (.tup [(.tup [(.k (.str "lie"))])]) (.k (.int 5)))])])), .ret (.and (.op .eq (.nm 2) (.op .mul (.lst false [(.k (.bl false))]) (.k (.int 7)))) (.op .is (.call false 13 [(.tup [(.tup [(.k (.str "if")), (.k (.str "in")), (.tup []), (.op .mul (.tup [(.tup [(.k (.str "lie"))])]) (.k (.int 2)))])])]) (.k (.bl true))))]
    [x0, x1, x2, x3, x4, x5, x6, x7, x8, x9, x10, x11, x12] S = .ok (.ret (.bl true)) S := by
  have t1 := ev_is_tide (k := k + 9) (S := S) (n := 3) (l := 5) (v := .tup [.tup [.int 1, .int 0], .tup [.int 2, .int 3]]) (by simp [vok])
  have t2 := ev_is_tide (k := k + 9) (S := S) (n := 3) (l := 5) (v := .tup [.tup [.int 0, .int 0]]) (by simp [vok])
  have t3 := ev_is_tide (k := k + 9) (S := S) (n := 3) (l := 5) (v := .tup [.tup [.int 0, .int 0], .tup [.int 24, .int 1]]) (by simp [vok])
  have t4 := ev_is_tide (k := k + 9) (S := S) (n := 3) (l := 5) (v := .tup [.tup [.int 0, .int 25], .tup [.int 3, .int 1]]) (by simp [vok])
  rw [show tideB (.tup [.tup [.int 1, .int 0], .tup [.int 2, .int 3]]) = false by decide +kernel] at t1
  rw [show tideB (.tup [.tup [.int 0, .int 0]]) = false by decide +kernel] at t2
  rw [show tideB (.tup [.tup [.int 0, .int 0], .tup [.int 24, .int 1]]) = false by decide +kernel] at t3
  rw [show tideB (.tup [.tup [.int 0, .int 25], .tup [.int 3, .int 1]]) = false by decide +kernel] at t4
  have i1 := sv_load
  have i2 := sv_if
  have i3 := sv_in
  have i4 := sv_lie
  have i5 : sV "up" := ⟨by decide +kernel, by decide +kernel⟩
  have s1 := ev_script (k := k + 8) (S := S) (n := 5) (l := 5) (v := .tup [.tup [.str "load", .int 0]]) (by decide) (by simp [vok, i1.1, i1.2])
  have s2 := ev_script (k := k + 8) (S := S) (n := 5) (l := 5) (v := .tup [.tup [.str "if", .str "up", .tup [], .tup []]]) (by decide) (by simp [vok, i2.1, i2.2, i5.1, i5.2])
  have s3 := ev_script (k := k + 8) (S := S) (n := 5) (l := 5) (v := .tup [.tup [.str "lie"], .tup [.str "lie"], .tup [.str "lie"], .tup [.str "lie"], .tup [.str "lie"]]) (by decide) (by simp [vok, i4.1, i4.2])
  have s4 := ev_script (k := k + 8) (S := S) (n := 5) (l := 5) (v := .tup [.tup [.str "if", .str "in", .tup [], .tup [.tup [.str "lie"], .tup [.str "lie"]]]]) (by decide) (by simp [vok, i2.1, i2.2, i3.1, i3.2, i4.1, i4.2])
  rw [show scriptB (.tup [.tup [.str "load", .int 0]]) = false by decide +kernel] at s1
  rw [show scriptB (.tup [.tup [.str "if", .str "up", .tup [], .tup []]]) = false by decide +kernel] at s2
  rw [show scriptB (.tup [.tup [.str "lie"], .tup [.str "lie"], .tup [.str "lie"], .tup [.str "lie"], .tup [.str "lie"]]) = false by decide +kernel] at s3
  rw [show scriptB (.tup [.tup [.str "if", .str "in", .tup [], .tup [.tup [.str "lie"], .tup [.str "lie"]]]]) = true by decide +kernel] at s4
  apply vcast
  walk_at "X"
  · rfl
  · rfl
end Lw

end
section
set_option Elab.async false
set_option linter.all false
set_option maxRecDepth 100000
set_option maxHeartbeats 4000000
namespace Lw
open Pd
variable {k n l c : Nat} {S S' S'' : Store} {v : D} {bs : List D}
/-- a walk that ends nowhere early, the store may change -/
theorem for_st {f : D → Env' → M Fl} {I : Nat → Env' → Store → Prop} : ∀ (items : List D) (i : Nat) (ρ : Env') (S : Store), I i ρ S → (∀ j d, items[j]? = some d → ∀ ρ S, I (i + j) ρ S → ∃ ρ' S', I (i + j + 1) ρ' S' ∧ f d ρ S = .ok (.nx ρ') S') → ∃ ρ' S', I (i + items.length) ρ' S' ∧ forM' f items ρ S = .ok (.nx ρ') S'
  | [], i, ρ, S, hI, _ => ⟨ρ, S, hI, by rw [forM']; rfl⟩
  | d :: ds, i, ρ, S, hI, h => by
    obtain ⟨ρ1, S1, h1, e1⟩ := h 0 d rfl ρ S hI
    obtain ⟨ρ2, S2, h2, e2⟩ := for_st ds (i + 1) ρ1 S1 h1 fun j d hd ρ S hI => by
      have q := h (j + 1) d (by rw [List.getElem?_cons_succ]; exact hd) ρ S (by rw [show i + (j + 1) = i + 1 + j by omega]; exact hI)
      rw [show i + (j + 1) + 1 = i + 1 + j + 1 by omega] at q
      exact q
    refine ⟨ρ2, S2, by rw [List.length_cons, show i + (ds.length + 1) = i + 1 + ds.length by omega]; exact h2, ?_⟩
    rw [forM', bind_ap, e1]
    simp [ok_bind, e2]
theorem for_rng {C : Nat → List D → M D} {w v : Nat} {e : E} {b : List Pd.S} {m : Int} {ρ : Env'} {S S0 : Store} (I : Nat → Env' → Store → Prop) (he : den C e ρ S = .ok (.int m) S0) (hm : 0 ≤ m ∧ m ≤ 16777216) (h0 : I 0 ρ S0)
    (h : ∀ j : Nat, (j : Int) < m → ∀ ρ S, I j ρ S → ∃ ρ' S', I (j + 1) ρ' S' ∧ Pd.execs C w b (ρ.set v (some (.int j))) S = .ok (.nx ρ') S') : ∃ ρ' S', I m.toNat ρ' S' ∧ Pd.exec C w (.for_ (.nm v) (.rng e) b) ρ S = .ok (.nx ρ') S' := by
  have g : m ≤ 16777216 ∧ -16777216 ≤ m := ⟨hm.2, by omega⟩
  have hi : denI C (.rng e) ρ S = .ok (rngOf 0 m) S0 := by simp [denI, bind_ap, he, ok_bind, g, pure_ok]
  obtain ⟨ρ', S', h1, h2⟩ := for_st (f := fun d ρ => match bindG (.nm v) d ρ with
      | some ρ1 => Pd.execs C w b ρ1
      | none => M.bad) (I := I) (rngOf 0 m) 0 ρ S0 h0 (fun j d hd ρ S hI => by
    rw [Nat.zero_add] at hI ⊢
    unfold rngOf at hd
    rw [List.getElem?_map, Int.sub_zero] at hd
    cases e : (List.range m.toNat)[j]? with
    | none => rw [e] at hd; cases hd
    | some j' =>
      rw [e] at hd
      obtain ⟨h1, h2⟩ := List.getElem?_eq_some_iff.mp e
      rw [List.length_range] at h1
      rw [List.getElem_range] at h2
      subst h2
      have hd' : D.int (0 + (j : Int)) = d := Option.some.inj hd
      rw [Int.zero_add] at hd'
      subst hd'
      exact h j (by omega) ρ S hI)
  refine ⟨ρ', S', ?_, ?_⟩
  · have e : 0 + (rngOf 0 m).length = m.toNat := by simp [rngOf]
    rw [e] at h1
    exact h1
  · rw [Pd.exec, bind_ap, hi, ok_bind]
    exact h2
theorem len_scr {ns : List Int} : biLen S [.scr ns] = some (.int ns.length) := rfl
theorem small_of {i : Int} (h0 : -18446744073709551616 < i) (h1 : i < 18446744073709551616) : small i = true := by
  unfold small
  simp [h0, h1]
theorem mul_l {i j : Int} (h : small i = true) : opMul S (.int i) (.int j) = some (.int (i * j)) := by simp [opMul, h]
theorem ev_cell (ns : List Int) (j : Int) (h0 : 0 ≤ j) : ∃ i, Cs tab WF (k + 1) 16 [.scr ns, .int j] S = .ok (.int i) S := by
  have sm : small 7919 = true := by decide
  by_cases hl : j < ns.length
  · obtain ⟨x, hx, _⟩ := at_ex ns h0 hl
    refine ⟨x, ?_⟩
    show runDef (Cs tab WF k) WF 2 ir__law_cell [.scr ns, .int j] S = _
    simp [runDef, Pd.execs, s_set, s_par, s_ret, s_retN, s_expr, s_ite, s_setix, s_raise, s_pass, d_nm, d_k, d_op, d_neg, d_not, d_and, d_or, d_ite, d_tup, d_lst, d_slc, d_rev, d_chain, d_bi, d_call, d_push, d_pop0, d_lstC, denT, denL, denI, denC, denO, lstM, bind_ap, ok_bind, pure_ok, caM, opM, unM, lift, Op.g, Bi.g, Pd.finish, thaw, callM, truD, ir__law_cell, len_scr, opLt, opCmp, hl, opIdx, hx]
  · by_cases hz : (ns.length : Int) = 0
    · have q : opEq S (.int ns.length) (.int 0) = some (.bl true) := by rw [eq_int, decide_eq_true hz]
      refine ⟨7919 * j + 101, ?_⟩
      show runDef (Cs tab WF k) WF 2 ir__law_cell [.scr ns, .int j] S = _
      simp [runDef, Pd.execs, s_set, s_par, s_ret, s_retN, s_expr, s_ite, s_setix, s_raise, s_pass, d_nm, d_k, d_op, d_neg, d_not, d_and, d_or, d_ite, d_tup, d_lst, d_slc, d_rev, d_chain, d_bi, d_call, d_push, d_pop0, d_lstC, denT, denL, denI, denC, denO, lstM, bind_ap, ok_bind, pure_ok, caM, opM, unM, lift, Op.g, Bi.g, Pd.finish, thaw, callM, truD, ir__law_cell, len_scr, opLt, opCmp, hl, q, mul_l sm, opAdd]
    · have q : opEq S (.int ns.length) (.int 0) = some (.bl false) := by rw [eq_int, decide_eq_false hz]
      have hp : (0 : Int) < ns.length := by omega
      obtain ⟨x, hx, _⟩ := at_ex ns (Int.emod_nonneg j hz) (Int.emod_lt_of_pos j hp)
      have ix : opIdx S (.scr ns) (.int (j % ns.length)) = some (.int x) := by simp [opIdx, hx]
      have md : ∀ i : Int, opMod S (.int i) (.int ns.length) = some (.int (i % ns.length)) := fun i => by simp only [opMod, hp, if_true]
      refine ⟨x % 1000003 + 7919 * j, ?_⟩
      show runDef (Cs tab WF k) WF 2 ir__law_cell [.scr ns, .int j] S = _
      have m3 : opMod S (.int x) (.int 1000003) = some (.int (x % 1000003)) := rfl
      simp [runDef, Pd.execs, s_set, s_par, s_ret, s_retN, s_expr, s_ite, s_setix, s_raise, s_pass, d_nm, d_k, d_op, d_neg, d_not, d_and, d_or, d_ite, d_tup, d_lst, d_slc, d_rev, d_chain, d_bi, d_call, d_push, d_pop0, d_lstC, denT, denL, denI, denC, denO, lstM, bind_ap, ok_bind, pure_ok, caM, opM, unM, lift, Op.g, Bi.g, Pd.finish, thaw, callM, truD, ir__law_cell, len_scr, opLt, opCmp, hl, q, md, ix, m3, mul_l sm, opAdd]
end Lw

end
section
set_option Elab.async false
set_option linter.all false
set_option maxRecDepth 100000
set_option maxHeartbeats 4000000
namespace Lw
open Pd
variable {k n l c : Nat} {S S' S'' : Store} {v : D} {bs : List D}
theorem mul_r {i j : Int} (h : small j = true) : opMul S (.int i) (.int j) = some (.int (i * j)) := by simp [opMul, h]
theorem md_p {i p : Int} (h : 0 < p) : opMod S (.int i) (.int p) = some (.int (i % p)) := by simp only [opMod, h, if_true]
theorem add_i {i j : Int} : opAdd S (.int i) (.int j) = some (.int (i + j)) := rfl
theorem small_c {i : Int} (h : small i = true) : small i = true := h
def PR : D := .tup [.int 2147483647, .int 2147483629, .int 2147483587, .int 2147483579, .int 2147483563, .int 2147483549, .int 2147483543, .int 2147483497]
theorem pr_at {S : Store} (i : Int) (h0 : 0 ≤ i) (h8 : i < 8) : ∃ p, opIdx S PR (.int i) = some (.int p) ∧ 0 < p ∧ p < 2147483648 := by
  have e : i = 0 ∨ i = 1 ∨ i = 2 ∨ i = 3 ∨ i = 4 ∨ i = 5 ∨ i = 6 ∨ i = 7 := by omega
  rcases e with rfl | rfl | rfl | rfl | rfl | rfl | rfl | rfl
  · exact ⟨2147483647, by simp [PR, opIdx, seqA, L2.atI, L2.ixN], by omega, by omega⟩
  · exact ⟨2147483629, by simp [PR, opIdx, seqA, L2.atI, L2.ixN], by omega, by omega⟩
  · exact ⟨2147483587, by simp [PR, opIdx, seqA, L2.atI, L2.ixN], by omega, by omega⟩
  · exact ⟨2147483579, by simp [PR, opIdx, seqA, L2.atI, L2.ixN], by omega, by omega⟩
  · exact ⟨2147483563, by simp [PR, opIdx, seqA, L2.atI, L2.ixN], by omega, by omega⟩
  · exact ⟨2147483549, by simp [PR, opIdx, seqA, L2.atI, L2.ixN], by omega, by omega⟩
  · exact ⟨2147483543, by simp [PR, opIdx, seqA, L2.atI, L2.ixN], by omega, by omega⟩
  · exact ⟨2147483497, by simp [PR, opIdx, seqA, L2.atI, L2.ixN], by omega, by omega⟩
theorem set_last {ds x : List D} : (S ++ [ds]).set S.length x = S ++ [x] := by simp
theorem get_last {ds : List D} : (S ++ [ds])[S.length]? = some ds := by simp
theorem ex_nx {C : Nat → List D → M D} {w : Nat} {s : Pd.S} {ss : List Pd.S} {ρ ρ1 : Env'} {S S1 : Store} {r : Pd.R Fl} (h : Pd.exec C w s ρ S = .ok (.nx ρ1) S1) (h2 : Pd.execs C w ss ρ1 S1 = r) : Pd.execs C w (s :: ss) ρ S = r := by
  rw [Pd.execs, bind_ap, h, ok_bind]
  exact h2
theorem ex_end {C : Nat → List D → M D} {w : Nat} {ρ : Env'} {S : Store} : Pd.execs C w [] ρ S = .ok (.nx ρ) S := rfl

variable {C : Nat → List D → M D} {s P : D} {x9 : Option D} {a sv lf j p m z : Int} {T : Store} {ds : List D}
theorem small_2 : small 2 = true := by decide
theorem small_3 : small 3 = true := by decide
theorem small_7919 : small 7919 = true := by decide
theorem small_104729 : small 104729 = true := by decide
theorem md_8 (i : Int) : opMod S (.int i) (.int 8) = some (.int (i % 8)) := md_p (by decide)
theorem md_27 (i : Int) : opMod S (.int i) (.int 27720) = some (.int (i % 27720)) := md_p (by decide)
theorem dv_27 (i : Int) : opDiv S (.int i) (.int 27720) = some (.int (i / 27720)) := by simp [opDiv]

theorem ms1 (i1 : opIdx T P (.int (j % 8)) = some (.int p)) (z1 : 0 < p) (m1 : small (sv % p) = true) (m3 : small (2 * j) = true) : Pd.exec C WF (.set (.nm 9) (.op .mul (.op .mod (.nm 5) (.op .idx (.nm 4) (.op .mod (.nm 8) (.k (.int 8))))) (.op .add (.k (.int 48271)) (.op .mul (.op .mul (.k (.int 2)) (.nm 8)) (.nm 8))))) [some s, some (.int a), some (.int 150), some (.int 27720), some P, some (.int sv), some (.int lf), some (.cell c), some (.int j), x9] T = .ok (.nx [some s, some (.int a), some (.int 150), some (.int 27720), some P, some (.int sv), some (.int lf), some (.cell c), some (.int j), some (.int (sv % p * (48271 + 2 * j * j)))]) T := by
  simp [runDef, Pd.execs, s_set, s_par, s_ret, s_retN, s_expr, s_ite, s_setix, s_raise, s_pass, d_nm, d_k, d_op, d_neg, d_not, d_and, d_or, d_ite, d_tup, d_lst, d_slc, d_rev, d_chain, d_bi, d_call, d_push, d_pop0, d_lstC, denT, denL, denI, denC, denO, lstM, bind_ap, ok_bind, pure_ok, caM, opM, unM, lift, Op.g, Bi.g, Pd.finish, thaw, callM, truD, bindG, add_i, md_8, md_27, dv_27, mul_l small_2, mul_l small_3, mul_l small_7919, mul_l small_104729, i1, md_p z1, mul_l m1, mul_l m3]
theorem ms2 (m5 : small (7919 * (j + 1)) = true) : Pd.exec C WF (.set (.nm 9) (.op .add (.op .add (.nm 9) (.op .mul (.op .mul (.k (.int 7919)) (.op .add (.nm 8) (.k (.int 1)))) (.op .add (.nm 8) (.k (.int 1))))) (.op .mul (.k (.int 104729)) (.nm 1)))) [some s, some (.int a), some (.int 150), some (.int 27720), some P, some (.int sv), some (.int lf), some (.cell c), some (.int j), some (.int m)] T = .ok (.nx [some s, some (.int a), some (.int 150), some (.int 27720), some P, some (.int sv), some (.int lf), some (.cell c), some (.int j), some (.int (m + 7919 * (j + 1) * (j + 1) + 104729 * a))]) T := by
  simp [runDef, Pd.execs, s_set, s_par, s_ret, s_retN, s_expr, s_ite, s_setix, s_raise, s_pass, d_nm, d_k, d_op, d_neg, d_not, d_and, d_or, d_ite, d_tup, d_lst, d_slc, d_rev, d_chain, d_bi, d_call, d_push, d_pop0, d_lstC, denT, denL, denI, denC, denO, lstM, bind_ap, ok_bind, pure_ok, caM, opM, unM, lift, Op.g, Bi.g, Pd.finish, thaw, callM, truD, bindG, add_i, md_8, md_27, dv_27, mul_l small_2, mul_l small_3, mul_l small_7919, mul_l small_104729, mul_l m5]
theorem ms3 (i1 : opIdx T P (.int ((3 * j + a) % 8)) = some (.int p)) (z1 : 0 < p) : Pd.exec C WF (.set (.nm 9) (.op .mod (.nm 9) (.op .idx (.nm 4) (.op .mod (.op .add (.op .mul (.k (.int 3)) (.nm 8)) (.nm 1)) (.k (.int 8)))))) [some s, some (.int a), some (.int 150), some (.int 27720), some P, some (.int sv), some (.int lf), some (.cell c), some (.int j), some (.int m)] T = .ok (.nx [some s, some (.int a), some (.int 150), some (.int 27720), some P, some (.int sv), some (.int lf), some (.cell c), some (.int j), some (.int (m % p))]) T := by
  simp [runDef, Pd.execs, s_set, s_par, s_ret, s_retN, s_expr, s_ite, s_setix, s_raise, s_pass, d_nm, d_k, d_op, d_neg, d_not, d_and, d_or, d_ite, d_tup, d_lst, d_slc, d_rev, d_chain, d_bi, d_call, d_push, d_pop0, d_lstC, denT, denL, denI, denC, denO, lstM, bind_ap, ok_bind, pure_ok, caM, opM, unM, lift, Op.g, Bi.g, Pd.finish, thaw, callM, truD, bindG, add_i, md_8, md_27, dv_27, mul_l small_2, mul_l small_3, mul_l small_7919, mul_l small_104729, i1, md_p z1]
theorem ms4 (i1 : opIdx T P (.int ((j + 5) % 8)) = some (.int p)) (z1 : 0 < p) (m8 : small m = true) : Pd.exec C WF (.set (.nm 9) (.op .mod (.op .mul (.op .mul (.nm 9) (.nm 9)) (.nm 9)) (.op .idx (.nm 4) (.op .mod (.op .add (.nm 8) (.k (.int 5))) (.k (.int 8)))))) [some s, some (.int a), some (.int 150), some (.int 27720), some P, some (.int sv), some (.int lf), some (.cell c), some (.int j), some (.int m)] T = .ok (.nx [some s, some (.int a), some (.int 150), some (.int 27720), some P, some (.int sv), some (.int lf), some (.cell c), some (.int j), some (.int (m * m * m % p))]) T := by
  simp [runDef, Pd.execs, s_set, s_par, s_ret, s_retN, s_expr, s_ite, s_setix, s_raise, s_pass, d_nm, d_k, d_op, d_neg, d_not, d_and, d_or, d_ite, d_tup, d_lst, d_slc, d_rev, d_chain, d_bi, d_call, d_push, d_pop0, d_lstC, denT, denL, denI, denC, denO, lstM, bind_ap, ok_bind, pure_ok, caM, opM, unM, lift, Op.g, Bi.g, Pd.finish, thaw, callM, truD, bindG, add_i, md_8, md_27, dv_27, mul_l small_2, mul_l small_3, mul_l small_7919, mul_l small_104729, i1, md_p z1, mul_l m8, mul_r m8]
theorem ms5 : Pd.exec C WF (.ite (.op .gt (.nm 6) (.k (.int 0))) [.set (.nm 9) (.nm 6)] []) [some s, some (.int a), some (.int 150), some (.int 27720), some P, some (.int sv), some (.int lf), some (.cell c), some (.int j), some (.int m)] T = .ok (.nx [some s, some (.int a), some (.int 150), some (.int 27720), some P, some (.int sv), some (.int lf), some (.cell c), some (.int j), some (.int (if 0 < lf then lf else m))]) T := by
  by_cases hlf : 0 < lf <;> simp [runDef, Pd.execs, s_set, s_par, s_ret, s_retN, s_expr, s_ite, s_setix, s_raise, s_pass, d_nm, d_k, d_op, d_neg, d_not, d_and, d_or, d_ite, d_tup, d_lst, d_slc, d_rev, d_chain, d_bi, d_call, d_push, d_pop0, d_lstC, denT, denL, denI, denC, denO, lstM, bind_ap, ok_bind, pure_ok, caM, opM, unM, lift, Op.g, Bi.g, Pd.finish, thaw, callM, truD, bindG, add_i, md_8, md_27, dv_27, mul_l small_2, mul_l small_3, mul_l small_7919, mul_l small_104729, opGt, opCmp, hlf]
theorem ms6 (hc : T[c]? = some ds) (hl : ds.length < 16777216) : Pd.exec C WF (.expr (.push (.nm 7) (.op .mod (.nm 9) (.nm 3)))) [some s, some (.int a), some (.int 150), some (.int 27720), some P, some (.int sv), some (.int lf), some (.cell c), some (.int j), some (.int m)] T = .ok (.nx [some s, some (.int a), some (.int 150), some (.int 27720), some P, some (.int sv), some (.int lf), some (.cell c), some (.int j), some (.int m)]) (T.set c (ds ++ [.int (m % 27720)])) := by
  have sh : ∀ i : Int, shp9 (.int i) = true := fun _ => rfl
  simp [runDef, Pd.execs, s_set, s_par, s_ret, s_retN, s_expr, s_ite, s_setix, s_raise, s_pass, d_nm, d_k, d_op, d_neg, d_not, d_and, d_or, d_ite, d_tup, d_lst, d_slc, d_rev, d_chain, d_bi, d_call, d_push, d_pop0, d_lstC, denT, denL, denI, denC, denO, lstM, bind_ap, ok_bind, pure_ok, caM, opM, unM, lift, Op.g, Bi.g, Pd.finish, thaw, callM, truD, bindG, add_i, md_8, md_27, dv_27, mul_l small_2, mul_l small_3, mul_l small_7919, mul_l small_104729, asCell, pushM, hc, hl, sh]
theorem ms7 : Pd.exec C WF (.set (.nm 6) (.op .div (.nm 6) (.nm 3))) [some s, some (.int a), some (.int 150), some (.int 27720), some P, some (.int sv), some (.int lf), some (.cell c), some (.int j), some (.int m)] T = .ok (.nx [some s, some (.int a), some (.int 150), some (.int 27720), some P, some (.int sv), some (.int (lf / 27720)), some (.cell c), some (.int j), some (.int m)]) T := by
  simp [runDef, Pd.execs, s_set, s_par, s_ret, s_retN, s_expr, s_ite, s_setix, s_raise, s_pass, d_nm, d_k, d_op, d_neg, d_not, d_and, d_or, d_ite, d_tup, d_lst, d_slc, d_rev, d_chain, d_bi, d_call, d_push, d_pop0, d_lstC, denT, denL, denI, denC, denO, lstM, bind_ap, ok_bind, pure_ok, caM, opM, unM, lift, Op.g, Bi.g, Pd.finish, thaw, callM, truD, bindG, add_i, md_8, md_27, dv_27, mul_l small_2, mul_l small_3, mul_l small_7919, mul_l small_104729]
theorem ev_mash {j : Nat} (hP : ∀ S i, 0 ≤ i → i < 8 → ∃ p, opIdx S P (.int i) = some (.int p) ∧ 0 < p ∧ p < 2147483648) (hj : j < 150) (hd : ds.length ≤ j) (hc : T[c]? = some ds) : ∃ lf' m b, Pd.execs C WF [.set (.nm 9) (.op .mul (.op .mod (.nm 5) (.op .idx (.nm 4) (.op .mod (.nm 8) (.k (.int 8))))) (.op .add (.k (.int 48271)) (.op .mul (.op .mul (.k (.int 2)) (.nm 8)) (.nm 8)))), .set (.nm 9) (.op .add (.op .add (.nm 9) (.op .mul (.op .mul (.k (.int 7919)) (.op .add (.nm 8) (.k (.int 1)))) (.op .add (.nm 8) (.k (.int 1))))) (.op .mul (.k (.int 104729)) (.nm 1))), .set (.nm 9) (.op .mod (.nm 9) (.op .idx (.nm 4) (.op .mod (.op .add (.op .mul (.k (.int 3)) (.nm 8)) (.nm 1)) (.k (.int 8))))), .set (.nm 9) (.op .mod (.op .mul (.op .mul (.nm 9) (.nm 9)) (.nm 9)) (.op .idx (.nm 4) (.op .mod (.op .add (.nm 8) (.k (.int 5))) (.k (.int 8))))), .ite (.op .gt (.nm 6) (.k (.int 0))) [.set (.nm 9) (.nm 6)] [], .expr (.push (.nm 7) (.op .mod (.nm 9) (.nm 3))), .set (.nm 6) (.op .div (.nm 6) (.nm 3))]
    [some s, some (.int a), some (.int 150), some (.int 27720), some P, some (.int sv), some (.int lf), some (.cell c), some (.int j), x9] T = .ok (.nx [some s, some (.int a), some (.int 150), some (.int 27720), some P, some (.int sv), some (.int lf'), some (.cell c), some (.int j), some (.int m)]) (T.set c (ds ++ [.int b])) := by
  obtain ⟨p1, i1, z1, y1⟩ := hP T ((j : Int) % 8) (Int.emod_nonneg _ (by decide)) (Int.emod_lt_of_pos _ (by decide))
  obtain ⟨p2, i2, z2, y2⟩ := hP T ((3 * (j : Int) + a) % 8) (Int.emod_nonneg _ (by decide)) (Int.emod_lt_of_pos _ (by decide))
  obtain ⟨p3, i3, z3, y3⟩ := hP T (((j : Int) + 5) % 8) (Int.emod_nonneg _ (by decide)) (Int.emod_lt_of_pos _ (by decide))
  have n1 : 0 ≤ sv % p1 := Int.emod_nonneg _ (by omega)
  have n2 : sv % p1 < p1 := Int.emod_lt_of_pos _ z1
  have m1 : small (sv % p1) = true := small_of (by omega) (by omega)
  have m3 : small (2 * (j : Int)) = true := small_of (by omega) (by omega)
  have m5 : small (7919 * ((j : Int) + 1)) = true := small_of (by omega) (by omega)
  have hl : ds.length < 16777216 := by omega
  obtain ⟨w, hw⟩ : ∃ w, (sv % p1) * (48271 + 2 * (j : Int) * j) + 7919 * ((j : Int) + 1) * (j + 1) + 104729 * a = w := ⟨_, rfl⟩
  have n3 : 0 ≤ w % p2 := Int.emod_nonneg _ (by omega)
  have n4 : w % p2 < p2 := Int.emod_lt_of_pos _ z2
  have m8 : small (w % p2) = true := small_of (by omega) (by omega)
  have e2 := ms2 (C := C) (s := s) (P := P) (a := a) (sv := sv) (lf := lf) (c := c) (T := T) (m := (sv % p1) * (48271 + 2 * (j : Int) * j)) m5
  rw [hw] at e2
  exact ⟨_, _, _, ex_nx (ms1 i1 z1 m1 m3) (ex_nx e2 (ex_nx (ms3 i2 z2) (ex_nx (ms4 i3 z3 m8) (ex_nx ms5 (ex_nx (ms6 hc hl) (ex_nx ms7 ex_end))))))⟩
end Lw

end
section
set_option Elab.async false
set_option linter.all false
set_option maxRecDepth 100000
set_option maxHeartbeats 4000000
namespace Lw
open Pd
variable {k n l c : Nat} {S S' S'' : Store} {v : D} {bs : List D}
theorem ev_draws (ns : List Int) (a : Int) (h0 : 0 ≤ a) : ∃ ds, Ints ds ∧ Cs tab WF (k + 2) 17 [.scr ns, .int a, .int 150, .int 27720] S = .ok (.cell S.length) (S ++ [ds]) := by
  obtain ⟨sv, es⟩ := ev_cell (k := k) (S := S) ns a h0
  have pw : opPow S (.int 10) (.int 18) = some (.int 1000000000000000000) := by simp [opPow]
  have lp : ∀ lf : Int, ∃ ds, Ints ds ∧ ∃ lf' x8 x9, Pd.exec (Cs tab WF (k + 1)) WF (.for_ (.nm 8) (.rng (.nm 2)) [.set (.nm 9) (.op .mul (.op .mod (.nm 5) (.op .idx (.nm 4) (.op .mod (.nm 8) (.k (.int 8))))) (.op .add (.k (.int 48271)) (.op .mul (.op .mul (.k (.int 2)) (.nm 8)) (.nm 8)))), .set (.nm 9) (.op .add (.op .add (.nm 9) (.op .mul (.op .mul (.k (.int 7919)) (.op .add (.nm 8) (.k (.int 1)))) (.op .add (.nm 8) (.k (.int 1))))) (.op .mul (.k (.int 104729)) (.nm 1))), .set (.nm 9) (.op .mod (.nm 9) (.op .idx (.nm 4) (.op .mod (.op .add (.op .mul (.k (.int 3)) (.nm 8)) (.nm 1)) (.k (.int 8))))), .set (.nm 9) (.op .mod (.op .mul (.op .mul (.nm 9) (.nm 9)) (.nm 9)) (.op .idx (.nm 4) (.op .mod (.op .add (.nm 8) (.k (.int 5))) (.k (.int 8))))), .ite (.op .gt (.nm 6) (.k (.int 0))) [.set (.nm 9) (.nm 6)] [], .expr (.push (.nm 7) (.op .mod (.nm 9) (.nm 3))), .set (.nm 6) (.op .div (.nm 6) (.nm 3))])
      [some (.scr ns), some (.int a), some (.int 150), some (.int 27720), some PR, some (.int sv), some (.int lf), some (.cell S.length), none, none] (S ++ [[]]) = .ok (.nx [some (.scr ns), some (.int a), some (.int 150), some (.int 27720), some PR, some (.int sv), some (.int lf'), some (.cell S.length), x8, x9]) (S ++ [ds]) := fun lf => by
    obtain ⟨ρ', S', ⟨ds, lf', x8, x9, rfl, rfl, hi, _⟩, e⟩ := for_rng (C := Cs tab WF (k + 1)) (w := WF) (v := 8) (e := .nm 2) (m := 150) (S0 := S ++ [[]]) (S := S ++ [[]]) (ρ := [some (.scr ns), some (.int a), some (.int 150), some (.int 27720), some PR, some (.int sv), some (.int lf), some (.cell S.length), none, none])
      (b := [.set (.nm 9) (.op .mul (.op .mod (.nm 5) (.op .idx (.nm 4) (.op .mod (.nm 8) (.k (.int 8))))) (.op .add (.k (.int 48271)) (.op .mul (.op .mul (.k (.int 2)) (.nm 8)) (.nm 8)))), .set (.nm 9) (.op .add (.op .add (.nm 9) (.op .mul (.op .mul (.k (.int 7919)) (.op .add (.nm 8) (.k (.int 1)))) (.op .add (.nm 8) (.k (.int 1))))) (.op .mul (.k (.int 104729)) (.nm 1))), .set (.nm 9) (.op .mod (.nm 9) (.op .idx (.nm 4) (.op .mod (.op .add (.op .mul (.k (.int 3)) (.nm 8)) (.nm 1)) (.k (.int 8))))), .set (.nm 9) (.op .mod (.op .mul (.op .mul (.nm 9) (.nm 9)) (.nm 9)) (.op .idx (.nm 4) (.op .mod (.op .add (.nm 8) (.k (.int 5))) (.k (.int 8))))), .ite (.op .gt (.nm 6) (.k (.int 0))) [.set (.nm 9) (.nm 6)] [], .expr (.push (.nm 7) (.op .mod (.nm 9) (.nm 3))), .set (.nm 6) (.op .div (.nm 6) (.nm 3))])
      (fun j ρ S1 => ∃ ds lf' x8 x9, ρ = [some (.scr ns), some (.int a), some (.int 150), some (.int 27720), some PR, some (.int sv), some (.int lf'), some (.cell S.length), x8, x9] ∧ S1 = S ++ [ds] ∧ Ints ds ∧ ds.length ≤ j)
      (by simp [runDef, Pd.execs, s_set, s_par, s_ret, s_retN, s_expr, s_ite, s_setix, s_raise, s_pass, d_nm, d_k, d_op, d_neg, d_not, d_and, d_or, d_ite, d_tup, d_lst, d_slc, d_rev, d_chain, d_bi, d_call, d_push, d_pop0, d_lstC, denT, denL, denI, denC, denO, lstM, bind_ap, ok_bind, pure_ok, caM, opM, unM, lift, Op.g, Bi.g, Pd.finish, thaw, callM, truD]) ⟨by decide, by decide⟩ ⟨[], lf, none, none, rfl, rfl, fun d hd => by simp at hd, Nat.le_refl _⟩ (fun j hj ρ S1 ⟨ds, lf', x8, x9, hρ, hS, hi, hl⟩ => by
        subst hρ hS
        obtain ⟨lf2, m, b, e⟩ := ev_mash (C := Cs tab WF (k + 1)) (T := S ++ [ds]) (c := S.length) (s := .scr ns) (x9 := x9) (P := PR) (a := a) (sv := sv) (lf := lf') (j := j) (ds := ds) (fun S i => pr_at i) (by omega) hl get_last
        rw [set_last] at e
        refine ⟨_, _, ⟨ds ++ [D.int b], lf2, some (D.int (j : Int)), some (D.int m), rfl, rfl, fun d hd => ?_, by simp; omega⟩, e⟩
        rcases List.mem_append.mp hd with hd | hd
        · exact hi d hd
        · exact ⟨b, List.mem_singleton.mp hd⟩)
    exact ⟨ds, hi, lf', x8, x9, e⟩
  by_cases hb : 1000000000000000000 ≤ sv
  · obtain ⟨ds, hi, lf', x8, x9, e⟩ := lp sv
    unfold PR at e
    refine ⟨ds, hi, ?_⟩
    show runDef (Cs tab WF (k + 1)) WF 10 ir__law_draws [.scr ns, .int a, .int 150, .int 27720] S = _
    simp [runDef, Pd.execs, s_set, s_par, s_ret, s_retN, s_expr, s_ite, s_setix, s_raise, s_pass, d_nm, d_k, d_op, d_neg, d_not, d_and, d_or, d_ite, d_tup, d_lst, d_slc, d_rev, d_chain, d_bi, d_call, d_push, d_pop0, d_lstC, denT, denL, denI, denC, denO, lstM, bind_ap, ok_bind, pure_ok, caM, opM, unM, lift, Op.g, Bi.g, Pd.finish, thaw, callM, truD, ir__law_draws, bindG, es, pw, opGe, opCmp, hb, newCell, e]
  · obtain ⟨ds, hi, lf', x8, x9, e⟩ := lp 0
    unfold PR at e
    refine ⟨ds, hi, ?_⟩
    show runDef (Cs tab WF (k + 1)) WF 10 ir__law_draws [.scr ns, .int a, .int 150, .int 27720] S = _
    simp [runDef, Pd.execs, s_set, s_par, s_ret, s_retN, s_expr, s_ite, s_setix, s_raise, s_pass, d_nm, d_k, d_op, d_neg, d_not, d_and, d_or, d_ite, d_tup, d_lst, d_slc, d_rev, d_chain, d_bi, d_call, d_push, d_pop0, d_lstC, denT, denL, denI, denC, denO, lstM, bind_ap, ok_bind, pure_ok, caM, opM, unM, lift, Op.g, Bi.g, Pd.finish, thaw, callM, truD, ir__law_draws, bindG, es, pw, opGe, opCmp, hb, newCell, e]
theorem ev_bag (ns : List Int) (a : Int) (h0 : 0 ≤ a) : ∃ ds, Ints ds ∧ Cs tab WF (k + 3) 18 [.scr ns, .int a] S = .ok (.cell S.length) (S ++ [ds]) := by
  obtain ⟨ds, hi, e⟩ := ev_draws (k := k) (S := S) ns a h0
  refine ⟨ds, hi, ?_⟩
  show runDef (Cs tab WF (k + 2)) WF 2 ir__law_bag [.scr ns, .int a] S = _
  simp [runDef, Pd.execs, s_set, s_par, s_ret, s_retN, s_expr, s_ite, s_setix, s_raise, s_pass, d_nm, d_k, d_op, d_neg, d_not, d_and, d_or, d_ite, d_tup, d_lst, d_slc, d_rev, d_chain, d_bi, d_call, d_push, d_pop0, d_lstC, denT, denL, denI, denC, denO, lstM, bind_ap, ok_bind, pure_ok, caM, opM, unM, lift, Op.g, Bi.g, Pd.finish, thaw, callM, truD, ir__law_bag, e]
end Lw

end
section
set_option Elab.async false
set_option linter.all false
set_option maxRecDepth 100000
set_option maxHeartbeats 4000000
namespace Lw
open Pd
local macro_rules | `(tactic| walk_at "B") => `(tactic| first
  | rfl
  | assumption
  | exact bp (by first | assumption | omega)
  | exact bn (by first | assumption | omega)
  | (apply np; walk_at "B")
  | (apply nn; walk_at "B")
  | (apply ap <;> walk_at "B")
  | (apply al; walk_at "B")
  | (apply ar; walk_at "B")
  | (apply ol; walk_at "B")
  | (apply or'; walk_at "B")
  | (apply on <;> walk_at "B"))
local macro_rules | `(tactic| walk_at "L") => `(tactic| first
  | assumption
  | exact g_add | exact g_sub | exact g_lt | exact g_le | exact g_gt | exact g_ge | exact g_eqI | exact g_neI
  | exact g_mod (by first | assumption | omega)
  | exact g_div (by first | assumption | omega) (by first | assumption | omega)
  | exact g_mulL (by first | assumption | exact small_of (by omega) (by omega))
  | exact g_mulR (by first | assumption | exact small_of (by omega) (by omega))
  | exact g_idxT ix0 | exact g_idxT ix1 | exact g_idxT ix2 | exact g_idxT ix3
  | exact g_idxT (by assumption) | exact g_idxL (by assumption)
  | exact g_absI | exact g_tupL | exact g_tupT | exact g_is | exact g_isN | exact g_isB | exact g_isNB | exact g_lenT | exact g_lenL | exact g_lenS | exact g_lenC (by assumption)
  | exact g_addT (by first | omega | (simp only [List.length_append, List.length_cons, List.length_nil, List.length_map]; omega))
  | exact g_addL (by first | omega | (simp only [List.length_append, List.length_cons, List.length_nil, List.length_map]; omega))
  | rfl)
local macro_rules | `(tactic| walk_at "C") => `(tactic| first | assumption)
local macro_rules | `(tactic| walk_at "Z") => `(tactic| first | assumption | exact Nat.le_of_ble_eq_true rfl | omega | (simp only [List.length_append, List.length_cons, List.length_nil, List.length_map]; omega))
local macro_rules | `(tactic| walk_at "LL") => `(tactic| first
  | exact l_nil
  | (apply l_cons; walk_at "V"; walk_at "LL"))
local macro_rules | `(tactic| walk_at "O") => `(tactic| first
  | exact o_none
  | (apply o_some; walk_at "V"))
local macro_rules | `(tactic| walk_at "V") => `(tactic| first
  | assumption
  | exact v_nm rfl
  | exact v_k
  | (apply v_op; walk_at "V"; walk_at "V"; walk_at "L")
  | (apply v_call; walk_at "LL"; walk_at "C"; first | rfl | assumption)
  | (apply v_callK; walk_at "LL"; walk_at "C")
  | (apply v_callF; walk_at "LL"; walk_at "C")
  | (apply v_bi; walk_at "LL"; walk_at "L")
  | (apply v_tup; walk_at "LL"; walk_at "Z")
  | (apply v_neg; walk_at "V"; rfl)
  | (apply v_not; walk_at "V")
  | (apply v_and; walk_at "V"; walk_at "V")
  | (apply v_and_f; walk_at "V"; walk_at "B")
  | (apply v_and_t; walk_at "V"; walk_at "B"; walk_at "V")
  | (apply v_or; walk_at "V"; walk_at "V")
  | (apply v_or_t; walk_at "V"; walk_at "B")
  | (apply v_or_f; walk_at "V"; walk_at "B"; walk_at "V")
  | (apply v_ite_t; walk_at "T"; walk_at "B"; walk_at "V")
  | (apply v_ite_f; walk_at "T"; walk_at "B"; walk_at "V")
  | (apply v_chain; walk_at "V"; walk_at "V"; walk_at "L"; walk_at "V"; walk_at "L")
  | (apply v_chain_f; walk_at "V"; walk_at "V"; walk_at "L"; walk_at "B")
  | (apply v_chain_t; walk_at "V"; walk_at "V"; walk_at "L"; walk_at "B"; walk_at "V"; walk_at "L")
  | (apply v_slc; walk_at "V"; walk_at "O"; walk_at "O"; walk_at "L")
  | (apply v_rev; walk_at "V"; walk_at "L")
  | (apply v_lst; walk_at "LL"; walk_at "Z")
  | (apply v_lstN; walk_at "LL"; walk_at "Z"; walk_at "H")
  | (apply v_push; walk_at "V"; walk_at "V"; walk_at "K"; walk_at "Z"; walk_at "H")
  | (apply v_pop0; walk_at "V"; walk_at "K")
  | (apply v_lstC; walk_at "V"; walk_at "L"; walk_at "H"))
local macro_rules | `(tactic| walk_at "H") => `(tactic| first | rfl | assumption)
local macro_rules | `(tactic| walk_at "K") => `(tactic| first | assumption | rfl)
local macro_rules | `(tactic| walk_at "T") => `(tactic| first
  | assumption
  | (apply t_not; walk_at "T")
  | (apply t_and; walk_at "T"; walk_at "T")
  | (apply t_and_f; walk_at "T"; walk_at "B")
  | (apply t_and_t; walk_at "T"; walk_at "B"; walk_at "T")
  | (apply t_or; walk_at "T"; walk_at "T")
  | (apply t_or_t; walk_at "T"; walk_at "B")
  | (apply t_or_f; walk_at "T"; walk_at "B"; walk_at "T")
  | (apply t_of; rfl; walk_at "V"; first | exact tr_b | rfl | assumption))
local macro_rules | `(tactic| walk_at "I") => `(tactic| first
  | assumption
  | (apply i_seq; walk_at "V"; first | rfl | assumption)
  | (apply i_rng; walk_at "V"; omega)
  | (apply i_rng2; walk_at "V"; walk_at "V"; omega)
  | (apply i_zipT; walk_at "V"; walk_at "V")
  | (apply i_zipL; walk_at "V"; walk_at "V")
  | (apply i_enum; walk_at "V"))
local macro_rules | `(tactic| walk_at "X") => `(tactic| first
  | assumption
  | exact xs_nil
  | (apply xs_ret; walk_at "S")
  | (apply xs_cons; walk_at "S"; walk_at "X"))
local macro_rules | `(tactic| walk_at "S") => `(tactic| first
  | assumption
  | (apply x_set; walk_at "V"; rfl)
  | (apply x_ret; walk_at "V")
  | exact x_retN
  | (apply x_expr; walk_at "V")
  | (apply x_par; walk_at "LL"; rfl)
  | (apply x_ite_t; walk_at "T"; walk_at "B"; walk_at "X")
  | (apply x_ite_f; walk_at "T"; walk_at "B"; walk_at "X")
  | exact x_pass
  | (apply x_setix; walk_at "V"; walk_at "V"; walk_at "V"; walk_at "K"; walk_at "L"; walk_at "H"))
local macro_rules | `(tactic| walk_at "F") => `(tactic| first
  | exact fin_v (by first | rfl | assumption) (by first | rfl | assumption | omega)
  | exact fin_v rfl (by simp only [List.length_set]; omega)
  | exact fin_v rfl (by simp; omega))
/- a def from its call to its end; what it hands back stays open -/
local macro_rules | `(tactic| walk_at "R") => `(tactic| (apply cs_run; rfl; first
  | (apply r_ret; walk_at "X"; walk_at "F")
  | (apply r_nx; walk_at "X"; walk_at "F")))

variable {k n l c : Nat} {S S' S'' S0 T T' : Store} {v : D} {bs ds : List D}
theorem ev_gboat2 {ps : List (Int × Int)} {ss : List Int} {rs : List (Int × Int)} (h : HarbP ps ss rs) (hb : Bag c S) : ∃ ds S', Sm c S S' ∧ vok 2 3 (.tup ds) ∧ Cs tab WF (k + 2) 23 [.cell c, harbD ps ss rs] S = .ok (.tup ds) S' :=
  ev_gboat hb (by rw [List.length_map]; exact h.one)
abbrev roundB : List Pd.S := [.set (.nm 3) (.call true 18 [(.nm 0), (.nm 1)]), .set (.nm 4) (.call false 22 [(.nm 3), (.k (.int 4))]), .par [7, 8] [(.call false 23 [(.nm 3), (.nm 4)]), (.call false 25 [(.nm 3), (.k (.int 4))])],
 .ite (.or (.op .isNot (.call false 6 [(.nm 4)]) (.k (.bl true))) (.op .isNot (.call false 5 [(.op .idx (.nm 4) (.k (.int 0)))]) (.k (.bl true)))) [.ret (.k (.bl false))] [],
 .set (.tup [(.nm 9), (.nm 10), (.nm 11)]) (.tup [(.nm 4), (.nm 7), (.nm 8)]), .for_ (.nm 5) (.rng (.k (.int 18))) turnB,
 .for_ (.nm 6) (.seq oddE) [.ite (.op .isNot (.call false 8 [(.nm 6)]) (.k (.bl false))) [.ret (.k (.bl false))] []],
 .ite (.or (.not (.call false 8 [(.tup [(.k (.int 12)), (.k (.int 1))])])) (.or (.not (.call false 8 [(.tup [(.k (.int 0)), (.k (.int 1))])])) (.not (.call false 8 [(.tup [(.k (.int 1)), (.op .pow (.k (.int 10)) (.k (.int 6)))])])))) [.ret (.k (.bl false))] []]
theorem ev_round {ns : List Int} {j : Nat} {x2 x3 x4 x5 x6 x7 x8 x9 x10 x11 x12 : Option D} : ∃ y3 y4 y5 y6 y7 y8 y9 y10 y11 y12 S', Pd.execs (Cs tab WF (k + 13)) WF roundB [some (.scr ns), some (.int j), x2, x3, x4, x5, x6, x7, x8, x9, x10, x11, x12] S = .ok (.nx [some (.scr ns), some (.int j), x2, y3, y4, y5, y6, y7, y8, y9, y10, y11, y12]) S' := by
  obtain ⟨ds, hi, e1⟩ := ev_bag (k := k + 10) (S := S) ns j (by omega)
  have hb : Bag S.length (S ++ [ds]) := ⟨ds, by simp, hi⟩
  obtain ⟨ps, ss, rs, S1, s1, hp, _, e2⟩ := ev_gharb (k := k + 10) (m := 4) (by decide) (by decide) hb
  obtain ⟨bt, S2, s2, bv, e3⟩ := ev_gboat2 (k := k + 11) hp s1.bag
  obtain ⟨st, S3, s3, sv, e4⟩ := ev_gsteps (k := k + 9) s2.bag
  have e5 := ev_is_harbour (k := k + 8) (S := S3) (by decide) hp.vok
  rw [hp.harb] at e5
  have e6 := ev_is_tide (k := k + 9) (S := S3) (prs_vok ps hp.tide.six (by decide))
  rw [hp.tide.tide] at e6
  obtain ⟨w9, w10, w11, y5, y12, S4, s4, e7⟩ := ev_turns (k := k) (x0 := some (.scr ns)) (x1 := some (.int j)) (x2 := x2) (x5 := x5) (x6 := x6) (x12 := x12) (v9 := harbD ps ss rs) (v10 := .tup bt) (v11 := .tup st) hp s3.bag (vok_mono (by decide) (by decide) bv) (vok_mono (by decide) (by decide) sv)
  obtain ⟨y6, e8⟩ := ev_odds (k := k) (S := S4) (x0 := some (.scr ns)) (x1 := some (.int j)) (x2 := x2) (x3 := some (.cell S.length)) (x4 := some (harbD ps ss rs)) (x5 := y5) (x6 := x6) (x7 := some (.tup bt)) (x8 := some (.tup st)) (x9 := some w9) (x10 := some w10) (x11 := some w11) (x12 := y12)
  have e9 := ev_goods (k := k) (S := S4) (ρ := [some (.scr ns), some (.int j), x2, some (.cell S.length), some (harbD ps ss rs), y5, y6, some (.tup bt), some (.tup st), some w9, some w10, some w11, y12])
  exact ⟨_, _, _, _, _, _, _, _, _, _, S4, by walk_at "X"⟩
theorem ev_law (ns : List Int) : ∃ S', Cs tab WF (k + 14) 35 [.scr ns] S = .ok (.bl true) S' := by
  obtain ⟨ρ', T, ⟨x1, x2, x3, x4, x5, x6, x7, x8, x9, x10, x11, x12, rfl⟩, e⟩ := Pd.for_rng (C := Cs tab WF (k + 13)) (w := WF) (v := 1) (e := .k (.int 7)) (m := 7) (b := roundB) (S := S) (S1 := S) (ρ := [some (.scr ns), none, none, none, none, none, none, none, none, none, none, none, none])
    (fun j ρ T => ∃ x1 x2 x3 x4 x5 x6 x7 x8 x9 x10 x11 x12, ρ = [some (.scr ns), x1, x2, x3, x4, x5, x6, x7, x8, x9, x10, x11, x12])
    v_k ⟨by decide, by decide⟩ ⟨_, _, _, _, _, _, _, _, _, _, _, _, rfl⟩ (fun j hj ρ T ⟨x1, x2, x3, x4, x5, x6, x7, x8, x9, x10, x11, x12, hρ⟩ => by
      subst hρ
      obtain ⟨y3, y4, y5, y6, y7, y8, y9, y10, y11, y12, S', e⟩ := ev_round (k := k) (S := T) (ns := ns) (j := j) (x2 := x2) (x3 := x3) (x4 := x4) (x5 := x5) (x6 := x6) (x7 := x7) (x8 := x8) (x9 := x9) (x10 := x10) (x11 := x11) (x12 := x12)
      exact ⟨_, S', ⟨_, _, _, _, _, _, _, _, _, _, _, _, rfl⟩, e⟩)
  have en := ev_end (k := k) (S := T) (x0 := some (.scr ns)) (x1 := x1) (x2 := x2) (x3 := x3) (x4 := x4) (x5 := x5) (x6 := x6) (x7 := x7) (x8 := x8) (x9 := x9) (x10 := x10) (x11 := x11) (x12 := x12)
  by_cases hl : T.length = S.length
  · refine ⟨T, ?_⟩
    apply cs_run
    rfl
    apply r_ret
    · apply xs_cons
      · exact e
      · exact en
    · exact fin_v rfl hl
  · refine ⟨T.take S.length, ?_⟩
    apply cs_run
    rfl
    apply r_ret
    · apply xs_cons
      · exact e
      · exact en
    · exact fin_flt (n := 1) rfl (by decide) hl
theorem pure : Pure := fun ns _ _ => ev_law (k := 16) ns
end Lw

end
set_option maxRecDepth 100000 in
set_option maxHeartbeats 8000000 in
theorem PySem.Challenge.cw_anytide_k01_harbours_boats_and_scripts_k_holds : PySem.Challenge.rw_anytide_k01_harbours_boats_and_scripts_k.Holds := by
  exact Lw.holds Lw.pure
