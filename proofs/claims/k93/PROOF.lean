import PyProof.Rows.All
import Wide.All
import OpenK.AllK
import Wide.FinOn
import HandS.ForMost
import HandS.TupAny
import HandS.Deep
import HandS.IsInst
import HandS.Walk
import HandS.Conv
import HandS.Rev
import HandS.Zip
import HandS.Style
import HandS.TupMul
import HandS.SortInts
import HandS.Strs
import KE.GoesMore
import HandS.Defaults
import HandS.Head0
import HandS.Head1
import HandS.Head2
import HandS.HeadEnd
import HandS.HeadHook1
import HandS.HeadHook2
import HandS.TupSets
import KE.KStateDown
import Lean
import HandS.Base
import HandS.Call
import HandS.Ends
import HandS.More
import HandS.Words
import HandS.WordsExc
import PySem.Challenge.RW_swapsagree_k93_whole_crossings_by_places
set_option Elab.async false
set_option linter.all false
set_option maxRecDepth 100000
set_option autoImplicit false
set_option maxHeartbeats 0
/-! Pd, part A: data D, the relation to the tracked heap, transformers over data. -/
namespace Pd
open PySem PySem.Spec PyProof.Rows L2

/-- data: tuples and lists that are not changed any more as values, changeable lists by a number -/
inductive D where
  | non | bl (b : Bool) | int (i : Int) | str (s : Str) | tup (xs : List D) | lst (xs : List D) | ref (n : Nat) | scr (xs : List Int)

/-- the fixed things of a run -/
structure Gx where
  K : PySem.W.Frag
  P : Program
  w : World
def gx (X : Cx) : Gx := ⟨X.K, X.prog, X.w⟩

/-- what stands in a cell -/
inductive Ob where
  | lst (xs : List D)
  | dic (kvs : List (List Int × D))

abbrev DH := List Ob
/-- a tuple as an object -/
def tupO (its : List Value) : Obj := { cls := .type "tuple", data := .seq its.toArray }
abbrev Env := List (Option D)

/-- the cells' addresses; addresses that no datum is at -/
structure Fi where
  c : List Addr
  x : List Addr
def Fi.all (φ : Fi) : List Addr := φ.c ++ φ.x
def Fi.add (φ : Fi) (p : Addr) : Fi := ⟨φ.c ++ [p], φ.x⟩
mutual
inductive Rep (K : Gx) (φ : Fi) (H : Hp) : V → D → Prop
  | non : Rep K φ H .non .non
  | bl (b : Bool) : Rep K φ H (.bl b) (.bl b)
  | int (i : Int) : Rep K φ H (.int i) (.int i)
  | str (x : Str) : Rep K φ H (.str x) (.str x)
  | tup {a : Addr} {its : List Value} {vs : List V} {ds : List D} : a ∉ φ.all → H a = some (.frz (tupO its) (.tup vs)) → Reps K φ H vs ds → Rep K φ H (.ref a) (.tup ds)
  | lst {a : Addr} {vs : List V} {ds : List D} : a ∉ φ.all → H a = some (.lst vs) → Reps K φ H vs ds → Rep K φ H (.ref a) (.lst ds)
  | ref {i : Nat} {a : Addr} : φ.c[i]? = some a → Rep K φ H (.ref a) (.ref i)
  | scrR {a : Addr} {o : Obj} {ns : List Int} : a ∉ φ.all → H a = some (.frz o (.lst (ns.map V.int))) → Rep K φ H (.ref a) (.scr ns)
  | scrT {a : Addr} {ns : List Int} : a ∉ φ.all → H a = some (.lst (ns.map V.int)) → Rep K φ H (.ref a) (.scr ns)
  | scrK {a : Addr} {ns : List Int} : (∀ H', SqL K.K H' a (ns.map V.int)) → Rep K φ H (.ref a) (.scr ns)
inductive Reps (K : Gx) (φ : Fi) (H : Hp) : List V → List D → Prop
  | nil : Reps K φ H [] []
  | cons {v : V} {vs : List V} {d : D} {ds : List D} : Rep K φ H v d → Reps K φ H vs ds → Reps K φ H (v :: vs) (d :: ds)
end

/-- from one state to a later one -/
structure Ev (φ : Fi) (H : Hp) (φ' : Fi) (H' : Hp) : Prop where
  ext : ∃ ψ, φ'.c = φ.c ++ ψ ∧ ∀ a ∈ ψ, H a = none
  ex : φ'.x = φ.x
  kp : ∀ a o, H a = some o → a ∉ φ.c → H' a = some o
  al : ∀ a, H' a = none → H a = none
/-- what data lean on is kept -/
structure Mv (φ : Fi) (H : Hp) (φ' : Fi) (H' : Hp) : Prop where
  nn : ∀ a o, H a = some o → a ∉ φ.all → a ∉ φ'.all ∧ H' a = some o
  get : ∀ (i : Nat) (a : Addr), φ.c[i]? = some a → φ'.c[i]? = some a

section
variable {K : Gx} {φ φ' φ'' : Fi} {H H' H'' : Hp}
theorem Fi.nc {a : Addr} (h : a ∉ φ.all) : a ∉ φ.c := fun m => h (List.mem_append_left _ m)
theorem Fi.nx {a : Addr} (h : a ∉ φ.all) : a ∉ φ.x := fun m => h (List.mem_append_right _ m)
theorem Fi.nall {a : Addr} (h : a ∉ φ.c) (h' : a ∉ φ.x) : a ∉ φ.all := fun m => (List.mem_append.mp m).elim h h'
theorem Ev.refl : Ev φ H φ H := ⟨⟨[], by simp⟩, rfl, fun _ _ h _ => h, fun _ h => h⟩
theorem Ev.notc (e : Ev φ H φ' H') {a : Addr} {o : HO} (h : H a = some o) (n : a ∉ φ.c) : a ∉ φ'.c := by
  obtain ⟨ψ, e1, f⟩ := e.ext
  intro m
  rw [e1] at m
  rcases List.mem_append.mp m with m | m
  · exact n m
  · rw [f a m] at h; cases h
theorem Ev.notin (e : Ev φ H φ' H') {a : Addr} {o : HO} (h : H a = some o) (n : a ∉ φ.all) : a ∉ φ'.all :=
  Fi.nall (e.notc h (Fi.nc n)) (by rw [e.ex]; exact Fi.nx n)
theorem Ev.kpa (e : Ev φ H φ' H') {a : Addr} {o : HO} (h : H a = some o) (n : a ∉ φ.all) : H' a = some o := e.kp a o h (Fi.nc n)
theorem Ev.trans (e : Ev φ H φ' H') (e' : Ev φ' H' φ'' H'') : Ev φ H φ'' H'' := by
  have n' : ∀ {a : Addr} {o : HO}, H a = some o → a ∉ φ.c → a ∉ φ'.c := fun h n => e.notc h n
  obtain ⟨ψ, e1, f⟩ := e.ext
  obtain ⟨ψ', e2, f'⟩ := e'.ext
  refine ⟨⟨ψ ++ ψ', by rw [e2, e1, List.append_assoc], fun a m => ?_⟩, e'.ex.trans e.ex, fun a o h n => e'.kp a o (e.kp a o h n) (n' h n), fun a h => e.al a (e'.al a h)⟩
  rcases List.mem_append.mp m with m | m
  · exact f a m
  · exact e.al a (f' a m)
theorem Ev.get (e : Ev φ H φ' H') {i : Nat} {a : Addr} (h : φ.c[i]? = some a) : φ'.c[i]? = some a := by
  obtain ⟨ψ, e1, _⟩ := e.ext
  rw [e1, List.getElem?_append_left (by
    rcases Nat.lt_or_ge i φ.c.length with q | q
    · exact q
    · rw [List.getElem?_eq_none q] at h; cases h)]
  exact h
theorem Ev.mv (e : Ev φ H φ' H') : Mv φ H φ' H' := ⟨fun _ _ h n => ⟨e.notin h n, e.kpa h n⟩, fun _ _ h => e.get h⟩
/-- a new object that is no cell -/
theorem Ev.new {p : Addr} {o : HO} (n : H p = none) : Ev φ H φ (upd H p o) :=
  ⟨⟨[], by simp⟩, rfl, fun a u h _ => by rw [upd_ne (ne_of_none h n)]; exact h, fun a h => by
    by_cases e : a = p
    · rw [e]; exact n
    · rw [upd_ne e] at h; exact h⟩
/-- a new cell -/
theorem Ev.newc {p : Addr} {o : HO} (n : H p = none) : Ev φ H (φ.add p) (upd H p o) :=
  ⟨⟨[p], rfl, fun a m => by rw [List.mem_singleton.mp m]; exact n⟩, rfl, fun a u h _ => by rw [upd_ne (ne_of_none h n)]; exact h, fun a h => by
    by_cases e : a = p
    · rw [e]; exact n
    · rw [upd_ne e] at h; exact h⟩
/-- a cell is written -/
theorem Ev.write {p : Addr} {o : HO} (m : p ∈ φ.c) : Ev φ H φ (upd H p o) :=
  ⟨⟨[], by simp⟩, rfl, fun a u h n => by rw [upd_ne (fun e => n (by rw [e]; exact m))]; exact h, fun a h => by
    by_cases e : a = p
    · rw [e, upd_same] at h; cases h
    · rw [upd_ne e] at h; exact h⟩
/-- an address is shut off -/
theorem Mv.shut {p : Addr} {o : HO} (n : H p = none) : Mv φ H ⟨φ.c, p :: φ.x⟩ (upd H p o) := by
  refine ⟨fun a u h na => ⟨Fi.nall (φ := ⟨φ.c, p :: φ.x⟩) (Fi.nc (φ := φ) na) fun m => ?_, by rw [upd_ne (ne_of_none h n)]; exact h⟩, fun _ _ h => h⟩
  rcases List.mem_cons.mp (show a ∈ p :: φ.x from m) with e | m
  · exact ne_of_none h n e
  · exact Fi.nx na m
/-- a thing that is shut off is changed -/
theorem Mv.wx {p : Addr} {o : HO} (m : p ∈ φ.x) : Mv φ H φ (upd H p o) :=
  ⟨fun a u h na => ⟨na, by rw [upd_ne (fun e => Fi.nx na (by rw [e]; exact m))]; exact h⟩, fun _ _ h => h⟩
theorem Mv.open {p : Addr} {xs : List Addr} {cs : List Addr} : Mv ⟨cs, p :: xs⟩ H ⟨cs, xs⟩ H :=
  ⟨fun a u h na => ⟨Fi.nall (φ := ⟨cs, xs⟩) (Fi.nc (φ := ⟨cs, p :: xs⟩) na) fun m => Fi.nx (φ := ⟨cs, p :: xs⟩) na (List.mem_cons_of_mem _ m), h⟩, fun _ _ h => h⟩
mutual
theorem Rep.mov (e : Mv φ H φ' H') : ∀ {v : V} {d : D}, Rep K φ H v d → Rep K φ' H' v d
  | _, _, .non => .non
  | _, _, .bl b => .bl b
  | _, _, .int i => .int i
  | _, _, .str x => .str x
  | _, _, .tup n h r => .tup (e.nn _ _ h n).1 (e.nn _ _ h n).2 (Reps.mov e r)
  | _, _, .lst n h r => .lst (e.nn _ _ h n).1 (e.nn _ _ h n).2 (Reps.mov e r)
  | _, _, .ref h => .ref (e.get _ _ h)
  | _, _, .scrR n h => .scrR (e.nn _ _ h n).1 (e.nn _ _ h n).2
  | _, _, .scrT n h => .scrT (e.nn _ _ h n).1 (e.nn _ _ h n).2
  | _, _, .scrK h => .scrK h
theorem Reps.mov (e : Mv φ H φ' H') : ∀ {vs : List V} {ds : List D}, Reps K φ H vs ds → Reps K φ' H' vs ds
  | _, _, .nil => .nil
  | _, _, .cons r t => .cons (Rep.mov e r) (Reps.mov e t)
end
theorem Rep.mono (e : Ev φ H φ' H') {v : V} {d : D} (r : Rep K φ H v d) : Rep K φ' H' v d := r.mov e.mv
theorem Reps.mono (e : Ev φ H φ' H') {vs : List V} {ds : List D} (r : Reps K φ H vs ds) : Reps K φ' H' vs ds := r.mov e.mv
theorem Reps.length : ∀ {vs : List V} {ds : List D}, Reps K φ H vs ds → vs.length = ds.length
  | _, _, .nil => rfl
  | _, _, .cons _ t => by rw [List.length_cons, List.length_cons, Reps.length t]
theorem Reps.get : ∀ {vs : List V} {ds : List D} {i : Nat} {d : D}, Reps K φ H vs ds → ds[i]? = some d → ∃ v, vs[i]? = some v ∧ Rep K φ H v d
  | _, _, _, _, .nil, h => by simp at h
  | _, _, 0, _, .cons r _, h => by simp at h; subst h; exact ⟨_, rfl, r⟩
  | _, _, i + 1, d, .cons _ t, h => by
    obtain ⟨v, h1, h2⟩ := Reps.get (i := i) (d := d) t (by simpa using h)
    exact ⟨v, by simpa using h1, h2⟩
theorem Reps.getV : ∀ {vs : List V} {ds : List D} {i : Nat} {v : V}, Reps K φ H vs ds → vs[i]? = some v → ∃ d, ds[i]? = some d ∧ Rep K φ H v d
  | _, _, _, _, .nil, h => by simp at h
  | _, _, 0, _, .cons r _, h => by simp at h; subst h; exact ⟨_, rfl, r⟩
  | _, _, i + 1, d, .cons _ t, h => by
    obtain ⟨v, h1, h2⟩ := Reps.getV (i := i) (v := d) t (by simpa using h)
    exact ⟨v, by simpa using h1, h2⟩
theorem Reps.append : ∀ {vs ws : List V} {ds es : List D}, Reps K φ H vs ds → Reps K φ H ws es → Reps K φ H (vs ++ ws) (ds ++ es)
  | _, _, _, _, .nil, s => s
  | _, _, _, _, .cons r t, s => .cons r (Reps.append t s)
theorem Reps.take : ∀ {vs : List V} {ds : List D} (n : Nat), Reps K φ H vs ds → Reps K φ H (vs.take n) (ds.take n)
  | _, _, 0, _ => .nil
  | _, _, _ + 1, .nil => .nil
  | _, _, n + 1, .cons r t => .cons r (Reps.take n t)
theorem Reps.drop : ∀ {vs : List V} {ds : List D} (n : Nat), Reps K φ H vs ds → Reps K φ H (vs.drop n) (ds.drop n)
  | _, _, 0, r => r
  | _, _, _ + 1, .nil => .nil
  | _, _, n + 1, .cons _ t => Reps.drop n t
theorem Reps.reverse : ∀ {vs : List V} {ds : List D}, Reps K φ H vs ds → Reps K φ H vs.reverse ds.reverse
  | _, _, .nil => .nil
  | _, _, .cons r t => by
    rw [List.reverse_cons, List.reverse_cons]
    exact Reps.append (Reps.reverse t) (.cons r .nil)
theorem Reps.set {v : V} {d : D} (r : Rep K φ H v d) : ∀ {vs : List V} {ds : List D} (i : Nat), Reps K φ H vs ds → Reps K φ H (vs.set i v) (ds.set i d)
  | _, _, _, .nil => .nil
  | _, _, 0, .cons _ t => .cons r t
  | _, _, i + 1, .cons q t => .cons q (Reps.set r i t)
theorem Reps.rep {vs : List V} {ds : List D} (r : Reps K φ H vs ds) : ∀ k : Nat, Reps K φ H (List.replicate k vs).flatten (List.replicate k ds).flatten
  | 0 => .nil
  | k + 1 => by
    rw [List.replicate_succ, List.replicate_succ, List.flatten_cons, List.flatten_cons]
    exact r.append (Reps.rep r k)
theorem Reps.dropLast {vs : List V} {ds : List D} (r : Reps K φ H vs ds) : Reps K φ H vs.dropLast ds.dropLast := by
  rw [List.dropLast_eq_take, List.dropLast_eq_take, r.length]
  exact r.take _
theorem Reps.ints : ∀ ns : List Int, Reps K φ H (ns.map V.int) (ns.map D.int)
  | [] => .nil
  | n :: r => .cons (.int n) (Reps.ints r)
theorem Reps.toInts : ∀ {vs : List V} (ns : List Int), Reps K φ H vs (ns.map D.int) → vs = ns.map V.int
  | _, [], .nil => rfl
  | _, n :: r, .cons h t => by
    cases h
    rw [Reps.toInts r t]; rfl
theorem Reps.toBls : ∀ {vs : List V} (ns : List Bool), Reps K φ H vs (ns.map D.bl) → vs = ns.map V.bl
  | _, [], .nil => rfl
  | _, n :: r, .cons h t => by
    cases h
    rw [Reps.toBls r t]; rfl
theorem Reps.toStrs : ∀ {vs : List V} (ns : List Str), Reps K φ H vs (ns.map D.str) → vs = ns.map V.str
  | _, [], .nil => rfl
  | _, n :: r, .cons h t => by
    cases h
    rw [Reps.toStrs r t]; rfl
end

/-- a dict by its entries: key, the key's address, value -/
def DicR (P : Program) (w : World) (a : Addr) (xs : List (List Key × Addr × Value)) (h : Heap) : Prop :=
  xs.length ≤ sizeLine ∧ (a == sysModules) = false ∧ ∃ o es ep, h.get? a = some o ∧ o.ExactDict ∧ o.data = .dict es ep ∧ es.toList = xs.map (entryOfKey (tupleKind (mixKind P w))) ∧ (xs.map (·.1)).Nodup
def DicO (P : Program) (w : World) (a : Addr) (xs : List (List Key × Addr × Value)) : HO := .ext (DicR P w a xs)
/-- what a cell's object is in the heap -/
def ObR (K : Gx) (φ : Fi) (H : Hp) (a : Addr) : Ob → Prop
  | .lst ds => ∃ vs, H a = some (.lst vs) ∧ Reps K φ H vs ds
  | .dic kvs => ∃ (xs : List (List Key × Addr × Value)) (ws : List V), H a = some (DicO K.P K.w a xs) ∧ xs.map (·.1) = kvs.map (fun kv => kv.1.map Sum.inl) ∧
      (∀ x ∈ xs, x.2.1 ∉ φ.all ∧ ∃ its, H x.2.1 = some (.frz (tupO its) (.tup (x.1.map kV)))) ∧ Vals ws (xs.map (·.2.2)) ∧ Reps K φ H ws (kvs.map (·.2))
structure HR (K : Gx) (φ : Fi) (H : Hp) (h : DH) : Prop where
  len : φ.c.length = h.length
  nd : φ.c.Nodup
  ob : ∀ (i : Nat) (a : Addr) (o : Ob), φ.c[i]? = some a → h[i]? = some o → ObR K φ H a o
  xt : ∀ a ∈ φ.x, H a ≠ none
  dj : ∀ a ∈ φ.c, a ∉ φ.x
def EnvR (K : Gx) (φ : Fi) (H : Hp) (env : Env) (σ : L2.St) : Prop :=
  env.length = σ.length ∧ ∀ (i : Nat) (d : D), env[i]? = some (some d) → ∃ v, σ[i]? = some (some v) ∧ Rep K φ H v d

section
variable {K : Gx} {φ φ' φ'' : Fi} {H H' H'' : Hp} {h h' : DH}
theorem ObR.mov (e : Mv φ H φ' H') {a : Addr} {o : Ob} (q : H' a = H a) (r : ObR K φ H a o) : ObR K φ' H' a o := by
  cases o with
  | lst ds => obtain ⟨vs, h1, h2⟩ := r; exact ⟨vs, by rw [q]; exact h1, h2.mov e⟩
  | dic kvs =>
    obtain ⟨xs, ws, h1, h2, h3, h4, h5⟩ := r
    refine ⟨xs, ws, by rw [q]; exact h1, h2, fun x hx => ?_, h4, h5.mov e⟩
    obtain ⟨n, its, z⟩ := h3 x hx
    exact ⟨(e.nn _ _ z n).1, its, (e.nn _ _ z n).2⟩
theorem ObR.there {a : Addr} {o : Ob} (r : ObR K φ H a o) : H a ≠ none := by
  cases o with
  | lst ds => obtain ⟨vs, h1, h2⟩ := r; rw [h1]; exact fun z => nomatch z
  | dic kvs => obtain ⟨xs, ws, h1, h2⟩ := r; rw [h1]; exact fun z => nomatch z
theorem EnvR.mov (e : Mv φ H φ' H') {env : Env} {σ : L2.St} (r : EnvR K φ H env σ) : EnvR K φ' H' env σ :=
  ⟨r.1, fun i d q => let ⟨v, h1, h2⟩ := r.2 i d q; ⟨v, h1, h2.mov e⟩⟩
theorem EnvR.mono (e : Ev φ H φ' H') {env : Env} {σ : L2.St} (r : EnvR K φ H env σ) : EnvR K φ' H' env σ := r.mov e.mv
theorem EnvR.set {env : Env} {σ : L2.St} (r : EnvR K φ H env σ) {i : Nat} {v : V} {d : D} (q : Rep K φ H v d) : EnvR K φ H (env.set i (some d)) (σ.set i (some v)) := by
  refine ⟨by rw [List.length_set, List.length_set]; exact r.1, fun j d' hj => ?_⟩
  by_cases e : i = j
  · subst e
    by_cases hl : i < env.length
    · rw [List.getElem?_set_self hl] at hj
      cases hj
      exact ⟨v, by rw [List.getElem?_set_self (by rw [← r.1]; exact hl)], q⟩
    · rw [List.getElem?_eq_none (by rw [List.length_set]; omega)] at hj
      cases hj
  · rw [List.getElem?_set_ne e] at hj
    rw [List.getElem?_set_ne e]
    exact r.2 j d' hj
theorem EnvR.none {env : Env} {σ : L2.St} (r : EnvR K φ H env σ) {i : Nat} : EnvR K φ H (env.set i none) (σ.set i none) := by
  refine ⟨by rw [List.length_set, List.length_set]; exact r.1, fun j d' hj => ?_⟩
  by_cases e : i = j
  · subst e
    by_cases hl : i < env.length
    · rw [List.getElem?_set_self hl] at hj
      cases hj
    · rw [List.getElem?_eq_none (by rw [List.length_set]; omega)] at hj
      cases hj
  · rw [List.getElem?_set_ne e] at hj
    rw [List.getElem?_set_ne e]
    exact r.2 j d' hj
def wipeD (env : Env) : List Nat → Env
  | [] => env
  | v :: vs => (wipeD env vs).set v none
theorem EnvR.wipe {env : Env} {σ : L2.St} (r : EnvR K φ H env σ) : ∀ vs : List Nat, EnvR K φ H (wipeD env vs) (wipe σ vs)
  | [] => r
  | v :: vs => (EnvR.wipe r vs).none
/-- the state is kept where a thing that is no cell is new or changed -/
theorem HR.keep (r : HR K φ H h) {xs : List Addr} (e : Mv φ H ⟨φ.c, xs⟩ H') (q : ∀ a ∈ φ.c, H' a = H a) (hx : ∀ a ∈ xs, H' a ≠ none) (hd : ∀ a ∈ φ.c, a ∉ xs) : HR K ⟨φ.c, xs⟩ H' h :=
  ⟨r.len, r.nd, fun i a o h1 h2 => (r.ob i a o h1 h2).mov e (q a (List.mem_of_getElem? h1)), hx, hd⟩
theorem HR.there (r : HR K φ H h) {a : Addr} (m : a ∈ φ.c) : H a ≠ none := by
  obtain ⟨i, hi⟩ := List.getElem?_of_mem m
  have hl : i < h.length := by
    rw [← r.len]
    rcases Nat.lt_or_ge i φ.c.length with q | q
    · exact q
    · rw [List.getElem?_eq_none q] at hi; cases hi
  exact (r.ob i a h[i] hi (List.getElem?_eq_getElem hl)).there
theorem HR.fresh (r : HR K φ H h) {p : Addr} (n : H p = none) : p ∉ φ.all := Fi.nall (fun m => r.there m n) fun m => r.xt p m n
theorem HR.freshc (r : HR K φ H h) {p : Addr} (n : H p = none) : p ∉ φ.c := fun m => r.there m n
theorem upd_there {p a : Addr} {o : HO} (h : H a ≠ none) : upd H p o a ≠ none := by
  by_cases e : a = p
  · rw [e, upd_same]; exact fun z => nomatch z
  · rw [upd_ne e]; exact h
theorem HR.new (r : HR K φ H h) {p : Addr} {o : HO} (n : H p = none) : HR K φ (upd H p o) h :=
  r.keep (xs := φ.x) (Ev.new n).mv (fun a m => upd_ne fun e => r.there m (by rw [e]; exact n)) (fun a m => upd_there (r.xt a m)) r.dj
theorem HR.newc (r : HR K φ H h) {p : Addr} {o : HO} {ob : Ob} (n : H p = none) (q : ObR K (φ.add p) (upd H p o) p ob) : HR K (φ.add p) (upd H p o) (h ++ [ob]) := by
  refine ⟨by show (φ.c ++ [p]).length = _; rw [List.length_append, List.length_append, r.len]; rfl, ?_, fun i a u h1 h2 => ?_, fun a m => upd_there (r.xt a m), fun a m mx => ?_⟩
  · show (φ.c ++ [p]).Nodup
    rw [List.nodup_append]
    refine ⟨r.nd, List.nodup_cons.mpr ⟨by simp, List.nodup_nil⟩, fun a ha b hb => ?_⟩
    rw [List.mem_singleton.mp hb]
    exact fun e => r.freshc n (by rw [← e]; exact ha)
  · have h1 : (φ.c ++ [p])[i]? = some a := h1
    rcases Nat.lt_or_ge i φ.c.length with hl | hl
    · rw [List.getElem?_append_left hl] at h1
      rw [List.getElem?_append_left (by rw [← r.len]; exact hl)] at h2
      exact (r.ob i a u h1 h2).mov (Ev.newc n).mv (upd_ne fun e => r.freshc n (by rw [← e]; exact List.mem_of_getElem? h1))
    · rw [List.getElem?_append_right hl] at h1
      rw [List.getElem?_append_right (by rw [← r.len]; exact hl)] at h2
      have e0 : i - φ.c.length = 0 := by
        rcases Nat.eq_zero_or_pos (i - φ.c.length) with z | z
        · exact z
        · rw [List.getElem?_eq_none (by simp; omega)] at h1; cases h1
      rw [e0] at h1
      rw [← r.len, e0] at h2
      simp at h1 h2
      subst h1 h2
      exact q
  · rcases List.mem_append.mp (show a ∈ φ.c ++ [p] from m) with m | m
    · exact r.dj a m mx
    · rw [List.mem_singleton.mp m] at mx
      exact r.xt p mx n
theorem HR.last (r : HR K φ H h) {p : Addr} : (φ.add p).c[h.length]? = some p := by
  show (φ.c ++ [p])[h.length]? = some p
  rw [← r.len]; simp
theorem HR.write (r : HR K φ H h) {i : Nat} {p : Addr} {o : HO} {ob : Ob} (hi : φ.c[i]? = some p) (q : ObR K φ (upd H p o) p ob) : HR K φ (upd H p o) (h.set i ob) := by
  refine ⟨by rw [List.length_set]; exact r.len, r.nd, fun j a u h1 h2 => ?_, fun a m => upd_there (r.xt a m), r.dj⟩
  have mp : p ∈ φ.c := List.mem_of_getElem? hi
  have hlt : ∀ {k : Nat} {b : Addr}, φ.c[k]? = some b → k < φ.c.length := fun {k b} hk => by
    rcases Nat.lt_or_ge k φ.c.length with z | z
    · exact z
    · rw [List.getElem?_eq_none z] at hk; cases hk
  by_cases e : i = j
  · subst e
    rw [hi] at h1; cases h1
    rw [List.getElem?_set_self (by rw [← r.len]; exact hlt hi)] at h2
    cases h2
    exact q
  · rw [List.getElem?_set_ne e] at h2
    refine (r.ob j a u h1 h2).mov (Ev.write mp).mv (upd_ne fun z => e ?_)
    subst z
    exact ((List.getElem?_inj (hlt hi) r.nd).mp (by rw [hi, h1]))
end

/-! ### transformers over data, as readings -/
abbrev WE := Env → DH → (D → DH → Prop) → Prop
abbrev WA := Env → DH → (List D → DH → Prop) → Prop
abbrev WT := Env → DH → (Bool → DH → Prop) → Prop
/-- what follows an expression -/
def Cont (K : Gx) (φ : Fi) (H : Hp) (QD : D → DH → Prop) (Q : VK) : Prop :=
  ∀ φ' H' h' d v, Ev φ H φ' H' → HR K φ' H' h' → Rep K φ' H' v d → QD d h' → Q v H'
def ContA (K : Gx) (φ : Fi) (H : Hp) (QD : List D → DH → Prop) (Q : List V → Hp → Prop) : Prop :=
  ∀ φ' H' h' ds vs, Ev φ H φ' H' → HR K φ' H' h' → Reps K φ' H' vs ds → QD ds h' → Q vs H'
def ContT (K : Gx) (φ : Fi) (H : Hp) (QD : Bool → DH → Prop) (Q : Bool → Hp → Prop) : Prop :=
  ∀ φ' H' h' b, Ev φ H φ' H' → HR K φ' H' h' → QD b h' → Q b H'
def emb (K : Gx) (w : WE) : TE := fun σ H Q => ∃ φ env h QD, HR K φ H h ∧ EnvR K φ H env σ ∧ w env h QD ∧ Cont K φ H QD Q
def embA (K : Gx) (w : WA) : TA := fun σ H Q => ∃ φ env h QD, HR K φ H h ∧ EnvR K φ H env σ ∧ w env h QD ∧ ContA K φ H QD Q
def embT (K : Gx) (w : WT) : TT := fun σ H Q => ∃ φ env h QD, HR K φ H h ∧ EnvR K φ H env σ ∧ w env h QD ∧ ContT K φ H QD Q
section
variable {K : Gx} {φ φ' : Fi} {H H' : Hp} {h : DH}
theorem Cont.later {QD : D → DH → Prop} {Q : VK} (c : Cont K φ H QD Q) (e : Ev φ H φ' H') : Cont K φ' H' QD Q := fun _ _ _ _ _ e' r q hq => c _ _ _ _ _ (e.trans e') r q hq
theorem ContA.later {QD : List D → DH → Prop} {Q : List V → Hp → Prop} (c : ContA K φ H QD Q) (e : Ev φ H φ' H') : ContA K φ' H' QD Q := fun _ _ _ _ _ e' r q hq => c _ _ _ _ _ (e.trans e') r q hq
theorem ContT.later {QD : Bool → DH → Prop} {Q : Bool → Hp → Prop} (c : ContT K φ H QD Q) (e : Ev φ H φ' H') : ContT K φ' H' QD Q := fun _ _ _ _ e' r hq => c _ _ _ _ (e.trans e') r hq
theorem Cont.now {QD : D → DH → Prop} {Q : VK} (c : Cont K φ H QD Q) (r : HR K φ H h) {d : D} {v : V} (q : Rep K φ H v d) (hq : QD d h) : Q v H := c _ _ _ _ _ .refl r q hq
end
theorem imPE {X : Cx} {e : Expr} {t t' : TE} (p : PE X e t) (h : ∀ σ H Q, t' σ H Q → t σ H Q) : PE X e t' := ⟨fun pins s σ H Q I hw => p.run pins s σ H Q I (h σ H Q hw)⟩
theorem imPT {X : Cx} {e : Expr} {t t' : TT} (p : PT X e t) (h : ∀ σ H Q, t' σ H Q → t σ H Q) : PT X e t' := ⟨fun pins s σ H Q I hw => p.run pins s σ H Q I (h σ H Q hw)⟩
theorem imPA {X : Cx} {e : List Expr} {t t' : TA} (p : PA X e t) (h : ∀ σ H Q, t' σ H Q → t σ H Q) : PA X e t' := ⟨fun pos pins s σ H Q I hw => p.run pos pins s σ H Q I (h σ H Q hw)⟩
theorem imPS {X : Cx} {e : Stmt} {t t' : TS} (p : PS X e t) (h : ∀ D σ H, t' D σ H → t D σ H) : PS X e t' := ⟨fun pins s σ H D I hw => p.run pins s σ H D I (h D σ H hw)⟩
theorem imPSs {X : Cx} {e : List Stmt} {t t' : TS} (p : PSs X e t) (h : ∀ D σ H, t' D σ H → t D σ H) : PSs X e t' := ⟨fun pins s σ H D I hw => p.run pins s σ H D I (h D σ H hw)⟩
end Pd

/-! Pd, part B: tuples as known objects; the rules that make them. -/
namespace Pd
open PySem PySem.Spec PyProof.Rows L2
section
variable {X : Cx}
/-- new tuples, told with their object -/
abbrev TupK (H : Hp) (vs : List V) (Q : V → Hp → Prop) : Prop := ∀ (p : Addr) (its : List Value), H p = none → Q (.ref p) (upd H p (.frz (tupO its) (.tup vs)))
theorem laidT {pins : List (Addr × Obj)} {σ : L2.St} {H : Hp} {s : Shared} {h' : Heap} {t' : Nat} {vs : List V} {us : List Value} {Q : VK} (I : Inv X pins σ H { s with heap := h' }) (r : Vals vs us) (hz : vs.length ≤ sizeLine) (q : TupK H vs Q) :
    EP X pins σ Q (.ref h'.objs.size) { s with heap := h'.push { cls := .type "tuple", data := .seq us.toArray }, toks := t' } := by
  refine ⟨.ref h'.objs.size, _, I.laid (t' := t') (o := .frz (tupO us) (.tup vs)) (fun b ob q => Heap.get?_push_of_some _ q) (Nat.le_refl _) ?_, rfl, q _ us (I.hok.fresh (Nat.le_refl _))⟩
  exact ⟨Heap.get?_push_size _ rfl, hz, us, r, IsTup.new _ _⟩
def tTupF (t : TA) : TE := fun σ H Q => t σ H fun xs H1 => xs.length ≤ sizeLine ∧ TupK H1 xs Q
theorem pe_tupF {es : List Expr} {t : TA} {pos : Pos} {x1} (h : PA X es t) : PE X (.Tuple es x1 pos) (tTupF t) := by
  refine ⟨fun pins s σ H Q I hq => ?_⟩
  refine wpAny_Tuple_spliced (thn (h.run pos pins s σ H _ I hq) fun us s1 ⟨xs, H1, I1, r, z, q⟩ => ⟨by rw [← r.length]; exact z, ?_⟩)
  exact laidT (h' := s1.heap) (t' := s1.toks) I1 r z q
def rSlF (K : PySem.W.Frag) : V → Option Int → Option Int → Hp → VK → Prop := fun x lo hi H Q => ∃ a xs, x = .ref a ∧ SqT K H a xs ∧
  (HT.sIx xs.length 0 lo = 0 ∧ HT.sIx xs.length xs.length hi = xs.length → Q (.ref a) H) ∧ (¬ (HT.sIx xs.length 0 lo = 0 ∧ HT.sIx xs.length xs.length hi = xs.length) → TupK H (cutV xs lo hi) Q)
theorem sl_tupF : SlR X (rSlF X.K) := by
  intro pins s σ H x v vl vu lo hi sl Q I rx hs pl pu h
  obtain ⟨a, xs, rfl, hx, q1, q2⟩ := h
  cases rx
  obtain ⟨its, r, ht, hz⟩ := I.tuple hx
  have hlen : its.toArray.size = xs.length := by rw [List.size_toArray]; exact r.length.symm
  refine ⟨"tuple", _, PyProof.Rows.slot_tuple_getitem.lookup, ht.typeIs, ?_⟩
  by_cases hw : HT.sIx xs.length 0 lo = 0 ∧ HT.sIx xs.length xs.length hi = xs.length
  · exact getItem_tuple_whole ht hs pl pu (by rw [hlen]; exact hw) ⟨.ref a, H, I, rfl, q1 hw⟩
  · refine HT.getItem_tuple_cut ht hs pl pu (by rw [hlen]; exact hw) ?_ (by rw [hlen]; exact hz)
    rw [hlen]
    exact laidT (h' := s.heap) (t' := s.toks) I ((r.drop (HT.sIx xs.length 0 lo)).take (HT.sIx xs.length xs.length hi - HT.sIx xs.length 0 lo)) (Nat.le_trans (cutV_length xs lo hi) hz) (q2 hw)
def rCatF (K : PySem.W.Frag) : R2 := fun x y H Q => ∃ a b xs ys, x = .ref a ∧ y = .ref b ∧ SqT K H a xs ∧ SqT K H b ys ∧ xs.length + ys.length ≤ sizeLine ∧
  (xs = [] → Q (.ref b) H) ∧ (xs ≠ [] → ys = [] → Q (.ref a) H) ∧ (xs ≠ [] → ys ≠ [] → TupK H (xs ++ ys) Q)
theorem op_catF : OpR X (binaryOp .Add) (rCatF X.K) := by
  intro pins s σ H x y v u Q I rx ry h
  obtain ⟨a, b, xs, ys, rfl, rfl, ha, hb, hz, q0, q1, q2⟩ := h
  cases rx
  cases ry
  obtain ⟨its, r1, p1, _⟩ := I.tuple ha
  obtain ⟨its2, r2, p2, _⟩ := I.tuple hb
  by_cases hx : xs = []
  · subst hx
    cases r1
    exact cat_tup0 p1 p2 ⟨.ref b, H, I, rfl, q0 rfl⟩
  · refine HT.cat_tup p1 p2 (fun z => hx (r1.nil_iff.mp z)) (fun z => ⟨.ref a, H, I, rfl, q1 hx (r2.nil_iff.mp z)⟩) (fun z => ?_) (by rw [← r1.length, ← r2.length]; exact hz)
    exact laidT (h' := s.heap) (t' := s.toks) I (r1.append r2) (by rw [List.length_append]; exact hz) (q2 hx (fun w => z (r2.nil_iff.mpr w)))
/-- tuple(x) of a list: a new tuple; of a tuple: itself -/
def kTupF (K : PySem.W.Frag) (x : V) (H : Hp) (Q : VK) : Prop :=
  (∃ p xs, x = .ref p ∧ SqL K H p xs ∧ TupK H xs Q) ∨ (∃ p xs, x = .ref p ∧ SqT K H p xs ∧ Q (.ref p) H)
theorem call_tupF : CallR X (.type "tuple") (fun xs H Q => ∃ x, xs = [x] ∧ kTupF X.K x H Q) := by
  intro pins s σ H vs us Q I r h
  obtain ⟨x, rfl, h⟩ := h
  obtain ⟨v, rfl, rx⟩ := vals1 r
  rcases h with ⟨p, xs, rfl, hs, q⟩ | ⟨p, xs, rfl, hs, q⟩
  · obtain rfl : v = .ref p := rx
    obtain ⟨its, rv, pl, hz⟩ := I.list hs
    refine call_tuple_list pl.isList (fun h' hk => ?_) (by rw [List.size_toArray, ← rv.length]; exact hz)
    have I1 : Inv X pins σ H { s with heap := h' } := I.kept (t' := s.toks) hk
    exact laidT (h' := h') (t' := s.toks) I1 rv hz q
  · obtain rfl : v = .ref p := rx
    obtain ⟨its, rv, pl, hz⟩ := I.tuple hs
    exact call_tuple_tup pl ⟨.ref p, H, I, rfl, q⟩
def tTupRgF (te : L2.St → Hp → (Int → Int → Hp → Prop) → Prop) : TE := fun σ H Q => te σ H fun a b H1 => RgOk a b ∧ TupK H1 (rgV a b) Q
theorem pe_tupRgF {e : Expr} {te : L2.St → Hp → (Int → Int → Hp → Prop) → Prop} {p pos : Pos} (hc : X.calm = true) (hg : Gl X "tuple") (hm : X.mg "tuple" = none) (he : PRg X e te) (na : starEach [e] X.env = (false, eval e X.env) :: starEach [] X.env) : PE X (.Call (.Name "tuple" p) [e] [] pos) (tTupRgF te) := by
  refine ⟨fun pins s σ H Q I h => ?_⟩
  refine Call_ (ld_blt I hg hm boot_tuple (PyProof.Rows.callWith_type1 (args_cons (thn (he pins s σ H _ I h) fun x s1 ⟨r, a, b, t, u, v, H1, ex, hr, I1, ok, q⟩ => args_nil ?_) na) na))
  subst ex
  obtain ⟨b1, b2, b3, b4, b5⟩ := ok
  refine call_tuple_range (n := (b - a).toNat) (I1.ok.hd hc) hr (small_one b1 b2 b3 b4) (rangeSize_nat a b) b5 fun h' tk acc hk hi => ?_
  have I2 : Inv X pins σ H1 { s1 with heap := h', toks := tk } := I1.kept hk
  have z := laidT (Q := Q) (s := { s1 with toks := tk }) (h' := h') (t' := tk) I2 (vals_rg hi) (by rw [rgV_length, sizeLine_eq]; omega) q
  rw [Array.toArray_toList] at z
  exact z
end
end Pd

/-! Pd, part C: operations over data, and that the layer's readings follow from them. -/
namespace Pd
open PySem PySem.Spec PyProof.Rows L2

/-! ### sequences -/
def Ob.ls : Ob → Option (List D)
  | .lst xs => some xs
  | .dic _ => none
def lsD : D → DH → Option (List D)
  | .lst xs, _ => some xs
  | .ref i, h => (h[i]?).bind Ob.ls
  | _, _ => none
def sqD : D → DH → Option (List D)
  | .tup xs, _ => some xs
  | d, h => lsD d h
/-- a new list: as a cell, or as a value -/
def mkL (m : Bool) (xs : List D) (h : DH) (Q : D → DH → Prop) : Prop := if m = true then Q (.ref h.length) (h ++ [.lst xs]) else Q (.lst xs) h
theorem mkL_f {xs : List D} {h : DH} {Q : D → DH → Prop} : mkL false xs h Q = Q (.lst xs) h := rfl
theorem mkL_t {xs : List D} {h : DH} {Q : D → DH → Prop} : mkL true xs h Q = Q (.ref h.length) (h ++ [.lst xs]) := rfl
section
variable {K : Gx} {φ : Fi} {H : Hp} {h : DH}
theorem HR.at (r : HR K φ H h) {i : Nat} {o : Ob} (e : h[i]? = some o) : ∃ a, φ.c[i]? = some a ∧ ObR K φ H a o := by
  have hl : i < φ.c.length := by
    rw [r.len]
    rcases Nat.lt_or_ge i h.length with q | q
    · exact q
    · rw [List.getElem?_eq_none q] at e; cases e
  exact ⟨φ.c[i], List.getElem?_eq_getElem hl, r.ob i _ o (List.getElem?_eq_getElem hl) e⟩
theorem ls_ok (r : HR K φ H h) {d : D} {v : V} {xs : List D} (q : Rep K φ H v d) (e : lsD d h = some xs) : ∃ a vs, v = .ref a ∧ H a = some (.lst vs) ∧ Reps K φ H vs xs := by
  cases q with
  | lst n ha rs => cases e; exact ⟨_, _, rfl, ha, rs⟩
  | @ref i a hi =>
    have e' : (h[i]?).bind Ob.ls = some xs := e
    cases he : h[i]? with
    | none => rw [he] at e'; cases e'
    | some o =>
      rw [he] at e'
      cases o with
      | dic kvs => cases e'
      | lst ys =>
        cases e'
        obtain ⟨a', ha', vs, h1, h2⟩ := r.at he
        rw [hi] at ha'; cases ha'
        exact ⟨_, vs, rfl, h1, h2⟩
  | _ => cases e
theorem tp_ok {v : V} {xs : List D} (q : Rep K φ H v (.tup xs)) : ∃ a vs, v = .ref a ∧ SqT K.K H a vs ∧ Reps K φ H vs xs := by
  cases q with
  | tup n ha rs => exact ⟨_, _, rfl, .inl (.inr ⟨_, ha⟩), rs⟩
theorem sq_ok (r : HR K φ H h) {d : D} {v : V} {xs : List D} (q : Rep K φ H v d) (e : sqD d h = some xs) : ∃ a vs, v = .ref a ∧ (SqL K.K H a vs ∨ SqT K.K H a vs) ∧ Reps K φ H vs xs := by
  cases d with
  | tup ys =>
    cases e
    obtain ⟨a, vs, e1, e2, e3⟩ := tp_ok q
    exact ⟨a, vs, e1, .inr e2, e3⟩
  | _ =>
    obtain ⟨a, vs, e1, e2, e3⟩ := ls_ok r q e
    exact ⟨a, vs, e1, .inl (.of e2), e3⟩
theorem new_list (r : HR K φ H h) {QD : D → DH → Prop} {Q : VK} (c : Cont K φ H QD Q) {vs : List V} {xs : List D} (rv : Reps K φ H vs xs) {m : Bool} (q : mkL m xs h QD) : ∀ p, H p = none → Q (.ref p) (upd H p (.lst vs)) := by
  intro p n
  cases m with
  | true => exact c _ _ _ _ _ (Ev.newc n) (r.newc (ob := .lst xs) n ⟨vs, upd_same, rv.mono (Ev.newc n)⟩) (.ref r.last) q
  | false => exact c _ _ _ _ _ (Ev.new n) (r.new n) (.lst (r.fresh n) upd_same (rv.mono (Ev.new n))) q
theorem new_tup (r : HR K φ H h) {QD : D → DH → Prop} {Q : VK} (c : Cont K φ H QD Q) {vs : List V} {xs : List D} (rv : Reps K φ H vs xs) (q : QD (.tup xs) h) : TupK H vs Q := by
  intro p its n
  exact c _ _ _ _ _ (Ev.new n) (r.new n) (.tup (r.fresh n) upd_same (rv.mono (Ev.new n))) q
end

/-! ### data compared -/
mutual
def D.py : D → PyData
  | .non => .none
  | .bl b => .bool b
  | .int i => .int i
  | .str x => .str x
  | .tup xs => .tuple (D.pys xs)
  | .lst xs => .list (D.pys xs)
  | .ref _ => .dict []
  | .scr _ => .dict []
def D.pys : List D → List PyData
  | [] => []
  | x :: xs => x.py :: D.pys xs
end
theorem pys_map : ∀ xs : List D, D.pys xs = xs.map D.py
  | [] => rfl
  | x :: xs => by unfold D.pys; rw [pys_map xs]; rfl
/-- a cell's list read -/
def rsv : D → DH → D
  | .ref i, h => match (h[i]?).bind Ob.ls with
    | some xs => .lst xs
    | none => .ref i
  | d, _ => d
def okD (d : D) : Prop := SeqAt.shaped d.py = true
section
variable {K : Gx} {φ : Fi} {H : Hp} {h : DH}
mutual
theorem Rep.dp : ∀ {d : D} {v : V}, Rep K φ H v d → d.py.canLay0 = true → Dp K.K H v d.py
  | .non, _, .non, _ => .non
  | .bl _, _, .bl b, _ => .bl b
  | .int _, _, .int i, _ => .int i
  | .str _, _, .str x, _ => .str x
  | .tup ds, _, .tup _ ha rs, c => by
    unfold D.py
    exact .tup (.inl (.inr ⟨_, ha⟩)) (Reps.dp rs (by simpa [D.py, PyData.canLay0] using c))
  | .lst ds, _, .lst _ ha rs, c => by
    unfold D.py
    exact .lst (.of ha) (Reps.dp rs (by simpa [D.py, PyData.canLay0] using c))
  | .ref _, _, _, c => by simp [D.py, PyData.canLay0] at c
  | .scr _, _, _, c => by simp [D.py, PyData.canLay0] at c
theorem Reps.dp : ∀ {ds : List D} {vs : List V}, Reps K φ H vs ds → PyData.canLayAll0 (D.pys ds) = true → DpAll K.K H vs (D.pys ds)
  | [], _, .nil, _ => .nil
  | d :: ds, _, .cons r t, c => by
    have c' : d.py.canLay0 = true ∧ PyData.canLayAll0 (D.pys ds) = true := by simpa [D.pys, PyData.canLayAll0] using c
    unfold D.pys
    exact .cons (Rep.dp r c'.1) (Reps.dp t c'.2)
end
theorem dp_of (r : HR K φ H h) {d : D} {v : V} (q : Rep K φ H v d) (e : okD (rsv d h)) : Dp K.K H v (rsv d h).py := by
  have c := SeqAt.canLay_of_shaped e
  cases d with
  | ref i =>
    cases he : (h[i]?).bind Ob.ls with
    | none =>
      have e1 : rsv (.ref i) h = .ref i := by unfold rsv; dsimp only; rw [he]
      rw [e1] at c
      simp [D.py, PyData.canLay0] at c
    | some xs =>
      have e1 : rsv (.ref i) h = .lst xs := by unfold rsv; dsimp only; rw [he]
      rw [e1] at c ⊢
      obtain ⟨a, vs, rfl, ha, rs⟩ := ls_ok r (d := .ref i) (xs := xs) q he
      unfold D.py
      exact .lst (.of ha) (Reps.dp rs (by simpa [D.py, PyData.canLay0] using c))
  | _ => exact Rep.dp q c
end

/-! ### lifts -/
abbrev R2D := D → D → DH → (D → DH → Prop) → Prop
abbrev RCD := List D → DH → (D → DH → Prop) → Prop
def Lift2 (K : Gx) (rD : R2D) (r : R2) : Prop := ∀ φ H h x y v w QD QV, HR K φ H h → Rep K φ H v x → Rep K φ H w y → rD x y h QD → Cont K φ H QD QV → r v w H QV
def LiftC (K : Gx) (rD : RCD) (r : List V → Hp → VK → Prop) : Prop := ∀ φ H h ds vs QD QV, HR K φ H h → Reps K φ H vs ds → rD ds h QD → Cont K φ H QD QV → r vs H QV
def LiftM (K : Gx) (rD : D → RCD) (r : V → List V → Hp → VK → Prop) : Prop := ∀ φ H h x v ds vs QD QV, HR K φ H h → Rep K φ H v x → Reps K φ H vs ds → rD x ds h QD → Cont K φ H QD QV → r v vs H QV
def LiftS (K : Gx) (rD : D → Option Int → Option Int → DH → (D → DH → Prop) → Prop) (r : V → Option Int → Option Int → Hp → VK → Prop) : Prop :=
  ∀ φ H h x v lo hi QD QV, HR K φ H h → Rep K φ H v x → rD x lo hi h QD → Cont K φ H QD QV → r v lo hi H QV

def w2 (rD : R2D) (wa wb : WE) : WE := fun env h Q => wa env h fun x h1 => wb env h1 fun y h2 => rD x y h2 Q
section
variable {K : Gx} {X : Cx} {a b : Expr} {pos : Pos}
theorem lift_tOp {rD : R2D} {r : R2} (L : Lift2 K rD r) {wa wb : WE} {σ : L2.St} {H : Hp} {Q : VK} (q : emb K (w2 rD wa wb) σ H Q) : tOp r (emb K wa) (emb K wb) σ H Q := by
  obtain ⟨φ, env, h, QD, hr, he, hw, c⟩ := q
  refine ⟨φ, env, h, _, hr, he, hw, fun φ1 H1 h1 x v e1 r1 q1 p1 => ?_⟩
  refine ⟨φ1, env, h1, _, r1, he.mono e1, p1, fun φ2 H2 h2 y w e2 r2 q2 p2 => ?_⟩
  exact L φ2 H2 h2 x y v w QD Q r2 (q1.mono e2) q2 p2 (c.later (e1.trans e2))
theorem pd_bin {op : Operator} {rD : R2D} {r : R2} (ho : OpR X (binaryOp op) r) (L : Lift2 (gx X) rD r) {wa wb : WE} (ha : PE X a (emb (gx X) wa)) (hb : PE X b (emb (gx X) wb)) : PE X (.BinOp a op b pos) (emb (gx X) (w2 rD wa wb)) :=
  imPE (pe_op ho ha hb) fun _ _ _ q => lift_tOp L q
theorem pd_cmp {op : CmpOp} {rD : R2D} {r : R2} (ho : OpR X (compareOp op) r) (L : Lift2 (gx X) rD r) {wa wb : WE} (ha : PE X a (emb (gx X) wa)) (hb : PE X b (emb (gx X) wb)) (hm : behindInMarks op b = false) : PE X (.Compare a [op] [b] pos) (emb (gx X) (w2 rD wa wb)) :=
  imPE (pe_cmpR ho ha hb hm) fun _ _ _ q => lift_tOp L q
/-- a value that is a bool as a test -/
def wTest (w : WE) : WT := fun env h Q => w env h fun d h' => ∃ b, d = .bl b ∧ Q b h'
theorem lift_test {t : TE} {w : WE} (q : ∀ σ H Q, emb K w σ H Q → t σ H Q) {σ : L2.St} {H : Hp} {Q : Bool → Hp → Prop} (h : embT K (wTest w) σ H Q) : tTest t σ H Q := by
  obtain ⟨φ, env, h, QD, hr, he, hw, c⟩ := h
  refine q σ H _ ⟨φ, env, h, _, hr, he, hw, fun φ1 H1 h1 x v e1 r1 q1 p1 => ?_⟩
  obtain ⟨b, rfl, p⟩ := p1
  cases q1
  exact ⟨b, rfl, c _ _ _ _ e1 r1 p⟩
theorem pd_cmpT {op : CmpOp} {rD : R2D} {r : R2} (ho : OpR X (compareOp op) r) (L : Lift2 (gx X) rD r) {wa wb : WE} (ha : PE X a (emb (gx X) wa)) (hb : PE X b (emb (gx X) wb)) (hm : behindInMarks op b = false) : PT X (.Compare a [op] [b] pos) (embT (gx X) (wTest (w2 rD wa wb))) :=
  imPT (pt_cmpR ho ha hb hm) fun _ _ _ q => lift_test (fun _ _ _ z => lift_tOp L z) q
theorem pd_val {e : Expr} {w : WE} (h : PE X e (emb (gx X) w)) (he : ∀ whole, isTrue e X.env whole = (do let v ← whole; standAt e.pos; holding [v] (truthy v))) : PT X e (embT (gx X) (wTest w)) :=
  imPT (pt_val h he) fun _ _ _ q => lift_test (fun _ _ _ z => z) q
def w3 (rD rD' : R2D) (wa wb wc : WE) : WE := fun env h Q => wa env h fun x h1 => wb env h1 fun y h2 => rD x y h2 fun z h3 => ∃ k, z = .bl k ∧ if k = true then wc env h3 fun u h4 => rD' y u h4 Q else Q (.bl false) h3
end

/-! ### the binary operators -/
def rdAdd (m : Bool) : R2D := fun x y h Q => match x, y with
  | .int i, .int j => Q (.int (i + j)) h
  | .tup xs, .tup ys => xs.length + ys.length ≤ sizeLine ∧ Q (.tup (xs ++ ys)) h
  | .str a, .str b => a.length + b.length ≤ sizeLine ∧ Q (.str (a ++ b)) h
  | x, y => match lsD x h, lsD y h with
    | some xs, some ys => xs.length + ys.length ≤ sizeLine ∧ mkL m (xs ++ ys) h Q
    | _, _ => False
def rAddAll (K : Gx) : R2 := fun x y H Q => (rI0 fun i j => .int (i + j)) x y H Q ∨ rCatF K.K x y H Q ∨ (∃ i j, x = .str i ∧ y = .str j ∧ i.length + j.length ≤ sizeLine ∧ Q (.str (i ++ j)) H) ∨ rCat x y H Q
theorem op_addAll {X : Cx} : OpR X (binaryOp .Add) (rAddAll (gx X)) := op_add.or (op_catF.or (op_add_str.or op_cat))
section
variable {K : Gx}
theorem add_ls {φ : Fi} {H : Hp} {h : DH} {m : Bool} {x y : D} {v w : V} {QD : D → DH → Prop} {QV : VK} (r : HR K φ H h) (rx : Rep K φ H v x) (ry : Rep K φ H w y)
    (q : match lsD x h, lsD y h with
      | some xs, some ys => xs.length + ys.length ≤ sizeLine ∧ mkL m (xs ++ ys) h QD
      | _, _ => False) (c : Cont K φ H QD QV) : rAddAll K v w H QV := by
  split at q
  · rename_i xs ys e1 e2
    obtain ⟨a, vs, rfl, ha, rs⟩ := ls_ok r rx e1
    obtain ⟨b, ws, rfl, hb, rt⟩ := ls_ok r ry e2
    exact .inr (.inr (.inr ⟨a, b, vs, ws, rfl, rfl, ha, hb, by rw [rs.length, rt.length]; exact q.1, new_list r c (rs.append rt) q.2⟩))
  · exact q.elim
theorem lift_add (m : Bool) : Lift2 K (rdAdd m) (rAddAll K) := by
  intro φ H h x y v w QD QV r rx ry q c
  unfold rdAdd at q
  split at q
  · cases rx; cases ry
    exact .inl ⟨_, _, rfl, rfl, c.now r (.int _) q⟩
  · obtain ⟨a, vs, rfl, ha, rs⟩ := tp_ok rx
    obtain ⟨b, ws, rfl, hb, rt⟩ := tp_ok ry
    refine .inr (.inl ⟨a, b, vs, ws, rfl, rfl, ha, hb, by rw [rs.length, rt.length]; exact q.1, fun e => ?_, fun _ e => ?_, fun _ _ => new_tup r c (rs.append rt) q.2⟩)
    · subst e
      cases rs
      exact c.now r ry q.2
    · subst e
      cases rt
      have q2 := q.2
      rw [List.append_nil] at q2
      exact c.now r rx q2
  · cases rx; cases ry
    exact .inr (.inr (.inl ⟨_, _, rfl, rfl, q.1, c.now r (.str _) q.2⟩))
  · exact add_ls r rx ry q c
def rdI (C : Int → Int → Prop) (g : Int → Int → Int) : R2D := fun x y h Q => match x, y with
  | .int i, .int j => C i j ∧ Q (.int (g i j)) h
  | _, _ => False
theorem lift_I (C : Int → Int → Prop) (g : Int → Int → Int) : Lift2 K (rdI C g) (rI C fun i j => .int (g i j)) := by
  intro φ H h x y v w QD QV r rx ry q c
  unfold rdI at q
  split at q
  · cases rx; cases ry
    exact ⟨_, _, rfl, rfl, q.1, c.now r (.int _) q.2⟩
  · exact q.elim
def rdB (g : Int → Int → Bool) : R2D := fun x y h Q => match x, y with
  | .int i, .int j => Q (.bl (g i j)) h
  | _, _ => False
theorem lift_B (g : Int → Int → Bool) : Lift2 K (rdB g) (rI0 fun i j => .bl (g i j)) := by
  intro φ H h x y v w QD QV r rx ry q c
  unfold rdB at q
  split at q
  · cases rx; cases ry
    exact ⟨_, _, rfl, rfl, c.now r (.bl _) q⟩
  · exact q.elim
theorem op_sub' {X : Cx} : OpR X (binaryOp .Sub) (rI (fun _ _ => True) fun i j => .int (i - j)) := fun pins s σ H x y v u Q I rx ry ⟨i, j, e1, e2, _, q⟩ => op_sub pins s σ H x y v u Q I rx ry ⟨i, j, e1, e2, q⟩
def rdMul (m : Bool) : R2D := fun x y h Q => match x, y with
  | .int i, .int j => CMul i j ∧ Q (.int (i * j)) h
  | x, .int k => match lsD x h with
    | some xs => -(2 ^ 63) ≤ k ∧ k < 2 ^ 63 ∧ xs.length * k.toNat ≤ sizeLine ∧ mkL m (List.replicate k.toNat xs).flatten h Q
    | none => False
  | _, _ => False
def rMulAll : R2 := fun x y H Q => (rI CMul fun i j => .int (i * j)) x y H Q ∨ rRep x y H Q
theorem op_mulAll {X : Cx} : OpR X (binaryOp .Mult) rMulAll := op_mul.or op_rep
theorem lift_mul (m : Bool) : Lift2 K (rdMul m) rMulAll := by
  intro φ H h x y v w QD QV r rx ry q c
  unfold rdMul at q
  split at q
  · cases rx; cases ry
    exact .inl ⟨_, _, rfl, rfl, q.1, c.now r (.int _) q.2⟩
  · cases ry
    split at q
    · rename_i xs e
      obtain ⟨a, vs, rfl, ha, rs⟩ := ls_ok r rx e
      exact .inr ⟨a, _, vs, rfl, rfl, ha, q.1, q.2.1, by rw [rs.length]; exact q.2.2.1, new_list r c (rs.rep _) q.2.2.2⟩
    · exact q.elim
  · exact q.elim
/-! ### comparisons -/
def rdEq (neg : Bool) : R2D := fun x y h Q => okD (rsv x h) ∧ okD (rsv y h) ∧ Q (.bl (if neg = true then !PyData.eqv (rsv x h).py (rsv y h).py else PyData.eqv (rsv x h).py (rsv y h).py)) h
theorem lift_eq : Lift2 K (rdEq false) (rEqD K.K) := by
  intro φ H h x y v w QD QV r rx ry q c
  exact ⟨_, _, dp_of r rx q.1, dp_of r ry q.2.1, q.1, q.2.1, c.now r (.bl _) q.2.2⟩
theorem lift_ne : Lift2 K (rdEq true) (rNeD K.K) := by
  intro φ H h x y v w QD QV r rx ry q c
  exact ⟨_, _, dp_of r rx q.1, dp_of r ry q.2.1, q.1, q.2.1, c.now r (.bl _) q.2.2⟩
def rdNone (neg : Bool) : R2D := fun x y h Q => match y with
  | .non => Q (.bl (match x with
    | .non => !neg
    | _ => neg)) h
  | _ => False
theorem rep_non {φ : Fi} {H : Hp} {v : V} {x : D} (r : Rep K φ H v x) : decide (v = .non) = (match x with
    | .non => true
    | _ => false) := by
  cases r <;> rfl
theorem lift_isN : Lift2 K (rdNone false) (fun x y H Q => y = .non ∧ Q (.bl (decide (x = .non))) H) := by
  intro φ H h x y v w QD QV r rx ry q c
  unfold rdNone at q
  split at q
  · cases ry
    refine ⟨rfl, ?_⟩
    rw [rep_non rx]
    refine c.now r ?_ q
    cases x <;> exact .bl _
  · exact q.elim
theorem lift_notN : Lift2 K (rdNone true) (fun x y H Q => y = .non ∧ Q (.bl (!decide (x = .non))) H) := by
  intro φ H h x y v w QD QV r rx ry q c
  unfold rdNone at q
  split at q
  · cases ry
    refine ⟨rfl, ?_⟩
    rw [rep_non rx]
    refine c.now r ?_ q
    cases x <;> exact .bl _
  · exact q.elim
end
end Pd

/-! Pd, part D: dicts by tuples of ints; subscripts, slices, membership. -/
namespace Pd
open PySem PySem.Spec PyProof.Rows L2

/-! ### dicts -/
def dlook (kvs : List (List Int × D)) (k : List Int) : Option D := (kvs.find? fun kv => decide (kv.1 = k)).map (·.2)
def dput (kvs : List (List Int × D)) (k : List Int) (d : D) : List (List Int × D) :=
  if (dlook kvs k).isSome then kvs.map fun kv => if kv.1 = k then (kv.1, d) else kv else kvs ++ [(k, d)]
def intsD : List D → Option (List Int)
  | [] => some []
  | .int i :: r => (intsD r).map (i :: ·)
  | _ :: _ => none
theorem intsD_some : ∀ {ds : List D} {ns : List Int}, intsD ds = some ns → ds = ns.map D.int
  | [], _, e => by cases e; rfl
  | .int i :: r, ns, e => by
    cases q : intsD r with
    | none => unfold intsD at e; rw [q] at e; cases e
    | some ms =>
      unfold intsD at e; rw [q] at e; cases e
      rw [intsD_some q]; rfl
  | .non :: _, _, e => by cases e
  | .bl _ :: _, _, e => by cases e
  | .str _ :: _, _, e => by cases e
  | .tup _ :: _, _, e => by cases e
  | .lst _ :: _, _, e => by cases e
  | .ref _ :: _, _, e => by cases e
  | .scr _ :: _, _, e => by cases e
theorem intsD_map : ∀ ns : List Int, intsD (ns.map D.int) = some ns
  | [] => rfl
  | n :: r => by show (intsD (r.map D.int)).map (n :: ·) = _; rw [intsD_map r]; rfl
def keyD : D → Option (List Int)
  | .tup xs => intsD xs
  | _ => none
def Ob.dc : Ob → Option (List (List Int × D))
  | .dic kvs => some kvs
  | .lst _ => none
def dcD : D → DH → Option (List (List Int × D))
  | .ref i, h => (h[i]?).bind Ob.dc
  | _, _ => none
abbrev Inj (k : List Int) : List Key := k.map Sum.inl
theorem Inj.eq {a b : List Int} (e : Inj a = Inj b) : a = b := by
  induction a generalizing b with
  | nil => cases b with
    | nil => rfl
    | cons y r => simp [Inj] at e
  | cons x r ih => cases b with
    | nil => simp [Inj] at e
    | cons y s =>
      simp only [Inj, List.map_cons, List.cons.injEq, Sum.inl.injEq] at e
      rw [e.1, ih e.2]
theorem kV_Inj (k : List Int) : (Inj k).map kV = k.map V.int := by
  rw [List.map_map]; rfl
section
variable {K : Gx} {φ : Fi} {H : Hp} {h : DH}
theorem key_ok {v : V} {d : D} {k : List Int} (q : Rep K φ H v d) (e : keyD d = some k) : ∃ b its, v = .ref b ∧ b ∉ φ.all ∧ H b = some (.frz (tupO its) (.tup ((Inj k).map kV))) := by
  cases q with
  | tup n ha rs =>
    have e2 := intsD_some (show intsD _ = some k from e)
    subst e2
    rw [Reps.toInts k rs] at ha
    exact ⟨_, _, rfl, n, by rw [kV_Inj]; exact ha⟩
  | _ => cases e
theorem dc_ok (r : HR K φ H h) {d : D} {v : V} {kvs : List (List Int × D)} (q : Rep K φ H v d) (e : dcD d h = some kvs) : ∃ a i, v = .ref a ∧ d = .ref i ∧ φ.c[i]? = some a ∧ h[i]? = some (.dic kvs) ∧ ObR K φ H a (.dic kvs) := by
  cases q with
  | @ref i a hi =>
    have e' : (h[i]?).bind Ob.dc = some kvs := e
    cases he : h[i]? with
    | none => rw [he] at e'; cases e'
    | some o =>
      rw [he] at e'
      cases o with
      | lst ys => cases e'
      | dic ys =>
        cases e'
        obtain ⟨a', ha', ob⟩ := r.at he
        rw [hi] at ha'; cases ha'
        exact ⟨_, i, rfl, rfl, hi, he, ob⟩
  | _ => cases e
theorem dlook_cons (p : List Int × D) (r : List (List Int × D)) (k : List Int) : dlook (p :: r) k = if p.1 = k then some p.2 else dlook r k := by
  unfold dlook
  by_cases e : p.1 = k
  · rw [if_pos e, List.find?_cons, decide_eq_true e]; rfl
  · rw [if_neg e, List.find?_cons, decide_eq_false e]
theorem atKey_cons {x : List Key × Addr × Value} {xs : List (List Key × Addr × Value)} {k : List Key} : atKey (x :: xs) k = if x.1 = k then some x.2 else atKey xs k := by
  unfold atKey
  by_cases e : x.1 = k
  · rw [if_pos e, List.find?_cons, decide_eq_true e]; rfl
  · rw [if_neg e, List.find?_cons, decide_eq_false e]
/-- the entries and the data, side by side -/
inductive DRel (K : Gx) (φ : Fi) (H : Hp) : List (List Key × Addr × Value) → List (List Int × D) → Prop
  | nil : DRel K φ H [] []
  | cons {k : List Int} {b : Addr} {u : Value} {v : V} {d : D} {xs : List (List Key × Addr × Value)} {kvs : List (List Int × D)} {its : List Value} : b ∉ φ.all → H b = some (.frz (tupO its) (.tup ((Inj k).map kV))) → RelV v u → Rep K φ H v d →
      DRel K φ H xs kvs → DRel K φ H ((Inj k, b, u) :: xs) ((k, d) :: kvs)
theorem DRel.of : ∀ {xs : List (List Key × Addr × Value)} {kvs : List (List Int × D)} {ws : List V}, xs.map (·.1) = kvs.map (fun kv => kv.1.map Sum.inl) →
    (∀ x ∈ xs, x.2.1 ∉ φ.all ∧ ∃ its, H x.2.1 = some (.frz (tupO its) (.tup (x.1.map kV)))) → Vals ws (xs.map (·.2.2)) → Reps K φ H ws (kvs.map (·.2)) → DRel K φ H xs kvs
  | [], [], _, _, _, _, _ => .nil
  | [], _ :: _, _, e, _, _, _ => by simp at e
  | _ :: _, [], _, e, _, _, _ => by simp at e
  | (k', b, u) :: xs, (k, d) :: kvs, ws, e, hk, hv, hr => by
    simp only [List.map_cons, List.cons.injEq] at e
    obtain ⟨e1, e2⟩ := e
    subst e1
    rw [List.map_cons] at hv hr
    cases hv with
    | cons r1 r2 =>
      cases hr with
      | cons s1 s2 =>
        obtain ⟨n, its, hb⟩ := hk _ List.mem_cons_self
        exact .cons n hb r1 s1 (DRel.of e2 (fun x hx => hk x (List.mem_cons_of_mem _ hx)) r2 s2)
theorem DRel.to {xs : List (List Key × Addr × Value)} {kvs : List (List Int × D)} (r : DRel K φ H xs kvs) : xs.map (·.1) = kvs.map (fun kv => kv.1.map Sum.inl) ∧
    (∀ x ∈ xs, x.2.1 ∉ φ.all ∧ ∃ its, H x.2.1 = some (.frz (tupO its) (.tup (x.1.map kV)))) ∧ ∃ ws, Vals ws (xs.map (·.2.2)) ∧ Reps K φ H ws (kvs.map (·.2)) := by
  induction r with
  | nil => exact ⟨rfl, (fun x hx => by cases hx), [], .nil, .nil⟩
  | cons n hb rv rd t ih =>
    obtain ⟨h1, h2, ws, h3, h4⟩ := ih
    refine ⟨by rw [List.map_cons, List.map_cons, h1], fun x hx => ?_, _ :: ws, .cons rv h3, .cons rd h4⟩
    rcases List.mem_cons.mp hx with e | hx
    · subst e; exact ⟨n, _, hb⟩
    · exact h2 x hx
theorem DRel.len {xs : List (List Key × Addr × Value)} {kvs : List (List Int × D)} (r : DRel K φ H xs kvs) : xs.length = kvs.length := by
  induction r with
  | nil => rfl
  | cons _ _ _ _ _ ih => rw [List.length_cons, List.length_cons, ih]
theorem DRel.look {xs : List (List Key × Addr × Value)} {kvs : List (List Int × D)} (r : DRel K φ H xs kvs) (k : List Int) :
    (dlook kvs k = none ∧ atKey xs (Inj k) = none) ∨ ∃ d b u v, dlook kvs k = some d ∧ atKey xs (Inj k) = some (b, u) ∧ RelV v u ∧ Rep K φ H v d := by
  induction r with
  | nil => exact .inl ⟨rfl, rfl⟩
  | @cons k' b u v d xs kvs its n hb rv rd t ih =>
    rw [dlook_cons, atKey_cons]
    by_cases e : k' = k
    · subst e
      rw [if_pos rfl, if_pos rfl]
      exact .inr ⟨d, b, u, v, rfl, rfl, rv, rd⟩
    · rw [if_neg e, if_neg (fun z => e (Inj.eq z))]
      exact ih
theorem DRel.mono {φ' : Fi} {H' : Hp} (e : Ev φ H φ' H') {xs : List (List Key × Addr × Value)} {kvs : List (List Int × D)} (r : DRel K φ H xs kvs) : DRel K φ' H' xs kvs := by
  induction r with
  | nil => exact .nil
  | cons n hb rv rd t ih => exact .cons (e.notin hb n) (e.kpa hb n) rv (rd.mono e) ih
theorem DRel.put {xs : List (List Key × Addr × Value)} {kvs : List (List Int × D)} (r : DRel K φ H xs kvs) {k : List Int} {b : Addr} {its : List Value} {v : V} {u : Value} {d : D}
    (n : b ∉ φ.all) (hb : H b = some (.frz (tupO its) (.tup ((Inj k).map kV)))) (rv : RelV v u) (rd : Rep K φ H v d) : DRel K φ H (storedH xs (Inj k) b u) (dput kvs k d) := by
  have rep : ∀ {xs : List (List Key × Addr × Value)} {kvs : List (List Int × D)}, DRel K φ H xs kvs → DRel K φ H (xs.map (putAt (Inj k) u)) (kvs.map fun kv => if kv.1 = k then (kv.1, d) else kv) := by
    intro xs kvs r
    induction r with
    | nil => exact .nil
    | @cons k' b' u' v' d' xs kvs its n' hb' rv' rd' t ih =>
      rw [List.map_cons, List.map_cons]
      unfold putAt
      by_cases e : k' = k
      · subst e
        rw [if_pos rfl, if_pos rfl]
        exact .cons n' hb' rv rd ih
      · rw [if_neg e, if_neg (fun z => e (Inj.eq z))]
        exact .cons n' hb' rv' rd' ih
  have app : ∀ {xs : List (List Key × Addr × Value)} {kvs : List (List Int × D)}, DRel K φ H xs kvs → DRel K φ H (xs ++ [(Inj k, b, u)]) (kvs ++ [(k, d)]) := by
    intro xs kvs r
    induction r with
    | nil => exact .cons n hb rv rd .nil
    | cons n' hb' rv' rd' t ih => exact .cons n' hb' rv' rd' ih
  unfold storedH dput
  rcases r.look k with ⟨h1, h2⟩ | ⟨d', b', u', v', h1, h2, _⟩
  · rw [h1, h2]
    exact app r
  · rw [h1, h2]
    exact rep r
theorem dput_len (kvs : List (List Int × D)) (k : List Int) (d : D) : (dput kvs k d).length ≤ kvs.length + 1 := by
  unfold dput
  split
  · rw [List.length_map]; omega
  · rw [List.length_append]; exact Nat.le_refl _
theorem key_is {P : Program} {w : World} {h : Heap} {b : Addr} {its : List Value} {ks : List Key} (ok : HOk P w H h) (hb : H b = some (.frz (tupO its) (.tup (ks.map kV)))) : (tupleKind (mixKind P w)).is h ks b := by
  obtain ⟨e, _, its', r, o, h1, h2, n, h3⟩ := (show ObjOk P w H h b (.frz (tupO its) (.tup (ks.map kV))) from ok b _ hb)
  exact ⟨o, its'.toArray, n, h1, h2, h3, by simpa using items_are r⟩
theorem DRel.dict {xs : List (List Key × Addr × Value)} {kvs : List (List Int × D)} (r : DRel K φ H xs kvs) {a : Addr} {h : Heap} (ok : HOk K.P K.w H h) (ha : H a = some (DicO K.P K.w a xs)) :
    xs.length ≤ sizeLine ∧ (a == sysModules) = false ∧ h.DictOfH (tupleKind (mixKind K.P K.w)) a xs := by
  obtain ⟨⟨z, y, o, es, ep, h1, h2, h3, h4, h5⟩, _⟩ := (show ObjOk K.P K.w H h a (DicO K.P K.w a xs) from ok a _ ha)
  refine ⟨z, y, o, es, ep, h1, h2, h3, h4, fun x hx => ?_, h5⟩
  obtain ⟨_, its, hb⟩ := r.to.2.1 x hx
  exact key_is ok hb
end
theorem dic_empty {P : Program} {w : World} {H : Hp} (h : Heap) (hb : sysModules < h.objs.size) : ObjOk P w H (h.push { cls := .type "dict", data := .dict #[] }) h.objs.size (DicO P w h.objs.size []) := by
  refine ⟨⟨Nat.zero_le _, beq_eq_false_iff_ne.mpr (Ne.symm (Nat.ne_of_lt hb)), _, #[], 0, Heap.get?_push_size _ rfl, ⟨rfl, rfl, rfl⟩, rfl, rfl, List.nodup_nil⟩, ⟨_, Heap.get?_push_size _ rfl⟩, ?_⟩
  rintro h1 h2 ⟨z, y, o, es, ep, e1, e2⟩ k
  exact ⟨z, y, o, es, ep, k _ e1, e2⟩
theorem dicR_stay {P : Program} {w : World} {a : Addr} {xs : List (List Key × Addr × Value)} : ∀ h1 h2 : Heap, DicR P w a xs h1 → (∀ o, h1.get? a = some o → h2.get? a = some o) → DicR P w a xs h2 := by
  rintro h1 h2 ⟨z, y, o, es, ep, e1, e2⟩ k
  exact ⟨z, y, o, es, ep, k _ e1, e2⟩
section
variable {X : Cx} {pos pos' : Pos} {o i value : Expr}
/-- {} -/
def wDict0 : WE := fun env h Q => Q (.ref h.length) (h ++ [.dic []])
theorem pd_dict0 : PE X (.Dict [] [] pos) (emb (gx X) wDict0) := by
  refine ⟨fun pins s σ H Q I q => ?_⟩
  obtain ⟨φ, env, h, QD, hr, he, hw, c⟩ := q
  have n : H s.heap.objs.size = none := I.hok.fresh (Nat.le_refl _)
  refine wpAny_Dict_empty ⟨.ref s.heap.objs.size, upd H s.heap.objs.size (DicO X.prog X.w s.heap.objs.size []), I.laid (a := s.heap.objs.size) (t' := s.toks) (fun _ _ q => Heap.get?_push_of_some _ q) (Nat.le_refl _) (dic_empty s.heap I.big), rfl, ?_⟩
  exact c _ _ _ _ _ (Ev.newc n) (hr.newc (ob := .dic []) n ⟨[], [], upd_same, rfl, (fun x hx => by cases hx), .nil, .nil⟩) (.ref hr.last) hw
/-- what d[k], k in d ask -/
structure DAt (K : Gx) (H : Hp) (x y : V) (a b : Addr) (xs : List (List Key × Addr × Value)) (k : List Int) : Prop where
  ex : x = .ref a
  ey : y = .ref b
  ha : H a = some (DicO K.P K.w a xs)
  hk : ∀ x ∈ xs, ∃ its, H x.2.1 = some (.frz (tupO its) (.tup (x.1.map kV)))
  hb : ∃ its, H b = some (.frz (tupO its) (.tup ((Inj k).map kV)))
theorem DAt.dict {K : Gx} {H : Hp} {x y : V} {a b : Addr} {xs : List (List Key × Addr × Value)} {k : List Int} (g : DAt K H x y a b xs k) {h : Heap} (ok : HOk K.P K.w H h) :
    xs.length ≤ sizeLine ∧ (a == sysModules) = false ∧ h.DictOfH (tupleKind (mixKind K.P K.w)) a xs ∧ (tupleKind (mixKind K.P K.w)).is h (Inj k) b := by
  obtain ⟨⟨z, y, o, es, ep, h1, h2, h3, h4, h5⟩, _⟩ := (show ObjOk K.P K.w H h a (DicO K.P K.w a xs) from ok a _ g.ha)
  obtain ⟨its, hb⟩ := g.hb
  refine ⟨z, y, ⟨o, es, ep, h1, h2, h3, h4, fun x hx => ?_, h5⟩, key_is ok hb⟩
  obtain ⟨its, hb⟩ := g.hk x hx
  exact key_is ok hb
def rIxD (K : Gx) : R2 := fun x y H Q => ∃ a b xs k c u v, DAt K H x y a b xs k ∧ atKey xs (Inj k) = some (c, u) ∧ RelV v u ∧ Q v H
theorem ix_dic (hu : X.A.units + 1 < cLine) : IxR X (rIxD (gx X)) := by
  intro value slice pins s σ H x y v u Q I rx ry h hs
  obtain ⟨a, b, xs, k, c, w, z, g, hk, rz, q⟩ := h
  obtain ⟨h1, h2, dd, hb⟩ := g.dict (h := s.heap) I.hok
  obtain ⟨ex, ey, _, _, _⟩ := g
  subst ex ey
  cases rx; cases ry
  exact tail_any dd.typeIs PySem.F.slot_dict_getitem.lookup (wpAny_getItem_heap (tupleKind_room_in1 hu) hb dd hk ⟨z, H, I.tok _, rz, q⟩) hs
def rInDic (K : Gx) (neg : Bool) : R2 := fun y x H Q => ∃ a b xs k, DAt K H x y a b xs k ∧ Q (.bl (if neg = true then !(atKey xs (Inj k)).isSome else (atKey xs (Inj k)).isSome)) H
theorem op_inDic (hu : X.A.units + 1 < cLine) : OpR X (compareOp .In) (rInDic (gx X) false) := by
  intro pins s σ H y x u v Q I ry rx h
  obtain ⟨a, b, xs, k, g, q⟩ := h
  obtain ⟨h1, h2, dd, hb⟩ := g.dict (h := s.heap) I.hok
  obtain ⟨ex, ey, _, _, _⟩ := g
  subst ex ey
  cases rx; cases ry
  exact wpAny_in_heap (tupleKind_room_in1 hu) hb h2 dd ⟨.bl _, H, I.tok _, rfl, q⟩
theorem op_notInDic (hu : X.A.units + 1 < cLine) : OpR X (compareOp .NotIn) (rInDic (gx X) true) := by
  intro pins s σ H y x u v Q I ry rx h
  obtain ⟨a, b, xs, k, g, q⟩ := h
  obtain ⟨h1, h2, dd, hb⟩ := g.dict (h := s.heap) I.hok
  obtain ⟨ex, ey, _, _, _⟩ := g
  subst ex ey
  cases rx; cases ry
  exact wpAny_notIn_heap (tupleKind_room_in1 hu) hb h2 dd ⟨.bl _, H, I.tok _, rfl, q⟩
/-- d[k] = v, by values -/
def rSetD (K : Gx) : V → V → V → Hp → (Hp → Prop) → Prop := fun x y v H Q => ∃ a b xs k, DAt K H x y a b xs k ∧ xs.length < sizeLine ∧ ∀ u, RelV v u → Q (upd H a (DicO K.P K.w a (storedH xs (Inj k) b u)))
theorem set_dic (hu : X.A.units + 1 < cLine) : PSet X (rSetD (gx X)) := by
  intro pins s σ H x y v ov iv u Q I rx ry rv h
  obtain ⟨a, b, xs, k, g, hl, q⟩ := h
  obtain ⟨h1, h2, dd, hb⟩ := g.dict (h := s.heap) I.hok
  obtain ⟨ex, ey, ha, _, _⟩ := g
  subst ex ey
  cases rx; cases ry
  refine wpAny_setItem_heap (hsz := h1) (tupleKind_room_in1 hu) hb dd fun h' dd' hs => ⟨_, ?_, q u rv⟩
  obtain ⟨q, es, ep, hq, h2', h3, h4, _, h5⟩ := dd'
  have hz : (storedH xs (Inj k) b u).length ≤ sizeLine := by
    unfold storedH
    split
    · rw [List.length_map]; exact h1
    · rw [List.length_append]; exact hl
  refine d_write I (by rw [ha]; exact True.intro) hs ⟨q, hq⟩ ⟨⟨hz, h2, q, es, ep, hq, h2', h3, h4, h5⟩, ⟨q, hq⟩, dicR_stay⟩
end
end Pd

/-! Pd, part E: expressions. -/
namespace Pd
open PySem PySem.Spec PyProof.Rows L2
section
variable {X : Cx} {e a b c : Expr} {es : List Expr} {pos : Pos}
/-! ### names, constants -/
def wVar (i : Nat) : WE := fun env h Q => ∃ d, env[i]? = some (some d) ∧ Q d h
def wC (d : D) : WE := fun _ h Q => Q d h
theorem pd_var {i : Nat} {x : Str} (hN : X.N[i]? = some x) (hv : Vis X.env.scope x) (hd : (x == ("__debug__" : Str)) = false) (hcd : (x == ("__classdict__" : Str)) = false) : PE X (.Name x pos) (emb (gx X) (wVar i)) :=
  imPE (pe_var hN hv hd hcd) fun σ H Q ⟨φ, env, h, QD, hr, he, ⟨d, hd, hw⟩, c⟩ => by
    obtain ⟨v, hv, q⟩ := he.2 i d hd
    exact ⟨v, hv, c.now hr q hw⟩
theorem emb_const {d : D} {v : V} {G : Gx} (hd : ∀ φ H, Rep G φ H v d) {σ : L2.St} {H : Hp} {Q : VK} (q : emb G (wC d) σ H Q) : tC v σ H Q := by
  obtain ⟨φ, env, h, QD, hr, he, hw, c⟩ := q
  exact c.now hr (hd _ _) hw
theorem pd_int {i : Int} {j : Nat} : PE X (.Constant (.int i) j pos) (emb (gx X) (wC (.int i))) := imPE pe_int fun _ _ _ q => emb_const (fun _ _ => .int i) q
theorem pd_bl {i : Bool} {j : Nat} : PE X (.Constant (.bool i) j pos) (emb (gx X) (wC (.bl i))) := imPE pe_bl fun _ _ _ q => emb_const (fun _ _ => .bl i) q
theorem pd_non {j : Nat} : PE X (.Constant .none j pos) (emb (gx X) (wC .non)) := imPE pe_non fun _ _ _ q => emb_const (fun _ _ => .non) q
theorem pd_str {x : Str} {j : Nat} : PE X (.Constant (.str x) j pos) (emb (gx X) (wC (.str x))) := imPE pe_str fun _ _ _ q => emb_const (fun _ _ => .str x) q
theorem pd_glob {x : Str} {u : Value} {i : Int} (hg : Gl X x) (hm : X.mg x = some u) (r : RelV (.int i) u) (hd : (x == ("__debug__" : Str)) = false) : PE X (.Name x pos) (emb (gx X) (wC (.int i))) :=
  imPE (pe_glob hg hm r hd) fun _ _ _ q => emb_const (fun _ _ => .int i) q
theorem pd_globS {x : Str} {u : Value} {i : Str} (hg : Gl X x) (hm : X.mg x = some u) (r : RelV (.str i) u) (hd : (x == ("__debug__" : Str)) = false) : PE X (.Name x pos) (emb (gx X) (wC (.str i))) :=
  imPE (pe_glob hg hm r hd) fun _ _ _ q => emb_const (fun _ _ => .str i) q
/-! ### arguments, displays -/
def wNil : WA := fun _ h Q => Q [] h
def wCons (wa : WE) (wr : WA) : WA := fun env h Q => wa env h fun d h1 => wr env h1 fun ds h2 => Q (d :: ds) h2
theorem pd_nil : PA X [] (embA (gx X) wNil) := imPA pa_nil fun σ H Q ⟨φ, env, h, QD, hr, he, hw, c⟩ => c _ _ _ _ _ .refl hr .nil hw
theorem pd_cons {wa : WE} {wr : WA} (ha : PE X e (emb (gx X) wa)) (hr : PA X es (embA (gx X) wr)) (hs : starEach (e :: es) X.env = (false, eval e X.env) :: starEach es X.env) : PA X (e :: es) (embA (gx X) (wCons wa wr)) :=
  imPA (pa_cons ha hr hs) fun σ H Q ⟨φ, env, h, QD, hr, he, hw, c⟩ => by
    refine ⟨φ, env, h, _, hr, he, hw, fun φ1 H1 h1 x v e1 r1 q1 p1 => ?_⟩
    refine ⟨φ1, env, h1, _, r1, he.mono e1, p1, fun φ2 H2 h2 ds vs e2 r2 q2 p2 => ?_⟩
    exact c _ _ _ _ _ (e1.trans e2) r2 (.cons (q1.mono e2) q2) p2
def wTup (w : WA) : WE := fun env h Q => w env h fun ds h1 => ds.length ≤ sizeLine ∧ Q (.tup ds) h1
def wLst (m : Bool) (w : WA) : WE := fun env h Q => w env h fun ds h1 => ds.length ≤ sizeLine ∧ mkL m ds h1 Q
theorem pd_tup {w : WA} {x1 : Nat} (ha : PA X es (embA (gx X) w)) : PE X (.Tuple es x1 pos) (emb (gx X) (wTup w)) :=
  imPE (pe_tupF ha) fun σ H Q ⟨φ, env, h, QD, hr, he, hw, c⟩ => by
    refine ⟨φ, env, h, _, hr, he, hw, fun φ1 H1 h1 ds vs e1 r1 q1 p1 => ⟨by rw [q1.length]; exact p1.1, ?_⟩⟩
    exact new_tup r1 (c.later e1) q1 p1.2
theorem pd_lst {w : WA} {m : Bool} (ha : PA X es (embA (gx X) w)) : PE X (.List es pos) (emb (gx X) (wLst m w)) :=
  imPE (pe_lst ha) fun σ H Q ⟨φ, env, h, QD, hr, he, hw, c⟩ => by
    refine ⟨φ, env, h, _, hr, he, hw, fun φ1 H1 h1 ds vs e1 r1 q1 p1 => ⟨by rw [q1.length]; exact p1.1, ?_⟩⟩
    exact new_list r1 (c.later e1) q1 p1.2
/-! ### truth, and, or, not, if -/
def wtAnd (wa wb : WT) : WT := fun env h Q => wa env h fun k h1 => if k = true then wb env h1 Q else Q false h1
def wtOr (wa wb : WT) : WT := fun env h Q => wa env h fun k h1 => if k = true then Q true h1 else wb env h1 Q
def wtNot (wa : WT) : WT := fun env h Q => wa env h fun k h1 => Q (!k) h1
theorem pd_and1 {w : WT} (h : PT X a (embT (gx X) w)) : PW X (.BoolOp .And [a] pos) (embT (gx X) w) := pw_and1 h
theorem pd_or1 {w : WT} (h : PT X a (embT (gx X) w)) : PW X (.BoolOp .Or [a] pos) (embT (gx X) w) := pw_or1 h
theorem imPW {t t' : TT} (p : PW X e t) (h : ∀ σ H Q, t' σ H Q → t σ H Q) : PW X e t' := ⟨fun wh pins s σ H Q I hw => p.run wh pins s σ H Q I (h σ H Q hw)⟩
theorem pd_and {wa wb : WT} {rest : List Expr} (ha : PT X a (embT (gx X) wa)) (hb : PW X (.BoolOp .And (b :: rest) pos) (embT (gx X) wb)) : PW X (.BoolOp .And (a :: b :: rest) pos) (embT (gx X) (wtAnd wa wb)) :=
  imPW (pw_and ha hb) fun σ H Q ⟨φ, env, h, QD, hr, he, hw, c⟩ => by
    refine ⟨φ, env, h, _, hr, he, hw, fun φ1 H1 h1 k e1 r1 p1 => ?_⟩
    cases k with
    | true => exact ⟨φ1, env, h1, _, r1, he.mono e1, p1, c.later e1⟩
    | false => exact c _ _ _ _ e1 r1 p1
theorem pd_or {wa wb : WT} {rest : List Expr} (ha : PT X a (embT (gx X) wa)) (hb : PW X (.BoolOp .Or (b :: rest) pos) (embT (gx X) wb)) : PW X (.BoolOp .Or (a :: b :: rest) pos) (embT (gx X) (wtOr wa wb)) :=
  imPW (pw_or ha hb) fun σ H Q ⟨φ, env, h, QD, hr, he, hw, c⟩ => by
    refine ⟨φ, env, h, _, hr, he, hw, fun φ1 H1 h1 k e1 r1 p1 => ?_⟩
    cases k with
    | false => exact ⟨φ1, env, h1, _, r1, he.mono e1, p1, c.later e1⟩
    | true => exact c _ _ _ _ e1 r1 p1
theorem pd_not {w : WT} (h : PT X a (embT (gx X) w)) : PT X (.UnaryOp .Not a pos) (embT (gx X) (wtNot w)) :=
  imPT (pt_not h) fun σ H Q ⟨φ, env, h, QD, hr, he, hw, c⟩ => ⟨φ, env, h, _, hr, he, hw, fun φ1 H1 h1 k e1 r1 p1 => c _ _ _ _ e1 r1 p1⟩
/-- as values -/
def wAndV (wa wb : WE) : WE := fun env h Q => wa env h fun d h1 => ∃ k, d = .bl k ∧ if k = true then wb env h1 Q else Q (.bl false) h1
def wOrV (wa wb : WE) : WE := fun env h Q => wa env h fun d h1 => ∃ k, d = .bl k ∧ if k = true then Q (.bl true) h1 else wb env h1 Q
def wNotV (wa : WE) : WE := fun env h Q => wa env h fun d h1 => ∃ k, d = .bl k ∧ Q (.bl (!k)) h1
theorem pd_andV {wa wb : WE} {rest : List Expr} (ha : PE X a (emb (gx X) wa)) (hb : PE X (.BoolOp .And (b :: rest) pos) (emb (gx X) wb)) : PE X (.BoolOp .And (a :: b :: rest) pos) (emb (gx X) (wAndV wa wb)) :=
  imPE (pe_and ha hb) fun σ H Q ⟨φ, env, h, QD, hr, he, hw, c⟩ => by
    refine ⟨φ, env, h, _, hr, he, hw, fun φ1 H1 h1 x v e1 r1 q1 p1 => ?_⟩
    obtain ⟨k, rfl, p1⟩ := p1
    cases q1
    refine ⟨k, rfl, ?_⟩
    cases k with
    | true => exact ⟨φ1, env, h1, _, r1, he.mono e1, p1, c.later e1⟩
    | false => exact c _ _ _ _ _ e1 r1 (.bl _) p1
theorem pd_orV {wa wb : WE} {rest : List Expr} (ha : PE X a (emb (gx X) wa)) (hb : PE X (.BoolOp .Or (b :: rest) pos) (emb (gx X) wb)) : PE X (.BoolOp .Or (a :: b :: rest) pos) (emb (gx X) (wOrV wa wb)) :=
  imPE (pe_or ha hb) fun σ H Q ⟨φ, env, h, QD, hr, he, hw, c⟩ => by
    refine ⟨φ, env, h, _, hr, he, hw, fun φ1 H1 h1 x v e1 r1 q1 p1 => ?_⟩
    obtain ⟨k, rfl, p1⟩ := p1
    cases q1
    refine ⟨k, rfl, ?_⟩
    cases k with
    | false => exact ⟨φ1, env, h1, _, r1, he.mono e1, p1, c.later e1⟩
    | true => exact c _ _ _ _ _ e1 r1 (.bl _) p1
theorem pd_notV {wa : WE} (ha : PE X a (emb (gx X) wa)) : PE X (.UnaryOp .Not a pos) (emb (gx X) (wNotV wa)) :=
  imPE (pe_not ha) fun σ H Q ⟨φ, env, h, QD, hr, he, hw, c⟩ => by
    refine ⟨φ, env, h, _, hr, he, hw, fun φ1 H1 h1 x v e1 r1 q1 p1 => ?_⟩
    obtain ⟨k, rfl, p1⟩ := p1
    cases q1
    exact ⟨k, rfl, c _ _ _ _ _ e1 r1 (.bl _) p1⟩
def wIf (wt : WT) (wa wb : WE) : WE := fun env h Q => wt env h fun k h1 => if k = true then wa env h1 Q else wb env h1 Q
theorem pd_if {wt : WT} {wa wb : WE} (hc : PT X c (embT (gx X) wt)) (ha : PE X a (emb (gx X) wa)) (hb : PE X b (emb (gx X) wb)) : PE X (.IfExp c a b pos) (emb (gx X) (wIf wt wa wb)) :=
  imPE (pe_ifExp hc ha hb) fun σ H Q ⟨φ, env, h, QD, hr, he, hw, c⟩ => by
    refine ⟨φ, env, h, _, hr, he, hw, fun φ1 H1 h1 k e1 r1 p1 => ?_⟩
    cases k with
    | true => exact ⟨φ1, env, h1, _, r1, he.mono e1, p1, c.later e1⟩
    | false => exact ⟨φ1, env, h1, _, r1, he.mono e1, p1, c.later e1⟩
def wNeg (wa : WE) : WE := fun env h Q => wa env h fun d h1 => ∃ i, d = .int i ∧ Q (.int (-i)) h1
theorem pd_neg {wa : WE} (ha : PE X a (emb (gx X) wa)) : PE X (.UnaryOp .USub a pos) (emb (gx X) (wNeg wa)) :=
  imPE (pe_un un_neg ha) fun σ H Q ⟨φ, env, h, QD, hr, he, hw, c⟩ => by
    refine ⟨φ, env, h, _, hr, he, hw, fun φ1 H1 h1 x v e1 r1 q1 p1 => ?_⟩
    obtain ⟨i, rfl, p1⟩ := p1
    cases q1
    exact ⟨i, rfl, c _ _ _ _ _ e1 r1 (.int _) p1⟩
theorem pd_chain {op op' : CmpOp} {rD rD' : R2D} {r r' : R2} (ho : OpR X (compareOp op) r) (ho' : OpR X (compareOp op') r') (L : Lift2 (gx X) rD r) (L' : Lift2 (gx X) rD' r') {wa wb wc : WE}
    (h : PE X e (tChain r r' (emb (gx X) wa) (emb (gx X) wb) (emb (gx X) wc))) : PE X e (emb (gx X) (w3 rD rD' wa wb wc)) :=
  imPE h fun σ H Q ⟨φ, env, h, QD, hr, he, hw, c⟩ => by
    refine ⟨φ, env, h, _, hr, he, hw, fun φ1 H1 h1 x v e1 r1 q1 p1 => ?_⟩
    refine ⟨φ1, env, h1, _, r1, he.mono e1, p1, fun φ2 H2 h2 y w e2 r2 q2 p2 => ?_⟩
    refine L φ2 H2 h2 x y v w _ _ r2 (q1.mono e2) q2 p2 fun φ3 H3 h3 z u e3 r3 q3 p3 => ?_
    obtain ⟨k, rfl, p3⟩ := p3
    cases q3
    refine ⟨k, rfl, ?_⟩
    cases k with
    | true =>
      refine ⟨φ3, env, h3, _, r3, he.mono (e1.trans (e2.trans e3)), p3, fun φ4 H4 h4 z u e4 r4 q4 p4 => ?_⟩
      exact L' φ4 H4 h4 y z w u _ _ r4 (q2.mono (e3.trans e4)) q4 p4 (c.later (e1.trans (e2.trans (e3.trans e4))))
    | false => exact c _ _ _ _ _ (e1.trans (e2.trans e3)) r3 (.bl _) p3
/-! ### subscripts -/
def rdIx : R2D := fun x y h Q => match sqD x h with
  | some xs => ∃ i d, y = .int i ∧ atI xs i = some d ∧ Q d h
  | none => match dcD x h with
    | some kvs => ∃ k d, keyD y = some k ∧ dlook kvs k = some d ∧ Q d h
    | none => ∃ z i c, x = .str z ∧ y = .int i ∧ z.length ≤ sizeLine ∧ atI z.cps.toList i = some c ∧ Q (.str ⟨#[c]⟩) h
theorem atI_rep {K : Gx} {φ : Fi} {H : Hp} {vs : List V} {xs : List D} (rs : Reps K φ H vs xs) {i : Int} {d : D} (h : atI xs i = some d) : ∃ v, atI vs i = some v ∧ Rep K φ H v d := by
  unfold atI at h ⊢
  rw [rs.length]
  cases e : ixN xs.length i with
  | none => rw [e] at h; cases h
  | some j =>
    rw [e] at h
    exact rs.get (i := j) h
def rIxAll (K : Gx) : R2 := fun x y H Q => rIx K.K x y H Q ∨ rIxD K x y H Q
theorem ix_all (hu : X.A.units + 1 < cLine) : IxR X (rIxAll (gx X)) := ix_seq.or (ix_dic hu)
theorem dat_of {K : Gx} {φ : Fi} {H : Hp} {h : DH} (r : HR K φ H h) {x y : D} {v w : V} {kvs : List (List Int × D)} {k : List Int} (rx : Rep K φ H v x) (ry : Rep K φ H w y) (e : dcD x h = some kvs) (ek : keyD y = some k) :
    ∃ a b xs, DAt K H v w a b xs k ∧ DRel K φ H xs kvs ∧ b ∉ φ.all ∧ ∃ i, x = .ref i ∧ φ.c[i]? = some a ∧ h[i]? = some (.dic kvs) := by
  obtain ⟨a, i, ea, ei, hi, hh, xs, ws, ha, h1, h2, h3, h4⟩ := dc_ok r rx e
  obtain ⟨b, its, eb, nb, hb⟩ := key_ok ry ek
  exact ⟨a, b, xs, ⟨ea, eb, ha, fun x hx => (h2 x hx).2, its, hb⟩, DRel.of h1 h2 h3 h4, nb, i, ei, hi, hh⟩
theorem lift_ix {K : Gx} : Lift2 K rdIx (rIxAll K) := by
  intro φ H h x y v w QD QV r rx ry q c
  unfold rdIx at q
  split at q
  · rename_i xs e
    obtain ⟨i, d, rfl, hd, q⟩ := q
    obtain ⟨a, vs, rfl, hs, rs⟩ := sq_ok r rx e
    obtain ⟨u, hu, ru⟩ := atI_rep rs hd
    cases ry
    rcases hs with hs | hs
    · exact .inl (.inl ⟨a, vs, i, u, rfl, rfl, hs, hu, c.now r ru q⟩)
    · exact .inl (.inr (.inl ⟨a, vs, i, u, rfl, rfl, hs, hu, c.now r ru q⟩))
  · split at q
    · rename_i kvs e
      obtain ⟨k, d, hk, hd, q⟩ := q
      obtain ⟨a, b, xs, g, dr, _⟩ := dat_of r rx ry e hk
      rcases dr.look k with ⟨z, _⟩ | ⟨d', b', u', v', h1, h2, h3, h4⟩
      · rw [hd] at z; cases z
      · rw [hd] at h1; cases h1
        exact .inr ⟨a, b, xs, k, b', u', v', g, h2, h3, c.now r h4 q⟩
    · obtain ⟨z, i, ch, rfl, rfl, h1, h2, q⟩ := q
      cases rx; cases ry
      exact .inl (.inr (.inr ⟨z, i, ch, rfl, rfl, h1, h2, c.now r (.str _) q⟩))
theorem pd_ix {wa wb : WE} (hu : X.A.units + 1 < cLine) (ha : PE X a (emb (gx X) wa)) (hb : PE X b (emb (gx X) wb)) (hs : PlainIx b) : PE X (.Subscript a b pos) (emb (gx X) (w2 rdIx wa wb)) :=
  imPE (pe_ix (ix_all hu) ha hb hs) fun _ _ _ q => lift_tOp lift_ix q
/-! ### slices -/
abbrev WO := Env → DH → (Option Int → DH → Prop) → Prop
def ContO (K : Gx) (φ : Fi) (H : Hp) (QD : Option Int → DH → Prop) (Q : Option Int → Hp → Prop) : Prop :=
  ∀ φ' H' h' b, Ev φ H φ' H' → HR K φ' H' h' → QD b h' → Q b H'
def embO (K : Gx) (w : WO) : TO := fun σ H Q => ∃ φ env h QD, HR K φ H h ∧ EnvR K φ H env σ ∧ w env h QD ∧ ContO K φ H QD Q
theorem imPO {e : Option Expr} {t t' : TO} (p : PO X e t) (h : ∀ σ H Q, t' σ H Q → t σ H Q) : PO X e t' := ⟨fun pins s σ H Q I hw => p.run pins s σ H Q I (h σ H Q hw)⟩
def wNoPart : WO := fun _ h Q => Q none h
def wPart (w : WE) : WO := fun env h Q => w env h fun d h1 => ∃ i, d = .int i ∧ Q (some i) h1
theorem pd_noPart : PO X none (embO (gx X) wNoPart) := imPO po_none fun σ H Q ⟨φ, env, h, QD, hr, he, hw, c⟩ => c _ _ _ _ .refl hr hw
theorem pd_part {w : WE} (ha : PE X a (emb (gx X) w)) : PO X (some a) (embO (gx X) (wPart w)) := imPO (po_some ha) fun σ H Q ⟨φ, env, h, QD, hr, he, hw, c⟩ => by
  refine ⟨φ, env, h, _, hr, he, hw, fun φ1 H1 h1 x v e1 r1 q1 p1 => ?_⟩
  obtain ⟨i, rfl, p1⟩ := p1
  cases q1
  exact ⟨i, rfl, c _ _ _ _ e1 r1 p1⟩
def cutD (xs : List D) (lo hi : Option Int) : List D := (xs.drop (HT.sIx xs.length 0 lo)).take (HT.sIx xs.length xs.length hi - HT.sIx xs.length 0 lo)
theorem cut_rep {K : Gx} {φ : Fi} {H : Hp} {vs : List V} {xs : List D} (rs : Reps K φ H vs xs) (lo hi : Option Int) : Reps K φ H (cutV vs lo hi) (cutD xs lo hi) := by
  unfold cutV cutD
  rw [rs.length]
  exact (rs.drop _).take _
def rdSl (m : Bool) : D → Option Int → Option Int → DH → (D → DH → Prop) → Prop := fun x lo hi h Q => match x with
  | .tup xs => Q (.tup (cutD xs lo hi)) h
  | x => match lsD x h with
    | some xs => mkL m (cutD xs lo hi) h Q
    | none => ∃ z, x = .str z ∧ z.length ≤ sizeLine ∧ Q (.str (cutS z lo hi)) h
def rSlAll (K : Gx) : V → Option Int → Option Int → Hp → VK → Prop := fun x lo hi H Q => rSlF K.K x lo hi H Q ∨ rSlL K.K x lo hi H Q ∨ ∃ z, x = .str z ∧ z.length ≤ sizeLine ∧ Q (.str (cutS z lo hi)) H
end
end Pd

/-! Pd, part F: slices, membership, calls of built-ins, methods, calls of own defs. -/
namespace Pd
open PySem PySem.Spec PyProof.Rows L2
section
variable {X : Cx} {e a b c : Expr} {es : List Expr} {pos : Pos}
theorem sl_all : SlR X (rSlAll (gx X)) := by
  intro pins s σ H x v vl vu lo hi sl Q I rx hs pl pu q
  rcases q with q | q | q
  · exact sl_tupF pins s σ H x v vl vu lo hi sl Q I rx hs pl pu q
  · exact sl_list pins s σ H x v vl vu lo hi sl Q I rx hs pl pu q
  · exact sl_str pins s σ H x v vl vu lo hi sl Q I rx hs pl pu q
theorem cut_whole (xs : List D) (lo hi : Option Int) (h : HT.sIx xs.length 0 lo = 0 ∧ HT.sIx xs.length xs.length hi = xs.length) : cutD xs lo hi = xs := by
  unfold cutD
  rw [h.1, h.2, List.drop_zero, Nat.sub_zero, List.take_length]
theorem lift_sl (K : Gx) (m : Bool) : LiftS K (rdSl m) (rSlAll K) := by
  intro φ H h x v lo hi QD QV r rx q c
  have go : ∀ {x : D}, Rep K φ H v x → (match lsD x h with
      | some xs => mkL m (cutD xs lo hi) h QD
      | none => ∃ z, x = .str z ∧ z.length ≤ sizeLine ∧ QD (.str (cutS z lo hi)) h) → rSlAll K v lo hi H QV := by
    intro x rx q
    split at q
    · rename_i xs e
      obtain ⟨a, vs, rfl, ha, rs⟩ := ls_ok r rx e
      exact .inr (.inl ⟨a, vs, rfl, .of ha, new_list r c (cut_rep rs lo hi) q⟩)
    · obtain ⟨z, rfl, hz, q⟩ := q
      cases rx
      exact .inr (.inr ⟨z, rfl, hz, c.now r (.str _) q⟩)
  cases x with
  | tup xs =>
    obtain ⟨a, vs, rfl, ha, rs⟩ := tp_ok rx
    refine .inl ⟨a, vs, rfl, ha, fun z => ?_, fun _ => new_tup r c (cut_rep rs lo hi) q⟩
    rw [rs.length] at z
    have q' : QD (.tup (cutD xs lo hi)) h := q
    rw [cut_whole xs lo hi z] at q'
    exact c.now r rx q'
  | _ => exact go rx q
def wSl (m : Bool) (wa : WE) (wl wh : WO) : WE := fun env h Q => wa env h fun x h1 => wl env h1 fun lo h2 => wh env h2 fun hi h3 => rdSl m x lo hi h3 Q
theorem pd_slice {m : Bool} {wa : WE} {wl wh : WO} {lo hi : Option Expr} {p2 : Pos} (ha : PE X a (emb (gx X) wa)) (hl : PO X lo (embO (gx X) wl)) (hu : PO X hi (embO (gx X) wh)) : PE X (.Subscript a (.Slice lo hi none p2) pos) (emb (gx X) (wSl m wa wl wh)) :=
  imPE (pe_slice sl_all ha hl hu) fun σ H Q ⟨φ, env, h, QD, hr, he, hw, c⟩ => by
    refine ⟨φ, env, h, _, hr, he, hw, fun φ1 H1 h1 x v e1 r1 q1 p1 => ?_⟩
    refine ⟨φ1, env, h1, _, r1, he.mono e1, p1, fun φ2 H2 h2 lo e2 r2 p2 => ?_⟩
    refine ⟨φ2, env, h2, _, r2, he.mono (e1.trans e2), p2, fun φ3 H3 h3 hi e3 r3 p3 => ?_⟩
    exact lift_sl (gx X) m φ3 H3 h3 x v lo hi QD Q r3 (q1.mono (e2.trans e3)) p3 (c.later (e1.trans (e2.trans e3)))
/-! ### membership -/
def rdIn (neg : Bool) : R2D := fun x y h Q => match dcD y h with
  | some kvs => ∃ k, keyD x = some k ∧ Q (.bl (if neg = true then !(dlook kvs k).isSome else (dlook kvs k).isSome)) h
  | none => match sqD y h with
    | some ys => okD (rsv x h) ∧ okD (.lst ys) ∧ Q (.bl (if neg = true then !(ys.any fun z => PyData.eqv z.py (rsv x h).py) else ys.any fun z => PyData.eqv z.py (rsv x h).py)) h
    | none => ∃ i j, x = .str i ∧ y = .str j ∧ Q (.bl (if neg = true then !(!(Builtin.Str.occurrences j i 0 j.length 1).isEmpty) else !(Builtin.Str.occurrences j i 0 j.length 1).isEmpty)) h
def rInT (K : Gx) (neg : Bool) : R2 := fun x y H Q => ∃ d ds, Dp K.K H x d ∧ Dp K.K H y (.tuple ds) ∧ SeqAt.shaped d = true ∧ SeqAt.shaped (.tuple ds) = true ∧ Q (.bl (if neg = true then !ds.any fun z => PyData.eqv z d else ds.any fun z => PyData.eqv z d)) H
theorem op_inT (hu : X.A.units + 65 < cLine) : OpR X (compareOp .In) (rInT (gx X) false) := by
  intro pins s σ H x y v u Q I rx ry h
  obtain ⟨d, ds, hd, he, sd, se, q⟩ := h
  obtain ⟨as, r1⟩ := Dp.reads I d x v hd rx
  obtain ⟨bs, r2⟩ := Dp.reads I (.tuple ds) y u he ry
  exact SeqAt.in_tuple_reads r2 r1 (SeqAt.canLay_of_shaped se) (SeqAt.canLay_of_shaped sd) (room_in_shaped sd hu) ⟨.bl _, H, I, rfl, q⟩
theorem op_notInT (hu : X.A.units + 65 < cLine) : OpR X (compareOp .NotIn) (rInT (gx X) true) := by
  intro pins s σ H x y v u Q I rx ry h
  obtain ⟨d, ds, hd, he, sd, se, q⟩ := h
  obtain ⟨as, r1⟩ := Dp.reads I d x v hd rx
  obtain ⟨bs, r2⟩ := Dp.reads I (.tuple ds) y u he ry
  exact SeqAt.notIn_tuple_reads r2 r1 (SeqAt.canLay_of_shaped se) (SeqAt.canLay_of_shaped sd) (room_in_shaped sd hu) ⟨.bl _, H, I, rfl, q⟩
def rInAll (K : Gx) (neg : Bool) : R2 := fun x y H Q => rInDic K neg x y H Q ∨ (∃ d ds, Dp K.K H x d ∧ Dp K.K H y (.list ds) ∧ SeqAt.shaped d = true ∧ SeqAt.shaped (.list ds) = true ∧ Q (.bl (if neg = true then !ds.any fun z => PyData.eqv z d else ds.any fun z => PyData.eqv z d)) H) ∨
  rInT K neg x y H Q ∨ ∃ i j, x = .str i ∧ y = .str j ∧ Q (.bl (if neg = true then !(!(Builtin.Str.occurrences j i 0 j.length 1).isEmpty) else !(Builtin.Str.occurrences j i 0 j.length 1).isEmpty)) H
theorem op_inAll (hu : X.A.units + 65 < cLine) : OpR X (compareOp .In) (rInAll (gx X) false) :=
  (op_inDic (by omega)).or ((op_inD hu).or ((op_inT hu).or op_in_str))
theorem op_notInAll (hu : X.A.units + 65 < cLine) : OpR X (compareOp .NotIn) (rInAll (gx X) true) :=
  (op_notInDic (by omega)).or ((op_notInD hu).or ((op_notInT hu).or op_notin_str))
theorem any_py (ys : List D) (d : PyData) : (D.pys ys).any (fun z => PyData.eqv z d) = ys.any fun z => PyData.eqv z.py d := by
  rw [pys_map, List.any_map]; rfl
theorem lift_in (K : Gx) (neg : Bool) : Lift2 K (rdIn neg) (rInAll K neg) := by
  intro φ H h x y v w QD QV r rx ry q c
  unfold rdIn at q
  split at q
  · rename_i kvs e
    obtain ⟨k, hk, q⟩ := q
    obtain ⟨a, b, xs, g, dr, _⟩ := dat_of r ry rx e hk
    refine .inl ⟨a, b, xs, k, g, ?_⟩
    rcases dr.look k with ⟨z1, z2⟩ | ⟨d', b', u', v', h1, h2, _⟩
    · rw [z1] at q; rw [z2]; exact c.now r (.bl _) q
    · rw [h1] at q; rw [h2]; exact c.now r (.bl _) q
  · split at q
    · rename_i ys e
      obtain ⟨ox, oy, q⟩ := q
      have dx := dp_of r rx ox
      rw [← any_py] at q
      cases y with
      | tup zs =>
        cases e
        have oy' : okD (.tup ys) := by
          unfold okD SeqAt.shaped at oy ⊢
          simpa [D.py, PyData.canLay0, PyData.depth] using oy
        exact .inr (.inr (.inl ⟨_, D.pys ys, dx, ry.dp (SeqAt.canLay_of_shaped oy'), ox, oy', c.now r (.bl _) q⟩))
      | _ =>
        obtain ⟨a, vs, rfl, ha, rs⟩ := ls_ok r ry e
        have oy' : PyData.canLayAll0 (D.pys ys) = true := by
          have z := SeqAt.canLay_of_shaped oy
          simpa [D.py, PyData.canLay0] using z
        exact .inr (.inl ⟨_, D.pys ys, dx, .lst (.of ha) (rs.dp oy'), ox, oy, c.now r (.bl _) q⟩)
    · obtain ⟨i, j, rfl, rfl, q⟩ := q
      cases rx; cases ry
      exact .inr (.inr (.inr ⟨i, j, rfl, rfl, c.now r (.bl _) q⟩))
/-! ### calls of built-ins by values -/
def wCall (rD : RCD) (wa : WA) : WE := fun env h Q => wa env h fun ds h1 => rD ds h1 Q
theorem lift_tCB {K : Gx} {rD : RCD} {r : List V → Hp → VK → Prop} (L : LiftC K rD r) {wa : WA} {σ : L2.St} {H : Hp} {Q : VK} (q : emb K (wCall rD wa) σ H Q) : tCB r (embA K wa) σ H Q := by
  obtain ⟨φ, env, h, QD, hr, he, hw, c⟩ := q
  refine ⟨φ, env, h, _, hr, he, hw, fun φ1 H1 h1 ds vs e1 r1 q1 p1 => ?_⟩
  exact L φ1 H1 h1 ds vs QD Q r1 q1 p1 (c.later e1)
theorem pd_callB {x : Str} {p : Pos} {id : String} {r : List V → Hp → VK → Prop} {rD : RCD} {wa : WA} (hc : CallR X (.builtin id) r) (L : LiftC (gx X) rD r) (hg : Gl X x) (hm : X.mg x = none) (hv : bootBuiltins x = some (.builtin id)) (ha : PA X (e :: es) (embA (gx X) wa)) (hn : x ≠ "__name__") (hdb : (x == ("__debug__" : Str)) = false)
    (he : starEach (e :: es) X.env = (false, eval e X.env) :: starEach es X.env) (hpl : (backTo pos (starEach es X.env)).any (·.1) = false) : PE X (.Call (.Name x p) (e :: es) [] pos) (emb (gx X) (wCall rD wa)) :=
  imPE (pe_callB hc hg hm hv ha hn hdb he hpl) fun _ _ _ q => lift_tCB L q
theorem pd_callTy {x : Str} {p : Pos} {T : String} {r : List V → Hp → VK → Prop} {rD : RCD} {wa : WA} (hc : CallR X (.type T) r) (L : LiftC (gx X) rD r) (hg : Gl X x) (hm : X.mg x = none) (hv : bootBuiltins x = some (.type T)) (ha : PA X (e :: es) (embA (gx X) wa)) (hn : x ≠ "__name__") (hdb : (x == ("__debug__" : Str)) = false)
    (he : starEach (e :: es) X.env = (false, eval e X.env) :: starEach es X.env) (hpl : (backTo pos (starEach es X.env)).any (·.1) = false) : PE X (.Call (.Name x p) (e :: es) [] pos) (emb (gx X) (wCall rD wa)) :=
  imPE (pe_callTy hc hg hm hv ha hn hdb he hpl) fun _ _ _ q => lift_tCB L q
end
section
variable {K : Gx}
/-- len -/
def rdLen : RCD := fun ds h Q => ∃ d, ds = [d] ∧ match sqD d h with
  | some xs => Q (.int xs.length) h
  | none => ∃ z, d = .str z ∧ z.length ≤ sizeLine ∧ Q (.int z.length) h
theorem reps1 {φ : Fi} {H : Hp} {vs : List V} {d : D} (r : Reps K φ H vs [d]) : ∃ v, vs = [v] ∧ Rep K φ H v d := by
  cases r with
  | cons r1 r2 => cases r2; exact ⟨_, rfl, r1⟩
theorem reps2 {φ : Fi} {H : Hp} {vs : List V} {d d2 : D} (r : Reps K φ H vs [d, d2]) : ∃ v v2, vs = [v, v2] ∧ Rep K φ H v d ∧ Rep K φ H v2 d2 := by
  cases r with
  | cons r1 r2 =>
    obtain ⟨v, rfl, r3⟩ := reps1 r2
    exact ⟨_, v, rfl, r1, r3⟩
theorem lift_len : LiftC K rdLen (fun xs H Q => ∃ x n, xs = [x] ∧ LenV K.K x H n ∧ Q (.int n) H) := by
  intro φ H h ds vs QD QV r rs q c
  obtain ⟨d, rfl, q⟩ := q
  obtain ⟨v, rfl, rv⟩ := reps1 rs
  split at q
  · rename_i xs e
    obtain ⟨a, ws, rfl, hs, rw'⟩ := sq_ok r rv e
    refine ⟨_, xs.length, rfl, ?_, c.now r (.int _) q⟩
    rcases hs with hs | hs
    · exact .inl ⟨ws, hs, rw'.length.symm⟩
    · exact .inr ⟨ws, hs, rw'.length.symm⟩
  · obtain ⟨z, rfl, hz, q⟩ := q
    cases rv
    exact ⟨_, z.length, rfl, ⟨hz, rfl⟩, c.now r (.int _) q⟩
/-- abs, int -/
def rdAbs : RCD := fun ds h Q => ∃ i, ds = [.int i] ∧ Q (.int (if i < 0 then -i else i)) h
theorem lift_abs : LiftC K rdAbs (fun xs H Q => ∃ i, xs = [.int i] ∧ Q (.int (if i < 0 then -i else i)) H) := by
  intro φ H h ds vs QD QV r rs q c
  obtain ⟨i, rfl, q⟩ := q
  obtain ⟨v, rfl, rv⟩ := reps1 rs
  cases rv
  exact ⟨i, rfl, c.now r (.int _) q⟩
def rdInt : RCD := fun ds h Q => ∃ i, ds = [.int i] ∧ Q (.int i) h
theorem lift_int : LiftC K rdInt (fun xs H Q => (∃ i, xs = [.int i] ∧ Q (.int i) H) ∨ ∃ k, xs = [.bl k] ∧ Q (.int (if k then 1 else 0)) H) := by
  intro φ H h ds vs QD QV r rs q c
  obtain ⟨i, rfl, q⟩ := q
  obtain ⟨v, rfl, rv⟩ := reps1 rs
  cases rv
  exact .inl ⟨i, rfl, c.now r (.int _) q⟩
/-- list(x), tuple(x) -/
def rdList (m : Bool) : RCD := fun ds h Q => ∃ d, ds = [d] ∧ match d with
  | .scr ns => mkL m (ns.map D.int) h Q
  | d => match sqD d h with
    | some xs => mkL m xs h Q
    | none => False
theorem lift_list (m : Bool) : LiftC K (rdList m) (fun xs H Q => ∃ p ys, xs = [.ref p] ∧ (SqL K.K H p ys ∨ SqT K.K H p ys) ∧ ∀ l, H l = none → Q (.ref l) (upd H l (.lst ys))) := by
  intro φ H h ds vs QD QV r rs q c
  obtain ⟨d, rfl, q⟩ := q
  obtain ⟨v, rfl, rv⟩ := reps1 rs
  have go : ∀ {d : D}, Rep K φ H v d → (match sqD d h with
    | some xs => mkL m xs h QD
    | none => False) → ∃ p ys, [v] = [V.ref p] ∧ (SqL K.K H p ys ∨ SqT K.K H p ys) ∧ ∀ l, H l = none → QV (.ref l) (upd H l (.lst ys)) := by
    intro d rv q
    split at q
    · rename_i xs e
      obtain ⟨a, ws, rfl, hs, rw'⟩ := sq_ok r rv e
      exact ⟨a, ws, rfl, hs, new_list r c rw' q⟩
    · exact q.elim
  cases d with
  | scr ns =>
    cases rv with
    | scrR n ha => exact ⟨_, _, rfl, .inl (.inl (.inr ⟨_, ha⟩)), new_list r c (Reps.ints ns) q⟩
    | scrT n ha => exact ⟨_, _, rfl, .inl (.of ha), new_list r c (Reps.ints ns) q⟩
    | scrK ha => exact ⟨_, _, rfl, .inl (ha H), new_list r c (Reps.ints ns) q⟩
  | _ => exact go rv q
def rdTuple : RCD := fun ds h Q => ∃ d xs, ds = [d] ∧ sqD d h = some xs ∧ Q (.tup xs) h
theorem lift_tuple : LiftC K rdTuple (fun xs H Q => ∃ x, xs = [x] ∧ kTupF K.K x H Q) := by
  intro φ H h ds vs QD QV r rs q c
  obtain ⟨d, xs, rfl, e, q⟩ := q
  obtain ⟨v, rfl, rv⟩ := reps1 rs
  obtain ⟨a, ws, rfl, hs, rw'⟩ := sq_ok r rv e
  refine ⟨_, rfl, ?_⟩
  cases d with
  | tup ys =>
    cases e
    obtain ⟨a', ws', e', hs', _⟩ := tp_ok rv
    cases e'
    exact .inr ⟨a, ws', rfl, hs', c.now r rv q⟩
  | _ =>
    obtain ⟨a', ws', e', hs', rs'⟩ := ls_ok r rv e
    cases e'
    exact .inl ⟨a, ws', rfl, .of hs', new_tup r c rs' q⟩
/-- all, any of a list of bools; sum, min, max of a list of ints -/
def rdAll : RCD := fun ds h Q => ∃ (d : D) (bs : List Bool), ds = [d] ∧ lsD d h = some (bs.map D.bl) ∧ Q (.bl (bs.all id)) h
theorem lift_all : LiftC K rdAll (rAll K.K) := by
  intro φ H h ds vs QD QV r rs q c
  obtain ⟨d, bs, rfl, e, q⟩ := q
  obtain ⟨v, rfl, rv⟩ := reps1 rs
  obtain ⟨a, ws, rfl, hs, rw'⟩ := ls_ok r rv e
  rw [Reps.toBls bs rw'] at hs
  exact ⟨a, bs, rfl, .of hs, c.now r (.bl _) q⟩
def rdAny : RCD := fun ds h Q => ∃ (d : D) (bs : List Bool), ds = [d] ∧ lsD d h = some (bs.map D.bl) ∧ Q (.bl (bs.any id)) h
theorem lift_any : LiftC K rdAny (rAny K.K) := by
  intro φ H h ds vs QD QV r rs q c
  obtain ⟨d, bs, rfl, e, q⟩ := q
  obtain ⟨v, rfl, rv⟩ := reps1 rs
  obtain ⟨a, ws, rfl, hs, rw'⟩ := ls_ok r rv e
  rw [Reps.toBls bs rw'] at hs
  exact ⟨a, bs, rfl, .of hs, c.now r (.bl _) q⟩
def rdSum : RCD := fun ds h Q => ∃ (d : D) (ns : List Int), ds = [d] ∧ lsD d h = some (ns.map D.int) ∧ Q (.int ns.sum) h
theorem lift_sum : LiftC K rdSum (rSum K.K) := by
  intro φ H h ds vs QD QV r rs q c
  obtain ⟨d, bs, rfl, e, q⟩ := q
  obtain ⟨v, rfl, rv⟩ := reps1 rs
  obtain ⟨a, ws, rfl, hs, rw'⟩ := ls_ok r rv e
  rw [Reps.toInts bs rw'] at hs
  exact ⟨a, bs, rfl, .of hs, c.now r (.int _) q⟩
def rdMin : RCD := fun ds h Q => ∃ (d : D) (ns : List Int), ds = [d] ∧ lsD d h = some (ns.map D.int) ∧ 0 < ns.length ∧ ∀ m, m ∈ ns → (∀ y, y ∈ ns → m ≤ y) → Q (.int m) h
theorem lift_min : LiftC K rdMin (rMin K.K) := by
  intro φ H h ds vs QD QV r rs q c
  obtain ⟨d, bs, rfl, e, h0, q⟩ := q
  obtain ⟨v, rfl, rv⟩ := reps1 rs
  obtain ⟨a, ws, rfl, hs, rw'⟩ := ls_ok r rv e
  rw [Reps.toInts bs rw'] at hs
  exact ⟨a, bs, rfl, .of hs, h0, fun m h1 h2 => c.now r (.int _) (q m h1 h2)⟩
def rdMax : RCD := fun ds h Q => ∃ (d : D) (ns : List Int), ds = [d] ∧ lsD d h = some (ns.map D.int) ∧ 0 < ns.length ∧ ∀ m, m ∈ ns → (∀ y, y ∈ ns → y ≤ m) → Q (.int m) h
theorem lift_max : LiftC K rdMax (rMax K.K) := by
  intro φ H h ds vs QD QV r rs q c
  obtain ⟨d, bs, rfl, e, h0, q⟩ := q
  obtain ⟨v, rfl, rv⟩ := reps1 rs
  obtain ⟨a, ws, rfl, hs, rw'⟩ := ls_ok r rv e
  rw [Reps.toInts bs rw'] at hs
  exact ⟨a, bs, rfl, .of hs, h0, fun m h1 h2 => c.now r (.int _) (q m h1 h2)⟩
/-- sorted, ints -/
def insI (n : Int) : List Int → List Int
  | [] => [n]
  | m :: r => if n ≤ m then n :: m :: r else m :: insI n r
def srtI : List Int → List Int
  | [] => []
  | n :: r => insI n (srtI r)
theorem insI_perm (n : Int) : ∀ l : List Int, (insI n l).Perm (n :: l)
  | [] => .refl _
  | m :: r => by
    unfold insI
    split
    · exact .refl _
    · exact ((insI_perm n r).cons m).trans (.swap n m r)
theorem srtI_perm : ∀ l : List Int, (srtI l).Perm l
  | [] => .refl _
  | n :: r => (insI_perm n _).trans ((srtI_perm r).cons n)
theorem insI_pw (n : Int) : ∀ l : List Int, l.Pairwise (· ≤ ·) → (insI n l).Pairwise (· ≤ ·)
  | [], _ => List.pairwise_singleton _ _
  | m :: r, h => by
    obtain ⟨h1, h2⟩ := List.pairwise_cons.mp h
    unfold insI
    split
    · rename_i hl
      refine List.pairwise_cons.mpr ⟨fun y hy => ?_, h⟩
      rcases List.mem_cons.mp hy with e | hy
      · rw [e]; exact hl
      · exact Int.le_trans hl (h1 y hy)
    · rename_i hl
      refine List.pairwise_cons.mpr ⟨fun y hy => ?_, insI_pw n r h2⟩
      rcases List.mem_cons.mp ((insI_perm n r).mem_iff.mp hy) with e | hy
      · rw [e]; omega
      · exact h1 y hy
theorem srtI_pw : ∀ l : List Int, (srtI l).Pairwise (· ≤ ·)
  | [] => .nil
  | n :: r => insI_pw n _ (srtI_pw r)
theorem srt_unique : ∀ {l l' : List Int}, l.Perm l' → l.Pairwise (· ≤ ·) → l'.Pairwise (· ≤ ·) → l = l'
  | [], l', p, _, _ => (List.nil_perm.mp p).symm
  | x :: r, l', p, h, h' => by
    cases l' with
    | nil => exact absurd p (by simp)
    | cons y r' =>
      obtain ⟨h1, h2⟩ := List.pairwise_cons.mp h
      obtain ⟨h1', h2'⟩ := List.pairwise_cons.mp h'
      have e : x = y := by
        have m1 : y ∈ x :: r := p.mem_iff.mpr List.mem_cons_self
        have m2 : x ∈ y :: r' := p.mem_iff.mp List.mem_cons_self
        rcases List.mem_cons.mp m1 with e | m1
        · exact e.symm
        · rcases List.mem_cons.mp m2 with e | m2
          · exact e
          · exact Int.le_antisymm (h1 y m1) (h1' x m2)
      subst e
      rw [srt_unique ((List.perm_cons x).mp p) h2 h2']
theorem srt_is {l l' : List Int} (p : l'.Perm l) (h : l'.Pairwise (· ≤ ·)) : l' = srtI l := srt_unique (p.trans (srtI_perm l).symm) h (srtI_pw l)
def rSortedB (K : PySem.W.Frag) : List V → Hp → VK → Prop := fun vs H Q => ∃ (a : Addr) (ns : List Int), vs = [V.ref a] ∧ (SqL K H a (ns.map V.int) ∨ SqT K H a (ns.map V.int)) ∧
  ∀ p : Addr, H p = none → Q (.ref p) (upd H p (.lst ((srtI ns).map V.int)))
end
section
open PySem
theorem collect_tup {prog : Program} {w : World} {A : Around} {E : Value → Shared → Prop} {s : Shared} {l : Addr} {vs : List Value} {Q : List Value → Shared → Prop} (hl : IsTup s.heap l vs.toArray)
    (h : Q vs { s with heap := (s.heap.push (seqObj "list" #[] 0)).update s.heap.objs.size (Obj.mapSeq (· ++ vs.toArray)) }) (hsz : vs.length ≤ sizeLine) :
    wpAny (model prog w) A (collect (.ref l)) Q E s := by
  obtain ⟨o, ho, hc, n, hd⟩ := id hl
  unfold collect
  refine wpAny_bind (wpAny_runValue (codeAny_builtin entry_proto_collect' ?_))
  show wpAny _ _ (do again (.builtin "list.__iadd__" ⟨[← newList [], .ref l], []⟩)) _ _ s
  refine wpAny_bind (wpAny_newList (wpAny_pure ⟨Code.quiet_builtin _ (by decide +kernel), codeAny_builtin entry_list_iadd' ?_⟩))
  show wpAny _ _ (Builtin.List.listExtendWith (.ref s.heap.objs.size) (.ref l) (.ref s.heap.objs.size)) _ _ { s with heap := s.heap.push (seqObj "list" #[] 0) }
  unfold Builtin.List.listExtendWith
  have ho' : (s.heap.push (seqObj "list" #[] 0)).get? l = some o := Heap.get?_push_of_some _ ho
  refine wpAny_bind (wpAny_typeOf (T := "tuple") ⟨o, ho', hc⟩ ?_)
  have ht : (Value.type "tuple" == Value.type "tuple") = true := by rfl
  rw [if_pos (by rw [ht]; simp)]
  refine wpAny_bind (listItems_at ho' hd ?_)
  refine wpAny_bind (listItems_at (xs := #[]) (n := 0) (Heap.get?_push_size _ rfl) rfl ?_)
  rw [if_neg (by simp)]
  refine wpAny_bind (listUpdate_at (xs := #[]) (n := 0) (Heap.get?_push_size _ rfl) rfl ?_ (Nat.zero_le _) (by show (#[] ++ vs.toArray).size ≤ sizeLine + 1; simp only [Array.size_append, List.size_toArray, List.length_nil]; omega))
  refine wpAny_pure ?_
  show wpAny (model prog w) A (do
      let o ← load s.heap.objs.size
      match o.data with
      | .seq xs _ => pure xs.toList
      | _ => unsupported "internal:collect") Q E { s with heap := (s.heap.push (seqObj "list" #[] 0)).update s.heap.objs.size (Obj.mapSeq (· ++ vs.toArray)) }
  refine wpAny_bind (wpAny_load (get?_update_seq (Heap.get?_push_size _ rfl) _) ?_)
  show wpAny _ _ (pure ((#[] : Array Value) ++ vs.toArray).toList) Q E _
  rw [show ((#[] : Array Value) ++ vs.toArray).toList = vs by simp]
  exact wpAny_pure h
end
end Pd

/-! Pd, part G: sorted of a list or a tuple, isinstance, methods, len(set(..)). -/
namespace Pd
open PySem PySem.Spec PyProof.Rows L2
open SrtO in
theorem sorted_ordT {prog : Program} {w : World} {A : Around} {E : Value → Shared → Prop} {s : Shared} {l : Addr} {vs : List Value} {ltv : Value → Value → Bool} {Q : Value → Shared → Prop} (O : Swo ltv) (hl : IsTup s.heap l vs.toArray) (hz : vs.length ≤ sizeLine)
    (hS : 2 ≤ vs.length → ∀ (h₁ : Heap) (a : Addr), h₁.get? a = some (seqObj "list" vs.toArray 0) → (∀ b o, s.heap.get? b = some o → b ≠ a ∧ h₁.get? b = some o) → SortableO prog w A.in1.in1 { s with heap := h₁ } a vs ltv)
    (h : ∀ out : List Value, Srtd ltv out → Stb ltv out vs → Q (.ref (s.heap.objs.size + 1)) { s with heap := sortedAll s.heap vs out.toArray }) :
    wpAny (model prog w) A (call (.builtin "sorted") [.ref l]) Q E s := by
  refine Calls.call_function_entry kind_sorted plain_sorted entry_sorted (args_sorted1 _) ?_
  unfold Builtin.«sorted»
  refine wpAny_bind (m := checkCount "sorted" 1 1 _) (wpAny_pure ?_)
  refine wpAny_bind (collect_tup hl ?_ hz)
  refine wpAny_bind (wpAny_newList ?_ hz)
  have hsz : ((s.heap.push (seqObj "list" #[] 0)).update s.heap.objs.size (Obj.mapSeq (· ++ vs.toArray))).objs.size = s.heap.objs.size + 1 := by
    rw [Heap.size_update, size_push']
  have hoL : (((s.heap.push (seqObj "list" #[] 0)).update s.heap.objs.size (Obj.mapSeq (· ++ vs.toArray))).push (seqObj "list" vs.toArray 0)).get? (s.heap.objs.size + 1) = some (seqObj "list" vs.toArray 0) := by
    rw [← hsz]; exact Heap.get?_push_size _ rfl
  have keep : ∀ b o, s.heap.get? b = some o → b ≠ s.heap.objs.size + 1 ∧ (((s.heap.push (seqObj "list" #[] 0)).update s.heap.objs.size (Obj.mapSeq (· ++ vs.toArray))).push (seqObj "list" vs.toArray 0)).get? b = some o := fun b o q => by
    have hlt : b < s.heap.objs.size := Heap.lt_size q
    refine ⟨Nat.ne_of_lt (Nat.lt_succ_of_lt hlt), Heap.get?_push_of_some _ ?_⟩
    rw [Heap.get?_update_ne _ _ _ _ (Nat.ne_of_lt hlt)]
    exact Heap.get?_push_of_some _ q
  show wpAny _ _ _ _ _ { s with heap := ((s.heap.push (seqObj "list" #[] 0)).update s.heap.objs.size (Obj.mapSeq (· ++ vs.toArray))).push (seqObj "list" vs.toArray 0) }
  rw [hsz]
  refine wpAny_bind (wpAny_holding (wpAny_call_entry slot_list_sort ⟨_, hoL, rfl⟩ entry_list_sort (list_sort_ord O hoL hz (fun h2 => hS h2 _ _ hoL keep) fun out hs hb => ⟨_, rfl, ?_⟩) (args_list_sort _)))
  exact wpAny_pure ⟨_, rfl, h out hs hb⟩
section
variable {X : Cx}
theorem cr_sortedB : CallR X (.builtin "sorted") (rSortedB X.K) := by
  intro pins s σ H vs us Q I r h
  obtain ⟨a, ns, rfl, hs, q⟩ := h
  rw [Vals.ref1 r]
  have fin : ∀ its : List Value, Vals (ns.map V.int) its → (ns.map V.int).length ≤ sizeLine → ∀ out : List Value, SrtO.Srtd SrtO.ltIv out → SrtO.Stb SrtO.ltIv out its → EP X pins σ Q (.ref (s.heap.objs.size + 1)) { s with heap := sortedAll s.heap its out.toArray } := by
    intro its rv hz out h1 h2
    have hi := rv.ints
    obtain ⟨k1, k2, k3⟩ := SrtO.ints_out hi h1 h2
    obtain ⟨ep, he'⟩ := PyProof.Rows.sortedAll_at s.heap its out.toArray
    have hlen : ((out.map SrtO.iv).map V.int).length ≤ sizeLine := by
      rw [List.length_map, k2.length_eq]
      rw [List.length_map] at hz
      exact hz
    refine ⟨.ref _, upd H (s.heap.objs.size + 1) (.lst ((out.map SrtO.iv).map V.int)), I.laid (t' := s.toks) (fun _ _ => PyProof.Rows.sortedAll_old) (Nat.le_succ _) ⟨hlen, out, ep, vals_of_ints k1, he'⟩, rfl, ?_⟩
    rw [srt_is k2 k3]
    exact q _ (I.hok.fresh (Nat.le_succ _))
  rcases hs with hs | hs
  · obtain ⟨its, rv, hl, hz⟩ := I.list hs
    exact SrtO.sorted_ord SrtO.swo_int hl.isList (by rw [← rv.length]; exact hz) (fun h2 h₁ a' _ _ => SrtO.ints_sortable rv.ints h2) (fin its rv hz)
  · obtain ⟨its, rv, hl, hz⟩ := I.tuple hs
    exact sorted_ordT SrtO.swo_int hl (by rw [← rv.length]; exact hz) (fun h2 h₁ a' _ _ => SrtO.ints_sortable rv.ints h2) (fin its rv hz)
/-- sorted of ints -/
def rdSorted (m : Bool) : RCD := fun ds h Q => ∃ (d : D) (ns : List Int), ds = [d] ∧ sqD d h = some (ns.map D.int) ∧ mkL m ((srtI ns).map D.int) h Q
theorem lift_sorted {K : Gx} (m : Bool) : LiftC K (rdSorted m) (rSortedB K.K) := by
  intro φ H h ds vs QD QV r rs q c
  obtain ⟨d, ns, rfl, e, q⟩ := q
  obtain ⟨v, rfl, rv⟩ := reps1 rs
  obtain ⟨a, ws, rfl, hs, rw'⟩ := sq_ok r rv e
  rw [Reps.toInts ns rw'] at hs
  exact ⟨a, ns, rfl, hs, new_list r c (Reps.ints _) q⟩
/-! ### isinstance -/
def tyD : D → DH → Option String
  | .non, _ => some "NoneType"
  | .bl _, _ => some "bool"
  | .int _, _ => some "int"
  | .str _, _ => some "str"
  | .tup _, _ => some "tuple"
  | .lst _, _ => some "list"
  | .ref i, h => ((h[i]?).bind Ob.ls).map fun _ => "list"
  | .scr _, _ => none
def isiD (t T : String) : Option Bool :=
  match T with
  | "int" => some (t == "int" || t == "bool")
  | "bool" => some (t == "bool")
  | "str" => some (t == "str")
  | "tuple" => some (t == "tuple")
  | "list" => some (t == "list")
  | _ => none
theorem isi_kit {t T : String} {b : Bool} (ht : t = "NoneType" ∨ t = "bool" ∨ t = "int" ∨ t = "str" ∨ t = "tuple" ∨ t = "list") (h : isiD t T = some b) : kitB t T = some b := by
  unfold isiD at h
  split at h
  · rcases ht with rfl | rfl | rfl | rfl | rfl | rfl <;> (cases h; decide +kernel)
  · rcases ht with rfl | rfl | rfl | rfl | rfl | rfl <;> (cases h; decide +kernel)
  · rcases ht with rfl | rfl | rfl | rfl | rfl | rfl <;> (cases h; decide +kernel)
  · rcases ht with rfl | rfl | rfl | rfl | rfl | rfl <;> (cases h; decide +kernel)
  · rcases ht with rfl | rfl | rfl | rfl | rfl | rfl <;> (cases h; decide +kernel)
  · cases h
theorem ty_ok {K : Gx} {φ : Fi} {H : Hp} {h : DH} (r : HR K φ H h) {d : D} {v : V} (q : Rep K φ H v d) {t : String} (e : tyD d h = some t) :
    TyX K.K H v (.type t) ∧ (t = "NoneType" ∨ t = "bool" ∨ t = "int" ∨ t = "str" ∨ t = "tuple" ∨ t = "list") := by
  cases q with
  | non => cases e; exact ⟨.base .non, by simp⟩
  | bl b => cases e; exact ⟨.base (.bl b), by simp⟩
  | int i => cases e; exact ⟨.base (.int i), by simp⟩
  | str x => cases e; exact ⟨.base (.str x), by simp⟩
  | tup n ha rs => cases e; exact ⟨.fTuple ha, by simp⟩
  | lst n ha rs => cases e; exact ⟨.base (.lst ha), by simp⟩
  | @ref i a hi =>
    have e' : ((h[i]?).bind Ob.ls).map (fun _ => "list") = some t := e
    obtain ⟨xs, hx, rfl⟩ := Option.map_eq_some_iff.mp e'
    obtain ⟨a', vs, e1, ha, _⟩ := ls_ok (d := .ref i) r (.ref hi) hx
    cases e1
    exact ⟨.base (.lst ha), by simp⟩
  | _ => cases e
def wIsi (T : String) (wa : WE) : WE := fun env h Q => wa env h fun d h1 => ∃ t b, tyD d h1 = some t ∧ isiD t T = some b ∧ Q (.bl b) h1
theorem pd_isi {e : Expr} {T : Str} {TT : String} {p p2 pos : Pos} {wa : WE} (hg : Gl X "isinstance") (hm : X.mg "isinstance" = none) (hg2 : Gl X T) (hm2 : X.mg T = none) (hv2 : bootBuiltins T = some (.type TT)) (hn : T ≠ "__name__") (hd : (T == ("__debug__" : Str)) = false)
    (ha : PE X e (emb (gx X) wa)) (he : starEach (e :: [.Name T p2]) X.env = (false, eval e X.env) :: starEach [.Name T p2] X.env) (hpl : (backTo pos (starEach [.Name T p2] X.env)).any (·.1) = false) :
    PE X (.Call (.Name "isinstance" p) [e, .Name T p2] [] pos) (emb (gx X) (wIsi TT wa)) := by
  have hT : PE X (.Name T p2) (tC (.ty TT)) := pe_bltn hg2 hm2 hv2 rfl hn hd
  have hA : PA X [e, .Name T p2] (tCons (emb (gx X) wa) (tCons (tC (.ty TT)) tNil)) := pa_cons ha (pa_cons hT pa_nil rfl) he
  refine imPE (pe_callB call_isi hg hm (by decide +kernel) hA (by decide) (by decide) he hpl) fun σ H Q ⟨φ, env, h, QD, hr, he, hw, c⟩ => ?_
  refine ⟨φ, env, h, _, hr, he, hw, fun φ1 H1 h1 d v e1 r1 q1 p1 => ?_⟩
  obtain ⟨t, b, h2, h3, q⟩ := p1
  obtain ⟨k1, k2⟩ := ty_ok r1 q1 h2
  exact ⟨v, .ty TT, .type t, .type TT, b, rfl, .ty TT, k1, kit_ty (isi_kit k2 h3), c _ _ _ _ _ e1 r1 (.bl _) q⟩
end
/-! ### methods -/
/-- the kinds of receivers -/
def tyM (T : String) (v : V) (H : Hp) : Prop := (T = "list" ∧ ∃ p xs, v = .ref p ∧ H p = some (.lst xs)) ∨ (T = "tuple" ∧ ∃ p its xs, v = .ref p ∧ H p = some (.frz (tupO its) (.tup xs))) ∨ (T = "str" ∧ ∃ z, v = .str z)
theorem tyM_is {X : Cx} {pins : List (Addr × Obj)} {σ : L2.St} {H : Hp} {s : Shared} {T : String} {x : V} {v : Value} (I : Inv X pins σ H s) (r : RelV x v) (ty : tyM T x H) :
    s.TypeIs v T ∧ ∀ a, v = .ref a → ∃ ob, s.heap.get? a = some ob ∧ ob.dict = none := by
  rcases ty with ⟨rfl, p, xs, rfl, hp⟩ | ⟨rfl, p, its, xs, rfl, hp⟩ | ⟨rfl, z, rfl⟩
  · exact tyV_is I r (.inl ⟨rfl, xs, .of hp⟩)
  · cases r
    obtain ⟨e, _⟩ := (show ObjOk X.prog X.w H s.heap p (.frz (tupO its) (.tup xs)) from I.hok p _ hp)
    exact ⟨⟨_, e, rfl⟩, fun a z => by cases z; exact ⟨_, e, rfl⟩⟩
  · exact tyV_is (T := "str") I r rfl
section
variable {X : Cx} {o e : Expr} {es : List Expr} {name : Str} {apos cpos : Pos} {T id : String} {r : V → List V → Hp → VK → Prop}
def tBMM (T : String) (r : V → List V → Hp → VK → Prop) (to : TE) (t : TA) : TE := fun σ H Q => to σ H fun x H1 => tyM T x H1 ∧ t σ H1 fun xs H2 => r x xs H2 Q
theorem pe_bmM {to : TE} {t : TA} (pa : PlainAttrs T) (slot : Slot T name id) (hty : typeOf (.builtin id) = pure (.type "method_descriptor")) (hm : MtR X id r) (ho : PE X o to) (ha : PA X (e :: es) t)
    (hbase : attributeBase o name X.env (eval o X.env) = eval o X.env)
    (hfew : ((backTo cpos (starEach (e :: es) X.env)).all (fun x => !x.1) && (backToKw cpos (keywordEach [] X.env)).all (fun x => x.1.isSome)
      && decide ((e :: es).length + ([] : List Keyword).length + (if ([] : List Keyword).isEmpty then 0 else 1) < 30)) = true)
    (hline : (apos.endLine == cpos.line) = true) (hs : starEach (e :: es) X.env = (false, eval e X.env) :: starEach es X.env) (hplain : (backTo cpos (starEach es X.env)).any (·.1) = false) :
    PE X (.Call (.Attribute o name apos) (e :: es) [] cpos) (tBMM T r to t) := by
  refine ⟨fun pins s σ H Q I h => ?_⟩
  refine wpAny_Call_method_late hbase hfew hline rfl (thn (ho.run pins s σ H _ I h) fun v s1 ⟨x, H1, I1, r1, ty, q1⟩ => ?_)
  obtain ⟨h1, h2⟩ := tyM_is I1 r1 ty
  refine ⟨T, id, pa, slot, hty, h1, h2, ?_⟩
  have hA := ha.run cpos pins s1 σ H1 _ I1 q1
  rw [hs] at hA ⊢
  refine Calls.callWith_builtin (by show (false || (backTo cpos (starEach es X.env)).any (·.1)) = false; rw [hplain] <;> rfl) (Calls.evalArgs_plain ?_)
  exact thn hA fun us s2 ⟨vs, H2, I2, r2, q2⟩ => hm pins s2 σ H2 x vs v us Q I2 r1 r2 q2
/-- a method's call over data: T is the receiver's type -/
def tyDM (T : String) (d : D) (h : DH) : Prop := (T = "list" ∧ ∃ xs, lsD d h = some xs) ∨ (T = "tuple" ∧ ∃ xs, d = .tup xs) ∨ (T = "str" ∧ ∃ z, d = .str z)
def wMeth (T : String) (rD : D → RCD) (wo : WE) (wa : WA) : WE := fun env h Q => wo env h fun x h1 => tyDM T x h1 ∧ wa env h1 fun ds h2 => rD x ds h2 Q
theorem pd_meth {rD : D → RCD} {wo : WE} {wa : WA} (pa : PlainAttrs T) (slot : Slot T name id) (hty : typeOf (.builtin id) = pure (.type "method_descriptor")) (hm : MtR X id r) (L : LiftM (gx X) rD r) (ho : PE X o (emb (gx X) wo)) (ha : PA X (e :: es) (embA (gx X) wa))
    (hbase : attributeBase o name X.env (eval o X.env) = eval o X.env)
    (hfew : ((backTo cpos (starEach (e :: es) X.env)).all (fun x => !x.1) && (backToKw cpos (keywordEach [] X.env)).all (fun x => x.1.isSome)
      && decide ((e :: es).length + ([] : List Keyword).length + (if ([] : List Keyword).isEmpty then 0 else 1) < 30)) = true)
    (hline : (apos.endLine == cpos.line) = true) (hs : starEach (e :: es) X.env = (false, eval e X.env) :: starEach es X.env) (hplain : (backTo cpos (starEach es X.env)).any (·.1) = false) :
    PE X (.Call (.Attribute o name apos) (e :: es) [] cpos) (emb (gx X) (wMeth T rD wo wa)) := by
  refine imPE (pe_bmM pa slot hty hm ho ha hbase hfew hline hs hplain) fun σ H Q ⟨φ, env, h, QD, hr, he, hw, c⟩ => ?_
  refine ⟨φ, env, h, _, hr, he, hw, fun φ1 H1 h1 x v e1 r1 q1 p1 => ⟨?_, ?_⟩⟩
  · rcases p1.1 with ⟨rfl, xs, hx⟩ | ⟨rfl, xs, rfl⟩ | ⟨rfl, z, rfl⟩
    · obtain ⟨a, vs, rfl, ha, _⟩ := ls_ok r1 q1 hx
      exact .inl ⟨rfl, a, vs, rfl, ha⟩
    · cases q1 with
      | tup n ha rs => exact .inr (.inl ⟨rfl, _, _, _, rfl, ha⟩)
    · cases q1
      exact .inr (.inr ⟨rfl, z, rfl⟩)
  · refine ⟨φ1, env, h1, _, r1, he.mono e1, p1.2, fun φ2 H2 h2 ds vs e2 r2 q2 p2 => ?_⟩
    exact L φ2 H2 h2 x v ds vs QD Q r2 (q1.mono e2) q2 p2 (c.later (e1.trans e2))
end
/-- xs.append(y) -/
def rdAppend : D → RCD := fun x ds h Q => ∃ i y xs, x = .ref i ∧ ds = [y] ∧ h[i]? = some (.lst xs) ∧ xs.length < sizeLine ∧ Q .non (h.set i (.lst (xs ++ [y])))
theorem lift_append {K : Gx} : LiftM K rdAppend rAppend := by
  intro φ H h x v ds vs QD QV r rx rs q c
  obtain ⟨i, y, xs, rfl, rfl, hi, hz, q⟩ := q
  obtain ⟨w, rfl, rw'⟩ := reps1 rs
  cases rx with
  | @ref _ a ha =>
    obtain ⟨a', ha', us, h1, h2⟩ := r.at hi
    obtain rfl : a = a' := Option.some.inj (ha.symm.trans ha')
    have ev : Ev φ H φ (upd H a (.lst (us ++ [w]))) := Ev.write (List.mem_of_getElem? ha)
    refine ⟨_, us, w, rfl, rfl, h1, by rw [h2.length]; exact hz, ?_⟩
    exact c _ _ _ _ _ ev (r.write (ob := .lst (xs ++ [y])) ha ⟨_, upd_same, (h2.append (.cons rw' .nil)).mono ev⟩) .non q
/-- the first place of an equal one -/
def firstAt (ys : List PyData) (d : PyData) (j : Nat) : Prop := (∃ z, ys[j]? = some z ∧ PyData.eqv z d = true) ∧ ∀ (m : Nat) (z : PyData), m < j → ys[m]? = some z → PyData.eqv z d = false
def rdIndex : D → RCD := fun x ds h Q => ∃ y xs j, ds = [y] ∧ sqD x h = some xs ∧ okD (.lst xs) ∧ okD y ∧ firstAt (D.pys xs) y.py j ∧ Q (.int (j : Nat)) h
theorem lift_indexL {K : Gx} : LiftM K (fun x ds h Q => (∃ xs, lsD x h = some xs) ∧ rdIndex x ds h Q) (rIndexD K.K) := by
  intro φ H h x v ds vs QD QV r rx rs ⟨⟨xs', hx'⟩, q⟩ c
  obtain ⟨y, xs, j, rfl, e, o1, o2, ⟨⟨z, hz, hzj⟩, hno⟩, q⟩ := q
  obtain ⟨w, rfl, rw'⟩ := reps1 rs
  obtain ⟨a, us, rfl, ha, rs'⟩ := ls_ok r rx hx'
  have e2 : xs' = xs := by
    cases x with
    | tup _ => cases hx'
    | _ => exact Option.some.inj (hx'.symm.trans e)
  subst e2
  have oy' : PyData.canLayAll0 (D.pys xs') = true := by
    have z := SeqAt.canLay_of_shaped o1
    simpa [D.py, PyData.canLay0] using z
  exact ⟨a, w, y.py, D.pys xs', j, z, rfl, rfl, .lst (.of ha) (rs'.dp oy'), rw'.dp (SeqAt.canLay_of_shaped o2), o1, o2, hz, hzj, hno, c.now r (.int _) q⟩
def rIndexT (K : PySem.W.Frag) : V → List V → Hp → VK → Prop := fun x xs H Q => ∃ (a : Addr) (y : V) (d : PyData) (ds : List PyData) (j : Nat) (z : PyData), x = V.ref a ∧ xs = [y] ∧ Dp K H (V.ref a) (.tuple ds) ∧ Dp K H y d ∧
  SeqAt.shaped (.tuple ds) = true ∧ SeqAt.shaped d = true ∧ ds[j]? = some z ∧ PyData.eqv z d = true ∧ (∀ (m : Nat) (z' : PyData), m < j → ds[m]? = some z' → PyData.eqv z' d = false) ∧ Q (.int (j : Nat)) H
theorem mt_indexT {X : Cx} (hu : X.A.units + 65 < cLine) : MtR X "tuple.index" (rIndexT X.K) := by
  intro pins s σ H x xs v us Q I rx rxs h
  obtain ⟨a, y, d, ds, j, z, rfl, rfl, hl, hy, sl, sd, hz, hzj, hno, q⟩ := h
  cases rx
  obtain ⟨uy, rfl, ry⟩ := vals1 rxs
  obtain ⟨bs, r1⟩ := Dp.reads I d y uy hy ry
  have hxs : PyData.canLayAll0 ds = true := SeqAt.canLay_of_shaped sl
  have hroom : X.A.units + 1 + min (PyData.depthAll ds) d.depth < cLine := room_in_shaped sd hu
  cases hl with
  | tup hs ha =>
    obtain ⟨its, rv, ⟨⟨cls, dd, data, sls⟩, ho, hc, n, hdt⟩, hlen⟩ := I.tuple hs
    simp only at hc hdt
    subst hc hdt
    obtain ⟨as, h4⟩ := Dp.readsAll I ds _ its ha rv
    have hn : its.length = ds.length := SeqAt.ReadsAll.length ds its as h4
    have hmap : its.map (SeqAt.readOf s.heap) = ds := SeqAt.readsAll_map ds its as hxs h4
    have hvl := rv.length
    obtain ⟨hjd, _⟩ := List.getElem?_eq_some_iff.mp hz
    have hjl : j < its.length := by omega
    have hj : j < its.toArray.size := by simpa using hjl
    have at_ : ∀ (m : Nat) (hm : m < its.toArray.size) (z' : PyData), ds[m]? = some z' → SeqAt.readOf s.heap its.toArray[m] = z' := by
      intro m hm z' hz'
      have hml : m < its.length := by simpa using hm
      rw [← hmap, List.getElem?_map, List.getElem?_eq_getElem hml] at hz'
      have e1 : SeqAt.readOf s.heap its[m] = z' := Option.some.inj (show some (SeqAt.readOf s.heap its[m]) = some z' from hz')
      simpa using e1
    refine call_meets PySem.F.slot_tuple_index ⟨_, ho, rfl⟩ PySem.F.entry_tuple_index (PySem.F.args_tuple_index_2 _ _) (TI.tuple_indexAt a its.toArray n dd sls uy (fun u => PyData.eqv (SeqAt.readOf s.heap u) d) j hj ?_ ?_)
      ⟨ho, SeqAt.items_eqAt (vs := its.toArray) (show ReadsAll s.heap its.toArray.toList ds as from h4) r1 hxs (SeqAt.canLay_of_shaped sd) hroom, ?_⟩
    · show PyData.eqv (SeqAt.readOf s.heap its.toArray[j]) d = true
      rw [at_ j hj z hz]
      exact hzj
    · intro m hm hmj
      have hmd : m < ds.length := by omega
      have hz' : ds[m]? = some ds[m] := List.getElem?_eq_getElem hmd
      show PyData.eqv (SeqAt.readOf s.heap its.toArray[m]) d = false
      rw [at_ m hm _ hz']
      exact hno m _ hmj hz'
    · exact ⟨.int (j : Nat), H, I.tok _, ⟨_, rfl⟩, q⟩
theorem lift_indexT {K : Gx} : LiftM K (fun x ds h Q => (∃ xs, x = .tup xs) ∧ rdIndex x ds h Q) (rIndexT K.K) := by
  intro φ H h x v ds vs QD QV r rx rs ⟨⟨xs', hx'⟩, q⟩ c
  subst hx'
  obtain ⟨y, xs, j, rfl, e, o1, o2, ⟨⟨z, hz, hzj⟩, hno⟩, q⟩ := q
  cases e
  obtain ⟨w, rfl, rw'⟩ := reps1 rs
  have oy' : PyData.canLayAll0 (D.pys xs') = true := by
    have z := SeqAt.canLay_of_shaped o1
    simpa [D.py, PyData.canLay0] using z
  have ot : SeqAt.shaped (.tuple (D.pys xs')) = true := by
    unfold okD SeqAt.shaped at o1
    unfold SeqAt.shaped
    simpa [D.py, PyData.canLay0, PyData.depth] using o1
  have dt : Dp K.K H v (.tuple (D.pys xs')) := by
    have := rx.dp (by unfold D.py; simpa [PyData.canLay0] using oy')
    simpa [D.py] using this
  obtain ⟨a, us, rfl, ha, rs'⟩ := tp_ok rx
  exact ⟨a, w, y.py, D.pys xs', j, z, rfl, rfl, dt, rw'.dp (SeqAt.canLay_of_shaped o2), ot, o2, hz, hzj, hno, c.now r (.int _) q⟩
end Pd

/-! Pd, part H: what is walked. -/
namespace PdE
open PySem
open Sem (wp)
open AutoSeq1 (wpAny_loadPart')
/-- enumerate(v) -/
theorem meets_enum1 {v : Value} {o : Obj} {H : Heap → Prop} (B : Begins v o H) :
    Meets (Builtin.«enumerate.__new__» ⟨[.type "enumerate", v], []⟩) (fun _ R s => H s.heap ∧
      R (.ok (.ret (.ref (s.heap.push o).objs.size))) { s with heap := (s.heap.push o).push { cls := .type "enumerate", data := .fields #[.none, .bool false, .ref s.heap.objs.size, rawInt 0, .none, .none] } }) :=
  .of_wp fun prog w A R s h => by
    obtain ⟨hp, g, d, tk, os⟩ := s; obtain ⟨h1, h⟩ := h
    have hsub := sub_enumerate
    have q1 : ∀ {A' : Around} {E : Value → Shared → Prop} {Q : Value → Shared → Prop}, Q (.ref hp.objs.size) ⟨hp.push o, g, d, tk, os⟩ → wpAny (model prog w) A' (pyIter v) Q E ⟨hp, g, d, tk, os⟩ :=
      fun q => B.iter prog w _ _ ⟨hp, g, d, tk, os⟩ _ h1 q
    wp_walk using q1
    refine wpAny_stack_any fun st => wpAny_pure ?_
    split
    · rename_i c _ _ _ _ _
      cases (c == Value.type "enumerate")
      · wp_walk using q1
        exact ⟨_, rfl, h⟩
      · wp_walk using q1
        exact ⟨_, rfl, h⟩
    · wp_walk using q1
      exact ⟨_, rfl, h⟩
section
variable {prog : Program} {w : World} {A : Around} {E : Value → Shared → Prop} {s : Shared}
theorem enum1 {v : Value} {o : Obj} {H : Heap → Prop} {Q : Value → Shared → Prop} (B : Begins v o H) (h1 : H s.heap)
    (h : ∀ h', IsEnum h' (s.heap.objs.size + 1) s.heap.objs.size 0 .none → h'.get? s.heap.objs.size = some o → h'.objs.size = s.heap.objs.size + 2 →
      (∀ b o, s.heap.get? b = some o → h'.get? b = some o) → Q (.ref (s.heap.objs.size + 1)) { s with heap := h' }) :
    wpAny (model prog w) A (call (.type "enumerate") [v]) Q E s := by
  refine callType_new F.called_enumerate (by decide) (F.typeCall_enumerate_1 _) (F.newCall_enumerate_1 _) (fun obj => F.args_object_init_2 obj _) F.entry_enumerate_new
    (meets_enum1 B) ⟨h1, ?_⟩
  have hz : (s.heap.push o).objs.size = s.heap.objs.size + 1 := Heap.size_push ..
  show _ ∧ _
  rw [hz]
  have he : IsEnum ((s.heap.push o).push { cls := .type "enumerate", data := .fields #[.none, .bool false, .ref s.heap.objs.size, rawInt 0, .none, .none] }) (s.heap.objs.size + 1) s.heap.objs.size 0 .none := by
    have := Heap.get?_push_size (s.heap.push o) (o := { cls := .type "enumerate", data := .fields #[.none, .bool false, .ref s.heap.objs.size, rawInt 0, .none, .none] }) rfl
    rw [hz] at this; exact this
  refine ⟨⟨_, he, rfl⟩, h _ he (Heap.get?_push_of_some _ (Heap.get?_push_size _ B.free)) (by rw [Heap.size_push, hz]) fun b o x => Heap.get?_push_of_some _ (Heap.get?_push_of_some _ x)⟩
end
end PdE
namespace Pd
open PySem PySem.Spec PyProof.Rows L2
/-- the tuple at a, each item in a new pair -/
def IteT (K : PySem.W.Frag) (a : Addr) : It :=
  ⟨fun i H => ∃ (xs : List V) (x : V), SqT K H a xs ∧ xs[i]? = some x, fun i H v H' => ∃ T x, v = .ref T ∧ H T = none ∧ H' = upd H T (.tup [.int (i : Nat), x]) ∧ ∀ xs, SqT K H a xs → xs[i]? = some x, fun i H => ∃ xs : List V, SqT K H a xs ∧ xs.length = i⟩
theorem turn_enumT {P : Program} {w : World} {K : PySem.W.Frag} {elts : List Expr} {kk : Nat} {tpos : Pos} (a e it : Addr) (hae : e ≠ a) (hai : a ≠ it) :
    Turn P w K (.Tuple elts kk tpos) (IteT K a) [e, it] e (fun i h => (∃ old, IsEnum h e it ((i : Nat) : Int) old) ∧ h.IsTupleIter it a i ∧ e ≠ it) where
  mem := by simp
  obj := fun i h st b hb => by
    obtain ⟨⟨old, he⟩, ⟨o, ho, hc, hd⟩, _⟩ := st
    have e' : b = e ∨ b = it := by simpa using hb
    rcases e' with z | z
    · rw [z]; exact ⟨_, he, fun v q => nomatch q⟩
    · rw [z]; exact ⟨o, ho, fun v q => by rw [hd] at q; cases q⟩
  keep := fun i h h' st k => let ⟨⟨old, he⟩, hi, hne⟩ := st; ⟨⟨old, k e (by simp) _ he⟩, hi.at fun o q => k it (by simp) o q, hne⟩
  item := by
    intro X hP hw hK hc i pins s σ H E I hf st hg
    subst hP hw hK
    obtain ⟨⟨old, he⟩, hit, hne⟩ := st
    obtain ⟨xs, x, hq, hx⟩ := hg
    obtain ⟨its, rv, p, hz⟩ := I.tuple hq
    obtain ⟨u, hu, ru⟩ := rv.get hx
    have hel : e < s.heap.objs.size := Heap.lt_size he
    have hil : it < s.heap.objs.size := by obtain ⟨_, q, _⟩ := hit; exact Heap.lt_size q
    have hlt : i < its.toArray.size := by
      have := (List.getElem?_eq_some_iff.mp hu).1
      simpa using this
    have DD := Draws.tuple (prog := X.prog) (w := X.w) (A := X.A.in1) (I.ok.hd hc) it a hai its.toArray
    refine wpAny_pyNext_enum_itemD (i := i) DD he ⟨hit, p⟩ hlt hne (by simp [hne, hae]) fun x' h' tk hx' ho hst hT hsz hk => ?_
    have ex : x' = u := by
      have e1 : its.toArray[i]? = some u := by simpa using hu
      exact Option.some.inj (hx'.symm.trans e1)
    subst ex
    refine ⟨_, rfl, wpAny_letOwnedTupleGo_enum (s := { s with heap := h', toks := tk + 1 }) ho fun h'' he' sb => ?_⟩
    have hT2 : h''.get? s.heap.objs.size = some { cls := .type "tuple", data := .seq #[.int i tk, x'] } := (sb.2 _ (Nat.ne_of_gt hel)).trans hT
    have new : ObjOk X.prog X.w (upd H s.heap.objs.size (.tup [.int (i : Nat), x])) h'' s.heap.objs.size (.tup [.int (i : Nat), x]) :=
      ⟨by show 2 ≤ sizeLine; decide, [.int i tk, x'], .cons ⟨_, rfl⟩ (.cons ru .nil), ⟨_, hT2, rfl, _, rfl⟩⟩
    have I1 : Inv X pins σ (upd H s.heap.objs.size (.tup [.int (i : Nat), x])) { s with heap := h'', toks := tk + 1 } :=
      I.turnedNew (ch := [e, it]) (fun b ob hb q => (sb.2 b (fun z => hb (by simp [z]))).trans (hk b ob (fun z => hb (by simp [z])) (fun z => hb (by simp [z])) q)) hf (Nat.le_refl _) new
    refine ⟨.ref s.heap.objs.size, _, I1, rfl, ⟨_, x, rfl, I.hok.fresh (Nat.le_refl _), rfl, fun ys hy => by rw [I.tuple_inj hy hq]; exact hx⟩, ⟨⟨x', ?_⟩, hst.1.at fun o q => (sb.2 it (Ne.symm hne)).trans q, hne⟩, fun b hb => ?_⟩
    · have e1 : ((i + 1 : Nat) : Int) = (i : Int) + 1 := by omega
      rw [e1]; exact he'
    · have hb' : b < s.heap.objs.size := by
        have e' : b = e ∨ b = it := by simpa using hb
        rcases e' with z | z
        · rw [z]; exact hel
        · rw [z]; exact hil
      rw [upd_ne (Nat.ne_of_lt hb')]
      exact (hf b hb).1
  done := by
    intro X hP hw hK hc i pins s σ H E I hf st hg
    subst hP hw hK
    obtain ⟨⟨old, he⟩, hit, hne⟩ := st
    obtain ⟨xs, hq, hx⟩ := hg
    obtain ⟨its, rv, p, hz⟩ := I.tuple hq
    obtain ⟨f0, f1, f2, f3, f4, f5⟩ := hf it (by simp)
    have hl := rv.length
    have DD := Draws.tuple (prog := X.prog) (w := X.w) (A := X.A.in1) (I.ok.hd hc) it a hai its.toArray
    refine wpAny_pyNext_enum_endD DD he ⟨by rw [List.size_toArray, ← hl, hx]; exact hit, p⟩ fun h' eb => ⟨rfl, I.turned (t' := s.toks) (fun b o hb q => eb b o hb q) f0 f1 f3 f4 f5⟩
  self := fun A i s Q E st h => let ⟨⟨_, he⟩, _⟩ := st; wpAny_pyIter_enum he h
section
variable {X : Cx} {tg l : Expr}
/-- a list or a tuple walked -/
def iSeqA (K : PySem.W.Frag) (tl : TE) : TI := fun σ H R => tl σ H fun x H1 => ∃ a, x = .ref a ∧ (((∃ xs, SqL K H1 a xs) ∧ R (Itl K a) H1) ∨ ((∃ xs, SqT K H1 a xs) ∧ R (Itt K a) H1))
theorem pi_seqA {tl : TE} (hl : PE X l tl) : PI X tg l (iSeqA X.K tl) := by
  refine ⟨fun pins s σ H R I h => ?_⟩
  refine thn (hl.run pins s σ H _ I h) fun v s1 ⟨x, H1, I1, r1, q1⟩ => ?_
  obtain ⟨a, e, q⟩ := q1
  subst e
  cases r1
  rcases q with ⟨⟨xs, hq⟩, q⟩ | ⟨⟨xs, hq⟩, q⟩
  · obtain ⟨its, rv, p, hz⟩ := I1.list hq
    refine wpAny_pyIter_list p.isList ?_
    refine ⟨s1.heap.objs.size, [s1.heap.objs.size], _, _, H1, rfl, I1.kept (t' := s1.toks) fun b o e => Heap.get?_push_of_some _ e, turn_list a _, ⟨_, Heap.get?_push_size _ rfl, rfl, rfl⟩, fun b hb => ?_, q⟩
    have e : b = s1.heap.objs.size := by simpa using hb
    subst e
    exact I1.fpOk (Nat.le_refl _) (I1.hok.fresh (Nat.le_refl _))
  · obtain ⟨its, rv, p, hz⟩ := I1.tuple hq
    refine wpAny_pyIter_tuple (show s1.heap.IsTuple a its.toArray from p) ?_
    refine ⟨s1.heap.objs.size, [s1.heap.objs.size], _, _, H1, rfl, I1.kept (t' := s1.toks) fun b o e => Heap.get?_push_of_some _ e, turn_tuple a _, ⟨_, Heap.get?_push_size _ rfl, rfl, rfl⟩, fun b hb => ?_, q⟩
    have e : b = s1.heap.objs.size := by simpa using hb
    subst e
    exact I1.fpOk (Nat.le_refl _) (I1.hok.fresh (Nat.le_refl _))
/-- enumerate of a list or a tuple -/
def iEnumA (K : PySem.W.Frag) (ta : TA) : TI := fun σ H R => ta σ H fun vs H1 => ∃ a, vs = [.ref a] ∧ (((∃ xs, SqL K H1 a xs) ∧ R (Ite K a) H1) ∨ ((∃ xs, SqT K H1 a xs) ∧ R (IteT K a) H1))
theorem pi_enumA {e : Expr} {ta : TA} {p pos tpos : Pos} {elts : List Expr} {kk : Nat} (hg : Gl X "enumerate") (hm : X.mg "enumerate" = none) (ha : PA X [e] ta) (hs : starEach [e] X.env = [(false, eval e X.env)]) :
    PI X (.Tuple elts kk tpos) (.Call (.Name "enumerate" p) [e] [] pos) (iEnumA X.K ta) := by
  refine ⟨fun pins s σ H R I h => ?_⟩
  refine Call_ (ld_blt I hg hm boot_enumerate (PyProof.Rows.callWith_type1 (thn (ha.run pos pins s σ H _ I h) fun us s1 ⟨vs, H1, I1, r1, q1⟩ => ?_) hs rfl))
  obtain ⟨a, ex, q⟩ := q1
  subst ex
  have ea := Vals.ref1 r1
  subst ea
  rcases q with ⟨⟨xs, hq⟩, q⟩ | ⟨⟨xs, hq⟩, q⟩
  · obtain ⟨its, rv, p', hz⟩ := I1.list hq
    refine call_enumerate_list p'.isList fun h' he hit hsz hk => wpAny_pyIter_enum he ?_
    have I2 : Inv X pins σ H1 { s1 with heap := h' } := I1.kept (t' := s1.toks) hk
    refine ⟨s1.heap.objs.size + 1, [s1.heap.objs.size + 1, s1.heap.objs.size], _, _, H1, rfl, I2, turn_enum a (s1.heap.objs.size + 1) s1.heap.objs.size, ⟨⟨.none, he⟩, hit, Nat.succ_ne_self _⟩, fun b hb => ?_, q⟩
    have e' : b = s1.heap.objs.size + 1 ∨ b = s1.heap.objs.size := by simpa using hb
    have hle : s1.heap.objs.size ≤ b := by
      rcases e' with z | z
      · rw [z]; exact Nat.le_add_right _ _
      · rw [z]; exact Nat.le_refl _
    exact I1.fpOk hle (I1.hok.fresh hle)
  · obtain ⟨its, rv, p', hz⟩ := I1.tuple hq
    have hal : a < s1.heap.objs.size := p'.lt
    refine PdE.enum1 (begins_tuple a its.toArray) p' fun h' he hit hsz hk => wpAny_pyIter_enum he ?_
    have I2 : Inv X pins σ H1 { s1 with heap := h' } := I1.kept (t' := s1.toks) hk
    refine ⟨s1.heap.objs.size + 1, [s1.heap.objs.size + 1, s1.heap.objs.size], _, _, H1, rfl, I2, turn_enumT a (s1.heap.objs.size + 1) s1.heap.objs.size (Nat.ne_of_gt (Nat.lt_succ_of_lt hal)) (Nat.ne_of_lt hal), ⟨⟨.none, he⟩, ⟨_, hit, rfl, rfl⟩, Nat.succ_ne_self _⟩, fun b hb => ?_, q⟩
    have e' : b = s1.heap.objs.size + 1 ∨ b = s1.heap.objs.size := by simpa using hb
    have hle : s1.heap.objs.size ≤ b := by
      rcases e' with z | z
      · rw [z]; exact Nat.le_add_right _ _
      · rw [z]; exact Nat.le_refl _
    exact I1.fpOk hle (I1.hok.fresh hle)
end
end Pd

/-! Pd, part I: walks over data, targets, comprehensions. -/
namespace Pd
open PySem PySem.Spec PyProof.Rows L2
inductive Item where
  | one (d : D)
  | two (d e : D)
def ItemR (G : Gx) (φ : Fi) (H : Hp) (v : V) : Item → Prop
  | .one d => Rep G φ H v d
  | .two d e => ∃ T vx vy, v = .ref T ∧ SqT G.K H T [vx, vy] ∧ Rep G φ H vx d ∧ Rep G φ H vy e
theorem Mv.trans {φ φ' φ'' : Fi} {H H' H'' : Hp} (e : Mv φ H φ' H') (e' : Mv φ' H' φ'' H'') : Mv φ H φ'' H'' :=
  ⟨fun a o h n => let ⟨n1, h1⟩ := e.nn a o h n; e'.nn a o h1 n1, fun i a h => e'.get i a (e.get i a h)⟩
theorem Mv.refl {φ : Fi} {H : Hp} : Mv φ H φ H := ⟨fun _ _ h n => ⟨n, h⟩, fun _ _ h => h⟩
/-- how an iterator goes over the items, from the state in which it was made -/
def WkR (G : Gx) (φ : Fi) (H : Hp) (J : It) (items : List Item) (chk : DH → Prop) : Prop := ∀ (φ' : Fi) (h' : DH) (H' : Hp) (i : Nat), Mv φ H φ' H' → HR G φ' H' h' → chk h' →
  (∀ it, items[i]? = some it → J.go i H' ∧ ∀ x H'', J.yld i H' x H'' → Ev φ' H' φ' H'' ∧ HR G φ' H'' h' ∧ ItemR G φ' H'' x it) ∧ (i = items.length → J.stop i H')
abbrev WI := Env → DH → (List Item → (DH → Prop) → DH → Prop) → Prop
def embI (G : Gx) (w : WI) : TI := fun σ H R => ∃ φ env h QI, HR G φ H h ∧ EnvR G φ H env σ ∧ w env h QI ∧ ∀ φ' H' h' items chk J, Ev φ H φ' H' → HR G φ' H' h' → WkR G φ' H' J items chk → QI items chk h' → R J H'
theorem imPI {X : Cx} {tg iter : Expr} {t t' : TI} (p : PI X tg iter t) (h : ∀ σ H R, t' σ H R → t σ H R) : PI X tg iter t' := ⟨fun pins s σ H R I hw => p.run pins s σ H R I (h σ H R hw)⟩
section
variable {X : Cx} {tg e e2 : Expr} {es : List Expr}
def wiSeq (wa : WE) : WI := fun env h QI => wa env h fun d h1 => ∃ xs, sqD d h1 = some xs ∧ QI (xs.map .one) (fun h' => sqD d h' = some xs) h1
theorem get_one {xs : List D} {i : Nat} {it : Item} (h : (xs.map Item.one)[i]? = some it) : ∃ d, xs[i]? = some d ∧ it = .one d := by
  rw [List.getElem?_map] at h
  obtain ⟨d, h1, h2⟩ := Option.map_eq_some_iff.mp h
  exact ⟨d, h1, h2.symm⟩
theorem wk_seqL {G : Gx} {φ : Fi} {H : Hp} {d : D} {a : Addr} {xs : List D} (rd : Rep G φ H (.ref a) d) (nt : ∀ ys, d ≠ .tup ys) : WkR G φ H (Itl G.K a) (xs.map .one) (fun h' => sqD d h' = some xs) := by
  intro φ' h' H' i mv hr ck
  have rd' := rd.mov mv
  have ck' : lsD d h' = some xs := by
    cases d with
    | tup ys => exact absurd rfl (nt ys)
    | _ => exact ck
  obtain ⟨a', vs, e1, ha, rs⟩ := ls_ok hr rd' ck'
  cases e1
  refine ⟨fun it hit => ?_, fun ei => ⟨vs, .of ha, by rw [rs.length, ei, List.length_map]; exact Nat.le_refl _⟩⟩
  obtain ⟨d1, h1, rfl⟩ := get_one hit
  obtain ⟨v, hv, rv⟩ := rs.get h1
  refine ⟨⟨vs, v, .of ha, hv⟩, fun x H'' ⟨e2, y⟩ => ?_⟩
  subst e2
  have := y vs (.of ha)
  rw [hv] at this; cases this
  exact ⟨.refl, hr, rv⟩
theorem wk_seqT {G : Gx} {φ : Fi} {H : Hp} {a : Addr} {xs : List D} (rd : Rep G φ H (.ref a) (.tup xs)) : WkR G φ H (Itt G.K a) (xs.map .one) (fun h' => sqD (.tup xs) h' = some xs) := by
  intro φ' h' H' i mv hr ck
  have rd' := rd.mov mv
  obtain ⟨a', vs, e1, ha, rs⟩ := tp_ok rd'
  cases e1
  refine ⟨fun it hit => ?_, fun ei => ⟨vs, ha, by rw [rs.length, ei, List.length_map]; exact Nat.le_refl _⟩⟩
  obtain ⟨d1, h1, rfl⟩ := get_one hit
  obtain ⟨v, hv, rv⟩ := rs.get h1
  refine ⟨⟨vs, v, ha, hv⟩, fun x H'' ⟨e2, y⟩ => ?_⟩
  subst e2
  have := y vs ha
  rw [hv] at this; cases this
  exact ⟨.refl, hr, rv⟩
theorem pdi_seq {wa : WE} (ha : PE X e (emb (gx X) wa)) : PI X tg e (embI (gx X) (wiSeq wa)) :=
  imPI (pi_seqA ha) fun σ H R ⟨φ, env, h, QI, hr, he, hw, c⟩ => by
    refine ⟨φ, env, h, _, hr, he, hw, fun φ1 H1 h1 d v e1 r1 q1 ⟨xs, hx, p1⟩ => ?_⟩
    cases d with
    | tup ys =>
      cases hx
      obtain ⟨a, vs, rfl, ha, rs⟩ := tp_ok q1
      exact ⟨a, rfl, .inr ⟨⟨vs, ha⟩, c _ _ _ _ _ _ e1 r1 (wk_seqT q1) p1⟩⟩
    | _ =>
      obtain ⟨a, vs, rfl, ha, rs⟩ := ls_ok r1 q1 hx
      exact ⟨a, rfl, .inl ⟨⟨vs, .of ha⟩, c _ _ _ _ _ _ e1 r1 (wk_seqL q1 (fun ys z => nomatch z)) p1⟩⟩
/-! ### ranges -/
def rngItems (lo : Int) (n : Nat) : List Item := (List.range n).map fun i => .one (.int (lo + (i : Nat)))
theorem wk_rng {G : Gx} {φ : Fi} {H : Hp} (lo : Int) (n : Nat) : WkR G φ H (Itr lo n) (rngItems lo n) (fun _ => True) := by
  intro φ' h' H' i mv hr ck
  have hl : (rngItems lo n).length = n := by unfold rngItems; rw [List.length_map, List.length_range]
  refine ⟨fun it hit => ?_, fun ei => by rw [hl] at ei; subst ei; exact Nat.le_refl _⟩
  have hi : i < n := by rw [← hl]; exact (List.getElem?_eq_some_iff.mp hit).1
  refine ⟨hi, fun x H'' ⟨e1, e2⟩ => ?_⟩
  subst e1 e2
  have e3 : it = .one (.int (lo + (i : Nat))) := by
    unfold rngItems at hit
    rw [List.getElem?_map, List.getElem?_range hi] at hit
    exact (Option.some.inj hit).symm
  subst e3
  exact ⟨.refl, hr, .int _⟩
def wiRng1 (wa : WA) : WI := fun env h QI => wa env h fun ds h1 => ∃ j : Int, ds = [.int j] ∧ -(2 ^ 62) ≤ j ∧ j < 2 ^ 62 ∧ QI (rngItems 0 j.toNat) (fun _ => True) h1
def wiRng2 (wa : WA) : WI := fun env h QI => wa env h fun ds h1 => ∃ i j : Int, ds = [.int i, .int j] ∧ (-(2 ^ 62) ≤ i ∧ i < 2 ^ 62 ∧ -(2 ^ 62) ≤ j ∧ j < 2 ^ 62) ∧ QI (rngItems i (j - i).toNat) (fun _ => True) h1
theorem pdi_rng1 {a : Expr} {wa : WA} {p pos : Pos} (hg : Gl X "range") (hm : X.mg "range" = none) (ha : PA X [a] (embA (gx X) wa)) (hs : starEach [a] X.env = [(false, eval a X.env)]) : PI X tg (.Call (.Name "range" p) [a] [] pos) (embI (gx X) (wiRng1 wa)) :=
  imPI (pi_range1 hg hm ha hs) fun σ H R ⟨φ, env, h, QI, hr, he, hw, c⟩ => by
    refine ⟨φ, env, h, _, hr, he, hw, fun φ1 H1 h1 ds vs e1 r1 q1 ⟨j, ej, j1, j2, p1⟩ => ?_⟩
    subst ej
    obtain ⟨v, rfl, rv⟩ := reps1 q1
    cases rv
    exact ⟨j, rfl, j1, j2, c _ _ _ _ _ _ e1 r1 (wk_rng 0 j.toNat) p1⟩
theorem pdi_rng2 {a b : Expr} {wa : WA} {p pos : Pos} (hg : Gl X "range") (hm : X.mg "range" = none) (ha : PA X [a, b] (embA (gx X) wa)) (hs : starEach [a, b] X.env = [(false, eval a X.env), (false, eval b X.env)]) (hs2 : starEach [b] X.env = [(false, eval b X.env)]) :
    PI X tg (.Call (.Name "range" p) [a, b] [] pos) (embI (gx X) (wiRng2 wa)) :=
  imPI (pi_range2 hg hm ha hs hs2) fun σ H R ⟨φ, env, h, QI, hr, he, hw, c⟩ => by
    refine ⟨φ, env, h, _, hr, he, hw, fun φ1 H1 h1 ds vs e1 r1 q1 ⟨i, j, ej, j1, p1⟩ => ?_⟩
    subst ej
    obtain ⟨v, w, rfl, rv, rw'⟩ := reps2 q1
    cases rv; cases rw'
    exact ⟨i, j, rfl, j1, c _ _ _ _ _ _ e1 r1 (wk_rng i (j - i).toNat) p1⟩
/-! ### enumerate, zip, reversed -/
def enumItems (xs : List D) : List Item := (List.range xs.length).zipWith (fun i d => .two (.int (i : Nat)) d) xs
theorem enum_get {xs : List D} {i : Nat} {it : Item} (h : (enumItems xs)[i]? = some it) : ∃ d, xs[i]? = some d ∧ it = .two (.int (i : Nat)) d := by
  unfold enumItems at h
  rw [List.getElem?_zipWith] at h
  cases hx : xs[i]? with
  | none => rw [hx] at h; simp at h
  | some d =>
    have hl := (List.getElem?_eq_some_iff.mp hx).1
    rw [hx, List.getElem?_range hl] at h
    exact ⟨d, rfl, (Option.some.inj h).symm⟩
theorem enum_len (xs : List D) : (enumItems xs).length = xs.length := by
  unfold enumItems
  rw [List.length_zipWith, List.length_range, Nat.min_self]
theorem item_two {G : Gx} {φ : Fi} {H : Hp} {h : DH} {T : Addr} {vx vy : V} {d e : D} (hr : HR G φ H h) (n : H T = none) (rx : Rep G φ H vx d) (ry : Rep G φ H vy e) :
    Ev φ H φ (upd H T (.tup [vx, vy])) ∧ HR G φ (upd H T (.tup [vx, vy])) h ∧ ItemR G φ (upd H T (.tup [vx, vy])) (.ref T) (.two d e) :=
  ⟨Ev.new n, hr.new n, T, vx, vy, rfl, .of upd_same, rx.mono (Ev.new n), ry.mono (Ev.new n)⟩
def wiEnum (wa : WA) : WI := fun env h QI => wa env h fun ds h1 => ∃ d xs, ds = [d] ∧ sqD d h1 = some xs ∧ QI (enumItems xs) (fun h' => sqD d h' = some xs) h1
theorem pdi_enum {wa : WA} {p pos tpos : Pos} {elts : List Expr} {kk : Nat} (hg : Gl X "enumerate") (hm : X.mg "enumerate" = none) (ha : PA X [e] (embA (gx X) wa)) (hs : starEach [e] X.env = [(false, eval e X.env)]) :
    PI X (.Tuple elts kk tpos) (.Call (.Name "enumerate" p) [e] [] pos) (embI (gx X) (wiEnum wa)) :=
  imPI (pi_enumA hg hm ha hs) fun σ H R ⟨φ, env, h, QI, hr, he, hw, c⟩ => by
    refine ⟨φ, env, h, _, hr, he, hw, fun φ1 H1 h1 ds vs e1 r1 q1 ⟨d, xs, ed, hx, p1⟩ => ?_⟩
    subst ed
    obtain ⟨v, rfl, rv⟩ := reps1 q1
    cases d with
    | tup ys =>
      cases hx
      obtain ⟨a, us, rfl, ha, rs⟩ := tp_ok rv
      refine ⟨a, rfl, .inr ⟨⟨us, ha⟩, c _ _ _ _ _ _ e1 r1 (fun φ' h' H' i mv hr ck => ?_) p1⟩⟩
      obtain ⟨a', us, e1, ha, rs⟩ := tp_ok (rv.mov mv)
      cases e1
      refine ⟨fun it hit => ?_, fun ei => ⟨us, ha, by rw [rs.length, ei, enum_len]⟩⟩
      obtain ⟨d1, h1, rfl⟩ := enum_get hit
      obtain ⟨w, hw, rw'⟩ := rs.get h1
      refine ⟨⟨us, w, ha, hw⟩, fun x H'' ⟨T, x', e1, e2, e3, y⟩ => ?_⟩
      have := y us ha
      rw [hw] at this; cases this
      subst e1 e3
      exact item_two hr e2 (.int _) rw'
    | _ =>
      obtain ⟨a, us, rfl, ha, rs⟩ := ls_ok r1 rv hx
      refine ⟨a, rfl, .inl ⟨⟨us, .of ha⟩, c _ _ _ _ _ _ e1 r1 (fun φ' h' H' i mv hr ck => ?_) p1⟩⟩
      obtain ⟨a', us, e1, ha, rs⟩ := ls_ok hr (rv.mov mv) ck
      cases e1
      refine ⟨fun it hit => ?_, fun ei => ⟨us, .of ha, by rw [rs.length, ei, enum_len]; exact Nat.le_refl _⟩⟩
      obtain ⟨d1, h1, rfl⟩ := enum_get hit
      obtain ⟨w, hw, rw'⟩ := rs.get h1
      refine ⟨⟨us, w, .of ha, hw⟩, fun x H'' ⟨T, x', e1, e2, e3, y⟩ => ?_⟩
      have := y us (.of ha)
      rw [hw] at this; cases this
      subst e1 e3
      exact item_two hr e2 (.int _) rw'
def isT : D → Bool
  | .tup _ => true
  | _ => false
def zipItems (xs ys : List D) : List Item := xs.zipWith (fun d e => .two d e) ys
theorem zip_get {xs ys : List D} {i : Nat} {it : Item} (h : (zipItems xs ys)[i]? = some it) : ∃ d e, xs[i]? = some d ∧ ys[i]? = some e ∧ it = .two d e := by
  unfold zipItems at h
  rw [List.getElem?_zipWith] at h
  cases hx : xs[i]? with
  | none => rw [hx] at h; simp at h
  | some d => cases hy : ys[i]? with
    | none => rw [hx, hy] at h; simp at h
    | some e =>
      rw [hx, hy] at h
      exact ⟨d, e, rfl, rfl, (Option.some.inj h).symm⟩
def wiZip (wa : WA) : WI := fun env h QI => wa env h fun ds h1 => ∃ d e xs ys, ds = [d, e] ∧ isT d = isT e ∧ sqD d h1 = some xs ∧ sqD e h1 = some ys ∧ QI (zipItems xs ys) (fun h' => sqD d h' = some xs ∧ sqD e h' = some ys) h1
theorem isT_ls {d : D} {h : DH} {xs : List D} (n : isT d = false) (e : sqD d h = some xs) : lsD d h = some xs := by
  cases d with
  | tup _ => cases n
  | _ => exact e
theorem isT_tup {d : D} {h : DH} {xs : List D} (n : isT d = true) (e : sqD d h = some xs) : d = .tup xs := by
  cases d with
  | tup _ => cases e; rfl
  | _ => cases n
theorem pdi_zip {wa : WA} {p pos tpos : Pos} {elts : List Expr} {kk : Nat} (hg : Gl X "zip") (hm : X.mg "zip" = none) (ha : PA X [e, e2] (embA (gx X) wa))
    (hs : starEach [e, e2] X.env = (false, eval e X.env) :: starEach [e2] X.env) (hpl : (backTo pos (starEach [e2] X.env)).any (·.1) = false) :
    PI X (.Tuple elts kk tpos) (.Call (.Name "zip" p) [e, e2] [] pos) (embI (gx X) (wiZip wa)) :=
  imPI (RZ.pi_zipA hg hm ha hs hpl) fun σ H R ⟨φ, env, h, QI, hr, he, hw, c⟩ => by
    refine ⟨φ, env, h, _, hr, he, hw, fun φ1 H1 h1 ds vs e1 r1 q1 ⟨d, e, xs, ys, ed, et, hx, hy, p1⟩ => ?_⟩
    subst ed
    obtain ⟨v, w, rfl, rv, rw'⟩ := reps2 q1
    cases hT : isT d with
    | true =>
      have z1 := isT_tup hT hx
      have z2 := isT_tup (et.symm.trans hT) hy
      subst z1 z2
      obtain ⟨a, us, rfl, ha, rs⟩ := tp_ok rv
      obtain ⟨b, ws, rfl, hb, rt⟩ := tp_ok rw'
      refine ⟨a, b, us, ws, rfl, .inr ⟨ha, hb, c _ _ _ _ _ _ e1 r1 (fun φ' h' H' i mv hr ck => ?_) p1⟩⟩
      obtain ⟨a', us, e1, ha, rs⟩ := tp_ok (rv.mov mv)
      cases e1
      obtain ⟨b', ws, e1, hb, rt⟩ := tp_ok (rw'.mov mv)
      cases e1
      refine ⟨fun it hit => ?_, fun ei => ⟨us, ws, ha, hb, by rw [rs.length, rt.length, ei]; unfold zipItems; rw [List.length_zipWith]; omega⟩⟩
      obtain ⟨d1, d2, h1, h2, rfl⟩ := zip_get hit
      obtain ⟨v1, hv1, rv1⟩ := rs.get h1
      obtain ⟨v2, hv2, rv2⟩ := rt.get h2
      refine ⟨⟨us, ws, v1, v2, ha, hb, hv1, hv2⟩, fun x H'' ⟨T, x', y', e1, e2, e3, y1, y2⟩ => ?_⟩
      have t1 := y1 us ha
      rw [hv1] at t1; cases t1
      have t2 := y2 ws hb
      rw [hv2] at t2; cases t2
      subst e1 e3
      exact item_two hr e2 rv1 rv2
    | false =>
      obtain ⟨a, us, rfl, ha, rs⟩ := ls_ok r1 rv (isT_ls hT hx)
      obtain ⟨b, ws, rfl, hb, rt⟩ := ls_ok r1 rw' (isT_ls (et.symm.trans hT) hy)
      refine ⟨a, b, us, ws, rfl, .inl ⟨.of ha, .of hb, c _ _ _ _ _ _ e1 r1 (fun φ' h' H' i mv hr ck => ?_) p1⟩⟩
      obtain ⟨a', us, e1, ha, rs⟩ := ls_ok hr (rv.mov mv) (isT_ls hT ck.1)
      cases e1
      obtain ⟨b', ws, e1, hb, rt⟩ := ls_ok hr (rw'.mov mv) (isT_ls (et.symm.trans hT) ck.2)
      cases e1
      refine ⟨fun it hit => ?_, fun ei => ⟨us, ws, .of ha, .of hb, by rw [rs.length, rt.length, ei]; unfold zipItems; rw [List.length_zipWith]; omega⟩⟩
      obtain ⟨d1, d2, h1, h2, rfl⟩ := zip_get hit
      obtain ⟨v1, hv1, rv1⟩ := rs.get h1
      obtain ⟨v2, hv2, rv2⟩ := rt.get h2
      refine ⟨⟨us, ws, v1, v2, .of ha, .of hb, hv1, hv2⟩, fun x H'' ⟨T, x', y', e1, e2, e3, y1, y2⟩ => ?_⟩
      have t1 := y1 us (.of ha)
      rw [hv1] at t1; cases t1
      have t2 := y2 ws (.of hb)
      rw [hv2] at t2; cases t2
      subst e1 e3
      exact item_two hr e2 rv1 rv2
def wiRev (wa : WE) : WI := fun env h QI => wa env h fun d h1 => ∃ xs, sqD d h1 = some xs ∧ QI (xs.reverse.map .one) (fun h' => sqD d h' = some xs) h1
theorem pdi_rev {wa : WE} {p pos : Pos} (hg : Gl X "reversed") (hm : X.mg "reversed" = none) (ha : PE X e (emb (gx X) wa)) (hs : starEach [e] X.env = (false, eval e X.env) :: starEach [] X.env) : PI X tg (.Call (.Name "reversed" p) [e] [] pos) (embI (gx X) (wiRev wa)) :=
  imPI (RT.pi_revA hg hm ha hs) fun σ H R ⟨φ, env, h, QI, hr, he, hw, c⟩ => by
    refine ⟨φ, env, h, _, hr, he, hw, fun φ1 H1 h1 d v e1 r1 rv ⟨xs, hx, p1⟩ => ?_⟩
    cases d with
    | tup ys =>
      cases hx
      obtain ⟨a, us, rfl, ha, rs⟩ := tp_ok rv
      refine ⟨a, us, rfl, .inr ⟨ha, c _ _ _ _ _ _ e1 r1 (fun φ' h' H' i mv hr ck => ?_) p1⟩⟩
      have hn := rs.length
      obtain ⟨a', us', e1, ha', rs'⟩ := tp_ok (rv.mov mv)
      cases e1
      refine ⟨fun it hit => ?_, fun ei => by rw [ei, List.length_map, List.length_reverse, hn]; exact Nat.le_refl _⟩
      obtain ⟨d1, h1, rfl⟩ := get_one hit
      have hi : i < xs.length := by
        have := (List.getElem?_eq_some_iff.mp h1).1
        rwa [List.length_reverse] at this
      rw [List.getElem?_reverse hi] at h1
      obtain ⟨w, hw, rw'⟩ := rs'.get h1
      refine ⟨⟨by rw [hn]; exact hi, us', w, ha', by rw [hn]; exact hw⟩, fun x H'' ⟨e2, y⟩ => ?_⟩
      have := y us' ha'
      rw [hn, hw] at this; cases this
      subst e2
      exact ⟨.refl, hr, rw'⟩
    | _ =>
      obtain ⟨a, us, rfl, ha, rs⟩ := ls_ok r1 rv hx
      refine ⟨a, us, rfl, .inl ⟨.of ha, c _ _ _ _ _ _ e1 r1 (fun φ' h' H' i mv hr ck => ?_) p1⟩⟩
      have hn := rs.length
      obtain ⟨a', us', e1, ha', rs'⟩ := ls_ok hr (rv.mov mv) ck
      cases e1
      refine ⟨fun it hit => ?_, fun ei => by rw [ei, List.length_map, List.length_reverse, hn]; exact Nat.le_refl _⟩
      obtain ⟨d1, h1, rfl⟩ := get_one hit
      have hi : i < xs.length := by
        have := (List.getElem?_eq_some_iff.mp h1).1
        rwa [List.length_reverse] at this
      rw [List.getElem?_reverse hi] at h1
      obtain ⟨w, hw, rw'⟩ := rs'.get h1
      refine ⟨⟨by rw [hn]; exact hi, us', w, .of ha', by rw [hn]; exact hw⟩, fun x H'' ⟨e2, y⟩ => ?_⟩
      have := y us' (.of ha')
      rw [hn, hw] at this; cases this
      subst e2
      exact ⟨.refl, hr, rw'⟩
end
end Pd

/-! Pd, part J: targets, comprehensions. -/
namespace Pd
open PySem PySem.Spec PyProof.Rows L2
/-! ### targets of a walk: a name, a flat tuple of names -/
inductive Tg where
  | nm (i : Nat)
  | tp (is : List Nat)
def Tg.slots : Tg → List Nat
  | .nm i => [i]
  | .tp is => is
def setAll : List Nat → List D → Env → Env
  | i :: is, d :: ds, env => setAll is ds (env.set i (some d))
  | _, _, env => env
def bindT : Tg → Item → Env → Option Env
  | .nm i, .one d, env => some (env.set i (some d))
  | .tp [i, j], .two d e, env => some ((env.set i (some d)).set j (some e))
  | .tp is, .one (.tup ds), env => if ds.length = is.length then some (setAll is ds env) else none
  | _, _, _ => none
def gNames : List Nat → TGs
  | [] => gNil
  | i :: is => gCons (gName i) (gNames is)
def gT (K : PySem.W.Frag) : Tg → TG
  | .nm i => gName i
  | .tp is => gTup K is.length (gNames is)
theorem wipe_set (σ : L2.St) (i : Nat) (x : Option V) : ∀ vs : List Nat, wipe (σ.set i x) vs = if i ∈ vs then wipe σ vs else (wipe σ vs).set i x
  | [] => by rw [if_neg (by simp)]; rfl
  | v :: vs => by
    show (wipe (σ.set i x) vs).set v none = if i ∈ v :: vs then (wipe σ vs).set v none else ((wipe σ vs).set v none).set i x
    rw [wipe_set σ i x vs]
    by_cases h : i ∈ vs
    · rw [if_pos h, if_pos (List.mem_cons_of_mem _ h)]
    · rw [if_neg h]
      by_cases e : i = v
      · subst e
        rw [if_pos List.mem_cons_self, List.set_set]
      · rw [if_neg (by simp [e, h]), List.set_comm _ _ e]
theorem wipe_idem (σ : L2.St) : ∀ vs : List Nat, wipe (wipe σ vs) vs = wipe σ vs
  | [] => rfl
  | v :: vs => by
    show (wipe ((wipe σ vs).set v none) vs).set v none = (wipe σ vs).set v none
    rw [wipe_set, wipe_idem σ vs]
    split
    · rfl
    · rw [List.set_set]
theorem wipe_in {σ : L2.St} {i : Nat} {x : Option V} {vs : List Nat} (h : i ∈ vs) : wipe (σ.set i x) vs = wipe σ vs := by rw [wipe_set, if_pos h]
section
variable {G : Gx} {φ : Fi} {H : Hp}
theorem names_ok : ∀ (is : List Nat) {vs : List V} {ds : List D} {env : Env} {σ : L2.St}, Reps G φ H vs ds → ds.length = is.length → EnvR G φ H env σ →
    ∃ σ', EnvR G φ H (setAll is ds env) σ' ∧ (∀ ws : List Nat, (∀ i ∈ is, i ∈ ws) → wipe σ' ws = wipe σ ws) ∧ ∀ Q : L2.St → Hp → Prop, Q σ' H → gNames is vs σ H Q
  | [], _, _, env, σ, .nil, _, r => ⟨σ, r, fun _ _ => rfl, fun Q q => ⟨rfl, q⟩⟩
  | [], _, _, _, _, .cons _ _, e, _ => by simp at e
  | _ :: _, _, _, _, _, .nil, e, _ => by simp at e
  | i :: is, v :: vs, d :: ds, env, σ, .cons rv rs, e, r => by
    obtain ⟨σ', h1, h2, h3⟩ := names_ok is rs (by simpa using e) (r.set (i := i) rv)
    refine ⟨σ', h1, fun ws hw => ?_, fun Q q => ⟨v, vs, rfl, h3 Q q⟩⟩
    rw [h2 ws fun j hj => hw j (List.mem_cons_of_mem _ hj), wipe_in (hw i List.mem_cons_self)]
theorem bind_ok (tg : Tg) {it : Item} {env env' : Env} {v : V} {σ : L2.St} (hb : bindT tg it env = some env') (r : EnvR G φ H env σ) (ri : ItemR G φ H v it) :
    ∃ σ', EnvR G φ H env' σ' ∧ (∀ ws : List Nat, (∀ i ∈ tg.slots, i ∈ ws) → wipe σ' ws = wipe σ ws) ∧ ∀ Q : L2.St → Hp → Prop, Q σ' H → gT G.K tg v σ H Q := by
  unfold bindT at hb
  split at hb
  · cases hb
    exact ⟨_, r.set ri, fun ws hw => wipe_in (hw _ (by simp [Tg.slots])), fun Q q => q⟩
  · cases hb
    obtain ⟨T, vx, vy, rfl, hT, rx, ry⟩ := ri
    refine ⟨_, (r.set rx).set ry, fun ws hw => ?_, fun Q q => ⟨T, _, rfl, hT, rfl, vx, [vy], rfl, vy, [], rfl, rfl, q⟩⟩
    rw [wipe_in (hw _ (by simp [Tg.slots])), wipe_in (hw _ (by simp [Tg.slots]))]
  · rename_i is ds
    split at hb
    · rename_i hl
      cases hb
      obtain ⟨a, vs, rfl, ha, rs⟩ := tp_ok ri
      obtain ⟨σ', h1, h2, h3⟩ := names_ok is rs hl r
      exact ⟨σ', h1, fun ws hw => h2 ws hw, fun Q q => ⟨a, vs, rfl, ha, by rw [rs.length, hl], h3 Q q⟩⟩
    · cases hb
  · cases hb
end
/-! ### comprehensions -/
def compD (chk : DH → Prop) (turn : Item → DH → (Option D → DH → Prop) → Prop) : List Item → List D → DH → (List D → DH → Prop) → Prop
  | [], acc, h, Q => chk h ∧ Q acc h
  | it :: r, acc, h, Q => chk h ∧ turn it h fun o h' => compD chk turn r (match o with
    | some d => acc ++ [d]
    | none => acc) h' Q
def wComp (m : Bool) (wi : WI) (tg : Tg) (vs : List Nat) (wt : WT) (we : WE) : WE := fun env h Q => wi env h fun items chk h1 => items.length ≤ sizeLine ∧
  compD chk (fun it h2 k => ∃ env1, bindT tg it (wipeD env vs) = some env1 ∧ wt env1 h2 fun b h3 => if b = true then we env1 h3 fun d h4 => k (some d) h4 else k none h3) items [] h1 fun acc h5 => mkL m acc h5 Q
section
variable {G : Gx} {φ φ' : Fi} {H H' : Hp} {h : DH}
theorem Ev.off {cs : List Addr} {xs : List Addr} {D : Addr} {o : HO} (e : Ev φ H ⟨cs, xs⟩ H') (n : H D = none) : Ev φ H ⟨cs, xs⟩ (upd H' D o) :=
  ⟨e.ext, e.ex, fun a u h1 h2 => by rw [upd_ne (ne_of_none h1 n)]; exact e.kp a u h1 h2, fun a h1 => by
    by_cases z : a = D
    · rw [z]; exact n
    · rw [upd_ne z] at h1; exact e.al a h1⟩
theorem Ev.shut {cs : List Addr} {D : Addr} (e : Ev φ H ⟨cs, φ.x⟩ H') (n : H D = none) : Mv φ H ⟨cs, D :: φ.x⟩ H' := by
  refine ⟨fun a o h1 h2 => ⟨Fi.nall (φ := ⟨cs, D :: φ.x⟩) (Fi.nc (φ := ⟨cs, φ.x⟩) (e.notin h1 h2)) fun m => ?_, e.kpa h1 h2⟩, fun i a h1 => e.get h1⟩
  rcases List.mem_cons.mp (show a ∈ D :: φ.x from m) with z | m
  · exact ne_of_none h1 n z
  · exact Fi.nx h2 m
theorem Ev.cells {cs cs' : List Addr} {xs ys : List Addr} (e : Ev ⟨cs, xs⟩ H ⟨cs', xs⟩ H') : Ev ⟨cs, ys⟩ H ⟨cs', ys⟩ H' := ⟨e.ext, rfl, e.kp, e.al⟩
theorem HR.adopt {cs xs : List Addr} {Z : Addr} {vs : List V} {ds : List D} (r : HR G ⟨cs, Z :: xs⟩ H h) (n : Z ∉ cs) (hz : Z ∉ xs) (hD : H Z = some (.lst vs)) (rs : Reps G ⟨cs, Z :: xs⟩ H vs ds) : HR G ⟨cs ++ [Z], xs⟩ H (h ++ [.lst ds]) := by
  have mv : Mv ⟨cs, Z :: xs⟩ H ⟨cs ++ [Z], xs⟩ H := by
    refine ⟨fun a o h1 h2 => ⟨Fi.nall (φ := ⟨cs ++ [Z], xs⟩) (fun m => ?_) fun m => Fi.nx (φ := ⟨cs, Z :: xs⟩) h2 (List.mem_cons_of_mem _ m), h1⟩, fun i a h1 => ?_⟩
    · rcases List.mem_append.mp (show a ∈ cs ++ [Z] from m) with m | m
      · exact Fi.nc (φ := ⟨cs, Z :: xs⟩) h2 m
      · rw [List.mem_singleton.mp m] at h2
        exact Fi.nx (φ := ⟨cs, Z :: xs⟩) h2 List.mem_cons_self
    · have h1 : cs[i]? = some a := h1
      show (cs ++ [Z])[i]? = some a
      rw [List.getElem?_append_left (List.getElem?_eq_some_iff.mp h1).1]
      exact h1
  have len : cs.length = h.length := r.len
  refine ⟨by show (cs ++ [Z]).length = _; rw [List.length_append, List.length_append, len]; rfl, ?_, fun i a o h1 h2 => ?_, fun a m => r.xt a (List.mem_cons_of_mem _ m), fun a m mx => ?_⟩
  · show (cs ++ [Z]).Nodup
    rw [List.nodup_append]
    refine ⟨r.nd, List.nodup_cons.mpr ⟨by simp, List.nodup_nil⟩, fun a ha b hb => ?_⟩
    rw [List.mem_singleton.mp hb]
    exact fun e => n (by rw [← e]; exact ha)
  · have h1 : (cs ++ [Z])[i]? = some a := h1
    rcases Nat.lt_or_ge i cs.length with hl | hl
    · rw [List.getElem?_append_left hl] at h1
      rw [List.getElem?_append_left (by rw [← len]; exact hl)] at h2
      exact (r.ob i a o h1 h2).mov mv rfl
    · rw [List.getElem?_append_right hl] at h1
      rw [List.getElem?_append_right (by rw [← len]; exact hl)] at h2
      have e0 : i - cs.length = 0 := by
        rcases Nat.eq_zero_or_pos (i - cs.length) with z | z
        · exact z
        · rw [List.getElem?_eq_none (by simp; omega)] at h1; cases h1
      rw [e0] at h1
      rw [← len, e0] at h2
      simp at h1 h2
      subst h1 h2
      exact ⟨vs, hD, rs.mov mv⟩
  · rcases List.mem_append.mp (show a ∈ cs ++ [Z] from m) with m | m
    · exact r.dj a m (List.mem_cons_of_mem _ mx)
    · rw [List.mem_singleton.mp m] at mx
      exact hz mx
end
theorem lift_comp {G : Gx} {m : Bool} {wi : WI} {tg : Tg} {vs : List Nat} {wt : WT} {we : WE} (hs : ∀ i ∈ tg.slots, i ∈ vs) {σ : L2.St} {H : Hp} {Q : VK} (q : emb G (wComp m wi tg vs wt we) σ H Q) :
    tLc (embI G wi) (gT G.K tg) (embT G wt) (emb G we) vs σ H Q := by
  obtain ⟨φ, env, h, QD, hr, he, hw, c⟩ := q
  refine ⟨φ, env, h, _, hr, he, hw, fun φ1 H1 h1 items chk J ev1 hr1 wk ⟨hz, q⟩ => ?_⟩
  intro D nD
  have nDx : D ∉ φ1.x := fun m => hr1.xt D m nD
  have he1 := he.mono ev1
  refine ⟨fun i mm Hc => ∃ (cs : List Addr) (h' : DH) (accV : List V) (accD : List Pd.D), mm = items.length - i ∧ i ≤ items.length ∧ Ev φ1 H1 ⟨cs, φ1.x⟩ Hc ∧ D ∉ cs ∧ HR G ⟨cs, D :: φ1.x⟩ Hc h' ∧ Hc D = some (.lst accV) ∧ Reps G ⟨cs, D :: φ1.x⟩ Hc accV accD ∧ accD.length ≤ i ∧
    compD chk (fun it h2 k => ∃ env1, bindT tg it (wipeD env vs) = some env1 ∧ wt env1 h2 fun b h3 => if b = true then we env1 h3 fun d h4 => k (some d) h4 else k none h3) (items.drop i) accD h' fun acc h5 => mkL m acc h5 QD,
    ⟨items.length, φ1.c, h1, [], [], by omega, Nat.zero_le _, Ev.off .refl nD, hr1.freshc nD, ?_, upd_same, .nil, Nat.le_refl _, q⟩, ?_⟩
  · exact hr1.keep (xs := D :: φ1.x) (Mv.shut nD) (fun a ha => upd_ne fun e => hr1.freshc nD (by rw [← e]; exact ha)) (fun a ha => by
      rcases List.mem_cons.mp ha with e | ha
      · rw [e, upd_same]; exact fun z => nomatch z
      · exact upd_there (hr1.xt a ha)) fun a ha hx => by
      rcases List.mem_cons.mp hx with e | hx
      · rw [e] at ha; exact hr1.freshc nD ha
      · exact hr1.dj a ha hx
  · rintro i mm Hc ⟨cs, h', accV, accD, em, hi, ev, nc, hr', hD, rs, hl, q⟩
    have mv : Mv φ1 H1 ⟨cs, D :: φ1.x⟩ Hc := ev.shut nD
    by_cases hlt : i < items.length
    · obtain ⟨it, hit⟩ : ∃ it, items[i]? = some it := ⟨items[i], List.getElem?_eq_getElem hlt⟩
      have ed : items.drop i = it :: items.drop (i + 1) := by
        rw [List.drop_eq_getElem_cons hlt]
        have := List.getElem?_eq_getElem hlt
        rw [this] at hit; cases hit; rfl
      rw [ed] at q
      obtain ⟨ck, env1, hb, q⟩ := q
      obtain ⟨go, yl⟩ := (wk ⟨cs, D :: φ1.x⟩ h' Hc i mv hr' ck).1 it hit
      refine .inr ⟨go, fun H' => ∃ m', m' < mm ∧ ∃ (cs : List Addr) (h' : DH) (accV : List V) (accD : List Pd.D), m' = items.length - (i + 1) ∧ i + 1 ≤ items.length ∧ Ev φ1 H1 ⟨cs, φ1.x⟩ H' ∧ D ∉ cs ∧ HR G ⟨cs, D :: φ1.x⟩ H' h' ∧ H' D = some (.lst accV) ∧ Reps G ⟨cs, D :: φ1.x⟩ H' accV accD ∧ accD.length ≤ i + 1 ∧
        compD chk (fun it h2 k => ∃ env1, bindT tg it (wipeD env vs) = some env1 ∧ wt env1 h2 fun b h3 => if b = true then we env1 h3 fun d h4 => k (some d) h4 else k none h3) (items.drop (i + 1)) accD h' fun acc h5 => mkL m acc h5 QD, fun H' z => z, fun x H2 y => ?_⟩
      obtain ⟨ev2, hr2, ri⟩ := yl x H2 y
      have he2 : EnvR G ⟨cs, D :: φ1.x⟩ H2 (wipeD env vs) (wipe σ vs) := ((he1.mov mv).mono ev2).wipe vs
      obtain ⟨σ2, he3, hws, hgo⟩ := bind_ok tg hb he2 ri
      refine hgo _ ⟨by rw [hws vs hs]; exact wipe_idem σ vs, ⟨cs, D :: φ1.x⟩, env1, h', _, hr2, he3, q, fun φ3 H3 h3 b ev3 hr3 q3 => ?_⟩
      have x3 : φ3.x = D :: φ1.x := ev3.ex
      have hD2 : H2 D = some (.lst accV) := ev2.kp D _ hD nc
      have hD3 : H3 D = some (.lst accV) := ev3.kp D _ hD2 (ev2.notc hD nc)
      have nc3 : D ∉ φ3.c := ev3.notc hD2 (ev2.notc hD nc)
      obtain ⟨c3, x3'⟩ := φ3
      obtain rfl : x3' = D :: φ1.x := x3
      cases b with
      | true =>
        refine ⟨⟨c3, D :: φ1.x⟩, env1, h3, _, hr3, he3.mono ev3, q3, fun φ4 H4 h4 d v ev4 hr4 rv q4 => ?_⟩
        have x4 : φ4.x = D :: φ1.x := ev4.ex
        have hD4 : H4 D = some (.lst accV) := ev4.kp D _ hD3 nc3
        have nc4 : D ∉ φ4.c := ev4.notc hD3 nc3
        obtain ⟨c4, x4'⟩ := φ4
        obtain rfl : x4' = D :: φ1.x := x4
        have evA : Ev ⟨cs, D :: φ1.x⟩ Hc ⟨c4, D :: φ1.x⟩ H4 := ev2.trans (ev3.trans ev4)
        have mw : Mv ⟨c4, D :: φ1.x⟩ H4 ⟨c4, D :: φ1.x⟩ (upd H4 D (.lst (accV ++ [v]))) := Mv.wx List.mem_cons_self
        refine ⟨accV, hD4, ?_, items.length - (i + 1), by omega, c4, h4, accV ++ [v], accD ++ [d], rfl, hlt, Ev.off (ev.trans evA.cells) nD, nc4, ?_, upd_same, ?_, ?_, q4⟩
        · rw [rs.length]; omega
        · exact hr4.keep mw (fun a ha => upd_ne fun e => nc4 (by rw [← e]; exact ha)) (fun a ha => upd_there (hr4.xt a ha)) hr4.dj
        · exact ((rs.mono evA).append (.cons rv .nil)).mov mw
        · rw [List.length_append]; simp; omega
      | false =>
        have evA : Ev ⟨cs, D :: φ1.x⟩ Hc ⟨c3, D :: φ1.x⟩ H3 := ev2.trans ev3
        exact ⟨items.length - (i + 1), by omega, c3, h3, accV, accD, rfl, hlt, ev.trans evA.cells, nc3, hr3, hD3, rs.mono evA, by omega, q3⟩
    · have ei : i = items.length := by omega
      subst ei
      rw [List.drop_length] at q
      obtain ⟨ck, q⟩ := q
      refine .inl ⟨(wk ⟨cs, D :: φ1.x⟩ h' Hc _ mv hr' ck).2 rfl, ?_⟩
      cases m with
      | true =>
        refine c ⟨cs ++ [D], φ1.x⟩ Hc (h' ++ [Ob.lst accD]) (.ref h'.length) (.ref D) ?_ (hr'.adopt nc nDx hD rs) (.ref ?_) (show mkL true accD h' QD from q)
        · have evB := ev1.trans ev
          obtain ⟨ψ, e1, f⟩ := evB.ext
          refine ⟨⟨ψ ++ [D], by show cs ++ [D] = _; rw [show cs = φ.c ++ ψ from e1, List.append_assoc], fun a ha => ?_⟩, evB.ex, evB.kp, evB.al⟩
          rcases List.mem_append.mp ha with ha | ha
          · exact f a ha
          · rw [List.mem_singleton.mp ha]; exact ev1.al D nD
        · show (cs ++ [D])[h'.length]? = some D
          rw [← (show cs.length = h'.length from hr'.len)]; simp
      | false =>
        refine c ⟨cs, φ1.x⟩ Hc h' (.lst accD) (.ref D) (ev1.trans ev) (hr'.keep (xs := φ1.x) Mv.open (fun _ _ => rfl) (fun a ha => hr'.xt a (List.mem_cons_of_mem _ ha)) fun a ha hx => hr'.dj a ha (List.mem_cons_of_mem _ hx)) (.lst (Fi.nall (φ := ⟨cs, φ1.x⟩) nc nDx) hD (rs.mov Mv.open)) q
end Pd

/-! Pd, part K: statements. -/
namespace Pd
open PySem PySem.Spec PyProof.Rows L2
/-! ### targets -/
abbrev WG := D → Env → DH → (Env → DH → Prop) → Prop
abbrev WGs := List D → Env → DH → (Env → DH → Prop) → Prop
def ContG (G : Gx) (φ : Fi) (H : Hp) (QD : Env → DH → Prop) (Q : L2.St → Hp → Prop) : Prop :=
  ∀ φ' H' h' env' σ', Ev φ H φ' H' → HR G φ' H' h' → EnvR G φ' H' env' σ' → QD env' h' → Q σ' H'
theorem ContG.later {G : Gx} {φ φ' : Fi} {H H' : Hp} {QD : Env → DH → Prop} {Q : L2.St → Hp → Prop} (c : ContG G φ H QD Q) (e : Ev φ H φ' H') : ContG G φ' H' QD Q := fun _ _ _ _ _ e' r q hq => c _ _ _ _ _ (e.trans e') r q hq
def embG (G : Gx) (w : WG) : TG := fun v σ H Q => ∃ φ env h d QD, HR G φ H h ∧ EnvR G φ H env σ ∧ Rep G φ H v d ∧ w d env h QD ∧ ContG G φ H QD Q
def embGs (G : Gx) (w : WGs) : TGs := fun vs σ H Q => ∃ φ env h ds QD, HR G φ H h ∧ EnvR G φ H env σ ∧ Reps G φ H vs ds ∧ w ds env h QD ∧ ContG G φ H QD Q
theorem imPG {X : Cx} {e : Expr} {t t' : TG} (p : PG X e t) (h : ∀ v σ H Q, t' v σ H Q → t v σ H Q) : PG X e t' := ⟨fun pins s σ H v u Q I r hw => p.run pins s σ H v u Q I r (h v σ H Q hw)⟩
theorem imPGs {X : Cx} {e : List Expr} {t t' : TGs} (p : PGs X e t) (h : ∀ v σ H Q, t' v σ H Q → t v σ H Q) : PGs X e t' := ⟨fun pins s σ H v u Q I r hw => p.run pins s σ H v u Q I r (h v σ H Q hw)⟩
def wgNm (i : Nat) : WG := fun d env h Q => Q (env.set i (some d)) h
def setD : D → D → D → DH → (DH → Prop) → Prop := fun o i v h Q => ∃ n, o = .ref n ∧
  ((∃ xs k j, h[n]? = some (.lst xs) ∧ i = .int k ∧ ixN xs.length k = some j ∧ Q (h.set n (.lst (xs.set j v)))) ∨
   (∃ kvs k, h[n]? = some (.dic kvs) ∧ keyD i = some k ∧ kvs.length < sizeLine ∧ Q (h.set n (.dic (dput kvs k v)))))
def wgSub (wo wi : WE) : WG := fun d env h Q => wo env h fun o h1 => wi env h1 fun i h2 => setD o i d h2 fun h3 => Q env h3
def wgNil : WGs := fun ds env h Q => ds = [] ∧ Q env h
def wgCons (wg : WG) (wr : WGs) : WGs := fun ds env h Q => ∃ d r, ds = d :: r ∧ wg d env h fun env1 h1 => wr r env1 h1 Q
def wgTup (n : Nat) (wr : WGs) : WG := fun d env h Q => ∃ xs, d = .tup xs ∧ xs.length = n ∧ wr xs env h Q
section
variable {X : Cx} {pos : Pos} {e o i : Expr} {es : List Expr}
theorem pd_gNm {i : Nat} {x : Str} (hN : X.N.Nodup) (hi : X.N[i]? = some x) (hx : Loc X.env.scope x) (hf : X.fn x = true ∨ X.env.scope.names.lookup x = some .local) : PG X (.Name x pos) (embG (gx X) (wgNm i)) :=
  imPG (pg_name hN hi hx hf) fun v σ H Q ⟨φ, env, h, d, QD, hr, he, rv, hw, c⟩ => c _ _ _ _ _ .refl hr (he.set rv) hw
def rSetAll (G : Gx) : V → V → V → Hp → (Hp → Prop) → Prop := fun o i v H Q => rSetL o i v H Q ∨ rSetD G o i v H Q
theorem set_all (hu : X.A.units + 1 < cLine) : PSet X (rSetAll (gx X)) := by
  intro pins s σ H x y v ov iv u Q I rx ry rv h
  rcases h with h | h
  · exact set_list pins s σ H x y v ov iv u Q I rx ry rv h
  · exact set_dic hu pins s σ H x y v ov iv u Q I rx ry rv h
theorem lift_set {G : Gx} {φ : Fi} {H : Hp} {h : DH} {o i v : D} {ov iv vv : V} {QD : DH → Prop} {Q : Hp → Prop} (r : HR G φ H h) (ro : Rep G φ H ov o) (ri : Rep G φ H iv i) (rv : Rep G φ H vv v) (q : setD o i v h QD)
    (c : ∀ H' h', Ev φ H φ H' → HR G φ H' h' → QD h' → Q H') : rSetAll G ov iv vv H Q := by
  obtain ⟨n, rfl, q⟩ := q
  rcases q with ⟨xs, k, j, hn, rfl, hj, q⟩ | ⟨kvs, k, hn, hk, hz, q⟩
  · cases ri
    cases ro with
    | @ref _ a ha =>
      obtain ⟨a', ha', us, h1, h2⟩ := r.at hn
      obtain rfl : a = a' := Option.some.inj (ha.symm.trans ha')
      have ev : Ev φ H φ (upd H a (.lst (us.set j vv))) := Ev.write (List.mem_of_getElem? ha)
      refine .inl ⟨a, us, k, j, rfl, rfl, h1, by rw [h2.length]; exact hj, ?_⟩
      exact c _ _ ev (r.write (ob := .lst (xs.set j v)) ha ⟨_, upd_same, (h2.set rv j).mono ev⟩) q
  · have e : dcD (.ref n) h = some kvs := by show (h[n]?).bind Ob.dc = some kvs; rw [hn]; rfl
    obtain ⟨a, b, xs, g, dr, nb, i', ei, hi, hh⟩ := dat_of r ro ri e hk
    cases ei
    obtain ⟨its, hb⟩ := g.hb
    refine .inr ⟨a, b, xs, k, g, by rw [dr.len]; exact hz, fun u ru => ?_⟩
    have ev : Ev φ H φ (upd H a (DicO G.P G.w a (storedH xs (Inj k) b u))) := Ev.write (List.mem_of_getElem? hi)
    obtain ⟨z1, z2, ws, z3, z4⟩ := ((dr.put nb hb ru rv).mono ev).to
    exact c _ _ ev (r.write (ob := .dic (dput kvs k v)) hi ⟨_, ws, upd_same, z1, z2, z3, z4⟩) q
theorem asg_sub {X : Cx} (hp : ∀ o' i', subscripted i false o' i' = operate [o', i'] (getItem o' i')) (ns : ∀ l u p, i ≠ .Slice l u none p) : ∀ v, assign (.Subscript o i pos) X.env v = (do
      let ov ← holding [v] (eval o X.env)
      let iv ← holding [v, ov] (eval i X.env)
      standAt pos
      holding [v, ov, iv] (setItem ov iv v)
      release [v, ov, iv] []) := by
  intro v
  cases i with
  | Slice l u st p =>
    cases st with
    | none => exact absurd rfl (ns l u p)
    | some st => rfl
  | _ => rfl
theorem pd_gSub {wo wi : WE} (hu : X.A.units + 1 < cLine) (ho : PE X o (emb (gx X) wo)) (hi : PE X i (emb (gx X) wi))
    (ha : ∀ v, assign (.Subscript o i pos) X.env v = (do
      let ov ← holding [v] (eval o X.env)
      let iv ← holding [v, ov] (eval i X.env)
      standAt pos
      holding [v, ov, iv] (setItem ov iv v)
      release [v, ov, iv] [])) : PG X (.Subscript o i pos) (embG (gx X) (wgSub wo wi)) :=
  imPG (pg_sub ho hi (set_all hu) ha) fun v σ H Q ⟨φ, env, h, d, QD, hr, he, rv, hw, c⟩ => by
    refine ⟨φ, env, h, _, hr, he, hw, fun φ1 H1 h1 od ov e1 r1 q1 p1 => ?_⟩
    refine ⟨φ1, env, h1, _, r1, he.mono e1, p1, fun φ2 H2 h2 id iv e2 r2 q2 p2 => ?_⟩
    exact lift_set r2 (q1.mono e2) q2 (rv.mono (e1.trans e2)) p2 fun H' h' e3 r3 q3 => c _ _ _ _ _ (e1.trans (e2.trans e3)) r3 (he.mono (e1.trans (e2.trans e3))) q3
theorem pd_gsNil : PGs X [] (embGs (gx X) wgNil) := imPGs pgs_nil fun v σ H Q ⟨φ, env, h, ds, QD, hr, he, rv, ⟨hd, hw⟩, c⟩ => by
  subst hd
  cases rv
  exact ⟨rfl, c _ _ _ _ _ .refl hr he hw⟩
theorem pd_gsCons {wg : WG} {wr : WGs} (h1 : PG X e (embG (gx X) wg)) (h2 : PGs X es (embGs (gx X) wr)) (hs : (assignEach (e :: es) X.env).map (·.2) = assign e X.env :: (assignEach es X.env).map (·.2)) : PGs X (e :: es) (embGs (gx X) (wgCons wg wr)) :=
  imPGs (pgs_cons h1 h2 hs) fun vs σ H Q ⟨φ, env, h, ds, QD, hr, he, rv, ⟨d, r, hd, hw⟩, c⟩ => by
    subst hd
    cases rv with
    | cons r1 r2 =>
      refine ⟨_, _, rfl, φ, env, h, d, _, hr, he, r1, hw, fun φ1 H1 h1 env1 σ1 e1 hr1 he1 q1 => ?_⟩
      exact ⟨φ1, env1, h1, r, QD, hr1, he1, r2.mono e1, q1, c.later e1⟩
theorem pd_gTup {wr : WGs} {k n : Nat} (hc : X.calm = true) (h : PGs X es (embGs (gx X) wr)) (hn : (assignEach es X.env).length = n) (hst : (assignEach es X.env).findIdx? (·.1) = none) : PG X (.Tuple es k pos) (embG (gx X) (wgTup n wr)) :=
  imPG (pg_tup hc h hn hst) fun v σ H Q ⟨φ, env, h, d, QD, hr, he, rv, ⟨xs, hd, hl, hw⟩, c⟩ => by
    subst hd
    obtain ⟨a, vs, rfl, ha, rs⟩ := tp_ok rv
    exact ⟨a, vs, rfl, ha, by rw [rs.length]; exact hl, φ, env, h, xs, QD, hr, he, rs, hw, c⟩
end
/-! ### statements -/
structure EndsD where
  nx : Env → DH → Prop
  rt : D → DH → Prop
  bk : Env → DH → Prop
  ct : Env → DH → Prop
abbrev WS := EndsD → Env → DH → Prop
structure ContS (G : Gx) (φ : Fi) (H : Hp) (DD : EndsD) (D' : Ends) : Prop where
  nx : ContG G φ H DD.nx D'.nx
  rt : Cont G φ H DD.rt D'.rt
  bk : ContG G φ H DD.bk D'.bk
  ct : ContG G φ H DD.ct D'.ct
theorem ContS.later {G : Gx} {φ φ' : Fi} {H H' : Hp} {DD : EndsD} {D' : Ends} (c : ContS G φ H DD D') (e : Ev φ H φ' H') : ContS G φ' H' DD D' := ⟨c.nx.later e, c.rt.later e, c.bk.later e, c.ct.later e⟩
def embS (G : Gx) (w : WS) : TS := fun D' σ H => ∃ φ env h DD, HR G φ H h ∧ EnvR G φ H env σ ∧ w DD env h ∧ ContS G φ H DD D'
def wsNil : WS := fun DD env h => DD.nx env h
def wsSeq (w1 w2 : WS) : WS := fun DD env h => w1 { DD with nx := w2 DD } env h
def wsBrk : WS := fun DD env h => DD.bk env h
def wsCnt : WS := fun DD env h => DD.ct env h
def wsNever : WS := fun _ _ _ => False
def wsExpr (w : WE) : WS := fun DD env h => w env h fun _ h1 => DD.nx env h1
def wsRet (w : WE) : WS := fun DD env h => w env h DD.rt
def wsRetN : WS := fun DD _ h => DD.rt .non h
def wsIf (wt : WT) (w1 w2 : WS) : WS := fun DD env h => wt env h fun b h1 => if b = true then w1 DD env h1 else w2 DD env h1
def wsAsg (w : WE) (wg : WG) : WS := fun DD env h => w env h fun d h1 => wg d env h1 DD.nx
def wsPar (i j : Nat) (wa : WA) : WS := fun DD env h => wa env h fun ds h1 => ∃ d e, ds = [d, e] ∧ DD.nx ((env.set i (some d)).set j (some e)) h1
def wsAug (i : Nat) (w : WE) (rD : R2D) : WS := fun DD env h => ∃ x, env[i]? = some (some x) ∧ w env h fun y h1 => rD x y h1 fun z h2 => DD.nx (env.set i (some z)) h2
def wsAugS (wo wi w : WE) (rD : R2D) : WS := fun DD env h => wo env h fun o' h1 => (∃ n, o' = .ref n) ∧ wi env h1 fun i' h2 => rdIx o' i' h2 fun x h3 => w env h3 fun y h4 => rD x y h4 fun z h5 => setD o' i' z h5 fun h6 => DD.nx env h6
def wsWhile (wt : WT) (w : WS) : WS := fun DD env h => ∃ I : Nat → Env → DH → Prop, (∃ n, I n env h) ∧ ∀ n env h, I n env h → wt env h fun b h1 =>
  if b = true then w { DD with nx := fun e' h' => ∃ m, m < n ∧ I m e' h', ct := fun e' h' => ∃ m, m < n ∧ I m e' h', bk := DD.nx } env h1 else DD.nx env h1
def forD (chk : DH → Prop) (turn : Item → Env → DH → (Env → DH → Prop) → Prop) : List Item → Env → DH → (Env → DH → Prop) → Prop
  | [], env, h, Q => chk h ∧ Q env h
  | it :: r, env, h, Q => chk h ∧ turn it env h fun env' h' => forD chk turn r env' h' Q
def wsFor (wi : WI) (tg : Tg) (w : WS) : WS := fun DD env h => wi env h fun items chk h1 =>
  forD chk (fun it env2 h2 K => ∃ env3, bindT tg it env2 = some env3 ∧ w { DD with nx := K, ct := K, bk := DD.nx } env3 h2) items env h1 DD.nx
section
variable {X : Cx} {pos : Pos} {st : Stmt} {rest body els : List Stmt} {e c tg o i : Expr}
theorem pd_sNil : PSs X [] (embS (gx X) wsNil) := imPSs pss_nil fun D' σ H ⟨φ, env, h, DD, hr, he, hw, c⟩ => c.nx _ _ _ _ _ .refl hr he hw
theorem pd_sCons {w1 w2 : WS} (h1 : PS X st (embS (gx X) w1)) (h2 : PSs X rest (embS (gx X) w2)) : PSs X (st :: rest) (embS (gx X) (wsSeq w1 w2)) :=
  imPSs (pss_cons h1 h2) fun D' σ H ⟨φ, env, h, DD, hr, he, hw, c⟩ =>
    ⟨φ, env, h, _, hr, he, hw, fun φ1 H1 h1 env1 σ1 e1 hr1 he1 q1 => ⟨φ1, env1, h1, DD, hr1, he1, q1, c.later e1⟩, c.rt, c.bk, c.ct⟩
theorem pd_pass : PS X (.Pass pos) (embS (gx X) wsNil) := imPS ps_pass fun D' σ H ⟨φ, env, h, DD, hr, he, hw, c⟩ => c.nx _ _ _ _ _ .refl hr he hw
theorem pd_brk : PS X (.Break pos) (embS (gx X) wsBrk) := imPS ps_break fun D' σ H ⟨φ, env, h, DD, hr, he, hw, c⟩ => c.bk _ _ _ _ _ .refl hr he hw
theorem pd_cnt : PS X (.Continue pos) (embS (gx X) wsCnt) := imPS ps_continue fun D' σ H ⟨φ, env, h, DD, hr, he, hw, c⟩ => c.ct _ _ _ _ _ .refl hr he hw
theorem pd_never : PS X st (embS (gx X) wsNever) := imPS ps_never fun D' σ H ⟨φ, env, h, DD, hr, he, hw, c⟩ => hw
theorem pd_expr {w : WE} (he : PE X e (emb (gx X) w)) (hs : swapsWith e none pos.line X.env = pure false) : PS X (.Expr e pos) (embS (gx X) (wsExpr w)) :=
  imPS (ps_expr he hs) fun D' σ H ⟨φ, env, h, DD, hr, he, hw, c⟩ => ⟨φ, env, h, _, hr, he, hw, fun φ1 H1 h1 d v e1 r1 q1 p1 => c.nx _ _ _ _ _ e1 r1 (he.mono e1) p1⟩
theorem pd_ret {w : WE} (he : PE X e (emb (gx X) w)) : PS X (.Return (some e) pos) (embS (gx X) (wsRet w)) :=
  imPS (ps_ret he) fun D' σ H ⟨φ, env, h, DD, hr, he, hw, c⟩ => ⟨φ, env, h, _, hr, he, hw, c.rt⟩
theorem pd_retN : PS X (.Return none pos) (embS (gx X) wsRetN) :=
  imPS ps_retN fun D' σ H ⟨φ, env, h, DD, hr, he, hw, c⟩ => c.rt.now hr .non hw
theorem pd_sIf {wt : WT} {w1 w2 : WS} (hc : PT X c (embT (gx X) wt)) (h1 : PSs X body (embS (gx X) w1)) (h2 : PSs X els (embS (gx X) w2)) : PS X (.If c body els pos) (embS (gx X) (wsIf wt w1 w2)) :=
  imPS (ps_if hc h1 h2) fun D' σ H ⟨φ, env, h, DD, hr, he, hw, c⟩ => ⟨φ, env, h, _, hr, he, hw, fun φ1 H1 h1 b e1 r1 p1 => by
    cases b with
    | true => exact ⟨φ1, env, h1, DD, r1, he.mono e1, p1, c.later e1⟩
    | false => exact ⟨φ1, env, h1, DD, r1, he.mono e1, p1, c.later e1⟩⟩
theorem lift_asg {G : Gx} {w : WE} {wg : WG} {D' : Ends} {σ : L2.St} {H : Hp} (q : embS G (wsAsg w wg) D' σ H) : tAsg (emb G w) (embG G wg) D' σ H := by
  obtain ⟨φ, env, h, DD, hr, he, hw, c⟩ := q
  exact ⟨φ, env, h, _, hr, he, hw, fun φ1 H1 h1 d v e1 r1 q1 p1 => ⟨φ1, env, h1, d, _, r1, he.mono e1, q1, p1, c.nx.later e1⟩⟩
theorem pd_asg {w : WE} {wg : WG} (he : PE X e (emb (gx X) w)) (hg : PG X tg (embG (gx X) wg)) (hs : swapsWithSole [tg] e pos.line X.env = pure false) (hw : swappedStores [tg] e X.env = pure none)
    (h1 : (assignEach [tg] X.env).map (·.2) = [assign tg X.env]) : PS X (.Assign [tg] e pos) (embS (gx X) (wsAsg w wg)) :=
  imPS (ps_asg he hg hs hw h1) fun _ _ _ q => lift_asg q
theorem pd_par {i j : Nat} {x y : Str} {a b : Expr} {wa : WA} {px py pt : Pos} {kt k2 : Nat} {pt2 : Pos} (hc : X.calm = true) (hN : X.N.Nodup) (hi : X.N[i]? = some x) (hj : X.N[j]? = some y) (hij : i ≠ j)
    (hx : X.env.scope.names.lookup x = some .local) (hy : X.env.scope.names.lookup y = some .local) (ha : PA X [a, b] (embA (gx X) wa))
    (hw : swappedStores [.Tuple [.Name x px, .Name y py] kt pt] (.Tuple [a, b] k2 pt2) X.env = pure (some [x, y]))
    (hs : swapsWithSole [.Tuple [.Name x px, .Name y py] kt pt] (.Tuple [a, b] k2 pt2) pos.line X.env = pure false) :
    PS X (.Assign [.Tuple [.Name x px, .Name y py] kt pt] (.Tuple [a, b] k2 pt2) pos) (embS (gx X) (wsPar i j wa)) :=
  imPS (ps_par hc hN hi hj hij hx hy ha hw hs) fun D' σ H ⟨φ, env, h, DD, hr, he, hw, c⟩ => by
    refine ⟨φ, env, h, _, hr, he, hw, fun φ1 H1 h1 ds vs e1 r1 q1 ⟨d, e, ed, p1⟩ => ?_⟩
    subst ed
    obtain ⟨v, w, rfl, rv, rw'⟩ := reps2 q1
    exact ⟨v, w, rfl, c.nx _ _ _ _ _ e1 r1 (((he.mono e1).set rv).set rw') p1⟩
theorem pd_aug {i : Nat} {x : Str} {op : Operator} {w : WE} {rD : R2D} {r : R2} {pos' : Pos} (ho : OpR X (inplaceOp op) r) (L : Lift2 (gx X) rD r) (hN : X.N.Nodup) (hi : X.N[i]? = some x) (hx : Loc X.env.scope x) (he : PE X e (emb (gx X) w)) (hf : X.fn x = true ∨ X.env.scope.names.lookup x = some .local) :
    PS X (.AugAssign (.Name x pos') op e pos) (embS (gx X) (wsAug i w rD)) :=
  imPS (ps_aug (ti := r) hN hi hx he ho hf) fun D' σ H ⟨φ, env, h, DD, hr, he, ⟨d, hd, hw⟩, c⟩ => by
    obtain ⟨v, hv, rv⟩ := he.2 i d hd
    refine ⟨v, hv, φ, env, h, _, hr, he, hw, fun φ1 H1 h1 y w e1 r1 q1 p1 => ?_⟩
    exact L φ1 H1 h1 d y v w _ _ r1 (rv.mono e1) q1 p1 fun φ2 H2 h2 z u e2 r2 q2 p2 => c.nx _ _ _ _ _ (e1.trans e2) r2 ((he.mono (e1.trans e2)).set q2) p2
theorem get_list : PGet X (rIxL X.K) := by
  intro pins s σ H o i ov iv Q I ro ri h
  obtain ⟨p, xs, k, z, rfl, rfl, hq, he, q⟩ := h
  cases ro
  obtain ⟨t, rfl⟩ := ri
  obtain ⟨its, r, pl, hz⟩ := I.list hq
  obtain ⟨j, h1, h2, h3, h4, h5⟩ := atI_get he
  obtain ⟨w, ew, rw'⟩ := r.get h2
  have hl := r.length
  have hn := line63
  have fin : EP X pins σ Q w s := ⟨z, H, I, rw', q⟩
  by_cases h0 : 0 ≤ k
  · have hj : k.toNat = j := by
      rw [seqIndex_of h0 h5] at h1
      exact Option.some.inj h1
    exact wpAny_getItem_list pl.isList h0 (by omega) (by rw [hj]; simpa using ew) fin
  · have hj : (k + (its.toArray.size : Int)).toNat = j := by
      rw [seqIndex_neg (by omega) h4] at h1
      rw [List.size_toArray, ← hl]
      exact Option.some.inj h1
    exact wpAny_getItem_list_neg pl.isList (by omega) (by rw [List.size_toArray] <;> omega) (by omega) (by rw [hj]; simpa using ew) fin
theorem get_dic (hu : X.A.units + 1 < cLine) : PGet X (rIxD (gx X)) := by
  intro pins s σ H x y v u Q I rx ry h
  obtain ⟨a, b, xs, k, c, w, z, g, hk, rz, q⟩ := h
  obtain ⟨h1, h2, dd, hb⟩ := g.dict (h := s.heap) I.hok
  obtain ⟨ex, ey, _, _, _⟩ := g
  subst ex ey
  cases rx; cases ry
  exact wpAny_getItem_heap (tupleKind_room_in1 hu) hb dd hk ⟨z, H, I.tok _, rz, q⟩
theorem get_all (hu : X.A.units + 1 < cLine) : PGet X (fun o i H Q => rIxL X.K o i H Q ∨ rIxD (gx X) o i H Q) := by
  intro pins s σ H o i ov iv Q I ro ri h
  rcases h with h | h
  · exact get_list pins s σ H o i ov iv Q I ro ri h
  · exact get_dic hu pins s σ H o i ov iv Q I ro ri h
/-- an item of a cell -/
theorem lift_get {G : Gx} {φ : Fi} {H : Hp} {h : DH} {x y : D} {v w : V} {QD : D → DH → Prop} {QV : VK} (r : HR G φ H h) (rx : Rep G φ H v x) (ry : Rep G φ H w y) (hr : ∃ n, x = .ref n) (q : rdIx x y h QD) (c : Cont G φ H QD QV) :
    rIxL G.K v w H QV ∨ rIxD G v w H QV := by
  obtain ⟨n, rfl⟩ := hr
  unfold rdIx at q
  split at q
  · rename_i xs e
    obtain ⟨i, d, rfl, hd, q⟩ := q
    obtain ⟨a, vs, rfl, hs, rs⟩ := ls_ok (d := .ref n) r rx e
    obtain ⟨u, hu, ru⟩ := atI_rep rs hd
    cases ry
    exact .inl ⟨a, vs, i, u, rfl, rfl, .of hs, hu, c.now r ru q⟩
  · split at q
    · rename_i kvs e
      obtain ⟨k, d, hk, hd, q⟩ := q
      obtain ⟨a, b, xs, g, dr, _⟩ := dat_of r rx ry e hk
      rcases dr.look k with ⟨z, _⟩ | ⟨d', b', u', v', h1, h2, h3, h4⟩
      · rw [hd] at z; cases z
      · rw [hd] at h1; cases h1
        exact .inr ⟨a, b, xs, k, b', u', v', g, h2, h3, c.now r h4 q⟩
    · obtain ⟨z, i, ch, e1, _⟩ := q
      cases e1
theorem pd_augS {op : Operator} {wo wi w : WE} {rD : R2D} {r : R2} {tpos : Pos} (hu : X.A.units + 1 < cLine) (hop : OpR X (inplaceOp op) r) (L : Lift2 (gx X) rD r) (ho : PE X o (emb (gx X) wo)) (hi : PE X i (emb (gx X) wi)) (he : PE X e (emb (gx X) w))
    (ha : ∀ ov iv new, augStore i ov iv new = (do holding [new, ov, iv] (setItem ov iv new); release [new, ov, iv] []; pure .next)) : PS X (.AugAssign (.Subscript o i tpos) op e pos) (embS (gx X) (wsAugS wo wi w rD)) :=
  imPS (ps_augS (tip := r) ho hi (get_all hu) he hop (set_all hu) ha) fun D' σ H ⟨φ, env, h, DD, hr, he, hw, c⟩ => by
    refine ⟨φ, env, h, _, hr, he, hw, fun φ1 H1 h1 od ov e1 r1 q1 ⟨hn, p1⟩ => ?_⟩
    refine ⟨φ1, env, h1, _, r1, he.mono e1, p1, fun φ2 H2 h2 id iv e2 r2 q2 p2 => ?_⟩
    refine lift_get r2 (q1.mono e2) q2 hn p2 fun φ3 H3 h3 xd xv e3 r3 q3 p3 => ?_
    refine ⟨φ3, env, h3, _, r3, he.mono (e1.trans (e2.trans e3)), p3, fun φ4 H4 h4 yd yv e4 r4 q4 p4 => ?_⟩
    refine L φ4 H4 h4 xd yd xv yv _ _ r4 (q3.mono e4) q4 p4 fun φ5 H5 h5 zd zv e5 r5 q5 p5 => ?_
    exact lift_set r5 (q1.mono (e2.trans (e3.trans (e4.trans e5)))) (q2.mono (e3.trans (e4.trans e5))) q5 p5 fun H' h' e6 r6 q6 =>
      c.nx _ _ _ _ _ (e1.trans (e2.trans (e3.trans (e4.trans (e5.trans e6))))) r6 (he.mono (e1.trans (e2.trans (e3.trans (e4.trans (e5.trans e6)))))) q6
/-! ### loops -/
theorem pd_while {wt : WT} {w : WS} (hp : PassesOwn (model X.prog X.w) X.A X.env X.xe) (hc : PT X c (embT (gx X) wt)) (hb : PSs X body (embS (gx X) w)) : PS X (.While c body [] pos) (embS (gx X) (wsWhile wt w)) :=
  imPS (ps_while hp hc hb) fun D' σ H ⟨φ, env, h, DD, hr, he, ⟨I, ⟨n0, i0⟩, turn⟩, c⟩ => by
    refine ⟨fun n σ' H' => ∃ φ' env' h', Ev φ H φ' H' ∧ HR (gx X) φ' H' h' ∧ EnvR (gx X) φ' H' env' σ' ∧ I n env' h', ⟨n0, φ, env, h, .refl, hr, he, i0⟩, ?_⟩
    rintro n σ1 H1 ⟨φ1, env1, h1, e1, r1, he1, i1⟩
    refine ⟨φ1, env1, h1, _, r1, he1, turn n env1 h1 i1, fun φ2 H2 h2 b e2 r2 p2 => ?_⟩
    cases b with
    | true =>
      refine ⟨fun σ' H' => ∃ m, m < n ∧ ∃ φ' env' h', Ev φ H φ' H' ∧ HR (gx X) φ' H' h' ∧ EnvR (gx X) φ' H' env' σ' ∧ I m env' h', fun σ' H' z => z, φ2, env1, h2, _, r2, he1.mono e2, p2, ?_, ?_, ?_, ?_⟩
      · exact fun φ3 H3 h3 env3 σ3 e3 r3 he3 ⟨m, hm, i3⟩ => ⟨m, hm, φ3, env3, h3, e1.trans (e2.trans e3), r3, he3, i3⟩
      · exact c.rt.later (e1.trans e2)
      · exact c.nx.later (e1.trans e2)
      · exact fun φ3 H3 h3 env3 σ3 e3 r3 he3 ⟨m, hm, i3⟩ => ⟨m, hm, φ3, env3, h3, e1.trans (e2.trans e3), r3, he3, i3⟩
    | false => exact c.nx _ _ _ _ _ (e1.trans e2) r2 (he1.mono e2) p2
theorem pd_for {wi : WI} {tg' : Tg} {w : WS} (hp : PassesOwn (model X.prog X.w) X.A X.env X.xe) (hc : X.calm = true) (hi : PI X tg e (embI (gx X) wi)) (hg : PG X tg (gT X.K tg')) (hb : PSs X body (embS (gx X) w))
    (hs : ∀ x, foldedSetIterable e X.env x = pure x) : PS X (.For tg e body [] pos) (embS (gx X) (wsFor wi tg' w)) :=
  imPS (ps_for hp hc hi hg hb hs) fun D' σ H ⟨φ, env, h, DD, hr, he, hw, c⟩ => by
    refine ⟨φ, env, h, _, hr, he, hw, fun φ1 H1 h1 items chk J ev1 hr1 wk q => ?_⟩
    have he1 := he.mono ev1
    refine ⟨fun i m σ' Hc => ∃ φ' env' h', m = items.length - i ∧ i ≤ items.length ∧ Ev φ1 H1 φ' Hc ∧ HR (gx X) φ' Hc h' ∧ EnvR (gx X) φ' Hc env' σ' ∧
      forD chk (fun it env2 h2 K => ∃ env3, bindT tg' it env2 = some env3 ∧ w { DD with nx := K, ct := K, bk := DD.nx } env3 h2) (items.drop i) env' h' DD.nx,
      ⟨items.length, φ1, env, h1, by omega, Nat.zero_le _, .refl, hr1, he1, q⟩, ?_⟩
    rintro i m σ' Hc ⟨φ2, env2, h2, em, hi', ev, hr2, he2, q⟩
    by_cases hlt : i < items.length
    · obtain ⟨it, hit⟩ : ∃ it, items[i]? = some it := ⟨items[i], List.getElem?_eq_getElem hlt⟩
      have ed : items.drop i = it :: items.drop (i + 1) := by
        rw [List.drop_eq_getElem_cons hlt]
        have := List.getElem?_eq_getElem hlt
        rw [this] at hit; cases hit; rfl
      rw [ed] at q
      obtain ⟨ck, env3, hb, q⟩ := q
      obtain ⟨go, yl⟩ := (wk φ2 h2 Hc i ev.mv hr2 ck).1 it hit
      refine .inr ⟨go, fun σ'' H' => ∃ m', m' < m ∧ ∃ φ' env' h', m' = items.length - (i + 1) ∧ i + 1 ≤ items.length ∧ Ev φ1 H1 φ' H' ∧ HR (gx X) φ' H' h' ∧ EnvR (gx X) φ' H' env' σ'' ∧
        forD chk (fun it env2 h2 K => ∃ env3, bindT tg' it env2 = some env3 ∧ w { DD with nx := K, ct := K, bk := DD.nx } env3 h2) (items.drop (i + 1)) env' h' DD.nx, fun σ'' H' z => z, fun x H3 y => ?_⟩
      obtain ⟨ev3, hr3, ri⟩ := yl x H3 y
      obtain ⟨σ3, he3, _, hgo⟩ := bind_ok tg' hb (he2.mono ev3) ri
      refine hgo _ ⟨φ2, env3, h2, _, hr3, he3, q, ?_, ?_, ?_, ?_⟩
      · exact fun φ4 H4 h4 env4 σ4 e4 r4 he4 q4 => ⟨items.length - (i + 1), by omega, φ4, env4, h4, rfl, hlt, ev.trans (ev3.trans e4), r4, he4, q4⟩
      · exact c.rt.later (ev1.trans (ev.trans ev3))
      · exact c.nx.later (ev1.trans (ev.trans ev3))
      · exact fun φ4 H4 h4 env4 σ4 e4 r4 he4 q4 => ⟨items.length - (i + 1), by omega, φ4, env4, h4, rfl, hlt, ev.trans (ev3.trans e4), r4, he4, q4⟩
    · have ei : i = items.length := by omega
      subst ei
      rw [List.drop_length] at q
      obtain ⟨ck, q⟩ := q
      exact .inl ⟨(wk φ2 h2 Hc _ ev.mv hr2 ck).2 rfl, c.nx _ _ _ _ _ (ev1.trans ev) hr2 he2 q⟩
end
end Pd

/-! Pd, part L: calls of own defs, what a def returns; list(range), tuple(range), len(set(..)). -/
namespace Pd
open PySem PySem.Spec PyProof.Rows L2
abbrev SpD := List D → DH → (D → DH → Prop) → Prop
def spP (G : Gx) (n : Nat) (s : SpD) : Sp := fun vs H Q _ => ∃ φ h ds QD, HR G φ H h ∧ Reps G φ H vs ds ∧ ds.length = n ∧ s ds h QD ∧ Cont G φ H QD Q
theorem spP_len {G : Gx} {n : Nat} {s : SpD} : ∀ vs H Q E, spP G n s vs H Q E → vs.length = n := fun vs H Q E ⟨φ, h, ds, QD, hr, rs, hl, _⟩ => rs.length.trans hl
def wFn (n : Nat) (s : SpD) (wa : WA) : WE := fun env h Q => wa env h fun ds h1 => ds.length = n ∧ s ds h1 Q
section
variable {X : Cx} {x : Str} {p pos : Pos} {e : Expr} {es : List Expr} {k : Nat} {f : Addr} {fd : FuncData} {ps : List Str} {s : SpD}
theorem lift_fn {G : Gx} {n : Nat} {wa : WA} {σ : L2.St} {H : Hp} {Q : VK} (q : emb G (wFn n s wa) σ H Q) : tCall (spP G n s) [] E0 (embA G wa) σ H Q := by
  obtain ⟨φ, env, h, QD, hr, he, hw, c⟩ := q
  refine ⟨φ, env, h, _, hr, he, hw, fun φ1 H1 h1 ds vs e1 r1 q1 ⟨hl, p1⟩ => ?_⟩
  show spP G n s (vs ++ []) H1 Q E0
  rw [List.append_nil]
  exact ⟨φ1, h1, ds, QD, r1, q1, hl, p1, c.later e1⟩
theorem pd_fn {wa : WA} (F : FnOk X.prog X.w X.K X.mg X.base CX0 k f fd ps (spP (gx X) ps.length s)) (hr : Room k X.A) (hg : Gl X x) (hm : X.mg x = some (.ref f)) (hk : PySem.W.keepIn X.K (.ref f) = true) (hb : Binds X.K fd ps [])
    (ha : PA X (e :: es) (embA (gx X) wa)) (hdb : (x == ("__debug__" : Str)) = false) (he : starEach (e :: es) X.env = (false, eval e X.env) :: starEach es X.env) (hpl : (backTo pos (starEach es X.env)).any (·.1) = false) :
    PE X (.Call (.Name x p) (e :: es) [] pos) (emb (gx X) (wFn ps.length s wa)) :=
  imPE (pe_call F hr hg hm hk hb .nil pass0 ha hdb he hpl) fun _ _ _ q => lift_fn q
theorem pd_fn0 (F : FnOk X.prog X.w X.K X.mg X.base CX0 k f fd ps (spP (gx X) ps.length s)) (hr : Room k X.A) (hg : Gl X x) (hm : X.mg x = some (.ref f)) (hk : PySem.W.keepIn X.K (.ref f) = true) (hb : Binds X.K fd ps [])
    (hdb : (x == ("__debug__" : Str)) = false) : PE X (.Call (.Name x p) [] [] pos) (emb (gx X) (wFn ps.length s wNil)) :=
  imPE (pe_call0 F hr hg hm hk hb .nil pass0 hdb) fun σ H Q q => by
    obtain ⟨φ, env, h, QD, hr, he, ⟨hl, hw⟩, c⟩ := q
    exact ⟨φ, h, [], QD, hr, .nil, hl, hw, c⟩
end
/-! ### what a def hands back -/
mutual
def D.bel (n : Nat) : D → Bool
  | .tup xs => D.bels n xs
  | .lst xs => D.bels n xs
  | .ref i => decide (i < n)
  | _ => true
def D.bels (n : Nat) : List D → Bool
  | [] => true
  | x :: xs => x.bel n && D.bels n xs
end
mutual
/-- cells from n on as values -/
def D.frz (n : Nat) (h : DH) : D → D
  | .tup xs => .tup (D.frzs n h xs)
  | .lst xs => .lst (D.frzs n h xs)
  | .ref i => if i < n then .ref i else match (h[i]?).bind Ob.ls with
    | some xs => .lst xs
    | none => .ref i
  | d => d
def D.frzs (n : Nat) (h : DH) : List D → List D
  | [] => []
  | x :: xs => x.frz n h :: D.frzs n h xs
end
def Ob.bel (n : Nat) : Ob → Bool
  | .lst xs => D.bels n xs
  | .dic kvs => D.bels n (kvs.map (·.2))
theorem belows_all (n : Nat) : ∀ xs : List D, D.bels n xs = xs.all (D.bel n)
  | [] => rfl
  | x :: xs => by unfold D.bels; rw [belows_all n xs]; rfl
/-- the ways a def's end can be seen: as it is; nothing left behind (a value without cells); new lists become values; as well with the caller's cells changed -/
def retD (h : DH) (Q : D → DH → Prop) (d : D) (h' : DH) : Prop :=
  Q d h' ∨ (d.bel 0 = true ∧ (∃ g, h' = h ++ g) ∧ Q d h) ∨ ((d.frz h.length h').bel h.length = true ∧ (∃ g, h' = h ++ g) ∧ Q (d.frz h.length h') h) ∨
  ((d.frz h.length h').bel h.length = true ∧ (h'.take h.length).all (Ob.bel h.length) = true ∧ Q (d.frz h.length h') (h'.take h.length))
section
variable {G : Gx} {φ φ' : Fi} {H H' : Hp} {h h' : DH}
mutual
theorem Rep.bel : ∀ {d : D} {v : V}, Rep G φ H v d → d.bel φ.c.length = true
  | .non, _, _ => rfl
  | .bl _, _, _ => rfl
  | .int _, _, _ => rfl
  | .str _, _, _ => rfl
  | .scr _, _, _ => rfl
  | .tup ds, _, .tup _ _ rs => by unfold D.bel; exact Reps.bel rs
  | .lst ds, _, .lst _ _ rs => by unfold D.bel; exact Reps.bel rs
  | .ref i, _, .ref h => by
    unfold D.bel
    exact decide_eq_true (List.getElem?_eq_some_iff.mp h).1
theorem Reps.bel : ∀ {ds : List D} {vs : List V}, Reps G φ H vs ds → D.bels φ.c.length ds = true
  | [], _, _ => rfl
  | d :: ds, _, .cons r t => by
    unfold D.bels
    rw [Rep.bel r, Reps.bel t]; rfl
end
theorem HR.bel (r : HR G φ H h) : ∀ o ∈ h, o.bel h.length = true := by
  intro o ho
  obtain ⟨i, hi⟩ := List.getElem?_of_mem ho
  obtain ⟨a, ha, ob⟩ := r.at hi
  cases o with
  | lst ds => obtain ⟨vs, _, rs⟩ := ob; unfold Ob.bel; rw [← r.len]; exact rs.bel
  | dic kvs => obtain ⟨xs, ws, _, _, _, _, rs⟩ := ob; unfold Ob.bel; rw [← r.len]; exact rs.bel
/-- φ' goes on φ -/
structure Low (φ φ' : Fi) (n : Nat) : Prop where
  c : ∃ ψ, φ'.c = φ.c ++ ψ
  x : φ'.x = φ.x
  ln : φ.c.length = n
theorem Low.all {n : Nat} (l : Low φ φ' n) {a : Addr} (h : a ∉ φ'.all) : a ∉ φ.all := by
  obtain ⟨ψ, e⟩ := l.c
  refine Fi.nall (fun m => Fi.nc h ?_) (by rw [← l.x]; exact Fi.nx h)
  rw [e]; exact List.mem_append_left _ m
mutual
theorem Rep.low {n : Nat} (l : Low φ φ' n) : ∀ {d : D} {v : V}, Rep G φ' H v d → d.bel n = true → Rep G φ H v d
  | .non, _, .non, _ => .non
  | .bl _, _, .bl b, _ => .bl b
  | .int _, _, .int i, _ => .int i
  | .str _, _, .str x, _ => .str x
  | .scr _, _, .scrR n h, _ => .scrR (l.all n) h
  | .scr _, _, .scrT n h, _ => .scrT (l.all n) h
  | .scr _, _, .scrK h, _ => .scrK h
  | .tup ds, _, .tup n h rs, b => .tup (l.all n) h (Reps.low l rs (by unfold D.bel at b; exact b))
  | .lst ds, _, .lst n h rs, b => .lst (l.all n) h (Reps.low l rs (by unfold D.bel at b; exact b))
  | .ref i, _, .ref h, b => by
    have hi : i < n := of_decide_eq_true (by unfold D.bel at b; exact b)
    obtain ⟨ψ, e⟩ := l.c
    rw [e, List.getElem?_append_left (by rw [l.ln]; exact hi)] at h
    exact .ref h
theorem Reps.low {n : Nat} (l : Low φ φ' n) : ∀ {ds : List D} {vs : List V}, Reps G φ' H vs ds → D.bels n ds = true → Reps G φ H vs ds
  | [], _, .nil, _ => .nil
  | d :: ds, _, .cons r t, b => by
    have b' : d.bel n = true ∧ D.bels n ds = true := by
      unfold D.bels at b
      exact Bool.and_eq_true_iff.mp b
    exact .cons (Rep.low l r b'.1) (Reps.low l t b'.2)
end
mutual
theorem Rep.frzR {n : Nat} (l : Low φ φ' n) (hr : HR G φ' H h') (nx : ∀ a ∈ φ'.c, a ∉ φ.x) : ∀ {d : D} {v : V}, Rep G φ' H v d → (d.frz n h').bel n = true → Rep G φ H v (d.frz n h')
  | .non, _, .non, _ => .non
  | .bl _, _, .bl b, _ => .bl b
  | .int _, _, .int i, _ => .int i
  | .str _, _, .str x, _ => .str x
  | .scr _, _, .scrR n h, _ => .scrR (l.all n) h
  | .scr _, _, .scrT n h, _ => .scrT (l.all n) h
  | .scr _, _, .scrK h, _ => .scrK h
  | .tup ds, _, .tup n h rs, b => by
    unfold D.frz at b ⊢
    exact .tup (l.all n) h (Reps.frzR l hr nx rs (by unfold D.bel at b; exact b))
  | .lst ds, _, .lst n h rs, b => by
    unfold D.frz at b ⊢
    exact .lst (l.all n) h (Reps.frzR l hr nx rs (by unfold D.bel at b; exact b))
  | .ref i, v, r, b => by
    unfold D.frz at b ⊢
    by_cases hi : i < n
    · rw [if_pos hi] at b ⊢
      exact Rep.low l r b
    · rw [if_neg hi] at b ⊢
      cases hx : (h'[i]?).bind Ob.ls with
      | none =>
        rw [hx] at b
        unfold D.bel at b
        exact absurd (of_decide_eq_true b) hi
      | some xs =>
        rw [hx] at b
        dsimp only at b ⊢
        obtain ⟨a, vs, e, ha, rs⟩ := ls_ok (d := .ref i) hr r hx
        subst e
        cases r with
        | ref hc =>
          refine .lst (Fi.nall (fun m => ?_) (nx a (List.mem_of_getElem? hc))) ha (Reps.low l rs (by unfold D.bel at b; exact b))
          obtain ⟨ψ, e⟩ := l.c
          obtain ⟨j, hj⟩ := List.getElem?_of_mem m
          have hjl := (List.getElem?_eq_some_iff.mp hj).1
          have hj' : φ'.c[j]? = some a := by rw [e, List.getElem?_append_left hjl]; exact hj
          have hil := (List.getElem?_eq_some_iff.mp hc).1
          have := (List.getElem?_inj hil hr.nd).mp (hc.trans hj'.symm)
          have hn := l.ln
          omega
theorem Reps.frzR {n : Nat} (l : Low φ φ' n) (hr : HR G φ' H h') (nx : ∀ a ∈ φ'.c, a ∉ φ.x) : ∀ {ds : List D} {vs : List V}, Reps G φ' H vs ds → D.bels n (D.frzs n h' ds) = true → Reps G φ H vs (D.frzs n h' ds)
  | [], _, .nil, _ => .nil
  | d :: ds, _, .cons r t, b => by
    have b' : (d.frz n h').bel n = true ∧ D.bels n (D.frzs n h' ds) = true := by
      unfold D.frzs D.bels at b
      exact Bool.and_eq_true_iff.mp b
    unfold D.frzs
    exact .cons (Rep.frzR l hr nx r b'.1) (Reps.frzR l hr nx t b'.2)
end
theorem HR.low {n : Nat} (hr : HR G φ' H h') (l : Low φ φ' n) (hb : ∀ o ∈ h'.take n, o.bel n = true) : HR G φ H (h'.take n) := by
  obtain ⟨ψ, e⟩ := l.c
  have hn := l.ln
  have hl := hr.len
  refine ⟨?_, ?_, fun i a o h1 h2 => ?_, fun a m => hr.xt a (by rw [l.x]; exact m), fun a m mx => hr.dj a (by rw [e]; exact List.mem_append_left _ m) (by rw [l.x]; exact mx)⟩
  · rw [List.length_take, ← hl, e, List.length_append]; omega
  · have := hr.nd
    rw [e, List.nodup_append] at this
    exact this.1
  · have hi : i < n := by rw [← hn]; exact (List.getElem?_eq_some_iff.mp h1).1
    have bo := hb o (List.mem_of_getElem? h2)
    rw [List.getElem?_take, if_pos hi] at h2
    have ob := hr.ob i a o (by rw [e, List.getElem?_append_left (by omega)]; exact h1) h2
    cases o with
    | lst ds =>
      obtain ⟨vs, h3, h4⟩ := ob
      exact ⟨vs, h3, h4.low l bo⟩
    | dic kvs =>
      obtain ⟨xs, ws, h3, h4, h5, h6, h7⟩ := ob
      exact ⟨xs, ws, h3, h4, fun x hx => ⟨l.all (h5 x hx).1, (h5 x hx).2⟩, h6, h7.low l bo⟩
mutual
theorem below_mono {m n : Nat} (hl : m ≤ n) : ∀ {d : D}, d.bel m = true → d.bel n = true
  | .non, _ => rfl
  | .bl _, _ => rfl
  | .int _, _ => rfl
  | .str _, _ => rfl
  | .scr _, _ => rfl
  | .tup ds, b => by unfold D.bel at b ⊢; exact belows_mono hl b
  | .lst ds, b => by unfold D.bel at b ⊢; exact belows_mono hl b
  | .ref i, b => by unfold D.bel at b ⊢; exact decide_eq_true (Nat.lt_of_lt_of_le (of_decide_eq_true b) hl)
theorem belows_mono {m n : Nat} (hl : m ≤ n) : ∀ {ds : List D}, D.bels m ds = true → D.bels n ds = true
  | [], _ => rfl
  | d :: ds, b => by
    unfold D.bels at b ⊢
    have b' := Bool.and_eq_true_iff.mp b
    rw [below_mono hl b'.1, belows_mono hl b'.2]; rfl
end
/-- a def's end, seen by the caller -/
theorem ret_ok {QD : D → DH → Prop} {Q : VK} (r0 : HR G φ H h) (c : Cont G φ H QD Q) (e : Ev φ H φ' H') (r : HR G φ' H' h') {d : D} {v : V} (rv : Rep G φ' H' v d) (q : retD h QD d h') : Q v H' := by
  have l : Low φ φ' h.length := ⟨let ⟨ψ, e1, _⟩ := e.ext; ⟨ψ, e1⟩, e.ex, r0.len⟩
  have evl : Ev φ H φ H' := ⟨⟨[], by simp⟩, rfl, e.kp, e.al⟩
  have nx : ∀ a ∈ φ'.c, a ∉ φ.x := by
    obtain ⟨ψ, e1, f⟩ := e.ext
    intro a m mx
    rw [e1] at m
    rcases List.mem_append.mp m with m | m
    · exact r0.dj a m mx
    · exact r0.xt a mx (f a m)
  have tk : ∀ g, h' = h ++ g → h'.take h.length = h := fun g eg => by rw [eg]; simp
  rcases q with q | ⟨b, ⟨g, eg⟩, q⟩ | ⟨b, ⟨g, eg⟩, q⟩ | ⟨b, bo, q⟩
  · exact c _ _ _ _ _ e r rv q
  · have r2 : HR G φ H' h := by
      have := r.low l (by rw [tk g eg]; exact r0.bel)
      rwa [tk g eg] at this
    exact c _ _ _ _ _ evl r2 (rv.low l (below_mono (Nat.zero_le _) b)) q
  · have r2 : HR G φ H' h := by
      have := r.low l (by rw [tk g eg]; exact r0.bel)
      rwa [tk g eg] at this
    exact c _ _ _ _ _ evl r2 (rv.frzR l r nx b) q
  · have r2 : HR G φ H' (h'.take h.length) := r.low l fun o ho => List.all_eq_true.mp bo o ho
    exact c _ _ _ _ _ evl r2 (rv.frzR l r nx b) q
end
end Pd

/-! Pd, part M: list(range), tuple(range), len(set(ints)), t[::-1]. -/
namespace Pd
open PySem PySem.Spec PyProof.Rows L2
/-! ### ranges as values -/
abbrev WRg := Env → DH → (Int → Int → DH → Prop) → Prop
abbrev TRg := L2.St → Hp → (Int → Int → Hp → Prop) → Prop
def embRg (G : Gx) (w : WRg) : TRg := fun σ H Q => ∃ φ env h QD, HR G φ H h ∧ EnvR G φ H env σ ∧ w env h QD ∧ ∀ φ' H' h' a b, Ev φ H φ' H' → HR G φ' H' h' → QD a b h' → Q a b H'
def wRg1 (wa : WE) : WRg := fun env h Q => wa env h fun d h1 => ∃ n, d = .int n ∧ Q 0 n h1
def wRg2 (wa wb : WE) : WRg := fun env h Q => wa env h fun d h1 => wb env h1 fun e h2 => ∃ i j, d = .int i ∧ e = .int j ∧ Q i j h2
def rgD (a b : Int) : List D := (List.range (b - a).toNat).map fun i => D.int (a + (i : Nat))
theorem rg_reps {G : Gx} {φ : Fi} {H : Hp} (a b : Int) : Reps G φ H (rgV a b) (rgD a b) := by
  have e1 : rgV a b = ((List.range (b - a).toNat).map fun i : Nat => a + (i : Int)).map V.int := by unfold rgV; rw [List.map_map]; rfl
  have e2 : rgD a b = ((List.range (b - a).toNat).map fun i : Nat => a + (i : Int)).map D.int := by unfold rgD; rw [List.map_map]; rfl
  rw [e1, e2]
  exact Reps.ints _
def wListRg (m : Bool) (w : WRg) : WE := fun env h Q => w env h fun a b h1 => RgOk a b ∧ mkL m (rgD a b) h1 Q
def wTupRg (w : WRg) : WE := fun env h Q => w env h fun a b h1 => RgOk a b ∧ Q (.tup (rgD a b)) h1
section
variable {X : Cx} {a b e : Expr} {p pos : Pos}
theorem imPRg {e : Expr} {t t' : TRg} (h : PRg X e t) (i : ∀ σ H Q, t' σ H Q → t σ H Q) : PRg X e t' := fun pins s σ H Q I hw => h pins s σ H Q I (i σ H Q hw)
theorem pdr_1 {wa : WE} (hg : Gl X "range") (hm : X.mg "range" = none) (ha : PE X a (emb (gx X) wa)) (na : starEach [a] X.env = (false, eval a X.env) :: starEach [] X.env := by rfl) : PRg X (.Call (.Name "range" p) [a] [] pos) (embRg (gx X) (wRg1 wa)) :=
  imPRg (prg_1 hg hm ha na) fun σ H Q ⟨φ, env, h, QD, hr, he, hw, c⟩ => by
    refine ⟨φ, env, h, _, hr, he, hw, fun φ1 H1 h1 d v e1 r1 q1 p1 => ?_⟩
    obtain ⟨n, rfl, p1⟩ := p1
    cases q1
    exact ⟨n, rfl, c _ _ _ _ _ e1 r1 p1⟩
theorem pdr_2 {wa wb : WE} (hg : Gl X "range") (hm : X.mg "range" = none) (ha : PE X a (emb (gx X) wa)) (hb : PE X b (emb (gx X) wb)) (na : starEach [a, b] X.env = (false, eval a X.env) :: starEach [b] X.env := by rfl)
    (nb : starEach [b] X.env = (false, eval b X.env) :: starEach [] X.env := by rfl) (hp : (backTo pos (starEach [b] X.env)).any (·.1) = false := by rfl) : PRg X (.Call (.Name "range" p) [a, b] [] pos) (embRg (gx X) (wRg2 wa wb)) :=
  imPRg (prg_2 hg hm ha hb na nb hp) fun σ H Q ⟨φ, env, h, QD, hr, he, hw, c⟩ => by
    refine ⟨φ, env, h, _, hr, he, hw, fun φ1 H1 h1 d v e1 r1 q1 p1 => ?_⟩
    refine ⟨φ1, env, h1, _, r1, he.mono e1, p1, fun φ2 H2 h2 d' v' e2 r2 q2 p2 => ?_⟩
    obtain ⟨i, j, rfl, rfl, p2⟩ := p2
    cases q1; cases q2
    exact ⟨i, j, rfl, rfl, c _ _ _ _ _ (e1.trans e2) r2 p2⟩
theorem pd_listRg {m : Bool} {w : WRg} (hc : X.calm = true) (hg : Gl X "list") (hm : X.mg "list" = none) (he : PRg X e (embRg (gx X) w)) (na : starEach [e] X.env = (false, eval e X.env) :: starEach [] X.env := by rfl) : PE X (.Call (.Name "list" p) [e] [] pos) (emb (gx X) (wListRg m w)) :=
  imPE (pe_listRg hc hg hm he na) fun σ H Q ⟨φ, env, h, QD, hr, he, hw, c⟩ => by
    refine ⟨φ, env, h, _, hr, he, hw, fun φ1 H1 h1 a b e1 r1 ⟨ok, p1⟩ => ⟨ok, ?_⟩⟩
    exact new_list r1 (c.later e1) (rg_reps a b) p1
theorem pd_tupRg {w : WRg} (hc : X.calm = true) (hg : Gl X "tuple") (hm : X.mg "tuple" = none) (he : PRg X e (embRg (gx X) w)) (na : starEach [e] X.env = (false, eval e X.env) :: starEach [] X.env := by rfl) : PE X (.Call (.Name "tuple" p) [e] [] pos) (emb (gx X) (wTupRg w)) :=
  imPE (pe_tupRgF hc hg hm he na) fun σ H Q ⟨φ, env, h, QD, hr, he, hw, c⟩ => by
    refine ⟨φ, env, h, _, hr, he, hw, fun φ1 H1 h1 a b e1 r1 ⟨ok, p1⟩ => ⟨ok, ?_⟩⟩
    exact new_tup r1 (c.later e1) (rg_reps a b) p1
end
/-! ### len(set(xs)) of ints -/
theorem dedup_mem (ns : List Int) : ∀ (ms : List Int), (∀ x, x ∈ ns.foldl step_dedup ms ↔ x ∈ ms ∨ x ∈ ns) := by
  induction ns with
  | nil => intro ms x; simp
  | cons n r ih =>
    intro ms x
    rw [List.foldl_cons, ih]
    unfold step_dedup
    by_cases h : ms.any (· == n) = true
    · rw [if_pos h]
      obtain ⟨y, hy, e⟩ := List.any_eq_true.mp h
      have e : y = n := beq_iff_eq.mp e
      subst e
      constructor
      · rintro (q | q)
        · exact .inl q
        · exact .inr (List.mem_cons_of_mem _ q)
      · rintro (q | q)
        · exact .inl q
        · rcases List.mem_cons.mp q with q | q
          · subst q; exact .inl hy
          · exact .inr q
    · rw [if_neg h]
      simp only [List.mem_append, List.mem_cons, List.not_mem_nil, false_or, or_assoc]
theorem dedup_nodup (ns : List Int) : ∀ (ms : List Int), ms.Nodup → (ns.foldl step_dedup ms).Nodup := by
  induction ns with
  | nil => intro ms h; exact h
  | cons n r ih =>
    intro ms h
    rw [List.foldl_cons]
    refine ih _ ?_
    unfold step_dedup
    by_cases q : ms.any (· == n) = true
    · rw [if_pos q]; exact h
    · rw [if_neg q, List.nodup_append]
      refine ⟨h, List.nodup_cons.mpr ⟨by simp, List.nodup_nil⟩, fun a ha b hb e => q ?_⟩
      rw [List.mem_singleton.mp hb] at e
      exact List.any_eq_true.mpr ⟨a, ha, by rw [e]; exact beq_self_eq_true n⟩
def distI (ns : List Int) : List Int := ns.foldl step_dedup []
theorem distI_mem {ns : List Int} {x : Int} : x ∈ distI ns ↔ x ∈ ns := by unfold distI; rw [dedup_mem]; simp
theorem distI_nodup (ns : List Int) : (distI ns).Nodup := dedup_nodup ns [] List.nodup_nil
theorem firstMet_dist (ns : List Int) : firstMet (fun i => ns.getD i 0) ns.length = distI ns := by
  unfold firstMet distI
  congr 1
  apply List.ext_getElem
  · simp
  · intro i h1 h2
    simp [List.getElem_map, h2]
def wLenSet (wa : WE) : WE := fun env h Q => wa env h fun d h1 => ∃ ns : List Int, lsD d h1 = some (ns.map D.int) ∧ ns.length ≤ 4000 ∧ Q (.int ((distI ns).length : Nat)) h1
section
variable {X : Cx} {a : Expr} {ta : TE} {p p2 q pos : Pos}
def tLenSetG (K : PySem.W.Frag) (ta : TE) : TE := fun σ H Q => ta σ H fun x H1 => ∃ (l : Addr) (ns : List Int), x = .ref l ∧ SqL K H1 l (ns.map V.int) ∧ ns.length ≤ 4000 ∧ Q (.int ((distI ns).length : Nat)) H1
theorem pe_lenSetG (hg : Gl X "len") (hm : X.mg "len" = none) (hg2 : Gl X "set") (hm2 : X.mg "set" = none) (ha : PE X a ta) (hc : X.calm = true)
    (na : starEach [a] X.env = (false, eval a X.env) :: starEach [] X.env) : PE X (.Call (.Name "len" p) [.Call (.Name "set" p2) [a] [] q] [] pos) (tLenSetG X.K ta) := by
  refine ⟨fun pins s σ H Q I h => ?_⟩
  refine Call_ (ld_blt I hg hm boot_len ?_)
  refine PyProof.Rows.callWith_builtin1 (PyProof.Rows.args_cons ?_ rfl) rfl rfl
  refine Call_ (ld_blt I hg2 hm2 boot_set ?_)
  refine PyProof.Rows.callWith_type1 (PyProof.Rows.args_cons (thn (ha.run pins s σ H _ I h) fun v s1 ⟨x, H1, I1, r1, q1⟩ => PyProof.Rows.args_nil ?_) na) na rfl
  obtain ⟨l, ns, rfl, hq, hl, q1⟩ := q1
  cases r1
  obtain ⟨its, r, pl, hz⟩ := I1.list hq
  have hlen : its.toArray.size = ns.length := by rw [List.size_toArray, ← r.length, List.length_map]
  refine call_set_list (I1.ok.hd hc) pl.isList (by simpa using RZ.intsAre_vals r) (by rw [hlen]; unfold scanBound; omega) fun h' tk hS hk => ?_
  refine PyProof.Rows.args_nil ?_
  rw [hlen, firstMet_dist ns] at hS
  have hle : (distI ns).length ≤ ns.length := by rw [← firstMet_dist ns]; exact firstMet_length_le _ _
  obtain ⟨o, es, ep, t, ho, hex, hd, _, _, _, hf, hn⟩ := hS
  have I2 : Inv X pins σ H1 { s1 with heap := h', toks := tk } := I1.kept fun b o e => hk b o (Heap.lt_size e) e
  exact call_len_set ho hex hd hf (by rw [hn] <;> omega) ⟨.int (distI ns).length, H1, I2.tok _, ⟨_, by rw [hn]⟩, q1⟩
theorem pd_lenSet {wa : WE} (hg : Gl X "len") (hm : X.mg "len" = none) (hg2 : Gl X "set") (hm2 : X.mg "set" = none) (ha : PE X a (emb (gx X) wa)) (hc : X.calm = true := by rfl)
    (na : starEach [a] X.env = (false, eval a X.env) :: starEach [] X.env := by rfl) : PE X (.Call (.Name "len" p) [.Call (.Name "set" p2) [a] [] q] [] pos) (emb (gx X) (wLenSet wa)) :=
  imPE (pe_lenSetG hg hm hg2 hm2 ha hc na) fun σ H Q ⟨φ, env, h, QD, hr, he, hw, c⟩ => by
    refine ⟨φ, env, h, _, hr, he, hw, fun φ1 H1 h1 d v e1 r1 q1 ⟨ns, hd, hl, p1⟩ => ?_⟩
    obtain ⟨l, vs, rfl, hl2, rs⟩ := ls_ok r1 q1 hd
    have := Reps.toInts ns rs
    subst this
    exact ⟨l, ns, rfl, .of hl2, hl, c _ _ _ _ _ e1 r1 (.int _) p1⟩
end
/-! ### t[::-1] of a tuple -/
section
variable {prog : Program} {w : World} {A : Around} {E : Value → Shared → Prop} {s : Shared}
theorem sliceApplied_rev {sl : Addr} {vl vu vs : Value} {n : Nat} {Q : Int × Int × Nat → Shared → Prop} (hs : s.heap.IsSliceOf sl vl vu vs) (pl : IsPart vl none) (pu : IsPart vu none) (ps : IsPart vs (some (-1)))
    (h : Q ((n : Int) - 1, -1, n) s) : wpAny (model prog w) A (Builtin.Slice.sliceApplied (.ref sl) (pure (n : Int))) Q E s := by
  obtain ⟨os, hos, hcs, hds⟩ := id hs
  unfold Builtin.Slice.sliceApplied Builtin.Slice.sliceFields
  refine wpAny_bind (wpAny_bind (wpAny_field hos hds (x := vl) rfl (wpAny_bind (wpAny_field hos hds (x := vu) rfl (wpAny_bind (wpAny_field hos hds (x := vs) rfl (wpAny_pure ?_)))))))
  refine wpAny_bind (HT.slicePart_ ps ?_)
  show wpAny _ _ (if ((-1 : Int) == 0) = true then _ else _) _ _ s
  rw [if_neg (by decide)]
  refine wpAny_bind (HT.slicePart_ pl (wpAny_bind (HT.slicePart_ pu (wpAny_bind (wpAny_pure ?_)))))
  have e : Builtin.Slice.sliceAdjust none none (-1) (n : Int) = ((n : Int) - 1, -1) := by
    unfold Builtin.Slice.sliceAdjust
    simp
  show wpAny _ _ (match Builtin.Slice.sliceAdjust none none (-1) (n : Int) with | (lo, hi) => pure (lo, (-1 : Int), Builtin.Slice.slicePlaces lo hi (-1))) _ _ s
  rw [e]
  have e2 : Builtin.Slice.slicePlaces ((n : Int) - 1) (-1) (-1) = n := by
    unfold Builtin.Slice.slicePlaces
    rw [if_neg (by decide)]
    by_cases h0 : n = 0
    · subst h0; rfl
    · rw [if_pos (by omega)]
      have : (-(-1) : Int) = 1 := by decide
      rw [this, Int.ediv_one]
      omega
  show wpAny _ _ (pure ((n : Int) - 1, (-1 : Int), Builtin.Slice.slicePlaces ((n : Int) - 1) (-1) (-1))) _ _ s
  rw [e2]
  exact wpAny_pure h
theorem filterMap_ext {α β : Type} {f g : α → Option β} : ∀ {l : List α}, (∀ x ∈ l, f x = g x) → l.filterMap f = l.filterMap g
  | [], _ => rfl
  | x :: l, h => by rw [List.filterMap_cons, List.filterMap_cons, h x List.mem_cons_self, filterMap_ext fun y hy => h y (List.mem_cons_of_mem _ hy)]
theorem pick_rev (xs : Array Value) : ((List.range xs.size).filterMap fun (m : Nat) => xs[(((xs.size : Int) - 1) + (m : Int) * (-1)).toNat]?).toArray = xs.toList.reverse.toArray := by
  congr 1
  have e : ((List.range xs.size).filterMap fun (m : Nat) => xs[(((xs.size : Int) - 1) + (m : Int) * (-1)).toNat]?) = (List.range xs.size).filterMap (some ∘ fun m => (xs[xs.size - 1 - m]?).getD .none) := by
    apply filterMap_ext
    intro m hm
    have hm := List.mem_range.mp hm
    have z : (((xs.size : Int) - 1) + (m : Int) * (-1)).toNat = xs.size - 1 - m := by omega
    show xs[(((xs.size : Int) - 1) + (m : Int) * (-1)).toNat]? = _
    rw [z, Array.getElem?_eq_getElem (by omega)]
    show some xs[xs.size - 1 - m] = some ((xs[xs.size - 1 - m]?).getD .none)
    rw [Array.getElem?_eq_getElem (by omega)]
    rfl
  rw [e, List.filterMap_eq_map]
  apply List.ext_getElem?
  intro i
  by_cases h : i < xs.size
  · rw [List.getElem?_reverse (by simpa using h), List.getElem?_map, List.getElem?_eq_getElem (by simpa using h)]
    simp [Array.getElem?_eq_getElem (show xs.size - 1 - i < xs.size by omega)]
  · rw [List.getElem?_eq_none (by simp; omega), List.getElem?_eq_none (by simp; omega)]
theorem getItem_tuple_rev {t sl : Addr} {items : Array Value} {vl vu vs : Value} {Q : Value → Shared → Prop} (ht : IsTup s.heap t items) (hs : s.heap.IsSliceOf sl vl vu vs) (pl : IsPart vl none) (pu : IsPart vu none) (ps : IsPart vs (some (-1)))
    (h : Q (.ref s.heap.objs.size) { s with heap := s.heap.push { cls := .type "tuple", data := .seq items.toList.reverse.toArray } })
    (hsz : items.size ≤ sizeLine) : wpAny (model prog w) A (getItem (.ref t) (.ref sl)) Q E s := by
  have htake : sizeOk (.seq items.toList.reverse.toArray) := by
    show items.toList.reverse.toArray.size ≤ sizeLine
    rw [List.size_toArray, List.length_reverse, Array.length_toList]
    exact hsz
  obtain ⟨os, hos, hcs, hds⟩ := id hs
  have hTs : s.TypeIs (.ref sl) "slice" := ⟨os, hos, hcs⟩
  unfold getItem
  try with_reducible refine wpAny_holding ?_
  first | refine wpAny_bind (wpAny_pure ?_) | skip
  refine wpAny_bind (wpAny_sequenceKey ht.typeIs (by decide) ?_)
  refine wpAny_bind (wpAny_callSpecial?_slot (name := Str.ofString "__getitem__") ht.typeIs PyProof.Rows.slot_tuple_getitem
    (wpAny_call_entry PyProof.Rows.slot_tuple_getitem ht.typeIs entry_tuple_getitem ?_ (args_tuple_getitem _ _)))
  show wpAny _ _ (Builtin.Tuple.tupleItemsOf (.ref t) >>= _) _ _ s
  refine wpAny_bind (tupleItemsOf_ ht ?_)
  refine wpAny_bind (wpAny_typeOf hTs ?_)
  rw [if_pos (by decide)]
  refine wpAny_bind (sliceApplied_rev hs pl pu ps ?_)
  have hno : ¬ ((((items.size : Int) - 1) == 0 && (-1 : Int) == 1 && items.size == items.size) = true) := by simp
  show wpAny _ _ (if (((items.size : Int) - 1) == 0 && (-1 : Int) == 1 && items.size == items.size) = true then _ else _) _ _ s
  rw [if_neg hno, pick_rev]
  first
    | exact wpAny_bind (m := Builtin.Tuple.tupleExact _) (wpAny_newObj_type (wpAny_pure ⟨_, rfl, wpAny_pure h⟩) htake)
    | exact wpAny_bind (m := Builtin.Tuple.tupleExact _) (wpAny_newObj_type (wpAny_bind (wpAny_pure (wpAny_pure ⟨_, rfl, wpAny_pure h⟩))) htake)
    | exact wpAny_bind (wpAny_bind (m := Builtin.Tuple.tupleExact _) (wpAny_newObj_type (wpAny_pure (wpAny_pure ⟨_, rfl, wpAny_pure h⟩)) htake))
    | exact wpAny_bind (wpAny_bind (m := Builtin.Tuple.tupleExact _) (wpAny_newObj_type (wpAny_pure ⟨_, rfl, wpAny_pure h⟩) htake))
end
def wRevT (wa : WE) : WE := fun env h Q => wa env h fun d h1 => ∃ xs, d = .tup xs ∧ Q (.tup xs.reverse) h1
section
variable {X : Cx}
def tRevT (K : PySem.W.Frag) (te : TE) : TE := fun σ H Q => te σ H fun x H1 => ∃ a xs, x = .ref a ∧ SqT K H1 a xs ∧ TupK H1 xs.reverse Q
theorem pe_revT {e : Expr} {te : TE} {k : Nat} {p1 p2 p3 pos : Pos} (he : PE X e te) : PE X (.Subscript e (.Slice none none (some (.UnaryOp .USub (.Constant (.int 1) k p1) p2)) p3) pos) (tRevT X.K te) := by
  refine ⟨fun pins s σ H Q I h => ?_⟩
  refine Subscript_ (thn (he.run pins s σ H _ I h) fun v s1 ⟨x, H1, I1, r1, q1⟩ => ?_)
  obtain ⟨a, xs, ex, hx, q⟩ := q1
  subst ex
  cases r1
  have hst : PO X (some (.UnaryOp .USub (.Constant (.int 1) k p1) p2)) (tPart (tUn (rU fun i => .int (-i)) (tC (.int 1)))) := po_some (pe_un un_neg pe_int)
  refine wpAny_Slice (thn (po_none.run pins s1 σ H1 (fun o H2 => o = none ∧ H2 = H1) I1 ⟨rfl, rfl⟩) fun vl s2 ⟨l, H2, I2, pl, el, e2⟩ => ?_)
  subst el e2
  refine thn (po_none.run pins s2 σ H2 (fun o H3 => o = none ∧ H3 = H2) I2 ⟨rfl, rfl⟩) fun vu s3 ⟨u, H3, I3, pu, eu, e3⟩ => ?_
  subst eu e3
  refine thn (hst.run pins s3 σ H3 (fun o H4 => o = some (-1) ∧ H4 = H3) I3 ⟨1, rfl, -1, rfl, rfl, rfl⟩) fun vs s4 ⟨o, H4, I4, ps, eo, e4⟩ => ?_
  subst eo e4
  have I5 : Inv X pins σ H4 { s4 with heap := s4.heap.push { cls := .type "slice", data := .fields #[vl, vu, vs] } } := I4.kept (t' := s4.toks) fun b ob q => Heap.get?_push_of_some _ q
  obtain ⟨its, r, ht, hz⟩ := I5.tuple hx
  have hlen := r.length
  show wpAny (model X.prog X.w) X.A (subscriptTail e (.Slice none none (some (.UnaryOp .USub (.Constant (.int 1) k p1) p2)) p3) (.ref a) (.ref s4.heap.objs.size)) (EP X pins σ Q) X.xe { s4 with heap := s4.heap.push { cls := .type "slice", data := .fields #[vl, vu, vs] } }
  refine tail_any (ops := [.ref a, .ref s4.heap.objs.size]) ht.typeIs (PyProof.Rows.slot_tuple_getitem.lookup) ?_ (by with_unfolding_all rfl)
  refine getItem_tuple_rev ht (Heap.IsSliceOf.new _ vl vu vs) pl pu ps ?_ (by rw [List.size_toArray]; omega)
  exact laidT (h' := s4.heap.push { cls := .type "slice", data := .fields #[vl, vu, vs] }) (t' := s4.toks) I5 r.reverse (by rw [List.length_reverse]; exact hz) q
theorem pd_revT {e : Expr} {wa : WE} {k : Nat} {p1 p2 p3 pos : Pos} (he : PE X e (emb (gx X) wa)) : PE X (.Subscript e (.Slice none none (some (.UnaryOp .USub (.Constant (.int 1) k p1) p2)) p3) pos) (emb (gx X) (wRevT wa)) :=
  imPE (pe_revT he) fun σ H Q ⟨φ, env, h, QD, hr, he, hw, c⟩ => by
    refine ⟨φ, env, h, _, hr, he, hw, fun φ1 H1 h1 d v e1 r1 q1 ⟨xs, ed, p1⟩ => ?_⟩
    subst ed
    obtain ⟨a, vs, rfl, ha, rs⟩ := tp_ok q1
    exact ⟨a, vs, rfl, ha, new_tup r1 (c.later e1) rs.reverse p1⟩
end
end Pd

/-! Pd, part N: defs as promises. -/
namespace Pd
open PySem PySem.Spec PyProof.Rows L2
/-- what stays the same in a run -/
structure Wv where
  P : Program
  w : World
  K : PySem.W.Frag
  mg : Str → Option Value
  base : Heap
def Wv.gx (W : Wv) : Gx := ⟨W.K, W.P, W.w⟩
/-- the def x keeps the promise sp -/
def FnAt (W : Wv) (k : Nat) (x : Str) (ps : List Str) (sp : SpD) : Prop :=
  ∃ f fd, FnOk W.P W.w W.K W.mg W.base CX0 k f fd ps (spP W.gx ps.length sp) ∧ W.mg x = some (.ref f) ∧ PySem.W.keepIn W.K (.ref f) = true ∧ Binds W.K fd ps []
abbrev Cx.wv (X : Cx) : Wv := ⟨X.prog, X.w, X.K, X.mg, X.base⟩
section
variable {X : Cx} {x : Str} {p pos : Pos} {e : Expr} {es : List Expr} {k j : Nat} {ps : List Str} {s : SpD}
theorem pd_fnA {wa : WA} {n : Nat} (F : FnAt (Cx.wv X) j x ps s) (hr : Room k X.A) (hj : j ≤ k) (hn : ps.length = n) (hg : Gl X x) (ha : PA X (e :: es) (embA (gx X) wa)) (hdb : (x == ("__debug__" : Str)) = false)
    (he : starEach (e :: es) X.env = (false, eval e X.env) :: starEach es X.env) (hpl : (backTo pos (starEach es X.env)).any (·.1) = false) :
    PE X (.Call (.Name x p) (e :: es) [] pos) (emb (gx X) (wFn n s wa)) := by
  subst hn
  obtain ⟨f, fd, F, hm, hk, hb⟩ := F
  exact pd_fn F (hr.mono hj) hg hm hk hb ha hdb he hpl
theorem pd_fnA0 {n : Nat} (F : FnAt (Cx.wv X) j x ps s) (hr : Room k X.A) (hj : j ≤ k) (hn : ps.length = n) (hg : Gl X x) (hdb : (x == ("__debug__" : Str)) = false) : PE X (.Call (.Name x p) [] [] pos) (emb (gx X) (wFn n s wNil)) := by
  subst hn
  obtain ⟨f, fd, F, hm, hk, hb⟩ := F
  exact pd_fn0 F (hr.mono hj) hg hm hk hb hdb
theorem pd_globE {i : Int} (hg : Gl X x) (hm : ∃ t, X.mg x = some (.int i t)) (hd : (x == ("__debug__" : Str)) = false) : PE X (.Name x pos) (emb (gx X) (wC (.int i))) := by
  obtain ⟨t, hm⟩ := hm
  exact pd_glob hg hm ⟨t, rfl⟩ hd
theorem pd_globES {i : Str} (hg : Gl X x) (hm : ∃ t, X.mg x = some (.str i t)) (hd : (x == ("__debug__" : Str)) = false) : PE X (.Name x pos) (emb (gx X) (wC (.str i))) := by
  obtain ⟨t, hm⟩ := hm
  exact pd_globS hg hm ⟨t, rfl⟩ hd
end
theorem startEnv {G : Gx} {φ : Fi} {H : Hp} {N : List Str} {vs : List V} {ds : List D} (rs : Reps G φ H vs ds) : EnvR G φ H (ds.map some ++ List.replicate (N.length - ds.length) none) (L2.start N vs) := by
  unfold L2.start
  rw [← rs.length]
  refine ⟨by simp [rs.length], fun i d hi => ?_⟩
  by_cases h : i < ds.length
  · rw [List.getElem?_append_left (by simpa using h), List.getElem?_map] at hi
    obtain ⟨d', h1, h2⟩ := Option.map_eq_some_iff.mp hi
    cases h2
    obtain ⟨v, h3, h4⟩ := rs.get h1
    refine ⟨v, ?_, h4⟩
    have hl := (List.getElem?_eq_some_iff.mp h3).1
    rw [List.getElem?_append_left (by simpa using hl), List.getElem?_map, h3]
    rfl
  · rw [List.getElem?_append_right (by simpa using h)] at hi
    rw [List.getElem?_replicate] at hi
    split at hi <;> cases hi
theorem fnAt_of {W : Wv} {x name qual : Str} {params : Arguments} {body : List Stmt} {scope : Scope} {f : Addr} {fd : FuncData} {N ps : List Str} {k n m : Nat} {sp : SpD} {t : WS}
    (F : FunD W.K name qual params body scope [] [] f fd) (sc : FnScope N ps scope) (hm : W.mg x = some (.ref f))
    (hb : ∀ (kV doc pm : Value) (an : Option Addr) (cdv ct : Value) (us : List Value), us.length = ps.length → bindArgs (PySem.W.fnOf name qual params body scope .none kV doc pm an cdv ct) { pos := us } = pure (ps.zip us))
    (walk : ∀ (f : Addr) (cdv : Value) (A : Around) (outer : List PySem.Env) (s : Shared) (H : Hp) (E : XK), Room k (A.deeper (envOfC qual scope s.heap.objs.size f cdv)) →
      PSs (cxOf CX0 W.P W.w W.K W.mg W.base N qual scope f cdv A outer s H E).nox body (embS W.gx t))
    (hn : ps.length = n) (hm2 : N.length - n = m)
    (vc : ∀ ds h Q, ds.length = n → sp ds h Q → t ⟨fun _ h' => retD h Q .non h', fun d h' => retD h Q d h', fun _ _ => False, fun _ _ => False⟩ (ds.map some ++ List.replicate m none) h) :
    FnAt W (k + 1) x ps sp := by
  refine ⟨f, fd, F.ok sc spP_len (fun cdv A outer s H vs Q E hr h => ⟨embS W.gx t, (walk f cdv A outer s H E hr).nox, ?_⟩), hm, F.kp, F.bindsN hb⟩
  obtain ⟨φ, h, ds, QD, r, rs, hl, hs, c⟩ := h
  have v := vc ds h QD (hl.trans hn) hs
  rw [← hm2, ← (hl.trans hn)] at v
  refine ⟨φ, _, h, _, r, startEnv rs, v, ?_, ?_, ?_, ?_⟩
  · exact fun φ' H' h' env' σ' e r' he q => ret_ok r c e r' .non q
  · exact fun φ' H' h' d v e r' rv q => ret_ok r c e r' rv q
  · exact fun φ' H' h' env' σ' e r' he q => q.elim
  · exact fun φ' H' h' env' σ' e r' he q => q.elim
/-! ### the law -/
def spLaw : SpD := fun ds h Q => ∃ ns : List Int, ds = [.scr ns] ∧ ns.length ≤ 63 ∧ h = [] ∧ ∀ h', Q (.bl true) h'
theorem law_sp {W : Wv} {H : Hp} {a : Addr} {ns : List Int} (hl : ns.length ≤ 63) (ho : Only H) (hS : SqL W.K H a (ns.map V.int)) : spP W.gx 1 spLaw [V.ref a] H (fun v _ => v = V.bl true) (fun _ _ _ => False) := by
  have rep : Rep W.gx ⟨[], []⟩ H (.ref a) (.scr ns) := by
    have na : a ∉ (⟨[], []⟩ : Fi).all := by simp [Fi.all]
    rcases hS with (h | ⟨o, h⟩) | h
    · exact .scrT na h
    · exact .scrR na h
    · exact .scrK fun H' => .inr h
  have hr : HR W.gx ⟨[], []⟩ H [] := ⟨rfl, List.nodup_nil, fun i a o h1 _ => by simp at h1, fun a m => by simp at m, fun a m => by simp at m⟩
  refine ⟨⟨[], []⟩, [], [.scr ns], fun d _ => d = .bl true, hr, .cons rep .nil, rfl, ⟨ns, rfl, hl, rfl, fun _ => rfl⟩, fun φ' H' h' d v e r rv q => ?_⟩
  subst q
  cases rv
  rfl
/-! ### facts of a head -/
structure Fx (fa : List He.Fa) (fn : List He.DefD) (W : Wv) (h : Heap) : Prop where
  K : W.K.In h
  G : h.Ns mainGlobals W.mg
  c : He.SaysD fa fn W.K
section
variable {fa : List He.Fa} {fn : List He.DefD} {W : Wv} {h : Heap}
theorem Fx.def_ (F : Fx fa fn W h) (i : Nat) {d : He.DefD} (e : fn[i]? = some d) : ∃ fd, FunD W.K d.name d.qual d.params d.body d.scope (d.dvs W.K) (d.kws W.K) (He.fAd W.K d.at_) fd := F.c.def_ i e
theorem Fx.glo (F : Fx fa fn W h) (i : Nat) {x : Str} (e : fa[i]? = some (.glo x)) : W.mg x = some (.ref (He.ga W.K x)) := He.glo_ok F.K F.G (F.c.fact i e)
theorem Fx.free (F : Fx fa fn W h) (i : Nat) {x : Str} (e : fa[i]? = some (.free x)) : W.mg x = none := He.free_ok F.K F.G (F.c.fact i e)
theorem Fx.int (F : Fx fa fn W h) (i : Nat) {x : Str} {n : Int} (e : fa[i]? = some (.int x n)) : ∃ t, W.mg x = some (.int n t) := He.int_ok F.K F.G (F.c.fact i e)
theorem Fx.str (F : Fx fa fn W h) (i : Nat) {x z : Str} (e : fa[i]? = some (.str x z)) : ∃ t, W.mg x = some (.str z t) := He.str_ok F.K F.G (F.c.fact i e)
end
end Pd

/-! Pd, part O: names for readings; the walks' own short words. -/
namespace Pd
open PySem PySem.Spec PyProof.Rows L2
abbrev rdSub : R2D := rdI (fun _ _ => True) fun i j => i - j
abbrev rdDiv : R2D := rdI CDiv fun i j => i / j
abbrev rdMod : R2D := rdI (fun _ j => 0 < j) fun i j => i % j
abbrev rdPow : R2D := rdI CPow fun i j => i ^ j.toNat
abbrev rdLt : R2D := rdB fun i j => decide (i < j)
abbrev rdLe : R2D := rdB fun i j => decide (i ≤ j)
abbrev rdGt : R2D := rdB fun i j => decide (j < i)
abbrev rdGe : R2D := rdB fun i j => decide (j ≤ i)
theorem room1 {k : Nat} {A : Around} (r : Room k A) : A.units + 1 < cLine := by have := r.un; omega
theorem room64 {k : Nat} {A : Around} (r : Room k A) : A.units + 64 < cLine := by have := r.un; omega
theorem room65 {k : Nat} {A : Around} (r : Room k A) : A.units + 65 < cLine := by have := r.un; omega
/-- what is to be shown of a def in plain Lean -/
abbrev VC (t : WS) (n m : Nat) (sp : SpD) : Prop := ∀ ds h Q, ds.length = n → sp ds h Q → t ⟨fun _ h' => retD h Q .non h', fun d h' => retD h Q d h', fun _ _ => False, fun _ _ => False⟩ (ds.map some ++ List.replicate m none) h
theorem fnOk_of {W : Wv} {name qual : Str} {params : Arguments} {body : List Stmt} {scope : Scope} {f : Addr} {fd : FuncData} {N ps : List Str} {k n m : Nat} {sp : SpD} {t : WS}
    (F : FunD W.K name qual params body scope [] [] f fd) (sc : FnScope N ps scope)
    (walk : ∀ (f : Addr) (cdv : Value) (A : Around) (outer : List PySem.Env) (s : Shared) (H : Hp) (E : XK), Room k (A.deeper (envOfC qual scope s.heap.objs.size f cdv)) →
      PSs (cxOf CX0 W.P W.w W.K W.mg W.base N qual scope f cdv A outer s H E).nox body (embS W.gx t))
    (hn : ps.length = n) (hm2 : N.length - n = m) (vc : VC t n m sp) : FnOk W.P W.w W.K W.mg W.base CX0 (k + 1) f fd ps (spP W.gx ps.length sp) := by
  refine F.ok sc spP_len (fun cdv A outer s H vs Q E hr h => ⟨embS W.gx t, (walk f cdv A outer s H E hr).nox, ?_⟩)
  obtain ⟨φ, h, ds, QD, r, rs, hl, hs, c⟩ := h
  have v := vc ds h QD (hl.trans hn) hs
  rw [← hm2, ← (hl.trans hn)] at v
  refine ⟨φ, _, h, _, r, startEnv rs, v, ?_, ?_, ?_, ?_⟩
  · exact fun φ' H' h' env' σ' e r' he q => ret_ok r c e r' .non q
  · exact fun φ' H' h' d v e r' rv q => ret_ok r c e r' rv q
  · exact fun φ' H' h' env' σ' e r' he q => q.elim
  · exact fun φ' H' h' env' σ' e r' he q => q.elim
end Pd

/-! Pd, part P: append, index, comprehensions as rules. -/
namespace Pd
open PySem PySem.Spec PyProof.Rows L2
section
variable {X : Cx} {o e : Expr} {apos cpos pos : Pos}
def wApp (wo wa : WE) : WE := wMeth "list" rdAppend wo (wCons wa wNil)
theorem pd_append {wo wa : WE} (ho : PE X o (emb (gx X) wo)) (ha : PE X e (emb (gx X) wa))
    (hbase : attributeBase o "append" X.env (eval o X.env) = eval o X.env)
    (hfew : ((backTo cpos (starEach [e] X.env)).all (fun x => !x.1) && (backToKw cpos (keywordEach [] X.env)).all (fun x => x.1.isSome)
      && decide ([e].length + ([] : List Keyword).length + (if ([] : List Keyword).isEmpty then 0 else 1) < 30)) = true)
    (hline : (apos.endLine == cpos.line) = true) (hs : starEach [e] X.env = (false, eval e X.env) :: starEach [] X.env) :
    PE X (.Call (.Attribute o "append" apos) [e] [] cpos) (emb (gx X) (wApp wo wa)) :=
  pd_meth PySem.F.plainAttrs_list PySem.F.slot_list_append rfl mt_append lift_append ho (pd_cons ha pd_nil hs) hbase hfew hline hs rfl
def wIndex (wo wa : WE) : WE := fun env h Q => wo env h fun x h1 => (∃ xs, sqD x h1 = some xs) ∧ wCons wa wNil env h1 fun ds h2 => rdIndex x ds h2 Q
theorem pe_indexM {to : TE} {t : TA} (hu : X.A.units + 65 < cLine) (ho : PE X o to) (ha : PA X [e] t)
    (hbase : attributeBase o "index" X.env (eval o X.env) = eval o X.env)
    (hfew : ((backTo cpos (starEach [e] X.env)).all (fun x => !x.1) && (backToKw cpos (keywordEach [] X.env)).all (fun x => x.1.isSome)
      && decide ([e].length + ([] : List Keyword).length + (if ([] : List Keyword).isEmpty then 0 else 1) < 30)) = true)
    (hline : (apos.endLine == cpos.line) = true) (hs : starEach [e] X.env = (false, eval e X.env) :: starEach [] X.env) :
    PE X (.Call (.Attribute o "index" apos) [e] [] cpos) (emb (gx X) fun env h Q => False) ∧
    PE X (.Call (.Attribute o "index" apos) [e] [] cpos) (fun σ H Q => to σ H fun x H1 => (tyM "list" x H1 ∧ t σ H1 fun xs H2 => rIndexD X.K x xs H2 Q) ∨ (tyM "tuple" x H1 ∧ t σ H1 fun xs H2 => rIndexT X.K x xs H2 Q)) := by
  have main : PE X (.Call (.Attribute o "index" apos) [e] [] cpos) (fun σ H Q => to σ H fun x H1 => (tyM "list" x H1 ∧ t σ H1 fun xs H2 => rIndexD X.K x xs H2 Q) ∨ (tyM "tuple" x H1 ∧ t σ H1 fun xs H2 => rIndexT X.K x xs H2 Q)) := by
    refine ⟨fun pins s σ H Q I h => ?_⟩
    refine wpAny_Call_method_late hbase hfew hline rfl (thn (ho.run pins s σ H _ I h) fun v s1 ⟨x, H1, I1, r1, q1⟩ => ?_)
    rcases q1 with ⟨ty, q1⟩ | ⟨ty, q1⟩
    · obtain ⟨h1, h2⟩ := tyM_is I1 r1 ty
      refine ⟨"list", "list.index", PySem.F.plainAttrs_list, PySem.F.slot_list_index, rfl, h1, h2, ?_⟩
      have hA := ha.run cpos pins s1 σ H1 _ I1 q1
      rw [hs] at hA ⊢
      refine Calls.callWith_builtin (by show (false || (backTo cpos (starEach [] X.env)).any (·.1)) = false; rfl) (Calls.evalArgs_plain ?_)
      exact thn hA fun us s2 ⟨vs, H2, I2, r2, q2⟩ => mt_indexD hu pins s2 σ H2 x vs v us Q I2 r1 r2 q2
    · obtain ⟨h1, h2⟩ := tyM_is I1 r1 ty
      refine ⟨"tuple", "tuple.index", PySem.F.plainAttrs_tuple, PySem.F.slot_tuple_index, rfl, h1, h2, ?_⟩
      have hA := ha.run cpos pins s1 σ H1 _ I1 q1
      rw [hs] at hA ⊢
      refine Calls.callWith_builtin (by show (false || (backTo cpos (starEach [] X.env)).any (·.1)) = false; rfl) (Calls.evalArgs_plain ?_)
      exact thn hA fun us s2 ⟨vs, H2, I2, r2, q2⟩ => mt_indexT hu pins s2 σ H2 x vs v us Q I2 r1 r2 q2
  exact ⟨imPE main fun σ H Q ⟨φ, env, h, QD, hr, he, hw, c⟩ => hw.elim, main⟩
theorem pd_index {wo wa : WE} (hu : X.A.units + 65 < cLine) (ho : PE X o (emb (gx X) wo)) (ha : PE X e (emb (gx X) wa))
    (hbase : attributeBase o "index" X.env (eval o X.env) = eval o X.env)
    (hfew : ((backTo cpos (starEach [e] X.env)).all (fun x => !x.1) && (backToKw cpos (keywordEach [] X.env)).all (fun x => x.1.isSome)
      && decide ([e].length + ([] : List Keyword).length + (if ([] : List Keyword).isEmpty then 0 else 1) < 30)) = true)
    (hline : (apos.endLine == cpos.line) = true) (hs : starEach [e] X.env = (false, eval e X.env) :: starEach [] X.env) :
    PE X (.Call (.Attribute o "index" apos) [e] [] cpos) (emb (gx X) (wIndex wo wa)) :=
  imPE (pe_indexM hu ho (pd_cons ha pd_nil hs) hbase hfew hline hs).2 fun σ H Q ⟨φ, env, h, QD, hr, he, hw, c⟩ => by
    refine ⟨φ, env, h, _, hr, he, hw, fun φ1 H1 h1 x v e1 r1 q1 ⟨⟨xs, hx⟩, p1⟩ => ?_⟩
    cases x with
    | tup ys =>
      refine .inr ⟨?_, φ1, env, h1, _, r1, he.mono e1, p1, fun φ2 H2 h2 ds vs e2 r2 q2 p2 => ?_⟩
      · cases q1 with
        | tup n ha rs => exact .inr (.inl ⟨rfl, _, _, _, rfl, ha⟩)
      · exact lift_indexT φ2 H2 h2 _ _ _ _ _ _ r2 (q1.mono e2) q2 ⟨⟨_, rfl⟩, p2⟩ (c.later (e1.trans e2))
    | _ =>
      obtain ⟨a, vs, rfl, ha, _⟩ := ls_ok r1 q1 hx
      refine .inl ⟨.inl ⟨rfl, a, vs, rfl, ha⟩, φ1, env, h1, _, r1, he.mono e1, p1, fun φ2 H2 h2 ds vs e2 r2 q2 p2 => ?_⟩
      obtain ⟨y, xs', j, e, ex, rest⟩ := p2
      exact lift_indexL φ2 H2 h2 _ _ _ _ _ _ r2 (q1.mono e2) q2 ⟨⟨xs', ex⟩, y, xs', j, e, ex, rest⟩ (c.later (e1.trans e2))
end
/-! ### comprehensions -/
def wtYes : WT := fun _ h Q => Q true h
theorem imPTs {X : Cx} {es : List Expr} {t t' : TT} (p : PTs X es t) (h : ∀ σ H Q, t' σ H Q → t σ H Q) : PTs X es t' := ⟨fun pins s σ H Q I hw => p.run pins s σ H Q I (h σ H Q hw)⟩
section
variable {X : Cx} {elt tg iter c : Expr} {ifs : List Expr} {scope : Scope} {own : List (Str × Nat)} {vs : List Nat} {pos : Pos} {wi : WI} {tg' : Tg} {wt : WT} {we : WE} {m : Bool}
theorem pd_ifs0 : PTs X [] (embT (gx X) wtYes) := imPTs pts_nil fun σ H Q ⟨φ, env, h, QD, hr, he, hw, c⟩ => c _ _ _ _ .refl hr hw
theorem pd_ifs1 (h : PT X c (embT (gx X) wt)) : PTs X [c] (embT (gx X) wt) := pts_one h
theorem pd_lc (hv : own.map (·.2) = vs) (hc : X.calm = true) (hN : X.N.Nodup) (hi : PI X tg iter (embI (gx X) wi)) (ok : blkC X.N X.env.scope scope own = true) (hs : tg'.slots.all (fun i => decide (i ∈ vs)) = true)
    (hg : ∀ (s : Shared) (H : Hp) (C : Addr) (cl : List (Str × Addr)) (fp : List Addr), PG (X.blk s H scope (compEnvC scope cl C X.env) fp) tg (gT X.K tg'))
    (ht : ∀ (s : Shared) (H : Hp) (C : Addr) (cl : List (Str × Addr)) (fp : List Addr), PTs (X.blk s H scope (compEnvC scope cl C X.env) fp) ifs (embT (gx X) wt))
    (he : ∀ (s : Shared) (H : Hp) (C : Addr) (cl : List (Str × Addr)) (fp : List Addr), PE (X.blk s H scope (compEnvC scope cl C X.env) fp) elt (emb (gx X) we))
    (hf : ∀ x, foldedSetIterable iter X.env x = pure x) : PE X (.ListComp elt [⟨tg, iter, ifs, 0⟩] scope pos) (emb (gx X) (wComp m wi tg' vs wt we)) := by
  subst hv
  exact imPE (pe_lc hc hN hi (blkOk_by ok) hg ht he hf) fun σ H Q q => lift_comp (fun i hi => of_decide_eq_true (List.all_eq_true.mp hs i hi)) q
theorem pd_setLc {i : Nat} {y : Str} {py spos : Pos} (hv : own.map (·.2) = vs) (hc : X.calm = true) (hN : X.N.Nodup) (hy : X.N[i]? = some y) (hyl : X.env.scope.names.lookup y = some .local)
    (hk : X.env.scope.kind = ScopeKind.function) (hln : (py.line == pos.line) = true) (hno : (scope.names.any fun x => match x with | (n, k) => n == y && (k == NameKind.local || k == NameKind.cell)) = false)
    (hi : PI X tg iter (embI (gx X) wi)) (ok : blkC X.N X.env.scope scope own = true) (hs : tg'.slots.all (fun i => decide (i ∈ vs)) = true)
    (hg : ∀ (s : Shared) (H : Hp) (C : Addr) (cl : List (Str × Addr)) (fp : List Addr), PG (X.blk s H scope (compEnvC scope cl C X.env) fp) tg (gT X.K tg'))
    (ht : ∀ (s : Shared) (H : Hp) (C : Addr) (cl : List (Str × Addr)) (fp : List Addr), PTs (X.blk s H scope (compEnvC scope cl C X.env) fp) ifs (embT (gx X) wt))
    (he : ∀ (s : Shared) (H : Hp) (C : Addr) (cl : List (Str × Addr)) (fp : List Addr), PE (X.blk s H scope (compEnvC scope cl C X.env) fp) elt (emb (gx X) we))
    (hf : ∀ x, foldedSetIterable iter X.env x = pure x) : PS X (.Assign [.Name y py] (.ListComp elt [⟨tg, iter, ifs, 0⟩] scope pos) spos) (embS (gx X) (wsAsg (wComp m wi tg' vs wt we) (wgNm i))) := by
  subst hv
  refine imPS (ps_setLc hc hN hy hyl (sw_true hk hyl hln hno) hi (blkOk_by ok) hg ht he hf) fun D' σ H q => ?_
  have q2 := lift_asg q
  refine lift_comp (G := gx X) (m := m) (we := we) (wt := wt) (fun i hi => of_decide_eq_true (List.all_eq_true.mp hs i hi)) ?_
  obtain ⟨φ, env, h, DD, hr, he, hw, c⟩ := q
  exact ⟨φ, env, h, _, hr, he, hw, fun φ1 H1 h1 d v e1 r1 q1 p1 => c.nx _ _ _ _ _ e1 r1 ((he.mono e1).set q1) p1⟩
end
section
variable {X : Cx} {a b c : Expr} {pos : Pos}
theorem lift_chain {G : Gx} {rD rD' : R2D} {r r' : R2} (L : Lift2 G rD r) (L' : Lift2 G rD' r') {wa wb wc : WE} {σ : L2.St} {H : Hp} {Q : VK} (q : emb G (w3 rD rD' wa wb wc) σ H Q) : tChain r r' (emb G wa) (emb G wb) (emb G wc) σ H Q := by
  obtain ⟨φ, env, h, QD, hr, he, hw, c⟩ := q
  refine ⟨φ, env, h, _, hr, he, hw, fun φ1 H1 h1 x v e1 r1 q1 p1 => ?_⟩
  refine ⟨φ1, env, h1, _, r1, he.mono e1, p1, fun φ2 H2 h2 y w e2 r2 q2 p2 => ?_⟩
  refine L φ2 H2 h2 x y v w _ _ r2 (q1.mono e2) q2 p2 fun φ3 H3 h3 z u e3 r3 q3 p3 => ?_
  obtain ⟨k, rfl, p3⟩ := p3
  cases q3
  refine ⟨k, rfl, ?_⟩
  cases k with
  | true =>
    refine ⟨φ3, env, h3, _, r3, he.mono (e1.trans (e2.trans e3)), p3, fun φ4 H4 h4 z u e4 r4 q4 p4 => ?_⟩
    exact L' φ4 H4 h4 y z w u _ _ r4 (q2.mono (e3.trans e4)) q4 p4 (c.later (e1.trans (e2.trans (e3.trans e4))))
  | false => exact c _ _ _ _ _ (e1.trans (e2.trans e3)) r3 (.bl _) p3
theorem pd_chainT {op op' : CmpOp} {rD rD' : R2D} {r r' : R2} (ho : OpR X (compareOp op) r) (ho' : OpR X (compareOp op') r') (L : Lift2 (gx X) rD r) (L' : Lift2 (gx X) rD' r') {wa wb wc : WE}
    (ha : PE X a (emb (gx X) wa)) (hb : PE X b (emb (gx X) wb)) (hc : PE X c (emb (gx X) wc)) (hm : lastMarks [op, op'] [b, c] = false := by with_unfolding_all rfl) :
    PT X (.Compare a [op, op'] [b, c] pos) (embT (gx X) (wTest (w3 rD rD' wa wb wc))) :=
  imPT (pt_chain ho ho' ha hb hc hm) fun σ H Q q => lift_test (fun σ H Q q => lift_chain L L' q) q
end
theorem lift_I0 {K : Gx} (g : Int → Int → Int) : Lift2 K (rdI (fun _ _ => True) g) (rI0 fun i j => .int (g i j)) := by
  intro φ H h x y v w QD QV r rx ry q c
  obtain ⟨i, j, e1, e2, _, q⟩ := lift_I (fun _ _ => True) g φ H h x y v w QD QV r rx ry q c
  exact ⟨i, j, e1, e2, q⟩
abbrev rdAddI : R2D := rdI (fun _ _ => True) fun i j => i + j
end Pd

/-! Pd, part V: what is used to show the conditions in plain Lean. -/
namespace Pd
open PySem PySem.Spec PyProof.Rows L2
/-! ### plain data -/
mutual
def D.pl : Nat → D → Bool
  | _, .non => true
  | _, .bl _ => true
  | _, .int _ => true
  | _, .str x => PyData.strOk x
  | 0, .tup _ => false
  | 0, .lst _ => false
  | k + 1, .tup xs => D.pls k xs
  | k + 1, .lst xs => D.pls k xs
  | _, .ref _ => false
  | _, .scr _ => false
def D.pls : Nat → List D → Bool
  | _, [] => true
  | k, x :: xs => D.pl k x && D.pls k xs
end
theorem pls_all {k : Nat} : ∀ {xs : List D}, D.pls k xs = true ↔ ∀ x ∈ xs, D.pl k x = true
  | [] => by simp [D.pls]
  | x :: xs => by simp [D.pls, pls_all (xs := xs)]
mutual
theorem pl_lay : ∀ (d : D) (k : Nat), d.pl k = true → d.py.canLay0 = true ∧ d.py.depth ≤ k
  | .non, k, _ => ⟨by simp [D.py, PyData.canLay0], by simp [D.py, PyData.depth]⟩
  | .bl _, k, _ => ⟨by simp [D.py, PyData.canLay0], by simp [D.py, PyData.depth]⟩
  | .int _, k, _ => ⟨by simp [D.py, PyData.canLay0], by simp [D.py, PyData.depth]⟩
  | .str x, k, h => ⟨by simpa [D.py, PyData.canLay0, D.pl] using h, by simp [D.py, PyData.depth]⟩
  | .tup xs, 0, h => by simp [D.pl] at h
  | .lst xs, 0, h => by simp [D.pl] at h
  | .tup xs, k + 1, h => by
    obtain ⟨h1, h2⟩ := pls_lay xs k (by simpa [D.pl] using h)
    exact ⟨by simpa [D.py, PyData.canLay0] using h1, by simpa [D.py, PyData.depth] using h2⟩
  | .lst xs, k + 1, h => by
    obtain ⟨h1, h2⟩ := pls_lay xs k (by simpa [D.pl] using h)
    exact ⟨by simpa [D.py, PyData.canLay0] using h1, by simpa [D.py, PyData.depth] using h2⟩
  | .ref _, k, h => by simp [D.pl] at h
  | .scr _, k, h => by simp [D.pl] at h
theorem pls_lay : ∀ (xs : List D) (k : Nat), D.pls k xs = true → PyData.canLayAll0 (D.pys xs) = true ∧ PyData.depthAll (D.pys xs) ≤ k
  | [], k, _ => ⟨by simp [D.pys, PyData.canLayAll0], by simp [D.pys, PyData.depthAll]⟩
  | x :: xs, k, h => by
    have h' : D.pl k x = true ∧ D.pls k xs = true := by simpa [D.pls] using h
    obtain ⟨a1, a2⟩ := pl_lay x k h'.1
    obtain ⟨b1, b2⟩ := pls_lay xs k h'.2
    exact ⟨by simp [D.pys, PyData.canLayAll0, a1, b1], by simp [D.pys, PyData.depthAll]; omega⟩
end
mutual
theorem pl_mono : ∀ (d : D) {j k : Nat}, j ≤ k → d.pl j = true → d.pl k = true
  | .non, _, _, _, _ => by simp [D.pl]
  | .bl _, _, _, _, _ => by simp [D.pl]
  | .int _, _, _, _, _ => by simp [D.pl]
  | .str x, _, _, _, h => by simpa [D.pl] using h
  | .tup xs, 0, _, _, h => by simp [D.pl] at h
  | .lst xs, 0, _, _, h => by simp [D.pl] at h
  | .tup xs, j + 1, 0, hl, _ => by omega
  | .lst xs, j + 1, 0, hl, _ => by omega
  | .tup xs, j + 1, k + 1, hl, h => by
    have := pls_mono xs (Nat.le_of_succ_le_succ hl) (by simpa [D.pl] using h)
    simpa [D.pl] using this
  | .lst xs, j + 1, k + 1, hl, h => by
    have := pls_mono xs (Nat.le_of_succ_le_succ hl) (by simpa [D.pl] using h)
    simpa [D.pl] using this
  | .ref _, _, _, _, h => by simp [D.pl] at h
  | .scr _, _, _, _, h => by simp [D.pl] at h
theorem pls_mono : ∀ (xs : List D) {j k : Nat}, j ≤ k → D.pls j xs = true → D.pls k xs = true
  | [], _, _, _, _ => by simp [D.pls]
  | x :: xs, _, _, hl, h => by
    have h' := Bool.and_eq_true_iff.mp (show (D.pl _ x && D.pls _ xs) = true by simpa [D.pls] using h)
    simp [D.pls, pl_mono x hl h'.1, pls_mono xs hl h'.2]
end
theorem okD_of {d : D} {k : Nat} (h : d.pl k = true) (hk : k ≤ 64 := by decide) : okD d := by
  obtain ⟨h1, h2⟩ := pl_lay d k h
  unfold okD SeqAt.shaped
  rw [h1, decide_eq_true (by omega)]; rfl
/-! ### types of data -/
class Py (α : Type) [DecidableEq α] where
  d : α → D
  k : Nat
  pl : ∀ a, (d a).pl k = true
  eq : ∀ a b, PyData.eqv (d a).py (d b).py = decide (a = b)
open Py (d)
instance : Py Int := ⟨.int, 0, fun _ => by simp [D.pl], fun a b => by simp [D.py, PyData.eqv]; rfl⟩
instance : Py Nat := ⟨fun n => .int n, 0, fun _ => by simp [D.pl], fun a b => by simp only [D.py, PyData.eqv]; by_cases h : a = b <;> simp [h] <;> omega⟩
instance : Py Bool := ⟨.bl, 0, fun _ => by simp [D.pl], fun a b => by simp only [D.py, PyData.eqv]; cases a <;> cases b <;> rfl⟩
theorem eqvAll_map {α : Type} [DecidableEq α] [Py α] : ∀ a b : List α, PyData.eqvAll (D.pys (a.map d)) (D.pys (b.map d)) = decide (a = b)
  | [], [] => by simp [D.pys, PyData.eqvAll]
  | [], _ :: _ => by simp [D.pys, PyData.eqvAll]
  | _ :: _, [] => by simp [D.pys, PyData.eqvAll]
  | x :: a, y :: b => by
    simp only [List.map_cons, D.pys, PyData.eqvAll, Py.eq, eqvAll_map a b, List.cons.injEq, Bool.decide_and]
instance {α : Type} [DecidableEq α] [Py α] : Py (List α) := ⟨fun l => .tup (l.map d), Py.k α + 1, fun l => by
  simp only [D.pl, pls_all, List.mem_map]
  rintro _ ⟨a, _, rfl⟩
  exact Py.pl a, fun a b => by simp only [D.py, PyData.eqv, eqvAll_map]⟩
instance {α β : Type} [DecidableEq α] [DecidableEq β] [Py α] [Py β] : Py (α × β) := ⟨fun p => .tup [d p.1, d p.2], max (Py.k α) (Py.k β) + 1, fun p => by
  simp only [D.pl, D.pls, Bool.and_true, pl_mono _ (Nat.le_max_left _ _) (Py.pl p.1), pl_mono _ (Nat.le_max_right _ _) (Py.pl p.2)], fun a b => by
  simp only [D.py, D.pys, PyData.eqv, PyData.eqvAll, Py.eq, Bool.and_true, ← Bool.decide_and, Prod.ext_iff]⟩
section
variable {α β : Type} [DecidableEq α] [Py α] [DecidableEq β] [Py β]
theorem d_inj {a b : α} : d a = d b ↔ a = b := by
  refine ⟨fun h => ?_, fun h => by rw [h]⟩
  have e1 := Py.eq a b
  rw [h, Py.eq b b] at e1
  simpa using e1.symm
theorem map_inj {a b : List α} : a.map d = b.map d ↔ a = b := by
  constructor
  · intro h
    have : d a = d b := by show D.tup (a.map d) = D.tup (b.map d); rw [h]
    exact d_inj.mp this
  · intro h; rw [h]
theorem d_int (i : Int) : (d i : D) = .int i := rfl
theorem d_nat (n : Nat) : (d n : D) = .int (n : Int) := rfl
theorem d_bool (b : Bool) : (d b : D) = .bl b := rfl
theorem d_list (l : List α) : (d l : D) = .tup (l.map d) := rfl
theorem d_pair (p : α × β) : (d p : D) = .tup [d p.1, d p.2] := rfl
/-! ### readings on data of types -/
theorem rsv_tup {xs : List D} {h : DH} : rsv (.tup xs) h = .tup xs := rfl
theorem rsv_lst {xs : List D} {h : DH} : rsv (.lst xs) h = .lst xs := rfl
theorem rsv_int {i : Int} {h : DH} : rsv (.int i) h = .int i := rfl
theorem rsv_bl {i : Bool} {h : DH} : rsv (.bl i) h = .bl i := rfl
theorem rsv_d {a : α} {h : DH} : rsv (d a) h = d a := by
  have := Py.pl a
  cases e : (d a : D) with
  | ref i => rw [e] at this; simp [D.pl] at this
  | _ => rfl
theorem eq_d {a b : α} {neg : Bool} {h : DH} {Q : D → DH → Prop} (hk : Py.k α ≤ 64) (q : Q (.bl (if neg = true then !decide (a = b) else decide (a = b))) h) : rdEq neg (d a) (d b) h Q := by
  refine ⟨by rw [rsv_d]; exact okD_of (Py.pl a) hk, by rw [rsv_d]; exact okD_of (Py.pl b) hk, ?_⟩
  rw [rsv_d, rsv_d, Py.eq]
  exact q
theorem rdEq_int {i j : Int} {neg : Bool} {h : DH} {Q : D → DH → Prop} : rdEq neg (.int i) (.int j) h Q = Q (.bl (if neg = true then !decide (i = j) else decide (i = j))) h := by
  apply propext
  refine ⟨fun ⟨_, _, q⟩ => ?_, fun q => eq_d (a := i) (b := j) (Nat.zero_le _) q⟩
  have e : PyData.eqv (rsv (.int i) h).py (rsv (.int j) h).py = decide (i = j) := Py.eq i j
  rw [e] at q
  exact q
theorem rdEq_intf {i j : Int} {h : DH} {Q : D → DH → Prop} : rdEq false (.int i) (.int j) h Q = Q (.bl (decide (i = j))) h := rdEq_int
theorem rdEq_intt {i j : Int} {h : DH} {Q : D → DH → Prop} : rdEq true (.int i) (.int j) h Q = Q (.bl (!decide (i = j))) h := rdEq_int
theorem okD_map {l : List α} (hk : Py.k α < 64) : okD (.tup (l.map d)) := okD_of (Py.pl l) hk
theorem okD_mapL {l : List α} (hk : Py.k α < 64) : okD (.lst (l.map d)) := okD_of (k := Py.k α + 1) (by
  simp only [D.pl, pls_all, List.mem_map]
  rintro _ ⟨a, _, rfl⟩
  exact Py.pl a) hk
/-! ### places -/
theorem at_nat {γ : Type} {xs : List γ} {n : Nat} : atI xs (n : Int) = xs[n]? := by
  unfold atI ixN
  rw [if_pos (by omega)]
  by_cases h : (n : Int) < xs.length
  · rw [if_pos h]; rfl
  · rw [if_neg h, List.getElem?_eq_none (by omega)]; rfl
theorem atI_at {γ : Type} {xs : List γ} {i : Int} {n : Nat} (e : i = (n : Int)) : atI xs i = xs[n]? := by rw [e, at_nat]
theorem ixN_nat {n k : Nat} (h : k < n) : ixN n (k : Int) = some k := by
  unfold ixN
  rw [if_pos (by omega), if_pos (by omega)]; simp
/-! ### for -/
theorem forD_inv {chk : DH → Prop} {turn : Item → Env → DH → (Env → DH → Prop) → Prop} {Q : Env → DH → Prop} (I : Nat → Env → DH → Prop) {items : List Item} {env : Env} {h : DH} (h0 : I 0 env h)
    (step : ∀ i it env h K, items[i]? = some it → I i env h → (∀ env' h', I (i + 1) env' h' → K env' h') → chk h ∧ turn it env h K)
    (done : ∀ env h, I items.length env h → chk h ∧ Q env h) : forD chk turn items env h Q := by
  have key : ∀ (n i : Nat) (env : Env) (h : DH), i + n = items.length → I i env h → forD chk turn (items.drop i) env h Q := by
    intro n
    induction n with
    | zero =>
      intro i env h e hi
      rw [List.drop_eq_nil_of_le (by omega)]
      have : i = items.length := by omega
      subst this
      exact done env h hi
    | succ n ih =>
      intro i env h e hi
      have hl : i < items.length := by omega
      rw [List.drop_eq_getElem_cons hl]
      obtain ⟨c, t⟩ := step i items[i] env h (fun env' h' => forD chk turn (items.drop (i + 1)) env' h' Q) (List.getElem?_eq_getElem hl) hi fun env' h' hi' => ih (i + 1) env' h' (by omega) hi'
      exact ⟨c, t⟩
  exact key items.length 0 env h (by omega) h0
/-! ### comprehensions -/
theorem compD_pure {chk : DH → Prop} {turn : Item → DH → (Option D → DH → Prop) → Prop} {h : DH} (hc : chk h) {f : Item → Option D} : ∀ {items : List Item} {acc : List D} {Q : List D → DH → Prop},
    (∀ it ∈ items, ∀ K : Option D → DH → Prop, K (f it) h → turn it h K) → Q (acc ++ items.filterMap f) h → compD chk turn items acc h Q
  | [], acc, Q, _, q => ⟨hc, by simpa using q⟩
  | it :: r, acc, Q, ht, q => by
    refine ⟨hc, ht it List.mem_cons_self _ ?_⟩
    refine compD_pure hc (fun it' m => ht it' (List.mem_cons_of_mem _ m)) ?_
    rw [List.filterMap_cons] at q
    cases e : f it with
    | none => rw [e] at q; exact q
    | some x => rw [e] at q; simpa using q
/-- over values of a type: a value for each -/
theorem comp_d {γ : Type} {chk : DH → Prop} {turn : Item → DH → (Option D → DH → Prop) → Prop} {h : DH} (hc : chk h) {g : γ → Item} {f : γ → D} {l : List γ} {Q : List D → DH → Prop}
    (ht : ∀ x ∈ l, ∀ K : Option D → DH → Prop, K (some (f x)) h → turn (g x) h K) (q : Q (l.map f) h) : compD chk turn (l.map g) [] h Q := by
  have key : ∀ (l : List γ) (acc : List D), (∀ x ∈ l, ∀ K : Option D → DH → Prop, K (some (f x)) h → turn (g x) h K) → Q (acc ++ l.map f) h → compD chk turn (l.map g) acc h Q := by
    intro l
    induction l with
    | nil => intro acc _ q; exact ⟨hc, by simpa using q⟩
    | cons x r ih =>
      intro acc ht q
      refine ⟨hc, ht x List.mem_cons_self _ ?_⟩
      exact ih (acc ++ [f x]) (fun y m => ht y (List.mem_cons_of_mem _ m)) (by simpa using q)
  exact key l [] ht (by simpa using q)
/-- with a test -/
theorem comp_if {γ : Type} {chk : DH → Prop} {turn : Item → DH → (Option D → DH → Prop) → Prop} {h : DH} (hc : chk h) {g : γ → Item} {f : γ → D} {p : γ → Bool} {l : List γ} {Q : List D → DH → Prop}
    (ht : ∀ x ∈ l, ∀ K : Option D → DH → Prop, K (if p x = true then some (f x) else none) h → turn (g x) h K) (q : Q ((l.filter p).map f) h) : compD chk turn (l.map g) [] h Q := by
  have key : ∀ (l : List γ) (acc : List D), (∀ x ∈ l, ∀ K : Option D → DH → Prop, K (if p x = true then some (f x) else none) h → turn (g x) h K) → Q (acc ++ (l.filter p).map f) h → compD chk turn (l.map g) acc h Q := by
    intro l
    induction l with
    | nil => intro acc _ q; exact ⟨hc, by simpa using q⟩
    | cons x r ih =>
      intro acc ht q
      refine ⟨hc, ht x List.mem_cons_self _ ?_⟩
      by_cases hp : p x = true
      · rw [if_pos hp]
        exact ih (acc ++ [f x]) (fun y m => ht y (List.mem_cons_of_mem _ m)) (by simpa [hp] using q)
      · rw [if_neg hp]
        exact ih acc (fun y m => ht y (List.mem_cons_of_mem _ m)) (by simpa [hp] using q)
  exact key l [] ht (by simpa using q)
theorem rng_map (lo : Int) (n : Nat) : rngItems lo n = (List.range n).map fun i => Item.one (.int (lo + (i : Nat))) := rfl
theorem rng0_map (n : Nat) : rngItems 0 n = (List.range n).map fun i => Item.one (d i) := by
  unfold rngItems
  apply List.map_congr_left
  intro i _
  show Item.one (.int (0 + (i : Int))) = Item.one (.int (i : Int))
  rw [Int.zero_add]
end
theorem wipeD_one {env : Env} {v : Nat} : wipeD env [v] = env.set v none := rfl
end Pd

/-! Pd, part W: words for the conditions. -/
namespace Pd
open PySem PySem.Spec PyProof.Rows L2
open Py (d)
theorem tyD_non {h : DH} : tyD .non h = some "NoneType" := rfl
theorem tyD_bl {b : Bool} {h : DH} : tyD (.bl b) h = some "bool" := rfl
theorem tyD_int {b : Int} {h : DH} : tyD (.int b) h = some "int" := rfl
theorem tyD_str {b : Str} {h : DH} : tyD (.str b) h = some "str" := rfl
theorem tyD_tup {b : List D} {h : DH} : tyD (.tup b) h = some "tuple" := rfl
theorem tyD_lst {b : List D} {h : DH} : tyD (.lst b) h = some "list" := rfl
theorem sqD_tup {b : List D} {h : DH} : sqD (.tup b) h = some b := rfl
theorem sqD_lst {b : List D} {h : DH} : sqD (.lst b) h = some b := rfl
theorem lsD_lst {b : List D} {h : DH} : lsD (.lst b) h = some b := rfl
theorem isi_ii : isiD "int" "int" = some true := rfl
theorem isi_ib : isiD "int" "bool" = some false := rfl
theorem isi_bi : isiD "bool" "int" = some true := rfl
theorem isi_bb : isiD "bool" "bool" = some true := rfl
theorem isi_tt : isiD "tuple" "tuple" = some true := rfl
theorem isi_ti : isiD "tuple" "int" = some false := rfl
theorem isi_tb : isiD "tuple" "bool" = some false := rfl
theorem isi_ts : isiD "tuple" "str" = some false := rfl
theorem isi_tl : isiD "tuple" "list" = some false := rfl
theorem isi_it : isiD "int" "tuple" = some false := rfl
theorem isi_is : isiD "int" "str" = some false := rfl
theorem isi_il : isiD "int" "list" = some false := rfl
theorem isi_st : isiD "str" "tuple" = some false := rfl
theorem isi_ss : isiD "str" "str" = some true := rfl
theorem isi_si : isiD "str" "int" = some false := rfl
theorem isi_sb : isiD "str" "bool" = some false := rfl
theorem isi_sl : isiD "str" "list" = some false := rfl
theorem isi_li : isiD "list" "int" = some false := rfl
theorem isi_lb : isiD "list" "bool" = some false := rfl
theorem isi_ls : isiD "list" "str" = some false := rfl
theorem isi_lt : isiD "list" "tuple" = some false := rfl
theorem isi_ll : isiD "list" "list" = some true := rfl
theorem isi_ni : isiD "NoneType" "int" = some false := rfl
theorem isi_nb : isiD "NoneType" "bool" = some false := rfl
theorem isi_ns : isiD "NoneType" "str" = some false := rfl
theorem isi_nt : isiD "NoneType" "tuple" = some false := rfl
theorem isi_nl : isiD "NoneType" "list" = some false := rfl
theorem isi_bt : isiD "bool" "tuple" = some false := rfl
theorem isi_bs : isiD "bool" "str" = some false := rfl
theorem isi_bl : isiD "bool" "list" = some false := rfl
section
variable {h : DH} {Q : D → DH → Prop} {m : Bool}
theorem add_int {i j : Int} : rdAdd m (.int i) (.int j) h Q = Q (.int (i + j)) h := rfl
theorem add_tup {xs ys : List D} : rdAdd m (.tup xs) (.tup ys) h Q = (xs.length + ys.length ≤ sizeLine ∧ Q (.tup (xs ++ ys)) h) := rfl
theorem add_lst {xs ys : List D} : rdAdd m (.lst xs) (.lst ys) h Q = (xs.length + ys.length ≤ sizeLine ∧ mkL m (xs ++ ys) h Q) := rfl
theorem i_int {C : Int → Int → Prop} {g : Int → Int → Int} {i j : Int} : rdI C g (.int i) (.int j) h Q = (C i j ∧ Q (.int (g i j)) h) := rfl
theorem b_int {g : Int → Int → Bool} {i j : Int} : rdB g (.int i) (.int j) h Q = Q (.bl (g i j)) h := rfl
theorem mul_int {i j : Int} : rdMul m (.int i) (.int j) h Q = (CMul i j ∧ Q (.int (i * j)) h) := rfl
theorem none_non {neg : Bool} {x : D} : rdNone neg x .non h Q = (match x with
  | .non => Q (.bl (!neg)) h
  | _ => Q (.bl neg) h) := by unfold rdNone; cases x <;> cases neg <;> rfl
theorem ix_tup {xs : List D} {y : D} : rdIx (.tup xs) y h Q = ∃ i d, y = .int i ∧ atI xs i = some d ∧ Q d h := rfl
theorem ix_lst {xs : List D} {y : D} : rdIx (.lst xs) y h Q = ∃ i d, y = .int i ∧ atI xs i = some d ∧ Q d h := rfl
theorem sl_tup {xs : List D} {lo hi : Option Int} : rdSl m (.tup xs) lo hi h Q = Q (.tup (cutD xs lo hi)) h := rfl
theorem sl_lst {xs : List D} {lo hi : Option Int} : rdSl m (.lst xs) lo hi h Q = mkL m (cutD xs lo hi) h Q := rfl
theorem len_tup {xs : List D} : rdLen [.tup xs] h Q = Q (.int xs.length) h := by
  apply propext
  constructor
  · rintro ⟨d, e, q⟩; cases e; exact q
  · intro q; exact ⟨_, rfl, q⟩
theorem len_lst {xs : List D} : rdLen [.lst xs] h Q = Q (.int xs.length) h := by
  apply propext
  constructor
  · rintro ⟨d, e, q⟩; cases e; exact q
  · intro q; exact ⟨_, rfl, q⟩
end
theorem bind_nm {i : Nat} {x : D} {env : Env} : bindT (.nm i) (.one x) env = some (env.set i (some x)) := rfl
theorem bind_two {i j : Nat} {x y : D} {env : Env} : bindT (.tp [i, j]) (.two x y) env = some ((env.set i (some x)).set j (some y)) := rfl
theorem bind_tp2 {i j : Nat} {x y : D} {env : Env} : bindT (.tp [i, j]) (.one (.tup [x, y])) env = some ((env.set i (some x)).set j (some y)) := rfl
theorem bind_tp3 {i j k : Nat} {x y z : D} {env : Env} : bindT (.tp [i, j, k]) (.one (.tup [x, y, z])) env = some (((env.set i (some x)).set j (some y)).set k (some z)) := rfl
theorem lsz {n : Nat} (h : n ≤ 1048576) : n ≤ sizeLine := by rw [sizeLine_eq]; omega
section
variable {γ : Type} {chk : DH → Prop} {turn : Item → DH → (Option D → DH → Prop) → Prop} {h : DH} {Q : List D → DH → Prop} {p : γ → Bool}
theorem comp_l {g f : γ → D} {l : List γ} (hc : chk h) (ht : ∀ x ∈ l, ∀ K : Option D → DH → Prop, K (some (f x)) h → turn (.one (g x)) h K) (q : Q (l.map f) h) : compD chk turn ((l.map g).map Item.one) [] h Q := by
  rw [List.map_map]; exact comp_d hc ht q
theorem comp_lif {g f : γ → D} {l : List γ} (hc : chk h) (ht : ∀ x ∈ l, ∀ K : Option D → DH → Prop, K (if p x = true then some (f x) else none) h → turn (.one (g x)) h K) (q : Q ((l.filter p).map f) h) : compD chk turn ((l.map g).map Item.one) [] h Q := by
  rw [List.map_map]; exact comp_if hc ht q
theorem comp_r {f : Nat → D} {n : Nat} (hc : chk h) (ht : ∀ x < n, ∀ K : Option D → DH → Prop, K (some (f x)) h → turn (.one (.int x)) h K) (q : Q ((List.range n).map f) h) : compD chk turn (rngItems 0 n) [] h Q := by
  rw [rng0_map]; exact comp_d hc (fun x m => ht x (List.mem_range.mp m)) q
theorem comp_rif {f : Nat → D} {p : Nat → Bool} {n : Nat} (hc : chk h) (ht : ∀ x < n, ∀ K : Option D → DH → Prop, K (if p x = true then some (f x) else none) h → turn (.one (.int x)) h K) (q : Q (((List.range n).filter p).map f) h) : compD chk turn (rngItems 0 n) [] h Q := by
  rw [rng0_map]; exact comp_if hc (fun x m => ht x (List.mem_range.mp m)) q
end
theorem enum_map {γ : Type} (g : γ → D) (l : List γ) (z : γ) : enumItems (l.map g) = (List.range l.length).map fun i => Item.two (.int (i : Nat)) (g (l.getD i z)) := by
  unfold enumItems
  apply List.ext_getElem?
  intro i
  rw [List.getElem?_zipWith, List.getElem?_map, List.getElem?_map, List.length_map]
  by_cases h : i < l.length
  · rw [List.getElem?_range h, List.getElem?_eq_getElem h]
    simp [List.getD_eq_getElem?_getD, List.getElem?_eq_getElem h]
  · rw [List.getElem?_eq_none (by simpa using h), List.getElem?_eq_none (by omega)]
    rfl
theorem zip_map {γ δ : Type} (g : γ → D) (f : δ → D) (l : List γ) (m : List δ) : zipItems (l.map g) (m.map f) = (l.zip m).map fun p => Item.two (g p.1) (f p.2) := by
  unfold zipItems
  rw [List.zipWith_map, List.zip, List.map_zipWith]
section
variable {γ : Type} {chk : DH → Prop} {turn : Item → Env → DH → (Env → DH → Prop) → Prop} {Q : Env → DH → Prop} {env : Env} {h : DH}
theorem for_l {g : γ → D} {l : List γ} (I : Nat → Env → DH → Prop) (h0 : I 0 env h)
    (step : ∀ i x env h K, i < l.length → l[i]? = some x → I i env h → (∀ env' h', I (i + 1) env' h' → K env' h') → chk h ∧ turn (.one (g x)) env h K)
    (done : ∀ env h, I l.length env h → chk h ∧ Q env h) : forD chk turn ((l.map g).map Item.one) env h Q := by
  refine forD_inv I h0 (fun i it env h K hi hI hK => ?_) (by simpa using done)
  rw [List.map_map, List.getElem?_map] at hi
  obtain ⟨x, h1, h2⟩ := Option.map_eq_some_iff.mp hi
  subst h2
  exact step i x env h K (List.getElem?_eq_some_iff.mp h1).1 h1 hI hK
theorem for_r {n : Nat} (I : Nat → Env → DH → Prop) (h0 : I 0 env h)
    (step : ∀ i env h K, i < n → I i env h → (∀ env' h', I (i + 1) env' h' → K env' h') → chk h ∧ turn (.one (.int i)) env h K)
    (done : ∀ env h, I n env h → chk h ∧ Q env h) : forD chk turn (rngItems 0 n) env h Q := by
  rw [rng0_map]
  refine forD_inv I h0 (fun i it env h K hi hI hK => ?_) (by simpa using done)
  rw [List.getElem?_map] at hi
  obtain ⟨x, h1, h2⟩ := Option.map_eq_some_iff.mp hi
  obtain ⟨h3, h4⟩ := List.getElem?_eq_some_iff.mp h1
  rw [List.getElem_range] at h4
  subst h2 h4
  exact step i env h K (by simpa using h3) hI hK
end
section
variable {h : DH} {Q : D → DH → Prop} {γ : Type}
theorem all_bl {l : List γ} {p : γ → Bool} (q : Q (.bl (l.all p)) h) : rdAll [.lst (l.map fun x => .bl (p x))] h Q :=
  ⟨_, l.map p, rfl, by rw [lsD_lst, List.map_map]; rfl, by simpa [List.all_map] using q⟩
theorem tuple_lst {xs : List D} : rdTuple [.lst xs] h Q = Q (.tup xs) h := by
  apply propext
  constructor
  · rintro ⟨d, ys, e, e2, q⟩
    cases e; cases e2; exact q
  · intro q; exact ⟨_, _, rfl, rfl, q⟩
theorem tuple_tup {xs : List D} : rdTuple [.tup xs] h Q = Q (.tup xs) h := by
  apply propext
  constructor
  · rintro ⟨d, ys, e, e2, q⟩
    cases e; cases e2; exact q
  · intro q; exact ⟨_, _, rfl, rfl, q⟩
end
theorem ret_now {h h' : DH} {Q : D → DH → Prop} {x : D} (q : Q x h') : retD h Q x h' := .inl q
theorem ret_drop {h h' : DH} {Q : D → DH → Prop} {x : D} (b : x.bel 0 = true) (e : ∃ g, h' = h ++ g) (q : Q x h) : retD h Q x h' := .inr (.inl ⟨b, e, q⟩)
theorem rgOk0 {n : Nat} (h : n ≤ 1048576) : RgOk 0 (n : Int) := ⟨by omega, by omega, by omega, by omega, by omega⟩
theorem rgD0 (n : Nat) : rgD 0 (n : Int) = (List.range n).map (d : Nat → D) := by
  unfold rgD
  have : ((n : Int) - 0).toNat = n := by omega
  rw [this]
  apply List.map_congr_left
  intro i _
  show D.int (0 + (i : Int)) = D.int (i : Int)
  rw [Int.zero_add]
theorem nat_int (t : List Nat) : t.map (d : Nat → D) = (t.map Int.ofNat).map D.int := by rw [List.map_map]; rfl
theorem sorted_tup {ns : List Int} {h : DH} {Q : D → DH → Prop} {m : Bool} (q : mkL m ((srtI ns).map D.int) h Q) : rdSorted m [.tup (ns.map D.int)] h Q := ⟨_, ns, rfl, rfl, q⟩
theorem sorted_lst {ns : List Int} {h : DH} {Q : D → DH → Prop} {m : Bool} (q : mkL m ((srtI ns).map D.int) h Q) : rdSorted m [.lst (ns.map D.int)] h Q := ⟨_, ns, rfl, rfl, q⟩
theorem eq_lst {α : Type} [DecidableEq α] [Py α] {a b : List α} {neg : Bool} {h : DH} {Q : D → DH → Prop} (hk : Py.k α < 64) (q : Q (.bl (if neg = true then !decide (a = b) else decide (a = b))) h) : rdEq neg (.lst (a.map d)) (.lst (b.map d)) h Q := by
  refine ⟨okD_mapL hk, okD_mapL hk, ?_⟩
  have e : PyData.eqv (rsv (.lst (a.map d)) h).py (rsv (.lst (b.map d)) h).py = decide (a = b) := by
    rw [rsv_lst, rsv_lst]
    simp only [D.py, PyData.eqv, eqvAll_map]
  rw [e]
  exact q
theorem eq_tup {α : Type} [DecidableEq α] [Py α] {a b : List α} {neg : Bool} {h : DH} {Q : D → DH → Prop} (hk : Py.k α < 64) (q : Q (.bl (if neg = true then !decide (a = b) else decide (a = b))) h) : rdEq neg (.tup (a.map d)) (.tup (b.map d)) h Q :=
  eq_d (a := a) (b := b) hk q
theorem comp_n {γ : Type} [DecidableEq γ] [Py γ] {chk : DH → Prop} {turn : Item → DH → (Option D → DH → Prop) → Prop} {h : DH} {Q : List D → DH → Prop} {f : γ → D} {l : List γ} (hc : chk h) (ht : ∀ x ∈ l, ∀ K : Option D → DH → Prop, K (some (f x)) h → turn (.one (d x)) h K) (q : Q (l.map f) h) :
    compD chk turn ((l.map d).map Item.one) [] h Q := comp_l hc ht q
/-! ### cells -/
section
variable {h : DH} {o : Ob} {xs : List D} {Q : D → DH → Prop} {m : Bool}
theorem cell_get : (h ++ [o])[h.length]? = some o := by simp
theorem cell_set {o' : Ob} : (h ++ [o]).set h.length o' = h ++ [o'] := by simp
theorem lsD_ref {n : Nat} (e : h[n]? = some (.lst xs)) : lsD (.ref n) h = some xs := by
  show (h[n]?).bind Ob.ls = some xs
  rw [e]; rfl
theorem sqD_ref {n : Nat} (e : h[n]? = some (.lst xs)) : sqD (.ref n) h = some xs := lsD_ref e
theorem ls_cell : lsD (.ref h.length) (h ++ [.lst xs]) = some xs := lsD_ref cell_get
theorem sq_cell : sqD (.ref h.length) (h ++ [.lst xs]) = some xs := lsD_ref cell_get
theorem set_l {n j : Nat} {i : Int} {v : D} {K : DH → Prop} (e : h[n]? = some (.lst xs)) (ej : ixN xs.length i = some j) (q : K (h.set n (.lst (xs.set j v)))) : setD (.ref n) (.int i) v h K :=
  ⟨n, rfl, .inl ⟨xs, i, j, e, rfl, ej, q⟩⟩
theorem set_cell {j : Nat} {v : D} {K : DH → Prop} (hj : j < xs.length) (q : K (h ++ [.lst (xs.set j v)])) : setD (.ref h.length) (.int j) v (h ++ [.lst xs]) K :=
  set_l cell_get (ixN_nat hj) (by rw [cell_set]; exact q)
theorem app_cell {v : D} (hz : xs.length < sizeLine) (q : Q .non (h ++ [.lst (xs ++ [v])])) : rdAppend (.ref h.length) [v] (h ++ [.lst xs]) Q :=
  ⟨h.length, v, xs, rfl, rfl, cell_get, hz, by rw [cell_set]; exact q⟩
theorem ix_cell {y : D} : rdIx (.ref h.length) y (h ++ [.lst xs]) Q = ∃ i d, y = .int i ∧ atI xs i = some d ∧ Q d (h ++ [.lst xs]) := by
  unfold rdIx
  rw [sq_cell]
theorem ix_ref {n : Nat} {y : D} (e : h[n]? = some (.lst xs)) : rdIx (.ref n) y h Q = ∃ i d, y = .int i ∧ atI xs i = some d ∧ Q d h := by
  unfold rdIx
  rw [sqD_ref e]
theorem len_cell : rdLen [.ref h.length] (h ++ [.lst xs]) Q = Q (.int xs.length) (h ++ [.lst xs]) := by
  apply propext
  unfold rdLen
  constructor
  · rintro ⟨d, e, q⟩; cases e; rw [sq_cell] at q; exact q
  · intro q; exact ⟨_, rfl, by rw [sq_cell]; exact q⟩
theorem tuple_cell : rdTuple [.ref h.length] (h ++ [.lst xs]) Q = Q (.tup xs) (h ++ [.lst xs]) := by
  apply propext
  constructor
  · rintro ⟨d, ys, e, e2, q⟩
    cases e; rw [sq_cell] at e2; cases e2; exact q
  · intro q; exact ⟨_, _, rfl, sq_cell, q⟩
theorem mul_rep {x : D} {n : Nat} (hn : n ≤ 1048576) : rdMul m (.lst [x]) (.int n) h Q = mkL m (List.replicate n x) h Q := by
  have e : (List.replicate n [x]).flatten = List.replicate n x := by
    induction n with
    | zero => rfl
    | succ n ih => rw [List.replicate_succ, List.replicate_succ, List.flatten_cons, ih (by omega)]; rfl
  have : rdMul m (.lst [x]) (.int n) h Q = (-(2 ^ 63) ≤ (n : Int) ∧ (n : Int) < 2 ^ 63 ∧ [x].length * (n : Int).toNat ≤ sizeLine ∧ mkL m (List.replicate (n : Int).toNat [x]).flatten h Q) := rfl
  rw [this, Int.toNat_natCast, e]
  apply propext
  refine ⟨fun q => q.2.2.2, fun q => ⟨by omega, by omega, ?_, q⟩⟩
  rw [List.length_singleton, Nat.one_mul]
  exact lsz hn
end
mutual
theorem pl_bel : ∀ (d : D) (k n : Nat), d.pl k = true → d.bel n = true
  | .non, _, _, _ => rfl
  | .bl _, _, _, _ => rfl
  | .int _, _, _, _ => rfl
  | .str _, _, _, _ => rfl
  | .tup xs, 0, _, h => by simp [D.pl] at h
  | .lst xs, 0, _, h => by simp [D.pl] at h
  | .tup xs, k + 1, n, h => by unfold D.bel; exact pls_bel xs k n (by simpa [D.pl] using h)
  | .lst xs, k + 1, n, h => by unfold D.bel; exact pls_bel xs k n (by simpa [D.pl] using h)
  | .ref _, _, _, h => by simp [D.pl] at h
  | .scr _, _, _, h => by simp [D.pl] at h
theorem pls_bel : ∀ (xs : List D) (k n : Nat), D.pls k xs = true → D.bels n xs = true
  | [], _, _, _ => rfl
  | x :: xs, k, n, h => by
    have h' := Bool.and_eq_true_iff.mp (show (D.pl k x && D.pls k xs) = true by simpa [D.pls] using h)
    unfold D.bels
    rw [pl_bel x k n h'.1, pls_bel xs k n h'.2]; rfl
end
theorem bel_d {α : Type} [DecidableEq α] [Py α] (a : α) (n : Nat) : (d a : D).bel n = true := pl_bel _ _ n (Py.pl a)
/-- a value of a type, the def's own cells dropped -/
theorem ret_d {α : Type} [DecidableEq α] [Py α] {a : α} {h : DH} {g : DH} {Q : D → DH → Prop} (q : Q (d a) h) : retD h Q (d a) (h ++ g) := ret_drop (bel_d a 0) ⟨g, rfl⟩ q
section
variable {γ : Type} {chk : DH → Prop} {turn : Item → Env → DH → (Env → DH → Prop) → Prop} {Q : Env → DH → Prop} {env : Env} {h : DH}
theorem for_e {g : γ → D} {l : List γ} (I : Nat → Env → DH → Prop) (h0 : I 0 env h)
    (step : ∀ i x env h K, i < l.length → l[i]? = some x → I i env h → (∀ env' h', I (i + 1) env' h' → K env' h') → chk h ∧ turn (.two (.int i) (g x)) env h K)
    (done : ∀ env h, I l.length env h → chk h ∧ Q env h) : forD chk turn (enumItems (l.map g)) env h Q := by
  refine forD_inv I h0 (fun i it env h K hi hI hK => ?_) (by rw [enum_len, List.length_map]; exact done)
  obtain ⟨x, h1, h2⟩ := enum_get hi
  rw [List.getElem?_map] at h1
  obtain ⟨y, h3, h4⟩ := Option.map_eq_some_iff.mp h1
  subst h2 h4
  exact step i y env h K (List.getElem?_eq_some_iff.mp h3).1 h3 hI hK
end
section
variable {γ δ : Type} {chk : DH → Prop} {turn : Item → DH → (Option D → DH → Prop) → Prop} {h : DH} {Q : List D → DH → Prop}
theorem comp_z {g : γ → D} {f : δ → D} {o : γ → δ → D} {l : List γ} {m : List δ} (hc : chk h) (ht : ∀ x y, (x, y) ∈ l.zip m → ∀ K : Option D → DH → Prop, K (some (o x y)) h → turn (.two (g x) (f y)) h K) (q : Q ((l.zip m).map fun p => o p.1 p.2) h) :
    compD chk turn (zipItems (l.map g) (m.map f)) [] h Q := by
  rw [zip_map]
  exact comp_d hc (fun x hx => ht x.1 x.2 hx) q
end
theorem all_tt {γ : Type} {l : List γ} {h : DH} {Q : D → DH → Prop} (q : Q (.bl true) h) : rdAll [.lst (l.map fun _ => .bl true)] h Q := by
  refine all_bl (p := fun _ => true) ?_
  rw [List.all_eq_true.mpr fun _ _ => rfl]; exact q
/-! ### slices -/
theorem cut_take {γ : Type} {f : γ → D} {xs : List γ} {p : Nat} : cutD (xs.map f) none (some (p : Int)) = (xs.take p).map f := by
  unfold cutD
  rw [HT.sIx_none, HT.sIx_nat, List.drop_zero, Nat.sub_zero, List.length_map, List.map_take]
  by_cases h : p ≤ xs.length
  · rw [Nat.min_eq_left h]
  · rw [Nat.min_eq_right (by omega), List.take_of_length_le (by simp), List.take_of_length_le (by simp; omega)]
theorem cut_drop {γ : Type} {f : γ → D} {xs : List γ} {p : Nat} : cutD (xs.map f) (some (p : Int)) none = (xs.drop p).map f := by
  unfold cutD
  rw [HT.sIx_none, HT.sIx_nat, List.length_map, List.map_drop]
  rw [List.take_of_length_le (by rw [List.length_drop, List.length_map]; exact Nat.le_refl _)]
  by_cases h : p ≤ xs.length
  · rw [Nat.min_eq_left h]
  · rw [Nat.min_eq_right (by omega), List.drop_eq_nil_of_le (by simp), List.drop_eq_nil_of_le (by simp; omega)]
theorem cut_mid {γ : Type} {f : γ → D} {xs : List γ} {p q : Nat} : cutD (xs.map f) (some (p : Int)) (some (q : Int)) = ((xs.take q).drop p).map f := by
  unfold cutD
  rw [HT.sIx_nat, HT.sIx_nat, List.length_map, List.map_drop, List.map_take, List.drop_take]
  apply List.ext_getElem?
  intro i
  rw [List.getElem?_take, List.getElem?_take, List.getElem?_drop, List.getElem?_drop]
  by_cases h : p ≤ xs.length
  · rw [Nat.min_eq_left h]
    by_cases h1 : i < q - p
    · rw [if_pos h1]
      by_cases h2 : i < min q xs.length - p
      · rw [if_pos h2]
      · rw [if_neg h2, List.getElem?_eq_none (by rw [List.length_map]; omega)]
    · rw [if_neg h1, if_neg (by omega)]
  · rw [if_neg (by omega)]
    split
    · rw [List.getElem?_eq_none (by rw [List.length_map]; omega)]
    · rfl
theorem app_map {γ : Type} {f : γ → D} {a b : List γ} : a.map f ++ b.map f = (a ++ b).map f := List.map_append.symm
theorem isT_t {xs : List D} : isT (.tup xs) = true := rfl
theorem isT_l {xs : List D} : isT (.lst xs) = false := rfl
theorem isT_r {n : Nat} : isT (.ref n) = false := rfl
theorem wipeD_two {env : Env} {u v : Nat} : wipeD env [u, v] = (env.set v none).set u none := rfl
theorem wipeD_three {env : Env} {u v w : Nat} : wipeD env [u, v, w] = ((env.set w none).set v none).set u none := rfl
section
variable {chk : DH → Prop} {turn : Item → Env → DH → (Env → DH → Prop) → Prop} {Q : Env → DH → Prop} {env : Env} {h : DH}
theorem for_r2 {a n : Nat} (I : Nat → Env → DH → Prop) (h0 : I 0 env h)
    (step : ∀ i env h K, i < n → I i env h → (∀ env' h', I (i + 1) env' h' → K env' h') → chk h ∧ turn (.one (.int ((a + i : Nat) : Int))) env h K)
    (done : ∀ env h, I n env h → chk h ∧ Q env h) : forD chk turn (rngItems (a : Int) n) env h Q := by
  unfold rngItems
  refine forD_inv I h0 (fun i it env h K hi hI hK => ?_) (by simpa using done)
  rw [List.getElem?_map] at hi
  obtain ⟨x, h1, h2⟩ := Option.map_eq_some_iff.mp hi
  obtain ⟨h3, h4⟩ := List.getElem?_eq_some_iff.mp h1
  rw [List.getElem_range] at h4
  subst h2 h4
  have := step i env h K (by simpa using h3) hI hK
  rw [Int.natCast_add] at this
  exact this
end
/-! ### dicts -/
theorem dlook_append (kvs : List (List Int × D)) (p : List Int × D) (k : List Int) : dlook (kvs ++ [p]) k = match dlook kvs k with
    | some x => some x
    | none => if p.1 = k then some p.2 else none := by
  induction kvs with
  | nil => rw [List.nil_append, dlook_cons]; rfl
  | cons q r ih =>
    rw [List.cons_append, dlook_cons, dlook_cons, ih]
    by_cases e : q.1 = k
    · rw [if_pos e, if_pos e]
    · rw [if_neg e, if_neg e]
theorem dlook_map (kvs : List (List Int × D)) (k k' : List Int) (v : D) : dlook (kvs.map fun kv => if kv.1 = k then (kv.1, v) else kv) k' = if k' = k then (dlook kvs k').map (fun _ => v) else dlook kvs k' := by
  induction kvs with
  | nil => by_cases e : k' = k <;> simp [dlook, e]
  | cons q r ih =>
    rw [List.map_cons, dlook_cons, dlook_cons, ih]
    by_cases e1 : q.1 = k
    · rw [if_pos e1]
      by_cases e2 : q.1 = k'
      · have e3 : k' = k := e2.symm.trans e1
        rw [if_pos e2, if_pos e2, if_pos e3]; rfl
      · rw [if_neg e2, if_neg e2]
    · rw [if_neg e1]
      by_cases e2 : q.1 = k'
      · have e3 : ¬ k' = k := fun z => e1 (e2.trans z)
        rw [if_pos e2, if_pos e2, if_neg e3]
      · rw [if_neg e2, if_neg e2]
theorem dlook_put (kvs : List (List Int × D)) (k k' : List Int) (v : D) : dlook (dput kvs k v) k' = if k' = k then some v else dlook kvs k' := by
  unfold dput
  by_cases h : (dlook kvs k).isSome = true
  · rw [if_pos h, dlook_map]
    by_cases e : k' = k
    · subst e
      rw [if_pos rfl, if_pos rfl]
      obtain ⟨x, hx⟩ := Option.isSome_iff_exists.mp h
      rw [hx]; rfl
    · rw [if_neg e, if_neg e]
  · rw [if_neg h, dlook_append]
    have hn : dlook kvs k = none := by
      cases q : dlook kvs k with
      | none => rfl
      | some x => rw [q] at h; exact absurd rfl h
    by_cases e : k' = k
    · subst e
      rw [hn]
    · have e' : ¬ k = k' := fun z => e z.symm
      rw [if_neg e]
      cases q : dlook kvs k' with
      | none => simp [e']
      | some x => rfl
theorem keyD_nat (k : List Nat) : keyD (.tup (k.map d)) = some (k.map Int.ofNat) := by
  show intsD (k.map d) = _
  rw [nat_int]; exact intsD_map _
section
variable {h : DH} {kvs : List (List Int × D)} {Q : D → DH → Prop}
theorem set_dcell {k : List Nat} {v : D} {K : DH → Prop} (hz : kvs.length < sizeLine) (q : K (h ++ [.dic (dput kvs (k.map Int.ofNat) v)])) : setD (.ref h.length) (.tup (k.map d)) v (h ++ [.dic kvs]) K :=
  ⟨h.length, rfl, .inr ⟨kvs, k.map Int.ofNat, cell_get, keyD_nat k, hz, by rw [cell_set]; exact q⟩⟩
theorem ix_dcell {k : List Nat} {x : D} (e : dlook kvs (k.map Int.ofNat) = some x) (q : Q x (h ++ [.dic kvs])) : rdIx (.ref h.length) (.tup (k.map d)) (h ++ [.dic kvs]) Q := by
  unfold rdIx
  have e1 : sqD (.ref h.length) (h ++ [.dic kvs]) = none := by
    show ((h ++ [Ob.dic kvs])[h.length]?).bind Ob.ls = none
    rw [cell_get]; rfl
  have e2 : dcD (.ref h.length) (h ++ [.dic kvs]) = some kvs := by
    show ((h ++ [Ob.dic kvs])[h.length]?).bind Ob.dc = some kvs
    rw [cell_get]; rfl
  rw [e1, e2]
  exact ⟨_, x, keyD_nat k, e, q⟩
end
theorem mapI_inj {a b : List Int} : a.map D.int = b.map D.int ↔ a = b := map_inj (α := Int)
/-- a comprehension over a range whose turns change the heap within J -/
theorem comp_j {γ : Type} {chk : DH → Prop} {turn : Item → DH → (Option D → DH → Prop) → Prop} {n : Nat} {h : DH} {Q : List D → DH → Prop} (f : γ → D) (P : γ → Prop) (J : DH → Prop) (hc : ∀ h, J h → chk h) (h0 : J h)
    (ht : ∀ i < n, ∀ h K, J h → (∀ x h', P x → J h' → K (some (f x)) h') → turn (.one (.int (i : Nat))) h K)
    (q : ∀ l : List γ, l.length = n → (∀ x ∈ l, P x) → ∀ h', J h' → Q (l.map f) h') : compD chk turn (rngItems 0 n) [] h Q := by
  rw [rng0_map]
  have key : ∀ (k i : Nat) (l : List γ) (h : DH), i + k = n → l.length = i → (∀ x ∈ l, P x) → J h → compD chk turn (((List.range n).drop i).map fun i => Item.one (Py.d i)) (l.map f) h Q := by
    intro k
    induction k with
    | zero =>
      intro i l h e hl hp hj
      rw [List.drop_eq_nil_of_le (by rw [List.length_range]; omega)]
      exact ⟨hc h hj, q l (by omega) hp h hj⟩
    | succ k ih =>
      intro i l h e hl hp hj
      have hi : i < (List.range n).length := by rw [List.length_range]; omega
      rw [List.drop_eq_getElem_cons hi, List.getElem_range, List.map_cons]
      refine ⟨hc h hj, ht i (by omega) h _ hj fun x h' px hj' => ?_⟩
      have := ih (i + 1) (l ++ [x]) h' (by omega) (by rw [List.length_append]; simp [hl]) (fun y hy => by
        rcases List.mem_append.mp hy with hy | hy
        · exact hp y hy
        · rw [List.mem_singleton.mp hy]; exact px) hj'
      rw [List.map_append] at this
      exact this
  exact key n 0 [] h (by omega) rfl (fun x hx => by cases hx) h0
theorem index_d {α : Type} [DecidableEq α] [Py α] {l : List α} {x : α} {h : DH} {Q : D → DH → Prop} (hk : Py.k α < 64) (hx : x ∈ l) (q : Q (.int (l.idxOf x : Nat)) h) : rdIndex (.tup (l.map d)) [d x] h Q := by
  have hl := List.idxOf_lt_length_iff.mpr hx
  refine ⟨_, l.map d, l.idxOf x, rfl, rfl, okD_mapL hk, okD_of (Py.pl x) (Nat.le_of_lt hk), ⟨⟨(d x).py, ?_, ?_⟩, fun m z hm hz => ?_⟩, q⟩
  · rw [pys_map, List.getElem?_map, List.getElem?_map, List.getElem?_eq_getElem hl, List.getElem_idxOf]; rfl
  · rw [Py.eq]; exact decide_eq_true rfl
  · rw [pys_map, List.getElem?_map, List.getElem?_map] at hz
    obtain ⟨w, hw, rfl⟩ := Option.map_eq_some_iff.mp hz
    obtain ⟨y, hy, rfl⟩ := Option.map_eq_some_iff.mp hw
    rw [Py.eq]
    refine decide_eq_false fun e => ?_
    subst e
    have hm' : m < l.findIdx (· == y) := hm
    have := List.not_of_lt_findIdx hm'
    rw [List.getElem?_eq_getElem (by omega)] at hy
    rw [Option.some.inj hy] at this
    simp at this
theorem rgD_nat {a b : Nat} : rgD (a : Int) (b : Int) = ((List.range (b - a)).map (a + ·)).map (d : Nat → D) := by
  unfold rgD
  rw [List.map_map, show ((b : Int) - (a : Int)).toNat = b - a by omega]
  apply List.map_congr_left
  intro i _
  show D.int ((a : Int) + (i : Int)) = D.int ((a + i : Nat) : Int)
  rw [Int.natCast_add]
theorem rgOk2 {a b : Nat} (h : a ≤ 1048576) (h2 : b ≤ 1048576) : RgOk (a : Int) (b : Int) := ⟨by omega, by omega, by omega, by omega, by omega⟩
/-- an own list, handed back as a value -/
theorem ret_cell {h : DH} {xs : List D} {Q : D → DH → Prop} (hp : D.frzs h.length (h ++ [.lst xs]) xs = xs) (hb : D.bels h.length xs = true) (q : Q (.lst xs) h) : retD h Q (.ref h.length) (h ++ [.lst xs]) := by
  have e : (D.ref h.length).frz h.length (h ++ [.lst xs]) = .lst xs := by
    unfold D.frz
    rw [if_neg (Nat.lt_irrefl _), cell_get]; rfl
  refine .inr (.inr (.inl ⟨?_, ⟨_, rfl⟩, ?_⟩))
  · rw [e]; unfold D.bel; exact hb
  · rw [e]; exact q
theorem pls_of {α : Type} [DecidableEq α] [Py α] (l : List α) : D.pls (Py.k α) (l.map d) = true := pls_all.mpr fun x hx => by
  obtain ⟨a, _, rfl⟩ := List.mem_map.mp hx
  exact Py.pl a
theorem ret_cellD {α : Type} [DecidableEq α] [Py α] {h : DH} {l : List α} {Q : D → DH → Prop} (q : Q (.lst (l.map d)) h) : retD h Q (.ref h.length) (h ++ [.lst (l.map d)]) := by
  have e : (D.ref h.length).frz h.length (h ++ [.lst (l.map d)]) = .lst (l.map d) := by
    unfold D.frz
    rw [if_neg (Nat.lt_irrefl _), cell_get]; rfl
  refine .inr (.inr (.inl ⟨?_, ⟨_, rfl⟩, ?_⟩))
  · rw [e]; unfold D.bel; exact pls_bel _ _ _ (pls_of l)
  · rw [e]; exact q
end Pd

/-! promises of the defs -/
namespace Lw
open PySem PySem.Spec PyProof.Rows L2 Pd Pd.Py
/-! ### plain words -/
/-- the item at a place -/
abbrev Gt (l : List Nat) (i : Nat) : Nat := l.getD i 0
/-- a turn: each place once -/
structure Turn (t : List Nat) : Prop where
  nd : t.Nodup
  lt : ∀ x ∈ t, x < t.length
def jn (one other : List Nat) : List Nat := other.map (Gt one)
def bk (t : List Nat) : List Nat := (List.range t.length).map fun a => t.idxOf a
def pl (n : Nat) : List Nat := List.range n
/-- rows as a table -/
abbrev Rw (R : List (List Nat)) (i : Nat) : List Nat := R.getD i []
abbrev R2' (R : List (List Nat)) (i j : Nat) : Nat := Gt (Rw R i) j
/-- a cycle set's rows -/
structure CSet (R : List (List Nat)) : Prop where
  pos : 1 ≤ R.length
  le : R.length ≤ 16
  turn : ∀ r ∈ R, Turn r
  len : ∀ r ∈ R, r.length = R.length
  cyc : ∀ a b c, a < R.length → b < R.length → c < R.length → R2' R (R2' R a b) (R2' R a c) = R2' R (R2' R b a) (R2' R b c)
def swp (R : List (List Nat)) (a b : Nat) : List Nat :=
  let f := Gt (bk (Rw R a)) b
  [f, R2' R f a]
def swaps (R : List (List Nat)) : List (List (List Nat)) := (List.range R.length).map fun a => (List.range R.length).map fun b => swp R a b
/-- the turns of a word's beginnings -/
def trn (R : List (List Nat)) (t : List Nat) : List Nat → List (List Nat)
  | [] => [t]
  | x :: w => t :: trn R (jn t (bk (Rw R x))) w
def laid (R : List (List Nat)) (t : List Nat) : List Nat → List Nat
  | [] => []
  | x :: w => Gt t x :: laid R (jn t (bk (Rw R x))) w
def unlaid (R : List (List Nat)) (t : List Nat) : List Nat → List Nat
  | [] => []
  | a :: w => Gt (bk t) a :: unlaid R (jn t (bk (Rw R (Gt (bk t) a)))) w
/-! ### basics -/
def sp_is_whole : SpD := fun ds h Q => ∃ v lo hi : Int, ds = [.int v, .int lo, .int hi] ∧ Q (.bl (decide (lo ≤ v ∧ v ≤ hi))) h
def sp_need_whole : SpD := fun ds h Q => ∃ v lo hi : Int, ds = [.int v, .int lo, .int hi] ∧ lo ≤ v ∧ v ≤ hi ∧ Q .non h
def sp_is_tuple_of : SpD := fun ds h Q => ∃ (xs : List D) (lo hi : Int), ds = [.tup xs, .int lo, .int hi] ∧ Q (.bl (decide (lo ≤ xs.length ∧ (xs.length : Int) ≤ hi))) h
def sp_are_wholes : SpD := fun ds h Q => ∃ (l : List Int) (many lo hi : Int), ds = [.tup (l.map .int), .int many, .int lo, .int hi] ∧ l.length ≤ 2 ^ 20 ∧ Q (.bl (decide (l.length = many ∧ ∀ x ∈ l, lo ≤ x ∧ x ≤ hi))) h
/-! ### turns -/
def sp_is_turn : SpD := fun ds h Q => ∃ t : List Nat, ds = [d t] ∧ 1 ≤ t.length ∧ t.length ≤ 60 ∧ Turn t ∧ Q (.bl true) h
def sp_joined_of : SpD := fun ds h Q => ∃ a b : List Nat, ds = [d a, d b] ∧ b.length ≤ 2 ^ 20 ∧ (∀ x ∈ b, x < a.length) ∧ Q (d (jn a b)) h
def sp_back_of : SpD := fun ds h Q => ∃ t : List Nat, ds = [d t] ∧ t.length ≤ 2 ^ 20 ∧ Turn t ∧ Q (d (bk t)) h
def sp_plain_of : SpD := fun ds h Q => ∃ n : Nat, ds = [.int n] ∧ n ≤ 2 ^ 20 ∧ Q (d (pl n)) h
/-! ### cycle sets -/
def sp_are_turn_rows : SpD := fun ds h Q => ∃ R, ds = [d R] ∧ CSet R ∧ Q (.bl true) h
def sp_first_unlike : SpD := fun ds h Q => ∃ R, ds = [d R] ∧ CSet R ∧ Q .non h
def sp_is_cycle_set : SpD := fun ds h Q => ∃ R, ds = [d R] ∧ CSet R ∧ Q (.bl true) h
def sp_need_cycle_set : SpD := fun ds h Q => ∃ R, ds = [d R] ∧ CSet R ∧ Q .non h
def sp_swap_pair : SpD := fun ds h Q => ∃ (R : List (List Nat)) (a b : Nat), ds = [d R, .int a, .int b] ∧ CSet R ∧ a < R.length ∧ b < R.length ∧ Q (d (swp R a b)) h
def sp_swaps_of : SpD := fun ds h Q => ∃ (R : List (List Nat)), ds = [d R] ∧ CSet R ∧ Q (d (swaps R)) h
/-! ### words -/
def sp_is_word_of : SpD := fun ds h Q => ∃ (w : List Nat) (n : Nat), ds = [d w, .int n] ∧ w.length ≤ 60 ∧ (∀ x ∈ w, x < n) ∧ Q (.bl true) h
def sp_need_word : SpD := fun ds h Q => ∃ (w : List Nat) (n : Nat), ds = [d w, .int n] ∧ w.length ≤ 60 ∧ (∀ x ∈ w, x < n) ∧ Q .non h
def sp_letter_adding : SpD := fun ds h Q => ∃ (R : List (List Nat)) (t : List Nat) (a : Nat), ds = [d R, d t, .int a] ∧ t.length ≤ 2 ^ 20 ∧ Turn t ∧ a < t.length ∧ Q (.int (Gt (bk t) a)) h
def sp_turns_of : SpD := fun ds h Q => ∃ (R : List (List Nat)) (w : List Nat), ds = [d R, d w] ∧ CSet R ∧ w.length ≤ 60 ∧ (∀ x ∈ w, x < R.length) ∧ Q (d (trn R (pl R.length) w)) h
def sp_laid_of : SpD := fun ds h Q => ∃ (R : List (List Nat)) (w : List Nat), ds = [d R, d w] ∧ CSet R ∧ w.length ≤ 60 ∧ (∀ x ∈ w, x < R.length) ∧ Q (d (laid R (pl R.length) w)) h
def sp_word_of_laid : SpD := fun ds h Q => ∃ (R : List (List Nat)) (w : List Nat), ds = [d R, d w] ∧ CSet R ∧ w.length ≤ 60 ∧ (∀ x ∈ w, x < R.length) ∧ Q (d (unlaid R (pl R.length) w)) h
def sp_laid_row : SpD := sp_laid_of
def sp_word_laid : SpD := sp_word_of_laid
def sp_swapped_of : SpD := fun ds h Q => ∃ (R : List (List Nat)) (w : List Nat) (p : Nat), ds = [d R, d w, .int p] ∧ CSet R ∧ w.length ≤ 60 ∧ (∀ x ∈ w, x < R.length) ∧ p + 1 < w.length ∧
  Q (d (w.take p ++ swp R (Gt w p) (Gt w (p + 1)) ++ w.drop (p + 2))) h
def sp_swapped_at : SpD := sp_swapped_of
/-! ### swap tables -/
abbrev S2 (S : List (List (List Nat))) (a b : Nat) : List Nat := (S.getD a []).getD b []
abbrev Lf (S : List (List (List Nat))) (a b : Nat) : Nat := Gt (S2 S a b) 0
abbrev Rt (S : List (List (List Nat))) (a b : Nat) : Nat := Gt (S2 S a b) 1
structure Tab (S : List (List (List Nat))) : Prop where
  pos : 1 ≤ S.length
  le : S.length ≤ 16
  row : ∀ r ∈ S, r.length = S.length
  pair : ∀ a b, a < S.length → b < S.length → (S2 S a b).length = 2 ∧ Lf S a b < S.length ∧ Rt S a b < S.length
def ahead (S : List (List (List Nat))) (t : List Nat) : List Nat := S2 S (Gt t 0) (Gt t 1) ++ [Gt t 2]
def behind (S : List (List (List Nat))) (t : List Nat) : List Nat := Gt t 0 :: S2 S (Gt t 1) (Gt t 2)
/-- a braid table -/
structure Braid (S : List (List (List Nat))) : Prop extends Tab S where
  rows : ∀ a b c, a < S.length → b < S.length → c < S.length → Lf S a b = Lf S a c → b = c
  cols : ∀ a b c, a < S.length → b < S.length → c < S.length → Rt S b a = Rt S c a → b = c
  one : ∀ a b c e, a < S.length → b < S.length → c < S.length → e < S.length → S2 S a b = S2 S c e → a = c ∧ b = e
  three : ∀ a b c, a < S.length → b < S.length → c < S.length → ahead S (behind S (ahead S [a, b, c])) = behind S (ahead S (behind S [a, b, c]))
/-- T takes back what S does -/
structure Inv2 (S T : List (List (List Nat))) : Prop where
  tab : Tab T
  len : T.length = S.length
  inv : ∀ a b, a < S.length → b < S.length → S2 T (Lf S a b) (Rt S a b) = [a, b]
def rws (S : List (List (List Nat))) : List (List Nat) := S.map fun r => r.map fun p => Gt p 0
def cls (S : List (List (List Nat))) : List (List Nat) := (List.range S.length).map fun i => S.map fun r => Gt (r.getD i []) 1
def prs (n : Nat) : List (List Nat) := (List.range n).flatMap fun a => (List.range n).map fun b => [a, b]
def sp_is_swap_row : SpD := fun ds h Q => ∃ (r : List (List Nat)) (n : Nat), ds = [d r, .int n] ∧ r.length = n ∧ 1 ≤ n ∧ n ≤ 16 ∧ (∀ p ∈ r, p.length = 2 ∧ ∀ x ∈ p, x < n) ∧ Q (.bl true) h
def sp_is_swap_table : SpD := fun ds h Q => ∃ S : List (List (List Nat)), ds = [d S] ∧ Tab S ∧ Q (.bl true) h
def sp_rows_in : SpD := fun ds h Q => ∃ S : List (List (List Nat)), ds = [d S] ∧ Tab S ∧ Q (.lst ((rws S).map d)) h
def sp_columns_in : SpD := fun ds h Q => ∃ S : List (List (List Nat)), ds = [d S] ∧ Tab S ∧ Q (.lst ((cls S).map d)) h
def sp_first_double : SpD := fun ds h Q => ∃ L : List (List Nat), ds = [.lst (L.map d)] ∧ L.length ≤ 1000 ∧ (∀ l ∈ L, l.Nodup ∧ l.length ≤ 1000) ∧ Q .non h
def sp_ahead_of : SpD := fun ds h Q => ∃ (S : List (List (List Nat))) (t : List Nat), ds = [d S, d t] ∧ Tab S ∧ t.length = 3 ∧ (∀ x ∈ t, x < S.length) ∧ Q (d (ahead S t)) h
def sp_behind_of : SpD := fun ds h Q => ∃ (S : List (List (List Nat))) (t : List Nat), ds = [d S, d t] ∧ Tab S ∧ t.length = 3 ∧ (∀ x ∈ t, x < S.length) ∧ Q (d (behind S t)) h
def sp_both_ways : SpD := fun ds h Q => ∃ (S : List (List (List Nat))) (t : List Nat), ds = [d S, d t] ∧ Tab S ∧ t.length = 3 ∧ (∀ x ∈ t, x < S.length) ∧ Q (d [ahead S (behind S (ahead S t)), behind S (ahead S (behind S t))]) h
def sp_is_three_at : SpD := fun ds h Q => ∃ (S : List (List (List Nat))) (t : List Nat), ds = [d S, d t] ∧ Tab S ∧ t.length = 3 ∧ (∀ x ∈ t, x < S.length) ∧ Q (.bl (decide (ahead S (behind S (ahead S t)) = behind S (ahead S (behind S t))))) h
def sp_first_three : SpD := fun ds h Q => ∃ S : List (List (List Nat)), ds = [d S] ∧ Braid S ∧ Q .non h
def sp_pairs_of : SpD := fun ds h Q => ∃ n : Nat, ds = [.int n] ∧ n ≤ 16 ∧ Q (.lst ((prs n).map d)) h
def sp_first_alike : SpD := fun ds h Q => ∃ S : List (List (List Nat)), ds = [d S] ∧ Braid S ∧ Q .non h
def sp_back_table : SpD := fun ds h Q => ∃ S : List (List (List Nat)), ds = [d S] ∧ Braid S ∧ ∀ T, Inv2 S T → Q (d T) h
def sp_first_fault : SpD := fun ds h Q => ∃ S : List (List (List Nat)), ds = [d S] ∧ Braid S ∧ Q .non h
def sp_need_braid : SpD := fun ds h Q => ∃ S : List (List (List Nat)), ds = [d S] ∧ Braid S ∧ Q .non h
/-! ### crossings -/
def plc (v : Int) : Nat := if 0 ≤ v then v.toNat else (-1 - v).toNat
/-- crossing words of so many strands -/
structure Cw (s : Nat) (w : List Int) : Prop where
  pos : 1 ≤ s
  le : s ≤ 8
  len : w.length ≤ 60
  at_ : ∀ v ∈ w, 1 - (s : Int) ≤ v ∧ v ≤ (s : Int) - 2
def cr1 (S T : List (List (List Nat))) (row : List Nat) (v : Int) : List Nat :=
  row.take (plc v) ++ S2 (if 0 ≤ v then S else T) (Gt row (plc v)) (Gt row (plc v + 1)) ++ row.drop (plc v + 2)
def crs (S T : List (List (List Nat))) (w : List Int) (row : List Nat) : List Nat := w.foldl (cr1 S T) row
def exch1 (l : List Nat) (v : Int) : List Nat := (l.set (plc v) (Gt l (plc v + 1))).set (plc v + 1) (Gt l (plc v))
def exch (w : List Int) (l : List Nat) : List Nat := w.foldl exch1 l
/-- the marks joined along the places -/
def mrk1 (m : List Nat) (p : Nat × Nat) : List Nat := m.map fun x => if x = Gt m p.2 then Gt m p.1 else x
def mrks (p : List Nat) : List Nat := ((List.range p.length).zip p).foldl mrk1 (List.range p.length)
def rings (p : List Nat) : Nat := (distI ((mrks p).map Int.ofNat)).length
def bkw (w : List Int) : List Int := w.reverse.map fun v => -1 - v
def allR (m : Nat) : Nat → List (List Nat)
  | 0 => [[]]
  | s + 1 => (allR m s).flatMap fun r => (List.range m).map fun a => r ++ [a]
def sp_is_crossing_in : SpD := fun ds h Q => ∃ (s : Nat) (w : List Int), ds = [.int s, .tup (w.map .int)] ∧ Cw s w ∧ Q (.bl true) h
def sp_need_crossing : SpD := fun ds h Q => ∃ (s : Nat) (w : List Int), ds = [.int s, .tup (w.map .int)] ∧ Cw s w ∧ Q .non h
def sp_place_of : SpD := fun ds h Q => ∃ v : Int, ds = [.int v] ∧ Q (.int (plc v)) h
def sp_crossed_by : SpD := fun ds h Q => ∃ (S T : List (List (List Nat))) (w : List Int) (row : List Nat), ds = [d S, d T, .tup (w.map .int), d row] ∧ Tab S ∧ Tab T ∧ T.length = S.length ∧ Cw row.length w ∧ (∀ x ∈ row, x < S.length) ∧ Q (d (crs S T w row)) h
def sp_crossed_in : SpD := fun ds h Q => ∃ (S : List (List (List Nat))) (w : List Int) (row : List Nat), ds = [d S, .tup (w.map .int), d row] ∧ Braid S ∧ Cw row.length w ∧ (∀ x ∈ row, x < S.length) ∧ ∀ T, Inv2 S T → Q (d (crs S T w row)) h
def sp_rings_in : SpD := fun ds h Q => ∃ (s : Nat) (w : List Int), ds = [.int s, .tup (w.map .int)] ∧ Cw s w ∧ Q (.int (rings (exch w (List.range s)))) h
def sp_crossed : SpD := fun ds h Q => ∃ (S : List (List (List Nat))) (s : Nat) (w : List Int) (row : List Nat), ds = [d S, .int s, .tup (w.map .int), d row] ∧ Braid S ∧ Cw s w ∧ row.length = s ∧ (∀ x ∈ row, x < S.length) ∧ ∀ T, Inv2 S T → Q (d (crs S T w row)) h
def sp_back_word : SpD := fun ds h Q => ∃ (s : Nat) (w : List Int), ds = [.int s, .tup (w.map .int)] ∧ Cw s w ∧ Q (.tup ((bkw w).map .int)) h
def sp_count_rings : SpD := sp_rings_in
def sp_all_rows : SpD := fun ds h Q => ∃ m s : Nat, ds = [.int m, .int s] ∧ 1 ≤ m ∧ m ≤ 16 ∧ s ≤ 8 ∧ m ^ s ≤ 4096 ∧ Q (.lst ((allR m s).map d)) h
def sp_need_few : SpD := fun ds h Q => ∃ m s : Nat, ds = [.int m, .int s] ∧ 1 ≤ m ∧ m ≤ 16 ∧ s ≤ 8 ∧ m ^ s ≤ 4096 ∧ Q .non h
/-- the rows that stay -/
def stay (S T : List (List (List Nat))) (s : Nat) (w : List Int) : List (List Nat) := (allR S.length s).filter fun r => decide (crs S T w r = r)
structure Few (S : List (List (List Nat))) (s : Nat) (w : List Int) : Prop where
  braid : Braid S
  cw : Cw s w
  few : S.length ^ s ≤ 4096
def sp_colours_in : SpD := fun ds h Q => ∃ (S : List (List (List Nat))) (s : Nat) (w : List Int), ds = [d S, .int s, .tup (w.map .int)] ∧ Few S s w ∧ ∀ T, Inv2 S T → Q (.lst ((stay S T s w).map d)) h
def sp_colours_of : SpD := fun ds h Q => ∃ (S : List (List (List Nat))) (s : Nat) (w : List Int), ds = [d S, .int s, .tup (w.map .int)] ∧ Few S s w ∧ ∀ T, Inv2 S T → Q (d (stay S T s w)) h
def sp_count_colours : SpD := fun ds h Q => ∃ (S : List (List (List Nat))) (s : Nat) (w : List Int), ds = [d S, .int s, .tup (w.map .int)] ∧ Few S s w ∧ ∀ T, Inv2 S T → Q (.int (stay S T s w).length) h
def sp_is_colour : SpD := fun ds h Q => ∃ (S : List (List (List Nat))) (s : Nat) (w : List Int) (r : List Nat), ds = [d S, .int s, .tup (w.map .int), d r] ∧ Braid S ∧ Cw s w ∧ r.length ≤ 60 ∧ (∀ x ∈ r, x < S.length) ∧ ∀ T, Inv2 S T → Q (.bl (decide (r.length = s ∧ crs S T w r = r))) h
/-! ### the law's own -/
def Cup (h : DH) : Prop := ∃ a b : Int, 0 ≤ a ∧ 0 ≤ b ∧ h = [.lst [.int a, .int b]]
mutual
def sm : D → Bool
  | .tup xs => decide (xs.length ≤ 1048576) && sms xs
  | .lst xs => decide (xs.length ≤ 1048576) && sms xs
  | _ => true
def sms : List D → Bool
  | [] => true
  | x :: xs => sm x && sms xs
end
def srt : D → Int
  | .non => 0
  | .bl _ => 1
  | .int _ => 2
  | .str _ => 3
  | .tup _ => 4
  | .lst _ => 5
  | _ => 6
def stock : List (List (List Nat)) := [[[0]], [[0, 1], [0, 1]], [[1, 0], [1, 0]], [[0, 1, 2], [0, 1, 2], [1, 0, 2]], [[1, 2, 0], [1, 2, 0], [1, 2, 0]], [[1, 0, 2], [1, 0, 2], [0, 1, 2]], [[0, 1, 3, 2], [3, 2, 0, 1], [2, 3, 1, 0], [1, 0, 2, 3]]]
def beside (A B : List (List Nat)) : List (List Nat) := A.map (fun r => r ++ (List.range B.length).map (A.length + ·)) ++ B.map (fun r => List.range A.length ++ r.map (A.length + ·))
def renamed (R : List (List Nat)) (t : List Nat) : List (List Nat) := (List.range R.length).map fun a => (List.range R.length).map fun b => Gt t (R2' R (t.idxOf a) (t.idxOf b))
/-- the square's letters: each once -/
def SqI (R : List (List Nat)) : Prop := ∀ a b, a < R.length → b < R.length → R2' R a a = R2' R b b → a = b
structure Good (R : List (List Nat)) : Prop where
  c : CSet R
  sq : SqI R
  le : R.length ≤ 6
def Gi (l : List Int) (i : Nat) : Int := l.getD i 0
def lr1 (p : List Nat) (a : Nat) (st : List Int × Nat) : List Int × Nat := if Gi st.1 st.2 = -1 then (st.1.set st.2 a, Gt p st.2) else st
def lrow (p : List Nat) (m : List Int) (a : Nat) : List Int := ((List.range p.length).foldl (fun st _ => lr1 p a st) (m, a)).1
def lrings (p : List Nat) : List Int := (List.range p.length).foldl (lrow p) (List.replicate p.length (-1))
def sp__law_cup : SpD := fun ds h Q => ∃ ns : List Int, ds = [.scr ns] ∧ ns.length ≤ 63 ∧ h = [] ∧ ∀ h', Cup h' → Q (.ref 0) h'
def sp__law_roll : SpD := fun ds h Q => ∃ m : Nat, ds = [.ref 0, .int m] ∧ 0 < m ∧ m ≤ 1000000 ∧ Cup h ∧ ∀ (r : Nat) h', r < m → Cup h' → Q (.int r) h'
def sp__law_some : SpD := fun ds h Q => ∃ xs : List D, ds = [.ref 0, .lst xs] ∧ 0 < xs.length ∧ xs.length ≤ 1000 ∧ Cup h ∧ ∀ x h', x ∈ xs → Cup h' → Q x h'
def sp__law_sort : SpD := fun ds h Q => ∃ x : D, ds = [x] ∧ (∃ k, x.pl k = true) ∧ Q (.int (srt x)) h
def sp_like (k : Nat) : SpD := fun ds h Q => ∃ x : D, ds = [x, x] ∧ x.pl k = true ∧ sm x = true ∧ Q (.bl true) h
def sp__law_like : SpD := sp_like 6
def sp__law_turn : SpD := fun ds h Q => ∃ n : Nat, ds = [.ref 0, .int n] ∧ n ≤ 60 ∧ Cup h ∧ ∀ t h', Turn t → t.length = n → Cup h' → Q (d t) h'
def sp__law_stock : SpD := fun ds h Q => ds = [] ∧ Q (.lst (stock.map d)) h
def sp__law_beside : SpD := fun ds h Q => ∃ A B : List (List Nat), ds = [d A, d B] ∧ A.length ≤ 16 ∧ B.length ≤ 16 ∧ (∀ r ∈ A, r.length ≤ 16) ∧ (∀ r ∈ B, r.length ≤ 16) ∧ Q (d (beside A B)) h
def sp__law_renamed : SpD := fun ds h Q => ∃ (R : List (List Nat)) (t : List Nat), ds = [d R, d t] ∧ CSet R ∧ Turn t ∧ t.length = R.length ∧ Q (d (renamed R t)) h
def sp__law_rows : SpD := fun ds h Q => ds = [.ref 0] ∧ Cup h ∧ ∀ R h', Good R → Cup h' → Q (d R) h'
def sp__law_laid : SpD := fun ds h Q => ∃ (R : List (List Nat)) (w : List Nat), ds = [d R, d w] ∧ CSet R ∧ w.length ≤ 60 ∧ (∀ x ∈ w, x < R.length) ∧ Q (.lst ((laid R (pl R.length) w).map d)) h
def sp__law_exchanged : SpD := fun ds h Q => ∃ (l : List Nat) (w : List Int) (x : D), ds = [x, .tup (w.map .int)] ∧ (x = .lst (l.map d) ∨ x = d l) ∧ l.length ≤ 60 ∧ (∀ v ∈ w, plc v + 1 < l.length) ∧ Q (.lst ((exch w l).map d)) h
def sp__law_rings : SpD := fun ds h Q => ∃ p : List Nat, ds = [.lst (p.map d)] ∧ p.length ≤ 60 ∧ (∀ x ∈ p, x < p.length) ∧ Q (.lst ((lrings p).map .int)) h
def sp__law_all_rows : SpD := sp_all_rows
def sp__law_crossings_right : SpD := fun ds h Q => ds = [.ref 0] ∧ Cup h ∧ ∀ h', Cup h' → Q (.bl true) h'
def sp__law_written_right : SpD := fun ds h Q => ds = [] ∧ Q (.bl true) h
def sp_law : SpD := spLaw
end Lw

/-! plain: turns -/
namespace Lw
open Pd
theorem Gt_eq {l : List Nat} {i : Nat} (h : i < l.length) : l[i]? = some (Gt l i) := by
  unfold Gt; rw [List.getD_eq_getElem?_getD, List.getElem?_eq_getElem h]; rfl
theorem Gt_mem {l : List Nat} {i : Nat} (h : i < l.length) : Gt l i ∈ l := List.mem_of_getElem? (Gt_eq h)
theorem Gt_of {l : List Nat} {i x : Nat} (h : l[i]? = some x) : Gt l i = x := by
  unfold Gt; rw [List.getD_eq_getElem?_getD, h]; rfl
theorem Gt_map {f : Nat → Nat} {l : List Nat} {i : Nat} (h : i < l.length) : Gt (l.map f) i = f (Gt l i) := Gt_of (by rw [List.getElem?_map, Gt_eq h]; rfl)
theorem Gt_rng {f : Nat → Nat} {n i : Nat} (h : i < n) : Gt ((List.range n).map f) i = f i := Gt_of (by rw [List.getElem?_map, List.getElem?_range h]; rfl)
theorem Gt_range {n i : Nat} (h : i < n) : Gt (List.range n) i = i := Gt_of (List.getElem?_range h)
theorem ext_Gt {a b : List Nat} (hl : a.length = b.length) (h : ∀ i, i < a.length → Gt a i = Gt b i) : a = b := by
  apply List.ext_getElem?
  intro i
  by_cases hi : i < a.length
  · rw [Gt_eq hi, Gt_eq (by omega), h i hi]
  · rw [List.getElem?_eq_none (by omega), List.getElem?_eq_none (by omega)]
theorem nodup_full {n : Nat} {l : List Nat} (nd : l.Nodup) (hl : l.length = n) (h : ∀ x ∈ l, x < n) {k : Nat} (hk : k < n) : k ∈ l := by
  by_cases m : k ∈ l
  · exact m
  · have := L2.nat_nodup_len l ((List.range n).erase k) nd fun x hx => by
      rw [List.Nodup.mem_erase_iff List.nodup_range]
      exact ⟨fun e => m (by rw [← e]; exact hx), List.mem_range.mpr (h x hx)⟩
    rw [List.length_erase_of_mem (List.mem_range.mpr hk), List.length_range] at this
    omega
section
variable {t : List Nat}
theorem Turn.mem (h : Turn t) {k : Nat} (hk : k < t.length) : k ∈ t := nodup_full h.nd rfl h.lt hk
theorem Turn.perm (h : Turn t) : t.Perm (List.range t.length) := L2.perm_range _ _ rfl fun k hk => h.mem hk
theorem Turn.inj (h : Turn t) {i j : Nat} (hi : i < t.length) (hj : j < t.length) (e : Gt t i = Gt t j) : i = j := by
  have : t[i]? = t[j]? := by rw [Gt_eq hi, Gt_eq hj, e]
  exact (List.getElem?_inj hi h.nd).mp this
theorem bk_len : (bk t).length = t.length := by unfold bk; rw [List.length_map, List.length_range]
theorem Gt_bk {a : Nat} (h : a < t.length) : Gt (bk t) a = t.idxOf a := Gt_rng h
theorem bk_lt (h : Turn t) {a : Nat} (ha : a < t.length) : Gt (bk t) a < t.length := by
  rw [Gt_bk ha]; exact List.idxOf_lt_length_iff.mpr (h.mem ha)
theorem t_bk (h : Turn t) {a : Nat} (ha : a < t.length) : Gt t (Gt (bk t) a) = a := by
  rw [Gt_bk ha]
  have hi := List.idxOf_lt_length_iff.mpr (h.mem ha)
  refine Gt_of ?_
  rw [List.getElem?_eq_getElem hi, List.getElem_idxOf]
theorem Gt_lt (h : Turn t) {a : Nat} (ha : a < t.length) : Gt t a < t.length := h.lt _ (Gt_mem ha)
theorem bk_t (h : Turn t) {a : Nat} (ha : a < t.length) : Gt (bk t) (Gt t a) = a := h.inj (bk_lt h (Gt_lt h ha)) ha (t_bk h (Gt_lt h ha))
theorem turn_of {l : List Nat} (lt : ∀ i, i < l.length → Gt l i < l.length) (inj : ∀ i j, i < l.length → j < l.length → Gt l i = Gt l j → i = j) : Turn l := by
  refine ⟨?_, fun x hx => ?_⟩
  · refine List.pairwise_iff_getElem.mpr fun i j hi hj hij e => ?_
    have := inj i j hi hj (by rw [Gt_of (List.getElem?_eq_getElem hi), Gt_of (List.getElem?_eq_getElem hj), e])
    omega
  · obtain ⟨i, hi⟩ := List.getElem?_of_mem hx
    have hl := (List.getElem?_eq_some_iff.mp hi).1
    have := lt i hl
    rwa [Gt_of hi] at this
theorem bk_turn (h : Turn t) : Turn (bk t) := by
  refine turn_of (fun i hi => ?_) fun i j hi hj e => ?_
  · rw [bk_len] at hi ⊢; exact bk_lt h hi
  · rw [bk_len] at hi hj
    rw [← t_bk h hi, ← t_bk h hj, e]
theorem jn_len {a b : List Nat} : (jn a b).length = b.length := by unfold jn; rw [List.length_map]
theorem Gt_jn {a b : List Nat} {i : Nat} (h : i < b.length) : Gt (jn a b) i = Gt a (Gt b i) := Gt_map h
theorem jn_turn {a b : List Nat} (ha : Turn a) (hb : Turn b) (e : a.length = b.length) : Turn (jn a b) := by
  refine turn_of (fun i hi => ?_) fun i j hi hj q => ?_
  · rw [jn_len] at hi ⊢
    rw [Gt_jn hi, ← e]
    exact Gt_lt ha (by rw [e]; exact Gt_lt hb hi)
  · rw [jn_len] at hi hj
    rw [Gt_jn hi, Gt_jn hj] at q
    exact hb.inj hi hj (ha.inj (by rw [e]; exact Gt_lt hb hi) (by rw [e]; exact Gt_lt hb hj) q)
theorem pl_len {n : Nat} : (pl n).length = n := List.length_range
theorem Gt_pl {n i : Nat} (h : i < n) : Gt (pl n) i = i := Gt_range h
theorem pl_turn (n : Nat) : Turn (pl n) := ⟨List.nodup_range, fun x hx => by rw [pl_len]; exact List.mem_range.mp hx⟩
theorem Turn.ints (h : Turn t) : srtI (t.map Int.ofNat) = (List.range t.length).map Int.ofNat := by
  symm
  apply srt_is
  · exact (h.perm.map _).symm
  · rw [List.pairwise_map]
    exact List.Pairwise.imp (fun {a b} (z : a ≤ b) => Int.ofNat_le.mpr z) (List.pairwise_le_range)
end
/-! ### cycle sets -/
section
variable {R : List (List Nat)}
theorem Rw_mem {a : Nat} (h : a < R.length) : Rw R a ∈ R := by
  have : R[a]? = some (Rw R a) := by unfold Rw; rw [List.getD_eq_getElem?_getD, List.getElem?_eq_getElem h]; rfl
  exact List.mem_of_getElem? this
theorem Rw_eq {a : Nat} (h : a < R.length) : R[a]? = some (Rw R a) := by unfold Rw; rw [List.getD_eq_getElem?_getD, List.getElem?_eq_getElem h]; rfl
theorem CSet.tr (c : CSet R) {a : Nat} (h : a < R.length) : Turn (Rw R a) := c.turn _ (Rw_mem h)
theorem CSet.ln (c : CSet R) {a : Nat} (h : a < R.length) : (Rw R a).length = R.length := c.len _ (Rw_mem h)
theorem CSet.lt (c : CSet R) {a b : Nat} (h : a < R.length) (hb : b < R.length) : R2' R a b < R.length := by
  have := Gt_lt (c.tr h) (a := b) (by rw [c.ln h]; exact hb)
  rwa [c.ln h] at this
theorem CSet.blt (c : CSet R) {a b : Nat} (h : a < R.length) (hb : b < R.length) : Gt (bk (Rw R a)) b < R.length := by
  have := bk_lt (c.tr h) (a := b) (by rw [c.ln h]; exact hb)
  rwa [c.ln h] at this
end
end Lw

namespace Lw
open PySem PySem.Spec PyProof.Rows L2 Pd
def w_is_whole : WS := wsSeq (wsRet (wAndV (wIsi "int" (wVar 0)) (wAndV (wNotV (wIsi "bool" (wVar 0))) (w3 rdLe rdLe (wVar 1) (wVar 0) (wVar 2))))) (wsNil)
def N_is_whole : List Str := ["value", "low", "high"]
def w_need_whole : WS := wsSeq (wsIf (wtNot (wTest (wFn 3 sp_is_whole (wCons (wVar 0) (wCons (wVar 1) (wCons (wVar 2) wNil)))))) (wsSeq (wsNever) (wsNil)) (wsNil)) (wsNil)
def N_need_whole : List Str := ["value", "low", "high"]
def w_is_tuple_of : WS := wsSeq (wsRet (wAndV (wIsi "tuple" (wVar 0)) (w3 rdLe rdLe (wVar 1) (wCall rdLen (wCons (wVar 0) wNil)) (wVar 2)))) (wsNil)
def N_is_tuple_of : List Str := ["value", "low", "high"]
def w_are_wholes : WS := wsSeq (wsRet (wAndV (wFn 3 sp_is_tuple_of (wCons (wVar 0) (wCons (wVar 1) (wCons (wVar 1) wNil)))) (wCall rdAll (wCons (wComp false (wiSeq (wVar 0)) (.nm 4) [4] (wtYes) (wFn 3 sp_is_whole (wCons (wVar 4) (wCons (wVar 2) (wCons (wVar 3) wNil))))) wNil)))) (wsNil)
def N_are_wholes : List Str := ["value", "many", "low", "high", "one"]
def w_is_swap_row : WS := wsSeq (wsRet (wAndV (wFn 3 sp_is_tuple_of (wCons (wVar 0) (wCons (wVar 1) (wCons (wVar 1) wNil)))) (wCall rdAll (wCons (wComp false (wiSeq (wVar 0)) (.nm 2) [2] (wtYes) (wFn 4 sp_are_wholes (wCons (wVar 2) (wCons (wC (.int 2)) (wCons (wC (.int 0)) (wCons (w2 rdSub (wVar 1) (wC (.int 1))) wNil)))))) wNil)))) (wsNil)
def N_is_swap_row : List Str := ["value", "many", "pair"]
def w_is_swap_table : WS := wsSeq (wsRet (wAndV (wFn 3 sp_is_tuple_of (wCons (wVar 0) (wCons (wC (.int 1)) (wCons (wC (.int 16)) wNil)))) (wCall rdAll (wCons (wComp false (wiSeq (wVar 0)) (.nm 1) [1] (wtYes) (wFn 2 sp_is_swap_row (wCons (wVar 1) (wCons (wCall rdLen (wCons (wVar 0) wNil)) wNil)))) wNil)))) (wsNil)
def N_is_swap_table : List Str := ["value", "row"]
def w_rows_in : WS := wsSeq (wsRet (wComp false (wiSeq (wVar 0)) (.nm 1) [1] (wtYes) (wCall rdTuple (wCons (wComp false (wiSeq (wVar 1)) (.nm 2) [2] (wtYes) (w2 rdIx (wVar 2) (wC (.int 0)))) wNil)))) (wsNil)
def N_rows_in : List Str := ["swaps", "row", "pair"]
def w_columns_in : WS := wsSeq (wsRet (wComp false (wiRng1 (wCons (wCall rdLen (wCons (wVar 0) wNil)) wNil)) (.nm 1) [1] (wtYes) (wCall rdTuple (wCons (wComp false (wiSeq (wVar 0)) (.nm 2) [2] (wtYes) (w2 rdIx (w2 rdIx (wVar 2) (wVar 1)) (wC (.int 1)))) wNil)))) (wsNil)
def N_columns_in : List Str := ["swaps", "at", "row"]
def w_first_double : WS := wsSeq (wsFor (wiEnum (wCons (wVar 0) wNil)) (.tp [1, 2]) (wsSeq (wsFor (wiRng1 (wCons (wCall rdLen (wCons (wVar 2) wNil)) wNil)) (.nm 3) (wsSeq (wsFor (wiRng2 (wCons (w2 (rdAdd false) (wVar 3) (wC (.int 1))) (wCons (wCall rdLen (wCons (wVar 2) wNil)) wNil))) (.nm 4) (wsSeq (wsIf (wTest (w2 (rdEq false) (w2 rdIx (wVar 2) (wVar 3)) (w2 rdIx (wVar 2) (wVar 4)))) (wsSeq (wsRet (wTup (wCons (wVar 1) (wCons (wVar 3) (wCons (wVar 4) wNil))))) (wsNil)) (wsNil)) (wsNil))) (wsNil))) (wsNil))) (wsSeq (wsRet (wC .non)) (wsNil))
def N_first_double : List Str := ["leads", "at", "lead", "one", "other"]
def w_ahead_of : WS := wsSeq (wsRet (w2 (rdAdd false) (w2 rdIx (w2 rdIx (wVar 0) (w2 rdIx (wVar 1) (wC (.int 0)))) (w2 rdIx (wVar 1) (wC (.int 1)))) (wTup (wCons (w2 rdIx (wVar 1) (wC (.int 2))) wNil)))) (wsNil)
def N_ahead_of : List Str := ["swaps", "triple"]
def w_behind_of : WS := wsSeq (wsRet (w2 (rdAdd false) (wTup (wCons (w2 rdIx (wVar 1) (wC (.int 0))) wNil)) (w2 rdIx (w2 rdIx (wVar 0) (w2 rdIx (wVar 1) (wC (.int 1)))) (w2 rdIx (wVar 1) (wC (.int 2)))))) (wsNil)
def N_behind_of : List Str := ["swaps", "triple"]
def w_both_ways : WS := wsSeq (wsAsg (wFn 2 sp_ahead_of (wCons (wVar 0) (wCons (wFn 2 sp_behind_of (wCons (wVar 0) (wCons (wFn 2 sp_ahead_of (wCons (wVar 0) (wCons (wVar 1) wNil))) wNil))) wNil))) (wgNm 2)) (wsSeq (wsAsg (wFn 2 sp_behind_of (wCons (wVar 0) (wCons (wFn 2 sp_ahead_of (wCons (wVar 0) (wCons (wFn 2 sp_behind_of (wCons (wVar 0) (wCons (wVar 1) wNil))) wNil))) wNil))) (wgNm 3)) (wsSeq (wsRet (wTup (wCons (wVar 2) (wCons (wVar 3) wNil)))) (wsNil)))
def N_both_ways : List Str := ["swaps", "triple", "one", "other"]
def w_is_three_at : WS := wsSeq (wsAsg (wFn 2 sp_both_ways (wCons (wVar 0) (wCons (wVar 1) wNil))) (wgTup 2 (wgCons (wgNm 2) (wgCons (wgNm 3) wgNil)))) (wsSeq (wsRet (w2 (rdEq false) (wVar 2) (wVar 3))) (wsNil))
def N_is_three_at : List Str := ["swaps", "triple", "one", "other"]
def w_first_three : WS := wsSeq (wsAsg (wListRg false (wRg1 (wCall rdLen (wCons (wVar 0) wNil)))) (wgNm 1)) (wsSeq (wsFor (wiSeq (wVar 1)) (.nm 2) (wsSeq (wsFor (wiSeq (wVar 1)) (.nm 3) (wsSeq (wsFor (wiSeq (wVar 1)) (.nm 4) (wsSeq (wsIf (wtNot (wTest (wFn 2 sp_is_three_at (wCons (wVar 0) (wCons (wTup (wCons (wVar 2) (wCons (wVar 3) (wCons (wVar 4) wNil)))) wNil))))) (wsSeq (wsRet (wTup (wCons (wVar 2) (wCons (wVar 3) (wCons (wVar 4) wNil))))) (wsNil)) (wsNil)) (wsNil))) (wsNil))) (wsNil))) (wsSeq (wsRet (wC .non)) (wsNil)))
def N_first_three : List Str := ["swaps", "letters", "one", "other", "last"]
def w_is_turn : WS := wsSeq (wsIf (wtOr (wtNot (wTest (wFn 3 sp_is_tuple_of (wCons (wVar 0) (wCons (wC (.int 1)) (wCons (wC (.int 60)) wNil)))))) (wtNot (wTest (wCall rdAll (wCons (wComp false (wiSeq (wVar 0)) (.nm 1) [1] (wtYes) (wFn 3 sp_is_whole (wCons (wVar 1) (wCons (wC (.int 0)) (wCons (w2 rdSub (wCall rdLen (wCons (wVar 0) wNil)) (wC (.int 1))) wNil))))) wNil))))) (wsSeq (wsRet (wC (.bl false))) (wsNil)) (wsNil)) (wsSeq (wsRet (w2 (rdEq false) (wCall (rdSorted false) (wCons (wVar 0) wNil)) (wListRg false (wRg1 (wCall rdLen (wCons (wVar 0) wNil)))))) (wsNil))
def N_is_turn : List Str := ["value", "own"]
def w_joined_of : WS := wsSeq (wsRet (wCall rdTuple (wCons (wComp false (wiSeq (wVar 1)) (.nm 2) [2] (wtYes) (w2 rdIx (wVar 0) (wVar 2))) wNil))) (wsNil)
def N_joined_of : List Str := ["one", "other", "own"]
def w_back_of : WS := wsSeq (wsAsg (w2 (rdMul true) (wLst false (wCons (wC (.int 0)) wNil)) (wCall rdLen (wCons (wVar 0) wNil))) (wgNm 1)) (wsSeq (wsFor (wiEnum (wCons (wVar 0) wNil)) (.tp [2, 3]) (wsSeq (wsAsg (wVar 2) (wgSub (wVar 1) (wVar 3))) (wsNil))) (wsSeq (wsRet (wCall rdTuple (wCons (wVar 1) wNil))) (wsNil)))
def N_back_of : List Str := ["turn", "found", "at", "own"]
def w_plain_of : WS := wsSeq (wsRet (wTupRg (wRg1 (wVar 0)))) (wsNil)
def N_plain_of : List Str := ["many"]
def w_pairs_of : WS := wsSeq (wsAsg (wLst false (wNil)) (wgNm 1)) (wsSeq (wsFor (wiRng1 (wCons (wVar 0) wNil)) (.nm 2) (wsSeq (wsAsg (w2 (rdAdd false) (wVar 1) (wComp false (wiRng1 (wCons (wVar 0) wNil)) (.nm 3) [3] (wtYes) (wTup (wCons (wVar 2) (wCons (wVar 3) wNil))))) (wgNm 1)) (wsNil))) (wsSeq (wsRet (wVar 1)) (wsNil)))
def N_pairs_of : List Str := ["many", "found", "one", "other"]
def w_first_alike : WS := wsSeq (wsAsg (wFn 1 sp_pairs_of (wCons (wCall rdLen (wCons (wVar 0) wNil)) wNil)) (wgNm 1)) (wsSeq (wsFor (wiEnum (wCons (wVar 1) wNil)) (.tp [2, 3]) (wsSeq (wsFor (wiSeq (wSl false (wVar 1) (wPart (w2 (rdAdd false) (wVar 2) (wC (.int 1)))) (wNoPart))) (.nm 4) (wsSeq (wsIf (wTest (w2 (rdEq false) (w2 rdIx (w2 rdIx (wVar 0) (w2 rdIx (wVar 3) (wC (.int 0)))) (w2 rdIx (wVar 3) (wC (.int 1)))) (w2 rdIx (w2 rdIx (wVar 0) (w2 rdIx (wVar 4) (wC (.int 0)))) (w2 rdIx (wVar 4) (wC (.int 1)))))) (wsSeq (wsRet (wTup (wCons (wVar 3) (wCons (wVar 4) wNil)))) (wsNil)) (wsNil)) (wsNil))) (wsNil))) (wsSeq (wsRet (wC .non)) (wsNil)))
def N_first_alike : List Str := ["swaps", "pairs", "at", "pair", "other"]
def w_back_table : WS := wsSeq (wsAsg (wDict0) (wgNm 1)) (wsSeq (wsFor (wiSeq (wFn 1 sp_pairs_of (wCons (wCall rdLen (wCons (wVar 0) wNil)) wNil))) (.nm 2) (wsSeq (wsAsg (wVar 2) (wgSub (wVar 1) (w2 rdIx (w2 rdIx (wVar 0) (w2 rdIx (wVar 2) (wC (.int 0)))) (w2 rdIx (wVar 2) (wC (.int 1)))))) (wsNil))) (wsSeq (wsAsg (wListRg false (wRg1 (wCall rdLen (wCons (wVar 0) wNil)))) (wgNm 3)) (wsSeq (wsRet (wCall rdTuple (wCons (wComp false (wiSeq (wVar 3)) (.nm 4) [4] (wtYes) (wCall rdTuple (wCons (wComp false (wiSeq (wVar 3)) (.nm 5) [5] (wtYes) (w2 rdIx (wVar 1) (wTup (wCons (wVar 4) (wCons (wVar 5) wNil))))) wNil))) wNil))) (wsNil))))
def N_back_table : List Str := ["swaps", "found", "pair", "letters", "one", "other"]
def w_first_fault : WS := wsSeq (wsAsg (wFn 1 sp_first_double (wCons (wFn 1 sp_rows_in (wCons (wVar 0) wNil)) wNil)) (wgNm 1)) (wsSeq (wsIf (wTest (w2 (rdNone true) (wVar 1) (wC .non))) (wsSeq (wsRet (wTup (wCons (wC (.str "rows")) (wCons (wVar 1) wNil)))) (wsNil)) (wsNil)) (wsSeq (wsAsg (wFn 1 sp_first_double (wCons (wFn 1 sp_columns_in (wCons (wVar 0) wNil)) wNil)) (wgNm 1)) (wsSeq (wsIf (wTest (w2 (rdNone true) (wVar 1) (wC .non))) (wsSeq (wsRet (wTup (wCons (wC (.str "columns")) (wCons (wVar 1) wNil)))) (wsNil)) (wsNil)) (wsSeq (wsAsg (wFn 1 sp_first_alike (wCons (wVar 0) wNil)) (wgNm 1)) (wsSeq (wsIf (wTest (w2 (rdNone true) (wVar 1) (wC .non))) (wsSeq (wsRet (wTup (wCons (wC (.str "whole")) (wCons (wVar 1) wNil)))) (wsNil)) (wsNil)) (wsSeq (wsAsg (wFn 1 sp_first_three (wCons (wVar 0) wNil)) (wgNm 1)) (wsSeq (wsRet (wIf (wTest (w2 (rdNone false) (wVar 1) (wC .non))) (wC .non) (wTup (wCons (wC (.str "three")) (wCons (wVar 1) wNil))))) (wsNil))))))))
def N_first_fault : List Str := ["swaps", "found"]
def w_need_braid : WS := wsSeq (wsIf (wtOr (wtNot (wTest (wFn 1 sp_is_swap_table (wCons (wVar 0) wNil)))) (wTest (w2 (rdNone true) (wFn 1 sp_first_fault (wCons (wVar 0) wNil)) (wC .non)))) (wsSeq (wsNever) (wsNil)) (wsNil)) (wsNil)
def N_need_braid : List Str := ["value"]
def w_is_crossing_in : WS := wsSeq (wsRet (wAndV (wFn 3 sp_is_tuple_of (wCons (wVar 1) (wCons (wC (.int 0)) (wCons (wC (.int 60)) wNil)))) (wCall rdAll (wCons (wComp false (wiSeq (wVar 1)) (.nm 2) [2] (wtYes) (wFn 3 sp_is_whole (wCons (wVar 2) (wCons (w2 rdSub (wC (.int 1)) (wVar 0)) (wCons (w2 rdSub (wVar 0) (wC (.int 2))) wNil))))) wNil)))) (wsNil)
def N_is_crossing_in : List Str := ["strands", "value", "own"]
def w_need_crossing : WS := wsSeq (wsExpr (wFn 3 sp_need_whole (wCons (wVar 0) (wCons (wC (.int 1)) (wCons (wC (.int 8)) wNil))))) (wsSeq (wsIf (wtNot (wTest (wFn 2 sp_is_crossing_in (wCons (wVar 0) (wCons (wVar 1) wNil))))) (wsSeq (wsNever) (wsNil)) (wsNil)) (wsNil))
def N_need_crossing : List Str := ["strands", "value"]
def w_place_of : WS := wsSeq (wsRet (wIf (wTest (w2 rdGe (wVar 0) (wC (.int 0)))) (wVar 0) (w2 rdSub (wNeg (wC (.int 1))) (wVar 0)))) (wsNil)
def N_place_of : List Str := ["own"]
def w_crossed_by : WS := wsSeq (wsAsg (wVar 3) (wgNm 4)) (wsSeq (wsFor (wiSeq (wVar 2)) (.nm 5) (wsSeq (wsAsg (wFn 1 sp_place_of (wCons (wVar 5) wNil)) (wgNm 6)) (wsSeq (wsAsg (wIf (wTest (w2 rdGe (wVar 5) (wC (.int 0)))) (wVar 0) (wVar 1)) (wgNm 7)) (wsSeq (wsAsg (w2 (rdAdd false) (w2 (rdAdd false) (wSl false (wVar 4) (wNoPart) (wPart (wVar 6))) (w2 rdIx (w2 rdIx (wVar 7) (w2 rdIx (wVar 4) (wVar 6))) (w2 rdIx (wVar 4) (w2 (rdAdd false) (wVar 6) (wC (.int 1)))))) (wSl false (wVar 4) (wPart (w2 (rdAdd false) (wVar 6) (wC (.int 2)))) (wNoPart))) (wgNm 4)) (wsNil))))) (wsSeq (wsRet (wVar 4)) (wsNil)))
def N_crossed_by : List Str := ["swaps", "backs", "word", "row", "found", "own", "at", "table"]
def w_crossed_in : WS := wsSeq (wsRet (wFn 4 sp_crossed_by (wCons (wVar 0) (wCons (wFn 1 sp_back_table (wCons (wVar 0) wNil)) (wCons (wVar 1) (wCons (wVar 2) wNil)))))) (wsNil)
def N_crossed_in : List Str := ["swaps", "word", "row"]
def w_rings_in : WS := wsSeq (wsAsg (wListRg true (wRg1 (wVar 0))) (wgNm 2)) (wsSeq (wsFor (wiSeq (wVar 1)) (.nm 3) (wsSeq (wsAsg (wFn 1 sp_place_of (wCons (wVar 3) wNil)) (wgNm 4)) (wsSeq (wsAsg (wTup (wCons (w2 rdIx (wVar 2) (w2 (rdAdd false) (wVar 4) (wC (.int 1)))) (wCons (w2 rdIx (wVar 2) (wVar 4)) wNil))) (wgTup 2 (wgCons (wgSub (wVar 2) (wVar 4)) (wgCons (wgSub (wVar 2) (w2 (rdAdd false) (wVar 4) (wC (.int 1)))) wgNil)))) (wsNil)))) (wsSeq (wsAsg (wListRg false (wRg1 (wVar 0))) (wgNm 5)) (wsSeq (wsFor (wiEnum (wCons (wVar 2) wNil)) (.tp [6, 7]) (wsSeq (wsAsg (wTup (wCons (w2 rdIx (wVar 5) (wVar 6)) (wCons (w2 rdIx (wVar 5) (wVar 7)) wNil))) (wgTup 2 (wgCons (wgNm 8) (wgCons (wgNm 9) wgNil)))) (wsSeq (wsAsg (wComp false (wiSeq (wVar 5)) (.nm 3) [3] (wtYes) (wIf (wTest (w2 (rdEq false) (wVar 3) (wVar 9))) (wVar 8) (wVar 3))) (wgNm 5)) (wsNil)))) (wsSeq (wsRet (wLenSet (wVar 5))) (wsNil)))))
def N_rings_in : List Str := ["strands", "word", "places", "own", "at", "marks", "one", "other", "first", "second"]
def w_crossed : WS := wsSeq (wsExpr (wFn 1 sp_need_braid (wCons (wVar 0) wNil))) (wsSeq (wsExpr (wFn 2 sp_need_crossing (wCons (wVar 1) (wCons (wVar 2) wNil)))) (wsSeq (wsIf (wtNot (wTest (wFn 4 sp_are_wholes (wCons (wVar 3) (wCons (wVar 1) (wCons (wC (.int 0)) (wCons (w2 rdSub (wCall rdLen (wCons (wVar 0) wNil)) (wC (.int 1))) wNil))))))) (wsSeq (wsNever) (wsNil)) (wsNil)) (wsSeq (wsRet (wFn 3 sp_crossed_in (wCons (wVar 0) (wCons (wVar 2) (wCons (wVar 3) wNil))))) (wsNil))))
def N_crossed : List Str := ["swaps", "strands", "word", "row"]
def w_back_word : WS := wsSeq (wsExpr (wFn 2 sp_need_crossing (wCons (wVar 0) (wCons (wVar 1) wNil)))) (wsSeq (wsRet (wCall rdTuple (wCons (wComp false (wiSeq (wRevT (wVar 1))) (.nm 2) [2] (wtYes) (w2 rdSub (wNeg (wC (.int 1))) (wVar 2))) wNil))) (wsNil))
def N_back_word : List Str := ["strands", "word", "own"]
def w_count_rings : WS := wsSeq (wsExpr (wFn 2 sp_need_crossing (wCons (wVar 0) (wCons (wVar 1) wNil)))) (wsSeq (wsRet (wFn 2 sp_rings_in (wCons (wVar 0) (wCons (wVar 1) wNil)))) (wsNil))
def N_count_rings : List Str := ["strands", "word"]
def w_all_rows : WS := wsSeq (wsAsg (wLst false (wCons (wTup (wNil)) wNil)) (wgNm 2)) (wsSeq (wsFor (wiRng1 (wCons (wVar 1) wNil)) (.nm 3) (wsSeq (wsAsg (wLst false (wNil)) (wgNm 4)) (wsSeq (wsFor (wiSeq (wVar 2)) (.nm 5) (wsSeq (wsAsg (w2 (rdAdd false) (wVar 4) (wComp false (wiRng1 (wCons (wVar 0) wNil)) (.nm 6) [6] (wtYes) (w2 (rdAdd false) (wVar 5) (wTup (wCons (wVar 6) wNil))))) (wgNm 4)) (wsNil))) (wsSeq (wsAsg (wVar 4) (wgNm 2)) (wsNil))))) (wsSeq (wsRet (wVar 2)) (wsNil)))
def N_all_rows : List Str := ["letters", "strands", "found", "step", "grown", "row", "own"]
def w_need_few : WS := wsSeq (wsAsg (wC (.int 1)) (wgNm 2)) (wsSeq (wsFor (wiRng1 (wCons (wVar 1) wNil)) (.nm 3) (wsSeq (wsAsg (w2 (rdMul false) (wVar 2) (wVar 0)) (wgNm 2)) (wsNil))) (wsSeq (wsIf (wTest (w2 rdGt (wVar 2) (wC (.int 4096)))) (wsSeq (wsNever) (wsNil)) (wsNil)) (wsNil)))
def N_need_few : List Str := ["letters", "strands", "many", "step"]
def w_colours_in : WS := wsSeq (wsAsg (wFn 1 sp_back_table (wCons (wVar 0) wNil)) (wgNm 3)) (wsSeq (wsRet (wComp false (wiSeq (wFn 2 sp_all_rows (wCons (wCall rdLen (wCons (wVar 0) wNil)) (wCons (wVar 1) wNil)))) (.nm 4) [4] (wTest (w2 (rdEq false) (wFn 4 sp_crossed_by (wCons (wVar 0) (wCons (wVar 3) (wCons (wVar 2) (wCons (wVar 4) wNil))))) (wVar 4))) (wVar 4))) (wsNil))
def N_colours_in : List Str := ["swaps", "strands", "word", "backs", "row"]
def w_colours_of : WS := wsSeq (wsExpr (wFn 1 sp_need_braid (wCons (wVar 0) wNil))) (wsSeq (wsExpr (wFn 2 sp_need_crossing (wCons (wVar 1) (wCons (wVar 2) wNil)))) (wsSeq (wsExpr (wFn 2 sp_need_few (wCons (wCall rdLen (wCons (wVar 0) wNil)) (wCons (wVar 1) wNil)))) (wsSeq (wsRet (wCall rdTuple (wCons (wFn 3 sp_colours_in (wCons (wVar 0) (wCons (wVar 1) (wCons (wVar 2) wNil)))) wNil))) (wsNil))))
def N_colours_of : List Str := ["swaps", "strands", "word"]
def w_count_colours : WS := wsSeq (wsExpr (wFn 1 sp_need_braid (wCons (wVar 0) wNil))) (wsSeq (wsExpr (wFn 2 sp_need_crossing (wCons (wVar 1) (wCons (wVar 2) wNil)))) (wsSeq (wsExpr (wFn 2 sp_need_few (wCons (wCall rdLen (wCons (wVar 0) wNil)) (wCons (wVar 1) wNil)))) (wsSeq (wsRet (wCall rdLen (wCons (wFn 3 sp_colours_in (wCons (wVar 0) (wCons (wVar 1) (wCons (wVar 2) wNil)))) wNil))) (wsNil))))
def N_count_colours : List Str := ["swaps", "strands", "word"]
def w_is_colour : WS := wsSeq (wsExpr (wFn 1 sp_need_braid (wCons (wVar 0) wNil))) (wsSeq (wsExpr (wFn 2 sp_need_crossing (wCons (wVar 1) (wCons (wVar 2) wNil)))) (wsSeq (wsRet (wAndV (wFn 4 sp_are_wholes (wCons (wVar 3) (wCons (wVar 1) (wCons (wC (.int 0)) (wCons (w2 rdSub (wCall rdLen (wCons (wVar 0) wNil)) (wC (.int 1))) wNil))))) (w2 (rdEq false) (wFn 3 sp_crossed_in (wCons (wVar 0) (wCons (wVar 2) (wCons (wVar 3) wNil)))) (wVar 3)))) (wsNil)))
def N_is_colour : List Str := ["swaps", "strands", "word", "value"]
def w_are_turn_rows : WS := wsSeq (wsIf (wtNot (wTest (wFn 3 sp_is_tuple_of (wCons (wVar 0) (wCons (wC (.int 1)) (wCons (wC (.int 16)) wNil)))))) (wsSeq (wsRet (wC (.bl false))) (wsNil)) (wsNil)) (wsSeq (wsRet (wCall rdAll (wCons (wComp false (wiSeq (wVar 0)) (.nm 1) [1] (wtYes) (wAndV (wFn 1 sp_is_turn (wCons (wVar 1) wNil)) (w2 (rdEq false) (wCall rdLen (wCons (wVar 1) wNil)) (wCall rdLen (wCons (wVar 0) wNil))))) wNil))) (wsNil))
def N_are_turn_rows : List Str := ["value", "row"]
def w_first_unlike : WS := wsSeq (wsAsg (wListRg false (wRg1 (wCall rdLen (wCons (wVar 0) wNil)))) (wgNm 1)) (wsSeq (wsFor (wiSeq (wVar 1)) (.nm 2) (wsSeq (wsFor (wiSeq (wVar 1)) (.nm 3) (wsSeq (wsPar 4 5 (wCons (w2 rdIx (wVar 0) (w2 rdIx (w2 rdIx (wVar 0) (wVar 2)) (wVar 3))) (wCons (w2 rdIx (wVar 0) (w2 rdIx (w2 rdIx (wVar 0) (wVar 3)) (wVar 2))) wNil))) (wsSeq (wsFor (wiSeq (wVar 1)) (.nm 6) (wsSeq (wsIf (wTest (w2 (rdEq true) (w2 rdIx (wVar 4) (w2 rdIx (w2 rdIx (wVar 0) (wVar 2)) (wVar 6))) (w2 rdIx (wVar 5) (w2 rdIx (w2 rdIx (wVar 0) (wVar 3)) (wVar 6))))) (wsSeq (wsRet (wTup (wCons (wVar 2) (wCons (wVar 3) (wCons (wVar 6) wNil))))) (wsNil)) (wsNil)) (wsNil))) (wsNil)))) (wsNil))) (wsSeq (wsRet (wC .non)) (wsNil)))
def N_first_unlike : List Str := ["rows", "letters", "one", "other", "first", "second", "last"]
def w_is_cycle_set : WS := wsSeq (wsRet (wAndV (wFn 1 sp_are_turn_rows (wCons (wVar 0) wNil)) (w2 (rdNone false) (wFn 1 sp_first_unlike (wCons (wVar 0) wNil)) (wC .non)))) (wsNil)
def N_is_cycle_set : List Str := ["value"]
def w_need_cycle_set : WS := wsSeq (wsIf (wtNot (wTest (wFn 1 sp_is_cycle_set (wCons (wVar 0) wNil)))) (wsSeq (wsNever) (wsNil)) (wsNil)) (wsNil)
def N_need_cycle_set : List Str := ["value"]
def w_swap_pair : WS := wsSeq (wsAsg (w2 rdIx (wFn 1 sp_back_of (wCons (w2 rdIx (wVar 0) (wVar 1)) wNil)) (wVar 2)) (wgNm 3)) (wsSeq (wsRet (wTup (wCons (wVar 3) (wCons (w2 rdIx (w2 rdIx (wVar 0) (wVar 3)) (wVar 1)) wNil)))) (wsNil))
def N_swap_pair : List Str := ["rows", "one", "other", "first"]
def w_swaps_of : WS := wsSeq (wsExpr (wFn 1 sp_need_cycle_set (wCons (wVar 0) wNil))) (wsSeq (wsAsg (wListRg false (wRg1 (wCall rdLen (wCons (wVar 0) wNil)))) (wgNm 1)) (wsSeq (wsRet (wCall rdTuple (wCons (wComp false (wiSeq (wVar 1)) (.nm 2) [2] (wtYes) (wCall rdTuple (wCons (wComp false (wiSeq (wVar 1)) (.nm 3) [3] (wtYes) (wFn 3 sp_swap_pair (wCons (wVar 0) (wCons (wVar 2) (wCons (wVar 3) wNil))))) wNil))) wNil))) (wsNil)))
def N_swaps_of : List Str := ["rows", "letters", "one", "other"]
def w_is_word_of : WS := wsSeq (wsRet (wAndV (wFn 3 sp_is_tuple_of (wCons (wVar 0) (wCons (wC (.int 0)) (wCons (wC (.int 60)) wNil)))) (wCall rdAll (wCons (wComp false (wiSeq (wVar 0)) (.nm 2) [2] (wtYes) (wFn 3 sp_is_whole (wCons (wVar 2) (wCons (wC (.int 0)) (wCons (w2 rdSub (wVar 1) (wC (.int 1))) wNil))))) wNil)))) (wsNil)
def N_is_word_of : List Str := ["value", "many", "own"]
def w_need_word : WS := wsSeq (wsIf (wtNot (wTest (wFn 2 sp_is_word_of (wCons (wVar 0) (wCons (wVar 1) wNil))))) (wsSeq (wsNever) (wsNil)) (wsNil)) (wsNil)
def N_need_word : List Str := ["value", "many"]
def w_letter_adding : WS := wsSeq (wsRet (w2 rdIx (wFn 1 sp_back_of (wCons (wVar 1) wNil)) (wVar 2))) (wsNil)
def N_letter_adding : List Str := ["rows", "turn", "at"]
def w_turns_of : WS := wsSeq (wsAsg (wFn 1 sp_plain_of (wCons (wCall rdLen (wCons (wVar 0) wNil)) wNil)) (wgNm 2)) (wsSeq (wsAsg (wLst true (wCons (wVar 2) wNil)) (wgNm 3)) (wsSeq (wsFor (wiSeq (wVar 1)) (.nm 4) (wsSeq (wsAsg (wFn 2 sp_joined_of (wCons (wVar 2) (wCons (wFn 1 sp_back_of (wCons (w2 rdIx (wVar 0) (wVar 4)) wNil)) wNil))) (wgNm 2)) (wsSeq (wsExpr (wApp (wVar 3) (wVar 2))) (wsNil)))) (wsSeq (wsRet (wCall rdTuple (wCons (wVar 3) wNil))) (wsNil))))
def N_turns_of : List Str := ["rows", "word", "turn", "found", "own"]
def w_laid_of : WS := wsSeq (wsRet (wCall rdTuple (wCons (wComp false (wiZip (wCons (wFn 2 sp_turns_of (wCons (wVar 0) (wCons (wVar 1) wNil))) (wCons (wVar 1) wNil))) (.tp [2, 3]) [2, 3] (wtYes) (w2 rdIx (wVar 2) (wVar 3))) wNil))) (wsNil)
def N_laid_of : List Str := ["rows", "word", "turn", "own"]
def w_word_of_laid : WS := wsSeq (wsPar 2 3 (wCons (wFn 1 sp_plain_of (wCons (wCall rdLen (wCons (wVar 0) wNil)) wNil)) (wCons (wLst true (wNil)) wNil))) (wsSeq (wsFor (wiSeq (wVar 1)) (.nm 4) (wsSeq (wsAsg (wFn 3 sp_letter_adding (wCons (wVar 0) (wCons (wVar 2) (wCons (wVar 4) wNil)))) (wgNm 5)) (wsSeq (wsExpr (wApp (wVar 3) (wVar 5))) (wsSeq (wsAsg (wFn 2 sp_joined_of (wCons (wVar 2) (wCons (wFn 1 sp_back_of (wCons (w2 rdIx (wVar 0) (wVar 5)) wNil)) wNil))) (wgNm 2)) (wsNil))))) (wsSeq (wsRet (wCall rdTuple (wCons (wVar 3) wNil))) (wsNil)))
def N_word_of_laid : List Str := ["rows", "laid", "turn", "found", "at", "own"]
def w_laid_row : WS := wsSeq (wsExpr (wFn 1 sp_need_cycle_set (wCons (wVar 0) wNil))) (wsSeq (wsExpr (wFn 2 sp_need_word (wCons (wVar 1) (wCons (wCall rdLen (wCons (wVar 0) wNil)) wNil)))) (wsSeq (wsRet (wFn 2 sp_laid_of (wCons (wVar 0) (wCons (wVar 1) wNil)))) (wsNil)))
def N_laid_row : List Str := ["rows", "word"]
def w_word_laid : WS := wsSeq (wsExpr (wFn 1 sp_need_cycle_set (wCons (wVar 0) wNil))) (wsSeq (wsExpr (wFn 2 sp_need_word (wCons (wVar 1) (wCons (wCall rdLen (wCons (wVar 0) wNil)) wNil)))) (wsSeq (wsRet (wFn 2 sp_word_of_laid (wCons (wVar 0) (wCons (wVar 1) wNil)))) (wsNil)))
def N_word_laid : List Str := ["rows", "laid"]
def w_swapped_of : WS := wsSeq (wsRet (w2 (rdAdd false) (w2 (rdAdd false) (wSl false (wVar 1) (wNoPart) (wPart (wVar 2))) (wFn 3 sp_swap_pair (wCons (wVar 0) (wCons (w2 rdIx (wVar 1) (wVar 2)) (wCons (w2 rdIx (wVar 1) (w2 (rdAdd false) (wVar 2) (wC (.int 1)))) wNil))))) (wSl false (wVar 1) (wPart (w2 (rdAdd false) (wVar 2) (wC (.int 2)))) (wNoPart)))) (wsNil)
def N_swapped_of : List Str := ["rows", "word", "place"]
def w_swapped_at : WS := wsSeq (wsExpr (wFn 1 sp_need_cycle_set (wCons (wVar 0) wNil))) (wsSeq (wsExpr (wFn 2 sp_need_word (wCons (wVar 1) (wCons (wCall rdLen (wCons (wVar 0) wNil)) wNil)))) (wsSeq (wsExpr (wFn 3 sp_need_whole (wCons (wVar 2) (wCons (wC (.int 0)) (wCons (w2 rdSub (wCall rdLen (wCons (wVar 1) wNil)) (wC (.int 2))) wNil))))) (wsSeq (wsRet (wFn 3 sp_swapped_of (wCons (wVar 0) (wCons (wVar 1) (wCons (wVar 2) wNil))))) (wsNil))))
def N_swapped_at : List Str := ["rows", "word", "place"]
def w__law_cup : WS := wsSeq (wsAsg (wCall rdAbs (wCons (w2 rdIx (w2 (rdAdd false) (wCall (rdList false) (wCons (wVar 0) wNil)) (wLst false (wCons (wC (.int 0)) wNil))) (wC (.int 0))) wNil)) (wgNm 1)) (wsSeq (wsRet (wLst true (wCons (wIf (wTest (w2 rdGe (wVar 1) (w2 rdPow (wC (.int 10)) (wC (.int 18))))) (w2 rdDiv (wVar 1) (wC (.int 311))) (wC (.int 0))) (wCons (w2 rdMod (wCall rdInt (wCons (w2 (rdAdd false) (w2 (rdMul false) (wVar 1) (wC (.int 1091))) (wC (.int 94033))) wNil)) (wC (.int 1048576))) wNil)))) (wsNil))
def N__law_cup : List Str := ["script", "cell"]
def w__law_roll : WS := wsSeq (wsIf (wTest (w2 rdGt (w2 rdIx (wVar 0) (wC (.int 0))) (wC (.int 0)))) (wsSeq (wsAsg (w2 rdMod (wCall rdInt (wCons (w2 rdIx (wVar 0) (wC (.int 0))) wNil)) (wVar 1)) (wgNm 2)) (wsSeq (wsAsg (w2 rdDiv (w2 rdIx (wVar 0) (wC (.int 0))) (wVar 1)) (wgSub (wVar 0) (wC (.int 0)))) (wsSeq (wsRet (wVar 2)) (wsNil)))) (wsNil)) (wsSeq (wsAsg (w2 rdMod (wCall rdInt (wCons (w2 (rdAdd false) (w2 (rdMul false) (w2 rdIx (wVar 0) (wC (.int 1))) (wC (.int 21269))) (wC (.int 45433))) wNil)) (wC (.int 1048576))) (wgSub (wVar 0) (wC (.int 1)))) (wsSeq (wsRet (w2 rdMod (wCall rdInt (wCons (w2 rdDiv (w2 rdIx (wVar 0) (wC (.int 1))) (wC (.int 137))) wNil)) (wVar 1))) (wsNil)))
def N__law_roll : List Str := ["cup", "many", "found"]
def w__law_some : WS := wsSeq (wsRet (w2 rdIx (wVar 1) (wFn 2 sp__law_roll (wCons (wVar 0) (wCons (wCall rdLen (wCons (wVar 1) wNil)) wNil))))) (wsNil)
def N__law_some : List Str := ["cup", "things"]
def w__law_sort : WS := wsSeq (wsIf (wtOr (wTest (w2 (rdNone false) (wVar 0) (wC .non))) (wTest (wIsi "bool" (wVar 0)))) (wsSeq (wsRet (wIf (wTest (w2 (rdNone false) (wVar 0) (wC .non))) (wC (.int 0)) (wC (.int 1)))) (wsNil)) (wsNil)) (wsSeq (wsIf (wtOr (wTest (wIsi "int" (wVar 0))) (wTest (wIsi "str" (wVar 0)))) (wsSeq (wsRet (wIf (wTest (wIsi "int" (wVar 0))) (wC (.int 2)) (wC (.int 3)))) (wsNil)) (wsNil)) (wsSeq (wsRet (wIf (wTest (wIsi "tuple" (wVar 0))) (wC (.int 4)) (wIf (wTest (wIsi "list" (wVar 0))) (wC (.int 5)) (wC (.int 6))))) (wsNil)))
def N__law_sort : List Str := ["value"]
-- _law_like calls itself
def w__law_like (sp__law_like : SpD) : WS := wsSeq (wsAsg (wFn 1 sp__law_sort (wCons (wVar 1) wNil)) (wgNm 2)) (wsSeq (wsIf (wtOr (wTest (w2 (rdEq true) (wFn 1 sp__law_sort (wCons (wVar 0) wNil)) (wVar 2))) (wTest (w2 (rdEq false) (wVar 2) (wC (.int 6))))) (wsSeq (wsRet (wC (.bl false))) (wsNil)) (wsNil)) (wsSeq (wsIf (wTest (w2 (rdIn false) (wVar 2) (wTup (wCons (wC (.int 4)) (wCons (wC (.int 5)) wNil))))) (wsSeq (wsRet (wAndV (w2 (rdEq false) (wCall rdLen (wCons (wVar 0) wNil)) (wCall rdLen (wCons (wVar 1) wNil))) (w2 (rdEq false) (wComp false (wiZip (wCons (wVar 0) (wCons (wVar 1) wNil))) (.tp [3, 4]) [3, 4] (wtNot (wTest (wFn 2 sp__law_like (wCons (wVar 3) (wCons (wVar 4) wNil))))) (wC (.int 1))) (wLst false (wNil))))) (wsNil)) (wsNil)) (wsSeq (wsRet (w2 (rdEq false) (wVar 0) (wVar 1))) (wsNil))))
def N__law_like : List Str := ["one", "other", "sort", "first", "second"]
def w__law_turn : WS := wsSeq (wsPar 2 3 (wCons (wListRg false (wRg1 (wVar 1))) (wCons (wLst false (wNil)) wNil))) (wsSeq (wsFor (wiRng1 (wCons (wVar 1) wNil)) (.nm 4) (wsSeq (wsAsg (wFn 2 sp__law_roll (wCons (wVar 0) (wCons (wCall rdLen (wCons (wVar 2) wNil)) wNil))) (wgNm 5)) (wsSeq (wsAsg (w2 (rdAdd false) (wVar 3) (wLst false (wCons (w2 rdIx (wVar 2) (wVar 5)) wNil))) (wgNm 3)) (wsSeq (wsAsg (w2 (rdAdd false) (wSl false (wVar 2) (wNoPart) (wPart (wVar 5))) (wSl false (wVar 2) (wPart (w2 (rdAdd false) (wVar 5) (wC (.int 1)))) (wNoPart))) (wgNm 2)) (wsNil))))) (wsSeq (wsRet (wCall rdTuple (wCons (wVar 3) wNil))) (wsNil)))
def N__law_turn : List Str := ["cup", "many", "left", "found", "step", "at"]
def w__law_stock : WS := wsSeq (wsAsg (wLst false (wCons (wTup (wCons (wTup (wCons (wC (.int 0)) wNil)) wNil)) (wCons (wTup (wCons (wTup (wCons (wC (.int 0)) (wCons (wC (.int 1)) wNil))) (wCons (wTup (wCons (wC (.int 0)) (wCons (wC (.int 1)) wNil))) wNil))) (wCons (wTup (wCons (wTup (wCons (wC (.int 1)) (wCons (wC (.int 0)) wNil))) (wCons (wTup (wCons (wC (.int 1)) (wCons (wC (.int 0)) wNil))) wNil))) (wCons (wTup (wCons (wTup (wCons (wC (.int 0)) (wCons (wC (.int 1)) (wCons (wC (.int 2)) wNil)))) (wCons (wTup (wCons (wC (.int 0)) (wCons (wC (.int 1)) (wCons (wC (.int 2)) wNil)))) (wCons (wTup (wCons (wC (.int 1)) (wCons (wC (.int 0)) (wCons (wC (.int 2)) wNil)))) wNil)))) (wCons (wTup (wCons (wTup (wCons (wC (.int 1)) (wCons (wC (.int 2)) (wCons (wC (.int 0)) wNil)))) (wCons (wTup (wCons (wC (.int 1)) (wCons (wC (.int 2)) (wCons (wC (.int 0)) wNil)))) (wCons (wTup (wCons (wC (.int 1)) (wCons (wC (.int 2)) (wCons (wC (.int 0)) wNil)))) wNil)))) wNil)))))) (wgNm 0)) (wsSeq (wsRet (w2 (rdAdd false) (wVar 0) (wLst false (wCons (wTup (wCons (wTup (wCons (wC (.int 1)) (wCons (wC (.int 0)) (wCons (wC (.int 2)) wNil)))) (wCons (wTup (wCons (wC (.int 1)) (wCons (wC (.int 0)) (wCons (wC (.int 2)) wNil)))) (wCons (wTup (wCons (wC (.int 0)) (wCons (wC (.int 1)) (wCons (wC (.int 2)) wNil)))) wNil)))) (wCons (wTup (wCons (wTup (wCons (wC (.int 0)) (wCons (wC (.int 1)) (wCons (wC (.int 3)) (wCons (wC (.int 2)) wNil))))) (wCons (wTup (wCons (wC (.int 3)) (wCons (wC (.int 2)) (wCons (wC (.int 0)) (wCons (wC (.int 1)) wNil))))) (wCons (wTup (wCons (wC (.int 2)) (wCons (wC (.int 3)) (wCons (wC (.int 1)) (wCons (wC (.int 0)) wNil))))) (wCons (wTup (wCons (wC (.int 1)) (wCons (wC (.int 0)) (wCons (wC (.int 2)) (wCons (wC (.int 3)) wNil))))) wNil))))) wNil))))) (wsNil))
def N__law_stock : List Str := ["few"]
def w__law_beside : WS := wsSeq (wsAsg (wTup (wCons (wCall rdLen (wCons (wVar 0) wNil)) (wCons (wCall rdLen (wCons (wVar 1) wNil)) wNil))) (wgTup 2 (wgCons (wgNm 2) (wgCons (wgNm 3) wgNil)))) (wsSeq (wsAsg (wComp false (wiSeq (wVar 0)) (.nm 5) [5] (wtYes) (w2 (rdAdd false) (wVar 5) (wTupRg (wRg2 (wVar 2) (w2 (rdAdd false) (wVar 2) (wVar 3)))))) (wgNm 4)) (wsSeq (wsRet (wCall rdTuple (wCons (w2 (rdAdd false) (wVar 4) (wComp false (wiSeq (wVar 1)) (.nm 5) [5] (wtYes) (w2 (rdAdd false) (wTupRg (wRg1 (wVar 2))) (wCall rdTuple (wCons (wComp false (wiSeq (wVar 5)) (.nm 6) [6] (wtYes) (w2 (rdAdd false) (wVar 2) (wVar 6))) wNil))))) wNil))) (wsNil)))
def N__law_beside : List Str := ["one", "other", "first", "second", "rows", "row", "own"]
def w__law_renamed : WS := wsSeq (wsAsg (wCall rdLen (wCons (wVar 0) wNil)) (wgNm 2)) (wsSeq (wsRet (wCall rdTuple (wCons (wComp false (wiRng1 (wCons (wVar 2) wNil)) (.nm 3) [3] (wtYes) (wCall rdTuple (wCons (wComp false (wiRng1 (wCons (wVar 2) wNil)) (.nm 4) [4] (wtYes) (w2 rdIx (wVar 1) (w2 rdIx (w2 rdIx (wVar 0) (wIndex (wVar 1) (wVar 3))) (wIndex (wVar 1) (wVar 4))))) wNil))) wNil))) (wsNil))
def N__law_renamed : List Str := ["rows", "turn", "many", "one", "other"]
def w__law_rows : WS := wsSeq (wsPar 1 2 (wCons (wFn 2 sp__law_some (wCons (wVar 0) (wCons (wFn 0 sp__law_stock wNil) wNil))) (wCons (wFn 2 sp__law_some (wCons (wVar 0) (wCons (wSl false (wFn 0 sp__law_stock wNil) (wNoPart) (wPart (wC (.int 3)))) wNil))) wNil))) (wsSeq (wsAsg (wIf (wTest (w2 rdGt (wFn 2 sp__law_roll (wCons (wVar 0) (wCons (wC (.int 2)) wNil))) (wC (.int 0)))) (wFn 2 sp__law_beside (wCons (wVar 1) (wCons (wVar 2) wNil))) (wVar 1)) (wgNm 3)) (wsSeq (wsRet (wFn 2 sp__law_renamed (wCons (wVar 3) (wCons (wFn 2 sp__law_turn (wCons (wVar 0) (wCons (wCall rdLen (wCons (wVar 3) wNil)) wNil))) wNil)))) (wsNil)))
def N__law_rows : List Str := ["cup", "one", "other", "rows"]
def w__law_laid : WS := wsSeq (wsAsg (wTup (wCons (wListRg false (wRg1 (wCall rdLen (wCons (wVar 0) wNil)))) (wCons (wLst false (wNil)) wNil))) (wgTup 2 (wgCons (wgNm 2) (wgCons (wgNm 3) wgNil)))) (wsSeq (wsFor (wiSeq (wVar 1)) (.nm 4) (wsSeq (wsAsg (w2 (rdAdd false) (wVar 3) (wLst false (wCons (w2 rdIx (wVar 2) (wVar 4)) wNil))) (wgNm 3)) (wsSeq (wsAsg (wComp false (wiRng1 (wCons (wCall rdLen (wCons (wVar 0) wNil)) wNil)) (.nm 5) [5] (wtYes) (w2 rdIx (wVar 2) (wIndex (w2 rdIx (wVar 0) (wVar 4)) (wVar 5)))) (wgNm 2)) (wsNil)))) (wsSeq (wsRet (wVar 3)) (wsNil)))
def N__law_laid : List Str := ["rows", "word", "turn", "found", "own", "at"]
def w__law_exchanged : WS := wsSeq (wsAsg (wCall (rdList true) (wCons (wVar 0) wNil)) (wgNm 2)) (wsSeq (wsFor (wiSeq (wVar 1)) (.nm 3) (wsSeq (wsAsg (wIf (wTest (w2 rdGe (wVar 3) (wC (.int 0)))) (wVar 3) (w2 rdSub (wNeg (wC (.int 1))) (wVar 3))) (wgNm 4)) (wsSeq (wsAsg (wTup (wCons (w2 rdIx (wVar 2) (w2 (rdAdd false) (wVar 4) (wC (.int 1)))) (wCons (w2 rdIx (wVar 2) (wVar 4)) wNil))) (wgTup 2 (wgCons (wgSub (wVar 2) (wVar 4)) (wgCons (wgSub (wVar 2) (w2 (rdAdd false) (wVar 4) (wC (.int 1)))) wgNil)))) (wsNil)))) (wsSeq (wsRet (wVar 2)) (wsNil)))
def N__law_exchanged : List Str := ["items", "crossings", "found", "own", "at"]
def w__law_rings : WS := wsSeq (wsAsg (w2 (rdMul true) (wLst false (wCons (wNeg (wC (.int 1))) wNil)) (wCall rdLen (wCons (wVar 0) wNil))) (wgNm 1)) (wsSeq (wsFor (wiRng1 (wCons (wCall rdLen (wCons (wVar 0) wNil)) wNil)) (.nm 2) (wsSeq (wsAsg (wVar 2) (wgNm 3)) (wsSeq (wsFor (wiRng1 (wCons (wCall rdLen (wCons (wVar 0) wNil)) wNil)) (.nm 4) (wsSeq (wsIf (wTest (w2 (rdEq false) (w2 rdIx (wVar 1) (wVar 3)) (wNeg (wC (.int 1))))) (wsSeq (wsAsg (wVar 2) (wgSub (wVar 1) (wVar 3))) (wsSeq (wsAsg (w2 rdIx (wVar 0) (wVar 3)) (wgNm 3)) (wsNil))) (wsNil)) (wsNil))) (wsNil)))) (wsSeq (wsRet (wVar 1)) (wsNil)))
def N__law_rings : List Str := ["places", "marks", "at", "spot", "step"]
def w__law_all_rows : WS := wsSeq (wsAsg (wLst false (wCons (wTup (wNil)) wNil)) (wgNm 2)) (wsSeq (wsFor (wiRng1 (wCons (wVar 1) wNil)) (.nm 3) (wsSeq (wsAsg (wLst false (wNil)) (wgNm 4)) (wsSeq (wsFor (wiSeq (wVar 2)) (.nm 5) (wsSeq (wsAsg (w2 (rdAdd false) (wVar 4) (wComp false (wiRng1 (wCons (wVar 0) wNil)) (.nm 6) [6] (wtYes) (w2 (rdAdd false) (wVar 5) (wTup (wCons (wVar 6) wNil))))) (wgNm 4)) (wsNil))) (wsSeq (wsAsg (wVar 4) (wgNm 2)) (wsNil))))) (wsSeq (wsRet (wVar 2)) (wsNil)))
def N__law_all_rows : List Str := ["many", "strands", "found", "strand", "longer", "row", "own"]
def w__law_crossings_right : WS := wsSeq (wsAsg (wFn 1 sp__law_rows (wCons (wVar 0) wNil)) (wgNm 1)) (wsSeq (wsAsg (wTup (wCons (wCall rdLen (wCons (wVar 1) wNil)) (wCons (w2 (rdAdd false) (wC (.int 2)) (wFn 2 sp__law_roll (wCons (wVar 0) (wCons (wC (.int 3)) wNil)))) wNil))) (wgTup 2 (wgCons (wgNm 2) (wgCons (wgNm 3) wgNil)))) (wsSeq (wsAsg (wFn 1 sp_swaps_of (wCons (wVar 1) wNil)) (wgNm 4)) (wsSeq (wsAsg (wCall rdTuple (wCons (wComp false (wiRng1 (wCons (wFn 2 sp__law_roll (wCons (wVar 0) (wCons (wC (.int 8)) wNil))) wNil)) (.nm 17) [17] (wtYes) (w2 (rdAdd false) (w2 rdSub (wFn 2 sp__law_roll (wCons (wVar 0) (wCons (w2 rdSub (w2 (rdMul false) (wC (.int 2)) (wVar 3)) (wC (.int 2))) wNil))) (wVar 3)) (wC (.int 1)))) wNil)) (wgNm 5)) (wsSeq (wsAsg (wCall rdTuple (wCons (wComp false (wiRng1 (wCons (wVar 3) wNil)) (.nm 18) [18] (wtYes) (wFn 2 sp__law_roll (wCons (wVar 0) (wCons (wVar 2) wNil)))) wNil)) (wgNm 6)) (wsSeq (wsAsg (wFn 4 sp_crossed (wCons (wVar 4) (wCons (wVar 3) (wCons (wVar 5) (wCons (wVar 6) wNil))))) (wgNm 7)) (wsSeq (wsAsg (wFn 2 sp__law_exchanged (wCons (wFn 2 sp__law_laid (wCons (wVar 1) (wCons (wVar 6) wNil))) (wCons (wVar 5) wNil))) (wgNm 8)) (wsSeq (wsAsg (wLst false (wCons (wCall rdTuple (wCons (wFn 2 sp__law_laid (wCons (wVar 1) (wCons (wVar 7) wNil))) wNil)) (wCons (wFn 2 sp_laid_row (wCons (wVar 1) (wCons (wVar 7) wNil))) (wCons (wFn 2 sp_word_laid (wCons (wVar 1) (wCons (wCall rdTuple (wCons (wVar 8) wNil)) wNil))) (wCons (wFn 4 sp_crossed (wCons (wVar 4) (wCons (wVar 3) (wCons (wFn 2 sp_back_word (wCons (wVar 3) (wCons (wVar 5) wNil))) (wCons (wVar 7) wNil))))) wNil))))) (wgNm 9)) (wsSeq (wsIf (wtNot (wTest (wFn 2 sp__law_like (wCons (wVar 9) (wCons (wLst false (wCons (wCall rdTuple (wCons (wVar 8) wNil)) (wCons (wCall rdTuple (wCons (wVar 8) wNil)) (wCons (wVar 7) (wCons (wVar 6) wNil))))) wNil))))) (wsSeq (wsRet (wC (.bl false))) (wsNil)) (wsNil)) (wsSeq (wsAsg (wFn 2 sp__law_roll (wCons (wVar 0) (wCons (w2 rdSub (wVar 3) (wC (.int 1))) wNil))) (wgNm 10)) (wsSeq (wsIf (wtNot (wTest (wFn 2 sp__law_like (wCons (wFn 3 sp_swapped_at (wCons (wVar 1) (wCons (wVar 6) (wCons (wVar 10) wNil)))) (wCons (wFn 4 sp_crossed (wCons (wVar 4) (wCons (wVar 3) (wCons (wTup (wCons (wVar 10) wNil)) (wCons (wVar 6) wNil))))) wNil))))) (wsSeq (wsRet (wC (.bl false))) (wsNil)) (wsNil)) (wsSeq (wsAsg (wFn 1 sp__law_rings (wCons (wFn 2 sp__law_exchanged (wCons (wListRg false (wRg1 (wVar 3))) (wCons (wVar 5) wNil))) wNil)) (wgNm 11)) (wsSeq (wsAsg (wCall rdLen (wCons (wComp false (wiRng1 (wCons (wVar 3) wNil)) (.nm 17) [17] (wTest (w2 (rdEq false) (w2 rdIx (wVar 11) (wVar 17)) (wVar 17))) (wC (.int 1))) wNil)) (wgNm 12)) (wsSeq (wsAsg (wLst false (wNil)) (wgNm 13)) (wsSeq (wsFor (wiSeq (wFn 2 sp__law_all_rows (wCons (wVar 2) (wCons (wVar 3) wNil)))) (.nm 14) (wsSeq (wsAsg (wFn 2 sp__law_laid (wCons (wVar 1) (wCons (wVar 14) wNil))) (wgNm 8)) (wsSeq (wsIf (wTest (w2 (rdEq false) (wComp false (wiRng1 (wCons (wVar 3) wNil)) (.nm 17) [17] (wTest (w2 (rdEq true) (w2 rdIx (wVar 8) (wVar 17)) (w2 rdIx (wVar 8) (w2 rdIx (wVar 11) (wVar 17))))) (wC (.int 1))) (wLst false (wNil)))) (wsSeq (wsAsg (w2 (rdAdd false) (wVar 13) (wLst false (wCons (wVar 14) wNil))) (wgNm 13)) (wsNil)) (wsNil)) (wsNil)))) (wsSeq (wsAsg (wC (.int 1)) (wgNm 15)) (wsSeq (wsFor (wiRng1 (wCons (wVar 12) wNil)) (.nm 16) (wsSeq (wsAsg (w2 (rdMul false) (wVar 15) (wVar 2)) (wgNm 15)) (wsNil))) (wsSeq (wsAsg (wLst false (wCons (wFn 2 sp_count_rings (wCons (wVar 3) (wCons (wVar 5) wNil))) (wCons (wFn 3 sp_count_colours (wCons (wVar 4) (wCons (wVar 3) (wCons (wVar 5) wNil)))) (wCons (wFn 3 sp_colours_of (wCons (wVar 4) (wCons (wVar 3) (wCons (wVar 5) wNil)))) (wCons (wFn 4 sp_is_colour (wCons (wVar 4) (wCons (wVar 3) (wCons (wVar 5) (wCons (wVar 6) wNil))))) wNil))))) (wgNm 9)) (wsSeq (wsRet (wFn 2 sp__law_like (wCons (wVar 9) (wCons (wLst false (wCons (wVar 12) (wCons (wVar 15) (wCons (wCall rdTuple (wCons (wVar 13) wNil)) (wCons (w2 (rdIn false) (wVar 6) (wVar 13)) wNil))))) wNil)))) (wsNil)))))))))))))))))))
def N__law_crossings_right : List Str := ["cup", "rows", "many", "strands", "swaps", "word", "row", "led", "laid", "told", "at", "marks", "rings", "due", "one", "power", "ring", "spot", "strand"]
def w__law_written_right : WS := wsSeq (wsAsg (wTup (wCons (wTup (wCons (wTup (wCons (wC (.int 1)) (wCons (wC (.int 0)) wNil))) (wCons (wTup (wCons (wC (.int 1)) (wCons (wC (.int 0)) wNil))) wNil))) (wCons (wTup (wCons (wTup (wCons (wC (.int 0)) (wCons (wC (.int 1)) (wCons (wC (.int 3)) (wCons (wC (.int 2)) wNil))))) (wCons (wTup (wCons (wC (.int 3)) (wCons (wC (.int 2)) (wCons (wC (.int 0)) (wCons (wC (.int 1)) wNil))))) (wCons (wTup (wCons (wC (.int 2)) (wCons (wC (.int 3)) (wCons (wC (.int 1)) (wCons (wC (.int 0)) wNil))))) (wCons (wTup (wCons (wC (.int 1)) (wCons (wC (.int 0)) (wCons (wC (.int 2)) (wCons (wC (.int 3)) wNil))))) wNil))))) wNil))) (wgTup 2 (wgCons (wgNm 0) (wgCons (wgNm 1) wgNil)))) (wsSeq (wsPar 2 3 (wCons (wFn 1 sp_swaps_of (wCons (wVar 0) wNil)) (wCons (wFn 1 sp_swaps_of (wCons (wVar 1) wNil)) wNil))) (wsSeq (wsAsg (wLst false (wCons (wFn 2 sp_back_word (wCons (wC (.int 3)) (wCons (wTup (wCons (wC (.int 0)) (wCons (wC (.int 1)) wNil))) wNil))) (wCons (wFn 4 sp_crossed (wCons (wVar 3) (wCons (wC (.int 3)) (wCons (wTup (wCons (wC (.int 0)) (wCons (wC (.int 1)) wNil))) (wCons (wTup (wCons (wC (.int 0)) (wCons (wC (.int 1)) (wCons (wC (.int 2)) wNil)))) wNil))))) (wCons (wFn 4 sp_crossed (wCons (wVar 3) (wCons (wC (.int 3)) (wCons (wTup (wCons (wNeg (wC (.int 2))) (wCons (wNeg (wC (.int 1))) wNil))) (wCons (wTup (wCons (wC (.int 1)) (wCons (wC (.int 2)) (wCons (wC (.int 0)) wNil)))) wNil))))) (wCons (wFn 2 sp_laid_row (wCons (wVar 1) (wCons (wTup (wCons (wC (.int 0)) (wCons (wC (.int 1)) (wCons (wC (.int 2)) wNil)))) wNil))) wNil))))) (wgNm 4)) (wsSeq (wsIf (wtNot (wTest (wFn 2 sp__law_like (wCons (wVar 4) (wCons (wLst false (wCons (wTup (wCons (wNeg (wC (.int 2))) (wCons (wNeg (wC (.int 1))) wNil))) (wCons (wTup (wCons (wC (.int 1)) (wCons (wC (.int 2)) (wCons (wC (.int 0)) wNil)))) (wCons (wTup (wCons (wC (.int 0)) (wCons (wC (.int 1)) (wCons (wC (.int 2)) wNil)))) (wCons (wTup (wCons (wC (.int 0)) (wCons (wC (.int 1)) (wCons (wC (.int 1)) wNil)))) wNil))))) wNil))))) (wsSeq (wsRet (wC (.bl false))) (wsNil)) (wsNil)) (wsSeq (wsAsg (wLst false (wCons (wFn 2 sp_count_rings (wCons (wC (.int 3)) (wCons (wTup (wCons (wC (.int 0)) (wCons (wC (.int 1)) wNil))) wNil))) (wCons (wFn 2 sp_count_rings (wCons (wC (.int 3)) (wCons (wTup (wCons (wC (.int 0)) (wCons (wC (.int 0)) wNil))) wNil))) (wCons (wFn 2 sp_count_rings (wCons (wC (.int 1)) (wCons (wTup (wNil)) wNil))) (wCons (wFn 3 sp_count_colours (wCons (wVar 3) (wCons (wC (.int 3)) (wCons (wTup (wCons (wC (.int 0)) (wCons (wC (.int 1)) wNil))) wNil)))) (wCons (wFn 3 sp_count_colours (wCons (wVar 3) (wCons (wC (.int 2)) (wCons (wTup (wNil)) wNil)))) wNil)))))) (wgNm 4)) (wsSeq (wsIf (wtNot (wTest (wFn 2 sp__law_like (wCons (wVar 4) (wCons (wLst false (wCons (wC (.int 1)) (wCons (wC (.int 3)) (wCons (wC (.int 1)) (wCons (wC (.int 4)) (wCons (wC (.int 16)) wNil)))))) wNil))))) (wsSeq (wsRet (wC (.bl false))) (wsNil)) (wsNil)) (wsSeq (wsAsg (wLst false (wCons (wFn 3 sp_colours_of (wCons (wVar 2) (wCons (wC (.int 2)) (wCons (wTup (wCons (wC (.int 0)) wNil)) wNil)))) (wCons (wFn 4 sp_is_colour (wCons (wVar 3) (wCons (wC (.int 2)) (wCons (wTup (wCons (wC (.int 0)) wNil)) (wCons (wTup (wCons (wC (.int 1)) (wCons (wC (.int 2)) wNil))) wNil))))) (wCons (wFn 4 sp_is_colour (wCons (wVar 3) (wCons (wC (.int 2)) (wCons (wTup (wCons (wC (.int 0)) wNil)) (wCons (wTup (wCons (wC (.int 0)) (wCons (wC (.int 1)) wNil))) wNil))))) (wCons (wFn 4 sp_is_colour (wCons (wVar 3) (wCons (wC (.int 2)) (wCons (wTup (wCons (wC (.int 0)) wNil)) (wCons (wTup (wCons (wC (.int 1)) wNil)) wNil))))) wNil))))) (wgNm 4)) (wsSeq (wsRet (wFn 2 sp__law_like (wCons (wVar 4) (wCons (wLst false (wCons (wTup (wCons (wTup (wCons (wC (.int 0)) (wCons (wC (.int 1)) wNil))) (wCons (wTup (wCons (wC (.int 1)) (wCons (wC (.int 0)) wNil))) wNil))) (wCons (wC (.bl true)) (wCons (wC (.bl false)) (wCons (wC (.bl false)) wNil))))) wNil)))) (wsNil))))))))
def N__law_written_right : List Str := ["f", "q", "one", "other", "told"]
def w_law : WS := wsSeq (wsIf (wtNot (wTest (wFn 0 sp__law_written_right wNil))) (wsSeq (wsRet (wC (.bl false))) (wsNil)) (wsNil)) (wsSeq (wsAsg (wFn 1 sp__law_cup (wCons (wVar 0) wNil)) (wgNm 1)) (wsSeq (wsFor (wiRng1 (wCons (wC (.int 3)) wNil)) (.nm 2) (wsSeq (wsIf (wtNot (wTest (wFn 1 sp__law_crossings_right (wCons (wVar 1) wNil)))) (wsSeq (wsRet (wC (.bl false))) (wsNil)) (wsNil)) (wsNil))) (wsSeq (wsRet (wC (.bl true))) (wsNil))))
def N_law : List Str := ["script", "cup", "turn"]
end Lw

namespace Lw
open PySem PySem.Spec PyProof.Rows L2 Pd
open Py (d)
open Lean in
local macro_rules
  | `(tactic| simp_arith) => `(tactic| try simp only [Pd.wsSeq, Pd.wsNil, Pd.wsRet, Pd.wsRetN, Pd.wsIf, Pd.wsAsg, Pd.wsPar, Pd.wsExpr, Pd.wsBrk, Pd.wsCnt, Pd.wsNever, Pd.wVar, Pd.wC, Pd.wNil, Pd.wCons, Pd.wTup, Pd.wLst, Pd.wtAnd, Pd.wtOr, Pd.wtNot, Pd.wtYes, Pd.wAndV, Pd.wOrV, Pd.wNotV, Pd.wIf, Pd.wNeg,
      Pd.w2, Pd.w3, Pd.wTest, Pd.wNoPart, Pd.wPart, Pd.wSl, Pd.wCall, Pd.wFn, Pd.wIsi, Pd.wMeth, Pd.wApp, Pd.wIndex, Pd.wListRg, Pd.wTupRg, Pd.wRg1, Pd.wRg2, Pd.wRevT, Pd.wDict0, Pd.wLenSet, Pd.wgNm, Pd.wgSub, Pd.wgNil, Pd.wgCons, Pd.wgTup,
      Pd.wsFor, Pd.wComp, Pd.wiSeq, Pd.wiRng1, Pd.wiRng2, Pd.wiEnum, Pd.wiZip, Pd.wiRev, Pd.bind_nm, Pd.bind_two, Pd.bind_tp2, Pd.bind_tp3, Pd.map_inj, Pd.mapI_inj, Int.natCast_inj, Pd.at_nat, List.getElem?_map, Option.map_some, Pd.cell_get, Pd.ls_cell, Pd.sq_cell, Pd.ix_cell, Pd.len_cell, Pd.tuple_cell, Pd.tuple_lst, Pd.tuple_tup, Pd.wipeD_one, Pd.wipeD_two, Pd.wipeD_three, Pd.cut_take, Pd.cut_drop, Pd.cut_mid, Pd.app_map, Pd.isT_t, Pd.isT_l, Pd.isT_r,
      Pd.tyD_non, Pd.tyD_bl, Pd.tyD_int, Pd.tyD_str, Pd.tyD_tup, Pd.tyD_lst, Pd.sqD_tup, Pd.sqD_lst, Pd.lsD_lst, Pd.isi_ii, Pd.isi_ib, Pd.isi_bi, Pd.isi_bb, Pd.isi_tt, Pd.isi_ti, Pd.isi_tb, Pd.isi_ts, Pd.isi_tl, Pd.isi_it, Pd.isi_is, Pd.isi_il, Pd.isi_st, Pd.isi_ss, Pd.isi_si, Pd.isi_sb, Pd.isi_sl, Pd.isi_li, Pd.isi_lb, Pd.isi_ls, Pd.isi_lt, Pd.isi_ll, Pd.isi_ni, Pd.isi_nb, Pd.isi_ns, Pd.isi_nt, Pd.isi_nl, Pd.isi_bt, Pd.isi_bs, Pd.isi_bl,
      Pd.add_int, Pd.add_tup, Pd.add_lst, Pd.i_int, Pd.b_int, Pd.mul_int, Pd.none_non, Pd.ix_tup, Pd.ix_lst, Pd.sl_tup, Pd.sl_lst, Pd.len_tup, Pd.len_lst, Pd.rdEq_intf, Pd.rdEq_intt, Pd.mkL_f, Pd.mkL_t, Pd.d_int, Pd.d_nat, Pd.d_bool, Pd.d_list,
      List.map_cons, List.map_nil, List.cons_append, List.nil_append, List.replicate_zero, List.replicate_succ, List.append_nil, List.getElem?_cons_zero, List.getElem?_cons_succ, List.set_cons_zero, List.set_cons_succ, List.length_cons, List.length_nil, List.length_map,
      Option.some.injEq, Pd.D.bl.injEq, Pd.D.int.injEq, Pd.D.tup.injEq, Pd.D.lst.injEq, Pd.D.ref.injEq, Pd.D.str.injEq, List.cons.injEq, exists_eq_left, exists_eq_left', exists_and_left, and_true, true_and, and_assoc, if_true, if_false, Bool.not_true, Bool.not_false, decide_eq_true_eq, Bool.false_eq_true, ↓reduceIte, reduceCtorEq, exists_const])
  | `(tactic| simp_arith [$ls,*]) => `(tactic| try simp only [Pd.wsSeq, Pd.wsNil, Pd.wsRet, Pd.wsRetN, Pd.wsIf, Pd.wsAsg, Pd.wsPar, Pd.wsExpr, Pd.wsBrk, Pd.wsCnt, Pd.wsNever, Pd.wVar, Pd.wC, Pd.wNil, Pd.wCons, Pd.wTup, Pd.wLst, Pd.wtAnd, Pd.wtOr, Pd.wtNot, Pd.wtYes, Pd.wAndV, Pd.wOrV, Pd.wNotV, Pd.wIf, Pd.wNeg,
      Pd.w2, Pd.w3, Pd.wTest, Pd.wNoPart, Pd.wPart, Pd.wSl, Pd.wCall, Pd.wFn, Pd.wIsi, Pd.wMeth, Pd.wApp, Pd.wIndex, Pd.wListRg, Pd.wTupRg, Pd.wRg1, Pd.wRg2, Pd.wRevT, Pd.wDict0, Pd.wLenSet, Pd.wgNm, Pd.wgSub, Pd.wgNil, Pd.wgCons, Pd.wgTup,
      Pd.wsFor, Pd.wComp, Pd.wiSeq, Pd.wiRng1, Pd.wiRng2, Pd.wiEnum, Pd.wiZip, Pd.wiRev, Pd.bind_nm, Pd.bind_two, Pd.bind_tp2, Pd.bind_tp3, Pd.map_inj, Pd.mapI_inj, Int.natCast_inj, Pd.at_nat, List.getElem?_map, Option.map_some, Pd.cell_get, Pd.ls_cell, Pd.sq_cell, Pd.ix_cell, Pd.len_cell, Pd.tuple_cell, Pd.tuple_lst, Pd.tuple_tup, Pd.wipeD_one, Pd.wipeD_two, Pd.wipeD_three, Pd.cut_take, Pd.cut_drop, Pd.cut_mid, Pd.app_map, Pd.isT_t, Pd.isT_l, Pd.isT_r,
      Pd.tyD_non, Pd.tyD_bl, Pd.tyD_int, Pd.tyD_str, Pd.tyD_tup, Pd.tyD_lst, Pd.sqD_tup, Pd.sqD_lst, Pd.lsD_lst, Pd.isi_ii, Pd.isi_ib, Pd.isi_bi, Pd.isi_bb, Pd.isi_tt, Pd.isi_ti, Pd.isi_tb, Pd.isi_ts, Pd.isi_tl, Pd.isi_it, Pd.isi_is, Pd.isi_il, Pd.isi_st, Pd.isi_ss, Pd.isi_si, Pd.isi_sb, Pd.isi_sl, Pd.isi_li, Pd.isi_lb, Pd.isi_ls, Pd.isi_lt, Pd.isi_ll, Pd.isi_ni, Pd.isi_nb, Pd.isi_ns, Pd.isi_nt, Pd.isi_nl, Pd.isi_bt, Pd.isi_bs, Pd.isi_bl,
      Pd.add_int, Pd.add_tup, Pd.add_lst, Pd.i_int, Pd.b_int, Pd.mul_int, Pd.none_non, Pd.ix_tup, Pd.ix_lst, Pd.sl_tup, Pd.sl_lst, Pd.len_tup, Pd.len_lst, Pd.rdEq_intf, Pd.rdEq_intt, Pd.mkL_f, Pd.mkL_t, Pd.d_int, Pd.d_nat, Pd.d_bool, Pd.d_list,
      List.map_cons, List.map_nil, List.cons_append, List.nil_append, List.replicate_zero, List.replicate_succ, List.append_nil, List.getElem?_cons_zero, List.getElem?_cons_succ, List.set_cons_zero, List.set_cons_succ, List.length_cons, List.length_nil, List.length_map,
      Option.some.injEq, Pd.D.bl.injEq, Pd.D.int.injEq, Pd.D.tup.injEq, Pd.D.lst.injEq, Pd.D.ref.injEq, Pd.D.str.injEq, List.cons.injEq, exists_eq_left, exists_eq_left', exists_and_left, and_true, true_and, and_assoc, if_true, if_false, Bool.not_true, Bool.not_false, decide_eq_true_eq, Bool.false_eq_true, ↓reduceIte, reduceCtorEq, exists_const, $ls,*])
theorem vc_is_whole : VC w_is_whole 3 0 sp_is_whole := by
  rintro ds h Q hl ⟨v, lo, hi, rfl, q⟩
  simp_arith [w_is_whole]
  split <;> rename_i h1 <;> refine .inl ?_ <;> simpa [h1] using q
theorem vc_need_whole : VC w_need_whole 3 0 sp_need_whole := by
  rintro ds h Q hl ⟨v, lo, hi, rfl, h1, h2, q⟩
  simp_arith [w_need_whole, sp_is_whole, h1, h2]
  exact .inl q
theorem vc_is_tuple_of : VC w_is_tuple_of 3 0 sp_is_tuple_of := by
  rintro ds h Q hl ⟨xs, lo, hi, rfl, q⟩
  simp_arith [w_is_tuple_of]
  split <;> rename_i h1 <;> refine .inl ?_ <;> simpa [h1] using q
theorem vc_are_wholes : VC w_are_wholes 4 1 sp_are_wholes := by
  rintro ds h Q hl ⟨l, many, lo, hi, rfl, hz, q⟩
  simp_arith [w_are_wholes, sp_is_tuple_of, List.length_map]
  split
  · rename_i h1
    refine ⟨lsz (by omega), comp_l trivial (f := fun x => .bl (decide (lo ≤ x ∧ x ≤ hi))) (fun x hx K hK => ?_) (all_bl (ret_now ?_))⟩
    · simp_arith [sp_is_whole]
      exact hK
    · have : (l.length : Int) = many := by omega
      have e : (l.all fun x => decide (lo ≤ x ∧ x ≤ hi)) = decide (l.length = many ∧ ∀ x ∈ l, lo ≤ x ∧ x ≤ hi) := by
        rw [Bool.eq_iff_iff]; simp [this]
      rw [e]; exact q
  · rename_i h1
    refine ret_now ?_
    have : ¬ (l.length : Int) = many := by omega
    simpa [this] using q
theorem vc_is_turn : VC w_is_turn 1 1 sp_is_turn := by
  rintro ds h Q hl ⟨t, rfl, h1, h2, ht, q⟩
  simp_arith [w_is_turn, sp_is_tuple_of]
  rw [if_neg (by simp; omega)]
  refine ⟨lsz (by omega), comp_l trivial (f := fun x => .bl true) (fun x hx K hK => ?_) (all_tt ⟨true, rfl, ?_⟩)⟩
  · simp_arith [sp_is_whole]
    have := ht.lt x hx
    rw [show decide (0 ≤ (x : Int) ∧ (x : Int) ≤ t.length - 1) = true by simp; omega]
    exact hK
  · rw [if_neg (by simp), nat_int]
    refine sorted_tup ?_
    rw [ht.ints]
    refine ⟨rgOk0 (by omega), ?_⟩
    rw [rgD0, nat_int]
    refine eq_lst (a := (List.range t.length).map Int.ofNat) (b := (List.range t.length).map Int.ofNat) (by decide) ?_
    simp_arith
    exact ret_now q
theorem vc_joined_of : VC w_joined_of 2 1 sp_joined_of := by
  rintro ds h Q hl ⟨a, b, rfl, h1, h2, q⟩
  simp_arith [w_joined_of]
  refine ⟨lsz (by omega), comp_l trivial (f := fun x => .int (Gt a x)) (fun x hx K hK => ?_) ?_⟩
  · simp_arith [Gt_eq (h2 x hx)]
    exact hK
  · simp_arith
    refine ret_now ?_
    unfold jn at q
    rw [d_list, List.map_map] at q
    exact q
theorem vc_plain_of : VC w_plain_of 1 0 sp_plain_of := by
  rintro ds h Q hl ⟨n, rfl, h1, q⟩
  simp_arith [w_plain_of, rgD0]
  exact ⟨rgOk0 h1, ret_now q⟩
theorem vc_back_of : VC w_back_of 1 3 sp_back_of := by
  rintro ds h Q hl ⟨t, rfl, h1, ht, q⟩
  simp_arith [w_back_of]
  refine ⟨lsz (by omega), ?_⟩
  rw [mul_rep (by omega)]
  simp_arith
  refine for_e (fun i env h' => ∃ (a b : Option D) (f : List Nat), env = [some (d t), some (.ref h.length), a, b] ∧ h' = h ++ [.lst (f.map d)] ∧ f.length = t.length ∧ ∀ j < i, Gt f (Gt t j) = j) ?_ ?_ ?_
  · refine ⟨_, _, List.replicate t.length 0, rfl, by rw [List.map_replicate]; rfl, List.length_replicate, fun j hj => by omega⟩
  · rintro i x env h' K hi hx ⟨a, b, f, rfl, rfl, hf, hj⟩ hK
    have hxl : x < f.length := by rw [hf]; exact ht.lt x (List.mem_of_getElem? hx)
    simp_arith
    refine set_cell (by rw [List.length_map]; exact hxl) (hK _ _ ⟨_, _, f.set x i, rfl, by rw [List.map_set]; rfl, by rw [List.length_set]; exact hf, fun j hji => ?_⟩)
    have ex : Gt t i = x := Gt_of hx
    by_cases e : j = i
    · subst e
      rw [ex]
      exact Gt_of (List.getElem?_set_self hxl)
    · have hne : x ≠ Gt t j := fun z => e (ht.inj (by omega) hi (by rw [ex, z]))
      have := hj j (by omega)
      unfold Gt at this ⊢
      rw [List.getD_eq_getElem?_getD, List.getElem?_set_ne hne, ← List.getD_eq_getElem?_getD]
      exact this
  · rintro env h' ⟨a, b, f, rfl, rfl, hf, hj⟩
    simp_arith
    have e : f = bk t := by
      refine ext_Gt (by rw [hf, bk_len]) fun i hi => ?_
      rw [hf] at hi
      have := hj _ (bk_lt ht hi)
      rwa [t_bk ht hi] at this
    subst e
    exact ret_d (a := bk t) q
end Lw

namespace Lw
open PySem PySem.Spec PyProof.Rows L2 Pd
open Py (d)
open Lean in
local macro_rules
  | `(tactic| simp_arith) => `(tactic| try simp only [Pd.wsSeq, Pd.wsNil, Pd.wsRet, Pd.wsRetN, Pd.wsIf, Pd.wsAsg, Pd.wsPar, Pd.wsExpr, Pd.wsBrk, Pd.wsCnt, Pd.wsNever, Pd.wVar, Pd.wC, Pd.wNil, Pd.wCons, Pd.wTup, Pd.wLst, Pd.wtAnd, Pd.wtOr, Pd.wtNot, Pd.wtYes, Pd.wAndV, Pd.wOrV, Pd.wNotV, Pd.wIf, Pd.wNeg,
      Pd.w2, Pd.w3, Pd.wTest, Pd.wNoPart, Pd.wPart, Pd.wSl, Pd.wCall, Pd.wFn, Pd.wIsi, Pd.wMeth, Pd.wApp, Pd.wIndex, Pd.wListRg, Pd.wTupRg, Pd.wRg1, Pd.wRg2, Pd.wRevT, Pd.wDict0, Pd.wLenSet, Pd.wgNm, Pd.wgSub, Pd.wgNil, Pd.wgCons, Pd.wgTup,
      Pd.wsFor, Pd.wComp, Pd.wiSeq, Pd.wiRng1, Pd.wiRng2, Pd.wiEnum, Pd.wiZip, Pd.wiRev, Pd.bind_nm, Pd.bind_two, Pd.bind_tp2, Pd.bind_tp3, Pd.map_inj, Pd.mapI_inj, Int.natCast_inj, Pd.at_nat, List.getElem?_map, Option.map_some, Pd.cell_get, Pd.ls_cell, Pd.sq_cell, Pd.ix_cell, Pd.len_cell, Pd.tuple_cell, Pd.tuple_lst, Pd.tuple_tup, Pd.wipeD_one, Pd.wipeD_two, Pd.wipeD_three, Pd.cut_take, Pd.cut_drop, Pd.cut_mid, Pd.app_map, Pd.isT_t, Pd.isT_l, Pd.isT_r,
      Pd.tyD_non, Pd.tyD_bl, Pd.tyD_int, Pd.tyD_str, Pd.tyD_tup, Pd.tyD_lst, Pd.sqD_tup, Pd.sqD_lst, Pd.lsD_lst, Pd.isi_ii, Pd.isi_ib, Pd.isi_bi, Pd.isi_bb, Pd.isi_tt, Pd.isi_ti, Pd.isi_tb, Pd.isi_ts, Pd.isi_tl, Pd.isi_it, Pd.isi_is, Pd.isi_il, Pd.isi_st, Pd.isi_ss, Pd.isi_si, Pd.isi_sb, Pd.isi_sl, Pd.isi_li, Pd.isi_lb, Pd.isi_ls, Pd.isi_lt, Pd.isi_ll, Pd.isi_ni, Pd.isi_nb, Pd.isi_ns, Pd.isi_nt, Pd.isi_nl, Pd.isi_bt, Pd.isi_bs, Pd.isi_bl,
      Pd.add_int, Pd.add_tup, Pd.add_lst, Pd.i_int, Pd.b_int, Pd.mul_int, Pd.none_non, Pd.ix_tup, Pd.ix_lst, Pd.sl_tup, Pd.sl_lst, Pd.len_tup, Pd.len_lst, Pd.rdEq_intf, Pd.rdEq_intt, Pd.mkL_f, Pd.mkL_t, Pd.d_int, Pd.d_nat, Pd.d_bool, Pd.d_list,
      List.map_cons, List.map_nil, List.cons_append, List.nil_append, List.replicate_zero, List.replicate_succ, List.append_nil, List.getElem?_cons_zero, List.getElem?_cons_succ, List.set_cons_zero, List.set_cons_succ, List.length_cons, List.length_nil, List.length_map,
      Option.some.injEq, Pd.D.bl.injEq, Pd.D.int.injEq, Pd.D.tup.injEq, Pd.D.lst.injEq, Pd.D.ref.injEq, Pd.D.str.injEq, List.cons.injEq, exists_eq_left, exists_eq_left', exists_and_left, and_true, true_and, and_assoc, if_true, if_false, Bool.not_true, Bool.not_false, decide_eq_true_eq, Bool.false_eq_true, ↓reduceIte, reduceCtorEq, exists_const])
  | `(tactic| simp_arith [$ls,*]) => `(tactic| try simp only [Pd.wsSeq, Pd.wsNil, Pd.wsRet, Pd.wsRetN, Pd.wsIf, Pd.wsAsg, Pd.wsPar, Pd.wsExpr, Pd.wsBrk, Pd.wsCnt, Pd.wsNever, Pd.wVar, Pd.wC, Pd.wNil, Pd.wCons, Pd.wTup, Pd.wLst, Pd.wtAnd, Pd.wtOr, Pd.wtNot, Pd.wtYes, Pd.wAndV, Pd.wOrV, Pd.wNotV, Pd.wIf, Pd.wNeg,
      Pd.w2, Pd.w3, Pd.wTest, Pd.wNoPart, Pd.wPart, Pd.wSl, Pd.wCall, Pd.wFn, Pd.wIsi, Pd.wMeth, Pd.wApp, Pd.wIndex, Pd.wListRg, Pd.wTupRg, Pd.wRg1, Pd.wRg2, Pd.wRevT, Pd.wDict0, Pd.wLenSet, Pd.wgNm, Pd.wgSub, Pd.wgNil, Pd.wgCons, Pd.wgTup,
      Pd.wsFor, Pd.wComp, Pd.wiSeq, Pd.wiRng1, Pd.wiRng2, Pd.wiEnum, Pd.wiZip, Pd.wiRev, Pd.bind_nm, Pd.bind_two, Pd.bind_tp2, Pd.bind_tp3, Pd.map_inj, Pd.mapI_inj, Int.natCast_inj, Pd.at_nat, List.getElem?_map, Option.map_some, Pd.cell_get, Pd.ls_cell, Pd.sq_cell, Pd.ix_cell, Pd.len_cell, Pd.tuple_cell, Pd.tuple_lst, Pd.tuple_tup, Pd.wipeD_one, Pd.wipeD_two, Pd.wipeD_three, Pd.cut_take, Pd.cut_drop, Pd.cut_mid, Pd.app_map, Pd.isT_t, Pd.isT_l, Pd.isT_r,
      Pd.tyD_non, Pd.tyD_bl, Pd.tyD_int, Pd.tyD_str, Pd.tyD_tup, Pd.tyD_lst, Pd.sqD_tup, Pd.sqD_lst, Pd.lsD_lst, Pd.isi_ii, Pd.isi_ib, Pd.isi_bi, Pd.isi_bb, Pd.isi_tt, Pd.isi_ti, Pd.isi_tb, Pd.isi_ts, Pd.isi_tl, Pd.isi_it, Pd.isi_is, Pd.isi_il, Pd.isi_st, Pd.isi_ss, Pd.isi_si, Pd.isi_sb, Pd.isi_sl, Pd.isi_li, Pd.isi_lb, Pd.isi_ls, Pd.isi_lt, Pd.isi_ll, Pd.isi_ni, Pd.isi_nb, Pd.isi_ns, Pd.isi_nt, Pd.isi_nl, Pd.isi_bt, Pd.isi_bs, Pd.isi_bl,
      Pd.add_int, Pd.add_tup, Pd.add_lst, Pd.i_int, Pd.b_int, Pd.mul_int, Pd.none_non, Pd.ix_tup, Pd.ix_lst, Pd.sl_tup, Pd.sl_lst, Pd.len_tup, Pd.len_lst, Pd.rdEq_intf, Pd.rdEq_intt, Pd.mkL_f, Pd.mkL_t, Pd.d_int, Pd.d_nat, Pd.d_bool, Pd.d_list,
      List.map_cons, List.map_nil, List.cons_append, List.nil_append, List.replicate_zero, List.replicate_succ, List.append_nil, List.getElem?_cons_zero, List.getElem?_cons_succ, List.set_cons_zero, List.set_cons_succ, List.length_cons, List.length_nil, List.length_map,
      Option.some.injEq, Pd.D.bl.injEq, Pd.D.int.injEq, Pd.D.tup.injEq, Pd.D.lst.injEq, Pd.D.ref.injEq, Pd.D.str.injEq, List.cons.injEq, exists_eq_left, exists_eq_left', exists_and_left, and_true, true_and, and_assoc, if_true, if_false, Bool.not_true, Bool.not_false, decide_eq_true_eq, Bool.false_eq_true, ↓reduceIte, reduceCtorEq, exists_const, $ls,*])
theorem vc_are_turn_rows : VC w_are_turn_rows 1 1 sp_are_turn_rows := by
  rintro ds h Q hl ⟨R, rfl, c, q⟩
  have p1 := c.pos
  have p2 := c.le
  simp_arith [w_are_turn_rows, sp_is_tuple_of]
  rw [if_neg (by simp; omega)]
  refine ⟨lsz (by omega), comp_l trivial (f := fun x => .bl true) (fun x hx K hK => ?_) (all_tt (ret_now q))⟩
  have e := c.len x hx
  simp_arith [sp_is_turn]
  refine ⟨by omega, by omega, c.turn x hx, ?_⟩
  rw [decide_eq_true e]
  exact hK
theorem R2_ix {R : List (List Nat)} {a b : Nat} (c : CSet R) (ha : a < R.length) (hb : b < R.length) : (Rw R a)[b]? = some (R2' R a b) := Gt_eq (by rw [c.ln ha]; exact hb)
theorem vc_first_unlike : VC w_first_unlike 1 6 sp_first_unlike := by
  rintro ds h Q hl ⟨R, rfl, c, q⟩
  have p1 := c.pos
  have p2 := c.le
  simp_arith [w_first_unlike]
  refine ⟨rgOk0 (by omega), ?_⟩
  rw [rgD0]
  refine for_l (fun i env h' => ∃ x1 x2 x3 x4 x5, env = [some (d R), some (.lst ((List.range R.length).map d)), x1, x2, x3, x4, x5] ∧ h' = h) ⟨_, _, _, _, _, rfl, rfl⟩ ?_ ?_
  · rintro i a env h' K hi ha ⟨x1, x2, x3, x4, x5, rfl, rfl⟩ hK
    have ha : a < R.length := List.mem_range.mp (List.mem_of_getElem? ha)
    simp_arith
    refine for_l (fun i env h'' => ∃ x2 x3 x4 x5, env = [some (d R), some (.lst ((List.range R.length).map d)), some (d a), x2, x3, x4, x5] ∧ h'' = h') ⟨_, _, _, _, rfl, rfl⟩ ?_ ?_
    · rintro i b env h'' K hi hb ⟨x2, x3, x4, x5, rfl, rfl⟩ hK
      have hb : b < R.length := List.mem_range.mp (List.mem_of_getElem? hb)
      simp_arith [Rw_eq ha, Rw_eq hb, R2_ix c ha hb, R2_ix c hb ha, Rw_eq (c.lt ha hb), Rw_eq (c.lt hb ha)]
      refine for_l (fun i env h3 => ∃ x5, env = [some (d R), some (.lst ((List.range R.length).map d)), some (d a), some (d b), some (d (Rw R (R2' R a b))), some (d (Rw R (R2' R b a))), x5] ∧ h3 = h'') ⟨_, rfl, rfl⟩ ?_ ?_
      · rintro i e env h3 K hi he ⟨x5, rfl, rfl⟩ hK
        have he : e < R.length := List.mem_range.mp (List.mem_of_getElem? he)
        simp_arith [Rw_eq ha, Rw_eq hb, R2_ix c ha he, R2_ix c hb he, R2_ix c (c.lt ha hb) (c.lt ha he), R2_ix c (c.lt hb ha) (c.lt hb he), c.cyc a b e ha hb he]
        exact hK _ _ ⟨_, rfl, rfl⟩
      · rintro env h3 ⟨x5, rfl, rfl⟩
        simp_arith
        exact hK _ _ ⟨_, _, _, _, rfl, rfl⟩
    · rintro env h3 ⟨x2, x3, x4, x5, rfl, rfl⟩
      simp_arith
      exact hK _ _ ⟨_, _, _, _, _, rfl, rfl⟩
  · rintro env h3 ⟨x1, x2, x3, x4, x5, rfl, rfl⟩
    simp_arith
    exact ret_now q
theorem vc_is_cycle_set : VC w_is_cycle_set 1 0 sp_is_cycle_set := by
  rintro ds h Q hl ⟨R, rfl, c, q⟩
  simp_arith [w_is_cycle_set, sp_are_turn_rows, sp_first_unlike]
  exact ⟨c, c, ret_now q⟩
theorem vc_need_cycle_set : VC w_need_cycle_set 1 0 sp_need_cycle_set := by
  rintro ds h Q hl ⟨R, rfl, c, q⟩
  simp_arith [w_need_cycle_set, sp_is_cycle_set]
  exact ⟨c, ret_now q⟩
theorem vc_swap_pair : VC w_swap_pair 3 1 sp_swap_pair := by
  rintro ds h Q hl ⟨R, a, b, rfl, c, ha, hb, q⟩
  have p2 := c.le
  have e := c.ln ha
  have hf := c.blt ha hb
  simp_arith [w_swap_pair, Rw_eq ha, sp_back_of]
  refine ⟨by omega, c.tr ha, ?_⟩
  simp_arith [Gt_eq (l := bk (Rw R a)) (i := b) (by rw [bk_len]; omega), Rw_eq hf, R2_ix c hf ha]
  exact ⟨lsz (by omega), ret_now q⟩
theorem vc_swaps_of : VC w_swaps_of 1 3 sp_swaps_of := by
  rintro ds h Q hl ⟨R, rfl, c, q⟩
  have p2 := c.le
  simp_arith [w_swaps_of, sp_need_cycle_set]
  refine ⟨c, rgOk0 (by omega), ?_⟩
  rw [rgD0]
  simp_arith [List.length_range]
  refine ⟨lsz (by omega), comp_l trivial (f := fun a => d ((List.range R.length).map fun b => swp R a b)) (fun a ha K hK => ?_) ?_⟩
  · have ha := List.mem_range.mp ha
    simp_arith [List.length_range]
    refine ⟨lsz (by omega), comp_l trivial (f := fun b => d (swp R a b)) (fun b hb K hK => ?_) ?_⟩
    · have hb := List.mem_range.mp hb
      simp_arith [sp_swap_pair]
      exact ⟨c, ha, hb, hK⟩
    · simp_arith
      rw [d_list, List.map_map] at hK
      exact hK
  · simp_arith
    unfold swaps at q
    rw [d_list, List.map_map] at q
    exact ret_now q
theorem vc_is_word_of : VC w_is_word_of 2 1 sp_is_word_of := by
  rintro ds h Q hl ⟨w, n, rfl, h1, h2, q⟩
  simp_arith [w_is_word_of, sp_is_tuple_of]
  rw [if_pos (by simp; omega)]
  refine ⟨lsz (by omega), comp_l trivial (f := fun x => .bl true) (fun x hx K hK => ?_) (all_tt (ret_now q))⟩
  simp_arith [sp_is_whole]
  have := h2 x hx
  rw [show decide (0 ≤ (x : Int) ∧ (x : Int) ≤ n - 1) = true by simp; omega]
  exact hK
theorem vc_need_word : VC w_need_word 2 0 sp_need_word := by
  rintro ds h Q hl ⟨w, n, rfl, h1, h2, q⟩
  simp_arith [w_need_word, sp_is_word_of]
  exact ⟨h1, h2, ret_now q⟩
theorem vc_letter_adding : VC w_letter_adding 3 0 sp_letter_adding := by
  rintro ds h Q hl ⟨R, t, a, rfl, h1, ht, ha, q⟩
  simp_arith [w_letter_adding, sp_back_of]
  refine ⟨h1, ht, ?_⟩
  simp_arith [Gt_eq (l := bk t) (i := a) (by rw [bk_len]; omega)]
  exact ret_now q
end Lw

namespace Lw
open PySem PySem.Spec PyProof.Rows L2 Pd
open Py (d)
open Lean in
local macro_rules
  | `(tactic| simp_arith) => `(tactic| try simp only [Pd.wsSeq, Pd.wsNil, Pd.wsRet, Pd.wsRetN, Pd.wsIf, Pd.wsAsg, Pd.wsPar, Pd.wsExpr, Pd.wsBrk, Pd.wsCnt, Pd.wsNever, Pd.wVar, Pd.wC, Pd.wNil, Pd.wCons, Pd.wTup, Pd.wLst, Pd.wtAnd, Pd.wtOr, Pd.wtNot, Pd.wtYes, Pd.wAndV, Pd.wOrV, Pd.wNotV, Pd.wIf, Pd.wNeg,
      Pd.w2, Pd.w3, Pd.wTest, Pd.wNoPart, Pd.wPart, Pd.wSl, Pd.wCall, Pd.wFn, Pd.wIsi, Pd.wMeth, Pd.wApp, Pd.wIndex, Pd.wListRg, Pd.wTupRg, Pd.wRg1, Pd.wRg2, Pd.wRevT, Pd.wDict0, Pd.wLenSet, Pd.wgNm, Pd.wgSub, Pd.wgNil, Pd.wgCons, Pd.wgTup,
      Pd.wsFor, Pd.wComp, Pd.wiSeq, Pd.wiRng1, Pd.wiRng2, Pd.wiEnum, Pd.wiZip, Pd.wiRev, Pd.bind_nm, Pd.bind_two, Pd.bind_tp2, Pd.bind_tp3, Pd.map_inj, Pd.mapI_inj, Int.natCast_inj, Pd.at_nat, List.getElem?_map, Option.map_some, Pd.cell_get, Pd.ls_cell, Pd.sq_cell, Pd.ix_cell, Pd.len_cell, Pd.tuple_cell, Pd.tuple_lst, Pd.tuple_tup, Pd.wipeD_one, Pd.wipeD_two, Pd.wipeD_three, Pd.cut_take, Pd.cut_drop, Pd.cut_mid, Pd.app_map, Pd.isT_t, Pd.isT_l, Pd.isT_r,
      Pd.tyD_non, Pd.tyD_bl, Pd.tyD_int, Pd.tyD_str, Pd.tyD_tup, Pd.tyD_lst, Pd.sqD_tup, Pd.sqD_lst, Pd.lsD_lst, Pd.isi_ii, Pd.isi_ib, Pd.isi_bi, Pd.isi_bb, Pd.isi_tt, Pd.isi_ti, Pd.isi_tb, Pd.isi_ts, Pd.isi_tl, Pd.isi_it, Pd.isi_is, Pd.isi_il, Pd.isi_st, Pd.isi_ss, Pd.isi_si, Pd.isi_sb, Pd.isi_sl, Pd.isi_li, Pd.isi_lb, Pd.isi_ls, Pd.isi_lt, Pd.isi_ll, Pd.isi_ni, Pd.isi_nb, Pd.isi_ns, Pd.isi_nt, Pd.isi_nl, Pd.isi_bt, Pd.isi_bs, Pd.isi_bl,
      Pd.add_int, Pd.add_tup, Pd.add_lst, Pd.i_int, Pd.b_int, Pd.mul_int, Pd.none_non, Pd.ix_tup, Pd.ix_lst, Pd.sl_tup, Pd.sl_lst, Pd.len_tup, Pd.len_lst, Pd.rdEq_intf, Pd.rdEq_intt, Pd.mkL_f, Pd.mkL_t, Pd.d_int, Pd.d_nat, Pd.d_bool, Pd.d_list,
      List.map_cons, List.map_nil, List.cons_append, List.nil_append, List.replicate_zero, List.replicate_succ, List.append_nil, List.getElem?_cons_zero, List.getElem?_cons_succ, List.set_cons_zero, List.set_cons_succ, List.length_cons, List.length_nil, List.length_map,
      Option.some.injEq, Pd.D.bl.injEq, Pd.D.int.injEq, Pd.D.tup.injEq, Pd.D.lst.injEq, Pd.D.ref.injEq, Pd.D.str.injEq, List.cons.injEq, exists_eq_left, exists_eq_left', exists_and_left, and_true, true_and, and_assoc, if_true, if_false, Bool.not_true, Bool.not_false, decide_eq_true_eq, Bool.false_eq_true, ↓reduceIte, reduceCtorEq, exists_const])
  | `(tactic| simp_arith [$ls,*]) => `(tactic| try simp only [Pd.wsSeq, Pd.wsNil, Pd.wsRet, Pd.wsRetN, Pd.wsIf, Pd.wsAsg, Pd.wsPar, Pd.wsExpr, Pd.wsBrk, Pd.wsCnt, Pd.wsNever, Pd.wVar, Pd.wC, Pd.wNil, Pd.wCons, Pd.wTup, Pd.wLst, Pd.wtAnd, Pd.wtOr, Pd.wtNot, Pd.wtYes, Pd.wAndV, Pd.wOrV, Pd.wNotV, Pd.wIf, Pd.wNeg,
      Pd.w2, Pd.w3, Pd.wTest, Pd.wNoPart, Pd.wPart, Pd.wSl, Pd.wCall, Pd.wFn, Pd.wIsi, Pd.wMeth, Pd.wApp, Pd.wIndex, Pd.wListRg, Pd.wTupRg, Pd.wRg1, Pd.wRg2, Pd.wRevT, Pd.wDict0, Pd.wLenSet, Pd.wgNm, Pd.wgSub, Pd.wgNil, Pd.wgCons, Pd.wgTup,
      Pd.wsFor, Pd.wComp, Pd.wiSeq, Pd.wiRng1, Pd.wiRng2, Pd.wiEnum, Pd.wiZip, Pd.wiRev, Pd.bind_nm, Pd.bind_two, Pd.bind_tp2, Pd.bind_tp3, Pd.map_inj, Pd.mapI_inj, Int.natCast_inj, Pd.at_nat, List.getElem?_map, Option.map_some, Pd.cell_get, Pd.ls_cell, Pd.sq_cell, Pd.ix_cell, Pd.len_cell, Pd.tuple_cell, Pd.tuple_lst, Pd.tuple_tup, Pd.wipeD_one, Pd.wipeD_two, Pd.wipeD_three, Pd.cut_take, Pd.cut_drop, Pd.cut_mid, Pd.app_map, Pd.isT_t, Pd.isT_l, Pd.isT_r,
      Pd.tyD_non, Pd.tyD_bl, Pd.tyD_int, Pd.tyD_str, Pd.tyD_tup, Pd.tyD_lst, Pd.sqD_tup, Pd.sqD_lst, Pd.lsD_lst, Pd.isi_ii, Pd.isi_ib, Pd.isi_bi, Pd.isi_bb, Pd.isi_tt, Pd.isi_ti, Pd.isi_tb, Pd.isi_ts, Pd.isi_tl, Pd.isi_it, Pd.isi_is, Pd.isi_il, Pd.isi_st, Pd.isi_ss, Pd.isi_si, Pd.isi_sb, Pd.isi_sl, Pd.isi_li, Pd.isi_lb, Pd.isi_ls, Pd.isi_lt, Pd.isi_ll, Pd.isi_ni, Pd.isi_nb, Pd.isi_ns, Pd.isi_nt, Pd.isi_nl, Pd.isi_bt, Pd.isi_bs, Pd.isi_bl,
      Pd.add_int, Pd.add_tup, Pd.add_lst, Pd.i_int, Pd.b_int, Pd.mul_int, Pd.none_non, Pd.ix_tup, Pd.ix_lst, Pd.sl_tup, Pd.sl_lst, Pd.len_tup, Pd.len_lst, Pd.rdEq_intf, Pd.rdEq_intt, Pd.mkL_f, Pd.mkL_t, Pd.d_int, Pd.d_nat, Pd.d_bool, Pd.d_list,
      List.map_cons, List.map_nil, List.cons_append, List.nil_append, List.replicate_zero, List.replicate_succ, List.append_nil, List.getElem?_cons_zero, List.getElem?_cons_succ, List.set_cons_zero, List.set_cons_succ, List.length_cons, List.length_nil, List.length_map,
      Option.some.injEq, Pd.D.bl.injEq, Pd.D.int.injEq, Pd.D.tup.injEq, Pd.D.lst.injEq, Pd.D.ref.injEq, Pd.D.str.injEq, List.cons.injEq, exists_eq_left, exists_eq_left', exists_and_left, and_true, true_and, and_assoc, if_true, if_false, Bool.not_true, Bool.not_false, decide_eq_true_eq, Bool.false_eq_true, ↓reduceIte, reduceCtorEq, exists_const, $ls,*])
/-- the turns along a word -/
def tat (R : List (List Nat)) (t : List Nat) (w : List Nat) : List Nat := w.foldl (fun t x => jn t (bk (Rw R x))) t
theorem trn_snoc (R : List (List Nat)) (t : List Nat) (w : List Nat) (x : Nat) : trn R t (w ++ [x]) = trn R t w ++ [tat R t (w ++ [x])] := by
  induction w generalizing t with
  | nil => rfl
  | cons y w ih => show t :: trn R _ (w ++ [x]) = _; rw [ih]; rfl
theorem tat_snoc (R : List (List Nat)) (t w : List Nat) (x : Nat) : tat R t (w ++ [x]) = jn (tat R t w) (bk (Rw R x)) := by unfold tat; rw [List.foldl_append]; rfl
theorem trn_len (R : List (List Nat)) (t w : List Nat) : (trn R t w).length = w.length + 1 := by
  induction w generalizing t with
  | nil => rfl
  | cons y w ih => show (trn R _ w).length + 1 = _; rw [ih]; rfl
theorem tat_turn {R : List (List Nat)} (c : CSet R) {t : List Nat} (ht : Turn t) (hl : t.length = R.length) : ∀ w : List Nat, (∀ x ∈ w, x < R.length) → Turn (tat R t w) ∧ (tat R t w).length = R.length := by
  intro w
  induction w generalizing t with
  | nil => intro _; exact ⟨ht, hl⟩
  | cons y w ih =>
    intro h
    have hy := h y List.mem_cons_self
    refine ih (t := jn t (bk (Rw R y))) (jn_turn ht (bk_turn (c.tr hy)) ?_) ?_ (fun x hx => h x (List.mem_cons_of_mem _ hx))
    · rw [bk_len, c.ln hy, hl]
    · rw [jn_len, bk_len, c.ln hy]
theorem take_snoc {w : List Nat} {i x : Nat} (h : w[i]? = some x) : w.take (i + 1) = w.take i ++ [x] := L2.take_next h
theorem vc_turns_of : VC w_turns_of 2 3 sp_turns_of := by
  rintro ds h Q hl ⟨R, w, rfl, c, hw, hx, q⟩
  have p1 := c.pos
  have p2 := c.le
  simp_arith [w_turns_of, sp_plain_of]
  refine ⟨by omega, lsz (by omega), ?_⟩
  refine for_l (fun i env h' => ∃ x, env = [some (d R), some (d w), some (d (tat R (pl R.length) (w.take i))), some (.ref h.length), x] ∧ h' = h ++ [.lst ((trn R (pl R.length) (w.take i)).map d)]) ⟨_, rfl, rfl⟩ ?_ ?_
  · rintro i x env h' K hi he ⟨x1, rfl, rfl⟩ hK
    have hxl := hx x (List.mem_of_getElem? he)
    obtain ⟨ht, htl⟩ := tat_turn c (pl_turn R.length) pl_len (w.take i) fun y hy => hx y (List.mem_of_mem_take hy)
    have e := c.ln hxl
    simp_arith [Rw_eq hxl, sp_back_of]
    refine ⟨by omega, c.tr hxl, ?_⟩
    simp_arith [sp_joined_of]
    refine ⟨by rw [bk_len]; omega, fun y hy => by have := (bk_turn (c.tr hxl)).lt y hy; rw [bk_len] at this; omega, ?_⟩
    refine ⟨.inl ⟨rfl, _, ls_cell⟩, app_cell ?_ ?_⟩
    · rw [List.length_map, trn_len, List.length_take]; exact Nat.lt_of_lt_of_le (by omega) (lsz (n := 100) (by omega))
    · rw [take_snoc he, trn_snoc, List.map_append, tat_snoc] at hK
      exact hK _ _ ⟨_, rfl, rfl⟩
  · rintro env h' ⟨x1, rfl, rfl⟩
    rw [List.take_length]
    simp_arith
    exact ret_d (a := trn R (pl R.length) w) q
theorem laid_zip (R : List (List Nat)) (t w : List Nat) : ((trn R t w).zip w).map (fun p => Gt p.1 p.2) = laid R t w := by
  induction w generalizing t with
  | nil => rfl
  | cons y w ih =>
    show Gt t y :: ((trn R _ w).zip w).map _ = _
    rw [ih]; rfl
theorem trn_mem {R : List (List Nat)} (c : CSet R) {t : List Nat} (ht : Turn t) (hl : t.length = R.length) : ∀ w : List Nat, (∀ x ∈ w, x < R.length) → ∀ u ∈ trn R t w, u.length = R.length := by
  intro w
  induction w generalizing t with
  | nil => intro _ u hu; rw [List.mem_singleton.mp hu]; exact hl
  | cons y w ih =>
    intro h u hu
    have hy := h y List.mem_cons_self
    rcases List.mem_cons.mp hu with e | hu
    · rw [e]; exact hl
    · refine ih (t := jn t (bk (Rw R y))) (jn_turn ht (bk_turn (c.tr hy)) ?_) ?_ (fun x hx => h x (List.mem_cons_of_mem _ hx)) u hu
      · rw [bk_len, c.ln hy, hl]
      · rw [jn_len, bk_len, c.ln hy]
theorem vc_laid_of : VC w_laid_of 2 2 sp_laid_of := by
  rintro ds h Q hl ⟨R, w, rfl, c, hw, hx, q⟩
  have p1 := c.pos
  have p2 := c.le
  simp_arith [w_laid_of, sp_turns_of]
  refine ⟨c, hw, hx, ?_⟩
  have hz : (zipItems ((trn R (pl R.length) w).map d) (w.map d)).length ≤ sizeLine := by
    unfold zipItems
    rw [List.length_zipWith]
    exact Nat.le_trans (Nat.min_le_right _ _) (by rw [List.length_map]; exact lsz (by omega))
  refine ⟨hz, comp_z (o := fun t x => .int (Gt t x)) (by trivial) (fun u x hux K hK => ?_) ?_⟩
  · have hm := List.of_mem_zip hux
    have hu := trn_mem c (pl_turn R.length) pl_len w hx u hm.1
    simp_arith [Gt_eq (l := u) (i := x) (by rw [hu]; exact hx x hm.2)]
    exact hK
  · simp_arith
    rw [← laid_zip, d_list, List.map_map] at q
    exact ret_now q
theorem vc_laid_row : VC w_laid_row 2 0 sp_laid_row := by
  rintro ds h Q hl ⟨R, w, rfl, c, hw, hx, q⟩
  simp_arith [w_laid_row, sp_need_cycle_set, sp_need_word, sp_laid_of]
  exact ⟨c, hw, hx, c, hw, hx, ret_now q⟩
theorem unlaid_snoc (R : List (List Nat)) (t w : List Nat) (a : Nat) : unlaid R t (w ++ [a]) = unlaid R t w ++ [Gt (bk (tat R t (unlaid R t w))) a] := by
  induction w generalizing t with
  | nil => rfl
  | cons y w ih => show Gt (bk t) y :: unlaid R _ (w ++ [a]) = _; rw [ih]; rfl
theorem unlaid_lt {R : List (List Nat)} (c : CSet R) : ∀ (w t : List Nat), Turn t → t.length = R.length → (∀ x ∈ w, x < R.length) → ∀ x ∈ unlaid R t w, x < R.length := by
  intro w
  induction w with
  | nil => intro t _ _ _ x hx; cases hx
  | cons y w ih =>
    intro t ht hl h x hx
    have hy := h y List.mem_cons_self
    have hb : Gt (bk t) y < R.length := by have := bk_lt ht (a := y) (by omega); omega
    rcases List.mem_cons.mp hx with e | hx
    · rw [e]; exact hb
    · refine ih _ (jn_turn ht (bk_turn (c.tr hb)) ?_) ?_ (fun x hx => h x (List.mem_cons_of_mem _ hx)) x hx
      · rw [bk_len, c.ln hb, hl]
      · rw [jn_len, bk_len, c.ln hb]
theorem unlaid_len (R : List (List Nat)) (t w : List Nat) : (unlaid R t w).length = w.length := by
  induction w generalizing t with
  | nil => rfl
  | cons y w ih => show (unlaid R _ w).length + 1 = _; rw [ih]; rfl
theorem vc_word_of_laid : VC w_word_of_laid 2 4 sp_word_of_laid := by
  rintro ds h Q hl ⟨R, w, rfl, c, hw, hx, q⟩
  have p1 := c.pos
  have p2 := c.le
  simp_arith [w_word_of_laid, sp_plain_of]
  refine ⟨by omega, lsz (by omega), ?_⟩
  refine for_l (fun i env h' => ∃ x y, env = [some (d R), some (d w), some (d (tat R (pl R.length) (unlaid R (pl R.length) (w.take i)))), some (.ref h.length), x, y] ∧ h' = h ++ [.lst ((unlaid R (pl R.length) (w.take i)).map d)]) ⟨_, _, rfl, rfl⟩ ?_ ?_
  · rintro i x env h' K hi he ⟨x1, x2, rfl, rfl⟩ hK
    have hxl := hx x (List.mem_of_getElem? he)
    have hul := unlaid_lt c (w.take i) (pl R.length) (pl_turn _) pl_len fun y hy => hx y (List.mem_of_mem_take hy)
    obtain ⟨ht, htl⟩ := tat_turn c (pl_turn R.length) pl_len _ hul
    have hb : Gt (bk (tat R (pl R.length) (unlaid R (pl R.length) (w.take i)))) x < R.length := by have := bk_lt ht (a := x) (by omega); omega
    have e := c.ln hb
    simp_arith [sp_letter_adding]
    refine ⟨by omega, ht, by omega, ?_⟩
    refine ⟨.inl ⟨rfl, _, ls_cell⟩, app_cell ?_ ?_⟩
    · rw [List.length_map, unlaid_len, List.length_take]; exact Nat.lt_of_lt_of_le (by omega) (lsz (n := 100) (by omega))
    · simp_arith [Rw_eq hb, sp_back_of]
      refine ⟨by omega, c.tr hb, ?_⟩
      simp_arith [sp_joined_of]
      refine ⟨by rw [bk_len]; omega, fun y hy => by have := (bk_turn (c.tr hb)).lt y hy; rw [bk_len] at this; omega, ?_⟩
      rw [take_snoc he, unlaid_snoc, tat_snoc, List.map_append] at hK
      exact hK _ _ ⟨_, _, rfl, rfl⟩
  · rintro env h' ⟨x1, x2, rfl, rfl⟩
    rw [List.take_length]
    simp_arith
    exact ret_d (a := unlaid R (pl R.length) w) q
theorem vc_word_laid : VC w_word_laid 2 0 sp_word_laid := by
  rintro ds h Q hl ⟨R, w, rfl, c, hw, hx, q⟩
  simp_arith [w_word_laid, sp_need_cycle_set, sp_need_word, sp_word_of_laid]
  exact ⟨c, hw, hx, c, hw, hx, ret_now q⟩
theorem vc_swapped_of : VC w_swapped_of 3 0 sp_swapped_of := by
  rintro ds h Q hl ⟨R, w, p, rfl, c, hw, hx, hp, q⟩
  have g1 := Gt_eq (l := w) (i := p) (by omega)
  have g2 := Gt_eq (l := w) (i := p + 1) hp
  have e1 : ((p : Int) + 1) = ((p + 1 : Nat) : Int) := by omega
  have e2 : ((p : Int) + 2) = ((p + 2 : Nat) : Int) := by omega
  simp_arith [w_swapped_of, g1, sp_swap_pair, e1, e2, g2]
  refine ⟨c, hx _ (List.mem_of_getElem? g1), hx _ (List.mem_of_getElem? g2), ?_⟩
  refine ⟨lsz ?_, lsz ?_, ret_now q⟩
  · have : (w.take p).length ≤ 60 := by rw [List.length_take]; omega
    show (w.take p).length + 2 ≤ 1048576
    omega
  · rw [List.length_append, List.length_take, List.length_drop]
    show min p w.length + 2 + (w.length - (p + 2)) ≤ 1048576
    omega
theorem vc_swapped_at : VC w_swapped_at 3 0 sp_swapped_at := by
  rintro ds h Q hl ⟨R, w, p, rfl, c, hw, hx, hp, q⟩
  simp_arith [w_swapped_at, sp_need_cycle_set, sp_need_word, sp_need_whole, sp_swapped_of]
  exact ⟨c, hw, hx, by omega, by omega, c, hw, hx, hp, ret_now q⟩
end Lw

namespace Lw
open PySem PySem.Spec PyProof.Rows L2 Pd
open Py (d)
open Lean in
local macro_rules
  | `(tactic| simp_arith) => `(tactic| try simp only [Pd.wsSeq, Pd.wsNil, Pd.wsRet, Pd.wsRetN, Pd.wsIf, Pd.wsAsg, Pd.wsPar, Pd.wsExpr, Pd.wsBrk, Pd.wsCnt, Pd.wsNever, Pd.wVar, Pd.wC, Pd.wNil, Pd.wCons, Pd.wTup, Pd.wLst, Pd.wtAnd, Pd.wtOr, Pd.wtNot, Pd.wtYes, Pd.wAndV, Pd.wOrV, Pd.wNotV, Pd.wIf, Pd.wNeg,
      Pd.w2, Pd.w3, Pd.wTest, Pd.wNoPart, Pd.wPart, Pd.wSl, Pd.wCall, Pd.wFn, Pd.wIsi, Pd.wMeth, Pd.wApp, Pd.wIndex, Pd.wListRg, Pd.wTupRg, Pd.wRg1, Pd.wRg2, Pd.wRevT, Pd.wDict0, Pd.wLenSet, Pd.wgNm, Pd.wgSub, Pd.wgNil, Pd.wgCons, Pd.wgTup,
      Pd.wsFor, Pd.wComp, Pd.wiSeq, Pd.wiRng1, Pd.wiRng2, Pd.wiEnum, Pd.wiZip, Pd.wiRev, Pd.bind_nm, Pd.bind_two, Pd.bind_tp2, Pd.bind_tp3, Pd.map_inj, Pd.mapI_inj, Int.natCast_inj, Pd.at_nat, List.getElem?_map, Option.map_some, Pd.cell_get, Pd.ls_cell, Pd.sq_cell, Pd.ix_cell, Pd.len_cell, Pd.tuple_cell, Pd.tuple_lst, Pd.tuple_tup, Pd.wipeD_one, Pd.wipeD_two, Pd.wipeD_three, Pd.cut_take, Pd.cut_drop, Pd.cut_mid, Pd.app_map, Pd.isT_t, Pd.isT_l, Pd.isT_r,
      Pd.tyD_non, Pd.tyD_bl, Pd.tyD_int, Pd.tyD_str, Pd.tyD_tup, Pd.tyD_lst, Pd.sqD_tup, Pd.sqD_lst, Pd.lsD_lst, Pd.isi_ii, Pd.isi_ib, Pd.isi_bi, Pd.isi_bb, Pd.isi_tt, Pd.isi_ti, Pd.isi_tb, Pd.isi_ts, Pd.isi_tl, Pd.isi_it, Pd.isi_is, Pd.isi_il, Pd.isi_st, Pd.isi_ss, Pd.isi_si, Pd.isi_sb, Pd.isi_sl, Pd.isi_li, Pd.isi_lb, Pd.isi_ls, Pd.isi_lt, Pd.isi_ll, Pd.isi_ni, Pd.isi_nb, Pd.isi_ns, Pd.isi_nt, Pd.isi_nl, Pd.isi_bt, Pd.isi_bs, Pd.isi_bl,
      Pd.add_int, Pd.add_tup, Pd.add_lst, Pd.i_int, Pd.b_int, Pd.mul_int, Pd.none_non, Pd.ix_tup, Pd.ix_lst, Pd.sl_tup, Pd.sl_lst, Pd.len_tup, Pd.len_lst, Pd.rdEq_intf, Pd.rdEq_intt, Pd.mkL_f, Pd.mkL_t, Pd.d_int, Pd.d_nat, Pd.d_bool, Pd.d_list,
      List.map_cons, List.map_nil, List.cons_append, List.nil_append, List.replicate_zero, List.replicate_succ, List.append_nil, List.getElem?_cons_zero, List.getElem?_cons_succ, List.set_cons_zero, List.set_cons_succ, List.length_cons, List.length_nil, List.length_map,
      Option.some.injEq, Pd.D.bl.injEq, Pd.D.int.injEq, Pd.D.tup.injEq, Pd.D.lst.injEq, Pd.D.ref.injEq, Pd.D.str.injEq, List.cons.injEq, exists_eq_left, exists_eq_left', exists_and_left, and_true, true_and, and_assoc, if_true, if_false, Bool.not_true, Bool.not_false, decide_eq_true_eq, Bool.false_eq_true, ↓reduceIte, reduceCtorEq, exists_const])
  | `(tactic| simp_arith [$ls,*]) => `(tactic| try simp only [Pd.wsSeq, Pd.wsNil, Pd.wsRet, Pd.wsRetN, Pd.wsIf, Pd.wsAsg, Pd.wsPar, Pd.wsExpr, Pd.wsBrk, Pd.wsCnt, Pd.wsNever, Pd.wVar, Pd.wC, Pd.wNil, Pd.wCons, Pd.wTup, Pd.wLst, Pd.wtAnd, Pd.wtOr, Pd.wtNot, Pd.wtYes, Pd.wAndV, Pd.wOrV, Pd.wNotV, Pd.wIf, Pd.wNeg,
      Pd.w2, Pd.w3, Pd.wTest, Pd.wNoPart, Pd.wPart, Pd.wSl, Pd.wCall, Pd.wFn, Pd.wIsi, Pd.wMeth, Pd.wApp, Pd.wIndex, Pd.wListRg, Pd.wTupRg, Pd.wRg1, Pd.wRg2, Pd.wRevT, Pd.wDict0, Pd.wLenSet, Pd.wgNm, Pd.wgSub, Pd.wgNil, Pd.wgCons, Pd.wgTup,
      Pd.wsFor, Pd.wComp, Pd.wiSeq, Pd.wiRng1, Pd.wiRng2, Pd.wiEnum, Pd.wiZip, Pd.wiRev, Pd.bind_nm, Pd.bind_two, Pd.bind_tp2, Pd.bind_tp3, Pd.map_inj, Pd.mapI_inj, Int.natCast_inj, Pd.at_nat, List.getElem?_map, Option.map_some, Pd.cell_get, Pd.ls_cell, Pd.sq_cell, Pd.ix_cell, Pd.len_cell, Pd.tuple_cell, Pd.tuple_lst, Pd.tuple_tup, Pd.wipeD_one, Pd.wipeD_two, Pd.wipeD_three, Pd.cut_take, Pd.cut_drop, Pd.cut_mid, Pd.app_map, Pd.isT_t, Pd.isT_l, Pd.isT_r,
      Pd.tyD_non, Pd.tyD_bl, Pd.tyD_int, Pd.tyD_str, Pd.tyD_tup, Pd.tyD_lst, Pd.sqD_tup, Pd.sqD_lst, Pd.lsD_lst, Pd.isi_ii, Pd.isi_ib, Pd.isi_bi, Pd.isi_bb, Pd.isi_tt, Pd.isi_ti, Pd.isi_tb, Pd.isi_ts, Pd.isi_tl, Pd.isi_it, Pd.isi_is, Pd.isi_il, Pd.isi_st, Pd.isi_ss, Pd.isi_si, Pd.isi_sb, Pd.isi_sl, Pd.isi_li, Pd.isi_lb, Pd.isi_ls, Pd.isi_lt, Pd.isi_ll, Pd.isi_ni, Pd.isi_nb, Pd.isi_ns, Pd.isi_nt, Pd.isi_nl, Pd.isi_bt, Pd.isi_bs, Pd.isi_bl,
      Pd.add_int, Pd.add_tup, Pd.add_lst, Pd.i_int, Pd.b_int, Pd.mul_int, Pd.none_non, Pd.ix_tup, Pd.ix_lst, Pd.sl_tup, Pd.sl_lst, Pd.len_tup, Pd.len_lst, Pd.rdEq_intf, Pd.rdEq_intt, Pd.mkL_f, Pd.mkL_t, Pd.d_int, Pd.d_nat, Pd.d_bool, Pd.d_list,
      List.map_cons, List.map_nil, List.cons_append, List.nil_append, List.replicate_zero, List.replicate_succ, List.append_nil, List.getElem?_cons_zero, List.getElem?_cons_succ, List.set_cons_zero, List.set_cons_succ, List.length_cons, List.length_nil, List.length_map,
      Option.some.injEq, Pd.D.bl.injEq, Pd.D.int.injEq, Pd.D.tup.injEq, Pd.D.lst.injEq, Pd.D.ref.injEq, Pd.D.str.injEq, List.cons.injEq, exists_eq_left, exists_eq_left', exists_and_left, and_true, true_and, and_assoc, if_true, if_false, Bool.not_true, Bool.not_false, decide_eq_true_eq, Bool.false_eq_true, ↓reduceIte, reduceCtorEq, exists_const, $ls,*])
section
variable {S : List (List (List Nat))}
abbrev Sr (S : List (List (List Nat))) (a : Nat) : List (List Nat) := S.getD a []
theorem Sr_eq {a : Nat} (h : a < S.length) : S[a]? = some (Sr S a) := by unfold Sr; rw [List.getD_eq_getElem?_getD, List.getElem?_eq_getElem h]; rfl
theorem Tab.ln (t : Tab S) {a : Nat} (h : a < S.length) : (Sr S a).length = S.length := t.row _ (List.mem_of_getElem? (Sr_eq h))
theorem Tab.at (t : Tab S) {a b : Nat} (h : a < S.length) (hb : b < S.length) : (Sr S a)[b]? = some (S2 S a b) := by
  have := t.ln h
  unfold S2
  rw [List.getD_eq_getElem?_getD, List.getElem?_eq_getElem (by omega)]; rfl
theorem two_of {l : List Nat} (h : l.length = 2) : l = [Gt l 0, Gt l 1] := by
  match l, h with
  | [x, y], _ => rfl
theorem Tab.two (t : Tab S) {a b : Nat} (h : a < S.length) (hb : b < S.length) : S2 S a b = [Lf S a b, Rt S a b] := two_of (t.pair a b h hb).1
theorem Tab.lf (t : Tab S) {a b : Nat} (h : a < S.length) (hb : b < S.length) : Lf S a b < S.length := (t.pair a b h hb).2.1
theorem Tab.rt (t : Tab S) {a b : Nat} (h : a < S.length) (hb : b < S.length) : Rt S a b < S.length := (t.pair a b h hb).2.2
theorem Tab.mem (t : Tab S) {r : List (List Nat)} (hr : r ∈ S) {p : List Nat} (hp : p ∈ r) : p.length = 2 ∧ ∀ x ∈ p, x < S.length := by
  obtain ⟨a, ha⟩ := List.getElem?_of_mem hr
  have hal := (List.getElem?_eq_some_iff.mp ha).1
  have er : Sr S a = r := by rw [Sr_eq hal] at ha; exact Option.some.inj ha
  obtain ⟨b, hb⟩ := List.getElem?_of_mem hp
  have hbl := (List.getElem?_eq_some_iff.mp hb).1
  have hbl2 : b < S.length := by rw [← t.ln hal, er]; exact hbl
  have e := t.at hal hbl2
  rw [er, hb] at e
  have e := Option.some.inj e
  rw [e]
  refine ⟨(t.pair a b hal hbl2).1, fun x hx => ?_⟩
  rw [t.two hal hbl2] at hx
  rcases List.mem_cons.mp hx with q | hx
  · rw [q]; exact t.lf hal hbl2
  · rw [List.mem_singleton.mp hx]; exact t.rt hal hbl2
end
theorem vc_is_swap_row : VC w_is_swap_row 2 1 sp_is_swap_row := by
  rintro ds h Q hl ⟨r, n, rfl, h1, h2, h3, h4, q⟩
  simp_arith [w_is_swap_row, sp_is_tuple_of]
  rw [if_pos (by omega)]
  refine ⟨lsz (by omega), comp_l trivial (f := fun x => .bl true) (fun x hx K hK => ?_) (all_tt (ret_now q))⟩
  obtain ⟨e1, e2⟩ := h4 x hx
  simp_arith [sp_are_wholes]
  refine ⟨x.map Int.ofNat, nat_int x, by rw [List.length_map]; omega, ?_⟩
  have e : ((x.map Int.ofNat).length : Int) = 2 ∧ ∀ y ∈ x.map Int.ofNat, 0 ≤ y ∧ y ≤ (n : Int) - 1 := ⟨by rw [List.length_map, e1]; rfl, fun y hy => by
    obtain ⟨z, hz, rfl⟩ := List.mem_map.mp hy
    have := e2 z hz
    exact ⟨Int.natCast_nonneg z, by show (z : Int) ≤ _; omega⟩⟩
  rw [decide_eq_true e]
  exact hK
theorem vc_is_swap_table : VC w_is_swap_table 1 1 sp_is_swap_table := by
  rintro ds h Q hl ⟨S, rfl, t, q⟩
  have p1 := t.pos
  have p2 := t.le
  simp_arith [w_is_swap_table, sp_is_tuple_of]
  rw [if_pos (by omega)]
  refine ⟨lsz (by omega), comp_l trivial (f := fun x => .bl true) (fun x hx K hK => ?_) (all_tt (ret_now q))⟩
  simp_arith [sp_is_swap_row]
  exact ⟨t.row x hx, p1, p2, fun p hp => t.mem hx hp, hK⟩
theorem vc_rows_in : VC w_rows_in 1 2 sp_rows_in := by
  rintro ds h Q hl ⟨S, rfl, t, q⟩
  have p2 := t.le
  simp_arith [w_rows_in]
  refine ⟨lsz (by omega), comp_l trivial (f := fun r => d (r.map fun p => Gt p 0)) (fun r hr K hK => ?_) ?_⟩
  · have := t.row r hr
    simp_arith
    refine ⟨lsz (by omega), comp_l trivial (f := fun p => .int (Gt p 0)) (fun p hp K hK => ?_) ?_⟩
    · have e := (t.mem hr hp).1
      have g := Gt_eq (l := p) (i := 0) (by omega)
      simp_arith [show (0 : Int) = ((0 : Nat) : Int) from rfl, g]
      exact hK
    · simp_arith
      rw [d_list, List.map_map] at hK
      exact hK
  · unfold rws at q
    rw [List.map_map] at q
    exact ret_now q
theorem vc_columns_in : VC w_columns_in 1 2 sp_columns_in := by
  rintro ds h Q hl ⟨S, rfl, t, q⟩
  have p2 := t.le
  simp_arith [w_columns_in]
  refine ⟨by omega, by omega, lsz (by rw [rng0_map, List.length_map, List.length_range]; omega), ?_⟩
  rw [Int.toNat_natCast]
  refine comp_r trivial (f := fun i => d (S.map fun r => Gt (r.getD i []) 1)) (fun i hi K hK => ?_) ?_
  · simp_arith
    refine ⟨lsz (by omega), comp_l trivial (f := fun r => .int (Gt (r.getD i []) 1)) (fun r hr K hK => ?_) ?_⟩
    · have hrl := t.row r hr
      have e0 : r[i]? = some (r.getD i []) := by rw [List.getD_eq_getElem?_getD, List.getElem?_eq_getElem (by omega)]; rfl
      have e := (t.mem hr (List.mem_of_getElem? e0)).1
      have g := Gt_eq (l := r.getD i []) (i := 1) (by omega)
      simp_arith [e0, show (1 : Int) = ((1 : Nat) : Int) from rfl, g]
      exact hK
    · simp_arith
      rw [d_list, List.map_map] at hK
      exact hK
  · unfold cls at q
    rw [List.map_map] at q
    exact ret_now q
theorem vc_first_double : VC w_first_double 1 4 sp_first_double := by
  rintro ds h Q hl ⟨L, rfl, h1, h2, q⟩
  simp_arith [w_first_double]
  refine for_e (fun i env h' => ∃ x1 x2 x3 x4, env = [some (.lst (L.map d)), x1, x2, x3, x4] ∧ h' = h) ⟨_, _, _, _, rfl, rfl⟩ ?_ ?_
  · rintro i l env h' K hi he ⟨x1, x2, x3, x4, rfl, rfl⟩ hK
    obtain ⟨hn, hl2⟩ := h2 l (List.mem_of_getElem? he)
    simp_arith
    refine ⟨by omega, by omega, ?_⟩
    rw [Int.toNat_natCast]
    refine for_r (fun i env h'' => ∃ x1 x3 x4, env = [some (.lst (L.map d)), x1, some (d l), x3, x4] ∧ h'' = h') ⟨_, _, _, rfl, rfl⟩ ?_ ?_
    · rintro a env h'' K ha ⟨x1, x3, x4, rfl, rfl⟩ hK
      simp_arith
      refine ⟨by omega, by omega, by omega, by omega, ?_⟩
      rw [show ((a : Int) + 1) = ((a + 1 : Nat) : Int) by omega, show ((l.length : Int) - ((a + 1 : Nat) : Int)).toNat = l.length - (a + 1) by omega]
      refine for_r2 (fun i env h3 => ∃ x1 x4, env = [some (.lst (L.map d)), x1, some (d l), some (d a), x4] ∧ h3 = h'') ⟨_, _, rfl, rfl⟩ ?_ ?_
      · rintro b env h3 K hb ⟨x1, x4, rfl, rfl⟩ hK
        have ne : ¬ Gt l a = Gt l (a + 1 + b) := fun e => by
          have g1 := Gt_eq (l := l) (i := a) (by omega)
          have g2 := Gt_eq (l := l) (i := a + 1 + b) (by omega)
          have := (List.getElem?_inj ha hn).mp (g1.trans ((congrArg some e).trans g2.symm))
          omega
        simp_arith [Gt_eq (l := l) (i := a) (by omega), Gt_eq (l := l) (i := a + 1 + b) (by omega), ne]
        exact hK _ _ ⟨_, _, rfl, rfl⟩
      · rintro env h3 ⟨x1, x4, rfl, rfl⟩
        simp_arith
        exact hK _ _ ⟨_, _, _, rfl, rfl⟩
    · rintro env h3 ⟨x1, x3, x4, rfl, rfl⟩
      simp_arith
      exact hK _ _ ⟨_, _, _, _, rfl, rfl⟩
  · rintro env h3 ⟨x1, x2, x3, x4, rfl, rfl⟩
    simp_arith
    exact ret_now q
theorem vc_ahead_of : VC w_ahead_of 2 0 sp_ahead_of := by
  rintro ds h Q hl ⟨S, t, rfl, tb, h1, h2, q⟩
  have g0 := Gt_eq (l := t) (i := 0) (by omega)
  have g1 := Gt_eq (l := t) (i := 1) (by omega)
  have g2 := Gt_eq (l := t) (i := 2) (by omega)
  have k0 := h2 _ (List.mem_of_getElem? g0)
  have k1 := h2 _ (List.mem_of_getElem? g1)
  simp_arith [w_ahead_of, show (0 : Int) = ((0 : Nat) : Int) from rfl, show (1 : Int) = ((1 : Nat) : Int) from rfl, show (2 : Int) = ((2 : Nat) : Int) from rfl, g0, g1, g2, Sr_eq k0, tb.at k0 k1]
  have e2 := (tb.pair _ _ k0 k1).1
  exact ⟨lsz (by omega), lsz (by omega), ret_now (by rw [d_list, ahead, List.map_append] at q; exact q)⟩
theorem vc_behind_of : VC w_behind_of 2 0 sp_behind_of := by
  rintro ds h Q hl ⟨S, t, rfl, tb, h1, h2, q⟩
  have g0 := Gt_eq (l := t) (i := 0) (by omega)
  have g1 := Gt_eq (l := t) (i := 1) (by omega)
  have g2 := Gt_eq (l := t) (i := 2) (by omega)
  have k1 := h2 _ (List.mem_of_getElem? g1)
  have k2 := h2 _ (List.mem_of_getElem? g2)
  simp_arith [w_behind_of, show (0 : Int) = ((0 : Nat) : Int) from rfl, show (1 : Int) = ((1 : Nat) : Int) from rfl, show (2 : Int) = ((2 : Nat) : Int) from rfl, g0, g1, g2, Sr_eq k1, tb.at k1 k2]
  have e2 := (tb.pair _ _ k1 k2).1
  exact ⟨lsz (by omega), lsz (by omega), ret_now q⟩
theorem ahead_ok {S : List (List (List Nat))} (tb : Tab S) {t : List Nat} (h1 : t.length = 3) (h2 : ∀ x ∈ t, x < S.length) : (ahead S t).length = 3 ∧ ∀ x ∈ ahead S t, x < S.length := by
  have g0 := h2 _ (Gt_mem (l := t) (i := 0) (by omega))
  have g1 := h2 _ (Gt_mem (l := t) (i := 1) (by omega))
  have g2 := h2 _ (Gt_mem (l := t) (i := 2) (by omega))
  unfold ahead
  refine ⟨by rw [List.length_append, (tb.pair _ _ g0 g1).1]; rfl, fun x hx => ?_⟩
  rw [tb.two g0 g1] at hx
  have := tb.lf g0 g1
  have := tb.rt g0 g1
  simp at hx
  rcases hx with e | e | e <;> rw [e] <;> assumption
theorem behind_ok {S : List (List (List Nat))} (tb : Tab S) {t : List Nat} (h1 : t.length = 3) (h2 : ∀ x ∈ t, x < S.length) : (behind S t).length = 3 ∧ ∀ x ∈ behind S t, x < S.length := by
  have g0 := h2 _ (Gt_mem (l := t) (i := 0) (by omega))
  have g1 := h2 _ (Gt_mem (l := t) (i := 1) (by omega))
  have g2 := h2 _ (Gt_mem (l := t) (i := 2) (by omega))
  unfold behind
  refine ⟨by rw [List.length_cons, (tb.pair _ _ g1 g2).1], fun x hx => ?_⟩
  rw [tb.two g1 g2] at hx
  have := tb.lf g1 g2
  have := tb.rt g1 g2
  simp at hx
  rcases hx with e | e | e <;> rw [e] <;> assumption
theorem vc_both_ways : VC w_both_ways 2 2 sp_both_ways := by
  rintro ds h Q hl ⟨S, t, rfl, tb, h1, h2, q⟩
  obtain ⟨a1, a2⟩ := ahead_ok tb h1 h2
  obtain ⟨b1, b2⟩ := behind_ok tb h1 h2
  obtain ⟨ab1, ab2⟩ := behind_ok tb a1 a2
  obtain ⟨ba1, ba2⟩ := ahead_ok tb b1 b2
  simp_arith [w_both_ways, sp_ahead_of, sp_behind_of]
  exact ⟨tb, h1, h2, tb, a1, a2, tb, ab1, ab2, tb, h1, h2, tb, b1, b2, tb, ba1, ba2, lsz (by omega), ret_now q⟩
theorem vc_is_three_at : VC w_is_three_at 2 2 sp_is_three_at := by
  rintro ds h Q hl ⟨S, t, rfl, tb, h1, h2, q⟩
  simp_arith [w_is_three_at, sp_both_ways]
  exact ⟨tb, h1, h2, eq_tup (by decide) (ret_now q)⟩
theorem vc_first_three : VC w_first_three 1 4 sp_first_three := by
  rintro ds h Q hl ⟨S, rfl, b, q⟩
  have p2 := b.le
  simp_arith [w_first_three]
  refine ⟨rgOk0 (by omega), ?_⟩
  rw [rgD0]
  refine for_l (fun i env h' => ∃ x1 x2 x3, env = [some (d S), some (.lst ((List.range S.length).map d)), x1, x2, x3] ∧ h' = h) ⟨_, _, _, rfl, rfl⟩ ?_ ?_
  · rintro i x env h' K hi ha ⟨x1, x2, x3, rfl, rfl⟩ hK
    have hx : x < S.length := List.mem_range.mp (List.mem_of_getElem? ha)
    simp_arith
    refine for_l (fun i env h'' => ∃ x2 x3, env = [some (d S), some (.lst ((List.range S.length).map d)), some (d x), x2, x3] ∧ h'' = h') ⟨_, _, rfl, rfl⟩ ?_ ?_
    · rintro i y env h'' K hi hb ⟨x2, x3, rfl, rfl⟩ hK
      have hy : y < S.length := List.mem_range.mp (List.mem_of_getElem? hb)
      simp_arith
      refine for_l (fun i env h3 => ∃ x3, env = [some (d S), some (.lst ((List.range S.length).map d)), some (d x), some (d y), x3] ∧ h3 = h'') ⟨_, rfl, rfl⟩ ?_ ?_
      · rintro i z env h3 K hi he ⟨x3, rfl, rfl⟩ hK
        have hz : z < S.length := List.mem_range.mp (List.mem_of_getElem? he)
        simp_arith [sp_is_three_at]
        refine ⟨lsz (by omega), [x, y, z], rfl, b.toTab, rfl, by simp [hx, hy, hz], ?_⟩
        simp_arith [b.three x y z hx hy hz]
        exact hK _ _ ⟨_, rfl, rfl⟩
      · rintro env h3 ⟨x5, rfl, rfl⟩
        simp_arith
        exact hK _ _ ⟨_, _, rfl, rfl⟩
    · rintro env h3 ⟨x2, x3, rfl, rfl⟩
      simp_arith
      exact hK _ _ ⟨_, _, _, rfl, rfl⟩
  · rintro env h3 ⟨x1, x2, x3, rfl, rfl⟩
    simp_arith
    exact ret_now q
theorem flatMap_len {α β : Type} {f : α → List β} {n : Nat} : ∀ {l : List α}, (∀ x ∈ l, (f x).length = n) → (l.flatMap f).length = l.length * n
  | [], _ => by simp
  | x :: l, h => by
    rw [List.flatMap_cons, List.length_append, flatMap_len fun y hy => h y (List.mem_cons_of_mem _ hy), h x List.mem_cons_self, List.length_cons, Nat.succ_mul, Nat.add_comm]
theorem prs_len (n k : Nat) : ((List.range k).flatMap fun a => (List.range n).map fun b => [a, b]).length = k * n := by
  rw [flatMap_len (n := n) fun x _ => by rw [List.length_map, List.length_range], List.length_range]
theorem vc_pairs_of : VC w_pairs_of 1 3 sp_pairs_of := by
  rintro ds h Q hl ⟨n, rfl, h1, q⟩
  simp_arith [w_pairs_of]
  refine ⟨lsz (by omega), by omega, by omega, ?_⟩
  rw [Int.toNat_natCast]
  refine for_r (fun i env h' => ∃ x2 x3, env = [some (.int n), some (.lst (((List.range i).flatMap fun a => (List.range n).map fun b => [a, b]).map d)), x2, x3] ∧ h' = h) ⟨_, _, rfl, rfl⟩ ?_ ?_
  · rintro i env h' K hi ⟨x2, x3, rfl, rfl⟩ hK
    simp_arith
    refine ⟨by omega, by omega, lsz (by rw [rng0_map, List.length_map, List.length_range]; omega), ?_⟩
    rw [Int.toNat_natCast]
    refine comp_r trivial (f := fun b => d [i, b]) (fun b hb K hK => ?_) ?_
    · simp_arith
      exact ⟨lsz (by omega), hK⟩
    · have hl1 := prs_len n i
      have hm : i * n ≤ 16 * 16 := Nat.mul_le_mul (by omega) h1
      simp_arith
      rw [List.range_succ, List.flatMap_append, List.map_append] at hK
      simp only [List.flatMap_cons, List.flatMap_nil, List.append_nil, List.map_map] at hK
      exact ⟨lsz (by rw [hl1, List.length_range]; omega), hK _ _ ⟨_, _, rfl, rfl⟩⟩
  · rintro env h' ⟨x2, x3, rfl, rfl⟩
    simp_arith
    exact ret_now q
end Lw

namespace Lw
open PySem PySem.Spec PyProof.Rows L2 Pd
open Py (d)
open Lean in
local macro_rules
  | `(tactic| simp_arith) => `(tactic| try simp only [Pd.wsSeq, Pd.wsNil, Pd.wsRet, Pd.wsRetN, Pd.wsIf, Pd.wsAsg, Pd.wsPar, Pd.wsExpr, Pd.wsBrk, Pd.wsCnt, Pd.wsNever, Pd.wVar, Pd.wC, Pd.wNil, Pd.wCons, Pd.wTup, Pd.wLst, Pd.wtAnd, Pd.wtOr, Pd.wtNot, Pd.wtYes, Pd.wAndV, Pd.wOrV, Pd.wNotV, Pd.wIf, Pd.wNeg,
      Pd.w2, Pd.w3, Pd.wTest, Pd.wNoPart, Pd.wPart, Pd.wSl, Pd.wCall, Pd.wFn, Pd.wIsi, Pd.wMeth, Pd.wApp, Pd.wIndex, Pd.wListRg, Pd.wTupRg, Pd.wRg1, Pd.wRg2, Pd.wRevT, Pd.wDict0, Pd.wLenSet, Pd.wgNm, Pd.wgSub, Pd.wgNil, Pd.wgCons, Pd.wgTup,
      Pd.wsFor, Pd.wComp, Pd.wiSeq, Pd.wiRng1, Pd.wiRng2, Pd.wiEnum, Pd.wiZip, Pd.wiRev, Pd.bind_nm, Pd.bind_two, Pd.bind_tp2, Pd.bind_tp3, Pd.map_inj, Pd.mapI_inj, Int.natCast_inj, Pd.at_nat, List.getElem?_map, Option.map_some, Pd.cell_get, Pd.ls_cell, Pd.sq_cell, Pd.ix_cell, Pd.len_cell, Pd.tuple_cell, Pd.tuple_lst, Pd.tuple_tup, Pd.wipeD_one, Pd.wipeD_two, Pd.wipeD_three, Pd.cut_take, Pd.cut_drop, Pd.cut_mid, Pd.app_map, Pd.isT_t, Pd.isT_l, Pd.isT_r,
      Pd.tyD_non, Pd.tyD_bl, Pd.tyD_int, Pd.tyD_str, Pd.tyD_tup, Pd.tyD_lst, Pd.sqD_tup, Pd.sqD_lst, Pd.lsD_lst, Pd.isi_ii, Pd.isi_ib, Pd.isi_bi, Pd.isi_bb, Pd.isi_tt, Pd.isi_ti, Pd.isi_tb, Pd.isi_ts, Pd.isi_tl, Pd.isi_it, Pd.isi_is, Pd.isi_il, Pd.isi_st, Pd.isi_ss, Pd.isi_si, Pd.isi_sb, Pd.isi_sl, Pd.isi_li, Pd.isi_lb, Pd.isi_ls, Pd.isi_lt, Pd.isi_ll, Pd.isi_ni, Pd.isi_nb, Pd.isi_ns, Pd.isi_nt, Pd.isi_nl, Pd.isi_bt, Pd.isi_bs, Pd.isi_bl,
      Pd.add_int, Pd.add_tup, Pd.add_lst, Pd.i_int, Pd.b_int, Pd.mul_int, Pd.none_non, Pd.ix_tup, Pd.ix_lst, Pd.sl_tup, Pd.sl_lst, Pd.len_tup, Pd.len_lst, Pd.rdEq_intf, Pd.rdEq_intt, Pd.mkL_f, Pd.mkL_t, Pd.d_int, Pd.d_nat, Pd.d_bool, Pd.d_list,
      List.map_cons, List.map_nil, List.cons_append, List.nil_append, List.replicate_zero, List.replicate_succ, List.append_nil, List.getElem?_cons_zero, List.getElem?_cons_succ, List.set_cons_zero, List.set_cons_succ, List.length_cons, List.length_nil, List.length_map,
      Option.some.injEq, Pd.D.bl.injEq, Pd.D.int.injEq, Pd.D.tup.injEq, Pd.D.lst.injEq, Pd.D.ref.injEq, Pd.D.str.injEq, List.cons.injEq, exists_eq_left, exists_eq_left', exists_and_left, and_true, true_and, and_assoc, if_true, if_false, Bool.not_true, Bool.not_false, decide_eq_true_eq, Bool.false_eq_true, ↓reduceIte, reduceCtorEq, exists_const])
  | `(tactic| simp_arith [$ls,*]) => `(tactic| try simp only [Pd.wsSeq, Pd.wsNil, Pd.wsRet, Pd.wsRetN, Pd.wsIf, Pd.wsAsg, Pd.wsPar, Pd.wsExpr, Pd.wsBrk, Pd.wsCnt, Pd.wsNever, Pd.wVar, Pd.wC, Pd.wNil, Pd.wCons, Pd.wTup, Pd.wLst, Pd.wtAnd, Pd.wtOr, Pd.wtNot, Pd.wtYes, Pd.wAndV, Pd.wOrV, Pd.wNotV, Pd.wIf, Pd.wNeg,
      Pd.w2, Pd.w3, Pd.wTest, Pd.wNoPart, Pd.wPart, Pd.wSl, Pd.wCall, Pd.wFn, Pd.wIsi, Pd.wMeth, Pd.wApp, Pd.wIndex, Pd.wListRg, Pd.wTupRg, Pd.wRg1, Pd.wRg2, Pd.wRevT, Pd.wDict0, Pd.wLenSet, Pd.wgNm, Pd.wgSub, Pd.wgNil, Pd.wgCons, Pd.wgTup,
      Pd.wsFor, Pd.wComp, Pd.wiSeq, Pd.wiRng1, Pd.wiRng2, Pd.wiEnum, Pd.wiZip, Pd.wiRev, Pd.bind_nm, Pd.bind_two, Pd.bind_tp2, Pd.bind_tp3, Pd.map_inj, Pd.mapI_inj, Int.natCast_inj, Pd.at_nat, List.getElem?_map, Option.map_some, Pd.cell_get, Pd.ls_cell, Pd.sq_cell, Pd.ix_cell, Pd.len_cell, Pd.tuple_cell, Pd.tuple_lst, Pd.tuple_tup, Pd.wipeD_one, Pd.wipeD_two, Pd.wipeD_three, Pd.cut_take, Pd.cut_drop, Pd.cut_mid, Pd.app_map, Pd.isT_t, Pd.isT_l, Pd.isT_r,
      Pd.tyD_non, Pd.tyD_bl, Pd.tyD_int, Pd.tyD_str, Pd.tyD_tup, Pd.tyD_lst, Pd.sqD_tup, Pd.sqD_lst, Pd.lsD_lst, Pd.isi_ii, Pd.isi_ib, Pd.isi_bi, Pd.isi_bb, Pd.isi_tt, Pd.isi_ti, Pd.isi_tb, Pd.isi_ts, Pd.isi_tl, Pd.isi_it, Pd.isi_is, Pd.isi_il, Pd.isi_st, Pd.isi_ss, Pd.isi_si, Pd.isi_sb, Pd.isi_sl, Pd.isi_li, Pd.isi_lb, Pd.isi_ls, Pd.isi_lt, Pd.isi_ll, Pd.isi_ni, Pd.isi_nb, Pd.isi_ns, Pd.isi_nt, Pd.isi_nl, Pd.isi_bt, Pd.isi_bs, Pd.isi_bl,
      Pd.add_int, Pd.add_tup, Pd.add_lst, Pd.i_int, Pd.b_int, Pd.mul_int, Pd.none_non, Pd.ix_tup, Pd.ix_lst, Pd.sl_tup, Pd.sl_lst, Pd.len_tup, Pd.len_lst, Pd.rdEq_intf, Pd.rdEq_intt, Pd.mkL_f, Pd.mkL_t, Pd.d_int, Pd.d_nat, Pd.d_bool, Pd.d_list,
      List.map_cons, List.map_nil, List.cons_append, List.nil_append, List.replicate_zero, List.replicate_succ, List.append_nil, List.getElem?_cons_zero, List.getElem?_cons_succ, List.set_cons_zero, List.set_cons_succ, List.length_cons, List.length_nil, List.length_map,
      Option.some.injEq, Pd.D.bl.injEq, Pd.D.int.injEq, Pd.D.tup.injEq, Pd.D.lst.injEq, Pd.D.ref.injEq, Pd.D.str.injEq, List.cons.injEq, exists_eq_left, exists_eq_left', exists_and_left, and_true, true_and, and_assoc, if_true, if_false, Bool.not_true, Bool.not_false, decide_eq_true_eq, Bool.false_eq_true, ↓reduceIte, reduceCtorEq, exists_const, $ls,*])
/-! ### pairs -/
theorem prs_mem {n : Nat} {p : List Nat} : p ∈ prs n ↔ ∃ a b, a < n ∧ b < n ∧ p = [a, b] := by
  unfold prs
  simp only [List.mem_flatMap, List.mem_map, List.mem_range]
  constructor
  · rintro ⟨a, ha, b, hb, rfl⟩; exact ⟨a, b, ha, hb, rfl⟩
  · rintro ⟨a, b, ha, hb, rfl⟩; exact ⟨a, ha, b, hb, rfl⟩
theorem nodup_flatMap {α β : Type} {f : α → List β} : ∀ {l : List α}, l.Nodup → (∀ x ∈ l, (f x).Nodup) → (∀ x y z, z ∈ f x → z ∈ f y → x = y) → (l.flatMap f).Nodup
  | [], _, _, _ => List.nodup_nil
  | x :: l, h, h1, h2 => by
    obtain ⟨n1, n2⟩ := List.nodup_cons.mp h
    rw [List.flatMap_cons, List.nodup_append]
    refine ⟨h1 x List.mem_cons_self, nodup_flatMap n2 (fun y hy => h1 y (List.mem_cons_of_mem _ hy)) h2, fun a ha b hb e => ?_⟩
    subst e
    obtain ⟨y, hy, hby⟩ := List.mem_flatMap.mp hb
    have := h2 x y a ha hby
    subst this
    exact n1 hy
theorem nodup_map {α β : Type} {f : α → β} {l : List α} (h : l.Nodup) (inj : ∀ x ∈ l, ∀ y ∈ l, f x = f y → x = y) : (l.map f).Nodup := by
  induction l with
  | nil => exact List.nodup_nil
  | cons x r ih =>
    obtain ⟨n1, n2⟩ := List.nodup_cons.mp h
    rw [List.map_cons]
    refine List.nodup_cons.mpr ⟨fun m => ?_, ih n2 fun a ha b hb e => inj a (List.mem_cons_of_mem _ ha) b (List.mem_cons_of_mem _ hb) e⟩
    obtain ⟨y, hy, e⟩ := List.mem_map.mp m
    have := inj x List.mem_cons_self y (List.mem_cons_of_mem _ hy) e.symm
    subst this
    exact n1 hy
theorem prs_nodup (n : Nat) : (prs n).Nodup := by
  refine nodup_flatMap List.nodup_range (fun a _ => nodup_map List.nodup_range fun b _ c _ e => by simpa using e) fun a b z h1 h2 => ?_
  obtain ⟨x, _, rfl⟩ := List.mem_map.mp h1
  obtain ⟨y, _, e⟩ := List.mem_map.mp h2
  simp at e
  exact e.1.symm
theorem prs_len' (n : Nat) : (prs n).length = n * n := prs_len n n
theorem vc_first_alike : VC w_first_alike 1 4 sp_first_alike := by
  rintro ds h Q hl ⟨S, rfl, b, q⟩
  have p2 := b.le
  have tb := b.toTab
  have hln := prs_len' S.length
  have hm : S.length * S.length ≤ 16 * 16 := Nat.mul_le_mul p2 p2
  simp_arith [w_first_alike, sp_pairs_of]
  refine ⟨p2, ?_⟩
  refine for_e (fun i env h' => ∃ x2 x3 x4, env = [some (d S), some (.lst ((prs S.length).map d)), x2, x3, x4] ∧ h' = h) ⟨_, _, _, rfl, rfl⟩ ?_ ?_
  · rintro i p env h' K hi he ⟨x2, x3, x4, rfl, rfl⟩ hK
    obtain ⟨a, c, ha, hc, rfl⟩ := prs_mem.mp (List.mem_of_getElem? he)
    simp_arith [show ((i : Int) + 1) = ((i + 1 : Nat) : Int) by omega]
    refine for_l (fun j env h'' => ∃ x4, env = [some (d S), some (.lst ((prs S.length).map d)), some (d i), some (d [a, c]), x4] ∧ h'' = h') ⟨_, rfl, rfl⟩ ?_ ?_
    · rintro j o env h'' K hj ho ⟨x4, rfl, rfl⟩ hK
      rw [List.getElem?_drop] at ho
      obtain ⟨a', c', ha', hc', rfl⟩ := prs_mem.mp (List.mem_of_getElem? ho)
      have ne : ¬ S2 S a c = S2 S a' c' := fun e => by
        obtain ⟨e1, e2⟩ := b.one a c a' c' ha hc ha' hc' e
        subst e1 e2
        have := (List.getElem?_inj hi (prs_nodup S.length)).mp (he.trans ho.symm)
        omega
      simp_arith [show (0 : Int) = ((0 : Nat) : Int) from rfl, show (1 : Int) = ((1 : Nat) : Int) from rfl, Sr_eq ha, tb.at ha hc, Sr_eq ha', tb.at ha' hc']
      refine eq_tup (by decide) ?_
      simp_arith [ne]
      exact hK _ _ ⟨_, rfl, rfl⟩
    · rintro env h'' ⟨x4, rfl, rfl⟩
      simp_arith
      exact hK _ _ ⟨_, _, _, rfl, rfl⟩
  · rintro env h' ⟨x2, x3, x4, rfl, rfl⟩
    simp_arith
    exact ret_now q
theorem Sr_map {S : List (List (List Nat))} {f : List (List Nat) → List Nat} {a : Nat} (h : a < S.length) : Rw (S.map f) a = f (Sr S a) := by
  show (S.map f).getD a [] = _
  rw [List.getD_eq_getElem?_getD, List.getElem?_map, Sr_eq h]; rfl
theorem Braid.rws_ok {S : List (List (List Nat))} (b : Braid S) : ∀ l ∈ rws S, l.Nodup ∧ l.length ≤ 1000 := by
  have p2 := b.le
  have tb := b.toTab
  intro l hl
  obtain ⟨r, hr, rfl⟩ := List.mem_map.mp hl
  obtain ⟨a, ha⟩ := List.getElem?_of_mem hr
  have hal := (List.getElem?_eq_some_iff.mp ha).1
  have er : Sr S a = r := by rw [Sr_eq hal] at ha; exact Option.some.inj ha
  have hrl := tb.row r hr
  refine ⟨List.pairwise_iff_getElem.mpr fun i j hi hj hij e => ?_, by rw [List.length_map]; omega⟩
  rw [List.length_map] at hi hj
  rw [List.getElem_map, List.getElem_map] at e
  have g1 := tb.at hal (b := i) (by omega)
  have g2 := tb.at hal (b := j) (by omega)
  rw [er, List.getElem?_eq_getElem (by omega)] at g1 g2
  rw [Option.some.inj g1, Option.some.inj g2] at e
  have := b.rows a i j hal (by omega) (by omega) e
  omega
theorem Braid.cls_ok {S : List (List (List Nat))} (b : Braid S) : ∀ l ∈ cls S, l.Nodup ∧ l.length ≤ 1000 := by
  have p2 := b.le
  have tb := b.toTab
  intro l hl
  obtain ⟨k, hk, rfl⟩ := List.mem_map.mp hl
  have hk := List.mem_range.mp hk
  refine ⟨List.pairwise_iff_getElem.mpr fun i j hi hj hij e => ?_, by rw [List.length_map]; omega⟩
  rw [List.length_map] at hi hj
  rw [List.getElem_map, List.getElem_map] at e
  have g1 : S[i] = Sr S i := by have := Sr_eq hi; rw [List.getElem?_eq_getElem hi] at this; exact Option.some.inj this
  have g2 : S[j] = Sr S j := by have := Sr_eq hj; rw [List.getElem?_eq_getElem hj] at this; exact Option.some.inj this
  rw [g1, g2] at e
  have := b.cols k i j hk hi hj e
  omega
theorem vc_first_fault : VC w_first_fault 1 1 sp_first_fault := by
  rintro ds h Q hl ⟨S, rfl, b, q⟩
  have p2 := b.le
  have tb := b.toTab
  simp_arith [w_first_fault, sp_rows_in, sp_columns_in, sp_first_alike, sp_first_three, sp_first_double]
  exact ⟨tb, by unfold rws; rw [List.length_map]; omega, b.rws_ok, tb, by unfold cls; rw [List.length_map, List.length_range]; omega, b.cls_ok, b, b, ret_now q⟩
theorem vc_need_braid : VC w_need_braid 1 0 sp_need_braid := by
  rintro ds h Q hl ⟨S, rfl, b, q⟩
  simp_arith [w_need_braid, sp_is_swap_table, sp_first_fault]
  exact ⟨b.toTab, b, ret_now q⟩
theorem mul_add_inj {n a b c e : Nat} (hb : b < n) (he : e < n) (h : a * n + b = c * n + e) : a = c ∧ b = e := by
  have h1 : (a * n + b) / n = a := by rw [Nat.mul_comm, Nat.mul_add_div (by omega), Nat.div_eq_of_lt hb, Nat.add_zero]
  have h2 : (c * n + e) / n = c := by rw [Nat.mul_comm, Nat.mul_add_div (by omega), Nat.div_eq_of_lt he, Nat.add_zero]
  have : a = c := by rw [← h1, ← h2, h]
  subst this
  exact ⟨rfl, by omega⟩
theorem mul_add_lt {n a b : Nat} (ha : a < n) (hb : b < n) : a * n + b < n * n := by
  have : (a + 1) * n ≤ n * n := Nat.mul_le_mul_right n ha
  rw [Nat.succ_mul] at this
  omega
theorem Braid.onto {S : List (List (List Nat))} (b : Braid S) {x y : Nat} (hx : x < S.length) (hy : y < S.length) : ∃ a c, a < S.length ∧ c < S.length ∧ S2 S a c = [x, y] := by
  have tb := b.toTab
  have nd : ((prs S.length).map fun p => Lf S (Gt p 0) (Gt p 1) * S.length + Rt S (Gt p 0) (Gt p 1)).Nodup := by
    refine nodup_map (prs_nodup _) fun p hp r hr e => ?_
    obtain ⟨a, c, ha, hc, rfl⟩ := prs_mem.mp hp
    obtain ⟨a', c', ha', hc', rfl⟩ := prs_mem.mp hr
    have e : Lf S a c * S.length + Rt S a c = Lf S a' c' * S.length + Rt S a' c' := e
    obtain ⟨e1, e2⟩ := mul_add_inj (tb.rt ha hc) (tb.rt ha' hc') e
    obtain ⟨e3, e4⟩ := b.one a c a' c' ha hc ha' hc' (by rw [tb.two ha hc, tb.two ha' hc', e1, e2])
    rw [e3, e4]
  have m := nodup_full (n := S.length * S.length) nd (by rw [List.length_map, prs_len']) (fun z hz => by
    obtain ⟨p, hp, rfl⟩ := List.mem_map.mp hz
    obtain ⟨a, c, ha, hc, rfl⟩ := prs_mem.mp hp
    exact mul_add_lt (tb.lf ha hc) (tb.rt ha hc)) (mul_add_lt hx hy)
  obtain ⟨p, hp, e⟩ := List.mem_map.mp m
  obtain ⟨a, c, ha, hc, rfl⟩ := prs_mem.mp hp
  have e : Lf S a c * S.length + Rt S a c = x * S.length + y := e
  obtain ⟨e1, e2⟩ := mul_add_inj (tb.rt ha hc) hy e
  exact ⟨a, c, ha, hc, by rw [tb.two ha hc, e1, e2]⟩
/-- a table of what a function says -/
def tabl (n : Nat) (f : Nat → Nat → List Nat) : List (List (List Nat)) := (List.range n).map fun a => (List.range n).map fun b => f a b
theorem tabl_len {n : Nat} {f : Nat → Nat → List Nat} : (tabl n f).length = n := by unfold tabl; rw [List.length_map, List.length_range]
theorem tabl_at {n : Nat} {f : Nat → Nat → List Nat} {a b : Nat} (ha : a < n) (hb : b < n) : S2 (tabl n f) a b = f a b := by
  have e1 : Sr (tabl n f) a = (List.range n).map fun b => f a b := by
    show (tabl n f).getD a [] = _
    unfold tabl
    rw [List.getD_eq_getElem?_getD, List.getElem?_map, List.getElem?_range ha]; rfl
  show (Sr (tabl n f) a).getD b [] = _
  rw [e1, List.getD_eq_getElem?_getD, List.getElem?_map, List.getElem?_range hb]; rfl
theorem tabl_tab {n : Nat} {f : Nat → Nat → List Nat} (h1 : 1 ≤ n) (h2 : n ≤ 16) (hf : ∀ a b, a < n → b < n → (f a b).length = 2 ∧ Gt (f a b) 0 < n ∧ Gt (f a b) 1 < n) : Tab (tabl n f) := by
  refine ⟨by rw [tabl_len]; exact h1, by rw [tabl_len]; exact h2, fun r hr => ?_, fun a b ha hb => ?_⟩
  · rw [tabl_len]
    obtain ⟨a, _, rfl⟩ := List.mem_map.mp hr
    rw [List.length_map, List.length_range]
  · rw [tabl_len] at ha hb ⊢
    show (S2 (tabl n f) a b).length = 2 ∧ Gt (S2 (tabl n f) a b) 0 < n ∧ Gt (S2 (tabl n f) a b) 1 < n
    rw [tabl_at ha hb]
    exact hf a b ha hb
noncomputable def invf (S : List (List (List Nat))) (x y : Nat) : List Nat :=
  if h : ∃ p, p ∈ prs S.length ∧ S2 S (Gt p 0) (Gt p 1) = [x, y] then Classical.choose h else []
theorem invf_at {S : List (List (List Nat))} (b : Braid S) {a c : Nat} (ha : a < S.length) (hc : c < S.length) : invf S (Lf S a c) (Rt S a c) = [a, c] := by
  have h : ∃ p, p ∈ prs S.length ∧ S2 S (Gt p 0) (Gt p 1) = [Lf S a c, Rt S a c] := ⟨[a, c], prs_mem.mpr ⟨a, c, ha, hc, rfl⟩, b.toTab.two ha hc⟩
  unfold invf
  rw [dif_pos h]
  obtain ⟨h1, h2⟩ := Classical.choose_spec h
  obtain ⟨a', c', ha', hc', e⟩ := prs_mem.mp h1
  rw [e] at h2 ⊢
  obtain ⟨e1, e2⟩ := b.one a' c' a c ha' hc' ha hc (h2.trans (b.toTab.two ha hc).symm)
  rw [e1, e2]
theorem inv2_of {S : List (List (List Nat))} (b : Braid S) : Inv2 S (tabl S.length (invf S)) := by
  have tb := b.toTab
  refine ⟨tabl_tab tb.pos tb.le fun x y hx hy => ?_, tabl_len, fun a c ha hc => ?_⟩
  · obtain ⟨a, c, ha, hc, e⟩ := b.onto hx hy
    have e1 : Lf S a c = x := by show Gt (S2 S a c) 0 = x; rw [e]; rfl
    have e2 : Rt S a c = y := by show Gt (S2 S a c) 1 = y; rw [e]; rfl
    have := invf_at b ha hc
    rw [e1, e2] at this
    rw [this]
    exact ⟨rfl, ha, hc⟩
  · rw [tabl_at (tb.lf ha hc) (tb.rt ha hc)]
    exact invf_at b ha hc
theorem vc_back_table : VC w_back_table 1 5 sp_back_table := by
  rintro ds h Q hl ⟨S, rfl, b, q⟩
  have p2 := b.le
  have tb := b.toTab
  have hln := prs_len' S.length
  have hm : S.length * S.length ≤ 16 * 16 := Nat.mul_le_mul p2 p2
  have q := q _ (inv2_of b)
  simp_arith [w_back_table, sp_pairs_of]
  refine ⟨p2, ?_⟩
  refine for_l (fun i env h' => ∃ kvs x2 x3 x4 x5, env = [some (d S), some (.ref h.length), x2, x3, x4, x5] ∧ h' = h ++ [.dic kvs] ∧ kvs.length ≤ i ∧
    ∀ j p, j < i → (prs S.length)[j]? = some p → dlook kvs ((S2 S (Gt p 0) (Gt p 1)).map Int.ofNat) = some (d p)) ⟨_, _, _, _, _, rfl, rfl, Nat.le_refl _, fun j p hj => by omega⟩ ?_ ?_
  · rintro i p env h' K hi he ⟨kvs, x2, x3, x4, x5, rfl, rfl, hkl, hk⟩ hK
    obtain ⟨a, c, ha, hc, rfl⟩ := prs_mem.mp (List.mem_of_getElem? he)
    simp_arith [show (0 : Int) = ((0 : Nat) : Int) from rfl, show (1 : Int) = ((1 : Nat) : Int) from rfl, Sr_eq ha, tb.at ha hc]
    refine set_dcell (Nat.lt_of_lt_of_le (by omega) (lsz (n := 300) (by omega))) (hK _ _ ⟨_, _, _, _, _, rfl, rfl, Nat.le_trans (dput_len _ _ _) (by omega), fun j p hj hp => ?_⟩)
    rw [dlook_put]
    by_cases e : (S2 S (Gt p 0) (Gt p 1)).map Int.ofNat = (S2 S a c).map Int.ofNat
    · rw [if_pos e]
      obtain ⟨a', c', ha', hc', rfl⟩ := prs_mem.mp (List.mem_of_getElem? hp)
      have e : S2 S a' c' = S2 S a c := by
        have := congrArg (List.map Int.toNat) e
        simpa [List.map_map, Function.comp_def] using this
      obtain ⟨e1, e2⟩ := b.one a' c' a c ha' hc' ha hc e
      rw [e1, e2]; rfl
    · rw [if_neg e]
      refine hk j p ?_ hp
      rcases Nat.lt_or_ge j i with z | z
      · exact z
      · have : j = i := by omega
        subst this
        rw [he] at hp
        cases hp
        exact absurd rfl e
  · rintro env h' ⟨kvs, x2, x3, x4, x5, rfl, rfl, hkl, hk⟩
    simp_arith
    refine ⟨rgOk0 (by omega), ?_⟩
    rw [rgD0]
    simp_arith [List.length_range]
    refine ⟨lsz (by omega), comp_l trivial (f := fun a => d ((List.range S.length).map fun b => invf S a b)) (fun x hx K hK => ?_) ?_⟩
    · have hx := List.mem_range.mp hx
      simp_arith [List.length_range]
      refine ⟨lsz (by omega), comp_l trivial (f := fun b => d (invf S x b)) (fun y hy K hK => ?_) ?_⟩
      · have hy := List.mem_range.mp hy
        obtain ⟨a, c, ha, hc, e⟩ := b.onto hx hy
        have e1 : Lf S a c = x := by show Gt (S2 S a c) 0 = x; rw [e]; rfl
        have e2 : Rt S a c = y := by show Gt (S2 S a c) 1 = y; rw [e]; rfl
        have iv := invf_at b ha hc
        rw [e1, e2] at iv
        simp_arith
        refine ⟨lsz (by omega), ix_dcell (k := [x, y]) (x := d [a, c]) ?_ (by rw [iv] at hK; exact hK)⟩
        obtain ⟨j, hj⟩ := List.getElem?_of_mem (prs_mem.mpr ⟨a, c, ha, hc, rfl⟩)
        have := hk j [a, c] (List.getElem?_eq_some_iff.mp hj).1 hj
        rw [← e]
        exact this
      · simp_arith
        rw [d_list, List.map_map] at hK
        exact hK
    · simp_arith
      refine ret_drop ?_ ⟨_, rfl⟩ ?_
      · have := bel_d (tabl S.length (invf S)) 0
        unfold tabl at this
        rw [d_list, List.map_map] at this
        exact this
      · unfold tabl at q
        rw [d_list, List.map_map] at q
        exact q
end Lw

namespace Lw
open PySem PySem.Spec PyProof.Rows L2 Pd
open Py (d)
open Lean in
local macro_rules
  | `(tactic| simp_arith) => `(tactic| try simp only [Pd.wsSeq, Pd.wsNil, Pd.wsRet, Pd.wsRetN, Pd.wsIf, Pd.wsAsg, Pd.wsPar, Pd.wsExpr, Pd.wsBrk, Pd.wsCnt, Pd.wsNever, Pd.wVar, Pd.wC, Pd.wNil, Pd.wCons, Pd.wTup, Pd.wLst, Pd.wtAnd, Pd.wtOr, Pd.wtNot, Pd.wtYes, Pd.wAndV, Pd.wOrV, Pd.wNotV, Pd.wIf, Pd.wNeg,
      Pd.w2, Pd.w3, Pd.wTest, Pd.wNoPart, Pd.wPart, Pd.wSl, Pd.wCall, Pd.wFn, Pd.wIsi, Pd.wMeth, Pd.wApp, Pd.wIndex, Pd.wListRg, Pd.wTupRg, Pd.wRg1, Pd.wRg2, Pd.wRevT, Pd.wDict0, Pd.wLenSet, Pd.wgNm, Pd.wgSub, Pd.wgNil, Pd.wgCons, Pd.wgTup,
      Pd.wsFor, Pd.wComp, Pd.wiSeq, Pd.wiRng1, Pd.wiRng2, Pd.wiEnum, Pd.wiZip, Pd.wiRev, Pd.bind_nm, Pd.bind_two, Pd.bind_tp2, Pd.bind_tp3, Pd.map_inj, Pd.mapI_inj, Int.natCast_inj, Pd.at_nat, List.getElem?_map, Option.map_some, Pd.cell_get, Pd.ls_cell, Pd.sq_cell, Pd.ix_cell, Pd.len_cell, Pd.tuple_cell, Pd.tuple_lst, Pd.tuple_tup, Pd.wipeD_one, Pd.wipeD_two, Pd.wipeD_three, Pd.cut_take, Pd.cut_drop, Pd.cut_mid, Pd.app_map, Pd.isT_t, Pd.isT_l, Pd.isT_r,
      Pd.tyD_non, Pd.tyD_bl, Pd.tyD_int, Pd.tyD_str, Pd.tyD_tup, Pd.tyD_lst, Pd.sqD_tup, Pd.sqD_lst, Pd.lsD_lst, Pd.isi_ii, Pd.isi_ib, Pd.isi_bi, Pd.isi_bb, Pd.isi_tt, Pd.isi_ti, Pd.isi_tb, Pd.isi_ts, Pd.isi_tl, Pd.isi_it, Pd.isi_is, Pd.isi_il, Pd.isi_st, Pd.isi_ss, Pd.isi_si, Pd.isi_sb, Pd.isi_sl, Pd.isi_li, Pd.isi_lb, Pd.isi_ls, Pd.isi_lt, Pd.isi_ll, Pd.isi_ni, Pd.isi_nb, Pd.isi_ns, Pd.isi_nt, Pd.isi_nl, Pd.isi_bt, Pd.isi_bs, Pd.isi_bl,
      Pd.add_int, Pd.add_tup, Pd.add_lst, Pd.i_int, Pd.b_int, Pd.mul_int, Pd.none_non, Pd.ix_tup, Pd.ix_lst, Pd.sl_tup, Pd.sl_lst, Pd.len_tup, Pd.len_lst, Pd.rdEq_intf, Pd.rdEq_intt, Pd.mkL_f, Pd.mkL_t, Pd.d_int, Pd.d_nat, Pd.d_bool, Pd.d_list,
      List.map_cons, List.map_nil, List.cons_append, List.nil_append, List.replicate_zero, List.replicate_succ, List.append_nil, List.getElem?_cons_zero, List.getElem?_cons_succ, List.set_cons_zero, List.set_cons_succ, List.length_cons, List.length_nil, List.length_map,
      Option.some.injEq, Pd.D.bl.injEq, Pd.D.int.injEq, Pd.D.tup.injEq, Pd.D.lst.injEq, Pd.D.ref.injEq, Pd.D.str.injEq, List.cons.injEq, exists_eq_left, exists_eq_left', exists_and_left, and_true, true_and, and_assoc, if_true, if_false, Bool.not_true, Bool.not_false, decide_eq_true_eq, Bool.false_eq_true, ↓reduceIte, reduceCtorEq, exists_const])
  | `(tactic| simp_arith [$ls,*]) => `(tactic| try simp only [Pd.wsSeq, Pd.wsNil, Pd.wsRet, Pd.wsRetN, Pd.wsIf, Pd.wsAsg, Pd.wsPar, Pd.wsExpr, Pd.wsBrk, Pd.wsCnt, Pd.wsNever, Pd.wVar, Pd.wC, Pd.wNil, Pd.wCons, Pd.wTup, Pd.wLst, Pd.wtAnd, Pd.wtOr, Pd.wtNot, Pd.wtYes, Pd.wAndV, Pd.wOrV, Pd.wNotV, Pd.wIf, Pd.wNeg,
      Pd.w2, Pd.w3, Pd.wTest, Pd.wNoPart, Pd.wPart, Pd.wSl, Pd.wCall, Pd.wFn, Pd.wIsi, Pd.wMeth, Pd.wApp, Pd.wIndex, Pd.wListRg, Pd.wTupRg, Pd.wRg1, Pd.wRg2, Pd.wRevT, Pd.wDict0, Pd.wLenSet, Pd.wgNm, Pd.wgSub, Pd.wgNil, Pd.wgCons, Pd.wgTup,
      Pd.wsFor, Pd.wComp, Pd.wiSeq, Pd.wiRng1, Pd.wiRng2, Pd.wiEnum, Pd.wiZip, Pd.wiRev, Pd.bind_nm, Pd.bind_two, Pd.bind_tp2, Pd.bind_tp3, Pd.map_inj, Pd.mapI_inj, Int.natCast_inj, Pd.at_nat, List.getElem?_map, Option.map_some, Pd.cell_get, Pd.ls_cell, Pd.sq_cell, Pd.ix_cell, Pd.len_cell, Pd.tuple_cell, Pd.tuple_lst, Pd.tuple_tup, Pd.wipeD_one, Pd.wipeD_two, Pd.wipeD_three, Pd.cut_take, Pd.cut_drop, Pd.cut_mid, Pd.app_map, Pd.isT_t, Pd.isT_l, Pd.isT_r,
      Pd.tyD_non, Pd.tyD_bl, Pd.tyD_int, Pd.tyD_str, Pd.tyD_tup, Pd.tyD_lst, Pd.sqD_tup, Pd.sqD_lst, Pd.lsD_lst, Pd.isi_ii, Pd.isi_ib, Pd.isi_bi, Pd.isi_bb, Pd.isi_tt, Pd.isi_ti, Pd.isi_tb, Pd.isi_ts, Pd.isi_tl, Pd.isi_it, Pd.isi_is, Pd.isi_il, Pd.isi_st, Pd.isi_ss, Pd.isi_si, Pd.isi_sb, Pd.isi_sl, Pd.isi_li, Pd.isi_lb, Pd.isi_ls, Pd.isi_lt, Pd.isi_ll, Pd.isi_ni, Pd.isi_nb, Pd.isi_ns, Pd.isi_nt, Pd.isi_nl, Pd.isi_bt, Pd.isi_bs, Pd.isi_bl,
      Pd.add_int, Pd.add_tup, Pd.add_lst, Pd.i_int, Pd.b_int, Pd.mul_int, Pd.none_non, Pd.ix_tup, Pd.ix_lst, Pd.sl_tup, Pd.sl_lst, Pd.len_tup, Pd.len_lst, Pd.rdEq_intf, Pd.rdEq_intt, Pd.mkL_f, Pd.mkL_t, Pd.d_int, Pd.d_nat, Pd.d_bool, Pd.d_list,
      List.map_cons, List.map_nil, List.cons_append, List.nil_append, List.replicate_zero, List.replicate_succ, List.append_nil, List.getElem?_cons_zero, List.getElem?_cons_succ, List.set_cons_zero, List.set_cons_succ, List.length_cons, List.length_nil, List.length_map,
      Option.some.injEq, Pd.D.bl.injEq, Pd.D.int.injEq, Pd.D.tup.injEq, Pd.D.lst.injEq, Pd.D.ref.injEq, Pd.D.str.injEq, List.cons.injEq, exists_eq_left, exists_eq_left', exists_and_left, and_true, true_and, and_assoc, if_true, if_false, Bool.not_true, Bool.not_false, decide_eq_true_eq, Bool.false_eq_true, ↓reduceIte, reduceCtorEq, exists_const, $ls,*])
theorem vc_is_crossing_in : VC w_is_crossing_in 2 1 sp_is_crossing_in := by
  rintro ds h Q hl ⟨s, w, rfl, c, q⟩
  have h1 := c.len
  simp_arith [w_is_crossing_in, sp_is_tuple_of]
  rw [if_pos (by omega)]
  refine ⟨lsz (by omega), comp_l trivial (f := fun x => .bl true) (fun x hx K hK => ?_) (all_tt (ret_now q))⟩
  simp_arith [sp_is_whole]
  rw [decide_eq_true (c.at_ x hx)]
  exact hK
theorem vc_need_crossing : VC w_need_crossing 2 0 sp_need_crossing := by
  rintro ds h Q hl ⟨s, w, rfl, c, q⟩
  have h1 := c.pos
  have h2 := c.le
  simp_arith [w_need_crossing, sp_need_whole, sp_is_crossing_in]
  exact ⟨by omega, by omega, c, ret_now q⟩
theorem vc_place_of : VC w_place_of 1 0 sp_place_of := by
  rintro ds h Q hl ⟨v, rfl, q⟩
  simp_arith [w_place_of]
  unfold plc at q
  split
  · rename_i h0
    rw [if_pos h0, Int.toNat_of_nonneg h0] at q
    exact ret_now q
  · rename_i h0
    rw [if_neg h0, Int.toNat_of_nonneg (by omega)] at q
    exact ret_now q
theorem plc_lt {s : Nat} {w : List Int} (c : Cw s w) {v : Int} (hv : v ∈ w) : plc v + 1 < s := by
  have := c.at_ v hv
  unfold plc
  split <;> omega
theorem cr1_ok {S T : List (List (List Nat))} (hS : Tab S) (hT : Tab T) (e : T.length = S.length) {row : List Nat} {v : Int} (hv : plc v + 1 < row.length) (hr : ∀ x ∈ row, x < S.length) :
    (cr1 S T row v).length = row.length ∧ ∀ x ∈ cr1 S T row v, x < S.length := by
  have g1 := hr _ (Gt_mem (l := row) (i := plc v) (by omega))
  have g2 := hr _ (Gt_mem (l := row) (i := plc v + 1) hv)
  have key : (S2 (if 0 ≤ v then S else T) (Gt row (plc v)) (Gt row (plc v + 1))).length = 2 ∧ ∀ x ∈ S2 (if 0 ≤ v then S else T) (Gt row (plc v)) (Gt row (plc v + 1)), x < S.length := by
    split
    · refine ⟨(hS.pair _ _ g1 g2).1, fun x hx => ?_⟩
      rw [hS.two g1 g2] at hx
      rcases List.mem_cons.mp hx with q | hx
      · rw [q]; exact hS.lf g1 g2
      · rw [List.mem_singleton.mp hx]; exact hS.rt g1 g2
    · rw [← e] at g1 g2 ⊢
      refine ⟨(hT.pair _ _ g1 g2).1, fun x hx => ?_⟩
      rw [hT.two g1 g2] at hx
      rcases List.mem_cons.mp hx with q | hx
      · rw [q]; exact hT.lf g1 g2
      · rw [List.mem_singleton.mp hx]; exact hT.rt g1 g2
  unfold cr1
  refine ⟨by rw [List.length_append, List.length_append, key.1, List.length_take, List.length_drop]; omega, fun x hx => ?_⟩
  rcases List.mem_append.mp hx with hx | hx
  · rcases List.mem_append.mp hx with hx | hx
    · exact hr x (List.mem_of_mem_take hx)
    · exact key.2 x hx
  · exact hr x (List.mem_of_mem_drop hx)
theorem crs_snoc (S T : List (List (List Nat))) (w : List Int) (v : Int) (row : List Nat) : crs S T (w ++ [v]) row = cr1 S T (crs S T w row) v := by unfold crs; rw [List.foldl_append]; rfl
theorem crs_ok {S T : List (List (List Nat))} (hS : Tab S) (hT : Tab T) (e : T.length = S.length) : ∀ (w : List Int) {row : List Nat}, (∀ v ∈ w, plc v + 1 < row.length) → (∀ x ∈ row, x < S.length) →
    (crs S T w row).length = row.length ∧ ∀ x ∈ crs S T w row, x < S.length
  | [], row, _, hr => ⟨rfl, hr⟩
  | v :: w, row, hv, hr => by
    obtain ⟨h1, h2⟩ := cr1_ok hS hT e (hv v List.mem_cons_self) hr
    obtain ⟨h3, h4⟩ := crs_ok hS hT e w (row := cr1 S T row v) (fun u hu => by rw [h1]; exact hv u (List.mem_cons_of_mem _ hu)) h2
    exact ⟨h3.trans h1, h4⟩
theorem vc_crossed_by : VC w_crossed_by 4 4 sp_crossed_by := by
  rintro ds h Q hl ⟨S, T, w, row, rfl, hS, hT, e, c, hr, q⟩
  have h8 := c.le
  simp_arith [w_crossed_by]
  refine for_l (fun i env h' => ∃ x5 x6 x7, env = [some (d S), some (d T), some (.tup (w.map .int)), some (d row), some (d (crs S T (w.take i) row)), x5, x6, x7] ∧ h' = h) ⟨_, _, _, rfl, rfl⟩ ?_ ?_
  · rintro i v env h' K hi he ⟨x5, x6, x7, rfl, rfl⟩ hK
    have hvw : v ∈ w := List.mem_of_getElem? he
    have hp := plc_lt c hvw
    obtain ⟨hl1, hr1⟩ := crs_ok hS hT e (w.take i) (row := row) (fun u hu => plc_lt c (List.mem_of_mem_take hu)) hr
    have k1 := hr1 _ (Gt_mem (l := crs S T (w.take i) row) (i := plc v) (by omega))
    have k2 := hr1 _ (Gt_mem (l := crs S T (w.take i) row) (i := plc v + 1) (by omega))
    have g1 := Gt_eq (l := crs S T (w.take i) row) (i := plc v) (by omega)
    have g2 := Gt_eq (l := crs S T (w.take i) row) (i := plc v + 1) (by omega)
    have e1 : ((plc v : Int) + 1) = ((plc v + 1 : Nat) : Int) := by omega
    have e2 : ((plc v : Int) + 2) = ((plc v + 2 : Nat) : Int) := by omega
    rw [L2.take_next he, crs_snoc] at hK
    unfold cr1 at hK
    simp_arith [sp_place_of]
    by_cases h0 : 0 ≤ v
    · rw [if_pos h0] at hK ⊢
      simp_arith [g1, e1, e2, g2, Sr_eq k1, hS.at k1 k2]
      have l2 := (hS.pair _ _ k1 k2).1
      exact ⟨lsz (by rw [List.length_take]; omega), lsz (by rw [List.length_append, List.length_take, List.length_drop]; omega), hK _ _ ⟨_, _, _, rfl, rfl⟩⟩
    · rw [if_neg h0] at hK ⊢
      rw [← e] at k1 k2
      simp_arith [g1, e1, e2, g2, Sr_eq k1, hT.at k1 k2]
      have l2 := (hT.pair _ _ k1 k2).1
      exact ⟨lsz (by rw [List.length_take]; omega), lsz (by rw [List.length_append, List.length_take, List.length_drop]; omega), hK _ _ ⟨_, _, _, rfl, rfl⟩⟩
  · rintro env h' ⟨x5, x6, x7, rfl, rfl⟩
    rw [List.take_length]
    simp_arith
    exact ret_now q
theorem vc_crossed_in : VC w_crossed_in 3 0 sp_crossed_in := by
  rintro ds h Q hl ⟨S, w, row, rfl, b, c, hr, q⟩
  simp_arith [w_crossed_in, sp_back_table]
  refine ⟨b, fun T hT => ?_⟩
  simp_arith [sp_crossed_by]
  exact ⟨b.toTab, hT.tab, hT.len, c, hr, ret_now (q T hT)⟩
theorem wholes_nat {l : List Nat} {many n : Nat} {h : DH} {Q : D → DH → Prop} (h1 : l.length ≤ 60) (h2 : ∀ x ∈ l, x < n) (q : Q (.bl (decide (l.length = many))) h) : sp_are_wholes [.tup (l.map d), .int many, .int 0, .int ((n : Int) - 1)] h Q := by
  refine ⟨l.map Int.ofNat, many, 0, n - 1, by rw [nat_int], by rw [List.length_map]; omega, ?_⟩
  have e : decide (((l.map Int.ofNat).length : Int) = many ∧ ∀ x ∈ l.map Int.ofNat, 0 ≤ x ∧ x ≤ (n : Int) - 1) = decide (l.length = many) := by
    have z : ∀ x ∈ l.map Int.ofNat, 0 ≤ x ∧ x ≤ (n : Int) - 1 := fun x hx => by
      obtain ⟨y, hy, rfl⟩ := List.mem_map.mp hx
      have := h2 y hy
      exact ⟨Int.natCast_nonneg y, by show (y : Int) ≤ _; omega⟩
    rw [Bool.eq_iff_iff, decide_eq_true_eq, decide_eq_true_eq, List.length_map]
    exact ⟨fun z => by omega, fun q => ⟨by omega, z⟩⟩
  rw [e]; exact q
theorem vc_crossed : VC w_crossed 4 0 sp_crossed := by
  rintro ds h Q hl ⟨S, s, w, row, rfl, b, c, hrl, hr, q⟩
  have h8 := c.le
  simp_arith [w_crossed, sp_need_braid, sp_need_crossing]
  refine ⟨b, c, wholes_nat (by omega) hr ?_⟩
  simp_arith [hrl, sp_crossed_in, decide_true]
  exact ⟨b, c, hr, fun T hT => ret_now (q T hT)⟩
theorem vc_back_word : VC w_back_word 2 1 sp_back_word := by
  rintro ds h Q hl ⟨s, w, rfl, c, q⟩
  have h1 := c.len
  simp_arith [w_back_word, sp_need_crossing, ← List.map_reverse]
  refine ⟨c, lsz (by rw [List.length_reverse]; omega), comp_l trivial (f := fun x => .int (-1 - x)) (fun x hx K hK => ?_) ?_⟩
  · simp_arith
    exact hK
  · unfold bkw at q
    rw [List.map_map] at q
    exact ret_now q
theorem vc_count_rings : VC w_count_rings 2 0 sp_count_rings := by
  rintro ds h Q hl ⟨s, w, rfl, c, q⟩
  simp_arith [w_count_rings, sp_need_crossing, sp_rings_in]
  exact ⟨c, c, ret_now q⟩
theorem pow_mono {m i s : Nat} (hm : 1 ≤ m) (h : i ≤ s) : m ^ i ≤ m ^ s := Nat.pow_le_pow_right hm h
theorem allR_len (m : Nat) : ∀ s, (allR m s).length = m ^ s
  | 0 => rfl
  | s + 1 => by
    show ((allR m s).flatMap fun r => (List.range m).map fun a => r ++ [a]).length = _
    rw [flatMap_len (n := m) fun x _ => by rw [List.length_map, List.length_range], allR_len m s, Nat.pow_succ]
theorem vc_need_few : VC w_need_few 2 2 sp_need_few := by
  rintro ds h Q hl ⟨m, s, rfl, h1, h2, h3, h4, q⟩
  simp_arith [w_need_few]
  refine ⟨by omega, by omega, ?_⟩
  rw [Int.toNat_natCast]
  refine for_r (fun i env h' => ∃ x3, env = [some (.int m), some (.int s), some (.int (m ^ i : Nat)), x3] ∧ h' = h) ⟨_, rfl, rfl⟩ ?_ ?_
  · rintro i env h' K hi ⟨x3, rfl, rfl⟩ hK
    simp_arith
    rw [Nat.pow_succ, Int.natCast_mul] at hK
    exact ⟨.inr ⟨by omega, by omega⟩, hK _ _ ⟨_, rfl, rfl⟩⟩
  · rintro env h' ⟨x3, rfl, rfl⟩
    simp_arith
    rw [if_neg (by omega)]
    exact ret_now q
theorem allR_mem {m : Nat} : ∀ {s : Nat} {r : List Nat}, r ∈ allR m s → r.length = s
  | 0, r, h => by rw [List.mem_singleton.mp h]; rfl
  | s + 1, r, h => by
    obtain ⟨r', h1, h2⟩ := List.mem_flatMap.mp h
    obtain ⟨a, _, rfl⟩ := List.mem_map.mp h2
    rw [List.length_append, allR_mem h1]; rfl
theorem vc_all_rows : VC w_all_rows 2 5 sp_all_rows := by
  rintro ds h Q hl ⟨m, s, rfl, h1, h2, h3, h4, q⟩
  simp_arith [w_all_rows]
  refine ⟨lsz (by omega), lsz (by omega), by omega, by omega, ?_⟩
  rw [Int.toNat_natCast]
  refine for_r (fun i env h' => ∃ x3 x4 x5 x6, env = [some (.int m), some (.int s), some (.lst ((allR m i).map d)), x3, x4, x5, x6] ∧ h' = h) ⟨_, _, _, _, rfl, rfl⟩ ?_ ?_
  · rintro i env h' K hi ⟨x3, x4, x5, x6, rfl, rfl⟩ hK
    simp_arith
    refine ⟨lsz (by omega), ?_⟩
    refine for_l (fun j env h'' => ∃ x5 x6, env = [some (.int m), some (.int s), some (.lst ((allR m i).map d)), some (.int i), some (.lst ((((allR m i).take j).flatMap fun r => (List.range m).map fun a => r ++ [a]).map d)), x5, x6] ∧ h'' = h') ⟨_, _, rfl, rfl⟩ ?_ ?_
    · rintro j r env h'' K hj he ⟨x5, x6, rfl, rfl⟩ hK
      have hjl : ((allR m i).take j).length ≤ 4096 := by
        rw [List.length_take, allR_len]
        exact Nat.le_trans (Nat.min_le_right _ _) (Nat.le_trans (pow_mono h1 (by omega)) h4)
      have hrl : r.length = i := allR_mem (List.mem_of_getElem? he)
      have hfl : (((allR m i).take j).flatMap fun r => (List.range m).map fun a => r ++ [a]).length ≤ 4096 * 16 := by
        rw [flatMap_len (n := m) fun x _ => by rw [List.length_map, List.length_range]]
        exact Nat.mul_le_mul hjl h2
      simp_arith
      refine ⟨by omega, by omega, lsz (by rw [rng0_map, List.length_map, List.length_range]; omega), ?_⟩
      rw [Int.toNat_natCast]
      refine comp_r trivial (f := fun a => d (r ++ [a])) (fun a ha K hK => ?_) ?_
      · simp_arith
        rw [d_list, List.map_append] at hK
        exact ⟨lsz (by omega), lsz (by omega), hK⟩
      · rw [L2.take_next he, List.flatMap_append, List.map_append] at hK
        simp only [List.flatMap_cons, List.flatMap_nil, List.append_nil, List.map_map] at hK
        simp_arith
        exact ⟨lsz (by rw [List.length_range]; omega), hK _ _ ⟨_, _, rfl, rfl⟩⟩
    · rintro env h'' ⟨x5, x6, rfl, rfl⟩
      rw [List.take_length]
      simp_arith
      exact hK _ _ ⟨_, _, _, _, rfl, rfl⟩
  · rintro env h' ⟨x3, x4, x5, x6, rfl, rfl⟩
    simp_arith
    exact ret_now q
theorem allR_lt {m : Nat} : ∀ {s : Nat} {r : List Nat}, r ∈ allR m s → ∀ x ∈ r, x < m
  | 0, r, h, x, hx => by
    rw [List.mem_singleton.mp h] at hx; cases hx
  | s + 1, r, h, x, hx => by
    obtain ⟨r', h1, h2⟩ := List.mem_flatMap.mp h
    obtain ⟨a, h3, rfl⟩ := List.mem_map.mp h2
    rcases List.mem_append.mp hx with hx | hx
    · exact allR_lt h1 x hx
    · rw [List.mem_singleton.mp hx]; exact List.mem_range.mp h3
theorem vc_colours_in : VC w_colours_in 3 2 sp_colours_in := by
  rintro ds h Q hl ⟨S, s, w, rfl, fw, q⟩
  have b := fw.braid
  have c := fw.cw
  have p1 := b.pos
  have p2 := b.le
  have h8 := c.le
  simp_arith [w_colours_in, sp_back_table]
  refine ⟨b, fun T hT => ?_⟩
  simp_arith [sp_all_rows]
  refine ⟨by omega, by omega, by omega, fw.few, lsz (by rw [allR_len]; have := fw.few; omega), comp_lif (p := fun r => decide (crs S T w r = r)) (f := fun r : List Nat => d r) trivial (fun r hr K hK => ?_) ?_⟩
  · have hrl := allR_mem hr
    simp_arith [sp_crossed_by]
    refine ⟨b.toTab, hT.tab, hT.len, by rw [hrl]; exact c, allR_lt hr, eq_tup (by decide) ?_⟩
    simp_arith
    by_cases z : crs S T w r = r
    · rw [if_pos z]; rw [if_pos (decide_eq_true z)] at hK; exact hK
    · rw [if_neg z]; rw [if_neg (by simpa using z)] at hK; exact hK
  · exact ret_now (q T hT)
theorem vc_colours_of : VC w_colours_of 3 0 sp_colours_of := by
  rintro ds h Q hl ⟨S, s, w, rfl, fw, q⟩
  have h8 := fw.cw.le
  have p1 := fw.braid.pos
  have p2 := fw.braid.le
  simp_arith [w_colours_of, sp_need_braid, sp_need_crossing, sp_need_few, sp_colours_in]
  exact ⟨fw.braid, fw.cw, by omega, by omega, by omega, fw.few, fw, fun T hT => ret_now (q T hT)⟩
theorem vc_count_colours : VC w_count_colours 3 0 sp_count_colours := by
  rintro ds h Q hl ⟨S, s, w, rfl, fw, q⟩
  have h8 := fw.cw.le
  have p1 := fw.braid.pos
  have p2 := fw.braid.le
  simp_arith [w_count_colours, sp_need_braid, sp_need_crossing, sp_need_few, sp_colours_in]
  exact ⟨fw.braid, fw.cw, by omega, by omega, by omega, fw.few, fw, fun T hT => ret_now (q T hT)⟩
theorem vc_is_colour : VC w_is_colour 4 0 sp_is_colour := by
  rintro ds h Q hl ⟨S, s, w, r, rfl, b, c, h1, h2, q⟩
  simp_arith [w_is_colour, sp_need_braid, sp_need_crossing]
  refine ⟨b, c, wholes_nat h1 h2 ?_⟩
  simp_arith [sp_crossed_in]
  by_cases e : r.length = s
  · rw [if_pos e]
    refine ⟨b, by rw [e]; exact c, h2, fun T hT => eq_tup (by decide) (ret_now ?_)⟩
    have := q T hT
    simpa [e] using this
  · rw [if_neg e]
    have := q _ (inv2_of b)
    rw [decide_eq_false fun z => e z.1] at this
    exact ret_now this
end Lw

namespace Lw
open PySem PySem.Spec PyProof.Rows L2 Pd
open Py (d)
open Lean in
local macro_rules
  | `(tactic| simp_arith) => `(tactic| try simp only [Pd.wsSeq, Pd.wsNil, Pd.wsRet, Pd.wsRetN, Pd.wsIf, Pd.wsAsg, Pd.wsPar, Pd.wsExpr, Pd.wsBrk, Pd.wsCnt, Pd.wsNever, Pd.wVar, Pd.wC, Pd.wNil, Pd.wCons, Pd.wTup, Pd.wLst, Pd.wtAnd, Pd.wtOr, Pd.wtNot, Pd.wtYes, Pd.wAndV, Pd.wOrV, Pd.wNotV, Pd.wIf, Pd.wNeg,
      Pd.w2, Pd.w3, Pd.wTest, Pd.wNoPart, Pd.wPart, Pd.wSl, Pd.wCall, Pd.wFn, Pd.wIsi, Pd.wMeth, Pd.wApp, Pd.wIndex, Pd.wListRg, Pd.wTupRg, Pd.wRg1, Pd.wRg2, Pd.wRevT, Pd.wDict0, Pd.wLenSet, Pd.wgNm, Pd.wgSub, Pd.wgNil, Pd.wgCons, Pd.wgTup,
      Pd.wsFor, Pd.wComp, Pd.wiSeq, Pd.wiRng1, Pd.wiRng2, Pd.wiEnum, Pd.wiZip, Pd.wiRev, Pd.bind_nm, Pd.bind_two, Pd.bind_tp2, Pd.bind_tp3, Pd.map_inj, Pd.mapI_inj, Int.natCast_inj, Pd.at_nat, List.getElem?_map, Option.map_some, Pd.cell_get, Pd.ls_cell, Pd.sq_cell, Pd.ix_cell, Pd.len_cell, Pd.tuple_cell, Pd.tuple_lst, Pd.tuple_tup, Pd.wipeD_one, Pd.wipeD_two, Pd.wipeD_three, Pd.cut_take, Pd.cut_drop, Pd.cut_mid, Pd.app_map, Pd.isT_t, Pd.isT_l, Pd.isT_r,
      Pd.tyD_non, Pd.tyD_bl, Pd.tyD_int, Pd.tyD_str, Pd.tyD_tup, Pd.tyD_lst, Pd.sqD_tup, Pd.sqD_lst, Pd.lsD_lst, Pd.isi_ii, Pd.isi_ib, Pd.isi_bi, Pd.isi_bb, Pd.isi_tt, Pd.isi_ti, Pd.isi_tb, Pd.isi_ts, Pd.isi_tl, Pd.isi_it, Pd.isi_is, Pd.isi_il, Pd.isi_st, Pd.isi_ss, Pd.isi_si, Pd.isi_sb, Pd.isi_sl, Pd.isi_li, Pd.isi_lb, Pd.isi_ls, Pd.isi_lt, Pd.isi_ll, Pd.isi_ni, Pd.isi_nb, Pd.isi_ns, Pd.isi_nt, Pd.isi_nl, Pd.isi_bt, Pd.isi_bs, Pd.isi_bl,
      Pd.add_int, Pd.add_tup, Pd.add_lst, Pd.i_int, Pd.b_int, Pd.mul_int, Pd.none_non, Pd.ix_tup, Pd.ix_lst, Pd.sl_tup, Pd.sl_lst, Pd.len_tup, Pd.len_lst, Pd.rdEq_intf, Pd.rdEq_intt, Pd.mkL_f, Pd.mkL_t, Pd.d_int, Pd.d_nat, Pd.d_bool, Pd.d_list,
      List.map_cons, List.map_nil, List.cons_append, List.nil_append, List.replicate_zero, List.replicate_succ, List.append_nil, List.getElem?_cons_zero, List.getElem?_cons_succ, List.set_cons_zero, List.set_cons_succ, List.length_cons, List.length_nil, List.length_map,
      Option.some.injEq, Pd.D.bl.injEq, Pd.D.int.injEq, Pd.D.tup.injEq, Pd.D.lst.injEq, Pd.D.ref.injEq, Pd.D.str.injEq, List.cons.injEq, exists_eq_left, exists_eq_left', exists_and_left, and_true, true_and, and_assoc, if_true, if_false, Bool.not_true, Bool.not_false, decide_eq_true_eq, Bool.false_eq_true, ↓reduceIte, reduceCtorEq, exists_const])
  | `(tactic| simp_arith [$ls,*]) => `(tactic| try simp only [Pd.wsSeq, Pd.wsNil, Pd.wsRet, Pd.wsRetN, Pd.wsIf, Pd.wsAsg, Pd.wsPar, Pd.wsExpr, Pd.wsBrk, Pd.wsCnt, Pd.wsNever, Pd.wVar, Pd.wC, Pd.wNil, Pd.wCons, Pd.wTup, Pd.wLst, Pd.wtAnd, Pd.wtOr, Pd.wtNot, Pd.wtYes, Pd.wAndV, Pd.wOrV, Pd.wNotV, Pd.wIf, Pd.wNeg,
      Pd.w2, Pd.w3, Pd.wTest, Pd.wNoPart, Pd.wPart, Pd.wSl, Pd.wCall, Pd.wFn, Pd.wIsi, Pd.wMeth, Pd.wApp, Pd.wIndex, Pd.wListRg, Pd.wTupRg, Pd.wRg1, Pd.wRg2, Pd.wRevT, Pd.wDict0, Pd.wLenSet, Pd.wgNm, Pd.wgSub, Pd.wgNil, Pd.wgCons, Pd.wgTup,
      Pd.wsFor, Pd.wComp, Pd.wiSeq, Pd.wiRng1, Pd.wiRng2, Pd.wiEnum, Pd.wiZip, Pd.wiRev, Pd.bind_nm, Pd.bind_two, Pd.bind_tp2, Pd.bind_tp3, Pd.map_inj, Pd.mapI_inj, Int.natCast_inj, Pd.at_nat, List.getElem?_map, Option.map_some, Pd.cell_get, Pd.ls_cell, Pd.sq_cell, Pd.ix_cell, Pd.len_cell, Pd.tuple_cell, Pd.tuple_lst, Pd.tuple_tup, Pd.wipeD_one, Pd.wipeD_two, Pd.wipeD_three, Pd.cut_take, Pd.cut_drop, Pd.cut_mid, Pd.app_map, Pd.isT_t, Pd.isT_l, Pd.isT_r,
      Pd.tyD_non, Pd.tyD_bl, Pd.tyD_int, Pd.tyD_str, Pd.tyD_tup, Pd.tyD_lst, Pd.sqD_tup, Pd.sqD_lst, Pd.lsD_lst, Pd.isi_ii, Pd.isi_ib, Pd.isi_bi, Pd.isi_bb, Pd.isi_tt, Pd.isi_ti, Pd.isi_tb, Pd.isi_ts, Pd.isi_tl, Pd.isi_it, Pd.isi_is, Pd.isi_il, Pd.isi_st, Pd.isi_ss, Pd.isi_si, Pd.isi_sb, Pd.isi_sl, Pd.isi_li, Pd.isi_lb, Pd.isi_ls, Pd.isi_lt, Pd.isi_ll, Pd.isi_ni, Pd.isi_nb, Pd.isi_ns, Pd.isi_nt, Pd.isi_nl, Pd.isi_bt, Pd.isi_bs, Pd.isi_bl,
      Pd.add_int, Pd.add_tup, Pd.add_lst, Pd.i_int, Pd.b_int, Pd.mul_int, Pd.none_non, Pd.ix_tup, Pd.ix_lst, Pd.sl_tup, Pd.sl_lst, Pd.len_tup, Pd.len_lst, Pd.rdEq_intf, Pd.rdEq_intt, Pd.mkL_f, Pd.mkL_t, Pd.d_int, Pd.d_nat, Pd.d_bool, Pd.d_list,
      List.map_cons, List.map_nil, List.cons_append, List.nil_append, List.replicate_zero, List.replicate_succ, List.append_nil, List.getElem?_cons_zero, List.getElem?_cons_succ, List.set_cons_zero, List.set_cons_succ, List.length_cons, List.length_nil, List.length_map,
      Option.some.injEq, Pd.D.bl.injEq, Pd.D.int.injEq, Pd.D.tup.injEq, Pd.D.lst.injEq, Pd.D.ref.injEq, Pd.D.str.injEq, List.cons.injEq, exists_eq_left, exists_eq_left', exists_and_left, and_true, true_and, and_assoc, if_true, if_false, Bool.not_true, Bool.not_false, decide_eq_true_eq, Bool.false_eq_true, ↓reduceIte, reduceCtorEq, exists_const, $ls,*])
theorem exch1_len (l : List Nat) (v : Int) : (exch1 l v).length = l.length := by unfold exch1; rw [List.length_set, List.length_set]
theorem exch_snoc (w : List Int) (v : Int) (l : List Nat) : exch (w ++ [v]) l = exch1 (exch w l) v := by unfold exch; rw [List.foldl_append]; rfl
theorem exch_len : ∀ (w : List Int) (l : List Nat), (exch w l).length = l.length
  | [], _ => rfl
  | v :: w, l => (exch_len w (exch1 l v)).trans (exch1_len l v)
theorem exch1_mem {l : List Nat} {v : Int} (h : plc v + 1 < l.length) {x : Nat} (hx : x ∈ exch1 l v) : x ∈ l := by
  unfold exch1 at hx
  rcases List.mem_or_eq_of_mem_set hx with hx | hx
  · rcases List.mem_or_eq_of_mem_set hx with hx | hx
    · exact hx
    · rw [hx]; exact Gt_mem h
  · rw [hx]; exact Gt_mem (by omega)
theorem exch_mem : ∀ (w : List Int) {l : List Nat}, (∀ v ∈ w, plc v + 1 < l.length) → ∀ x ∈ exch w l, x ∈ l
  | [], _, _, _, hx => hx
  | v :: w, l, h, x, hx => exch1_mem (h v List.mem_cons_self) (exch_mem w (l := exch1 l v) (fun u hu => by rw [exch1_len]; exact h u (List.mem_cons_of_mem _ hu)) x hx)
theorem mrk1_len (m : List Nat) (p : Nat × Nat) : (mrk1 m p).length = m.length := List.length_map _
theorem mrks_len : ∀ (ps : List (Nat × Nat)) (m : List Nat), (ps.foldl mrk1 m).length = m.length
  | [], _ => rfl
  | p :: ps, m => (mrks_len ps (mrk1 m p)).trans (mrk1_len m p)
theorem vc_rings_in : VC w_rings_in 2 8 sp_rings_in := by
  rintro ds h Q hl ⟨s, w, rfl, c, q⟩
  have h8 := c.le
  simp_arith [w_rings_in]
  refine ⟨rgOk0 (by omega), ?_⟩
  rw [rgD0]
  refine for_l (fun i env h' => ∃ x3 x4, env = [some (.int s), some (.tup (w.map .int)), some (.ref h.length), x3, x4, none, none, none, none, none] ∧ h' = h ++ [.lst ((exch (w.take i) (List.range s)).map d)]) ⟨_, _, rfl, rfl⟩ ?_ ?_
  · rintro i v env h' K hi he ⟨x3, x4, rfl, rfl⟩ hK
    have hvw : v ∈ w := List.mem_of_getElem? he
    have hp := plc_lt c hvw
    have hln : (exch (w.take i) (List.range s)).length = s := by rw [exch_len, List.length_range]
    have g1 := Gt_eq (l := exch (w.take i) (List.range s)) (i := plc v) (by omega)
    have g2 := Gt_eq (l := exch (w.take i) (List.range s)) (i := plc v + 1) (by omega)
    have e1 : ((plc v : Int) + 1) = ((plc v + 1 : Nat) : Int) := by omega
    rw [L2.take_next he, exch_snoc] at hK
    unfold exch1 at hK
    simp_arith [sp_place_of, e1, g1, g2]
    refine ⟨lsz (by omega), set_cell (by rw [List.length_map]; omega) ?_⟩
    simp_arith [e1]
    refine set_cell (by rw [List.length_set, List.length_map]; omega) (hK _ _ ⟨_, _, rfl, ?_⟩)
    rw [List.map_set, List.map_set]; rfl
  · rintro env h' ⟨x3, x4, rfl, rfl⟩
    rw [List.take_length]
    simp_arith
    refine ⟨rgOk0 (by omega), ?_⟩
    rw [rgD0]
    have hln : (exch w (List.range s)).length = s := by rw [exch_len, List.length_range]
    have hlt : ∀ x ∈ exch w (List.range s), x < s := fun x hx => List.mem_range.mp (exch_mem w (fun v hv => by rw [List.length_range]; exact plc_lt c hv) x hx)
    refine for_e (fun i env h' => ∃ x3 x6 x7 x8 x9, env = [some (.int s), some (.tup (w.map .int)), some (.ref h.length), x3, x4, some (.lst (((((List.range s).zip (exch w (List.range s))).take i).foldl mrk1 (List.range s)).map d)), x6, x7, x8, x9] ∧
      h' = h ++ [.lst ((exch w (List.range s)).map d)]) ⟨_, _, _, _, _, rfl, rfl⟩ ?_ ?_
    · rintro i x env h' K hi he ⟨x3, x6, x7, x8, x9, rfl, rfl⟩ hK
      have his : i < s := by omega
      have hxs := hlt x (List.mem_of_getElem? he)
      have ez : ((List.range s).zip (exch w (List.range s)))[i]? = some (i, x) := by
        rw [List.getElem?_zip_eq_some]
        exact ⟨List.getElem?_range his, he⟩
      have hml : ((((List.range s).zip (exch w (List.range s))).take i).foldl mrk1 (List.range s)).length = s := by rw [mrks_len, List.length_range]
      rw [L2.take_next ez, List.foldl_append] at hK
      generalize (((List.range s).zip (exch w (List.range s))).take i).foldl mrk1 (List.range s) = m at hK hml
      simp_arith [Gt_eq (l := m) (i := i) (by omega), Gt_eq (l := m) (i := x) (by omega)]
      refine ⟨lsz (by omega), lsz (by omega), comp_l trivial (f := fun y : Nat => d (if y = Gt m x then Gt m i else y)) (fun y hy K hK => ?_) ?_⟩
      · simp_arith
        by_cases z : y = Gt m x
        · rw [if_pos z]; rw [if_pos z] at hK; exact hK
        · rw [if_neg z]; rw [if_neg z] at hK; exact hK
      · have e : (m.map fun y : Nat => (d (if y = Gt m x then Gt m i else y) : D)) = ([((i, x) : Nat × Nat)].foldl mrk1 m).map d := by
          show _ = (mrk1 m (i, x)).map d
          unfold mrk1
          rw [List.map_map]; rfl
        rw [e]
        exact hK _ _ ⟨_, _, _, _, _, rfl, rfl⟩
    · rintro env h' ⟨x3, x6, x7, x8, x9, rfl, rfl⟩
      have et : ((List.range s).zip (exch w (List.range s))).take (exch w (List.range s)).length = (List.range s).zip (exch w (List.range s)) := List.take_of_length_le (by rw [List.length_zip, List.length_range]; omega)
      rw [et]
      have hml : (((List.range s).zip (exch w (List.range s))).foldl mrk1 (List.range s)).length = s := by rw [mrks_len, List.length_range]
      unfold rings mrks at q
      rw [hln] at q
      simp_arith
      refine ⟨_, by rw [nat_int], by rw [List.length_map]; omega, ret_drop rfl ⟨_, rfl⟩ q⟩
end Lw

namespace Lw
open PySem PySem.Spec PyProof.Rows L2 Pd
open Py (d)
open Lean in
local macro_rules
  | `(tactic| simp_arith) => `(tactic| try simp only [Pd.wsSeq, Pd.wsNil, Pd.wsRet, Pd.wsRetN, Pd.wsIf, Pd.wsAsg, Pd.wsPar, Pd.wsExpr, Pd.wsBrk, Pd.wsCnt, Pd.wsNever, Pd.wVar, Pd.wC, Pd.wNil, Pd.wCons, Pd.wTup, Pd.wLst, Pd.wtAnd, Pd.wtOr, Pd.wtNot, Pd.wtYes, Pd.wAndV, Pd.wOrV, Pd.wNotV, Pd.wIf, Pd.wNeg,
      Pd.w2, Pd.w3, Pd.wTest, Pd.wNoPart, Pd.wPart, Pd.wSl, Pd.wCall, Pd.wFn, Pd.wIsi, Pd.wMeth, Pd.wApp, Pd.wIndex, Pd.wListRg, Pd.wTupRg, Pd.wRg1, Pd.wRg2, Pd.wRevT, Pd.wDict0, Pd.wLenSet, Pd.wgNm, Pd.wgSub, Pd.wgNil, Pd.wgCons, Pd.wgTup,
      Pd.wsFor, Pd.wComp, Pd.wiSeq, Pd.wiRng1, Pd.wiRng2, Pd.wiEnum, Pd.wiZip, Pd.wiRev, Pd.bind_nm, Pd.bind_two, Pd.bind_tp2, Pd.bind_tp3, Pd.map_inj, Pd.mapI_inj, Int.natCast_inj, Pd.at_nat, List.getElem?_map, Option.map_some, Pd.cell_get, Pd.ls_cell, Pd.sq_cell, Pd.ix_cell, Pd.len_cell, Pd.tuple_cell, Pd.tuple_lst, Pd.tuple_tup, Pd.wipeD_one, Pd.wipeD_two, Pd.wipeD_three, Pd.cut_take, Pd.cut_drop, Pd.cut_mid, Pd.app_map, Pd.isT_t, Pd.isT_l, Pd.isT_r,
      Pd.tyD_non, Pd.tyD_bl, Pd.tyD_int, Pd.tyD_str, Pd.tyD_tup, Pd.tyD_lst, Pd.sqD_tup, Pd.sqD_lst, Pd.lsD_lst, Pd.isi_ii, Pd.isi_ib, Pd.isi_bi, Pd.isi_bb, Pd.isi_tt, Pd.isi_ti, Pd.isi_tb, Pd.isi_ts, Pd.isi_tl, Pd.isi_it, Pd.isi_is, Pd.isi_il, Pd.isi_st, Pd.isi_ss, Pd.isi_si, Pd.isi_sb, Pd.isi_sl, Pd.isi_li, Pd.isi_lb, Pd.isi_ls, Pd.isi_lt, Pd.isi_ll, Pd.isi_ni, Pd.isi_nb, Pd.isi_ns, Pd.isi_nt, Pd.isi_nl, Pd.isi_bt, Pd.isi_bs, Pd.isi_bl,
      Pd.add_int, Pd.add_tup, Pd.add_lst, Pd.i_int, Pd.b_int, Pd.mul_int, Pd.none_non, Pd.ix_tup, Pd.ix_lst, Pd.sl_tup, Pd.sl_lst, Pd.len_tup, Pd.len_lst, Pd.rdEq_intf, Pd.rdEq_intt, Pd.mkL_f, Pd.mkL_t, Pd.d_int, Pd.d_nat, Pd.d_bool, Pd.d_list,
      List.map_cons, List.map_nil, List.cons_append, List.nil_append, List.replicate_zero, List.replicate_succ, List.append_nil, List.getElem?_cons_zero, List.getElem?_cons_succ, List.set_cons_zero, List.set_cons_succ, List.length_cons, List.length_nil, List.length_map,
      Option.some.injEq, Pd.D.bl.injEq, Pd.D.int.injEq, Pd.D.tup.injEq, Pd.D.lst.injEq, Pd.D.ref.injEq, Pd.D.str.injEq, List.cons.injEq, exists_eq_left, exists_eq_left', exists_and_left, and_true, true_and, and_assoc, if_true, if_false, Bool.not_true, Bool.not_false, decide_eq_true_eq, Bool.false_eq_true, ↓reduceIte, reduceCtorEq, exists_const])
  | `(tactic| simp_arith [$ls,*]) => `(tactic| try simp only [Pd.wsSeq, Pd.wsNil, Pd.wsRet, Pd.wsRetN, Pd.wsIf, Pd.wsAsg, Pd.wsPar, Pd.wsExpr, Pd.wsBrk, Pd.wsCnt, Pd.wsNever, Pd.wVar, Pd.wC, Pd.wNil, Pd.wCons, Pd.wTup, Pd.wLst, Pd.wtAnd, Pd.wtOr, Pd.wtNot, Pd.wtYes, Pd.wAndV, Pd.wOrV, Pd.wNotV, Pd.wIf, Pd.wNeg,
      Pd.w2, Pd.w3, Pd.wTest, Pd.wNoPart, Pd.wPart, Pd.wSl, Pd.wCall, Pd.wFn, Pd.wIsi, Pd.wMeth, Pd.wApp, Pd.wIndex, Pd.wListRg, Pd.wTupRg, Pd.wRg1, Pd.wRg2, Pd.wRevT, Pd.wDict0, Pd.wLenSet, Pd.wgNm, Pd.wgSub, Pd.wgNil, Pd.wgCons, Pd.wgTup,
      Pd.wsFor, Pd.wComp, Pd.wiSeq, Pd.wiRng1, Pd.wiRng2, Pd.wiEnum, Pd.wiZip, Pd.wiRev, Pd.bind_nm, Pd.bind_two, Pd.bind_tp2, Pd.bind_tp3, Pd.map_inj, Pd.mapI_inj, Int.natCast_inj, Pd.at_nat, List.getElem?_map, Option.map_some, Pd.cell_get, Pd.ls_cell, Pd.sq_cell, Pd.ix_cell, Pd.len_cell, Pd.tuple_cell, Pd.tuple_lst, Pd.tuple_tup, Pd.wipeD_one, Pd.wipeD_two, Pd.wipeD_three, Pd.cut_take, Pd.cut_drop, Pd.cut_mid, Pd.app_map, Pd.isT_t, Pd.isT_l, Pd.isT_r,
      Pd.tyD_non, Pd.tyD_bl, Pd.tyD_int, Pd.tyD_str, Pd.tyD_tup, Pd.tyD_lst, Pd.sqD_tup, Pd.sqD_lst, Pd.lsD_lst, Pd.isi_ii, Pd.isi_ib, Pd.isi_bi, Pd.isi_bb, Pd.isi_tt, Pd.isi_ti, Pd.isi_tb, Pd.isi_ts, Pd.isi_tl, Pd.isi_it, Pd.isi_is, Pd.isi_il, Pd.isi_st, Pd.isi_ss, Pd.isi_si, Pd.isi_sb, Pd.isi_sl, Pd.isi_li, Pd.isi_lb, Pd.isi_ls, Pd.isi_lt, Pd.isi_ll, Pd.isi_ni, Pd.isi_nb, Pd.isi_ns, Pd.isi_nt, Pd.isi_nl, Pd.isi_bt, Pd.isi_bs, Pd.isi_bl,
      Pd.add_int, Pd.add_tup, Pd.add_lst, Pd.i_int, Pd.b_int, Pd.mul_int, Pd.none_non, Pd.ix_tup, Pd.ix_lst, Pd.sl_tup, Pd.sl_lst, Pd.len_tup, Pd.len_lst, Pd.rdEq_intf, Pd.rdEq_intt, Pd.mkL_f, Pd.mkL_t, Pd.d_int, Pd.d_nat, Pd.d_bool, Pd.d_list,
      List.map_cons, List.map_nil, List.cons_append, List.nil_append, List.replicate_zero, List.replicate_succ, List.append_nil, List.getElem?_cons_zero, List.getElem?_cons_succ, List.set_cons_zero, List.set_cons_succ, List.length_cons, List.length_nil, List.length_map,
      Option.some.injEq, Pd.D.bl.injEq, Pd.D.int.injEq, Pd.D.tup.injEq, Pd.D.lst.injEq, Pd.D.ref.injEq, Pd.D.str.injEq, List.cons.injEq, exists_eq_left, exists_eq_left', exists_and_left, and_true, true_and, and_assoc, if_true, if_false, Bool.not_true, Bool.not_false, decide_eq_true_eq, Bool.false_eq_true, ↓reduceIte, reduceCtorEq, exists_const, $ls,*])
theorem at_int {γ : Type} {xs : List γ} : atI xs 0 = xs[0]? := by have := at_nat (xs := xs) (n := 0); exact this
theorem at_int1 {γ : Type} {xs : List γ} : atI xs 1 = xs[1]? := by have := at_nat (xs := xs) (n := 1); exact this
theorem list_scr {m : Bool} {ns : List Int} {h : DH} {Q : D → DH → Prop} : rdList m [.scr ns] h Q = mkL m (ns.map .int) h Q := by
  apply propext
  constructor
  · rintro ⟨x, e, q⟩; cases e; exact q
  · intro q; exact ⟨_, rfl, q⟩
theorem abs_int {i : Int} {h : DH} {Q : D → DH → Prop} : rdAbs [.int i] h Q = Q (.int (if i < 0 then -i else i)) h := by
  apply propext
  constructor
  · rintro ⟨x, e, q⟩; cases e; exact q
  · intro q; exact ⟨_, rfl, q⟩
theorem int_int {i : Int} {h : DH} {Q : D → DH → Prop} : rdInt [.int i] h Q = Q (.int i) h := by
  apply propext
  constructor
  · rintro ⟨x, e, q⟩; cases e; exact q
  · intro q; exact ⟨_, rfl, q⟩
theorem first_of (ns : List Int) : ∃ i, (ns.map D.int ++ [D.int 0])[0]? = some (.int i) := by
  cases ns with
  | nil => exact ⟨0, rfl⟩
  | cons n r => exact ⟨n, rfl⟩
theorem vc__law_cup : VC w__law_cup 1 1 sp__law_cup := by
  rintro ds h Q hl ⟨ns, rfl, hn, rfl, q⟩
  obtain ⟨i, hi⟩ := first_of ns
  simp_arith [w__law_cup, list_scr, abs_int, int_int, at_int, hi]
  refine ⟨lsz (by omega), lsz (by omega), ⟨by decide, by decide, by decide⟩, ?_⟩
  have h0 : 0 ≤ (if i < 0 then -i else i) := by split <;> omega
  generalize (if i < 0 then -i else i) = c at h0
  have key : ∀ a : Int, 0 ≤ a → CMul c 1091 ∧ (0 : Int) < 1048576 ∧ 0 + 1 + 1 ≤ sizeLine ∧ retD [] Q (.ref ([] : DH).length) ([] ++ [.lst [.int a, .int ((c * 1091 + 94033) % 1048576)]]) := fun a ha =>
    ⟨.inr ⟨by omega, by omega⟩, by omega, lsz (by omega), ret_now (q _ ⟨a, _, ha, by omega, rfl⟩)⟩
  split
  · exact ⟨⟨by omega, by omega⟩, key _ (Int.ediv_nonneg h0 (by omega))⟩
  · exact key 0 (by omega)
theorem cup_at {a b : Int} : ([Ob.lst [.int a, .int b]] : DH)[0]? = some (.lst [.int a, .int b]) := rfl
theorem cup_ix {a b : Int} {y : D} {Q : D → DH → Prop} : rdIx (.ref 0) y [.lst [.int a, .int b]] Q = ∃ i d, y = .int i ∧ atI [D.int a, D.int b] i = some d ∧ Q d [.lst [.int a, .int b]] := ix_ref cup_at
theorem cup_set0 {a b v : Int} {K : DH → Prop} (q : K [.lst [.int v, .int b]]) : setD (.ref 0) (.int 0) (.int v) [.lst [.int a, .int b]] K := set_l (j := 0) cup_at rfl q
theorem cup_set1 {a b v : Int} {K : DH → Prop} (q : K [.lst [.int a, .int v]]) : setD (.ref 0) (.int 1) (.int v) [.lst [.int a, .int b]] K := set_l (j := 1) cup_at rfl q
theorem emod_nat {x : Int} {m : Nat} (hm : 0 < m) : ∃ r : Nat, r < m ∧ x % (m : Int) = r := by
  have h1 := Int.emod_nonneg x (b := (m : Int)) (by omega)
  have h2 := Int.emod_lt_of_pos x (b := (m : Int)) (by omega)
  exact ⟨(x % (m : Int)).toNat, by omega, by omega⟩
theorem vc__law_roll : VC w__law_roll 2 1 sp__law_roll := by
  rintro ds h Q hl ⟨m, rfl, h1, h2, ⟨a, b, ha, hb, rfl⟩, q⟩
  simp_arith [w__law_roll, int_int, at_int, at_int1, cup_ix]
  split
  · obtain ⟨r, hr, e⟩ := emod_nat (x := a) h1
    refine ⟨by omega, ⟨by omega, by omega⟩, cup_set0 (ret_now ?_)⟩
    rw [e]
    exact q r _ hr ⟨_, _, Int.ediv_nonneg ha (by omega), hb, rfl⟩
  · refine ⟨.inr ⟨by omega, by omega⟩, by omega, cup_set1 ?_⟩
    simp_arith [int_int, at_int1, cup_ix]
    obtain ⟨r, hr, e⟩ := emod_nat (x := (b * 21269 + 45433) % 1048576 / 137) h1
    refine ⟨⟨by omega, by omega⟩, by omega, ret_now ?_⟩
    rw [e]
    exact q r _ hr ⟨_, _, ha, by omega, rfl⟩
theorem vc__law_some : VC w__law_some 2 0 sp__law_some := by
  rintro ds h Q hl ⟨xs, rfl, h1, h2, hc, q⟩
  simp_arith [w__law_some, sp__law_roll]
  refine ⟨h1, by omega, hc, fun r h' hr hc' => ?_⟩
  have e := List.getElem?_eq_getElem hr
  simp_arith [e]
  exact ret_now (q _ h' (List.mem_of_getElem? e) hc')
theorem vc__law_sort : VC w__law_sort 1 0 sp__law_sort := by
  rintro ds h Q hl ⟨x, rfl, ⟨k, hk⟩, q⟩
  cases x with
  | ref i => simp [D.pl] at hk
  | scr i => simp [D.pl] at hk
  | _ => simp_arith [w__law_sort]; exact ret_now q
end Lw

namespace Lw
open PySem PySem.Spec PyProof.Rows L2 Pd
open Py (d)
open Lean in
local macro_rules
  | `(tactic| simp_arith) => `(tactic| try simp only [Pd.wsSeq, Pd.wsNil, Pd.wsRet, Pd.wsRetN, Pd.wsIf, Pd.wsAsg, Pd.wsPar, Pd.wsExpr, Pd.wsBrk, Pd.wsCnt, Pd.wsNever, Pd.wVar, Pd.wC, Pd.wNil, Pd.wCons, Pd.wTup, Pd.wLst, Pd.wtAnd, Pd.wtOr, Pd.wtNot, Pd.wtYes, Pd.wAndV, Pd.wOrV, Pd.wNotV, Pd.wIf, Pd.wNeg,
      Pd.w2, Pd.w3, Pd.wTest, Pd.wNoPart, Pd.wPart, Pd.wSl, Pd.wCall, Pd.wFn, Pd.wIsi, Pd.wMeth, Pd.wApp, Pd.wIndex, Pd.wListRg, Pd.wTupRg, Pd.wRg1, Pd.wRg2, Pd.wRevT, Pd.wDict0, Pd.wLenSet, Pd.wgNm, Pd.wgSub, Pd.wgNil, Pd.wgCons, Pd.wgTup,
      Pd.wsFor, Pd.wComp, Pd.wiSeq, Pd.wiRng1, Pd.wiRng2, Pd.wiEnum, Pd.wiZip, Pd.wiRev, Pd.bind_nm, Pd.bind_two, Pd.bind_tp2, Pd.bind_tp3, Pd.map_inj, Pd.mapI_inj, Int.natCast_inj, Pd.at_nat, List.getElem?_map, Option.map_some, Pd.cell_get, Pd.ls_cell, Pd.sq_cell, Pd.ix_cell, Pd.len_cell, Pd.tuple_cell, Pd.tuple_lst, Pd.tuple_tup, Pd.wipeD_one, Pd.wipeD_two, Pd.wipeD_three, Pd.cut_take, Pd.cut_drop, Pd.cut_mid, Pd.app_map, Pd.isT_t, Pd.isT_l, Pd.isT_r,
      Pd.tyD_non, Pd.tyD_bl, Pd.tyD_int, Pd.tyD_str, Pd.tyD_tup, Pd.tyD_lst, Pd.sqD_tup, Pd.sqD_lst, Pd.lsD_lst, Pd.isi_ii, Pd.isi_ib, Pd.isi_bi, Pd.isi_bb, Pd.isi_tt, Pd.isi_ti, Pd.isi_tb, Pd.isi_ts, Pd.isi_tl, Pd.isi_it, Pd.isi_is, Pd.isi_il, Pd.isi_st, Pd.isi_ss, Pd.isi_si, Pd.isi_sb, Pd.isi_sl, Pd.isi_li, Pd.isi_lb, Pd.isi_ls, Pd.isi_lt, Pd.isi_ll, Pd.isi_ni, Pd.isi_nb, Pd.isi_ns, Pd.isi_nt, Pd.isi_nl, Pd.isi_bt, Pd.isi_bs, Pd.isi_bl,
      Pd.add_int, Pd.add_tup, Pd.add_lst, Pd.i_int, Pd.b_int, Pd.mul_int, Pd.none_non, Pd.ix_tup, Pd.ix_lst, Pd.sl_tup, Pd.sl_lst, Pd.len_tup, Pd.len_lst, Pd.rdEq_intf, Pd.rdEq_intt, Pd.mkL_f, Pd.mkL_t, Pd.d_int, Pd.d_nat, Pd.d_bool, Pd.d_list,
      List.map_cons, List.map_nil, List.cons_append, List.nil_append, List.replicate_zero, List.replicate_succ, List.append_nil, List.getElem?_cons_zero, List.getElem?_cons_succ, List.set_cons_zero, List.set_cons_succ, List.length_cons, List.length_nil, List.length_map,
      Option.some.injEq, Pd.D.bl.injEq, Pd.D.int.injEq, Pd.D.tup.injEq, Pd.D.lst.injEq, Pd.D.ref.injEq, Pd.D.str.injEq, List.cons.injEq, exists_eq_left, exists_eq_left', exists_and_left, and_true, true_and, and_assoc, if_true, if_false, Bool.not_true, Bool.not_false, decide_eq_true_eq, Bool.false_eq_true, ↓reduceIte, reduceCtorEq, exists_const])
  | `(tactic| simp_arith [$ls,*]) => `(tactic| try simp only [Pd.wsSeq, Pd.wsNil, Pd.wsRet, Pd.wsRetN, Pd.wsIf, Pd.wsAsg, Pd.wsPar, Pd.wsExpr, Pd.wsBrk, Pd.wsCnt, Pd.wsNever, Pd.wVar, Pd.wC, Pd.wNil, Pd.wCons, Pd.wTup, Pd.wLst, Pd.wtAnd, Pd.wtOr, Pd.wtNot, Pd.wtYes, Pd.wAndV, Pd.wOrV, Pd.wNotV, Pd.wIf, Pd.wNeg,
      Pd.w2, Pd.w3, Pd.wTest, Pd.wNoPart, Pd.wPart, Pd.wSl, Pd.wCall, Pd.wFn, Pd.wIsi, Pd.wMeth, Pd.wApp, Pd.wIndex, Pd.wListRg, Pd.wTupRg, Pd.wRg1, Pd.wRg2, Pd.wRevT, Pd.wDict0, Pd.wLenSet, Pd.wgNm, Pd.wgSub, Pd.wgNil, Pd.wgCons, Pd.wgTup,
      Pd.wsFor, Pd.wComp, Pd.wiSeq, Pd.wiRng1, Pd.wiRng2, Pd.wiEnum, Pd.wiZip, Pd.wiRev, Pd.bind_nm, Pd.bind_two, Pd.bind_tp2, Pd.bind_tp3, Pd.map_inj, Pd.mapI_inj, Int.natCast_inj, Pd.at_nat, List.getElem?_map, Option.map_some, Pd.cell_get, Pd.ls_cell, Pd.sq_cell, Pd.ix_cell, Pd.len_cell, Pd.tuple_cell, Pd.tuple_lst, Pd.tuple_tup, Pd.wipeD_one, Pd.wipeD_two, Pd.wipeD_three, Pd.cut_take, Pd.cut_drop, Pd.cut_mid, Pd.app_map, Pd.isT_t, Pd.isT_l, Pd.isT_r,
      Pd.tyD_non, Pd.tyD_bl, Pd.tyD_int, Pd.tyD_str, Pd.tyD_tup, Pd.tyD_lst, Pd.sqD_tup, Pd.sqD_lst, Pd.lsD_lst, Pd.isi_ii, Pd.isi_ib, Pd.isi_bi, Pd.isi_bb, Pd.isi_tt, Pd.isi_ti, Pd.isi_tb, Pd.isi_ts, Pd.isi_tl, Pd.isi_it, Pd.isi_is, Pd.isi_il, Pd.isi_st, Pd.isi_ss, Pd.isi_si, Pd.isi_sb, Pd.isi_sl, Pd.isi_li, Pd.isi_lb, Pd.isi_ls, Pd.isi_lt, Pd.isi_ll, Pd.isi_ni, Pd.isi_nb, Pd.isi_ns, Pd.isi_nt, Pd.isi_nl, Pd.isi_bt, Pd.isi_bs, Pd.isi_bl,
      Pd.add_int, Pd.add_tup, Pd.add_lst, Pd.i_int, Pd.b_int, Pd.mul_int, Pd.none_non, Pd.ix_tup, Pd.ix_lst, Pd.sl_tup, Pd.sl_lst, Pd.len_tup, Pd.len_lst, Pd.rdEq_intf, Pd.rdEq_intt, Pd.mkL_f, Pd.mkL_t, Pd.d_int, Pd.d_nat, Pd.d_bool, Pd.d_list,
      List.map_cons, List.map_nil, List.cons_append, List.nil_append, List.replicate_zero, List.replicate_succ, List.append_nil, List.getElem?_cons_zero, List.getElem?_cons_succ, List.set_cons_zero, List.set_cons_succ, List.length_cons, List.length_nil, List.length_map,
      Option.some.injEq, Pd.D.bl.injEq, Pd.D.int.injEq, Pd.D.tup.injEq, Pd.D.lst.injEq, Pd.D.ref.injEq, Pd.D.str.injEq, List.cons.injEq, exists_eq_left, exists_eq_left', exists_and_left, and_true, true_and, and_assoc, if_true, if_false, Bool.not_true, Bool.not_false, decide_eq_true_eq, Bool.false_eq_true, ↓reduceIte, reduceCtorEq, exists_const, $ls,*])
theorem in_tup {α : Type} [DecidableEq α] [Py α] {x : α} {l : List α} {h : DH} {Q : D → DH → Prop} (hk : Py.k α < 64) (q : Q (.bl (decide (x ∈ l))) h) : rdIn false (d x) (.tup (l.map d)) h Q := by
  have e : dcD (.tup (l.map d)) h = none := rfl
  have e2 : sqD (.tup (l.map d)) h = some (l.map d) := rfl
  unfold rdIn
  rw [e, e2]
  refine ⟨by rw [rsv_d]; exact okD_of (Py.pl x) (Nat.le_of_lt hk), okD_mapL hk, ?_⟩
  have : ((l.map d).any fun z => PyData.eqv z.py (rsv (d x) h).py) = decide (x ∈ l) := by
    rw [rsv_d, Bool.eq_iff_iff, List.any_eq_true, decide_eq_true_eq]
    constructor
    · rintro ⟨z, hz, e⟩
      obtain ⟨y, hy, rfl⟩ := List.mem_map.mp hz
      rw [Py.eq, decide_eq_true_eq] at e
      rw [← e]; exact hy
    · intro hx
      exact ⟨d x, List.mem_map.mpr ⟨x, hx, rfl⟩, by rw [Py.eq]; exact decide_eq_true rfl⟩
  rw [this]
  exact q
theorem in_lst {α : Type} [DecidableEq α] [Py α] {x : α} {l : List α} {h : DH} {Q : D → DH → Prop} (hk : Py.k α < 64) (q : Q (.bl (decide (x ∈ l))) h) : rdIn false (d x) (.lst (l.map d)) h Q := by
  have e : dcD (.lst (l.map d)) h = none := rfl
  have e2 : sqD (.lst (l.map d)) h = some (l.map d) := rfl
  unfold rdIn
  rw [e, e2]
  refine ⟨by rw [rsv_d]; exact okD_of (Py.pl x) (Nat.le_of_lt hk), okD_mapL hk, ?_⟩
  have : ((l.map d).any fun z => PyData.eqv z.py (rsv (d x) h).py) = decide (x ∈ l) := by
    rw [rsv_d, Bool.eq_iff_iff, List.any_eq_true, decide_eq_true_eq]
    constructor
    · rintro ⟨z, hz, e⟩
      obtain ⟨y, hy, rfl⟩ := List.mem_map.mp hz
      rw [Py.eq, decide_eq_true_eq] at e
      rw [← e]; exact hy
    · intro hx
      exact ⟨d x, List.mem_map.mpr ⟨x, hx, rfl⟩, by rw [Py.eq]; exact decide_eq_true rfl⟩
  rw [this]
  exact q
theorem in45 {i : Int} {h : DH} {Q : D → DH → Prop} (q : Q (.bl (decide (i ∈ [(4 : Int), 5]))) h) : rdIn false (.int i) (.tup [.int 4, .int 5]) h Q := in_tup (x := i) (l := [(4 : Int), 5]) (by decide) q
theorem eq_self {x : D} {k : Nat} (hp : x.pl k = true) (hk : k ≤ 64) (hsc : PyData.eqv x.py x.py = true) {h : DH} {Q : D → DH → Prop} (hr : rsv x h = x) (q : Q (.bl true) h) : rdEq false x x h Q := by
  refine ⟨by rw [hr]; exact okD_of hp hk, by rw [hr]; exact okD_of hp hk, ?_⟩
  rw [hr, hsc]; exact q
theorem zip_self (xs : List D) : zipItems xs xs = xs.map fun y => Item.two y y := by
  unfold zipItems
  induction xs with
  | nil => rfl
  | cons x r ih => rw [List.zipWith_cons_cons, List.map_cons, ih]
theorem like_gen (s : SpD) {x : D} {k : Nat} (hp : x.pl k = true) (hk : k ≤ 64) (hs : sm x = true) (ch : ∀ y, (∃ xs, (x = .tup xs ∨ x = .lst xs) ∧ y ∈ xs) → ∀ h Q, Q (.bl true) h → s [y, y] h Q) {h : DH} {Q : D → DH → Prop} (q : Q (.bl true) h) :
    w__law_like s ⟨fun _ h' => retD h Q .non h', fun d h' => retD h Q d h', fun _ _ => False, fun _ _ => False⟩ ([x, x].map some ++ List.replicate 3 none) h := by
  have main : ∀ xs : List D, (x = .tup xs ∨ x = .lst xs) → xs.length ≤ 1048576 → (zipItems xs xs).length ≤ sizeLine ∧ ∀ (env : Pd.Env) (chk : DH → Prop), chk h → env.length = 5 → compD chk (fun it h2 k => ∃ env1, bindT (Tg.tp [3, 4]) it env = some env1 ∧ ∃ d, env1[3]? = some (some d) ∧ ∃ d_1, env1[4]? = some (some d_1) ∧ s [d, d_1] h2 fun d h' => ∃ b, d = D.bl b ∧ if (!b) = true then k (some (D.int 1)) h' else k none h')
      (zipItems xs xs) [] h fun acc h5 => 0 ≤ sizeLine ∧ rdEq false (D.lst acc) (D.lst []) h5 fun d h' => retD h Q d h' := by
    intro xs hx hl
    refine ⟨by unfold zipItems; rw [List.length_zipWith, Nat.min_self]; exact lsz hl, fun env chk hc he => ?_⟩
    have ez := zip_self xs
    rw [ez]
    refine comp_if hc (p := fun _ => false) (f := fun _ => D.int 1) (fun y hy K hK => ?_) ?_
    · obtain ⟨a, b, c, e, f, rfl⟩ : ∃ a b c e f, env = [a, b, c, e, f] := by
        match env, he with
        | [a, b, c, e, f], _ => exact ⟨a, b, c, e, f, rfl⟩
      simp_arith
      refine ch y ⟨xs, hx, hy⟩ _ _ ?_
      simp_arith
      exact hK
    · rw [show xs.filter (fun _ => false) = [] from List.filter_eq_nil_iff.mpr fun _ _ => Bool.false_ne_true]
      exact ⟨Nat.zero_le _, eq_lst (a := ([] : List Int)) (b := []) (by decide) (ret_now q)⟩
  cases x with
  | ref i => simp [D.pl] at hp
  | scr i => simp [D.pl] at hp
  | tup xs =>
    have hs' : decide (xs.length ≤ 1048576) = true ∧ sms xs = true := Bool.and_eq_true_iff.mp (by simpa [sm] using hs)
    obtain ⟨m1, m2⟩ := main xs (.inl rfl) (of_decide_eq_true hs'.1)
    simp_arith [w__law_like, sp__law_sort]
    refine ⟨⟨k, hp⟩, ⟨k, hp⟩, ?_⟩
    rw [if_neg (by simp), if_neg (by simp [srt])]
    refine ⟨lsz (by omega), in45 ⟨true, rfl, ?_⟩⟩
    rw [if_pos rfl]
    simp_arith
    exact ⟨m1, m2 _ _ trivial rfl⟩
  | lst xs =>
    have hs' : decide (xs.length ≤ 1048576) = true ∧ sms xs = true := Bool.and_eq_true_iff.mp (by simpa [sm] using hs)
    obtain ⟨m1, m2⟩ := main xs (.inr rfl) (of_decide_eq_true hs'.1)
    simp_arith [w__law_like, sp__law_sort]
    refine ⟨⟨k, hp⟩, ⟨k, hp⟩, ?_⟩
    rw [if_neg (by simp), if_neg (by simp [srt])]
    refine ⟨lsz (by omega), in45 ⟨true, rfl, ?_⟩⟩
    rw [if_pos rfl]
    simp_arith
    exact ⟨m1, m2 _ _ trivial rfl⟩
  | _ =>
    simp_arith [w__law_like, sp__law_sort]
    refine ⟨⟨k, hp⟩, ⟨k, hp⟩, ?_⟩
    rw [if_neg (by simp), if_neg (by simp [srt])]
    refine ⟨lsz (by omega), in45 ⟨false, by simp [srt], ?_⟩⟩
    rw [if_neg (by simp)]
    first
      | exact eq_self hp hk (by simp [D.py, PyData.eqv]) rfl (ret_now q)
      | exact ret_now (by simpa using q)
theorem vc_like0 (s : SpD) : VC (w__law_like s) 2 3 (sp_like 0) := by
  rintro ds h Q hl ⟨x, rfl, hp, hs, q⟩
  refine like_gen s hp (by omega) hs (fun y ⟨xs, hx, hy⟩ => ?_) q
  rcases hx with rfl | rfl <;> simp [D.pl] at hp
theorem sms_all : ∀ {xs : List D}, sms xs = true → ∀ x ∈ xs, sm x = true
  | y :: ys, h, x, hx => by
    have h' := Bool.and_eq_true_iff.mp (show (sm y && sms ys) = true by simpa [sms] using h)
    rcases List.mem_cons.mp hx with e | hx
    · rw [e]; exact h'.1
    · exact sms_all h'.2 x hx
theorem vc_like1 (k : Nat) (hk : k < 64) : VC (w__law_like (sp_like k)) 2 3 (sp_like (k + 1)) := by
  rintro ds h Q hl ⟨x, rfl, hp, hs, q⟩
  refine like_gen (sp_like k) hp hk hs (fun y ⟨xs, hx, hy⟩ h Q q => ?_) q
  have h2 : y.pl k = true ∧ sm y = true := by
    rcases hx with rfl | rfl
    · have hs' := Bool.and_eq_true_iff.mp (show (decide (xs.length ≤ 1048576) && sms xs) = true by simpa [sm] using hs)
      exact ⟨pls_all.mp (by simpa [D.pl] using hp) y hy, sms_all hs'.2 y hy⟩
    · have hs' := Bool.and_eq_true_iff.mp (show (decide (xs.length ≤ 1048576) && sms xs) = true by simpa [sm] using hs)
      exact ⟨pls_all.mp (by simpa [D.pl] using hp) y hy, sms_all hs'.2 y hy⟩
  exact ⟨y, rfl, h2.1, h2.2, q⟩
end Lw

namespace Lw
open PySem PySem.Spec PyProof.Rows L2 Pd
open Py (d)
open Lean in
local macro_rules
  | `(tactic| simp_arith) => `(tactic| try simp only [Pd.wsSeq, Pd.wsNil, Pd.wsRet, Pd.wsRetN, Pd.wsIf, Pd.wsAsg, Pd.wsPar, Pd.wsExpr, Pd.wsBrk, Pd.wsCnt, Pd.wsNever, Pd.wVar, Pd.wC, Pd.wNil, Pd.wCons, Pd.wTup, Pd.wLst, Pd.wtAnd, Pd.wtOr, Pd.wtNot, Pd.wtYes, Pd.wAndV, Pd.wOrV, Pd.wNotV, Pd.wIf, Pd.wNeg,
      Pd.w2, Pd.w3, Pd.wTest, Pd.wNoPart, Pd.wPart, Pd.wSl, Pd.wCall, Pd.wFn, Pd.wIsi, Pd.wMeth, Pd.wApp, Pd.wIndex, Pd.wListRg, Pd.wTupRg, Pd.wRg1, Pd.wRg2, Pd.wRevT, Pd.wDict0, Pd.wLenSet, Pd.wgNm, Pd.wgSub, Pd.wgNil, Pd.wgCons, Pd.wgTup,
      Pd.wsFor, Pd.wComp, Pd.wiSeq, Pd.wiRng1, Pd.wiRng2, Pd.wiEnum, Pd.wiZip, Pd.wiRev, Pd.bind_nm, Pd.bind_two, Pd.bind_tp2, Pd.bind_tp3, Pd.map_inj, Pd.mapI_inj, Int.natCast_inj, Pd.at_nat, List.getElem?_map, Option.map_some, Pd.cell_get, Pd.ls_cell, Pd.sq_cell, Pd.ix_cell, Pd.len_cell, Pd.tuple_cell, Pd.tuple_lst, Pd.tuple_tup, Pd.wipeD_one, Pd.wipeD_two, Pd.wipeD_three, Pd.cut_take, Pd.cut_drop, Pd.cut_mid, Pd.app_map, Pd.isT_t, Pd.isT_l, Pd.isT_r,
      Pd.tyD_non, Pd.tyD_bl, Pd.tyD_int, Pd.tyD_str, Pd.tyD_tup, Pd.tyD_lst, Pd.sqD_tup, Pd.sqD_lst, Pd.lsD_lst, Pd.isi_ii, Pd.isi_ib, Pd.isi_bi, Pd.isi_bb, Pd.isi_tt, Pd.isi_ti, Pd.isi_tb, Pd.isi_ts, Pd.isi_tl, Pd.isi_it, Pd.isi_is, Pd.isi_il, Pd.isi_st, Pd.isi_ss, Pd.isi_si, Pd.isi_sb, Pd.isi_sl, Pd.isi_li, Pd.isi_lb, Pd.isi_ls, Pd.isi_lt, Pd.isi_ll, Pd.isi_ni, Pd.isi_nb, Pd.isi_ns, Pd.isi_nt, Pd.isi_nl, Pd.isi_bt, Pd.isi_bs, Pd.isi_bl,
      Pd.add_int, Pd.add_tup, Pd.add_lst, Pd.i_int, Pd.b_int, Pd.mul_int, Pd.none_non, Pd.ix_tup, Pd.ix_lst, Pd.sl_tup, Pd.sl_lst, Pd.len_tup, Pd.len_lst, Pd.rdEq_intf, Pd.rdEq_intt, Pd.mkL_f, Pd.mkL_t, Pd.d_int, Pd.d_nat, Pd.d_bool, Pd.d_list,
      List.map_cons, List.map_nil, List.cons_append, List.nil_append, List.replicate_zero, List.replicate_succ, List.append_nil, List.getElem?_cons_zero, List.getElem?_cons_succ, List.set_cons_zero, List.set_cons_succ, List.length_cons, List.length_nil, List.length_map,
      Option.some.injEq, Pd.D.bl.injEq, Pd.D.int.injEq, Pd.D.tup.injEq, Pd.D.lst.injEq, Pd.D.ref.injEq, Pd.D.str.injEq, List.cons.injEq, exists_eq_left, exists_eq_left', exists_and_left, and_true, true_and, and_assoc, if_true, if_false, Bool.not_true, Bool.not_false, decide_eq_true_eq, Bool.false_eq_true, ↓reduceIte, reduceCtorEq, exists_const])
  | `(tactic| simp_arith [$ls,*]) => `(tactic| try simp only [Pd.wsSeq, Pd.wsNil, Pd.wsRet, Pd.wsRetN, Pd.wsIf, Pd.wsAsg, Pd.wsPar, Pd.wsExpr, Pd.wsBrk, Pd.wsCnt, Pd.wsNever, Pd.wVar, Pd.wC, Pd.wNil, Pd.wCons, Pd.wTup, Pd.wLst, Pd.wtAnd, Pd.wtOr, Pd.wtNot, Pd.wtYes, Pd.wAndV, Pd.wOrV, Pd.wNotV, Pd.wIf, Pd.wNeg,
      Pd.w2, Pd.w3, Pd.wTest, Pd.wNoPart, Pd.wPart, Pd.wSl, Pd.wCall, Pd.wFn, Pd.wIsi, Pd.wMeth, Pd.wApp, Pd.wIndex, Pd.wListRg, Pd.wTupRg, Pd.wRg1, Pd.wRg2, Pd.wRevT, Pd.wDict0, Pd.wLenSet, Pd.wgNm, Pd.wgSub, Pd.wgNil, Pd.wgCons, Pd.wgTup,
      Pd.wsFor, Pd.wComp, Pd.wiSeq, Pd.wiRng1, Pd.wiRng2, Pd.wiEnum, Pd.wiZip, Pd.wiRev, Pd.bind_nm, Pd.bind_two, Pd.bind_tp2, Pd.bind_tp3, Pd.map_inj, Pd.mapI_inj, Int.natCast_inj, Pd.at_nat, List.getElem?_map, Option.map_some, Pd.cell_get, Pd.ls_cell, Pd.sq_cell, Pd.ix_cell, Pd.len_cell, Pd.tuple_cell, Pd.tuple_lst, Pd.tuple_tup, Pd.wipeD_one, Pd.wipeD_two, Pd.wipeD_three, Pd.cut_take, Pd.cut_drop, Pd.cut_mid, Pd.app_map, Pd.isT_t, Pd.isT_l, Pd.isT_r,
      Pd.tyD_non, Pd.tyD_bl, Pd.tyD_int, Pd.tyD_str, Pd.tyD_tup, Pd.tyD_lst, Pd.sqD_tup, Pd.sqD_lst, Pd.lsD_lst, Pd.isi_ii, Pd.isi_ib, Pd.isi_bi, Pd.isi_bb, Pd.isi_tt, Pd.isi_ti, Pd.isi_tb, Pd.isi_ts, Pd.isi_tl, Pd.isi_it, Pd.isi_is, Pd.isi_il, Pd.isi_st, Pd.isi_ss, Pd.isi_si, Pd.isi_sb, Pd.isi_sl, Pd.isi_li, Pd.isi_lb, Pd.isi_ls, Pd.isi_lt, Pd.isi_ll, Pd.isi_ni, Pd.isi_nb, Pd.isi_ns, Pd.isi_nt, Pd.isi_nl, Pd.isi_bt, Pd.isi_bs, Pd.isi_bl,
      Pd.add_int, Pd.add_tup, Pd.add_lst, Pd.i_int, Pd.b_int, Pd.mul_int, Pd.none_non, Pd.ix_tup, Pd.ix_lst, Pd.sl_tup, Pd.sl_lst, Pd.len_tup, Pd.len_lst, Pd.rdEq_intf, Pd.rdEq_intt, Pd.mkL_f, Pd.mkL_t, Pd.d_int, Pd.d_nat, Pd.d_bool, Pd.d_list,
      List.map_cons, List.map_nil, List.cons_append, List.nil_append, List.replicate_zero, List.replicate_succ, List.append_nil, List.getElem?_cons_zero, List.getElem?_cons_succ, List.set_cons_zero, List.set_cons_succ, List.length_cons, List.length_nil, List.length_map,
      Option.some.injEq, Pd.D.bl.injEq, Pd.D.int.injEq, Pd.D.tup.injEq, Pd.D.lst.injEq, Pd.D.ref.injEq, Pd.D.str.injEq, List.cons.injEq, exists_eq_left, exists_eq_left', exists_and_left, and_true, true_and, and_assoc, if_true, if_false, Bool.not_true, Bool.not_false, decide_eq_true_eq, Bool.false_eq_true, ↓reduceIte, reduceCtorEq, exists_const, $ls,*])
theorem vc__law_stock : VC w__law_stock 0 1 sp__law_stock := by
  rintro ds h Q hl ⟨rfl, q⟩
  simp_arith [w__law_stock]
  have z : ∀ n : Nat, n ≤ 100 → n ≤ sizeLine := fun n hn => lsz (by omega)
  repeat' first
    | exact ret_now q
    | refine ⟨z _ (by decide), ?_⟩
theorem vc__law_turn : VC w__law_turn 2 4 sp__law_turn := by
  rintro ds h Q hl ⟨n, rfl, h1, hc, q⟩
  simp_arith [w__law_turn]
  refine ⟨rgOk0 (by omega), ?_⟩
  rw [rgD0]
  refine ⟨lsz (by omega), by omega, by omega, ?_⟩
  rw [Int.toNat_natCast]
  refine for_r (fun i env h' => ∃ (left found : List Nat) (x4 x5 : Option D), env = [some (.ref 0), some (.int n), some (.lst (left.map d)), some (.lst (found.map d)), x4, x5] ∧ Cup h' ∧ (found ++ left).Perm (List.range n) ∧ found.length = i) ⟨_, [], _, _, rfl, hc, .refl _, rfl⟩ ?_ ?_
  · rintro i env h' K hi ⟨left, found, x4, x5, rfl, hc, hp, hf⟩ hK
    have hl := hp.length_eq
    rw [List.length_append, List.length_range] at hl
    simp_arith [sp__law_roll]
    refine ⟨by omega, by omega, hc, fun r h'' hr hc' => ?_⟩
    have g := Gt_eq hr
    simp_arith [g, show ((r : Int) + 1) = ((r + 1 : Nat) : Int) by omega]
    refine ⟨lsz (by omega), lsz (by omega), lsz (by rw [List.length_take, List.length_drop]; omega), hK _ _ ⟨left.take r ++ left.drop (r + 1), found ++ [Gt left r], _, _, by rw [List.map_append (l₁ := found)]; rfl, hc', ?_, by rw [List.length_append, hf]; rfl⟩⟩
    refine List.Perm.trans ?_ hp
    rw [List.append_assoc]
    refine List.Perm.append_left found ?_
    have e : left = left.take r ++ Gt left r :: left.drop (r + 1) := by
      conv => lhs; rw [← List.take_append_drop r left, List.drop_eq_getElem_cons hr]
      rw [List.getElem?_eq_getElem hr] at g
      rw [Option.some.inj g]
    have e2 : ([Gt left r] ++ (left.take r ++ left.drop (r + 1))).Perm (left.take r ++ Gt left r :: left.drop (r + 1)) := (List.perm_middle (a := Gt left r) (l₁ := left.take r) (l₂ := left.drop (r + 1))).symm
    rw [← e] at e2
    exact e2
  · rintro env h' ⟨left, found, x4, x5, rfl, hc, hp, hf⟩
    have hl := hp.length_eq
    rw [List.length_append, List.length_range] at hl
    have e : left = [] := List.length_eq_zero_iff.mp (by omega)
    subst e
    rw [List.append_nil] at hp
    simp_arith
    refine ret_now (q found h' ⟨hp.nodup_iff.mpr List.nodup_range, fun x hx => ?_⟩ hf hc)
    rw [hf]
    exact List.mem_range.mp (hp.mem_iff.mp hx)
theorem vc__law_beside : VC w__law_beside 2 5 sp__law_beside := by
  rintro ds h Q hl ⟨A, B, rfl, h1, h2, h3, h4, q⟩
  simp_arith [w__law_beside]
  refine ⟨lsz (by omega), lsz (by omega), comp_l trivial (f := fun r : List Nat => d (r ++ (List.range B.length).map (A.length + ·))) (fun r hr K hK => ?_) ?_⟩
  · have := h3 r hr
    simp_arith [show ((A.length : Int) + (B.length : Int)) = ((A.length + B.length : Nat) : Int) by omega, rgD_nat]
    rw [show A.length + B.length - A.length = B.length by omega]
    exact ⟨rgOk2 (by omega) (by omega), lsz (by rw [List.length_range]; omega), hK⟩
  · simp_arith
    refine ⟨lsz (by omega), comp_l trivial (f := fun r : List Nat => d (List.range A.length ++ r.map (A.length + ·))) (fun r hr K hK => ?_) ?_⟩
    · have := h4 r hr
      simp_arith
      refine ⟨rgOk0 (by omega), lsz (by omega), comp_l trivial (f := fun x : Nat => d (A.length + x)) (fun x hx K hK => ?_) ?_⟩
      · simp_arith
        rw [d_nat, Int.natCast_add] at hK
        exact hK
      · rw [rgD0]
        rw [d_list, List.map_append, List.map_map] at hK
        simp_arith [List.length_range]
        exact ⟨lsz (by omega), hK⟩
    · simp_arith
      refine ⟨lsz (by omega), ret_now ?_⟩
      unfold beside at q
      rw [d_list, List.map_append, List.map_map, List.map_map] at q
      exact q
theorem vc__law_renamed : VC w__law_renamed 2 3 sp__law_renamed := by
  rintro ds h Q hl ⟨R, t, rfl, c, ht, htl, q⟩
  have p2 := c.le
  simp_arith [w__law_renamed]
  refine ⟨by omega, by omega, lsz (by rw [rng0_map, List.length_map, List.length_range]; omega), ?_⟩
  rw [Int.toNat_natCast]
  have idx : ∀ a, a < R.length → t.idxOf a < R.length := fun a ha => by
    have := List.idxOf_lt_length_iff.mpr (ht.mem (k := a) (by omega)); omega
  refine comp_r trivial (f := fun a => d ((List.range R.length).map fun b => Gt t (R2' R (t.idxOf a) (t.idxOf b)))) (fun a ha K hK => ?_) ?_
  · simp_arith
    refine ⟨by omega, by omega, lsz (by rw [rng0_map, List.length_map, List.length_range]; omega), ?_⟩
    rw [Int.toNat_natCast]
    refine comp_r trivial (f := fun b => d (Gt t (R2' R (t.idxOf a) (t.idxOf b)))) (fun b hb K hK => ?_) ?_
    · simp_arith
      refine ⟨⟨_, rfl⟩, index_d (x := a) (by decide) (ht.mem (by omega)) ?_⟩
      simp_arith [Rw_eq (idx a ha)]
      refine ⟨⟨_, rfl⟩, index_d (x := b) (by decide) (ht.mem (by omega)) ?_⟩
      have l1 := c.lt (idx a ha) (idx b hb)
      simp_arith [R2_ix c (idx a ha) (idx b hb), Gt_eq (l := t) (i := R2' R (t.idxOf a) (t.idxOf b)) (by omega)]
      exact hK
    · simp_arith
      rw [d_list, List.map_map] at hK
      exact hK
  · simp_arith
    unfold renamed at q
    rw [d_list, List.map_map] at q
    exact ret_now q
theorem vc__law_all_rows : VC w__law_all_rows 2 5 sp__law_all_rows := vc_all_rows
theorem laid_snoc (R : List (List Nat)) (t w : List Nat) (x : Nat) : laid R t (w ++ [x]) = laid R t w ++ [Gt (tat R t w) x] := by
  induction w generalizing t with
  | nil => rfl
  | cons y w ih => show Gt t y :: laid R _ (w ++ [x]) = _; rw [ih]; rfl
theorem vc__law_laid : VC w__law_laid 2 4 sp__law_laid := by
  rintro ds h Q hl ⟨R, w, rfl, c, hw, hx, q⟩
  have p1 := c.pos
  have p2 := c.le
  simp_arith [w__law_laid]
  refine ⟨rgOk0 (by omega), lsz (by omega), lsz (by omega), ?_⟩
  rw [rgD0]
  refine for_l (fun i env h' => ∃ x4 x5, env = [some (d R), some (d w), some (.lst ((tat R (pl R.length) (w.take i)).map d)), some (.lst ((laid R (pl R.length) (w.take i)).map d)), x4, x5] ∧ h' = h) ⟨_, _, rfl, rfl⟩ ?_ ?_
  · rintro i x env h' K hi he ⟨x4, x5, rfl, rfl⟩ hK
    have hxl := hx x (List.mem_of_getElem? he)
    obtain ⟨ht, htl⟩ := tat_turn c (pl_turn R.length) pl_len (w.take i) fun y hy => hx y (List.mem_of_mem_take hy)
    have e := c.ln hxl
    have hll : (laid R (pl R.length) (w.take i)).length ≤ 60 := by
      rw [← laid_zip, List.length_map, List.length_zip, List.length_take]; omega
    rw [L2.take_next he, tat_snoc, laid_snoc, List.map_append] at hK
    generalize tat R (pl R.length) (w.take i) = tt at ht htl hK
    simp_arith [Gt_eq (l := tt) (i := x) (by omega)]
    refine ⟨lsz (by omega), lsz (by omega), by omega, by omega, lsz (by rw [rng0_map, List.length_map, List.length_range]; omega), ?_⟩
    rw [Int.toNat_natCast]
    refine comp_r trivial (f := fun a => d (Gt tt ((Rw R x).idxOf a))) (fun a ha K hK => ?_) ?_
    · have hm := (c.tr hxl).mem (k := a) (by omega)
      have hi2 := List.idxOf_lt_length_iff.mpr hm
      simp_arith [Rw_eq hxl]
      refine ⟨⟨_, rfl⟩, index_d (x := a) (by decide) hm ?_⟩
      simp_arith [Gt_eq (l := tt) (i := (Rw R x).idxOf a) (by omega)]
      exact hK
    · have e3 : ((List.range R.length).map fun a => (d (Gt tt ((Rw R x).idxOf a)) : D)) = (jn tt (bk (Rw R x))).map d := by
        unfold jn bk
        rw [List.map_map, List.map_map, e]; rfl
      rw [e3]
      simp_arith
      exact hK _ _ ⟨_, _, rfl, rfl⟩
  · rintro env h' ⟨x4, x5, rfl, rfl⟩
    rw [List.take_length]
    simp_arith
    exact ret_now q
end Lw

namespace Lw
open PySem PySem.Spec PyProof.Rows L2 Pd
open Py (d)
open Lean in
local macro_rules
  | `(tactic| simp_arith) => `(tactic| try simp only [Pd.wsSeq, Pd.wsNil, Pd.wsRet, Pd.wsRetN, Pd.wsIf, Pd.wsAsg, Pd.wsPar, Pd.wsExpr, Pd.wsBrk, Pd.wsCnt, Pd.wsNever, Pd.wVar, Pd.wC, Pd.wNil, Pd.wCons, Pd.wTup, Pd.wLst, Pd.wtAnd, Pd.wtOr, Pd.wtNot, Pd.wtYes, Pd.wAndV, Pd.wOrV, Pd.wNotV, Pd.wIf, Pd.wNeg,
      Pd.w2, Pd.w3, Pd.wTest, Pd.wNoPart, Pd.wPart, Pd.wSl, Pd.wCall, Pd.wFn, Pd.wIsi, Pd.wMeth, Pd.wApp, Pd.wIndex, Pd.wListRg, Pd.wTupRg, Pd.wRg1, Pd.wRg2, Pd.wRevT, Pd.wDict0, Pd.wLenSet, Pd.wgNm, Pd.wgSub, Pd.wgNil, Pd.wgCons, Pd.wgTup,
      Pd.wsFor, Pd.wComp, Pd.wiSeq, Pd.wiRng1, Pd.wiRng2, Pd.wiEnum, Pd.wiZip, Pd.wiRev, Pd.bind_nm, Pd.bind_two, Pd.bind_tp2, Pd.bind_tp3, Pd.map_inj, Pd.mapI_inj, Int.natCast_inj, Pd.at_nat, List.getElem?_map, Option.map_some, Pd.cell_get, Pd.ls_cell, Pd.sq_cell, Pd.ix_cell, Pd.len_cell, Pd.tuple_cell, Pd.tuple_lst, Pd.tuple_tup, Pd.wipeD_one, Pd.wipeD_two, Pd.wipeD_three, Pd.cut_take, Pd.cut_drop, Pd.cut_mid, Pd.app_map, Pd.isT_t, Pd.isT_l, Pd.isT_r,
      Pd.tyD_non, Pd.tyD_bl, Pd.tyD_int, Pd.tyD_str, Pd.tyD_tup, Pd.tyD_lst, Pd.sqD_tup, Pd.sqD_lst, Pd.lsD_lst, Pd.isi_ii, Pd.isi_ib, Pd.isi_bi, Pd.isi_bb, Pd.isi_tt, Pd.isi_ti, Pd.isi_tb, Pd.isi_ts, Pd.isi_tl, Pd.isi_it, Pd.isi_is, Pd.isi_il, Pd.isi_st, Pd.isi_ss, Pd.isi_si, Pd.isi_sb, Pd.isi_sl, Pd.isi_li, Pd.isi_lb, Pd.isi_ls, Pd.isi_lt, Pd.isi_ll, Pd.isi_ni, Pd.isi_nb, Pd.isi_ns, Pd.isi_nt, Pd.isi_nl, Pd.isi_bt, Pd.isi_bs, Pd.isi_bl,
      Pd.add_int, Pd.add_tup, Pd.add_lst, Pd.i_int, Pd.b_int, Pd.mul_int, Pd.none_non, Pd.ix_tup, Pd.ix_lst, Pd.sl_tup, Pd.sl_lst, Pd.len_tup, Pd.len_lst, Pd.rdEq_intf, Pd.rdEq_intt, Pd.mkL_f, Pd.mkL_t, Pd.d_int, Pd.d_nat, Pd.d_bool, Pd.d_list,
      List.map_cons, List.map_nil, List.cons_append, List.nil_append, List.replicate_zero, List.replicate_succ, List.append_nil, List.getElem?_cons_zero, List.getElem?_cons_succ, List.set_cons_zero, List.set_cons_succ, List.length_cons, List.length_nil, List.length_map,
      Option.some.injEq, Pd.D.bl.injEq, Pd.D.int.injEq, Pd.D.tup.injEq, Pd.D.lst.injEq, Pd.D.ref.injEq, Pd.D.str.injEq, List.cons.injEq, exists_eq_left, exists_eq_left', exists_and_left, and_true, true_and, and_assoc, if_true, if_false, Bool.not_true, Bool.not_false, decide_eq_true_eq, Bool.false_eq_true, ↓reduceIte, reduceCtorEq, exists_const])
  | `(tactic| simp_arith [$ls,*]) => `(tactic| try simp only [Pd.wsSeq, Pd.wsNil, Pd.wsRet, Pd.wsRetN, Pd.wsIf, Pd.wsAsg, Pd.wsPar, Pd.wsExpr, Pd.wsBrk, Pd.wsCnt, Pd.wsNever, Pd.wVar, Pd.wC, Pd.wNil, Pd.wCons, Pd.wTup, Pd.wLst, Pd.wtAnd, Pd.wtOr, Pd.wtNot, Pd.wtYes, Pd.wAndV, Pd.wOrV, Pd.wNotV, Pd.wIf, Pd.wNeg,
      Pd.w2, Pd.w3, Pd.wTest, Pd.wNoPart, Pd.wPart, Pd.wSl, Pd.wCall, Pd.wFn, Pd.wIsi, Pd.wMeth, Pd.wApp, Pd.wIndex, Pd.wListRg, Pd.wTupRg, Pd.wRg1, Pd.wRg2, Pd.wRevT, Pd.wDict0, Pd.wLenSet, Pd.wgNm, Pd.wgSub, Pd.wgNil, Pd.wgCons, Pd.wgTup,
      Pd.wsFor, Pd.wComp, Pd.wiSeq, Pd.wiRng1, Pd.wiRng2, Pd.wiEnum, Pd.wiZip, Pd.wiRev, Pd.bind_nm, Pd.bind_two, Pd.bind_tp2, Pd.bind_tp3, Pd.map_inj, Pd.mapI_inj, Int.natCast_inj, Pd.at_nat, List.getElem?_map, Option.map_some, Pd.cell_get, Pd.ls_cell, Pd.sq_cell, Pd.ix_cell, Pd.len_cell, Pd.tuple_cell, Pd.tuple_lst, Pd.tuple_tup, Pd.wipeD_one, Pd.wipeD_two, Pd.wipeD_three, Pd.cut_take, Pd.cut_drop, Pd.cut_mid, Pd.app_map, Pd.isT_t, Pd.isT_l, Pd.isT_r,
      Pd.tyD_non, Pd.tyD_bl, Pd.tyD_int, Pd.tyD_str, Pd.tyD_tup, Pd.tyD_lst, Pd.sqD_tup, Pd.sqD_lst, Pd.lsD_lst, Pd.isi_ii, Pd.isi_ib, Pd.isi_bi, Pd.isi_bb, Pd.isi_tt, Pd.isi_ti, Pd.isi_tb, Pd.isi_ts, Pd.isi_tl, Pd.isi_it, Pd.isi_is, Pd.isi_il, Pd.isi_st, Pd.isi_ss, Pd.isi_si, Pd.isi_sb, Pd.isi_sl, Pd.isi_li, Pd.isi_lb, Pd.isi_ls, Pd.isi_lt, Pd.isi_ll, Pd.isi_ni, Pd.isi_nb, Pd.isi_ns, Pd.isi_nt, Pd.isi_nl, Pd.isi_bt, Pd.isi_bs, Pd.isi_bl,
      Pd.add_int, Pd.add_tup, Pd.add_lst, Pd.i_int, Pd.b_int, Pd.mul_int, Pd.none_non, Pd.ix_tup, Pd.ix_lst, Pd.sl_tup, Pd.sl_lst, Pd.len_tup, Pd.len_lst, Pd.rdEq_intf, Pd.rdEq_intt, Pd.mkL_f, Pd.mkL_t, Pd.d_int, Pd.d_nat, Pd.d_bool, Pd.d_list,
      List.map_cons, List.map_nil, List.cons_append, List.nil_append, List.replicate_zero, List.replicate_succ, List.append_nil, List.getElem?_cons_zero, List.getElem?_cons_succ, List.set_cons_zero, List.set_cons_succ, List.length_cons, List.length_nil, List.length_map,
      Option.some.injEq, Pd.D.bl.injEq, Pd.D.int.injEq, Pd.D.tup.injEq, Pd.D.lst.injEq, Pd.D.ref.injEq, Pd.D.str.injEq, List.cons.injEq, exists_eq_left, exists_eq_left', exists_and_left, and_true, true_and, and_assoc, if_true, if_false, Bool.not_true, Bool.not_false, decide_eq_true_eq, Bool.false_eq_true, ↓reduceIte, reduceCtorEq, exists_const, $ls,*])
theorem list_lst {m : Bool} {xs : List D} {h : DH} {Q : D → DH → Prop} : rdList m [.lst xs] h Q = mkL m xs h Q := by
  apply propext
  constructor
  · rintro ⟨x, e, q⟩; cases e; exact q
  · intro q; exact ⟨_, rfl, q⟩
theorem list_tup {m : Bool} {xs : List D} {h : DH} {Q : D → DH → Prop} : rdList m [.tup xs] h Q = mkL m xs h Q := by
  apply propext
  constructor
  · rintro ⟨x, e, q⟩; cases e; exact q
  · intro q; exact ⟨_, rfl, q⟩
theorem vc__law_exchanged : VC w__law_exchanged 2 3 sp__law_exchanged := by
  rintro ds h Q hl ⟨l, w, x, rfl, hx, hln, hv, q⟩
  rcases hx with rfl | rfl <;> simp_arith [w__law_exchanged, list_lst, list_tup]
  all_goals
    refine for_l (fun i env h' => ∃ y x3 x4, env = [y, some (.tup (w.map .int)), some (.ref h.length), x3, x4] ∧ h' = h ++ [.lst ((exch (w.take i) l).map d)]) ⟨_, _, _, rfl, rfl⟩ ?_ ?_
    · rintro i v env h' K hi he ⟨y, x3, x4, rfl, rfl⟩ hK
      have hp := hv v (List.mem_of_getElem? he)
      have hl2 : (exch (w.take i) l).length = l.length := exch_len _ _
      rw [L2.take_next he, exch_snoc] at hK
      unfold exch1 at hK
      generalize exch (w.take i) l = m at hK hl2
      have g1 := Gt_eq (l := m) (i := plc v) (by omega)
      have g2 := Gt_eq (l := m) (i := plc v + 1) (by omega)
      have e1 : ((plc v : Int) + 1) = ((plc v + 1 : Nat) : Int) := by omega
      refine ⟨trivial, _, rfl, ?_⟩
      simp_arith
      split
      · rename_i h0
        have ev : v = (plc v : Int) := by unfold plc; rw [if_pos h0]; omega
        generalize plc v = p at *
        subst ev
        simp_arith [e1, g1, g2]
        refine ⟨lsz (by omega), set_cell (by rw [List.length_map]; omega) (set_cell (by rw [List.length_set, List.length_map]; omega) (hK _ _ ⟨_, _, _, rfl, ?_⟩))⟩
        rw [List.map_set, List.map_set]; rfl
      · rename_i h0
        have ev : -1 - v = (plc v : Int) := by unfold plc; rw [if_neg h0]; omega
        rw [ev]
        simp_arith [e1, g1, g2]
        refine ⟨lsz (by omega), set_cell (by rw [List.length_map]; omega) (set_cell (by rw [List.length_set, List.length_map]; omega) (hK _ _ ⟨_, _, _, rfl, ?_⟩))⟩
        rw [List.map_set, List.map_set]; rfl
    · rintro env h' ⟨y, x3, x4, rfl, rfl⟩
      rw [List.take_length]
      simp_arith
      exact ret_cellD q
theorem Gi_eq {l : List Int} {i : Nat} (h : i < l.length) : l[i]? = some (Gi l i) := by
  unfold Gi; rw [List.getD_eq_getElem?_getD, List.getElem?_eq_getElem h]; rfl
theorem lr_ok (p : List Nat) (h2 : ∀ x ∈ p, x < p.length) (a : Nat) : ∀ (l : List Nat) (st : List Int × Nat), st.1.length = p.length → st.2 < p.length →
    (l.foldl (fun st _ => lr1 p a st) st).1.length = p.length ∧ (l.foldl (fun st _ => lr1 p a st) st).2 < p.length
  | [], st, h1, h3 => ⟨h1, h3⟩
  | _ :: l, st, h1, h3 => by
    rw [List.foldl_cons]
    refine lr_ok p h2 a l (lr1 p a st) ?_ ?_
    · unfold lr1
      split
      · rw [List.length_set]; exact h1
      · exact h1
    · unfold lr1
      split
      · exact h2 _ (Gt_mem h3)
      · exact h3
theorem lr_len (p : List Nat) (a : Nat) : ∀ (l : List Nat) (st : List Int × Nat), (l.foldl (fun st _ => lr1 p a st) st).1.length = st.1.length
  | [], st => rfl
  | _ :: l, st => by
    rw [List.foldl_cons, lr_len p a l]
    unfold lr1
    split
    · exact List.length_set
    · rfl
theorem lrows_len (p : List Nat) : ∀ (l : List Nat) (m : List Int), m.length = p.length → (l.foldl (lrow p) m).length = p.length
  | [], m, h => h
  | a :: l, m, h => by
    rw [List.foldl_cons]
    refine lrows_len p l _ ?_
    unfold lrow
    rw [lr_len]; exact h
theorem vc__law_rings : VC w__law_rings 1 4 sp__law_rings := by
  rintro ds h Q hl ⟨p, rfl, h1, h2, q⟩
  simp_arith [w__law_rings]
  refine ⟨lsz (by omega), ?_⟩
  rw [mul_rep (by omega)]
  simp_arith
  refine ⟨by omega, by omega, ?_⟩
  rw [Int.toNat_natCast]
  refine for_r (fun i env h' => ∃ x2 x3 x4, env = [some (.lst (p.map d)), some (.ref h.length), x2, x3, x4] ∧ h' = h ++ [.lst (((List.range i).foldl (lrow p) (List.replicate p.length (-1))).map .int)]) ⟨_, _, _, rfl, by rw [List.range_zero, List.foldl_nil, List.map_replicate]⟩ ?_ ?_
  · rintro a env h' K ha ⟨x2, x3, x4, rfl, rfl⟩ hK
    rw [List.range_succ, List.foldl_append] at hK
    have hml : ((List.range a).foldl (lrow p) (List.replicate p.length (-1))).length = p.length := lrows_len p _ _ List.length_replicate
    generalize (List.range a).foldl (lrow p) (List.replicate p.length (-1)) = m at hK hml
    simp_arith
    refine ⟨by omega, by omega, ?_⟩
    rw [Int.toNat_natCast]
    refine for_r (fun i env h' => ∃ x4, env = [some (.lst (p.map d)), some (.ref h.length), some (.int a), some (.int ((List.range i).foldl (fun st _ => lr1 p a st) (m, a)).2), x4] ∧ h' = h ++ [.lst (((List.range i).foldl (fun st _ => lr1 p a st) (m, a)).1.map .int)]) ⟨_, rfl, rfl⟩ ?_ ?_
    · rintro i env h' K hi ⟨x4, rfl, rfl⟩ hK
      obtain ⟨k1, k2⟩ := lr_ok p h2 a (List.range i) (m, a) hml ha
      rw [List.range_succ, List.foldl_append] at hK
      generalize (List.range i).foldl (fun st _ => lr1 p a st) (m, a) = st at hK k1 k2
      obtain ⟨m', s⟩ := st
      have g1 := Gi_eq (l := m') (i := s) (by rw [show m'.length = p.length from k1]; exact k2)
      have g2 := Gt_eq (l := p) (i := s) k2
      simp_arith [g1]
      by_cases z : Gi m' s = -1
      · rw [if_pos z]
        refine set_cell (by rw [List.length_map, show m'.length = p.length from k1]; exact k2) ?_
        simp_arith [g2]
        have e : lr1 p a (m', s) = (m'.set s a, Gt p s) := by unfold lr1; rw [if_pos z]
        have hK := hK [some (.lst (p.map d)), some (.ref h.length), some (.int a), some (.int (Gt p s)), some (.int i)] (h ++ [.lst ((m'.set s a).map .int)]) ⟨_, by rw [List.foldl_cons, List.foldl_nil, e], by rw [List.foldl_cons, List.foldl_nil, e]⟩
        rw [List.map_set] at hK
        exact hK
      · rw [if_neg z]
        have e : lr1 p a (m', s) = (m', s) := by unfold lr1; rw [if_neg z]
        exact hK _ _ ⟨_, by rw [List.foldl_cons, List.foldl_nil, e], by rw [List.foldl_cons, List.foldl_nil, e]⟩
    · rintro env h' ⟨x4, rfl, rfl⟩
      simp_arith
      exact hK _ _ ⟨_, _, _, rfl, rfl⟩
  · rintro env h' ⟨x2, x3, x4, rfl, rfl⟩
    simp_arith
    exact ret_cellD (α := Int) q
end Lw

/-! plain: laid rows and crossings -/
namespace Lw
open Pd
section
variable {R : List (List Nat)}
/-- the letter that a's row sends to b -/
abbrev iv (R : List (List Nat)) (a b : Nat) : Nat := Gt (bk (Rw R a)) b
theorem CSet.s_iv (c : CSet R) {a b : Nat} (ha : a < R.length) (hb : b < R.length) : R2' R a (iv R a b) = b := t_bk (c.tr ha) (by rw [c.ln ha]; exact hb)
theorem CSet.iv_s (c : CSet R) {a b : Nat} (ha : a < R.length) (hb : b < R.length) : iv R a (R2' R a b) = b := bk_t (c.tr ha) (by rw [c.ln ha]; exact hb)
theorem CSet.iv_lt (c : CSet R) {a b : Nat} (ha : a < R.length) (hb : b < R.length) : iv R a b < R.length := c.blt ha hb
theorem CSet.inj (c : CSet R) {a b e : Nat} (ha : a < R.length) (hb : b < R.length) (he : e < R.length) (h : R2' R a b = R2' R a e) : b = e := by
  rw [← c.iv_s ha hb, ← c.iv_s ha he, h]
theorem swp_eq (a b : Nat) : swp R a b = [iv R a b, R2' R (iv R a b) a] := rfl
theorem swaps_tabl : swaps R = tabl R.length (swp R) := rfl
theorem swaps_len : (swaps R).length = R.length := tabl_len
theorem swaps_at {a b : Nat} (ha : a < R.length) (hb : b < R.length) : S2 (swaps R) a b = [iv R a b, R2' R (iv R a b) a] := tabl_at ha hb
theorem CSet.tab (c : CSet R) : Tab (swaps R) := tabl_tab c.pos c.le fun a b ha hb => ⟨rfl, c.iv_lt ha hb, c.lt (c.iv_lt ha hb) ha⟩
/-- a swap is its own back way -/
theorem CSet.twice (c : CSet R) {a b : Nat} (ha : a < R.length) (hb : b < R.length) : S2 (swaps R) (iv R a b) (R2' R (iv R a b) a) = [a, b] := by
  have h1 := c.iv_lt ha hb
  rw [swaps_at h1 (c.lt h1 ha), c.iv_s h1 ha, c.s_iv ha hb]
theorem CSet.turns (c : CSet R) {a b e : Nat} (ha : a < R.length) (hb : b < R.length) (he : e < R.length) :
    iv R a (iv R b e) = iv R (iv R a b) (iv R (R2' R (iv R a b) a) e) := by
  have h1 := c.iv_lt ha hb
  have h2 := c.lt h1 ha
  have h3 := c.iv_lt h2 he
  have h4 := c.iv_lt h1 h3
  have key := c.cyc a (iv R a b) (iv R (iv R a b) (iv R (R2' R (iv R a b) a) e)) ha h1 h4
  rw [c.s_iv ha hb, c.s_iv h1 h3, c.s_iv h2 he] at key
  have h5 := c.lt ha h4
  rw [← c.iv_s ha h4]
  congr 1
  rw [← c.iv_s hb h5, key]
theorem laid_append (t u v : List Nat) : laid R t (u ++ v) = laid R t u ++ laid R (tat R t u) v := by
  induction u generalizing t with
  | nil => rfl
  | cons x u ih => show Gt t x :: laid R _ (u ++ v) = _; rw [ih]; rfl
theorem laid_len (t w : List Nat) : (laid R t w).length = w.length := by
  induction w generalizing t with
  | nil => rfl
  | cons x w ih => show (laid R _ w).length + 1 = _; rw [ih]; rfl
theorem jn_step (c : CSet R) {t : List Nat} (ht : Turn t) (hl : t.length = R.length) {x : Nat} (hx : x < R.length) : Turn (jn t (bk (Rw R x))) ∧ (jn t (bk (Rw R x))).length = R.length :=
  ⟨jn_turn ht (bk_turn (c.tr hx)) (by rw [bk_len, c.ln hx, hl]), by rw [jn_len, bk_len, c.ln hx]⟩
theorem Gt_step (c : CSet R) {t : List Nat} {x y : Nat} (hx : x < R.length) (hy : y < R.length) : Gt (jn t (bk (Rw R x))) y = Gt t (iv R x y) := Gt_jn (by rw [bk_len, c.ln hx]; exact hy)
theorem laid_swap (c : CSet R) {t : List Nat} {x y : Nat} (hx : x < R.length) (hy : y < R.length) (z : List Nat) :
    laid R t ([iv R x y, R2' R (iv R x y) x] ++ z) = [Gt (jn t (bk (Rw R x))) y, Gt t x] ++ laid R (tat R t [x, y]) z := by
  have h1 := c.iv_lt hx hy
  have h2 := c.lt h1 hx
  have e : tat R t [iv R x y, R2' R (iv R x y) x] = tat R t [x, y] := by
    show jn (jn t (bk (Rw R (iv R x y)))) (bk (Rw R (R2' R (iv R x y) x))) = jn (jn t (bk (Rw R x))) (bk (Rw R y))
    refine ext_Gt ?_ fun i hi => ?_
    · rw [jn_len, jn_len, bk_len, bk_len, c.ln h2, c.ln hy]
    · rw [jn_len, bk_len, c.ln h2] at hi
      rw [Gt_step c h2 hi, Gt_step c hy hi, Gt_step c h1 (c.iv_lt h2 hi), Gt_step c hx (c.iv_lt hy hi), c.turns hx hy hi]
  rw [laid_append, e]
  show [Gt t (iv R x y), Gt (jn t (bk (Rw R (iv R x y)))) (R2' R (iv R x y) x)] ++ _ = _
  rw [Gt_step c h1 h2, c.iv_s h1 hx, Gt_step c hx hy]
theorem split_at {w : List Nat} {p : Nat} (h : p + 1 < w.length) : w = w.take p ++ ([Gt w p, Gt w (p + 1)] ++ w.drop (p + 2)) := by
  have g1 := Gt_eq (l := w) (i := p) (by omega)
  have g2 := Gt_eq h
  rw [List.getElem?_eq_getElem (by omega)] at g1 g2
  conv => lhs; rw [← List.take_append_drop p w, List.drop_eq_getElem_cons (by omega : p < w.length), List.drop_eq_getElem_cons h]
  rw [Option.some.inj g1, Option.some.inj g2]; rfl
theorem exch1_split {u z : List Nat} {a b : Nat} {v : Int} (hu : u.length = plc v) : exch1 (u ++ ([a, b] ++ z)) v = u ++ ([b, a] ++ z) := by
  have e1 : Gt (u ++ ([a, b] ++ z)) (plc v) = a := Gt_of (by rw [← hu, List.getElem?_append_right (Nat.le_refl _), Nat.sub_self]; rfl)
  have e2 : Gt (u ++ ([a, b] ++ z)) (plc v + 1) = b := Gt_of (by rw [← hu, List.getElem?_append_right (by omega), Nat.add_sub_cancel_left]; rfl)
  unfold exch1
  have s1 : (u ++ ([a, b] ++ z)).set u.length b = u ++ ([b, b] ++ z) := (List.set_append_right _ _ (Nat.le_refl _)).trans (by rw [Nat.sub_self]; rfl)
  have s2 : (u ++ ([b, b] ++ z)).set (u.length + 1) a = u ++ ([b, a] ++ z) := (List.set_append_right _ _ (by omega)).trans (by rw [Nat.add_sub_cancel_left]; rfl)
  rw [e1, e2, ← hu, s1, s2]
theorem cr1_laid (c : CSet R) {t w : List Nat} {v : Int} (hv : plc v + 1 < w.length) (hw : ∀ x ∈ w, x < R.length) : laid R t (cr1 (swaps R) (swaps R) w v) = exch1 (laid R t w) v := by
  have k1 := hw _ (Gt_mem (l := w) (i := plc v) (by omega))
  have k2 := hw _ (Gt_mem hv)
  unfold cr1
  rw [ite_self, swaps_at k1 k2]
  conv => rhs; rw [split_at hv]
  have A := laid_append (R := R) t (w.take (plc v)) ([iv R (Gt w (plc v)) (Gt w (plc v + 1)), R2' R (iv R (Gt w (plc v)) (Gt w (plc v + 1))) (Gt w (plc v))] ++ w.drop (plc v + 2))
  have B := laid_append (R := R) t (w.take (plc v)) ([Gt w (plc v), Gt w (plc v + 1)] ++ w.drop (plc v + 2))
  have C := laid_append (R := R) (tat R t (w.take (plc v))) [Gt w (plc v), Gt w (plc v + 1)] (w.drop (plc v + 2))
  rw [List.append_assoc, A, B, laid_swap c k1 k2, C]
  exact (exch1_split (by rw [laid_len, List.length_take]; omega)).symm
theorem crs_laid (c : CSet R) (t : List Nat) : ∀ (w : List Int) (row : List Nat), (∀ v ∈ w, plc v + 1 < row.length) → (∀ x ∈ row, x < R.length) → laid R t (crs (swaps R) (swaps R) w row) = exch w (laid R t row)
  | [], _, _, _ => rfl
  | v :: w, row, hv, hr => by
    have hv0 := hv v List.mem_cons_self
    obtain ⟨h1, h2⟩ := cr1_ok c.tab c.tab rfl hv0 (by rw [swaps_len]; exact hr)
    show laid R t (crs _ _ w (cr1 _ _ row v)) = exch w (exch1 (laid R t row) v)
    rw [crs_laid c t w _ (fun u hu => by rw [h1]; exact hv u (List.mem_cons_of_mem _ hu)) (by rw [swaps_len] at h2; exact h2), cr1_laid c hv0 hr]
theorem unlaid_laid (c : CSet R) : ∀ (w t : List Nat), Turn t → t.length = R.length → (∀ x ∈ w, x < R.length) → unlaid R t (laid R t w) = w
  | [], _, _, _, _ => rfl
  | x :: w, t, ht, hl, h => by
    have hx := h x List.mem_cons_self
    have e : Gt (bk t) (Gt t x) = x := bk_t ht (by omega)
    obtain ⟨h1, h2⟩ := jn_step c ht hl hx
    show Gt (bk t) (Gt t x) :: unlaid R (jn t (bk (Rw R (Gt (bk t) (Gt t x))))) (laid R (jn t (bk (Rw R x))) w) = x :: w
    rw [e, unlaid_laid c w _ h1 h2 fun y hy => h y (List.mem_cons_of_mem _ hy)]
theorem laid_lt (c : CSet R) : ∀ (w t : List Nat), Turn t → t.length = R.length → (∀ x ∈ w, x < R.length) → ∀ x ∈ laid R t w, x < R.length
  | [], _, _, _, _, _, hx => by cases hx
  | x :: w, t, ht, hl, h, y, hy => by
    have hx := h x List.mem_cons_self
    obtain ⟨h1, h2⟩ := jn_step c ht hl hx
    rcases List.mem_cons.mp hy with e | hy
    · rw [e]; have := Gt_lt ht (a := x) (by omega); omega
    · exact laid_lt c w _ h1 h2 (fun y hy => h y (List.mem_cons_of_mem _ hy)) y hy
theorem laid_inj (c : CSet R) {u w : List Nat} (hu : ∀ x ∈ u, x < R.length) (hw : ∀ x ∈ w, x < R.length) (e : laid R (pl R.length) u = laid R (pl R.length) w) : u = w := by
  rw [← unlaid_laid c u _ (pl_turn _) pl_len hu, ← unlaid_laid c w _ (pl_turn _) pl_len hw, e]
end
end Lw

/-! plain: swaps of cycle sets are braid tables; back ways -/
namespace Lw
open Pd
theorem three_of {t : List Nat} (h : t.length = 3) : t = [Gt t 0, Gt t 1, Gt t 2] := by
  match t, h with
  | [x, y, z], _ => rfl
theorem ahead_cr (S : List (List (List Nat))) {t : List Nat} (h : t.length = 3) : ahead S t = cr1 S S t 0 := by
  rw [three_of h]; rfl
theorem behind_cr (S : List (List (List Nat))) {t : List Nat} (h : t.length = 3) : behind S t = cr1 S S t 1 := by
  rw [three_of h]
  show Gt t 0 :: S2 S (Gt t 1) (Gt t 2) = ([Gt t 0] ++ S2 S (Gt t 1) (Gt t 2)) ++ []
  rw [List.append_nil]; rfl
section
variable {R : List (List Nat)}
theorem CSet.braid (c : CSet R) (sq : SqI R) : Braid (swaps R) := by
  refine { toTab := c.tab, rows := ?_, cols := ?_, one := ?_, three := ?_ } <;> rw [swaps_len]
  · intro a b e ha hb he q
    have q : iv R a b = iv R a e := by
      have : Gt (S2 (swaps R) a b) 0 = Gt (S2 (swaps R) a e) 0 := q
      rw [swaps_at ha hb, swaps_at ha he] at this
      exact this
    rw [← c.s_iv ha hb, ← c.s_iv ha he, q]
  · intro a b e ha hb he q
    have q : R2' R (iv R b a) b = R2' R (iv R e a) e := by
      have : Gt (S2 (swaps R) b a) 1 = Gt (S2 (swaps R) e a) 1 := q
      rw [swaps_at hb ha, swaps_at he ha] at this
      exact this
    have key : ∀ x, x < R.length → R2' R a (R2' R x x) = R2' R (R2' R (iv R x a) x) (R2' R (iv R x a) x) := fun x hx => by
      have := c.cyc x (iv R x a) x hx (c.iv_lt hx ha) hx
      rwa [c.s_iv hx ha] at this
    have e2 := c.inj ha (c.lt hb hb) (c.lt he he) (by rw [key b hb, key e he, q])
    exact sq b e hb he e2
  · intro a b x y ha hb hx hy q
    rw [swaps_at ha hb, swaps_at hx hy] at q
    have q1 : iv R a b = iv R x y := by injection q
    have q2 : R2' R (iv R a b) a = R2' R (iv R x y) x := by injection q with _ q; injection q
    have e := c.twice ha hb
    rw [q2, q1, c.twice hx hy] at e
    have e1 : x = a := by injection e
    have e2 : y = b := by injection e with _ e; injection e
    exact ⟨e1.symm, e2.symm⟩
  · intro x y z hx hy hz
    have h3 : [x, y, z].length = 3 := rfl
    have hin : ∀ u ∈ [x, y, z], u < R.length := by simp [hx, hy, hz]
    have hin' : ∀ u ∈ [x, y, z], u < (swaps R).length := by rw [swaps_len]; exact hin
    obtain ⟨a1, a2⟩ := ahead_ok c.tab h3 hin'
    obtain ⟨b1, b2⟩ := behind_ok c.tab h3 hin'
    obtain ⟨ab1, ab2⟩ := behind_ok c.tab a1 a2
    obtain ⟨ba1, ba2⟩ := ahead_ok c.tab b1 b2
    obtain ⟨aba1, aba2⟩ := ahead_ok c.tab ab1 ab2
    obtain ⟨bab1, bab2⟩ := behind_ok c.tab ba1 ba2
    rw [swaps_len] at a2 b2 ab2 ba2 aba2 bab2
    refine laid_inj c aba2 bab2 ?_
    rw [ahead_cr _ ab1, cr1_laid c (by rw [ab1]; decide) ab2, behind_cr _ a1, cr1_laid c (by rw [a1]; decide) a2, ahead_cr _ h3, cr1_laid c (by rw [h3]; decide) hin]
    rw [behind_cr _ ba1, cr1_laid c (by rw [ba1]; decide) ba2, ahead_cr _ b1, cr1_laid c (by rw [b1]; decide) b2, behind_cr _ h3, cr1_laid c (by rw [h3]; decide) hin]
    rw [three_of (laid_len _ _ : (laid R (pl R.length) [x, y, z]).length = 3)]; rfl
theorem CSet.inv2 (c : CSet R) {T : List (List (List Nat))} (h : Inv2 (swaps R) T) {x y : Nat} (hx : x < R.length) (hy : y < R.length) : S2 T x y = S2 (swaps R) x y := by
  have h1 := c.iv_lt hx hy
  have h2 := c.lt h1 hx
  have q := h.inv (iv R x y) (R2' R (iv R x y) x) (by rw [swaps_len]; exact h1) (by rw [swaps_len]; exact h2)
  have e := c.twice hx hy
  have e1 : Lf (swaps R) (iv R x y) (R2' R (iv R x y) x) = x := by show Gt (S2 (swaps R) _ _) 0 = x; rw [e]; rfl
  have e2 : Rt (swaps R) (iv R x y) (R2' R (iv R x y) x) = y := by show Gt (S2 (swaps R) _ _) 1 = y; rw [e]; rfl
  rw [e1, e2] at q
  rw [q, swaps_at hx hy]
theorem CSet.cr1_T (c : CSet R) {T : List (List (List Nat))} (h : Inv2 (swaps R) T) {w : List Nat} {v : Int} (hv : plc v + 1 < w.length) (hw : ∀ x ∈ w, x < R.length) : cr1 (swaps R) T w v = cr1 (swaps R) (swaps R) w v := by
  have k1 := hw _ (Gt_mem (l := w) (i := plc v) (by omega))
  have k2 := hw _ (Gt_mem hv)
  unfold cr1
  split
  · rfl
  · rw [c.inv2 h k1 k2]
theorem CSet.crs_T (c : CSet R) {T : List (List (List Nat))} (h : Inv2 (swaps R) T) : ∀ (w : List Int) (row : List Nat), (∀ v ∈ w, plc v + 1 < row.length) → (∀ x ∈ row, x < R.length) → crs (swaps R) T w row = crs (swaps R) (swaps R) w row
  | [], _, _, _ => rfl
  | v :: w, row, hv, hr => by
    have hv0 := hv v List.mem_cons_self
    obtain ⟨h1, h2⟩ := cr1_ok c.tab c.tab rfl hv0 (by rw [swaps_len]; exact hr)
    show crs _ T w (cr1 _ T row v) = crs _ _ w (cr1 _ _ row v)
    rw [c.cr1_T h hv0 hr, c.crs_T h w _ (fun u hu => by rw [h1]; exact hv u (List.mem_cons_of_mem _ hu)) (by rw [swaps_len] at h2; exact h2)]
theorem plc_back (v : Int) : plc (-1 - v) = plc v := by unfold plc; split <;> split <;> omega
theorem exch1_back {l : List Nat} {v u : Int} (e : plc u = plc v) (h : plc v + 1 < l.length) : exch1 (exch1 l v) u = l := by
  have q := split_at h
  have A : exch1 l v = l.take (plc v) ++ ([Gt l (plc v + 1), Gt l (plc v)] ++ l.drop (plc v + 2)) := by
    conv => lhs; rw [q]
    exact exch1_split (by rw [List.length_take]; omega)
  rw [A, exch1_split (by rw [List.length_take, e]; omega)]
  exact q.symm
theorem exch_bkw : ∀ (w : List Int) (l : List Nat), (∀ v ∈ w, plc v + 1 < l.length) → exch (bkw w) (exch w l) = l
  | [], _, _ => rfl
  | v :: w, l, h => by
    have e : bkw (v :: w) = bkw w ++ [-1 - v] := by unfold bkw; rw [List.reverse_cons, List.map_append]; rfl
    rw [e, exch_snoc]
    show exch1 (exch (bkw w) (exch w (exch1 l v))) _ = l
    rw [exch_bkw w (exch1 l v) fun u hu => by rw [exch1_len]; exact h u (List.mem_cons_of_mem _ hu)]
    exact exch1_back (plc_back v) (h v List.mem_cons_self)
theorem cw_bkw {s : Nat} {w : List Int} (c : Cw s w) : Cw s (bkw w) := by
  refine ⟨c.pos, c.le, ?_, fun v hv => ?_⟩
  · unfold bkw; rw [List.length_map, List.length_reverse]; exact c.len
  · obtain ⟨u, hu, rfl⟩ := List.mem_map.mp hv
    have := c.at_ u (List.mem_reverse.mp hu)
    omega
/-- crossed there and back -/
theorem CSet.crs_back (c : CSet R) {w : List Int} {row : List Nat} (cw : Cw row.length w) (hr : ∀ x ∈ row, x < R.length) : crs (swaps R) (swaps R) (bkw w) (crs (swaps R) (swaps R) w row) = row := by
  have hv : ∀ v ∈ w, plc v + 1 < row.length := fun v hv => plc_lt cw hv
  obtain ⟨h1, h2⟩ := crs_ok c.tab c.tab rfl w hv (by rw [swaps_len]; exact hr)
  have hv' : ∀ v ∈ bkw w, plc v + 1 < (crs (swaps R) (swaps R) w row).length := fun v hv => by rw [h1]; exact plc_lt (cw_bkw cw) hv
  obtain ⟨h3, h4⟩ := crs_ok c.tab c.tab rfl (bkw w) hv' h2
  rw [swaps_len] at h2 h4
  refine laid_inj c h4 hr ?_
  rw [crs_laid c _ _ _ hv' h2, crs_laid c _ _ _ hv hr, exch_bkw _ _ fun v hv2 => by rw [laid_len]; exact hv v hv2]
end
end Lw

/-! plain: the drawn cycle sets -/
namespace Lw
open Pd
def goodB (R : List (List Nat)) : Bool :=
  decide (1 ≤ R.length) && (decide (R.length ≤ 6) && (R.all (fun r => decide (r.length = R.length) && (decide r.Nodup && r.all fun x => decide (x < R.length))) &&
  ((List.range R.length).all (fun a => (List.range R.length).all fun b => (List.range R.length).all fun c => decide (R2' R (R2' R a b) (R2' R a c) = R2' R (R2' R b a) (R2' R b c))) &&
  (List.range R.length).all fun a => (List.range R.length).all fun b => decide (R2' R a a = R2' R b b → a = b))))
theorem good_of {R : List (List Nat)} (h : goodB R = true) : Good R := by
  unfold goodB at h
  simp only [Bool.and_eq_true, decide_eq_true_eq, List.all_eq_true, List.mem_range] at h
  obtain ⟨h1, h2, h3, h4, h5⟩ := h
  refine ⟨⟨h1, by omega, fun r hr => ?_, fun r hr => (h3 r hr).1, fun a b c ha hb hc => h4 a ha b hb c hc⟩, fun a b ha hb => h5 a ha b hb, h2⟩
  obtain ⟨k1, k2, k3⟩ := h3 r hr
  exact ⟨k2, fun x hx => by rw [k1]; exact k3 x hx⟩
theorem stock_good : ∀ A ∈ stock, Good A := fun A hA => good_of (List.all_eq_true.mp (show stock.all goodB = true by decide +kernel) A hA)
theorem beside_good : ∀ A ∈ stock, ∀ B ∈ stock.take 3, Good (beside A B) := fun A hA B hB =>
  good_of (List.all_eq_true.mp (List.all_eq_true.mp (show stock.all (fun A => (stock.take 3).all fun B => goodB (beside A B)) = true by decide +kernel) A hA) B hB)
section
variable {R : List (List Nat)} {t : List Nat}
theorem renamed_len : (renamed R t).length = R.length := by unfold renamed; rw [List.length_map, List.length_range]
theorem renamed_row {a : Nat} (ha : a < R.length) : Rw (renamed R t) a = (List.range R.length).map fun b => Gt t (R2' R (t.idxOf a) (t.idxOf b)) := by
  show (renamed R t).getD a [] = _
  unfold renamed
  rw [List.getD_eq_getElem?_getD, List.getElem?_map, List.getElem?_range ha]; rfl
theorem renamed_at {a b : Nat} (ha : a < R.length) (hb : b < R.length) : R2' (renamed R t) a b = Gt t (R2' R (t.idxOf a) (t.idxOf b)) := by
  show Gt (Rw (renamed R t) a) b = _
  rw [renamed_row ha, Gt_rng hb]
theorem renamed_good (g : Good R) (ht : Turn t) (hl : t.length = R.length) : Good (renamed R t) := by
  have c := g.c
  have ix : ∀ a, a < R.length → t.idxOf a < R.length := fun a ha => by
    have := List.idxOf_lt_length_iff.mpr (ht.mem (k := a) (by omega)); omega
  have tx : ∀ a, a < R.length → Gt t a < R.length := fun a ha => by have := Gt_lt ht (a := a) (by omega); omega
  have xt : ∀ a, a < R.length → t.idxOf (Gt t a) = a := fun a ha => by
    have := bk_t ht (a := a) (by omega)
    rwa [Gt_bk (Gt_lt ht (by omega))] at this
  have ti : ∀ a b, a < R.length → b < R.length → Gt t a = Gt t b → a = b := fun a b ha hb e => by rw [← xt a ha, ← xt b hb, e]
  have ii : ∀ a b, a < R.length → b < R.length → t.idxOf a = t.idxOf b → a = b := fun a b ha hb e => by
    have q := t_bk ht (a := a) (by omega)
    have r := t_bk ht (a := b) (by omega)
    rw [Gt_bk (by omega)] at q r
    rw [← q, ← r, e]
  refine ⟨⟨by rw [renamed_len]; exact c.pos, by rw [renamed_len]; exact c.le, fun r hr => ?_, fun r hr => ?_, fun a b e ha hb he => ?_⟩, fun a b ha hb q => ?_, by rw [renamed_len]; exact g.le⟩
  · obtain ⟨a, ha, rfl⟩ := List.mem_map.mp hr
    have ha := List.mem_range.mp ha
    refine turn_of (fun i hi => ?_) fun i j hi hj e => ?_
    · rw [List.length_map, List.length_range] at hi ⊢
      rw [Gt_rng hi]
      exact tx _ (c.lt (ix a ha) (ix i hi))
    · rw [List.length_map, List.length_range] at hi hj
      rw [Gt_rng hi, Gt_rng hj] at e
      exact ii _ _ hi hj (c.inj (ix a ha) (ix i hi) (ix j hj) (ti _ _ (c.lt (ix a ha) (ix i hi)) (c.lt (ix a ha) (ix j hj)) e))
  · obtain ⟨a, ha, rfl⟩ := List.mem_map.mp hr
    rw [List.length_map, List.length_range, renamed_len]
  · rw [renamed_len] at ha hb he
    have k : ∀ x y, x < R.length → y < R.length → R2' (renamed R t) x y < R.length := fun x y hx hy => by rw [renamed_at hx hy]; exact tx _ (c.lt (ix x hx) (ix y hy))
    rw [renamed_at (k a b ha hb) (k a e ha he), renamed_at (k b a hb ha) (k b e hb he), renamed_at ha hb, renamed_at ha he, renamed_at hb ha, renamed_at hb he]
    rw [xt _ (c.lt (ix a ha) (ix b hb)), xt _ (c.lt (ix a ha) (ix e he)), xt _ (c.lt (ix b hb) (ix a ha)), xt _ (c.lt (ix b hb) (ix e he)), c.cyc _ _ _ (ix a ha) (ix b hb) (ix e he)]
  · rw [renamed_len] at ha hb
    rw [renamed_at ha ha, renamed_at hb hb] at q
    exact ii _ _ ha hb (g.sq _ _ (ix a ha) (ix b hb) (ti _ _ (c.lt (ix a ha) (ix a ha)) (c.lt (ix b hb) (ix b hb)) q))
end
end Lw

namespace Lw
open PySem PySem.Spec PyProof.Rows L2 Pd
open Py (d)
open Lean in
local macro_rules
  | `(tactic| simp_arith) => `(tactic| try simp only [Pd.wsSeq, Pd.wsNil, Pd.wsRet, Pd.wsRetN, Pd.wsIf, Pd.wsAsg, Pd.wsPar, Pd.wsExpr, Pd.wsBrk, Pd.wsCnt, Pd.wsNever, Pd.wVar, Pd.wC, Pd.wNil, Pd.wCons, Pd.wTup, Pd.wLst, Pd.wtAnd, Pd.wtOr, Pd.wtNot, Pd.wtYes, Pd.wAndV, Pd.wOrV, Pd.wNotV, Pd.wIf, Pd.wNeg,
      Pd.w2, Pd.w3, Pd.wTest, Pd.wNoPart, Pd.wPart, Pd.wSl, Pd.wCall, Pd.wFn, Pd.wIsi, Pd.wMeth, Pd.wApp, Pd.wIndex, Pd.wListRg, Pd.wTupRg, Pd.wRg1, Pd.wRg2, Pd.wRevT, Pd.wDict0, Pd.wLenSet, Pd.wgNm, Pd.wgSub, Pd.wgNil, Pd.wgCons, Pd.wgTup,
      Pd.wsFor, Pd.wComp, Pd.wiSeq, Pd.wiRng1, Pd.wiRng2, Pd.wiEnum, Pd.wiZip, Pd.wiRev, Pd.bind_nm, Pd.bind_two, Pd.bind_tp2, Pd.bind_tp3, Pd.map_inj, Pd.mapI_inj, Int.natCast_inj, Pd.at_nat, List.getElem?_map, Option.map_some, Pd.cell_get, Pd.ls_cell, Pd.sq_cell, Pd.ix_cell, Pd.len_cell, Pd.tuple_cell, Pd.tuple_lst, Pd.tuple_tup, Pd.wipeD_one, Pd.wipeD_two, Pd.wipeD_three, Pd.cut_take, Pd.cut_drop, Pd.cut_mid, Pd.app_map, Pd.isT_t, Pd.isT_l, Pd.isT_r,
      Pd.tyD_non, Pd.tyD_bl, Pd.tyD_int, Pd.tyD_str, Pd.tyD_tup, Pd.tyD_lst, Pd.sqD_tup, Pd.sqD_lst, Pd.lsD_lst, Pd.isi_ii, Pd.isi_ib, Pd.isi_bi, Pd.isi_bb, Pd.isi_tt, Pd.isi_ti, Pd.isi_tb, Pd.isi_ts, Pd.isi_tl, Pd.isi_it, Pd.isi_is, Pd.isi_il, Pd.isi_st, Pd.isi_ss, Pd.isi_si, Pd.isi_sb, Pd.isi_sl, Pd.isi_li, Pd.isi_lb, Pd.isi_ls, Pd.isi_lt, Pd.isi_ll, Pd.isi_ni, Pd.isi_nb, Pd.isi_ns, Pd.isi_nt, Pd.isi_nl, Pd.isi_bt, Pd.isi_bs, Pd.isi_bl,
      Pd.add_int, Pd.add_tup, Pd.add_lst, Pd.i_int, Pd.b_int, Pd.mul_int, Pd.none_non, Pd.ix_tup, Pd.ix_lst, Pd.sl_tup, Pd.sl_lst, Pd.len_tup, Pd.len_lst, Pd.rdEq_intf, Pd.rdEq_intt, Pd.mkL_f, Pd.mkL_t, Pd.d_int, Pd.d_nat, Pd.d_bool, Pd.d_list,
      List.map_cons, List.map_nil, List.cons_append, List.nil_append, List.replicate_zero, List.replicate_succ, List.append_nil, List.getElem?_cons_zero, List.getElem?_cons_succ, List.set_cons_zero, List.set_cons_succ, List.length_cons, List.length_nil, List.length_map,
      Option.some.injEq, Pd.D.bl.injEq, Pd.D.int.injEq, Pd.D.tup.injEq, Pd.D.lst.injEq, Pd.D.ref.injEq, Pd.D.str.injEq, List.cons.injEq, exists_eq_left, exists_eq_left', exists_and_left, and_true, true_and, and_assoc, if_true, if_false, Bool.not_true, Bool.not_false, decide_eq_true_eq, Bool.false_eq_true, ↓reduceIte, reduceCtorEq, exists_const])
  | `(tactic| simp_arith [$ls,*]) => `(tactic| try simp only [Pd.wsSeq, Pd.wsNil, Pd.wsRet, Pd.wsRetN, Pd.wsIf, Pd.wsAsg, Pd.wsPar, Pd.wsExpr, Pd.wsBrk, Pd.wsCnt, Pd.wsNever, Pd.wVar, Pd.wC, Pd.wNil, Pd.wCons, Pd.wTup, Pd.wLst, Pd.wtAnd, Pd.wtOr, Pd.wtNot, Pd.wtYes, Pd.wAndV, Pd.wOrV, Pd.wNotV, Pd.wIf, Pd.wNeg,
      Pd.w2, Pd.w3, Pd.wTest, Pd.wNoPart, Pd.wPart, Pd.wSl, Pd.wCall, Pd.wFn, Pd.wIsi, Pd.wMeth, Pd.wApp, Pd.wIndex, Pd.wListRg, Pd.wTupRg, Pd.wRg1, Pd.wRg2, Pd.wRevT, Pd.wDict0, Pd.wLenSet, Pd.wgNm, Pd.wgSub, Pd.wgNil, Pd.wgCons, Pd.wgTup,
      Pd.wsFor, Pd.wComp, Pd.wiSeq, Pd.wiRng1, Pd.wiRng2, Pd.wiEnum, Pd.wiZip, Pd.wiRev, Pd.bind_nm, Pd.bind_two, Pd.bind_tp2, Pd.bind_tp3, Pd.map_inj, Pd.mapI_inj, Int.natCast_inj, Pd.at_nat, List.getElem?_map, Option.map_some, Pd.cell_get, Pd.ls_cell, Pd.sq_cell, Pd.ix_cell, Pd.len_cell, Pd.tuple_cell, Pd.tuple_lst, Pd.tuple_tup, Pd.wipeD_one, Pd.wipeD_two, Pd.wipeD_three, Pd.cut_take, Pd.cut_drop, Pd.cut_mid, Pd.app_map, Pd.isT_t, Pd.isT_l, Pd.isT_r,
      Pd.tyD_non, Pd.tyD_bl, Pd.tyD_int, Pd.tyD_str, Pd.tyD_tup, Pd.tyD_lst, Pd.sqD_tup, Pd.sqD_lst, Pd.lsD_lst, Pd.isi_ii, Pd.isi_ib, Pd.isi_bi, Pd.isi_bb, Pd.isi_tt, Pd.isi_ti, Pd.isi_tb, Pd.isi_ts, Pd.isi_tl, Pd.isi_it, Pd.isi_is, Pd.isi_il, Pd.isi_st, Pd.isi_ss, Pd.isi_si, Pd.isi_sb, Pd.isi_sl, Pd.isi_li, Pd.isi_lb, Pd.isi_ls, Pd.isi_lt, Pd.isi_ll, Pd.isi_ni, Pd.isi_nb, Pd.isi_ns, Pd.isi_nt, Pd.isi_nl, Pd.isi_bt, Pd.isi_bs, Pd.isi_bl,
      Pd.add_int, Pd.add_tup, Pd.add_lst, Pd.i_int, Pd.b_int, Pd.mul_int, Pd.none_non, Pd.ix_tup, Pd.ix_lst, Pd.sl_tup, Pd.sl_lst, Pd.len_tup, Pd.len_lst, Pd.rdEq_intf, Pd.rdEq_intt, Pd.mkL_f, Pd.mkL_t, Pd.d_int, Pd.d_nat, Pd.d_bool, Pd.d_list,
      List.map_cons, List.map_nil, List.cons_append, List.nil_append, List.replicate_zero, List.replicate_succ, List.append_nil, List.getElem?_cons_zero, List.getElem?_cons_succ, List.set_cons_zero, List.set_cons_succ, List.length_cons, List.length_nil, List.length_map,
      Option.some.injEq, Pd.D.bl.injEq, Pd.D.int.injEq, Pd.D.tup.injEq, Pd.D.lst.injEq, Pd.D.ref.injEq, Pd.D.str.injEq, List.cons.injEq, exists_eq_left, exists_eq_left', exists_and_left, and_true, true_and, and_assoc, if_true, if_false, Bool.not_true, Bool.not_false, decide_eq_true_eq, Bool.false_eq_true, ↓reduceIte, reduceCtorEq, exists_const, $ls,*])
theorem vc__law_rows : VC w__law_rows 1 3 sp__law_rows := by
  rintro ds h Q hl ⟨rfl, hc, q⟩
  simp_arith [w__law_rows, sp__law_stock, sp__law_some]
  refine ⟨by decide, by decide, hc, fun x h1 hx hc1 => ?_⟩
  obtain ⟨A, hA, rfl⟩ := List.mem_map.mp hx
  simp_arith [sp__law_stock, sp__law_some, show (3 : Int) = ((3 : Nat) : Int) from rfl]
  refine ⟨by decide, by decide, hc1, fun y h2 hy hc2 => ?_⟩
  obtain ⟨B, hB, rfl⟩ := List.mem_map.mp hy
  have gA := stock_good A hA
  have gB := stock_good B (List.mem_of_mem_take hB)
  have gAB := beside_good A hA B hB
  have a6 := gA.le
  have b6 := gB.le
  have ab6 := gAB.le
  refine ⟨2, rfl, by decide, by decide, hc2, fun r h3 hr hc3 => ?_⟩
  simp_arith
  split
  · simp_arith [sp__law_beside]
    refine ⟨by omega, by omega, fun r hr => by have := gA.c.len r hr; omega, fun r hr => by have := gB.c.len r hr; omega, ?_⟩
    simp_arith [sp__law_turn]
    refine ⟨by omega, hc3, fun t h4 ht htl hc4 => ?_⟩
    simp_arith [sp__law_renamed]
    exact ⟨gAB.c, ht, htl, ret_now (q _ _ (renamed_good gAB ht htl) hc4)⟩
  · simp_arith [sp__law_turn]
    refine ⟨by omega, hc3, fun t h4 ht htl hc4 => ?_⟩
    simp_arith [sp__law_renamed]
    exact ⟨gA.c, ht, htl, ret_now (q _ _ (renamed_good gA ht htl) hc4)⟩
theorem vc_law : VC w_law 1 2 sp_law := by
  rintro ds h Q hl ⟨ns, rfl, hn, rfl, q⟩
  simp_arith [w_law, sp__law_written_right, sp__law_cup]
  refine ⟨ns, rfl, hn, fun h1 hc => ⟨by omega, by omega, ?_⟩⟩
  refine for_r (n := 3) (fun i env h' => ∃ x2, env = [some (.scr ns), some (.ref 0), x2] ∧ Cup h') ⟨_, rfl, hc⟩ ?_ ?_
  · rintro i env h' K hi ⟨x2, rfl, hc⟩ hK
    simp_arith [sp__law_crossings_right]
    exact ⟨hc, fun h2 hc2 => hK _ _ ⟨_, rfl, hc2⟩⟩
  · rintro env h' ⟨x2, rfl, hc⟩
    simp_arith
    exact ret_now (q _)
end Lw

/-! plain: turns of few places, checked one by one -/
namespace Lw
open Pd
def itp (p : List Nat) : Nat → Nat → Nat
  | 0, i => i
  | k + 1, i => Gt p (itp p k i)
def fixB (p l : List Nat) : Bool := (List.range p.length).all fun i => Gt l (Gt p i) == Gt l i
def ringsOk (p : List Nat) : Bool :=
  (List.range p.length).all (fun i => decide (0 ≤ Gi (lrings p) i) && (decide ((Gi (lrings p) i).toNat < p.length) && ((List.range 5).any (fun k => itp p k (Gi (lrings p) i).toNat == i) && decide (Gi (lrings p) (Gt p i) = Gi (lrings p) i)))) &&
  (((List.range p.length).filter fun i => decide (Gi (lrings p) i = i)).length == rings p)
def countOk (m : Nat) (p : List Nat) : Bool := ((allR m p.length).filter (fixB p)).length == m ^ rings p
def perms (s : Nat) : List (List Nat) := (allR s s).filter fun p => decide p.Nodup
theorem rings2 : (perms 2).all ringsOk = true := by decide +kernel
theorem rings3 : (perms 3).all ringsOk = true := by decide +kernel
theorem rings4 : (perms 4).all ringsOk = true := by decide +kernel
theorem count2 : (perms 2).all (fun p => (List.range 7).all fun m => countOk m p || m == 0) = true := by decide +kernel
theorem count3 : (perms 3).all (fun p => (List.range 7).all fun m => countOk m p || m == 0) = true := by decide +kernel
theorem count4 : (perms 4).all (fun p => (List.range 7).all fun m => countOk m p || m == 0) = true := by decide +kernel
theorem allR_all {m : Nat} : ∀ {s : Nat} {r : List Nat}, r.length = s → (∀ x ∈ r, x < m) → r ∈ allR m s
  | 0, r, h, _ => by rw [List.length_eq_zero_iff.mp h]; exact List.mem_singleton.mpr rfl
  | s + 1, r, h, hx => by
    have hne : r ≠ [] := fun e => by rw [e] at h; cases h
    rw [← List.dropLast_concat_getLast hne]
    refine List.mem_flatMap.mpr ⟨r.dropLast, allR_all (by rw [List.length_dropLast]; omega) fun x hx' => hx x (List.dropLast_subset r hx'), List.mem_map.mpr ⟨r.getLast hne, List.mem_range.mpr (hx _ (List.getLast_mem hne)), rfl⟩⟩
theorem perms_mem {s : Nat} {p : List Nat} (hp : Turn p) (hl : p.length = s) : p ∈ perms s :=
  List.mem_filter.mpr ⟨allR_all hl fun x hx => by have := hp.lt x hx; omega, decide_eq_true hp.nd⟩
theorem rings_all {s : Nat} (h2 : 2 ≤ s) (h4 : s ≤ 4) {p : List Nat} (hp : Turn p) (hl : p.length = s) : ringsOk p = true := by
  have m := perms_mem hp hl
  rcases (by omega : s = 2 ∨ s = 3 ∨ s = 4) with rfl | rfl | rfl
  · exact List.all_eq_true.mp rings2 p m
  · exact List.all_eq_true.mp rings3 p m
  · exact List.all_eq_true.mp rings4 p m
theorem count_all {s m : Nat} (h2 : 2 ≤ s) (h4 : s ≤ 4) (h1 : 1 ≤ m) (h6 : m ≤ 6) {p : List Nat} (hp : Turn p) (hl : p.length = s) : ((allR m s).filter (fixB p)).length = m ^ rings p := by
  have mm := perms_mem hp hl
  have key : countOk m p = true := by
    have : (countOk m p || m == 0) = true := by
      rcases (by omega : s = 2 ∨ s = 3 ∨ s = 4) with rfl | rfl | rfl
      · exact List.all_eq_true.mp (List.all_eq_true.mp count2 p mm) m (List.mem_range.mpr (by omega))
      · exact List.all_eq_true.mp (List.all_eq_true.mp count3 p mm) m (List.mem_range.mpr (by omega))
      · exact List.all_eq_true.mp (List.all_eq_true.mp count4 p mm) m (List.mem_range.mpr (by omega))
    have h0 : (m == 0) = false := beq_eq_false_iff_ne.mpr (by omega)
    rw [h0, Bool.or_false] at this
    exact this
  have := beq_iff_eq.mp key
  rwa [hl] at this
/-! ### exchanged places as a turn -/
theorem exch1_map (f : Nat → Nat) {l : List Nat} {v : Int} (h : plc v + 1 < l.length) : exch1 (l.map f) v = (exch1 l v).map f := by
  unfold exch1
  rw [Gt_map (f := f) (l := l) (i := plc v) (by omega), Gt_map (f := f) (l := l) (i := plc v + 1) h, List.map_set, List.map_set]
theorem exch_map (f : Nat → Nat) : ∀ (w : List Int) {l : List Nat}, (∀ v ∈ w, plc v + 1 < l.length) → exch w (l.map f) = (exch w l).map f
  | [], _, _ => rfl
  | v :: w, l, h => by
    show exch w (exch1 (l.map f) v) = (exch w (exch1 l v)).map f
    rw [exch1_map f (h v List.mem_cons_self), exch_map f w fun u hu => by rw [exch1_len]; exact h u (List.mem_cons_of_mem _ hu)]
theorem exch_at {w : List Int} {l : List Nat} (h : ∀ v ∈ w, plc v + 1 < l.length) {i : Nat} (hi : i < l.length) : Gt (exch w l) i = Gt l (Gt (exch w (List.range l.length)) i) := by
  have e : l = (List.range l.length).map (Gt l) := ext_Gt (by rw [List.length_map, List.length_range]) fun i hi => by rw [Gt_rng hi]
  have := exch_map (Gt l) w (l := List.range l.length) fun v hv => by rw [List.length_range]; exact h v hv
  rw [← e] at this
  rw [this, Gt_map (by rw [exch_len, List.length_range]; exact hi)]
theorem exch1_turn {l : List Nat} (ht : Turn l) {v : Int} (h : plc v + 1 < l.length) : Turn (exch1 l v) := by
  refine ⟨?_, fun x hx => by rw [exch1_len]; exact ht.lt x (exch1_mem h hx)⟩
  have e := split_at h
  have A : exch1 l v = l.take (plc v) ++ ([Gt l (plc v + 1), Gt l (plc v)] ++ l.drop (plc v + 2)) := by
    conv => lhs; rw [e]
    exact exch1_split (by rw [List.length_take]; omega)
  rw [A]
  have p : (l.take (plc v) ++ ([Gt l (plc v + 1), Gt l (plc v)] ++ l.drop (plc v + 2))).Perm l := by
    conv => rhs; rw [e]
    exact List.Perm.append_left _ (List.Perm.swap _ _ _)
  exact p.nodup_iff.mpr ht.nd
theorem exch_turn : ∀ (w : List Int) {l : List Nat}, Turn l → (∀ v ∈ w, plc v + 1 < l.length) → Turn (exch w l)
  | [], _, ht, _ => ht
  | v :: w, l, ht, h => exch_turn w (exch1_turn ht (h v List.mem_cons_self)) fun u hu => by rw [exch1_len]; exact h u (List.mem_cons_of_mem _ hu)
theorem exch_fix {w : List Int} {l : List Nat} (h : ∀ v ∈ w, plc v + 1 < l.length) : exch w l = l ↔ fixB (exch w (List.range l.length)) l = true := by
  unfold fixB
  rw [List.all_eq_true]
  have hpl : (exch w (List.range l.length)).length = l.length := by rw [exch_len, List.length_range]
  constructor
  · intro e i hi
    rw [List.mem_range, hpl] at hi
    rw [beq_iff_eq, ← exch_at h hi, e]
  · intro q
    refine ext_Gt (by rw [exch_len]) fun i hi => ?_
    rw [exch_len] at hi
    rw [exch_at h hi]
    exact beq_iff_eq.mp (q i (List.mem_range.mpr (by rw [hpl]; exact hi)))
/-- the law's own test by marks -/
theorem marks_fix {p l : List Nat} (hp : Turn p) (hk : ringsOk p = true) : fixB p l = true ↔ ∀ i < p.length, Gt l i = Gt l (Gi (lrings p) i).toNat := by
  unfold ringsOk at hk
  obtain ⟨hk, _⟩ := Bool.and_eq_true_iff.mp hk
  have key : ∀ i < p.length, (Gi (lrings p) i).toNat < p.length ∧ (∃ k, itp p k (Gi (lrings p) i).toNat = i) ∧ Gi (lrings p) (Gt p i) = Gi (lrings p) i := fun i hi => by
    have := List.all_eq_true.mp hk i (List.mem_range.mpr hi)
    simp only [Bool.and_eq_true, decide_eq_true_eq, List.any_eq_true, beq_iff_eq] at this
    obtain ⟨_, h2, ⟨k, _, h3⟩, h4⟩ := this
    exact ⟨h2, ⟨k, h3⟩, h4⟩
  unfold fixB
  rw [List.all_eq_true]
  constructor
  · intro q i hi
    obtain ⟨h1, ⟨k, hk⟩, _⟩ := key i hi
    have st : ∀ k j, j < p.length → itp p k j < p.length ∧ Gt l (itp p k j) = Gt l j := by
      intro k
      induction k with
      | zero => exact fun j hj => ⟨hj, rfl⟩
      | succ k ih =>
        intro j hj
        obtain ⟨a, b⟩ := ih j hj
        exact ⟨Gt_lt hp a, (beq_iff_eq.mp (q _ (List.mem_range.mpr a))).trans b⟩
    have := (st k _ h1).2
    rw [hk] at this
    exact this
  · intro q i hi
    have hi := List.mem_range.mp hi
    obtain ⟨_, _, h4⟩ := key i hi
    rw [beq_iff_eq, q _ (Gt_lt hp hi), h4, ← q i hi]
end Lw

namespace Lw
open PySem PySem.Spec PyProof.Rows L2 Pd
open Py (d)
open Lean in
local macro_rules
  | `(tactic| simp_arith) => `(tactic| try simp only [Pd.wsSeq, Pd.wsNil, Pd.wsRet, Pd.wsRetN, Pd.wsIf, Pd.wsAsg, Pd.wsPar, Pd.wsExpr, Pd.wsBrk, Pd.wsCnt, Pd.wsNever, Pd.wVar, Pd.wC, Pd.wNil, Pd.wCons, Pd.wTup, Pd.wLst, Pd.wtAnd, Pd.wtOr, Pd.wtNot, Pd.wtYes, Pd.wAndV, Pd.wOrV, Pd.wNotV, Pd.wIf, Pd.wNeg,
      Pd.w2, Pd.w3, Pd.wTest, Pd.wNoPart, Pd.wPart, Pd.wSl, Pd.wCall, Pd.wFn, Pd.wIsi, Pd.wMeth, Pd.wApp, Pd.wIndex, Pd.wListRg, Pd.wTupRg, Pd.wRg1, Pd.wRg2, Pd.wRevT, Pd.wDict0, Pd.wLenSet, Pd.wgNm, Pd.wgSub, Pd.wgNil, Pd.wgCons, Pd.wgTup,
      Pd.wsFor, Pd.wComp, Pd.wiSeq, Pd.wiRng1, Pd.wiRng2, Pd.wiEnum, Pd.wiZip, Pd.wiRev, Pd.bind_nm, Pd.bind_two, Pd.bind_tp2, Pd.bind_tp3, Pd.map_inj, Pd.mapI_inj, Int.natCast_inj, Pd.at_nat, List.getElem?_map, Option.map_some, Pd.cell_get, Pd.ls_cell, Pd.sq_cell, Pd.ix_cell, Pd.len_cell, Pd.tuple_cell, Pd.tuple_lst, Pd.tuple_tup, Pd.wipeD_one, Pd.wipeD_two, Pd.wipeD_three, Pd.cut_take, Pd.cut_drop, Pd.cut_mid, Pd.app_map, Pd.isT_t, Pd.isT_l, Pd.isT_r,
      Pd.tyD_non, Pd.tyD_bl, Pd.tyD_int, Pd.tyD_str, Pd.tyD_tup, Pd.tyD_lst, Pd.sqD_tup, Pd.sqD_lst, Pd.lsD_lst, Pd.isi_ii, Pd.isi_ib, Pd.isi_bi, Pd.isi_bb, Pd.isi_tt, Pd.isi_ti, Pd.isi_tb, Pd.isi_ts, Pd.isi_tl, Pd.isi_it, Pd.isi_is, Pd.isi_il, Pd.isi_st, Pd.isi_ss, Pd.isi_si, Pd.isi_sb, Pd.isi_sl, Pd.isi_li, Pd.isi_lb, Pd.isi_ls, Pd.isi_lt, Pd.isi_ll, Pd.isi_ni, Pd.isi_nb, Pd.isi_ns, Pd.isi_nt, Pd.isi_nl, Pd.isi_bt, Pd.isi_bs, Pd.isi_bl,
      Pd.add_int, Pd.add_tup, Pd.add_lst, Pd.i_int, Pd.b_int, Pd.mul_int, Pd.none_non, Pd.ix_tup, Pd.ix_lst, Pd.sl_tup, Pd.sl_lst, Pd.len_tup, Pd.len_lst, Pd.rdEq_intf, Pd.rdEq_intt, Pd.mkL_f, Pd.mkL_t, Pd.d_int, Pd.d_nat, Pd.d_bool, Pd.d_list,
      List.map_cons, List.map_nil, List.cons_append, List.nil_append, List.replicate_zero, List.replicate_succ, List.append_nil, List.getElem?_cons_zero, List.getElem?_cons_succ, List.set_cons_zero, List.set_cons_succ, List.length_cons, List.length_nil, List.length_map,
      Option.some.injEq, Pd.D.bl.injEq, Pd.D.int.injEq, Pd.D.tup.injEq, Pd.D.lst.injEq, Pd.D.ref.injEq, Pd.D.str.injEq, List.cons.injEq, exists_eq_left, exists_eq_left', exists_and_left, and_true, true_and, and_assoc, if_true, if_false, Bool.not_true, Bool.not_false, decide_eq_true_eq, Bool.false_eq_true, ↓reduceIte, reduceCtorEq, exists_const])
  | `(tactic| simp_arith [$ls,*]) => `(tactic| try simp only [Pd.wsSeq, Pd.wsNil, Pd.wsRet, Pd.wsRetN, Pd.wsIf, Pd.wsAsg, Pd.wsPar, Pd.wsExpr, Pd.wsBrk, Pd.wsCnt, Pd.wsNever, Pd.wVar, Pd.wC, Pd.wNil, Pd.wCons, Pd.wTup, Pd.wLst, Pd.wtAnd, Pd.wtOr, Pd.wtNot, Pd.wtYes, Pd.wAndV, Pd.wOrV, Pd.wNotV, Pd.wIf, Pd.wNeg,
      Pd.w2, Pd.w3, Pd.wTest, Pd.wNoPart, Pd.wPart, Pd.wSl, Pd.wCall, Pd.wFn, Pd.wIsi, Pd.wMeth, Pd.wApp, Pd.wIndex, Pd.wListRg, Pd.wTupRg, Pd.wRg1, Pd.wRg2, Pd.wRevT, Pd.wDict0, Pd.wLenSet, Pd.wgNm, Pd.wgSub, Pd.wgNil, Pd.wgCons, Pd.wgTup,
      Pd.wsFor, Pd.wComp, Pd.wiSeq, Pd.wiRng1, Pd.wiRng2, Pd.wiEnum, Pd.wiZip, Pd.wiRev, Pd.bind_nm, Pd.bind_two, Pd.bind_tp2, Pd.bind_tp3, Pd.map_inj, Pd.mapI_inj, Int.natCast_inj, Pd.at_nat, List.getElem?_map, Option.map_some, Pd.cell_get, Pd.ls_cell, Pd.sq_cell, Pd.ix_cell, Pd.len_cell, Pd.tuple_cell, Pd.tuple_lst, Pd.tuple_tup, Pd.wipeD_one, Pd.wipeD_two, Pd.wipeD_three, Pd.cut_take, Pd.cut_drop, Pd.cut_mid, Pd.app_map, Pd.isT_t, Pd.isT_l, Pd.isT_r,
      Pd.tyD_non, Pd.tyD_bl, Pd.tyD_int, Pd.tyD_str, Pd.tyD_tup, Pd.tyD_lst, Pd.sqD_tup, Pd.sqD_lst, Pd.lsD_lst, Pd.isi_ii, Pd.isi_ib, Pd.isi_bi, Pd.isi_bb, Pd.isi_tt, Pd.isi_ti, Pd.isi_tb, Pd.isi_ts, Pd.isi_tl, Pd.isi_it, Pd.isi_is, Pd.isi_il, Pd.isi_st, Pd.isi_ss, Pd.isi_si, Pd.isi_sb, Pd.isi_sl, Pd.isi_li, Pd.isi_lb, Pd.isi_ls, Pd.isi_lt, Pd.isi_ll, Pd.isi_ni, Pd.isi_nb, Pd.isi_ns, Pd.isi_nt, Pd.isi_nl, Pd.isi_bt, Pd.isi_bs, Pd.isi_bl,
      Pd.add_int, Pd.add_tup, Pd.add_lst, Pd.i_int, Pd.b_int, Pd.mul_int, Pd.none_non, Pd.ix_tup, Pd.ix_lst, Pd.sl_tup, Pd.sl_lst, Pd.len_tup, Pd.len_lst, Pd.rdEq_intf, Pd.rdEq_intt, Pd.mkL_f, Pd.mkL_t, Pd.d_int, Pd.d_nat, Pd.d_bool, Pd.d_list,
      List.map_cons, List.map_nil, List.cons_append, List.nil_append, List.replicate_zero, List.replicate_succ, List.append_nil, List.getElem?_cons_zero, List.getElem?_cons_succ, List.set_cons_zero, List.set_cons_succ, List.length_cons, List.length_nil, List.length_map,
      Option.some.injEq, Pd.D.bl.injEq, Pd.D.int.injEq, Pd.D.tup.injEq, Pd.D.lst.injEq, Pd.D.ref.injEq, Pd.D.str.injEq, List.cons.injEq, exists_eq_left, exists_eq_left', exists_and_left, and_true, true_and, and_assoc, if_true, if_false, Bool.not_true, Bool.not_false, decide_eq_true_eq, Bool.false_eq_true, ↓reduceIte, reduceCtorEq, exists_const, $ls,*])
section
variable {R : List (List Nat)} {s : Nat} {w : List Int}
/-- the rows that stay, by laid rows -/
theorem stay_laid (c : CSet R) (cw : Cw s w) {T : List (List (List Nat))} (h : Inv2 (swaps R) T) {r : List Nat} (hr : r ∈ allR R.length s) :
    crs (swaps R) T w r = r ↔ fixB (exch w (List.range s)) (laid R (pl R.length) r) = true := by
  have hl := allR_mem hr
  have hx := allR_lt hr
  have hv : ∀ v ∈ w, plc v + 1 < r.length := fun v hv => by rw [hl]; exact plc_lt cw hv
  rw [c.crs_T h w r hv hx]
  obtain ⟨h1, h2⟩ := crs_ok c.tab c.tab rfl w hv (by rw [swaps_len]; exact hx)
  rw [swaps_len] at h2
  have e := crs_laid c (pl R.length) w r hv hx
  have f := exch_fix (w := w) (l := laid R (pl R.length) r) fun v hv' => by rw [laid_len]; exact hv v hv'
  rw [laid_len, hl] at f
  rw [← f, ← e]
  exact ⟨fun z => by rw [z], fun z => laid_inj c h2 hx z⟩
theorem perm_of {α : Type} [DecidableEq α] : ∀ {a b : List α}, a.Nodup → b.Nodup → a.length = b.length → (∀ x ∈ a, x ∈ b) → a.Perm b
  | [], b, _, _, hl, _ => by rw [List.length_eq_zero_iff.mp hl.symm]
  | x :: a, b, ha, hb, hl, h => by
    obtain ⟨n1, n2⟩ := List.nodup_cons.mp ha
    have hx := h x List.mem_cons_self
    have ih := perm_of (a := a) (b := b.erase x) n2 (hb.erase x) (by rw [List.length_erase_of_mem hx]; simp at hl; omega) fun y hy => (List.mem_erase_of_ne fun e => n1 (by rw [← e]; exact hy)).mpr (h y (List.mem_cons_of_mem _ hy))
    exact (ih.cons x).trans (List.perm_cons_erase hx).symm
theorem allR_nodup (m : Nat) : ∀ s, (allR m s).Nodup
  | 0 => List.nodup_cons.mpr ⟨by simp, List.nodup_nil⟩
  | s + 1 => by
    refine nodup_flatMap (allR_nodup m s) (fun r _ => nodup_map List.nodup_range fun a _ b _ e => by simpa using e) fun a b z h1 h2 => ?_
    obtain ⟨x, _, rfl⟩ := List.mem_map.mp h1
    obtain ⟨y, _, e⟩ := List.mem_map.mp h2
    exact (List.append_inj' e rfl).1.symm
theorem laid_map_perm (c : CSet R) (s : Nat) : ((allR R.length s).map (laid R (pl R.length))).Perm (allR R.length s) := by
  have nd := allR_nodup R.length s
  have nd2 : ((allR R.length s).map (laid R (pl R.length))).Nodup := nodup_map nd fun u hu v hv e => laid_inj c (allR_lt hu) (allR_lt hv) e
  refine perm_of nd2 nd (by rw [List.length_map]) fun x hx => ?_
  obtain ⟨r, hr, rfl⟩ := List.mem_map.mp hx
  exact allR_all (by rw [laid_len, allR_mem hr]) (laid_lt c r _ (pl_turn _) pl_len (allR_lt hr))
theorem stay_count (g : Good R) (cw : Cw s w) (h2 : 2 ≤ s) (h4 : s ≤ 4) {T : List (List (List Nat))} (h : Inv2 (swaps R) T) : (stay (swaps R) T s w).length = R.length ^ rings (exch w (List.range s)) := by
  have hp : Turn (exch w (List.range s)) := exch_turn w (pl_turn s) fun v hv => by rw [List.length_range]; exact plc_lt cw hv
  have hpl : (exch w (List.range s)).length = s := by rw [exch_len, List.length_range]
  have e : stay (swaps R) T s w = (allR R.length s).filter fun r => fixB (exch w (List.range s)) (laid R (pl R.length) r) := by
    unfold stay
    rw [swaps_len]
    refine List.filter_congr fun r hr => ?_
    rw [Bool.eq_iff_iff, decide_eq_true_eq]
    exact stay_laid g.c cw h hr
  have e2 : ((allR R.length s).filter fun r => fixB (exch w (List.range s)) (laid R (pl R.length) r)).length = (((allR R.length s).map (laid R (pl R.length))).filter (fixB (exch w (List.range s)))).length := by
    rw [List.filter_map, List.length_map]; rfl
  rw [e, e2, ((laid_map_perm g.c s).filter _).length_eq]
  exact count_all h2 h4 g.c.pos g.le hp hpl
end
end Lw

namespace Lw
open PySem PySem.Spec PyProof.Rows L2 Pd
open Py (d)
open Lean in
local macro_rules
  | `(tactic| simp_arith) => `(tactic| try simp only [Pd.wsSeq, Pd.wsNil, Pd.wsRet, Pd.wsRetN, Pd.wsIf, Pd.wsAsg, Pd.wsPar, Pd.wsExpr, Pd.wsBrk, Pd.wsCnt, Pd.wsNever, Pd.wVar, Pd.wC, Pd.wNil, Pd.wCons, Pd.wTup, Pd.wLst, Pd.wtAnd, Pd.wtOr, Pd.wtNot, Pd.wtYes, Pd.wAndV, Pd.wOrV, Pd.wNotV, Pd.wIf, Pd.wNeg,
      Pd.w2, Pd.w3, Pd.wTest, Pd.wNoPart, Pd.wPart, Pd.wSl, Pd.wCall, Pd.wFn, Pd.wIsi, Pd.wMeth, Pd.wApp, Pd.wIndex, Pd.wListRg, Pd.wTupRg, Pd.wRg1, Pd.wRg2, Pd.wRevT, Pd.wDict0, Pd.wLenSet, Pd.wgNm, Pd.wgSub, Pd.wgNil, Pd.wgCons, Pd.wgTup,
      Pd.wsFor, Pd.wComp, Pd.wiSeq, Pd.wiRng1, Pd.wiRng2, Pd.wiEnum, Pd.wiZip, Pd.wiRev, Pd.bind_nm, Pd.bind_two, Pd.bind_tp2, Pd.bind_tp3, Pd.map_inj, Pd.mapI_inj, Int.natCast_inj, Pd.at_nat, List.getElem?_map, Option.map_some, Pd.cell_get, Pd.ls_cell, Pd.sq_cell, Pd.ix_cell, Pd.len_cell, Pd.tuple_cell, Pd.tuple_lst, Pd.tuple_tup, Pd.wipeD_one, Pd.wipeD_two, Pd.wipeD_three, Pd.cut_take, Pd.cut_drop, Pd.cut_mid, Pd.app_map, Pd.isT_t, Pd.isT_l, Pd.isT_r,
      Pd.tyD_non, Pd.tyD_bl, Pd.tyD_int, Pd.tyD_str, Pd.tyD_tup, Pd.tyD_lst, Pd.sqD_tup, Pd.sqD_lst, Pd.lsD_lst, Pd.isi_ii, Pd.isi_ib, Pd.isi_bi, Pd.isi_bb, Pd.isi_tt, Pd.isi_ti, Pd.isi_tb, Pd.isi_ts, Pd.isi_tl, Pd.isi_it, Pd.isi_is, Pd.isi_il, Pd.isi_st, Pd.isi_ss, Pd.isi_si, Pd.isi_sb, Pd.isi_sl, Pd.isi_li, Pd.isi_lb, Pd.isi_ls, Pd.isi_lt, Pd.isi_ll, Pd.isi_ni, Pd.isi_nb, Pd.isi_ns, Pd.isi_nt, Pd.isi_nl, Pd.isi_bt, Pd.isi_bs, Pd.isi_bl,
      Pd.add_int, Pd.add_tup, Pd.add_lst, Pd.i_int, Pd.b_int, Pd.mul_int, Pd.none_non, Pd.ix_tup, Pd.ix_lst, Pd.sl_tup, Pd.sl_lst, Pd.len_tup, Pd.len_lst, Pd.rdEq_intf, Pd.rdEq_intt, Pd.mkL_f, Pd.mkL_t, Pd.d_int, Pd.d_nat, Pd.d_bool, Pd.d_list,
      List.map_cons, List.map_nil, List.cons_append, List.nil_append, List.replicate_zero, List.replicate_succ, List.append_nil, List.getElem?_cons_zero, List.getElem?_cons_succ, List.set_cons_zero, List.set_cons_succ, List.length_cons, List.length_nil, List.length_map,
      Option.some.injEq, Pd.D.bl.injEq, Pd.D.int.injEq, Pd.D.tup.injEq, Pd.D.lst.injEq, Pd.D.ref.injEq, Pd.D.str.injEq, List.cons.injEq, exists_eq_left, exists_eq_left', exists_and_left, and_true, true_and, and_assoc, if_true, if_false, Bool.not_true, Bool.not_false, decide_eq_true_eq, Bool.false_eq_true, ↓reduceIte, reduceCtorEq, exists_const])
  | `(tactic| simp_arith [$ls,*]) => `(tactic| try simp only [Pd.wsSeq, Pd.wsNil, Pd.wsRet, Pd.wsRetN, Pd.wsIf, Pd.wsAsg, Pd.wsPar, Pd.wsExpr, Pd.wsBrk, Pd.wsCnt, Pd.wsNever, Pd.wVar, Pd.wC, Pd.wNil, Pd.wCons, Pd.wTup, Pd.wLst, Pd.wtAnd, Pd.wtOr, Pd.wtNot, Pd.wtYes, Pd.wAndV, Pd.wOrV, Pd.wNotV, Pd.wIf, Pd.wNeg,
      Pd.w2, Pd.w3, Pd.wTest, Pd.wNoPart, Pd.wPart, Pd.wSl, Pd.wCall, Pd.wFn, Pd.wIsi, Pd.wMeth, Pd.wApp, Pd.wIndex, Pd.wListRg, Pd.wTupRg, Pd.wRg1, Pd.wRg2, Pd.wRevT, Pd.wDict0, Pd.wLenSet, Pd.wgNm, Pd.wgSub, Pd.wgNil, Pd.wgCons, Pd.wgTup,
      Pd.wsFor, Pd.wComp, Pd.wiSeq, Pd.wiRng1, Pd.wiRng2, Pd.wiEnum, Pd.wiZip, Pd.wiRev, Pd.bind_nm, Pd.bind_two, Pd.bind_tp2, Pd.bind_tp3, Pd.map_inj, Pd.mapI_inj, Int.natCast_inj, Pd.at_nat, List.getElem?_map, Option.map_some, Pd.cell_get, Pd.ls_cell, Pd.sq_cell, Pd.ix_cell, Pd.len_cell, Pd.tuple_cell, Pd.tuple_lst, Pd.tuple_tup, Pd.wipeD_one, Pd.wipeD_two, Pd.wipeD_three, Pd.cut_take, Pd.cut_drop, Pd.cut_mid, Pd.app_map, Pd.isT_t, Pd.isT_l, Pd.isT_r,
      Pd.tyD_non, Pd.tyD_bl, Pd.tyD_int, Pd.tyD_str, Pd.tyD_tup, Pd.tyD_lst, Pd.sqD_tup, Pd.sqD_lst, Pd.lsD_lst, Pd.isi_ii, Pd.isi_ib, Pd.isi_bi, Pd.isi_bb, Pd.isi_tt, Pd.isi_ti, Pd.isi_tb, Pd.isi_ts, Pd.isi_tl, Pd.isi_it, Pd.isi_is, Pd.isi_il, Pd.isi_st, Pd.isi_ss, Pd.isi_si, Pd.isi_sb, Pd.isi_sl, Pd.isi_li, Pd.isi_lb, Pd.isi_ls, Pd.isi_lt, Pd.isi_ll, Pd.isi_ni, Pd.isi_nb, Pd.isi_ns, Pd.isi_nt, Pd.isi_nl, Pd.isi_bt, Pd.isi_bs, Pd.isi_bl,
      Pd.add_int, Pd.add_tup, Pd.add_lst, Pd.i_int, Pd.b_int, Pd.mul_int, Pd.none_non, Pd.ix_tup, Pd.ix_lst, Pd.sl_tup, Pd.sl_lst, Pd.len_tup, Pd.len_lst, Pd.rdEq_intf, Pd.rdEq_intt, Pd.mkL_f, Pd.mkL_t, Pd.d_int, Pd.d_nat, Pd.d_bool, Pd.d_list,
      List.map_cons, List.map_nil, List.cons_append, List.nil_append, List.replicate_zero, List.replicate_succ, List.append_nil, List.getElem?_cons_zero, List.getElem?_cons_succ, List.set_cons_zero, List.set_cons_succ, List.length_cons, List.length_nil, List.length_map,
      Option.some.injEq, Pd.D.bl.injEq, Pd.D.int.injEq, Pd.D.tup.injEq, Pd.D.lst.injEq, Pd.D.ref.injEq, Pd.D.str.injEq, List.cons.injEq, exists_eq_left, exists_eq_left', exists_and_left, and_true, true_and, and_assoc, if_true, if_false, Bool.not_true, Bool.not_false, decide_eq_true_eq, Bool.false_eq_true, ↓reduceIte, reduceCtorEq, exists_const, $ls,*])
theorem in_lstB {α : Type} [DecidableEq α] [Py α] {x : α} {l : List α} {h : DH} {Q : D → DH → Prop} (hk : Py.k α < 64) (b : Bool) (hb : b = true ↔ x ∈ l) (q : Q (.bl b) h) : rdIn false (d x) (.lst (l.map d)) h Q := by
  refine in_lst hk ?_
  have e : decide (x ∈ l) = b := by rw [Bool.eq_iff_iff, decide_eq_true_eq, hb]
  rw [e]; exact q
theorem stay_eq {R : List (List Nat)} {s : Nat} {w : List Int} (c : CSet R) (cw : Cw s w) {T : List (List (List Nat))} (h : Inv2 (swaps R) T) : stay (swaps R) T s w = (allR R.length s).filter fun r => fixB (exch w (List.range s)) (laid R (pl R.length) r) := by
  unfold stay
  rw [swaps_len]
  refine List.filter_congr fun r hr => ?_
  rw [Bool.eq_iff_iff, decide_eq_true_eq]
  exact stay_laid c cw h hr
theorem pl_d {α : Type} [DecidableEq α] [Py α] (a : α) {k : Nat} (h : Py.k α ≤ k) : (d a : D).pl k = true := pl_mono _ h (Py.pl a)
theorem pl_nat (l : List Nat) {k : Nat} (h : 1 ≤ k) : (D.tup (l.map d)).pl k = true := pl_d l h
theorem pl_nat2 (l : List (List Nat)) {k : Nat} (h : 2 ≤ k) : (D.tup (l.map d)).pl k = true := pl_d l h
theorem pl_lst {xs : List D} {k : Nat} (h : ∀ x ∈ xs, x.pl k = true) : (D.lst xs).pl (k + 1) = true := by
  show D.pls k xs = true
  exact pls_all.mpr h
theorem sms_of : ∀ {xs : List D}, (∀ x ∈ xs, sm x = true) → sms xs = true
  | [], _ => rfl
  | x :: xs, h => by
    show (sm x && sms xs) = true
    rw [h x List.mem_cons_self, sms_of fun y hy => h y (List.mem_cons_of_mem _ hy)]; rfl
theorem sm_tup {xs : List D} (hl : xs.length ≤ 1048576) (h : ∀ x ∈ xs, sm x = true) : sm (.tup xs) = true := by
  show (decide (xs.length ≤ 1048576) && sms xs) = true
  rw [decide_eq_true hl, sms_of h]; rfl
theorem sm_lst {xs : List D} (hl : xs.length ≤ 1048576) (h : ∀ x ∈ xs, sm x = true) : sm (.lst xs) = true := by
  show (decide (xs.length ≤ 1048576) && sms xs) = true
  rw [decide_eq_true hl, sms_of h]; rfl
theorem sm_nat {l : List Nat} (hl : l.length ≤ 1048576) : sm (.tup (l.map d)) = true := sm_tup (by rw [List.length_map]; exact hl) fun x hx => by
  obtain ⟨a, _, rfl⟩ := List.mem_map.mp hx; rfl
theorem sm_nat2 {l : List (List Nat)} (hl : l.length ≤ 1048576) (h : ∀ r ∈ l, r.length ≤ 1048576) : sm (.tup (l.map d)) = true := sm_tup (by rw [List.length_map]; exact hl) fun x hx => by
  obtain ⟨a, ha, rfl⟩ := List.mem_map.mp hx
  exact sm_nat (h a ha)
theorem vc__law_crossings_right : VC w__law_crossings_right 1 18 sp__law_crossings_right := by
  rintro ds h Q hl ⟨rfl, hc, q⟩
  simp_arith [w__law_crossings_right, sp__law_rows]
  refine ⟨hc, fun R h1 g hc1 => ?_⟩
  have c := g.c
  have p1 := c.pos
  have p6 := g.le
  have br := c.braid g.sq
  simp_arith
  refine ⟨3, rfl, by decide, by decide, hc1, fun r0 h2 hr0 hc2 => ?_⟩
  obtain ⟨s, hs⟩ : ∃ s : Nat, s = 2 + r0 := ⟨_, rfl⟩
  have es : (2 : Int) + (r0 : Int) = (s : Int) := by omega
  simp_arith [es, sp_swaps_of]
  refine ⟨lsz (by omega), c, 8, rfl, by decide, by decide, hc2, fun k h3 hk hc3 => ?_⟩
  simp_arith
  refine ⟨by omega, by omega, lsz (by rw [rng0_map, List.length_map, List.length_range]; omega), ?_⟩
  rw [Int.toNat_natCast]
  refine comp_j (γ := Int) D.int (fun v => 1 - (s : Int) ≤ v ∧ v ≤ (s : Int) - 2) Cup (fun _ _ => trivial) hc3 (fun i hi h' K hc' hK => ?_) (fun w hw hww h4 hc4 => ?_)
  · simp_arith
    refine ⟨.inr ⟨by omega, by omega⟩, 2 * s - 2, by rw [show ((2 : Int) * (s : Int) - 2) = ((2 * s - 2 : Nat) : Int) by omega], by omega, by omega, hc', fun r h5 hr hc5 => ?_⟩
    simp_arith
    exact hK _ _ ⟨by omega, by omega⟩ hc5
  have cw : Cw s w := ⟨by omega, by omega, by omega, hww⟩
  simp_arith
  refine ⟨by omega, by omega, lsz (by rw [rng0_map, List.length_map, List.length_range]; omega), ?_⟩
  rw [Int.toNat_natCast]
  refine comp_j (γ := Nat) d (fun x => x < R.length) Cup (fun _ _ => trivial) hc4 (fun i hi h' K hc' hK => ?_) (fun row hrl hrow h5 hc5 => ?_)
  · simp_arith [sp__law_roll]
    exact ⟨by omega, by omega, hc', fun r h6 hr hc6 => hK _ _ hr hc6⟩
  have hv : ∀ v ∈ w, plc v + 1 < row.length := fun v hv => by rw [hrl]; exact plc_lt cw hv
  have eT : ∀ T, Inv2 (swaps R) T → crs (swaps R) T w row = crs (swaps R) (swaps R) w row := fun T hT => c.crs_T hT w row hv hrow
  obtain ⟨l1, l2⟩ := crs_ok c.tab c.tab rfl w hv (by rw [swaps_len]; exact hrow)
  have eL := crs_laid c (pl R.length) w row hv hrow
  have eB := c.crs_back (w := w) (row := row) (by rw [hrl]; exact cw) hrow
  rw [swaps_len] at l2
  rw [hrl] at l1
  have laidl : (laid R (pl R.length) row).length = s := by rw [laid_len, hrl]
  refine ⟨swaps R, s, w, row, rfl, br, cw, hrl, by rw [swaps_len]; exact hrow, fun T hT => ?_⟩
  rw [eT T hT]
  generalize crs (swaps R) (swaps R) w row = led at *
  refine ⟨R, row, rfl, c, by omega, hrow, laid R (pl R.length) row, w, _, rfl, .inl rfl, by omega, fun v hv' => by rw [laid_len]; exact hv v hv', ?_⟩
  refine ⟨R, led, rfl, c, by omega, l2, ?_⟩
  simp_arith
  refine ⟨R, led, rfl, c, by omega, l2, R, exch w (laid R (pl R.length) row), rfl, c, by rw [exch_len]; omega, fun x hx => ?_, s, w, rfl, cw, swaps R, s, bkw w, led, rfl, br, cw_bkw cw, l1, by rw [swaps_len]; exact l2, fun T' hT' => ?_⟩
  · rw [← eL] at hx
    exact laid_lt c led _ (pl_turn _) pl_len l2 x hx
  rw [c.crs_T hT' (bkw w) led (fun v hv' => by rw [l1]; exact plc_lt (cw_bkw cw) hv') l2, eB, ← eL, unlaid_laid c led _ (pl_turn _) pl_len l2]
  simp_arith
  have ln : (laid R (pl R.length) led).length = s := by rw [laid_len, l1]
  refine ⟨lsz (by omega), lsz (by omega), _, rfl, pl_lst (k := 5) fun x hx => ?_, sm_lst (by show 4 ≤ _; omega) fun x hx => ?_, ?_⟩
  · simp only [List.mem_cons, List.not_mem_nil, or_false] at hx
    rcases hx with rfl | rfl | rfl | rfl <;> exact pl_nat _ (by omega)
  · simp only [List.mem_cons, List.not_mem_nil, or_false] at hx
    rcases hx with rfl | rfl | rfl | rfl <;> exact sm_nat (by omega)
  simp_arith
  refine ⟨s - 1, by rw [show ((s : Int) - 1) = ((s - 1 : Nat) : Int) by omega], by omega, by omega, hc5, fun at_ h6 hat hc6 => ?_⟩
  refine ⟨R, row, at_, rfl, c, by omega, hrow, by omega, lsz (by omega), swaps R, s, [(at_ : Int)], row, rfl, br, ⟨by omega, by omega, by show 1 ≤ 60; omega, fun v hv => ?_⟩, hrl, by rw [swaps_len]; exact hrow, fun T2 hT2 => ?_⟩
  · rw [List.mem_singleton.mp hv]; omega
  have e1 : crs (swaps R) T2 [(at_ : Int)] row = row.take at_ ++ swp R (Gt row at_) (Gt row (at_ + 1)) ++ row.drop (at_ + 2) := by
    have hp : plc (at_ : Int) = at_ := by unfold plc; rw [if_pos (by omega), Int.toNat_natCast]
    show cr1 (swaps R) T2 row (at_ : Int) = _
    unfold cr1
    rw [if_pos (by omega), hp, swaps_at (hrow _ (Gt_mem (by omega))) (hrow _ (Gt_mem (by omega)))]
    rfl
  rw [e1]
  refine ⟨_, rfl, pl_nat _ (by omega), sm_nat ?_, ?_⟩
  · rw [List.length_append, List.length_append, List.length_take, List.length_drop]
    show min at_ row.length + 2 + (row.length - (at_ + 2)) ≤ 1048576
    omega
  simp_arith
  rw [rgD0]
  have lr : (List.range s).length = s := List.length_range
  refine ⟨rgOk0 (by omega), List.range s, w, _, rfl, .inl rfl, by omega, fun v hv' => by rw [lr, ← hrl]; exact hv v hv', ?_⟩
  have hp : Turn (exch w (List.range s)) := exch_turn w (pl_turn s) fun v hv' => by rw [lr, ← hrl]; exact hv v hv'
  have hpl : (exch w (List.range s)).length = s := by rw [exch_len, lr]
  refine ⟨exch w (List.range s), rfl, by omega, hp.lt, ?_⟩
  have rk := rings_all (by omega) (by omega) hp hpl
  refine ⟨by omega, by omega, lsz (by rw [rng0_map, List.length_map, lr]; omega), ?_⟩
  have lrl : (lrings (exch w (List.range s))).length = s := by
    unfold lrings
    rw [lrows_len _ _ _ List.length_replicate, hpl]
  refine comp_rif trivial (p := fun i => decide (Gi (lrings (exch w (List.range s))) i = i)) (f := fun _ => D.int 1) (fun i hi K hK => ?_) ?_
  · simp_arith [Gi_eq (l := lrings (exch w (List.range s))) (i := i) (by omega)]
    by_cases z : Gi (lrings (exch w (List.range s))) i = i
    · rw [if_pos z]; rw [if_pos (decide_eq_true z)] at hK; exact hK
    · rw [if_neg z]; rw [if_neg (by simpa using z)] at hK; exact hK
  have pw : R.length ^ s ≤ 4096 := Nat.le_trans (Nat.pow_le_pow_left p6 s) (Nat.le_trans (Nat.pow_le_pow_right (by omega) (show s ≤ 4 by omega)) (by decide))
  refine ⟨lsz (by omega), R.length, s, rfl, p1, by omega, by omega, pw, ?_⟩
  have mk : ∀ i, i < s → Gi (lrings (exch w (List.range s))) i = ((Gi (lrings (exch w (List.range s))) i).toNat : Int) ∧ (Gi (lrings (exch w (List.range s))) i).toNat < s := fun i hi => by
    have rk' := (Bool.and_eq_true_iff.mp rk).1
    have := List.all_eq_true.mp rk' i (List.mem_range.mpr (by omega))
    simp only [Bool.and_eq_true, decide_eq_true_eq] at this
    exact ⟨by omega, by omega⟩
  generalize hlm : lrings (exch w (List.range s)) = lm at *
  simp_arith
  refine for_l (fun i env h' => ∃ x8 x9 x10 x14 x15 x16 x17 x18, env = [some (.ref 0), some (d R), some (.int R.length), some (.int s), some (d (swaps R)), some (.tup (w.map .int)), some (d row), some (d led), x8, x9, x10, some (.lst (lm.map .int)),
    some (.int ((List.range s).filter fun i => decide (Gi lm i = i)).length), some (.lst ((((allR R.length s).take i).filter fun r => fixB (exch w (List.range s)) (laid R (pl R.length) r)).map d)), x14, x15, x16, x17, x18] ∧ h' = h6) ⟨_, _, _, _, _, _, _, _, rfl, rfl⟩ ?_ ?_
  · rintro i r env h' K hi hr ⟨x8, x9, x10, x14, x15, x16, x17, x18, rfl, rfl⟩ hK
    have hrm := List.mem_of_getElem? hr
    have hrl' := allR_mem hrm
    have hrx := allR_lt hrm
    have ldl : (laid R (pl R.length) r).length = s := by rw [laid_len, hrl']
    simp_arith
    refine ⟨R, r, rfl, c, by omega, hrx, ?_⟩
    rw [L2.take_next hr, List.filter_append, List.filter_cons, List.filter_nil] at hK
    have mf := marks_fix (l := laid R (pl R.length) r) hp rk
    rw [hlm, hpl] at mf
    generalize laid R (pl R.length) r = ld at *
    simp_arith
    refine ⟨by omega, by omega, lsz (by rw [rng0_map, List.length_map, List.length_range]; omega), ?_⟩
    rw [Int.toNat_natCast]
    have fl : ((allR R.length s).take i).length ≤ 4096 := by rw [List.length_take, allR_len]; omega
    have fl2 := Nat.le_trans (List.length_filter_le (fun r => fixB (exch w (List.range s)) (laid R (pl R.length) r)) ((allR R.length s).take i)) fl
    refine comp_rif trivial (p := fun j => !decide (Gt ld j = Gt ld (Gi lm j).toNat)) (f := fun _ => D.int 1) (fun j hj K hK => ?_) ?_
    · obtain ⟨m1, m2⟩ := mk j hj
      simp_arith [Gt_eq (l := ld) (i := j) (by omega), Gi_eq (l := lm) (i := j) (by omega)]
      rw [m1]
      simp_arith [Gt_eq (l := ld) (i := (Gi lm j).toNat) (by omega)]
      by_cases z : Gt ld j = Gt ld (Gi lm j).toNat
      · rw [decide_eq_true z] at hK ⊢; exact hK
      · rw [decide_eq_false z] at hK ⊢; exact hK
    · have em : ((List.range s).filter fun j => !decide (Gt ld j = Gt ld (Gi lm j).toNat)).map (fun _ => D.int 1) = (((List.range s).filter fun j => !decide (Gt ld j = Gt ld (Gi lm j).toNat)).map fun _ => (1 : Int)).map d := by rw [List.map_map]; rfl
      refine ⟨Nat.zero_le _, ?_⟩
      rw [em]
      refine eq_lst (a := ((List.range s).filter fun j => !decide (Gt ld j = Gt ld (Gi lm j).toNat)).map fun _ => (1 : Int)) (b := []) (by decide) ?_
      have ef : decide (((List.range s).filter fun j => !decide (Gt ld j = Gt ld (Gi lm j).toNat)).map (fun _ => (1 : Int)) = []) = fixB (exch w (List.range s)) ld := by
        rw [Bool.eq_iff_iff, decide_eq_true_eq, mf, List.map_eq_nil_iff, List.filter_eq_nil_iff]
        constructor
        · intro q j hj
          have := q j (List.mem_range.mpr hj)
          exact Decidable.byContradiction fun z => this (by rw [decide_eq_false z]; rfl)
        · intro q j hj
          have := q j (List.mem_range.mp hj)
          rw [decide_eq_true this]; exact Bool.false_ne_true
      rw [if_neg Bool.false_ne_true, ef]
      refine ⟨_, rfl, ?_⟩
      by_cases hf : fixB (exch w (List.range s)) ld = true
      · rw [if_pos hf]
        rw [if_pos hf, List.map_append] at hK
        exact ⟨lsz (by omega), lsz (by omega), hK _ _ ⟨_, _, _, _, _, _, _, _, rfl, rfl⟩⟩
      · rw [if_neg hf]
        rw [if_neg hf, List.append_nil] at hK
        exact hK _ _ ⟨_, _, _, _, _, _, _, _, rfl, rfl⟩
  · rintro env h' ⟨x8, x9, x10, x14, x15, x16, x17, x18, rfl, rfl⟩
    rw [List.take_length]
    have hN : ((List.range s).filter fun i => decide (Gi lm i = i)).length = rings (exch w (List.range s)) := by
      have := beq_iff_eq.mp (Bool.and_eq_true_iff.mp rk).2
      rw [hpl, hlm] at this; exact this
    have hNs : rings (exch w (List.range s)) ≤ s := by
      rw [← hN]
      have := List.length_filter_le (fun i : Nat => decide (Gi lm i = (i : Int))) (List.range s)
      rwa [lr] at this
    rw [hN]
    simp_arith
    refine ⟨by omega, by omega, ?_⟩
    rw [Int.toNat_natCast]
    refine for_r (fun i env h'' => ∃ x8 x9 x10 x14 x16 x17 x18, env = [some (.ref 0), some (d R), some (.int R.length), some (.int s), some (d (swaps R)), some (.tup (w.map .int)), some (d row), some (d led), x8, x9, x10, some (.lst (lm.map .int)),
      some (.int (rings (exch w (List.range s)))), some (.lst (((allR R.length s).filter fun r => fixB (exch w (List.range s)) (laid R (pl R.length) r)).map d)), x14, some (.int (R.length ^ i : Nat)), x16, x17, x18] ∧ h'' = h') ⟨_, _, _, _, _, _, _, rfl, rfl⟩ ?_ ?_
    · rintro i env h'' K hi ⟨x8, x9, x10, x14, x16, x17, x18, rfl, rfl⟩ hK
      simp_arith
      rw [Nat.pow_succ, Int.natCast_mul] at hK
      exact ⟨.inr ⟨by omega, by omega⟩, hK _ _ ⟨_, _, _, _, _, _, _, rfl, rfl⟩⟩
    · rintro env h'' ⟨x8, x9, x10, x14, x16, x17, x18, rfl, rfl⟩
      simp_arith [sp_count_rings, sp_rings_in]
      have few : Few (swaps R) s w := ⟨br, cw, by rw [swaps_len]; exact pw⟩
      refine ⟨cw, swaps R, s, w, rfl, few, fun T3 hT3 => ⟨swaps R, s, w, rfl, few, fun T4 hT4 => ⟨swaps R, s, w, row, rfl, br, cw, by omega, by rw [swaps_len]; exact hrow, fun T5 hT5 => ?_⟩⟩⟩
      rw [stay_count g cw (by omega) (by omega) hT3, stay_eq c cw hT4, d_list]
      have eb : decide (row.length = s ∧ crs (swaps R) T5 w row = row) = true ↔ row ∈ (allR R.length s).filter fun r => fixB (exch w (List.range s)) (laid R (pl R.length) r) := by
        have hm := allR_all hrl hrow
        rw [decide_eq_true_eq, List.mem_filter, ← stay_laid c cw hT5 hm]
        exact ⟨fun z => ⟨hm, z.2⟩, fun z => ⟨hrl, z.2⟩⟩
      have fl := Nat.le_trans (List.length_filter_le (fun r => fixB (exch w (List.range s)) (laid R (pl R.length) r)) (allR R.length s)) (by rw [allR_len]; exact pw)
      refine ⟨lsz (by omega), in_lstB (α := List Nat) (by decide) _ eb ⟨lsz (by omega), _, rfl, pl_lst (k := 5) fun x hx => ?_, sm_lst (by show 4 ≤ _; omega) fun x hx => ?_, ret_now (q _ hc6)⟩⟩
      · simp only [List.mem_cons, List.not_mem_nil, or_false] at hx
        rcases hx with rfl | rfl | rfl | rfl
        · rfl
        · rfl
        · exact pl_nat2 _ (by omega)
        · rfl
      · simp only [List.mem_cons, List.not_mem_nil, or_false] at hx
        rcases hx with rfl | rfl | rfl | rfl
        · rfl
        · rfl
        · exact sm_nat2 (by omega) fun r hr => by rw [allR_mem (List.mem_filter.mp hr).1]; omega
        · rfl
end Lw

namespace Lw
open PySem PySem.Spec PyProof.Rows L2 Pd
open Py (d)
open Lean in
local macro_rules
  | `(tactic| simp_arith) => `(tactic| try simp only [Pd.wsSeq, Pd.wsNil, Pd.wsRet, Pd.wsRetN, Pd.wsIf, Pd.wsAsg, Pd.wsPar, Pd.wsExpr, Pd.wsBrk, Pd.wsCnt, Pd.wsNever, Pd.wVar, Pd.wC, Pd.wNil, Pd.wCons, Pd.wTup, Pd.wLst, Pd.wtAnd, Pd.wtOr, Pd.wtNot, Pd.wtYes, Pd.wAndV, Pd.wOrV, Pd.wNotV, Pd.wIf, Pd.wNeg,
      Pd.w2, Pd.w3, Pd.wTest, Pd.wNoPart, Pd.wPart, Pd.wSl, Pd.wCall, Pd.wFn, Pd.wIsi, Pd.wMeth, Pd.wApp, Pd.wIndex, Pd.wListRg, Pd.wTupRg, Pd.wRg1, Pd.wRg2, Pd.wRevT, Pd.wDict0, Pd.wLenSet, Pd.wgNm, Pd.wgSub, Pd.wgNil, Pd.wgCons, Pd.wgTup,
      Pd.wsFor, Pd.wComp, Pd.wiSeq, Pd.wiRng1, Pd.wiRng2, Pd.wiEnum, Pd.wiZip, Pd.wiRev, Pd.bind_nm, Pd.bind_two, Pd.bind_tp2, Pd.bind_tp3, Pd.map_inj, Pd.mapI_inj, Int.natCast_inj, Pd.at_nat, List.getElem?_map, Option.map_some, Pd.cell_get, Pd.ls_cell, Pd.sq_cell, Pd.ix_cell, Pd.len_cell, Pd.tuple_cell, Pd.tuple_lst, Pd.tuple_tup, Pd.wipeD_one, Pd.wipeD_two, Pd.wipeD_three, Pd.cut_take, Pd.cut_drop, Pd.cut_mid, Pd.app_map, Pd.isT_t, Pd.isT_l, Pd.isT_r,
      Pd.tyD_non, Pd.tyD_bl, Pd.tyD_int, Pd.tyD_str, Pd.tyD_tup, Pd.tyD_lst, Pd.sqD_tup, Pd.sqD_lst, Pd.lsD_lst, Pd.isi_ii, Pd.isi_ib, Pd.isi_bi, Pd.isi_bb, Pd.isi_tt, Pd.isi_ti, Pd.isi_tb, Pd.isi_ts, Pd.isi_tl, Pd.isi_it, Pd.isi_is, Pd.isi_il, Pd.isi_st, Pd.isi_ss, Pd.isi_si, Pd.isi_sb, Pd.isi_sl, Pd.isi_li, Pd.isi_lb, Pd.isi_ls, Pd.isi_lt, Pd.isi_ll, Pd.isi_ni, Pd.isi_nb, Pd.isi_ns, Pd.isi_nt, Pd.isi_nl, Pd.isi_bt, Pd.isi_bs, Pd.isi_bl,
      Pd.add_int, Pd.add_tup, Pd.add_lst, Pd.i_int, Pd.b_int, Pd.mul_int, Pd.none_non, Pd.ix_tup, Pd.ix_lst, Pd.sl_tup, Pd.sl_lst, Pd.len_tup, Pd.len_lst, Pd.rdEq_intf, Pd.rdEq_intt, Pd.mkL_f, Pd.mkL_t, Pd.d_int, Pd.d_nat, Pd.d_bool, Pd.d_list,
      List.map_cons, List.map_nil, List.cons_append, List.nil_append, List.replicate_zero, List.replicate_succ, List.append_nil, List.getElem?_cons_zero, List.getElem?_cons_succ, List.set_cons_zero, List.set_cons_succ, List.length_cons, List.length_nil, List.length_map,
      Option.some.injEq, Pd.D.bl.injEq, Pd.D.int.injEq, Pd.D.tup.injEq, Pd.D.lst.injEq, Pd.D.ref.injEq, Pd.D.str.injEq, List.cons.injEq, exists_eq_left, exists_eq_left', exists_and_left, and_true, true_and, and_assoc, if_true, if_false, Bool.not_true, Bool.not_false, decide_eq_true_eq, Bool.false_eq_true, ↓reduceIte, reduceCtorEq, exists_const])
  | `(tactic| simp_arith [$ls,*]) => `(tactic| try simp only [Pd.wsSeq, Pd.wsNil, Pd.wsRet, Pd.wsRetN, Pd.wsIf, Pd.wsAsg, Pd.wsPar, Pd.wsExpr, Pd.wsBrk, Pd.wsCnt, Pd.wsNever, Pd.wVar, Pd.wC, Pd.wNil, Pd.wCons, Pd.wTup, Pd.wLst, Pd.wtAnd, Pd.wtOr, Pd.wtNot, Pd.wtYes, Pd.wAndV, Pd.wOrV, Pd.wNotV, Pd.wIf, Pd.wNeg,
      Pd.w2, Pd.w3, Pd.wTest, Pd.wNoPart, Pd.wPart, Pd.wSl, Pd.wCall, Pd.wFn, Pd.wIsi, Pd.wMeth, Pd.wApp, Pd.wIndex, Pd.wListRg, Pd.wTupRg, Pd.wRg1, Pd.wRg2, Pd.wRevT, Pd.wDict0, Pd.wLenSet, Pd.wgNm, Pd.wgSub, Pd.wgNil, Pd.wgCons, Pd.wgTup,
      Pd.wsFor, Pd.wComp, Pd.wiSeq, Pd.wiRng1, Pd.wiRng2, Pd.wiEnum, Pd.wiZip, Pd.wiRev, Pd.bind_nm, Pd.bind_two, Pd.bind_tp2, Pd.bind_tp3, Pd.map_inj, Pd.mapI_inj, Int.natCast_inj, Pd.at_nat, List.getElem?_map, Option.map_some, Pd.cell_get, Pd.ls_cell, Pd.sq_cell, Pd.ix_cell, Pd.len_cell, Pd.tuple_cell, Pd.tuple_lst, Pd.tuple_tup, Pd.wipeD_one, Pd.wipeD_two, Pd.wipeD_three, Pd.cut_take, Pd.cut_drop, Pd.cut_mid, Pd.app_map, Pd.isT_t, Pd.isT_l, Pd.isT_r,
      Pd.tyD_non, Pd.tyD_bl, Pd.tyD_int, Pd.tyD_str, Pd.tyD_tup, Pd.tyD_lst, Pd.sqD_tup, Pd.sqD_lst, Pd.lsD_lst, Pd.isi_ii, Pd.isi_ib, Pd.isi_bi, Pd.isi_bb, Pd.isi_tt, Pd.isi_ti, Pd.isi_tb, Pd.isi_ts, Pd.isi_tl, Pd.isi_it, Pd.isi_is, Pd.isi_il, Pd.isi_st, Pd.isi_ss, Pd.isi_si, Pd.isi_sb, Pd.isi_sl, Pd.isi_li, Pd.isi_lb, Pd.isi_ls, Pd.isi_lt, Pd.isi_ll, Pd.isi_ni, Pd.isi_nb, Pd.isi_ns, Pd.isi_nt, Pd.isi_nl, Pd.isi_bt, Pd.isi_bs, Pd.isi_bl,
      Pd.add_int, Pd.add_tup, Pd.add_lst, Pd.i_int, Pd.b_int, Pd.mul_int, Pd.none_non, Pd.ix_tup, Pd.ix_lst, Pd.sl_tup, Pd.sl_lst, Pd.len_tup, Pd.len_lst, Pd.rdEq_intf, Pd.rdEq_intt, Pd.mkL_f, Pd.mkL_t, Pd.d_int, Pd.d_nat, Pd.d_bool, Pd.d_list,
      List.map_cons, List.map_nil, List.cons_append, List.nil_append, List.replicate_zero, List.replicate_succ, List.append_nil, List.getElem?_cons_zero, List.getElem?_cons_succ, List.set_cons_zero, List.set_cons_succ, List.length_cons, List.length_nil, List.length_map,
      Option.some.injEq, Pd.D.bl.injEq, Pd.D.int.injEq, Pd.D.tup.injEq, Pd.D.lst.injEq, Pd.D.ref.injEq, Pd.D.str.injEq, List.cons.injEq, exists_eq_left, exists_eq_left', exists_and_left, and_true, true_and, and_assoc, if_true, if_false, Bool.not_true, Bool.not_false, decide_eq_true_eq, Bool.false_eq_true, ↓reduceIte, reduceCtorEq, exists_const, $ls,*])
abbrev wF : List (List Nat) := [[1, 0], [1, 0]]
abbrev wQ : List (List Nat) := [[0, 1, 3, 2], [3, 2, 0, 1], [2, 3, 1, 0], [1, 0, 2, 3]]
theorem goodF : Good wF := stock_good wF (by decide)
theorem goodQ : Good wQ := stock_good wQ (by decide)
theorem vc__law_written_right : VC w__law_written_right 0 5 sp__law_written_right := by
  rintro ds h Q hl ⟨rfl, q⟩
  have z : ∀ n : Nat, n ≤ 100 → n ≤ sizeLine := fun n hn => lsz (by omega)
  simp_arith [w__law_written_right]
  repeat' first
    | refine ⟨z _ (by decide), ?_⟩
  have cw : ∀ (s : Nat) (w : List Int), (decide (1 ≤ s) && (decide (s ≤ 8) && (decide (w.length ≤ 60) && w.all fun v => decide (1 - (s : Int) ≤ v ∧ v ≤ (s : Int) - 2)))) = true → Cw s w := fun s w h => by
    simp only [Bool.and_eq_true, decide_eq_true_eq, List.all_eq_true] at h
    exact ⟨h.1, h.2.1, h.2.2.1, h.2.2.2⟩
  have bQ := goodQ.c.braid goodQ.sq
  have bF := goodF.c.braid goodF.sq
  have lQ : (swaps wQ).length = 4 := swaps_len
  have lF : (swaps wF).length = 2 := swaps_len
  have c1 := cw 3 [0, 1] (by decide)
  have tr : ∀ (T : List (List (List Nat))) (w : List Int) (row : List Nat), Inv2 (swaps wQ) T → Cw row.length w → (∀ x ∈ row, x < 4) → crs (swaps wQ) T w row = crs (swaps wQ) (swaps wQ) w row := fun T w row hT hc hr =>
    goodQ.c.crs_T hT w row (fun v hv => plc_lt hc hv) hr
  refine ⟨wF, rfl, goodF.c, wQ, rfl, goodQ.c, z _ (by decide), 3, [0, 1], rfl, c1, z _ (by decide), z _ (by decide), swaps wQ, 3, [0, 1], [0, 1, 2], rfl, bQ, c1, rfl, by rw [lQ]; decide, fun T1 hT1 => ?_⟩
  rw [tr T1 [0, 1] [0, 1, 2] hT1 c1 (by decide), show crs (swaps wQ) (swaps wQ) [0, 1] [0, 1, 2] = [1, 2, 0] by decide +kernel]
  refine ⟨z _ (by decide), z _ (by decide), swaps wQ, 3, [-2, -1], [1, 2, 0], rfl, bQ, cw 3 [-2, -1] (by decide), rfl, by rw [lQ]; decide, fun T2 hT2 => ?_⟩
  rw [tr T2 [-2, -1] [1, 2, 0] hT2 (cw 3 [-2, -1] (by decide)) (by decide), show crs (swaps wQ) (swaps wQ) [-2, -1] [1, 2, 0] = [0, 1, 2] by decide +kernel]
  refine ⟨z _ (by decide), wQ, [0, 1, 2], rfl, goodQ.c, by decide, by decide, ?_⟩
  rw [show laid wQ (pl wQ.length) [0, 1, 2] = [0, 1, 1] by decide +kernel]
  refine ⟨z _ (by decide), z _ (by decide), z _ (by decide), z _ (by decide), z _ (by decide), z _ (by decide), .lst [.tup [.int (-2), .int (-1)], .tup [.int 1, .int 2, .int 0], .tup [.int 0, .int 1, .int 2], .tup [.int 0, .int 1, .int 1]], rfl, by decide, by decide, ?_⟩
  have c2 := cw 3 [0, 0] (by decide)
  have c3 := cw 1 [] (by decide)
  have c4 := cw 2 [] (by decide)
  have c5 := cw 2 [0] (by decide)
  refine ⟨true, rfl, ?_⟩
  rw [if_neg (by decide)]
  refine ⟨z _ (by decide), 3, [0, 1], rfl, c1, z _ (by decide), 3, [0, 0], rfl, c2, z _ (by decide), 1, [], rfl, c3, z _ (by decide), swaps wQ, 3, [0, 1], rfl, ⟨bQ, c1, by rw [lQ]; decide⟩, fun T3 hT3 => ?_⟩
  rw [stay_count goodQ c1 (by decide) (by decide) hT3, show rings (exch [0, 1] (List.range 3)) = 1 by decide +kernel, show rings (exch [0, 0] (List.range 3)) = 3 by decide +kernel, show rings (exch [] (List.range 1)) = 1 by decide +kernel]
  refine ⟨z _ (by decide), swaps wQ, 2, [], rfl, ⟨bQ, c4, by rw [lQ]; decide⟩, fun T4 hT4 => ?_⟩
  rw [stay_count goodQ c4 (by decide) (by decide) hT4, show rings (exch [] (List.range 2)) = 2 by decide +kernel]
  refine ⟨z _ (by decide), z _ (by decide), .lst [.int 1, .int 3, .int 1, .int 4, .int 16], rfl, by decide, by decide, true, rfl, ?_⟩
  rw [if_neg (by decide)]
  refine ⟨z _ (by decide), swaps wF, 2, [0], rfl, ⟨bF, c5, by rw [lF]; decide⟩, fun T5 hT5 => ?_⟩
  rw [stay_eq goodF.c c5 hT5, show ((allR wF.length 2).filter fun r => fixB (exch [0] (List.range 2)) (laid wF (pl wF.length) r)) = [[0, 1], [1, 0]] by decide +kernel]
  refine ⟨z _ (by decide), z _ (by decide), swaps wQ, 2, [0], [1, 2], rfl, bQ, c5, by decide, by rw [lQ]; decide, fun T6 hT6 => ?_⟩
  rw [tr T6 [0] [1, 2] hT6 c5 (by decide), show decide (([1, 2] : List Nat).length = 2 ∧ crs (swaps wQ) (swaps wQ) [0] [1, 2] = [1, 2]) = true by decide +kernel]
  refine ⟨z _ (by decide), z _ (by decide), swaps wQ, 2, [0], [0, 1], rfl, bQ, c5, by decide, by rw [lQ]; decide, fun T7 hT7 => ?_⟩
  rw [tr T7 [0] [0, 1] hT7 c5 (by decide), show decide (([0, 1] : List Nat).length = 2 ∧ crs (swaps wQ) (swaps wQ) [0] [0, 1] = [0, 1]) = false by decide +kernel]
  refine ⟨z _ (by decide), z _ (by decide), swaps wQ, 2, [0], [1], rfl, bQ, c5, by decide, by rw [lQ]; decide, fun T8 hT8 => ?_⟩
  rw [decide_eq_false (fun q : ([1] : List Nat).length = 2 ∧ _ => absurd q.1 (by decide))]
  exact ⟨z _ (by decide), z _ (by decide), z _ (by decide), z _ (by decide), z _ (by decide), .lst [.tup [.tup [.int 0, .int 1], .tup [.int 1, .int 0]], .bl true, .bl false, .bl false], rfl, by decide, by decide, ret_now q⟩
end Lw

namespace Lw
open PySem PySem.Spec PyProof.Rows L2 Pd
def top (i : Nat) : Stmt := PySem.Challenge.pw_swapsagree_k93_whole_crossings_by_places.main.body.getD i (.Pass ⟨0, 0, 0, 0⟩)
def dOf (at_ name : Str) (i : Nat) : He.DefD := ⟨(at_, none), name, name, defArgs (top i), defBody (top i), defScope (top i), [], []⟩
def fn0 : List He.DefD := [dOf "is_whole" "is_whole" 9, dOf "need_whole" "need_whole" 10, dOf "is_tuple_of" "is_tuple_of" 11, dOf "are_wholes" "are_wholes" 12, dOf "is_swap_row" "is_swap_row" 15, dOf "is_swap_table" "is_swap_table" 16, dOf "rows_in" "rows_in" 18, dOf "columns_in" "columns_in" 19, dOf "first_double" "first_double" 20, dOf "ahead_of" "ahead_of" 22, dOf "behind_of" "behind_of" 23, dOf "both_ways" "both_ways" 24, dOf "is_three_at" "is_three_at" 25, dOf "first_three" "first_three" 26, dOf "is_turn" "is_turn" 29, dOf "joined_of" "joined_of" 30, dOf "back_of" "back_of" 31, dOf "plain_of" "plain_of" 32, dOf "pairs_of" "pairs_of" 34, dOf "first_alike" "first_alike" 35, dOf "back_table" "back_table" 36, dOf "first_fault" "first_fault" 38, dOf "need_braid" "need_braid" 39, dOf "is_crossing_in" "is_crossing_in" 43, dOf "need_crossing" "need_crossing" 44, dOf "place_of" "place_of" 45, dOf "crossed_by" "crossed_by" 46, dOf "crossed_in" "crossed_in" 47, dOf "rings_in" "rings_in" 48, dOf "crossed" "crossed" 49]
def fn1 : List He.DefD := [dOf "back_word" "back_word" 50, dOf "count_rings" "count_rings" 51, dOf "all_rows" "all_rows" 54, dOf "need_few" "need_few" 55, dOf "colours_in" "colours_in" 56, dOf "colours_of" "colours_of" 57, dOf "count_colours" "count_colours" 58, dOf "is_colour" "is_colour" 59, dOf "are_turn_rows" "are_turn_rows" 61, dOf "first_unlike" "first_unlike" 62, dOf "is_cycle_set" "is_cycle_set" 63, dOf "need_cycle_set" "need_cycle_set" 64, dOf "swap_pair" "swap_pair" 65, dOf "swaps_of" "swaps_of" 66, dOf "is_word_of" "is_word_of" 69, dOf "need_word" "need_word" 70, dOf "letter_adding" "letter_adding" 71, dOf "turns_of" "turns_of" 73, dOf "laid_of" "laid_of" 74, dOf "word_of_laid" "word_of_laid" 75, dOf "laid_row" "laid_row" 76, dOf "word_laid" "word_laid" 77, dOf "swapped_of" "swapped_of" 79, dOf "swapped_at" "swapped_at" 80, dOf "_law_cup" "_law_cup" 82, dOf "_law_roll" "_law_roll" 83, dOf "_law_some" "_law_some" 84, dOf "_law_sort" "_law_sort" 85, dOf "_law_like" "_law_like" 86, dOf "_law_turn" "_law_turn" 87]
def fn2 : List He.DefD := [dOf "_law_stock" "_law_stock" 88, dOf "_law_beside" "_law_beside" 89, dOf "_law_renamed" "_law_renamed" 90, dOf "_law_rows" "_law_rows" 91, dOf "_law_laid" "_law_laid" 92, dOf "_law_exchanged" "_law_exchanged" 93, dOf "_law_rings" "_law_rings" 94, dOf "_law_all_rows" "_law_all_rows" 95, dOf "_law_crossings_right" "_law_crossings_right" 96, dOf "_law_written_right" "_law_written_right" 97, dOf "law" "law" 98]
def fn : List He.DefD := fn0 ++ (fn1 ++ (fn2))
def fa0 : List He.Fa := [.glo "is_whole", .glo "need_whole", .glo "is_tuple_of", .glo "are_wholes", .glo "is_swap_row", .glo "is_swap_table", .glo "rows_in", .glo "columns_in", .glo "first_double", .glo "ahead_of", .glo "behind_of", .glo "both_ways", .glo "is_three_at", .glo "first_three", .glo "is_turn", .glo "joined_of", .glo "back_of", .glo "plain_of", .glo "pairs_of", .glo "first_alike", .glo "back_table", .glo "first_fault", .glo "need_braid", .glo "is_crossing_in", .glo "need_crossing", .glo "place_of", .glo "crossed_by", .glo "crossed_in", .glo "rings_in", .glo "crossed"]
def fa1 : List He.Fa := [.glo "back_word", .glo "count_rings", .glo "all_rows", .glo "need_few", .glo "colours_in", .glo "colours_of", .glo "count_colours", .glo "is_colour", .glo "are_turn_rows", .glo "first_unlike", .glo "is_cycle_set", .glo "need_cycle_set", .glo "swap_pair", .glo "swaps_of", .glo "is_word_of", .glo "need_word", .glo "letter_adding", .glo "turns_of", .glo "laid_of", .glo "word_of_laid", .glo "laid_row", .glo "word_laid", .glo "swapped_of", .glo "swapped_at", .glo "_law_cup", .glo "_law_roll", .glo "_law_some", .glo "_law_sort", .glo "_law_like", .glo "_law_turn"]
def fa2 : List He.Fa := [.glo "_law_stock", .glo "_law_beside", .glo "_law_renamed", .glo "_law_rows", .glo "_law_laid", .glo "_law_exchanged", .glo "_law_rings", .glo "_law_all_rows", .glo "_law_crossings_right", .glo "_law_written_right", .glo "law", .free "abs", .free "all", .free "bool", .free "enumerate", .free "int", .free "isinstance", .free "len", .free "list", .free "range", .free "set", .free "sorted", .free "str", .free "tuple", .free "zip", .int "LETTERS" 16, .int "THINGS" 60, .int "STRANDS" 8, .int "LONG_crossings" 60, .int "ROWS" 4096]
def fa3 : List He.Fa := [.int "LONG_words" 60]
def fa : List He.Fa := fa0 ++ (fa1 ++ (fa2 ++ (fa3)))
def loose0 : List Str := ["__name__", "SwapError", "InvalidNumber", "InvalidSwaps", "InvalidCycle", "InvalidWord", "InvalidRow", "TooMany", "is_whole", "need_whole", "is_tuple_of", "are_wholes", "LETTERS", "is_swap_row", "is_swap_table", "rows_in", "columns_in", "first_double", "ahead_of", "behind_of", "both_ways", "is_three_at", "first_three", "THINGS", "is_turn", "joined_of", "back_of", "plain_of", "pairs_of", "first_alike"]
def loose1 : List Str := ["back_table", "first_fault", "need_braid", "STRANDS", "LONG_crossings", "is_crossing_in", "need_crossing", "place_of", "crossed_by", "crossed_in", "rings_in", "crossed", "back_word", "count_rings", "ROWS", "all_rows", "need_few", "colours_in", "colours_of", "count_colours", "is_colour", "are_turn_rows", "first_unlike", "is_cycle_set", "need_cycle_set", "swap_pair", "swaps_of", "LONG_words", "is_word_of", "need_word"]
def loose2 : List Str := ["letter_adding", "turns_of", "laid_of", "word_of_laid", "laid_row", "word_laid", "swapped_of", "swapped_at", "_law_cup", "_law_roll", "_law_some", "_law_sort", "_law_like", "_law_turn", "_law_stock", "_law_beside", "_law_renamed", "_law_rows", "_law_laid", "_law_exchanged", "_law_rings", "_law_all_rows", "_law_crossings_right", "_law_written_right"]
def loose : List Str := loose0 ++ (loose1 ++ (loose2))
section
variable {W : Wv} {hh : Heap}
theorem g_abs (F : Fx fa fn W hh) : W.mg "abs" = none := F.free 71 rfl
theorem g_all (F : Fx fa fn W hh) : W.mg "all" = none := F.free 72 rfl
theorem g_bool (F : Fx fa fn W hh) : W.mg "bool" = none := F.free 73 rfl
theorem g_enumerate (F : Fx fa fn W hh) : W.mg "enumerate" = none := F.free 74 rfl
theorem g_int (F : Fx fa fn W hh) : W.mg "int" = none := F.free 75 rfl
theorem g_isinstance (F : Fx fa fn W hh) : W.mg "isinstance" = none := F.free 76 rfl
theorem g_len (F : Fx fa fn W hh) : W.mg "len" = none := F.free 77 rfl
theorem g_list (F : Fx fa fn W hh) : W.mg "list" = none := F.free 78 rfl
theorem g_range (F : Fx fa fn W hh) : W.mg "range" = none := F.free 79 rfl
theorem g_set (F : Fx fa fn W hh) : W.mg "set" = none := F.free 80 rfl
theorem g_sorted (F : Fx fa fn W hh) : W.mg "sorted" = none := F.free 81 rfl
theorem g_str (F : Fx fa fn W hh) : W.mg "str" = none := F.free 82 rfl
theorem g_tuple (F : Fx fa fn W hh) : W.mg "tuple" = none := F.free 83 rfl
theorem g_zip (F : Fx fa fn W hh) : W.mg "zip" = none := F.free 84 rfl
theorem g_LETTERS (F : Fx fa fn W hh) : ∃ t, W.mg "LETTERS" = some (.int 16 t) := F.int 85 rfl
theorem g_THINGS (F : Fx fa fn W hh) : ∃ t, W.mg "THINGS" = some (.int 60 t) := F.int 86 rfl
theorem g_STRANDS (F : Fx fa fn W hh) : ∃ t, W.mg "STRANDS" = some (.int 8 t) := F.int 87 rfl
theorem g_LONG_crossings (F : Fx fa fn W hh) : ∃ t, W.mg "LONG_crossings" = some (.int 60 t) := F.int 88 rfl
theorem g_ROWS (F : Fx fa fn W hh) : ∃ t, W.mg "ROWS" = some (.int 4096 t) := F.int 89 rfl
theorem g_LONG_words (F : Fx fa fn W hh) : ∃ t, W.mg "LONG_words" = some (.int 60 t) := F.int 90 rfl
theorem ok__law_sort (F : Fx fa fn W hh) : FnAt W 1 "_law_sort" ["value"] sp__law_sort := by
  obtain ⟨fd, D⟩ := F.def_ 57 (d := dOf "_law_sort" "_law_sort" 85) rfl
  have m_isinstance := g_isinstance F
  have m_tuple := g_tuple F
  have m_list := g_list F
  have m_int := g_int F
  have m_str := g_str F
  have m_bool := g_bool F
  refine fnAt_of (k := 0) (N := N__law_sort) D ⟨rfl, rfl, rfl, by decide +kernel, rfl, by decide +kernel, by decide +kernel⟩ (F.glo 57 rfl) (fun _ _ _ _ _ _ us hl => match us, hl with | [_], _ => rfl) (fun f cdv A outer s H E hr => ?_) (n := 1) (m := 0) rfl rfl vc__law_sort
  have hu1 := room1 hr
  have hu64 := room64 hr
  have hu65 := room65 hr
  have hnd : (N__law_sort).Nodup := by decide +kernel
  exact pd_sCons (pd_sIf (PW.pt (pd_or (pd_cmpT op_isN lift_isN (pd_var rfl (Or.inl rfl) rfl rfl) (pd_non) rfl) (pd_or1 (pd_val (pd_isi (T := "bool") (TT := "bool") rfl m_isinstance rfl m_bool rfl (by decide) rfl (pd_var rfl (Or.inl rfl) rfl rfl) rfl rfl) (fun _ => rfl))))) (pd_sCons (pd_ret (pd_if (pd_cmpT op_isN lift_isN (pd_var rfl (Or.inl rfl) rfl rfl) (pd_non) rfl) (pd_int) (pd_int))) (pd_sNil)) (pd_sNil)) (pd_sCons (pd_sIf (PW.pt (pd_or (pd_val (pd_isi (T := "int") (TT := "int") rfl m_isinstance rfl m_int rfl (by decide) rfl (pd_var rfl (Or.inl rfl) rfl rfl) rfl rfl) (fun _ => rfl)) (pd_or1 (pd_val (pd_isi (T := "str") (TT := "str") rfl m_isinstance rfl m_str rfl (by decide) rfl (pd_var rfl (Or.inl rfl) rfl rfl) rfl rfl) (fun _ => rfl))))) (pd_sCons (pd_ret (pd_if (pd_val (pd_isi (T := "int") (TT := "int") rfl m_isinstance rfl m_int rfl (by decide) rfl (pd_var rfl (Or.inl rfl) rfl rfl) rfl rfl) (fun _ => rfl)) (pd_int) (pd_int))) (pd_sNil)) (pd_sNil)) (pd_sCons (pd_ret (pd_if (pd_val (pd_isi (T := "tuple") (TT := "tuple") rfl m_isinstance rfl m_tuple rfl (by decide) rfl (pd_var rfl (Or.inl rfl) rfl rfl) rfl rfl) (fun _ => rfl)) (pd_int) (pd_if (pd_val (pd_isi (T := "list") (TT := "list") rfl m_isinstance rfl m_list rfl (by decide) rfl (pd_var rfl (Or.inl rfl) rfl rfl) rfl rfl) (fun _ => rfl)) (pd_int) (pd_int)))) (pd_sNil)))
theorem fd__law_like (F : Fx fa fn W hh) : ∃ fd, FunD W.K "_law_like" "_law_like" (defArgs (top 86)) (defBody (top 86)) (defScope (top 86)) [] [] (He.fAd W.K ("_law_like", none)) fd := F.def_ 58 (d := dOf "_law_like" "_law_like" 86) rfl
theorem step__law_like (F : Fx fa fn W hh) {j k : Nat} (hj : j ≤ k) (h1 : 1 ≤ k) {s sp : SpD} (c__law_like : FnAt W j "_law_like" ["one", "other"] s) (vc : VC (w__law_like s) 2 3 sp) : FnAt W (k + 1) "_law_like" ["one", "other"] sp := by
  obtain ⟨fd, D⟩ := fd__law_like F
  have c__law_sort := ok__law_sort F
  have m_len := g_len F
  have m_zip := g_zip F
  refine fnAt_of (k := k) (N := N__law_like) D ⟨rfl, rfl, rfl, by decide +kernel, rfl, by decide +kernel, by decide +kernel⟩ (F.glo 58 rfl) (fun _ _ _ _ _ _ us hl => match us, hl with | [_, _], _ => rfl) (fun f cdv A outer s H E hr => ?_) (n := 2) (m := 3) rfl rfl vc
  have hu1 := room1 hr
  have hu64 := room64 hr
  have hu65 := room65 hr
  have hnd : (N__law_like).Nodup := by decide +kernel
  exact pd_sCons (pd_asg (pd_fnA c__law_sort hr (by omega) rfl rfl (pd_cons (pd_var rfl (Or.inl rfl) rfl rfl) (pd_nil) rfl) rfl rfl rfl) (pd_gNm hnd rfl (Or.inl rfl) (Or.inl rfl)) rfl rfl rfl) (pd_sCons (pd_sIf (PW.pt (pd_or (pd_cmpT (op_neD hu64) lift_ne (pd_fnA c__law_sort hr (by omega) rfl rfl (pd_cons (pd_var rfl (Or.inl rfl) rfl rfl) (pd_nil) rfl) rfl rfl rfl) (pd_var rfl (Or.inl rfl) rfl rfl) rfl) (pd_or1 (pd_cmpT (op_eqD hu64) lift_eq (pd_var rfl (Or.inl rfl) rfl rfl) (pd_int) rfl)))) (pd_sCons (pd_ret (pd_bl)) (pd_sNil)) (pd_sNil)) (pd_sCons (pd_sIf (pd_cmpT (op_inAll hu65) (lift_in _ false) (pd_var rfl (Or.inl rfl) rfl rfl) (pd_tup (pd_cons (pd_int) (pd_cons (pd_int) (pd_nil) rfl) rfl)) rfl) (pd_sCons (pd_ret (pd_andV (pd_cmp (op_eqD hu64) lift_eq (pd_callB call_len lift_len rfl m_len rfl (pd_cons (pd_var rfl (Or.inl rfl) rfl rfl) (pd_nil) rfl) (by decide) rfl rfl rfl) (pd_callB call_len lift_len rfl m_len rfl (pd_cons (pd_var rfl (Or.inl rfl) rfl rfl) (pd_nil) rfl) (by decide) rfl rfl rfl) rfl) (pe_one (pd_cmp (op_eqD hu64) lift_eq (pd_lc (m := false) (own := [("first", 3), ("second", 4)]) rfl rfl hnd (pdi_zip rfl m_zip (pd_cons (pd_var rfl (Or.inl rfl) rfl rfl) (pd_cons (pd_var rfl (Or.inl rfl) rfl rfl) (pd_nil) rfl) rfl) rfl rfl) (by kernel_rfl) rfl (fun s H C cl fp => pg_tup rfl (pgs_cons (pg_name hnd rfl (Or.inl rfl) (Or.inr rfl)) (pgs_cons (pg_name hnd rfl (Or.inl rfl) (Or.inr rfl)) (pgs_nil) rfl) rfl) rfl rfl) (fun s H C cl fp => pd_ifs1 (pd_not (pd_val (pd_fnA c__law_like hr (by omega) rfl rfl (pd_cons (pd_var rfl (Or.inl rfl) rfl rfl) (pd_cons (pd_var rfl (Or.inl rfl) rfl rfl) (pd_nil) rfl) rfl) rfl rfl rfl) (fun _ => rfl)))) (fun s H C cl fp => pd_int) (fun _ => rfl)) (pd_lst (m := false) (pd_nil)) rfl)))) (pd_sNil)) (pd_sNil)) (pd_sCons (pd_ret (pd_cmp (op_eqD hu64) lift_eq (pd_var rfl (Or.inl rfl) rfl rfl) (pd_var rfl (Or.inl rfl) rfl rfl) rfl)) (pd_sNil))))
theorem never__law_like (F : Fx fa fn W hh) : FnAt W 1 "_law_like" ["one", "other"] (fun _ _ _ => False) := by
  obtain ⟨fd, D⟩ := fd__law_like F
  exact ⟨_, fd, ⟨spP_len, fun A outer s H args us vs Q E _ _ _ _ h => by obtain ⟨_, _, _, _, _, _, _, hs, _⟩ := h; exact hs.elim⟩, F.glo 58 rfl, D.kp, D.bindsN (fun _ _ _ _ _ _ us hl => match us, hl with | [_, _], _ => rfl)⟩
theorem ok0__law_like (F : Fx fa fn W hh) : FnAt W 2 "_law_like" ["one", "other"] (sp_like 0) := step__law_like F (k := 1) (by decide) (by decide) (never__law_like F) (vc_like0 _)
theorem ok1__law_like (F : Fx fa fn W hh) : FnAt W 3 "_law_like" ["one", "other"] (sp_like 1) := step__law_like F (k := 2) (by decide) (by decide) (ok0__law_like F) (vc_like1 0 (by decide))
theorem ok2__law_like (F : Fx fa fn W hh) : FnAt W 4 "_law_like" ["one", "other"] (sp_like 2) := step__law_like F (k := 3) (by decide) (by decide) (ok1__law_like F) (vc_like1 1 (by decide))
theorem ok3__law_like (F : Fx fa fn W hh) : FnAt W 5 "_law_like" ["one", "other"] (sp_like 3) := step__law_like F (k := 4) (by decide) (by decide) (ok2__law_like F) (vc_like1 2 (by decide))
theorem ok4__law_like (F : Fx fa fn W hh) : FnAt W 6 "_law_like" ["one", "other"] (sp_like 4) := step__law_like F (k := 5) (by decide) (by decide) (ok3__law_like F) (vc_like1 3 (by decide))
theorem ok5__law_like (F : Fx fa fn W hh) : FnAt W 7 "_law_like" ["one", "other"] (sp_like 5) := step__law_like F (k := 6) (by decide) (by decide) (ok4__law_like F) (vc_like1 4 (by decide))
theorem ok6__law_like (F : Fx fa fn W hh) : FnAt W 8 "_law_like" ["one", "other"] (sp_like 6) := step__law_like F (k := 7) (by decide) (by decide) (ok5__law_like F) (vc_like1 5 (by decide))
theorem ok__law_like (F : Fx fa fn W hh) : FnAt W 8 "_law_like" ["one", "other"] sp__law_like := ok6__law_like F
theorem ok_place_of (F : Fx fa fn W hh) : FnAt W 1 "place_of" ["own"] sp_place_of := by
  obtain ⟨fd, D⟩ := F.def_ 25 (d := dOf "place_of" "place_of" 45) rfl
  refine fnAt_of (k := 0) (N := N_place_of) D ⟨rfl, rfl, rfl, by decide +kernel, rfl, by decide +kernel, by decide +kernel⟩ (F.glo 25 rfl) (fun _ _ _ _ _ _ us hl => match us, hl with | [_], _ => rfl) (fun f cdv A outer s H E hr => ?_) (n := 1) (m := 0) rfl rfl vc_place_of
  have hu1 := room1 hr
  have hu64 := room64 hr
  have hu65 := room65 hr
  have hnd : (N_place_of).Nodup := by decide +kernel
  exact pd_sCons (pd_ret (pd_if (pd_cmpT op_ge (lift_B _) (pd_var rfl (Or.inl rfl) rfl rfl) (pd_int) rfl) (pd_var rfl (Or.inl rfl) rfl rfl) (pd_bin op_sub' (lift_I _ _) (pd_neg (pd_int)) (pd_var rfl (Or.inl rfl) rfl rfl)))) (pd_sNil)
theorem ok_rings_in (F : Fx fa fn W hh) : FnAt W 2 "rings_in" ["strands", "word"] sp_rings_in := by
  obtain ⟨fd, D⟩ := F.def_ 28 (d := dOf "rings_in" "rings_in" 48) rfl
  have c_place_of := ok_place_of F
  have m_len := g_len F
  have m_set := g_set F
  have m_enumerate := g_enumerate F
  have m_range := g_range F
  have m_list := g_list F
  refine fnAt_of (k := 1) (N := N_rings_in) D ⟨rfl, rfl, rfl, by decide +kernel, rfl, by decide +kernel, by decide +kernel⟩ (F.glo 28 rfl) (fun _ _ _ _ _ _ us hl => match us, hl with | [_, _], _ => rfl) (fun f cdv A outer s H E hr => ?_) (n := 2) (m := 8) rfl rfl vc_rings_in
  have hu1 := room1 hr
  have hu64 := room64 hr
  have hu65 := room65 hr
  have hnd : (N_rings_in).Nodup := by decide +kernel
  exact pd_sCons (pd_asg (pd_listRg (m := true) rfl rfl m_list (pdr_1 rfl m_range (pd_var rfl (Or.inl rfl) rfl rfl))) (pd_gNm hnd rfl (Or.inl rfl) (Or.inl rfl)) rfl rfl rfl) (pd_sCons (pd_for PassesOwn.never rfl (pdi_seq (pd_var rfl (Or.inl rfl) rfl rfl)) (pg_name hnd rfl (Or.inl rfl) (Or.inl rfl)) (pd_sCons (pd_asg (pd_fnA c_place_of hr (by decide) rfl rfl (pd_cons (pd_var rfl (Or.inl rfl) rfl rfl) (pd_nil) rfl) rfl rfl rfl) (pd_gNm hnd rfl (Or.inl rfl) (Or.inl rfl)) rfl rfl rfl) (pd_sCons (pd_asg (pd_tup (pd_cons (pd_ix hu1 (pd_var rfl (Or.inl rfl) rfl rfl) (pd_bin op_addAll (lift_add false) (pd_var rfl (Or.inl rfl) rfl rfl) (pd_int)) (fun _ _ => rfl)) (pd_cons (pd_ix hu1 (pd_var rfl (Or.inl rfl) rfl rfl) (pd_var rfl (Or.inl rfl) rfl rfl) (fun _ _ => rfl)) (pd_nil) rfl) rfl)) (pd_gTup rfl (pd_gsCons (pd_gSub hu1 (pd_var rfl (Or.inl rfl) rfl rfl) (pd_var rfl (Or.inl rfl) rfl rfl) (asg_sub (fun _ _ => rfl) (fun _ _ _ z => nomatch z))) (pd_gsCons (pd_gSub hu1 (pd_var rfl (Or.inl rfl) rfl rfl) (pd_bin op_addAll (lift_add false) (pd_var rfl (Or.inl rfl) rfl rfl) (pd_int)) (asg_sub (fun _ _ => rfl) (fun _ _ _ z => nomatch z))) (pd_gsNil) rfl) rfl) rfl rfl) rfl rfl rfl) (pd_sNil))) (fun _ => rfl)) (pd_sCons (pd_asg (pd_listRg (m := false) rfl rfl m_list (pdr_1 rfl m_range (pd_var rfl (Or.inl rfl) rfl rfl))) (pd_gNm hnd rfl (Or.inl rfl) (Or.inl rfl)) rfl rfl rfl) (pd_sCons (pd_for PassesOwn.never rfl (pdi_enum rfl m_enumerate (pd_cons (pd_var rfl (Or.inl rfl) rfl rfl) (pd_nil) rfl) rfl) (pg_tup rfl (pgs_cons (pg_name hnd rfl (Or.inl rfl) (Or.inl rfl)) (pgs_cons (pg_name hnd rfl (Or.inl rfl) (Or.inl rfl)) (pgs_nil) rfl) rfl) rfl rfl) (pd_sCons (pd_asg (pd_tup (pd_cons (pd_ix hu1 (pd_var rfl (Or.inl rfl) rfl rfl) (pd_var rfl (Or.inl rfl) rfl rfl) (fun _ _ => rfl)) (pd_cons (pd_ix hu1 (pd_var rfl (Or.inl rfl) rfl rfl) (pd_var rfl (Or.inl rfl) rfl rfl) (fun _ _ => rfl)) (pd_nil) rfl) rfl)) (pd_gTup rfl (pd_gsCons (pd_gNm hnd rfl (Or.inr rfl) (Or.inl rfl)) (pd_gsCons (pd_gNm hnd rfl (Or.inr rfl) (Or.inl rfl)) (pd_gsNil) rfl) rfl) rfl rfl) rfl rfl rfl) (pd_sCons (pd_setLc (m := false) (own := [("own", 3)]) rfl rfl hnd rfl rfl rfl rfl rfl (pdi_seq (pd_var rfl (Or.inl rfl) rfl rfl)) (by kernel_rfl) rfl (fun s H C cl fp => pg_name hnd rfl (Or.inl rfl) (Or.inr rfl)) (fun s H C cl fp => pd_ifs0) (fun s H C cl fp => pd_if (pd_cmpT (op_eqD hu64) lift_eq (pd_var rfl (Or.inl rfl) rfl rfl) (pd_var rfl (Or.inr (Or.inl rfl)) rfl rfl) rfl) (pd_var rfl (Or.inr (Or.inl rfl)) rfl rfl) (pd_var rfl (Or.inl rfl) rfl rfl)) (fun _ => rfl)) (pd_sNil))) (fun _ => rfl)) (pd_sCons (pd_ret (pd_lenSet rfl m_len rfl m_set (pd_var rfl (Or.inl rfl) rfl rfl))) (pd_sNil)))))
theorem ok_is_tuple_of (F : Fx fa fn W hh) : FnAt W 1 "is_tuple_of" ["value", "low", "high"] sp_is_tuple_of := by
  obtain ⟨fd, D⟩ := F.def_ 2 (d := dOf "is_tuple_of" "is_tuple_of" 11) rfl
  have m_isinstance := g_isinstance F
  have m_tuple := g_tuple F
  have m_len := g_len F
  refine fnAt_of (k := 0) (N := N_is_tuple_of) D ⟨rfl, rfl, rfl, by decide +kernel, rfl, by decide +kernel, by decide +kernel⟩ (F.glo 2 rfl) (fun _ _ _ _ _ _ us hl => match us, hl with | [_, _, _], _ => rfl) (fun f cdv A outer s H E hr => ?_) (n := 3) (m := 0) rfl rfl vc_is_tuple_of
  have hu1 := room1 hr
  have hu64 := room64 hr
  have hu65 := room65 hr
  have hnd : (N_is_tuple_of).Nodup := by decide +kernel
  exact pd_sCons (pd_ret (pd_andV (pd_isi (T := "tuple") (TT := "tuple") rfl m_isinstance rfl m_tuple rfl (by decide) rfl (pd_var rfl (Or.inl rfl) rfl rfl) rfl rfl) (pe_one (pd_chain op_le op_le (lift_B _) (lift_B _) (pe_chain op_le op_le (pd_var rfl (Or.inl rfl) rfl rfl) (pd_callB call_len lift_len rfl m_len rfl (pd_cons (pd_var rfl (Or.inl rfl) rfl rfl) (pd_nil) rfl) (by decide) rfl rfl rfl) (pd_var rfl (Or.inl rfl) rfl rfl)))))) (pd_sNil)
theorem ok_is_whole (F : Fx fa fn W hh) : FnAt W 1 "is_whole" ["value", "low", "high"] sp_is_whole := by
  obtain ⟨fd, D⟩ := F.def_ 0 (d := dOf "is_whole" "is_whole" 9) rfl
  have m_isinstance := g_isinstance F
  have m_int := g_int F
  have m_bool := g_bool F
  refine fnAt_of (k := 0) (N := N_is_whole) D ⟨rfl, rfl, rfl, by decide +kernel, rfl, by decide +kernel, by decide +kernel⟩ (F.glo 0 rfl) (fun _ _ _ _ _ _ us hl => match us, hl with | [_, _, _], _ => rfl) (fun f cdv A outer s H E hr => ?_) (n := 3) (m := 0) rfl rfl vc_is_whole
  have hu1 := room1 hr
  have hu64 := room64 hr
  have hu65 := room65 hr
  have hnd : (N_is_whole).Nodup := by decide +kernel
  exact pd_sCons (pd_ret (pd_andV (pd_isi (T := "int") (TT := "int") rfl m_isinstance rfl m_int rfl (by decide) rfl (pd_var rfl (Or.inl rfl) rfl rfl) rfl rfl) (pd_andV (pd_notV (pd_isi (T := "bool") (TT := "bool") rfl m_isinstance rfl m_bool rfl (by decide) rfl (pd_var rfl (Or.inl rfl) rfl rfl) rfl rfl)) (pe_one (pd_chain op_le op_le (lift_B _) (lift_B _) (pe_chain op_le op_le (pd_var rfl (Or.inl rfl) rfl rfl) (pd_var rfl (Or.inl rfl) rfl rfl) (pd_var rfl (Or.inl rfl) rfl rfl))))))) (pd_sNil)
theorem ok_is_crossing_in (F : Fx fa fn W hh) : FnAt W 2 "is_crossing_in" ["strands", "value"] sp_is_crossing_in := by
  obtain ⟨fd, D⟩ := F.def_ 23 (d := dOf "is_crossing_in" "is_crossing_in" 43) rfl
  have c_is_tuple_of := ok_is_tuple_of F
  have c_is_whole := ok_is_whole F
  have m_all := g_all F
  have k_LONG_crossings := g_LONG_crossings F
  refine fnAt_of (k := 1) (N := N_is_crossing_in) D ⟨rfl, rfl, rfl, by decide +kernel, rfl, by decide +kernel, by decide +kernel⟩ (F.glo 23 rfl) (fun _ _ _ _ _ _ us hl => match us, hl with | [_, _], _ => rfl) (fun f cdv A outer s H E hr => ?_) (n := 2) (m := 1) rfl rfl vc_is_crossing_in
  have hu1 := room1 hr
  have hu64 := room64 hr
  have hu65 := room65 hr
  have hnd : (N_is_crossing_in).Nodup := by decide +kernel
  exact pd_sCons (pd_ret (pd_andV (pd_fnA c_is_tuple_of hr (by decide) rfl rfl (pd_cons (pd_var rfl (Or.inl rfl) rfl rfl) (pd_cons (pd_int) (pd_cons (pd_globE rfl k_LONG_crossings rfl) (pd_nil) rfl) rfl) rfl) rfl rfl rfl) (pe_one (pd_callB (cr_all rfl) lift_all rfl m_all rfl (pd_cons (pd_lc (m := false) (own := [("own", 2)]) rfl rfl hnd (pdi_seq (pd_var rfl (Or.inl rfl) rfl rfl)) (by kernel_rfl) rfl (fun s H C cl fp => pg_name hnd rfl (Or.inl rfl) (Or.inr rfl)) (fun s H C cl fp => pd_ifs0) (fun s H C cl fp => pd_fnA c_is_whole hr (by decide) rfl rfl (pd_cons (pd_var rfl (Or.inl rfl) rfl rfl) (pd_cons (pd_bin op_sub' (lift_I _ _) (pd_int) (pd_var rfl (Or.inr (Or.inl rfl)) rfl rfl)) (pd_cons (pd_bin op_sub' (lift_I _ _) (pd_var rfl (Or.inr (Or.inl rfl)) rfl rfl) (pd_int)) (pd_nil) rfl) rfl) rfl) rfl rfl rfl) (fun _ => rfl)) (pd_nil) rfl) (by decide) rfl rfl rfl)))) (pd_sNil)
theorem ok_need_whole (F : Fx fa fn W hh) : FnAt W 2 "need_whole" ["value", "low", "high"] sp_need_whole := by
  obtain ⟨fd, D⟩ := F.def_ 1 (d := dOf "need_whole" "need_whole" 10) rfl
  have c_is_whole := ok_is_whole F
  refine fnAt_of (k := 1) (N := N_need_whole) D ⟨rfl, rfl, rfl, by decide +kernel, rfl, by decide +kernel, by decide +kernel⟩ (F.glo 1 rfl) (fun _ _ _ _ _ _ us hl => match us, hl with | [_, _, _], _ => rfl) (fun f cdv A outer s H E hr => ?_) (n := 3) (m := 0) rfl rfl vc_need_whole
  have hu1 := room1 hr
  have hu64 := room64 hr
  have hu65 := room65 hr
  have hnd : (N_need_whole).Nodup := by decide +kernel
  exact pd_sCons (pd_sIf (pd_not (pd_val (pd_fnA c_is_whole hr (by decide) rfl rfl (pd_cons (pd_var rfl (Or.inl rfl) rfl rfl) (pd_cons (pd_var rfl (Or.inl rfl) rfl rfl) (pd_cons (pd_var rfl (Or.inl rfl) rfl rfl) (pd_nil) rfl) rfl) rfl) rfl rfl rfl) (fun _ => rfl))) (pd_sCons (pd_never) (pd_sNil)) (pd_sNil)) (pd_sNil)
theorem ok_need_crossing (F : Fx fa fn W hh) : FnAt W 3 "need_crossing" ["strands", "value"] sp_need_crossing := by
  obtain ⟨fd, D⟩ := F.def_ 24 (d := dOf "need_crossing" "need_crossing" 44) rfl
  have c_is_crossing_in := ok_is_crossing_in F
  have c_need_whole := ok_need_whole F
  have k_STRANDS := g_STRANDS F
  refine fnAt_of (k := 2) (N := N_need_crossing) D ⟨rfl, rfl, rfl, by decide +kernel, rfl, by decide +kernel, by decide +kernel⟩ (F.glo 24 rfl) (fun _ _ _ _ _ _ us hl => match us, hl with | [_, _], _ => rfl) (fun f cdv A outer s H E hr => ?_) (n := 2) (m := 0) rfl rfl vc_need_crossing
  have hu1 := room1 hr
  have hu64 := room64 hr
  have hu65 := room65 hr
  have hnd : (N_need_crossing).Nodup := by decide +kernel
  exact pd_sCons (pd_expr (pd_fnA c_need_whole hr (by decide) rfl rfl (pd_cons (pd_var rfl (Or.inl rfl) rfl rfl) (pd_cons (pd_int) (pd_cons (pd_globE rfl k_STRANDS rfl) (pd_nil) rfl) rfl) rfl) rfl rfl rfl) rfl) (pd_sCons (pd_sIf (pd_not (pd_val (pd_fnA c_is_crossing_in hr (by decide) rfl rfl (pd_cons (pd_var rfl (Or.inl rfl) rfl rfl) (pd_cons (pd_var rfl (Or.inl rfl) rfl rfl) (pd_nil) rfl) rfl) rfl rfl rfl) (fun _ => rfl))) (pd_sCons (pd_never) (pd_sNil)) (pd_sNil)) (pd_sNil))
theorem ok_count_rings (F : Fx fa fn W hh) : FnAt W 4 "count_rings" ["strands", "word"] sp_count_rings := by
  obtain ⟨fd, D⟩ := F.def_ 31 (d := dOf "count_rings" "count_rings" 51) rfl
  have c_rings_in := ok_rings_in F
  have c_need_crossing := ok_need_crossing F
  refine fnAt_of (k := 3) (N := N_count_rings) D ⟨rfl, rfl, rfl, by decide +kernel, rfl, by decide +kernel, by decide +kernel⟩ (F.glo 31 rfl) (fun _ _ _ _ _ _ us hl => match us, hl with | [_, _], _ => rfl) (fun f cdv A outer s H E hr => ?_) (n := 2) (m := 0) rfl rfl vc_count_rings
  have hu1 := room1 hr
  have hu64 := room64 hr
  have hu65 := room65 hr
  have hnd : (N_count_rings).Nodup := by decide +kernel
  exact pd_sCons (pd_expr (pd_fnA c_need_crossing hr (by decide) rfl rfl (pd_cons (pd_var rfl (Or.inl rfl) rfl rfl) (pd_cons (pd_var rfl (Or.inl rfl) rfl rfl) (pd_nil) rfl) rfl) rfl rfl rfl) rfl) (pd_sCons (pd_ret (pd_fnA c_rings_in hr (by decide) rfl rfl (pd_cons (pd_var rfl (Or.inl rfl) rfl rfl) (pd_cons (pd_var rfl (Or.inl rfl) rfl rfl) (pd_nil) rfl) rfl) rfl rfl rfl)) (pd_sNil))
theorem ok_all_rows (F : Fx fa fn W hh) : FnAt W 1 "all_rows" ["letters", "strands"] sp_all_rows := by
  obtain ⟨fd, D⟩ := F.def_ 32 (d := dOf "all_rows" "all_rows" 54) rfl
  have m_range := g_range F
  refine fnAt_of (k := 0) (N := N_all_rows) D ⟨rfl, rfl, rfl, by decide +kernel, rfl, by decide +kernel, by decide +kernel⟩ (F.glo 32 rfl) (fun _ _ _ _ _ _ us hl => match us, hl with | [_, _], _ => rfl) (fun f cdv A outer s H E hr => ?_) (n := 2) (m := 5) rfl rfl vc_all_rows
  have hu1 := room1 hr
  have hu64 := room64 hr
  have hu65 := room65 hr
  have hnd : (N_all_rows).Nodup := by decide +kernel
  exact pd_sCons (pd_asg (pd_lst (m := false) (pd_cons (pd_tup (pd_nil)) (pd_nil) rfl)) (pd_gNm hnd rfl (Or.inl rfl) (Or.inl rfl)) rfl rfl rfl) (pd_sCons (pd_for PassesOwn.never rfl (pdi_rng1 rfl m_range (pd_cons (pd_var rfl (Or.inl rfl) rfl rfl) (pd_nil) rfl) rfl) (pg_name hnd rfl (Or.inl rfl) (Or.inl rfl)) (pd_sCons (pd_asg (pd_lst (m := false) (pd_nil)) (pd_gNm hnd rfl (Or.inl rfl) (Or.inl rfl)) rfl rfl rfl) (pd_sCons (pd_for PassesOwn.never rfl (pdi_seq (pd_var rfl (Or.inl rfl) rfl rfl)) (pg_name hnd rfl (Or.inr rfl) (Or.inl rfl)) (pd_sCons (pd_asg (pd_bin op_addAll (lift_add false) (pd_var rfl (Or.inl rfl) rfl rfl) (pd_lc (m := false) (own := [("own", 6)]) rfl rfl hnd (pdi_rng1 rfl m_range (pd_cons (pd_var rfl (Or.inl rfl) rfl rfl) (pd_nil) rfl) rfl) (by kernel_rfl) rfl (fun s H C cl fp => pg_name hnd rfl (Or.inl rfl) (Or.inr rfl)) (fun s H C cl fp => pd_ifs0) (fun s H C cl fp => pd_bin op_addAll (lift_add false) (pd_var rfl (Or.inr (Or.inl rfl)) rfl rfl) (pd_tup (pd_cons (pd_var rfl (Or.inl rfl) rfl rfl) (pd_nil) rfl))) (fun _ => rfl))) (pd_gNm hnd rfl (Or.inl rfl) (Or.inl rfl)) rfl rfl rfl) (pd_sNil)) (fun _ => rfl)) (pd_sCons (pd_asg (pd_var rfl (Or.inl rfl) rfl rfl) (pd_gNm hnd rfl (Or.inl rfl) (Or.inl rfl)) rfl rfl rfl) (pd_sNil)))) (fun _ => rfl)) (pd_sCons (pd_ret (pd_var rfl (Or.inl rfl) rfl rfl)) (pd_sNil)))
theorem ok_crossed_by (F : Fx fa fn W hh) : FnAt W 2 "crossed_by" ["swaps", "backs", "word", "row"] sp_crossed_by := by
  obtain ⟨fd, D⟩ := F.def_ 26 (d := dOf "crossed_by" "crossed_by" 46) rfl
  have c_place_of := ok_place_of F
  refine fnAt_of (k := 1) (N := N_crossed_by) D ⟨rfl, rfl, rfl, by decide +kernel, rfl, by decide +kernel, by decide +kernel⟩ (F.glo 26 rfl) (fun _ _ _ _ _ _ us hl => match us, hl with | [_, _, _, _], _ => rfl) (fun f cdv A outer s H E hr => ?_) (n := 4) (m := 4) rfl rfl vc_crossed_by
  have hu1 := room1 hr
  have hu64 := room64 hr
  have hu65 := room65 hr
  have hnd : (N_crossed_by).Nodup := by decide +kernel
  exact pd_sCons (pd_asg (pd_var rfl (Or.inl rfl) rfl rfl) (pd_gNm hnd rfl (Or.inl rfl) (Or.inl rfl)) rfl rfl rfl) (pd_sCons (pd_for PassesOwn.never rfl (pdi_seq (pd_var rfl (Or.inl rfl) rfl rfl)) (pg_name hnd rfl (Or.inl rfl) (Or.inl rfl)) (pd_sCons (pd_asg (pd_fnA c_place_of hr (by decide) rfl rfl (pd_cons (pd_var rfl (Or.inl rfl) rfl rfl) (pd_nil) rfl) rfl rfl rfl) (pd_gNm hnd rfl (Or.inl rfl) (Or.inl rfl)) rfl rfl rfl) (pd_sCons (pd_asg (pd_if (pd_cmpT op_ge (lift_B _) (pd_var rfl (Or.inl rfl) rfl rfl) (pd_int) rfl) (pd_var rfl (Or.inl rfl) rfl rfl) (pd_var rfl (Or.inl rfl) rfl rfl)) (pd_gNm hnd rfl (Or.inl rfl) (Or.inl rfl)) rfl rfl rfl) (pd_sCons (pd_asg (pd_bin op_addAll (lift_add false) (pd_bin op_addAll (lift_add false) (pd_slice (m := false) (pd_var rfl (Or.inl rfl) rfl rfl) (pd_noPart) (pd_part (pd_var rfl (Or.inl rfl) rfl rfl))) (pd_ix hu1 (pd_ix hu1 (pd_var rfl (Or.inl rfl) rfl rfl) (pd_ix hu1 (pd_var rfl (Or.inl rfl) rfl rfl) (pd_var rfl (Or.inl rfl) rfl rfl) (fun _ _ => rfl)) (fun _ _ => rfl)) (pd_ix hu1 (pd_var rfl (Or.inl rfl) rfl rfl) (pd_bin op_addAll (lift_add false) (pd_var rfl (Or.inl rfl) rfl rfl) (pd_int)) (fun _ _ => rfl)) (fun _ _ => rfl))) (pd_slice (m := false) (pd_var rfl (Or.inl rfl) rfl rfl) (pd_part (pd_bin op_addAll (lift_add false) (pd_var rfl (Or.inl rfl) rfl rfl) (pd_int))) (pd_noPart))) (pd_gNm hnd rfl (Or.inl rfl) (Or.inl rfl)) rfl rfl rfl) (pd_sNil)))) (fun _ => rfl)) (pd_sCons (pd_ret (pd_var rfl (Or.inl rfl) rfl rfl)) (pd_sNil)))
theorem ok_pairs_of (F : Fx fa fn W hh) : FnAt W 1 "pairs_of" ["many"] sp_pairs_of := by
  obtain ⟨fd, D⟩ := F.def_ 18 (d := dOf "pairs_of" "pairs_of" 34) rfl
  have m_range := g_range F
  refine fnAt_of (k := 0) (N := N_pairs_of) D ⟨rfl, rfl, rfl, by decide +kernel, rfl, by decide +kernel, by decide +kernel⟩ (F.glo 18 rfl) (fun _ _ _ _ _ _ us hl => match us, hl with | [_], _ => rfl) (fun f cdv A outer s H E hr => ?_) (n := 1) (m := 3) rfl rfl vc_pairs_of
  have hu1 := room1 hr
  have hu64 := room64 hr
  have hu65 := room65 hr
  have hnd : (N_pairs_of).Nodup := by decide +kernel
  exact pd_sCons (pd_asg (pd_lst (m := false) (pd_nil)) (pd_gNm hnd rfl (Or.inl rfl) (Or.inl rfl)) rfl rfl rfl) (pd_sCons (pd_for PassesOwn.never rfl (pdi_rng1 rfl m_range (pd_cons (pd_var rfl (Or.inl rfl) rfl rfl) (pd_nil) rfl) rfl) (pg_name hnd rfl (Or.inr rfl) (Or.inl rfl)) (pd_sCons (pd_asg (pd_bin op_addAll (lift_add false) (pd_var rfl (Or.inl rfl) rfl rfl) (pd_lc (m := false) (own := [("other", 3)]) rfl rfl hnd (pdi_rng1 rfl m_range (pd_cons (pd_var rfl (Or.inl rfl) rfl rfl) (pd_nil) rfl) rfl) (by kernel_rfl) rfl (fun s H C cl fp => pg_name hnd rfl (Or.inl rfl) (Or.inr rfl)) (fun s H C cl fp => pd_ifs0) (fun s H C cl fp => pd_tup (pd_cons (pd_var rfl (Or.inr (Or.inl rfl)) rfl rfl) (pd_cons (pd_var rfl (Or.inl rfl) rfl rfl) (pd_nil) rfl) rfl)) (fun _ => rfl))) (pd_gNm hnd rfl (Or.inl rfl) (Or.inl rfl)) rfl rfl rfl) (pd_sNil)) (fun _ => rfl)) (pd_sCons (pd_ret (pd_var rfl (Or.inl rfl) rfl rfl)) (pd_sNil)))
theorem ok_back_table (F : Fx fa fn W hh) : FnAt W 2 "back_table" ["swaps"] sp_back_table := by
  obtain ⟨fd, D⟩ := F.def_ 20 (d := dOf "back_table" "back_table" 36) rfl
  have c_pairs_of := ok_pairs_of F
  have m_tuple := g_tuple F
  have m_range := g_range F
  have m_list := g_list F
  have m_len := g_len F
  refine fnAt_of (k := 1) (N := N_back_table) D ⟨rfl, rfl, rfl, by decide +kernel, rfl, by decide +kernel, by decide +kernel⟩ (F.glo 20 rfl) (fun _ _ _ _ _ _ us hl => match us, hl with | [_], _ => rfl) (fun f cdv A outer s H E hr => ?_) (n := 1) (m := 5) rfl rfl vc_back_table
  have hu1 := room1 hr
  have hu64 := room64 hr
  have hu65 := room65 hr
  have hnd : (N_back_table).Nodup := by decide +kernel
  exact pd_sCons (pd_asg (pd_dict0) (pd_gNm hnd rfl (Or.inr rfl) (Or.inl rfl)) rfl rfl rfl) (pd_sCons (pd_for PassesOwn.never rfl (pdi_seq (pd_fnA c_pairs_of hr (by decide) rfl rfl (pd_cons (pd_callB call_len lift_len rfl m_len rfl (pd_cons (pd_var rfl (Or.inl rfl) rfl rfl) (pd_nil) rfl) (by decide) rfl rfl rfl) (pd_nil) rfl) rfl rfl rfl)) (pg_name hnd rfl (Or.inl rfl) (Or.inl rfl)) (pd_sCons (pd_asg (pd_var rfl (Or.inl rfl) rfl rfl) (pd_gSub hu1 (pd_var rfl (Or.inr (Or.inl rfl)) rfl rfl) (pd_ix hu1 (pd_ix hu1 (pd_var rfl (Or.inl rfl) rfl rfl) (pd_ix hu1 (pd_var rfl (Or.inl rfl) rfl rfl) (pd_int) (fun _ _ => rfl)) (fun _ _ => rfl)) (pd_ix hu1 (pd_var rfl (Or.inl rfl) rfl rfl) (pd_int) (fun _ _ => rfl)) (fun _ _ => rfl)) (asg_sub (fun _ _ => rfl) (fun _ _ _ z => nomatch z))) rfl rfl rfl) (pd_sNil)) (fun _ => rfl)) (pd_sCons (pd_asg (pd_listRg (m := false) rfl rfl m_list (pdr_1 rfl m_range (pd_callB call_len lift_len rfl m_len rfl (pd_cons (pd_var rfl (Or.inl rfl) rfl rfl) (pd_nil) rfl) (by decide) rfl rfl rfl))) (pd_gNm hnd rfl (Or.inr rfl) (Or.inl rfl)) rfl rfl rfl) (pd_sCons (pd_ret (pd_callTy call_tupF lift_tuple rfl m_tuple rfl (pd_cons (pd_lc (m := false) (own := [("one", 4)]) rfl rfl hnd (pdi_seq (pd_var rfl (Or.inr (Or.inl rfl)) rfl rfl)) (by kernel_rfl) rfl (fun s H C cl fp => pg_name hnd rfl (Or.inr rfl) (Or.inl rfl)) (fun s H C cl fp => pd_ifs0) (fun s H C cl fp => pd_callTy call_tupF lift_tuple rfl m_tuple rfl (pd_cons (pd_lc (m := false) (own := [("other", 5)]) rfl rfl hnd (pdi_seq (pd_var rfl (Or.inr (Or.inl rfl)) rfl rfl)) (by kernel_rfl) rfl (fun s H C cl fp => pg_name hnd rfl (Or.inl rfl) (Or.inr rfl)) (fun s H C cl fp => pd_ifs0) (fun s H C cl fp => pd_ix hu1 (pd_var rfl (Or.inr (Or.inl rfl)) rfl rfl) (pd_tup (pd_cons (pd_var rfl (Or.inr (Or.inl rfl)) rfl rfl) (pd_cons (pd_var rfl (Or.inl rfl) rfl rfl) (pd_nil) rfl) rfl)) (fun _ _ => rfl)) (fun _ => rfl)) (pd_nil) rfl) (by decide) rfl rfl rfl) (fun _ => rfl)) (pd_nil) rfl) (by decide) rfl rfl rfl)) (pd_sNil))))
theorem ok_colours_in (F : Fx fa fn W hh) : FnAt W 3 "colours_in" ["swaps", "strands", "word"] sp_colours_in := by
  obtain ⟨fd, D⟩ := F.def_ 34 (d := dOf "colours_in" "colours_in" 56) rfl
  have c_all_rows := ok_all_rows F
  have c_crossed_by := ok_crossed_by F
  have c_back_table := ok_back_table F
  have m_len := g_len F
  refine fnAt_of (k := 2) (N := N_colours_in) D ⟨rfl, rfl, rfl, by decide +kernel, rfl, by decide +kernel, by decide +kernel⟩ (F.glo 34 rfl) (fun _ _ _ _ _ _ us hl => match us, hl with | [_, _, _], _ => rfl) (fun f cdv A outer s H E hr => ?_) (n := 3) (m := 2) rfl rfl vc_colours_in
  have hu1 := room1 hr
  have hu64 := room64 hr
  have hu65 := room65 hr
  have hnd : (N_colours_in).Nodup := by decide +kernel
  exact pd_sCons (pd_asg (pd_fnA c_back_table hr (by decide) rfl rfl (pd_cons (pd_var rfl (Or.inr (Or.inl rfl)) rfl rfl) (pd_nil) rfl) rfl rfl rfl) (pd_gNm hnd rfl (Or.inr rfl) (Or.inl rfl)) rfl rfl rfl) (pd_sCons (pd_ret (pd_lc (m := false) (own := [("row", 4)]) rfl rfl hnd (pdi_seq (pd_fnA c_all_rows hr (by decide) rfl rfl (pd_cons (pd_callB call_len lift_len rfl m_len rfl (pd_cons (pd_var rfl (Or.inr (Or.inl rfl)) rfl rfl) (pd_nil) rfl) (by decide) rfl rfl rfl) (pd_cons (pd_var rfl (Or.inl rfl) rfl rfl) (pd_nil) rfl) rfl) rfl rfl rfl)) (by kernel_rfl) rfl (fun s H C cl fp => pg_name hnd rfl (Or.inl rfl) (Or.inr rfl)) (fun s H C cl fp => pd_ifs1 (pd_cmpT (op_eqD hu64) lift_eq (pd_fnA c_crossed_by hr (by decide) rfl rfl (pd_cons (pd_var rfl (Or.inr (Or.inl rfl)) rfl rfl) (pd_cons (pd_var rfl (Or.inr (Or.inl rfl)) rfl rfl) (pd_cons (pd_var rfl (Or.inr (Or.inl rfl)) rfl rfl) (pd_cons (pd_var rfl (Or.inl rfl) rfl rfl) (pd_nil) rfl) rfl) rfl) rfl) rfl rfl rfl) (pd_var rfl (Or.inl rfl) rfl rfl) rfl)) (fun s H C cl fp => pd_var rfl (Or.inl rfl) rfl rfl) (fun _ => rfl))) (pd_sNil))
theorem ok_need_few (F : Fx fa fn W hh) : FnAt W 1 "need_few" ["letters", "strands"] sp_need_few := by
  obtain ⟨fd, D⟩ := F.def_ 33 (d := dOf "need_few" "need_few" 55) rfl
  have m_range := g_range F
  have k_ROWS := g_ROWS F
  refine fnAt_of (k := 0) (N := N_need_few) D ⟨rfl, rfl, rfl, by decide +kernel, rfl, by decide +kernel, by decide +kernel⟩ (F.glo 33 rfl) (fun _ _ _ _ _ _ us hl => match us, hl with | [_, _], _ => rfl) (fun f cdv A outer s H E hr => ?_) (n := 2) (m := 2) rfl rfl vc_need_few
  have hu1 := room1 hr
  have hu64 := room64 hr
  have hu65 := room65 hr
  have hnd : (N_need_few).Nodup := by decide +kernel
  exact pd_sCons (pd_asg (pd_int) (pd_gNm hnd rfl (Or.inl rfl) (Or.inl rfl)) rfl rfl rfl) (pd_sCons (pd_for PassesOwn.never rfl (pdi_rng1 rfl m_range (pd_cons (pd_var rfl (Or.inl rfl) rfl rfl) (pd_nil) rfl) rfl) (pg_name hnd rfl (Or.inl rfl) (Or.inl rfl)) (pd_sCons (pd_asg (pd_bin op_mulAll (lift_mul false) (pd_var rfl (Or.inl rfl) rfl rfl) (pd_var rfl (Or.inl rfl) rfl rfl)) (pd_gNm hnd rfl (Or.inl rfl) (Or.inl rfl)) rfl rfl rfl) (pd_sNil)) (fun _ => rfl)) (pd_sCons (pd_sIf (pd_cmpT op_gt (lift_B _) (pd_var rfl (Or.inl rfl) rfl rfl) (pd_globE rfl k_ROWS rfl) rfl) (pd_sCons (pd_never) (pd_sNil)) (pd_sNil)) (pd_sNil)))
theorem ok_are_wholes (F : Fx fa fn W hh) : FnAt W 2 "are_wholes" ["value", "many", "low", "high"] sp_are_wholes := by
  obtain ⟨fd, D⟩ := F.def_ 3 (d := dOf "are_wholes" "are_wholes" 12) rfl
  have c_is_tuple_of := ok_is_tuple_of F
  have c_is_whole := ok_is_whole F
  have m_all := g_all F
  refine fnAt_of (k := 1) (N := N_are_wholes) D ⟨rfl, rfl, rfl, by decide +kernel, rfl, by decide +kernel, by decide +kernel⟩ (F.glo 3 rfl) (fun _ _ _ _ _ _ us hl => match us, hl with | [_, _, _, _], _ => rfl) (fun f cdv A outer s H E hr => ?_) (n := 4) (m := 1) rfl rfl vc_are_wholes
  have hu1 := room1 hr
  have hu64 := room64 hr
  have hu65 := room65 hr
  have hnd : (N_are_wholes).Nodup := by decide +kernel
  exact pd_sCons (pd_ret (pd_andV (pd_fnA c_is_tuple_of hr (by decide) rfl rfl (pd_cons (pd_var rfl (Or.inl rfl) rfl rfl) (pd_cons (pd_var rfl (Or.inl rfl) rfl rfl) (pd_cons (pd_var rfl (Or.inl rfl) rfl rfl) (pd_nil) rfl) rfl) rfl) rfl rfl rfl) (pe_one (pd_callB (cr_all rfl) lift_all rfl m_all rfl (pd_cons (pd_lc (m := false) (own := [("one", 4)]) rfl rfl hnd (pdi_seq (pd_var rfl (Or.inl rfl) rfl rfl)) (by kernel_rfl) rfl (fun s H C cl fp => pg_name hnd rfl (Or.inl rfl) (Or.inr rfl)) (fun s H C cl fp => pd_ifs0) (fun s H C cl fp => pd_fnA c_is_whole hr (by decide) rfl rfl (pd_cons (pd_var rfl (Or.inl rfl) rfl rfl) (pd_cons (pd_var rfl (Or.inr (Or.inl rfl)) rfl rfl) (pd_cons (pd_var rfl (Or.inr (Or.inl rfl)) rfl rfl) (pd_nil) rfl) rfl) rfl) rfl rfl rfl) (fun _ => rfl)) (pd_nil) rfl) (by decide) rfl rfl rfl)))) (pd_sNil)
theorem ok_is_swap_row (F : Fx fa fn W hh) : FnAt W 3 "is_swap_row" ["value", "many"] sp_is_swap_row := by
  obtain ⟨fd, D⟩ := F.def_ 4 (d := dOf "is_swap_row" "is_swap_row" 15) rfl
  have c_is_tuple_of := ok_is_tuple_of F
  have c_are_wholes := ok_are_wholes F
  have m_all := g_all F
  refine fnAt_of (k := 2) (N := N_is_swap_row) D ⟨rfl, rfl, rfl, by decide +kernel, rfl, by decide +kernel, by decide +kernel⟩ (F.glo 4 rfl) (fun _ _ _ _ _ _ us hl => match us, hl with | [_, _], _ => rfl) (fun f cdv A outer s H E hr => ?_) (n := 2) (m := 1) rfl rfl vc_is_swap_row
  have hu1 := room1 hr
  have hu64 := room64 hr
  have hu65 := room65 hr
  have hnd : (N_is_swap_row).Nodup := by decide +kernel
  exact pd_sCons (pd_ret (pd_andV (pd_fnA c_is_tuple_of hr (by decide) rfl rfl (pd_cons (pd_var rfl (Or.inl rfl) rfl rfl) (pd_cons (pd_var rfl (Or.inr (Or.inl rfl)) rfl rfl) (pd_cons (pd_var rfl (Or.inr (Or.inl rfl)) rfl rfl) (pd_nil) rfl) rfl) rfl) rfl rfl rfl) (pe_one (pd_callB (cr_all rfl) lift_all rfl m_all rfl (pd_cons (pd_lc (m := false) (own := [("pair", 2)]) rfl rfl hnd (pdi_seq (pd_var rfl (Or.inl rfl) rfl rfl)) (by kernel_rfl) rfl (fun s H C cl fp => pg_name hnd rfl (Or.inl rfl) (Or.inr rfl)) (fun s H C cl fp => pd_ifs0) (fun s H C cl fp => pd_fnA c_are_wholes hr (by decide) rfl rfl (pd_cons (pd_var rfl (Or.inl rfl) rfl rfl) (pd_cons (pd_int) (pd_cons (pd_int) (pd_cons (pd_bin op_sub' (lift_I _ _) (pd_var rfl (Or.inr (Or.inl rfl)) rfl rfl) (pd_int)) (pd_nil) rfl) rfl) rfl) rfl) rfl rfl rfl) (fun _ => rfl)) (pd_nil) rfl) (by decide) rfl rfl rfl)))) (pd_sNil)
theorem ok_is_swap_table (F : Fx fa fn W hh) : FnAt W 4 "is_swap_table" ["value"] sp_is_swap_table := by
  obtain ⟨fd, D⟩ := F.def_ 5 (d := dOf "is_swap_table" "is_swap_table" 16) rfl
  have c_is_tuple_of := ok_is_tuple_of F
  have c_is_swap_row := ok_is_swap_row F
  have m_len := g_len F
  have m_all := g_all F
  have k_LETTERS := g_LETTERS F
  refine fnAt_of (k := 3) (N := N_is_swap_table) D ⟨rfl, rfl, rfl, by decide +kernel, rfl, by decide +kernel, by decide +kernel⟩ (F.glo 5 rfl) (fun _ _ _ _ _ _ us hl => match us, hl with | [_], _ => rfl) (fun f cdv A outer s H E hr => ?_) (n := 1) (m := 1) rfl rfl vc_is_swap_table
  have hu1 := room1 hr
  have hu64 := room64 hr
  have hu65 := room65 hr
  have hnd : (N_is_swap_table).Nodup := by decide +kernel
  exact pd_sCons (pd_ret (pd_andV (pd_fnA c_is_tuple_of hr (by decide) rfl rfl (pd_cons (pd_var rfl (Or.inr (Or.inl rfl)) rfl rfl) (pd_cons (pd_int) (pd_cons (pd_globE rfl k_LETTERS rfl) (pd_nil) rfl) rfl) rfl) rfl rfl rfl) (pe_one (pd_callB (cr_all rfl) lift_all rfl m_all rfl (pd_cons (pd_lc (m := false) (own := [("row", 1)]) rfl rfl hnd (pdi_seq (pd_var rfl (Or.inr (Or.inl rfl)) rfl rfl)) (by kernel_rfl) rfl (fun s H C cl fp => pg_name hnd rfl (Or.inl rfl) (Or.inr rfl)) (fun s H C cl fp => pd_ifs0) (fun s H C cl fp => pd_fnA c_is_swap_row hr (by decide) rfl rfl (pd_cons (pd_var rfl (Or.inl rfl) rfl rfl) (pd_cons (pd_callB call_len lift_len rfl m_len rfl (pd_cons (pd_var rfl (Or.inr (Or.inl rfl)) rfl rfl) (pd_nil) rfl) (by decide) rfl rfl rfl) (pd_nil) rfl) rfl) rfl rfl rfl) (fun _ => rfl)) (pd_nil) rfl) (by decide) rfl rfl rfl)))) (pd_sNil)
theorem ok_behind_of (F : Fx fa fn W hh) : FnAt W 1 "behind_of" ["swaps", "triple"] sp_behind_of := by
  obtain ⟨fd, D⟩ := F.def_ 10 (d := dOf "behind_of" "behind_of" 23) rfl
  refine fnAt_of (k := 0) (N := N_behind_of) D ⟨rfl, rfl, rfl, by decide +kernel, rfl, by decide +kernel, by decide +kernel⟩ (F.glo 10 rfl) (fun _ _ _ _ _ _ us hl => match us, hl with | [_, _], _ => rfl) (fun f cdv A outer s H E hr => ?_) (n := 2) (m := 0) rfl rfl vc_behind_of
  have hu1 := room1 hr
  have hu64 := room64 hr
  have hu65 := room65 hr
  have hnd : (N_behind_of).Nodup := by decide +kernel
  exact pd_sCons (pd_ret (pd_bin op_addAll (lift_add false) (pd_tup (pd_cons (pd_ix hu1 (pd_var rfl (Or.inl rfl) rfl rfl) (pd_int) (fun _ _ => rfl)) (pd_nil) rfl)) (pd_ix hu1 (pd_ix hu1 (pd_var rfl (Or.inl rfl) rfl rfl) (pd_ix hu1 (pd_var rfl (Or.inl rfl) rfl rfl) (pd_int) (fun _ _ => rfl)) (fun _ _ => rfl)) (pd_ix hu1 (pd_var rfl (Or.inl rfl) rfl rfl) (pd_int) (fun _ _ => rfl)) (fun _ _ => rfl)))) (pd_sNil)
theorem ok_ahead_of (F : Fx fa fn W hh) : FnAt W 1 "ahead_of" ["swaps", "triple"] sp_ahead_of := by
  obtain ⟨fd, D⟩ := F.def_ 9 (d := dOf "ahead_of" "ahead_of" 22) rfl
  refine fnAt_of (k := 0) (N := N_ahead_of) D ⟨rfl, rfl, rfl, by decide +kernel, rfl, by decide +kernel, by decide +kernel⟩ (F.glo 9 rfl) (fun _ _ _ _ _ _ us hl => match us, hl with | [_, _], _ => rfl) (fun f cdv A outer s H E hr => ?_) (n := 2) (m := 0) rfl rfl vc_ahead_of
  have hu1 := room1 hr
  have hu64 := room64 hr
  have hu65 := room65 hr
  have hnd : (N_ahead_of).Nodup := by decide +kernel
  exact pd_sCons (pd_ret (pd_bin op_addAll (lift_add false) (pd_ix hu1 (pd_ix hu1 (pd_var rfl (Or.inl rfl) rfl rfl) (pd_ix hu1 (pd_var rfl (Or.inl rfl) rfl rfl) (pd_int) (fun _ _ => rfl)) (fun _ _ => rfl)) (pd_ix hu1 (pd_var rfl (Or.inl rfl) rfl rfl) (pd_int) (fun _ _ => rfl)) (fun _ _ => rfl)) (pd_tup (pd_cons (pd_ix hu1 (pd_var rfl (Or.inl rfl) rfl rfl) (pd_int) (fun _ _ => rfl)) (pd_nil) rfl)))) (pd_sNil)
theorem ok_both_ways (F : Fx fa fn W hh) : FnAt W 2 "both_ways" ["swaps", "triple"] sp_both_ways := by
  obtain ⟨fd, D⟩ := F.def_ 11 (d := dOf "both_ways" "both_ways" 24) rfl
  have c_behind_of := ok_behind_of F
  have c_ahead_of := ok_ahead_of F
  refine fnAt_of (k := 1) (N := N_both_ways) D ⟨rfl, rfl, rfl, by decide +kernel, rfl, by decide +kernel, by decide +kernel⟩ (F.glo 11 rfl) (fun _ _ _ _ _ _ us hl => match us, hl with | [_, _], _ => rfl) (fun f cdv A outer s H E hr => ?_) (n := 2) (m := 2) rfl rfl vc_both_ways
  have hu1 := room1 hr
  have hu64 := room64 hr
  have hu65 := room65 hr
  have hnd : (N_both_ways).Nodup := by decide +kernel
  exact pd_sCons (pd_asg (pd_fnA c_ahead_of hr (by decide) rfl rfl (pd_cons (pd_var rfl (Or.inl rfl) rfl rfl) (pd_cons (pd_fnA c_behind_of hr (by decide) rfl rfl (pd_cons (pd_var rfl (Or.inl rfl) rfl rfl) (pd_cons (pd_fnA c_ahead_of hr (by decide) rfl rfl (pd_cons (pd_var rfl (Or.inl rfl) rfl rfl) (pd_cons (pd_var rfl (Or.inl rfl) rfl rfl) (pd_nil) rfl) rfl) rfl rfl rfl) (pd_nil) rfl) rfl) rfl rfl rfl) (pd_nil) rfl) rfl) rfl rfl rfl) (pd_gNm hnd rfl (Or.inl rfl) (Or.inl rfl)) rfl rfl rfl) (pd_sCons (pd_asg (pd_fnA c_behind_of hr (by decide) rfl rfl (pd_cons (pd_var rfl (Or.inl rfl) rfl rfl) (pd_cons (pd_fnA c_ahead_of hr (by decide) rfl rfl (pd_cons (pd_var rfl (Or.inl rfl) rfl rfl) (pd_cons (pd_fnA c_behind_of hr (by decide) rfl rfl (pd_cons (pd_var rfl (Or.inl rfl) rfl rfl) (pd_cons (pd_var rfl (Or.inl rfl) rfl rfl) (pd_nil) rfl) rfl) rfl rfl rfl) (pd_nil) rfl) rfl) rfl rfl rfl) (pd_nil) rfl) rfl) rfl rfl rfl) (pd_gNm hnd rfl (Or.inl rfl) (Or.inl rfl)) rfl rfl rfl) (pd_sCons (pd_ret (pd_tup (pd_cons (pd_var rfl (Or.inl rfl) rfl rfl) (pd_cons (pd_var rfl (Or.inl rfl) rfl rfl) (pd_nil) rfl) rfl))) (pd_sNil)))
theorem ok_is_three_at (F : Fx fa fn W hh) : FnAt W 3 "is_three_at" ["swaps", "triple"] sp_is_three_at := by
  obtain ⟨fd, D⟩ := F.def_ 12 (d := dOf "is_three_at" "is_three_at" 25) rfl
  have c_both_ways := ok_both_ways F
  refine fnAt_of (k := 2) (N := N_is_three_at) D ⟨rfl, rfl, rfl, by decide +kernel, rfl, by decide +kernel, by decide +kernel⟩ (F.glo 12 rfl) (fun _ _ _ _ _ _ us hl => match us, hl with | [_, _], _ => rfl) (fun f cdv A outer s H E hr => ?_) (n := 2) (m := 2) rfl rfl vc_is_three_at
  have hu1 := room1 hr
  have hu64 := room64 hr
  have hu65 := room65 hr
  have hnd : (N_is_three_at).Nodup := by decide +kernel
  exact pd_sCons (pd_asg (pd_fnA c_both_ways hr (by decide) rfl rfl (pd_cons (pd_var rfl (Or.inl rfl) rfl rfl) (pd_cons (pd_var rfl (Or.inl rfl) rfl rfl) (pd_nil) rfl) rfl) rfl rfl rfl) (pd_gTup rfl (pd_gsCons (pd_gNm hnd rfl (Or.inl rfl) (Or.inl rfl)) (pd_gsCons (pd_gNm hnd rfl (Or.inl rfl) (Or.inl rfl)) (pd_gsNil) rfl) rfl) rfl rfl) rfl rfl rfl) (pd_sCons (pd_ret (pd_cmp (op_eqD hu64) lift_eq (pd_var rfl (Or.inl rfl) rfl rfl) (pd_var rfl (Or.inl rfl) rfl rfl) rfl)) (pd_sNil))
theorem ok_first_three (F : Fx fa fn W hh) : FnAt W 4 "first_three" ["swaps"] sp_first_three := by
  obtain ⟨fd, D⟩ := F.def_ 13 (d := dOf "first_three" "first_three" 26) rfl
  have c_is_three_at := ok_is_three_at F
  have m_range := g_range F
  have m_list := g_list F
  have m_len := g_len F
  refine fnAt_of (k := 3) (N := N_first_three) D ⟨rfl, rfl, rfl, by decide +kernel, rfl, by decide +kernel, by decide +kernel⟩ (F.glo 13 rfl) (fun _ _ _ _ _ _ us hl => match us, hl with | [_], _ => rfl) (fun f cdv A outer s H E hr => ?_) (n := 1) (m := 4) rfl rfl vc_first_three
  have hu1 := room1 hr
  have hu64 := room64 hr
  have hu65 := room65 hr
  have hnd : (N_first_three).Nodup := by decide +kernel
  exact pd_sCons (pd_asg (pd_listRg (m := false) rfl rfl m_list (pdr_1 rfl m_range (pd_callB call_len lift_len rfl m_len rfl (pd_cons (pd_var rfl (Or.inl rfl) rfl rfl) (pd_nil) rfl) (by decide) rfl rfl rfl))) (pd_gNm hnd rfl (Or.inl rfl) (Or.inl rfl)) rfl rfl rfl) (pd_sCons (pd_for PassesOwn.never rfl (pdi_seq (pd_var rfl (Or.inl rfl) rfl rfl)) (pg_name hnd rfl (Or.inl rfl) (Or.inl rfl)) (pd_sCons (pd_for PassesOwn.never rfl (pdi_seq (pd_var rfl (Or.inl rfl) rfl rfl)) (pg_name hnd rfl (Or.inl rfl) (Or.inl rfl)) (pd_sCons (pd_for PassesOwn.never rfl (pdi_seq (pd_var rfl (Or.inl rfl) rfl rfl)) (pg_name hnd rfl (Or.inl rfl) (Or.inl rfl)) (pd_sCons (pd_sIf (pd_not (pd_val (pd_fnA c_is_three_at hr (by decide) rfl rfl (pd_cons (pd_var rfl (Or.inl rfl) rfl rfl) (pd_cons (pd_tup (pd_cons (pd_var rfl (Or.inl rfl) rfl rfl) (pd_cons (pd_var rfl (Or.inl rfl) rfl rfl) (pd_cons (pd_var rfl (Or.inl rfl) rfl rfl) (pd_nil) rfl) rfl) rfl)) (pd_nil) rfl) rfl) rfl rfl rfl) (fun _ => rfl))) (pd_sCons (pd_ret (pd_tup (pd_cons (pd_var rfl (Or.inl rfl) rfl rfl) (pd_cons (pd_var rfl (Or.inl rfl) rfl rfl) (pd_cons (pd_var rfl (Or.inl rfl) rfl rfl) (pd_nil) rfl) rfl) rfl))) (pd_sNil)) (pd_sNil)) (pd_sNil)) (fun _ => rfl)) (pd_sNil)) (fun _ => rfl)) (pd_sNil)) (fun _ => rfl)) (pd_sCons (pd_ret (pd_non)) (pd_sNil)))
theorem ok_first_alike (F : Fx fa fn W hh) : FnAt W 2 "first_alike" ["swaps"] sp_first_alike := by
  obtain ⟨fd, D⟩ := F.def_ 19 (d := dOf "first_alike" "first_alike" 35) rfl
  have c_pairs_of := ok_pairs_of F
  have m_enumerate := g_enumerate F
  have m_len := g_len F
  refine fnAt_of (k := 1) (N := N_first_alike) D ⟨rfl, rfl, rfl, by decide +kernel, rfl, by decide +kernel, by decide +kernel⟩ (F.glo 19 rfl) (fun _ _ _ _ _ _ us hl => match us, hl with | [_], _ => rfl) (fun f cdv A outer s H E hr => ?_) (n := 1) (m := 4) rfl rfl vc_first_alike
  have hu1 := room1 hr
  have hu64 := room64 hr
  have hu65 := room65 hr
  have hnd : (N_first_alike).Nodup := by decide +kernel
  exact pd_sCons (pd_asg (pd_fnA c_pairs_of hr (by decide) rfl rfl (pd_cons (pd_callB call_len lift_len rfl m_len rfl (pd_cons (pd_var rfl (Or.inl rfl) rfl rfl) (pd_nil) rfl) (by decide) rfl rfl rfl) (pd_nil) rfl) rfl rfl rfl) (pd_gNm hnd rfl (Or.inl rfl) (Or.inl rfl)) rfl rfl rfl) (pd_sCons (pd_for PassesOwn.never rfl (pdi_enum rfl m_enumerate (pd_cons (pd_var rfl (Or.inl rfl) rfl rfl) (pd_nil) rfl) rfl) (pg_tup rfl (pgs_cons (pg_name hnd rfl (Or.inl rfl) (Or.inl rfl)) (pgs_cons (pg_name hnd rfl (Or.inl rfl) (Or.inl rfl)) (pgs_nil) rfl) rfl) rfl rfl) (pd_sCons (pd_for PassesOwn.never rfl (pdi_seq (pd_slice (m := false) (pd_var rfl (Or.inl rfl) rfl rfl) (pd_part (pd_bin op_addAll (lift_add false) (pd_var rfl (Or.inl rfl) rfl rfl) (pd_int))) (pd_noPart))) (pg_name hnd rfl (Or.inl rfl) (Or.inl rfl)) (pd_sCons (pd_sIf (pd_cmpT (op_eqD hu64) lift_eq (pd_ix hu1 (pd_ix hu1 (pd_var rfl (Or.inl rfl) rfl rfl) (pd_ix hu1 (pd_var rfl (Or.inl rfl) rfl rfl) (pd_int) (fun _ _ => rfl)) (fun _ _ => rfl)) (pd_ix hu1 (pd_var rfl (Or.inl rfl) rfl rfl) (pd_int) (fun _ _ => rfl)) (fun _ _ => rfl)) (pd_ix hu1 (pd_ix hu1 (pd_var rfl (Or.inl rfl) rfl rfl) (pd_ix hu1 (pd_var rfl (Or.inl rfl) rfl rfl) (pd_int) (fun _ _ => rfl)) (fun _ _ => rfl)) (pd_ix hu1 (pd_var rfl (Or.inl rfl) rfl rfl) (pd_int) (fun _ _ => rfl)) (fun _ _ => rfl)) rfl) (pd_sCons (pd_ret (pd_tup (pd_cons (pd_var rfl (Or.inl rfl) rfl rfl) (pd_cons (pd_var rfl (Or.inl rfl) rfl rfl) (pd_nil) rfl) rfl))) (pd_sNil)) (pd_sNil)) (pd_sNil)) (fun _ => rfl)) (pd_sNil)) (fun _ => rfl)) (pd_sCons (pd_ret (pd_non)) (pd_sNil)))
theorem ok_first_double (F : Fx fa fn W hh) : FnAt W 1 "first_double" ["leads"] sp_first_double := by
  obtain ⟨fd, D⟩ := F.def_ 8 (d := dOf "first_double" "first_double" 20) rfl
  have m_enumerate := g_enumerate F
  have m_len := g_len F
  have m_range := g_range F
  refine fnAt_of (k := 0) (N := N_first_double) D ⟨rfl, rfl, rfl, by decide +kernel, rfl, by decide +kernel, by decide +kernel⟩ (F.glo 8 rfl) (fun _ _ _ _ _ _ us hl => match us, hl with | [_], _ => rfl) (fun f cdv A outer s H E hr => ?_) (n := 1) (m := 4) rfl rfl vc_first_double
  have hu1 := room1 hr
  have hu64 := room64 hr
  have hu65 := room65 hr
  have hnd : (N_first_double).Nodup := by decide +kernel
  exact pd_sCons (pd_for PassesOwn.never rfl (pdi_enum rfl m_enumerate (pd_cons (pd_var rfl (Or.inl rfl) rfl rfl) (pd_nil) rfl) rfl) (pg_tup rfl (pgs_cons (pg_name hnd rfl (Or.inl rfl) (Or.inl rfl)) (pgs_cons (pg_name hnd rfl (Or.inl rfl) (Or.inl rfl)) (pgs_nil) rfl) rfl) rfl rfl) (pd_sCons (pd_for PassesOwn.never rfl (pdi_rng1 rfl m_range (pd_cons (pd_callB call_len lift_len rfl m_len rfl (pd_cons (pd_var rfl (Or.inl rfl) rfl rfl) (pd_nil) rfl) (by decide) rfl rfl rfl) (pd_nil) rfl) rfl) (pg_name hnd rfl (Or.inl rfl) (Or.inl rfl)) (pd_sCons (pd_for PassesOwn.never rfl (pdi_rng2 rfl m_range (pd_cons (pd_bin op_addAll (lift_add false) (pd_var rfl (Or.inl rfl) rfl rfl) (pd_int)) (pd_cons (pd_callB call_len lift_len rfl m_len rfl (pd_cons (pd_var rfl (Or.inl rfl) rfl rfl) (pd_nil) rfl) (by decide) rfl rfl rfl) (pd_nil) rfl) rfl) rfl rfl) (pg_name hnd rfl (Or.inl rfl) (Or.inl rfl)) (pd_sCons (pd_sIf (pd_cmpT (op_eqD hu64) lift_eq (pd_ix hu1 (pd_var rfl (Or.inl rfl) rfl rfl) (pd_var rfl (Or.inl rfl) rfl rfl) (fun _ _ => rfl)) (pd_ix hu1 (pd_var rfl (Or.inl rfl) rfl rfl) (pd_var rfl (Or.inl rfl) rfl rfl) (fun _ _ => rfl)) rfl) (pd_sCons (pd_ret (pd_tup (pd_cons (pd_var rfl (Or.inl rfl) rfl rfl) (pd_cons (pd_var rfl (Or.inl rfl) rfl rfl) (pd_cons (pd_var rfl (Or.inl rfl) rfl rfl) (pd_nil) rfl) rfl) rfl))) (pd_sNil)) (pd_sNil)) (pd_sNil)) (fun _ => rfl)) (pd_sNil)) (fun _ => rfl)) (pd_sNil)) (fun _ => rfl)) (pd_sCons (pd_ret (pd_non)) (pd_sNil))
theorem ok_columns_in (F : Fx fa fn W hh) : FnAt W 1 "columns_in" ["swaps"] sp_columns_in := by
  obtain ⟨fd, D⟩ := F.def_ 7 (d := dOf "columns_in" "columns_in" 19) rfl
  have m_len := g_len F
  have m_range := g_range F
  have m_tuple := g_tuple F
  refine fnAt_of (k := 0) (N := N_columns_in) D ⟨rfl, rfl, rfl, by decide +kernel, rfl, by decide +kernel, by decide +kernel⟩ (F.glo 7 rfl) (fun _ _ _ _ _ _ us hl => match us, hl with | [_], _ => rfl) (fun f cdv A outer s H E hr => ?_) (n := 1) (m := 2) rfl rfl vc_columns_in
  have hu1 := room1 hr
  have hu64 := room64 hr
  have hu65 := room65 hr
  have hnd : (N_columns_in).Nodup := by decide +kernel
  exact pd_sCons (pd_ret (pd_lc (m := false) (own := [("at", 1)]) rfl rfl hnd (pdi_rng1 rfl m_range (pd_cons (pd_callB call_len lift_len rfl m_len rfl (pd_cons (pd_var rfl (Or.inr (Or.inl rfl)) rfl rfl) (pd_nil) rfl) (by decide) rfl rfl rfl) (pd_nil) rfl) rfl) (by kernel_rfl) rfl (fun s H C cl fp => pg_name hnd rfl (Or.inr rfl) (Or.inl rfl)) (fun s H C cl fp => pd_ifs0) (fun s H C cl fp => pd_callTy call_tupF lift_tuple rfl m_tuple rfl (pd_cons (pd_lc (m := false) (own := [("row", 2)]) rfl rfl hnd (pdi_seq (pd_var rfl (Or.inr (Or.inl rfl)) rfl rfl)) (by kernel_rfl) rfl (fun s H C cl fp => pg_name hnd rfl (Or.inl rfl) (Or.inr rfl)) (fun s H C cl fp => pd_ifs0) (fun s H C cl fp => pd_ix hu1 (pd_ix hu1 (pd_var rfl (Or.inl rfl) rfl rfl) (pd_var rfl (Or.inr (Or.inl rfl)) rfl rfl) (fun _ _ => rfl)) (pd_int) (fun _ _ => rfl)) (fun _ => rfl)) (pd_nil) rfl) (by decide) rfl rfl rfl) (fun _ => rfl))) (pd_sNil)
theorem ok_rows_in (F : Fx fa fn W hh) : FnAt W 1 "rows_in" ["swaps"] sp_rows_in := by
  obtain ⟨fd, D⟩ := F.def_ 6 (d := dOf "rows_in" "rows_in" 18) rfl
  have m_tuple := g_tuple F
  refine fnAt_of (k := 0) (N := N_rows_in) D ⟨rfl, rfl, rfl, by decide +kernel, rfl, by decide +kernel, by decide +kernel⟩ (F.glo 6 rfl) (fun _ _ _ _ _ _ us hl => match us, hl with | [_], _ => rfl) (fun f cdv A outer s H E hr => ?_) (n := 1) (m := 2) rfl rfl vc_rows_in
  have hu1 := room1 hr
  have hu64 := room64 hr
  have hu65 := room65 hr
  have hnd : (N_rows_in).Nodup := by decide +kernel
  exact pd_sCons (pd_ret (pd_lc (m := false) (own := [("row", 1)]) rfl rfl hnd (pdi_seq (pd_var rfl (Or.inl rfl) rfl rfl)) (by kernel_rfl) rfl (fun s H C cl fp => pg_name hnd rfl (Or.inl rfl) (Or.inr rfl)) (fun s H C cl fp => pd_ifs0) (fun s H C cl fp => pd_callTy call_tupF lift_tuple rfl m_tuple rfl (pd_cons (pd_lc (m := false) (own := [("pair", 2)]) rfl rfl hnd (pdi_seq (pd_var rfl (Or.inl rfl) rfl rfl)) (by kernel_rfl) rfl (fun s H C cl fp => pg_name hnd rfl (Or.inl rfl) (Or.inr rfl)) (fun s H C cl fp => pd_ifs0) (fun s H C cl fp => pd_ix hu1 (pd_var rfl (Or.inl rfl) rfl rfl) (pd_int) (fun _ _ => rfl)) (fun _ => rfl)) (pd_nil) rfl) (by decide) rfl rfl rfl) (fun _ => rfl))) (pd_sNil)
theorem ok_first_fault (F : Fx fa fn W hh) : FnAt W 5 "first_fault" ["swaps"] sp_first_fault := by
  obtain ⟨fd, D⟩ := F.def_ 21 (d := dOf "first_fault" "first_fault" 38) rfl
  have c_first_three := ok_first_three F
  have c_first_alike := ok_first_alike F
  have c_first_double := ok_first_double F
  have c_columns_in := ok_columns_in F
  have c_rows_in := ok_rows_in F
  refine fnAt_of (k := 4) (N := N_first_fault) D ⟨rfl, rfl, rfl, by decide +kernel, rfl, by decide +kernel, by decide +kernel⟩ (F.glo 21 rfl) (fun _ _ _ _ _ _ us hl => match us, hl with | [_], _ => rfl) (fun f cdv A outer s H E hr => ?_) (n := 1) (m := 1) rfl rfl vc_first_fault
  have hu1 := room1 hr
  have hu64 := room64 hr
  have hu65 := room65 hr
  have hnd : (N_first_fault).Nodup := by decide +kernel
  exact pd_sCons (pd_asg (pd_fnA c_first_double hr (by decide) rfl rfl (pd_cons (pd_fnA c_rows_in hr (by decide) rfl rfl (pd_cons (pd_var rfl (Or.inl rfl) rfl rfl) (pd_nil) rfl) rfl rfl rfl) (pd_nil) rfl) rfl rfl rfl) (pd_gNm hnd rfl (Or.inl rfl) (Or.inl rfl)) rfl rfl rfl) (pd_sCons (pd_sIf (pd_cmpT op_notN lift_notN (pd_var rfl (Or.inl rfl) rfl rfl) (pd_non) rfl) (pd_sCons (pd_ret (pd_tup (pd_cons (pd_str) (pd_cons (pd_var rfl (Or.inl rfl) rfl rfl) (pd_nil) rfl) rfl))) (pd_sNil)) (pd_sNil)) (pd_sCons (pd_asg (pd_fnA c_first_double hr (by decide) rfl rfl (pd_cons (pd_fnA c_columns_in hr (by decide) rfl rfl (pd_cons (pd_var rfl (Or.inl rfl) rfl rfl) (pd_nil) rfl) rfl rfl rfl) (pd_nil) rfl) rfl rfl rfl) (pd_gNm hnd rfl (Or.inl rfl) (Or.inl rfl)) rfl rfl rfl) (pd_sCons (pd_sIf (pd_cmpT op_notN lift_notN (pd_var rfl (Or.inl rfl) rfl rfl) (pd_non) rfl) (pd_sCons (pd_ret (pd_tup (pd_cons (pd_str) (pd_cons (pd_var rfl (Or.inl rfl) rfl rfl) (pd_nil) rfl) rfl))) (pd_sNil)) (pd_sNil)) (pd_sCons (pd_asg (pd_fnA c_first_alike hr (by decide) rfl rfl (pd_cons (pd_var rfl (Or.inl rfl) rfl rfl) (pd_nil) rfl) rfl rfl rfl) (pd_gNm hnd rfl (Or.inl rfl) (Or.inl rfl)) rfl rfl rfl) (pd_sCons (pd_sIf (pd_cmpT op_notN lift_notN (pd_var rfl (Or.inl rfl) rfl rfl) (pd_non) rfl) (pd_sCons (pd_ret (pd_tup (pd_cons (pd_str) (pd_cons (pd_var rfl (Or.inl rfl) rfl rfl) (pd_nil) rfl) rfl))) (pd_sNil)) (pd_sNil)) (pd_sCons (pd_asg (pd_fnA c_first_three hr (by decide) rfl rfl (pd_cons (pd_var rfl (Or.inl rfl) rfl rfl) (pd_nil) rfl) rfl rfl rfl) (pd_gNm hnd rfl (Or.inl rfl) (Or.inl rfl)) rfl rfl rfl) (pd_sCons (pd_ret (pd_if (pd_cmpT op_isN lift_isN (pd_var rfl (Or.inl rfl) rfl rfl) (pd_non) rfl) (pd_non) (pd_tup (pd_cons (pd_str) (pd_cons (pd_var rfl (Or.inl rfl) rfl rfl) (pd_nil) rfl) rfl)))) (pd_sNil))))))))
theorem ok_need_braid (F : Fx fa fn W hh) : FnAt W 6 "need_braid" ["value"] sp_need_braid := by
  obtain ⟨fd, D⟩ := F.def_ 22 (d := dOf "need_braid" "need_braid" 39) rfl
  have c_is_swap_table := ok_is_swap_table F
  have c_first_fault := ok_first_fault F
  refine fnAt_of (k := 5) (N := N_need_braid) D ⟨rfl, rfl, rfl, by decide +kernel, rfl, by decide +kernel, by decide +kernel⟩ (F.glo 22 rfl) (fun _ _ _ _ _ _ us hl => match us, hl with | [_], _ => rfl) (fun f cdv A outer s H E hr => ?_) (n := 1) (m := 0) rfl rfl vc_need_braid
  have hu1 := room1 hr
  have hu64 := room64 hr
  have hu65 := room65 hr
  have hnd : (N_need_braid).Nodup := by decide +kernel
  exact pd_sCons (pd_sIf (PW.pt (pd_or (pd_not (pd_val (pd_fnA c_is_swap_table hr (by decide) rfl rfl (pd_cons (pd_var rfl (Or.inl rfl) rfl rfl) (pd_nil) rfl) rfl rfl rfl) (fun _ => rfl))) (pd_or1 (pd_cmpT op_notN lift_notN (pd_fnA c_first_fault hr (by decide) rfl rfl (pd_cons (pd_var rfl (Or.inl rfl) rfl rfl) (pd_nil) rfl) rfl rfl rfl) (pd_non) rfl)))) (pd_sCons (pd_never) (pd_sNil)) (pd_sNil)) (pd_sNil)
theorem ok_count_colours (F : Fx fa fn W hh) : FnAt W 7 "count_colours" ["swaps", "strands", "word"] sp_count_colours := by
  obtain ⟨fd, D⟩ := F.def_ 36 (d := dOf "count_colours" "count_colours" 58) rfl
  have c_colours_in := ok_colours_in F
  have c_need_few := ok_need_few F
  have c_need_crossing := ok_need_crossing F
  have c_need_braid := ok_need_braid F
  have m_len := g_len F
  refine fnAt_of (k := 6) (N := N_count_colours) D ⟨rfl, rfl, rfl, by decide +kernel, rfl, by decide +kernel, by decide +kernel⟩ (F.glo 36 rfl) (fun _ _ _ _ _ _ us hl => match us, hl with | [_, _, _], _ => rfl) (fun f cdv A outer s H E hr => ?_) (n := 3) (m := 0) rfl rfl vc_count_colours
  have hu1 := room1 hr
  have hu64 := room64 hr
  have hu65 := room65 hr
  have hnd : (N_count_colours).Nodup := by decide +kernel
  exact pd_sCons (pd_expr (pd_fnA c_need_braid hr (by decide) rfl rfl (pd_cons (pd_var rfl (Or.inl rfl) rfl rfl) (pd_nil) rfl) rfl rfl rfl) rfl) (pd_sCons (pd_expr (pd_fnA c_need_crossing hr (by decide) rfl rfl (pd_cons (pd_var rfl (Or.inl rfl) rfl rfl) (pd_cons (pd_var rfl (Or.inl rfl) rfl rfl) (pd_nil) rfl) rfl) rfl rfl rfl) rfl) (pd_sCons (pd_expr (pd_fnA c_need_few hr (by decide) rfl rfl (pd_cons (pd_callB call_len lift_len rfl m_len rfl (pd_cons (pd_var rfl (Or.inl rfl) rfl rfl) (pd_nil) rfl) (by decide) rfl rfl rfl) (pd_cons (pd_var rfl (Or.inl rfl) rfl rfl) (pd_nil) rfl) rfl) rfl rfl rfl) rfl) (pd_sCons (pd_ret (pd_callB call_len lift_len rfl m_len rfl (pd_cons (pd_fnA c_colours_in hr (by decide) rfl rfl (pd_cons (pd_var rfl (Or.inl rfl) rfl rfl) (pd_cons (pd_var rfl (Or.inl rfl) rfl rfl) (pd_cons (pd_var rfl (Or.inl rfl) rfl rfl) (pd_nil) rfl) rfl) rfl) rfl rfl rfl) (pd_nil) rfl) (by decide) rfl rfl rfl)) (pd_sNil))))
theorem ok_colours_of (F : Fx fa fn W hh) : FnAt W 7 "colours_of" ["swaps", "strands", "word"] sp_colours_of := by
  obtain ⟨fd, D⟩ := F.def_ 35 (d := dOf "colours_of" "colours_of" 57) rfl
  have c_colours_in := ok_colours_in F
  have c_need_few := ok_need_few F
  have c_need_crossing := ok_need_crossing F
  have c_need_braid := ok_need_braid F
  have m_tuple := g_tuple F
  have m_len := g_len F
  refine fnAt_of (k := 6) (N := N_colours_of) D ⟨rfl, rfl, rfl, by decide +kernel, rfl, by decide +kernel, by decide +kernel⟩ (F.glo 35 rfl) (fun _ _ _ _ _ _ us hl => match us, hl with | [_, _, _], _ => rfl) (fun f cdv A outer s H E hr => ?_) (n := 3) (m := 0) rfl rfl vc_colours_of
  have hu1 := room1 hr
  have hu64 := room64 hr
  have hu65 := room65 hr
  have hnd : (N_colours_of).Nodup := by decide +kernel
  exact pd_sCons (pd_expr (pd_fnA c_need_braid hr (by decide) rfl rfl (pd_cons (pd_var rfl (Or.inl rfl) rfl rfl) (pd_nil) rfl) rfl rfl rfl) rfl) (pd_sCons (pd_expr (pd_fnA c_need_crossing hr (by decide) rfl rfl (pd_cons (pd_var rfl (Or.inl rfl) rfl rfl) (pd_cons (pd_var rfl (Or.inl rfl) rfl rfl) (pd_nil) rfl) rfl) rfl rfl rfl) rfl) (pd_sCons (pd_expr (pd_fnA c_need_few hr (by decide) rfl rfl (pd_cons (pd_callB call_len lift_len rfl m_len rfl (pd_cons (pd_var rfl (Or.inl rfl) rfl rfl) (pd_nil) rfl) (by decide) rfl rfl rfl) (pd_cons (pd_var rfl (Or.inl rfl) rfl rfl) (pd_nil) rfl) rfl) rfl rfl rfl) rfl) (pd_sCons (pd_ret (pd_callTy call_tupF lift_tuple rfl m_tuple rfl (pd_cons (pd_fnA c_colours_in hr (by decide) rfl rfl (pd_cons (pd_var rfl (Or.inl rfl) rfl rfl) (pd_cons (pd_var rfl (Or.inl rfl) rfl rfl) (pd_cons (pd_var rfl (Or.inl rfl) rfl rfl) (pd_nil) rfl) rfl) rfl) rfl rfl rfl) (pd_nil) rfl) (by decide) rfl rfl rfl)) (pd_sNil))))
theorem ok_crossed_in (F : Fx fa fn W hh) : FnAt W 3 "crossed_in" ["swaps", "word", "row"] sp_crossed_in := by
  obtain ⟨fd, D⟩ := F.def_ 27 (d := dOf "crossed_in" "crossed_in" 47) rfl
  have c_crossed_by := ok_crossed_by F
  have c_back_table := ok_back_table F
  refine fnAt_of (k := 2) (N := N_crossed_in) D ⟨rfl, rfl, rfl, by decide +kernel, rfl, by decide +kernel, by decide +kernel⟩ (F.glo 27 rfl) (fun _ _ _ _ _ _ us hl => match us, hl with | [_, _, _], _ => rfl) (fun f cdv A outer s H E hr => ?_) (n := 3) (m := 0) rfl rfl vc_crossed_in
  have hu1 := room1 hr
  have hu64 := room64 hr
  have hu65 := room65 hr
  have hnd : (N_crossed_in).Nodup := by decide +kernel
  exact pd_sCons (pd_ret (pd_fnA c_crossed_by hr (by decide) rfl rfl (pd_cons (pd_var rfl (Or.inl rfl) rfl rfl) (pd_cons (pd_fnA c_back_table hr (by decide) rfl rfl (pd_cons (pd_var rfl (Or.inl rfl) rfl rfl) (pd_nil) rfl) rfl rfl rfl) (pd_cons (pd_var rfl (Or.inl rfl) rfl rfl) (pd_cons (pd_var rfl (Or.inl rfl) rfl rfl) (pd_nil) rfl) rfl) rfl) rfl) rfl rfl rfl)) (pd_sNil)
theorem ok_is_colour (F : Fx fa fn W hh) : FnAt W 7 "is_colour" ["swaps", "strands", "word", "value"] sp_is_colour := by
  obtain ⟨fd, D⟩ := F.def_ 37 (d := dOf "is_colour" "is_colour" 59) rfl
  have c_are_wholes := ok_are_wholes F
  have c_crossed_in := ok_crossed_in F
  have c_need_crossing := ok_need_crossing F
  have c_need_braid := ok_need_braid F
  have m_len := g_len F
  refine fnAt_of (k := 6) (N := N_is_colour) D ⟨rfl, rfl, rfl, by decide +kernel, rfl, by decide +kernel, by decide +kernel⟩ (F.glo 37 rfl) (fun _ _ _ _ _ _ us hl => match us, hl with | [_, _, _, _], _ => rfl) (fun f cdv A outer s H E hr => ?_) (n := 4) (m := 0) rfl rfl vc_is_colour
  have hu1 := room1 hr
  have hu64 := room64 hr
  have hu65 := room65 hr
  have hnd : (N_is_colour).Nodup := by decide +kernel
  exact pd_sCons (pd_expr (pd_fnA c_need_braid hr (by decide) rfl rfl (pd_cons (pd_var rfl (Or.inl rfl) rfl rfl) (pd_nil) rfl) rfl rfl rfl) rfl) (pd_sCons (pd_expr (pd_fnA c_need_crossing hr (by decide) rfl rfl (pd_cons (pd_var rfl (Or.inl rfl) rfl rfl) (pd_cons (pd_var rfl (Or.inl rfl) rfl rfl) (pd_nil) rfl) rfl) rfl rfl rfl) rfl) (pd_sCons (pd_ret (pd_andV (pd_fnA c_are_wholes hr (by decide) rfl rfl (pd_cons (pd_var rfl (Or.inl rfl) rfl rfl) (pd_cons (pd_var rfl (Or.inl rfl) rfl rfl) (pd_cons (pd_int) (pd_cons (pd_bin op_sub' (lift_I _ _) (pd_callB call_len lift_len rfl m_len rfl (pd_cons (pd_var rfl (Or.inl rfl) rfl rfl) (pd_nil) rfl) (by decide) rfl rfl rfl) (pd_int)) (pd_nil) rfl) rfl) rfl) rfl) rfl rfl rfl) (pe_one (pd_cmp (op_eqD hu64) lift_eq (pd_fnA c_crossed_in hr (by decide) rfl rfl (pd_cons (pd_var rfl (Or.inl rfl) rfl rfl) (pd_cons (pd_var rfl (Or.inl rfl) rfl rfl) (pd_cons (pd_var rfl (Or.inl rfl) rfl rfl) (pd_nil) rfl) rfl) rfl) rfl rfl rfl) (pd_var rfl (Or.inl rfl) rfl rfl) rfl)))) (pd_sNil)))
theorem ok__law_all_rows (F : Fx fa fn W hh) : FnAt W 1 "_law_all_rows" ["many", "strands"] sp__law_all_rows := by
  obtain ⟨fd, D⟩ := F.def_ 67 (d := dOf "_law_all_rows" "_law_all_rows" 95) rfl
  have m_range := g_range F
  refine fnAt_of (k := 0) (N := N__law_all_rows) D ⟨rfl, rfl, rfl, by decide +kernel, rfl, by decide +kernel, by decide +kernel⟩ (F.glo 67 rfl) (fun _ _ _ _ _ _ us hl => match us, hl with | [_, _], _ => rfl) (fun f cdv A outer s H E hr => ?_) (n := 2) (m := 5) rfl rfl vc__law_all_rows
  have hu1 := room1 hr
  have hu64 := room64 hr
  have hu65 := room65 hr
  have hnd : (N__law_all_rows).Nodup := by decide +kernel
  exact pd_sCons (pd_asg (pd_lst (m := false) (pd_cons (pd_tup (pd_nil)) (pd_nil) rfl)) (pd_gNm hnd rfl (Or.inl rfl) (Or.inl rfl)) rfl rfl rfl) (pd_sCons (pd_for PassesOwn.never rfl (pdi_rng1 rfl m_range (pd_cons (pd_var rfl (Or.inl rfl) rfl rfl) (pd_nil) rfl) rfl) (pg_name hnd rfl (Or.inl rfl) (Or.inl rfl)) (pd_sCons (pd_asg (pd_lst (m := false) (pd_nil)) (pd_gNm hnd rfl (Or.inl rfl) (Or.inl rfl)) rfl rfl rfl) (pd_sCons (pd_for PassesOwn.never rfl (pdi_seq (pd_var rfl (Or.inl rfl) rfl rfl)) (pg_name hnd rfl (Or.inr rfl) (Or.inl rfl)) (pd_sCons (pd_asg (pd_bin op_addAll (lift_add false) (pd_var rfl (Or.inl rfl) rfl rfl) (pd_lc (m := false) (own := [("own", 6)]) rfl rfl hnd (pdi_rng1 rfl m_range (pd_cons (pd_var rfl (Or.inl rfl) rfl rfl) (pd_nil) rfl) rfl) (by kernel_rfl) rfl (fun s H C cl fp => pg_name hnd rfl (Or.inl rfl) (Or.inr rfl)) (fun s H C cl fp => pd_ifs0) (fun s H C cl fp => pd_bin op_addAll (lift_add false) (pd_var rfl (Or.inr (Or.inl rfl)) rfl rfl) (pd_tup (pd_cons (pd_var rfl (Or.inl rfl) rfl rfl) (pd_nil) rfl))) (fun _ => rfl))) (pd_gNm hnd rfl (Or.inl rfl) (Or.inl rfl)) rfl rfl rfl) (pd_sNil)) (fun _ => rfl)) (pd_sCons (pd_asg (pd_var rfl (Or.inl rfl) rfl rfl) (pd_gNm hnd rfl (Or.inl rfl) (Or.inl rfl)) rfl rfl rfl) (pd_sNil)))) (fun _ => rfl)) (pd_sCons (pd_ret (pd_var rfl (Or.inl rfl) rfl rfl)) (pd_sNil)))
theorem ok__law_laid (F : Fx fa fn W hh) : FnAt W 1 "_law_laid" ["rows", "word"] sp__law_laid := by
  obtain ⟨fd, D⟩ := F.def_ 64 (d := dOf "_law_laid" "_law_laid" 92) rfl
  have m_len := g_len F
  have m_range := g_range F
  have m_list := g_list F
  refine fnAt_of (k := 0) (N := N__law_laid) D ⟨rfl, rfl, rfl, by decide +kernel, rfl, by decide +kernel, by decide +kernel⟩ (F.glo 64 rfl) (fun _ _ _ _ _ _ us hl => match us, hl with | [_, _], _ => rfl) (fun f cdv A outer s H E hr => ?_) (n := 2) (m := 4) rfl rfl vc__law_laid
  have hu1 := room1 hr
  have hu64 := room64 hr
  have hu65 := room65 hr
  have hnd : (N__law_laid).Nodup := by decide +kernel
  exact pd_sCons (pd_asg (pd_tup (pd_cons (pd_listRg (m := false) rfl rfl m_list (pdr_1 rfl m_range (pd_callB call_len lift_len rfl m_len rfl (pd_cons (pd_var rfl (Or.inr (Or.inl rfl)) rfl rfl) (pd_nil) rfl) (by decide) rfl rfl rfl))) (pd_cons (pd_lst (m := false) (pd_nil)) (pd_nil) rfl) rfl)) (pd_gTup rfl (pd_gsCons (pd_gNm hnd rfl (Or.inr rfl) (Or.inl rfl)) (pd_gsCons (pd_gNm hnd rfl (Or.inl rfl) (Or.inl rfl)) (pd_gsNil) rfl) rfl) rfl rfl) rfl rfl rfl) (pd_sCons (pd_for PassesOwn.never rfl (pdi_seq (pd_var rfl (Or.inl rfl) rfl rfl)) (pg_name hnd rfl (Or.inr rfl) (Or.inl rfl)) (pd_sCons (pd_asg (pd_bin op_addAll (lift_add false) (pd_var rfl (Or.inl rfl) rfl rfl) (pd_lst (m := false) (pd_cons (pd_ix hu1 (pd_var rfl (Or.inr (Or.inl rfl)) rfl rfl) (pd_var rfl (Or.inr (Or.inl rfl)) rfl rfl) (fun _ _ => rfl)) (pd_nil) rfl))) (pd_gNm hnd rfl (Or.inl rfl) (Or.inl rfl)) rfl rfl rfl) (pd_sCons (pd_asg (pd_lc (m := false) (own := [("at", 5)]) rfl rfl hnd (pdi_rng1 rfl m_range (pd_cons (pd_callB call_len lift_len rfl m_len rfl (pd_cons (pd_var rfl (Or.inr (Or.inl rfl)) rfl rfl) (pd_nil) rfl) (by decide) rfl rfl rfl) (pd_nil) rfl) rfl) (by kernel_rfl) rfl (fun s H C cl fp => pg_name hnd rfl (Or.inl rfl) (Or.inr rfl)) (fun s H C cl fp => pd_ifs0) (fun s H C cl fp => pd_ix hu1 (pd_var rfl (Or.inr (Or.inl rfl)) rfl rfl) (pd_index hu65 (pd_ix hu1 (pd_var rfl (Or.inr (Or.inl rfl)) rfl rfl) (pd_var rfl (Or.inr (Or.inl rfl)) rfl rfl) (fun _ _ => rfl)) (pd_var rfl (Or.inl rfl) rfl rfl) rfl rfl rfl rfl) (fun _ _ => rfl)) (fun _ => rfl)) (pd_gNm hnd rfl (Or.inr rfl) (Or.inl rfl)) rfl rfl rfl) (pd_sNil))) (fun _ => rfl)) (pd_sCons (pd_ret (pd_var rfl (Or.inl rfl) rfl rfl)) (pd_sNil)))
theorem ok__law_rings (F : Fx fa fn W hh) : FnAt W 1 "_law_rings" ["places"] sp__law_rings := by
  obtain ⟨fd, D⟩ := F.def_ 66 (d := dOf "_law_rings" "_law_rings" 94) rfl
  have m_len := g_len F
  have m_range := g_range F
  refine fnAt_of (k := 0) (N := N__law_rings) D ⟨rfl, rfl, rfl, by decide +kernel, rfl, by decide +kernel, by decide +kernel⟩ (F.glo 66 rfl) (fun _ _ _ _ _ _ us hl => match us, hl with | [_], _ => rfl) (fun f cdv A outer s H E hr => ?_) (n := 1) (m := 4) rfl rfl vc__law_rings
  have hu1 := room1 hr
  have hu64 := room64 hr
  have hu65 := room65 hr
  have hnd : (N__law_rings).Nodup := by decide +kernel
  exact pd_sCons (pd_asg (pd_bin op_mulAll (lift_mul true) (pd_lst (m := false) (pd_cons (pd_neg (pd_int)) (pd_nil) rfl)) (pd_callB call_len lift_len rfl m_len rfl (pd_cons (pd_var rfl (Or.inl rfl) rfl rfl) (pd_nil) rfl) (by decide) rfl rfl rfl)) (pd_gNm hnd rfl (Or.inl rfl) (Or.inl rfl)) rfl rfl rfl) (pd_sCons (pd_for PassesOwn.never rfl (pdi_rng1 rfl m_range (pd_cons (pd_callB call_len lift_len rfl m_len rfl (pd_cons (pd_var rfl (Or.inl rfl) rfl rfl) (pd_nil) rfl) (by decide) rfl rfl rfl) (pd_nil) rfl) rfl) (pg_name hnd rfl (Or.inl rfl) (Or.inl rfl)) (pd_sCons (pd_asg (pd_var rfl (Or.inl rfl) rfl rfl) (pd_gNm hnd rfl (Or.inl rfl) (Or.inl rfl)) rfl rfl rfl) (pd_sCons (pd_for PassesOwn.never rfl (pdi_rng1 rfl m_range (pd_cons (pd_callB call_len lift_len rfl m_len rfl (pd_cons (pd_var rfl (Or.inl rfl) rfl rfl) (pd_nil) rfl) (by decide) rfl rfl rfl) (pd_nil) rfl) rfl) (pg_name hnd rfl (Or.inl rfl) (Or.inl rfl)) (pd_sCons (pd_sIf (pd_cmpT (op_eqD hu64) lift_eq (pd_ix hu1 (pd_var rfl (Or.inl rfl) rfl rfl) (pd_var rfl (Or.inl rfl) rfl rfl) (fun _ _ => rfl)) (pd_neg (pd_int)) rfl) (pd_sCons (pd_asg (pd_var rfl (Or.inl rfl) rfl rfl) (pd_gSub hu1 (pd_var rfl (Or.inl rfl) rfl rfl) (pd_var rfl (Or.inl rfl) rfl rfl) (asg_sub (fun _ _ => rfl) (fun _ _ _ z => nomatch z))) rfl rfl rfl) (pd_sCons (pd_asg (pd_ix hu1 (pd_var rfl (Or.inl rfl) rfl rfl) (pd_var rfl (Or.inl rfl) rfl rfl) (fun _ _ => rfl)) (pd_gNm hnd rfl (Or.inl rfl) (Or.inl rfl)) rfl rfl rfl) (pd_sNil))) (pd_sNil)) (pd_sNil)) (fun _ => rfl)) (pd_sNil))) (fun _ => rfl)) (pd_sCons (pd_ret (pd_var rfl (Or.inl rfl) rfl rfl)) (pd_sNil)))
theorem ok__law_exchanged (F : Fx fa fn W hh) : FnAt W 1 "_law_exchanged" ["items", "crossings"] sp__law_exchanged := by
  obtain ⟨fd, D⟩ := F.def_ 65 (d := dOf "_law_exchanged" "_law_exchanged" 93) rfl
  have m_list := g_list F
  refine fnAt_of (k := 0) (N := N__law_exchanged) D ⟨rfl, rfl, rfl, by decide +kernel, rfl, by decide +kernel, by decide +kernel⟩ (F.glo 65 rfl) (fun _ _ _ _ _ _ us hl => match us, hl with | [_, _], _ => rfl) (fun f cdv A outer s H E hr => ?_) (n := 2) (m := 3) rfl rfl vc__law_exchanged
  have hu1 := room1 hr
  have hu64 := room64 hr
  have hu65 := room65 hr
  have hnd : (N__law_exchanged).Nodup := by decide +kernel
  exact pd_sCons (pd_asg (pd_callTy call_list_of (lift_list true) rfl m_list rfl (pd_cons (pd_var rfl (Or.inl rfl) rfl rfl) (pd_nil) rfl) (by decide) rfl rfl rfl) (pd_gNm hnd rfl (Or.inl rfl) (Or.inl rfl)) rfl rfl rfl) (pd_sCons (pd_for PassesOwn.never rfl (pdi_seq (pd_var rfl (Or.inl rfl) rfl rfl)) (pg_name hnd rfl (Or.inl rfl) (Or.inl rfl)) (pd_sCons (pd_asg (pd_if (pd_cmpT op_ge (lift_B _) (pd_var rfl (Or.inl rfl) rfl rfl) (pd_int) rfl) (pd_var rfl (Or.inl rfl) rfl rfl) (pd_bin op_sub' (lift_I _ _) (pd_neg (pd_int)) (pd_var rfl (Or.inl rfl) rfl rfl))) (pd_gNm hnd rfl (Or.inl rfl) (Or.inl rfl)) rfl rfl rfl) (pd_sCons (pd_asg (pd_tup (pd_cons (pd_ix hu1 (pd_var rfl (Or.inl rfl) rfl rfl) (pd_bin op_addAll (lift_add false) (pd_var rfl (Or.inl rfl) rfl rfl) (pd_int)) (fun _ _ => rfl)) (pd_cons (pd_ix hu1 (pd_var rfl (Or.inl rfl) rfl rfl) (pd_var rfl (Or.inl rfl) rfl rfl) (fun _ _ => rfl)) (pd_nil) rfl) rfl)) (pd_gTup rfl (pd_gsCons (pd_gSub hu1 (pd_var rfl (Or.inl rfl) rfl rfl) (pd_var rfl (Or.inl rfl) rfl rfl) (asg_sub (fun _ _ => rfl) (fun _ _ _ z => nomatch z))) (pd_gsCons (pd_gSub hu1 (pd_var rfl (Or.inl rfl) rfl rfl) (pd_bin op_addAll (lift_add false) (pd_var rfl (Or.inl rfl) rfl rfl) (pd_int)) (asg_sub (fun _ _ => rfl) (fun _ _ _ z => nomatch z))) (pd_gsNil) rfl) rfl) rfl rfl) rfl rfl rfl) (pd_sNil))) (fun _ => rfl)) (pd_sCons (pd_ret (pd_var rfl (Or.inl rfl) rfl rfl)) (pd_sNil)))
theorem ok_back_of (F : Fx fa fn W hh) : FnAt W 1 "back_of" ["turn"] sp_back_of := by
  obtain ⟨fd, D⟩ := F.def_ 16 (d := dOf "back_of" "back_of" 31) rfl
  have m_tuple := g_tuple F
  have m_enumerate := g_enumerate F
  have m_len := g_len F
  refine fnAt_of (k := 0) (N := N_back_of) D ⟨rfl, rfl, rfl, by decide +kernel, rfl, by decide +kernel, by decide +kernel⟩ (F.glo 16 rfl) (fun _ _ _ _ _ _ us hl => match us, hl with | [_], _ => rfl) (fun f cdv A outer s H E hr => ?_) (n := 1) (m := 3) rfl rfl vc_back_of
  have hu1 := room1 hr
  have hu64 := room64 hr
  have hu65 := room65 hr
  have hnd : (N_back_of).Nodup := by decide +kernel
  exact pd_sCons (pd_asg (pd_bin op_mulAll (lift_mul true) (pd_lst (m := false) (pd_cons (pd_int) (pd_nil) rfl)) (pd_callB call_len lift_len rfl m_len rfl (pd_cons (pd_var rfl (Or.inl rfl) rfl rfl) (pd_nil) rfl) (by decide) rfl rfl rfl)) (pd_gNm hnd rfl (Or.inl rfl) (Or.inl rfl)) rfl rfl rfl) (pd_sCons (pd_for PassesOwn.never rfl (pdi_enum rfl m_enumerate (pd_cons (pd_var rfl (Or.inl rfl) rfl rfl) (pd_nil) rfl) rfl) (pg_tup rfl (pgs_cons (pg_name hnd rfl (Or.inl rfl) (Or.inl rfl)) (pgs_cons (pg_name hnd rfl (Or.inl rfl) (Or.inl rfl)) (pgs_nil) rfl) rfl) rfl rfl) (pd_sCons (pd_asg (pd_var rfl (Or.inl rfl) rfl rfl) (pd_gSub hu1 (pd_var rfl (Or.inl rfl) rfl rfl) (pd_var rfl (Or.inl rfl) rfl rfl) (asg_sub (fun _ _ => rfl) (fun _ _ _ z => nomatch z))) rfl rfl rfl) (pd_sNil)) (fun _ => rfl)) (pd_sCons (pd_ret (pd_callTy call_tupF lift_tuple rfl m_tuple rfl (pd_cons (pd_var rfl (Or.inl rfl) rfl rfl) (pd_nil) rfl) (by decide) rfl rfl rfl)) (pd_sNil)))
theorem ok_swap_pair (F : Fx fa fn W hh) : FnAt W 2 "swap_pair" ["rows", "one", "other"] sp_swap_pair := by
  obtain ⟨fd, D⟩ := F.def_ 42 (d := dOf "swap_pair" "swap_pair" 65) rfl
  have c_back_of := ok_back_of F
  refine fnAt_of (k := 1) (N := N_swap_pair) D ⟨rfl, rfl, rfl, by decide +kernel, rfl, by decide +kernel, by decide +kernel⟩ (F.glo 42 rfl) (fun _ _ _ _ _ _ us hl => match us, hl with | [_, _, _], _ => rfl) (fun f cdv A outer s H E hr => ?_) (n := 3) (m := 1) rfl rfl vc_swap_pair
  have hu1 := room1 hr
  have hu64 := room64 hr
  have hu65 := room65 hr
  have hnd : (N_swap_pair).Nodup := by decide +kernel
  exact pd_sCons (pd_asg (pd_ix hu1 (pd_fnA c_back_of hr (by decide) rfl rfl (pd_cons (pd_ix hu1 (pd_var rfl (Or.inl rfl) rfl rfl) (pd_var rfl (Or.inl rfl) rfl rfl) (fun _ _ => rfl)) (pd_nil) rfl) rfl rfl rfl) (pd_var rfl (Or.inl rfl) rfl rfl) (fun _ _ => rfl)) (pd_gNm hnd rfl (Or.inl rfl) (Or.inl rfl)) rfl rfl rfl) (pd_sCons (pd_ret (pd_tup (pd_cons (pd_var rfl (Or.inl rfl) rfl rfl) (pd_cons (pd_ix hu1 (pd_ix hu1 (pd_var rfl (Or.inl rfl) rfl rfl) (pd_var rfl (Or.inl rfl) rfl rfl) (fun _ _ => rfl)) (pd_var rfl (Or.inl rfl) rfl rfl) (fun _ _ => rfl)) (pd_nil) rfl) rfl))) (pd_sNil))
theorem ok_swapped_of (F : Fx fa fn W hh) : FnAt W 3 "swapped_of" ["rows", "word", "place"] sp_swapped_of := by
  obtain ⟨fd, D⟩ := F.def_ 52 (d := dOf "swapped_of" "swapped_of" 79) rfl
  have c_swap_pair := ok_swap_pair F
  refine fnAt_of (k := 2) (N := N_swapped_of) D ⟨rfl, rfl, rfl, by decide +kernel, rfl, by decide +kernel, by decide +kernel⟩ (F.glo 52 rfl) (fun _ _ _ _ _ _ us hl => match us, hl with | [_, _, _], _ => rfl) (fun f cdv A outer s H E hr => ?_) (n := 3) (m := 0) rfl rfl vc_swapped_of
  have hu1 := room1 hr
  have hu64 := room64 hr
  have hu65 := room65 hr
  have hnd : (N_swapped_of).Nodup := by decide +kernel
  exact pd_sCons (pd_ret (pd_bin op_addAll (lift_add false) (pd_bin op_addAll (lift_add false) (pd_slice (m := false) (pd_var rfl (Or.inl rfl) rfl rfl) (pd_noPart) (pd_part (pd_var rfl (Or.inl rfl) rfl rfl))) (pd_fnA c_swap_pair hr (by decide) rfl rfl (pd_cons (pd_var rfl (Or.inl rfl) rfl rfl) (pd_cons (pd_ix hu1 (pd_var rfl (Or.inl rfl) rfl rfl) (pd_var rfl (Or.inl rfl) rfl rfl) (fun _ _ => rfl)) (pd_cons (pd_ix hu1 (pd_var rfl (Or.inl rfl) rfl rfl) (pd_bin op_addAll (lift_add false) (pd_var rfl (Or.inl rfl) rfl rfl) (pd_int)) (fun _ _ => rfl)) (pd_nil) rfl) rfl) rfl) rfl rfl rfl)) (pd_slice (m := false) (pd_var rfl (Or.inl rfl) rfl rfl) (pd_part (pd_bin op_addAll (lift_add false) (pd_var rfl (Or.inl rfl) rfl rfl) (pd_int))) (pd_noPart)))) (pd_sNil)
theorem ok_is_word_of (F : Fx fa fn W hh) : FnAt W 2 "is_word_of" ["value", "many"] sp_is_word_of := by
  obtain ⟨fd, D⟩ := F.def_ 44 (d := dOf "is_word_of" "is_word_of" 69) rfl
  have c_is_tuple_of := ok_is_tuple_of F
  have c_is_whole := ok_is_whole F
  have m_all := g_all F
  have k_LONG_words := g_LONG_words F
  refine fnAt_of (k := 1) (N := N_is_word_of) D ⟨rfl, rfl, rfl, by decide +kernel, rfl, by decide +kernel, by decide +kernel⟩ (F.glo 44 rfl) (fun _ _ _ _ _ _ us hl => match us, hl with | [_, _], _ => rfl) (fun f cdv A outer s H E hr => ?_) (n := 2) (m := 1) rfl rfl vc_is_word_of
  have hu1 := room1 hr
  have hu64 := room64 hr
  have hu65 := room65 hr
  have hnd : (N_is_word_of).Nodup := by decide +kernel
  exact pd_sCons (pd_ret (pd_andV (pd_fnA c_is_tuple_of hr (by decide) rfl rfl (pd_cons (pd_var rfl (Or.inl rfl) rfl rfl) (pd_cons (pd_int) (pd_cons (pd_globE rfl k_LONG_words rfl) (pd_nil) rfl) rfl) rfl) rfl rfl rfl) (pe_one (pd_callB (cr_all rfl) lift_all rfl m_all rfl (pd_cons (pd_lc (m := false) (own := [("own", 2)]) rfl rfl hnd (pdi_seq (pd_var rfl (Or.inl rfl) rfl rfl)) (by kernel_rfl) rfl (fun s H C cl fp => pg_name hnd rfl (Or.inl rfl) (Or.inr rfl)) (fun s H C cl fp => pd_ifs0) (fun s H C cl fp => pd_fnA c_is_whole hr (by decide) rfl rfl (pd_cons (pd_var rfl (Or.inl rfl) rfl rfl) (pd_cons (pd_int) (pd_cons (pd_bin op_sub' (lift_I _ _) (pd_var rfl (Or.inr (Or.inl rfl)) rfl rfl) (pd_int)) (pd_nil) rfl) rfl) rfl) rfl rfl rfl) (fun _ => rfl)) (pd_nil) rfl) (by decide) rfl rfl rfl)))) (pd_sNil)
theorem ok_need_word (F : Fx fa fn W hh) : FnAt W 3 "need_word" ["value", "many"] sp_need_word := by
  obtain ⟨fd, D⟩ := F.def_ 45 (d := dOf "need_word" "need_word" 70) rfl
  have c_is_word_of := ok_is_word_of F
  refine fnAt_of (k := 2) (N := N_need_word) D ⟨rfl, rfl, rfl, by decide +kernel, rfl, by decide +kernel, by decide +kernel⟩ (F.glo 45 rfl) (fun _ _ _ _ _ _ us hl => match us, hl with | [_, _], _ => rfl) (fun f cdv A outer s H E hr => ?_) (n := 2) (m := 0) rfl rfl vc_need_word
  have hu1 := room1 hr
  have hu64 := room64 hr
  have hu65 := room65 hr
  have hnd : (N_need_word).Nodup := by decide +kernel
  exact pd_sCons (pd_sIf (pd_not (pd_val (pd_fnA c_is_word_of hr (by decide) rfl rfl (pd_cons (pd_var rfl (Or.inl rfl) rfl rfl) (pd_cons (pd_var rfl (Or.inl rfl) rfl rfl) (pd_nil) rfl) rfl) rfl rfl rfl) (fun _ => rfl))) (pd_sCons (pd_never) (pd_sNil)) (pd_sNil)) (pd_sNil)
theorem ok_is_turn (F : Fx fa fn W hh) : FnAt W 2 "is_turn" ["value"] sp_is_turn := by
  obtain ⟨fd, D⟩ := F.def_ 14 (d := dOf "is_turn" "is_turn" 29) rfl
  have c_is_tuple_of := ok_is_tuple_of F
  have c_is_whole := ok_is_whole F
  have m_sorted := g_sorted F
  have m_range := g_range F
  have m_list := g_list F
  have m_len := g_len F
  have m_all := g_all F
  have k_THINGS := g_THINGS F
  refine fnAt_of (k := 1) (N := N_is_turn) D ⟨rfl, rfl, rfl, by decide +kernel, rfl, by decide +kernel, by decide +kernel⟩ (F.glo 14 rfl) (fun _ _ _ _ _ _ us hl => match us, hl with | [_], _ => rfl) (fun f cdv A outer s H E hr => ?_) (n := 1) (m := 1) rfl rfl vc_is_turn
  have hu1 := room1 hr
  have hu64 := room64 hr
  have hu65 := room65 hr
  have hnd : (N_is_turn).Nodup := by decide +kernel
  exact pd_sCons (pd_sIf (PW.pt (pd_or (pd_not (pd_val (pd_fnA c_is_tuple_of hr (by decide) rfl rfl (pd_cons (pd_var rfl (Or.inr (Or.inl rfl)) rfl rfl) (pd_cons (pd_int) (pd_cons (pd_globE rfl k_THINGS rfl) (pd_nil) rfl) rfl) rfl) rfl rfl rfl) (fun _ => rfl))) (pd_or1 (pd_not (pd_val (pd_callB (cr_all rfl) lift_all rfl m_all rfl (pd_cons (pd_lc (m := false) (own := [("own", 1)]) rfl rfl hnd (pdi_seq (pd_var rfl (Or.inr (Or.inl rfl)) rfl rfl)) (by kernel_rfl) rfl (fun s H C cl fp => pg_name hnd rfl (Or.inl rfl) (Or.inr rfl)) (fun s H C cl fp => pd_ifs0) (fun s H C cl fp => pd_fnA c_is_whole hr (by decide) rfl rfl (pd_cons (pd_var rfl (Or.inl rfl) rfl rfl) (pd_cons (pd_int) (pd_cons (pd_bin op_sub' (lift_I _ _) (pd_callB call_len lift_len rfl m_len rfl (pd_cons (pd_var rfl (Or.inr (Or.inl rfl)) rfl rfl) (pd_nil) rfl) (by decide) rfl rfl rfl) (pd_int)) (pd_nil) rfl) rfl) rfl) rfl rfl rfl) (fun _ => rfl)) (pd_nil) rfl) (by decide) rfl rfl rfl) (fun _ => rfl)))))) (pd_sCons (pd_ret (pd_bl)) (pd_sNil)) (pd_sNil)) (pd_sCons (pd_ret (pd_cmp (op_eqD hu64) lift_eq (pd_callB cr_sortedB (lift_sorted false) rfl m_sorted rfl (pd_cons (pd_var rfl (Or.inr (Or.inl rfl)) rfl rfl) (pd_nil) rfl) (by decide) rfl rfl rfl) (pd_listRg (m := false) rfl rfl m_list (pdr_1 rfl m_range (pd_callB call_len lift_len rfl m_len rfl (pd_cons (pd_var rfl (Or.inr (Or.inl rfl)) rfl rfl) (pd_nil) rfl) (by decide) rfl rfl rfl))) rfl)) (pd_sNil))
theorem ok_are_turn_rows (F : Fx fa fn W hh) : FnAt W 3 "are_turn_rows" ["value"] sp_are_turn_rows := by
  obtain ⟨fd, D⟩ := F.def_ 38 (d := dOf "are_turn_rows" "are_turn_rows" 61) rfl
  have c_is_turn := ok_is_turn F
  have c_is_tuple_of := ok_is_tuple_of F
  have m_len := g_len F
  have m_all := g_all F
  have k_LETTERS := g_LETTERS F
  refine fnAt_of (k := 2) (N := N_are_turn_rows) D ⟨rfl, rfl, rfl, by decide +kernel, rfl, by decide +kernel, by decide +kernel⟩ (F.glo 38 rfl) (fun _ _ _ _ _ _ us hl => match us, hl with | [_], _ => rfl) (fun f cdv A outer s H E hr => ?_) (n := 1) (m := 1) rfl rfl vc_are_turn_rows
  have hu1 := room1 hr
  have hu64 := room64 hr
  have hu65 := room65 hr
  have hnd : (N_are_turn_rows).Nodup := by decide +kernel
  exact pd_sCons (pd_sIf (pd_not (pd_val (pd_fnA c_is_tuple_of hr (by decide) rfl rfl (pd_cons (pd_var rfl (Or.inr (Or.inl rfl)) rfl rfl) (pd_cons (pd_int) (pd_cons (pd_globE rfl k_LETTERS rfl) (pd_nil) rfl) rfl) rfl) rfl rfl rfl) (fun _ => rfl))) (pd_sCons (pd_ret (pd_bl)) (pd_sNil)) (pd_sNil)) (pd_sCons (pd_ret (pd_callB (cr_all rfl) lift_all rfl m_all rfl (pd_cons (pd_lc (m := false) (own := [("row", 1)]) rfl rfl hnd (pdi_seq (pd_var rfl (Or.inr (Or.inl rfl)) rfl rfl)) (by kernel_rfl) rfl (fun s H C cl fp => pg_name hnd rfl (Or.inl rfl) (Or.inr rfl)) (fun s H C cl fp => pd_ifs0) (fun s H C cl fp => pd_andV (pd_fnA c_is_turn hr (by decide) rfl rfl (pd_cons (pd_var rfl (Or.inl rfl) rfl rfl) (pd_nil) rfl) rfl rfl rfl) (pe_one (pd_cmp (op_eqD hu64) lift_eq (pd_callB call_len lift_len rfl m_len rfl (pd_cons (pd_var rfl (Or.inl rfl) rfl rfl) (pd_nil) rfl) (by decide) rfl rfl rfl) (pd_callB call_len lift_len rfl m_len rfl (pd_cons (pd_var rfl (Or.inr (Or.inl rfl)) rfl rfl) (pd_nil) rfl) (by decide) rfl rfl rfl) rfl))) (fun _ => rfl)) (pd_nil) rfl) (by decide) rfl rfl rfl)) (pd_sNil))
theorem ok_first_unlike (F : Fx fa fn W hh) : FnAt W 1 "first_unlike" ["rows"] sp_first_unlike := by
  obtain ⟨fd, D⟩ := F.def_ 39 (d := dOf "first_unlike" "first_unlike" 62) rfl
  have m_range := g_range F
  have m_list := g_list F
  have m_len := g_len F
  refine fnAt_of (k := 0) (N := N_first_unlike) D ⟨rfl, rfl, rfl, by decide +kernel, rfl, by decide +kernel, by decide +kernel⟩ (F.glo 39 rfl) (fun _ _ _ _ _ _ us hl => match us, hl with | [_], _ => rfl) (fun f cdv A outer s H E hr => ?_) (n := 1) (m := 6) rfl rfl vc_first_unlike
  have hu1 := room1 hr
  have hu64 := room64 hr
  have hu65 := room65 hr
  have hnd : (N_first_unlike).Nodup := by decide +kernel
  exact pd_sCons (pd_asg (pd_listRg (m := false) rfl rfl m_list (pdr_1 rfl m_range (pd_callB call_len lift_len rfl m_len rfl (pd_cons (pd_var rfl (Or.inl rfl) rfl rfl) (pd_nil) rfl) (by decide) rfl rfl rfl))) (pd_gNm hnd rfl (Or.inl rfl) (Or.inl rfl)) rfl rfl rfl) (pd_sCons (pd_for PassesOwn.never rfl (pdi_seq (pd_var rfl (Or.inl rfl) rfl rfl)) (pg_name hnd rfl (Or.inl rfl) (Or.inl rfl)) (pd_sCons (pd_for PassesOwn.never rfl (pdi_seq (pd_var rfl (Or.inl rfl) rfl rfl)) (pg_name hnd rfl (Or.inl rfl) (Or.inl rfl)) (pd_sCons (pd_par rfl hnd rfl rfl (by decide) rfl rfl (pd_cons (pd_ix hu1 (pd_var rfl (Or.inl rfl) rfl rfl) (pd_ix hu1 (pd_ix hu1 (pd_var rfl (Or.inl rfl) rfl rfl) (pd_var rfl (Or.inl rfl) rfl rfl) (fun _ _ => rfl)) (pd_var rfl (Or.inl rfl) rfl rfl) (fun _ _ => rfl)) (fun _ _ => rfl)) (pd_cons (pd_ix hu1 (pd_var rfl (Or.inl rfl) rfl rfl) (pd_ix hu1 (pd_ix hu1 (pd_var rfl (Or.inl rfl) rfl rfl) (pd_var rfl (Or.inl rfl) rfl rfl) (fun _ _ => rfl)) (pd_var rfl (Or.inl rfl) rfl rfl) (fun _ _ => rfl)) (fun _ _ => rfl)) (pd_nil) rfl) rfl) rfl rfl) (pd_sCons (pd_for PassesOwn.never rfl (pdi_seq (pd_var rfl (Or.inl rfl) rfl rfl)) (pg_name hnd rfl (Or.inl rfl) (Or.inl rfl)) (pd_sCons (pd_sIf (pd_cmpT (op_neD hu64) lift_ne (pd_ix hu1 (pd_var rfl (Or.inl rfl) rfl rfl) (pd_ix hu1 (pd_ix hu1 (pd_var rfl (Or.inl rfl) rfl rfl) (pd_var rfl (Or.inl rfl) rfl rfl) (fun _ _ => rfl)) (pd_var rfl (Or.inl rfl) rfl rfl) (fun _ _ => rfl)) (fun _ _ => rfl)) (pd_ix hu1 (pd_var rfl (Or.inl rfl) rfl rfl) (pd_ix hu1 (pd_ix hu1 (pd_var rfl (Or.inl rfl) rfl rfl) (pd_var rfl (Or.inl rfl) rfl rfl) (fun _ _ => rfl)) (pd_var rfl (Or.inl rfl) rfl rfl) (fun _ _ => rfl)) (fun _ _ => rfl)) rfl) (pd_sCons (pd_ret (pd_tup (pd_cons (pd_var rfl (Or.inl rfl) rfl rfl) (pd_cons (pd_var rfl (Or.inl rfl) rfl rfl) (pd_cons (pd_var rfl (Or.inl rfl) rfl rfl) (pd_nil) rfl) rfl) rfl))) (pd_sNil)) (pd_sNil)) (pd_sNil)) (fun _ => rfl)) (pd_sNil))) (fun _ => rfl)) (pd_sNil)) (fun _ => rfl)) (pd_sCons (pd_ret (pd_non)) (pd_sNil)))
theorem ok_is_cycle_set (F : Fx fa fn W hh) : FnAt W 4 "is_cycle_set" ["value"] sp_is_cycle_set := by
  obtain ⟨fd, D⟩ := F.def_ 40 (d := dOf "is_cycle_set" "is_cycle_set" 63) rfl
  have c_are_turn_rows := ok_are_turn_rows F
  have c_first_unlike := ok_first_unlike F
  refine fnAt_of (k := 3) (N := N_is_cycle_set) D ⟨rfl, rfl, rfl, by decide +kernel, rfl, by decide +kernel, by decide +kernel⟩ (F.glo 40 rfl) (fun _ _ _ _ _ _ us hl => match us, hl with | [_], _ => rfl) (fun f cdv A outer s H E hr => ?_) (n := 1) (m := 0) rfl rfl vc_is_cycle_set
  have hu1 := room1 hr
  have hu64 := room64 hr
  have hu65 := room65 hr
  have hnd : (N_is_cycle_set).Nodup := by decide +kernel
  exact pd_sCons (pd_ret (pd_andV (pd_fnA c_are_turn_rows hr (by decide) rfl rfl (pd_cons (pd_var rfl (Or.inl rfl) rfl rfl) (pd_nil) rfl) rfl rfl rfl) (pe_one (pd_cmp op_isN lift_isN (pd_fnA c_first_unlike hr (by decide) rfl rfl (pd_cons (pd_var rfl (Or.inl rfl) rfl rfl) (pd_nil) rfl) rfl rfl rfl) (pd_non) rfl)))) (pd_sNil)
theorem ok_need_cycle_set (F : Fx fa fn W hh) : FnAt W 5 "need_cycle_set" ["value"] sp_need_cycle_set := by
  obtain ⟨fd, D⟩ := F.def_ 41 (d := dOf "need_cycle_set" "need_cycle_set" 64) rfl
  have c_is_cycle_set := ok_is_cycle_set F
  refine fnAt_of (k := 4) (N := N_need_cycle_set) D ⟨rfl, rfl, rfl, by decide +kernel, rfl, by decide +kernel, by decide +kernel⟩ (F.glo 41 rfl) (fun _ _ _ _ _ _ us hl => match us, hl with | [_], _ => rfl) (fun f cdv A outer s H E hr => ?_) (n := 1) (m := 0) rfl rfl vc_need_cycle_set
  have hu1 := room1 hr
  have hu64 := room64 hr
  have hu65 := room65 hr
  have hnd : (N_need_cycle_set).Nodup := by decide +kernel
  exact pd_sCons (pd_sIf (pd_not (pd_val (pd_fnA c_is_cycle_set hr (by decide) rfl rfl (pd_cons (pd_var rfl (Or.inl rfl) rfl rfl) (pd_nil) rfl) rfl rfl rfl) (fun _ => rfl))) (pd_sCons (pd_never) (pd_sNil)) (pd_sNil)) (pd_sNil)
theorem ok_swapped_at (F : Fx fa fn W hh) : FnAt W 6 "swapped_at" ["rows", "word", "place"] sp_swapped_at := by
  obtain ⟨fd, D⟩ := F.def_ 53 (d := dOf "swapped_at" "swapped_at" 80) rfl
  have c_swapped_of := ok_swapped_of F
  have c_need_whole := ok_need_whole F
  have c_need_word := ok_need_word F
  have c_need_cycle_set := ok_need_cycle_set F
  have m_len := g_len F
  refine fnAt_of (k := 5) (N := N_swapped_at) D ⟨rfl, rfl, rfl, by decide +kernel, rfl, by decide +kernel, by decide +kernel⟩ (F.glo 53 rfl) (fun _ _ _ _ _ _ us hl => match us, hl with | [_, _, _], _ => rfl) (fun f cdv A outer s H E hr => ?_) (n := 3) (m := 0) rfl rfl vc_swapped_at
  have hu1 := room1 hr
  have hu64 := room64 hr
  have hu65 := room65 hr
  have hnd : (N_swapped_at).Nodup := by decide +kernel
  exact pd_sCons (pd_expr (pd_fnA c_need_cycle_set hr (by decide) rfl rfl (pd_cons (pd_var rfl (Or.inl rfl) rfl rfl) (pd_nil) rfl) rfl rfl rfl) rfl) (pd_sCons (pd_expr (pd_fnA c_need_word hr (by decide) rfl rfl (pd_cons (pd_var rfl (Or.inl rfl) rfl rfl) (pd_cons (pd_callB call_len lift_len rfl m_len rfl (pd_cons (pd_var rfl (Or.inl rfl) rfl rfl) (pd_nil) rfl) (by decide) rfl rfl rfl) (pd_nil) rfl) rfl) rfl rfl rfl) rfl) (pd_sCons (pd_expr (pd_fnA c_need_whole hr (by decide) rfl rfl (pd_cons (pd_var rfl (Or.inl rfl) rfl rfl) (pd_cons (pd_int) (pd_cons (pd_bin op_sub' (lift_I _ _) (pd_callB call_len lift_len rfl m_len rfl (pd_cons (pd_var rfl (Or.inl rfl) rfl rfl) (pd_nil) rfl) (by decide) rfl rfl rfl) (pd_int)) (pd_nil) rfl) rfl) rfl) rfl rfl rfl) rfl) (pd_sCons (pd_ret (pd_fnA c_swapped_of hr (by decide) rfl rfl (pd_cons (pd_var rfl (Or.inl rfl) rfl rfl) (pd_cons (pd_var rfl (Or.inl rfl) rfl rfl) (pd_cons (pd_var rfl (Or.inl rfl) rfl rfl) (pd_nil) rfl) rfl) rfl) rfl rfl rfl)) (pd_sNil))))
theorem ok_crossed (F : Fx fa fn W hh) : FnAt W 7 "crossed" ["swaps", "strands", "word", "row"] sp_crossed := by
  obtain ⟨fd, D⟩ := F.def_ 29 (d := dOf "crossed" "crossed" 49) rfl
  have c_crossed_in := ok_crossed_in F
  have c_are_wholes := ok_are_wholes F
  have c_need_crossing := ok_need_crossing F
  have c_need_braid := ok_need_braid F
  have m_len := g_len F
  refine fnAt_of (k := 6) (N := N_crossed) D ⟨rfl, rfl, rfl, by decide +kernel, rfl, by decide +kernel, by decide +kernel⟩ (F.glo 29 rfl) (fun _ _ _ _ _ _ us hl => match us, hl with | [_, _, _, _], _ => rfl) (fun f cdv A outer s H E hr => ?_) (n := 4) (m := 0) rfl rfl vc_crossed
  have hu1 := room1 hr
  have hu64 := room64 hr
  have hu65 := room65 hr
  have hnd : (N_crossed).Nodup := by decide +kernel
  exact pd_sCons (pd_expr (pd_fnA c_need_braid hr (by decide) rfl rfl (pd_cons (pd_var rfl (Or.inl rfl) rfl rfl) (pd_nil) rfl) rfl rfl rfl) rfl) (pd_sCons (pd_expr (pd_fnA c_need_crossing hr (by decide) rfl rfl (pd_cons (pd_var rfl (Or.inl rfl) rfl rfl) (pd_cons (pd_var rfl (Or.inl rfl) rfl rfl) (pd_nil) rfl) rfl) rfl rfl rfl) rfl) (pd_sCons (pd_sIf (pd_not (pd_val (pd_fnA c_are_wholes hr (by decide) rfl rfl (pd_cons (pd_var rfl (Or.inl rfl) rfl rfl) (pd_cons (pd_var rfl (Or.inl rfl) rfl rfl) (pd_cons (pd_int) (pd_cons (pd_bin op_sub' (lift_I _ _) (pd_callB call_len lift_len rfl m_len rfl (pd_cons (pd_var rfl (Or.inl rfl) rfl rfl) (pd_nil) rfl) (by decide) rfl rfl rfl) (pd_int)) (pd_nil) rfl) rfl) rfl) rfl) rfl rfl rfl) (fun _ => rfl))) (pd_sCons (pd_never) (pd_sNil)) (pd_sNil)) (pd_sCons (pd_ret (pd_fnA c_crossed_in hr (by decide) rfl rfl (pd_cons (pd_var rfl (Or.inl rfl) rfl rfl) (pd_cons (pd_var rfl (Or.inl rfl) rfl rfl) (pd_cons (pd_var rfl (Or.inl rfl) rfl rfl) (pd_nil) rfl) rfl) rfl) rfl rfl rfl)) (pd_sNil))))
theorem ok__law_roll (F : Fx fa fn W hh) : FnAt W 1 "_law_roll" ["cup", "many"] sp__law_roll := by
  obtain ⟨fd, D⟩ := F.def_ 55 (d := dOf "_law_roll" "_law_roll" 83) rfl
  have m_int := g_int F
  refine fnAt_of (k := 0) (N := N__law_roll) D ⟨rfl, rfl, rfl, by decide +kernel, rfl, by decide +kernel, by decide +kernel⟩ (F.glo 55 rfl) (fun _ _ _ _ _ _ us hl => match us, hl with | [_, _], _ => rfl) (fun f cdv A outer s H E hr => ?_) (n := 2) (m := 1) rfl rfl vc__law_roll
  have hu1 := room1 hr
  have hu64 := room64 hr
  have hu65 := room65 hr
  have hnd : (N__law_roll).Nodup := by decide +kernel
  exact pd_sCons (pd_sIf (pd_cmpT op_gt (lift_B _) (pd_ix hu1 (pd_var rfl (Or.inl rfl) rfl rfl) (pd_int) (fun _ _ => rfl)) (pd_int) rfl) (pd_sCons (pd_asg (pd_bin op_mod (lift_I _ _) (pd_callTy call_int1 lift_int rfl m_int rfl (pd_cons (pd_ix hu1 (pd_var rfl (Or.inl rfl) rfl rfl) (pd_int) (fun _ _ => rfl)) (pd_nil) rfl) (by decide) rfl rfl rfl) (pd_var rfl (Or.inl rfl) rfl rfl)) (pd_gNm hnd rfl (Or.inl rfl) (Or.inl rfl)) rfl rfl rfl) (pd_sCons (pd_asg (pd_bin op_fdiv (lift_I _ _) (pd_ix hu1 (pd_var rfl (Or.inl rfl) rfl rfl) (pd_int) (fun _ _ => rfl)) (pd_var rfl (Or.inl rfl) rfl rfl)) (pd_gSub hu1 (pd_var rfl (Or.inl rfl) rfl rfl) (pd_int) (asg_sub (fun _ _ => rfl) (fun _ _ _ z => nomatch z))) rfl rfl rfl) (pd_sCons (pd_ret (pd_var rfl (Or.inl rfl) rfl rfl)) (pd_sNil)))) (pd_sNil)) (pd_sCons (pd_asg (pd_bin op_mod (lift_I _ _) (pd_callTy call_int1 lift_int rfl m_int rfl (pd_cons (pd_bin op_addAll (lift_add false) (pd_bin op_mulAll (lift_mul false) (pd_ix hu1 (pd_var rfl (Or.inl rfl) rfl rfl) (pd_int) (fun _ _ => rfl)) (pd_int)) (pd_int)) (pd_nil) rfl) (by decide) rfl rfl rfl) (pd_int)) (pd_gSub hu1 (pd_var rfl (Or.inl rfl) rfl rfl) (pd_int) (asg_sub (fun _ _ => rfl) (fun _ _ _ z => nomatch z))) rfl rfl rfl) (pd_sCons (pd_ret (pd_bin op_mod (lift_I _ _) (pd_callTy call_int1 lift_int rfl m_int rfl (pd_cons (pd_bin op_fdiv (lift_I _ _) (pd_ix hu1 (pd_var rfl (Or.inl rfl) rfl rfl) (pd_int) (fun _ _ => rfl)) (pd_int)) (pd_nil) rfl) (by decide) rfl rfl rfl) (pd_var rfl (Or.inl rfl) rfl rfl))) (pd_sNil)))
theorem ok_joined_of (F : Fx fa fn W hh) : FnAt W 1 "joined_of" ["one", "other"] sp_joined_of := by
  obtain ⟨fd, D⟩ := F.def_ 15 (d := dOf "joined_of" "joined_of" 30) rfl
  have m_tuple := g_tuple F
  refine fnAt_of (k := 0) (N := N_joined_of) D ⟨rfl, rfl, rfl, by decide +kernel, rfl, by decide +kernel, by decide +kernel⟩ (F.glo 15 rfl) (fun _ _ _ _ _ _ us hl => match us, hl with | [_, _], _ => rfl) (fun f cdv A outer s H E hr => ?_) (n := 2) (m := 1) rfl rfl vc_joined_of
  have hu1 := room1 hr
  have hu64 := room64 hr
  have hu65 := room65 hr
  have hnd : (N_joined_of).Nodup := by decide +kernel
  exact pd_sCons (pd_ret (pd_callTy call_tupF lift_tuple rfl m_tuple rfl (pd_cons (pd_lc (m := false) (own := [("own", 2)]) rfl rfl hnd (pdi_seq (pd_var rfl (Or.inl rfl) rfl rfl)) (by kernel_rfl) rfl (fun s H C cl fp => pg_name hnd rfl (Or.inl rfl) (Or.inr rfl)) (fun s H C cl fp => pd_ifs0) (fun s H C cl fp => pd_ix hu1 (pd_var rfl (Or.inr (Or.inl rfl)) rfl rfl) (pd_var rfl (Or.inl rfl) rfl rfl) (fun _ _ => rfl)) (fun _ => rfl)) (pd_nil) rfl) (by decide) rfl rfl rfl)) (pd_sNil)
theorem ok_plain_of (F : Fx fa fn W hh) : FnAt W 1 "plain_of" ["many"] sp_plain_of := by
  obtain ⟨fd, D⟩ := F.def_ 17 (d := dOf "plain_of" "plain_of" 32) rfl
  have m_range := g_range F
  have m_tuple := g_tuple F
  refine fnAt_of (k := 0) (N := N_plain_of) D ⟨rfl, rfl, rfl, by decide +kernel, rfl, by decide +kernel, by decide +kernel⟩ (F.glo 17 rfl) (fun _ _ _ _ _ _ us hl => match us, hl with | [_], _ => rfl) (fun f cdv A outer s H E hr => ?_) (n := 1) (m := 0) rfl rfl vc_plain_of
  have hu1 := room1 hr
  have hu64 := room64 hr
  have hu65 := room65 hr
  have hnd : (N_plain_of).Nodup := by decide +kernel
  exact pd_sCons (pd_ret (pd_tupRg rfl rfl m_tuple (pdr_1 rfl m_range (pd_var rfl (Or.inl rfl) rfl rfl)))) (pd_sNil)
theorem ok_turns_of (F : Fx fa fn W hh) : FnAt W 2 "turns_of" ["rows", "word"] sp_turns_of := by
  obtain ⟨fd, D⟩ := F.def_ 47 (d := dOf "turns_of" "turns_of" 73) rfl
  have c_joined_of := ok_joined_of F
  have c_back_of := ok_back_of F
  have c_plain_of := ok_plain_of F
  have m_tuple := g_tuple F
  have m_len := g_len F
  refine fnAt_of (k := 1) (N := N_turns_of) D ⟨rfl, rfl, rfl, by decide +kernel, rfl, by decide +kernel, by decide +kernel⟩ (F.glo 47 rfl) (fun _ _ _ _ _ _ us hl => match us, hl with | [_, _], _ => rfl) (fun f cdv A outer s H E hr => ?_) (n := 2) (m := 3) rfl rfl vc_turns_of
  have hu1 := room1 hr
  have hu64 := room64 hr
  have hu65 := room65 hr
  have hnd : (N_turns_of).Nodup := by decide +kernel
  exact pd_sCons (pd_asg (pd_fnA c_plain_of hr (by decide) rfl rfl (pd_cons (pd_callB call_len lift_len rfl m_len rfl (pd_cons (pd_var rfl (Or.inl rfl) rfl rfl) (pd_nil) rfl) (by decide) rfl rfl rfl) (pd_nil) rfl) rfl rfl rfl) (pd_gNm hnd rfl (Or.inl rfl) (Or.inl rfl)) rfl rfl rfl) (pd_sCons (pd_asg (pd_lst (m := true) (pd_cons (pd_var rfl (Or.inl rfl) rfl rfl) (pd_nil) rfl)) (pd_gNm hnd rfl (Or.inl rfl) (Or.inl rfl)) rfl rfl rfl) (pd_sCons (pd_for PassesOwn.never rfl (pdi_seq (pd_var rfl (Or.inl rfl) rfl rfl)) (pg_name hnd rfl (Or.inl rfl) (Or.inl rfl)) (pd_sCons (pd_asg (pd_fnA c_joined_of hr (by decide) rfl rfl (pd_cons (pd_var rfl (Or.inl rfl) rfl rfl) (pd_cons (pd_fnA c_back_of hr (by decide) rfl rfl (pd_cons (pd_ix hu1 (pd_var rfl (Or.inl rfl) rfl rfl) (pd_var rfl (Or.inl rfl) rfl rfl) (fun _ _ => rfl)) (pd_nil) rfl) rfl rfl rfl) (pd_nil) rfl) rfl) rfl rfl rfl) (pd_gNm hnd rfl (Or.inl rfl) (Or.inl rfl)) rfl rfl rfl) (pd_sCons (pd_expr (pd_append (pd_var rfl (Or.inl rfl) rfl rfl) (pd_var rfl (Or.inl rfl) rfl rfl) rfl rfl rfl rfl) rfl) (pd_sNil))) (fun _ => rfl)) (pd_sCons (pd_ret (pd_callTy call_tupF lift_tuple rfl m_tuple rfl (pd_cons (pd_var rfl (Or.inl rfl) rfl rfl) (pd_nil) rfl) (by decide) rfl rfl rfl)) (pd_sNil))))
theorem ok_laid_of (F : Fx fa fn W hh) : FnAt W 3 "laid_of" ["rows", "word"] sp_laid_of := by
  obtain ⟨fd, D⟩ := F.def_ 48 (d := dOf "laid_of" "laid_of" 74) rfl
  have c_turns_of := ok_turns_of F
  have m_zip := g_zip F
  have m_tuple := g_tuple F
  refine fnAt_of (k := 2) (N := N_laid_of) D ⟨rfl, rfl, rfl, by decide +kernel, rfl, by decide +kernel, by decide +kernel⟩ (F.glo 48 rfl) (fun _ _ _ _ _ _ us hl => match us, hl with | [_, _], _ => rfl) (fun f cdv A outer s H E hr => ?_) (n := 2) (m := 2) rfl rfl vc_laid_of
  have hu1 := room1 hr
  have hu64 := room64 hr
  have hu65 := room65 hr
  have hnd : (N_laid_of).Nodup := by decide +kernel
  exact pd_sCons (pd_ret (pd_callTy call_tupF lift_tuple rfl m_tuple rfl (pd_cons (pd_lc (m := false) (own := [("turn", 2), ("own", 3)]) rfl rfl hnd (pdi_zip rfl m_zip (pd_cons (pd_fnA c_turns_of hr (by decide) rfl rfl (pd_cons (pd_var rfl (Or.inl rfl) rfl rfl) (pd_cons (pd_var rfl (Or.inl rfl) rfl rfl) (pd_nil) rfl) rfl) rfl rfl rfl) (pd_cons (pd_var rfl (Or.inl rfl) rfl rfl) (pd_nil) rfl) rfl) rfl rfl) (by kernel_rfl) rfl (fun s H C cl fp => pg_tup rfl (pgs_cons (pg_name hnd rfl (Or.inl rfl) (Or.inr rfl)) (pgs_cons (pg_name hnd rfl (Or.inl rfl) (Or.inr rfl)) (pgs_nil) rfl) rfl) rfl rfl) (fun s H C cl fp => pd_ifs0) (fun s H C cl fp => pd_ix hu1 (pd_var rfl (Or.inl rfl) rfl rfl) (pd_var rfl (Or.inl rfl) rfl rfl) (fun _ _ => rfl)) (fun _ => rfl)) (pd_nil) rfl) (by decide) rfl rfl rfl)) (pd_sNil)
theorem ok_laid_row (F : Fx fa fn W hh) : FnAt W 6 "laid_row" ["rows", "word"] sp_laid_row := by
  obtain ⟨fd, D⟩ := F.def_ 50 (d := dOf "laid_row" "laid_row" 76) rfl
  have c_laid_of := ok_laid_of F
  have c_need_word := ok_need_word F
  have c_need_cycle_set := ok_need_cycle_set F
  have m_len := g_len F
  refine fnAt_of (k := 5) (N := N_laid_row) D ⟨rfl, rfl, rfl, by decide +kernel, rfl, by decide +kernel, by decide +kernel⟩ (F.glo 50 rfl) (fun _ _ _ _ _ _ us hl => match us, hl with | [_, _], _ => rfl) (fun f cdv A outer s H E hr => ?_) (n := 2) (m := 0) rfl rfl vc_laid_row
  have hu1 := room1 hr
  have hu64 := room64 hr
  have hu65 := room65 hr
  have hnd : (N_laid_row).Nodup := by decide +kernel
  exact pd_sCons (pd_expr (pd_fnA c_need_cycle_set hr (by decide) rfl rfl (pd_cons (pd_var rfl (Or.inl rfl) rfl rfl) (pd_nil) rfl) rfl rfl rfl) rfl) (pd_sCons (pd_expr (pd_fnA c_need_word hr (by decide) rfl rfl (pd_cons (pd_var rfl (Or.inl rfl) rfl rfl) (pd_cons (pd_callB call_len lift_len rfl m_len rfl (pd_cons (pd_var rfl (Or.inl rfl) rfl rfl) (pd_nil) rfl) (by decide) rfl rfl rfl) (pd_nil) rfl) rfl) rfl rfl rfl) rfl) (pd_sCons (pd_ret (pd_fnA c_laid_of hr (by decide) rfl rfl (pd_cons (pd_var rfl (Or.inl rfl) rfl rfl) (pd_cons (pd_var rfl (Or.inl rfl) rfl rfl) (pd_nil) rfl) rfl) rfl rfl rfl)) (pd_sNil)))
theorem ok_letter_adding (F : Fx fa fn W hh) : FnAt W 2 "letter_adding" ["rows", "turn", "at"] sp_letter_adding := by
  obtain ⟨fd, D⟩ := F.def_ 46 (d := dOf "letter_adding" "letter_adding" 71) rfl
  have c_back_of := ok_back_of F
  refine fnAt_of (k := 1) (N := N_letter_adding) D ⟨rfl, rfl, rfl, by decide +kernel, rfl, by decide +kernel, by decide +kernel⟩ (F.glo 46 rfl) (fun _ _ _ _ _ _ us hl => match us, hl with | [_, _, _], _ => rfl) (fun f cdv A outer s H E hr => ?_) (n := 3) (m := 0) rfl rfl vc_letter_adding
  have hu1 := room1 hr
  have hu64 := room64 hr
  have hu65 := room65 hr
  have hnd : (N_letter_adding).Nodup := by decide +kernel
  exact pd_sCons (pd_ret (pd_ix hu1 (pd_fnA c_back_of hr (by decide) rfl rfl (pd_cons (pd_var rfl (Or.inl rfl) rfl rfl) (pd_nil) rfl) rfl rfl rfl) (pd_var rfl (Or.inl rfl) rfl rfl) (fun _ _ => rfl))) (pd_sNil)
theorem ok_word_of_laid (F : Fx fa fn W hh) : FnAt W 3 "word_of_laid" ["rows", "laid"] sp_word_of_laid := by
  obtain ⟨fd, D⟩ := F.def_ 49 (d := dOf "word_of_laid" "word_of_laid" 75) rfl
  have c_joined_of := ok_joined_of F
  have c_back_of := ok_back_of F
  have c_letter_adding := ok_letter_adding F
  have c_plain_of := ok_plain_of F
  have m_tuple := g_tuple F
  have m_len := g_len F
  refine fnAt_of (k := 2) (N := N_word_of_laid) D ⟨rfl, rfl, rfl, by decide +kernel, rfl, by decide +kernel, by decide +kernel⟩ (F.glo 49 rfl) (fun _ _ _ _ _ _ us hl => match us, hl with | [_, _], _ => rfl) (fun f cdv A outer s H E hr => ?_) (n := 2) (m := 4) rfl rfl vc_word_of_laid
  have hu1 := room1 hr
  have hu64 := room64 hr
  have hu65 := room65 hr
  have hnd : (N_word_of_laid).Nodup := by decide +kernel
  exact pd_sCons (pd_par rfl hnd rfl rfl (by decide) rfl rfl (pd_cons (pd_fnA c_plain_of hr (by decide) rfl rfl (pd_cons (pd_callB call_len lift_len rfl m_len rfl (pd_cons (pd_var rfl (Or.inl rfl) rfl rfl) (pd_nil) rfl) (by decide) rfl rfl rfl) (pd_nil) rfl) rfl rfl rfl) (pd_cons (pd_lst (m := true) (pd_nil)) (pd_nil) rfl) rfl) rfl rfl) (pd_sCons (pd_for PassesOwn.never rfl (pdi_seq (pd_var rfl (Or.inl rfl) rfl rfl)) (pg_name hnd rfl (Or.inl rfl) (Or.inl rfl)) (pd_sCons (pd_asg (pd_fnA c_letter_adding hr (by decide) rfl rfl (pd_cons (pd_var rfl (Or.inl rfl) rfl rfl) (pd_cons (pd_var rfl (Or.inl rfl) rfl rfl) (pd_cons (pd_var rfl (Or.inl rfl) rfl rfl) (pd_nil) rfl) rfl) rfl) rfl rfl rfl) (pd_gNm hnd rfl (Or.inl rfl) (Or.inl rfl)) rfl rfl rfl) (pd_sCons (pd_expr (pd_append (pd_var rfl (Or.inl rfl) rfl rfl) (pd_var rfl (Or.inl rfl) rfl rfl) rfl rfl rfl rfl) rfl) (pd_sCons (pd_asg (pd_fnA c_joined_of hr (by decide) rfl rfl (pd_cons (pd_var rfl (Or.inl rfl) rfl rfl) (pd_cons (pd_fnA c_back_of hr (by decide) rfl rfl (pd_cons (pd_ix hu1 (pd_var rfl (Or.inl rfl) rfl rfl) (pd_var rfl (Or.inl rfl) rfl rfl) (fun _ _ => rfl)) (pd_nil) rfl) rfl rfl rfl) (pd_nil) rfl) rfl) rfl rfl rfl) (pd_gNm hnd rfl (Or.inl rfl) (Or.inl rfl)) rfl rfl rfl) (pd_sNil)))) (fun _ => rfl)) (pd_sCons (pd_ret (pd_callTy call_tupF lift_tuple rfl m_tuple rfl (pd_cons (pd_var rfl (Or.inl rfl) rfl rfl) (pd_nil) rfl) (by decide) rfl rfl rfl)) (pd_sNil)))
theorem ok_word_laid (F : Fx fa fn W hh) : FnAt W 6 "word_laid" ["rows", "laid"] sp_word_laid := by
  obtain ⟨fd, D⟩ := F.def_ 51 (d := dOf "word_laid" "word_laid" 77) rfl
  have c_word_of_laid := ok_word_of_laid F
  have c_need_word := ok_need_word F
  have c_need_cycle_set := ok_need_cycle_set F
  have m_len := g_len F
  refine fnAt_of (k := 5) (N := N_word_laid) D ⟨rfl, rfl, rfl, by decide +kernel, rfl, by decide +kernel, by decide +kernel⟩ (F.glo 51 rfl) (fun _ _ _ _ _ _ us hl => match us, hl with | [_, _], _ => rfl) (fun f cdv A outer s H E hr => ?_) (n := 2) (m := 0) rfl rfl vc_word_laid
  have hu1 := room1 hr
  have hu64 := room64 hr
  have hu65 := room65 hr
  have hnd : (N_word_laid).Nodup := by decide +kernel
  exact pd_sCons (pd_expr (pd_fnA c_need_cycle_set hr (by decide) rfl rfl (pd_cons (pd_var rfl (Or.inl rfl) rfl rfl) (pd_nil) rfl) rfl rfl rfl) rfl) (pd_sCons (pd_expr (pd_fnA c_need_word hr (by decide) rfl rfl (pd_cons (pd_var rfl (Or.inl rfl) rfl rfl) (pd_cons (pd_callB call_len lift_len rfl m_len rfl (pd_cons (pd_var rfl (Or.inl rfl) rfl rfl) (pd_nil) rfl) (by decide) rfl rfl rfl) (pd_nil) rfl) rfl) rfl rfl rfl) rfl) (pd_sCons (pd_ret (pd_fnA c_word_of_laid hr (by decide) rfl rfl (pd_cons (pd_var rfl (Or.inl rfl) rfl rfl) (pd_cons (pd_var rfl (Or.inl rfl) rfl rfl) (pd_nil) rfl) rfl) rfl rfl rfl)) (pd_sNil)))
theorem ok_back_word (F : Fx fa fn W hh) : FnAt W 4 "back_word" ["strands", "word"] sp_back_word := by
  obtain ⟨fd, D⟩ := F.def_ 30 (d := dOf "back_word" "back_word" 50) rfl
  have c_need_crossing := ok_need_crossing F
  have m_tuple := g_tuple F
  refine fnAt_of (k := 3) (N := N_back_word) D ⟨rfl, rfl, rfl, by decide +kernel, rfl, by decide +kernel, by decide +kernel⟩ (F.glo 30 rfl) (fun _ _ _ _ _ _ us hl => match us, hl with | [_, _], _ => rfl) (fun f cdv A outer s H E hr => ?_) (n := 2) (m := 1) rfl rfl vc_back_word
  have hu1 := room1 hr
  have hu64 := room64 hr
  have hu65 := room65 hr
  have hnd : (N_back_word).Nodup := by decide +kernel
  exact pd_sCons (pd_expr (pd_fnA c_need_crossing hr (by decide) rfl rfl (pd_cons (pd_var rfl (Or.inl rfl) rfl rfl) (pd_cons (pd_var rfl (Or.inl rfl) rfl rfl) (pd_nil) rfl) rfl) rfl rfl rfl) rfl) (pd_sCons (pd_ret (pd_callTy call_tupF lift_tuple rfl m_tuple rfl (pd_cons (pd_lc (m := false) (own := [("own", 2)]) rfl rfl hnd (pdi_seq (pd_revT (pd_var rfl (Or.inl rfl) rfl rfl))) (by kernel_rfl) rfl (fun s H C cl fp => pg_name hnd rfl (Or.inl rfl) (Or.inr rfl)) (fun s H C cl fp => pd_ifs0) (fun s H C cl fp => pd_bin op_sub' (lift_I _ _) (pd_neg (pd_int)) (pd_var rfl (Or.inl rfl) rfl rfl)) (fun _ => rfl)) (pd_nil) rfl) (by decide) rfl rfl rfl)) (pd_sNil))
theorem ok_swaps_of (F : Fx fa fn W hh) : FnAt W 6 "swaps_of" ["rows"] sp_swaps_of := by
  obtain ⟨fd, D⟩ := F.def_ 43 (d := dOf "swaps_of" "swaps_of" 66) rfl
  have c_swap_pair := ok_swap_pair F
  have c_need_cycle_set := ok_need_cycle_set F
  have m_tuple := g_tuple F
  have m_range := g_range F
  have m_list := g_list F
  have m_len := g_len F
  refine fnAt_of (k := 5) (N := N_swaps_of) D ⟨rfl, rfl, rfl, by decide +kernel, rfl, by decide +kernel, by decide +kernel⟩ (F.glo 43 rfl) (fun _ _ _ _ _ _ us hl => match us, hl with | [_], _ => rfl) (fun f cdv A outer s H E hr => ?_) (n := 1) (m := 3) rfl rfl vc_swaps_of
  have hu1 := room1 hr
  have hu64 := room64 hr
  have hu65 := room65 hr
  have hnd : (N_swaps_of).Nodup := by decide +kernel
  exact pd_sCons (pd_expr (pd_fnA c_need_cycle_set hr (by decide) rfl rfl (pd_cons (pd_var rfl (Or.inr (Or.inl rfl)) rfl rfl) (pd_nil) rfl) rfl rfl rfl) rfl) (pd_sCons (pd_asg (pd_listRg (m := false) rfl rfl m_list (pdr_1 rfl m_range (pd_callB call_len lift_len rfl m_len rfl (pd_cons (pd_var rfl (Or.inr (Or.inl rfl)) rfl rfl) (pd_nil) rfl) (by decide) rfl rfl rfl))) (pd_gNm hnd rfl (Or.inr rfl) (Or.inl rfl)) rfl rfl rfl) (pd_sCons (pd_ret (pd_callTy call_tupF lift_tuple rfl m_tuple rfl (pd_cons (pd_lc (m := false) (own := [("one", 2)]) rfl rfl hnd (pdi_seq (pd_var rfl (Or.inr (Or.inl rfl)) rfl rfl)) (by kernel_rfl) rfl (fun s H C cl fp => pg_name hnd rfl (Or.inr rfl) (Or.inl rfl)) (fun s H C cl fp => pd_ifs0) (fun s H C cl fp => pd_callTy call_tupF lift_tuple rfl m_tuple rfl (pd_cons (pd_lc (m := false) (own := [("other", 3)]) rfl rfl hnd (pdi_seq (pd_var rfl (Or.inr (Or.inl rfl)) rfl rfl)) (by kernel_rfl) rfl (fun s H C cl fp => pg_name hnd rfl (Or.inl rfl) (Or.inr rfl)) (fun s H C cl fp => pd_ifs0) (fun s H C cl fp => pd_fnA c_swap_pair hr (by decide) rfl rfl (pd_cons (pd_var rfl (Or.inr (Or.inl rfl)) rfl rfl) (pd_cons (pd_var rfl (Or.inr (Or.inl rfl)) rfl rfl) (pd_cons (pd_var rfl (Or.inl rfl) rfl rfl) (pd_nil) rfl) rfl) rfl) rfl rfl rfl) (fun _ => rfl)) (pd_nil) rfl) (by decide) rfl rfl rfl) (fun _ => rfl)) (pd_nil) rfl) (by decide) rfl rfl rfl)) (pd_sNil)))
theorem ok__law_renamed (F : Fx fa fn W hh) : FnAt W 1 "_law_renamed" ["rows", "turn"] sp__law_renamed := by
  obtain ⟨fd, D⟩ := F.def_ 62 (d := dOf "_law_renamed" "_law_renamed" 90) rfl
  have m_range := g_range F
  have m_tuple := g_tuple F
  have m_len := g_len F
  refine fnAt_of (k := 0) (N := N__law_renamed) D ⟨rfl, rfl, rfl, by decide +kernel, rfl, by decide +kernel, by decide +kernel⟩ (F.glo 62 rfl) (fun _ _ _ _ _ _ us hl => match us, hl with | [_, _], _ => rfl) (fun f cdv A outer s H E hr => ?_) (n := 2) (m := 3) rfl rfl vc__law_renamed
  have hu1 := room1 hr
  have hu64 := room64 hr
  have hu65 := room65 hr
  have hnd : (N__law_renamed).Nodup := by decide +kernel
  exact pd_sCons (pd_asg (pd_callB call_len lift_len rfl m_len rfl (pd_cons (pd_var rfl (Or.inr (Or.inl rfl)) rfl rfl) (pd_nil) rfl) (by decide) rfl rfl rfl) (pd_gNm hnd rfl (Or.inr rfl) (Or.inl rfl)) rfl rfl rfl) (pd_sCons (pd_ret (pd_callTy call_tupF lift_tuple rfl m_tuple rfl (pd_cons (pd_lc (m := false) (own := [("one", 3)]) rfl rfl hnd (pdi_rng1 rfl m_range (pd_cons (pd_var rfl (Or.inr (Or.inl rfl)) rfl rfl) (pd_nil) rfl) rfl) (by kernel_rfl) rfl (fun s H C cl fp => pg_name hnd rfl (Or.inr rfl) (Or.inl rfl)) (fun s H C cl fp => pd_ifs0) (fun s H C cl fp => pd_callTy call_tupF lift_tuple rfl m_tuple rfl (pd_cons (pd_lc (m := false) (own := [("other", 4)]) rfl rfl hnd (pdi_rng1 rfl m_range (pd_cons (pd_var rfl (Or.inr (Or.inl rfl)) rfl rfl) (pd_nil) rfl) rfl) (by kernel_rfl) rfl (fun s H C cl fp => pg_name hnd rfl (Or.inl rfl) (Or.inr rfl)) (fun s H C cl fp => pd_ifs0) (fun s H C cl fp => pd_ix hu1 (pd_var rfl (Or.inr (Or.inl rfl)) rfl rfl) (pd_ix hu1 (pd_ix hu1 (pd_var rfl (Or.inr (Or.inl rfl)) rfl rfl) (pd_index hu65 (pd_var rfl (Or.inr (Or.inl rfl)) rfl rfl) (pd_var rfl (Or.inr (Or.inl rfl)) rfl rfl) rfl rfl rfl rfl) (fun _ _ => rfl)) (pd_index hu65 (pd_var rfl (Or.inr (Or.inl rfl)) rfl rfl) (pd_var rfl (Or.inl rfl) rfl rfl) rfl rfl rfl rfl) (fun _ _ => rfl)) (fun _ _ => rfl)) (fun _ => rfl)) (pd_nil) rfl) (by decide) rfl rfl rfl) (fun _ => rfl)) (pd_nil) rfl) (by decide) rfl rfl rfl)) (pd_sNil))
theorem ok__law_turn (F : Fx fa fn W hh) : FnAt W 2 "_law_turn" ["cup", "many"] sp__law_turn := by
  obtain ⟨fd, D⟩ := F.def_ 59 (d := dOf "_law_turn" "_law_turn" 87) rfl
  have c__law_roll := ok__law_roll F
  have m_tuple := g_tuple F
  have m_range := g_range F
  have m_len := g_len F
  have m_list := g_list F
  refine fnAt_of (k := 1) (N := N__law_turn) D ⟨rfl, rfl, rfl, by decide +kernel, rfl, by decide +kernel, by decide +kernel⟩ (F.glo 59 rfl) (fun _ _ _ _ _ _ us hl => match us, hl with | [_, _], _ => rfl) (fun f cdv A outer s H E hr => ?_) (n := 2) (m := 4) rfl rfl vc__law_turn
  have hu1 := room1 hr
  have hu64 := room64 hr
  have hu65 := room65 hr
  have hnd : (N__law_turn).Nodup := by decide +kernel
  exact pd_sCons (pd_par rfl hnd rfl rfl (by decide) rfl rfl (pd_cons (pd_listRg (m := false) rfl rfl m_list (pdr_1 rfl m_range (pd_var rfl (Or.inl rfl) rfl rfl))) (pd_cons (pd_lst (m := false) (pd_nil)) (pd_nil) rfl) rfl) rfl rfl) (pd_sCons (pd_for PassesOwn.never rfl (pdi_rng1 rfl m_range (pd_cons (pd_var rfl (Or.inl rfl) rfl rfl) (pd_nil) rfl) rfl) (pg_name hnd rfl (Or.inl rfl) (Or.inl rfl)) (pd_sCons (pd_asg (pd_fnA c__law_roll hr (by decide) rfl rfl (pd_cons (pd_var rfl (Or.inl rfl) rfl rfl) (pd_cons (pd_callB call_len lift_len rfl m_len rfl (pd_cons (pd_var rfl (Or.inl rfl) rfl rfl) (pd_nil) rfl) (by decide) rfl rfl rfl) (pd_nil) rfl) rfl) rfl rfl rfl) (pd_gNm hnd rfl (Or.inl rfl) (Or.inl rfl)) rfl rfl rfl) (pd_sCons (pd_asg (pd_bin op_addAll (lift_add false) (pd_var rfl (Or.inl rfl) rfl rfl) (pd_lst (m := false) (pd_cons (pd_ix hu1 (pd_var rfl (Or.inl rfl) rfl rfl) (pd_var rfl (Or.inl rfl) rfl rfl) (fun _ _ => rfl)) (pd_nil) rfl))) (pd_gNm hnd rfl (Or.inl rfl) (Or.inl rfl)) rfl rfl rfl) (pd_sCons (pd_asg (pd_bin op_addAll (lift_add false) (pd_slice (m := false) (pd_var rfl (Or.inl rfl) rfl rfl) (pd_noPart) (pd_part (pd_var rfl (Or.inl rfl) rfl rfl))) (pd_slice (m := false) (pd_var rfl (Or.inl rfl) rfl rfl) (pd_part (pd_bin op_addAll (lift_add false) (pd_var rfl (Or.inl rfl) rfl rfl) (pd_int))) (pd_noPart))) (pd_gNm hnd rfl (Or.inl rfl) (Or.inl rfl)) rfl rfl rfl) (pd_sNil)))) (fun _ => rfl)) (pd_sCons (pd_ret (pd_callTy call_tupF lift_tuple rfl m_tuple rfl (pd_cons (pd_var rfl (Or.inl rfl) rfl rfl) (pd_nil) rfl) (by decide) rfl rfl rfl)) (pd_sNil)))
theorem ok__law_beside (F : Fx fa fn W hh) : FnAt W 1 "_law_beside" ["one", "other"] sp__law_beside := by
  obtain ⟨fd, D⟩ := F.def_ 61 (d := dOf "_law_beside" "_law_beside" 89) rfl
  have m_range := g_range F
  have m_tuple := g_tuple F
  have m_len := g_len F
  refine fnAt_of (k := 0) (N := N__law_beside) D ⟨rfl, rfl, rfl, by decide +kernel, rfl, by decide +kernel, by decide +kernel⟩ (F.glo 61 rfl) (fun _ _ _ _ _ _ us hl => match us, hl with | [_, _], _ => rfl) (fun f cdv A outer s H E hr => ?_) (n := 2) (m := 5) rfl rfl vc__law_beside
  have hu1 := room1 hr
  have hu64 := room64 hr
  have hu65 := room65 hr
  have hnd : (N__law_beside).Nodup := by decide +kernel
  exact pd_sCons (pd_asg (pd_tup (pd_cons (pd_callB call_len lift_len rfl m_len rfl (pd_cons (pd_var rfl (Or.inl rfl) rfl rfl) (pd_nil) rfl) (by decide) rfl rfl rfl) (pd_cons (pd_callB call_len lift_len rfl m_len rfl (pd_cons (pd_var rfl (Or.inl rfl) rfl rfl) (pd_nil) rfl) (by decide) rfl rfl rfl) (pd_nil) rfl) rfl)) (pd_gTup rfl (pd_gsCons (pd_gNm hnd rfl (Or.inr rfl) (Or.inl rfl)) (pd_gsCons (pd_gNm hnd rfl (Or.inr rfl) (Or.inl rfl)) (pd_gsNil) rfl) rfl) rfl rfl) rfl rfl rfl) (pd_sCons (pd_setLc (m := false) (own := [("row", 5)]) rfl rfl hnd rfl rfl rfl rfl rfl (pdi_seq (pd_var rfl (Or.inl rfl) rfl rfl)) (by kernel_rfl) rfl (fun s H C cl fp => pg_name hnd rfl (Or.inl rfl) (Or.inr rfl)) (fun s H C cl fp => pd_ifs0) (fun s H C cl fp => pd_bin op_addAll (lift_add false) (pd_var rfl (Or.inl rfl) rfl rfl) (pd_tupRg rfl rfl m_tuple (pdr_2 rfl m_range (pd_var rfl (Or.inr (Or.inl rfl)) rfl rfl) (pd_bin op_addAll (lift_add false) (pd_var rfl (Or.inr (Or.inl rfl)) rfl rfl) (pd_var rfl (Or.inr (Or.inl rfl)) rfl rfl))))) (fun _ => rfl)) (pd_sCons (pd_ret (pd_callTy call_tupF lift_tuple rfl m_tuple rfl (pd_cons (pd_bin op_addAll (lift_add false) (pd_var rfl (Or.inl rfl) rfl rfl) (pd_lc (m := false) (own := [("row", 5)]) rfl rfl hnd (pdi_seq (pd_var rfl (Or.inl rfl) rfl rfl)) (by kernel_rfl) rfl (fun s H C cl fp => pg_name hnd rfl (Or.inl rfl) (Or.inr rfl)) (fun s H C cl fp => pd_ifs0) (fun s H C cl fp => pd_bin op_addAll (lift_add false) (pd_tupRg rfl rfl m_tuple (pdr_1 rfl m_range (pd_var rfl (Or.inr (Or.inl rfl)) rfl rfl))) (pd_callTy call_tupF lift_tuple rfl m_tuple rfl (pd_cons (pd_lc (m := false) (own := [("own", 6)]) rfl rfl hnd (pdi_seq (pd_var rfl (Or.inl rfl) rfl rfl)) (by kernel_rfl) rfl (fun s H C cl fp => pg_name hnd rfl (Or.inl rfl) (Or.inr rfl)) (fun s H C cl fp => pd_ifs0) (fun s H C cl fp => pd_bin op_addAll (lift_add false) (pd_var rfl (Or.inr (Or.inl rfl)) rfl rfl) (pd_var rfl (Or.inl rfl) rfl rfl)) (fun _ => rfl)) (pd_nil) rfl) (by decide) rfl rfl rfl)) (fun _ => rfl))) (pd_nil) rfl) (by decide) rfl rfl rfl)) (pd_sNil)))
theorem ok__law_some (F : Fx fa fn W hh) : FnAt W 2 "_law_some" ["cup", "things"] sp__law_some := by
  obtain ⟨fd, D⟩ := F.def_ 56 (d := dOf "_law_some" "_law_some" 84) rfl
  have c__law_roll := ok__law_roll F
  have m_len := g_len F
  refine fnAt_of (k := 1) (N := N__law_some) D ⟨rfl, rfl, rfl, by decide +kernel, rfl, by decide +kernel, by decide +kernel⟩ (F.glo 56 rfl) (fun _ _ _ _ _ _ us hl => match us, hl with | [_, _], _ => rfl) (fun f cdv A outer s H E hr => ?_) (n := 2) (m := 0) rfl rfl vc__law_some
  have hu1 := room1 hr
  have hu64 := room64 hr
  have hu65 := room65 hr
  have hnd : (N__law_some).Nodup := by decide +kernel
  exact pd_sCons (pd_ret (pd_ix hu1 (pd_var rfl (Or.inl rfl) rfl rfl) (pd_fnA c__law_roll hr (by decide) rfl rfl (pd_cons (pd_var rfl (Or.inl rfl) rfl rfl) (pd_cons (pd_callB call_len lift_len rfl m_len rfl (pd_cons (pd_var rfl (Or.inl rfl) rfl rfl) (pd_nil) rfl) (by decide) rfl rfl rfl) (pd_nil) rfl) rfl) rfl rfl rfl) (fun _ _ => rfl))) (pd_sNil)
theorem ok__law_stock (F : Fx fa fn W hh) : FnAt W 1 "_law_stock" [] sp__law_stock := by
  obtain ⟨fd, D⟩ := F.def_ 60 (d := dOf "_law_stock" "_law_stock" 88) rfl
  refine fnAt_of (k := 0) (N := N__law_stock) D ⟨rfl, rfl, rfl, by decide +kernel, rfl, by decide +kernel, by decide +kernel⟩ (F.glo 60 rfl) (fun _ _ _ _ _ _ us hl => match us, hl with | [], _ => rfl) (fun f cdv A outer s H E hr => ?_) (n := 0) (m := 1) rfl rfl vc__law_stock
  have hu1 := room1 hr
  have hu64 := room64 hr
  have hu65 := room65 hr
  have hnd : (N__law_stock).Nodup := by decide +kernel
  exact pd_sCons (pd_asg (pd_lst (m := false) (pd_cons (pd_tup (pd_cons (pd_tup (pd_cons (pd_int) (pd_nil) rfl)) (pd_nil) rfl)) (pd_cons (pd_tup (pd_cons (pd_tup (pd_cons (pd_int) (pd_cons (pd_int) (pd_nil) rfl) rfl)) (pd_cons (pd_tup (pd_cons (pd_int) (pd_cons (pd_int) (pd_nil) rfl) rfl)) (pd_nil) rfl) rfl)) (pd_cons (pd_tup (pd_cons (pd_tup (pd_cons (pd_int) (pd_cons (pd_int) (pd_nil) rfl) rfl)) (pd_cons (pd_tup (pd_cons (pd_int) (pd_cons (pd_int) (pd_nil) rfl) rfl)) (pd_nil) rfl) rfl)) (pd_cons (pd_tup (pd_cons (pd_tup (pd_cons (pd_int) (pd_cons (pd_int) (pd_cons (pd_int) (pd_nil) rfl) rfl) rfl)) (pd_cons (pd_tup (pd_cons (pd_int) (pd_cons (pd_int) (pd_cons (pd_int) (pd_nil) rfl) rfl) rfl)) (pd_cons (pd_tup (pd_cons (pd_int) (pd_cons (pd_int) (pd_cons (pd_int) (pd_nil) rfl) rfl) rfl)) (pd_nil) rfl) rfl) rfl)) (pd_cons (pd_tup (pd_cons (pd_tup (pd_cons (pd_int) (pd_cons (pd_int) (pd_cons (pd_int) (pd_nil) rfl) rfl) rfl)) (pd_cons (pd_tup (pd_cons (pd_int) (pd_cons (pd_int) (pd_cons (pd_int) (pd_nil) rfl) rfl) rfl)) (pd_cons (pd_tup (pd_cons (pd_int) (pd_cons (pd_int) (pd_cons (pd_int) (pd_nil) rfl) rfl) rfl)) (pd_nil) rfl) rfl) rfl)) (pd_nil) rfl) rfl) rfl) rfl) rfl)) (pd_gNm hnd rfl (Or.inl rfl) (Or.inl rfl)) rfl rfl rfl) (pd_sCons (pd_ret (pd_bin op_addAll (lift_add false) (pd_var rfl (Or.inl rfl) rfl rfl) (pd_lst (m := false) (pd_cons (pd_tup (pd_cons (pd_tup (pd_cons (pd_int) (pd_cons (pd_int) (pd_cons (pd_int) (pd_nil) rfl) rfl) rfl)) (pd_cons (pd_tup (pd_cons (pd_int) (pd_cons (pd_int) (pd_cons (pd_int) (pd_nil) rfl) rfl) rfl)) (pd_cons (pd_tup (pd_cons (pd_int) (pd_cons (pd_int) (pd_cons (pd_int) (pd_nil) rfl) rfl) rfl)) (pd_nil) rfl) rfl) rfl)) (pd_cons (pd_tup (pd_cons (pd_tup (pd_cons (pd_int) (pd_cons (pd_int) (pd_cons (pd_int) (pd_cons (pd_int) (pd_nil) rfl) rfl) rfl) rfl)) (pd_cons (pd_tup (pd_cons (pd_int) (pd_cons (pd_int) (pd_cons (pd_int) (pd_cons (pd_int) (pd_nil) rfl) rfl) rfl) rfl)) (pd_cons (pd_tup (pd_cons (pd_int) (pd_cons (pd_int) (pd_cons (pd_int) (pd_cons (pd_int) (pd_nil) rfl) rfl) rfl) rfl)) (pd_cons (pd_tup (pd_cons (pd_int) (pd_cons (pd_int) (pd_cons (pd_int) (pd_cons (pd_int) (pd_nil) rfl) rfl) rfl) rfl)) (pd_nil) rfl) rfl) rfl) rfl)) (pd_nil) rfl) rfl)))) (pd_sNil))
theorem ok__law_rows (F : Fx fa fn W hh) : FnAt W 3 "_law_rows" ["cup"] sp__law_rows := by
  obtain ⟨fd, D⟩ := F.def_ 63 (d := dOf "_law_rows" "_law_rows" 91) rfl
  have c__law_renamed := ok__law_renamed F
  have c__law_turn := ok__law_turn F
  have c__law_roll := ok__law_roll F
  have c__law_beside := ok__law_beside F
  have c__law_some := ok__law_some F
  have c__law_stock := ok__law_stock F
  have m_len := g_len F
  refine fnAt_of (k := 2) (N := N__law_rows) D ⟨rfl, rfl, rfl, by decide +kernel, rfl, by decide +kernel, by decide +kernel⟩ (F.glo 63 rfl) (fun _ _ _ _ _ _ us hl => match us, hl with | [_], _ => rfl) (fun f cdv A outer s H E hr => ?_) (n := 1) (m := 3) rfl rfl vc__law_rows
  have hu1 := room1 hr
  have hu64 := room64 hr
  have hu65 := room65 hr
  have hnd : (N__law_rows).Nodup := by decide +kernel
  exact pd_sCons (pd_par rfl hnd rfl rfl (by decide) rfl rfl (pd_cons (pd_fnA c__law_some hr (by decide) rfl rfl (pd_cons (pd_var rfl (Or.inl rfl) rfl rfl) (pd_cons (pd_fnA0 c__law_stock hr (by decide) rfl rfl rfl) (pd_nil) rfl) rfl) rfl rfl rfl) (pd_cons (pd_fnA c__law_some hr (by decide) rfl rfl (pd_cons (pd_var rfl (Or.inl rfl) rfl rfl) (pd_cons (pd_slice (m := false) (pd_fnA0 c__law_stock hr (by decide) rfl rfl rfl) (pd_noPart) (pd_part (pd_int))) (pd_nil) rfl) rfl) rfl rfl rfl) (pd_nil) rfl) rfl) rfl rfl) (pd_sCons (pd_asg (pd_if (pd_cmpT op_gt (lift_B _) (pd_fnA c__law_roll hr (by decide) rfl rfl (pd_cons (pd_var rfl (Or.inl rfl) rfl rfl) (pd_cons (pd_int) (pd_nil) rfl) rfl) rfl rfl rfl) (pd_int) rfl) (pd_fnA c__law_beside hr (by decide) rfl rfl (pd_cons (pd_var rfl (Or.inl rfl) rfl rfl) (pd_cons (pd_var rfl (Or.inl rfl) rfl rfl) (pd_nil) rfl) rfl) rfl rfl rfl) (pd_var rfl (Or.inl rfl) rfl rfl)) (pd_gNm hnd rfl (Or.inl rfl) (Or.inl rfl)) rfl rfl rfl) (pd_sCons (pd_ret (pd_fnA c__law_renamed hr (by decide) rfl rfl (pd_cons (pd_var rfl (Or.inl rfl) rfl rfl) (pd_cons (pd_fnA c__law_turn hr (by decide) rfl rfl (pd_cons (pd_var rfl (Or.inl rfl) rfl rfl) (pd_cons (pd_callB call_len lift_len rfl m_len rfl (pd_cons (pd_var rfl (Or.inl rfl) rfl rfl) (pd_nil) rfl) (by decide) rfl rfl rfl) (pd_nil) rfl) rfl) rfl rfl rfl) (pd_nil) rfl) rfl) rfl rfl rfl)) (pd_sNil)))
theorem ok__law_crossings_right (F : Fx fa fn W hh) : FnAt W 9 "_law_crossings_right" ["cup"] sp__law_crossings_right := by
  obtain ⟨fd, D⟩ := F.def_ 68 (d := dOf "_law_crossings_right" "_law_crossings_right" 96) rfl
  have c__law_like := ok__law_like F
  have c_count_rings := ok_count_rings F
  have c_count_colours := ok_count_colours F
  have c_colours_of := ok_colours_of F
  have c_is_colour := ok_is_colour F
  have c__law_all_rows := ok__law_all_rows F
  have c__law_laid := ok__law_laid F
  have c__law_rings := ok__law_rings F
  have c__law_exchanged := ok__law_exchanged F
  have c_swapped_at := ok_swapped_at F
  have c_crossed := ok_crossed F
  have c__law_roll := ok__law_roll F
  have c_laid_row := ok_laid_row F
  have c_word_laid := ok_word_laid F
  have c_back_word := ok_back_word F
  have c_swaps_of := ok_swaps_of F
  have c__law_rows := ok__law_rows F
  have m_tuple := g_tuple F
  have m_range := g_range F
  have m_len := g_len F
  have m_list := g_list F
  refine fnAt_of (k := 8) (N := N__law_crossings_right) D ⟨rfl, rfl, rfl, by decide +kernel, rfl, by decide +kernel, by decide +kernel⟩ (F.glo 68 rfl) (fun _ _ _ _ _ _ us hl => match us, hl with | [_], _ => rfl) (fun f cdv A outer s H E hr => ?_) (n := 1) (m := 18) rfl rfl vc__law_crossings_right
  have hu1 := room1 hr
  have hu64 := room64 hr
  have hu65 := room65 hr
  have hnd : (N__law_crossings_right).Nodup := by decide +kernel
  exact pd_sCons (pd_asg (pd_fnA c__law_rows hr (by decide) rfl rfl (pd_cons (pd_var rfl (Or.inr (Or.inl rfl)) rfl rfl) (pd_nil) rfl) rfl rfl rfl) (pd_gNm hnd rfl (Or.inl rfl) (Or.inl rfl)) rfl rfl rfl) (pd_sCons (pd_asg (pd_tup (pd_cons (pd_callB call_len lift_len rfl m_len rfl (pd_cons (pd_var rfl (Or.inl rfl) rfl rfl) (pd_nil) rfl) (by decide) rfl rfl rfl) (pd_cons (pd_bin op_addAll (lift_add false) (pd_int) (pd_fnA c__law_roll hr (by decide) rfl rfl (pd_cons (pd_var rfl (Or.inr (Or.inl rfl)) rfl rfl) (pd_cons (pd_int) (pd_nil) rfl) rfl) rfl rfl rfl)) (pd_nil) rfl) rfl)) (pd_gTup rfl (pd_gsCons (pd_gNm hnd rfl (Or.inr rfl) (Or.inl rfl)) (pd_gsCons (pd_gNm hnd rfl (Or.inr rfl) (Or.inl rfl)) (pd_gsNil) rfl) rfl) rfl rfl) rfl rfl rfl) (pd_sCons (pd_asg (pd_fnA c_swaps_of hr (by decide) rfl rfl (pd_cons (pd_var rfl (Or.inl rfl) rfl rfl) (pd_nil) rfl) rfl rfl rfl) (pd_gNm hnd rfl (Or.inl rfl) (Or.inl rfl)) rfl rfl rfl) (pd_sCons (pd_asg (pd_callTy call_tupF lift_tuple rfl m_tuple rfl (pd_cons (pd_lc (m := false) (own := [("spot", 17)]) rfl rfl hnd (pdi_rng1 rfl m_range (pd_cons (pd_fnA c__law_roll hr (by decide) rfl rfl (pd_cons (pd_var rfl (Or.inr (Or.inl rfl)) rfl rfl) (pd_cons (pd_int) (pd_nil) rfl) rfl) rfl rfl rfl) (pd_nil) rfl) rfl) (by kernel_rfl) rfl (fun s H C cl fp => pg_name hnd rfl (Or.inl rfl) (Or.inr rfl)) (fun s H C cl fp => pd_ifs0) (fun s H C cl fp => pd_bin op_addAll (lift_add false) (pd_bin op_sub' (lift_I _ _) (pd_fnA c__law_roll hr (by decide) rfl rfl (pd_cons (pd_var rfl (Or.inr (Or.inl rfl)) rfl rfl) (pd_cons (pd_bin op_sub' (lift_I _ _) (pd_bin op_mulAll (lift_mul false) (pd_int) (pd_var rfl (Or.inr (Or.inl rfl)) rfl rfl)) (pd_int)) (pd_nil) rfl) rfl) rfl rfl rfl) (pd_var rfl (Or.inr (Or.inl rfl)) rfl rfl)) (pd_int)) (fun _ => rfl)) (pd_nil) rfl) (by decide) rfl rfl rfl) (pd_gNm hnd rfl (Or.inl rfl) (Or.inl rfl)) rfl rfl rfl) (pd_sCons (pd_asg (pd_callTy call_tupF lift_tuple rfl m_tuple rfl (pd_cons (pd_lc (m := false) (own := [("strand", 18)]) rfl rfl hnd (pdi_rng1 rfl m_range (pd_cons (pd_var rfl (Or.inr (Or.inl rfl)) rfl rfl) (pd_nil) rfl) rfl) (by kernel_rfl) rfl (fun s H C cl fp => pg_name hnd rfl (Or.inl rfl) (Or.inr rfl)) (fun s H C cl fp => pd_ifs0) (fun s H C cl fp => pd_fnA c__law_roll hr (by decide) rfl rfl (pd_cons (pd_var rfl (Or.inr (Or.inl rfl)) rfl rfl) (pd_cons (pd_var rfl (Or.inr (Or.inl rfl)) rfl rfl) (pd_nil) rfl) rfl) rfl rfl rfl) (fun _ => rfl)) (pd_nil) rfl) (by decide) rfl rfl rfl) (pd_gNm hnd rfl (Or.inl rfl) (Or.inl rfl)) rfl rfl rfl) (pd_sCons (pd_asg (pd_fnA c_crossed hr (by decide) rfl rfl (pd_cons (pd_var rfl (Or.inl rfl) rfl rfl) (pd_cons (pd_var rfl (Or.inr (Or.inl rfl)) rfl rfl) (pd_cons (pd_var rfl (Or.inl rfl) rfl rfl) (pd_cons (pd_var rfl (Or.inl rfl) rfl rfl) (pd_nil) rfl) rfl) rfl) rfl) rfl rfl rfl) (pd_gNm hnd rfl (Or.inl rfl) (Or.inl rfl)) rfl rfl rfl) (pd_sCons (pd_asg (pd_fnA c__law_exchanged hr (by decide) rfl rfl (pd_cons (pd_fnA c__law_laid hr (by decide) rfl rfl (pd_cons (pd_var rfl (Or.inl rfl) rfl rfl) (pd_cons (pd_var rfl (Or.inl rfl) rfl rfl) (pd_nil) rfl) rfl) rfl rfl rfl) (pd_cons (pd_var rfl (Or.inl rfl) rfl rfl) (pd_nil) rfl) rfl) rfl rfl rfl) (pd_gNm hnd rfl (Or.inr rfl) (Or.inl rfl)) rfl rfl rfl) (pd_sCons (pd_asg (pd_lst (m := false) (pd_cons (pd_callTy call_tupF lift_tuple rfl m_tuple rfl (pd_cons (pd_fnA c__law_laid hr (by decide) rfl rfl (pd_cons (pd_var rfl (Or.inl rfl) rfl rfl) (pd_cons (pd_var rfl (Or.inl rfl) rfl rfl) (pd_nil) rfl) rfl) rfl rfl rfl) (pd_nil) rfl) (by decide) rfl rfl rfl) (pd_cons (pd_fnA c_laid_row hr (by decide) rfl rfl (pd_cons (pd_var rfl (Or.inl rfl) rfl rfl) (pd_cons (pd_var rfl (Or.inl rfl) rfl rfl) (pd_nil) rfl) rfl) rfl rfl rfl) (pd_cons (pd_fnA c_word_laid hr (by decide) rfl rfl (pd_cons (pd_var rfl (Or.inl rfl) rfl rfl) (pd_cons (pd_callTy call_tupF lift_tuple rfl m_tuple rfl (pd_cons (pd_var rfl (Or.inr (Or.inl rfl)) rfl rfl) (pd_nil) rfl) (by decide) rfl rfl rfl) (pd_nil) rfl) rfl) rfl rfl rfl) (pd_cons (pd_fnA c_crossed hr (by decide) rfl rfl (pd_cons (pd_var rfl (Or.inl rfl) rfl rfl) (pd_cons (pd_var rfl (Or.inr (Or.inl rfl)) rfl rfl) (pd_cons (pd_fnA c_back_word hr (by decide) rfl rfl (pd_cons (pd_var rfl (Or.inr (Or.inl rfl)) rfl rfl) (pd_cons (pd_var rfl (Or.inl rfl) rfl rfl) (pd_nil) rfl) rfl) rfl rfl rfl) (pd_cons (pd_var rfl (Or.inl rfl) rfl rfl) (pd_nil) rfl) rfl) rfl) rfl) rfl rfl rfl) (pd_nil) rfl) rfl) rfl) rfl)) (pd_gNm hnd rfl (Or.inl rfl) (Or.inl rfl)) rfl rfl rfl) (pd_sCons (pd_sIf (pd_not (pd_val (pd_fnA c__law_like hr (by decide) rfl rfl (pd_cons (pd_var rfl (Or.inl rfl) rfl rfl) (pd_cons (pd_lst (m := false) (pd_cons (pd_callTy call_tupF lift_tuple rfl m_tuple rfl (pd_cons (pd_var rfl (Or.inr (Or.inl rfl)) rfl rfl) (pd_nil) rfl) (by decide) rfl rfl rfl) (pd_cons (pd_callTy call_tupF lift_tuple rfl m_tuple rfl (pd_cons (pd_var rfl (Or.inr (Or.inl rfl)) rfl rfl) (pd_nil) rfl) (by decide) rfl rfl rfl) (pd_cons (pd_var rfl (Or.inl rfl) rfl rfl) (pd_cons (pd_var rfl (Or.inl rfl) rfl rfl) (pd_nil) rfl) rfl) rfl) rfl)) (pd_nil) rfl) rfl) rfl rfl rfl) (fun _ => rfl))) (pd_sCons (pd_ret (pd_bl)) (pd_sNil)) (pd_sNil)) (pd_sCons (pd_asg (pd_fnA c__law_roll hr (by decide) rfl rfl (pd_cons (pd_var rfl (Or.inr (Or.inl rfl)) rfl rfl) (pd_cons (pd_bin op_sub' (lift_I _ _) (pd_var rfl (Or.inr (Or.inl rfl)) rfl rfl) (pd_int)) (pd_nil) rfl) rfl) rfl rfl rfl) (pd_gNm hnd rfl (Or.inl rfl) (Or.inl rfl)) rfl rfl rfl) (pd_sCons (pd_sIf (pd_not (pd_val (pd_fnA c__law_like hr (by decide) rfl rfl (pd_cons (pd_fnA c_swapped_at hr (by decide) rfl rfl (pd_cons (pd_var rfl (Or.inl rfl) rfl rfl) (pd_cons (pd_var rfl (Or.inl rfl) rfl rfl) (pd_cons (pd_var rfl (Or.inl rfl) rfl rfl) (pd_nil) rfl) rfl) rfl) rfl rfl rfl) (pd_cons (pd_fnA c_crossed hr (by decide) rfl rfl (pd_cons (pd_var rfl (Or.inl rfl) rfl rfl) (pd_cons (pd_var rfl (Or.inr (Or.inl rfl)) rfl rfl) (pd_cons (pd_tup (pd_cons (pd_var rfl (Or.inl rfl) rfl rfl) (pd_nil) rfl)) (pd_cons (pd_var rfl (Or.inl rfl) rfl rfl) (pd_nil) rfl) rfl) rfl) rfl) rfl rfl rfl) (pd_nil) rfl) rfl) rfl rfl rfl) (fun _ => rfl))) (pd_sCons (pd_ret (pd_bl)) (pd_sNil)) (pd_sNil)) (pd_sCons (pd_asg (pd_fnA c__law_rings hr (by decide) rfl rfl (pd_cons (pd_fnA c__law_exchanged hr (by decide) rfl rfl (pd_cons (pd_listRg (m := false) rfl rfl m_list (pdr_1 rfl m_range (pd_var rfl (Or.inr (Or.inl rfl)) rfl rfl))) (pd_cons (pd_var rfl (Or.inl rfl) rfl rfl) (pd_nil) rfl) rfl) rfl rfl rfl) (pd_nil) rfl) rfl rfl rfl) (pd_gNm hnd rfl (Or.inr rfl) (Or.inl rfl)) rfl rfl rfl) (pd_sCons (pd_asg (pd_callB call_len lift_len rfl m_len rfl (pd_cons (pd_lc (m := false) (own := [("spot", 17)]) rfl rfl hnd (pdi_rng1 rfl m_range (pd_cons (pd_var rfl (Or.inr (Or.inl rfl)) rfl rfl) (pd_nil) rfl) rfl) (by kernel_rfl) rfl (fun s H C cl fp => pg_name hnd rfl (Or.inl rfl) (Or.inr rfl)) (fun s H C cl fp => pd_ifs1 (pd_cmpT (op_eqD hu64) lift_eq (pd_ix hu1 (pd_var rfl (Or.inr (Or.inl rfl)) rfl rfl) (pd_var rfl (Or.inl rfl) rfl rfl) (fun _ _ => rfl)) (pd_var rfl (Or.inl rfl) rfl rfl) rfl)) (fun s H C cl fp => pd_int) (fun _ => rfl)) (pd_nil) rfl) (by decide) rfl rfl rfl) (pd_gNm hnd rfl (Or.inl rfl) (Or.inl rfl)) rfl rfl rfl) (pd_sCons (pd_asg (pd_lst (m := false) (pd_nil)) (pd_gNm hnd rfl (Or.inl rfl) (Or.inl rfl)) rfl rfl rfl) (pd_sCons (pd_for PassesOwn.never rfl (pdi_seq (pd_fnA c__law_all_rows hr (by decide) rfl rfl (pd_cons (pd_var rfl (Or.inr (Or.inl rfl)) rfl rfl) (pd_cons (pd_var rfl (Or.inr (Or.inl rfl)) rfl rfl) (pd_nil) rfl) rfl) rfl rfl rfl)) (pg_name hnd rfl (Or.inl rfl) (Or.inl rfl)) (pd_sCons (pd_asg (pd_fnA c__law_laid hr (by decide) rfl rfl (pd_cons (pd_var rfl (Or.inl rfl) rfl rfl) (pd_cons (pd_var rfl (Or.inl rfl) rfl rfl) (pd_nil) rfl) rfl) rfl rfl rfl) (pd_gNm hnd rfl (Or.inr rfl) (Or.inl rfl)) rfl rfl rfl) (pd_sCons (pd_sIf (pd_cmpT (op_eqD hu64) lift_eq (pd_lc (m := false) (own := [("spot", 17)]) rfl rfl hnd (pdi_rng1 rfl m_range (pd_cons (pd_var rfl (Or.inr (Or.inl rfl)) rfl rfl) (pd_nil) rfl) rfl) (by kernel_rfl) rfl (fun s H C cl fp => pg_name hnd rfl (Or.inl rfl) (Or.inr rfl)) (fun s H C cl fp => pd_ifs1 (pd_cmpT (op_neD hu64) lift_ne (pd_ix hu1 (pd_var rfl (Or.inr (Or.inl rfl)) rfl rfl) (pd_var rfl (Or.inl rfl) rfl rfl) (fun _ _ => rfl)) (pd_ix hu1 (pd_var rfl (Or.inr (Or.inl rfl)) rfl rfl) (pd_ix hu1 (pd_var rfl (Or.inr (Or.inl rfl)) rfl rfl) (pd_var rfl (Or.inl rfl) rfl rfl) (fun _ _ => rfl)) (fun _ _ => rfl)) rfl)) (fun s H C cl fp => pd_int) (fun _ => rfl)) (pd_lst (m := false) (pd_nil)) rfl) (pd_sCons (pd_asg (pd_bin op_addAll (lift_add false) (pd_var rfl (Or.inl rfl) rfl rfl) (pd_lst (m := false) (pd_cons (pd_var rfl (Or.inl rfl) rfl rfl) (pd_nil) rfl))) (pd_gNm hnd rfl (Or.inl rfl) (Or.inl rfl)) rfl rfl rfl) (pd_sNil)) (pd_sNil)) (pd_sNil))) (fun _ => rfl)) (pd_sCons (pd_asg (pd_int) (pd_gNm hnd rfl (Or.inl rfl) (Or.inl rfl)) rfl rfl rfl) (pd_sCons (pd_for PassesOwn.never rfl (pdi_rng1 rfl m_range (pd_cons (pd_var rfl (Or.inl rfl) rfl rfl) (pd_nil) rfl) rfl) (pg_name hnd rfl (Or.inl rfl) (Or.inl rfl)) (pd_sCons (pd_asg (pd_bin op_mulAll (lift_mul false) (pd_var rfl (Or.inl rfl) rfl rfl) (pd_var rfl (Or.inr (Or.inl rfl)) rfl rfl)) (pd_gNm hnd rfl (Or.inl rfl) (Or.inl rfl)) rfl rfl rfl) (pd_sNil)) (fun _ => rfl)) (pd_sCons (pd_asg (pd_lst (m := false) (pd_cons (pd_fnA c_count_rings hr (by decide) rfl rfl (pd_cons (pd_var rfl (Or.inr (Or.inl rfl)) rfl rfl) (pd_cons (pd_var rfl (Or.inl rfl) rfl rfl) (pd_nil) rfl) rfl) rfl rfl rfl) (pd_cons (pd_fnA c_count_colours hr (by decide) rfl rfl (pd_cons (pd_var rfl (Or.inl rfl) rfl rfl) (pd_cons (pd_var rfl (Or.inr (Or.inl rfl)) rfl rfl) (pd_cons (pd_var rfl (Or.inl rfl) rfl rfl) (pd_nil) rfl) rfl) rfl) rfl rfl rfl) (pd_cons (pd_fnA c_colours_of hr (by decide) rfl rfl (pd_cons (pd_var rfl (Or.inl rfl) rfl rfl) (pd_cons (pd_var rfl (Or.inr (Or.inl rfl)) rfl rfl) (pd_cons (pd_var rfl (Or.inl rfl) rfl rfl) (pd_nil) rfl) rfl) rfl) rfl rfl rfl) (pd_cons (pd_fnA c_is_colour hr (by decide) rfl rfl (pd_cons (pd_var rfl (Or.inl rfl) rfl rfl) (pd_cons (pd_var rfl (Or.inr (Or.inl rfl)) rfl rfl) (pd_cons (pd_var rfl (Or.inl rfl) rfl rfl) (pd_cons (pd_var rfl (Or.inl rfl) rfl rfl) (pd_nil) rfl) rfl) rfl) rfl) rfl rfl rfl) (pd_nil) rfl) rfl) rfl) rfl)) (pd_gNm hnd rfl (Or.inl rfl) (Or.inl rfl)) rfl rfl rfl) (pd_sCons (pd_ret (pd_fnA c__law_like hr (by decide) rfl rfl (pd_cons (pd_var rfl (Or.inl rfl) rfl rfl) (pd_cons (pd_lst (m := false) (pd_cons (pd_var rfl (Or.inl rfl) rfl rfl) (pd_cons (pd_var rfl (Or.inl rfl) rfl rfl) (pd_cons (pd_callTy call_tupF lift_tuple rfl m_tuple rfl (pd_cons (pd_var rfl (Or.inl rfl) rfl rfl) (pd_nil) rfl) (by decide) rfl rfl rfl) (pd_cons (pd_cmp (op_inAll hu65) (lift_in _ false) (pd_var rfl (Or.inl rfl) rfl rfl) (pd_var rfl (Or.inl rfl) rfl rfl) rfl) (pd_nil) rfl) rfl) rfl) rfl)) (pd_nil) rfl) rfl) rfl rfl rfl)) (pd_sNil)))))))))))))))))))
theorem ok__law_cup (F : Fx fa fn W hh) : FnAt W 1 "_law_cup" ["script"] sp__law_cup := by
  obtain ⟨fd, D⟩ := F.def_ 54 (d := dOf "_law_cup" "_law_cup" 82) rfl
  have m_int := g_int F
  have m_list := g_list F
  have m_abs := g_abs F
  refine fnAt_of (k := 0) (N := N__law_cup) D ⟨rfl, rfl, rfl, by decide +kernel, rfl, by decide +kernel, by decide +kernel⟩ (F.glo 54 rfl) (fun _ _ _ _ _ _ us hl => match us, hl with | [_], _ => rfl) (fun f cdv A outer s H E hr => ?_) (n := 1) (m := 1) rfl rfl vc__law_cup
  have hu1 := room1 hr
  have hu64 := room64 hr
  have hu65 := room65 hr
  have hnd : (N__law_cup).Nodup := by decide +kernel
  exact pd_sCons (pd_asg (pd_callB call_abs lift_abs rfl m_abs rfl (pd_cons (pd_ix hu1 (pd_bin op_addAll (lift_add false) (pd_callTy call_list_of (lift_list false) rfl m_list rfl (pd_cons (pd_var rfl (Or.inl rfl) rfl rfl) (pd_nil) rfl) (by decide) rfl rfl rfl) (pd_lst (m := false) (pd_cons (pd_int) (pd_nil) rfl))) (pd_int) (fun _ _ => rfl)) (pd_nil) rfl) (by decide) rfl rfl rfl) (pd_gNm hnd rfl (Or.inl rfl) (Or.inl rfl)) rfl rfl rfl) (pd_sCons (pd_ret (pd_lst (m := true) (pd_cons (pd_if (pd_cmpT op_ge (lift_B _) (pd_var rfl (Or.inl rfl) rfl rfl) (pd_bin op_pow (lift_I _ _) (pd_int) (pd_int)) rfl) (pd_bin op_fdiv (lift_I _ _) (pd_var rfl (Or.inl rfl) rfl rfl) (pd_int)) (pd_int)) (pd_cons (pd_bin op_mod (lift_I _ _) (pd_callTy call_int1 lift_int rfl m_int rfl (pd_cons (pd_bin op_addAll (lift_add false) (pd_bin op_mulAll (lift_mul false) (pd_var rfl (Or.inl rfl) rfl rfl) (pd_int)) (pd_int)) (pd_nil) rfl) (by decide) rfl rfl rfl) (pd_int)) (pd_nil) rfl) rfl))) (pd_sNil))
theorem ok__law_written_right (F : Fx fa fn W hh) : FnAt W 9 "_law_written_right" [] sp__law_written_right := by
  obtain ⟨fd, D⟩ := F.def_ 69 (d := dOf "_law_written_right" "_law_written_right" 97) rfl
  have c__law_like := ok__law_like F
  have c_colours_of := ok_colours_of F
  have c_is_colour := ok_is_colour F
  have c_count_rings := ok_count_rings F
  have c_count_colours := ok_count_colours F
  have c_back_word := ok_back_word F
  have c_crossed := ok_crossed F
  have c_laid_row := ok_laid_row F
  have c_swaps_of := ok_swaps_of F
  refine fnAt_of (k := 8) (N := N__law_written_right) D ⟨rfl, rfl, rfl, by decide +kernel, rfl, by decide +kernel, by decide +kernel⟩ (F.glo 69 rfl) (fun _ _ _ _ _ _ us hl => match us, hl with | [], _ => rfl) (fun f cdv A outer s H E hr => ?_) (n := 0) (m := 5) rfl rfl vc__law_written_right
  have hu1 := room1 hr
  have hu64 := room64 hr
  have hu65 := room65 hr
  have hnd : (N__law_written_right).Nodup := by decide +kernel
  exact pd_sCons (pd_asg (pd_tup (pd_cons (pd_tup (pd_cons (pd_tup (pd_cons (pd_int) (pd_cons (pd_int) (pd_nil) rfl) rfl)) (pd_cons (pd_tup (pd_cons (pd_int) (pd_cons (pd_int) (pd_nil) rfl) rfl)) (pd_nil) rfl) rfl)) (pd_cons (pd_tup (pd_cons (pd_tup (pd_cons (pd_int) (pd_cons (pd_int) (pd_cons (pd_int) (pd_cons (pd_int) (pd_nil) rfl) rfl) rfl) rfl)) (pd_cons (pd_tup (pd_cons (pd_int) (pd_cons (pd_int) (pd_cons (pd_int) (pd_cons (pd_int) (pd_nil) rfl) rfl) rfl) rfl)) (pd_cons (pd_tup (pd_cons (pd_int) (pd_cons (pd_int) (pd_cons (pd_int) (pd_cons (pd_int) (pd_nil) rfl) rfl) rfl) rfl)) (pd_cons (pd_tup (pd_cons (pd_int) (pd_cons (pd_int) (pd_cons (pd_int) (pd_cons (pd_int) (pd_nil) rfl) rfl) rfl) rfl)) (pd_nil) rfl) rfl) rfl) rfl)) (pd_nil) rfl) rfl)) (pd_gTup rfl (pd_gsCons (pd_gNm hnd rfl (Or.inl rfl) (Or.inl rfl)) (pd_gsCons (pd_gNm hnd rfl (Or.inl rfl) (Or.inl rfl)) (pd_gsNil) rfl) rfl) rfl rfl) rfl rfl rfl) (pd_sCons (pd_par rfl hnd rfl rfl (by decide) rfl rfl (pd_cons (pd_fnA c_swaps_of hr (by decide) rfl rfl (pd_cons (pd_var rfl (Or.inl rfl) rfl rfl) (pd_nil) rfl) rfl rfl rfl) (pd_cons (pd_fnA c_swaps_of hr (by decide) rfl rfl (pd_cons (pd_var rfl (Or.inl rfl) rfl rfl) (pd_nil) rfl) rfl rfl rfl) (pd_nil) rfl) rfl) rfl rfl) (pd_sCons (pd_asg (pd_lst (m := false) (pd_cons (pd_fnA c_back_word hr (by decide) rfl rfl (pd_cons (pd_int) (pd_cons (pd_tup (pd_cons (pd_int) (pd_cons (pd_int) (pd_nil) rfl) rfl)) (pd_nil) rfl) rfl) rfl rfl rfl) (pd_cons (pd_fnA c_crossed hr (by decide) rfl rfl (pd_cons (pd_var rfl (Or.inl rfl) rfl rfl) (pd_cons (pd_int) (pd_cons (pd_tup (pd_cons (pd_int) (pd_cons (pd_int) (pd_nil) rfl) rfl)) (pd_cons (pd_tup (pd_cons (pd_int) (pd_cons (pd_int) (pd_cons (pd_int) (pd_nil) rfl) rfl) rfl)) (pd_nil) rfl) rfl) rfl) rfl) rfl rfl rfl) (pd_cons (pd_fnA c_crossed hr (by decide) rfl rfl (pd_cons (pd_var rfl (Or.inl rfl) rfl rfl) (pd_cons (pd_int) (pd_cons (pd_tup (pd_cons (pd_neg (pd_int)) (pd_cons (pd_neg (pd_int)) (pd_nil) rfl) rfl)) (pd_cons (pd_tup (pd_cons (pd_int) (pd_cons (pd_int) (pd_cons (pd_int) (pd_nil) rfl) rfl) rfl)) (pd_nil) rfl) rfl) rfl) rfl) rfl rfl rfl) (pd_cons (pd_fnA c_laid_row hr (by decide) rfl rfl (pd_cons (pd_var rfl (Or.inl rfl) rfl rfl) (pd_cons (pd_tup (pd_cons (pd_int) (pd_cons (pd_int) (pd_cons (pd_int) (pd_nil) rfl) rfl) rfl)) (pd_nil) rfl) rfl) rfl rfl rfl) (pd_nil) rfl) rfl) rfl) rfl)) (pd_gNm hnd rfl (Or.inl rfl) (Or.inl rfl)) rfl rfl rfl) (pd_sCons (pd_sIf (pd_not (pd_val (pd_fnA c__law_like hr (by decide) rfl rfl (pd_cons (pd_var rfl (Or.inl rfl) rfl rfl) (pd_cons (pd_lst (m := false) (pd_cons (pd_tup (pd_cons (pd_neg (pd_int)) (pd_cons (pd_neg (pd_int)) (pd_nil) rfl) rfl)) (pd_cons (pd_tup (pd_cons (pd_int) (pd_cons (pd_int) (pd_cons (pd_int) (pd_nil) rfl) rfl) rfl)) (pd_cons (pd_tup (pd_cons (pd_int) (pd_cons (pd_int) (pd_cons (pd_int) (pd_nil) rfl) rfl) rfl)) (pd_cons (pd_tup (pd_cons (pd_int) (pd_cons (pd_int) (pd_cons (pd_int) (pd_nil) rfl) rfl) rfl)) (pd_nil) rfl) rfl) rfl) rfl)) (pd_nil) rfl) rfl) rfl rfl rfl) (fun _ => rfl))) (pd_sCons (pd_ret (pd_bl)) (pd_sNil)) (pd_sNil)) (pd_sCons (pd_asg (pd_lst (m := false) (pd_cons (pd_fnA c_count_rings hr (by decide) rfl rfl (pd_cons (pd_int) (pd_cons (pd_tup (pd_cons (pd_int) (pd_cons (pd_int) (pd_nil) rfl) rfl)) (pd_nil) rfl) rfl) rfl rfl rfl) (pd_cons (pd_fnA c_count_rings hr (by decide) rfl rfl (pd_cons (pd_int) (pd_cons (pd_tup (pd_cons (pd_int) (pd_cons (pd_int) (pd_nil) rfl) rfl)) (pd_nil) rfl) rfl) rfl rfl rfl) (pd_cons (pd_fnA c_count_rings hr (by decide) rfl rfl (pd_cons (pd_int) (pd_cons (pd_tup (pd_nil)) (pd_nil) rfl) rfl) rfl rfl rfl) (pd_cons (pd_fnA c_count_colours hr (by decide) rfl rfl (pd_cons (pd_var rfl (Or.inl rfl) rfl rfl) (pd_cons (pd_int) (pd_cons (pd_tup (pd_cons (pd_int) (pd_cons (pd_int) (pd_nil) rfl) rfl)) (pd_nil) rfl) rfl) rfl) rfl rfl rfl) (pd_cons (pd_fnA c_count_colours hr (by decide) rfl rfl (pd_cons (pd_var rfl (Or.inl rfl) rfl rfl) (pd_cons (pd_int) (pd_cons (pd_tup (pd_nil)) (pd_nil) rfl) rfl) rfl) rfl rfl rfl) (pd_nil) rfl) rfl) rfl) rfl) rfl)) (pd_gNm hnd rfl (Or.inl rfl) (Or.inl rfl)) rfl rfl rfl) (pd_sCons (pd_sIf (pd_not (pd_val (pd_fnA c__law_like hr (by decide) rfl rfl (pd_cons (pd_var rfl (Or.inl rfl) rfl rfl) (pd_cons (pd_lst (m := false) (pd_cons (pd_int) (pd_cons (pd_int) (pd_cons (pd_int) (pd_cons (pd_int) (pd_cons (pd_int) (pd_nil) rfl) rfl) rfl) rfl) rfl)) (pd_nil) rfl) rfl) rfl rfl rfl) (fun _ => rfl))) (pd_sCons (pd_ret (pd_bl)) (pd_sNil)) (pd_sNil)) (pd_sCons (pd_asg (pd_lst (m := false) (pd_cons (pd_fnA c_colours_of hr (by decide) rfl rfl (pd_cons (pd_var rfl (Or.inl rfl) rfl rfl) (pd_cons (pd_int) (pd_cons (pd_tup (pd_cons (pd_int) (pd_nil) rfl)) (pd_nil) rfl) rfl) rfl) rfl rfl rfl) (pd_cons (pd_fnA c_is_colour hr (by decide) rfl rfl (pd_cons (pd_var rfl (Or.inl rfl) rfl rfl) (pd_cons (pd_int) (pd_cons (pd_tup (pd_cons (pd_int) (pd_nil) rfl)) (pd_cons (pd_tup (pd_cons (pd_int) (pd_cons (pd_int) (pd_nil) rfl) rfl)) (pd_nil) rfl) rfl) rfl) rfl) rfl rfl rfl) (pd_cons (pd_fnA c_is_colour hr (by decide) rfl rfl (pd_cons (pd_var rfl (Or.inl rfl) rfl rfl) (pd_cons (pd_int) (pd_cons (pd_tup (pd_cons (pd_int) (pd_nil) rfl)) (pd_cons (pd_tup (pd_cons (pd_int) (pd_cons (pd_int) (pd_nil) rfl) rfl)) (pd_nil) rfl) rfl) rfl) rfl) rfl rfl rfl) (pd_cons (pd_fnA c_is_colour hr (by decide) rfl rfl (pd_cons (pd_var rfl (Or.inl rfl) rfl rfl) (pd_cons (pd_int) (pd_cons (pd_tup (pd_cons (pd_int) (pd_nil) rfl)) (pd_cons (pd_tup (pd_cons (pd_int) (pd_nil) rfl)) (pd_nil) rfl) rfl) rfl) rfl) rfl rfl rfl) (pd_nil) rfl) rfl) rfl) rfl)) (pd_gNm hnd rfl (Or.inl rfl) (Or.inl rfl)) rfl rfl rfl) (pd_sCons (pd_ret (pd_fnA c__law_like hr (by decide) rfl rfl (pd_cons (pd_var rfl (Or.inl rfl) rfl rfl) (pd_cons (pd_lst (m := false) (pd_cons (pd_tup (pd_cons (pd_tup (pd_cons (pd_int) (pd_cons (pd_int) (pd_nil) rfl) rfl)) (pd_cons (pd_tup (pd_cons (pd_int) (pd_cons (pd_int) (pd_nil) rfl) rfl)) (pd_nil) rfl) rfl)) (pd_cons (pd_bl) (pd_cons (pd_bl) (pd_cons (pd_bl) (pd_nil) rfl) rfl) rfl) rfl)) (pd_nil) rfl) rfl) rfl rfl rfl)) (pd_sNil))))))))
theorem ok_law (F : Fx fa fn W hh) {fd : FuncData} (D : FunD W.K "law" "law" (defArgs (top 98)) (defBody (top 98)) (defScope (top 98)) [] [] (He.ga W.K "law") fd) : FnOk W.P W.w W.K W.mg W.base CX0 10 (He.ga W.K "law") fd ["script"] (spP W.gx 1 spLaw) := by
  have c__law_crossings_right := ok__law_crossings_right F
  have c__law_cup := ok__law_cup F
  have c__law_written_right := ok__law_written_right F
  have m_range := g_range F
  refine fnOk_of (k := 9) (N := N_law) D ⟨rfl, rfl, rfl, by decide +kernel, rfl, by decide +kernel, by decide +kernel⟩ (fun f cdv A outer s H E hr => ?_) (n := 1) (m := 2) rfl rfl vc_law
  have hu1 := room1 hr
  have hu64 := room64 hr
  have hu65 := room65 hr
  have hnd : (N_law).Nodup := by decide +kernel
  exact pd_sCons (pd_sIf (pd_not (pd_val (pd_fnA0 c__law_written_right hr (by decide) rfl rfl rfl) (fun _ => rfl))) (pd_sCons (pd_ret (pd_bl)) (pd_sNil)) (pd_sNil)) (pd_sCons (pd_asg (pd_fnA c__law_cup hr (by decide) rfl rfl (pd_cons (pd_var rfl (Or.inl rfl) rfl rfl) (pd_nil) rfl) rfl rfl rfl) (pd_gNm hnd rfl (Or.inl rfl) (Or.inl rfl)) rfl rfl rfl) (pd_sCons (pd_for PassesOwn.never rfl (pdi_rng1 rfl m_range (pd_cons (pd_int) (pd_nil) rfl) rfl) (pg_name hnd rfl (Or.inl rfl) (Or.inl rfl)) (pd_sCons (pd_sIf (pd_not (pd_val (pd_fnA c__law_crossings_right hr (by decide) rfl rfl (pd_cons (pd_var rfl (Or.inl rfl) rfl rfl) (pd_nil) rfl) rfl rfl rfl) (fun _ => rfl))) (pd_sCons (pd_ret (pd_bl)) (pd_sNil)) (pd_sNil)) (pd_sNil)) (fun _ => rfl)) (pd_sCons (pd_ret (pd_bl)) (pd_sNil))))
end
abbrev R : PySem.W.OpenRow := PySem.W.OpenLaw.row PySem.Challenge.rw_swapsagree_k93_whole_crossings_by_places
abbrev hk : PySem.W.Hook := He.hookD 2 fa fn
def ob (s : PySem.W.SharedT) : He.AlD := He.obsDG 2 fa fn (HandSHeadRun.getT s)
theorem ob_eq (s : PySem.W.SharedT) : ob s = hk.obs s.abs := He.obsDG_eq (HandSHeadRun.getT_eq s)
theorem run (w : World) : HandSHeadRun.RunEq R (PySem.W.view R.prog [98]) hk ob 20000 loose w := by
  intro os
  kernel_rfl
theorem lawFacts {P : Program} {w : World} {K : PySem.W.Frag} {h : Heap} {mg : Str → Option Value} {f : Addr} (X : K.In h) (G : h.Ns mainGlobals mg) (hfa : mg ("law" : Str) = some (.ref f)) (c : He.SaysD fa fn K) :
    ∃ fd : FuncData, (∀ (s : Shared) (v : Value), BindsTo s fd ⟨[v], []⟩ [("script", v)]) ∧ ∀ base : Heap, K.In base → base.Ns mainGlobals mg → FnOk P w K mg base CX0 10 f fd ["script"] (spP ⟨K, P, w⟩ 1 spLaw) := by
  obtain ⟨fd, D⟩ := c.def_ 70 (d := dOf "law" "law" 98) rfl
  have e := hfa.symm.trans (He.glo_ok X G (c.fact 70 (f := .glo "law") rfl))
  cases e
  have b := FunD.bindsA (ps := ["script"]) D fun _ _ _ _ _ _ us hl => match us, hl with | [_], _ => rfl
  exact ⟨fd, fun s v => b s [v] rfl, fun base _ _ => ok_law (W := ⟨P, w, K, mg, base⟩) ⟨X, G, c⟩ D⟩
end Lw
open PySem PySem.W PySem.Calls PyProof.Rows
theorem PySem.Challenge.cw_swapsagree_k93_whole_crossings_by_places_holds : PySem.Challenge.rw_swapsagree_k93_whole_crossings_by_places.Holds := by
  w_on; o_law
  refine HandSHeadRun.head_any (r := OpenLaw.row PySem.Challenge.rw_swapsagree_k93_whole_crossings_by_places) (q := view (OpenLaw.row PySem.Challenge.rw_swapsagree_k93_whole_crossings_by_places).prog [98]) (H := Lw.hk) (ob := Lw.ob) (M := 20000) (loose := Lw.loose) (d := HandSHeadRun.topDef (OpenLaw.row PySem.Challenge.rw_swapsagree_k93_whole_crossings_by_places).prog 98) (kwd := []) Lw.ob_eq
    (by kernel_rfl) (fun s => by kernel_rfl) Lw.run (by kernel_rfl) (by kernel_rfl) (by kernel_rfl) (by rfl) (by first | assumption | decide +kernel) (by decide +kernel) ⟨rfl, rfl, rfl, rfl, rfl, by decide +kernel⟩ ?hw ?hc
  case hw => w_witness2
  case hc =>
    refine L2.walk_ofE (l := PySem.Challenge.rw_swapsagree_k93_whole_crossings_by_places) (n := 63) (k := 10) (x := "script") (CX := L2.CX0) rfl (by decide) (by kernel_rfl) ⟨rfl, by decide, by decide⟩ ?F (fun _ _ _ _ z => z)
    intro w mg fa h Y G hmg0
    obtain ⟨K, KX, c⟩ := Y
    have hmg : mg ("law" : PySem.Str) = some (.ref fa) := by
      have e : (HandSHeadRun.topDef (OpenLaw.row PySem.Challenge.rw_swapsagree_k93_whole_crossings_by_places).prog 98).name = ("law" : PySem.Str) := by kernel_rfl
      rw [← e]
      exact hmg0
    obtain ⟨fd, hb, hF⟩ := Lw.lawFacts (P := (PySem.Challenge.rw_swapsagree_k93_whole_crossings_by_places).prog) (w := w) KX G hmg c
    exact ⟨K, fd, _, KX, hb, fun H a ns hl ho hS => Pd.law_sp (W := ⟨(PySem.Challenge.rw_swapsagree_k93_whole_crossings_by_places).prog, w, K, mg, h⟩) hl ho hS, hF⟩
