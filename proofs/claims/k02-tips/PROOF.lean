import PyProof.Rows.All
import Wide.All
import OpenK.AllK
import Wide.FinOn
import HandS.ForMost
import HandS.ForExc
import HandS.Wide
import HandS.CallSlots
import HandS.Flow
import HandS.Deep
import HandS.IsInst
import HandS.More
import HandS.Style
import HandS.SetKeys
import HandS.Defaults
import HandS.Head0
import HandS.Head1
import HandS.Head2
import HandS.HeadEnd
import HandS.HeadHook1
import HandS.HeadHook2
import HandS.SetFor
import PyProof.SeqRoads2
import HandS.ExcIs
import HandS.Conv
import HandS.SortInts
import PySem.Challenge.RW_netloft_k02_tips
set_option Elab.async false
set_option maxRecDepth 100000
set_option linter.all false
/-! S1: the abstract world: data D, stores of cells, how they lie in the heap; readings tOf -/
namespace Sm
open PySem PySem.Spec PyProof.Rows L2

inductive D where
  | non | bl (b : Bool) | int (i : Int) | str (x : Str)
  | tup (ds : List D) | lst (ds : List D)
  | obj (c : Nat) (ns : List Str) (ds : List D)
  | cell (n : Nat) | scr (ns : List Int) | exc (c : Nat)

inductive MO where
  | dead | lst (ds : List D) | dk (kvs : List (Key × D)) | dt (kvs : List (List Key × D)) | ins (c : Nat) (ns : List Str) (ds : List D)
  | fk (kvs : List (Key × D)) | ft (kvs : List (List Key × D))

abbrev Store := List MO
/-- where the cells of a store lie; objects that are being made, hidden from all data -/
structure Cells where
  c : List (Option Addr)
  h : List Addr
def CLive (M : Cells) (a : Addr) : Prop := ∃ i : Nat, M.c[i]? = some (some a)
def Live (M : Cells) (a : Addr) : Prop := CLive M a ∨ a ∈ M.h
def Cells.push (M : Cells) (p : Addr) : Cells := ⟨M.c ++ [some p], M.h⟩
def Cells.kill (M : Cells) (n : Nat) : Cells := ⟨M.c.set n none, M.h⟩
def Cells.cut (M : Cells) (n : Nat) : Cells := ⟨M.c.take n, M.h⟩
def Cells.hide (M : Cells) (p : Addr) : Cells := ⟨M.c, p :: M.h⟩
def Cells.as (M : Cells) (l : List Addr) : Cells := ⟨M.c, l⟩

inductive R (A : Type) where
  | ok (a : A) (S : Store) | ex (c : Nat) (S : Store) | err
def R.bind {A B : Type} : R A → (A → Store → R B) → R B
  | .ok a S, f => f a S
  | .ex c S, _ => .ex c S
  | .err, _ => .err
@[simp] theorem bind_ok {A B : Type} (a : A) (S : Store) (f : A → Store → R B) : (R.ok a S).bind f = f a S := rfl
@[simp] theorem bind_ex {A B : Type} (c : Nat) (S : Store) (f : A → Store → R B) : (R.ex c S).bind f = .ex c S := rfl
@[simp] theorem bind_err {A B : Type} (f : A → Store → R B) : (R.err).bind f = .err := rfl

abbrev Env := List (Option D)
abbrev ME := Env → Store → R D
inductive Fl where
  | nx (r : Env) | rt (d : D) | bk (r : Env) | ct (r : Env)
abbrev MS := Env → Store → R Fl

def SqK (K : PySem.W.Frag) (a : Addr) (xs : List V) : Prop :=
  ∃ (o : Obj) (its : Array Value) (n : Nat), K.lookup a = some o ∧ o.cls = .type "list" ∧ o.dict = none ∧ o.data = .seq its n ∧ its.size ≤ sizeLine ∧ Vals xs its.toList
/-! ### how data lie in the abstract heap -/
section
variable (K : PySem.W.Frag) (ca : Nat → Addr) (H : Hp) (M : Cells)
mutual
def Rep : D → V → Prop
  | .non, v => v = .non
  | .bl b, v => v = .bl b
  | .int i, v => v = .int i
  | .str x, v => v = .str x
  | .tup ds, v => ∃ a xs, v = .ref a ∧ H a = some (.tup xs) ∧ ¬ Live M a ∧ RepL ds xs
  | .lst ds, v => ∃ a xs, v = .ref a ∧ H a = some (.lst xs) ∧ ¬ Live M a ∧ xs.length ≤ sizeLine ∧ RepL ds xs
  | .obj c ns ds, v => ∃ a dx fs, v = .ref a ∧ H a = some (.ins (ca c) dx fs) ∧ ¬ Live M a ∧ fs.map (·.1) = ns ∧ RepL ds (fs.map (·.2))
  | .cell n, v => ∃ x, M.c[n]? = some x ∧ ∀ a, x = some a → v = .ref a
  | .scr ns, v => ∃ a, v = .ref a ∧ ((Rd H a (.lst (ns.map V.int)) ∧ ¬ Live M a) ∨ SqK K a (ns.map V.int)) ∧ ns.length ≤ sizeLine
  | .exc _, v => ∃ a, v = .ref a
def RepL : List D → List V → Prop
  | [], [] => True
  | d :: ds, v :: vs => Rep d v ∧ RepL ds vs
  | [], _ :: _ => False
  | _ :: _, [] => False
end
def CellOk (x : Option Addr) : MO → Prop
  | .dead => x = none
  | .lst ds => ∃ a xs, x = some a ∧ H a = some (.lst xs) ∧ xs.length ≤ sizeLine ∧ RepL K ca H M ds xs
  | .dk kvs => ∃ a ys, x = some a ∧ H a = some (.dK ys) ∧ ys.map (·.1) = kvs.map (·.1) ∧ RepL K ca H M (kvs.map (·.2)) (ys.map (·.2))
  | .dt kvs => ∃ a ys, x = some a ∧ H a = some (.dT ys) ∧ ys.map (·.1) = kvs.map (·.1) ∧ RepL K ca H M (kvs.map (·.2)) (ys.map (·.2))
  | .ins c ns ds => ∃ a dx fs, x = some a ∧ H a = some (.ins (ca c) dx fs) ∧ fs.map (·.1) = ns ∧ RepL K ca H M ds (fs.map (·.2))
  | .fk kvs => ∃ a ys od, x = some a ∧ H a = some (.frz od (.dK ys)) ∧ ys.map (·.1) = kvs.map (·.1) ∧ RepL K ca H M (kvs.map (·.2)) (ys.map (·.2))
  | .ft kvs => ∃ a ys od, x = some a ∧ H a = some (.frz od (.dT ys)) ∧ ys.map (·.1) = kvs.map (·.1) ∧ RepL K ca H M (kvs.map (·.2)) (ys.map (·.2))
end

structure RelS (K : PySem.W.Frag) (ca : Nat → Addr) (H : Hp) (M : Cells) (S : Store) : Prop where
  len : M.c.length = S.length
  inj : ∀ (i j : Nat) (a : Addr), M.c[i]? = some (some a) → M.c[j]? = some (some a) → i = j
  cells : ∀ (i : Nat) (mo : MO), S[i]? = some mo → ∃ x, M.c[i]? = some x ∧ CellOk K ca H M x mo
  hid : ∀ a, a ∈ M.h → H a ≠ none ∧ ¬ CLive M a
  hidt : ∀ a, a ∈ M.h → ∀ xs, H a ≠ some (.tup xs)

/-- what may have happened: new cells, dead cells, changed cells, new objects -/
structure Ext (H : Hp) (M : Cells) (H' : Hp) (M' : Cells) : Prop where
  len : M.c.length ≤ M'.c.length
  old : ∀ l : Nat, l < M.c.length → M'.c[l]? = M.c[l]? ∨ M'.c[l]? = some none
  new : ∀ (l : Nat) (a : Addr), M.c.length ≤ l → M'.c[l]? = some (some a) → H a = none
  fr : ∀ b o, H b = some o → ¬ CLive M b → H' b = some o
  on : ∀ b, H b ≠ none → H' b ≠ none
  hid : M'.h = M.h
  fz : ∀ b od u, H b = some (.frz od u) → H' b = some (.frz od u)

theorem Ext.refl (H : Hp) (M : Cells) : Ext H M H M := by
  refine ⟨Nat.le_refl _, fun _ _ => .inl rfl, fun l a h e => ?_, fun _ _ h _ => h, fun _ h => h, rfl, fun _ _ _ h => h⟩
  rw [List.getElem?_eq_none h] at e; cases e

section
variable {K : PySem.W.Frag} {ca : Nat → Addr} {H H' H2 : Hp} {M M' M2 : Cells}
theorem Ext.cdies (e : Ext H M H' M') {a : Addr} (h : CLive M' a) (ha : H a ≠ none) : CLive M a := by
  obtain ⟨l, hl⟩ := h
  by_cases q : l < M.c.length
  · rcases e.old l q with z | z
    · exact ⟨l, by rw [← z]; exact hl⟩
    · rw [z] at hl; cases hl
  · exact absurd (e.new l a (by omega) hl) ha
theorem Ext.dies (e : Ext H M H' M') {a : Addr} (h : Live M' a) (ha : H a ≠ none) : Live M a := by
  rcases h with h | h
  · exact .inl (e.cdies h ha)
  · rw [e.hid] at h; exact .inr h
theorem Ext.trans (e : Ext H M H' M') (f : Ext H' M' H2 M2) : Ext H M H2 M2 := by
  refine ⟨Nat.le_trans e.len f.len, fun l h => ?_, fun l a h q => ?_, fun b o h nl => ?_, fun b h => f.on b (e.on b h), f.hid.trans e.hid, fun b od u h => f.fz b od u (e.fz b od u h)⟩
  · rcases f.old l (Nat.lt_of_lt_of_le h e.len) with z | z
    · rw [z]; exact e.old l h
    · exact .inr z
  · by_cases hl : l < M'.c.length
    · rcases f.old l hl with z | z
      · exact e.new l a h (by rw [← z]; exact q)
      · rw [z] at q; cases q
    · have h1 := f.new l a (by omega) q
      cases h2 : H a with
      | none => rfl
      | some o => exact absurd h1 (e.on a (by rw [h2]; exact fun z => nomatch z))
  · refine f.fr b o (e.fr b o h nl) fun q => nl (e.cdies q (by rw [h]; exact fun z => nomatch z))
theorem live_none (e : Ext H M H' M') {a : Addr} {o : HO} (h : H a = some o) (n : ¬ Live M a) : ¬ Live M' a := fun q => n (e.dies q (by rw [h]; exact fun z => nomatch z))
theorem Ext.fr' (e : Ext H M H' M') {b : Addr} {o : HO} (h : H b = some o) (n : ¬ Live M b) : H' b = some o := e.fr b o h fun q => n (.inl q)
mutual
theorem Rep.ext (e : Ext H M H' M') : ∀ (d : D) (v : V), Rep K ca H M d v → Rep K ca H' M' d v
  | .non, _, h => h
  | .bl _, _, h => h
  | .int _, _, h => h
  | .str _, _, h => h
  | .tup ds, v, h => by
    obtain ⟨a, xs, r, h1, n, q⟩ := h
    exact ⟨a, xs, r, e.fr' h1 n, live_none e h1 n, RepL.ext e ds xs q⟩
  | .lst ds, v, h => by
    obtain ⟨a, xs, r, h1, n, z, q⟩ := h
    exact ⟨a, xs, r, e.fr' h1 n, live_none e h1 n, z, RepL.ext e ds xs q⟩
  | .obj c ns ds, v, h => by
    obtain ⟨a, dx, fs, r, h1, n, z, q⟩ := h
    exact ⟨a, dx, fs, r, e.fr' h1 n, live_none e h1 n, z, RepL.ext e ds _ q⟩
  | .cell n, v, h => by
    obtain ⟨x, hx, q⟩ := h
    have hl : n < M.c.length := (List.getElem?_eq_some_iff.mp hx).1
    rcases e.old n hl with z | z
    · exact ⟨x, z.trans hx, q⟩
    · exact ⟨none, z, fun a y => nomatch y⟩
  | .scr ns, v, h => by
    obtain ⟨a, r, q, z⟩ := h
    refine ⟨a, r, ?_, z⟩
    rcases q with ⟨q, n⟩ | q
    · rcases q with q | ⟨o, q⟩
      · exact .inl ⟨.inl (e.fr' q n), live_none e q n⟩
      · exact .inl ⟨.inr ⟨o, e.fr' q n⟩, live_none e q n⟩
    · exact .inr q
  | .exc _, _, h => h
theorem RepL.ext (e : Ext H M H' M') : ∀ (ds : List D) (vs : List V), RepL K ca H M ds vs → RepL K ca H' M' ds vs
  | [], [], h => h
  | d :: ds, v :: vs, h => ⟨Rep.ext e d v h.1, RepL.ext e ds vs h.2⟩
  | [], _ :: _, h => h.elim
  | _ :: _, [], h => h.elim
end
theorem RepL.length : ∀ {ds : List D} {vs : List V}, RepL K ca H M ds vs → ds.length = vs.length
  | [], [], _ => rfl
  | _ :: _, _ :: _, h => congrArg Nat.succ (RepL.length h.2)
  | [], _ :: _, h => h.elim
  | _ :: _, [], h => h.elim
theorem RepL.get : ∀ {ds : List D} {vs : List V} {i : Nat} {d : D}, RepL K ca H M ds vs → ds[i]? = some d → ∃ v, vs[i]? = some v ∧ Rep K ca H M d v
  | [], [], i, d, _, e => by simp at e
  | d :: ds, v :: vs, 0, x, h, e => by simp at e; subst e; exact ⟨v, rfl, h.1⟩
  | d :: ds, v :: vs, i + 1, x, h, e => by
    obtain ⟨w, hw, q⟩ := RepL.get (i := i) (d := x) h.2 (by simpa using e)
    exact ⟨w, by simpa using hw, q⟩
  | [], _ :: _, _, _, h, _ => h.elim
  | _ :: _, [], _, _, h, _ => h.elim
theorem RepL.getV {ds : List D} {vs : List V} {i : Nat} {v : V} (h : RepL K ca H M ds vs) (e : vs[i]? = some v) : ∃ d, ds[i]? = some d ∧ Rep K ca H M d v := by
  have hl := h.length
  have hi : i < vs.length := (List.getElem?_eq_some_iff.mp e).1
  obtain ⟨w, hw, q⟩ := h.get (i := i) (d := ds[i]'(by omega)) (List.getElem?_eq_getElem (by omega))
  rw [e] at hw; cases hw
  exact ⟨_, List.getElem?_eq_getElem (by omega), q⟩
theorem RepL.app : ∀ {ds es : List D} {vs us : List V}, RepL K ca H M ds vs → RepL K ca H M es us → RepL K ca H M (ds ++ es) (vs ++ us)
  | [], _, [], _, _, q => q
  | _ :: _, _, _ :: _, _, h, q => ⟨h.1, RepL.app h.2 q⟩
  | [], _, _ :: _, _, h, _ => h.elim
  | _ :: _, _, [], _, h, _ => h.elim
theorem RepL.take : ∀ (n : Nat) {ds : List D} {vs : List V}, RepL K ca H M ds vs → RepL K ca H M (ds.take n) (vs.take n)
  | 0, _, _, _ => by simp only [List.take_zero]; exact trivial
  | n + 1, [], [], h => h
  | n + 1, _ :: _, _ :: _, h => ⟨h.1, RepL.take n h.2⟩
  | _ + 1, [], _ :: _, h => h.elim
  | _ + 1, _ :: _, [], h => h.elim
theorem RepL.drop : ∀ (n : Nat) {ds : List D} {vs : List V}, RepL K ca H M ds vs → RepL K ca H M (ds.drop n) (vs.drop n)
  | 0, _, _, h => h
  | n + 1, [], [], h => h
  | n + 1, _ :: _, _ :: _, h => RepL.drop n h.2
  | _ + 1, [], _ :: _, h => h.elim
  | _ + 1, _ :: _, [], h => h.elim
theorem RepL.set : ∀ {ds : List D} {vs : List V} (i : Nat) {d : D} {v : V}, RepL K ca H M ds vs → Rep K ca H M d v → RepL K ca H M (ds.set i d) (vs.set i v)
  | [], [], _, _, _, h, _ => h
  | _ :: _, _ :: _, 0, _, _, h, q => ⟨q, h.2⟩
  | _ :: _, _ :: _, i + 1, _, _, h, q => ⟨h.1, RepL.set i h.2 q⟩
  | [], _ :: _, _, _, _, h, _ => h.elim
  | _ :: _, [], _, _, _, h, _ => h.elim
theorem RepL.one {d : D} {v : V} (h : Rep K ca H M d v) : RepL K ca H M [d] [v] := ⟨h, trivial⟩
theorem RepL.inv1 {d : D} {vs : List V} (h : RepL K ca H M [d] vs) : ∃ v, vs = [v] ∧ Rep K ca H M d v := by
  match vs, h with
  | [v], h => exact ⟨v, rfl, h.1⟩
theorem RepL.inv2 {d e : D} {vs : List V} (h : RepL K ca H M [d, e] vs) : ∃ v u, vs = [v, u] ∧ Rep K ca H M d v ∧ Rep K ca H M e u := by
  match vs, h with
  | [v, u], h => exact ⟨v, u, rfl, h.1, h.2.1⟩
theorem CellOk.ext (e : Ext H M H' M') {x : Option Addr} {mo : MO} (h : CellOk K ca H M x mo) (k : ∀ a, x = some a → H' a = H a) : CellOk K ca H' M' x mo := by
  cases mo with
  | dead => exact h
  | lst ds => obtain ⟨a, xs, r, h1, z, q⟩ := h; exact ⟨a, xs, r, (k a r).trans h1, z, RepL.ext e _ _ q⟩
  | dk kvs => obtain ⟨a, ys, r, h1, z, q⟩ := h; exact ⟨a, ys, r, (k a r).trans h1, z, RepL.ext e _ _ q⟩
  | dt kvs => obtain ⟨a, ys, r, h1, z, q⟩ := h; exact ⟨a, ys, r, (k a r).trans h1, z, RepL.ext e _ _ q⟩
  | ins c ns ds => obtain ⟨a, dx, fs, r, h1, z, q⟩ := h; exact ⟨a, dx, fs, r, (k a r).trans h1, z, RepL.ext e _ _ q⟩
  | fk kvs => obtain ⟨a, ys, od, r, h1, z, q⟩ := h; exact ⟨a, ys, od, r, (k a r).trans h1, z, RepL.ext e _ _ q⟩
  | ft kvs => obtain ⟨a, ys, od, r, h1, z, q⟩ := h; exact ⟨a, ys, od, r, (k a r).trans h1, z, RepL.ext e _ _ q⟩
theorem CellOk.there {x : Option Addr} {mo : MO} {a : Addr} (h : CellOk K ca H M x mo) (e : x = some a) : H a ≠ none := by
  subst e
  cases mo with
  | dead => cases h
  | lst ds => obtain ⟨b, xs, r, h1, _⟩ := h; cases r; rw [h1]; exact fun z => nomatch z
  | dk ds => obtain ⟨b, xs, r, h1, _⟩ := h; cases r; rw [h1]; exact fun z => nomatch z
  | dt ds => obtain ⟨b, xs, r, h1, _⟩ := h; cases r; rw [h1]; exact fun z => nomatch z
  | ins c ns ds => obtain ⟨b, dx, fs, r, h1, _⟩ := h; cases r; rw [h1]; exact fun z => nomatch z
  | fk ds => obtain ⟨b, xs, od, r, h1, _⟩ := h; cases r; rw [h1]; exact fun z => nomatch z
  | ft ds => obtain ⟨b, xs, od, r, h1, _⟩ := h; cases r; rw [h1]; exact fun z => nomatch z
variable {S S' : Store}
theorem RelS.cthere (r : RelS K ca H M S) {a : Addr} (h : CLive M a) : H a ≠ none := by
  obtain ⟨l, hl⟩ := h
  have hi : l < S.length := by rw [← r.len]; exact (List.getElem?_eq_some_iff.mp hl).1
  obtain ⟨x, hx, c⟩ := r.cells l _ (List.getElem?_eq_getElem hi)
  rw [hl] at hx; cases hx
  exact c.there rfl
theorem RelS.there (r : RelS K ca H M S) {a : Addr} (h : Live M a) : H a ≠ none := by
  rcases h with h | h
  · exact r.cthere h
  · exact (r.hid a h).1
theorem RelS.fresh (r : RelS K ca H M S) {p : Addr} (hp : H p = none) : ¬ Live M p := fun q => r.there q hp
theorem upd_on {p : Addr} {o : HO} {b : Addr} (h : H b ≠ none) : upd H p o b ≠ none := by
  by_cases q : b = p
  · subst q; rw [upd_same]; exact fun z => nomatch z
  · rw [upd_ne q]; exact h
/-- a new object that is no cell -/
theorem ext_new {p : Addr} (hp : H p = none) (o : HO) : Ext H M (upd H p o) M := by
  refine ⟨Nat.le_refl _, fun _ _ => .inl rfl, fun l a h e => ?_, fun b u h _ => ?_, fun b h => upd_on h, rfl, fun b od u h => by rw [upd_ne (ne_of_none h hp)]; exact h⟩
  · rw [List.getElem?_eq_none h] at e; cases e
  · rw [upd_ne (ne_of_none h hp)]; exact h
theorem RelS.new (r : RelS K ca H M S) {p : Addr} (hp : H p = none) (o : HO) : RelS K ca (upd H p o) M S := by
  refine ⟨r.len, r.inj, fun i mo h => ?_, fun a h => ⟨upd_on (r.hid a h).1, (r.hid a h).2⟩, fun a h xs => by rw [upd_ne (fun e => (r.hid a h).1 (by rw [e]; exact hp))]; exact r.hidt a h xs⟩
  obtain ⟨x, hx, c⟩ := r.cells i mo h
  refine ⟨x, hx, c.ext (ext_new hp o) fun a e => ?_⟩
  subst e
  exact upd_ne fun q => c.there rfl (by rw [q]; exact hp)
/-- a new cell -/
theorem ext_cell {p : Addr} (hp : H p = none) (o : HO) : Ext H M (upd H p o) (M.push p) := by
  have e := ext_new (M := M) hp o
  refine ⟨by simp [Cells.push], fun l h => .inl (List.getElem?_append_left h), fun l a h q => ?_, e.fr, e.on, rfl, e.fz⟩
  have q : (M.c ++ [some p])[l]? = some (some a) := q
  rw [List.getElem?_append_right h] at q
  cases k : l - M.c.length with
  | zero => rw [k] at q; simp at q; rw [← q]; exact hp
  | succ n => rw [k] at q; simp at q
theorem RelS.cell (r : RelS K ca H M S) {p : Addr} (hp : H p = none) (o : HO) {mo : MO} (c : CellOk K ca (upd H p o) (M.push p) (some p) mo) : RelS K ca (upd H p o) (M.push p) (S ++ [mo]) := by
  have nl := r.fresh hp
  refine ⟨by simp [Cells.push, r.len], fun i j a h1 h2 => ?_, fun i mo' h => ?_, fun a h => ⟨upd_on (r.hid a h).1, ?_⟩, fun a h xs => by rw [upd_ne (fun e => (r.hid a h).1 (by rw [e]; exact hp))]; exact r.hidt a h xs⟩
  · have h1 : (M.c ++ [some p])[i]? = some (some a) := h1
    have h2 : (M.c ++ [some p])[j]? = some (some a) := h2
    by_cases hi : i < M.c.length
    · rw [List.getElem?_append_left hi] at h1
      by_cases hj : j < M.c.length
      · rw [List.getElem?_append_left hj] at h2; exact r.inj i j a h1 h2
      · rw [List.getElem?_append_right (by omega)] at h2
        cases k : j - M.c.length with
        | zero => rw [k] at h2; simp at h2; subst h2; exact absurd (.inl ⟨i, h1⟩) nl
        | succ n => rw [k] at h2; simp at h2
    · rw [List.getElem?_append_right (by omega)] at h1
      cases k : i - M.c.length with
      | succ n => rw [k] at h1; simp at h1
      | zero =>
        rw [k] at h1; simp at h1; subst h1
        by_cases hj : j < M.c.length
        · rw [List.getElem?_append_left hj] at h2; exact absurd (.inl ⟨j, h2⟩) nl
        · rw [List.getElem?_append_right (by omega)] at h2
          cases k2 : j - M.c.length with
          | zero => omega
          | succ n => rw [k2] at h2; simp at h2
  · show ∃ x, (M.c ++ [some p])[i]? = some x ∧ _
    by_cases hi : i < S.length
    · rw [List.getElem?_append_left hi] at h
      obtain ⟨x, hx, q⟩ := r.cells i mo' h
      refine ⟨x, by rw [List.getElem?_append_left (by rw [r.len]; exact hi)]; exact hx, q.ext (ext_cell hp o) fun a e => ?_⟩
      subst e
      exact upd_ne fun z => q.there rfl (by rw [z]; exact hp)
    · rw [List.getElem?_append_right (by omega)] at h
      cases k : i - S.length with
      | succ n => rw [k] at h; simp at h
      | zero =>
        rw [k] at h; simp at h; subst h
        exact ⟨some p, by rw [List.getElem?_append_right (by rw [r.len]; omega), r.len, k]; rfl, c⟩
  · rintro ⟨i, q⟩
    have q : (M.c ++ [some p])[i]? = some (some a) := q
    by_cases hi : i < M.c.length
    · rw [List.getElem?_append_left hi] at q
      exact (r.hid a h).2 ⟨i, q⟩
    · rw [List.getElem?_append_right (by omega)] at q
      cases k : i - M.c.length with
      | succ n => rw [k] at q; simp at q
      | zero => rw [k] at q; simp at q; subst q; exact (r.hid _ h).1 hp
/-- a cell is written -/
def WLive (H : Hp) (M : Cells) (a : Addr) : Prop := CLive M a ∧ ∀ od u, H a ≠ some (.frz od u)
theorem ext_write {a : Addr} (l : WLive H M a) (o : HO) : Ext H M (upd H a o) M := by
  have ha := l.1
  refine ⟨Nat.le_refl _, fun _ _ => .inl rfl, fun l b h e => ?_, fun b u h n => ?_, fun b h => upd_on h, rfl, fun b od u h => by rw [upd_ne (fun q => l.2 od u (by rw [← q]; exact h))]; exact h⟩
  · rw [List.getElem?_eq_none h] at e; cases e
  · rw [upd_ne (fun q => n (by rw [q]; exact ha))]; exact h
theorem RelS.write (r : RelS K ca H M S) {n : Nat} {a : Addr} (ha : M.c[n]? = some (some a)) (hz : ∀ od u, H a ≠ some (.frz od u)) (o : HO) {mo : MO} (c : CellOk K ca (upd H a o) M (some a) mo) : RelS K ca (upd H a o) M (S.set n mo) := by
  refine ⟨by simp [r.len], r.inj, fun i mo' h => ?_, fun a h => ⟨upd_on (r.hid a h).1, (r.hid a h).2⟩, fun b h xs => by rw [upd_ne (fun e => (r.hid b h).2 (by rw [e]; exact ⟨n, ha⟩))]; exact r.hidt b h xs⟩
  by_cases hi : i = n
  · subst hi
    rw [List.getElem?_set] at h
    simp at h
    obtain ⟨_, h⟩ := h
    subst h
    exact ⟨_, ha, c⟩
  · rw [List.getElem?_set_ne (fun z => hi z.symm)] at h
    obtain ⟨x, hx, q⟩ := r.cells i mo' h
    refine ⟨x, hx, q.ext (ext_write ⟨⟨n, ha⟩, hz⟩ o) fun b e => ?_⟩
    subst e
    exact upd_ne fun z => hi (r.inj i n a (by rw [← z]; exact hx) ha)
/-- a cell of the store and its object -/
theorem RelS.lst (r : RelS K ca H M S) {n : Nat} {ds : List D} (h : S[n]? = some (.lst ds)) : ∃ a xs, M.c[n]? = some (some a) ∧ H a = some (.lst xs) ∧ xs.length ≤ sizeLine ∧ RepL K ca H M ds xs := by
  obtain ⟨x, hx, a, xs, e, q⟩ := r.cells n _ h
  subst e
  exact ⟨a, xs, hx, q⟩
/-- a cell dies: its list is data from now on -/
theorem ext_die {n : Nat} : Ext H M H (M.kill n) := by
  refine ⟨by simp [Cells.kill], fun l h => ?_, fun l a h e => ?_, fun _ _ h _ => h, fun _ h => h, rfl, fun _ _ _ h => h⟩
  · show (M.c.set n none)[l]? = _ ∨ (M.c.set n none)[l]? = _
    by_cases q : l = n
    · subst q; right; rw [List.getElem?_set]; simp [h]
    · left; rw [List.getElem?_set_ne (fun z => q z.symm)]
  · rw [List.getElem?_eq_none (by simpa [Cells.kill] using h)] at e; cases e
theorem kill_get {n k : Nat} {a : Addr} (q : (M.kill n).c[k]? = some (some a)) : M.c[k]? = some (some a) := by
  have q : (M.c.set n none)[k]? = some (some a) := q
  by_cases z : k = n
  · subst z; rw [List.getElem?_set] at q; simp at q
  · rw [List.getElem?_set_ne (fun y => z y.symm)] at q; exact q
theorem RelS.die (r : RelS K ca H M S) {n : Nat} : RelS K ca H (M.kill n) (S.set n .dead) := by
  refine ⟨by simp [Cells.kill, r.len], fun i j a h1 h2 => r.inj i j a (kill_get h1) (kill_get h2), fun i mo h => ?_, fun a h => ⟨(r.hid a h).1, fun ⟨i, q⟩ => (r.hid a h).2 ⟨i, kill_get q⟩⟩, r.hidt⟩
  show ∃ x, (M.c.set n none)[i]? = some x ∧ _
  by_cases z : i = n
  · subst z
    rw [List.getElem?_set] at h
    simp at h
    obtain ⟨hl, h⟩ := h
    subst h
    exact ⟨none, by rw [List.getElem?_set]; simp [r.len, hl], rfl⟩
  · rw [List.getElem?_set_ne (fun y => z y.symm)] at h
    obtain ⟨x, hx, c⟩ := r.cells i mo h
    exact ⟨x, by rw [List.getElem?_set_ne (fun y => z y.symm)]; exact hx, c.ext ext_die fun _ _ => rfl⟩
theorem notLive_die (r : RelS K ca H M S) {n : Nat} {a : Addr} (h : M.c[n]? = some (some a)) : ¬ Live (M.kill n) a := by
  rintro (⟨i, q⟩ | q)
  · have q : (M.c.set n none)[i]? = some (some a) := q
    by_cases z : i = n
    · subst z; rw [List.getElem?_set] at q; simp at q
    · rw [List.getElem?_set_ne (fun y => z y.symm)] at q
      exact z (r.inj i n a q h)
  · exact (r.hid a q).2 ⟨n, h⟩
/-! ### an object that is being made is hidden -/
theorem live_hide {p a : Addr} (n : ¬ Live M a) (h : a ≠ p) : ¬ Live (M.hide p) a := by
  rintro (q | q)
  · exact n (.inl q)
  · rcases List.mem_cons.mp q with z | z
    · exact h z
    · exact n (.inr z)
theorem live_as {l : List Addr} {a : Addr} (hl : ∀ b, b ∈ l → b ∈ M.h) (n : ¬ Live M a) : ¬ Live (M.as l) a := by
  rintro (q | q)
  · exact n (.inl q)
  · exact n (.inr (hl _ q))
mutual
theorem Rep.hide {p : Addr} (hp : H p = none) (o : HO) : ∀ (d : D) (v : V), Rep K ca H M d v → Rep K ca (upd H p o) (M.hide p) d v
  | .non, _, h => h
  | .bl _, _, h => h
  | .int _, _, h => h
  | .str _, _, h => h
  | .tup ds, v, h => by
    obtain ⟨a, xs, r, h1, n, q⟩ := h
    have ne := ne_of_none h1 hp
    exact ⟨a, xs, r, by rw [upd_ne ne]; exact h1, live_hide n ne, RepL.hide hp o ds xs q⟩
  | .lst ds, v, h => by
    obtain ⟨a, xs, r, h1, n, z, q⟩ := h
    have ne := ne_of_none h1 hp
    exact ⟨a, xs, r, by rw [upd_ne ne]; exact h1, live_hide n ne, z, RepL.hide hp o ds xs q⟩
  | .obj c ns ds, v, h => by
    obtain ⟨a, dx, fs, r, h1, n, z, q⟩ := h
    have ne := ne_of_none h1 hp
    exact ⟨a, dx, fs, r, by rw [upd_ne ne]; exact h1, live_hide n ne, z, RepL.hide hp o ds _ q⟩
  | .cell n, v, h => h
  | .scr ns, v, h => by
    obtain ⟨a, r, q, z⟩ := h
    refine ⟨a, r, ?_, z⟩
    rcases q with ⟨q, n⟩ | q
    · rcases q with q | ⟨o', q⟩
      · have ne := ne_of_none q hp
        exact .inl ⟨.inl (by rw [upd_ne ne]; exact q), live_hide n ne⟩
      · have ne := ne_of_none q hp
        exact .inl ⟨.inr ⟨o', by rw [upd_ne ne]; exact q⟩, live_hide n ne⟩
    · exact .inr q
  | .exc _, _, h => h
theorem RepL.hide {p : Addr} (hp : H p = none) (o : HO) : ∀ (ds : List D) (vs : List V), RepL K ca H M ds vs → RepL K ca (upd H p o) (M.hide p) ds vs
  | [], [], h => h
  | d :: ds, v :: vs, h => ⟨Rep.hide hp o d v h.1, RepL.hide hp o ds vs h.2⟩
  | [], _ :: _, h => h.elim
  | _ :: _, [], h => h.elim
end
mutual
theorem Rep.rehide {p : Addr} (hp : p ∈ M.h) (o : HO) : ∀ (d : D) (v : V), Rep K ca H M d v → Rep K ca (upd H p o) M d v
  | .non, _, h => h
  | .bl _, _, h => h
  | .int _, _, h => h
  | .str _, _, h => h
  | .tup ds, v, h => by
    obtain ⟨a, xs, r, h1, n, q⟩ := h
    have ne : a ≠ p := fun e => n (.inr (by rw [e]; exact hp))
    exact ⟨a, xs, r, by rw [upd_ne ne]; exact h1, n, RepL.rehide hp o ds xs q⟩
  | .lst ds, v, h => by
    obtain ⟨a, xs, r, h1, n, z, q⟩ := h
    have ne : a ≠ p := fun e => n (.inr (by rw [e]; exact hp))
    exact ⟨a, xs, r, by rw [upd_ne ne]; exact h1, n, z, RepL.rehide hp o ds xs q⟩
  | .obj c ns ds, v, h => by
    obtain ⟨a, dx, fs, r, h1, n, z, q⟩ := h
    have ne : a ≠ p := fun e => n (.inr (by rw [e]; exact hp))
    exact ⟨a, dx, fs, r, by rw [upd_ne ne]; exact h1, n, z, RepL.rehide hp o ds _ q⟩
  | .cell n, v, h => h
  | .scr ns, v, h => by
    obtain ⟨a, r, q, z⟩ := h
    refine ⟨a, r, ?_, z⟩
    rcases q with ⟨q, n⟩ | q
    · have ne : a ≠ p := fun e => n (.inr (by rw [e]; exact hp))
      rcases q with q | ⟨o', q⟩
      · exact .inl ⟨.inl (by rw [upd_ne ne]; exact q), n⟩
      · exact .inl ⟨.inr ⟨o', by rw [upd_ne ne]; exact q⟩, n⟩
    · exact .inr q
  | .exc _, _, h => h
theorem RepL.rehide {p : Addr} (hp : p ∈ M.h) (o : HO) : ∀ (ds : List D) (vs : List V), RepL K ca H M ds vs → RepL K ca (upd H p o) M ds vs
  | [], [], h => h
  | d :: ds, v :: vs, h => ⟨Rep.rehide hp o d v h.1, RepL.rehide hp o ds vs h.2⟩
  | [], _ :: _, h => h.elim
  | _ :: _, [], h => h.elim
end
mutual
theorem Rep.as {l : List Addr} (hl : ∀ b, b ∈ l → b ∈ M.h) : ∀ (d : D) (v : V), Rep K ca H M d v → Rep K ca H (M.as l) d v
  | .non, _, h => h
  | .bl _, _, h => h
  | .int _, _, h => h
  | .str _, _, h => h
  | .tup ds, v, h => by
    obtain ⟨a, xs, r, h1, n, q⟩ := h
    exact ⟨a, xs, r, h1, live_as hl n, RepL.as hl ds xs q⟩
  | .lst ds, v, h => by
    obtain ⟨a, xs, r, h1, n, z, q⟩ := h
    exact ⟨a, xs, r, h1, live_as hl n, z, RepL.as hl ds xs q⟩
  | .obj c ns ds, v, h => by
    obtain ⟨a, dx, fs, r, h1, n, z, q⟩ := h
    exact ⟨a, dx, fs, r, h1, live_as hl n, z, RepL.as hl ds _ q⟩
  | .cell n, v, h => h
  | .scr ns, v, h => by
    obtain ⟨a, r, q, z⟩ := h
    exact ⟨a, r, q.imp (fun p => ⟨p.1, live_as hl p.2⟩) id, z⟩
  | .exc _, _, h => h
theorem RepL.as {l : List Addr} (hl : ∀ b, b ∈ l → b ∈ M.h) : ∀ (ds : List D) (vs : List V), RepL K ca H M ds vs → RepL K ca H (M.as l) ds vs
  | [], [], h => h
  | d :: ds, v :: vs, h => ⟨Rep.as hl d v h.1, RepL.as hl ds vs h.2⟩
  | [], _ :: _, h => h.elim
  | _ :: _, [], h => h.elim
end
theorem CellOk.map {f : Hp} {M2 : Cells} {x : Option Addr} {mo : MO} (h : CellOk K ca H M x mo) (hr : ∀ ds vs, RepL K ca H M ds vs → RepL K ca f M2 ds vs) (k : ∀ a, x = some a → f a = H a) : CellOk K ca f M2 x mo := by
  cases mo with
  | dead => exact h
  | lst ds => obtain ⟨a, xs, r, h1, z, q⟩ := h; exact ⟨a, xs, r, (k a r).trans h1, z, hr _ _ q⟩
  | dk kvs => obtain ⟨a, ys, r, h1, z, q⟩ := h; exact ⟨a, ys, r, (k a r).trans h1, z, hr _ _ q⟩
  | dt kvs => obtain ⟨a, ys, r, h1, z, q⟩ := h; exact ⟨a, ys, r, (k a r).trans h1, z, hr _ _ q⟩
  | ins c ns ds => obtain ⟨a, dx, fs, r, h1, z, q⟩ := h; exact ⟨a, dx, fs, r, (k a r).trans h1, z, hr _ _ q⟩
  | fk kvs => obtain ⟨a, ys, od, r, h1, z, q⟩ := h; exact ⟨a, ys, od, r, (k a r).trans h1, z, hr _ _ q⟩
  | ft kvs => obtain ⟨a, ys, od, r, h1, z, q⟩ := h; exact ⟨a, ys, od, r, (k a r).trans h1, z, hr _ _ q⟩
theorem RelS.hide (r : RelS K ca H M S) {p : Addr} (hp : H p = none) (o : HO) (ho : ∀ xs, o ≠ .tup xs := by intro xs h; cases h) : RelS K ca (upd H p o) (M.hide p) S := by
  refine ⟨r.len, r.inj, fun i mo h => ?_, fun a h => ?_, fun a h xs => ?_⟩
  · obtain ⟨x, hx, c⟩ := r.cells i mo h
    refine ⟨x, hx, c.map (fun ds vs => RepL.hide hp o ds vs) fun a e => ?_⟩
    subst e
    exact upd_ne fun q => c.there rfl (by rw [q]; exact hp)
  · rcases List.mem_cons.mp h with z | z
    · subst z
      exact ⟨(by rw [upd_same]; exact Option.some_ne_none _), fun q => r.cthere q hp⟩
    · exact ⟨upd_on (r.hid a z).1, (r.hid a z).2⟩
  · rcases List.mem_cons.mp h with z | z
    · subst z; rw [upd_same]; exact fun e => ho xs (Option.some.inj e)
    · rw [upd_ne (fun e => (r.hid a z).1 (by rw [e]; exact hp))]; exact r.hidt a z xs
theorem RelS.rehide (r : RelS K ca H M S) {p : Addr} (hp : p ∈ M.h) (o : HO) (ho : ∀ xs, o ≠ .tup xs := by intro xs h; cases h) : RelS K ca (upd H p o) M S := by
  refine ⟨r.len, r.inj, fun i mo h => ?_, fun a h => ⟨upd_on (r.hid a h).1, (r.hid a h).2⟩, fun a h xs => by
    by_cases e : a = p
    · subst e; rw [upd_same]; exact fun z => ho xs (Option.some.inj z)
    · rw [upd_ne e]; exact r.hidt a h xs⟩
  obtain ⟨x, hx, c⟩ := r.cells i mo h
  refine ⟨x, hx, c.map (fun ds vs => RepL.rehide hp o ds vs) fun a e => ?_⟩
  subst e
  exact upd_ne fun q => (r.hid p hp).2 ⟨i, by rw [← q]; exact hx⟩
theorem RelS.as (r : RelS K ca H M S) {l : List Addr} (hl : ∀ b, b ∈ l → b ∈ M.h) : RelS K ca H (M.as l) S := by
  refine ⟨r.len, r.inj, fun i mo h => ?_, fun a h => r.hid a (hl a h), fun a h => r.hidt a (hl a h)⟩
  obtain ⟨x, hx, c⟩ := r.cells i mo h
  exact ⟨x, hx, c.map (fun ds vs => RepL.as hl ds vs) fun a e => rfl⟩
theorem Ext.as (e : Ext H M H' M') (l : List Addr) : Ext H (M.as l) H' (M'.as l) := ⟨e.len, e.old, e.new, e.fr, e.on, rfl, e.fz⟩
theorem Ext.over (e : Ext H M H' M') {p : Addr} (hp : H p = none) (o : HO) : Ext H M (upd H' p o) M' :=
  ⟨e.len, e.old, e.new, fun b u h n => by rw [upd_ne (ne_of_none h hp)]; exact e.fr b u h n, fun b h => upd_on (e.on b h), e.hid, fun b od u h => by rw [upd_ne (ne_of_none h hp)]; exact e.fz b od u h⟩
/-! ### the cells in a datum -/
mutual
def Cl (n : Nat) : D → Prop
  | .tup ds => ClL n ds
  | .lst ds => ClL n ds
  | .obj _ _ ds => ClL n ds
  | .cell m => m < n
  | _ => True
def ClL (n : Nat) : List D → Prop
  | [] => True
  | d :: ds => Cl n d ∧ ClL n ds
end
mutual
theorem Rep.cl : ∀ (d : D) (v : V), Rep K ca H M d v → Cl M.c.length d
  | .non, _, _ => trivial
  | .bl _, _, _ => trivial
  | .int _, _, _ => trivial
  | .str _, _, _ => trivial
  | .tup ds, v, h => by obtain ⟨a, xs, _, _, _, q⟩ := h; exact RepL.cl ds xs q
  | .lst ds, v, h => by obtain ⟨a, xs, _, _, _, _, q⟩ := h; exact RepL.cl ds xs q
  | .obj c ns ds, v, h => by obtain ⟨a, dx, fs, _, _, _, _, q⟩ := h; exact RepL.cl ds _ q
  | .cell n, v, h => by obtain ⟨x, hx, q⟩ := h; exact (List.getElem?_eq_some_iff.mp hx).1
  | .scr _, _, _ => trivial
  | .exc _, _, _ => trivial
theorem RepL.cl : ∀ (ds : List D) (vs : List V), RepL K ca H M ds vs → ClL M.c.length ds
  | [], [], _ => trivial
  | d :: ds, v :: vs, h => ⟨Rep.cl d v h.1, RepL.cl ds vs h.2⟩
  | [], _ :: _, h => h.elim
  | _ :: _, [], h => h.elim
end
theorem live_take {n : Nat} {a : Addr} (h : Live (M.cut n) a) : Live M a := by
  rcases h with ⟨i, q⟩ | q
  · have q : (M.c.take n)[i]? = some (some a) := q
    rw [List.getElem?_take] at q
    split at q
    · exact .inl ⟨i, q⟩
    · cases q
  · exact .inr q
mutual
theorem Rep.take {n : Nat} : ∀ (d : D) (v : V), Cl n d → Rep K ca H M d v → Rep K ca H (M.cut n) d v
  | .non, _, _, h => h
  | .bl _, _, _, h => h
  | .int _, _, _, h => h
  | .str _, _, _, h => h
  | .tup ds, v, c, h => by
    obtain ⟨a, xs, r, h1, nl, q⟩ := h
    exact ⟨a, xs, r, h1, fun z => nl (live_take z), RepL.take' ds xs c q⟩
  | .lst ds, v, c, h => by
    obtain ⟨a, xs, r, h1, nl, z, q⟩ := h
    exact ⟨a, xs, r, h1, fun z => nl (live_take z), z, RepL.take' ds xs c q⟩
  | .obj k ns ds, v, c, h => by
    obtain ⟨a, dx, fs, r, h1, nl, z, q⟩ := h
    exact ⟨a, dx, fs, r, h1, fun z => nl (live_take z), z, RepL.take' ds _ c q⟩
  | .cell m, v, c, h => by
    obtain ⟨x, hx, q⟩ := h
    exact ⟨x, by show (M.c.take n)[m]? = _; rw [List.getElem?_take, if_pos (show m < n from c)]; exact hx, q⟩
  | .scr ns, v, c, h => by
    obtain ⟨a, r, q, z⟩ := h
    exact ⟨a, r, q.imp (fun p => ⟨p.1, fun y => p.2 (live_take y)⟩) id, z⟩
  | .exc _, _, _, h => h
theorem RepL.take' {n : Nat} : ∀ (ds : List D) (vs : List V), ClL n ds → RepL K ca H M ds vs → RepL K ca H (M.cut n) ds vs
  | [], [], _, h => h
  | d :: ds, v :: vs, c, h => ⟨Rep.take d v c.1 h.1, RepL.take' ds vs c.2 h.2⟩
  | [], _ :: _, _, h => h.elim
  | _ :: _, [], _, h => h.elim
end
def ClM (n : Nat) : MO → Prop
  | .dead => True
  | .lst ds => ClL n ds
  | .dk kvs => ClL n (kvs.map (·.2))
  | .dt kvs => ClL n (kvs.map (·.2))
  | .ins _ _ ds => ClL n ds
  | .fk kvs => ClL n (kvs.map (·.2))
  | .ft kvs => ClL n (kvs.map (·.2))
theorem CellOk.cl {x : Option Addr} {mo : MO} (h : CellOk K ca H M x mo) : ClM M.c.length mo := by
  cases mo with
  | dead => trivial
  | lst ds => obtain ⟨a, xs, r, h1, z, q⟩ := h; exact RepL.cl _ _ q
  | dk kvs => obtain ⟨a, ys, r, h1, z, q⟩ := h; exact RepL.cl _ _ q
  | dt kvs => obtain ⟨a, ys, r, h1, z, q⟩ := h; exact RepL.cl _ _ q
  | ins c ns ds => obtain ⟨a, dx, fs, r, h1, z, q⟩ := h; exact RepL.cl _ _ q
  | fk ds => obtain ⟨a, ys, od, r, h1, z, q⟩ := h; exact RepL.cl _ _ q
  | ft ds => obtain ⟨a, ys, od, r, h1, z, q⟩ := h; exact RepL.cl _ _ q
theorem CellOk.take {n : Nat} {x : Option Addr} {mo : MO} (c : ClM n mo) (h : CellOk K ca H M x mo) : CellOk K ca H (M.cut n) x mo := by
  cases mo with
  | dead => exact h
  | lst ds => obtain ⟨a, xs, r, h1, z, q⟩ := h; exact ⟨a, xs, r, h1, z, RepL.take' _ _ c q⟩
  | dk kvs => obtain ⟨a, ys, r, h1, z, q⟩ := h; exact ⟨a, ys, r, h1, z, RepL.take' _ _ c q⟩
  | dt kvs => obtain ⟨a, ys, r, h1, z, q⟩ := h; exact ⟨a, ys, r, h1, z, RepL.take' _ _ c q⟩
  | ins k ns ds => obtain ⟨a, dx, fs, r, h1, z, q⟩ := h; exact ⟨a, dx, fs, r, h1, z, RepL.take' _ _ c q⟩
  | fk ds => obtain ⟨a, ys, od, r, h1, z, q⟩ := h; exact ⟨a, ys, od, r, h1, z, RepL.take' _ _ c q⟩
  | ft ds => obtain ⟨a, ys, od, r, h1, z, q⟩ := h; exact ⟨a, ys, od, r, h1, z, RepL.take' _ _ c q⟩
/-- the new cells are forgotten; the old ones stand as they stood -/
theorem cells_same (e : Ext H M H' M') (r : RelS K ca H M S) (r' : RelS K ca H' M' S') (hs : S'.take S.length = S) : M = M'.cut M.c.length := by
  have hc : M.c = M'.c.take M.c.length := by
    apply List.ext_getElem?
    intro i
    rw [List.getElem?_take]
    split
    · next hi =>
      rcases e.old i hi with z | z
      · exact z.symm
      · have hS : i < S.length := by rw [← r.len]; exact hi
        have hS' : S'[i]? = S[i]? := by
          conv => rhs; rw [← hs]
          rw [List.getElem?_take, if_pos hS]
        obtain ⟨x, hx, c⟩ := r.cells i _ (List.getElem?_eq_getElem hS)
        obtain ⟨x', hx', c'⟩ := r'.cells i S[i] (by rw [hS']; exact List.getElem?_eq_getElem hS)
        rw [z] at hx'; cases hx'
        have : S[i] = .dead := by
          cases q : S[i] with
          | dead => rfl
          | lst ds => rw [q] at c'; obtain ⟨_, _, y, _⟩ := c'; cases y
          | dk ds => rw [q] at c'; obtain ⟨_, _, y, _⟩ := c'; cases y
          | dt ds => rw [q] at c'; obtain ⟨_, _, y, _⟩ := c'; cases y
          | ins k ns ds => rw [q] at c'; obtain ⟨_, _, _, y, _⟩ := c'; cases y
          | fk ds => rw [q] at c'; obtain ⟨_, _, _, y, _⟩ := c'; cases y
          | ft ds => rw [q] at c'; obtain ⟨_, _, _, y, _⟩ := c'; cases y
        rw [this] at c
        have c : x = none := c
        rw [z, hx, c]
    · next hi => exact List.getElem?_eq_none (by omega)
  cases M with
  | mk mc mh =>
    have hh : M'.h = mh := e.hid
    show (⟨mc, mh⟩ : Cells) = ⟨M'.c.take mc.length, M'.h⟩
    rw [hh]
    have hc : mc = M'.c.take mc.length := hc
    rw [← hc]
theorem forget (e : Ext H M H' M') (r : RelS K ca H M S) (r' : RelS K ca H' M' S') (hs : S'.take S.length = S) : Ext H M H' M ∧ RelS K ca H' M S := by
  have hM := cells_same e r r' hs
  refine ⟨⟨Nat.le_refl _, fun _ _ => .inl rfl, fun l a h q => ?_, e.fr, e.on, rfl, e.fz⟩, r.len, r.inj, fun i mo h => ?_, fun a h => ⟨e.on a (r.hid a h).1, (r.hid a h).2⟩, fun a h xs => by
    obtain ⟨h1, h2⟩ := r.hid a h
    cases q : H a with
    | none => exact absurd q h1
    | some o => rw [e.fr a o q h2, ← q]; exact r.hidt a h xs⟩
  · rw [List.getElem?_eq_none h] at q; cases q
  · have hi : i < S.length := (List.getElem?_eq_some_iff.mp h).1
    have hS' : S'[i]? = some mo := by
      rw [← h]; conv => rhs; rw [← hs]
      rw [List.getElem?_take, if_pos hi]
    obtain ⟨x, hx, c⟩ := r.cells i mo h
    obtain ⟨x', hx', c'⟩ := r'.cells i mo hS'
    refine ⟨x', ?_, ?_⟩
    · rw [hM]
      show (M'.c.take M.c.length)[i]? = _
      rw [List.getElem?_take, if_pos (by rw [r.len]; exact hi)]; exact hx'
    · have := c'.take (n := M.c.length) c.cl
      rw [← hM] at this
      exact this
theorem forget_rep (e : Ext H M H' M') (r : RelS K ca H M S) (r' : RelS K ca H' M' S') (hs : S'.take S.length = S) {d : D} {v : V} (c : Cl M.c.length d) (h : Rep K ca H' M' d v) : Rep K ca H' M d v := by
  have hM := cells_same e r r' hs
  have := Rep.take (n := M.c.length) d v c h
  rw [← hM] at this
  exact this
end
end Sm
/-! S2: readings of the abstract world: expressions, tests, statements -/
namespace Sm
open PySem PySem.Spec PyProof.Rows L2

section
variable (K : PySem.W.Frag) (ca : Nat → Addr)
def REnv (H : Hp) (M : Cells) : Env → L2.St → Prop
  | [], [] => True
  | none :: r, _ :: s => REnv H M r s
  | some d :: r, some v :: s => Rep K ca H M d v ∧ REnv H M r s
  | _, _ => False
abbrev XW := Value → Option Addr → Hp → Prop
/-- what is wanted of an outcome -/
def Post {A B : Type} (rp : Hp → Cells → A → B → Prop) (H : Hp) (M : Cells) (Q : B → Hp → Prop) (W : XW) : R A → Prop
  | .ok a S' => ∀ b M' H', Ext H M H' M' → RelS K ca H' M' S' → rp H' M' a b → Q b H'
  | .ex c S' => ∀ M' H', Ext H M H' M' → RelS K ca H' M' S' → W (.ref (ca c)) none H'
  | .err => False
abbrev rD (H : Hp) (M : Cells) (d : D) (v : V) : Prop := Rep K ca H M d v
abbrev rL (H : Hp) (M : Cells) (d : List D) (v : List V) : Prop := RepL K ca H M d v
abbrev rB (_ : Hp) (_ : Cells) (d v : Bool) : Prop := v = d
def tOf (W : WX) (m : ME) : TE := fun σ H Q => ∃ ρ M S, REnv K ca H M ρ σ ∧ RelS K ca H M S ∧ Post K ca (rD K ca) H M Q (fun c d H' => W c d σ H') (m ρ S)
def tOfA (W : WX) (m : Env → Store → R (List D)) : TA := fun σ H Q => ∃ ρ M S, REnv K ca H M ρ σ ∧ RelS K ca H M S ∧ Post K ca (rL K ca) H M Q (fun c d H' => W c d σ H') (m ρ S)
def asB : D → Store → R Bool
  | .bl b, S => .ok b S
  | _, _ => .err
def tOfT (W : WX) (m : ME) : TT := fun σ H Q => ∃ ρ M S, REnv K ca H M ρ σ ∧ RelS K ca H M S ∧ Post K ca rB H M Q (fun c d H' => W c d σ H') ((m ρ S).bind asB)
def PostS (H : Hp) (M : Cells) (D : Ends) (W : XW) : R Fl → Prop
  | .ok (.nx r) S' => ∀ σ' M' H', Ext H M H' M' → RelS K ca H' M' S' → REnv K ca H' M' r σ' → D.nx σ' H'
  | .ok (.bk r) S' => ∀ σ' M' H', Ext H M H' M' → RelS K ca H' M' S' → REnv K ca H' M' r σ' → D.bk σ' H'
  | .ok (.ct r) S' => ∀ σ' M' H', Ext H M H' M' → RelS K ca H' M' S' → REnv K ca H' M' r σ' → D.ct σ' H'
  | .ok (.rt d) S' => ∀ v M' H', Ext H M H' M' → RelS K ca H' M' S' → Rep K ca H' M' d v → D.rt v H'
  | .ex c S' => ∀ M' H', Ext H M H' M' → RelS K ca H' M' S' → W (.ref (ca c)) none H'
  | .err => False
def tSOf (W : XW) (m : MS) : TS := fun D σ H => ∃ ρ M S, REnv K ca H M ρ σ ∧ RelS K ca H M S ∧ PostS K ca H M D W (m ρ S)
end

section
variable {K : PySem.W.Frag} {ca : Nat → Addr} {H H' H1 : Hp} {M M' M1 : Cells} {S : Store}
theorem REnv.ext (e : Ext H M H' M') : ∀ {r : Env} {s : L2.St}, REnv K ca H M r s → REnv K ca H' M' r s
  | [], [], h => h
  | none :: r, _ :: s, h => REnv.ext (r := r) (s := s) e h
  | some d :: r, some v :: s, h => ⟨Rep.ext e d v h.1, REnv.ext (r := r) (s := s) e h.2⟩
  | [], _ :: _, h => h.elim
  | some _ :: _, none :: _, h => h.elim
  | none :: _, [], h => h.elim
  | some _ :: _, [], h => h.elim
theorem REnv.set : ∀ {r : Env} {s : L2.St} (i : Nat) {d : D} {v : V}, REnv K ca H M r s → Rep K ca H M d v → REnv K ca H M (r.set i (some d)) (s.set i (some v))
  | [], [], _, _, _, h, _ => h
  | none :: r, _ :: s, 0, _, _, h, q => ⟨q, h⟩
  | some _ :: r, some _ :: s, 0, _, _, h, q => ⟨q, h.2⟩
  | none :: r, _ :: s, i + 1, _, _, h, q => REnv.set (r := r) (s := s) i h q
  | some _ :: r, some _ :: s, i + 1, _, _, h, q => ⟨h.1, REnv.set (r := r) (s := s) i h.2 q⟩
  | [], _ :: _, _, _, _, h, _ => h.elim
  | some _ :: _, none :: _, _, _, _, h, _ => h.elim
  | none :: _, [], _, _, _, h, _ => h.elim
  | some _ :: _, [], _, _, _, h, _ => h.elim
theorem REnv.get : ∀ {r : Env} {s : L2.St} {i : Nat} {d : D}, REnv K ca H M r s → r[i]? = some (some d) → ∃ v, s[i]? = some (some v) ∧ Rep K ca H M d v
  | [], [], _, _, _, e => by simp at e
  | none :: r, x :: s, 0, _, h, e => by simp at e
  | some d :: r, some v :: s, 0, _, h, e => by simp at e; subst e; exact ⟨v, rfl, h.1⟩
  | none :: r, x :: s, i + 1, d, h, e => by
    obtain ⟨v, h1, h2⟩ := REnv.get (r := r) (s := s) (i := i) h (by simpa using e)
    exact ⟨v, by simpa using h1, h2⟩
  | some _ :: r, some _ :: s, i + 1, d, h, e => by
    obtain ⟨v, h1, h2⟩ := REnv.get (r := r) (s := s) (i := i) h.2 (by simpa using e)
    exact ⟨v, by simpa using h1, h2⟩
  | [], _ :: _, _, _, h, _ => h.elim
  | some _ :: _, none :: _, _, _, h, _ => h.elim
  | none :: _, [], _, _, h, _ => h.elim
  | some _ :: _, [], _, _, h, _ => h.elim
theorem REnv.length : ∀ {r : Env} {s : L2.St}, REnv K ca H M r s → r.length = s.length
  | [], [], h => rfl
  | none :: r, x :: s, h => congrArg Nat.succ (REnv.length (r := r) (s := s) h)
  | some _ :: r, some _ :: s, h => congrArg Nat.succ (REnv.length (r := r) (s := s) h.2)
  | [], _ :: _, h => h.elim
  | some _ :: _, none :: _, h => h.elim
  | none :: _, [], h => h.elim
  | some _ :: _, [], h => h.elim
theorem Post.mono {A B : Type} {rp : Hp → Cells → A → B → Prop} {Q Q' : B → Hp → Prop} {W : XW} {r : R A} (h : Post K ca rp H M Q W r) (q : ∀ b H', Q b H' → Q' b H') : Post K ca rp H M Q' W r := by
  cases r with
  | ok a S' => exact fun b M' H' e s p => q _ _ (h b M' H' e s p)
  | ex c S' => exact h
  | err => exact h
theorem Post.up {A B : Type} {rp : Hp → Cells → A → B → Prop} {Q : B → Hp → Prop} {W : XW} {r : R A} (e : Ext H M H1 M1) (h : Post K ca rp H M Q W r) : Post K ca rp H1 M1 Q W r := by
  cases r with
  | ok a S' => exact fun b M' H' e' s p => h b M' H' (e.trans e') s p
  | ex c S' => exact fun M' H' e' s => h M' H' (e.trans e') s
  | err => exact h
theorem PostS.up {D : Ends} {W : XW} {r : R Fl} (e : Ext H M H1 M1) (h : PostS K ca H M D W r) : PostS K ca H1 M1 D W r := by
  cases r with
  | ok a S' =>
    cases a with
    | nx r => exact fun b M' H' e' s p => h b M' H' (e.trans e') s p
    | bk r => exact fun b M' H' e' s p => h b M' H' (e.trans e') s p
    | ct r => exact fun b M' H' e' s p => h b M' H' (e.trans e') s p
    | rt r => exact fun b M' H' e' s p => h b M' H' (e.trans e') s p
  | ex c S' => exact fun M' H' e' s => h M' H' (e.trans e') s
  | err => exact h
theorem post_bind {A B A' B' : Type} {rp : Hp → Cells → A → B → Prop} {rp' : Hp → Cells → A' → B' → Prop} {Q : B' → Hp → Prop} {W : XW} {r : R A} {k : A → Store → R A'} (h : Post K ca rp' H M Q W (r.bind k)) :
    Post K ca rp H M (fun x H1 => ∃ M1 S1 d, Ext H M H1 M1 ∧ RelS K ca H1 M1 S1 ∧ rp H1 M1 d x ∧ Post K ca rp' H1 M1 Q W (k d S1)) W r := by
  cases r with
  | ok a S' => exact fun b M' H' e s p => ⟨M', S', a, e, s, p, h.up e⟩
  | ex c S' => exact h
  | err => exact h
theorem post_bindS {A B : Type} {rp : Hp → Cells → A → B → Prop} {D : Ends} {W : XW} {r : R A} {k : A → Store → R Fl} (h : PostS K ca H M D W (r.bind k)) :
    Post K ca rp H M (fun x H1 => ∃ M1 S1 d, Ext H M H1 M1 ∧ RelS K ca H1 M1 S1 ∧ rp H1 M1 d x ∧ PostS K ca H1 M1 D W (k d S1)) W r := by
  cases r with
  | ok a S' => exact fun b M' H' e s p => ⟨M', S', a, e, s, p, h.up e⟩
  | ex c S' => exact h
  | err => exact h
end

theorem weakE {X : Cx} {e : Expr} {t t' : TE} (h : PE X e t) (w : ∀ σ H Q, t' σ H Q → t σ H Q) : PE X e t' := ⟨fun pins s σ H Q I q => h.run pins s σ H Q I (w σ H Q q)⟩
theorem weakT {X : Cx} {e : Expr} {t t' : TT} (h : PT X e t) (w : ∀ σ H Q, t' σ H Q → t σ H Q) : PT X e t' := ⟨fun pins s σ H Q I q => h.run pins s σ H Q I (w σ H Q q)⟩
theorem weakW {X : Cx} {e : Expr} {t t' : TT} (h : PW X e t) (w : ∀ σ H Q, t' σ H Q → t σ H Q) : PW X e t' := ⟨fun wh pins s σ H Q I q => h.run wh pins s σ H Q I (w σ H Q q)⟩
theorem weakA {X : Cx} {e : List Expr} {t t' : TA} (h : PA X e t) (w : ∀ σ H Q, t' σ H Q → t σ H Q) : PA X e t' := ⟨fun p pins s σ H Q I q => h.run p pins s σ H Q I (w σ H Q q)⟩
theorem weakS {X : Cx} {e : Stmt} {t t' : TS} (h : PS X e t) (w : ∀ D σ H, t' D σ H → t D σ H) : PS X e t' := ⟨fun pins s σ H D I q => h.run pins s σ H D I (w D σ H q)⟩
theorem weakSs {X : Cx} {e : List Stmt} {t t' : TS} (h : PSs X e t) (w : ∀ D σ H, t' D σ H → t D σ H) : PSs X e t' := ⟨fun pins s σ H D I q => h.run pins s σ H D I (w D σ H q)⟩

/-! ### expressions: names, constants, operations -/
section
variable {X : Cx} {ca : Nat → Addr} {W : WX}
def mV (i : Nat) : ME := fun ρ S => match ρ[i]? with
  | some (some d) => .ok d S
  | _ => .err
def mC (d : D) : ME := fun _ S => .ok d S
def m1 (f : Store → D → R D) (a : ME) : ME := fun ρ S => (a ρ S).bind fun d S1 => f S1 d
def m2 (f : Store → D → D → R D) (a b : ME) : ME := fun ρ S => (a ρ S).bind fun d S1 => (b ρ S1).bind fun e S2 => f S2 d e
def mNil : Env → Store → R (List D) := fun _ S => .ok [] S
def mCons (a : ME) (b : Env → Store → R (List D)) : Env → Store → R (List D) := fun ρ S => (a ρ S).bind fun d S1 => (b ρ S1).bind fun ds S2 => .ok (d :: ds) S2
def mN (f : Store → List D → R D) (a : Env → Store → R (List D)) : ME := fun ρ S => (a ρ S).bind fun ds S1 => f S1 ds
def Sound1 (K : PySem.W.Frag) (ca : Nat → Addr) (r : V → Hp → VK → Prop) (f : Store → D → R D) : Prop :=
  ∀ H M S x d Q W, RelS K ca H M S → Rep K ca H M d x → Post K ca (rD K ca) H M Q W (f S d) → r x H Q
def Sound2 (K : PySem.W.Frag) (ca : Nat → Addr) (r : R2) (f : Store → D → D → R D) : Prop :=
  ∀ H M S x y d e Q W, RelS K ca H M S → Rep K ca H M d x → Rep K ca H M e y → Post K ca (rD K ca) H M Q W (f S d e) → r x y H Q
def SoundN (K : PySem.W.Frag) (ca : Nat → Addr) (r : List V → Hp → VK → Prop) (f : Store → List D → R D) : Prop :=
  ∀ H M S xs ds Q W, RelS K ca H M S → RepL K ca H M ds xs → Post K ca (rD K ca) H M Q W (f S ds) → r xs H Q

theorem q_var (i : Nat) {x : Str} {pos : Pos} (h : PE X (.Name x pos) (tVar i)) : PE X (.Name x pos) (tOf X.K ca W (mV i)) := weakE h fun σ H Q => by
  rintro ⟨ρ, M, S, re, rs, p⟩
  unfold mV at p
  split at p
  · next d e =>
    obtain ⟨v, hv, q⟩ := re.get e
    exact ⟨v, hv, p v M H (Ext.refl _ _) rs q⟩
  · exact p.elim
theorem q_const {e : Expr} {d : D} {v : V} (h : PE X e (tC v)) (r : ∀ H M, Rep X.K ca H M d v) : PE X e (tOf X.K ca W (mC d)) := weakE h fun σ H Q => by
  rintro ⟨ρ, M, S, re, rs, p⟩
  exact p v M H (Ext.refl _ _) rs (r H M)
theorem q_int {i j pos} : PE X (.Constant (.int i) j pos) (tOf X.K ca W (mC (.int i))) := q_const pe_int fun _ _ => rfl
theorem q_bl {i j pos} : PE X (.Constant (.bool i) j pos) (tOf X.K ca W (mC (.bl i))) := q_const pe_bl fun _ _ => rfl
theorem q_non {j pos} : PE X (.Constant .none j pos) (tOf X.K ca W (mC .non)) := q_const pe_non fun _ _ => rfl
theorem q_str {x j pos} : PE X (.Constant (.str x) j pos) (tOf X.K ca W (mC (.str x))) := q_const pe_str fun _ _ => rfl

theorem two_of {ma mb : ME} {r : R2} {f : Store → D → D → R D} (s : Sound2 X.K ca r f) (σ : L2.St) (H : Hp) (Q : VK) : tOf X.K ca W (m2 f ma mb) σ H Q → tOp r (tOf X.K ca W ma) (tOf X.K ca W mb) σ H Q := by
  rintro ⟨ρ, M, S, re, rs, p⟩
  refine ⟨ρ, M, S, re, rs, (post_bind p).mono ?_⟩
  rintro x H1 ⟨M1, S1, d, e1, rs1, r1, p1⟩
  refine ⟨ρ, M1, S1, re.ext e1, rs1, (post_bind p1).mono ?_⟩
  rintro y H2 ⟨M2, S2, e, e2, rs2, r2, p2⟩
  exact s H2 M2 S2 x y d e Q _ rs2 (Rep.ext e2 _ _ r1) r2 p2
theorem one_of {ma : ME} {r : V → Hp → VK → Prop} {f : Store → D → R D} (s : Sound1 X.K ca r f) (σ : L2.St) (H : Hp) (Q : VK) : tOf X.K ca W (m1 f ma) σ H Q → tUn r (tOf X.K ca W ma) σ H Q := by
  rintro ⟨ρ, M, S, re, rs, p⟩
  refine ⟨ρ, M, S, re, rs, (post_bind p).mono ?_⟩
  rintro x H1 ⟨M1, S1, d, e1, rs1, r1, p1⟩
  exact s H1 M1 S1 x d Q _ rs1 r1 p1
theorem q_op {op : Operator} {a b : Expr} {pos : Pos} {ma mb : ME} {r : R2} {f : Store → D → D → R D} (ho : OpR X (binaryOp op) r) (s : Sound2 X.K ca r f) (ha : PE X a (tOf X.K ca W ma)) (hb : PE X b (tOf X.K ca W mb)) :
    PE X (.BinOp a op b pos) (tOf X.K ca W (m2 f ma mb)) := weakE (pe_op ho ha hb) (two_of s)
theorem q_un {op : UnaryOp} {a : Expr} {pos : Pos} {ma : ME} {r : V → Hp → VK → Prop} {f : Store → D → R D} (ho : UnR X (unaryOp op) r) (s : Sound1 X.K ca r f) (ha : PE X a (tOf X.K ca W ma)) :
    PE X (.UnaryOp op a pos) (tOf X.K ca W (m1 f ma)) := weakE (pe_un ho ha) (one_of s)
theorem q_cmp {op : CmpOp} {a b : Expr} {pos : Pos} {ma mb : ME} {r : R2} {f : Store → D → D → R D} (ho : OpR X (compareOp op) r) (s : Sound2 X.K ca r f) (ha : PE X a (tOf X.K ca W ma)) (hb : PE X b (tOf X.K ca W mb)) (hm : behindInMarks op b = false) :
    PE X (.Compare a [op] [b] pos) (tOf X.K ca W (m2 f ma mb)) := weakE (pe_cmpR ho ha hb hm) (two_of s)
theorem q_ix {a b : Expr} {pos : Pos} {ma mb : ME} {r : R2} {f : Store → D → D → R D} (ho : IxR X r) (s : Sound2 X.K ca r f) (ha : PE X a (tOf X.K ca W ma)) (hb : PE X b (tOf X.K ca W mb)) (hs : PlainIx b) :
    PE X (.Subscript a b pos) (tOf X.K ca W (m2 f ma mb)) := weakE (pe_ix ho ha hb hs) (two_of s)

/-! arguments -/
theorem qa_nil : PA X [] (tOfA X.K ca W mNil) := weakA pa_nil fun σ H Q => by
  rintro ⟨ρ, M, S, re, rs, p⟩
  exact p [] M H (Ext.refl _ _) rs trivial
theorem qa_cons {e : Expr} {es : List Expr} {ma : ME} {ms : Env → Store → R (List D)} (ha : PE X e (tOf X.K ca W ma)) (hr : PA X es (tOfA X.K ca W ms)) (hs : starEach (e :: es) X.env = (false, eval e X.env) :: starEach es X.env := by rfl) :
    PA X (e :: es) (tOfA X.K ca W (mCons ma ms)) := weakA (pa_cons ha hr hs) fun σ H Q => by
  rintro ⟨ρ, M, S, re, rs, p⟩
  refine ⟨ρ, M, S, re, rs, (post_bind p).mono ?_⟩
  rintro x H1 ⟨M1, S1, d, e1, rs1, r1, p1⟩
  refine ⟨ρ, M1, S1, re.ext e1, rs1, (post_bind p1).mono ?_⟩
  rintro y H2 ⟨M2, S2, e, e2, rs2, r2, p2⟩
  exact p2 _ M2 H2 (Ext.refl _ _) rs2 ⟨Rep.ext e2 _ _ r1, r2⟩
theorem n_of {ms : Env → Store → R (List D)} {r : List V → Hp → VK → Prop} {f : Store → List D → R D} (s : SoundN X.K ca r f) (σ : L2.St) (H : Hp) (Q : VK) : tOf X.K ca W (mN f ms) σ H Q → tCB r (tOfA X.K ca W ms) σ H Q := by
  rintro ⟨ρ, M, S, re, rs, p⟩
  refine ⟨ρ, M, S, re, rs, (post_bind p).mono ?_⟩
  rintro x H1 ⟨M1, S1, d, e1, rs1, r1, p1⟩
  exact s H1 M1 S1 x d Q _ rs1 r1 p1

/-! ### tests -/
theorem t_of {ma : ME} (σ : L2.St) (H : Hp) (Q : Bool → Hp → Prop) : tOfT X.K ca W ma σ H Q → tOf X.K ca W ma σ H (fun x H' => ∃ k, x = .bl k ∧ Q k H') := by
  rintro ⟨ρ, M, S, re, rs, p⟩
  refine ⟨ρ, M, S, re, rs, (post_bind p).mono ?_⟩
  rintro x H1 ⟨M1, S1, d, e1, rs1, r1, p1⟩
  cases d <;> first | exact p1.elim | skip
  next b => exact ⟨b, r1, p1 b M1 H1 (Ext.refl _ _) rs1 rfl⟩
theorem qt_val {e : Expr} {ma : ME} (h : PE X e (tOf X.K ca W ma)) (he : ∀ whole, isTrue e X.env whole = (do let v ← whole; standAt e.pos; holding [v] (truthy v)) := by intro _; rfl) : PT X e (tOfT X.K ca W ma) :=
  weakT (pt_val h he) t_of
theorem qt_cmp {op : CmpOp} {a b : Expr} {pos : Pos} {ma mb : ME} {r : R2} {f : Store → D → D → R D} (ho : OpR X (compareOp op) r) (s : Sound2 X.K ca r f) (ha : PE X a (tOf X.K ca W ma)) (hb : PE X b (tOf X.K ca W mb)) (hm : behindInMarks op b = false) :
    PT X (.Compare a [op] [b] pos) (tOfT X.K ca W (m2 f ma mb)) := weakT (pt_cmpR ho ha hb hm) fun σ H Q q => two_of s σ H _ (t_of σ H Q q)
def mNot (a : ME) : ME := fun ρ S => (a ρ S).bind fun d S1 => match d with
  | .bl b => .ok (.bl (!b)) S1
  | _ => .err
def mAnd (a b : ME) : ME := fun ρ S => (a ρ S).bind fun d S1 => match d with
  | .bl true => b ρ S1
  | .bl false => .ok (.bl false) S1
  | _ => .err
def mOr (a b : ME) : ME := fun ρ S => (a ρ S).bind fun d S1 => match d with
  | .bl false => b ρ S1
  | .bl true => .ok (.bl true) S1
  | _ => .err
def mIf (c a b : ME) : ME := fun ρ S => (c ρ S).bind fun d S1 => match d with
  | .bl true => a ρ S1
  | .bl false => b ρ S1
  | _ => .err
theorem qt_not {a : Expr} {pos : Pos} {ma : ME} (ha : PT X a (tOfT X.K ca W ma)) : PT X (.UnaryOp .Not a pos) (tOfT X.K ca W (mNot ma)) := weakT (pt_not ha) fun σ H Q => by
  rintro ⟨ρ, M, S, re, rs, p⟩
  refine ⟨ρ, M, S, re, rs, ?_⟩
  unfold mNot at p
  cases q : ma ρ S with
  | ok d S' =>
    rw [q] at p
    cases d <;> first | exact p.elim | skip
    next b => exact fun b' M' H' e rs' hb => p (!b') M' H' e rs' (by rw [hb])
  | ex c S' => rw [q] at p; exact p
  | err => rw [q] at p; exact p
theorem bind_asB {r : R D} {k : D → Store → R D} : (r.bind k).bind asB = r.bind fun d S => (k d S).bind asB := by cases r <;> rfl
theorem qw_and1 {a : Expr} {pos : Pos} {ma : ME} (ha : PT X a (tOfT X.K ca W ma)) : PW X (.BoolOp .And [a] pos) (tOfT X.K ca W ma) := pw_and1 ha
theorem qw_or1 {a : Expr} {pos : Pos} {ma : ME} (ha : PT X a (tOfT X.K ca W ma)) : PW X (.BoolOp .Or [a] pos) (tOfT X.K ca W ma) := pw_or1 ha
theorem and_of {ma mb : ME} (σ : L2.St) (H : Hp) (Q : Bool → Hp → Prop) : tOfT X.K ca W (mAnd ma mb) σ H Q → tAnd (tOfT X.K ca W ma) (tOfT X.K ca W mb) σ H Q := by
  rintro ⟨ρ, M, S, re, rs, p⟩
  refine ⟨ρ, M, S, re, rs, ?_⟩
  unfold mAnd at p
  cases q : ma ρ S with
  | ok d S' =>
    rw [q] at p
    cases d <;> first | exact p.elim | skip
    next b =>
      cases b with
      | true =>
        intro b' M' H' e rs' hb
        subst hb
        show tOfT X.K ca W mb σ H' Q
        exact ⟨ρ, M', S', re.ext e, rs', p.up e⟩
      | false =>
        intro b' M' H' e rs' hb
        subst hb
        exact p false M' H' e rs' rfl
  | ex c S' => rw [q] at p; exact p
  | err => rw [q] at p; exact p
theorem or_of {ma mb : ME} (σ : L2.St) (H : Hp) (Q : Bool → Hp → Prop) : tOfT X.K ca W (mOr ma mb) σ H Q → tOr (tOfT X.K ca W ma) (tOfT X.K ca W mb) σ H Q := by
  rintro ⟨ρ, M, S, re, rs, p⟩
  refine ⟨ρ, M, S, re, rs, ?_⟩
  unfold mOr at p
  cases q : ma ρ S with
  | ok d S' =>
    rw [q] at p
    cases d <;> first | exact p.elim | skip
    next b =>
      cases b with
      | false =>
        intro b' M' H' e rs' hb
        subst hb
        show tOfT X.K ca W mb σ H' Q
        exact ⟨ρ, M', S', re.ext e, rs', p.up e⟩
      | true =>
        intro b' M' H' e rs' hb
        subst hb
        exact p true M' H' e rs' rfl
  | ex c S' => rw [q] at p; exact p
  | err => rw [q] at p; exact p
theorem qw_and {a b : Expr} {rest : List Expr} {pos : Pos} {ma mb : ME} (ha : PT X a (tOfT X.K ca W ma)) (hb : PW X (.BoolOp .And (b :: rest) pos) (tOfT X.K ca W mb)) : PW X (.BoolOp .And (a :: b :: rest) pos) (tOfT X.K ca W (mAnd ma mb)) :=
  weakW (pw_and ha hb) and_of
theorem qw_or {a b : Expr} {rest : List Expr} {pos : Pos} {ma mb : ME} (ha : PT X a (tOfT X.K ca W ma)) (hb : PW X (.BoolOp .Or (b :: rest) pos) (tOfT X.K ca W mb)) : PW X (.BoolOp .Or (a :: b :: rest) pos) (tOfT X.K ca W (mOr ma mb)) :=
  weakW (pw_or ha hb) or_of
/-- as values -/
theorem q_one {op : BoolOp} {a : Expr} {pos : Pos} {ma : ME} (ha : PE X a (tOf X.K ca W ma)) : PE X (.BoolOp op [a] pos) (tOf X.K ca W ma) := pe_one ha
theorem q_and {a b : Expr} {rest : List Expr} {pos : Pos} {ma mb : ME} (ha : PE X a (tOf X.K ca W ma)) (hb : PE X (.BoolOp .And (b :: rest) pos) (tOf X.K ca W mb)) : PE X (.BoolOp .And (a :: b :: rest) pos) (tOf X.K ca W (mAnd ma mb)) :=
  weakE (pe_and ha hb) fun σ H Q => by
    rintro ⟨ρ, M, S, re, rs, p⟩
    refine ⟨ρ, M, S, re, rs, (post_bind p).mono ?_⟩
    rintro x H1 ⟨M1, S1, d, e1, rs1, r1, p1⟩
    cases d <;> first | exact p1.elim | skip
    next b =>
      refine ⟨b, r1, ?_⟩
      cases b with
      | true => exact ⟨ρ, M1, S1, re.ext e1, rs1, p1⟩
      | false => exact p1 _ M1 H1 (Ext.refl _ _) rs1 rfl
theorem q_or {a b : Expr} {rest : List Expr} {pos : Pos} {ma mb : ME} (ha : PE X a (tOf X.K ca W ma)) (hb : PE X (.BoolOp .Or (b :: rest) pos) (tOf X.K ca W mb)) : PE X (.BoolOp .Or (a :: b :: rest) pos) (tOf X.K ca W (mOr ma mb)) :=
  weakE (pe_or ha hb) fun σ H Q => by
    rintro ⟨ρ, M, S, re, rs, p⟩
    refine ⟨ρ, M, S, re, rs, (post_bind p).mono ?_⟩
    rintro x H1 ⟨M1, S1, d, e1, rs1, r1, p1⟩
    cases d <;> first | exact p1.elim | skip
    next b =>
      refine ⟨b, r1, ?_⟩
      cases b with
      | false => exact ⟨ρ, M1, S1, re.ext e1, rs1, p1⟩
      | true => exact p1 _ M1 H1 (Ext.refl _ _) rs1 rfl
theorem q_not {a : Expr} {pos : Pos} {ma : ME} (ha : PE X a (tOf X.K ca W ma)) : PE X (.UnaryOp .Not a pos) (tOf X.K ca W (mNot ma)) := weakE (pe_not ha) fun σ H Q => by
  rintro ⟨ρ, M, S, re, rs, p⟩
  refine ⟨ρ, M, S, re, rs, (post_bind p).mono ?_⟩
  rintro x H1 ⟨M1, S1, d, e1, rs1, r1, p1⟩
  cases d <;> first | exact p1.elim | skip
  next b => exact ⟨b, r1, p1 _ M1 H1 (Ext.refl _ _) rs1 rfl⟩
theorem q_ifExp {c a b : Expr} {pos : Pos} {mc ma mb : ME} (hc : PT X c (tOfT X.K ca W mc)) (ha : PE X a (tOf X.K ca W ma)) (hb : PE X b (tOf X.K ca W mb)) : PE X (.IfExp c a b pos) (tOf X.K ca W (mIf mc ma mb)) :=
  weakE (pe_ifExp hc ha hb) fun σ H Q => by
    rintro ⟨ρ, M, S, re, rs, p⟩
    refine ⟨ρ, M, S, re, rs, ?_⟩
    unfold mIf at p
    cases q : mc ρ S with
    | ok d S' =>
      rw [q] at p
      cases d <;> first | exact p.elim | skip
      next b =>
        cases b with
        | true =>
          intro b' M' H' e rs' hb
          subst hb
          show tOf X.K ca W ma σ H' Q
          exact ⟨ρ, M', S', re.ext e, rs', p.up e⟩
        | false =>
          intro b' M' H' e rs' hb
          subst hb
          show tOf X.K ca W mb σ H' Q
          exact ⟨ρ, M', S', re.ext e, rs', p.up e⟩
    | ex c S' => rw [q] at p; exact p
    | err => rw [q] at p; exact p
end

/-! ### statements -/
section
variable {X : Cx} {ca : Nat → Addr} {W : XW}
abbrev wx (W : XW) : WX := fun c d _ H => W c d H
def sSeq (a b : MS) : MS := fun ρ S => match a ρ S with
  | .ok (.nx r) S1 => b r S1
  | r => r
def sNil : MS := fun ρ S => .ok (.nx ρ) S
def sIf (c : ME) (a b : MS) : MS := fun ρ S => (c ρ S).bind fun d S1 => match d with
  | .bl true => a ρ S1
  | .bl false => b ρ S1
  | _ => .err
def sAsg (i : Nat) (a : ME) : MS := fun ρ S => (a ρ S).bind fun d S1 => .ok (.nx (ρ.set i (some d))) S1
def sRet (a : ME) : MS := fun ρ S => (a ρ S).bind fun d S1 => .ok (.rt d) S1
def sRetN : MS := fun ρ S => .ok (.rt .non) S
def sDrop (a : ME) : MS := fun ρ S => (a ρ S).bind fun _ S1 => .ok (.nx ρ) S1
def sBrk : MS := fun ρ S => .ok (.bk ρ) S
def sCt : MS := fun ρ S => .ok (.ct ρ) S
theorem qs_seq {st : Stmt} {rest : List Stmt} {a b : MS} (h1 : PS X st (tSOf X.K ca W a)) (h2 : PSs X rest (tSOf X.K ca W b)) : PSs X (st :: rest) (tSOf X.K ca W (sSeq a b)) := weakSs (pss_cons h1 h2) fun D σ H => by
  rintro ⟨ρ, M, S, re, rs, p⟩
  refine ⟨ρ, M, S, re, rs, ?_⟩
  unfold sSeq at p
  cases q : a ρ S with
  | ok f S' =>
    rw [q] at p
    cases f with
    | nx r => exact fun σ' M' H' e rs' re' => ⟨r, M', S', re', rs', p.up e⟩
    | rt d => exact p
    | bk r => exact p
    | ct r => exact p
  | ex c S' => rw [q] at p; exact p
  | err => rw [q] at p; exact p
theorem qs_one {st : Stmt} {a : MS} (h1 : PS X st (tSOf X.K ca W a)) : PSs X [st] (tSOf X.K ca W a) := pss_one h1
theorem qs_nil : PSs X [] (tSOf X.K ca W sNil) := weakSs pss_nil fun D σ H => by
  rintro ⟨ρ, M, S, re, rs, p⟩
  exact p σ M H (Ext.refl _ _) rs re
theorem qs_pass {pos : Pos} : PS X (.Pass pos) (tSOf X.K ca W sNil) := weakS ps_pass fun D σ H => by
  rintro ⟨ρ, M, S, re, rs, p⟩
  exact p σ M H (Ext.refl _ _) rs re
theorem qs_brk {pos : Pos} : PS X (.Break pos) (tSOf X.K ca W sBrk) := weakS ps_break fun D σ H => by
  rintro ⟨ρ, M, S, re, rs, p⟩
  exact p σ M H (Ext.refl _ _) rs re
theorem qs_ct {pos : Pos} : PS X (.Continue pos) (tSOf X.K ca W sCt) := weakS ps_continue fun D σ H => by
  rintro ⟨ρ, M, S, re, rs, p⟩
  exact p σ M H (Ext.refl _ _) rs re
theorem qs_if {c : Expr} {as bs : List Stmt} {pos : Pos} {mc : ME} {a b : MS} (hc : PT X c (tOfT X.K ca (wx W) mc)) (ha : PSs X as (tSOf X.K ca W a)) (hb : PSs X bs (tSOf X.K ca W b)) : PS X (.If c as bs pos) (tSOf X.K ca W (sIf mc a b)) :=
  weakS (ps_if hc ha hb) fun D σ H => by
    rintro ⟨ρ, M, S, re, rs, p⟩
    refine ⟨ρ, M, S, re, rs, ?_⟩
    unfold sIf at p
    cases q : mc ρ S with
    | ok d S' =>
      rw [q] at p
      cases d <;> first | exact p.elim | skip
      next b =>
        cases b with
        | true =>
          intro b' M' H' e rs' hb
          subst hb
          show tSOf X.K ca W a D σ H'
          exact ⟨ρ, M', S', re.ext e, rs', p.up e⟩
        | false =>
          intro b' M' H' e rs' hb
          subst hb
          show tSOf X.K ca W _ D σ H'
          exact ⟨ρ, M', S', re.ext e, rs', p.up e⟩
    | ex c S' => rw [q] at p; exact p
    | err => rw [q] at p; exact p
theorem asg_of {a : ME} {i : Nat} (D : Ends) (σ : L2.St) (H : Hp) : tSOf X.K ca W (sAsg i a) D σ H → tAsg (tOf X.K ca (wx W) a) (gName i) D σ H := by
  rintro ⟨ρ, M, S, re, rs, p⟩
  refine ⟨ρ, M, S, re, rs, (post_bindS p).mono ?_⟩
  rintro x H1 ⟨M1, S1, d, e1, rs1, r1, p1⟩
  exact p1 _ M1 H1 (Ext.refl _ _) rs1 ((re.ext e1).set i r1)
theorem qs_set {i : Nat} {x : Str} {e : Expr} {a : ME} {pos pos' : Pos} (he : PE X e (tOf X.K ca (wx W) a)) (hN : X.N.Nodup) (hi : X.N[i]? = some x) (hx : Loc X.env.scope x) (hs : swapsWith e (some (.Name x pos')) pos.line X.env = pure false := by rfl)
    (hf : X.fn x = true ∨ X.env.scope.names.lookup x = some .local := by first | exact .inl rfl | exact .inr rfl | assumption) : PS X (.Assign [.Name x pos'] e pos) (tSOf X.K ca W (sAsg i a)) :=
  weakS (ps_set hN hi hx he hs hf) asg_of
theorem qs_ret {e : Expr} {a : ME} {pos : Pos} (he : PE X e (tOf X.K ca (wx W) a)) : PS X (.Return (some e) pos) (tSOf X.K ca W (sRet a)) := weakS (ps_ret he) fun D σ H => by
  rintro ⟨ρ, M, S, re, rs, p⟩
  refine ⟨ρ, M, S, re, rs, (post_bindS p).mono ?_⟩
  rintro x H1 ⟨M1, S1, d, e1, rs1, r1, p1⟩
  exact p1 _ M1 H1 (Ext.refl _ _) rs1 r1
theorem qs_retN {pos : Pos} : PS X (.Return none pos) (tSOf X.K ca W sRetN) := weakS ps_retN fun D σ H => by
  rintro ⟨ρ, M, S, re, rs, p⟩
  exact p .non M H (Ext.refl _ _) rs rfl
theorem qs_expr {e : Expr} {a : ME} {pos : Pos} (he : PE X e (tOf X.K ca (wx W) a)) (hs : swapsWith e none pos.line X.env = pure false := by rfl) : PS X (.Expr e pos) (tSOf X.K ca W (sDrop a)) := weakS (ps_expr he hs) fun D σ H => by
  rintro ⟨ρ, M, S, re, rs, p⟩
  refine ⟨ρ, M, S, re, rs, (post_bindS p).mono ?_⟩
  rintro x H1 ⟨M1, S1, d, e1, rs1, r1, p1⟩
  exact p1 σ M1 H1 (Ext.refl _ _) rs1 (re.ext e1)
end
end Sm
/-! S3: loops, comprehensions, calls -/
namespace Sm
open PySem PySem.Spec PyProof.Rows L2
open Classical

def setAll : List Nat → List D → Env → Env
  | i :: is, d :: ds, r => setAll is ds (r.set i (some d))
  | _, _, r => r
def setV : List Nat → List V → L2.St → L2.St
  | i :: is, v :: vs, s => setV is vs (s.set i (some v))
  | _, _, s => s
def wipeE (r : Env) : List Nat → Env
  | [] => r
  | v :: vs => (wipeE r vs).set v none
/-- a list that is read -/
def seqL (S : Store) : D → Option (List D)
  | .lst ds => some ds
  | .cell n => match S[n]? with
    | some (.lst ds) => some ds
    | _ => none
  | .scr ns => some (ns.map D.int)
  | _ => none
@[simp] theorem seqL_lst (S : Store) (ds : List D) : seqL S (.lst ds) = some ds := rfl
@[simp] theorem seqL_scr (S : Store) (ns : List Int) : seqL S (.scr ns) = some (ns.map D.int) := rfl

section
variable {K : PySem.W.Frag} {ca : Nat → Addr} {H H' H1 : Hp} {M M' M1 : Cells} {S : Store}
theorem REnv.setAll : ∀ {is : List Nat} {ds : List D} {vs : List V} {r : Env} {s : L2.St}, REnv K ca H M r s → RepL K ca H M ds vs → REnv K ca H M (Sm.setAll is ds r) (setV is vs s)
  | [], [], [], _, _, h, _ => h
  | [], _ :: _, _ :: _, _, _, h, _ => h
  | _ :: _, [], [], _, _, h, _ => h
  | i :: is, d :: ds, v :: vs, r, s, h, q => REnv.setAll (is := is) (h.set i q.1) q.2
  | _, [], _ :: _, _, _, _, q => q.elim
  | _, _ :: _, [], _, _, _, q => q.elim
theorem REnv.setNone : ∀ {r : Env} {s : L2.St} (i : Nat), REnv K ca H M r s → REnv K ca H M (r.set i none) (s.set i none)
  | [], [], _, h => h
  | none :: r, _ :: s, 0, h => h
  | some _ :: r, some _ :: s, 0, h => h.2
  | none :: r, _ :: s, i + 1, h => REnv.setNone (r := r) (s := s) i h
  | some _ :: r, some _ :: s, i + 1, h => ⟨h.1, REnv.setNone (r := r) (s := s) i h.2⟩
  | [], _ :: _, _, h => h.elim
  | some _ :: _, none :: _, _, h => h.elim
  | none :: _, [], _, h => h.elim
  | some _ :: _, [], _, h => h.elim
theorem REnv.wipe {r : Env} {s : L2.St} (h : REnv K ca H M r s) : ∀ vs : List Nat, REnv K ca H M (wipeE r vs) (L2.wipe s vs)
  | [] => h
  | v :: vs => (REnv.wipe h vs).setNone v
theorem REnv.hide {p : Addr} (hp : H p = none) (o : HO) : ∀ {r : Env} {s : L2.St}, REnv K ca H M r s → REnv K ca (upd H p o) (M.hide p) r s
  | [], [], h => h
  | none :: r, _ :: s, h => REnv.hide (r := r) (s := s) hp o h
  | some d :: r, some v :: s, h => ⟨Rep.hide hp o d v h.1, REnv.hide (r := r) (s := s) hp o h.2⟩
  | [], _ :: _, h => h.elim
  | some _ :: _, none :: _, h => h.elim
  | none :: _, [], h => h.elim
  | some _ :: _, [], h => h.elim
theorem REnv.rehide {p : Addr} (hp : p ∈ M.h) (o : HO) : ∀ {r : Env} {s : L2.St}, REnv K ca H M r s → REnv K ca (upd H p o) M r s
  | [], [], h => h
  | none :: r, _ :: s, h => REnv.rehide (r := r) (s := s) hp o h
  | some d :: r, some v :: s, h => ⟨Rep.rehide hp o d v h.1, REnv.rehide (r := r) (s := s) hp o h.2⟩
  | [], _ :: _, h => h.elim
  | some _ :: _, none :: _, h => h.elim
  | none :: _, [], h => h.elim
  | some _ :: _, [], h => h.elim
theorem ints_rep (ns : List Int) : RepL K ca H M (ns.map D.int) (ns.map V.int) := by
  induction ns with
  | nil => trivial
  | cons n ns ih => exact ⟨rfl, ih⟩
theorem seq_rep (rs : RelS K ca H M S) {d : D} {v : V} {ds : List D} (r : Rep K ca H M d v) (h : seqL S d = some ds) : ∃ a xs, v = .ref a ∧ SqL K H a xs ∧ RepL K ca H M ds xs ∧ xs.length ≤ sizeLine := by
  cases d with
  | lst es =>
    cases h
    obtain ⟨a, xs, e, h1, n, z, q⟩ := r
    exact ⟨a, xs, e, SqL.of h1, q, z⟩
  | cell n =>
    have h : (match S[n]? with
      | some (.lst ds) => some ds
      | _ => none) = some ds := h
    split at h
    · next es e =>
      cases h
      obtain ⟨a, xs, hm, h1, z, q⟩ := rs.lst e
      obtain ⟨x, hx, hv⟩ := r
      rw [hm] at hx; cases hx
      exact ⟨a, xs, hv a rfl, SqL.of h1, q, z⟩
    · cases h
  | scr ns =>
    cases h
    obtain ⟨a, e, q, z⟩ := r
    refine ⟨a, _, e, ?_, ints_rep ns, by simpa using z⟩
    rcases q with q | q
    · exact .inl q.1
    · exact .inr q
  | non => cases h
  | bl _ => cases h
  | int _ => cases h
  | str _ => cases h
  | tup _ => cases h
  | obj _ _ _ => cases h
  | exc _ => cases h
end

/-! ### what is walked -/
/-- what is frozen stays -/
def Still (H0 H : Hp) : Prop := ∀ b od u, H0 b = some (.frz od u) → H b = some (.frz od u)
structure Walk (K : PySem.W.Frag) (ca : Nat → Addr) (H0 : Hp) (J : It) (g : TG) (src : List D) (vs : List V) (tg : List Nat) (items : Store → Option (List (List D))) : Prop where
  size : ∀ H M S its, Still H0 H → RelS K ca H M S → RepL K ca H M src vs → items S = some its → its.length ≤ sizeLine
  turn : ∀ H M S its (i : Nat), Still H0 H → RelS K ca H M S → RepL K ca H M src vs → items S = some its →
    (its.length ≤ i → J.stop i H) ∧ ∀ item, its[i]? = some item → J.go i H ∧ ∀ x H', J.yld i H x H' →
      Ext H M H' M ∧ RelS K ca H' M S ∧ ∃ us, RepL K ca H' M item us ∧ ∀ σ Q, Q (setV tg us σ) H' → g x σ H' Q
def IterOk (K : PySem.W.Frag) (ca : Nat → Addr) (W : WX) (wi : TI) (args : Env → Store → R (List D)) (items : List D → Store → Option (List (List D))) (tg : List Nat) (g : TG) : Prop :=
  ∀ σ H Rr ρ M S, REnv K ca H M ρ σ → RelS K ca H M S →
    Post K ca (rL K ca) H M (fun vs H1 => ∃ M1 S1 src its, Ext H M H1 M1 ∧ RelS K ca H1 M1 S1 ∧ RepL K ca H1 M1 src vs ∧ items src S1 = some its ∧ ∀ J, Walk K ca H1 J g src vs tg (items src) → Rr J H1) (fun c d H' => W c d σ H') (args ρ S) → wi σ H Rr

/-- nothing is raised here -/
def R.nox {A : Type} : R A → R A
  | .ok a S => .ok a S
  | _ => .err
@[simp] theorem nox_ok {A : Type} (a : A) (S : Store) : (R.ok a S).nox = .ok a S := rfl
noncomputable def forL (items : Store → Option (List (List D))) (its : List (List D)) (tg : List Nat) (body : MS) : List (List D) → Env → Store → R Fl
  | [], ρ, S => if items S = some its then .ok (.nx ρ) S else .err
  | d :: ds, ρ, S => if items S = some its then (match body (setAll tg d ρ) S with
      | .ok (.nx r) S2 => forL items its tg body ds r S2
      | .ok (.ct r) S2 => forL items its tg body ds r S2
      | .ok (.bk r) S2 => .ok (.nx r) S2
      | r => r) else .err
noncomputable def sFor (args : Env → Store → R (List D)) (items : List D → Store → Option (List (List D))) (tg : List Nat) (body : MS) : MS := fun ρ S => (args ρ S).bind fun src S1 => match items src S1 with
  | none => .err
  | some its => forL (items src) its tg body its ρ S1
noncomputable def compL (items : Store → Option (List (List D))) (its : List (List D)) (tg : List Nat) (ρ : Env) (cond elt : ME) : List (List D) → Store → R (List D)
  | [], S => if items S = some its then .ok [] S else .err
  | d :: ds, S => if items S = some its then (cond (setAll tg d ρ) S).nox.bind fun b S1 => (match b with
      | .bl true => (elt (setAll tg d ρ) S1).nox.bind fun y S2 => (compL items its tg ρ cond elt ds S2).bind fun ys S3 => .ok (y :: ys) S3
      | .bl false => compL items its tg ρ cond elt ds S1
      | _ => .err) else .err
/-- a new list: data, or a cell -/
def finL (c : Bool) (ys : List D) (S : Store) : R D := if c then .ok (.cell S.length) (S ++ [.lst ys]) else .ok (.lst ys) S
noncomputable def mComp (c : Bool) (args : Env → Store → R (List D)) (items : List D → Store → Option (List (List D))) (tg own : List Nat) (cond elt : ME) : ME := fun ρ S => (args ρ S).bind fun src S1 => match items src S1 with
  | none => .err
  | some its => (compL (items src) its tg (wipeE ρ own) cond elt its S1).bind fun ys S2 => finL c ys S2

section
variable {X : Cx} {ca : Nat → Addr} {W : XW}
theorem for_of {wi : TI} {g : TG} {args : Env → Store → R (List D)} {items : List D → Store → Option (List (List D))} {tg : List Nat} {mb : MS} (it : IterOk X.K ca (wx W) wi args items tg g) (De : Ends) (σ : L2.St) (H : Hp) :
    tSOf X.K ca W (sFor args items tg mb) De σ H → tFor wi g (tSOf X.K ca W mb) De σ H := by
  rintro ⟨ρ, M, S, re, rs, p⟩
  refine it σ H _ ρ M S re rs ((post_bindS p).mono ?_)
  rintro vs H1 ⟨M1, S1, src, e1, rs1, r1, p1⟩
  split at p1
  · exact p1.elim
  next its hi =>
  refine ⟨M1, S1, src, its, e1, rs1, r1, hi, fun J wk => ?_⟩
  refine ⟨fun i m σ' H' => ∃ ρ' M' S', m = its.length - i ∧ i ≤ its.length ∧ Still H1 H' ∧ RepL X.K ca H' M' src vs ∧ REnv X.K ca H' M' ρ' σ' ∧ RelS X.K ca H' M' S' ∧ PostS X.K ca H' M' De W (forL (items src) its tg mb (its.drop i) ρ' S'),
    ⟨_, ρ, M1, S1, rfl, Nat.zero_le _, (fun _ _ _ h => h), r1, re.ext e1, rs1, by simpa using p1⟩, ?_⟩
  rintro i m σ' H' ⟨ρ', M', S', rfl, hle, st, rv, re', rs', p'⟩
  by_cases hlt : i < its.length
  · rw [List.drop_eq_getElem_cons hlt] at p'
    unfold forL at p'
    split at p'
    · next hsame =>
      obtain ⟨_, t2⟩ := wk.turn H' M' S' its i st rs' rv hsame
      obtain ⟨go, yl⟩ := t2 its[i] (List.getElem?_eq_getElem hlt)
      refine .inr ⟨go, fun σ2 H2 => ∃ ρ2 M2 S2, Still H1 H2 ∧ RepL X.K ca H2 M2 src vs ∧ REnv X.K ca H2 M2 ρ2 σ2 ∧ RelS X.K ca H2 M2 S2 ∧ PostS X.K ca H2 M2 De W (forL (items src) its tg mb (its.drop (i + 1)) ρ2 S2), ?_, fun x Hx hy => ?_⟩
      · rintro σ2 H2 ⟨ρ2, M2, S2, st2, a, b, c, d⟩
        exact ⟨its.length - (i + 1), by omega, ρ2, M2, S2, rfl, hlt, st2, a, b, c, d⟩
      · obtain ⟨ex, rsx, us, ru, gx⟩ := yl x Hx hy
        refine gx σ' _ ?_
        refine ⟨setAll tg its[i] ρ', M', S', (re'.ext ex).setAll ru, rsx, ?_⟩
        have p2 := p'.up ex
        have rv2 := RepL.ext ex _ _ rv
        cases q : mb (setAll tg its[i] ρ') S' with
        | ok f S2 =>
          rw [q] at p2
          cases f with
          | nx r => exact fun σ2 M2 H2 e2 rs2 re2 => ⟨r, M2, S2, fun b od u h => e2.fz b od u (ex.fz b od u (st b od u h)), RepL.ext e2 _ _ rv2, re2, rs2, p2.up e2⟩
          | ct r => exact fun σ2 M2 H2 e2 rs2 re2 => ⟨r, M2, S2, fun b od u h => e2.fz b od u (ex.fz b od u (st b od u h)), RepL.ext e2 _ _ rv2, re2, rs2, p2.up e2⟩
          | bk r => exact p2
          | rt d => exact p2
        | ex c S2 => rw [q] at p2; exact p2
        | err => rw [q] at p2; exact p2
    · exact p'.elim
  · have hi' : its.drop i = [] := List.drop_eq_nil_of_le (by omega)
    rw [hi'] at p'
    unfold forL at p'
    split at p'
    · next hsame =>
      obtain ⟨t1, _⟩ := wk.turn H' M' S' its i st rs' rv hsame
      exact .inl ⟨t1 (by omega), p' σ' M' H' (Ext.refl _ _) rs' re'⟩
    · exact p'.elim
theorem qs_for {tgx iter : Expr} {body : List Stmt} {wi : TI} {g : TG} {pos : Pos} {args : Env → Store → R (List D)} {items : List D → Store → Option (List (List D))} {tg : List Nat} {mb : MS} (it : IterOk X.K ca (wx W) wi args items tg g)
    (hp : PassesOwn (model X.prog X.w) X.A X.env X.xe) (hc : X.calm = true) (hi : PI X tgx iter wi) (hg : PG X tgx g) (hb : PSs X body (tSOf X.K ca W mb)) (hs : ∀ x, foldedSetIterable iter X.env x = pure x := by intro _; rfl) :
    PS X (.For tgx iter body [] pos) (tSOf X.K ca W (sFor args items tg mb)) := weakS (ps_for hp hc hi hg hb hs) (for_of it)

/-! ### while -/
def whileN (c : ME) (b : MS) : Nat → MS
  | 0, _, _ => .err
  | k + 1, ρ, S => (c ρ S).bind fun d S1 => match d with
    | .bl true => (match b ρ S1 with
      | .ok (.nx r) S2 => whileN c b k r S2
      | .ok (.ct r) S2 => whileN c b k r S2
      | .ok (.bk r) S2 => .ok (.nx r) S2
      | r => r)
    | .bl false => .ok (.nx ρ) S1
    | _ => .err
theorem qs_while {c : Expr} {body : List Stmt} {pos : Pos} {mc : ME} {mb : MS} (n : Nat) (hp : PassesOwn (model X.prog X.w) X.A X.env X.xe) (hc : PT X c (tOfT X.K ca (wx W) mc)) (hb : PSs X body (tSOf X.K ca W mb)) :
    PS X (.While c body [] pos) (tSOf X.K ca W (whileN mc mb n)) := weakS (ps_while hp hc hb) fun De σ H => by
  rintro ⟨ρ, M, S, re, rs, p⟩
  refine ⟨fun m σ H => ∃ ρ M S, REnv X.K ca H M ρ σ ∧ RelS X.K ca H M S ∧ PostS X.K ca H M De W (whileN mc mb m ρ S), ⟨n, ρ, M, S, re, rs, p⟩, ?_⟩
  clear p rs re
  rintro m σ H ⟨ρ, M, S, re, rs, p⟩
  cases m with
  | zero => exact p.elim
  | succ k =>
    refine ⟨ρ, M, S, re, rs, ?_⟩
    unfold whileN at p
    cases q : mc ρ S with
    | ok d S' =>
      rw [q] at p
      cases d <;> first | exact p.elim | skip
      next b =>
        cases b with
        | false =>
          intro b' M' H' e rs' hb
          subst hb
          exact p σ M' H' e rs' (re.ext e)
        | true =>
          intro b' M' H' e rs' hb
          subst hb
          refine ⟨fun σ2 H2 => ∃ ρ2 M2 S2, REnv X.K ca H2 M2 ρ2 σ2 ∧ RelS X.K ca H2 M2 S2 ∧ PostS X.K ca H2 M2 De W (whileN mc mb k ρ2 S2), fun σ2 H2 h2 => ⟨k, Nat.lt_succ_self _, h2⟩, ?_⟩
          refine ⟨ρ, M', S', re.ext e, rs', ?_⟩
          have p2 := p.up e
          cases q2 : mb ρ S' with
          | ok f S2 =>
            have p2 : PostS X.K ca H' M' De W (match mb ρ S' with
              | .ok (.nx r) S2 => whileN mc mb k r S2
              | .ok (.ct r) S2 => whileN mc mb k r S2
              | .ok (.bk r) S2 => .ok (.nx r) S2
              | r => r) := p2
            rw [q2] at p2
            cases f with
            | nx r => exact fun σ2 M2 H2 e2 rs2 re2 => ⟨r, M2, S2, re2, rs2, p2.up e2⟩
            | ct r => exact fun σ2 M2 H2 e2 rs2 re2 => ⟨r, M2, S2, re2, rs2, p2.up e2⟩
            | bk r => exact p2
            | rt d => exact p2
          | ex c S2 =>
            have p2 : PostS X.K ca H' M' De W (match mb ρ S' with
              | .ok (.nx r) S2 => whileN mc mb k r S2
              | .ok (.ct r) S2 => whileN mc mb k r S2
              | .ok (.bk r) S2 => .ok (.nx r) S2
              | r => r) := p2
            rw [q2] at p2; exact p2
          | err =>
            have p2 : PostS X.K ca H' M' De W (match mb ρ S' with
              | .ok (.nx r) S2 => whileN mc mb k r S2
              | .ok (.ct r) S2 => whileN mc mb k r S2
              | .ok (.bk r) S2 => .ok (.nx r) S2
              | r => r) := p2
            rw [q2] at p2; exact p2
    | ex c S' => rw [q] at p; exact p
    | err => rw [q] at p; exact p
end

/-! ### comprehensions -/
section
variable {X : Cx} {ca : Nat → Addr} {W : WX}
theorem wipe_setV {own : List Nat} : ∀ {tg : List Nat} {us : List V} {σ : L2.St}, (∀ i ∈ tg, i ∈ own) → L2.wipe (setV tg us σ) own = L2.wipe σ own
  | [], _, _, _ => by unfold setV; rfl
  | _ :: _, [], _, _ => by unfold setV; rfl
  | i :: tg, u :: us, σ, h => by
    show L2.wipe (setV tg us (σ.set i (some u))) own = _
    rw [wipe_setV fun j hj => h j (List.mem_cons_of_mem _ hj)]
    have key : ∀ (own : List Nat) (σ : L2.St), i ∈ own → L2.wipe (σ.set i (some u)) own = L2.wipe σ own := by
      intro own
      induction own with
      | nil => intro _ h; exact absurd h (by simp)
      | cons v vs ih =>
        intro σ h
        unfold L2.wipe
        by_cases hm : i ∈ vs
        · rw [ih σ hm]
        · rcases List.mem_cons.mp h with z | z
          · subst z
            have out : ∀ (vs : List Nat) (σ : L2.St), i ∉ vs → L2.wipe (σ.set i (some u)) vs = (L2.wipe σ vs).set i (some u) := by
              intro vs
              induction vs with
              | nil => intro _ _; rfl
              | cons y ys ih2 =>
                intro σ hn
                unfold L2.wipe
                rw [ih2 σ fun q => hn (List.mem_cons_of_mem _ q)]
                exact List.set_comm _ _ (fun q => hn (by rw [q]; exact List.mem_cons_self))
            rw [out vs σ hm, List.set_set]
          · exact absurd z hm
    exact key own σ (h i List.mem_cons_self)
theorem wipe_wipe : ∀ (own : List Nat) (σ : L2.St), L2.wipe (L2.wipe σ own) own = L2.wipe σ own := by
  intro own
  have comm : ∀ (vs : List Nat) (σ : L2.St) (i : Nat), L2.wipe (σ.set i none) vs = (L2.wipe σ vs).set i none := by
    intro vs
    induction vs with
    | nil => intro _ _; rfl
    | cons y ys ih =>
      intro σ i
      unfold L2.wipe
      rw [ih σ i]
      by_cases q : y = i
      · subst q; rfl
      · exact List.set_comm _ _ (fun z => q z.symm)
  induction own with
  | nil => intro _; rfl
  | cons v vs ih =>
    intro σ
    show (L2.wipe ((L2.wipe σ vs).set v none) vs).set v none = (L2.wipe σ vs).set v none
    rw [comm vs _ v, ih σ, List.set_set]
theorem bind_assoc {A B C : Type} (r : R A) (f : A → Store → R B) (g : B → Store → R C) : (r.bind f).bind g = r.bind fun a S => (f a S).bind g := by cases r <;> rfl
theorem finL_new {K : PySem.W.Frag} {H : Hp} {M : Cells} {Q : VK} {Wx : XW} {c : Bool} {ys : List D} {S : Store} {p : Addr} {xs : List V} (h : Post K ca (rD K ca) H M Q Wx (finL c ys S)) (rs : RelS K ca H M S) (hp : H p = none)
    (z : xs.length ≤ sizeLine) (r : RepL K ca H M ys xs) : Q (.ref p) (upd H p (.lst xs)) := by
  unfold finL at h
  cases c with
  | false => exact h _ M _ (ext_new hp _) (rs.new hp _) ⟨p, xs, rfl, upd_same, rs.fresh hp, z, RepL.ext (ext_new hp _) _ _ r⟩
  | true =>
    refine h _ (M.push p) _ (ext_cell hp _) (rs.cell hp _ ⟨p, xs, rfl, upd_same, z, RepL.ext (ext_cell hp _) _ _ r⟩) ⟨some p, ?_, fun a q => by cases q; rfl⟩
    show (M.c ++ [some p])[S.length]? = _
    rw [← rs.len]; simp
section
variable {K : PySem.W.Frag} {H : Hp} {M M2 : Cells}
mutual
theorem Rep.live (hl : ∀ a, ¬ Live M a → ¬ Live M2 a) (hc : ∀ (n : Nat) x, M.c[n]? = some x → M2.c[n]? = some x) : ∀ (d : D) (v : V), Rep K ca H M d v → Rep K ca H M2 d v
  | .non, _, h => h
  | .bl _, _, h => h
  | .int _, _, h => h
  | .str _, _, h => h
  | .tup ds, v, h => by
    obtain ⟨a, xs, r, h1, n, q⟩ := h
    exact ⟨a, xs, r, h1, hl a n, RepL.live hl hc ds xs q⟩
  | .lst ds, v, h => by
    obtain ⟨a, xs, r, h1, n, z, q⟩ := h
    exact ⟨a, xs, r, h1, hl a n, z, RepL.live hl hc ds xs q⟩
  | .obj c ns ds, v, h => by
    obtain ⟨a, dx, fs, r, h1, n, z, q⟩ := h
    exact ⟨a, dx, fs, r, h1, hl a n, z, RepL.live hl hc ds _ q⟩
  | .cell n, v, h => by
    obtain ⟨x, hx, q⟩ := h
    exact ⟨x, hc n x hx, q⟩
  | .scr ns, v, h => by
    obtain ⟨a, r, q, z⟩ := h
    exact ⟨a, r, q.imp (fun p => ⟨p.1, hl a p.2⟩) id, z⟩
  | .exc _, _, h => h
theorem RepL.live (hl : ∀ a, ¬ Live M a → ¬ Live M2 a) (hc : ∀ (n : Nat) x, M.c[n]? = some x → M2.c[n]? = some x) : ∀ (ds : List D) (vs : List V), RepL K ca H M ds vs → RepL K ca H M2 ds vs
  | [], [], h => h
  | d :: ds, v :: vs, h => ⟨Rep.live hl hc d v h.1, RepL.live hl hc ds vs h.2⟩
  | [], _ :: _, h => h.elim
  | _ :: _, [], h => h.elim
end
end
/-- a list that was hidden while it was made comes to light -/
theorem finL_hid {K : PySem.W.Frag} {H1 H : Hp} {M1 M : Cells} {Q : VK} {Wx : XW} {c : Bool} {ys : List D} {S S1 : Store} {L : Addr} {xs : List V} (h : Post K ca (rD K ca) H1 M1 Q Wx (finL c ys S)) (e : Ext H1 M1 H (M.as M1.h)) (hM : M.h = L :: M1.h)
    (rs1 : RelS K ca H1 M1 S1) (rs : RelS K ca H M S) (hL : H L = some (.lst xs)) (h1 : H1 L = none) (z : xs.length ≤ sizeLine) (r : RepL K ca H M ys xs) : Q (.ref L) H := by
  have inL : L ∈ M.h := by rw [hM]; exact List.mem_cons_self
  have sub : ∀ b, b ∈ M1.h → b ∈ M.h := fun b hb => by rw [hM]; exact List.mem_cons_of_mem _ hb
  have nL : L ∉ M1.h := fun q => (rs1.hid L q).1 h1
  have nc : ¬ CLive M L := (rs.hid L inL).2
  unfold finL at h
  cases c with
  | false =>
    refine h (.ref L) (M.as M1.h) H e (rs.as sub) ⟨L, xs, rfl, hL, ?_, z, RepL.as sub _ _ r⟩
    rintro (q | q)
    · exact nc q
    · exact nL q
  | true =>
    have lv : ∀ a, ¬ Live M a → ¬ Live ((M.as M1.h).push L) a := fun a n => by
      rintro (⟨i, q⟩ | q)
      · have q : (M.c ++ [some L])[i]? = some (some a) := q
        by_cases hi : i < M.c.length
        · rw [List.getElem?_append_left hi] at q; exact n (.inl ⟨i, q⟩)
        · rw [List.getElem?_append_right (by omega)] at q
          cases k : i - M.c.length with
          | zero => rw [k] at q; simp at q; subst q; exact n (.inr inL)
          | succ m => rw [k] at q; simp at q
      · exact n (.inr (sub _ q))
    have cc : ∀ (n : Nat) x, M.c[n]? = some x → ((M.as M1.h).push L).c[n]? = some x := fun n x hx => by
      show (M.c ++ [some L])[n]? = some x
      rw [List.getElem?_append_left (List.getElem?_eq_some_iff.mp hx).1]; exact hx
    have ex : Ext H1 M1 H ((M.as M1.h).push L) := by
      refine ⟨?_, fun l hl => ?_, fun l a hl q => ?_, e.fr, e.on, rfl, e.fz⟩
      · have := e.len; show M1.c.length ≤ (M.c ++ [some L]).length
        have : M1.c.length ≤ M.c.length := this
        simp; omega
      · show (M.c ++ [some L])[l]? = _ ∨ (M.c ++ [some L])[l]? = _
        have hl2 : l < M.c.length := Nat.lt_of_lt_of_le hl e.len
        rw [List.getElem?_append_left hl2]; exact e.old l hl
      · have q : (M.c ++ [some L])[l]? = some (some a) := q
        by_cases hlt : l < M.c.length
        · rw [List.getElem?_append_left hlt] at q; exact e.new l a hl q
        · rw [List.getElem?_append_right (by omega)] at q
          cases k : l - M.c.length with
          | zero => rw [k] at q; simp at q; rw [← q]; exact h1
          | succ n => rw [k] at q; simp at q
    refine h (.ref L) ((M.as M1.h).push L) H ex ⟨by show (M.c ++ [some L]).length = _; simp [rs.len], fun i j a h2 h3 => ?_, fun i mo hm => ?_, fun a ha => ⟨(rs.hid a (sub a ha)).1, ?_⟩, fun a ha => rs.hidt a (sub a ha)⟩ ⟨some L, ?_, fun a q => by cases q; rfl⟩
    · have h2 : (M.c ++ [some L])[i]? = some (some a) := h2
      have h3 : (M.c ++ [some L])[j]? = some (some a) := h3
      have cas : ∀ k : Nat, (M.c ++ [some L])[k]? = some (some a) → (M.c[k]? = some (some a) ∧ k < M.c.length) ∨ (k = M.c.length ∧ a = L) := fun k q => by
        by_cases hk : k < M.c.length
        · rw [List.getElem?_append_left hk] at q; exact .inl ⟨q, hk⟩
        · rw [List.getElem?_append_right (by omega)] at q
          cases kk : k - M.c.length with
          | zero => rw [kk] at q; simp at q; exact .inr ⟨by omega, q.symm⟩
          | succ m => rw [kk] at q; simp at q
      rcases cas i h2 with ⟨u1, _⟩ | ⟨u1, u2⟩ <;> rcases cas j h3 with ⟨w1, _⟩ | ⟨w1, w2⟩
      · exact rs.inj i j a u1 w1
      · subst w2; exact absurd ⟨i, u1⟩ nc
      · subst u2; exact absurd ⟨j, w1⟩ nc
      · omega
    · show ∃ x, (M.c ++ [some L])[i]? = some x ∧ _
      by_cases hi : i < S.length
      · rw [List.getElem?_append_left hi] at hm
        obtain ⟨x, hx, q⟩ := rs.cells i mo hm
        exact ⟨x, by rw [List.getElem?_append_left (by rw [rs.len]; exact hi)]; exact hx, q.map (fun ds vs => RepL.live lv cc ds vs) fun _ _ => rfl⟩
      · rw [List.getElem?_append_right (by omega)] at hm
        cases k : i - S.length with
        | succ n => rw [k] at hm; simp at hm
        | zero =>
          rw [k] at hm; simp at hm; subst hm
          exact ⟨some L, by rw [List.getElem?_append_right (by rw [rs.len]; omega), rs.len, k]; rfl, L, xs, rfl, hL, z, RepL.live lv cc _ _ r⟩
    · rintro ⟨i, q⟩
      have q : (M.c ++ [some L])[i]? = some (some a) := q
      by_cases hi : i < M.c.length
      · rw [List.getElem?_append_left hi] at q
        exact (rs.hid a (sub a ha)).2 ⟨i, q⟩
      · rw [List.getElem?_append_right (by omega)] at q
        cases k : i - M.c.length with
        | succ n => rw [k] at q; simp at q
        | zero => rw [k] at q; simp at q; subst q; exact nL ha
    · show (M.c ++ [some L])[S.length]? = _
      rw [← rs.len]; simp

/-- while the list is being made at L: what is reached, and what is still wanted -/
theorem comp_of {wi : TI} {g : TG} {args : Env → Store → R (List D)} {items : List D → Store → Option (List (List D))} {tg own : List Nat} {cond elt : ME} {c : Bool} (it : IterOk X.K ca W wi args items tg g) (hown : ∀ i ∈ tg, i ∈ own) {tt : TT} {te : TE}
    (ht : ∀ σ H Q, tOfT X.K ca (fun _ _ _ _ => False) cond σ H Q → tt σ H Q) (he : ∀ σ H Q, tOf X.K ca (fun _ _ _ _ => False) elt σ H Q → te σ H Q) (σ : L2.St) (H : Hp) (Q : VK) :
    tOf X.K ca W (mComp c args items tg own cond elt) σ H Q → tLc wi g tt te own σ H Q := by
  rintro ⟨ρ, M, S, re, rs, p⟩
  refine it σ H _ ρ M S re rs ((post_bind p).mono ?_)
  rintro vs H1 ⟨M1, S1, src, e1, rs1, r1, p1⟩
  split at p1
  · exact p1.elim
  next its hi =>
  refine ⟨M1, S1, src, its, e1, rs1, r1, hi, fun J wk L hL => ?_⟩
  have hsz := wk.size H1 M1 S1 its (fun _ _ _ h => h) rs1 r1 hi
  have rw1 := (re.ext e1).wipe own
  -- the invariant
  refine ⟨fun i m H' => ∃ M' S' acc accV, m = its.length - i ∧ i ≤ its.length ∧ Ext H1 M1 H' (M'.as M1.h) ∧ M'.h = L :: M1.h ∧ RepL X.K ca H' M' src vs ∧ REnv X.K ca H' M' (wipeE ρ own) (L2.wipe σ own) ∧ RelS X.K ca H' M' S' ∧
    H' L = some (.lst accV) ∧ RepL X.K ca H' M' acc accV ∧ acc.length ≤ i ∧
    Post X.K ca (rD X.K ca) H1 M1 Q (fun c d H' => W c d σ H') ((compL (items src) its tg (wipeE ρ own) cond elt (its.drop i) S').bind fun ys S2 => finL c (acc ++ ys) S2), ?_, ?_⟩
  · refine ⟨_, M1.hide L, S1, [], [], rfl, Nat.zero_le _, ?_, rfl, RepL.hide hL _ _ _ r1, REnv.hide hL _ rw1, rs1.hide hL _, upd_same, trivial, Nat.le_refl _, ?_⟩
    · exact (Ext.refl H1 M1).over hL _
    · simpa using p1
  · rintro i m H' ⟨M', S', acc, accV, rfl, hle, ex, hh, rv, re', rs', hL', ra, hal, p'⟩
    have inL : L ∈ M'.h := by rw [hh]; exact List.mem_cons_self
    have ncl : ¬ CLive M' L := (rs'.hid L inL).2
    by_cases hlt : i < its.length
    · rw [List.drop_eq_getElem_cons hlt] at p'
      unfold compL at p'
      by_cases hsame : items src S' = some its
      · rw [if_pos hsame] at p'
        obtain ⟨_, t2⟩ := wk.turn H' M' S' its i ex.fz rs' rv hsame
        obtain ⟨go, yl⟩ := t2 its[i] (List.getElem?_eq_getElem hlt)
        refine .inr ⟨go, fun H'' => ∃ M' S' acc accV, Ext H1 M1 H'' (M'.as M1.h) ∧ M'.h = L :: M1.h ∧ RepL X.K ca H'' M' src vs ∧ REnv X.K ca H'' M' (wipeE ρ own) (L2.wipe σ own) ∧ RelS X.K ca H'' M' S' ∧
          H'' L = some (.lst accV) ∧ RepL X.K ca H'' M' acc accV ∧ acc.length ≤ i + 1 ∧
          Post X.K ca (rD X.K ca) H1 M1 Q (fun c d H' => W c d σ H') ((compL (items src) its tg (wipeE ρ own) cond elt (its.drop (i + 1)) S').bind fun ys S2 => finL c (acc ++ ys) S2), ?_, fun x Hx hy => ?_⟩
        · rintro H'' ⟨M2, S2, acc2, accV2, a1, a2, a3, a4, a5, a6, a7, a8, a9⟩
          exact ⟨its.length - (i + 1), by omega, M2, S2, acc2, accV2, rfl, hlt, a1, a2, a3, a4, a5, a6, a7, a8, a9⟩
        obtain ⟨ex1, rsx, us, ru, gx⟩ := yl x Hx hy
        refine gx (L2.wipe σ own) _ ⟨?_, ?_⟩
        · rw [wipe_setV hown]; exact wipe_wipe own σ
        have re2 : REnv X.K ca Hx M' (setAll tg its[i] (wipeE ρ own)) (setV tg us (L2.wipe σ own)) := (re'.ext ex1).setAll ru
        refine ht _ Hx _ ⟨setAll tg its[i] (wipeE ρ own), M', S', re2, rsx, ?_⟩
        cases hq : cond (setAll tg its[i] (wipeE ρ own)) S' with
        | ex k S2 => rw [hq] at p'; exact p'.elim
        | err => rw [hq] at p'; exact p'.elim
        | ok d S2 =>
          rw [hq] at p'
          cases d <;> first | exact p'.elim | skip
          next b =>
            cases b with
            | false =>
              intro b' M2 H3 e2 rs2 hb
              subst hb
              have E := ex1.trans e2
              have hLa := E.fr L _ hL' ncl
              exact ⟨M2, S2, acc, accV, ex.trans (E.as _), E.hid.trans hh, RepL.ext E _ _ rv, re'.ext E, rs2, hLa, RepL.ext E _ _ ra, Nat.le_succ_of_le hal, p'⟩
            | true =>
              intro b' M2 H3 e2 rs2 hb
              subst hb
              show te _ H3 _
              refine he _ H3 _ ⟨setAll tg its[i] (wipeE ρ own), M2, S2, re2.ext e2, rs2, ?_⟩
              have p2 : Post X.K ca (rD X.K ca) H1 M1 Q (fun c d H' => W c d σ H') (((elt (setAll tg its[i] (wipeE ρ own)) S2).nox.bind fun y S2 => (compL (items src) its tg (wipeE ρ own) cond elt (its.drop (i + 1)) S2).bind fun ys S3 => .ok (y :: ys) S3).bind fun ys S2 => finL c (acc ++ ys) S2) := p'
              cases hq2 : elt (setAll tg its[i] (wipeE ρ own)) S2 with
              | ex k S3 => rw [hq2] at p2; exact p2.elim
              | err => rw [hq2] at p2; exact p2.elim
              | ok y S3 =>
                rw [hq2] at p2
                intro v M3 H4 e3 rs3 ry
                have E := (ex1.trans e2).trans e3
                have hLa := E.fr L _ hL' ncl
                have hM3 : M3.h = L :: M1.h := E.hid.trans hh
                have in3 : L ∈ M3.h := by rw [hM3]; exact List.mem_cons_self
                have hlen := ra.length
                refine ⟨accV, hLa, by omega, M3, S3, acc ++ [y], accV ++ [v], (ex.trans (E.as _)).over hL _, hM3, RepL.rehide in3 _ _ _ (RepL.ext E _ _ rv), REnv.rehide in3 _ (re'.ext E), rs3.rehide in3 _, upd_same,
                  RepL.rehide in3 _ _ _ ((RepL.ext E _ _ ra).app (RepL.one ry)), by simp; omega, ?_⟩
                simp only [nox_ok, bind_ok, bind_assoc] at p2
                simp only [List.append_assoc, List.cons_append, List.nil_append]
                exact p2
      · rw [if_neg hsame] at p'; exact p'.elim
    · have hi' : its.drop i = [] := List.drop_eq_nil_of_le (by omega)
      rw [hi'] at p'
      unfold compL at p'
      by_cases hsame : items src S' = some its
      · rw [if_pos hsame] at p'
        obtain ⟨t1, _⟩ := wk.turn H' M' S' its i ex.fz rs' rv hsame
        refine .inl ⟨t1 (by omega), ?_⟩
        simp only [bind_ok, List.append_nil] at p'
        have hlen := ra.length
        exact finL_hid p' ex hh rs1 rs' hL' hL (by omega) ra
      · rw [if_neg hsame] at p'; exact p'.elim
end
end Sm
/-! S4: what is walked: lists, tuples, ranges, enumerate, zip; comprehensions as rules; calls -/
namespace Sm
open PySem PySem.Spec PyProof.Rows L2
open Classical

def ones (ds : List D) : List (List D) := ds.map fun d => [d]
def itemsL : List D → Store → Option (List (List D))
  | [d], S => (seqL S d).map ones
  | _, _ => none
def itemsT : List D → Store → Option (List (List D))
  | [.tup ds], _ => if ds.length ≤ sizeLine then some (ones ds) else none
  | _, _ => none
def itemsR : List D → Store → Option (List (List D))
  | [.int j], _ => if -(2 ^ 62) ≤ j ∧ j ≤ sizeLine then some ((List.range j.toNat).map fun (k : Nat) => [D.int k]) else none
  | [.int i, .int j], _ => if -(2 ^ 62) ≤ i ∧ i < 2 ^ 62 ∧ -(2 ^ 62) ≤ j ∧ j < 2 ^ 62 ∧ j - i ≤ sizeLine then some ((List.range (j - i).toNat).map fun (k : Nat) => [D.int (i + k)]) else none
  | _, _ => none
def enumFrom (k : Nat) : List D → List (List D)
  | [] => []
  | d :: ds => [D.int k, d] :: enumFrom (k + 1) ds
def itemsE : List D → Store → Option (List (List D))
  | [d], S => (seqL S d).map (enumFrom 0)
  | _, _ => none
def zipD : List D → List D → List (List D)
  | d :: ds, e :: es => [d, e] :: zipD ds es
  | _, _ => []
def itemsZ : List D → Store → Option (List (List D))
  | [d, e], S => match seqL S d, seqL S e with
    | some ds, some es => some (zipD ds es)
    | _, _ => none
  | _, _ => none
theorem ones_get {ds : List D} {i : Nat} {item : List D} (h : (ones ds)[i]? = some item) : ∃ d, ds[i]? = some d ∧ item = [d] := by
  unfold ones at h
  rw [List.getElem?_map] at h
  cases q : ds[i]? with
  | none => rw [q] at h; cases h
  | some d => rw [q] at h; cases h; exact ⟨d, rfl, rfl⟩
theorem enum_get : ∀ {ds : List D} {k i : Nat} {item : List D}, (enumFrom k ds)[i]? = some item → ∃ d, ds[i]? = some d ∧ item = [D.int ((k + i : Nat) : Int), d]
  | [], _, _, _, h => by simp [enumFrom] at h
  | d :: ds, k, 0, _, h => by simp [enumFrom] at h; exact ⟨d, rfl, by rw [← h]; rfl⟩
  | d :: ds, k, i + 1, item, h => by
    have h : (enumFrom (k + 1) ds)[i]? = some item := by simpa [enumFrom] using h
    obtain ⟨e, h1, h2⟩ := enum_get h
    exact ⟨e, by simpa using h1, by rw [h2]; congr 3; omega⟩
theorem enum_len : ∀ (ds : List D) (k : Nat), (enumFrom k ds).length = ds.length
  | [], _ => rfl
  | _ :: ds, k => congrArg Nat.succ (enum_len ds (k + 1))
theorem zip_get : ∀ {ds es : List D} {i : Nat} {item : List D}, (zipD ds es)[i]? = some item → ∃ d e, ds[i]? = some d ∧ es[i]? = some e ∧ item = [d, e]
  | [], es, _, _, h => by simp [zipD] at h
  | _ :: _, [], _, _, h => by simp [zipD] at h
  | d :: ds, e :: es, 0, _, h => by simp [zipD] at h; exact ⟨d, e, rfl, rfl, h.symm⟩
  | d :: ds, e :: es, i + 1, item, h => by
    have h : (zipD ds es)[i]? = some item := by simpa [zipD] using h
    obtain ⟨a, b, h1, h2, h3⟩ := zip_get h
    exact ⟨a, b, by simpa using h1, by simpa using h2, h3⟩
theorem zip_len : ∀ (ds es : List D), (zipD ds es).length = min ds.length es.length
  | [], es => by simp [zipD]
  | _ :: _, [] => by simp [zipD]
  | d :: ds, e :: es => by simp [zipD, zip_len ds es]

section
variable {X : Cx} {ca : Nat → Addr} {W : WX}
theorem one_arg {m : ME} {ρ : Env} {S : Store} {H : Hp} {M : Cells} {Q : List V → Hp → Prop} {Wx : XW} (p : Post X.K ca (rL X.K ca) H M Q Wx (mCons m mNil ρ S)) : Post X.K ca (rD X.K ca) H M (fun v H' => Q [v] H') Wx (m ρ S) := by
  refine (post_bind p).mono ?_
  rintro x H1 ⟨M1, S1, d, e1, rs1, r1, p1⟩
  exact p1 [x] M1 H1 (Ext.refl _ _) rs1 (RepL.one r1)
theorem it_list {m : ME} {i : Nat} : IterOk X.K ca W (iList X.K (tOf X.K ca W m)) (mCons m mNil) itemsL [i] (gName i) := by
  intro σ H Rr ρ M S re rs p
  refine ⟨ρ, M, S, re, rs, (one_arg p).mono ?_⟩
  rintro x H1 ⟨M1, S1, src, its, e1, rs1, r1, hi, wk⟩
  match src, r1, hi with
  | [d], r1, hi =>
    have hi : (seqL S1 d).map ones = some its := hi
    cases q : seqL S1 d with
    | none => rw [q] at hi; cases hi
    | some ds =>
      obtain ⟨a, xs, rfl, sq, rl, z⟩ := seq_rep rs1 r1.1 q
      refine ⟨a, rfl, ⟨xs, sq⟩, wk _ ⟨fun H2 M2 S2 its2 _ rs2 r2 h2 => ?_, fun H2 M2 S2 its2 j _ rs2 r2 h2 => ?_⟩⟩
      · have h2 : (seqL S2 d).map ones = some its2 := h2
        cases q2 : seqL S2 d with
        | none => rw [q2] at h2; cases h2
        | some ds2 =>
          rw [q2] at h2; cases h2
          obtain ⟨a2, xs2, e2, sq2, rl2, z2⟩ := seq_rep rs2 r2.1 q2
          have := rl2.length
          unfold ones; rw [List.length_map]; omega
      · have h2 : (seqL S2 d).map ones = some its2 := h2
        cases q2 : seqL S2 d with
        | none => rw [q2] at h2; cases h2
        | some ds2 =>
          rw [q2] at h2; cases h2
          obtain ⟨a2, xs2, e2, sq2, rl2, z2⟩ := seq_rep rs2 r2.1 q2
          cases e2
          have hl := rl2.length
          refine ⟨fun hj => ⟨xs2, sq2, by unfold ones at hj; rw [List.length_map] at hj; omega⟩, fun item hit => ?_⟩
          obtain ⟨d2, hd2, rfl⟩ := ones_get hit
          obtain ⟨v, hv, rv⟩ := rl2.get hd2
          refine ⟨⟨xs2, v, sq2, hv⟩, fun x Hx hy => ?_⟩
          obtain ⟨rfl, hy⟩ := hy
          have := hy xs2 sq2
          rw [hv] at this; cases this
          exact ⟨Ext.refl _ _, rs2, [v], RepL.one rv, fun σ Q h => h⟩
theorem itemsT_inv {src : List D} {S : Store} {its : List (List D)} (h : itemsT src S = some its) : ∃ ds, src = [.tup ds] ∧ ds.length ≤ sizeLine ∧ its = ones ds := by
  unfold itemsT at h
  split at h
  · next ds =>
    split at h
    · next z => cases h; exact ⟨ds, rfl, z, rfl⟩
    · cases h
  · cases h
theorem it_tup {m : ME} {i : Nat} : IterOk X.K ca W (iTup X.K (tOf X.K ca W m)) (mCons m mNil) itemsT [i] (gName i) := by
  intro σ H Rr ρ M S re rs p
  refine ⟨ρ, M, S, re, rs, (one_arg p).mono ?_⟩
  rintro x H1 ⟨M1, S1, src, its, e1, rs1, r1, hi, wk⟩
  obtain ⟨ds, rfl, z, rfl⟩ := itemsT_inv hi
  obtain ⟨a, xs, rfl, h1, n, rl⟩ := r1.1
  refine ⟨a, rfl, ⟨xs, SqT.of h1⟩, wk _ ⟨fun H2 M2 S2 its2 _ rs2 r2 h2 => ?_, fun H2 M2 S2 its2 j _ rs2 r2 h2 => ?_⟩⟩
  · obtain ⟨ds2, e2, z2, rfl⟩ := itemsT_inv h2
    unfold ones; rw [List.length_map]; exact z2
  · obtain ⟨ds2, e2, z2, rfl⟩ := itemsT_inv h2
    cases e2
    obtain ⟨a2, xs2, e2, h2, n2, rl2⟩ := r2.1
    cases e2
    have hl := rl2.length
    refine ⟨fun hj => ⟨xs2, SqT.of h2, by unfold ones at hj; rw [List.length_map] at hj; omega⟩, fun item hit => ?_⟩
    obtain ⟨d2, hd2, rfl⟩ := ones_get hit
    obtain ⟨v, hv, rv⟩ := rl2.get hd2
    refine ⟨⟨xs2, v, SqT.of h2, hv⟩, fun x Hx hy => ?_⟩
    obtain ⟨rfl, hy⟩ := hy
    have := hy xs2 (SqT.of h2)
    rw [hv] at this; cases this
    exact ⟨Ext.refl _ _, rs2, [v], RepL.one rv, fun σ Q h => h⟩
theorem range_walk {K : PySem.W.Frag} {H0 : Hp} {lo : Int} {n i : Nat} {src : List D} {vs : List V} {items : Store → Option (List (List D))} (hn : n ≤ sizeLine) (h : ∀ S its, items S = some its → its = (List.range n).map fun (k : Nat) => [D.int (lo + k)]) :
    Walk K ca H0 (Itr lo n) (gName i) src vs [i] items := by
  refine ⟨fun H M S its _ rs r hi => ?_, fun H M S its j _ rs r hi => ?_⟩
  · rw [h S its hi, List.length_map, List.length_range]; exact hn
  · rw [h S its hi]
    refine ⟨fun hj => by rw [List.length_map, List.length_range] at hj; exact hj, fun item hit => ?_⟩
    rw [List.getElem?_map] at hit
    cases q : (List.range n)[j]? with
    | none => rw [q] at hit; cases hit
    | some k =>
      rw [q] at hit; cases hit
      have hj : j < n := by have := (List.getElem?_eq_some_iff.mp q).1; rw [List.length_range] at this; exact this
      rw [List.getElem?_range hj] at q; cases q
      refine ⟨hj, fun x Hx hy => ?_⟩
      obtain ⟨rfl, rfl⟩ := hy
      exact ⟨Ext.refl _ _, rs, [_], RepL.one rfl, fun σ Q h => h⟩
theorem itemsR_inv {src : List D} {S : Store} {its : List (List D)} (h : itemsR src S = some its) :
    (∃ j : Int, src = [.int j] ∧ -(2 ^ 62) ≤ j ∧ j ≤ sizeLine ∧ its = (List.range j.toNat).map fun (k : Nat) => [D.int k]) ∨
    ∃ i j : Int, src = [.int i, .int j] ∧ (-(2 ^ 62) ≤ i ∧ i < 2 ^ 62 ∧ -(2 ^ 62) ≤ j ∧ j < 2 ^ 62) ∧ j - i ≤ sizeLine ∧ its = (List.range (j - i).toNat).map fun (k : Nat) => [D.int (i + k)] := by
  unfold itemsR at h
  split at h
  · next j =>
    split at h
    · next z => cases h; exact .inl ⟨j, rfl, z.1, z.2, rfl⟩
    · cases h
  · next i j =>
    split at h
    · next z => cases h; exact .inr ⟨i, j, rfl, ⟨z.1, z.2.1, z.2.2.1, z.2.2.2.1⟩, z.2.2.2.2, rfl⟩
    · cases h
  · cases h
theorem it_range1 {ms : Env → Store → R (List D)} {i : Nat} (h1 : ∀ ρ S, ∃ r, ms ρ S = r ∧ ∀ src S', r = .ok src S' → src.length = 1) : IterOk X.K ca W (iRng1 (tOfA X.K ca W ms)) ms itemsR [i] (gName i) := by
  intro σ H Rr ρ M S re rs p
  obtain ⟨r, hr, h1⟩ := h1 ρ S
  refine ⟨ρ, M, S, re, rs, ?_⟩
  rw [hr] at p ⊢
  cases r with
  | ex c S' => exact p
  | err => exact p
  | ok src S' =>
    have hlen := h1 src S' rfl
    intro vs M1 H1 e1 rs1 r1
    obtain ⟨M2, S2, src2, its, e2, rs2, r2, hi, wk⟩ := p vs M1 H1 e1 rs1 r1
    rcases itemsR_inv hi with ⟨j, rfl, z1, z2, rfl⟩ | ⟨i', j, rfl, z1, z2, rfl⟩
    · obtain ⟨v, rfl, rv⟩ := r2.inv1
      cases rv
      have hz : (sizeLine : Int) < 2 ^ 62 := by decide
      refine ⟨j, rfl, z1, by omega, wk _ (range_walk (by omega) fun S its h => ?_)⟩
      rcases itemsR_inv h with ⟨j', e, _, _, rfl⟩ | ⟨i', j', e, _⟩
      · cases e; simp
      · cases e
    · have := r1.length; have := r2.length
      simp at *
      omega
theorem it_range2 {ms : Env → Store → R (List D)} {i : Nat} (h1 : ∀ ρ S, ∃ r, ms ρ S = r ∧ ∀ src S', r = .ok src S' → src.length = 2) : IterOk X.K ca W (iRng2 (tOfA X.K ca W ms)) ms itemsR [i] (gName i) := by
  intro σ H Rr ρ M S re rs p
  obtain ⟨r, hr, h1⟩ := h1 ρ S
  refine ⟨ρ, M, S, re, rs, ?_⟩
  rw [hr] at p ⊢
  cases r with
  | ex c S' => exact p
  | err => exact p
  | ok src S' =>
    have hlen := h1 src S' rfl
    intro vs M1 H1 e1 rs1 r1
    obtain ⟨M2, S2, src2, its, e2, rs2, r2, hi, wk⟩ := p vs M1 H1 e1 rs1 r1
    rcases itemsR_inv hi with ⟨j, rfl, z1, z2, rfl⟩ | ⟨i', j, rfl, z1, z2, rfl⟩
    · have := r1.length; have := r2.length
      simp at *
      omega
    · obtain ⟨v, u, rfl, rv, ru⟩ := r2.inv2
      cases rv; cases ru
      refine ⟨i', j, rfl, z1, wk _ (range_walk (by omega) fun S its h => ?_)⟩
      rcases itemsR_inv h with ⟨j', e, _⟩ | ⟨i'', j', e, _, _, rfl⟩
      · cases e
      · cases e; rfl
theorem cons1_len {a : ME} (ρ : Env) (S : Store) : ∃ r, mCons a mNil ρ S = r ∧ ∀ src S', r = .ok src S' → src.length = 1 := by
  refine ⟨_, rfl, fun src S' h => ?_⟩
  unfold mCons at h
  cases q : a ρ S with
  | ok d S1 => rw [q] at h; cases h; rfl
  | ex c S1 => rw [q] at h; cases h
  | err => rw [q] at h; cases h
theorem cons2_len {a b : ME} (ρ : Env) (S : Store) : ∃ r, mCons a (mCons b mNil) ρ S = r ∧ ∀ src S', r = .ok src S' → src.length = 2 := by
  refine ⟨_, rfl, fun src S' h => ?_⟩
  unfold mCons at h
  cases q : a ρ S with
  | ok d S1 =>
    rw [q] at h
    simp only [bind_ok] at h
    cases q2 : b ρ S1 with
    | ok e S2 => rw [q2] at h; cases h; rfl
    | ex c S2 => rw [q2] at h; cases h
    | err => rw [q2] at h; cases h
  | ex c S1 => rw [q] at h; cases h
  | err => rw [q] at h; cases h
abbrev gTwo (K : PySem.W.Frag) (i j : Nat) : TG := gTup K 2 (gCons (gName i) (gCons (gName j) gNil))
theorem two_go {K : PySem.W.Frag} {i j : Nat} {T : Addr} {x y : V} {σ : L2.St} {H : Hp} {Q : L2.St → Hp → Prop} (h : H T = some (.tup [x, y])) (q : Q (setV [i, j] [x, y] σ) H) : gTwo K i j (.ref T) σ H Q :=
  ⟨T, [x, y], rfl, SqT.of h, rfl, x, [y], rfl, y, [], rfl, rfl, q⟩
theorem it_enum {ms : Env → Store → R (List D)} {i j : Nat} : IterOk X.K ca W (iEnum X.K (tOfA X.K ca W ms)) ms itemsE [i, j] (gTwo X.K i j) := by
  intro σ H Rr ρ M S re rs p
  refine ⟨ρ, M, S, re, rs, p.mono ?_⟩
  rintro vs H1 ⟨M1, S1, src, its, e1, rs1, r1, hi, wk⟩
  match src, vs, r1, hi, wk with
  | [d], [v], r1, hi, wk =>
    have hi : (seqL S1 d).map (enumFrom 0) = some its := hi
    cases q : seqL S1 d with
    | none => rw [q] at hi; cases hi
    | some ds =>
      obtain ⟨a, xs, rfl, sq, rl, z⟩ := seq_rep rs1 r1.1 q
      refine ⟨a, xs, rfl, sq, wk _ ⟨fun H2 M2 S2 its2 _ rs2 r2 h2 => ?_, fun H2 M2 S2 its2 j _ rs2 r2 h2 => ?_⟩⟩
      · have h2 : (seqL S2 d).map (enumFrom 0) = some its2 := h2
        cases q2 : seqL S2 d with
        | none => rw [q2] at h2; cases h2
        | some ds2 =>
          rw [q2] at h2; cases h2
          obtain ⟨a2, xs2, e2, sq2, rl2, z2⟩ := seq_rep rs2 r2.1 q2
          have := rl2.length
          rw [enum_len]; omega
      · have h2 : (seqL S2 d).map (enumFrom 0) = some its2 := h2
        cases q2 : seqL S2 d with
        | none => rw [q2] at h2; cases h2
        | some ds2 =>
          rw [q2] at h2; cases h2
          obtain ⟨a2, xs2, e2, sq2, rl2, z2⟩ := seq_rep rs2 r2.1 q2
          cases e2
          have hl := rl2.length
          refine ⟨fun hj => ⟨xs2, sq2, by rw [enum_len] at hj; omega⟩, fun item hit => ?_⟩
          obtain ⟨d2, hd2, rfl⟩ := enum_get hit
          obtain ⟨v, hv, rv⟩ := rl2.get hd2
          refine ⟨⟨xs2, v, sq2, hv⟩, fun x Hx hy => ?_⟩
          obtain ⟨T, x', rfl, hT, rfl, hy⟩ := hy
          have := hy xs2 sq2
          rw [hv] at this; cases this
          refine ⟨ext_new hT _, rs2.new hT _, [.int ((j : Nat) : Int), v], ⟨by rw [Nat.zero_add]; rfl, Rep.ext (ext_new hT _) _ _ rv, trivial⟩, fun σ Q h => two_go upd_same h⟩
theorem itemsZ_inv {d e : D} {S : Store} {its : List (List D)} (h : itemsZ [d, e] S = some its) : ∃ ds es, seqL S d = some ds ∧ seqL S e = some es ∧ its = zipD ds es := by
  have h : (match seqL S d, seqL S e with
    | some ds, some es => some (zipD ds es)
    | _, _ => none) = some its := h
  split at h
  · next ds es h1 h2 => cases h; exact ⟨ds, es, h1, h2, rfl⟩
  · cases h
theorem it_zip {ms : Env → Store → R (List D)} {i j : Nat} : IterOk X.K ca W (iZip X.K (tOfA X.K ca W ms)) ms itemsZ [i, j] (gTwo X.K i j) := by
  intro σ H Rr ρ M S re rs p
  refine ⟨ρ, M, S, re, rs, p.mono ?_⟩
  rintro vs H1 ⟨M1, S1, src, its, e1, rs1, r1, hi, wk⟩
  match src, vs, r1, hi, wk with
  | [d, e], [v, u], r1, hi, wk =>
    obtain ⟨ds, es, q1, q2, rfl⟩ := itemsZ_inv hi
    obtain ⟨a, xs, rfl, sq, rl, z⟩ := seq_rep rs1 r1.1 q1
    obtain ⟨b, ys, rfl, sq', rl', z'⟩ := seq_rep rs1 r1.2.1 q2
    refine ⟨a, b, xs, ys, rfl, sq, sq', wk _ ⟨fun H2 M2 S2 its2 _ rs2 r2 h2 => ?_, fun H2 M2 S2 its2 j _ rs2 r2 h2 => ?_⟩⟩
    · obtain ⟨ds2, es2, q3, q4, rfl⟩ := itemsZ_inv h2
      obtain ⟨a2, xs2, e2, sq2, rl2, z2⟩ := seq_rep rs2 r2.1 q3
      have := rl2.length
      rw [zip_len]; omega
    · obtain ⟨ds2, es2, q3, q4, rfl⟩ := itemsZ_inv h2
      obtain ⟨a2, xs2, e2, sq2, rl2, z2⟩ := seq_rep rs2 r2.1 q3
      obtain ⟨b2, ys2, e3, sq3, rl3, z3⟩ := seq_rep rs2 r2.2.1 q4
      cases e2; cases e3
      have hl := rl2.length
      have hl' := rl3.length
      refine ⟨fun hj => ⟨xs2, ys2, sq2, sq3, by rw [zip_len] at hj; omega⟩, fun item hit => ?_⟩
      obtain ⟨d2, e2, hd2, he2, rfl⟩ := zip_get hit
      obtain ⟨v, hv, rv⟩ := rl2.get hd2
      obtain ⟨u, hu, ru⟩ := rl3.get he2
      refine ⟨⟨xs2, ys2, v, u, sq2, sq3, hv, hu⟩, fun x Hx hy => ?_⟩
      obtain ⟨T, x', y', rfl, hT, rfl, hy, hy'⟩ := hy
      have := hy xs2 sq2
      rw [hv] at this; cases this
      have := hy' ys2 sq3
      rw [hu] at this; cases this
      exact ⟨ext_new hT _, rs2.new hT _, [v, u], ⟨Rep.ext (ext_new hT _) _ _ rv, Rep.ext (ext_new hT _) _ _ ru, trivial⟩, fun σ Q h => two_go upd_same h⟩

/-! ### comprehensions -/
theorem q_comp {elt tgx iter : Expr} {ifs : List Expr} {scope : Scope} {own : List (Str × Nat)} {pos : Pos} {wi : TI} {g : TG} {tt : TT} {args : Env → Store → R (List D)} {items : List D → Store → Option (List (List D))} {tg : List Nat} {cond me : ME} {c : Bool}
    (it : IterOk X.K ca W wi args items tg g) (hown : ∀ i ∈ tg, i ∈ own.map (·.2)) (hc : X.calm = true) (hN : X.N.Nodup) (hi : PI X tgx iter wi) (ok : BlkOk X.N X.env.scope scope own)
    (hg : ∀ (s : Shared) (H : Hp) (C : Addr) (cl : List (Str × Addr)) (fp : List Addr), PG (X.blk s H scope (compEnvC scope cl C X.env) fp) tgx g)
    (hcond : ∀ σ H Q, tOfT X.K ca (fun _ _ _ _ => False) cond σ H Q → tt σ H Q)
    (ht : ∀ (s : Shared) (H : Hp) (C : Addr) (cl : List (Str × Addr)) (fp : List Addr), PTs (X.blk s H scope (compEnvC scope cl C X.env) fp) ifs tt)
    (he : ∀ (s : Shared) (H : Hp) (C : Addr) (cl : List (Str × Addr)) (fp : List Addr), PE (X.blk s H scope (compEnvC scope cl C X.env) fp) elt (tOf X.K ca (fun _ _ _ _ => False) me)) (hs : ∀ x, foldedSetIterable iter X.env x = pure x := by intro _; rfl) :
    PE X (.ListComp elt [⟨tgx, iter, ifs, 0⟩] scope pos) (tOf X.K ca W (mComp c args items tg (own.map (·.2)) cond me)) :=
  weakE (pe_lc hc hN hi ok hg ht he hs) (comp_of it hown hcond fun σ H Q h => h)
theorem c_yes (σ : L2.St) (H : Hp) (Q : Bool → Hp → Prop) : tOfT X.K ca (fun _ _ _ _ => False) (mC (.bl true)) σ H Q → tYes σ H Q := by
  rintro ⟨ρ, M, S, re, rs, p⟩
  exact p true M H (Ext.refl _ _) rs rfl
end
section
variable {X : Cx} {ca : Nat → Addr} {W : XW}
theorem qs_setLc {i : Nat} {y : Str} {py : Pos} {elt tgx iter : Expr} {ifs : List Expr} {scope : Scope} {own : List (Str × Nat)} {pos spos : Pos} {wi : TI} {g : TG} {tt : TT} {args : Env → Store → R (List D)} {items : List D → Store → Option (List (List D))} {tg : List Nat} {cond me : ME} {c : Bool}
    (it : IterOk X.K ca (wx W) wi args items tg g) (hown : ∀ i ∈ tg, i ∈ own.map (·.2)) (hc : X.calm = true) (hN : X.N.Nodup) (hy : X.N[i]? = some y) (hyl : X.env.scope.names.lookup y = some .local)
    (hsw : swapsWith (.ListComp elt [⟨tgx, iter, ifs, 0⟩] scope pos) (some (.Name y py)) spos.line X.env = pure true) (hi : PI X tgx iter wi) (ok : BlkOk X.N X.env.scope scope own)
    (hg : ∀ (s : Shared) (H : Hp) (C : Addr) (cl : List (Str × Addr)) (fp : List Addr), PG (X.blk s H scope (compEnvC scope cl C X.env) fp) tgx g)
    (hcond : ∀ σ H Q, tOfT X.K ca (fun _ _ _ _ => False) cond σ H Q → tt σ H Q)
    (ht : ∀ (s : Shared) (H : Hp) (C : Addr) (cl : List (Str × Addr)) (fp : List Addr), PTs (X.blk s H scope (compEnvC scope cl C X.env) fp) ifs tt)
    (he : ∀ (s : Shared) (H : Hp) (C : Addr) (cl : List (Str × Addr)) (fp : List Addr), PE (X.blk s H scope (compEnvC scope cl C X.env) fp) elt (tOf X.K ca (fun _ _ _ _ => False) me)) (hs : ∀ x, foldedSetIterable iter X.env x = pure x := by intro _; rfl) :
    PS X (.Assign [.Name y py] (.ListComp elt [⟨tgx, iter, ifs, 0⟩] scope pos) spos) (tSOf X.K ca W (sAsg i (mComp c args items tg (own.map (·.2)) cond me))) :=
  weakS (ps_setLc hc hN hy hyl hsw hi ok hg ht he hs) fun De σ H => by
    rintro ⟨ρ, M, S, re, rs, p⟩
    refine comp_of it hown hcond (fun σ H Q h => h) σ H _ ⟨ρ, M, S, re, rs, (post_bindS p).mono ?_⟩
    rintro x H1 ⟨M1, S1, d, e1, rs1, r1, p1⟩
    exact p1 _ M1 H1 (Ext.refl _ _) rs1 ((re.ext e1).set i r1)
end
end Sm
/-! S5: functions: their mirrors, calls, methods, new instances -/
namespace Sm
open PySem PySem.Spec PyProof.Rows L2
open Classical

abbrev Orc := Nat → List D → Store → R D
structure Body where
  cut : Bool
  ar : Nat
  sl : Nat
  code : Orc → Orc → MS
def optAll (f : D → Option D) : List D → Option (List D)
  | [] => some []
  | d :: ds => match f d, optAll f ds with
    | some x, some xs => some (x :: xs)
    | _, _ => none
/-- lists of the def's own that it hands back stand as data from then on -/
noncomputable def dfz (k : Nat) (S' : Store) : Nat → D → Option D
  | 0, d => if Cl k d then some d else none
  | f + 1, d => if Cl k d then some d else match d with
    | .tup ds => (optAll (dfz k S' f) ds).map .tup
    | .lst ds => (optAll (dfz k S' f) ds).map .lst
    | .cell n => (match S'[n]? with
      | some (.lst ds) => if k ≤ n then (optAll (dfz k S' f) ds).map .lst else none
      | _ => none)
    | _ => none
noncomputable def frz (S S' : Store) (d : D) : R D := if S'.take S.length = S then (match dfz S.length S' 5 d with
  | some d' => .ok d' S
  | none => .err) else .err
/-- a def's end: what its own cells held is forgotten where it says so -/
noncomputable def fin (cut : Bool) (S : Store) : R Fl → R D
  | .ok (.rt d) S' => if cut then (if S'.take S.length = S ∧ Cl S.length d then .ok d S else frz S S' d) else .ok d S'
  | .ok (.nx _) S' => if cut then (if S'.take S.length = S then .ok .non S else .err) else .ok .non S'
  | .ex c S' => if cut then (if S'.take S.length = S then .ex c S else .err) else .ex c S'
  | _ => .err
noncomputable def step1 (b : Body) (C I : Orc) (args : List D) (S : Store) : R D :=
  if args.length = b.ar then fin b.cut S (b.code C I (args.map some ++ List.replicate (b.sl - b.ar) none) S) else .err
noncomputable def step (T : Nat → Option Body) (C I : Orc) : Orc := fun f args S => match T f with
  | none => .err
  | some b => step1 b C I args S
def noOrc : Orc := fun _ _ _ => .err
noncomputable def evalF (T : Nat → Option Body) : Nat → Orc
  | 0 => noOrc
  | 1 => step T noOrc noOrc
  | k + 2 => step T (evalF T (k + 1)) (evalF T k)

/-- a def's promise, by its mirror -/
def spOf (K : PySem.W.Frag) (ca : Nat → Addr) (F : List D → Store → R D) : Sp := fun vs H Q E => ∃ ds M S, RelS K ca H M S ∧ RepL K ca H M ds vs ∧ Post K ca (rD K ca) H M Q E (F ds S)

section
variable {P : Program} {w : World} {K : PySem.W.Frag} {mg : Str → Option Value} {base : Heap} {ca : Nat → Addr}
theorem env_start {H : Hp} {M : Cells} : ∀ {ds : List D} {vs : List V} (k : Nat), RepL K ca H M ds vs → REnv K ca H M (ds.map some ++ List.replicate k none) (vs.map some ++ List.replicate k none)
  | [], [], 0, _ => trivial
  | [], [], k + 1, h => by
    show REnv K ca H M (none :: List.replicate k none) (none :: List.replicate k none)
    exact env_start (ds := []) (vs := []) k h
  | d :: ds, v :: vs, k, h => ⟨h.1, env_start k h.2⟩
  | [], _ :: _, _, h => h.elim
  | _ :: _, [], _, h => h.elim
theorem optAll_rep {H : Hp} {M M2 : Cells} {f : D → Option D} (h : ∀ d d' v, f d = some d' → Rep K ca H M d v → Rep K ca H M2 d' v) : ∀ {ds ds' : List D} {xs : List V}, optAll f ds = some ds' → RepL K ca H M ds xs → RepL K ca H M2 ds' xs
  | [], ds', [], e, _ => by cases e; trivial
  | d :: ds, ds', x :: xs, e, r => by
    unfold optAll at e
    split at e
    · next y ys h1 h2 =>
      cases e
      exact ⟨h d y x h1 r.1, optAll_rep h h2 r.2⟩
    · cases e
  | [], _, _ :: _, _, r => r.elim
  | _ :: _, _, [], _, r => r.elim
theorem dfz_rep {H H' : Hp} {M M' : Cells} {S S' : Store} (e : Ext H M H' M') (rs : RelS K ca H M S) (rs' : RelS K ca H' M' S') (hs : S'.take S.length = S) : ∀ (f : Nat) (d d' : D) (v : V), dfz S.length S' f d = some d' → Rep K ca H' M' d v → Rep K ca H' M d' v := by
  have hM := cells_same e rs rs' hs
  have nl : ∀ a, ¬ Live M' a → ¬ Live M a := fun a n z => n (live_take (n := M.c.length) (by rw [← hM]; exact z))
  intro f
  induction f with
  | zero =>
    intro d d' v h r
    unfold dfz at h
    split at h
    · next c => cases h; exact forget_rep e rs rs' hs (by rw [rs.len]; exact c) r
    · cases h
  | succ f ih =>
    intro d d' v h r
    unfold dfz at h
    split at h
    · next c => cases h; exact forget_rep e rs rs' hs (by rw [rs.len]; exact c) r
    · split at h
      · next ds _ =>
        obtain ⟨ys, h1, rfl⟩ := Option.map_eq_some_iff.mp h
        obtain ⟨a, xs, rfl, h2, n, q⟩ := r
        exact ⟨a, xs, rfl, h2, nl a n, optAll_rep ih h1 q⟩
      · next ds _ =>
        obtain ⟨ys, h1, rfl⟩ := Option.map_eq_some_iff.mp h
        obtain ⟨a, xs, rfl, h2, n, z, q⟩ := r
        exact ⟨a, xs, rfl, h2, nl a n, z, optAll_rep ih h1 q⟩
      · next n _ =>
        split at h
        · next ds hn =>
          split at h
          · next hk =>
            obtain ⟨ys, h1, rfl⟩ := Option.map_eq_some_iff.mp h
            obtain ⟨y, hy, a, xs, e1, h2, hz, rl⟩ := rs'.cells _ _ hn
            obtain ⟨x, hx, hv⟩ := r
            rw [hy] at hx; cases hx
            have hva := hv a e1
            subst hva e1
            refine ⟨a, xs, rfl, h2, ?_, hz, optAll_rep ih h1 rl⟩
            rintro (⟨i, z⟩ | z)
            · have hi : i < M.c.length := (List.getElem?_eq_some_iff.mp z).1
              have z2 : M'.c[i]? = some (some a) := by
                have z3 : (M'.c.take M.c.length)[i]? = some (some a) := by
                  have : M.c = M'.c.take M.c.length := congrArg Cells.c hM
                  rw [← this]; exact z
                rw [List.getElem?_take, if_pos hi] at z3
                exact z3
              have := rs'.inj i n a z2 hy
              rw [rs.len] at hi; omega
            · rw [← e.hid] at z
              exact (rs'.hid a z).2 ⟨n, hy⟩
          · cases h
        · cases h
      · cases h
theorem fin_ok {H : Hp} {M : Cells} {S : Store} {Q : VK} {E : XW} {cut : Bool} {r : R Fl} (rs : RelS K ca H M S) (p : Post K ca (rD K ca) H M Q E (fin cut S r)) : PostS K ca H M { nx := fun _ H' => Q .non H', rt := Q } E r := by
  cases r with
  | err => exact p
  | ex c S' =>
    unfold fin at p
    cases cut with
    | false => exact p
    | true =>
      simp only [if_true] at p
      split at p
      · next hs =>
        intro M' H' e rs'
        obtain ⟨e2, rs2⟩ := forget e rs rs' hs
        exact p M H' e2 rs2
      · exact p.elim
  | ok f S' =>
    cases f with
    | bk r => exact p.elim
    | ct r => exact p.elim
    | rt d =>
      unfold fin at p
      cases cut with
      | false => exact p
      | true =>
        simp only [if_true] at p
        split at p
        · next hs =>
          intro v M' H' e rs' rv
          obtain ⟨e2, rs2⟩ := forget e rs rs' hs.1
          exact p v M H' e2 rs2 (forget_rep e rs rs' hs.1 (by rw [rs.len]; exact hs.2) rv)
        · unfold frz at p
          split at p
          · next hs =>
            split at p
            · next d' hd =>
              intro v M' H' e rs' rv
              obtain ⟨e2, rs2⟩ := forget e rs rs' hs
              exact p v M H' e2 rs2 (dfz_rep e rs rs' hs 5 d d' v hd rv)
            · exact p.elim
          · exact p.elim
    | nx r =>
      unfold fin at p
      cases cut with
      | false => exact fun σ' M' H' e rs' re' => p .non M' H' e rs' rfl
      | true =>
        simp only [if_true] at p
        split at p
        · next hs =>
          intro σ' M' H' e rs' re'
          obtain ⟨e2, rs2⟩ := forget e rs rs' hs
          exact p .non M H' e2 rs2 rfl
        · exact p.elim
/-- the rule for a def: its body as a mirror -/
theorem fn_sim {x qual : Str} {st : Stmt} {f : Addr} {fd : FuncData} {N ps : List Str} {n : Nat} {b : Body} {C I : Orc} (F : Fun K x qual st f fd) (Sc : FnScope N ps (defScope st)) (h1 : ps.length = b.ar) (h2 : N.length = b.sl)
    (hb : ∀ (cdv : Value) (A : Around) (outer : List PySem.Env) (s : Shared) (H : Hp) (E : XK), Room n (A.deeper (envOfC qual (defScope st) s.heap.objs.size f cdv)) →
      PSs (cxOf (L2.CX P w) P w K mg base N qual (defScope st) f cdv A outer s H E) (defBody st) (tSOf K ca E (b.code C I))) :
    FnOk P w K mg base (L2.CX P w) (n + 1) f fd ps (spOf K ca (step1 b C I)) := by
  have len : ∀ vs H Q E, spOf K ca (step1 b C I) vs H Q E → vs.length = ps.length ∧ ∃ ds M S, RelS K ca H M S ∧ RepL K ca H M ds vs ∧ ds.length = b.ar ∧
      Post K ca (rD K ca) H M Q E (fin b.cut S (b.code C I (ds.map some ++ List.replicate (b.sl - b.ar) none) S)) := fun vs H Q E ⟨ds, M, S, rs, r, p⟩ => by
    unfold step1 at p
    split at p
    · next hl => exact ⟨by rw [← r.length, hl, h1], ds, M, S, rs, r, hl, p⟩
    · exact p.elim
  refine F.okX Sc (fun vs H Q E h => (len vs H Q E h).1) fun cdv A outer s H vs Q E hr h => ⟨_, hb cdv A outer s H E hr, ?_⟩
  obtain ⟨_, ds, M, S, rs, r, hl, p⟩ := len vs H Q E h
  refine ⟨_, M, S, ?_, rs, fin_ok rs p⟩
  have e := r.length
  unfold L2.start
  have : N.length - vs.length = b.sl - b.ar := by omega
  rw [this]
  exact env_start _ r
theorem fn_none {f : Addr} {fd : FuncData} {ps : List Str} {n : Nat} : FnOk P w K mg base (L2.CX P w) n f fd ps (spOf K ca fun _ _ => .err) := by
  have no : ∀ vs H Q E, ¬ spOf K ca (fun _ _ => .err) vs H Q E := fun vs H Q E ⟨ds, M, S, rs, r, p⟩ => p.elim
  exact ⟨fun vs H Q E h => absurd h (no vs H Q E), fun A outer s H args us vs Q E _ _ _ _ h => absurd h (no vs H Q E)⟩
end

/-- a def that stands at a name, with its mirror -/
def FnAt (P : Program) (w : World) (K : PySem.W.Frag) (mg : Str → Option Value) (base : Heap) (ca : Nat → Addr) (n : Nat) (x : Str) (ps : List Str) (F : List D → Store → R D) : Prop :=
  ∃ f fd, FnOk P w K mg base (L2.CX P w) n f fd ps (spOf K ca F) ∧ mg x = some (.ref f) ∧ PySem.W.keepIn K (.ref f) = true ∧ Binds K fd ps []
/-- a class's method -/
def MtAt (P : Program) (w : World) (K : PySem.W.Frag) (mg : Str → Option Value) (base : Heap) (ca : Nat → Addr) (n : Nat) (c : Nat) (m : Str) (ps : List Str) (F : List D → Store → R D) : Prop :=
  ∃ f fd, FnOk P w K mg base (L2.CX P w) n f fd ps (spOf K ca F) ∧ Cls K (ca c) ∧ Meth K (ca c) m f ∧ Binds K fd ps []
/-- a class that is made by its name -/
def MkAt (P : Program) (w : World) (K : PySem.W.Frag) (mg : Str → Option Value) (base : Heap) (ca : Nat → Addr) (n : Nat) (x : Str) (c : Nat) (ps : List Str) (dds : List D) (F : List D → Store → R D) : Prop :=
  ∃ f fd ds dvs, FnOk P w K mg base (L2.CX P w) n f fd ps (spOf K ca F) ∧ Mk K (ca c) f ∧ mg x = some (.ref (ca c)) ∧ Binds K fd ps ds ∧ Vals dvs ds ∧ ∀ H M, RepL K ca H M dds dvs

section
variable {X : Cx} {ca : Nat → Addr} {W : WX} {n : Nat} {x : Str} {ps : List Str} {F : List D → Store → R D}
theorem q_fn {e : Expr} {es : List Expr} {p pos : Pos} {ms : Sm.Env → Store → R (List D)} (c : FnAt X.prog X.w X.K X.mg X.base ca n x ps F) (hr : Room n X.A) (hg : Gl X x) (tk : Takes X W) (ha : PA X (e :: es) (tOfA X.K ca W ms))
    (hdb : (x == ("__debug__" : Str)) = false := by decide) (he : starEach (e :: es) X.env = (false, eval e X.env) :: starEach es X.env := by rfl) (hpl : (backTo pos (starEach es X.env)).any (·.1) = false := by rfl) :
    PE X (.Call (.Name x p) (e :: es) [] pos) (tOf X.K ca W (mN (fun S ds => F ds S) ms)) := by
  obtain ⟨f, fd, Fk, hm, hk, hb⟩ := c
  refine weakE (pe_callSD (E := WE W) Fk hr hg hm hk hb .nil (passAt tk) ha hdb he hpl) fun σ H Q => ?_
  rintro ⟨ρ, M, S, re, rs, q⟩
  refine ⟨ρ, M, S, re, rs, (post_bind q).mono ?_⟩
  rintro vs H1 ⟨M1, S1, ds, e1, rs1, r1, p1⟩
  refine ⟨ds, M1, S1, rs1, by rw [List.append_nil]; exact r1, p1⟩
/-- an instance that is read -/
def objOf (S : Store) : D → Option (Nat × List Str × List D)
  | .obj c ns ds => some (c, ns, ds)
  | .cell n => match S[n]? with
    | some (.ins c ns ds) => some (c, ns, ds)
    | _ => none
  | _ => none
@[simp] theorem objOf_obj (S : Store) (c : Nat) (ns : List Str) (ds : List D) : objOf S (.obj c ns ds) = some (c, ns, ds) := rfl
theorem obj_rep {K : PySem.W.Frag} {H : Hp} {M : Cells} {S : Store} (rs : RelS K ca H M S) {d : D} {v : V} {c : Nat} {ns : List Str} {ds : List D} (r : Rep K ca H M d v) (h : objOf S d = some (c, ns, ds)) :
    ∃ a dx fs, v = .ref a ∧ H a = some (.ins (ca c) dx fs) ∧ fs.map (·.1) = ns ∧ RepL K ca H M ds (fs.map (·.2)) := by
  cases d with
  | obj c' ns' ds' =>
    cases h
    obtain ⟨a, dx, fs, e, h1, n, z, q⟩ := r
    exact ⟨a, dx, fs, e, h1, z, q⟩
  | cell k =>
    have h : (match S[k]? with
      | some (.ins c ns ds) => some (c, ns, ds)
      | _ => none) = some (c, ns, ds) := h
    split at h
    · next c' ns' ds' e =>
      cases h
      obtain ⟨x, hx, q⟩ := r
      obtain ⟨y, hy, a, dx, fs, e1, h1, z, q2⟩ := rs.cells k _ e
      rw [hx] at hy; cases hy
      exact ⟨a, dx, fs, q a e1, h1, z, q2⟩
    · cases h
  | non => cases h
  | bl _ => cases h
  | int _ => cases h
  | str _ => cases h
  | tup _ => cases h
  | lst _ => cases h
  | scr _ => cases h
  | exc _ => cases h
theorem lookup_none : ∀ {fs : List (Str × V)} {m : Str}, m ∉ fs.map (·.1) → fs.lookup m = none
  | [], _, _ => rfl
  | (k, v) :: fs, m, h => by
    have h1 : m ≠ k := fun e => h (by rw [e]; exact List.mem_cons_self)
    have h2 : m ∉ fs.map (·.1) := fun e => h (List.mem_cons_of_mem _ e)
    rw [List.lookup_cons]
    have : (m == k) = false := beq_eq_false_iff_ne.mpr h1
    rw [this]
    exact lookup_none h2
noncomputable def mMeth (c : Nat) (m : Str) (F : List D → Store → R D) (o : ME) (args : Sm.Env → Store → R (List D)) : ME := fun ρ S => (o ρ S).bind fun d S1 => match objOf S1 d with
  | some (c', ns, _) => if c' = c ∧ m ∉ ns then (args ρ S1).bind fun ds S2 => F (d :: ds) S2 else .err
  | none => .err
end
section
variable {X : Cx} {ca : Nat → Addr} {W : XW} {n c : Nat} {x m : Str} {ps : List Str} {F : List D → Store → R D}
theorem passW (tk : Takes X (wx W)) : Passes (L2.CX X.prog X.w) X W := passes_call tk fun _ _ _ _ h => h
theorem q_meth {o e : Expr} {es : List Expr} {apos pos : Pos} {mo : ME} {ms : Sm.Env → Store → R (List D)} {pl : Sem Bool} (k : MtAt X.prog X.w X.K X.mg X.base ca n c m ps F) (hr : Room n X.A) (tk : Takes X (wx W)) (ho : PE X o (tOf X.K ca (wx W) mo)) (ha : PA X (e :: es) (tOfA X.K ca (wx W) ms))
    (hst : starEach (e :: es) X.env = (false, eval e X.env) :: starEach es X.env := by rfl) (hpl : (backTo pos (starEach es X.env)).any (·.1) = false := by rfl)
    (ht : eval (.Call (.Attribute o m apos) (e :: es) [] pos) X.env = (do
      let ov ← eval o X.env
      standAt apos.atName
      let (f, first) ← holding [ov] (getMethod ov m pl)
      callWith pos f first (backTo pos (starEach (e :: es) X.env)) (backToKw pos (keywordEach [] X.env))) := by rfl) :
    PE X (.Call (.Attribute o m apos) (e :: es) [] pos) (tOf X.K ca (wx W) (mMeth c m F mo ms)) := by
  obtain ⟨f, fd, Fk, hc, hm, hb⟩ := k
  refine weakE (pe_meth ho hc hm Fk hr hb .nil (passW tk) ha hst hpl ht) fun σ H Q => ?_
  rintro ⟨ρ, M, S, re, rs, q⟩
  refine ⟨ρ, M, S, re, rs, (post_bind q).mono ?_⟩
  rintro v H1 ⟨M1, S1, d, e1, rs1, r1, p1⟩
  split at p1
  · next c' ns ds' hd =>
    split at p1
    · next hcm =>
      obtain ⟨rfl, hns⟩ := hcm
      obtain ⟨a, dx, fs, rfl, h1, z, q1⟩ := obj_rep rs1 r1 hd
      refine ⟨a, dx, fs, rfl, h1, lookup_none (by rw [z]; exact hns), ρ, M1, S1, re.ext e1, rs1, (post_bind p1).mono ?_⟩
      rintro vs H2 ⟨M2, S2, ds, e2, rs2, r2, p2⟩
      exact ⟨d :: ds, M2, S2, rs2, by rw [List.append_nil]; exact ⟨Rep.ext e2 _ _ r1, r2⟩, p2⟩
    · exact p1.elim
  · exact p1.elim
end

/-! ### a new instance -/
section
variable {X : Cx} {CX : CXT} {k : Nat} {f C : Addr} {fd : FuncData} {ps : List Str} {sp : Sp} {dvs : List V} {ds : List Value} {E : L2.St → XK} {x : Str} {p pos : Pos} {e : Expr} {es : List Expr} {t : TA}
def tMakeSD (C : Addr) (sp : Sp) (dvs : List V) (E : L2.St → XK) (t : TA) : TE := fun σ H Q => t σ H fun vs H1 => ∀ x dx, H1 x = none → H1 dx = none → dx ≠ x →
  sp (.ref x :: (vs ++ dvs)) (upd (upd H1 dx (.own x)) x (.ins C dx [])) (fun v H2 => v = .non ∧ Q (.ref x) H2) (E σ)
theorem run_makeSD {pins : List (Addr × Obj)} {σ : L2.St} {H : Hp} {s : Shared} {Q : VK} {us : List Value} {vs : List V} (M : Mk X.K C f) (F : FnOk X.prog X.w X.K X.mg X.base CX k f fd ps sp) (hr : Room (k + 1) X.A) (hb : Binds X.K fd ps ds) (hd : Vals dvs ds)
    (hx : PassesAt CX X σ (E σ)) (I : Inv X pins σ H s) (r : Vals vs us)
    (h : ∀ x dx, H x = none → H dx = none → dx ≠ x → sp (.ref x :: (vs ++ dvs)) (upd (upd H dx (.own x)) x (.ins C dx [])) (fun v H2 => v = .non ∧ Q (.ref x) H2) (E σ)) :
    wpAny (model X.prog X.w) X.A (call (.ref C) us) (EP X pins σ Q) X.xe s := by
  have hq := h (s.heap.objs.size + 1) s.heap.objs.size (I.hok.fresh (Nat.le_succ _)) (I.hok.fresh (Nat.le_refl _)) (Nat.ne_of_lt (Nat.lt_succ_self _))
  have I2 := Inv.made (C := C) I
  have r2 : Vals (V.ref (s.heap.objs.size + 1) :: (vs ++ dvs)) (Value.ref (s.heap.objs.size + 1) :: (us ++ ds)) := .cons rfl (r.append hd)
  have hl : (Value.ref (s.heap.objs.size + 1) :: us ++ ds).length = ps.length := by
    have e := r2.length
    rw [F.len _ _ _ _ hq] at e
    exact e.symm
  refine wpAny_call (make_map (f := f) I.kIn M.makes M.init (beq_iff_eq.mp M.fn) (codeAny_mono (F.run _ X.stack _ _ ⟨Value.ref (s.heap.objs.size + 1) :: us, []⟩ (Value.ref (s.heap.objs.size + 1) :: (us ++ ds)) _ _ (E σ) (hr.make C us [])
    (I2.env0.make C us []) (hb _ (Value.ref (s.heap.objs.size + 1) :: us) I2.kIn hl) r2 hq) fun r s' hq' => ?_))
  cases r with
  | error e => exact hx pins _ _ e s' I2 hq'
  | ok fl =>
    cases fl with
    | ret u =>
      obtain ⟨v, H', I3, rv, ev, q3⟩ := I2.after hq'
      subst ev
      exact ⟨rv, ⟨V.ref (s.heap.objs.size + 1), H', I3, rfl, q3⟩⟩
    | next => exact False.elim hq'
    | brk => exact False.elim hq'
    | cont => exact False.elim hq'
theorem pe_makeSD (M : Mk X.K C f) (F : FnOk X.prog X.w X.K X.mg X.base CX k f fd ps sp) (hr : Room (k + 1) X.A) (hg : Gl X x) (hm : X.mg x = some (.ref C)) (hb : Binds X.K fd ps ds) (hd : Vals dvs ds) (hx : ∀ σ, PassesAt CX X σ (E σ))
    (ha : PA X (e :: es) t) (hdb : (x == ("__debug__" : Str)) = false := by decide) (he : starEach (e :: es) X.env = (false, eval e X.env) :: starEach es X.env := by rfl) (hpl : (backTo pos (starEach es X.env)).any (·.1) = false := by rfl) :
    PE X (.Call (.Name x p) (e :: es) [] pos) (tMakeSD C sp dvs E t) := by
  refine ⟨fun pins s σ H Q I h => ?_⟩
  refine wpAny_Call_Name_kw (ld_glob I hg hm ?_ hdb)
  refine PySem.W.callWith_K (h₀ := X.base) I.ok.mod.kin M.kp (thn (ha.run pos pins s σ H _ I h) fun us s1 ⟨vs, H1, I1, r, q⟩ => ⟨I1.kIn, ?_⟩) he hpl
  exact run_makeSD M F hr hb hd (hx σ) I1 r q
end
/-- what __init__ has made: data (fz), or a cell -/
noncomputable def made (fz : Bool) (S : Store) : R D → R D
  | .ok .non S' => if fz then (match S'[S.length]? with
      | some (.ins c ns ds) => if S'.length = S.length + 1 ∧ S'.take S.length = S ∧ ClL S.length ds then .ok (.obj c ns ds) S else .err
      | _ => .err) else .ok (.cell S.length) S'
  | .ex c S' => if fz then (if S'.take S.length = S then .ex c S else .err) else .ex c S'
  | _ => .err
noncomputable def mMake (c : Nat) (fz : Bool) (F : List D → Store → R D) (dds : List D) (args : Sm.Env → Store → R (List D)) : ME := fun ρ S => (args ρ S).bind fun ds S1 =>
  made fz S1 (F (.cell S1.length :: (ds ++ dds)) (S1 ++ [.ins c [] []]))
section
variable {X : Cx} {ca : Nat → Addr} {W : WX} {n c : Nat} {x : Str} {ps : List Str} {F : List D → Store → R D} {dds : List D}
theorem cell_new {K : PySem.W.Frag} {H : Hp} {M : Cells} {S : Store} {a dx : Addr} (rs : RelS K ca H M S) (ha : H a = none) (hd : H dx = none) (hn : dx ≠ a) :
    Ext H M (upd (upd H dx (.own a)) a (.ins (ca c) dx [])) (M.push a) ∧ RelS K ca (upd (upd H dx (.own a)) a (.ins (ca c) dx [])) (M.push a) (S ++ [.ins c [] []]) := by
  have h2 : (upd H dx (.own a)) a = none := by rw [upd_ne hn.symm]; exact ha
  have e1 := ext_new (M := M) hd (.own a)
  have r1 := rs.new hd (.own a)
  exact ⟨e1.trans (ext_cell h2 _), r1.cell h2 _ ⟨a, dx, [], rfl, upd_same, rfl, trivial⟩⟩
theorem made_ok {K : PySem.W.Frag} {H : Hp} {M : Cells} {S : Store} {a dx : Addr} {fz : Bool} {r : R D} {Q : VK} {E : XW} (rs : RelS K ca H M S) (ha : H a = none) (hd : H dx = none) (hn : dx ≠ a) (p : Post K ca (rD K ca) H M Q E (made fz S r)) :
    Post K ca (rD K ca) (upd (upd H dx (.own a)) a (.ins (ca c) dx [])) (M.push a) (fun v H2 => v = .non ∧ Q (.ref a) H2) E r := by
  obtain ⟨e0, r0⟩ := cell_new (c := c) rs ha hd hn
  have at0 : (M.push a).c[S.length]? = some (some a) := by show (M.c ++ [some a])[S.length]? = _; rw [← rs.len]; simp
  have hl0 : S.length < (M.push a).c.length := by show S.length < (M.c ++ [some a]).length; simp [rs.len]
  cases r with
  | err => exact p.elim
  | ex c' S' =>
    unfold made at p
    cases fz with
    | false => exact fun M' H' e rs' => p M' H' (e0.trans e) rs'
    | true =>
      simp only [if_true] at p
      split at p
      · next hs =>
        intro M' H' e rs'
        obtain ⟨e2, rs2⟩ := forget (e0.trans e) rs rs' hs
        exact p M H' e2 rs2
      · exact p.elim
  | ok d S' =>
    cases d <;> first | exact p.elim | skip
    unfold made at p
    intro v M' H' e rs' rv
    refine ⟨rv, ?_⟩
    have atM : M'.c[S.length]? = some (some a) ∨ M'.c[S.length]? = some none := by
      rcases e.old _ hl0 with z | z
      · exact .inl (z.trans at0)
      · exact .inr z
    cases fz with
    | false =>
      refine p (.ref a) M' H' (e0.trans e) rs' ?_
      rcases atM with z | z
      · exact ⟨_, z, fun b q => by cases q; rfl⟩
      · exact ⟨_, z, fun b q => nomatch q⟩
    | true =>
      simp only [if_true] at p
      split at p
      · next c' ns ds hins =>
        split at p
        · next hs =>
          obtain ⟨hlen, htake, hcl⟩ := hs
          obtain ⟨y, hy, b, dx', fs, e1, h1, hns, rl⟩ := rs'.cells _ _ hins
          subst e1
          have hb : b = a := by
            rcases atM with z | z
            · rw [hy] at z; cases z; rfl
            · rw [hy] at z; cases z
          subst hb
          -- the cell dies
          have rd := rs'.die (n := S.length)
          have ed := ext_die (H := H') (M := M') (n := S.length)
          have tk : (S'.set S.length .dead).take S.length = S := by rw [List.take_set_of_le (Nat.le_refl _)]; exact htake
          obtain ⟨e2, rs2⟩ := forget ((e0.trans e).trans ed) rs rd tk
          refine p (.ref b) M H' e2 rs2 ?_
          refine forget_rep (S' := S'.set S.length .dead) ((e0.trans e).trans ed) rs rd tk (by rw [rs.len]; exact hcl) ?_
          exact ⟨b, dx', fs, rfl, h1, notLive_die rs' hy, hns, RepL.ext ed _ _ rl⟩
        · exact p.elim
      · exact p.elim
theorem q_make {e : Expr} {es : List Expr} {p pos : Pos} {fz : Bool} {ms : Sm.Env → Store → R (List D)} (k : MkAt X.prog X.w X.K X.mg X.base ca n x c ps dds F) (hr : Room (n + 1) X.A) (hg : Gl X x) (tk : Takes X W) (ha : PA X (e :: es) (tOfA X.K ca W ms))
    (hdb : (x == ("__debug__" : Str)) = false := by decide) (he : starEach (e :: es) X.env = (false, eval e X.env) :: starEach es X.env := by rfl) (hpl : (backTo pos (starEach es X.env)).any (·.1) = false := by rfl) :
    PE X (.Call (.Name x p) (e :: es) [] pos) (tOf X.K ca W (mMake c fz F dds ms)) := by
  obtain ⟨f, fd, ds, dvs, Fk, Mk, hm, hb, hd, rd⟩ := k
  refine weakE (pe_makeSD (E := WE W) Mk Fk hr hg hm hb hd (passAt tk) ha hdb he hpl) fun σ H Q => ?_
  rintro ⟨ρ, M, S, re, rs, q⟩
  refine ⟨ρ, M, S, re, rs, (post_bind q).mono ?_⟩
  rintro vs H1 ⟨M1, S1, es, e1, rs1, r1, p1⟩
  intro a dx ha' hd' hn
  obtain ⟨e0, r0⟩ := cell_new (c := c) rs1 ha' hd' hn
  have hcell : Rep X.K ca (upd (upd H1 dx (.own a)) a (.ins (ca c) dx [])) (M1.push a) (D.cell S1.length) (V.ref a) :=
    ⟨some a, by show (M1.c ++ [some a])[S1.length]? = _; rw [← rs1.len]; simp, fun b q => by cases q; rfl⟩
  have hrep : RepL X.K ca (upd (upd H1 dx (.own a)) a (.ins (ca c) dx [])) (M1.push a) (D.cell S1.length :: (es ++ dds)) (V.ref a :: (vs ++ dvs)) := ⟨hcell, RepL.ext e0 _ _ (r1.app (rd _ _))⟩
  exact ⟨_, M1.push a, _, r0, hrep, made_ok rs1 ha' hd' hn p1⟩
end
end Sm
/-! S6: the operations -/
namespace Sm
open PySem PySem.Spec PyProof.Rows L2
open Classical

/-- a list that stands in the heap as itself -/
def seqP (S : Store) : D → Option (List D)
  | .lst ds => some ds
  | .cell n => match S[n]? with
    | some (.lst ds) => some ds
    | _ => none
  | _ => none
@[simp] theorem seqP_lst (S : Store) (ds : List D) : seqP S (.lst ds) = some ds := rfl
theorem seqP_L {S : Store} {d : D} {ds : List D} (h : seqP S d = some ds) : seqL S d = some ds := by
  cases d with
  | lst _ => exact h
  | cell n => exact h
  | non => cases h
  | bl _ => cases h
  | int _ => cases h
  | str _ => cases h
  | tup _ => cases h
  | obj _ _ _ => cases h
  | scr _ => cases h
  | exc _ => cases h
section
variable {K : PySem.W.Frag} {ca : Nat → Addr} {H : Hp} {M : Cells} {S : Store}
theorem seqP_rep (rs : RelS K ca H M S) {d : D} {v : V} {ds : List D} (r : Rep K ca H M d v) (h : seqP S d = some ds) : ∃ a xs, v = .ref a ∧ H a = some (.lst xs) ∧ RepL K ca H M ds xs ∧ xs.length ≤ sizeLine := by
  cases d with
  | lst es =>
    cases h
    obtain ⟨a, xs, e, h1, n, z, q⟩ := r
    exact ⟨a, xs, e, h1, q, z⟩
  | cell n =>
    have h : (match S[n]? with
      | some (.lst ds) => some ds
      | _ => none) = some ds := h
    split at h
    · next es e =>
      cases h
      obtain ⟨a, xs, hm, h1, z, q⟩ := rs.lst e
      obtain ⟨x, hx, hv⟩ := r
      rw [hm] at hx; cases hx
      exact ⟨a, xs, hv a rfl, h1, q, z⟩
    · cases h
  | non => cases h
  | bl _ => cases h
  | int _ => cases h
  | str _ => cases h
  | tup _ => cases h
  | obj _ _ _ => cases h
  | scr _ => cases h
  | exc _ => cases h
end

/-! ### arithmetic -/
def oAdd (c : Bool) (S : Store) (d e : D) : R D := match d, e with
  | .int i, .int j => .ok (.int (i + j)) S
  | .str x, .str y => if x.length + y.length ≤ sizeLine then .ok (.str (x ++ y)) S else .err
  | _, _ => match seqP S d, seqP S e with
    | some ds, some es => if ds.length + es.length ≤ sizeLine then finL c (ds ++ es) S else .err
    | _, _ => .err
def oSub (S : Store) (d e : D) : R D := match d, e with
  | .int i, .int j => .ok (.int (i - j)) S
  | _, _ => .err
def oMul (c : Bool) (S : Store) (d e : D) : R D := match d, e with
  | .int i, .int j => if (-(2 ^ 64) < i ∧ i < 2 ^ 64) ∨ (-(2 ^ 64) < j ∧ j < 2 ^ 64) then .ok (.int (i * j)) S else .err
  | _, .int k => match seqP S d with
    | some ds => if -(2 ^ 63) ≤ k ∧ k < 2 ^ 63 ∧ ds.length * k.toNat ≤ sizeLine then finL c (List.replicate k.toNat ds).flatten S else .err
    | none => .err
  | _, _ => .err
def oDiv (S : Store) (d e : D) : R D := match d, e with
  | .int i, .int j => if 0 < j ∧ j < 1073741824 then .ok (.int (i / j)) S else .err
  | _, _ => .err
def oMod (S : Store) (d e : D) : R D := match d, e with
  | .int i, .int j => if 0 < j then .ok (.int (i % j)) S else .err
  | _, _ => .err
def oPow (S : Store) (d e : D) : R D := match d, e with
  | .int i, .int j => if 0 ≤ j ∧ j ≤ 1000000 ∧ i.natAbs < 2 ^ 64 then .ok (.int (i ^ j.toNat)) S else .err
  | _, _ => .err
def oNeg (S : Store) (d : D) : R D := match d with
  | .int i => .ok (.int (-i)) S
  | _ => .err
section
variable {X : Cx} {ca : Nat → Addr}
theorem one_ok {K : PySem.W.Frag} {H : Hp} {M : Cells} {S : Store} {Q : VK} {W : XW} {d : D} {v : V} (p : Post K ca (rD K ca) H M Q W (.ok d S)) (rs : RelS K ca H M S) (r : Rep K ca H M d v) : Q v H := p v M H (Ext.refl _ _) rs r
abbrev rAddA : R2 := fun x y H Q => rI0 (fun i j => .int (i + j)) x y H Q ∨ ((∃ i j, x = .str i ∧ y = .str j ∧ i.length + j.length ≤ sizeLine ∧ Q (.str (i ++ j)) H) ∨ rCat x y H Q)
theorem or_add : OpR X (binaryOp .Add) rAddA := op_add.or (op_add_str.or op_cat)
theorem s_add {K : PySem.W.Frag} (c : Bool) : Sound2 K ca rAddA (oAdd c) := by
  intro H M S x y d e Q W rs rx ry p
  unfold oAdd at p
  split at p
  · cases rx; cases ry
    exact .inl ⟨_, _, rfl, rfl, one_ok p rs rfl⟩
  · split at p
    · next z => cases rx; cases ry; exact .inr (.inl ⟨_, _, rfl, rfl, z, one_ok p rs rfl⟩)
    · exact p.elim
  · split at p
    · next ds es h1 h2 =>
      split at p
      · next z =>
        obtain ⟨a, xs, rfl, ha, ra, za⟩ := seqP_rep rs rx h1
        obtain ⟨b, ys, rfl, hb, rb, zb⟩ := seqP_rep rs ry h2
        have l1 := ra.length; have l2 := rb.length
        refine .inr (.inr ⟨a, b, xs, ys, rfl, rfl, ha, hb, by omega, fun q hq => finL_new p rs hq (by rw [List.length_append]; omega) (ra.app rb)⟩)
      · exact p.elim
    · exact p.elim
theorem s_sub {K : PySem.W.Frag} : Sound2 K ca (rI0 fun i j => .int (i - j)) oSub := by
  intro H M S x y d e Q W rs rx ry p
  unfold oSub at p
  split at p
  · cases rx; cases ry; exact ⟨_, _, rfl, rfl, one_ok p rs rfl⟩
  · exact p.elim
abbrev rMulA : R2 := fun x y H Q => rI CMul (fun i j => .int (i * j)) x y H Q ∨ rRep x y H Q
theorem or_mul : OpR X (binaryOp .Mult) rMulA := op_mul.or op_rep
theorem repl_rep {K : PySem.W.Frag} {H : Hp} {M : Cells} {ds : List D} {xs : List V} (r : RepL K ca H M ds xs) : ∀ k : Nat, RepL K ca H M (List.replicate k ds).flatten (List.replicate k xs).flatten
  | 0 => trivial
  | k + 1 => by rw [List.replicate_succ, List.replicate_succ, List.flatten_cons, List.flatten_cons]; exact r.app (repl_rep r k)
theorem s_mul {K : PySem.W.Frag} (c : Bool) : Sound2 K ca rMulA (oMul c) := by
  intro H M S x y d e Q W rs rx ry p
  unfold oMul at p
  split at p
  · split at p
    · next z => cases rx; cases ry; exact .inl ⟨_, _, rfl, rfl, z, one_ok p rs rfl⟩
    · exact p.elim
  · next k _ =>
    split at p
    · next ds h1 =>
      split at p
      · next z =>
        obtain ⟨a, xs, rfl, ha, ra, za⟩ := seqP_rep rs rx h1
        cases ry
        have l1 := ra.length
        refine .inr ⟨a, k, xs, rfl, rfl, ha, z.1, z.2.1, by rw [← l1]; exact z.2.2, fun q hq => finL_new p rs hq ?_ (repl_rep ra _)⟩
        have : (List.replicate k.toNat xs).flatten.length = xs.length * k.toNat := by simp [Nat.mul_comm]
        rw [this, ← l1]; exact z.2.2
      · exact p.elim
    · exact p.elim
  · exact p.elim
theorem s_div {K : PySem.W.Frag} : Sound2 K ca (rI CDiv fun i j => .int (i / j)) oDiv := by
  intro H M S x y d e Q W rs rx ry p
  unfold oDiv at p
  split at p
  · split at p
    · next z => cases rx; cases ry; exact ⟨_, _, rfl, rfl, z, one_ok p rs rfl⟩
    · exact p.elim
  · exact p.elim
theorem s_mod {K : PySem.W.Frag} : Sound2 K ca (rI (fun _ j => 0 < j) fun i j => .int (i % j)) oMod := by
  intro H M S x y d e Q W rs rx ry p
  unfold oMod at p
  split at p
  · split at p
    · next z => cases rx; cases ry; exact ⟨_, _, rfl, rfl, z, one_ok p rs rfl⟩
    · exact p.elim
  · exact p.elim
theorem s_pow {K : PySem.W.Frag} : Sound2 K ca (rI CPow fun i j => .int (i ^ j.toNat)) oPow := by
  intro H M S x y d e Q W rs rx ry p
  unfold oPow at p
  split at p
  · split at p
    · next z => cases rx; cases ry; exact ⟨_, _, rfl, rfl, z, one_ok p rs rfl⟩
    · exact p.elim
  · exact p.elim
theorem s_neg {K : PySem.W.Frag} : Sound1 K ca (rU fun i => .int (-i)) oNeg := by
  intro H M S x d Q W rs rx p
  unfold oNeg at p
  split at p
  · cases rx; exact ⟨_, rfl, one_ok p rs rfl⟩
  · exact p.elim
end

/-! ### comparisons -/
/-! plain data -/
mutual
def okD : D → Bool
  | .non => true
  | .bl _ => true
  | .int _ => true
  | .str _ => true
  | .tup ds => okL ds
  | .lst ds => okL ds
  | _ => false
def okL : List D → Bool
  | [] => true
  | d :: ds => okD d && okL ds
end
mutual
def pyD : D → PyData
  | .bl b => .bool b
  | .int i => .int i
  | .str x => .str x
  | .tup ds => .tuple (pyL ds)
  | .lst ds => .list (pyL ds)
  | _ => .none
def pyL : List D → List PyData
  | [] => []
  | d :: ds => pyD d :: pyL ds
end
def deref (S : Store) (d : D) : D := match seqL S d with
  | some ds => .lst ds
  | none => d
/-- == of data -/
def eqD (d e : D) : Bool := PyData.eqv (pyD d) (pyD e)
def fit (d : D) : Bool := okD d && SeqAt.shaped (pyD d)
def twoS (d e : D) : Option Bool := match d, e with
  | .str x, .str y => some (decide (x = y))
  | _, _ => none
def oEq (S : Store) (d e : D) : R D := match twoS d e with
  | some b => .ok (.bl b) S
  | none => if fit (deref S d) && fit (deref S e) then .ok (.bl (eqD (deref S d) (deref S e))) S else .err
def oNe (S : Store) (d e : D) : R D := match twoS d e with
  | some b => .ok (.bl (!b)) S
  | none => if fit (deref S d) && fit (deref S e) then .ok (.bl (!eqD (deref S d) (deref S e))) S else .err
def oCmp (p : Int → Int → Bool) (S : Store) (d e : D) : R D := match d, e with
  | .int i, .int j => .ok (.bl (p i j)) S
  | _, _ => .err
def oIsN (S : Store) (d e : D) : R D := match e with
  | .non => match d with
    | .non => .ok (.bl true) S
    | .exc _ => .err
    | .cell n => match S[n]? with
      | some .dead => .err
      | none => .err
      | _ => .ok (.bl false) S
    | _ => .ok (.bl false) S
  | .bl b => match d with
    | .bl a => .ok (.bl (decide (a = b))) S
    | _ => .err
  | _ => .err
def oNotN (S : Store) (d e : D) : R D := match oIsN S d e with
  | .ok (.bl b) S => .ok (.bl (!b)) S
  | _ => .err
section
variable {X : Cx} {ca : Nat → Addr}
mutual
theorem dp_of {K : PySem.W.Frag} {H : Hp} {M : Cells} : ∀ (d : D) (v : V), Rep K ca H M d v → okD d = true → Dp K H v (pyD d)
  | .non, v, r, _ => by cases r; exact .non
  | .bl _, v, r, _ => by cases r; exact .bl _
  | .int _, v, r, _ => by cases r; exact .int _
  | .str _, v, r, _ => by cases r; exact .str _
  | .tup ds, v, r, h => by
    obtain ⟨a, xs, rfl, h1, n, q⟩ := r
    exact .tup (SqT.of h1) (dp_all ds xs q h)
  | .lst ds, v, r, h => by
    obtain ⟨a, xs, rfl, h1, n, z, q⟩ := r
    exact .lst (SqL.of h1) (dp_all ds xs q h)
  | .obj _ _ _, _, _, h => by cases h
  | .cell _, _, _, h => by cases h
  | .scr _, _, _, h => by cases h
  | .exc _, _, _, h => by cases h
theorem dp_all {K : PySem.W.Frag} {H : Hp} {M : Cells} : ∀ (ds : List D) (vs : List V), RepL K ca H M ds vs → okL ds = true → DpAll K H vs (pyL ds)
  | [], [], _, _ => .nil
  | d :: ds, v :: vs, r, h => by
    have h : (okD d && okL ds) = true := h
    rw [Bool.and_eq_true] at h
    exact .cons (dp_of d v r.1 h.1) (dp_all ds vs r.2 h.2)
  | [], _ :: _, r, _ => r.elim
  | _ :: _, [], r, _ => r.elim
end
theorem dp_deref {K : PySem.W.Frag} {H : Hp} {M : Cells} {S : Store} (rs : RelS K ca H M S) {d : D} {v : V} (r : Rep K ca H M d v) (h : fit (deref S d) = true) : Dp K H v (pyD (deref S d)) ∧ SeqAt.shaped (pyD (deref S d)) = true := by
  unfold fit at h
  rw [Bool.and_eq_true] at h
  refine ⟨?_, h.2⟩
  have h := h.1
  unfold deref at h ⊢
  split at h
  · next ds e =>
    obtain ⟨a, xs, rfl, sq, rl, z⟩ := seq_rep rs r e
    exact .lst sq (dp_all ds xs rl h)
  · exact dp_of d v r h
theorem twoS_rep {K : PySem.W.Frag} {H : Hp} {M : Cells} {x y : V} {d e : D} {b : Bool} (rx : Rep K ca H M d x) (ry : Rep K ca H M e y) (h : twoS d e = some b) : ∃ i j, x = .str i ∧ y = .str j ∧ b = decide (V.str i = V.str j) := by
  unfold twoS at h
  split at h
  · next i j =>
    cases h; cases rx; cases ry
    refine ⟨i, j, rfl, rfl, ?_⟩
    by_cases q : i = j
    · subst q; simp
    · simp [q]
  · cases h
abbrev rEqA (K : PySem.W.Frag) : R2 := fun x y H Q => rEq x y H Q ∨ rEqD K x y H Q
abbrev rNeA (K : PySem.W.Frag) : R2 := fun x y H Q => rNe x y H Q ∨ rNeD K x y H Q
theorem or_eq (hu : X.A.units + 64 < cLine) : OpR X (compareOp .Eq) (rEqA X.K) := op_eq.or (op_eqD hu)
theorem or_ne (hu : X.A.units + 64 < cLine) : OpR X (compareOp .NotEq) (rNeA X.K) := op_ne.or (op_neD hu)
theorem s_eq {K : PySem.W.Frag} : Sound2 K ca (rEqA K) oEq := by
  intro H M S x y d e Q W rs rx ry p
  unfold oEq at p
  split at p
  · next b hb =>
    obtain ⟨i, j, rfl, rfl, rfl⟩ := twoS_rep rx ry hb
    exact .inl ⟨rfl, one_ok p rs rfl⟩
  refine .inr ?_
  split at p
  · next z =>
    rw [Bool.and_eq_true] at z
    obtain ⟨h1, h2⟩ := dp_deref rs rx z.1
    obtain ⟨h3, h4⟩ := dp_deref rs ry z.2
    exact ⟨_, _, h1, h3, h2, h4, one_ok p rs rfl⟩
  · exact p.elim
theorem s_ne {K : PySem.W.Frag} : Sound2 K ca (rNeA K) oNe := by
  intro H M S x y d e Q W rs rx ry p
  unfold oNe at p
  split at p
  · next b hb =>
    obtain ⟨i, j, rfl, rfl, rfl⟩ := twoS_rep rx ry hb
    exact .inl ⟨rfl, one_ok p rs rfl⟩
  refine .inr ?_
  split at p
  · next z =>
    rw [Bool.and_eq_true] at z
    obtain ⟨h1, h2⟩ := dp_deref rs rx z.1
    obtain ⟨h3, h4⟩ := dp_deref rs ry z.2
    exact ⟨_, _, h1, h3, h2, h4, one_ok p rs rfl⟩
  · exact p.elim
theorem s_cmp {K : PySem.W.Frag} (f : Int → Int → Bool) : Sound2 K ca (rI0 fun i j => .bl (f i j)) (oCmp f) := by
  intro H M S x y d e Q W rs rx ry p
  unfold oCmp at p
  split at p
  · cases rx; cases ry; exact ⟨_, _, rfl, rfl, one_ok p rs rfl⟩
  · exact p.elim
abbrev rIsA : R2 := fun x y H Q => (y = .non ∧ Q (.bl (decide (x = .non))) H) ∨ rIsB x y H Q
abbrev rNotA : R2 := fun x y H Q => (y = .non ∧ Q (.bl (!decide (x = .non))) H) ∨ rNotB x y H Q
theorem or_is : OpR X (compareOp .Is) rIsA := op_isN.or op_isBl
theorem or_isnot : OpR X (compareOp .IsNot) rNotA := op_notN.or op_notBl
theorem isn_core {K : PySem.W.Frag} {H : Hp} {M : Cells} {S S' : Store} {x y : V} {d e : D} {r : D} (rs : RelS K ca H M S) (rx : Rep K ca H M d x) (ry : Rep K ca H M e y) (h : oIsN S d e = .ok r S') :
    S' = S ∧ ((y = .non ∧ r = .bl (decide (x = .non))) ∨ ∃ a b, x = .bl a ∧ y = .bl b ∧ r = .bl (decide (a = b))) := by
  unfold oIsN at h
  split at h
  · cases ry
    have nr : ∀ a, V.ref a ≠ V.non := fun a q => nomatch q
    split at h
    · cases rx; cases h; exact ⟨rfl, .inl ⟨rfl, rfl⟩⟩
    · cases h
    · next n =>
      split at h
      · cases h
      · cases h
      · next k hk1 hk2 =>
        cases h
        obtain ⟨z, hz, q⟩ := rx
        refine ⟨rfl, .inl ⟨rfl, ?_⟩⟩
        cases hmo : S[n]? with
        | none => exact (hk2 hmo).elim
        | some mo =>
          obtain ⟨z', hz', c⟩ := rs.cells n mo hmo
          rw [hz] at hz'; cases hz'
          have : ∃ a, z = some a := by
            cases mo with
            | dead => exact absurd hmo hk1
            | lst _ => obtain ⟨a, _, e, _⟩ := c; exact ⟨a, e⟩
            | dk _ => obtain ⟨a, _, e, _⟩ := c; exact ⟨a, e⟩
            | dt _ => obtain ⟨a, _, e, _⟩ := c; exact ⟨a, e⟩
            | ins _ _ _ => obtain ⟨a, _, _, e, _⟩ := c; exact ⟨a, e⟩
            | fk _ => obtain ⟨a, _, _, e, _⟩ := c; exact ⟨a, e⟩
            | ft _ => obtain ⟨a, _, _, e, _⟩ := c; exact ⟨a, e⟩
          obtain ⟨a, ea⟩ := this
          rw [q a ea]; rfl
    · next h1 h2 h3 =>
      cases h
      refine ⟨rfl, .inl ⟨rfl, ?_⟩⟩
      cases d with
      | non => exact absurd rfl h1
      | exc _ => exact absurd rfl (h2 _)
      | cell _ => exact absurd rfl (h3 _)
      | bl _ => cases rx; rfl
      | int _ => cases rx; rfl
      | str _ => cases rx; rfl
      | tup _ => obtain ⟨a, _, rfl, _⟩ := rx; rfl
      | lst _ => obtain ⟨a, _, rfl, _⟩ := rx; rfl
      | obj _ _ _ => obtain ⟨a, _, _, rfl, _⟩ := rx; rfl
      | scr _ => obtain ⟨a, rfl, _⟩ := rx; rfl
  · split at h
    · cases h; cases rx; cases ry; exact ⟨rfl, .inr ⟨_, _, rfl, rfl, rfl⟩⟩
    · cases h
  · cases h
theorem s_is {K : PySem.W.Frag} : Sound2 K ca rIsA oIsN := by
  intro H M S x y d e Q W rs rx ry p
  cases h : oIsN S d e with
  | err => rw [h] at p; exact p.elim
  | ex c S' =>
    unfold oIsN at h
    repeat' (split at h)
    all_goals cases h
  | ok r S' =>
    rw [h] at p
    obtain ⟨rfl, q⟩ := isn_core rs rx ry h
    rcases q with ⟨rfl, rfl⟩ | ⟨a, b, rfl, rfl, rfl⟩
    · exact .inl ⟨rfl, one_ok p rs rfl⟩
    · exact .inr ⟨a, b, rfl, rfl, one_ok p rs rfl⟩
theorem s_isnot {K : PySem.W.Frag} : Sound2 K ca rNotA oNotN := by
  intro H M S x y d e Q W rs rx ry p
  unfold oNotN at p
  split at p
  · next b S' h =>
    obtain ⟨rfl, q⟩ := isn_core rs rx ry h
    rcases q with ⟨rfl, e⟩ | ⟨a, b, rfl, rfl, e⟩
    · cases e; exact .inl ⟨rfl, one_ok p rs rfl⟩
    · cases e; exact .inr ⟨a, b, rfl, rfl, one_ok p rs rfl⟩
  · exact p.elim
/-- a < b < c -/
def mChain (f g : Store → D → D → R D) (a b c : ME) : ME := fun ρ S => (a ρ S).bind fun d S1 => (b ρ S1).bind fun e S2 => (f S2 d e).bind fun r S3 => match r with
  | .bl true => (c ρ S3).bind fun k S4 => g S4 e k
  | .bl false => .ok (.bl false) S3
  | _ => .err
theorem chain_of {X : Cx} {W : WX} {ca : Nat → Addr} {r r' : R2} {f g : Store → D → D → R D} {ma mb mc : ME} (s : Sound2 X.K ca r f) (s' : Sound2 X.K ca r' g) (σ : L2.St) (H : Hp) (Q : VK) :
    tOf X.K ca W (mChain f g ma mb mc) σ H Q → tChain r r' (tOf X.K ca W ma) (tOf X.K ca W mb) (tOf X.K ca W mc) σ H Q := by
  rintro ⟨ρ, M, S, re, rs, p⟩
  refine ⟨ρ, M, S, re, rs, (post_bind p).mono ?_⟩
  rintro x H1 ⟨M1, S1, d, e1, rs1, r1, p1⟩
  refine ⟨ρ, M1, S1, re.ext e1, rs1, (post_bind p1).mono ?_⟩
  rintro y H2 ⟨M2, S2, e, e2, rs2, r2, p2⟩
  refine s H2 M2 S2 x y d e _ _ rs2 (Rep.ext e2 _ _ r1) r2 ((post_bind p2).mono ?_)
  rintro z H3 ⟨M3, S3, b, e3, rs3, r3, p3⟩
  cases b <;> first | exact p3.elim | skip
  next b =>
    refine ⟨b, r3, ?_⟩
    cases b with
    | true =>
      refine ⟨ρ, M3, S3, ((re.ext e1).ext e2).ext e3, rs3, (post_bind p3).mono ?_⟩
      rintro u H4 ⟨M4, S4, k, e4, rs4, r4, p4⟩
      exact s' H4 M4 S4 y u e k Q _ rs4 (Rep.ext e4 _ _ (Rep.ext e3 _ _ r2)) r4 p4
    | false => exact p3 _ M3 H3 (Ext.refl _ _) rs3 rfl
theorem q_chain {X : Cx} {W : WX} {ca : Nat → Addr} {op op' : CmpOp} {r r' : R2} {f g : Store → D → D → R D} {a b c : Expr} {pos : Pos} {ma mb mc : ME} (ho : OpR X (compareOp op) r) (ho' : OpR X (compareOp op') r') (s : Sound2 X.K ca r f) (s' : Sound2 X.K ca r' g)
    (ha : PE X a (tOf X.K ca W ma)) (hb : PE X b (tOf X.K ca W mb)) (hc : PE X c (tOf X.K ca W mc)) (hm : lastMarks [op, op'] [b, c] = false := by with_unfolding_all rfl) :
    PE X (.Compare a [op, op'] [b, c] pos) (tOf X.K ca W (mChain f g ma mb mc)) := weakE (pe_chain ho ho' ha hb hc hm) (chain_of s s')
theorem qt_chain {X : Cx} {W : WX} {ca : Nat → Addr} {op op' : CmpOp} {r r' : R2} {f g : Store → D → D → R D} {a b c : Expr} {pos : Pos} {ma mb mc : ME} (ho : OpR X (compareOp op) r) (ho' : OpR X (compareOp op') r') (s : Sound2 X.K ca r f) (s' : Sound2 X.K ca r' g)
    (ha : PE X a (tOf X.K ca W ma)) (hb : PE X b (tOf X.K ca W mb)) (hc : PE X c (tOf X.K ca W mc)) (hm : lastMarks [op, op'] [b, c] = false := by with_unfolding_all rfl) :
    PT X (.Compare a [op, op'] [b, c] pos) (tOfT X.K ca W (mChain f g ma mb mc)) := weakT (pt_chain ho ho' ha hb hc hm) fun σ H Q q => chain_of s s' σ H _ (t_of σ H Q q)
end
end Sm
/-! S7: subscripts, slices, displays, dicts, methods, built-ins -/
namespace Sm
open PySem PySem.Spec PyProof.Rows L2
open Classical

/-! ### dicts by keys -/
section
variable {k : Type} [DecidableEq k] {B : Type}
def valK (kvs : List (k × B)) (x : k) : Option B := (kvs.find? fun kv => decide (kv.1 = x)).map (·.2)
def putG (kvs : List (k × B)) (x : k) (v : B) : List (k × B) :=
  if (kvs.any fun kv => decide (kv.1 = x)) = true then kvs.map (fun kv => if kv.1 = x then (kv.1, v) else kv) else kvs ++ [(x, v)]
end
def keyOf : D → Option Key
  | .int i => some (.inl i)
  | .str x => some (.inr x)
  | _ => none
def keysOf : List D → Option (List Key)
  | [] => some []
  | d :: ds => match keyOf d, keysOf ds with
    | some x, some xs => some (x :: xs)
    | _, _ => none
section
variable {K : PySem.W.Frag} {ca : Nat → Addr} {H : Hp} {M : Cells} {S : Store}
theorem key_rep {d : D} {v : V} {x : Key} (r : Rep K ca H M d v) (h : keyOf d = some x) : v = kV x := by
  cases d with
  | int i => cases h; cases r; rfl
  | str z => cases h; cases r; rfl
  | non => cases h
  | bl _ => cases h
  | tup _ => cases h
  | lst _ => cases h
  | obj _ _ _ => cases h
  | cell _ => cases h
  | scr _ => cases h
  | exc _ => cases h
theorem keys_rep : ∀ {ds : List D} {vs : List V} {xs : List Key}, RepL K ca H M ds vs → keysOf ds = some xs → vs = xs.map kV
  | [], [], _, _, h => by cases h; rfl
  | d :: ds, v :: vs, xs, r, h => by
    have h : (match keyOf d, keysOf ds with
      | some x, some xs => some (x :: xs)
      | _, _ => none) = some xs := h
    split at h
    · next x ys h1 h2 => cases h; rw [key_rep r.1 h1, keys_rep r.2 h2]; rfl
    · cases h
  | [], _ :: _, _, r, _ => r.elim
  | _ :: _, [], _, r, _ => r.elim
theorem val_rep {k : Type} [DecidableEq k] : ∀ {kvs : List (k × D)} {ys : List (k × V)} (x : k), ys.map (·.1) = kvs.map (·.1) → RepL K ca H M (kvs.map (·.2)) (ys.map (·.2)) →
    (∀ d, valK kvs x = some d → ∃ v, valV ys x = some v ∧ Rep K ca H M d v) ∧ (valK kvs x = none → valV ys x = none)
  | [], [], _, _, _ => ⟨fun d h => (nomatch h), fun _ => rfl⟩
  | (a, d) :: kvs, (b, v) :: ys, x, e, r => by
    have e1 : b = a := (List.cons.inj e).1
    subst e1
    have ih := val_rep (kvs := kvs) (ys := ys) x (List.cons.inj e).2 r.2
    unfold valK valV
    by_cases h : b = x
    · simp only [List.find?_cons, h, decide_true, Option.map_some]
      exact ⟨fun d' q => by cases q; exact ⟨v, rfl, r.1⟩, fun q => nomatch q⟩
    · simp only [List.find?_cons, h, decide_false]
      exact ih
  | [], _ :: _, _, e, _ => nomatch e
  | _ :: _, [], _, e, _ => nomatch e
theorem any_rep {k : Type} [DecidableEq k] : ∀ {kvs : List (k × D)} {ys : List (k × V)} (x : k), ys.map (·.1) = kvs.map (·.1) → (ys.any fun kv => decide (kv.1 = x)) = kvs.any fun kv => decide (kv.1 = x)
  | [], [], _, _ => rfl
  | (a, d) :: kvs, (b, v) :: ys, x, e => by
    have e1 : b = a := (List.cons.inj e).1
    subst e1
    rw [List.any_cons, List.any_cons, any_rep (kvs := kvs) (ys := ys) x (List.cons.inj e).2]
  | [], _ :: _, _, e => nomatch e
  | _ :: _, [], _, e => nomatch e
theorem map_rep {k : Type} [DecidableEq k] : ∀ {kvs : List (k × D)} {ys : List (k × V)} (x : k) {d : D} {v : V}, ys.map (·.1) = kvs.map (·.1) → RepL K ca H M (kvs.map (·.2)) (ys.map (·.2)) → Rep K ca H M d v →
    (ys.map fun kv => if kv.1 = x then (kv.1, v) else kv).map (·.1) = (kvs.map fun kv => if kv.1 = x then (kv.1, d) else kv).map (·.1) ∧
    RepL K ca H M ((kvs.map fun kv => if kv.1 = x then (kv.1, d) else kv).map (·.2)) ((ys.map fun kv => if kv.1 = x then (kv.1, v) else kv).map (·.2))
  | [], [], _, _, _, _, _, _ => ⟨rfl, trivial⟩
  | (a, c) :: kvs, (b, u) :: ys, x, d, v, e, r, rv => by
    have e1 : b = a := (List.cons.inj e).1
    subst e1
    have ih := map_rep (kvs := kvs) (ys := ys) x (List.cons.inj e).2 r.2 rv
    by_cases h : b = x
    · simp only [List.map_cons, h, if_true]
      exact ⟨by rw [ih.1], rv, ih.2⟩
    · simp only [List.map_cons, h, if_false]
      exact ⟨by rw [ih.1], r.1, ih.2⟩
  | [], _ :: _, _, _, _, e, _, _ => nomatch e
  | _ :: _, [], _, _, _, e, _, _ => nomatch e
theorem put_rep {k : Type} [DecidableEq k] {kvs : List (k × D)} {ys : List (k × V)} (x : k) {d : D} {v : V} (e : ys.map (·.1) = kvs.map (·.1)) (r : RepL K ca H M (kvs.map (·.2)) (ys.map (·.2))) (rv : Rep K ca H M d v) :
    (putK ys x v).map (·.1) = (putG kvs x d).map (·.1) ∧ RepL K ca H M ((putG kvs x d).map (·.2)) ((putK ys x v).map (·.2)) := by
  unfold putK putG
  rw [any_rep x e]
  split
  · exact map_rep x e r rv
  · rw [List.map_append, List.map_append, List.map_append, List.map_append]
    exact ⟨by rw [e]; rfl, r.app (RepL.one rv)⟩
/-- what a dict holds at a key -/
def dLookT (kvs : List (List Key × D)) (e : D) : Option (Option D) := match e with
  | .tup ds => (keysOf ds).map fun x => valK kvs x
  | _ => none
def dLook (mo : Option MO) (e : D) : Option (Option D) := match mo with
  | some (.dk kvs) => (keyOf e).map fun x => valK kvs x
  | some (.dt kvs) => dLookT kvs e
  | some (.fk kvs) => (keyOf e).map fun x => valK kvs x
  | some (.ft kvs) => dLookT kvs e
  | _ => none
def dGet (S : Store) (d e : D) : Option (Option D) := match d with
  | .cell n => dLook S[n]? e
  | _ => none
def ORep (K : PySem.W.Frag) (ca : Nat → Addr) (H : Hp) (M : Cells) (o : Option D) (ov : Option V) : Prop := match o with
  | some d => ∃ v, ov = some v ∧ Rep K ca H M d v
  | none => ov = none
theorem ORep.some_eq {o : Option D} {ov : Option V} (h : ORep K ca H M o ov) : ov.isSome = o.isSome := by
  cases o with
  | none => rw [show ov = none from h]; rfl
  | some d => obtain ⟨v, e, _⟩ := h; rw [e]; rfl
theorem orep_of {kk : Type} [DecidableEq kk] {kvs : List (kk × D)} {ys : List (kk × V)} (x : kk) (e : ys.map (·.1) = kvs.map (·.1)) (r : RepL K ca H M (kvs.map (·.2)) (ys.map (·.2))) : ORep K ca H M (valK kvs x) (valV ys x) := by
  obtain ⟨g1, g2⟩ := val_rep x e r
  cases w : valK kvs x with
  | none => exact g2 w
  | some d' => exact g1 d' w
theorem dget_rep (rs : RelS K ca H M S) {d e : D} {x y : V} {o : Option D} (rx : Rep K ca H M d x) (ry : Rep K ca H M e y) (h : dGet S d e = some o) :
    ∃ a ov, x = .ref a ∧ DGet H a y ov ∧ ORep K ca H M o ov := by
  cases d with
  | cell n =>
    replace h : dLook S[n]? e = some o := h
    obtain ⟨z, hz, hv⟩ := rx
    unfold dLook at h
    split at h
    · next kvs hS =>
      obtain ⟨z', hz', a, ys, rfl, h1, h2, h3⟩ := rs.cells n _ hS
      rw [hz] at hz'; cases hz'
      cases q : keyOf e with
      | none => rw [q] at h; cases h
      | some k =>
        rw [q] at h; cases h
        have := key_rep ry q
        subst this
        exact ⟨a, valV ys k, hv a rfl, DGet.k h1, orep_of k h2 h3⟩
    · next kvs hS =>
      obtain ⟨z', hz', a, ys, rfl, h1, h2, h3⟩ := rs.cells n _ hS
      rw [hz] at hz'; cases hz'
      cases e <;> first | (cases h; done) | skip
      next ds =>
        obtain ⟨b, xs, rfl, hb, _, rl⟩ := ry
        replace h : (keysOf ds).map (fun x => valK kvs x) = some o := h
        cases q : keysOf ds with
        | none => rw [q] at h; cases h
        | some k =>
          rw [q] at h; cases h
          have := keys_rep rl q
          subst this
          exact ⟨a, valV ys k, hv a rfl, DGet.t h1 hb, orep_of k h2 h3⟩
    · next kvs hS =>
      obtain ⟨z', hz', a, ys, od, rfl, h1, h2, h3⟩ := rs.cells n _ hS
      rw [hz] at hz'; cases hz'
      cases q : keyOf e with
      | none => rw [q] at h; cases h
      | some k =>
        rw [q] at h; cases h
        have := key_rep ry q
        subst this
        exact ⟨a, valV ys k, hv a rfl, .inl ⟨ys, k, .inr ⟨od, h1⟩, rfl, rfl⟩, orep_of k h2 h3⟩
    · next kvs hS =>
      obtain ⟨z', hz', a, ys, od, rfl, h1, h2, h3⟩ := rs.cells n _ hS
      rw [hz] at hz'; cases hz'
      cases e <;> first | (cases h; done) | skip
      next ds =>
        obtain ⟨b, xs, rfl, hb, _, rl⟩ := ry
        replace h : (keysOf ds).map (fun x => valK kvs x) = some o := h
        cases q : keysOf ds with
        | none => rw [q] at h; cases h
        | some k =>
          rw [q] at h; cases h
          have := keys_rep rl q
          subst this
          exact ⟨a, valV ys k, hv a rfl, .inr ⟨ys, k, b, .inr ⟨od, h1⟩, rfl, hb, rfl⟩, orep_of k h2 h3⟩
    · cases h
  | non => cases h
  | bl _ => cases h
  | int _ => cases h
  | str _ => cases h
  | tup _ => cases h
  | lst _ => cases h
  | obj _ _ _ => cases h
  | scr _ => cases h
  | exc _ => cases h
end

/-! ### subscripts -/
section
variable {X : Cx} {ca : Nat → Addr}
abbrev rIxD : R2 := fun x y H Q => ∃ a v, x = .ref a ∧ DGet H a y (some v) ∧ Q v H
theorem ix_dict (hu : X.A.units + 1 < cLine) : IxR X rIxD := by
  intro value slice pins s σ H x y v u Q I rx ry h hs
  obtain ⟨a, z, rfl, g, q⟩ := h
  cases rx
  have hT := dict_typeIs I g
  unfold subscriptTail
  refine wpAny_bind ?_
  rw [getitemInPython_of_ne hT.not_modules]
  refine wpAny_bind (wpAny_specialOf hT PySem.F.slot_dict_getitem.lookup ?_)
  have fin : wpAny (model X.prog X.w) X.A (subscripted slice false (.ref a) u) (fun r s₃ => wpAny (model X.prog X.w) X.A (letTemporaryGo value (.ref a) r >>= fun _ => pure r) (EP X pins σ Q) X.xe s₃) X.xe s := by
    rw [hs]
    exact wpAny_operating (wpAny_mono (d_getItem hu I g ry fun w' s3 I3 rw' => show EP X pins σ Q w' s3 from ⟨z, H, I3, rw', q⟩) (fun r s₃ h₃ => wpAny_bind (wpAny_letTemporaryGo (wpAny_pure h₃))) fun _ _ x => x)
  first
    | exact wpAny_pure (wpAny_bind fin)
    | exact wpAny_bind (wpAny_pure (wpAny_bind fin))
    | exact wpAny_bind fin
abbrev rIxA (K : PySem.W.Frag) : R2 := fun x y H Q => rIx K x y H Q ∨ rIxD x y H Q
theorem or_ix (hu : X.A.units + 1 < cLine) : IxR X (rIxA X.K) := ix_seq.or (ix_dict hu)
end
/-- the item at a place, counted from the end below nought -/
def oIx (S : Store) (d e : D) : R D := match e with
  | .int i => match d with
    | .tup ds => match atI ds i with
      | some r => .ok r S
      | none => .err
    | .str x => if x.length ≤ sizeLine then (match atI x.cps.toList i with
      | some c => .ok (.str ⟨#[c]⟩) S
      | none => .err) else .err
    | _ => match seqL S d with
      | some ds => match atI ds i with
        | some r => .ok r S
        | none => .err
      | none => match dGet S d e with
        | some (some r) => .ok r S
        | _ => .err
  | _ => match dGet S d e with
    | some (some r) => .ok r S
    | _ => .err
section
variable {ca : Nat → Addr}
theorem at_rep {K : PySem.W.Frag} {H : Hp} {M : Cells} {ds : List D} {xs : List V} {i : Int} {r : D} (rl : RepL K ca H M ds xs) (h : atI ds i = some r) : ∃ v, atI xs i = some v ∧ Rep K ca H M r v := by
  unfold atI at h ⊢
  rw [← rl.length]
  cases q : ixN ds.length i with
  | none => rw [q] at h; cases h
  | some j =>
    rw [q] at h
    obtain ⟨v, hv, rv⟩ := rl.get (show ds[j]? = some r from h)
    exact ⟨v, hv, rv⟩
theorem s_ix {K : PySem.W.Frag} : Sound2 K ca (rIxA K) oIx := by
  intro H M S x y d e Q W rs rx ry p
  have dict : ∀ r, dGet S d e = some (some r) → Post K ca (rD K ca) H M Q W (.ok r S) → rIxA K x y H Q := fun r h p => by
    obtain ⟨a, ov, e1, g, ho⟩ := dget_rep rs rx ry h
    obtain ⟨v, e2, rv⟩ := ho
    subst e2
    exact .inr ⟨a, v, e1, g, one_ok p rs rv⟩
  unfold oIx at p
  split at p
  · next i =>
    cases ry
    split at p
    · next ds =>
      obtain ⟨a, xs, rfl, h1, n, rl⟩ := rx
      split at p
      · next r hr =>
        obtain ⟨v, hv, rv⟩ := at_rep rl hr
        exact .inl (.inr (.inl ⟨a, xs, i, v, rfl, rfl, SqT.of h1, hv, one_ok p rs rv⟩))
      · exact p.elim
    · next x =>
      cases rx
      split at p
      · next hz =>
        split at p
        · next c hc => exact .inl (.inr (.inr ⟨x, i, c, rfl, rfl, hz, hc, one_ok p rs rfl⟩))
        · exact p.elim
      · exact p.elim
    · split at p
      · next ds hd =>
        obtain ⟨a, xs, rfl, sq, rl, z⟩ := seq_rep rs rx hd
        split at p
        · next r hr =>
          obtain ⟨v, hv, rv⟩ := at_rep rl hr
          exact .inl (.inl ⟨a, xs, i, v, rfl, rfl, sq, hv, one_ok p rs rv⟩)
        · exact p.elim
      · split at p
        · next r hr => exact dict r hr p
        · exact p.elim
  · split at p
    · next r hr => exact dict r hr p
    · exact p.elim
end

/-! ### slices -/
def cutD {B : Type} (xs : List B) (lo hi : Option Int) : List B := (xs.drop (HT.sIx xs.length 0 lo)).take (HT.sIx xs.length xs.length hi - HT.sIx xs.length 0 lo)
abbrev MO' := Env → Store → R (Option Int)
def oNo : Env → Store → R (Option Int) := fun _ S => .ok none S
def oSome (a : ME) : Env → Store → R (Option Int) := fun ρ S => (a ρ S).bind fun d S1 => match d with
  | .int i => .ok (some i) S1
  | _ => .err
def oSl (c : Bool) (S : Store) (d : D) (lo hi : Option Int) : R D := match d with
  | .str x => if x.length ≤ sizeLine then .ok (.str (cutS x lo hi)) S else .err
  | _ => match seqL S d with
    | some ds => finL c (cutD ds lo hi) S
    | none => .err
def mSl (c : Bool) (a : ME) (lo hi : Env → Store → R (Option Int)) : ME := fun ρ S => (a ρ S).bind fun d S1 => (lo ρ S1).bind fun l S2 => (hi ρ S2).bind fun h S3 => oSl c S3 d l h
section
variable {X : Cx} {ca : Nat → Addr} {W : WX}
abbrev rO (_ : Hp) (_ : Cells) (d v : Option Int) : Prop := v = d
def tOfO (K : PySem.W.Frag) (ca : Nat → Addr) (W : WX) (m : Env → Store → R (Option Int)) : TO := fun σ H Q => ∃ ρ M S, REnv K ca H M ρ σ ∧ RelS K ca H M S ∧ Post K ca rO H M Q (fun c d H' => W c d σ H') (m ρ S)
theorem weakO {e : Option Expr} {t t' : TO} (h : PO X e t) (w : ∀ σ H Q, t' σ H Q → t σ H Q) : PO X e t' := ⟨fun pins s σ H Q I q => h.run pins s σ H Q I (w σ H Q q)⟩
theorem qo_no : PO X none (tOfO X.K ca W oNo) := weakO po_none fun σ H Q => by
  rintro ⟨ρ, M, S, re, rs, p⟩
  exact p none M H (Ext.refl _ _) rs rfl
theorem qo_some {e : Expr} {a : ME} (h : PE X e (tOf X.K ca W a)) : PO X (some e) (tOfO X.K ca W (oSome a)) := weakO (po_some h) fun σ H Q => by
  rintro ⟨ρ, M, S, re, rs, p⟩
  refine ⟨ρ, M, S, re, rs, (post_bind p).mono ?_⟩
  rintro x H1 ⟨M1, S1, d, e1, rs1, r1, p1⟩
  cases d <;> first | exact p1.elim | skip
  next i => exact ⟨i, r1, p1 _ M1 H1 (Ext.refl _ _) rs1 rfl⟩
abbrev rSlA (K : PySem.W.Frag) : V → Option Int → Option Int → Hp → VK → Prop := fun x lo hi H Q => rSlL K x lo hi H Q ∨ rSlS x lo hi H Q
theorem or_sl : SlR X (rSlA X.K) := sl_list.or sl_str
theorem cut_rep {K : PySem.W.Frag} {H : Hp} {M : Cells} {ds : List D} {xs : List V} (rl : RepL K ca H M ds xs) (lo hi : Option Int) : RepL K ca H M (cutD ds lo hi) (cutV xs lo hi) := by
  unfold cutD cutV
  rw [← rl.length]
  exact RepL.take _ (RepL.drop _ rl)
theorem q_slice {e : Expr} {lo hi : Option Expr} {p2 pos : Pos} {c : Bool} {a : ME} {l h : Env → Store → R (Option Int)} (he : PE X e (tOf X.K ca W a)) (hl : PO X lo (tOfO X.K ca W l)) (hh : PO X hi (tOfO X.K ca W h)) :
    PE X (.Subscript e (.Slice lo hi none p2) pos) (tOf X.K ca W (mSl c a l h)) := weakE (pe_slice or_sl he hl hh) fun σ H Q => by
  rintro ⟨ρ, M, S, re, rs, p⟩
  refine ⟨ρ, M, S, re, rs, (post_bind p).mono ?_⟩
  rintro x H1 ⟨M1, S1, d, e1, rs1, r1, p1⟩
  refine ⟨ρ, M1, S1, re.ext e1, rs1, (post_bind p1).mono ?_⟩
  rintro _ H2 ⟨M2, S2, lo, e2, rs2, rfl, p2⟩
  refine ⟨ρ, M2, S2, (re.ext e1).ext e2, rs2, (post_bind p2).mono ?_⟩
  rintro _ H3 ⟨M3, S3, hi, e3, rs3, rfl, p3⟩
  have rd := Rep.ext e3 _ _ (Rep.ext e2 _ _ r1)
  unfold oSl at p3
  split at p3
  · next z =>
    cases rd
    split at p3
    · next hz => exact .inr ⟨z, rfl, hz, one_ok p3 rs3 rfl⟩
    · exact p3.elim
  · split at p3
    · next ds hd =>
      obtain ⟨b, xs, rfl, sq, rl, z⟩ := seq_rep rs3 rd hd
      exact .inl ⟨b, xs, rfl, sq, fun q hq => finL_new p3 rs3 hq (Nat.le_trans (cutV_length _ _ _) z) (cut_rep rl _ _)⟩
    · exact p3.elim
end

/-! ### tuples, lists, written dicts -/
def oTup (S : Store) (ds : List D) : R D := if ds.length ≤ 64 then .ok (.tup ds) S else .err
def oLst (c : Bool) (S : Store) (ds : List D) : R D := if ds.length ≤ 64 then finL c ds S else .err
section
variable {X : Cx} {ca : Nat → Addr} {W : WX}
theorem le64 {n : Nat} (h : n ≤ 64) : n ≤ sizeLine := Nat.le_trans h (by decide)
theorem q_tup {es : List Expr} {x1 : Nat} {pos : Pos} {ms : Env → Store → R (List D)} (ha : PA X es (tOfA X.K ca W ms)) : PE X (.Tuple es x1 pos) (tOf X.K ca W (mN oTup ms)) := weakE (pe_tup ha) fun σ H Q => by
  rintro ⟨ρ, M, S, re, rs, p⟩
  refine ⟨ρ, M, S, re, rs, (post_bind p).mono ?_⟩
  rintro xs H1 ⟨M1, S1, ds, e1, rs1, r1, p1⟩
  unfold oTup at p1
  split at p1
  · next h =>
    have hl := r1.length
    refine ⟨by rw [← hl]; exact le64 h, fun q hq => ?_⟩
    exact p1 _ M1 _ (ext_new hq _) (rs1.new hq _) ⟨q, xs, rfl, upd_same, rs1.fresh hq, RepL.ext (ext_new hq _) _ _ r1⟩
  · exact p1.elim
theorem q_lst {es : List Expr} {pos : Pos} {c : Bool} {ms : Env → Store → R (List D)} (ha : PA X es (tOfA X.K ca W ms)) : PE X (.List es pos) (tOf X.K ca W (mN (oLst c) ms)) := weakE (pe_lst ha) fun σ H Q => by
  rintro ⟨ρ, M, S, re, rs, p⟩
  refine ⟨ρ, M, S, re, rs, (post_bind p).mono ?_⟩
  rintro xs H1 ⟨M1, S1, ds, e1, rs1, r1, p1⟩
  unfold oLst at p1
  split at p1
  · next h =>
    have hl := r1.length
    exact ⟨by rw [← hl]; exact le64 h, fun q hq => finL_new p1 rs1 hq (by rw [← hl]; exact le64 h) r1⟩
  · exact p1.elim
/-- {} with keys numbers and texts -/
def mDk : ME := fun _ S => .ok (.cell S.length) (S ++ [.dk []])
def mDt : ME := fun _ S => .ok (.cell S.length) (S ++ [.dt []])
theorem cell_at {M : Cells} {S : Store} {p : Addr} (h : M.c.length = S.length) : (M.push p).c[S.length]? = some (some p) := by
  show (M.c ++ [some p])[S.length]? = _
  rw [← h]; simp
theorem q_dk {pos : Pos} : PE X (.Dict [] [] pos) (tOf X.K ca W mDk) := weakE pe_dnewK fun σ H Q => by
  rintro ⟨ρ, M, S, re, rs, p⟩
  exact fun q hq => p _ (M.push q) _ (ext_cell hq _) (rs.cell hq _ ⟨q, [], rfl, upd_same, rfl, trivial⟩) ⟨some q, cell_at rs.len, fun a e => by cases e; rfl⟩
theorem q_dt {pos : Pos} : PE X (.Dict [] [] pos) (tOf X.K ca W mDt) := weakE pe_dnewT fun σ H Q => by
  rintro ⟨ρ, M, S, re, rs, p⟩
  exact fun q hq => p _ (M.push q) _ (ext_cell hq _) (rs.cell hq _ ⟨q, [], rfl, upd_same, rfl, trivial⟩) ⟨some q, cell_at rs.len, fun a e => by cases e; rfl⟩
/-- a written dict of constants, asked at once -/
def oDisp (kvs : List (Key × V)) (S : Store) (d : D) : R D := match keyOf d with
  | some x => match valV (mergeK [] kvs) x with
    | some (.str z) => .ok (.str z) S
    | some (.int z) => .ok (.int z) S
    | some (.bl z) => .ok (.bl z) S
    | _ => .err
  | none => .err
theorem consts_run : ∀ {trs : List (TE × TE)} {kvs : List (Key × V)}, Paired (fun (t : TE × TE) (kv : Key × V) => t.1 = tC (kV kv.1) ∧ t.2 = tC kv.2) trs kvs → ∀ {σ : L2.St} {H : Hp} {Q : List (V × V) → Hp → Prop}, Q (kvs.map fun kv => (kV kv.1, kv.2)) H → tPairs trs σ H Q
  | [], [], .nil, _, _, _, h => h
  | (_, _) :: _, (_, _) :: _, .cons ⟨e1, e2⟩ t, σ, H, Q, h => by
    cases e1; cases e2
    show tPairs _ σ H _
    exact consts_run t h
theorem q_dispIx {keys : List (Option Expr)} {values : List Expr} {trs : List (TE × TE)} {kvs : List (Key × V)} {pos pos' : Pos} {b : Expr} {mb : ME} (hu : X.A.units + 1 < cLine) (h : PPs X pos keys values trs)
    (hc : Paired (fun (t : TE × TE) (kv : Key × V) => t.1 = tC (kV kv.1) ∧ t.2 = tC kv.2) trs kvs) (hall : keys.all (·.isSome) = true) (hl : keys.length = values.length) (h0 : keys ≠ []) (h15 : keys.length ≤ 15) (hk : kvs.length ≤ 15)
    (hb : PE X b (tOf X.K ca W mb)) (hs : NoSl b) : PE X (.Subscript (.Dict keys values pos) b pos') (tOf X.K ca W (m1 (oDisp kvs) mb)) :=
  weakE (pe_dget hu (pe_disp h hall hl h0 h15) hb hs) fun σ H Q => by
    rintro ⟨ρ, M, S, re, rs, p⟩
    intro q hq
    refine consts_run hc ⟨upd_same, kvs, rfl, hk, ?_⟩
    rw [upd_upd]
    refine ⟨ρ, M, S, re.ext (ext_new hq _), rs.new hq _, (post_bind (p.up (ext_new hq _))).mono ?_⟩
    rintro y H1 ⟨M1, S1, d, e1, rs1, r1, p1⟩
    have hd : H1 q = some (.dK (mergeK [] kvs)) := e1.fr _ _ upd_same fun z => rs.fresh hq (.inl z)
    unfold oDisp at p1
    split at p1
    · next x hx =>
      have := key_rep r1 hx
      subst this
      split at p1
      · next z hz => exact ⟨q, _, rfl, by have := DGet.k (k := x) hd; rw [hz] at this; exact this, one_ok p1 rs1 rfl⟩
      · next z hz => exact ⟨q, _, rfl, by have := DGet.k (k := x) hd; rw [hz] at this; exact this, one_ok p1 rs1 rfl⟩
      · next z hz => exact ⟨q, _, rfl, by have := DGet.k (k := x) hd; rw [hz] at this; exact this, one_ok p1 rs1 rfl⟩
      · exact p1.elim
    · exact p1.elim
end

/-! ### in, not in -/
def flatI : List D → Option (List Int)
  | [] => some []
  | .int i :: ds => (flatI ds).map (i :: ·)
  | _ :: _ => none
def seqA (S : Store) (d : D) : Option (List D) := match d with
  | .tup ds => some ds
  | _ => seqL S d
def inStr (d e : D) : Option Bool := match d, e with
  | .str x, .str y => some (!(Builtin.Str.occurrences y x 0 y.length 1).isEmpty)
  | _, _ => none
def inInts (S : Store) (d e : D) : Option Bool := match d with
  | .int i => ((seqA S e).bind flatI).map fun js => decide (i ∈ js)
  | _ => none
def flatS : List D → Option (List Str)
  | [] => some []
  | .str i :: ds => (flatS ds).map (i :: ·)
  | _ :: _ => none
def inTexts (S : Store) (d e : D) : Option Bool := match d with
  | .str i => ((seqA S e).bind flatS).map fun js => decide (i ∈ js)
  | _ => none
def inData (S : Store) (d e : D) : Option Bool := match seqL S e with
  | some ds => if fit (deref S d) && fit (.lst ds) then some (ds.any fun z => eqD z (deref S d)) else none
  | none => none
/-- is it in a text, a dict, a list of numbers, a list of data -/
def oInB (S : Store) (d e : D) : Option Bool := match inStr d e with
  | some b => some b
  | none => match dGet S e d with
    | some o => some o.isSome
    | none => match inInts S d e with
      | some b => some b
      | none => match inTexts S d e with
        | some b => some b
        | none => inData S d e
def oIn (S : Store) (d e : D) : R D := match oInB S d e with
  | some b => .ok (.bl b) S
  | none => .err
def oNotIn (S : Store) (d e : D) : R D := match oInB S d e with
  | some b => .ok (.bl (!b)) S
  | none => .err
section
variable {X : Cx} {ca : Nat → Addr} {W : WX}
abbrev rDIn (neg : Bool) : R2 := fun y x H Q => ∃ a o, x = .ref a ∧ DGet H a y o ∧ Q (.bl (if neg then !o.isSome else o.isSome)) H
theorem op_in_dict (hu : X.A.units + 1 < cLine) : OpR X (compareOp .In) (rDIn false) := by
  intro pins s σ H y x u v Q I ry rx h
  obtain ⟨a, o, rfl, g, q⟩ := h
  cases rx
  exact d_in hu I g ry fun s3 I3 => ⟨.bl o.isSome, H, I3, rfl, q⟩
theorem op_notin_dict (hu : X.A.units + 1 < cLine) : OpR X (compareOp .NotIn) (rDIn true) := by
  intro pins s σ H y x u v Q I ry rx h
  obtain ⟨a, o, rfl, g, q⟩ := h
  cases rx
  exact d_notIn hu I g ry fun s3 I3 => ⟨.bl (!o.isSome), H, I3, rfl, q⟩
abbrev rInS (neg : Bool) : R2 := fun x y H Q => ∃ i j, x = .str i ∧ y = .str j ∧ Q (.bl (if neg then !(!(Builtin.Str.occurrences j i 0 j.length 1).isEmpty) else !(Builtin.Str.occurrences j i 0 j.length 1).isEmpty)) H
abbrev rInA (K : PySem.W.Frag) (neg : Bool) : R2 := fun x y H Q => rInS neg x y H Q ∨ (rDIn neg x y H Q ∨ (rIn K neg x y H Q ∨ (if neg then rNotInD K x y H Q else rInD K x y H Q)))
theorem or_in (hu : X.A.units + 65 < cLine) : OpR X (compareOp .In) (rInA X.K false) := OpR.or op_in_str (OpR.or (op_in_dict (by omega)) (OpR.or op_in_seq (op_inD hu)))
theorem or_notin (hu : X.A.units + 65 < cLine) : OpR X (compareOp .NotIn) (rInA X.K true) := OpR.or op_notIn_str (OpR.or (op_notin_dict (by omega)) (OpR.or op_notIn_seq (op_notInD hu)))
theorem flat_rep {K : PySem.W.Frag} {H : Hp} {M : Cells} : ∀ {ds : List D} {xs : List V} {js : List Int}, RepL K ca H M ds xs → flatI ds = some js → xs = js.map V.int
  | [], [], js, _, h => by cases h; rfl
  | d :: ds, v :: vs, js, r, h => by
    cases d <;> first | (cases h; done) | skip
    next i =>
      have h : (flatI ds).map (i :: ·) = some js := h
      cases q : flatI ds with
      | none => rw [q] at h; cases h
      | some ks =>
        rw [q] at h; cases h
        rw [flat_rep r.2 q, (r.1 : v = .int i)]; rfl
  | [], _ :: _, _, r, _ => r.elim
  | _ :: _, [], _, r, _ => r.elim
theorem inV_ints (i : Int) : ∀ js : List Int, inV (.int i) (js.map V.int) = decide (i ∈ js)
  | [] => rfl
  | j :: js => by
    have ih := inV_ints i js
    unfold inV at ih ⊢
    rw [List.map_cons, List.any_cons, ih]
    have e1 : eqV (.int j) (.int i) = decide (j = i) := by
      by_cases h : j = i
      · subst h; simp [eqV]
      · simp [eqV, h]
    rw [e1]
    by_cases h : i = j
    · subst h; simp
    · simp [h, Ne.symm h]
theorem flatS_rep {K : PySem.W.Frag} {H : Hp} {M : Cells} : ∀ {ds : List D} {xs : List V} {js : List Str}, RepL K ca H M ds xs → flatS ds = some js → xs = js.map V.str
  | [], [], js, _, h => by cases h; rfl
  | d :: ds, v :: vs, js, r, h => by
    cases d <;> first | (cases h; done) | skip
    next i =>
      have h : (flatS ds).map (i :: ·) = some js := h
      cases q : flatS ds with
      | none => rw [q] at h; cases h
      | some ks =>
        rw [q] at h; cases h
        rw [flatS_rep r.2 q, (r.1 : v = .str i)]; rfl
  | [], _ :: _, _, r, _ => r.elim
  | _ :: _, [], _, r, _ => r.elim
theorem inV_strs (i : Str) : ∀ js : List Str, inV (.str i) (js.map V.str) = decide (i ∈ js)
  | [] => rfl
  | j :: js => by
    have ih := inV_strs i js
    unfold inV at ih ⊢
    rw [List.map_cons, List.any_cons, ih]
    have e1 : eqV (.str j) (.str i) = decide (j = i) := by
      by_cases h : j = i
      · subst h; simp [eqV]
      · simp [eqV, h]
    rw [e1]
    by_cases h : i = j
    · subst h; simp
    · simp [h, Ne.symm h]
theorem all_flatS : ∀ js : List Str, (js.map V.str).all flatV = true
  | [] => rfl
  | _ :: js => by rw [List.map_cons, List.all_cons, all_flatS js]; rfl
theorem all_flat : ∀ js : List Int, (js.map V.int).all flatV = true
  | [] => rfl
  | _ :: js => by rw [List.map_cons, List.all_cons, all_flat js]; rfl
theorem seqA_rep {K : PySem.W.Frag} {H : Hp} {M : Cells} {S : Store} (rs : RelS K ca H M S) {d : D} {v : V} {ds : List D} (r : Rep K ca H M d v) (h : seqA S d = some ds) : ∃ a xs, v = .ref a ∧ (SqL K H a xs ∨ SqT K H a xs) ∧ RepL K ca H M ds xs := by
  unfold seqA at h
  split at h
  · cases h
    obtain ⟨a, xs, e, h1, n, q⟩ := r
    exact ⟨a, xs, e, .inr (SqT.of h1), q⟩
  · obtain ⟨a, xs, e, h1, q, z⟩ := seq_rep rs r h
    exact ⟨a, xs, e, .inl h1, q⟩
theorem any_py (ds : List D) (d : D) : ((pyL ds).any fun z => PyData.eqv z (pyD d)) = ds.any fun z => eqD z d := by
  induction ds with
  | nil => rfl
  | cons e es ih => unfold pyL; rw [List.any_cons, List.any_cons, ih]; rfl
theorem in_core {K : PySem.W.Frag} {neg : Bool} {H : Hp} {M : Cells} {S : Store} {x y : V} {d e : D} {b : Bool} {Q : VK} (rs : RelS K ca H M S) (rx : Rep K ca H M d x) (ry : Rep K ca H M e y) (h : oInB S d e = some b) (q : Q (.bl (if neg then !b else b)) H) : rInA K neg x y H Q := by
  unfold oInB at h
  split at h
  · next b' hb =>
    cases h
    unfold inStr at hb
    split at hb
    · cases hb; cases rx; cases ry
      refine .inl ⟨_, _, rfl, rfl, ?_⟩
      cases neg <;> exact q
    · cases hb
  · split at h
    · next o ho =>
      cases h
      obtain ⟨a, ov, rfl, g, hv⟩ := dget_rep rs ry rx ho
      refine .inr (.inl ⟨a, ov, rfl, g, ?_⟩)
      rw [hv.some_eq]; exact q
    · split at h
      · next b' hj =>
        cases h
        unfold inInts at hj
        split at hj
        · next i =>
          cases rx
          cases hjs : (seqA S e).bind flatI with
          | none => rw [hjs] at hj; cases hj
          | some js =>
            rw [hjs] at hj; cases hj
            obtain ⟨ds, hd, hf⟩ := Option.bind_eq_some_iff.mp hjs
            obtain ⟨a, xs, rfl, sq, rl⟩ := seqA_rep rs ry hd
            have := flat_rep rl hf
            subst this
            refine .inr (.inr (.inl ⟨a, _, rfl, sq, rfl, all_flat js, ?_⟩))
            rw [inV_ints]; exact q
        · cases hj
      · split at h
        · next b' hj =>
          cases h
          unfold inTexts at hj
          split at hj
          · next i =>
            cases rx
            cases hjs : (seqA S e).bind flatS with
            | none => rw [hjs] at hj; cases hj
            | some js =>
              rw [hjs] at hj; cases hj
              obtain ⟨ds, hd, hf⟩ := Option.bind_eq_some_iff.mp hjs
              obtain ⟨a, xs, rfl, sq, rl⟩ := seqA_rep rs ry hd
              have := flatS_rep rl hf
              subst this
              refine .inr (.inr (.inl ⟨a, _, rfl, sq, rfl, all_flatS js, ?_⟩))
              rw [inV_strs]; exact q
          · cases hj
        unfold inData at h
        split at h
        · next ds hd =>
          split at h
          · next z =>
            cases h
            rw [Bool.and_eq_true] at z
            obtain ⟨h1, h2⟩ := dp_deref rs rx z.1
            obtain ⟨a, xs, rfl, sq, rl, _⟩ := seq_rep rs ry hd
            have z2 := z.2
            unfold fit at z2
            rw [Bool.and_eq_true] at z2
            have hdp : Dp K H (.ref a) (.list (pyL ds)) := .lst sq (dp_all ds xs rl z2.1)
            rw [← any_py] at q
            refine .inr (.inr (.inr ?_))
            cases neg with
            | true => exact ⟨_, _, h1, hdp, h2, z2.2, q⟩
            | false => exact ⟨_, _, h1, hdp, h2, z2.2, q⟩
          · cases h
        · cases h
theorem s_in {K : PySem.W.Frag} : Sound2 K ca (rInA K false) oIn := by
  intro H M S x y d e Q W rs rx ry p
  unfold oIn at p
  split at p
  · next b h => exact in_core (neg := false) rs rx ry h (one_ok p rs rfl)
  · exact p.elim
theorem s_notin {K : PySem.W.Frag} : Sound2 K ca (rInA K true) oNotIn := by
  intro H M S x y d e Q W rs rx ry p
  unfold oNotIn at p
  split at p
  · next b h => exact in_core (neg := true) rs rx ry h (one_ok p rs rfl)
  · exact p.elim
end
end Sm
/-! S8: methods, built-ins, stores -/
namespace Sm
open PySem PySem.Spec PyProof.Rows L2
open Classical

/-! ### methods of lists, texts -/
def tyOk (T : String) (S : Store) (d : D) : Bool := match d with
  | .str _ => T == "str"
  | _ => T == "list" && (seqL S d).isSome
def mBM (T : String) (f : Store → D → List D → R D) (o : ME) (args : Env → Store → R (List D)) : ME := fun ρ S => (o ρ S).bind fun d S1 => if tyOk T S1 d then (args ρ S1).bind fun ds S2 => f S2 d ds else .err
def mBM0 (T : String) (f : Store → D → List D → R D) (o : ME) : ME := fun ρ S => (o ρ S).bind fun d S1 => if tyOk T S1 d then f S1 d [] else .err
def SoundM (K : PySem.W.Frag) (ca : Nat → Addr) (r : V → List V → Hp → VK → Prop) (f : Store → D → List D → R D) : Prop :=
  ∀ H M S x xs d ds Q W, RelS K ca H M S → Rep K ca H M d x → RepL K ca H M ds xs → Post K ca (rD K ca) H M Q W (f S d ds) → r x xs H Q
section
variable {X : Cx} {ca : Nat → Addr} {W : WX}
theorem ty_rep {K : PySem.W.Frag} {T : String} {H : Hp} {M : Cells} {S : Store} {d : D} {v : V} (rs : RelS K ca H M S) (r : Rep K ca H M d v) (h : tyOk T S d = true) : tyV K T v H := by
  have lst : (T == "list" && (seqL S d).isSome) = true → tyV K T v H := fun h => by
    rw [Bool.and_eq_true] at h
    obtain ⟨ds, hd⟩ := Option.isSome_iff_exists.mp h.2
    obtain ⟨a, xs, rfl, sq, _⟩ := seq_rep rs r hd
    exact .inl ⟨eq_of_beq h.1, xs, sq⟩
  cases d with
  | str x =>
    cases r
    exact eq_of_beq (show (T == "str") = true from h)
  | non => exact lst h
  | bl _ => exact lst h
  | int _ => exact lst h
  | tup _ => exact lst h
  | lst _ => exact lst h
  | obj _ _ _ => exact lst h
  | cell _ => exact lst h
  | scr _ => exact lst h
  | exc _ => exact lst h
theorem q_bm {o e : Expr} {es : List Expr} {name : Str} {apos cpos : Pos} {T id : String} {r : V → List V → Hp → VK → Prop} {f : Store → D → List D → R D} {mo : ME} {ms : Env → Store → R (List D)}
    (pa : PlainAttrs T) (slot : Slot T name id) (hty : typeOf (.builtin id) = pure (.type "method_descriptor")) (hm : MtR X id r) (s : SoundM X.K ca r f) (ho : PE X o (tOf X.K ca W mo)) (ha : PA X (e :: es) (tOfA X.K ca W ms))
    (hbase : attributeBase o name X.env (eval o X.env) = eval o X.env := by rfl)
    (hfew : ((backTo cpos (starEach (e :: es) X.env)).all (fun x => !x.1) && (backToKw cpos (keywordEach [] X.env)).all (fun x => x.1.isSome)
      && decide ((e :: es).length + ([] : List Keyword).length + (if ([] : List Keyword).isEmpty then 0 else 1) < 30)) = true := by rfl)
    (hline : (apos.endLine == cpos.line) = true := by rfl) (hs : starEach (e :: es) X.env = (false, eval e X.env) :: starEach es X.env := by rfl) (hplain : (backTo cpos (starEach es X.env)).any (·.1) = false := by rfl) :
    PE X (.Call (.Attribute o name apos) (e :: es) [] cpos) (tOf X.K ca W (mBM T f mo ms)) := weakE (pe_bm pa slot hty hm ho ha hbase hfew hline hs hplain) fun σ H Q => by
  rintro ⟨ρ, M, S, re, rs, p⟩
  refine ⟨ρ, M, S, re, rs, (post_bind p).mono ?_⟩
  rintro x H1 ⟨M1, S1, d, e1, rs1, r1, p1⟩
  split at p1
  · next ht =>
    refine ⟨ty_rep rs1 r1 ht, ρ, M1, S1, re.ext e1, rs1, (post_bind p1).mono ?_⟩
    rintro xs H2 ⟨M2, S2, ds, e2, rs2, r2, p2⟩
    exact s H2 M2 S2 x xs d ds Q _ rs2 (Rep.ext e2 _ _ r1) r2 p2
  · exact p1.elim
theorem q_bm0 {o : Expr} {name : Str} {apos cpos : Pos} {T id : String} {r : V → List V → Hp → VK → Prop} {f : Store → D → List D → R D} {mo : ME}
    (pa : PlainAttrs T) (slot : Slot T name id) (hty : typeOf (.builtin id) = pure (.type "method_descriptor")) (hm : MtR X id r) (s : SoundM X.K ca r f) (ho : PE X o (tOf X.K ca W mo))
    (hbase : attributeBase o name X.env (eval o X.env) = eval o X.env := by rfl) (hline : (apos.endLine == cpos.line) = true := by rfl) :
    PE X (.Call (.Attribute o name apos) [] [] cpos) (tOf X.K ca W (mBM0 T f mo)) := weakE (pe_bm0 pa slot hty hm ho hbase hline) fun σ H Q => by
  rintro ⟨ρ, M, S, re, rs, p⟩
  refine ⟨ρ, M, S, re, rs, (post_bind p).mono ?_⟩
  rintro x H1 ⟨M1, S1, d, e1, rs1, r1, p1⟩
  split at p1
  · next ht => exact ⟨ty_rep rs1 r1 ht, s H1 M1 S1 x [] d [] Q _ rs1 r1 trivial p1⟩
  · exact p1.elim

/-- a list that is a cell: read, and written anew -/
def cellL (S : Store) (d : D) : Option (Nat × List D) := match d with
  | .cell n => match S[n]? with
    | some (.lst ds) => some (n, ds)
    | _ => none
  | _ => none
theorem cellL_some {S : Store} {d : D} {n : Nat} {ds : List D} (h : cellL S d = some (n, ds)) : d = .cell n ∧ S[n]? = some (.lst ds) := by
  unfold cellL at h
  split at h
  · split at h
    · next e => cases h; exact ⟨rfl, e⟩
    · cases h
  · cases h
theorem cell_write {K : PySem.W.Frag} {H : Hp} {M : Cells} {S : Store} {d : D} {v : V} {n : Nat} {ds : List D} (rs : RelS K ca H M S) (r : Rep K ca H M d v) (h : cellL S d = some (n, ds)) :
    ∃ a xs, v = .ref a ∧ H a = some (.lst xs) ∧ xs.length ≤ sizeLine ∧ RepL K ca H M ds xs ∧ WLive H M a ∧
      ∀ ys us, RepL K ca H M ys us → us.length ≤ sizeLine → RelS K ca (upd H a (.lst us)) M (S.set n (.lst ys)) := by
  obtain ⟨rfl, hS⟩ := cellL_some h
  obtain ⟨a, xs, hm, h1, z, q⟩ := rs.lst hS
  obtain ⟨x, hx, hv⟩ := r
  rw [hm] at hx; cases hx
  have nf : ∀ od u, H a ≠ some (.frz od u) := fun od u e => by rw [h1] at e; cases e
  refine ⟨a, xs, hv a rfl, h1, z, q, ⟨⟨n, hm⟩, nf⟩, fun ys us rl hz => rs.write hm nf _ ⟨a, us, rfl, upd_same, hz, RepL.ext (ext_write ⟨⟨n, hm⟩, nf⟩ _) _ _ rl⟩⟩
theorem post_w {K : PySem.W.Frag} {H : Hp} {M : Cells} {S' : Store} {Q : VK} {Wx : XW} {d : D} {v : V} {a : Addr} {o : HO} (p : Post K ca (rD K ca) H M Q Wx (.ok d S')) (l : WLive H M a) (rs : RelS K ca (upd H a o) M S') (r : Rep K ca H M d v) : Q v (upd H a o) :=
  p v M _ (ext_write l o) rs (Rep.ext (ext_write l o) _ _ r)
def oAppend (S : Store) (d : D) (es : List D) : R D := match cellL S d, es with
  | some (n, ds), [e] => if ds.length < sizeLine then .ok .non (S.set n (.lst (ds ++ [e]))) else .err
  | _, _ => .err
def oExtend (S : Store) (d : D) (es : List D) : R D := match cellL S d, es with
  | some (n, ds), [e] => match seqP S e with
    | some us => if ds.length + us.length ≤ sizeLine then .ok .non (S.set n (.lst (ds ++ us))) else .err
    | none => .err
  | _, _ => .err
def oInsert (S : Store) (d : D) (es : List D) : R D := match cellL S d, es with
  | some (n, ds), [.int i, e] => if ds.length < sizeLine ∧ 0 ≤ i ∧ i < 2 ^ 63 then .ok .non (S.set n (.lst (ds.take i.toNat ++ [e] ++ ds.drop i.toNat))) else .err
  | _, _ => .err
def oPop (S : Store) (d : D) (es : List D) : R D := match cellL S d, es with
  | some (n, ds), [] => match ds[ds.length - 1]? with
    | some r => .ok r (S.set n (.lst ds.dropLast))
    | none => .err
  | _, _ => .err
def oPopAt (S : Store) (d : D) (es : List D) : R D := match cellL S d, es with
  | some (n, ds), [.int i] => if -(2 ^ 63) ≤ i ∧ i < 2 ^ 63 then (match seqIndex? i ds.length with
    | some k => match ds[k]? with
      | some r => .ok r (S.set n (.lst (ds.eraseIdx k)))
      | none => .err
    | none => .err) else .err
  | _, _ => .err
theorem s_append {K : PySem.W.Frag} : SoundM K ca rAppend oAppend := by
  intro H M S x xs d ds Q W rs rx rl p
  unfold oAppend at p
  split at p
  · next n ds' e h =>
    split at p
    · next hz =>
      obtain ⟨v, rfl, rv⟩ := rl.inv1
      obtain ⟨a, xs', rfl, h1, z, q, l, wr⟩ := cell_write rs rx h
      have hl := q.length
      exact ⟨a, xs', v, rfl, rfl, h1, by omega, post_w p l (wr _ _ (q.app (RepL.one rv)) (by rw [List.length_append]; simp; omega)) rfl⟩
    · exact p.elim
  · exact p.elim
theorem s_extend {K : PySem.W.Frag} : SoundM K ca rExtend oExtend := by
  intro H M S x xs d ds Q W rs rx rl p
  unfold oExtend at p
  split at p
  · next n ds' e h =>
    split at p
    · next us hu =>
      split at p
      · next hz =>
        obtain ⟨v, rfl, rv⟩ := rl.inv1
        obtain ⟨a, xs', rfl, h1, z, q, l, wr⟩ := cell_write rs rx h
        obtain ⟨b, ys, rfl, h2, q2, z2⟩ := seqP_rep rs rv hu
        have hl := q.length; have hl2 := q2.length
        exact ⟨a, b, xs', ys, rfl, rfl, h1, h2, by omega, post_w p l (wr _ _ (q.app q2) (by rw [List.length_append]; omega)) rfl⟩
      · exact p.elim
    · exact p.elim
  · exact p.elim
abbrev rInsert : V → List V → Hp → VK → Prop := fun x vs H Q => ∃ (l : Addr) (xs : List V) (i : Int) (y : V), x = .ref l ∧ vs = [.int i, y] ∧ H l = some (.lst xs) ∧ xs.length < sizeLine ∧ 0 ≤ i ∧ i < 2 ^ 63 ∧
    Q .non (upd H l (.lst (xs.take i.toNat ++ [y] ++ xs.drop i.toNat)))
theorem s_insert {K : PySem.W.Frag} : SoundM K ca rInsert oInsert := by
  intro H M S x xs d ds Q W rs rx rl p
  unfold oInsert at p
  split at p
  · next n ds' i e h =>
    split at p
    · next hz =>
      obtain ⟨v, u, rfl, rv, ru⟩ := rl.inv2
      cases rv
      obtain ⟨a, xs', rfl, h1, z, q, l, wr⟩ := cell_write rs rx h
      have hl := q.length
      refine ⟨a, xs', i, u, rfl, rfl, h1, by omega, hz.2.1, hz.2.2, post_w p l (wr _ _ (((RepL.take _ q).app (RepL.one ru)).app (RepL.drop _ q)) ?_) rfl⟩
      simp only [List.length_append, List.length_take, List.length_drop, List.length_singleton]
      omega
    · exact p.elim
  · exact p.elim
theorem RepL.dropLast {K : PySem.W.Frag} {H : Hp} {M : Cells} {ds : List D} {vs : List V} (h : RepL K ca H M ds vs) : RepL K ca H M ds.dropLast vs.dropLast := by
  rw [List.dropLast_eq_take, List.dropLast_eq_take, h.length]
  exact RepL.take _ h
theorem RepL.erase {K : PySem.W.Frag} {H : Hp} {M : Cells} : ∀ {ds : List D} {vs : List V} (k : Nat), RepL K ca H M ds vs → RepL K ca H M (ds.eraseIdx k) (vs.eraseIdx k)
  | [], [], _, h => h
  | _ :: _, _ :: _, 0, h => h.2
  | _ :: _, _ :: _, k + 1, h => ⟨h.1, RepL.erase k h.2⟩
  | [], _ :: _, _, h => h.elim
  | _ :: _, [], _, h => h.elim
theorem s_pop {K : PySem.W.Frag} : SoundM K ca rPop oPop := by
  intro H M S x xs d ds Q W rs rx rl p
  unfold oPop at p
  split at p
  · next n ds' h =>
    split at p
    · next r hr =>
      match xs, rl with
      | [], _ =>
        obtain ⟨a, xs', rfl, h1, z, q, l, wr⟩ := cell_write rs rx h
        have hl := q.length
        obtain ⟨v, hv, rv⟩ := q.get hr
        rw [hl] at hv
        exact ⟨a, xs', v, rfl, rfl, h1, hv, post_w p l (wr _ _ q.dropLast (by rw [List.length_dropLast]; omega)) rv⟩
    · exact p.elim
  · exact p.elim
theorem s_popAt {K : PySem.W.Frag} : SoundM K ca rPopAt oPopAt := by
  intro H M S x xs d ds Q W rs rx rl p
  unfold oPopAt at p
  split at p
  · next n ds' i h =>
    split at p
    · next hi =>
      split at p
      · next k hk =>
        split at p
        · next r hr =>
          obtain ⟨v, rfl, rv⟩ := rl.inv1
          cases rv
          obtain ⟨a, xs', rfl, h1, z, q, l, wr⟩ := cell_write rs rx h
          have hl := q.length
          obtain ⟨v, hv, rv⟩ := q.get hr
          have hk' := len_erase xs' k
          exact ⟨a, xs', i, k, v, rfl, rfl, h1, hi.1, hi.2, by rw [← hl]; exact hk, hv, post_w p l (wr _ _ (q.erase k) (by omega)) rv⟩
        · exact p.elim
      · exact p.elim
    · exact p.elim
  · exact p.elim
/-- the texts of a list -/
def strsOf : List D → Option (List Str)
  | [] => some []
  | .str x :: ds => (strsOf ds).map (x :: ·)
  | _ :: _ => none
theorem strs_rep {K : PySem.W.Frag} {H : Hp} {M : Cells} : ∀ {ds : List D} {xs : List V} {js : List Str}, RepL K ca H M ds xs → strsOf ds = some js → xs = js.map V.str
  | [], [], js, _, h => by cases h; rfl
  | d :: ds, v :: vs, js, r, h => by
    cases d <;> first | (cases h; done) | skip
    next i =>
      replace h : (strsOf ds).map (i :: ·) = some js := h
      cases q : strsOf ds with
      | none => rw [q] at h; cases h
      | some ks =>
        rw [q] at h; cases h
        rw [strs_rep r.2 q, (r.1 : v = .str i)]; rfl
  | [], _ :: _, _, r, _ => r.elim
  | _ :: _, [], _, r, _ => r.elim
def oJoin (S : Store) (d : D) (es : List D) : R D := match d, es with
  | .str a, [e] => match (seqL S e).bind strsOf with
    | some ys => if (ys.map (·.length)).sum + ys.length * a.length ≤ 16777216 then .ok (.str (Txt.join a ys)) S else .err
    | none => .err
  | _, _ => .err
abbrev rJoin (K : PySem.W.Frag) : V → List V → Hp → VK → Prop := fun x xs H Q => ∃ a p, ∃ ys : List Str, x = .str a ∧ xs = [.ref p] ∧ (SqL K H p (ys.map V.str) ∨ SqT K H p (ys.map V.str)) ∧
    (ys.map (·.length)).sum + ys.length * a.length ≤ 16777216 ∧ Q (.str (Txt.join a ys)) H
theorem s_join {K : PySem.W.Frag} : SoundM K ca (rJoin K) oJoin := by
  intro H M S x xs d ds Q W rs rx rl p
  unfold oJoin at p
  split at p
  · next a e =>
    cases rx
    split at p
    · next ys hy =>
      split at p
      · next hz =>
        obtain ⟨v, rfl, rv⟩ := rl.inv1
        obtain ⟨es, h1, h2⟩ := Option.bind_eq_some_iff.mp hy
        obtain ⟨b, us, rfl, sq, q, z⟩ := seq_rep rs rv h1
        have := strs_rep q h2
        subst this
        exact ⟨a, b, ys, rfl, rfl, .inl sq, hz, one_ok p rs rfl⟩
      · exact p.elim
    · exact p.elim
  · exact p.elim
/-- the place of an item -/
def findD (d : D) : Nat → List D → Option Nat
  | _, [] => none
  | k, e :: es => if eqD e d then some k else findD d (k + 1) es
def oIndex (S : Store) (d : D) (es : List D) : R D := match seqL S d, es with
  | some ds, [e] => if fit (.lst ds) && fit e then (match findD e 0 ds with
    | some j => .ok (.int j) S
    | none => .err) else .err
  | _, _ => .err
theorem pyL_get : ∀ {ds : List D} {m : Nat} {z : PyData}, (pyL ds)[m]? = some z → ∃ d, ds[m]? = some d ∧ z = pyD d
  | [], m, z, h => by simp [pyL] at h
  | d :: ds, 0, z, h => by simp [pyL] at h; exact ⟨d, rfl, h.symm⟩
  | d :: ds, m + 1, z, h => by
    obtain ⟨e, h1, h2⟩ := pyL_get (ds := ds) (m := m) (by simpa [pyL] using h)
    exact ⟨e, by simpa using h1, h2⟩
theorem pyL_at : ∀ {ds : List D} {m : Nat} {d : D}, ds[m]? = some d → (pyL ds)[m]? = some (pyD d)
  | [], m, z, h => by simp at h
  | d :: ds, 0, z, h => by simp at h; subst h; simp [pyL]
  | d :: ds, m + 1, z, h => by
    have := pyL_at (ds := ds) (m := m) (d := z) (by simpa using h)
    simpa [pyL] using this
theorem findD_some {d : D} : ∀ {ds : List D} {k j : Nat}, findD d k ds = some j → ∃ i, j = k + i ∧ (∃ e, ds[i]? = some e ∧ eqD e d = true) ∧ ∀ m e, m < i → ds[m]? = some e → eqD e d = false
  | [], _, _, h => by cases h
  | e :: es, k, j, h => by
    unfold findD at h
    split at h
    · next q => cases h; exact ⟨0, rfl, ⟨e, rfl, q⟩, fun m _ hm => absurd hm (Nat.not_lt_zero _)⟩
    · next q =>
      obtain ⟨i, h1, ⟨e', h2, h3⟩, h4⟩ := findD_some h
      refine ⟨i + 1, by omega, ⟨e', by simpa using h2, h3⟩, fun m e'' hm he => ?_⟩
      cases m with
      | zero => simp at he; subst he; exact Bool.eq_false_iff.mpr q
      | succ m => exact h4 m e'' (by omega) (by simpa using he)
theorem s_index {K : PySem.W.Frag} : SoundM K ca (rIndexD K) oIndex := by
  intro H M S x xs d ds Q W rs rx rl p
  unfold oIndex at p
  split at p
  · next ds' e h =>
    split at p
    · next z =>
      rw [Bool.and_eq_true] at z
      split at p
      · next j hj =>
        obtain ⟨v, rfl, rv⟩ := rl.inv1
        obtain ⟨a, us, rfl, sq, q, hz⟩ := seq_rep rs rx h
        have z1 := z.1; have z2 := z.2
        unfold fit at z1 z2
        rw [Bool.and_eq_true] at z1 z2
        obtain ⟨i, hi, ⟨e', h2, h3⟩, h4⟩ := findD_some hj
        rw [Nat.zero_add] at hi; subst hi
        refine ⟨a, v, pyD e, pyL ds', j, pyD e', rfl, rfl, .lst sq (dp_all ds' us q z1.1), dp_of e v rv z2.1, z1.2, z2.2, pyL_at h2, h3, fun m z' hm hz' => ?_, one_ok p rs rfl⟩
        obtain ⟨e'', g1, rfl⟩ := pyL_get hz'
        exact h4 m e'' hm g1
      · exact p.elim
    · exact p.elim
  · exact p.elim
end

/-! ### built-ins -/
def oLen (S : Store) (ds : List D) : R D := match ds with
  | [.str x] => if x.length ≤ sizeLine then .ok (.int x.length) S else .err
  | [d] => match seqA S d with
    | some ds => .ok (.int ds.length) S
    | none => match d with
      | .cell n => match S[n]? with
        | some (.dk kvs) => .ok (.int kvs.length) S
        | _ => .err
      | _ => .err
  | _ => .err
def oList (c : Bool) (S : Store) (ds : List D) : R D := match ds with
  | [d] => match seqA S d with
    | some es => if es.length ≤ sizeLine then finL c es S else .err
    | none => .err
  | _ => .err
def oTuple (S : Store) (ds : List D) : R D := match ds with
  | [.tup es] => .ok (.tup es) S
  | [d] => match seqL S d with
    | some es => .ok (.tup es) S
    | none => .err
  | _ => .err
def oInt (S : Store) (ds : List D) : R D := match ds with
  | [.int i] => .ok (.int i) S
  | [.bl b] => .ok (.int (if b then 1 else 0)) S
  | _ => .err
def oMax2 (S : Store) (ds : List D) : R D := match ds with
  | [.int i, .int j] => .ok (.int (if j > i then j else i)) S
  | _ => .err
def oMin2 (S : Store) (ds : List D) : R D := match ds with
  | [.int i, .int j] => .ok (.int (if j < i then j else i)) S
  | _ => .err
def boolsOf : List D → Option (List Bool)
  | [] => some []
  | .bl x :: ds => (boolsOf ds).map (x :: ·)
  | _ :: _ => none
def oAll (S : Store) (ds : List D) : R D := match ds with
  | [d] => match (seqL S d).bind boolsOf with
    | some bs => .ok (.bl (bs.all id)) S
    | none => .err
  | _ => .err
/-- the name of a datum's built-in type -/
def tyN (S : Store) (d : D) : Option String := match d with
  | .non => some "NoneType"
  | .bl _ => some "bool"
  | .int _ => some "int"
  | .str _ => some "str"
  | .tup _ => some "tuple"
  | _ => match seqP S d with
    | some _ => some "list"
    | none => none
def oIsT (T : String) (S : Store) (d : D) : R D := match tyN S d with
  | some t => match kitB t T with
    | some b => .ok (.bl b) S
    | none => .err
  | none => .err
section
variable {X : Cx} {ca : Nat → Addr} {W : WX}
abbrev rLenA (K : PySem.W.Frag) : List V → Hp → VK → Prop := fun xs H Q => (∃ x n, xs = [x] ∧ LenV K x H n ∧ Q (.int n) H) ∨ ∃ a kvs, xs = [V.ref a] ∧ H a = some (.dK kvs) ∧ Q (.int kvs.length) H
theorem or_len : CallR X (.builtin "len") (rLenA X.K) := call_len.or call_lenD
theorem s_len {K : PySem.W.Frag} : SoundN K ca (rLenA K) oLen := by
  intro H M S xs ds Q W rs rl p
  unfold oLen at p
  split at p
  · next x =>
    obtain ⟨v, rfl, rv⟩ := rl.inv1
    cases rv
    split at p
    · next hz => exact .inl ⟨_, _, rfl, ⟨hz, rfl⟩, one_ok p rs rfl⟩
    · exact p.elim
  · next d _ =>
    obtain ⟨v, rfl, rv⟩ := rl.inv1
    split at p
    · next es he =>
      obtain ⟨a, us, rfl, sq, q⟩ := seqA_rep rs rv he
      have hl := q.length
      refine .inl ⟨_, us.length, rfl, ?_, one_ok p rs (by rw [hl]; rfl)⟩
      exact sq.imp (fun h => ⟨us, h, rfl⟩) (fun h => ⟨us, h, rfl⟩)
    · split at p
      · split at p
        · next kvs hS =>
          obtain ⟨z, hz, a, ys, rfl, h1, h2, h3⟩ := rs.cells _ _ hS
          obtain ⟨z', hz', hv⟩ := rv
          rw [hz] at hz'; cases hz'
          refine .inr ⟨a, ys, by rw [hv a rfl], h1, one_ok p rs ?_⟩
          have := congrArg List.length h2
          rw [List.length_map, List.length_map] at this
          rw [this]; rfl
        · exact p.elim
      · exact p.elim
  · exact p.elim
theorem s_list {K : PySem.W.Frag} (c : Bool) : SoundN K ca (fun xs H Q => ∃ p ys, xs = [.ref p] ∧ (SqL K H p ys ∨ SqT K H p ys) ∧ ∀ l, H l = none → Q (.ref l) (upd H l (.lst ys))) (oList c) := by
  intro H M S xs ds Q W rs rl p
  unfold oList at p
  split at p
  · next d =>
    obtain ⟨v, rfl, rv⟩ := rl.inv1
    split at p
    · next es he =>
      split at p
      · next hz =>
        obtain ⟨a, us, rfl, sq, q⟩ := seqA_rep rs rv he
        have hl := q.length
        exact ⟨a, us, rfl, sq, fun l hl' => finL_new p rs hl' (by omega) q⟩
      · exact p.elim
    · exact p.elim
  · exact p.elim
theorem s_tuple {K : PySem.W.Frag} : SoundN K ca (fun xs H Q => ∃ p ys, xs = [.ref p] ∧ ((SqL K H p ys ∧ ∀ l, H l = none → Q (.ref l) (upd H l (.tup ys))) ∨ (SqT K H p ys ∧ Q (.ref p) H))) oTuple := by
  intro H M S xs ds Q W rs rl p
  unfold oTuple at p
  split at p
  · next es =>
    obtain ⟨v, rfl, rv⟩ := rl.inv1
    obtain ⟨a, us, rfl, h1, n, q⟩ := id rv
    exact ⟨a, us, rfl, .inr ⟨SqT.of h1, one_ok p rs rv⟩⟩
  · next d _ =>
    obtain ⟨v, rfl, rv⟩ := rl.inv1
    split at p
    · next es he =>
      obtain ⟨a, us, rfl, sq, q, z⟩ := seq_rep rs rv he
      refine ⟨a, us, rfl, .inl ⟨sq, fun l hl => ?_⟩⟩
      exact p _ M _ (ext_new hl _) (rs.new hl _) ⟨l, us, rfl, upd_same, rs.fresh hl, RepL.ext (ext_new hl _) _ _ q⟩
    · exact p.elim
  · exact p.elim
theorem s_int {K : PySem.W.Frag} : SoundN K ca (fun xs H Q => (∃ i, xs = [.int i] ∧ Q (.int i) H) ∨ ∃ k, xs = [.bl k] ∧ Q (.int (if k then 1 else 0)) H) oInt := by
  intro H M S xs ds Q W rs rl p
  unfold oInt at p
  split at p
  · obtain ⟨v, rfl, rv⟩ := rl.inv1; cases rv; exact .inl ⟨_, rfl, one_ok p rs rfl⟩
  · obtain ⟨v, rfl, rv⟩ := rl.inv1; cases rv; exact .inr ⟨_, rfl, one_ok p rs rfl⟩
  · exact p.elim
theorem s_max2 {K : PySem.W.Frag} : SoundN K ca (fun xs H Q => ∃ i j, xs = [.int i, .int j] ∧ Q (.int (if j > i then j else i)) H) oMax2 := by
  intro H M S xs ds Q W rs rl p
  unfold oMax2 at p
  split at p
  · obtain ⟨v, u, rfl, rv, ru⟩ := rl.inv2; cases rv; cases ru; exact ⟨_, _, rfl, one_ok p rs rfl⟩
  · exact p.elim
theorem s_min2 {K : PySem.W.Frag} : SoundN K ca (fun xs H Q => ∃ i j, xs = [.int i, .int j] ∧ Q (.int (if j < i then j else i)) H) oMin2 := by
  intro H M S xs ds Q W rs rl p
  unfold oMin2 at p
  split at p
  · obtain ⟨v, u, rfl, rv, ru⟩ := rl.inv2; cases rv; cases ru; exact ⟨_, _, rfl, one_ok p rs rfl⟩
  · exact p.elim
theorem bools_rep {K : PySem.W.Frag} {H : Hp} {M : Cells} : ∀ {ds : List D} {xs : List V} {js : List Bool}, RepL K ca H M ds xs → boolsOf ds = some js → xs = js.map V.bl
  | [], [], js, _, h => by cases h; rfl
  | d :: ds, v :: vs, js, r, h => by
    cases d <;> first | (cases h; done) | skip
    next i =>
      replace h : (boolsOf ds).map (i :: ·) = some js := h
      cases q : boolsOf ds with
      | none => rw [q] at h; cases h
      | some ks =>
        rw [q] at h; cases h
        rw [bools_rep r.2 q, (r.1 : v = .bl i)]; rfl
  | [], _ :: _, _, r, _ => r.elim
  | _ :: _, [], _, r, _ => r.elim
theorem s_all {K : PySem.W.Frag} : SoundN K ca (rAll K) oAll := by
  intro H M S xs ds Q W rs rl p
  unfold oAll at p
  split at p
  · next d =>
    obtain ⟨v, rfl, rv⟩ := rl.inv1
    split at p
    · next bs hb =>
      obtain ⟨es, h1, h2⟩ := Option.bind_eq_some_iff.mp hb
      obtain ⟨a, us, rfl, sq, q, z⟩ := seq_rep rs rv h1
      have := bools_rep q h2
      subst this
      exact ⟨a, bs, rfl, sq, one_ok p rs rfl⟩
    · exact p.elim
  · exact p.elim
theorem q_blt {x : Str} {p pos : Pos} {e : Expr} {es : List Expr} {id : String} {r : List V → Hp → VK → Prop} {f : Store → List D → R D} {ms : Env → Store → R (List D)} (hc : CallR X (.builtin id) r) (s : SoundN X.K ca r f) (hg : Gl X x) (hm : X.mg x = none) (hv : bootBuiltins x = some (.builtin id)) (ha : PA X (e :: es) (tOfA X.K ca W ms)) (hn : x ≠ "__name__" := by decide) (hdb : (x == ("__debug__" : Str)) = false := by decide)
    (he : starEach (e :: es) X.env = (false, eval e X.env) :: starEach es X.env := by rfl) (hpl : (backTo pos (starEach es X.env)).any (·.1) = false := by rfl) : PE X (.Call (.Name x p) (e :: es) [] pos) (tOf X.K ca W (mN f ms)) :=
  weakE (pe_callB hc hg hm hv ha hn hdb he hpl) (n_of s)
theorem q_blty {x : Str} {p pos : Pos} {e : Expr} {es : List Expr} {T : String} {r : List V → Hp → VK → Prop} {f : Store → List D → R D} {ms : Env → Store → R (List D)} (hc : CallR X (.type T) r) (s : SoundN X.K ca r f) (hg : Gl X x) (hm : X.mg x = none) (hv : bootBuiltins x = some (.type T)) (ha : PA X (e :: es) (tOfA X.K ca W ms)) (hn : x ≠ "__name__" := by decide) (hdb : (x == ("__debug__" : Str)) = false := by decide)
    (he : starEach (e :: es) X.env = (false, eval e X.env) :: starEach es X.env := by rfl) (hpl : (backTo pos (starEach es X.env)).any (·.1) = false := by rfl) : PE X (.Call (.Name x p) (e :: es) [] pos) (tOf X.K ca W (mN f ms)) :=
  weakE (pe_callTy hc hg hm hv ha hn hdb he hpl) (n_of s)
theorem tyN_rep {K : PySem.W.Frag} {H : Hp} {M : Cells} {S : Store} (rs : RelS K ca H M S) {d : D} {v : V} {t : String} (r : Rep K ca H M d v) (h : tyN S d = some t) : TyX K H v (.type t) := by
  have lst : (match seqP S d with
    | some _ => some "list"
    | none => none) = some t → TyX K H v (.type t) := fun h => by
    split at h
    · next es he =>
      cases h
      obtain ⟨a, xs, rfl, h1, _⟩ := seqP_rep rs r he
      exact .base (.lst h1)
    · cases h
  cases d with
  | non => cases h; cases r; exact .base .non
  | bl _ => cases h; cases r; exact .base (.bl _)
  | int _ => cases h; cases r; exact .base (.int _)
  | str _ => cases h; cases r; exact .base (.str _)
  | tup _ => cases h; obtain ⟨a, xs, rfl, h1, _⟩ := r; exact .base (.tup h1)
  | lst _ => exact lst h
  | obj _ _ _ => exact lst h
  | cell _ => exact lst h
  | scr _ => exact lst h
  | exc _ => exact lst h
/-- isinstance(e, T), T a built-in type's name -/
theorem q_isT {p p2 pos : Pos} {e : Expr} {y : Str} {T : String} {me : ME} (hg : Gl X "isinstance") (hm : X.mg "isinstance" = none) (he : PE X e (tOf X.K ca W me)) (hy : PE X (.Name y p2) (tC (.ty T)))
    (he1 : starEach [e, .Name y p2] X.env = (false, eval e X.env) :: starEach [.Name y p2] X.env := by rfl) (he2 : starEach [.Name y p2] X.env = (false, eval (.Name y p2) X.env) :: starEach [] X.env := by rfl)
    (hpl : (backTo pos (starEach [.Name y p2] X.env)).any (·.1) = false := by rfl) :
    PE X (.Call (.Name "isinstance" p) [e, .Name y p2] [] pos) (tOf X.K ca W (m1 (oIsT T) me)) :=
  weakE (pe_callB call_isi hg hm (by decide +kernel) (pa_cons he (pa_cons hy pa_nil he2) he1) (by decide) (by decide) he1 hpl) fun σ H Q => by
    rintro ⟨ρ, M, S, re, rs, q⟩
    refine ⟨ρ, M, S, re, rs, (post_bind q).mono ?_⟩
    rintro v H1 ⟨M1, S1, d, e1, rs1, r1, p1⟩
    unfold oIsT at p1
    split at p1
    · next t ht =>
      split at p1
      · next b hb => exact ⟨v, .ty T, .type t, .type T, b, rfl, .ty _, tyN_rep rs1 r1 ht, kit_ty hb, one_ok p1 rs1 rfl⟩
      · exact p1.elim
    · exact p1.elim
end
end Sm
/-! S9: stores, attributes, dict methods, raise -/
namespace Sm
open PySem PySem.Spec PyProof.Rows L2
open Classical

/-! ### o[i] = e -/
def cellK (S : Store) (d : D) : Option (Nat × List (Key × D)) := match d with
  | .cell n => match S[n]? with
    | some (.dk ds) => some (n, ds)
    | _ => none
  | _ => none
def cellT (S : Store) (d : D) : Option (Nat × List (List Key × D)) := match d with
  | .cell n => match S[n]? with
    | some (.dt ds) => some (n, ds)
    | _ => none
  | _ => none
def keysD (d : D) : Option (List Key) := match d with
  | .tup ds => keysOf ds
  | _ => none
/-- the store behind o[i] = e -/
def oSet (S : Store) (o i e : D) : R D := match cellL S o with
  | some (n, ds) => match i with
    | .int k => match ixN ds.length k with
      | some j => .ok .non (S.set n (.lst (ds.set j e)))
      | none => .err
    | _ => .err
  | none => match cellK S o, keyOf i with
    | some (n, kvs), some k => if kvs.length < sizeLine then .ok .non (S.set n (.dk (putG kvs k e))) else .err
    | _, _ => match cellT S o, keysD i with
      | some (n, kvs), some k => if kvs.length < sizeLine then .ok .non (S.set n (.dt (putG kvs k e))) else .err
      | _, _ => .err
section
variable {X : Cx} {ca : Nat → Addr} {W : WX}
abbrev rSetD : TSet := fun o i v H Q => ∃ a H', o = .ref a ∧ DPut H a i v H' ∧ Q H'
theorem set_dict (hu : X.A.units + 1 < cLine) : PSet X rSetD := by
  intro pins s σ H o i v ov iv u Q I ro ri rv h
  obtain ⟨a, H', rfl, g, q⟩ := h
  cases ro
  exact d_setItem hu I g ri rv fun s4 I4 => ⟨H', I4, q⟩
abbrev rSetA : TSet := fun o i v H Q => rSetL o i v H Q ∨ rSetD o i v H Q
theorem or_set (hu : X.A.units + 1 < cLine) : PSet X rSetA := by
  intro pins s σ H o i v ov iv u Q I ro ri rv h
  rcases h with h | h
  · exact set_list pins s σ H o i v ov iv u Q I ro ri rv h
  · exact set_dict hu pins s σ H o i v ov iv u Q I ro ri rv h
theorem cellK_some {S : Store} {d : D} {n : Nat} {ds : List (Key × D)} (h : cellK S d = some (n, ds)) : d = .cell n ∧ S[n]? = some (.dk ds) := by
  unfold cellK at h
  split at h
  · split at h
    · next e => cases h; exact ⟨rfl, e⟩
    · cases h
  · cases h
theorem cellT_some {S : Store} {d : D} {n : Nat} {ds : List (List Key × D)} (h : cellT S d = some (n, ds)) : d = .cell n ∧ S[n]? = some (.dt ds) := by
  unfold cellT at h
  split at h
  · split at h
    · next e => cases h; exact ⟨rfl, e⟩
    · cases h
  · cases h
theorem set_rep {K : PySem.W.Frag} {H : Hp} {M : Cells} {S : Store} {Q : VK} {Wx : XW} {o i e : D} {ov iv v : V} (rs : RelS K ca H M S) (ro : Rep K ca H M o ov) (ri : Rep K ca H M i iv) (re : Rep K ca H M e v)
    (p : Post K ca (rD K ca) H M Q Wx (oSet S o i e)) : rSetA ov iv v H (fun H' => Q .non H') := by
  unfold oSet at p
  split at p
  · next n ds h =>
    split at p
    · next k =>
      cases ri
      split at p
      · next j hj =>
        obtain ⟨a, xs', rfl, h1, z, q, l, wr⟩ := cell_write rs ro h
        have hl := q.length
        exact .inl ⟨a, xs', k, j, rfl, rfl, h1, by rw [← hl]; exact hj, post_w p l (wr _ _ (q.set j re) (by rw [List.length_set]; exact z)) rfl⟩
      · exact p.elim
    · exact p.elim
  · split at p
    · next n kvs k h hk =>
      split at p
      · next hz =>
        obtain ⟨rfl, hS⟩ := cellK_some h
        obtain ⟨z, hz', a, ys, rfl, h1, h2, h3⟩ := rs.cells n _ hS
        obtain ⟨z', hz2, hv⟩ := ro
        rw [hz'] at hz2; cases hz2
        have := key_rep ri hk
        subst this
        have l : WLive H M a := ⟨⟨n, hz'⟩, fun od u e => by rw [h1] at e; cases e⟩
        have hlen := congrArg List.length h2
        rw [List.length_map, List.length_map] at hlen
        obtain ⟨g1, g2⟩ := put_rep k h2 h3 re
        exact .inr ⟨a, _, hv a rfl, DPut.k h1 (by omega), post_w p l (rs.write hz' l.2 _ ⟨a, putK ys k v, rfl, upd_same, g1, RepL.ext (ext_write l _) _ _ g2⟩) rfl⟩
      · exact p.elim
    · split at p
      · next n kvs k h hk =>
        split at p
        · next hz =>
          obtain ⟨rfl, hS⟩ := cellT_some h
          obtain ⟨z, hz', a, ys, rfl, h1, h2, h3⟩ := rs.cells n _ hS
          obtain ⟨z', hz2, hv⟩ := ro
          rw [hz'] at hz2; cases hz2
          unfold keysD at hk
          split at hk
          · next es =>
            obtain ⟨b, xs, rfl, hb, _, rl⟩ := ri
            have := keys_rep rl hk
            subst this
            have l : WLive H M a := ⟨⟨n, hz'⟩, fun od u e => by rw [h1] at e; cases e⟩
            have hlen := congrArg List.length h2
            rw [List.length_map, List.length_map] at hlen
            obtain ⟨g1, g2⟩ := put_rep k h2 h3 re
            exact .inr ⟨a, _, hv a rfl, DPut.t h1 hb (by omega), post_w p l (rs.write hz' l.2 _ ⟨a, putK ys k v, rfl, upd_same, g1, RepL.ext (ext_write l _) _ _ g2⟩) rfl⟩
          · cases hk
        · exact p.elim
      · exact p.elim
end
def sSub (v o i : ME) : MS := fun ρ S => (v ρ S).bind fun e S1 => (o ρ S1).bind fun d S2 => (i ρ S2).bind fun k S3 => (oSet S3 d k e).bind fun _ S4 => .ok (.nx ρ) S4
def sAsgs (is : List Nat) (a : ME) : MS := fun ρ S => (a ρ S).bind fun d S1 => match d with
  | .tup ds => if ds.length = is.length then .ok (.nx (setAll is ds ρ)) S1 else .err
  | _ => .err
/-- the store behind o.f = e -/
def cellI (S : Store) (d : D) : Option (Nat × Nat × List Str × List D) := match d with
  | .cell n => match S[n]? with
    | some (.ins c ns ds) => some (n, c, ns, ds)
    | _ => none
  | _ => none
def putN (f : Str) : List Str → List Str
  | [] => [f]
  | g :: r => if g = f then g :: r else g :: putN f r
def putD (f : Str) (v : D) : List Str → List D → List D
  | g :: r, x :: xs => if g = f then v :: xs else x :: putD f v r xs
  | _, _ => [v]
noncomputable def sFldM (c : Nat) (f : Str) (v o : ME) : MS := fun ρ S => (v ρ S).bind fun e S1 => (o ρ S1).bind fun d S2 => match cellI S2 d with
  | some (n, c', ns, ds) => if c' = c ∧ ns.length < 1000 then .ok (.nx ρ) (S2.set n (.ins c (putN f ns) (putD f e ns ds))) else .err
  | none => .err
/-- o.f -/
noncomputable def oFld (c : Nat) (f : Str) (S : Store) (d : D) : R D := match objOf S d with
  | some (c', ns, ds) => if c' = c then (match (ns.zip ds).lookup f with
    | some r => .ok r S
    | none => .err) else .err
  | none => .err
section
variable {X : Cx} {ca : Nat → Addr} {W : XW}
theorem qs_sub {o i e : Expr} {tpos pos : Pos} {mv mo mi : ME} (hu : X.A.units + 1 < cLine) (he : PE X e (tOf X.K ca (wx W) mv)) (ho : PE X o (tOf X.K ca (wx W) mo)) (hi : PE X i (tOf X.K ca (wx W) mi))
    (ha : ∀ v, assign (.Subscript o i tpos) X.env v = (do
      let ov ← holding [v] (eval o X.env)
      let iv ← holding [v, ov] (eval i X.env)
      standAt tpos
      holding [v, ov, iv] (setItem ov iv v)
      release [v, ov, iv] []) := by intro _; rfl)
    (hs : swapsWithSole [.Subscript o i tpos] e pos.line X.env = pure false := by rfl) (hw : swappedStores [.Subscript o i tpos] e X.env = pure none := by rfl)
    (h1 : (assignEach [.Subscript o i tpos] X.env).map (·.2) = [assign (.Subscript o i tpos) X.env] := by rfl) : PS X (.Assign [.Subscript o i tpos] e pos) (tSOf X.K ca W (sSub mv mo mi)) :=
  weakS (ps_asg he (pg_sub ho hi (or_set hu) ha) hs hw h1) fun De σ H => by
    rintro ⟨ρ, M, S, re, rs, p⟩
    refine ⟨ρ, M, S, re, rs, (post_bindS p).mono ?_⟩
    rintro v H1 ⟨M1, S1, e, e1, rs1, r1, p1⟩
    refine ⟨ρ, M1, S1, re.ext e1, rs1, (post_bindS p1).mono ?_⟩
    rintro ov H2 ⟨M2, S2, d, e2, rs2, r2, p2⟩
    refine ⟨ρ, M2, S2, (re.ext e1).ext e2, rs2, (post_bindS p2).mono ?_⟩
    rintro iv H3 ⟨M3, S3, k, e3, rs3, r3, p3⟩
    have p4 := post_bindS (rp := rD X.K ca) p3
    have := set_rep (Q := fun _ H' => De.nx σ H') rs3 (Rep.ext e3 _ _ r2) r3 (Rep.ext e3 _ _ (Rep.ext e2 _ _ r1)) (p4.mono ?_)
    · exact this
    rintro x H4 ⟨M4, S4, u, e4, rs4, r4, p5⟩
    exact p5 σ M4 H4 (Ext.refl _ _) rs4 ((((re.ext e1).ext e2).ext e3).ext e4)
theorem gs_run : ∀ {is : List Nat} {us : List V} {σ : L2.St} {H : Hp} {Q : L2.St → Hp → Prop}, us.length = is.length → Q (setV is us σ) H → (is.foldr (fun i t => gCons (gName i) t) gNil) us σ H Q
  | [], [], _, _, _, _, h => ⟨rfl, h⟩
  | i :: is, u :: us, σ, H, Q, e, h => ⟨u, us, rfl, gs_run (is := is) (us := us) (Nat.succ.inj e) h⟩
  | [], _ :: _, _, _, _, e, _ => nomatch e
  | _ :: _, [], _, _, _, e, _ => nomatch e
theorem qs_tup {tgs : List Expr} {k : Nat} {e : Expr} {tpos pos : Pos} {is : List Nat} {mv : ME} (hc : X.calm = true) (he : PE X e (tOf X.K ca (wx W) mv)) (hg : PGs X tgs (is.foldr (fun i t => gCons (gName i) t) gNil))
    (hn : (assignEach tgs X.env).length = is.length := by rfl) (hst : (assignEach tgs X.env).findIdx? (·.1) = none := by rfl)
    (hs : swapsWithSole [.Tuple tgs k tpos] e pos.line X.env = pure false := by rfl) (hw : swappedStores [.Tuple tgs k tpos] e X.env = pure none := by rfl)
    (h1 : (assignEach [.Tuple tgs k tpos] X.env).map (·.2) = [assign (.Tuple tgs k tpos) X.env] := by rfl) : PS X (.Assign [.Tuple tgs k tpos] e pos) (tSOf X.K ca W (sAsgs is mv)) :=
  weakS (ps_asg he (pg_tup hc hg hn hst) hs hw h1) fun De σ H => by
    rintro ⟨ρ, M, S, re, rs, p⟩
    refine ⟨ρ, M, S, re, rs, (post_bindS p).mono ?_⟩
    rintro v H1 ⟨M1, S1, d, e1, rs1, r1, p1⟩
    split at p1
    · next ds =>
      split at p1
      · next hl =>
        obtain ⟨a, xs, rfl, h1, n, rl⟩ := r1
        have hl2 := rl.length
        exact ⟨a, xs, rfl, SqT.of h1, by omega, gs_run (by omega) (p1 _ M1 H1 (Ext.refl _ _) rs1 ((re.ext e1).setAll rl))⟩
      · exact p1.elim
    · exact p1.elim
theorem putF_names (f : Str) (v : V) : ∀ fs : List (Str × V), (putF f v fs).map (·.1) = putN f (fs.map (·.1))
  | [] => rfl
  | (g, x) :: r => by
    unfold putF
    show _ = (if g = f then g :: r.map (·.1) else g :: putN f (r.map (·.1)))
    split
    · rfl
    · rw [← putF_names f v r]; rfl
theorem putF_vals {K : PySem.W.Frag} {H : Hp} {M : Cells} (f : Str) {d : D} {v : V} (rv : Rep K ca H M d v) : ∀ {fs : List (Str × V)} {ds : List D}, RepL K ca H M ds (fs.map (·.2)) → RepL K ca H M (putD f d (fs.map (·.1)) ds) ((putF f v fs).map (·.2))
  | [], [], _ => ⟨rv, trivial⟩
  | (g, x) :: r, e :: ds, h => by
    unfold putF
    show RepL K ca H M (if g = f then d :: ds else e :: putD f d (r.map (·.1)) ds) _
    split
    · exact ⟨rv, h.2⟩
    · exact ⟨h.1, putF_vals f rv h.2⟩
  | [], _ :: _, h => h.elim
  | _ :: _, [], h => h.elim
theorem cellI_some {S : Store} {d : D} {n c : Nat} {ns : List Str} {ds : List D} (h : cellI S d = some (n, c, ns, ds)) : d = .cell n ∧ S[n]? = some (.ins c ns ds) := by
  unfold cellI at h
  split at h
  · split at h
    · next e => cases h; exact ⟨rfl, e⟩
    · cases h
  · cases h
theorem qs_fld {o e : Expr} {f : Str} {c : Nat} {tpos pos : Pos} {mv mo : ME} (hc : Cls X.K (ca c)) (hn : NoAttr X.K (ca c) f) (he : PE X e (tOf X.K ca (wx W) mv)) (ho : PE X o (tOf X.K ca (wx W) mo)) (hs : swapsWith e (some (.Attribute o f tpos)) pos.line X.env = pure false := by rfl) :
    PS X (.Assign [.Attribute o f tpos] e pos) (tSOf X.K ca W (sFldM c f mv mo)) := weakS (ps_fld ho he hs) fun De σ H => by
  rintro ⟨ρ, M, S, re, rs, p⟩
  refine ⟨ρ, M, S, re, rs, (post_bindS p).mono ?_⟩
  rintro v H1 ⟨M1, S1, e, e1, rs1, r1, p1⟩
  refine ⟨ρ, M1, S1, re.ext e1, rs1, (post_bindS p1).mono ?_⟩
  rintro ov H2 ⟨M2, S2, d, e2, rs2, r2, p2⟩
  split at p2
  · next n c' ns ds h =>
    split at p2
    · next hz =>
      obtain ⟨rfl, hz⟩ := hz
      obtain ⟨rfl, hS⟩ := cellI_some h
      obtain ⟨z, hz', a, dx, fs, rfl, h1, h2, h3⟩ := rs2.cells n _ hS
      obtain ⟨z', hz2, hv⟩ := r2
      rw [hz'] at hz2; cases hz2
      have l : WLive H2 M2 a := ⟨⟨n, hz'⟩, fun od u e => by rw [h1] at e; cases e⟩
      have hlen := congrArg List.length h2
      rw [List.length_map] at hlen
      refine ⟨a, ca c', dx, fs, hv a rfl, h1, hc, hn, by omega, ?_⟩
      refine p2 σ M2 _ (ext_write l _) (rs2.write hz' l.2 _ ⟨a, dx, putF f v fs, rfl, upd_same, by rw [putF_names, h2], RepL.ext (ext_write l _) _ _ ?_⟩) (((re.ext e1).ext e2).ext (ext_write l _))
      rw [← h2]
      exact putF_vals f (Rep.ext e2 _ _ r1) h3
    · exact p2.elim
  · exact p2.elim
end
section
variable {X : Cx} {ca : Nat → Addr} {W : WX}
theorem fld_look {K : PySem.W.Frag} {H : Hp} {M : Cells} {f : Str} : ∀ {fs : List (Str × V)} {ds : List D} {r : D}, RepL K ca H M ds (fs.map (·.2)) → ((fs.map (·.1)).zip ds).lookup f = some r → ∃ v, fs.lookup f = some v ∧ Rep K ca H M r v
  | [], [], _, _, h => by cases h
  | (g, x) :: fs, d :: ds, r, h, q => by
    have q : List.lookup f ((g, d) :: (fs.map (·.1)).zip ds) = some r := q
    rw [List.lookup_cons] at q
    rw [List.lookup_cons]
    split at q
    · next e => cases q; exact ⟨x, rfl, h.1⟩
    · next e => exact fld_look h.2 q
  | [], _ :: _, _, h, _ => h.elim
  | _ :: _, [], _, h, _ => h.elim
theorem q_fld {e : Expr} {f : Str} {c : Nat} {pos : Pos} {me : ME} (hc : Cls X.K (ca c)) (hn : NoAttr X.K (ca c) f) (he : PE X e (tOf X.K ca W me)) (hb : attributeBase e f X.env (eval e X.env) = eval e X.env := by rfl) :
    PE X (.Attribute e f pos) (tOf X.K ca W (m1 (oFld c f) me)) := weakE (pe_fld he hb) fun σ H Q => by
  rintro ⟨ρ, M, S, re, rs, p⟩
  refine ⟨ρ, M, S, re, rs, (post_bind p).mono ?_⟩
  rintro x H1 ⟨M1, S1, d, e1, rs1, r1, p1⟩
  unfold oFld at p1
  split at p1
  · next c' ns ds h =>
    split at p1
    · next hz =>
      subst hz
      split at p1
      · next r hr =>
        obtain ⟨a, dx, fs, rfl, h1, z, q1⟩ := obj_rep rs1 r1 h
        rw [← z] at hr
        obtain ⟨v, hv, rv⟩ := fld_look q1 hr
        exact ⟨a, _, dx, fs, v, rfl, h1, hc, hn, hv, one_ok p1 rs1 rv⟩
      · exact p1.elim
    · exact p1.elim
  · exact p1.elim
/-! ### d.get(k, x), d.setdefault(k, x) -/
def isDict (S : Store) (d : D) : Bool := match d with
  | .cell n => match S[n]? with
    | some (.dk _) => true
    | some (.dt _) => true
    | _ => false
  | _ => false
def mGet2 (o k x : ME) : ME := fun ρ S => (o ρ S).bind fun d S1 => if isDict S1 d then (k ρ S1).bind fun e S2 => (x ρ S2).bind fun z S3 => match dGet S3 d e with
  | some (some r) => .ok r S3
  | some none => .ok z S3
  | none => .err else .err
def mSetD (o k x : ME) : ME := fun ρ S => (o ρ S).bind fun d S1 => if isDict S1 d then (k ρ S1).bind fun e S2 => (x ρ S2).bind fun z S3 => match cellK S3 d, keyOf e with
  | some (n, kvs), some y => if kvs.length < sizeLine then (match valK kvs y with
    | some r => .ok r S3
    | none => .ok z (S3.set n (.dk (putG kvs y z)))) else .err
  | _, _ => .err else .err
theorem isDict_rep {K : PySem.W.Frag} {H : Hp} {M : Cells} {S : Store} {d : D} {x : V} (rs : RelS K ca H M S) (r : Rep K ca H M d x) (h : isDict S d = true) : ∃ a, x = .ref a ∧ IsD H a := by
  unfold isDict at h
  split at h
  · split at h
    · next hS =>
      obtain ⟨z, hz, a, ys, rfl, h1, _⟩ := rs.cells _ _ hS
      obtain ⟨z', hz', hv⟩ := r
      rw [hz] at hz'; cases hz'
      exact ⟨a, hv a rfl, .inl ⟨ys, .inl h1⟩⟩
    · next hS =>
      obtain ⟨z, hz, a, ys, rfl, h1, _⟩ := rs.cells _ _ hS
      obtain ⟨z', hz', hv⟩ := r
      rw [hz] at hz'; cases hz'
      exact ⟨a, hv a rfl, .inr ⟨ys, .inl h1⟩⟩
    · cases h
  · cases h
theorem q_get2 {o e f : Expr} {apos cpos : Pos} {mo mk mx : ME} (hu : X.A.units + 1 < cLine) (ho : PE X o (tOf X.K ca W mo)) (he : PE X e (tOf X.K ca W mk)) (hf : PE X f (tOf X.K ca W mx)) (m : M2 X o "get" apos e f cpos) :
    PE X (.Call (.Attribute o "get" apos) [e, f] [] cpos) (tOf X.K ca W (mGet2 mo mk mx)) := weakE (pe_dget2 hu ho he hf m) fun σ H Q => by
  rintro ⟨ρ, M, S, re, rs, p⟩
  refine ⟨ρ, M, S, re, rs, (post_bind p).mono ?_⟩
  rintro x H1 ⟨M1, S1, d, e1, rs1, r1, p1⟩
  split at p1
  · next hd =>
    obtain ⟨a, rfl, isd⟩ := isDict_rep rs1 r1 hd
    refine ⟨a, rfl, isd, ρ, M1, S1, re.ext e1, rs1, (post_bind p1).mono ?_⟩
    rintro y H2 ⟨M2, S2, k, e2, rs2, r2, p2⟩
    refine ⟨ρ, M2, S2, (re.ext e1).ext e2, rs2, (post_bind p2).mono ?_⟩
    rintro z H3 ⟨M3, S3, zz, e3, rs3, r3, p3⟩
    have rd := Rep.ext e3 _ _ (Rep.ext e2 _ _ r1)
    have rk := Rep.ext e3 _ _ r2
    split at p3
    · next r hr =>
      obtain ⟨b, ov, ea, g, v, rfl, rv⟩ := dget_rep rs3 rd rk hr
      cases ea
      exact ⟨some v, g, one_ok p3 rs3 rv⟩
    · next hr =>
      obtain ⟨b, ov, ea, g, ho⟩ := dget_rep rs3 rd rk hr
      cases ea
      have ho : ov = none := ho
      subst ho
      exact ⟨none, g, one_ok p3 rs3 r3⟩
    · exact p3.elim
  · exact p1.elim
theorem q_setd {o e f : Expr} {apos cpos : Pos} {mo mk mx : ME} (ho : PE X o (tOf X.K ca W mo)) (he : PE X e (tOf X.K ca W mk)) (hf : PE X f (tOf X.K ca W mx)) (m : M2 X o "setdefault" apos e f cpos) :
    PE X (.Call (.Attribute o "setdefault" apos) [e, f] [] cpos) (tOf X.K ca W (mSetD mo mk mx)) := weakE (pe_dsetd ho he hf m) fun σ H Q => by
  rintro ⟨ρ, M, S, re, rs, p⟩
  refine ⟨ρ, M, S, re, rs, (post_bind p).mono ?_⟩
  rintro x H1 ⟨M1, S1, d, e1, rs1, r1, p1⟩
  split at p1
  · next hd =>
    obtain ⟨a, rfl, isd⟩ := isDict_rep rs1 r1 hd
    refine ⟨a, rfl, isd, ρ, M1, S1, re.ext e1, rs1, (post_bind p1).mono ?_⟩
    rintro y H2 ⟨M2, S2, k, e2, rs2, r2, p2⟩
    refine ⟨ρ, M2, S2, (re.ext e1).ext e2, rs2, (post_bind p2).mono ?_⟩
    rintro z H3 ⟨M3, S3, zz, e3, rs3, r3, p3⟩
    have rd := Rep.ext e3 _ _ (Rep.ext e2 _ _ r1)
    have rk := Rep.ext e3 _ _ r2
    split at p3
    · next n kvs y h hk =>
      split at p3
      · next hz =>
        obtain ⟨rfl, hS⟩ := cellK_some h
        obtain ⟨z1, hz', b, ys, rfl, h1, h2, h3⟩ := rs3.cells n _ hS
        obtain ⟨z', hz2, hv⟩ := rd
        rw [hz'] at hz2; cases hz2
        cases hv b rfl
        have := key_rep rk hk
        subst this
        have l : WLive H3 M3 a := ⟨⟨n, hz'⟩, fun od u e => by rw [h1] at e; cases e⟩
        have hlen := congrArg List.length h2
        rw [List.length_map, List.length_map] at hlen
        obtain ⟨g1, g2⟩ := val_rep y h2 h3
        refine ⟨ys, y, h1, rfl, by omega, fun v hv' => ?_, fun hn => ?_⟩
        · cases q : valK kvs y with
          | none => rw [g2 q] at hv'; cases hv'
          | some r =>
            obtain ⟨v', e', rv⟩ := g1 r q
            rw [hv'] at e'; cases e'
            rw [q] at p3
            exact one_ok p3 rs3 rv
        · cases q : valK kvs y with
          | some r =>
            obtain ⟨v', e', rv⟩ := g1 r q
            rw [hn] at e'; cases e'
          | none =>
            rw [q] at p3
            obtain ⟨k1, k2⟩ := put_rep y h2 h3 r3
            exact post_w p3 l (rs3.write hz' l.2 _ ⟨a, putK ys y z, rfl, upd_same, k1, RepL.ext (ext_write l _) _ _ k2⟩) r3
      · exact p3.elim
    · exact p3.elim
  · exact p1.elim
end
/-! ### raise C('..') -/
def sRaise (c : Nat) : MS := fun _ S => .ex c S
theorem qs_raise {X : Cx} {ca : Nat → Addr} {W : XW} {e : Expr} {c : Nat} {pos : Pos} (hc : X.calm = true) (tk : Takes X (wx W)) (he : PMk X e (fun _ H Q => Q (.ref (ca c)) none H)) : PS X (.Raise (some e) none pos) (tSOf X.K ca W (sRaise c)) :=
  weakS (ps_raise hc tk he) fun De σ H => by
    rintro ⟨ρ, M, S, re, rs, p⟩
    exact p M H (Ext.refl _ _) rs
end Sm
/-! S10: a list or a tuple is walked; the facts of a program -/
namespace Sm
open PySem PySem.Spec PyProof.Rows L2
open Classical

def itemsA : List D → Store → Option (List (List D))
  | [d], S => match itemsT [d] S with
    | some its => some its
    | none => (seqL S d).map ones
  | _, _ => none
section
variable {X : Cx} {ca : Nat → Addr} {W : WX}
def iAny (K : PySem.W.Frag) (te : TE) : TI := fun σ H R => te σ H fun x H1 => ∃ a, x = .ref a ∧ (((∃ xs, SqL K H1 a xs) ∧ R (Itl K a) H1) ∨ ((∃ xs, SqT K H1 a xs) ∧ R (Itt K a) H1))
theorem pi_any {tgx l : Expr} {tl : TE} (hl : PE X l tl) : PI X tgx l (iAny X.K tl) := by
  refine ⟨fun pins s σ H R I h => ?_⟩
  refine thn (hl.run pins s σ H _ I h) fun v s1 ⟨x, H1, I1, r1, q1⟩ => ?_
  obtain ⟨a, e, q1⟩ := q1
  subst e
  cases r1
  rcases q1 with ⟨⟨xs, hq⟩, q⟩ | ⟨⟨xs, hq⟩, q⟩
  · obtain ⟨its, rv, p, hz⟩ := I1.list hq
    refine wpAny_pyIter_list p.isList ?_
    refine ⟨s1.heap.objs.size, [s1.heap.objs.size], _, _, H1, rfl, I1.kept (t' := s1.toks) fun b o e => Heap.get?_push_of_some _ e, turn_list a _, ⟨_, Heap.get?_push_size _ rfl, rfl, rfl⟩, fun b hb => ?_, q⟩
    have e : b = s1.heap.objs.size := by simpa using hb
    subst e
    exact I1.fpOk (Nat.le_refl _) (I1.hok.fresh (Nat.le_refl _))
  · obtain ⟨its, rv, p, hz⟩ := I1.tuple hq
    refine wpAny_pyIter_tuple (show s1.heap.IsTuple a its.toArray from p) ?_
    refine ⟨s1.heap.objs.size, [s1.heap.objs.size], _, _, H1, rfl, I1.kept (t' := s1.toks) fun b o e => Heap.get?_push_of_some _ e, turn_tuple a _, ⟨_, Heap.get?_push_size _ rfl, rfl, rfl⟩, fun b hb => ?_, q⟩
    have e : b = s1.heap.objs.size := by simpa using hb
    subst e
    exact I1.fpOk (Nat.le_refl _) (I1.hok.fresh (Nat.le_refl _))
theorem itemsA_inv {src : List D} {S : Store} {its : List (List D)} (h : itemsA src S = some its) : ∃ d, src = [d] ∧ ((∃ ds, d = .tup ds ∧ ds.length ≤ sizeLine ∧ its = ones ds) ∨ ((∀ ds, d ≠ .tup ds) ∧ ∃ ds, seqL S d = some ds ∧ its = ones ds)) := by
  unfold itemsA at h
  split at h
  · next d =>
    refine ⟨d, rfl, ?_⟩
    split at h
    · next its' h' =>
      cases h
      obtain ⟨ds, e, z, rfl⟩ := itemsT_inv h'
      cases e
      exact .inl ⟨ds, rfl, z, rfl⟩
    · cases q : seqL S d with
      | none => rw [q] at h; cases h
      | some ds =>
        rw [q] at h; cases h
        refine .inr ⟨fun es e => ?_, ds, rfl, rfl⟩
        subst e; cases q
  · cases h
theorem walk_tup {K : PySem.W.Frag} {H0 : Hp} {d : D} {a : Addr} {i : Nat} {ds0 : List D} (hd : d = .tup ds0) : Walk K ca H0 (Itt K a) (gName i) [d] [.ref a] [i] (itemsA [d]) := by
  subst hd
  refine ⟨fun H2 M2 S2 its2 _ rs2 r2 h2 => ?_, fun H2 M2 S2 its2 j _ rs2 r2 h2 => ?_⟩
  · obtain ⟨d, e, h | h⟩ := itemsA_inv h2
    · obtain ⟨ds, e2, z, rfl⟩ := h; unfold ones; rw [List.length_map]; exact z
    · cases e; exact absurd rfl (h.1 _)
  · obtain ⟨d, e, h | h⟩ := itemsA_inv h2
    · obtain ⟨ds, e2, z, rfl⟩ := h
      cases e; cases e2
      obtain ⟨a2, xs2, e2, h2, n2, rl2⟩ := r2.1
      cases e2
      have hl := rl2.length
      refine ⟨fun hj => ⟨xs2, SqT.of h2, by unfold ones at hj; rw [List.length_map] at hj; omega⟩, fun item hit => ?_⟩
      obtain ⟨d2, hd2, rfl⟩ := ones_get hit
      obtain ⟨v, hv, rv⟩ := rl2.get hd2
      refine ⟨⟨xs2, v, SqT.of h2, hv⟩, fun x Hx hy => ?_⟩
      obtain ⟨rfl, hy⟩ := hy
      have := hy xs2 (SqT.of h2)
      rw [hv] at this; cases this
      exact ⟨Ext.refl _ _, rs2, [v], RepL.one rv, fun σ Q h => h⟩
    · cases e; exact absurd rfl (h.1 _)
theorem walk_lst {K : PySem.W.Frag} {H0 : Hp} {d : D} {a : Addr} {i : Nat} (hd : ∀ ds, d ≠ .tup ds) : Walk K ca H0 (Itl K a) (gName i) [d] [.ref a] [i] (itemsA [d]) := by
  refine ⟨fun H2 M2 S2 its2 _ rs2 r2 h2 => ?_, fun H2 M2 S2 its2 j _ rs2 r2 h2 => ?_⟩
  · obtain ⟨d', e, h | h⟩ := itemsA_inv h2
    · cases e; obtain ⟨ds, e2, _⟩ := h; exact absurd e2 (hd _)
    · cases e
      obtain ⟨_, ds, q, rfl⟩ := h
      obtain ⟨a2, xs2, e2, sq2, rl2, z2⟩ := seq_rep rs2 r2.1 q
      have := rl2.length
      unfold ones; rw [List.length_map]; omega
  · obtain ⟨d', e, h | h⟩ := itemsA_inv h2
    · cases e; obtain ⟨ds, e2, _⟩ := h; exact absurd e2 (hd _)
    · cases e
      obtain ⟨_, ds, q, rfl⟩ := h
      obtain ⟨a2, xs2, e2, sq2, rl2, z2⟩ := seq_rep rs2 r2.1 q
      cases e2
      have hl := rl2.length
      refine ⟨fun hj => ⟨xs2, sq2, by unfold ones at hj; rw [List.length_map] at hj; omega⟩, fun item hit => ?_⟩
      obtain ⟨d2, hd2, rfl⟩ := ones_get hit
      obtain ⟨v, hv, rv⟩ := rl2.get hd2
      refine ⟨⟨xs2, v, sq2, hv⟩, fun x Hx hy => ?_⟩
      obtain ⟨rfl, hy⟩ := hy
      have := hy xs2 sq2
      rw [hv] at this; cases this
      exact ⟨Ext.refl _ _, rs2, [v], RepL.one rv, fun σ Q h => h⟩
theorem it_any {m : ME} {i : Nat} : IterOk X.K ca W (iAny X.K (tOf X.K ca W m)) (mCons m mNil) itemsA [i] (gName i) := by
  intro σ H Rr ρ M S re rs p
  refine ⟨ρ, M, S, re, rs, (one_arg p).mono ?_⟩
  rintro x H1 ⟨M1, S1, src, its, e1, rs1, r1, hi, wk⟩
  obtain ⟨d, rfl, h | h⟩ := itemsA_inv hi
  · obtain ⟨ds, rfl, z, rfl⟩ := h
    obtain ⟨a, xs, rfl, h1, n, rl⟩ := id r1.1
    exact ⟨a, rfl, .inr ⟨⟨xs, SqT.of h1⟩, wk _ (walk_tup rfl)⟩⟩
  · obtain ⟨hn, ds, q, rfl⟩ := h
    obtain ⟨a, xs, rfl, sq, rl, z⟩ := seq_rep rs1 r1.1 q
    exact ⟨a, rfl, .inl ⟨⟨xs, sq⟩, wk _ (walk_lst hn)⟩⟩
end

/-! ### a test by truth: a list, a number, a text -/
def truD (S : Store) (d : D) : Option Bool := match d with
  | .bl b => some b
  | .int i => some (i != 0)
  | .non => some false
  | _ => match seqL S d with
    | some ds => some (!ds.isEmpty)
    | none => none
def mTru (a : ME) : ME := fun ρ S => (a ρ S).bind fun d S1 => match truD S1 d with
  | some b => .ok (.bl b) S1
  | none => .err
theorem qt_truth {X : Cx} {ca : Nat → Addr} {W : WX} {e : Expr} {a : ME} (h : PE X e (tOf X.K ca W a)) (he : ∀ whole, isTrue e X.env whole = (do let v ← whole; standAt e.pos; holding [v] (truthy v)) := by intro _; rfl) : PT X e (tOfT X.K ca W (mTru a)) :=
  weakT (pt_truth h he) fun σ H Q => by
    rintro ⟨ρ, M, S, re, rs, p⟩
    unfold mTru at p
    rw [bind_asB] at p
    refine ⟨ρ, M, S, re, rs, (post_bind p).mono ?_⟩
    rintro x H1 ⟨M1, S1, d, e1, rs1, r1, p1⟩
    cases q : truD S1 d with
    | none => rw [q] at p1; exact p1.elim
    | some b =>
      rw [q] at p1
      refine ⟨b, ?_, p1 b M1 H1 (Ext.refl _ _) rs1 rfl⟩
      have lst : (match seqL S1 d with
        | some ds => some (!ds.isEmpty)
        | none => none) = some b → TruV X.K x H1 b := fun h => by
        split at h
        · next ds hd =>
          cases h
          obtain ⟨c, xs, rfl, sq, rl, z⟩ := seq_rep rs1 r1 hd
          refine .inl ⟨xs, sq, ?_⟩
          have hl := rl.length
          cases ds <;> cases xs <;> first | rfl | (simp at hl)
        · cases h
      cases d with
      | bl c => cases q; cases r1; rfl
      | int i => cases q; cases r1; rfl
      | non => cases q; cases r1; rfl
      | str _ => exact lst q
      | tup _ => exact lst q
      | lst _ => exact lst q
      | obj _ _ _ => exact lst q
      | cell _ => exact lst q
      | scr _ => exact lst q
      | exc _ => exact lst q

/-! ### what a program's top has left -/
/-- the classes' names, by number -/
def cn : Nat → Str
  | 0 => "NetError" | 1 => "BadText" | 2 => "Unfit" | 3 => "NoMirror" | 4 => "NoPlace" | 5 => "NoTurn" | 6 => "Unsound" | 7 => "Net" | _ => "Plan"
abbrev caK (K : PySem.W.Frag) : Nat → Addr := fun c => He.ga K (cn c)
structure Lk (P : Program) (w : World) (K : PySem.W.Frag) (mg : Str → Option Value) (base : Heap) (sg : List (Nat × Str × List Str)) (mts : List (Nat × Nat × Str × List Str)) (mks : List (Nat × Str × Nat × List Str × List D))
    (fa : List He.Fa) (gx : PySem.W.Frag → Bool) (n : Nat) (C I : Orc) : Prop where
  fn : ∀ (j i : Nat) x ps, sg[j]? = some (i, x, ps) → FnAt P w K mg base (caK K) (n + 1) x ps (C i)
  mt : ∀ (j i : Nat) c m ps, mts[j]? = some (i, c, m, ps) → MtAt P w K mg base (caK K) (n + 1) c m ps (C i)
  mkc : ∀ (j i : Nat) x c ps dds, mks[j]? = some (i, x, c, ps, dds) → MkAt P w K mg base (caK K) n x c ps dds (I i)
  fact : ∀ (j : Nat) f, fa[j]? = some f → f.ok K = true
  kin : K.In base
  ns : base.Ns mainGlobals mg
  gx_ : gx K = true
section
variable {P : Program} {w : World} {K : PySem.W.Frag} {mg : Str → Option Value} {base : Heap} {sg : List (Nat × Str × List Str)} {mts : List (Nat × Nat × Str × List Str)} {mks : List (Nat × Str × Nat × List Str × List D)} {fa : List He.Fa} {xg : PySem.W.Frag → Bool} {n : Nat} {C I : Orc}
theorem Lk.bl (Z : Lk P w K mg base sg mts mks fa xg n C I) (j : Nat) (x : Str) (h : fa[j]? = some (.free x)) : mg x = none := He.free_ok Z.kin Z.ns (Z.fact j _ h)
theorem Lk.gs (Z : Lk P w K mg base sg mts mks fa xg n C I) (j : Nat) (x z : Str) (h : fa[j]? = some (.str x z)) : ∃ t, mg x = some (.str z t) := He.str_ok Z.kin Z.ns (Z.fact j _ h)
theorem Lk.cl (Z : Lk P w K mg base sg mts mks fa xg n C I) (j c : Nat) (h : fa[j]? = some (.cls (cn c))) : Cls K (caK K c) := He.cls_ok (Z.fact j _ h)
theorem Lk.na (Z : Lk P w K mg base sg mts mks fa xg n C I) (j c : Nat) (f : Str) (h : fa[j]? = some (.noat (cn c) f)) : NoAttr K (caK K c) f := He.noat_ok (Z.fact j _ h)
theorem Lk.ex (Z : Lk P w K mg base sg mts mks fa xg n C I) (j c : Nat) (h : fa[j]? = some (.exc (cn c))) : PySem.W.excIn K (caK K c) He.veBase "ValueError.__new__" = true ∧ PySem.W.keepIn K (.ref (caK K c)) = true ∧ PySem.W.subIn K (.ref (caK K c)) (.type "BaseException") = some true ∧
    PySem.W.typeIn K (.ref (caK K c)) = some (.type "type") := He.exc_ok (Z.fact j _ h)
theorem Lk.gx (Z : Lk P w K mg base sg mts mks fa xg n C I) (j c : Nat) (h : fa[j]? = some (.glo (cn c))) : mg (cn c) = some (.ref (caK K c)) := He.glo_ok Z.kin Z.ns (Z.fact j _ h)
end
/-- the rule for a def of the text -/
theorem fn_simD {P : Program} {w : World} {K : PySem.W.Frag} {mg : Str → Option Value} {base : Heap} {ca : Nat → Addr} {x qual : Str} {st : Stmt} {dvs : List V} {kws : List (Str × V)} {f : Addr} {fd : FuncData} {N ps : List Str} {n : Nat} {b : Body} {C I : Orc}
    (F : FunD K x qual (defArgs st) (defBody st) (defScope st) dvs kws f fd) (Sc : FnScope N ps (defScope st)) (h1 : ps.length = b.ar) (h2 : N.length = b.sl)
    (hb : ∀ (cdv : Value) (A : Around) (outer : List PySem.Env) (s : Shared) (H : Hp) (E : XK), Room n (A.deeper (envOfC qual (defScope st) s.heap.objs.size f cdv)) →
      PSs (cxOf (L2.CX P w) P w K mg base N qual (defScope st) f cdv A outer s H E) (defBody st) (tSOf K ca E (b.code C I))) :
    FnOk P w K mg base (L2.CX P w) (n + 1) f fd ps (spOf K ca (step1 b C I)) := by
  have len : ∀ vs H Q E, spOf K ca (step1 b C I) vs H Q E → vs.length = ps.length ∧ ∃ ds M S, RelS K ca H M S ∧ RepL K ca H M ds vs ∧ ds.length = b.ar ∧
      Post K ca (rD K ca) H M Q E (fin b.cut S (b.code C I (ds.map some ++ List.replicate (b.sl - b.ar) none) S)) := fun vs H Q E ⟨ds, M, S, rs, r, p⟩ => by
    unfold step1 at p
    split at p
    · next hl => exact ⟨by rw [← r.length, hl, h1], ds, M, S, rs, r, hl, p⟩
    · exact p.elim
  refine F.ok Sc (fun vs H Q E h => (len vs H Q E h).1) fun cdv A outer s H vs Q E hr h => ⟨_, hb cdv A outer s H E hr, ?_⟩
  obtain ⟨_, ds, M, S, rs, r, hl, p⟩ := len vs H Q E h
  refine ⟨_, M, S, ?_, rs, fin_ok rs p⟩
  have e := r.length
  unfold L2.start
  have : N.length - vs.length = b.sl - b.ar := by omega
  rw [this]
  exact env_start _ r
/-- depths: at the first two nothing is known -/
noncomputable def ev (T : Nat → Option Body) : Nat → Orc
  | 0 => noOrc
  | 1 => noOrc
  | k + 2 => step T (ev T (k + 1)) (ev T k)
/-- a law: F gives the written part, the function object, the promise over every base -/
theorem walk_ofW {l : PySem.W.OpenLaw} {n k : Nat} {q : Program} {loose : List Str} {XP : (Str → Option Value) → Heap → Prop} {YP : World → Heap → Prop} {d : DefRec} {CX : World → CXT} {x : Str}
    (hn : l.most = some n) (hn2 : n ≤ sizeLine) (hdf : d.params.defaults = []) (hr : Room k callerA)
    (F : ∀ (w : World) (mg : Str → Option Value) (fa : Addr) (h : Heap), YP w h → h.Ns mainGlobals mg → mg d.name = some (.ref fa) →
      ∃ (K : PySem.W.Frag) (fd : FuncData) (sp : Sp), K.In h ∧ (∀ (s : Shared) (u : Value), BindsTo s fd ⟨[u], []⟩ [(x, u)]) ∧
        (∀ (H : Hp) (a : Addr) (ns : List Int), ns.length ≤ n → Only H → SqL K H a (ns.map V.int) → sp [.ref a] H (fun v _ => v = .bl true) fun _ _ _ => False) ∧
        ∀ base : Heap, K.In base → base.Ns mainGlobals mg → FnOk l.prog w K mg base (CX w) k fa fd [x] sp)
    (hCX : ∀ (w : World) (H : Hp) (s : Shared) (e : Value) (s' : Shared), CX w [] H s (fun _ _ _ => False) e s' → False) :
    PySem.W.WalkO q loose XP YP l.row.toRowW d [] (fun f vs => PySem.call f vs) := by
  refine Att.attach_call hn hdf fun w s₀ s₁ mg mb fa o pm cd doc a vs ns G Y ho hd hcd hmg hobj hints hlen hg => ?_
  obtain ⟨K, fd, sp, KX, hb, hsp, hF⟩ := F w mg fa _ Y G.T.g hmg
  exact law_call KX G.T.g G.T.b G.T.builtins G.T.nolimit hg hobj hints (Nat.le_trans hlen hn2) hr hF hb (fun H hO hS => hsp H a ns hlen hO hS) fun H e s' => hCX w H s₁ e s'
theorem cx_no {P : Program} (w : World) (H : Hp) (s : Shared) (e : Value) (s' : Shared) (h : L2.CX P w [] H s (fun _ _ _ => False) e s') : False := by
  obtain ⟨_, _, _, _, _, _, _, _, _, _, _, _, z⟩ := h
  exact z.elim
/-- the law's own end: its mirror hands back True -/
theorem law_sp {K : PySem.W.Frag} {ca : Nat → Addr} {F : List D → Store → R D} (h : ∀ ns : List Int, ns.length ≤ 63 → ∃ S', F [.scr ns] [] = .ok (.bl true) S') (H : Hp) (a : Addr) (ns : List Int) (hl : ns.length ≤ 63) (_ : Only H) (hS : SqL K H a (ns.map V.int)) :
    spOf K ca F [.ref a] H (fun v _ => v = .bl true) fun _ _ _ => False := by
  obtain ⟨S', e⟩ := h ns hl
  refine ⟨[.scr ns], ⟨[], []⟩, [], ⟨rfl, fun i j a h => by simp at h, fun i mo h => by simp at h, fun a h => by simp at h, fun a h => by simp at h⟩, ⟨⟨a, rfl, ?_, Nat.le_trans hl (by decide)⟩, trivial⟩, ?_⟩
  · rcases hS with hS | hS
    · refine .inl ⟨hS, ?_⟩
      rintro (⟨i, h⟩ | h)
      · simp at h
      · simp at h
    · exact .inr hS
  · rw [e]
    exact fun v M' H' _ _ r => r

/-! ### all defs of a text, at every depth -/
section
variable {P : Program} {w : World} {K : PySem.W.Frag} {mg : Str → Option Value} {base : Heap} {ca : Nat → Addr} {T : Nat → Option Body} {n i : Nat} {b : Body} {x qual : Str} {st : Stmt} {dvs : List V} {kws : List (Str × V)} {f : Addr} {fd : FuncData} {N ps : List Str}
theorem sim_ok (hT : T i = some b) (F : FunD K x qual (defArgs st) (defBody st) (defScope st) dvs kws f fd) (Sc : FnScope N ps (defScope st)) (h1 : ps.length = b.ar) (h2 : N.length = b.sl)
    (hb : ∀ (cdv : Value) (A : Around) (outer : List PySem.Env) (s : Shared) (H : Hp) (E : XK), Room (n + 1) (A.deeper (envOfC qual (defScope st) s.heap.objs.size f cdv)) →
      PSs (cxOf (L2.CX P w) P w K mg base N qual (defScope st) f cdv A outer s H E) (defBody st) (tSOf K ca E (b.code (ev T (n + 1)) (ev T n)))) :
    FnOk P w K mg base (L2.CX P w) (n + 2) f fd ps (spOf K ca (ev T (n + 2) i)) := by
  have e : ev T (n + 2) i = step1 b (ev T (n + 1)) (ev T n) := by
    show (fun args S => match T i with
      | none => R.err
      | some b => step1 b (ev T (n + 1)) (ev T n) args S) = _
    rw [hT]
  rw [e]
  exact fn_simD F Sc h1 h2 hb
theorem at_fn (F : FnOk P w K mg base (L2.CX P w) n f fd ps (spOf K ca (ev T n i))) (hm : mg x = some (.ref f)) (kp : PySem.W.keepIn K (.ref f) = true) (hb : Binds K fd ps []) : FnAt P w K mg base ca n x ps (ev T n i) := ⟨f, fd, F, hm, kp, hb⟩
theorem at_one (hm : mg x = some (.ref f)) (kp : PySem.W.keepIn K (.ref f) = true) (hb : Binds K fd ps []) : FnAt P w K mg base ca 1 x ps (ev T 1 i) := ⟨f, fd, fn_none, hm, kp, hb⟩
end
theorem fa_cons {A : Type} {p : A → Prop} {a : A} {l : List A} (h : p a) (t : ∀ q ∈ l, p q) : ∀ q ∈ a :: l, p q := fun q hq => by
  rcases List.mem_cons.mp hq with e | e
  · subst e; exact h
  · exact t q e
theorem fa_nil {A : Type} {p : A → Prop} : ∀ q ∈ ([] : List A), p q := fun _ h => nomatch h
end Sm
/-! S11: written dicts, instances of own classes, counts, numbers as texts -/
namespace Sm
open PySem PySem.Spec PyProof.Rows L2
open Classical
/-! ### a hidden object becomes a cell -/
theorem cell_hid {K : PySem.W.Frag} {ca : Nat → Addr} {H1 H : Hp} {M1 M : Cells} {S S1 : Store} {L : Addr} {mo : MO} (e : Ext H1 M1 H (M.as M1.h)) (hM : M.h = L :: M1.h)
    (rs1 : RelS K ca H1 M1 S1) (rs : RelS K ca H M S) (h1 : H1 L = none) (ok : ∀ M2, (∀ ds vs, RepL K ca H M ds vs → RepL K ca H M2 ds vs) → CellOk K ca H M2 (some L) mo) :
    Ext H1 M1 H ((M.as M1.h).push L) ∧ RelS K ca H ((M.as M1.h).push L) (S ++ [mo]) ∧ Rep K ca H ((M.as M1.h).push L) (.cell S.length) (.ref L) := by
  have inL : L ∈ M.h := by rw [hM]; exact List.mem_cons_self
  have sub : ∀ b, b ∈ M1.h → b ∈ M.h := fun b hb => by rw [hM]; exact List.mem_cons_of_mem _ hb
  have nL : L ∉ M1.h := fun q => (rs1.hid L q).1 h1
  have nc : ¬ CLive M L := (rs.hid L inL).2
  have cas : ∀ (k : Nat) x, (M.c ++ [some L])[k]? = some x → (M.c[k]? = some x ∧ k < M.c.length) ∨ (k = M.c.length ∧ x = some L) := fun k x q => by
    by_cases hk : k < M.c.length
    · rw [List.getElem?_append_left hk] at q; exact .inl ⟨q, hk⟩
    · rw [List.getElem?_append_right (by omega)] at q
      cases kk : k - M.c.length with
      | zero => rw [kk] at q; simp at q; exact .inr ⟨by omega, q.symm⟩
      | succ m => rw [kk] at q; simp at q
  have lv : ∀ a, ¬ Live M a → ¬ Live ((M.as M1.h).push L) a := fun a n => by
    rintro (⟨i, q⟩ | q)
    · rcases cas i (some a) q with ⟨q, _⟩ | ⟨_, q⟩
      · exact n (.inl ⟨i, q⟩)
      · cases q; exact n (.inr inL)
    · exact n (.inr (sub _ q))
  have cc : ∀ (n : Nat) x, M.c[n]? = some x → ((M.as M1.h).push L).c[n]? = some x := fun n x hx => by
    show (M.c ++ [some L])[n]? = some x
    rw [List.getElem?_append_left (List.getElem?_eq_some_iff.mp hx).1]; exact hx
  refine ⟨⟨?_, fun l hl => ?_, fun l a hl q => ?_, e.fr, e.on, rfl, e.fz⟩, ⟨by show (M.c ++ [some L]).length = _; simp [rs.len], fun i j a h2 h3 => ?_, fun i mo' hm => ?_, fun a ha => ⟨(rs.hid a (sub a ha)).1, ?_⟩, fun a ha => rs.hidt a (sub a ha)⟩, ⟨some L, ?_, fun a q => by cases q; rfl⟩⟩
  · have := e.len; show M1.c.length ≤ (M.c ++ [some L]).length
    have : M1.c.length ≤ M.c.length := this
    simp; omega
  · show (M.c ++ [some L])[l]? = _ ∨ (M.c ++ [some L])[l]? = _
    have hl2 : l < M.c.length := Nat.lt_of_lt_of_le hl e.len
    rw [List.getElem?_append_left hl2]; exact e.old l hl
  · rcases cas l (some a) q with ⟨q, _⟩ | ⟨_, q⟩
    · exact e.new l a hl q
    · cases q; exact h1
  · rcases cas i (some a) h2 with ⟨u1, _⟩ | ⟨u1, u2⟩ <;> rcases cas j (some a) h3 with ⟨w1, _⟩ | ⟨w1, w2⟩
    · exact rs.inj i j a u1 w1
    · cases w2; exact absurd ⟨i, u1⟩ nc
    · cases u2; exact absurd ⟨j, w1⟩ nc
    · omega
  · show ∃ x, (M.c ++ [some L])[i]? = some x ∧ _
    by_cases hi : i < S.length
    · rw [List.getElem?_append_left hi] at hm
      obtain ⟨x, hx, q⟩ := rs.cells i mo' hm
      exact ⟨x, by rw [List.getElem?_append_left (by rw [rs.len]; exact hi)]; exact hx, q.map (fun ds vs => RepL.live lv cc ds vs) fun _ _ => rfl⟩
    · rw [List.getElem?_append_right (by omega)] at hm
      cases k : i - S.length with
      | succ n => rw [k] at hm; simp at hm
      | zero =>
        rw [k] at hm; simp at hm; subst hm
        exact ⟨some L, by rw [List.getElem?_append_right (by rw [rs.len]; omega), rs.len, k]; rfl, ok _ fun ds vs => RepL.live lv cc ds vs⟩
  · rintro ⟨i, q⟩
    rcases cas i (some a) q with ⟨q, _⟩ | ⟨_, q⟩
    · exact (rs.hid a (sub a ha)).2 ⟨i, q⟩
    · cases q; exact nL ha
  · show (M.c ++ [some L])[S.length]? = _
    rw [← rs.len]; simp
/-! ### written dicts -/
def mPairs : List (ME × ME) → Env → Store → R (List (D × D))
  | [], _, S => .ok [] S
  | (k, v) :: r, ρ, S => (k ρ S).nox.bind fun d S1 => (v ρ S1).nox.bind fun e S2 => (mPairs r ρ S2).bind fun ps S3 => .ok ((d, e) :: ps) S3
def keyPairs : List (D × D) → Option (List (Key × D))
  | [] => some []
  | (k, v) :: r => match keyOf k, keyPairs r with
    | some x, some qs => some ((x, v) :: qs)
    | _, _ => none
def mergeG (kvs more : List (Key × D)) : List (Key × D) := more.foldl (fun acc kv => putG acc kv.1 kv.2) kvs
def mDisp (ms : List (ME × ME)) : ME := fun ρ S => (mPairs ms ρ S).bind fun ps S1 => match keyPairs ps with
  | some qs => if qs.length ≤ 15 then .ok (.cell S1.length) (S1 ++ [.dk (mergeG [] qs)]) else .err
  | none => .err
def RepP (K : PySem.W.Frag) (ca : Nat → Addr) (H : Hp) (M : Cells) (ps : List (D × D)) (vs : List (V × V)) : Prop := RepL K ca H M (ps.map (·.1)) (vs.map (·.1)) ∧ RepL K ca H M (ps.map (·.2)) (vs.map (·.2))
abbrev noW : WX := fun _ _ _ _ => False
theorem pairs_run {K : PySem.W.Frag} {ca : Nat → Addr} {ρ : Env} {σ : L2.St} : ∀ (ms : List (ME × ME)) {H : Hp} {M : Cells} {S S2 : Store} {ps : List (D × D)} {Q : List (V × V) → Hp → Prop}, mPairs ms ρ S = .ok ps S2 → REnv K ca H M ρ σ → RelS K ca H M S →
    (∀ vs H2 M2, Ext H M H2 M2 → RelS K ca H2 M2 S2 → RepP K ca H2 M2 ps vs → Q vs H2) → tPairs (ms.map fun m => (tOf K ca noW m.1, tOf K ca noW m.2)) σ H Q
  | [], H, M, S, S2, ps, Q, h, re, rs, q => by
    cases h
    exact q [] H M (Ext.refl _ _) rs ⟨trivial, trivial⟩
  | (k, v) :: ms, H, M, S, S2, ps, Q, h, re, rs, q => by
    unfold mPairs at h
    show tOf K ca noW k σ H _
    refine ⟨ρ, M, S, re, rs, ?_⟩
    show Post K ca (rD K ca) H M _ _ (k ρ S)
    cases hk : k ρ S with
    | err => rw [hk] at h; cases h
    | ex c S1 => rw [hk] at h; cases h
    | ok d S1 =>
      rw [hk] at h
      intro x M1 H1 e1 rs1 r1
      refine ⟨ρ, M1, S1, re.ext e1, rs1, ?_⟩
      simp only [nox_ok, bind_ok] at h
      show Post K ca (rD K ca) H1 M1 _ _ (v ρ S1)
      cases hv : v ρ S1 with
      | err => rw [hv] at h; cases h
      | ex c S1 => rw [hv] at h; cases h
      | ok e S3 =>
        rw [hv] at h
        simp only [nox_ok, bind_ok] at h
        intro y M2 H2 e2 rs2 r2
        cases hr : mPairs ms ρ S3 with
        | err => rw [hr] at h; cases h
        | ex c S1 => rw [hr] at h; cases h
        | ok qs S4 =>
          rw [hr] at h
          cases h
          refine pairs_run ms hr ((re.ext e1).ext e2) rs2 fun vs H3 M3 e3 rs3 rp => ?_
          refine q _ H3 M3 ((e1.trans e2).trans e3) rs3 ⟨⟨Rep.ext (e2.trans e3) _ _ r1, rp.1⟩, ⟨Rep.ext e3 _ _ r2, rp.2⟩⟩
theorem keyPairs_rep {K : PySem.W.Frag} {ca : Nat → Addr} {H : Hp} {M : Cells} : ∀ {ps : List (D × D)} {vs : List (V × V)} {qs : List (Key × D)}, RepP K ca H M ps vs → keyPairs ps = some qs →
    ∃ kvs : List (Key × V), vs = kvs.map (fun kv => (kV kv.1, kv.2)) ∧ kvs.map (·.1) = qs.map (·.1) ∧ RepL K ca H M (qs.map (·.2)) (kvs.map (·.2))
  | [], vs, qs, r, h => by
    cases h
    match vs, r with
    | [], _ => exact ⟨[], rfl, rfl, trivial⟩
  | (k, v) :: ps, vs, qs, r, h => by
    unfold keyPairs at h
    cases hk : keyOf k with
    | none => rw [hk] at h; cases h
    | some x =>
      rw [hk] at h
      cases hr : keyPairs ps with
      | none => rw [hr] at h; cases h
      | some rs =>
        rw [hr] at h
        cases h
        match vs, r with
        | (a, b) :: vs, r =>
          obtain ⟨kvs, e1, e2, e3⟩ := keyPairs_rep (ps := ps) (vs := vs) ⟨r.1.2, r.2.2⟩ hr
          have ea := key_rep r.1.1 hk
          refine ⟨(x, b) :: kvs, by rw [List.map_cons, ← e1]; show _ = (kV x, b) :: vs; rw [← show a = kV x from ea], by simp [e2], ⟨r.2.1, e3⟩⟩
theorem merge_rep {K : PySem.W.Frag} {ca : Nat → Addr} {H : Hp} {M : Cells} : ∀ {qs qs0 : List (Key × D)} {ks ks0 : List (Key × V)}, ks.map (·.1) = qs.map (·.1) → RepL K ca H M (qs.map (·.2)) (ks.map (·.2)) → ks0.map (·.1) = qs0.map (·.1) → RepL K ca H M (qs0.map (·.2)) (ks0.map (·.2)) →
    (mergeK ks0 ks).map (·.1) = (mergeG qs0 qs).map (·.1) ∧ RepL K ca H M ((mergeG qs0 qs).map (·.2)) ((mergeK ks0 ks).map (·.2))
  | [], _, [], _, _, _, e, r => ⟨e, r⟩
  | (x, d) :: qs, qs0, (y, v) :: ks, ks0, e1, r1, e2, r2 => by
    have hx : y = x := by simpa using (List.cons.inj e1).1
    subst hx
    obtain ⟨p1, p2⟩ := put_rep (K := K) (ca := ca) (H := H) (M := M) y e2 r2 r1.1
    exact merge_rep (qs := qs) (ks := ks) (List.cons.inj e1).2 r1.2 p1 p2
  | [], _, _ :: _, _, e, _, _, _ => by cases e
  | _ :: _, _, [], _, e, _, _, _ => by cases e
abbrev prs (K : PySem.W.Frag) (ca : Nat → Addr) (ms : List (ME × ME)) : List (TE × TE) := ms.map fun m => (tOf K ca noW m.1, tOf K ca noW m.2)
theorem qp_nil {X : Cx} {ca : Nat → Addr} {pos : Pos} : PPs X pos [] [] (prs X.K ca []) := pps_nil
theorem qp_cons {X : Cx} {ca : Nat → Addr} {pos : Pos} {k v : Expr} {ks : List (Option Expr)} {vs : List Expr} {mk mv : ME} {ms : List (ME × ME)} (hk : PE X k (tOf X.K ca noW mk)) (hv : PE X v (tOf X.K ca noW mv)) (hr : PPs X pos ks vs (prs X.K ca ms)) :
    PPs X pos (some k :: ks) (v :: vs) (prs X.K ca ((mk, mv) :: ms)) := pps_cons hk hv hr
section
variable {X : Cx} {ca : Nat → Addr} {W : WX}
theorem q_disp {keys : List (Option Expr)} {values : List Expr} {pos : Pos} (ms : List (ME × ME)) (h : PPs X pos keys values (prs X.K ca ms))
    (hall : keys.all (·.isSome) = true) (hl : keys.length = values.length) (h0 : keys ≠ []) (h15 : keys.length ≤ 15) : PE X (.Dict keys values pos) (tOf X.K ca W (mDisp ms)) :=
  weakE (pe_disp h hall hl h0 h15) fun σ H Q => by
    rintro ⟨ρ, M, S, re, rs, p⟩
    intro L hL
    unfold mDisp at p
    cases hp : mPairs ms ρ S with
    | err => rw [hp] at p; exact p.elim
    | ex c S1 =>
      exfalso
      have no : ∀ (ms : List (ME × ME)) (ρ : Env) (S S1 : Store) (c : Nat), mPairs ms ρ S ≠ .ex c S1 := by
        intro ms ρ
        induction ms with
        | nil => intro S S1 c h; cases h
        | cons m ms ih =>
          intro S S1 c h
          obtain ⟨k, v⟩ := m
          unfold mPairs at h
          cases hk : k ρ S with
          | err => rw [hk] at h; cases h
          | ex c S1 => rw [hk] at h; cases h
          | ok d S2 =>
            rw [hk] at h
            simp only [nox_ok, bind_ok] at h
            cases hv : v ρ S2 with
            | err => rw [hv] at h; cases h
            | ex c S1 => rw [hv] at h; cases h
            | ok d S3 =>
              rw [hv] at h
              simp only [nox_ok, bind_ok] at h
              cases hr : mPairs ms ρ S3 with
              | err => rw [hr] at h; cases h
              | ex c' S' => exact ih _ _ _ hr
              | ok d S4 => rw [hr] at h; cases h
      exact no _ _ _ _ _ hp
    | ok ps S1 =>
      rw [hp] at p
      simp only [bind_ok] at p
      split at p
      · next qs hq =>
        split at p
        · next h15 =>
          refine pairs_run ms hp (REnv.hide hL _ re) (rs.hide hL _) fun vs H2 M2 e2 rs2 rp => ?_
          have hM : M2.h = L :: M.h := e2.hid
          have inL : L ∈ M2.h := by rw [hM]; exact List.mem_cons_self
          have hL2 : H2 L = some (.dK []) := e2.fr L _ upd_same ((rs.hide hL (.dK [])).hid L (by exact List.mem_cons_self)).2
          obtain ⟨kvs, e3, e4, e5⟩ := keyPairs_rep rp hq
          have hlen : kvs.length = qs.length := by have := congrArg List.length e4; simpa using this
          refine ⟨hL2, kvs, e3, by omega, ?_⟩
          have E0 : Ext H M (upd H L (.dK [])) ((M.hide L).as M.h) := (Ext.refl H M).over hL _
          have E : Ext H M (upd H2 L (.dK (mergeK [] kvs))) (M2.as M.h) := (E0.trans (e2.as M.h)).over hL _
          obtain ⟨g1, g2⟩ := merge_rep (K := X.K) (ca := ca) (H := H2) (M := M2) (ks0 := []) (qs0 := []) e4 e5 rfl trivial
          obtain ⟨c1, c2, c3⟩ := cell_hid (mo := .dk (mergeG [] qs)) E hM rs (rs2.rehide inL (.dK (mergeK [] kvs))) hL fun M3 up => ⟨L, mergeK [] kvs, rfl, upd_same, g1, up _ _ (RepL.rehide inL _ _ _ g2)⟩
          exact p _ _ _ c1 c2 c3
        · exact p.elim
      · exact p.elim
end
/-! ### instances of own classes -/
/-- more facts, of exceptions -/
def excFacts (K : PySem.W.Frag) (x : Str) : Bool :=
  decide (PySem.W.findIn K (.ref (He.ga K x)) "__getattribute__" = some (some (.builtin "BaseException.__getattribute__"))) && (decide (PySem.W.findIn K (.ref (He.ga K x)) "__getattr__" = some none) && (decide (PySem.W.subIn K (.ref (He.ga K x)) (.type "BaseException") = some true) &&
    (PySem.W.hasDictIn K (He.ga K x) && (decide (PySem.W.findIn K (.ref (He.ga K x)) "__class__" = some (some (.builtin "object.__class__"))) && (decide (PySem.W.specialIn K (.builtin "object.__class__") "__get__" = some (some (.builtin "getset_descriptor.__get__"))) &&
    (decide (PySem.W.takesIn K (.builtin "object.__class__") = some true) && decide (PySem.W.mroIn K (He.ga K x) (.type "object") = some true)))))))
inductive Ga where
  | ins (x : Str) | kitT (T : String) (x : Str) (b : Bool) | kitC (x y : Str) (b : Bool) | kitB (x : Str) (T : String) (b : Bool) | excC (x : Str)
def Ga.ok (K : PySem.W.Frag) : Ga → Bool
  | .ins x => decide (PySem.W.findIn K (.ref (He.ga K x)) "__class__" = some (some (.builtin "object.__class__"))) && (decide (PySem.W.specialIn K (.builtin "object.__class__") "__get__" = some (some (.builtin "getset_descriptor.__get__"))) &&
    (decide (PySem.W.takesIn K (.builtin "object.__class__") = some true) && decide (PySem.W.mroIn K (He.ga K x) (.type "object") = some true)))
  | .kitT T x b => decide (PySem.W.kitOne K (.type T) (.ref (He.ga K x)) = some b)
  | .kitC x y b => decide (PySem.W.kitOne K (.ref (He.ga K x)) (.ref (He.ga K y)) = some b)
  | .kitB x T b => decide (PySem.W.kitOne K (.ref (He.ga K x)) (.type T) = some b)
  | .excC x => excFacts K x
/-- isinstance(d, C) for an instance of C, a text -/
noncomputable def oIsC (c : Nat) (S : Store) (d : D) : R D := match d with
  | .str _ => .ok (.bl false) S
  | _ => match objOf S d with
    | some (c', _, _) => if c' = c then .ok (.bl true) S else .err
    | none => .err
structure InsF (K : PySem.W.Frag) (C : Addr) : Prop where
  cl : Cls K C
  ha : PySem.W.findIn K (.ref C) "__class__" = some (some (.builtin "object.__class__"))
  hn : PySem.W.specialIn K (.builtin "object.__class__") "__get__" = some (some (.builtin "getset_descriptor.__get__"))
  htk : PySem.W.takesIn K (.builtin "object.__class__") = some true
  hm : PySem.W.mroIn K C (.type "object") = some true
  st : PySem.W.kitOne K (.type "str") (.ref C) = some false
theorem insF_of {K : PySem.W.Frag} {x : Str} (cl : Cls K (He.ga K x)) (h : (Ga.ins x).ok K = true) (h2 : (Ga.kitT "str" x false).ok K = true) : InsF K (He.ga K x) := by
  obtain ⟨a, h⟩ := He.ba h
  obtain ⟨b, h⟩ := He.ba h
  obtain ⟨c, d⟩ := He.ba h
  exact ⟨cl, of_decide_eq_true a, of_decide_eq_true b, of_decide_eq_true c, of_decide_eq_true d, of_decide_eq_true h2⟩
section
variable {X : Cx} {ca : Nat → Addr} {W : WX}
theorem q_isC {p p2 pos : Pos} {e : Expr} {y : Str} {c : Nat} {me : ME} (hg : Gl X "isinstance") (hm : X.mg "isinstance" = none) (F : InsF X.K (ca c)) (he : PE X e (tOf X.K ca W me)) (hy : PE X (.Name y p2) (tC (.ref (ca c))))
    (he1 : starEach [e, .Name y p2] X.env = (false, eval e X.env) :: starEach [.Name y p2] X.env := by rfl) (he2 : starEach [.Name y p2] X.env = (false, eval (.Name y p2) X.env) :: starEach [] X.env := by rfl)
    (hpl : (backTo pos (starEach [.Name y p2] X.env)).any (·.1) = false := by rfl) :
    PE X (.Call (.Name "isinstance" p) [e, .Name y p2] [] pos) (tOf X.K ca W (m1 (oIsC c) me)) :=
  weakE (pe_callB call_isi hg hm (by decide +kernel) (pa_cons he (pa_cons hy pa_nil he2) he1) (by decide) (by decide) he1 hpl) fun σ H Q => by
    rintro ⟨ρ, M, S, re, rs, q⟩
    refine ⟨ρ, M, S, re, rs, (post_bind q).mono ?_⟩
    rintro v H1 ⟨M1, S1, d, e1, rs1, r1, p1⟩
    unfold oIsC at p1
    split at p1
    · cases r1
      exact ⟨_, .ref (ca c), .type "str", .ref (ca c), false, rfl, .own _, .base (.str _), F.st, one_ok p1 rs1 rfl⟩
    · split at p1
      · next c' ns ds ho =>
        split at p1
        · next hc =>
          subst hc
          obtain ⟨a, dx, fs, rfl, h1, _, _⟩ := obj_rep rs1 r1 ho
          refine ⟨_, .ref (ca c'), .ref (ca c'), .ref (ca c'), true, rfl, .own _, .base (.ins h1 F.cl F.ha F.hn F.htk F.hm), ?_, one_ok p1 rs1 rfl⟩
          unfold PySem.W.kitOne
          rw [if_pos (by simp)]
        · exact p1.elim
      · exact p1.elim
end
/-! ### counts, numbers as texts -/
def eqS (k : Str) (v : Value) : Bool := match v with
  | .str n _ => n.cps.toList == k.cps.toList
  | _ => false
theorem eqS_gives {k : Str} {t : Tok} : ∀ {us : List Value} {ns : List Str}, Vals (ns.map V.str) us → ∀ y ∈ us, MeetsSeq.EqGives y (.str k t) (eqS k y)
  | [], _, _ => fun y hy => by cases hy
  | u :: us, n :: ns, h => fun y hy => by
    cases h with
    | cons h1 h2 =>
      rcases List.mem_cons.mp hy with e | e
      · rw [e]
        obtain ⟨t', rfl⟩ := h1
        exact PySem.SeqRoads2.EqGives.str n k t' t
      · exact eqS_gives h2 y e
  | _ :: _, [], h => by cases h
theorem eqS_count {k : Str} : ∀ {us : List Value} {ns : List Str}, Vals (ns.map V.str) us → us.countP (eqS k) = ns.count k
  | [], [], _ => rfl
  | u :: us, n :: ns, h => by
    cases h with
    | cons h1 h2 =>
      obtain ⟨t', rfl⟩ := h1
      rw [List.countP_cons, List.count_cons, eqS_count (k := k) h2]
      have : (eqS k (.str n t') = true) ↔ ((n == k) = true) := by
        show ((n.cps.toList == k.cps.toList) = true) ↔ _
        rw [beq_iff_eq, beq_iff_eq]
        constructor
        · intro e; cases n; cases k; simp at e; simp [e]
        · intro e; rw [e]
      by_cases q : (n == k) = true
      · simp [this.mpr q, q]
      · have e : eqS k (.str n t') = false := Bool.eq_false_iff.mpr fun z => q (this.mp z)
        simp [e, q]
  | [], _ :: _, h => by cases h
  | _ :: _, [], h => by cases h
def rCntS (K : PySem.W.Frag) : V → List V → Hp → VK → Prop := fun x xs H Q => ∃ (p : Addr) (ns : List Str) (k : Str), x = .ref p ∧ xs = [.str k] ∧ SqL K H p (ns.map V.str) ∧ Q (.int (ns.count k : Nat)) H
section
variable {X : Cx} {ca : Nat → Addr}
theorem mt_scount : MtR X "list.count" (rCntS X.K) := by
  intro pins s σ H x xs v us Q I rx rxs h
  obtain ⟨p, ns, k, rfl, rfl, hs, q⟩ := h
  cases rx
  obtain ⟨u, rfl, ru⟩ := rxs.one
  obtain ⟨t, rfl⟩ := ru
  obtain ⟨its, rv, ⟨⟨cls, dd, data, sl⟩, n, ho, hc, hdn, hd⟩, hlen⟩ := I.list hs
  simp only at hc hd
  subst hc hd
  refine call_meets PySem.F.slot_list_count ⟨_, ho, rfl⟩ PySem.F.entry_list_count (PySem.F.args_list_count_2 _ _)
    (SeqAt.list_countAt p its.toArray n dd sl (.str k t) (eqS k)) ⟨ho, fun y hy => (eqS_gives rv y (by simpa using hy)).at _ _, ?_⟩
  have ec : its.toArray.toList.countP (eqS k) = ns.count k := eqS_count rv
  exact ⟨.int (ns.count k : Nat), H, I.tok _, ⟨s.toks, by rw [ec]⟩, q⟩
def oCount (S : Store) (d : D) (es : List D) : R D := match es with
  | [.str k] => match (seqL S d).bind strsOf with
    | some ys => .ok (.int (ys.count k : Nat)) S
    | none => .err
  | _ => .err
theorem s_count {K : PySem.W.Frag} : SoundM K ca (rCntS K) oCount := by
  intro H M S x xs d ds Q W rs rx rxs p
  unfold oCount at p
  split at p
  · next k =>
    split at p
    · next ys hy =>
      obtain ⟨es, h1, h2⟩ := Option.bind_eq_some_iff.mp hy
      obtain ⟨a, us, rfl, sq, rl, _⟩ := seq_rep rs rx h1
      have e := strs_rep rl h2
      subst e
      obtain ⟨v, rfl, rv⟩ := rxs.inv1
      cases rv
      exact ⟨a, ys, k, rfl, rfl, sq, one_ok p rs rfl⟩
    · exact p.elim
  · exact p.elim
def oStr (S : Store) (ds : List D) : R D := match ds with
  | [.int i] => if i.natAbs.log2 < 1920 then .ok (.str (toString i : String)) S else .err
  | _ => .err
theorem s_str {K : PySem.W.Frag} : SoundN K ca (fun xs H Q => ∃ i : Int, xs = [.int i] ∧ i.natAbs.log2 < 1920 ∧ Q (.str (toString i : String)) H) oStr := by
  intro H M S xs ds Q W rs rl p
  unfold oStr at p
  split at p
  · next i =>
    obtain ⟨v, rfl, rv⟩ := rl.inv1
    cases rv
    split at p
    · next h => exact ⟨i, rfl, h, one_ok p rs rfl⟩
    · exact p.elim
  · exact p.elim
end
end Sm
namespace Sm
open PySem PySem.Spec PyProof.Rows L2
open Classical
/-! ### more facts of a program -/
abbrev gxOf (ga : List Ga) : PySem.W.Frag → Bool := fun K => ga.all fun g => g.ok K
theorem Lk.gf {P : Program} {w : World} {K : PySem.W.Frag} {mg : Str → Option Value} {base : Heap} {sg : List (Nat × Str × List Str)} {mts : List (Nat × Nat × Str × List Str)} {mks : List (Nat × Str × Nat × List Str × List D)} {fa : List He.Fa} {ga : List Ga} {n : Nat} {C I : Orc}
    (Z : Lk P w K mg base sg mts mks fa (gxOf ga) n C I) (j : Nat) (g : Ga) (h : ga[j]? = some g) : g.ok K = true := List.all_eq_true.mp Z.gx_ g (List.mem_of_getElem? h)
theorem Lk.inF {P : Program} {w : World} {K : PySem.W.Frag} {mg : Str → Option Value} {base : Heap} {sg : List (Nat × Str × List Str)} {mts : List (Nat × Nat × Str × List Str)} {mks : List (Nat × Str × Nat × List Str × List D)} {fa : List He.Fa} {ga : List Ga} {n : Nat} {C I : Orc}
    (Z : Lk P w K mg base sg mts mks fa (gxOf ga) n C I) (j i1 i2 c : Nat) (h : fa[j]? = some (.cls (cn c))) (h1 : ga[i1]? = some (.ins (cn c))) (h2 : ga[i2]? = some (.kitT "str" (cn c) false)) : InsF K (caK K c) := insF_of (Z.cl j c h) (Z.gf i1 _ h1) (Z.gf i2 _ h2)
abbrev AlX : Type := He.AlD × Bool
def obX (n : Nat) (fa : List He.Fa) (fns : List He.DefD) (ga : List Ga) (g : Addr → Option Obj) : AlX := (He.obsDG n fa fns g, gxOf ga (He.frG g (He.asD g n)))
def hookX (n : Nat) (fa : List He.Fa) (fns : List He.DefD) (ga : List Ga) : PySem.W.Hook where
  α := AlX
  obs := fun s => obX n fa fns ga s.heap.get?
  val := fun _ => (He.valD fns, true)
  says := fun _ h => ∃ K : PySem.W.Frag, K.In h ∧ He.SaysD fa fns K ∧ gxOf ga K = true
  of := fun _ _ e => ⟨_, He.frG_in, congrArg Prod.fst e, congrArg Prod.snd e⟩
  keeps := fun _ _ _ ⟨K, hK, c, y⟩ k => ⟨K, PySem.W.Frag.In.keeps hK k, c, y⟩
theorem obX_eq {n : Nat} {fa : List He.Fa} {fns : List He.DefD} {ga : List Ga} {g : Addr → Option Obj} {s : Shared} (h : ∀ a, g a = s.heap.get? a) : obX n fa fns ga g = (hookX n fa fns ga).obs s := by
  have e : g = s.heap.get? := funext h
  rw [e]; rfl
end Sm
/-! S12: dicts compared -/
namespace Sm
open PySem PySem.Spec PyProof.Rows L2
open Classical
def eqSc : V → V → Option Bool
  | .str x, .str y => some (decide (x = y))
  | .int i, .int j => some (decide (i = j))
  | _, _ => none
def hitsV (ls : List (Key × V)) : List (Key × V) → Option Bool
  | [] => some true
  | p :: r => match valV ls p.1 with
    | none => some false
    | some v => match eqSc p.2 v, hitsV ls r with
      | some e, some b => some (e && b)
      | _, _ => none
theorem eqSc_at {A : Around} {s : Shared} {x y : V} {v u : Value} {b : Bool} (rx : RelV x v) (ry : RelV y u) (h : eqSc x y = some b) : SeqAt.EqAt A s v u b := by
  unfold eqSc at h
  split at h
  · next i j =>
    cases h
    obtain ⟨t, rfl⟩ := rx
    obtain ⟨t', rfl⟩ := ry
    have e : (i.cps.toList == j.cps.toList) = decide (i = j) := by
      by_cases q : i = j
      · subst q; simp
      · have : ¬ i.cps = j.cps := fun z => q (by cases i; cases j; simp at z; simp [z])
        simp [q, this]
    rw [← e]
    exact (PySem.SeqRoads2.EqGives.str i j t t').at A s
  · next i j =>
    cases h
    obtain ⟨t, rfl⟩ := rx
    obtain ⟨t', rfl⟩ := ry
    have e : (i == j) = decide (i = j) := by by_cases q : i = j <;> simp [q]
    rw [← e]
    exact (MeetsSeq.EqGives.int i j t t').at A s
  · cases h
theorem hits_gen {A : Around} {s : Shared} {kvs : List (Key × V)} {vb : List (Key × Value)} (rb : KV kvs vb) : ∀ {ks : List (Key × V)} {va : List (Key × Value)} {r : Bool}, KV ks va → hitsV kvs ks = some r → PySem.W.KeqHits A s vb va r
  | [], [], r, _, h => by cases h; exact .nil
  | p :: ps, q :: qs, r, ra, h => by
    obtain ⟨k, v⟩ := q
    cases ra with
    | cons h1 h2 =>
      obtain ⟨hk, hv⟩ := h1
      have hk : p.1 = k := hk
      unfold hitsV at h
      have rr := rb.val p.1
      split at h
      · next e =>
        cases h
        rw [e] at rr
        have : valueAt vb k = none := by
          rw [← hk]
          cases q : valueAt vb p.1 with
          | none => rfl
          | some z => rw [q] at rr; exact rr.elim
        exact .miss this
      · next w e =>
        split at h
        · next e1 b1 he hb =>
          cases h
          rw [e] at rr
          obtain ⟨y, hy, ry⟩ := rr.some_of
          rw [hk] at hy
          exact .hit hy (eqSc_at hv ry he) (hits_gen rb h2 hb)
        · cases h
  | [], _ :: _, _, ra, _ => by cases ra
  | _ :: _, [], _, ra, _ => by cases ra
abbrev rEqDG (neg : Bool) : R2 := fun x y H Q => ∃ a b ks ls r, x = .ref a ∧ y = .ref b ∧ H a = some (.dK ks) ∧ H b = some (.dK ls) ∧ (ks.length = ls.length → hitsV ls ks = some r) ∧ Q (.bl (if neg then !((ks.length == ls.length) && r) else (ks.length == ls.length) && r)) H
section
variable {X : Cx}
theorem op_eq_dictG (hu : X.A.units < cLine) : OpR X (compareOp .Eq) (rEqDG false) := by
  intro pins s σ H x y v u Q I rx ry h
  obtain ⟨a, b, ks, ls, r, rfl, rfl, ea, eb, hp, q⟩ := h
  cases rx; cases ry
  obtain ⟨_, ya, va, ra, da⟩ := (show ObjOk X.prog X.w H s.heap a (.dK ks) from I.hok a _ ea)
  obtain ⟨_, yb, vb, rb, db⟩ := (show ObjOk X.prog X.w H s.heap b (.dK ls) from I.hok b _ eb)
  have l1 := ra.length; have l2 := rb.length
  exact PySem.W.keq_eq (knd := mixKind X.prog X.w) (r := r) ya yb da db hu (fun e => hits_gen rb ra (hp (by rw [l1, l2]; exact e))) (fin_bl I q (by rw [← l1, ← l2]; rfl))
theorem op_ne_dictG (hu : X.A.units < cLine) : OpR X (compareOp .NotEq) (rEqDG true) := by
  intro pins s σ H x y v u Q I rx ry h
  obtain ⟨a, b, ks, ls, r, rfl, rfl, ea, eb, hp, q⟩ := h
  cases rx; cases ry
  obtain ⟨_, ya, va, ra, da⟩ := (show ObjOk X.prog X.w H s.heap a (.dK ks) from I.hok a _ ea)
  obtain ⟨_, yb, vb, rb, db⟩ := (show ObjOk X.prog X.w H s.heap b (.dK ls) from I.hok b _ eb)
  have l1 := ra.length; have l2 := rb.length
  exact PySem.W.keq_ne (knd := mixKind X.prog X.w) (r := r) ya yb da db hu (fun e => hits_gen rb ra (hp (by rw [l1, l2]; exact e))) (fin_bl I q (by rw [← l1, ← l2]; rfl))
end
def eqScD : D → D → Option Bool
  | .str x, .str y => some (decide (x = y))
  | .int i, .int j => some (decide (i = j))
  | _, _ => none
def hitsD (ls : List (Key × D)) : List (Key × D) → Option Bool
  | [] => some true
  | p :: r => match valK ls p.1 with
    | none => some false
    | some v => match eqScD p.2 v, hitsD ls r with
      | some e, some b => some (e && b)
      | _, _ => none
def dkOf (S : Store) (d : D) : Option (List (Key × D)) := match d with
  | .cell n => match S[n]? with
    | some (.dk ks) => some ks
    | _ => none
  | _ => none
def dEq (S : Store) (d e : D) : Option Bool := match dkOf S d, dkOf S e with
  | some ks, some ls => if ks.length = ls.length then hitsD ls ks else some false
  | _, _ => none
def oEqX (S : Store) (d e : D) : R D := match dEq S d e with
  | some b => .ok (.bl b) S
  | none => oEq S d e
def oNeX (S : Store) (d e : D) : R D := match dEq S d e with
  | some b => .ok (.bl (!b)) S
  | none => oNe S d e
section
variable {K : PySem.W.Frag} {ca : Nat → Addr} {H : Hp} {M : Cells} {S : Store}
theorem dkOf_rep (rs : RelS K ca H M S) {d : D} {v : V} {ks : List (Key × D)} (r : Rep K ca H M d v) (h : dkOf S d = some ks) : ∃ a ys, v = .ref a ∧ H a = some (.dK ys) ∧ ys.map (·.1) = ks.map (·.1) ∧ RepL K ca H M (ks.map (·.2)) (ys.map (·.2)) := by
  unfold dkOf at h
  split at h
  · next n =>
    split at h
    · next ks' hS =>
      cases h
      obtain ⟨z, hz, a, ys, e1, h1, h2, h3⟩ := rs.cells _ _ hS
      obtain ⟨z', hz', hv⟩ := r
      rw [hz] at hz'; cases hz'
      exact ⟨a, ys, hv a e1, h1, h2, h3⟩
    · cases h
  · cases h
theorem eqSc_rep {d e : D} {x y : V} {b : Bool} (rx : Rep K ca H M d x) (ry : Rep K ca H M e y) (h : eqScD d e = some b) : eqSc x y = some b := by
  unfold eqScD at h
  split at h
  · cases rx; cases ry; exact h
  · cases rx; cases ry; exact h
  · cases h
theorem hits_rep {ls : List (Key × D)} {lv : List (Key × V)} (e : lv.map (·.1) = ls.map (·.1)) (rl : RepL K ca H M (ls.map (·.2)) (lv.map (·.2))) : ∀ {ks : List (Key × D)} {kv : List (Key × V)} {b : Bool}, kv.map (·.1) = ks.map (·.1) → RepL K ca H M (ks.map (·.2)) (kv.map (·.2)) → hitsD ls ks = some b → hitsV lv kv = some b
  | [], [], b, _, _, h => h
  | (k, d) :: ks, (k2, v) :: kv, b, ek, rk, h => by
    have hk : k2 = k := by simpa using (List.cons.inj ek).1
    subst hk
    unfold hitsD at h
    unfold hitsV
    have o := orep_of (K := K) (ca := ca) (H := H) (M := M) k2 e rl
    split at h
    · next hn =>
      have hn : valK ls k2 = none := hn
      rw [hn] at o
      have o : valV lv k2 = none := o
      simp only [o]; exact h
    · next w hw =>
      have hw : valK ls k2 = some w := hw
      rw [hw] at o
      obtain ⟨z, hz, rz⟩ := o
      simp only [hz]
      split at h
      · next e1 b1 he hb =>
        have := eqSc_rep rk.1 rz he
        simp only [this, hits_rep e rl (List.cons.inj ek).2 rk.2 hb]
        exact h
      · cases h
  | [], _ :: _, _, ek, _, _ => by cases ek
  | _ :: _, [], _, ek, _, _ => by cases ek
theorem dEq_rep (rs : RelS K ca H M S) {d e : D} {x y : V} {b : Bool} (rx : Rep K ca H M d x) (ry : Rep K ca H M e y) (h : dEq S d e = some b) :
    ∃ a a2 ks ls r, x = .ref a ∧ y = .ref a2 ∧ H a = some (.dK ks) ∧ H a2 = some (.dK ls) ∧ (ks.length = ls.length → hitsV ls ks = some r) ∧ ((ks.length == ls.length) && r) = b := by
  unfold dEq at h
  split at h
  · next ks ls h1 h2 =>
    obtain ⟨a, ys, rfl, p1, p2, p3⟩ := dkOf_rep rs rx h1
    obtain ⟨a2, zs, rfl, q1, q2, q3⟩ := dkOf_rep rs ry h2
    have l1 : ys.length = ks.length := by simpa using congrArg List.length p2
    have l2 : zs.length = ls.length := by simpa using congrArg List.length q2
    split at h
    · next hl => exact ⟨a, a2, ys, zs, b, rfl, rfl, p1, q1, fun _ => hits_rep q2 q3 p2 p3 h, by simp [l1, l2, hl]⟩
    · next hl =>
      cases h
      exact ⟨a, a2, ys, zs, false, rfl, rfl, p1, q1, fun z => absurd (by omega) hl, by simp⟩
  · cases h
end
section
variable {X : Cx} {ca : Nat → Addr}
theorem or_eqX (hu : X.A.units + 64 < cLine) : OpR X (compareOp .Eq) (fun x y H Q => rEqDG false x y H Q ∨ rEqA X.K x y H Q) := (op_eq_dictG (by omega)).or (or_eq hu)
theorem or_neX (hu : X.A.units + 64 < cLine) : OpR X (compareOp .NotEq) (fun x y H Q => rEqDG true x y H Q ∨ rNeA X.K x y H Q) := (op_ne_dictG (by omega)).or (or_ne hu)
theorem s_eqX {K : PySem.W.Frag} : Sound2 K ca (fun x y H Q => rEqDG false x y H Q ∨ rEqA K x y H Q) oEqX := by
  intro H M S x y d e Q W rs rx ry p
  unfold oEqX at p
  split at p
  · next b hb =>
    obtain ⟨a, a2, ks, ls, r, h1, h2, h3, h4, h5, h6⟩ := dEq_rep rs rx ry hb
    exact .inl ⟨a, a2, ks, ls, r, h1, h2, h3, h4, h5, one_ok p rs (by rw [h6]; rfl)⟩
  · exact .inr (s_eq H M S x y d e Q W rs rx ry p)
theorem s_neX {K : PySem.W.Frag} : Sound2 K ca (fun x y H Q => rEqDG true x y H Q ∨ rNeA K x y H Q) oNeX := by
  intro H M S x y d e Q W rs rx ry p
  unfold oNeX at p
  split at p
  · next b hb =>
    obtain ⟨a, a2, ks, ls, r, h1, h2, h3, h4, h5, h6⟩ := dEq_rep rs rx ry hb
    exact .inl ⟨a, a2, ks, ls, r, h1, h2, h3, h4, h5, one_ok p rs (by rw [h6]; rfl)⟩
  · exact .inr (s_ne H M S x y d e Q W rs rx ry p)
end
end Sm
/-! S13: try, with one clause that gives the exception a name -/
namespace Sm
open PySem PySem.Spec PyProof.Rows L2
open Classical
/-! ### questions about the caught exception: slot i holds it, at a -/
def tE (i : Nat) (a : Addr) (b : Bool) : TT := fun σ H Q => σ[i]? = some (some (.ref a)) ∧ Q b H
def tEe (i : Nat) (a : Addr) (b : Bool) : TE := fun σ H Q => σ[i]? = some (some (.ref a)) ∧ Q (.bl b) H
theorem excC_of {K : PySem.W.Frag} {x : Str} (h : excFacts K x = true) : ExcC K (He.ga K x) := by
  obtain ⟨a, h⟩ := He.ba h
  obtain ⟨b, h⟩ := He.ba h
  obtain ⟨c, h⟩ := He.ba h
  obtain ⟨d, h⟩ := He.ba h
  obtain ⟨e, h⟩ := He.ba h
  obtain ⟨f, h⟩ := He.ba h
  obtain ⟨g, k⟩ := He.ba h
  exact ⟨of_decide_eq_true a, of_decide_eq_true b, of_decide_eq_true c, d, of_decide_eq_true e, of_decide_eq_true f, of_decide_eq_true g, of_decide_eq_true k⟩
section
variable {X : Cx} {a : Addr} {oe : Obj} {pn : List (Addr × Obj)} {i : Nat}
/-- isinstance(e, y), e the caught exception of class D -/
theorem qe_is {D : Addr} {p p1 p2 pos : Pos} {n y : Str} {cv : V} {u : Value} {b : Bool} (C : ExcC X.K D) (hz : Zc (.ref D) none oe) (hf : ∃ vs, oe.data = .fields vs) (hg : Gl X "isinstance") (hm : X.mg "isinstance" = none)
    (hn : PE (X.suite a ((a, oe) :: pn)) (.Name n p1) (tVar i)) (hy : PE (X.suite a ((a, oe) :: pn)) (.Name y p2) (tC cv)) (hu : ∀ w, RelV cv w → w = u) (hk : PySem.W.kitOne X.K (.ref D) u = some b)
    (he1 : starEach [.Name n p1, .Name y p2] X.env = (false, eval (.Name n p1) X.env) :: starEach [.Name y p2] X.env := by rfl) (he2 : starEach [.Name y p2] X.env = (false, eval (.Name y p2) X.env) :: starEach [] X.env := by rfl)
    (hpl : (backTo pos (starEach [.Name y p2] X.env)).any (·.1) = false := by rfl) :
    PE (X.suite a ((a, oe) :: pn)) (.Call (.Name "isinstance" p) [.Name n p1, .Name y p2] [] pos) (tEe i a b) :=
  weakE (pe_callB (X := X.suite a ((a, oe) :: pn)) (call_isE C hz hf) hg hm (by decide +kernel) (pa_cons hn (pa_cons hy pa_nil he2) he1) (by decide) (by decide) he1 hpl) fun σ H Q => by
    rintro ⟨h1, h2⟩
    exact ⟨.ref a, h1, cv, u, b, rfl, hu, hk, h2⟩
theorem qe_pt {X : Cx} {e : Expr} {b : Bool} (h : PE X e (tEe i a b)) (he : ∀ whole, isTrue e X.env whole = (do let v ← whole; standAt e.pos; holding [v] (truthy v)) := by intro _; rfl) : PT X e (tE i a b) :=
  weakT (pt_val h he) fun σ H Q q => ⟨q.1, b, rfl, q.2⟩
theorem qe_not {X : Cx} {e : Expr} {pos : Pos} {b : Bool} (h : PT X e (tE i a b)) : PT X (.UnaryOp .Not e pos) (tE i a (!b)) := weakT (pt_not h) fun σ H Q q => q
theorem qe_and1 {X : Cx} {e : Expr} {pos : Pos} {b : Bool} (h : PT X e (tE i a b)) : PW X (.BoolOp .And [e] pos) (tE i a b) := pw_and1 h
theorem qe_and {X : Cx} {e f : Expr} {rest : List Expr} {pos : Pos} {b c : Bool} (h : PT X e (tE i a b)) (h2 : PW X (.BoolOp .And (f :: rest) pos) (tE i a c)) : PW X (.BoolOp .And (e :: f :: rest) pos) (tE i a (b && c)) :=
  weakW (pw_and h h2) fun σ H Q q => by
    cases b with
    | true => exact ⟨q.1, q⟩
    | false => exact ⟨q.1, q.2⟩
theorem qe_one {X : Cx} {e : Expr} {pos : Pos} {b : Bool} (h : PE X e (tEe i a b)) : PE X (.BoolOp .And [e] pos) (tEe i a b) := pe_one h
theorem qe_andE {X : Cx} {e f : Expr} {rest : List Expr} {pos : Pos} {b c : Bool} (h : PE X e (tEe i a b)) (h2 : PE X (.BoolOp .And (f :: rest) pos) (tEe i a c)) : PE X (.BoolOp .And (e :: f :: rest) pos) (tEe i a (b && c)) :=
  weakE (pe_and h h2) fun σ H Q q => by
    cases b with
    | true => exact ⟨q.1, true, rfl, q⟩
    | false => exact ⟨q.1, false, rfl, q.2⟩
/-- a suite: what it does, while slot i holds the exception -/
def tSE (K : PySem.W.Frag) (ca : Nat → Addr) (i : Nat) (a : Addr) (m : MS) : TS := fun De σ H => σ[i]? = some (some (.ref a)) ∧ tSOf K ca (fun _ _ _ => False) m De σ H
theorem qe_if {X : Cx} {ca : Nat → Addr} {c : Expr} {as : List Stmt} {pos : Pos} {b : Bool} {m : MS} (hc : PT X c (tE i a b)) (ha : PSs X as (tSOf X.K ca (fun _ _ _ => False) m)) : PSs X [.If c as [] pos] (tSE X.K ca i a (if b then m else sNil)) :=
  weakSs (pss_one (ps_if hc ha (qs_nil (X := X) (ca := ca) (W := fun _ _ _ => False)))) fun De σ H q => by
    obtain ⟨h1, h2⟩ := q
    cases b with
    | true => exact ⟨h1, h2⟩
    | false => exact ⟨h1, h2⟩
theorem qe_ret {X : Cx} {ca : Nat → Addr} {e : Expr} {pos : Pos} {b : Bool} (he : PE X e (tEe i a b)) : PSs X [.Return (some e) pos] (tSE X.K ca i a (sRet (mC (.bl b)))) :=
  weakSs (pss_one (ps_ret he)) fun De σ H q => by
    obtain ⟨h1, ρ, M, S, re, rs, p⟩ := q
    exact ⟨h1, p (.bl b) M H (Ext.refl _ _) rs rfl⟩
end
/-! ### try: .. except C as e: suite -/
theorem REnv.setAny {K : PySem.W.Frag} {ca : Nat → Addr} {H : Hp} {M : Cells} : ∀ {r : Env} {s : L2.St} (i : Nat) (x : Option V), REnv K ca H M r s → REnv K ca H M (r.set i none) (s.set i x)
  | [], [], _, _, h => h
  | none :: r, _ :: s, 0, _, h => h
  | some _ :: r, some _ :: s, 0, _, h => h.2
  | none :: r, _ :: s, i + 1, x, h => REnv.setAny (r := r) (s := s) i x h
  | some _ :: r, some _ :: s, i + 1, x, h => ⟨h.1, REnv.setAny (r := r) (s := s) i x h.2⟩
  | [], _ :: _, _, _, h => h.elim
  | some _ :: _, none :: _, _, _, h => h.elim
  | none :: _, [], _, _, h => h.elim
  | some _ :: _, [], _, _, h => h.elim
/-- the name is gone behind the suite -/
def gone (i : Nat) : R Fl → R Fl
  | .ok (.nx r) S => .ok (.nx (r.set i none)) S
  | .ok (.rt d) S => .ok (.rt d) S
  | _ => .err
/-- ret: is the body's value handed back -/
def sTry (ret : Bool) (e : ME) (cls : List Nat) (h i : Nat) (suite : MS) : MS := fun ρ S => match e ρ S with
  | .ok d S1 => if ret then .ok (.rt d) S1 else .ok (.nx ρ) S1
  | .ex c S1 => if c ∈ cls then (if c = h then (if i < ρ.length then gone i (suite (ρ.set i none) S1) else .err) else .ex c S1) else .err
  | .err => .err
section
variable {X : Cx} {ca : Nat → Addr} {W : XW} {x n : Str} {i h : Nat} {cls : List Nat} {suite : List Stmt} {b₀ : Stmt} {np p1 pos pos' : Pos} {e : Expr} {m : ME} {ms : MS}
theorem try_core {ret : Bool} {σ : L2.St} {H : Hp} {D : Ends} (hx : ∀ c ∈ cls, PySem.W.exmOne X.K (.ref (ca c)) (.ref (ca h)) = some (decide (c = h))) :
    tSOf X.K ca W (sTry ret m cls h i ms) D σ H → tOf X.K ca (wAs X.K (.ref (ca h)) i (fun a cl d De σ H => cl = .ref (ca h) ∧ d = none ∧ tSE X.K ca i a ms De σ H) (wx W) D) m σ H (fun v H' => if ret then D.rt v H' else D.nx σ H') := by
  rintro ⟨ρ, M, S, re, rs, p⟩
  refine ⟨ρ, M, S, re, rs, ?_⟩
  unfold sTry at p
  cases q : m ρ S with
  | err => rw [q] at p; exact p
  | ok d S1 =>
    rw [q] at p
    intro v M' H' e rs' rv
    cases ret with
    | true => exact p v M' H' e rs' rv
    | false => exact p σ M' H' e rs' (re.ext e)
  | ex c S1 =>
    rw [q] at p
    intro M' H' e rs'
    have p : PostS X.K ca H M D W (if c ∈ cls then (if c = h then (if i < ρ.length then gone i (ms (ρ.set i none) S1) else .err) else .ex c S1) else .err) := p
    split at p
    · next hc =>
      refine ⟨decide (c = h), hx c hc, fun hb a ha => ?_, fun hb => ?_⟩
      · have hb : c = h := of_decide_eq_true hb
        rw [if_pos hb] at p
        split at p
        · next hi =>
          have hl : i < σ.length := by rw [← re.length]; exact hi
          refine ⟨by rw [hb], rfl, by rw [List.getElem?_set_self hl], ρ.set i none, M', S1, REnv.setAny i _ (re.ext e), rs', ?_⟩
          have p2 := p.up e
          cases q2 : ms (ρ.set i none) S1 with
          | err => rw [q2] at p2; exact p2.elim
          | ex c S' => rw [q2] at p2; exact p2.elim
          | ok f S2 =>
            rw [q2] at p2
            cases f with
            | nx r => exact fun σ' M2 H2 e2 rs2 re2 => p2 _ M2 H2 e2 rs2 (REnv.setAny i none re2)
            | rt d => exact p2
            | bk r => exact p2.elim
            | ct r => exact p2.elim
        · exact p.elim
      · have hb : ¬ c = h := of_decide_eq_false hb
        rw [if_neg hb] at p
        exact p M' H' e rs'
    · exact p.elim
theorem suite_in {a : Addr} {oe : Obj} {cl : Value} {d : Option Addr} {pn : List (Addr × Obj)} (hz : Zc cl d oe) (hf : ∃ vs, oe.data = .fields vs)
    (hsu : ∀ (oe : Obj) (pn : List (Addr × Obj)), Zc (.ref (ca h)) none oe → (∃ vs, oe.data = .fields vs) → PSs (X.suite a ((a, oe) :: pn)) (b₀ :: suite) (tSE X.K ca i a ms)) :
    PSs (X.suite a ((a, oe) :: pn)) (b₀ :: suite) (fun De σ H => cl = .ref (ca h) ∧ d = none ∧ tSE X.K ca i a ms De σ H) := by
  refine ⟨fun pins s σ H De I q => ?_⟩
  obtain ⟨rfl, rfl, q⟩ := q
  exact (hsu oe pn hz hf).run pins s σ H De I q
theorem qs_tryR (hs : X.stack = X.env :: X.outer) (hf : X.env.frame = some X.env.locals) (hN : X.N.Nodup) (hi : X.N[i]? = some n) (hln : X.env.kindOf n = some .local) (hc : Names X x (.ref (ca h))) (tk : Takes X (wx W))
    (hx : ∀ c ∈ cls, PySem.W.exmOne X.K (.ref (ca c)) (.ref (ca h)) = some (decide (c = h)))
    (hb : ∀ (W' : WX) (pn : List (Addr × Obj)) (xe : Value → Shared → Prop), Takes (X.tr pn xe) W' → PE (X.tr pn xe) e (tOf X.K ca W' m))
    (hsu : ∀ (a : Addr) (oe : Obj) (pn : List (Addr × Obj)), Zc (.ref (ca h)) none oe → (∃ vs, oe.data = .fields vs) → PSs (X.suite a ((a, oe) :: pn)) (b₀ :: suite) (tSE X.K ca i a ms)) :
    PS X (.Try [.Return (some e) p1] [.ExceptHandler (some (.Name x np)) (some n) (b₀ :: suite) pos'] [] [] pos) (tSOf X.K ca W (sTry true m cls h i ms)) :=
  weakS (ps_try_as (i := i) (tb := fun W' D σ H => tOf X.K ca W' m σ H D.rt) hs hf hN hi hln hc tk (fun W' pn xe tk' _ => pss_one (ps_ret (hb W' pn xe tk'))) (fun a oe cl d pn hz hf => suite_in hz hf (hsu a))) fun D σ H q => by
    exact try_core (ret := true) hx q
theorem qs_tryE (hs : X.stack = X.env :: X.outer) (hf : X.env.frame = some X.env.locals) (hN : X.N.Nodup) (hi : X.N[i]? = some n) (hln : X.env.kindOf n = some .local) (hc : Names X x (.ref (ca h))) (tk : Takes X (wx W))
    (hx : ∀ c ∈ cls, PySem.W.exmOne X.K (.ref (ca c)) (.ref (ca h)) = some (decide (c = h)))
    (hb : ∀ (W' : WX) (pn : List (Addr × Obj)) (xe : Value → Shared → Prop), Takes (X.tr pn xe) W' → PE (X.tr pn xe) e (tOf X.K ca W' m))
    (hsu : ∀ (a : Addr) (oe : Obj) (pn : List (Addr × Obj)), Zc (.ref (ca h)) none oe → (∃ vs, oe.data = .fields vs) → PSs (X.suite a ((a, oe) :: pn)) (b₀ :: suite) (tSE X.K ca i a ms))
    (hsw : swapsWith e none p1.line X.env = pure false := by rfl) :
    PS X (.Try [.Expr e p1] [.ExceptHandler (some (.Name x np)) (some n) (b₀ :: suite) pos'] [] [] pos) (tSOf X.K ca W (sTry false m cls h i ms)) :=
  weakS (ps_try_as (i := i) (tb := fun W' D σ H => tOf X.K ca W' m σ H (fun _ H' => D.nx σ H')) hs hf hN hi hln hc tk (fun W' pn xe tk' _ => pss_one (ps_expr (hb W' pn xe tk') hsw)) (fun a oe cl d pn hz hf => suite_in hz hf (hsu a))) fun D σ H q => by
    exact try_core (ret := false) hx q
end
end Sm
/-! S14: dicts walked by keys; lists of pairs walked; reversed; list(range), sorted, min, dict -/
namespace Sm
open PySem PySem.Spec PyProof.Rows L2
open Classical
section
variable {X : Cx} {ca : Nat → Addr} {W : WX}
/-! ### a list of pairs, each unpacked -/
def pairOf : D → Option (List D)
  | .tup [a, b] => some [a, b]
  | _ => none
def pairsD : List D → Option (List (List D))
  | [] => some []
  | d :: ds => match pairOf d, pairsD ds with
    | some p, some ps => some (p :: ps)
    | _, _ => none
def items2 : List D → Store → Option (List (List D))
  | [d], S => (seqL S d).bind pairsD
  | _, _ => none
theorem pairOf_inv {d : D} {p : List D} (h : pairOf d = some p) : ∃ a b, d = .tup [a, b] ∧ p = [a, b] := by
  unfold pairOf at h
  split at h
  · next a b => cases h; exact ⟨a, b, rfl, rfl⟩
  · cases h
theorem pairsD_cons {d : D} {ds : List D} {its : List (List D)} (h : pairsD (d :: ds) = some its) : ∃ p ps, pairOf d = some p ∧ pairsD ds = some ps ∧ its = p :: ps := by
  unfold pairsD at h
  split at h
  · next p ps h1 h2 => cases h; exact ⟨p, ps, h1, h2, rfl⟩
  · cases h
theorem pairsD_len : ∀ {ds : List D} {its : List (List D)}, pairsD ds = some its → its.length = ds.length
  | [], its, h => by cases h; rfl
  | d :: ds, its, h => by
    obtain ⟨p, ps, _, h2, rfl⟩ := pairsD_cons h
    exact congrArg Nat.succ (pairsD_len h2)
theorem pairsD_get : ∀ {ds : List D} {its : List (List D)} {i : Nat} {item : List D}, pairsD ds = some its → its[i]? = some item → ∃ a b, ds[i]? = some (.tup [a, b]) ∧ item = [a, b]
  | [], its, i, item, h, e => by cases h; simp at e
  | d :: ds, its, i, item, h, e => by
    obtain ⟨p, ps, h1, h2, rfl⟩ := pairsD_cons h
    cases i with
    | zero =>
      obtain ⟨a, b, rfl, rfl⟩ := pairOf_inv h1
      simp at e; exact ⟨a, b, rfl, e.symm⟩
    | succ i =>
      obtain ⟨a', b', h3, h4⟩ := pairsD_get (i := i) h2 (by simpa using e)
      exact ⟨a', b', by simpa using h3, h4⟩
theorem items2_inv {d : D} {S : Store} {its : List (List D)} (h : items2 [d] S = some its) : ∃ ds, seqL S d = some ds ∧ pairsD ds = some its := by
  have h : (seqL S d).bind pairsD = some its := h
  exact Option.bind_eq_some_iff.mp h
theorem it_pairs {m : ME} {i j : Nat} : IterOk X.K ca W (iAny X.K (tOf X.K ca W m)) (mCons m mNil) items2 [i, j] (gTwo X.K i j) := by
  intro σ H Rr ρ M S re rs p
  refine ⟨ρ, M, S, re, rs, (one_arg p).mono ?_⟩
  rintro x H1 ⟨M1, S1, src, its, e1, rs1, r1, hi, wk⟩
  match src, r1, hi, wk with
  | [d], r1, hi, wk =>
    obtain ⟨ds, q, hp⟩ := items2_inv hi
    obtain ⟨a, xs, rfl, sq, rl, z⟩ := seq_rep rs1 r1.1 q
    refine ⟨a, rfl, .inl ⟨⟨xs, sq⟩, wk _ ⟨fun H2 M2 S2 its2 _ rs2 r2 h2 => ?_, fun H2 M2 S2 its2 k _ rs2 r2 h2 => ?_⟩⟩⟩
    · obtain ⟨ds2, q2, hp2⟩ := items2_inv h2
      obtain ⟨a2, xs2, e2, sq2, rl2, z2⟩ := seq_rep rs2 r2.1 q2
      have := rl2.length
      rw [pairsD_len hp2]; omega
    · obtain ⟨ds2, q2, hp2⟩ := items2_inv h2
      obtain ⟨a2, xs2, e2, sq2, rl2, z2⟩ := seq_rep rs2 r2.1 q2
      cases e2
      have hl := rl2.length
      refine ⟨fun hj => ⟨xs2, sq2, by rw [pairsD_len hp2] at hj; omega⟩, fun item hit => ?_⟩
      obtain ⟨c, b, hd2, rfl⟩ := pairsD_get hp2 hit
      obtain ⟨v, hv, rv⟩ := rl2.get hd2
      refine ⟨⟨xs2, v, sq2, hv⟩, fun x Hx hy => ?_⟩
      obtain ⟨rfl, hy⟩ := hy
      have := hy xs2 sq2
      rw [hv] at this; cases this
      obtain ⟨T, ys, rfl, hT, nT, ry⟩ := rv
      obtain ⟨u, w, rfl, ru, rw'⟩ := ry.inv2
      exact ⟨Ext.refl _ _, rs2, [u, w], ⟨ru, rw', trivial⟩, fun σ Q h => two_go hT h⟩
/-! ### reversed(e) of a list that is data -/
def itemsV : List D → Store → Option (List (List D))
  | [.lst ds], _ => if ds.length ≤ sizeLine then some (ones ds.reverse) else none
  | _, _ => none
theorem itemsV_inv {src : List D} {S : Store} {its : List (List D)} (h : itemsV src S = some its) : ∃ ds, src = [.lst ds] ∧ ds.length ≤ sizeLine ∧ its = ones ds.reverse := by
  unfold itemsV at h
  split at h
  · next ds =>
    split at h
    · next z => cases h; exact ⟨ds, rfl, z, rfl⟩
    · cases h
  · cases h
theorem it_rev {ms : Env → Store → R (List D)} {i : Nat} : IterOk X.K ca W (iRev X.K (tOfA X.K ca W ms)) ms itemsV [i] (gName i) := by
  intro σ H Rr ρ M S re rs p
  refine ⟨ρ, M, S, re, rs, p.mono ?_⟩
  rintro vs H1 ⟨M1, S1, src, its, e1, rs1, r1, hi, wk⟩
  obtain ⟨ds, rfl, z, rfl⟩ := itemsV_inv hi
  obtain ⟨v, rfl, rv⟩ := r1.inv1
  obtain ⟨a, xs, rfl, h1, n1, z1, rl⟩ := id rv
  have hl := rl.length
  refine ⟨a, xs, rfl, SqL.of h1, wk _ ⟨fun H2 M2 S2 its2 _ rs2 r2 h2 => ?_, fun H2 M2 S2 its2 j _ rs2 r2 h2 => ?_⟩⟩
  · obtain ⟨ds2, e2, z2, rfl⟩ := itemsV_inv h2
    unfold ones; rw [List.length_map, List.length_reverse]; exact z2
  · obtain ⟨ds2, e2, z2, rfl⟩ := itemsV_inv h2
    cases e2
    obtain ⟨a2, xs2, e2, h2, n2, z3, rl2⟩ := r2.1
    cases e2
    have hl2 := rl2.length
    refine ⟨fun hj => by unfold ones at hj; rw [List.length_map, List.length_reverse] at hj; show xs.length ≤ j; omega, fun item hit => ?_⟩
    obtain ⟨d2, hd2, rfl⟩ := ones_get hit
    have hj : j < ds.length := by
      have := (List.getElem?_eq_some_iff.mp hd2).1
      rwa [List.length_reverse] at this
    rw [List.getElem?_reverse hj] at hd2
    obtain ⟨v, hv, rv2⟩ := rl2.get hd2
    have hv : xs2[xs.length - 1 - j]? = some v := by rw [← hl]; exact hv
    refine ⟨⟨by omega, xs2, v, SqL.of h2, hv⟩, fun x Hx hy => ?_⟩
    obtain ⟨rfl, hy⟩ := hy
    have := hy xs2 (SqL.of h2)
    rw [hv] at this; cases this
    exact ⟨Ext.refl _ _, rs2, [v], RepL.one rv2, fun σ Q h => h⟩
/-! ### a dict walked by its keys: from then on it is read only -/
def keyD : Key → D
  | .inl i => .int i
  | .inr x => .str x
def freeze (S : Store) (d : D) : Option Store := match d with
  | .cell n => match S[n]? with
    | some (.dk kvs) => if kvs.length ≤ sizeLine then some (S.set n (.fk kvs)) else none
    | some (.dt kvs) => if kvs.length ≤ sizeLine then some (S.set n (.ft kvs)) else none
    | _ => none
  | _ => none
def mFrz (m : ME) : ME := fun ρ S => (m ρ S).bind fun d S1 => match freeze S1 d with
  | some S2 => .ok d S2
  | none => .err
def itemsK : List D → Store → Option (List (List D))
  | [.cell n], S => match S[n]? with
    | some (.fk kvs) => if kvs.length ≤ sizeLine then some (kvs.map fun kv => [keyD kv.1]) else none
    | some (.ft kvs) => if kvs.length ≤ sizeLine then some (kvs.map fun kv => [D.tup (kv.1.map keyD)]) else none
    | _ => none
  | _, _ => none
def tFreeze (t : TE) : TE := fun σ H Q => t σ H fun v H1 => ∃ d u, v = .ref d ∧ H1 d = some u ∧ Mut (some u) ∧ ∀ od, Q v (upd H1 d (.frz od u))
theorem pe_freeze {e : Expr} {t : TE} (h : PE X e t) : PE X e (tFreeze t) := by
  refine ⟨fun pins s σ H Q I q => ?_⟩
  refine thn (h.run pins s σ H _ I q) fun v s1 ⟨x, H1, I1, r1, q1⟩ => ?_
  obtain ⟨d, u, rfl, hu, mu, q1⟩ := q1
  obtain ⟨od, I2⟩ := I1.lock hu mu
  exact ⟨_, _, I2, r1, q1 od⟩
theorem freeze_rep {K : PySem.W.Frag} {H : Hp} {M : Cells} {S S2 : Store} {d : D} {v : V} (rs : RelS K ca H M S) (r : Rep K ca H M d v) (h : freeze S d = some S2) :
    ∃ a u, v = .ref a ∧ H a = some u ∧ Mut (some u) ∧ ∀ od, Ext H M (upd H a (.frz od u)) M ∧ RelS K ca (upd H a (.frz od u)) M S2 := by
  unfold freeze at h
  split at h
  · next n =>
    obtain ⟨z, hz, hv⟩ := r
    split at h
    · next kvs hS =>
      split at h
      · cases h
        obtain ⟨z', hz', a, ys, rfl, h1, h2, h3⟩ := rs.cells n _ hS
        rw [hz] at hz'; cases hz'
        have nf : ∀ od u, H a ≠ some (.frz od u) := fun od u e => by rw [h1] at e; cases e
        have E := fun od => ext_write (M := M) (H := H) ⟨⟨n, hz⟩, nf⟩ (.frz od (.dK ys))
        exact ⟨a, _, hv a rfl, h1, trivial, fun od => ⟨E od, rs.write hz nf _ ⟨a, ys, od, rfl, upd_same, h2, RepL.ext (E od) _ _ h3⟩⟩⟩
      · cases h
    · next kvs hS =>
      split at h
      · cases h
        obtain ⟨z', hz', a, ys, rfl, h1, h2, h3⟩ := rs.cells n _ hS
        rw [hz] at hz'; cases hz'
        have nf : ∀ od u, H a ≠ some (.frz od u) := fun od u e => by rw [h1] at e; cases e
        have E := fun od => ext_write (M := M) (H := H) ⟨⟨n, hz⟩, nf⟩ (.frz od (.dT ys))
        exact ⟨a, _, hv a rfl, h1, trivial, fun od => ⟨E od, rs.write hz nf _ ⟨a, ys, od, rfl, upd_same, h2, RepL.ext (E od) _ _ h3⟩⟩⟩
      · cases h
    · cases h
  · cases h
theorem key_get {kk B C : Type} {ys : List (kk × B)} {kvs : List (kk × C)} (h : ys.map (·.1) = kvs.map (·.1)) {i : Nat} {k : kk} {c : C} (e : kvs[i]? = some (k, c)) : ∃ b, ys[i]? = some (k, b) := by
  have h1 : (kvs.map (·.1))[i]? = some k := by rw [List.getElem?_map, e]; rfl
  rw [← h, List.getElem?_map] at h1
  cases q : ys[i]? with
  | none => rw [q] at h1; cases h1
  | some p =>
    rw [q] at h1
    obtain ⟨k', b⟩ := p
    cases h1
    exact ⟨b, rfl⟩
theorem key_get' {kk B C : Type} {ys : List (kk × B)} {kvs : List (kk × C)} (h : ys.map (·.1) = kvs.map (·.1)) {i : Nat} {k : kk} {b : B} (e : ys[i]? = some (k, b)) : ∃ c, kvs[i]? = some (k, c) := key_get h.symm e
theorem keyD_rep {K : PySem.W.Frag} {H : Hp} {M : Cells} (k : Key) : Rep K ca H M (keyD k) (kV k) := by
  cases k <;> rfl
theorem keysD_rep {K : PySem.W.Frag} {H : Hp} {M : Cells} : ∀ ks : List Key, RepL K ca H M (ks.map keyD) (ks.map kV)
  | [] => trivial
  | k :: ks => ⟨keyD_rep k, keysD_rep ks⟩
theorem tup_dead {K : PySem.W.Frag} {H : Hp} {M : Cells} {S : Store} (rs : RelS K ca H M S) {q : Addr} {xs : List V} (h : H q = some (.tup xs)) : ¬ Live M q := by
  rintro (⟨l, hl⟩ | hq)
  · have hi : l < S.length := by rw [← rs.len]; exact (List.getElem?_eq_some_iff.mp hl).1
    obtain ⟨x, hx, c⟩ := rs.cells l _ (List.getElem?_eq_getElem hi)
    rw [hl] at hx; cases hx
    cases e : S[l] with
    | dead => rw [e] at c; cases c
    | lst ds => rw [e] at c; obtain ⟨_, _, r, h1, _⟩ := c; cases r; rw [h] at h1; cases h1
    | dk ds => rw [e] at c; obtain ⟨_, _, r, h1, _⟩ := c; cases r; rw [h] at h1; cases h1
    | dt ds => rw [e] at c; obtain ⟨_, _, r, h1, _⟩ := c; cases r; rw [h] at h1; cases h1
    | ins k ns ds => rw [e] at c; obtain ⟨_, _, _, r, h1, _⟩ := c; cases r; rw [h] at h1; cases h1
    | fk ds => rw [e] at c; obtain ⟨_, _, _, r, h1, _⟩ := c; cases r; rw [h] at h1; cases h1
    | ft ds => rw [e] at c; obtain ⟨_, _, _, r, h1, _⟩ := c; cases r; rw [h] at h1; cases h1
  · exact rs.hidt q hq xs h
theorem itemsK_inv {src : List D} {S : Store} {its : List (List D)} (h : itemsK src S = some its) : ∃ n, src = [.cell n] ∧ ((∃ kvs, S[n]? = some (.fk kvs) ∧ kvs.length ≤ sizeLine ∧ its = kvs.map fun kv => [keyD kv.1]) ∨ ∃ kvs, S[n]? = some (.ft kvs) ∧ kvs.length ≤ sizeLine ∧ its = kvs.map fun kv => [D.tup (kv.1.map keyD)]) := by
  unfold itemsK at h
  split at h
  · next n =>
    refine ⟨n, rfl, ?_⟩
    split at h
    · next kvs hS =>
      split at h
      · next z => cases h; exact .inl ⟨kvs, hS, z, rfl⟩
      · cases h
    · next kvs hS =>
      split at h
      · next z => cases h; exact .inr ⟨kvs, hS, z, rfl⟩
      · cases h
    · cases h
  · cases h
theorem map_get {A B : Type} {l : List A} {f : A → B} {i : Nat} {b : B} (h : (l.map f)[i]? = some b) : ∃ a, l[i]? = some a ∧ b = f a := by
  rw [List.getElem?_map] at h
  cases q : l[i]? with
  | none => rw [q] at h; cases h
  | some a => rw [q] at h; cases h; exact ⟨a, rfl, rfl⟩
theorem it_keys {m : ME} {i : Nat} : IterOk X.K ca W (iKeys (tFreeze (tOf X.K ca W m))) (mCons (mFrz m) mNil) itemsK [i] (gName i) := by
  intro σ H Rr ρ M S re rs p
  refine ⟨ρ, M, S, re, rs, ?_⟩
  have p := one_arg p
  refine (post_bind p).mono ?_
  rintro x H1 ⟨M1, S1, d, e1, rs1, r1, p1⟩
  cases hf : freeze S1 d with
  | none => rw [hf] at p1; exact p1.elim
  | some S2 =>
    rw [hf] at p1
    obtain ⟨a, u, rfl, hu, mu, hod⟩ := freeze_rep rs1 r1 hf
    refine ⟨a, u, rfl, hu, mu, fun od => ?_⟩
    obtain ⟨E, rs2⟩ := hod od
    obtain ⟨M3, S3, src, its, e3, rs3, r3, hi, wk⟩ := p1 (.ref a) M1 _ E rs2 (Rep.ext E _ _ r1)
    obtain ⟨n, rfl, hk⟩ := itemsK_inv hi
    have r3 : Rep X.K ca _ M3 (.cell n) (.ref a) := r3.1
    obtain ⟨z, hz, hv⟩ := id r3
    have hup : upd H1 a (.frz od u) a = some (.frz od u) := upd_same
    rcases hk with ⟨kvs, hS, hl, rfl⟩ | ⟨kvs, hS, hl, rfl⟩
    · obtain ⟨z', hz', b, ys, o2, rfl, h1, h2, h3⟩ := rs3.cells n _ hS
      rw [hz] at hz'; cases hz'
      have := hv b rfl
      cases this
      rw [hup] at h1
      cases h1
      refine ⟨a, od, rfl, .inl ⟨ys, hup, wk _ ⟨fun H4 M4 S4 its2 st rs4 r4 h4 => ?_, fun H4 M4 S4 its2 j st rs4 r4 h4 => ?_⟩⟩⟩
      · obtain ⟨n2, e2, ⟨k2, _, l2, rfl⟩ | ⟨k2, _, l2, rfl⟩⟩ := itemsK_inv h4
        · rw [List.length_map]; exact l2
        · rw [List.length_map]; exact l2
      · have h4a := st a od _ hup
        obtain ⟨n2, e2, ⟨k2, hS4, l2, rfl⟩ | ⟨k2, hS4, l2, rfl⟩⟩ := itemsK_inv h4
        · cases e2
          obtain ⟨z4, hz4, hv4⟩ := id r4.1
          obtain ⟨z5, hz5, c, ys2, o4, rfl, g1, g2, g3⟩ := rs4.cells n _ hS4
          rw [hz4] at hz5; cases hz5
          have := hv4 c rfl
          cases this
          rw [h4a] at g1
          cases g1
          have hlen := congrArg List.length g2
          rw [List.length_map, List.length_map] at hlen
          refine ⟨fun hj => ⟨h4a, by rw [List.length_map] at hj; omega⟩, fun item hit => ?_⟩
          obtain ⟨⟨k, dv⟩, hk, rfl⟩ := map_get hit
          refine ⟨⟨h4a, by have := (List.getElem?_eq_some_iff.mp hk).1; omega⟩, fun x Hx hy => ?_⟩
          obtain ⟨rfl, k3, v3, hk3, rfl⟩ := hy
          obtain ⟨b3, hb3⟩ := key_get g2 hk
          rw [hk3] at hb3
          cases hb3
          exact ⟨Ext.refl _ _, rs4, [_], RepL.one (keyD_rep _), fun σ Q h => h⟩
        · cases e2
          obtain ⟨z4, hz4, hv4⟩ := id r4.1
          obtain ⟨z5, hz5, c, ys2, o4, rfl, g1, g2, g3⟩ := rs4.cells n _ hS4
          rw [hz4] at hz5; cases hz5
          have := hv4 c rfl
          cases this
          rw [h4a] at g1
          cases g1
    · obtain ⟨z', hz', b, ys, o2, rfl, h1, h2, h3⟩ := rs3.cells n _ hS
      rw [hz] at hz'; cases hz'
      have := hv b rfl
      cases this
      rw [hup] at h1
      cases h1
      refine ⟨a, od, rfl, .inr ⟨ys, hup, wk _ ⟨fun H4 M4 S4 its2 st rs4 r4 h4 => ?_, fun H4 M4 S4 its2 j st rs4 r4 h4 => ?_⟩⟩⟩
      · obtain ⟨n2, e2, ⟨k2, _, l2, rfl⟩ | ⟨k2, _, l2, rfl⟩⟩ := itemsK_inv h4
        · rw [List.length_map]; exact l2
        · rw [List.length_map]; exact l2
      · have h4a := st a od _ hup
        obtain ⟨n2, e2, ⟨k2, hS4, l2, rfl⟩ | ⟨k2, hS4, l2, rfl⟩⟩ := itemsK_inv h4
        · cases e2
          obtain ⟨z4, hz4, hv4⟩ := id r4.1
          obtain ⟨z5, hz5, c, ys2, o4, rfl, g1, g2, g3⟩ := rs4.cells n _ hS4
          rw [hz4] at hz5; cases hz5
          have := hv4 c rfl
          cases this
          rw [h4a] at g1
          cases g1
        · cases e2
          obtain ⟨z4, hz4, hv4⟩ := id r4.1
          obtain ⟨z5, hz5, c, ys2, o4, rfl, g1, g2, g3⟩ := rs4.cells n _ hS4
          rw [hz4] at hz5; cases hz5
          have := hv4 c rfl
          cases this
          rw [h4a] at g1
          cases g1
          have hlen := congrArg List.length g2
          rw [List.length_map, List.length_map] at hlen
          refine ⟨fun hj => ⟨h4a, by rw [List.length_map] at hj; omega⟩, fun item hit => ?_⟩
          obtain ⟨⟨k, dv⟩, hk, rfl⟩ := map_get hit
          refine ⟨⟨h4a, by have := (List.getElem?_eq_some_iff.mp hk).1; omega⟩, fun x Hx hy => ?_⟩
          obtain ⟨rfl, k3, v3, q3, hk3, rfl, hq3⟩ := hy
          obtain ⟨b3, hb3⟩ := key_get g2 hk
          rw [hk3] at hb3
          cases hb3
          exact ⟨Ext.refl _ _, rs4, [_], RepL.one ⟨q3, _, rfl, hq3, tup_dead rs4 hq3, keysD_rep _⟩, fun σ Q h => h⟩
/-! ### list(range(e)) -/
def oLR (c : Bool) (S : Store) (d : D) : R D := match d with
  | .int n => if -(2 ^ 62) ≤ n ∧ n ≤ 16777216 then finL c ((List.range n.toNat).map fun (k : Nat) => D.int k) S else .err
  | _ => .err
theorem rgV0 (n : Int) : rgV 0 n = (List.range n.toNat).map fun (k : Nat) => V.int k := by
  unfold rgV
  rw [Int.sub_zero]
  refine List.map_congr_left fun k _ => ?_
  rw [Int.zero_add]
theorem ints_rep' {K : PySem.W.Frag} {H : Hp} {M : Cells} (l : List Nat) : RepL K ca H M (l.map fun (k : Nat) => D.int k) (l.map fun (k : Nat) => V.int k) := by
  induction l with
  | nil => trivial
  | cons n ns ih => exact ⟨rfl, ih⟩
theorem q_listR (c : Bool) {p p2 pos pos2 : Pos} {e : Expr} {me : ME} (hc : X.calm = true) (hg : Gl X "list") (hm : X.mg "list" = none) (hg2 : Gl X "range") (hm2 : X.mg "range" = none) (he : PE X e (tOf X.K ca W me))
    (na2 : starEach [e] X.env = (false, eval e X.env) :: starEach [] X.env := by rfl) (na : starEach [.Call (.Name "range" p2) [e] [] pos2] X.env = (false, eval (.Call (.Name "range" p2) [e] [] pos2) X.env) :: starEach [] X.env := by rfl) :
    PE X (.Call (.Name "list" p) [.Call (.Name "range" p2) [e] [] pos2] [] pos) (tOf X.K ca W (m1 (oLR c) me)) :=
  weakE (pe_listRg hc hg hm (prg_1 hg2 hm2 he na2) na) fun σ H Q => by
    rintro ⟨ρ, M, S, re, rs, q⟩
    refine ⟨ρ, M, S, re, rs, (post_bind q).mono ?_⟩
    rintro v H1 ⟨M1, S1, d, e1, rs1, r1, p1⟩
    unfold oLR at p1
    split at p1
    · next n =>
      cases r1
      split at p1
      · next hz =>
        have e24 : (2 : Nat) ^ 24 = 16777216 := by decide
        have esl : sizeLine = 16777216 := sizeLine_eq
        have ok : RgOk 0 n := ⟨by decide, by decide, hz.1, by omega, by omega⟩
        refine ⟨n, rfl, ok, fun q hq => ?_⟩
        rw [rgV0]
        exact finL_new p1 rs1 hq (by rw [List.length_map, List.length_range]; omega) (ints_rep' _)
      · exact p1.elim
    · exact p1.elim
/-! ### sorted(e) of whole numbers -/
def insI (i : Int) : List Int → List Int
  | [] => [i]
  | j :: js => if i ≤ j then i :: j :: js else j :: insI i js
def sortI : List Int → List Int
  | [] => []
  | i :: is => insI i (sortI is)
theorem insI_perm (i : Int) : ∀ js : List Int, (insI i js).Perm (i :: js)
  | [] => .refl _
  | j :: js => by
    unfold insI
    split
    · exact .refl _
    · exact ((insI_perm i js).cons j).trans (.swap _ _ _)
theorem sortI_perm : ∀ is : List Int, (sortI is).Perm is
  | [] => .refl _
  | i :: is => (insI_perm i _).trans ((sortI_perm is).cons i)
theorem insI_le (i : Int) : ∀ js : List Int, js.Pairwise (· ≤ ·) → (insI i js).Pairwise (· ≤ ·)
  | [], _ => by simp [insI]
  | j :: js, h => by
    rw [List.pairwise_cons] at h
    unfold insI
    split
    · next q =>
      rw [List.pairwise_cons, List.pairwise_cons]
      refine ⟨fun k hk => ?_, h.1, h.2⟩
      rcases List.mem_cons.mp hk with rfl | z
      · exact q
      · exact Int.le_trans q (h.1 k z)
    · next q =>
      rw [List.pairwise_cons]
      refine ⟨fun k hk => ?_, insI_le i js h.2⟩
      rcases List.mem_cons.mp ((insI_perm i js).mem_iff.mp hk) with rfl | z
      · omega
      · exact h.1 k z
theorem sortI_le : ∀ is : List Int, (sortI is).Pairwise (· ≤ ·)
  | [] => .nil
  | i :: is => insI_le i _ (sortI_le is)
theorem sorted_eq : ∀ {l m : List Int}, l.Perm m → l.Pairwise (· ≤ ·) → m.Pairwise (· ≤ ·) → l = m
  | [], m, p, _, _ => by rw [List.nil_perm.mp p]
  | a :: l, m, p, h1, h2 => by
    cases m with
    | nil => exact absurd p.symm (by simp)
    | cons b m =>
      rw [List.pairwise_cons] at h1 h2
      have e : a = b := by
        have m1 := p.mem_iff.mp (List.mem_cons_self (a := a) (l := l))
        have m2 := p.mem_iff.mpr (List.mem_cons_self (a := b) (l := m))
        rcases List.mem_cons.mp m1 with z | z
        · exact z
        · rcases List.mem_cons.mp m2 with y | y
          · exact y.symm
          · have := h1.1 b y
            have := h2.1 a z
            omega
      subst e
      rw [sorted_eq (List.perm_cons a |>.mp p) h1.2 h2.2]
def oSorted (c : Bool) (S : Store) (ds : List D) : R D := match ds with
  | [d] => match (seqL S d).bind flatI with
    | some js => if js.length ≤ sizeLine then finL c ((sortI js).map D.int) S else .err
    | none => .err
  | _ => .err
theorem s_sorted {K : PySem.W.Frag} (c : Bool) : SoundN K ca (rSortedI K) (oSorted c) := by
  intro H M S xs ds Q W rs rl p
  unfold oSorted at p
  split at p
  · next d =>
    obtain ⟨v, rfl, rv⟩ := rl.inv1
    split at p
    · next js hjs =>
      split at p
      · next hz =>
        obtain ⟨es, hd, hf⟩ := Option.bind_eq_some_iff.mp hjs
        obtain ⟨a, us, rfl, sq, q, _⟩ := seq_rep rs rv hd
        have := flat_rep q hf
        subst this
        refine ⟨a, js, rfl, sq, fun ns' q hp hs hq => ?_⟩
        have e : ns' = sortI js := sorted_eq (hp.trans (sortI_perm js).symm) hs (sortI_le js)
        subst e
        exact finL_new p rs hq (by rw [List.length_map, (sortI_perm js).length_eq]; exact hz) (ints_rep _)
      · exact p.elim
    · exact p.elim
  · exact p.elim
/-! ### min(e) of whole numbers -/
def minI : Int → List Int → Int
  | i, [] => i
  | i, j :: js => minI (if j < i then j else i) js
theorem minI_mem : ∀ (i : Int) (js : List Int), minI i js ∈ i :: js
  | i, [] => by simp [minI]
  | i, j :: js => by
    have := minI_mem (if j < i then j else i) js
    unfold minI
    rcases List.mem_cons.mp this with h | h
    · rw [h]; split <;> simp
    · simp [h]
theorem minI_le : ∀ (i : Int) (js : List Int), ∀ y ∈ i :: js, minI i js ≤ y
  | i, [], y, h => by simp at h; subst h; exact Int.le_refl _
  | i, j :: js, y, h => by
    unfold minI
    have ih := minI_le (if j < i then j else i) js
    have h0 := ih _ List.mem_cons_self
    rcases List.mem_cons.mp h with rfl | h
    · split at h0 <;> split <;> omega
    · rcases List.mem_cons.mp h with rfl | h
      · split at h0 <;> split <;> omega
      · exact ih y (List.mem_cons_of_mem _ h)
def oMinL (S : Store) (ds : List D) : R D := match ds with
  | [d] => match (seqL S d).bind flatI with
    | some (j :: js) => .ok (.int (minI j js)) S
    | _ => .err
  | _ => .err
theorem s_minL {K : PySem.W.Frag} : SoundN K ca (rMin K) oMinL := by
  intro H M S xs ds Q W rs rl p
  unfold oMinL at p
  split at p
  · next d =>
    obtain ⟨v, rfl, rv⟩ := rl.inv1
    split at p
    · next j js hjs =>
      obtain ⟨es, hd, hf⟩ := Option.bind_eq_some_iff.mp hjs
      obtain ⟨a, us, rfl, sq, q, _⟩ := seq_rep rs rv hd
      have := flat_rep q hf
      subst this
      refine ⟨a, j :: js, rfl, sq, by simp, fun m hm hle => ?_⟩
      have e : m = minI j js := by
        have h1 := hle _ (minI_mem j js)
        have h2 := minI_le j js m hm
        omega
      subst e
      exact one_ok p rs rfl
    · exact p.elim
  · exact p.elim
/-! ### dict(d) -/
def oDict (S : Store) (ds : List D) : R D := match ds with
  | [.cell n] => match S[n]? with
    | some (.dk kvs) => .ok (.cell S.length) (S ++ [.dk kvs])
    | _ => .err
  | _ => .err
theorem s_dict {K : PySem.W.Frag} : SoundN K ca (fun xs H Q => ∃ (a : Addr) (kvs : List (Key × V)), xs = [.ref a] ∧ Rd H a (.dK kvs) ∧ ∀ p, H p = none → Q (.ref p) (upd H p (.dK kvs))) oDict := by
  intro H M S xs ds Q W rs rl p
  unfold oDict at p
  split at p
  · next n =>
    obtain ⟨v, rfl, rv⟩ := rl.inv1
    split at p
    · next kvs hS =>
      obtain ⟨z, hz, hv⟩ := rv
      obtain ⟨z', hz', a, ys, rfl, h1, h2, h3⟩ := rs.cells n _ hS
      rw [hz] at hz'; cases hz'
      refine ⟨a, ys, by rw [hv a rfl], .inl h1, fun q hq => ?_⟩
      refine p _ (M.push q) _ (ext_cell hq _) (rs.cell hq _ ⟨q, ys, rfl, upd_same, h2, RepL.ext (ext_cell hq _) _ _ h3⟩) ⟨some q, ?_, fun a e => by cases e; rfl⟩
      show (M.c ++ [some q])[S.length]? = _
      rw [← rs.len]; simp
    · exact p.elim
  · exact p.elim
end
end Sm
namespace Nl
open PySem PySem.Spec PyProof.Rows L2 Sm
abbrev f_p_is_tip : Nat := 0
abbrev f_p_tips : Nat := 28
abbrev f_p_knots : Nat := 29
abbrev f_p_renamed : Nat := 30
abbrev f_l_stir : Nat := 3
abbrev f_l_cell : Nat := 4
abbrev f_l_cells : Nat := 5
abbrev f_l_dye : Nat := 6
abbrev f_l_book : Nat := 7
abbrev f_l_number : Nat := 8
abbrev f_l_is_tip : Nat := 9
abbrev f_l_tips : Nat := 10
abbrev f_l_mirror : Nat := 11
abbrev f_l_anew : Nat := 12
abbrev f_l_add_cord : Nat := 13
abbrev f_l_tie : Nat := 14
abbrev f_l_add_knot : Nat := 15
abbrev f_l_add_splice : Nat := 16
abbrev f_l_close : Nat := 17
abbrev f_l_loft : Nat := 18
abbrev f_l_whole : Nat := 21
abbrev f_l_hang : Nat := 22
abbrev f_l_words : Nat := 31
abbrev f_l_renamed : Nat := 32
abbrev f_law_k02 : Nat := 33
noncomputable def b_p_is_tip : Body := { cut := false, ar := 1, sl := 1, code := fun C I => sRet (mOr (m2 (oEq) (m2 oIx (mV 0) (mC (.int 0))) (mC (.str "light"))) (m2 (oEq) (m2 oIx (mV 0) (mC (.int 0))) (mC (.str "dark")))) }
noncomputable def b_p_tips : Body := { cut := false, ar := 1, sl := 1, code := fun C I => sSeq (sIf (mN (fun S ds => C f_p_is_tip ds S) (mCons (mV 0) (mNil))) (sRet (mN (oLst false) (mCons (mV 0) (mNil)))) (sNil)) (sRet (m2 (oAdd false) (mN (fun S ds => C f_p_tips ds S) (mCons (m2 oIx (mV 0) (mC (.int 1))) (mNil))) (mN (fun S ds => C f_p_tips ds S) (mCons (m2 oIx (mV 0) (mC (.int 2))) (mNil))))) }
noncomputable def b_p_knots : Body := { cut := false, ar := 1, sl := 5, code := fun C I => sSeq (sIf (mN (fun S ds => C f_p_is_tip ds S) (mCons (mV 0) (mNil))) (sRet (mN oTup (mCons (mC (.int 0)) (mCons (mC (.int 0)) (mNil))))) (sNil)) (sSeq (sAsg 1 (mN (fun S ds => C f_p_knots ds S) (mCons (m2 oIx (mV 0) (mC (.int 1))) (mNil)))) (sSeq (sAsg 2 (mN (fun S ds => C f_p_knots ds S) (mCons (m2 oIx (mV 0) (mC (.int 2))) (mNil)))) (sSeq (sAsg 3 (m2 (oAdd false) (m2 oIx (mV 1) (mC (.int 0))) (m2 oIx (mV 2) (mC (.int 0))))) (sSeq (sAsg 4 (m2 (oAdd false) (m2 oIx (mV 1) (mC (.int 1))) (m2 oIx (mV 2) (mC (.int 1))))) (sSeq (sIf (m2 (oEq) (m2 oIx (mV 0) (mC (.int 0))) (mC (.str "fast"))) (sRet (mN oTup (mCons (m2 (oAdd false) (mV 3) (mC (.int 1))) (mCons (mV 4) (mNil))))) (sNil)) (sRet (mN oTup (mCons (mV 3) (mCons (m2 (oAdd false) (mV 4) (mC (.int 1))) (mNil)))))))))) }
noncomputable def b_p_renamed : Body := { cut := false, ar := 2, sl := 2, code := fun C I => sSeq (sIf (mN (fun S ds => C f_p_is_tip ds S) (mCons (mV 0) (mNil))) (sRet (mN oTup (mCons (m2 oIx (mV 0) (mC (.int 0))) (mCons (m2 oIx (mV 0) (mC (.int 1))) (mCons (mGet2 (mV 1) (m2 oIx (mV 0) (mC (.int 2))) (m2 oIx (mV 0) (mC (.int 2)))) (mNil)))))) (sNil)) (sRet (mN oTup (mCons (m2 oIx (mV 0) (mC (.int 0))) (mCons (mN (fun S ds => C f_p_renamed ds S) (mCons (m2 oIx (mV 0) (mC (.int 1))) (mCons (mV 1) (mNil)))) (mCons (mN (fun S ds => C f_p_renamed ds S) (mCons (m2 oIx (mV 0) (mC (.int 2))) (mCons (mV 1) (mNil)))) (mNil)))))) }
noncomputable def b_l_stir : Body := { cut := false, ar := 1, sl := 4, code := fun C I => sSeq (sAsg 1 (mC (.int 0))) (sSeq (sFor (mCons (mN (oLst false) (mCons (mC (.int 48271)) (mCons (mC (.int 69621)) (mCons (mC (.int 39373)) (mCons (mC (.int 44488)) (mNil)))))) mNil) itemsA [2] (sSeq (sAsg 3 (m2 (oMod) (m2 (oMul false) (m2 (oMod) (m2 (oAdd false) (m2 (oMul false) (mV 0) (mV 2)) (mC (.int 7919))) (mC (.int 2147483647))) (mC (.int 40692))) (mC (.int 2147483399)))) (sAsg 1 (m2 (oAdd false) (m2 (oMul false) (mV 1) (m2 (oPow) (mC (.int 10)) (mC (.int 9)))) (m2 (oDiv) (mV 3) (mC (.int 7))))))) (sRet (mV 1))) }
noncomputable def b_l_cell : Body := { cut := false, ar := 2, sl := 2, code := fun C I => sSeq (sIf (m2 (oCmp fun i j => decide (i < j)) (mV 1) (mN oLen (mCons (mV 0) (mNil)))) (sRet (mN (fun S ds => C f_l_stir ds S) (mCons (m2 oIx (mV 0) (mV 1)) (mNil)))) (sNil)) (sRet (mN (fun S ds => C f_l_stir ds S) (mCons (mC (.int 0)) (mNil)))) }
noncomputable def b_l_cells : Body := { cut := false, ar := 3, sl := 4, code := fun C I => sRet (mComp false (mCons (mSl false (mV 0) (oSome (mV 1)) (oSome (mV 2))) mNil) itemsA [3] [3] (mC (.bl true)) (mN (fun S ds => C f_l_stir ds S) (mCons (mV 3) (mNil)))) }
noncomputable def b_l_dye : Body := { cut := false, ar := 1, sl := 4, code := fun C I => sSeq (sAsg 1 (m2 (oAdd false) (mC (.int 1)) (m2 (oMod) (mV 0) (mC (.int 3))))) (sSeq (sIf (m2 (oEq) (m2 (oMod) (mV 0) (mC (.int 11))) (mC (.int 5))) (sAsg 1 (mC (.int 20))) (sNil)) (sSeq (sAsg 2 (m2 (oMul false) (mC (.int 7)) (m2 (oMod) (m2 (oDiv) (mV 0) (mC (.int 5))) (mC (.int 4))))) (sRet (mBM "str" oJoin (mC (.str "")) (mCons (mComp false (mCons (mV 1) (mNil)) itemsR [3] [3] (mC (.bl true)) (m2 oIx (mC (.str "abcdefghijklmnopqrstuvwxyz")) (m2 (oMod) (m2 (oAdd false) (m2 (oDiv) (mV 0) (mC (.int 3))) (m2 (oMul false) (mV 2) (mV 3))) (mC (.int 26))))) (mNil)))))) }
noncomputable def b_l_book : Body := { cut := false, ar := 1, sl := 2, code := fun C I => sSeq (sAsg 1 (m2 (oMod) (m2 (oDiv) (mV 0) (mC (.int 16))) (m2 oIx (mN (oLst false) (mCons (mC (.int 10)) (mCons (mC (.int 1000)) (mCons (m2 (oPow) (mC (.int 10)) (mC (.int 12))) (mCons (m2 (oPow) (mC (.int 10)) (mC (.int 29))) (mNil)))))) (m2 (oMod) (mV 0) (mC (.int 4)))))) (sRet (mN (oLst true) (mCons (mV 1) (mCons (m2 oIx (mN (oLst false) (mCons (mC (.int 1)) (mCons (mC (.int 2)) (mCons (mC (.int 97)) (mCons (m2 (oAdd false) (m2 (oPow) (mC (.int 10)) (mC (.int 9))) (mC (.int 7))) (mNil)))))) (m2 (oMod) (m2 (oDiv) (mV 0) (mC (.int 4))) (mC (.int 4)))) (mCons (mC (.int 0)) (mNil)))))) }
noncomputable def b_l_number : Body := { cut := false, ar := 1, sl := 2, code := fun C I => sSeq (sAsg 1 (m2 oIx (mV 0) (mC (.int 2)))) (sSeq (sSub (m2 (oAdd false) (mV 1) (mC (.int 1))) (mV 0) (mC (.int 2))) (sRet (m2 (oAdd false) (m2 oIx (mV 0) (mC (.int 0))) (m2 (oMul false) (m2 oIx (mV 0) (mC (.int 1))) (m2 (oAdd false) (m2 (oMod) (m2 (oMul false) (mV 1) (mC (.int 21))) (mC (.int 64))) (m2 (oMul false) (mC (.int 64)) (m2 (oDiv) (mV 1) (mC (.int 64))))))))) }
noncomputable def b_l_is_tip : Body := { cut := false, ar := 1, sl := 1, code := fun C I => sRet (mOr (m2 (oEq) (m2 oIx (mV 0) (mC (.int 0))) (mC (.str "light"))) (m2 (oEq) (m2 oIx (mV 0) (mC (.int 0))) (mC (.str "dark")))) }
noncomputable def b_l_tips : Body := { cut := false, ar := 1, sl := 1, code := fun C I => sSeq (sIf (mN (fun S ds => C f_l_is_tip ds S) (mCons (mV 0) (mNil))) (sRet (mN (oLst false) (mCons (mV 0) (mNil)))) (sNil)) (sRet (m2 (oAdd false) (mN (fun S ds => C f_l_tips ds S) (mCons (m2 oIx (mV 0) (mC (.int 1))) (mNil))) (mN (fun S ds => C f_l_tips ds S) (mCons (m2 oIx (mV 0) (mC (.int 2))) (mNil))))) }
noncomputable def b_l_mirror : Body := { cut := false, ar := 1, sl := 2, code := fun C I => sSeq (sAsg 1 (m1 (oDisp [((.inr "light"), .str "dark"), ((.inr "dark"), .str "light"), ((.inr "fast"), .str "loose"), ((.inr "loose"), .str "fast")]) (m2 oIx (mV 0) (mC (.int 0))))) (sSeq (sIf (mN (fun S ds => C f_l_is_tip ds S) (mCons (mV 0) (mNil))) (sRet (mN oTup (mCons (mV 1) (mCons (m2 oIx (mV 0) (mC (.int 1))) (mCons (m2 oIx (mV 0) (mC (.int 2))) (mNil)))))) (sNil)) (sRet (mN oTup (mCons (mV 1) (mCons (mN (fun S ds => C f_l_mirror ds S) (mCons (m2 oIx (mV 0) (mC (.int 1))) (mNil))) (mCons (mN (fun S ds => C f_l_mirror ds S) (mCons (m2 oIx (mV 0) (mC (.int 2))) (mNil))) (mNil))))))) }
noncomputable def b_l_anew : Body := { cut := false, ar := 2, sl := 3, code := fun C I => sSeq (sIf (mN (fun S ds => C f_l_is_tip ds S) (mCons (mV 0) (mNil))) (sRet (mN oTup (mCons (m2 oIx (mV 0) (mC (.int 0))) (mCons (m2 oIx (mV 0) (mC (.int 1))) (mCons (mN (fun S ds => C f_l_number ds S) (mCons (mV 1) (mNil))) (mNil)))))) (sNil)) (sSeq (sAsg 2 (mN (fun S ds => C f_l_anew ds S) (mCons (m2 oIx (mV 0) (mC (.int 1))) (mCons (mV 1) (mNil))))) (sRet (mN oTup (mCons (m2 oIx (mV 0) (mC (.int 0))) (mCons (mV 2) (mCons (mN (fun S ds => C f_l_anew ds S) (mCons (m2 oIx (mV 0) (mC (.int 2))) (mCons (mV 1) (mNil)))) (mNil))))))) }
noncomputable def b_l_add_cord : Body := { cut := false, ar := 2, sl := 5, code := fun C I => sSeq (sAsg 2 (mN (fun S ds => C f_l_number ds S) (mCons (m2 oIx (mV 0) (mC (.int 3))) (mNil)))) (sSeq (sAsg 3 (mN (fun S ds => C f_l_dye ds S) (mCons (m2 (oDiv) (mV 1) (mC (.int 7))) (mNil)))) (sSeq (sAsg 4 (mN (oLst false) (mCons (mN oTup (mCons (mC (.str "light")) (mCons (mV 3) (mCons (mV 2) (mNil))))) (mCons (mN oTup (mCons (mC (.str "dark")) (mCons (mV 3) (mCons (mV 2) (mNil))))) (mNil))))) (sSeq (sIf (m2 (oEq) (m2 (oMod) (m2 (oDiv) (mV 1) (mC (.int 7))) (mC (.int 2))) (mC (.int 1))) (sAsg 4 (mN (oLst false) (mCons (m2 oIx (mV 4) (mC (.int 1))) (mCons (m2 oIx (mV 4) (mC (.int 0))) (mNil))))) (sNil)) (sSeq (sDrop (mBM "list" oExtend (m2 oIx (mV 0) (mC (.int 0))) (mCons (mV 4) (mNil)))) (sDrop (mBM "list" oExtend (m2 oIx (mV 0) (mC (.int 1))) (mCons (mN (oLst false) (mCons (mV 2) (mCons (mV 2) (mNil)))) (mNil)))))))) }
noncomputable def b_l_tie : Body := { cut := false, ar := 5, sl := 12, code := fun C I => sSeq (sAsg 5 (mComp false (mCons (mN oLen (mCons (m2 oIx (mV 0) (mC (.int 0))) (mNil))) (mNil)) itemsR [10] [10] (mAnd (m2 (oNe) (mV 10) (mV 1)) (m2 (oNe) (mV 10) (mV 2))) (mV 10))) (sSeq (sAsg 6 (m2 oIx (m2 oIx (mV 0) (mC (.int 1))) (mV 1))) (sSeq (sAsg 7 (m2 oIx (m2 oIx (mV 0) (mC (.int 1))) (mV 2))) (sSeq (sAsg 8 (mComp true (mCons (mV 5) mNil) itemsA [10] [10] (mC (.bl true)) (m2 oIx (m2 oIx (mV 0) (mC (.int 0))) (mV 10)))) (sSeq (sDrop (mBM "list" oInsert (mV 8) (mCons (m2 (oMod) (mV 4) (m2 (oAdd false) (mN oLen (mCons (mV 5) (mNil))) (mC (.int 1)))) (mCons (mN oTup (mCons (mV 3) (mCons (m2 oIx (m2 oIx (mV 0) (mC (.int 0))) (mV 1)) (mCons (m2 oIx (m2 oIx (mV 0) (mC (.int 0))) (mV 2)) (mNil))))) (mNil))))) (sSeq (sAsg 9 (mComp true (mCons (mV 5) mNil) itemsA [10] [10] (mC (.bl true)) (m2 oIx (m2 oIx (mV 0) (mC (.int 1))) (mV 10)))) (sSeq (sDrop (mBM "list" oInsert (mV 9) (mCons (m2 (oMod) (mV 4) (m2 (oAdd false) (mN oLen (mCons (mV 5) (mNil))) (mC (.int 1)))) (mCons (mV 6) (mNil))))) (sSeq (sSub (mV 8) (mV 0) (mC (.int 0))) (sSub (mComp true (mCons (mV 9) mNil) itemsA [11] [11] (mC (.bl true)) (mIf (m2 (oEq) (mV 11) (mV 7)) (mV 6) (mV 11))) (mV 0) (mC (.int 1)))))))))) }
noncomputable def b_l_add_knot : Body := { cut := false, ar := 3, sl := 7, code := fun C I => sSeq (sAsg 3 (mN oLen (mCons (m2 oIx (mV 0) (mC (.int 0))) (mNil)))) (sSeq (sAsg 4 (m2 (oMod) (m2 (oDiv) (mV 1) (mC (.int 7))) (mV 3))) (sSeq (sAsg 5 (m2 (oMod) (m2 (oDiv) (mV 1) (mC (.int 448))) (mV 3))) (sSeq (sIf (m2 (oEq) (mV 4) (mV 5)) (sAsg 5 (m2 (oMod) (m2 (oAdd false) (mV 4) (mC (.int 1))) (mV 3))) (sNil)) (sSeq (sAsg 6 (mC (.str "fast"))) (sSeq (sIf (mOr (mAnd (mV 2) (m2 (oEq) (m2 oIx (m2 oIx (mV 0) (mC (.int 1))) (mV 4)) (m2 oIx (m2 oIx (mV 0) (mC (.int 1))) (mV 5)))) (mAnd (mNot (mV 2)) (m2 (oCmp fun i j => decide (j < i)) (m2 (oMod) (mV 1) (mC (.int 7))) (mC (.int 3))))) (sAsg 6 (mC (.str "loose"))) (sNil)) (sDrop (mN (fun S ds => C f_l_tie ds S) (mCons (mV 0) (mCons (mV 4) (mCons (mV 5) (mCons (mV 6) (mCons (m2 (oDiv) (mV 1) (mC (.int 28672))) (mNil))))))))))))) }
noncomputable def b_l_add_splice : Body := { cut := false, ar := 3, sl := 7, code := fun C I => sSeq (sAsg 3 (m2 (oMod) (m2 (oDiv) (mV 1) (mC (.int 7))) (mN oLen (mCons (m2 oIx (mV 0) (mC (.int 0))) (mNil))))) (sSeq (sAsg 4 (m2 oIx (m2 oIx (mV 0) (mC (.int 0))) (mV 3))) (sSeq (sAsg 5 (mN (fun S ds => C f_l_anew ds S) (mCons (mV 4) (mCons (m2 oIx (mV 0) (mC (.int 3))) (mNil))))) (sSeq (sAsg 6 (mN oTup (mCons (mV 4) (mCons (mN (fun S ds => C f_l_mirror ds S) (mCons (mV 5) (mNil))) (mNil))))) (sSeq (sIf (m2 (oEq) (m2 (oMod) (m2 (oDiv) (mV 1) (mC (.int 448))) (mC (.int 2))) (mC (.int 1))) (sAsg 6 (mN oTup (mCons (m2 oIx (mV 6) (mC (.int 1))) (mCons (m2 oIx (mV 6) (mC (.int 0))) (mNil))))) (sNil)) (sSeq (sDrop (mBM "list" oInsert (m2 oIx (mV 0) (mC (.int 2))) (mCons (m2 (oMod) (m2 (oDiv) (mV 1) (mC (.int 1792))) (m2 (oAdd false) (mN oLen (mCons (m2 oIx (mV 0) (mC (.int 2))) (mNil))) (mC (.int 1)))) (mCons (mV 6) (mNil))))) (sSeq (sSub (mV 5) (m2 oIx (mV 0) (mC (.int 0))) (mV 3)) (sIf (mAnd (m2 (oEq) (m2 (oMod) (m2 (oDiv) (mV 1) (mC (.int 896))) (mC (.int 2))) (mC (.int 1))) (mOr (m2 (oEq) (m2 oIx (mV 5) (mC (.int 0))) (mC (.str "loose"))) (mAnd (m2 (oEq) (m2 oIx (mV 5) (mC (.int 0))) (mC (.str "fast"))) (mNot (mV 2))))) (sSeq (sSub (m2 oIx (mV 5) (mC (.int 1))) (m2 oIx (mV 0) (mC (.int 0))) (mV 3)) (sSeq (sDrop (mBM "list" oInsert (m2 oIx (mV 0) (mC (.int 0))) (mCons (m2 (oAdd false) (mV 3) (mC (.int 1))) (mCons (m2 oIx (mV 5) (mC (.int 2))) (mNil))))) (sDrop (mBM "list" oInsert (m2 oIx (mV 0) (mC (.int 1))) (mCons (m2 (oAdd false) (mV 3) (mC (.int 1))) (mCons (m2 oIx (m2 oIx (mV 0) (mC (.int 1))) (mV 3)) (mNil))))))) (sNil)))))))) }
noncomputable def b_l_close : Body := { cut := false, ar := 2, sl := 4, code := fun C I => sSeq (sIf (m2 (oEq) (m2 oIx (mV 0) (mC (.int 0))) (mN (oLst false) (mNil))) (sDrop (mN (fun S ds => C f_l_add_cord ds S) (mCons (mV 0) (mCons (mV 1) (mNil))))) (sNil)) (sSeq (sAsg 2 (mComp false (mCons (mN oLen (mCons (m2 oIx (mV 0) (mC (.int 0))) (mNil))) (mNil)) itemsR [3] [3] (m2 (oNe) (m2 oIx (m2 oIx (mV 0) (mC (.int 1))) (mV 3)) (m2 oIx (m2 oIx (mV 0) (mC (.int 1))) (mC (.int 0)))) (mV 3))) (whileN (m2 (oNe) (mV 2) (mN (oLst false) (mNil))) (sSeq (sDrop (mN (fun S ds => C f_l_tie ds S) (mCons (mV 0) (mCons (mC (.int 0)) (mCons (m2 oIx (mV 2) (mC (.int 0))) (mCons (mC (.str "fast")) (mCons (mV 1) (mNil)))))))) (sAsg 2 (mComp false (mCons (mN oLen (mCons (m2 oIx (mV 0) (mC (.int 0))) (mNil))) (mNil)) itemsR [3] [3] (m2 (oNe) (m2 oIx (m2 oIx (mV 0) (mC (.int 1))) (mV 3)) (m2 oIx (m2 oIx (mV 0) (mC (.int 1))) (mC (.int 0)))) (mV 3)))) 100000)) }
noncomputable def b_l_loft : Body := { cut := false, ar := 4, sl := 6, code := fun C I => sSeq (sAsg 4 (mN (oLst true) (mCons (mN (oLst true) (mNil)) (mCons (mN (oLst true) (mNil)) (mCons (mN (oLst true) (mNil)) (mCons (mN (fun S ds => C f_l_book ds S) (mCons (mN (fun S ds => C f_l_cell ds S) (mCons (mV 0) (mCons (mV 1) (mNil)))) (mNil))) (mNil))))))) (sSeq (sFor (mCons (mN (fun S ds => C f_l_cells ds S) (mCons (mV 0) (mCons (m2 (oAdd false) (mV 1) (mC (.int 1))) (mCons (m2 (oAdd false) (m2 (oAdd false) (mV 1) (mC (.int 1))) (mV 2)) (mNil))))) mNil) itemsA [5] (sIf (mOr (m2 (oCmp fun i j => decide (i < j)) (m2 (oMod) (mV 5) (mC (.int 7))) (mC (.int 2))) (m2 (oCmp fun i j => decide (i < j)) (mN oLen (mCons (m2 oIx (mV 4) (mC (.int 0))) (mNil))) (mC (.int 2)))) (sDrop (mN (fun S ds => C f_l_add_cord ds S) (mCons (mV 4) (mCons (mV 5) (mNil))))) (sIf (mAnd (m2 (oEq) (m2 (oMod) (mV 5) (mC (.int 7))) (mC (.int 6))) (m2 (oCmp fun i j => decide (i < j)) (mN oLen (mCons (mN (fun S ds => C f_l_tips ds S) (mCons (m2 oIx (m2 oIx (mV 4) (mC (.int 0))) (m2 (oMod) (m2 (oDiv) (mV 5) (mC (.int 7))) (mN oLen (mCons (m2 oIx (mV 4) (mC (.int 0))) (mNil))))) (mNil))) (mNil))) (mC (.int 5)))) (sDrop (mN (fun S ds => C f_l_add_splice ds S) (mCons (mV 4) (mCons (mV 5) (mCons (mV 3) (mNil)))))) (sDrop (mN (fun S ds => C f_l_add_knot ds S) (mCons (mV 4) (mCons (mV 5) (mCons (mV 3) (mNil))))))))) (sSeq (sIf (mV 3) (sDrop (mN (fun S ds => C f_l_close ds S) (mCons (mV 4) (mCons (mN (fun S ds => C f_l_cell ds S) (mCons (mV 0) (mCons (mV 1) (mNil)))) (mNil))))) (sNil)) (sRet (mV 4)))) }
noncomputable def b_l_whole : Body := { cut := false, ar := 1, sl := 1, code := fun C I => sRet (mAnd (m1 (oIsT "int") (mV 0)) (mNot (m1 (oIsT "bool") (mV 0)))) }
noncomputable def b_l_hang : Body := { cut := false, ar := 1, sl := 1, code := fun C I => sSeq (sIf (mOr (mNot (m1 (oIsT "tuple") (mV 0))) (mOr (m2 (oNe) (mN oLen (mCons (mV 0) (mNil))) (mC (.int 3))) (mNot (m1 (oIsT "str") (m2 oIx (mV 0) (mC (.int 0))))))) (sRet (mC (.bl false))) (sNil)) (sSeq (sIf (mOr (m2 (oEq) (m2 oIx (mV 0) (mC (.int 0))) (mC (.str "fast"))) (m2 (oEq) (m2 oIx (mV 0) (mC (.int 0))) (mC (.str "loose")))) (sRet (mAnd (mN (fun S ds => C f_l_hang ds S) (mCons (m2 oIx (mV 0) (mC (.int 1))) (mNil))) (mN (fun S ds => C f_l_hang ds S) (mCons (m2 oIx (mV 0) (mC (.int 2))) (mNil))))) (sNil)) (sRet (mAnd (m1 (oIsT "str") (m2 oIx (mV 0) (mC (.int 1)))) (mN (fun S ds => C f_l_whole ds S) (mCons (m2 oIx (mV 0) (mC (.int 2))) (mNil)))))) }
noncomputable def b_l_words : Body := { cut := false, ar := 1, sl := 1, code := fun C I => sSeq (sIf (mN (fun S ds => C f_l_is_tip ds S) (mCons (mV 0) (mNil))) (sRet (mN (oLst false) (mNil))) (sNil)) (sRet (m2 (oAdd false) (m2 (oAdd false) (mN (oLst false) (mCons (m2 oIx (mV 0) (mC (.int 0))) (mNil))) (mN (fun S ds => C f_l_words ds S) (mCons (m2 oIx (mV 0) (mC (.int 1))) (mNil)))) (mN (fun S ds => C f_l_words ds S) (mCons (m2 oIx (mV 0) (mC (.int 2))) (mNil))))) }
noncomputable def b_l_renamed : Body := { cut := false, ar := 2, sl := 2, code := fun C I => sSeq (sIf (mNot (mN (fun S ds => C f_l_is_tip ds S) (mCons (mV 0) (mNil)))) (sRet (mN oTup (mCons (m2 oIx (mV 0) (mC (.int 0))) (mCons (mN (fun S ds => C f_l_renamed ds S) (mCons (m2 oIx (mV 0) (mC (.int 1))) (mCons (mV 1) (mNil)))) (mCons (mN (fun S ds => C f_l_renamed ds S) (mCons (m2 oIx (mV 0) (mC (.int 2))) (mCons (mV 1) (mNil)))) (mNil)))))) (sNil)) (sSeq (sIf (m2 (oIn) (m2 oIx (mV 0) (mC (.int 2))) (mV 1)) (sRet (mN oTup (mCons (m2 oIx (mV 0) (mC (.int 0))) (mCons (m2 oIx (mV 0) (mC (.int 1))) (mCons (m2 oIx (mV 1) (m2 oIx (mV 0) (mC (.int 2)))) (mNil)))))) (sNil)) (sRet (mV 0))) }
noncomputable def b_law_k02 : Body := { cut := true, ar := 1, sl := 12, code := fun C I => sSeq (sAsg 1 (mN (fun S ds => C f_l_loft ds S) (mCons (mV 0) (mCons (mC (.int 2)) (mCons (mC (.int 14)) (mCons (mC (.bl false)) (mNil))))))) (sSeq (sIf (m2 (oEq) (m2 oIx (mV 1) (mC (.int 0))) (mN (oLst false) (mNil))) (sDrop (mN (fun S ds => C f_l_add_cord ds S) (mCons (mV 1) (mCons (mN (fun S ds => C f_l_cell ds S) (mCons (mV 0) (mCons (mC (.int 0)) (mNil)))) (mNil))))) (sNil)) (sSeq (sAsg 2 (m2 oIx (m2 oIx (mV 1) (mC (.int 0))) (m2 (oMod) (mN (fun S ds => C f_l_cell ds S) (mCons (mV 0) (mCons (mC (.int 0)) (mNil)))) (mN oLen (mCons (m2 oIx (mV 1) (mC (.int 0))) (mNil)))))) (sSeq (sAsg 3 (mN (fun S ds => C f_l_tips ds S) (mCons (mV 2) (mNil)))) (sSeq (sAsg 4 (mN (fun S ds => C f_p_tips ds S) (mCons (mV 2) (mNil)))) (sSeq (sIf (mOr (mNot (m1 (oIsT "list") (mV 4))) (mOr (m2 (oNe) (mV 4) (mV 3)) (mNot (mN oAll (mCons (mComp false (mCons (mV 4) mNil) itemsA [9] [9] (mC (.bl true)) (mN (fun S ds => C f_l_hang ds S) (mCons (mV 9) (mNil)))) (mNil)))))) (sRet (mC (.bl false))) (sNil)) (sSeq (sAsg 5 (mN (fun S ds => C f_l_words ds S) (mCons (mV 2) (mNil)))) (sSeq (sAsg 6 (mN (fun S ds => C f_p_knots ds S) (mCons (mV 2) (mNil)))) (sSeq (sIf (mOr (mNot (m1 (oIsT "tuple") (mV 6))) (mOr (m2 (oNe) (mN oLen (mCons (mV 6) (mNil))) (mC (.int 2))) (mOr (mNot (mN (fun S ds => C f_l_whole ds S) (mCons (m2 oIx (mV 6) (mC (.int 0))) (mNil)))) (mNot (mN (fun S ds => C f_l_whole ds S) (mCons (m2 oIx (mV 6) (mC (.int 1))) (mNil))))))) (sRet (mC (.bl false))) (sNil)) (sSeq (sIf (m2 (oNe) (mV 6) (mN oTup (mCons (mBM "list" oCount (mV 5) (mCons (mC (.str "fast")) (mNil))) (mCons (mBM "list" oCount (mV 5) (mCons (mC (.str "loose")) (mNil))) (mNil))))) (sRet (mC (.bl false))) (sNil)) (sSeq (sAsg 7 (mDisp [(mN (fun S ds => C f_l_number ds S) (mCons (m2 oIx (mV 1) (mC (.int 3))) (mNil)), mC (.int 7))])) (sSeq (sFor (mCons (mV 3) (mNil)) itemsE [8, 9] (sIf (m2 (oEq) (m2 (oMod) (m2 (oDiv) (mN (fun S ds => C f_l_cell ds S) (mCons (mV 0) (mCons (mC (.int 1)) (mNil)))) (m2 (oAdd false) (mV 8) (mC (.int 1)))) (mC (.int 2))) (mC (.int 0))) (sSub (m2 (oAdd false) (m2 (oMod) (mN (fun S ds => C f_l_cell ds S) (mCons (mV 0) (mCons (mC (.int 1)) (mNil)))) (m2 (oPow) (mC (.int 10)) (mC (.int 12)))) (m2 (oMul false) (mC (.int 3)) (mV 8))) (mV 7) (m2 oIx (mV 9) (mC (.int 2)))) (sNil))) (sSeq (sAsg 10 (mN oDict (mCons (mV 7) (mNil)))) (sSeq (sAsg 11 (mN (fun S ds => C f_p_renamed ds S) (mCons (mV 2) (mCons (mV 7) (mNil))))) (sRet (mAnd (mN (fun S ds => C f_l_hang ds S) (mCons (mV 11) (mNil))) (mAnd (m2 (oEq) (mV 11) (mN (fun S ds => C f_l_renamed ds S) (mCons (mV 2) (mCons (mV 10) (mNil))))) (m2 (oEqX) (mV 7) (mV 10)))))))))))))))))) }
abbrev f_l_above : Nat := 160
abbrev f_l_bare : Nat := 23
abbrev f_l_hangs : Nat := 40
abbrev f_l_high : Nat := 159
abbrev f_l_many_knots : Nat := 19
abbrev f_l_named : Nat := 53
abbrev f_l_net : Nat := 42
abbrev f_l_pairs : Nat := 41
abbrev f_l_some : Nat := 169
abbrev f_l_spoiled : Nat := 25
abbrev f_l_three_ways : Nat := 39
abbrev f_l_told : Nat := 54
abbrev f_l_truth : Nat := 26
abbrev f_l_turned : Nat := 20
abbrev f_l_two_turned : Nat := 38
abbrev f_l_up : Nat := 55
abbrev f_l_with_tip : Nat := 24
abbrev f_p_Net_init : Nat := 35
abbrev f_p_alike : Nat := 52
abbrev f_p_all_tips : Nat := 34
abbrev f_p_check_cords : Nat := 37
abbrev f_p_drawn : Nat := 127
abbrev f_p_drawn_out : Nat := 132
abbrev f_p_facing : Nat := 134
abbrev f_p_joined : Nat := 152
abbrev f_p_lifted : Nat := 51
abbrev f_p_mirrored : Nat := 1
abbrev f_p_mirrors : Nat := 2
abbrev f_p_net_tips : Nat := 36
abbrev f_p_road : Nat := 135
abbrev f_p_told : Nat := 50
abbrev f_p_way : Nat := 136
abbrev f_p_with_names : Nat := 49
noncomputable def b_l_above : Body := { cut := false, ar := 1, sl := 1, code := fun C I => sRet (m2 (oAdd false) (m2 (oAdd false) (m2 oIx (m2 oIx (mV 0) (mC (.int 3))) (mC (.int 0))) (m2 (oMul false) (m2 oIx (m2 oIx (mV 0) (mC (.int 3))) (mC (.int 1))) (mC (.int 300)))) (m2 (oPow) (mC (.int 10)) (mC (.int 6)))) }
noncomputable def b_l_bare : Body := { cut := false, ar := 1, sl := 1, code := fun C I => sSeq (sIf (mN (fun S ds => C f_l_is_tip ds S) (mCons (mV 0) (mNil))) (sRet (mN oTup (mCons (m2 oIx (mV 0) (mC (.int 0))) (mCons (m2 oIx (mV 0) (mC (.int 1))) (mCons (mC (.int 0)) (mNil)))))) (sNil)) (sRet (mN oTup (mCons (m2 oIx (mV 0) (mC (.int 0))) (mCons (mN (fun S ds => C f_l_bare ds S) (mCons (m2 oIx (mV 0) (mC (.int 1))) (mNil))) (mCons (mN (fun S ds => C f_l_bare ds S) (mCons (m2 oIx (mV 0) (mC (.int 2))) (mNil))) (mNil)))))) }
noncomputable def b_l_hangs : Body := { cut := false, ar := 2, sl := 4, code := fun C I => sSeq (sIf (mOr (mNot (m1 (oIsT "list") (mV 0))) (m2 (oNe) (mN oLen (mCons (mV 0) (mNil))) (mN oLen (mCons (mV 1) (mNil))))) (sRet (mC (.bl false))) (sNil)) (sSeq (sFor (mCons (mV 0) (mCons (mV 1) (mNil))) itemsZ [2, 3] (sIf (mOr (mNot (mN (fun S ds => C f_l_hang ds S) (mCons (mV 2) (mNil)))) (m2 (oNe) (mV 2) (mV 3))) (sRet (mC (.bl false))) (sNil))) (sRet (mC (.bl true)))) }
noncomputable def b_l_high : Body := { cut := false, ar := 2, sl := 5, code := fun C I => sSeq (sAsg 2 (mComp false (mCons (m2 oIx (mV 0) (mC (.int 2))) mNil) itemsA [3] [3] (mC (.bl true)) (mN oTup (mCons (mN (fun S ds => C f_l_up ds S) (mCons (m2 oIx (mV 3) (mC (.int 0))) (mCons (mV 1) (mNil)))) (mCons (mN (fun S ds => C f_l_up ds S) (mCons (m2 oIx (mV 3) (mC (.int 1))) (mCons (mV 1) (mNil)))) (mNil)))))) (sRet (mN oTup (mCons (mComp false (mCons (m2 oIx (mV 0) (mC (.int 0))) mNil) itemsA [4] [4] (mC (.bl true)) (mN (fun S ds => C f_l_up ds S) (mCons (mV 4) (mCons (mV 1) (mNil))))) (mCons (mV 2) (mNil))))) }
noncomputable def b_l_many_knots : Body := { cut := false, ar := 1, sl := 1, code := fun C I => sSeq (sIf (mN (fun S ds => C f_l_is_tip ds S) (mCons (mV 0) (mNil))) (sRet (mC (.int 0))) (sNil)) (sRet (m2 (oAdd false) (m2 (oAdd false) (mC (.int 1)) (mN (fun S ds => C f_l_many_knots ds S) (mCons (m2 oIx (mV 0) (mC (.int 1))) (mNil)))) (mN (fun S ds => C f_l_many_knots ds S) (mCons (m2 oIx (mV 0) (mC (.int 2))) (mNil))))) }
noncomputable def b_l_named : Body := { cut := false, ar := 2, sl := 3, code := fun C I => sSeq (sIf (mNot (mN (fun S ds => C f_l_is_tip ds S) (mCons (mV 0) (mNil)))) (sSeq (sAsg 2 (mN (fun S ds => C f_l_named ds S) (mCons (m2 oIx (mV 0) (mC (.int 1))) (mCons (mV 1) (mNil))))) (sRet (mN oTup (mCons (m2 oIx (mV 0) (mC (.int 0))) (mCons (mV 2) (mCons (mN (fun S ds => C f_l_named ds S) (mCons (m2 oIx (mV 0) (mC (.int 2))) (mCons (mV 1) (mNil)))) (mNil))))))) (sNil)) (sSeq (sIf (m2 (oNotIn) (m2 oIx (mV 0) (mC (.int 2))) (mV 1)) (sSub (mN oLen (mCons (mV 1) (mNil))) (mV 1) (m2 oIx (mV 0) (mC (.int 2)))) (sNil)) (sRet (mN oTup (mCons (m2 oIx (mV 0) (mC (.int 0))) (mCons (m2 oIx (mV 0) (mC (.int 1))) (mCons (m2 oIx (mV 1) (m2 oIx (mV 0) (mC (.int 2)))) (mNil))))))) }
noncomputable def b_l_net : Body := { cut := false, ar := 4, sl := 4, code := fun C I => sSeq (sIf (mOr (mNot (m1 (oIsC 7) (mV 0))) (mOr (mNot (mN (fun S ds => C f_l_hangs ds S) (mCons (m1 (oFld 7 "rack") (mV 0)) (mCons (mV 1) (mNil))))) (mNot (mN (fun S ds => C f_l_pairs ds S) (mCons (m1 (oFld 7 "splices") (mV 0)) (mCons (mV 2) (mNil))))))) (sRet (mC (.bl false))) (sNil)) (sRet (mAnd (mN (fun S ds => C f_l_whole ds S) (mCons (m1 (oFld 7 "rings") (mV 0)) (mNil))) (m2 (oEq) (m1 (oFld 7 "rings") (mV 0)) (mV 3)))) }
noncomputable def b_l_pairs : Body := { cut := false, ar := 2, sl := 4, code := fun C I => sSeq (sIf (mOr (mNot (m1 (oIsT "list") (mV 0))) (m2 (oNe) (mN oLen (mCons (mV 0) (mNil))) (mN oLen (mCons (mV 1) (mNil))))) (sRet (mC (.bl false))) (sNil)) (sSeq (sFor (mCons (mV 0) (mCons (mV 1) (mNil))) itemsZ [2, 3] (sIf (mOr (mNot (m1 (oIsT "tuple") (mV 2))) (mNot (mN (fun S ds => C f_l_hangs ds S) (mCons (mN (oList false) (mCons (mV 2) (mNil))) (mCons (mN (oList false) (mCons (mV 3) (mNil))) (mNil)))))) (sRet (mC (.bl false))) (sNil))) (sRet (mC (.bl true)))) }
noncomputable def b_l_some : Body := { cut := false, ar := 3, sl := 4, code := fun C I => sSeq (sAsg 3 (mN (fun S ds => C f_l_three_ways ds S) (mCons (mV 0) (mCons (mV 1) (mCons (mV 2) (mNil)))))) (sSeq (sIf (m2 (oEq) (m2 oIx (mV 3) (mC (.int 0))) (mN (oLst false) (mNil))) (sDrop (mN (fun S ds => C f_l_add_cord ds S) (mCons (mV 3) (mCons (mN (fun S ds => C f_l_cell ds S) (mCons (mV 0) (mCons (mV 1) (mNil)))) (mNil))))) (sNil)) (sRet (mV 3))) }
noncomputable def b_l_spoiled : Body := { cut := false, ar := 3, sl := 6, code := fun C I => sSeq (sAsg 3 (m2 (oMod) (mV 2) (mN oLen (mCons (mN (fun S ds => C f_l_tips ds S) (mCons (mV 0) (mNil))) (mNil))))) (sSeq (sAsg 4 (m2 oIx (mN (fun S ds => C f_l_tips ds S) (mCons (mV 0) (mNil))) (mV 3))) (sSeq (sIf (m2 (oEq) (mV 1) (mC (.int 1))) (sRet (mN (fun S ds => C f_l_with_tip ds S) (mCons (mV 0) (mCons (mV 3) (mCons (mN (fun S ds => C f_l_mirror ds S) (mCons (mV 4) (mNil))) (mNil)))))) (sNil)) (sSeq (sIf (m2 (oEq) (mV 1) (mC (.int 2))) (sSeq (sAsg 5 (m2 (oAdd false) (m2 oIx (mV 4) (mC (.int 1))) (mC (.str "k")))) (sSeq (sIf (m2 (oCmp fun i j => decide (j < i)) (mN oLen (mCons (m2 oIx (mV 4) (mC (.int 1))) (mNil))) (mC (.int 19))) (sAsg 5 (mSl false (m2 oIx (mV 4) (mC (.int 1))) (oNo) (oSome (mC (.int 19))))) (sNil)) (sRet (mN (fun S ds => C f_l_with_tip ds S) (mCons (mV 0) (mCons (mV 3) (mCons (mN oTup (mCons (m2 oIx (mV 4) (mC (.int 0))) (mCons (mV 5) (mCons (m2 oIx (mV 4) (mC (.int 2))) (mNil))))) (mNil)))))))) (sNil)) (sSeq (sIf (m2 (oEq) (mV 1) (mC (.int 3))) (sRet (mN (fun S ds => C f_l_with_tip ds S) (mCons (mV 0) (mCons (mV 3) (mCons (mN oTup (mCons (m2 oIx (mN (oLst false) (mCons (mC (.str "fast")) (mCons (mC (.str "loose")) (mNil)))) (m2 (oMod) (m2 (oDiv) (mV 2) (mC (.int 64))) (mC (.int 2)))) (mCons (mV 4) (mCons (mV 4) (mNil))))) (mNil)))))) (sNil)) (sSeq (sIf (m2 (oEq) (mV 1) (mC (.int 4))) (sRet (mN (fun S ds => C f_l_turned ds S) (mCons (mV 0) (mCons (m2 (oMod) (mV 2) (m2 (oAdd false) (mN (fun S ds => C f_l_many_knots ds S) (mCons (mV 0) (mNil))) (mC (.int 1)))) (mNil))))) (sNil)) (sRet (mV 0))))))) }
noncomputable def b_l_three_ways : Body := { cut := false, ar := 3, sl := 8, code := fun C I => sSeq (sAsg 3 (m2 (oMod) (mN (fun S ds => C f_l_cell ds S) (mCons (mV 0) (mCons (mV 1) (mNil)))) (mC (.int 3)))) (sSeq (sAsg 4 (mN (fun S ds => C f_l_loft ds S) (mCons (mV 0) (mCons (m2 (oAdd false) (mV 1) (mC (.int 1))) (mCons (mV 2) (mCons (m2 (oCmp fun i j => decide (j < i)) (mV 3) (mC (.int 0))) (mNil))))))) (sSeq (sAsg 5 (m2 (oDiv) (mN (fun S ds => C f_l_cell ds S) (mCons (mV 0) (mCons (mV 1) (mNil)))) (mC (.int 6)))) (sSeq (sIf (mAnd (m2 (oEq) (mV 3) (mC (.int 2))) (m2 (oEq) (m2 (oMod) (m2 (oDiv) (mN (fun S ds => C f_l_cell ds S) (mCons (mV 0) (mCons (mV 1) (mNil)))) (mC (.int 3))) (mC (.int 2))) (mC (.int 1)))) (sDrop (mN (fun S ds => C f_l_two_turned ds S) (mCons (mV 4) (mCons (mV 5) (mNil))))) (sIf (m2 (oEq) (mV 3) (mC (.int 2))) (sSeq (sAsg 6 (m2 (oMod) (mV 5) (mN oLen (mCons (m2 oIx (mV 4) (mC (.int 0))) (mNil))))) (sSeq (sAsg 7 (mN (fun S ds => C f_l_many_knots ds S) (mCons (m2 oIx (m2 oIx (mV 4) (mC (.int 0))) (mV 6)) (mNil)))) (sSub (mN (fun S ds => C f_l_turned ds S) (mCons (m2 oIx (m2 oIx (mV 4) (mC (.int 0))) (mV 6)) (mCons (m2 (oMod) (m2 (oDiv) (mV 5) (mC (.int 64))) (m2 (oAdd false) (mV 7) (mC (.int 1)))) (mNil)))) (m2 oIx (mV 4) (mC (.int 0))) (mV 6)))) (sNil))) (sRet (mV 4))))) }
noncomputable def b_l_told : Body := { cut := true, ar := 2, sl := 8, code := fun C I => sSeq (sAsg 2 (mDk)) (sSeq (sAsg 3 (mComp false (mCons (mV 0) mNil) itemsA [7] [7] (mC (.bl true)) (mN (fun S ds => C f_l_named ds S) (mCons (mV 7) (mCons (mV 2) (mNil)))))) (sSeq (sAsg 4 (mN (oLst true) (mNil))) (sSeq (sFor (mCons (mV 1) mNil) itemsA [5] (sSeq (sAsg 6 (mN (fun S ds => C f_l_named ds S) (mCons (m2 oIx (mV 5) (mC (.int 0))) (mCons (mV 2) (mNil))))) (sDrop (mBM "list" oAppend (mV 4) (mCons (mN oTup (mCons (mV 6) (mCons (mN (fun S ds => C f_l_named ds S) (mCons (m2 oIx (mV 5) (mC (.int 1))) (mCons (mV 2) (mNil)))) (mNil)))) (mNil)))))) (sRet (mN oTup (mCons (mV 3) (mCons (mV 4) (mNil)))))))) }
noncomputable def b_l_truth : Body := { cut := false, ar := 2, sl := 2, code := fun C I => sRet (mAnd (m1 (oIsT "bool") (mV 0)) (m2 (oEq) (mV 0) (mV 1))) }
noncomputable def b_l_turned : Body := { cut := false, ar := 2, sl := 3, code := fun C I => sSeq (sIf (mOr (m2 (oCmp fun i j => decide (i < j)) (mV 1) (mC (.int 0))) (m2 (oCmp fun i j => decide (j ≤ i)) (mV 1) (mN (fun S ds => C f_l_many_knots ds S) (mCons (mV 0) (mNil))))) (sRet (mV 0)) (sNil)) (sSeq (sIf (m2 (oEq) (mV 1) (mC (.int 0))) (sRet (mN oTup (mCons (m1 (oDisp [((.inr "fast"), .str "loose"), ((.inr "loose"), .str "fast")]) (m2 oIx (mV 0) (mC (.int 0)))) (mCons (m2 oIx (mV 0) (mC (.int 1))) (mCons (m2 oIx (mV 0) (mC (.int 2))) (mNil)))))) (sNil)) (sSeq (sAsg 2 (mN (fun S ds => C f_l_many_knots ds S) (mCons (m2 oIx (mV 0) (mC (.int 1))) (mNil)))) (sRet (mN oTup (mCons (m2 oIx (mV 0) (mC (.int 0))) (mCons (mN (fun S ds => C f_l_turned ds S) (mCons (m2 oIx (mV 0) (mC (.int 1))) (mCons (m2 (oSub) (mV 1) (mC (.int 1))) (mNil)))) (mCons (mN (fun S ds => C f_l_turned ds S) (mCons (m2 oIx (mV 0) (mC (.int 2))) (mCons (m2 (oSub) (m2 (oSub) (mV 1) (mC (.int 1))) (mV 2)) (mNil)))) (mNil)))))))) }
noncomputable def b_l_two_turned : Body := { cut := false, ar := 2, sl := 7, code := fun C I => sSeq (sAsg 2 (mDisp [(mC (.str "loose"), mN (oLst true) (mNil)), (mC (.str "fast"), mN (oLst true) (mNil))])) (sSeq (sFor (mCons (m2 oIx (mV 0) (mC (.int 0))) (mNil)) itemsE [3, 4] (sFor (mCons (mN (fun S ds => C f_l_words ds S) (mCons (mV 4) (mNil))) (mNil)) itemsE [5, 6] (sDrop (mBM "list" oAppend (m2 oIx (mV 2) (mV 6)) (mCons (mN oTup (mCons (mV 3) (mCons (mV 5) (mNil)))) (mNil)))))) (sFor (mCons (mN (oLst false) (mCons (mC (.str "loose")) (mCons (mC (.str "fast")) (mNil)))) mNil) itemsA [6] (sIf (mAnd (m2 (oNe) (m2 oIx (mV 2) (mC (.str "loose"))) (mN (oLst false) (mNil))) (m2 (oNe) (m2 oIx (mV 2) (mC (.str "fast"))) (mN (oLst false) (mNil)))) (sSeq (sAsgs [3, 5] (m2 oIx (m2 oIx (mV 2) (mV 6)) (m2 (oMod) (mV 1) (mN oLen (mCons (m2 oIx (mV 2) (mV 6)) (mNil)))))) (sSeq (sSub (mN (fun S ds => C f_l_turned ds S) (mCons (m2 oIx (m2 oIx (mV 0) (mC (.int 0))) (mV 3)) (mCons (mV 5) (mNil)))) (m2 oIx (mV 0) (mC (.int 0))) (mV 3)) (sAsg 1 (m2 (oDiv) (mV 1) (mC (.int 64)))))) (sNil)))) }
noncomputable def b_l_up : Body := { cut := false, ar := 2, sl := 2, code := fun C I => sSeq (sIf (mN (fun S ds => C f_l_is_tip ds S) (mCons (mV 0) (mNil))) (sRet (mN oTup (mCons (m2 oIx (mV 0) (mC (.int 0))) (mCons (m2 oIx (mV 0) (mC (.int 1))) (mCons (m2 (oAdd false) (m2 oIx (mV 0) (mC (.int 2))) (mV 1)) (mNil)))))) (sNil)) (sRet (mN oTup (mCons (m2 oIx (mV 0) (mC (.int 0))) (mCons (mN (fun S ds => C f_l_up ds S) (mCons (m2 oIx (mV 0) (mC (.int 1))) (mCons (mV 1) (mNil)))) (mCons (mN (fun S ds => C f_l_up ds S) (mCons (m2 oIx (mV 0) (mC (.int 2))) (mCons (mV 1) (mNil)))) (mNil)))))) }
noncomputable def b_l_with_tip : Body := { cut := false, ar := 3, sl := 4, code := fun C I => sSeq (sIf (mN (fun S ds => C f_l_is_tip ds S) (mCons (mV 0) (mNil))) (sRet (mV 2)) (sNil)) (sSeq (sAsg 3 (mN oLen (mCons (mN (fun S ds => C f_l_tips ds S) (mCons (m2 oIx (mV 0) (mC (.int 1))) (mNil))) (mNil)))) (sSeq (sIf (m2 (oCmp fun i j => decide (i < j)) (mV 1) (mV 3)) (sRet (mN oTup (mCons (m2 oIx (mV 0) (mC (.int 0))) (mCons (mN (fun S ds => C f_l_with_tip ds S) (mCons (m2 oIx (mV 0) (mC (.int 1))) (mCons (mV 1) (mCons (mV 2) (mNil))))) (mCons (m2 oIx (mV 0) (mC (.int 2))) (mNil)))))) (sNil)) (sRet (mN oTup (mCons (m2 oIx (mV 0) (mC (.int 0))) (mCons (m2 oIx (mV 0) (mC (.int 1))) (mCons (mN (fun S ds => C f_l_with_tip ds S) (mCons (m2 oIx (mV 0) (mC (.int 2))) (mCons (m2 (oSub) (mV 1) (mV 3)) (mCons (mV 2) (mNil))))) (mNil)))))))) }
noncomputable def b_p_Net_init : Body := { cut := false, ar := 4, sl := 5, code := fun C I => sSeq (sFldM 7 "rack" (mN (oList false) (mCons (mV 1) (mNil))) (mV 0)) (sSeq (sFldM 7 "splices" (mN (oLst false) (mNil)) (mV 0)) (sSeq (sIf (m2 (oNotN) (mV 2) (mC .non)) (sFldM 7 "splices" (mComp false (mCons (mV 2) mNil) itemsA [4] [4] (mC (.bl true)) (mN oTuple (mCons (mV 4) (mNil)))) (mV 0)) (sNil)) (sSeq (sFldM 7 "rings" (mV 3) (mV 0)) (sSeq (sDrop (mN (fun S ds => C f_p_check_cords ds S) (mCons (mN (fun S ds => C f_p_net_tips ds S) (mCons (mV 0) (mNil))) (mNil)))) (sFor (mCons (m1 (oFld 7 "splices") (mV 0)) mNil) itemsA [4] (sIf (mNot (mN (fun S ds => C f_p_mirrors ds S) (mCons (m2 oIx (mV 4) (mC (.int 0))) (mCons (m2 oIx (mV 4) (mC (.int 1))) (mNil))))) (sRaise 3) (sNil))))))) }
noncomputable def b_p_alike : Body := { cut := false, ar := 2, sl := 4, code := fun C I => sSeq (sAsg 2 (mN (fun S ds => C f_p_told ds S) (mCons (mV 0) (mNil)))) (sSeq (sAsg 3 (mN (fun S ds => C f_p_told ds S) (mCons (mV 1) (mNil)))) (sRet (mAnd (m2 (oEq) (m1 (oFld 7 "rack") (mV 2)) (m1 (oFld 7 "rack") (mV 3))) (mAnd (m2 (oEq) (m1 (oFld 7 "splices") (mV 2)) (m1 (oFld 7 "splices") (mV 3))) (m2 (oEq) (m1 (oFld 7 "rings") (mV 2)) (m1 (oFld 7 "rings") (mV 3))))))) }
noncomputable def b_p_all_tips : Body := { cut := false, ar := 1, sl := 3, code := fun C I => sSeq (sAsg 1 (mN (oLst true) (mNil))) (sSeq (sFor (mCons (mV 0) mNil) itemsA [2] (sDrop (mBM "list" oExtend (mV 1) (mCons (mN (fun S ds => C f_p_tips ds S) (mCons (mV 2) (mNil))) (mNil))))) (sRet (mV 1))) }
noncomputable def b_p_check_cords : Body := { cut := true, ar := 1, sl := 5, code := fun C I => sSeq (sAsg 1 (mDk)) (sSeq (sAsg 2 (mDk)) (sSeq (sFor (mCons (mV 0) mNil) itemsA [3] (sSeq (sAsg 4 (mV 1)) (sSeq (sIf (m2 (oEq) (m2 oIx (mV 3) (mC (.int 0))) (mC (.str "dark"))) (sAsg 4 (mV 2)) (sNil)) (sSeq (sIf (m2 (oIn) (m2 oIx (mV 3) (mC (.int 2))) (mV 4)) (sRaise 2) (sNil)) (sSub (m2 oIx (mV 3) (mC (.int 1))) (mV 4) (m2 oIx (mV 3) (mC (.int 2)))))))) (sIf (m2 (oNeX) (mV 1) (mV 2)) (sRaise 2) (sNil)))) }
noncomputable def b_p_drawn : Body := { cut := true, ar := 2, sl := 12, code := fun C I => sSeq (sIf (mNot (mChain (oCmp fun i j => decide (i ≤ j)) (oCmp fun i j => decide (i < j)) (mC (.int 0)) (mV 1) (mN oLen (mCons (m1 (oFld 7 "splices") (mV 0)) (mNil))))) (sRaise 4) (sNil)) (sSeq (sAsg 2 (m2 oIx (m2 oIx (m1 (oFld 7 "splices") (mV 0)) (mV 1)) (mC (.int 0)))) (sSeq (sAsg 3 (m2 oIx (m2 oIx (m1 (oFld 7 "splices") (mV 0)) (mV 1)) (mC (.int 1)))) (sSeq (sAsg 4 (mSl false (m1 (oFld 7 "splices") (mV 0)) (oNo) (oSome (mV 1)))) (sSeq (sAsg 5 (mSl false (m1 (oFld 7 "splices") (mV 0)) (oSome (m2 (oAdd false) (mV 1) (mC (.int 1)))) (oNo))) (sSeq (sIf (mNot (mN (fun S ds => C f_p_is_tip ds S) (mCons (mV 2) (mNil)))) (sRet (mMake 7 true (fun ds S => I f_p_Net_init ds S) [] (mCons (m1 (oFld 7 "rack") (mV 0)) (mCons (m2 (oAdd false) (m2 (oAdd false) (mV 4) (mN (oLst false) (mCons (mN oTup (mCons (m2 oIx (mV 2) (mC (.int 1))) (mCons (m2 oIx (mV 3) (mC (.int 1))) (mNil)))) (mCons (mN oTup (mCons (m2 oIx (mV 2) (mC (.int 2))) (mCons (m2 oIx (mV 3) (mC (.int 2))) (mNil)))) (mNil))))) (mV 5)) (mCons (m1 (oFld 7 "rings") (mV 0)) (mNil)))))) (sNil)) (sSeq (sIf (m2 (oEq) (m2 oIx (mV 2) (mC (.int 2))) (m2 oIx (mV 3) (mC (.int 2)))) (sRet (mMake 7 true (fun ds S => I f_p_Net_init ds S) [] (mCons (m1 (oFld 7 "rack") (mV 0)) (mCons (m2 (oAdd false) (mV 4) (mV 5)) (mCons (m2 (oAdd false) (m1 (oFld 7 "rings") (mV 0)) (mC (.int 1))) (mNil)))))) (sNil)) (sSeq (sAsg 6 (mN oMin2 (mCons (m2 oIx (mV 2) (mC (.int 2))) (mCons (m2 oIx (mV 3) (mC (.int 2))) (mNil))))) (sSeq (sAsg 7 (mDisp [(m2 oIx (mV 2) (mC (.int 2)), mV 6), (m2 oIx (mV 3) (mC (.int 2)), mV 6)])) (sSeq (sAsg 8 (mComp false (mCons (m1 (oFld 7 "rack") (mV 0)) mNil) itemsA [10] [10] (mC (.bl true)) (mN (fun S ds => C f_p_renamed ds S) (mCons (mV 10) (mCons (mV 7) (mNil)))))) (sSeq (sAsg 9 (mComp false (mCons (m2 (oAdd false) (mV 4) (mV 5)) mNil) itemsA [11] [11] (mC (.bl true)) (mN oTup (mCons (mN (fun S ds => C f_p_renamed ds S) (mCons (m2 oIx (mV 11) (mC (.int 0))) (mCons (mV 7) (mNil)))) (mCons (mN (fun S ds => C f_p_renamed ds S) (mCons (m2 oIx (mV 11) (mC (.int 1))) (mCons (mV 7) (mNil)))) (mNil)))))) (sRet (mMake 7 true (fun ds S => I f_p_Net_init ds S) [] (mCons (mV 8) (mCons (mV 9) (mCons (m1 (oFld 7 "rings") (mV 0)) (mNil)))))))))))))))) }
noncomputable def b_p_drawn_out : Body := { cut := false, ar := 1, sl := 1, code := fun C I => sSeq (sAsg 0 (mMake 7 true (fun ds S => I f_p_Net_init ds S) [] (mCons (m1 (oFld 7 "rack") (mV 0)) (mCons (m1 (oFld 7 "splices") (mV 0)) (mCons (m1 (oFld 7 "rings") (mV 0)) (mNil)))))) (sSeq (whileN (mTru (m1 (oFld 7 "splices") (mV 0))) (sAsg 0 (mN (fun S ds => C f_p_drawn ds S) (mCons (mV 0) (mCons (mC (.int 0)) (mNil))))) 100000) (sRet (mV 0))) }
noncomputable def b_p_facing : Body := { cut := false, ar := 1, sl := 5, code := fun C I => sSeq (sAsg 1 (mDt)) (sSeq (sFor (mCons (m1 (oFld 7 "splices") (mV 0)) mNil) itemsA [2] (sFor (mCons (mN (fun S ds => C f_p_tips ds S) (mCons (m2 oIx (mV 2) (mC (.int 0))) (mNil))) (mCons (mN (fun S ds => C f_p_tips ds S) (mCons (m2 oIx (mV 2) (mC (.int 1))) (mNil))) (mNil))) itemsZ [3, 4] (sSeq (sSub (mV 4) (mV 1) (mV 3)) (sSub (mV 3) (mV 1) (mV 4))))) (sRet (mV 1))) }
noncomputable def b_p_joined : Body := { cut := false, ar := 4, sl := 6, code := fun C I => sSeq (sIf (mOr (mNot (mChain (oCmp fun i j => decide (i ≤ j)) (oCmp fun i j => decide (i < j)) (mC (.int 0)) (mV 1) (mN oLen (mCons (m1 (oFld 7 "rack") (mV 0)) (mNil))))) (mNot (mChain (oCmp fun i j => decide (i ≤ j)) (oCmp fun i j => decide (i < j)) (mC (.int 0)) (mV 3) (mN oLen (mCons (m1 (oFld 7 "rack") (mV 2)) (mNil)))))) (sRaise 4) (sNil)) (sSeq (sIf (mNot (mN (fun S ds => C f_p_mirrors ds S) (mCons (m2 oIx (m1 (oFld 7 "rack") (mV 0)) (mV 1)) (mCons (m2 oIx (m1 (oFld 7 "rack") (mV 2)) (mV 3)) (mNil))))) (sRaise 3) (sNil)) (sSeq (sAsg 4 (m2 (oAdd false) (m2 (oAdd false) (m2 (oAdd false) (mSl false (m1 (oFld 7 "rack") (mV 0)) (oNo) (oSome (mV 1))) (mSl false (m1 (oFld 7 "rack") (mV 0)) (oSome (m2 (oAdd false) (mV 1) (mC (.int 1)))) (oNo))) (mSl false (m1 (oFld 7 "rack") (mV 2)) (oNo) (oSome (mV 3)))) (mSl false (m1 (oFld 7 "rack") (mV 2)) (oSome (m2 (oAdd false) (mV 3) (mC (.int 1)))) (oNo)))) (sSeq (sAsg 5 (m2 (oAdd false) (m2 (oAdd false) (m1 (oFld 7 "splices") (mV 0)) (m1 (oFld 7 "splices") (mV 2))) (mN (oLst false) (mCons (mN oTup (mCons (m2 oIx (m1 (oFld 7 "rack") (mV 0)) (mV 1)) (mCons (m2 oIx (m1 (oFld 7 "rack") (mV 2)) (mV 3)) (mNil)))) (mNil))))) (sRet (mMake 7 true (fun ds S => I f_p_Net_init ds S) [] (mCons (mV 4) (mCons (mV 5) (mCons (m2 (oAdd false) (m1 (oFld 7 "rings") (mV 0)) (m1 (oFld 7 "rings") (mV 2))) (mNil))))))))) }
noncomputable def b_p_lifted : Body := { cut := true, ar := 2, sl := 4, code := fun C I => sSeq (sAsg 2 (mDk)) (sSeq (sFor (mCons (mN (fun S ds => C f_p_net_tips ds S) (mCons (mV 0) (mNil))) mNil) itemsA [3] (sSub (m2 (oAdd false) (m2 oIx (mV 3) (mC (.int 2))) (mV 1)) (mV 2) (m2 oIx (mV 3) (mC (.int 2))))) (sRet (mN (fun S ds => C f_p_with_names ds S) (mCons (mV 0) (mCons (mV 2) (mNil)))))) }
noncomputable def b_p_mirrored : Body := { cut := false, ar := 1, sl := 2, code := fun C I => sSeq (sIf (m2 (oEq) (m2 oIx (mV 0) (mC (.int 0))) (mC (.str "light"))) (sRet (mN oTup (mCons (mC (.str "dark")) (mCons (m2 oIx (mV 0) (mC (.int 1))) (mCons (m2 oIx (mV 0) (mC (.int 2))) (mNil)))))) (sNil)) (sSeq (sIf (m2 (oEq) (m2 oIx (mV 0) (mC (.int 0))) (mC (.str "dark"))) (sRet (mN oTup (mCons (mC (.str "light")) (mCons (m2 oIx (mV 0) (mC (.int 1))) (mCons (m2 oIx (mV 0) (mC (.int 2))) (mNil)))))) (sNil)) (sSeq (sAsg 1 (mC (.str "fast"))) (sSeq (sIf (m2 (oEq) (m2 oIx (mV 0) (mC (.int 0))) (mC (.str "fast"))) (sAsg 1 (mC (.str "loose"))) (sNil)) (sRet (mN oTup (mCons (mV 1) (mCons (mN (fun S ds => C f_p_mirrored ds S) (mCons (m2 oIx (mV 0) (mC (.int 1))) (mNil))) (mCons (mN (fun S ds => C f_p_mirrored ds S) (mCons (m2 oIx (mV 0) (mC (.int 2))) (mNil))) (mNil))))))))) }
noncomputable def b_p_mirrors : Body := { cut := false, ar := 2, sl := 2, code := fun C I => sSeq (sIf (mOr (m2 (oNe) (mN (fun S ds => C f_p_is_tip ds S) (mCons (mV 0) (mNil))) (mN (fun S ds => C f_p_is_tip ds S) (mCons (mV 1) (mNil)))) (m2 (oEq) (m2 oIx (mV 0) (mC (.int 0))) (m2 oIx (mV 1) (mC (.int 0))))) (sRet (mC (.bl false))) (sNil)) (sSeq (sIf (mN (fun S ds => C f_p_is_tip ds S) (mCons (mV 0) (mNil))) (sRet (m2 (oEq) (m2 oIx (mV 0) (mC (.int 1))) (m2 oIx (mV 1) (mC (.int 1))))) (sNil)) (sRet (mAnd (mN (fun S ds => C f_p_mirrors ds S) (mCons (m2 oIx (mV 0) (mC (.int 1))) (mCons (m2 oIx (mV 1) (mC (.int 1))) (mNil)))) (mN (fun S ds => C f_p_mirrors ds S) (mCons (m2 oIx (mV 0) (mC (.int 2))) (mCons (m2 oIx (mV 1) (mC (.int 2))) (mNil))))))) }
noncomputable def b_p_net_tips : Body := { cut := true, ar := 1, sl := 3, code := fun C I => sSeq (sAsg 1 (mN (fun S ds => C f_p_all_tips ds S) (mCons (m1 (oFld 7 "rack") (mV 0)) (mNil)))) (sSeq (sFor (mCons (m1 (oFld 7 "splices") (mV 0)) mNil) itemsA [2] (sDrop (mBM "list" oExtend (mV 1) (mCons (mN (fun S ds => C f_p_all_tips ds S) (mCons (mV 2) (mNil))) (mNil))))) (sRet (mV 1))) }
noncomputable def b_p_road : Body := { cut := true, ar := 2, sl := 3, code := fun C I => sSeq (sAsg 2 (mN (oLst true) (mCons (mV 1) (mCons (mN (fun S ds => C f_p_mirrored ds S) (mCons (mV 1) (mNil))) (mNil))))) (sSeq (whileN (mAnd (m2 (oIn) (m2 oIx (mV 2) (m1 oNeg (mC (.int 1)))) (mV 0)) (m2 (oNe) (m2 oIx (mV 0) (m2 oIx (mV 2) (m1 oNeg (mC (.int 1))))) (mV 1))) (sSeq (sDrop (mBM "list" oAppend (mV 2) (mCons (m2 oIx (mV 0) (m2 oIx (mV 2) (m1 oNeg (mC (.int 1))))) (mNil)))) (sDrop (mBM "list" oAppend (mV 2) (mCons (mN (fun S ds => C f_p_mirrored ds S) (mCons (m2 oIx (mV 2) (m1 oNeg (mC (.int 1)))) (mNil))) (mNil))))) 100000) (sRet (mV 2))) }
noncomputable def b_p_told : Body := { cut := true, ar := 1, sl := 3, code := fun C I => sSeq (sAsg 1 (mDk)) (sSeq (sFor (mCons (mN (fun S ds => C f_p_net_tips ds S) (mCons (mV 0) (mNil))) mNil) itemsA [2] (sIf (m2 (oNotIn) (m2 oIx (mV 2) (mC (.int 2))) (mV 1)) (sSub (mN oLen (mCons (mV 1) (mNil))) (mV 1) (m2 oIx (mV 2) (mC (.int 2)))) (sNil))) (sRet (mN (fun S ds => C f_p_with_names ds S) (mCons (mV 0) (mCons (mV 1) (mNil)))))) }
noncomputable def b_p_way : Body := { cut := true, ar := 2, sl := 2, code := fun C I => sSeq (sIf (m2 (oNotIn) (mV 1) (mN (fun S ds => C f_p_all_tips ds S) (mCons (m1 (oFld 7 "rack") (mV 0)) (mNil)))) (sRaise 4) (sNil)) (sRet (mN (fun S ds => C f_p_road ds S) (mCons (mN (fun S ds => C f_p_facing ds S) (mCons (mV 0) (mNil))) (mCons (mV 1) (mNil))))) }
noncomputable def b_p_with_names : Body := { cut := false, ar := 2, sl := 6, code := fun C I => sSeq (sAsg 2 (mComp false (mCons (m1 (oFld 7 "rack") (mV 0)) mNil) itemsA [4] [4] (mC (.bl true)) (mN (fun S ds => C f_p_renamed ds S) (mCons (mV 4) (mCons (mV 1) (mNil)))))) (sSeq (sAsg 3 (mComp false (mCons (m1 (oFld 7 "splices") (mV 0)) mNil) itemsA [5] [5] (mC (.bl true)) (mN oTup (mCons (mN (fun S ds => C f_p_renamed ds S) (mCons (m2 oIx (mV 5) (mC (.int 0))) (mCons (mV 1) (mNil)))) (mCons (mN (fun S ds => C f_p_renamed ds S) (mCons (m2 oIx (mV 5) (mC (.int 1))) (mCons (mV 1) (mNil)))) (mNil)))))) (sRet (mMake 7 true (fun ds S => I f_p_Net_init ds S) [] (mCons (mV 2) (mCons (mV 3) (mCons (m1 (oFld 7 "rings") (mV 0)) (mNil))))))) }
end Nl
namespace Nl
open PySem PySem.Spec PyProof.Rows L2 Sm
noncomputable def T : Nat → Option Body := fun i => ((f_p_is_tip, b_p_is_tip) :: (f_p_tips, b_p_tips) :: (f_p_knots, b_p_knots) :: (f_p_renamed, b_p_renamed) :: (f_l_stir, b_l_stir) :: (f_l_cell, b_l_cell) :: (f_l_cells, b_l_cells) :: (f_l_dye, b_l_dye) :: (f_l_book, b_l_book) :: (f_l_number, b_l_number) :: (f_l_is_tip, b_l_is_tip) :: (f_l_tips, b_l_tips) :: (f_l_mirror, b_l_mirror) :: (f_l_anew, b_l_anew) :: (f_l_add_cord, b_l_add_cord) :: (f_l_tie, b_l_tie) :: (f_l_add_knot, b_l_add_knot) :: (f_l_add_splice, b_l_add_splice) :: (f_l_close, b_l_close) :: (f_l_loft, b_l_loft) :: (f_l_whole, b_l_whole) :: (f_l_hang, b_l_hang) :: (f_l_words, b_l_words) :: (f_l_renamed, b_l_renamed) :: (f_law_k02, b_law_k02) :: []).lookup i
def top (i : Nat) : Stmt := PySem.Challenge.pw_netloft_k02_tips.main.body.getD i (.Pass ⟨0, 0, 0, 0⟩)
abbrev s_p_is_tip : Stmt := top 1
abbrev N_p_is_tip : List Str := ["hang"]
abbrev N_p_is_tip_ps : List Str := ["hang"]
theorem sc_p_is_tip : FnScope N_p_is_tip ["hang"] (defScope s_p_is_tip) := ⟨rfl, rfl, rfl, by decide +kernel, rfl, by decide +kernel, by decide +kernel⟩
abbrev s_p_tips : Stmt := top 2
abbrev N_p_tips : List Str := ["hang"]
abbrev N_p_tips_ps : List Str := ["hang"]
theorem sc_p_tips : FnScope N_p_tips ["hang"] (defScope s_p_tips) := ⟨rfl, rfl, rfl, by decide +kernel, rfl, by decide +kernel, by decide +kernel⟩
abbrev s_p_knots : Stmt := top 3
abbrev N_p_knots : List Str := ["hang", "left", "right", "fast", "loose"]
abbrev N_p_knots_ps : List Str := ["hang"]
theorem sc_p_knots : FnScope N_p_knots ["hang"] (defScope s_p_knots) := ⟨rfl, rfl, rfl, by decide +kernel, rfl, by decide +kernel, by decide +kernel⟩
abbrev s_p_renamed : Stmt := top 4
abbrev N_p_renamed : List Str := ["hang", "names"]
abbrev N_p_renamed_ps : List Str := ["hang", "names"]
theorem sc_p_renamed : FnScope N_p_renamed ["hang", "names"] (defScope s_p_renamed) := ⟨rfl, rfl, rfl, by decide +kernel, rfl, by decide +kernel, by decide +kernel⟩
abbrev s_l_stir : Stmt := top 6
abbrev N_l_stir : List Str := ["cell", "found", "factor", "mixed"]
abbrev N_l_stir_ps : List Str := ["cell"]
theorem sc_l_stir : FnScope N_l_stir ["cell"] (defScope s_l_stir) := ⟨rfl, rfl, rfl, by decide +kernel, rfl, by decide +kernel, by decide +kernel⟩
abbrev s_l_cell : Stmt := top 7
abbrev N_l_cell : List Str := ["script", "k"]
abbrev N_l_cell_ps : List Str := ["script", "k"]
theorem sc_l_cell : FnScope N_l_cell ["script", "k"] (defScope s_l_cell) := ⟨rfl, rfl, rfl, by decide +kernel, rfl, by decide +kernel, by decide +kernel⟩
abbrev s_l_cells : Stmt := top 8
abbrev N_l_cells : List Str := ["script", "first", "behind", "cell"]
abbrev N_l_cells_ps : List Str := ["script", "first", "behind"]
theorem sc_l_cells : FnScope N_l_cells ["script", "first", "behind"] (defScope s_l_cells) := ⟨rfl, rfl, rfl, by decide +kernel, rfl, by decide +kernel, by decide +kernel⟩
abbrev s_l_dye : Stmt := top 9
abbrev N_l_dye : List Str := ["cell", "size", "step", "k"]
abbrev N_l_dye_ps : List Str := ["cell"]
theorem sc_l_dye : FnScope N_l_dye ["cell"] (defScope s_l_dye) := ⟨rfl, rfl, rfl, by decide +kernel, rfl, by decide +kernel, by decide +kernel⟩
abbrev s_l_book : Stmt := top 10
abbrev N_l_book : List Str := ["cell", "start"]
abbrev N_l_book_ps : List Str := ["cell"]
theorem sc_l_book : FnScope N_l_book ["cell"] (defScope s_l_book) := ⟨rfl, rfl, rfl, by decide +kernel, rfl, by decide +kernel, by decide +kernel⟩
abbrev s_l_number : Stmt := top 11
abbrev N_l_number : List Str := ["book", "at"]
abbrev N_l_number_ps : List Str := ["book"]
theorem sc_l_number : FnScope N_l_number ["book"] (defScope s_l_number) := ⟨rfl, rfl, rfl, by decide +kernel, rfl, by decide +kernel, by decide +kernel⟩
abbrev s_l_is_tip : Stmt := top 12
abbrev N_l_is_tip : List Str := ["hang"]
abbrev N_l_is_tip_ps : List Str := ["hang"]
theorem sc_l_is_tip : FnScope N_l_is_tip ["hang"] (defScope s_l_is_tip) := ⟨rfl, rfl, rfl, by decide +kernel, rfl, by decide +kernel, by decide +kernel⟩
abbrev s_l_tips : Stmt := top 13
abbrev N_l_tips : List Str := ["hang"]
abbrev N_l_tips_ps : List Str := ["hang"]
theorem sc_l_tips : FnScope N_l_tips ["hang"] (defScope s_l_tips) := ⟨rfl, rfl, rfl, by decide +kernel, rfl, by decide +kernel, by decide +kernel⟩
abbrev s_l_mirror : Stmt := top 14
abbrev N_l_mirror : List Str := ["hang", "word"]
abbrev N_l_mirror_ps : List Str := ["hang"]
theorem sc_l_mirror : FnScope N_l_mirror ["hang"] (defScope s_l_mirror) := ⟨rfl, rfl, rfl, by decide +kernel, rfl, by decide +kernel, by decide +kernel⟩
abbrev s_l_anew : Stmt := top 15
abbrev N_l_anew : List Str := ["hang", "book", "left"]
abbrev N_l_anew_ps : List Str := ["hang", "book"]
theorem sc_l_anew : FnScope N_l_anew ["hang", "book"] (defScope s_l_anew) := ⟨rfl, rfl, rfl, by decide +kernel, rfl, by decide +kernel, by decide +kernel⟩
abbrev s_l_add_cord : Stmt := top 16
abbrev N_l_add_cord : List Str := ["loft", "cell", "number", "dye", "pair"]
abbrev N_l_add_cord_ps : List Str := ["loft", "cell"]
theorem sc_l_add_cord : FnScope N_l_add_cord ["loft", "cell"] (defScope s_l_add_cord) := ⟨rfl, rfl, rfl, by decide +kernel, rfl, by decide +kernel, by decide +kernel⟩
abbrev s_l_tie : Stmt := top 17
abbrev N_l_tie : List Str := ["loft", "a", "b", "word", "spot", "keep", "one", "other", "hangs", "marks", "k", "mark"]
abbrev N_l_tie_ps : List Str := ["loft", "a", "b", "word", "spot"]
theorem sc_l_tie : FnScope N_l_tie ["loft", "a", "b", "word", "spot"] (defScope s_l_tie) := ⟨rfl, rfl, rfl, by decide +kernel, rfl, by decide +kernel, by decide +kernel⟩
abbrev s_l_add_knot : Stmt := top 18
abbrev N_l_add_knot : List Str := ["loft", "cell", "good", "many", "a", "b", "word"]
abbrev N_l_add_knot_ps : List Str := ["loft", "cell", "good"]
theorem sc_l_add_knot : FnScope N_l_add_knot ["loft", "cell", "good"] (defScope s_l_add_knot) := ⟨rfl, rfl, rfl, by decide +kernel, rfl, by decide +kernel, by decide +kernel⟩
abbrev s_l_add_splice : Stmt := top 19
abbrev N_l_add_splice : List Str := ["loft", "cell", "good", "a", "hang", "far", "pair"]
abbrev N_l_add_splice_ps : List Str := ["loft", "cell", "good"]
theorem sc_l_add_splice : FnScope N_l_add_splice ["loft", "cell", "good"] (defScope s_l_add_splice) := ⟨rfl, rfl, rfl, by decide +kernel, rfl, by decide +kernel, by decide +kernel⟩
abbrev s_l_close : Stmt := top 20
abbrev N_l_close : List Str := ["loft", "cell", "spare", "k"]
abbrev N_l_close_ps : List Str := ["loft", "cell"]
theorem sc_l_close : FnScope N_l_close ["loft", "cell"] (defScope s_l_close) := ⟨rfl, rfl, rfl, by decide +kernel, rfl, by decide +kernel, by decide +kernel⟩
abbrev s_l_loft : Stmt := top 21
abbrev N_l_loft : List Str := ["script", "first", "most", "good", "loft", "cell"]
abbrev N_l_loft_ps : List Str := ["script", "first", "most", "good"]
theorem sc_l_loft : FnScope N_l_loft ["script", "first", "most", "good"] (defScope s_l_loft) := ⟨rfl, rfl, rfl, by decide +kernel, rfl, by decide +kernel, by decide +kernel⟩
abbrev s_l_whole : Stmt := top 22
abbrev N_l_whole : List Str := ["found"]
abbrev N_l_whole_ps : List Str := ["found"]
theorem sc_l_whole : FnScope N_l_whole ["found"] (defScope s_l_whole) := ⟨rfl, rfl, rfl, by decide +kernel, rfl, by decide +kernel, by decide +kernel⟩
abbrev s_l_hang : Stmt := top 23
abbrev N_l_hang : List Str := ["found"]
abbrev N_l_hang_ps : List Str := ["found"]
theorem sc_l_hang : FnScope N_l_hang ["found"] (defScope s_l_hang) := ⟨rfl, rfl, rfl, by decide +kernel, rfl, by decide +kernel, by decide +kernel⟩
abbrev s_l_words : Stmt := top 24
abbrev N_l_words : List Str := ["hang"]
abbrev N_l_words_ps : List Str := ["hang"]
theorem sc_l_words : FnScope N_l_words ["hang"] (defScope s_l_words) := ⟨rfl, rfl, rfl, by decide +kernel, rfl, by decide +kernel, by decide +kernel⟩
abbrev s_l_renamed : Stmt := top 25
abbrev N_l_renamed : List Str := ["hang", "names"]
abbrev N_l_renamed_ps : List Str := ["hang", "names"]
theorem sc_l_renamed : FnScope N_l_renamed ["hang", "names"] (defScope s_l_renamed) := ⟨rfl, rfl, rfl, by decide +kernel, rfl, by decide +kernel, by decide +kernel⟩
abbrev s_law_k02 : Stmt := top 26
abbrev N_law_k02 : List Str := ["script", "loft", "hang", "due", "found", "words", "many", "names", "at", "tip", "kept", "answer"]
abbrev N_law_k02_ps : List Str := ["script"]
theorem sc_law_k02 : FnScope N_law_k02 ["script"] (defScope s_law_k02) := ⟨rfl, rfl, rfl, by decide +kernel, rfl, by decide +kernel, by decide +kernel⟩
def sg : List (Nat × Str × List Str) := ((f_p_is_tip, "is_tip", ["hang"]) :: (f_p_tips, "tips", ["hang"]) :: (f_p_knots, "knots", ["hang"]) :: (f_p_renamed, "renamed", ["hang", "names"]) :: (f_l_stir, "_law_stir", ["cell"]) :: (f_l_is_tip, "_law_is_tip", ["hang"]) :: (f_l_tips, "_law_tips", ["hang"]) :: (f_l_mirror, "_law_mirror", ["hang"]) :: (f_l_number, "_law_number", ["book"]) :: (f_l_anew, "_law_anew", ["hang", "book"]) :: (f_l_dye, "_law_dye", ["cell"]) :: (f_l_tie, "_law_tie", ["loft", "a", "b", "word", "spot"]) :: (f_l_add_cord, "_law_add_cord", ["loft", "cell"]) :: (f_l_cell, "_law_cell", ["script", "k"]) :: (f_l_book, "_law_book", ["cell"]) :: (f_l_cells, "_law_cells", ["script", "first", "behind"]) :: (f_l_add_splice, "_law_add_splice", ["loft", "cell", "good"]) :: (f_l_add_knot, "_law_add_knot", ["loft", "cell", "good"]) :: (f_l_close, "_law_close", ["loft", "cell"]) :: (f_l_hang, "_law_hang", ["found"]) :: (f_l_whole, "_law_whole", ["found"]) :: (f_l_words, "_law_words", ["hang"]) :: (f_l_renamed, "_law_renamed", ["hang", "names"]) :: (f_l_loft, "_law_loft", ["script", "first", "most", "good"]) :: (f_law_k02, "law", ["script"]) :: [])
def mts : List (Nat × Nat × Str × List Str) := []
def mks : List (Nat × Str × Nat × List Str × List D) := []
def fa : List He.Fa := (.free "len" :: .free "range" :: .free "isinstance" :: .free "int" :: .free "bool" :: .free "tuple" :: .free "str" :: .free "list" :: .free "all" :: .free "enumerate" :: .free "dict" :: .glo "is_tip" :: .glo "tips" :: .glo "knots" :: .glo "renamed" :: .glo "_law_stir" :: .glo "_law_is_tip" :: .glo "_law_tips" :: .glo "_law_mirror" :: .glo "_law_number" :: .glo "_law_anew" :: .glo "_law_dye" :: .glo "_law_tie" :: .glo "_law_add_cord" :: .glo "_law_cell" :: .glo "_law_book" :: .glo "_law_cells" :: .glo "_law_add_splice" :: .glo "_law_add_knot" :: .glo "_law_close" :: .glo "_law_hang" :: .glo "_law_whole" :: .glo "_law_words" :: .glo "_law_renamed" :: .glo "_law_loft" :: .glo "law" :: [])
def ga : List Ga := []
section
variable {P : Program} {w : World} {K : PySem.W.Frag} {mg : Str → Option Value} {base : Heap} {n : Nat} {C I : Orc}
set_option maxHeartbeats 1000000 in
theorem d_p_is_tip (Z : Lk P w K mg base sg mts mks fa (gxOf ga) n C I) (f : Addr) (cdv : Value) (A : Around) (outer : List PySem.Env) (s : Shared) (H : Hp) (E : XK) (hr : Room (n + 1) (A.deeper (envOfC "is_tip" (defScope s_p_is_tip) s.heap.objs.size f cdv))) :
    PSs (cxOf (L2.CX P w) P w K mg base N_p_is_tip "is_tip" (defScope s_p_is_tip) f cdv A outer s H E) (defBody s_p_is_tip) (tSOf K (caK K) E (b_p_is_tip.code C I)) := by
  have nd := sc_p_is_tip.nd
  have hu := hu_of hr
  have hu65 : (A.deeper (envOfC "is_tip" (defScope s_p_is_tip) s.heap.objs.size f cdv)).units + 65 < cLine := by have := hr.un; omega
  dsimp only [b_p_is_tip]
  exact qs_one (qs_ret (q_or (q_cmp (or_eq hr.units) (s_eq) (q_ix (or_ix hu) s_ix (q_var 0 (pv 0)) (q_int) (fun _ _ => rfl)) (q_str) (nomark _)) (q_one (q_cmp (or_eq hr.units) (s_eq) (q_ix (or_ix hu) s_ix (q_var 0 (pv 0)) (q_int) (fun _ _ => rfl)) (q_str) (nomark _)))))
set_option maxHeartbeats 1000000 in
theorem d_p_tips (Z : Lk P w K mg base sg mts mks fa (gxOf ga) n C I) (f : Addr) (cdv : Value) (A : Around) (outer : List PySem.Env) (s : Shared) (H : Hp) (E : XK) (hr : Room (n + 1) (A.deeper (envOfC "tips" (defScope s_p_tips) s.heap.objs.size f cdv))) :
    PSs (cxOf (L2.CX P w) P w K mg base N_p_tips "tips" (defScope s_p_tips) f cdv A outer s H E) (defBody s_p_tips) (tSOf K (caK K) E (b_p_tips.code C I)) := by
  have nd := sc_p_tips.nd
  have hu := hu_of hr
  have hu65 : (A.deeper (envOfC "tips" (defScope s_p_tips) s.heap.objs.size f cdv)).units + 65 < cLine := by have := hr.un; omega
  dsimp only [b_p_tips]
  exact qs_seq (qs_if (qt_val (q_fn (Z.fn 0 f_p_is_tip "is_tip" ["hang"] rfl) hr rfl (takes_of rfl rfl rfl rfl) (qa_cons (q_var 0 (pv 0)) (qa_nil)))) (qs_one (qs_ret (q_lst (qa_cons (q_var 0 (pv 0)) (qa_nil))))) (qs_nil)) (qs_one (qs_ret (q_op or_add (s_add false) (q_fn (Z.fn 1 f_p_tips "tips" ["hang"] rfl) hr rfl (takes_of rfl rfl rfl rfl) (qa_cons (q_ix (or_ix hu) s_ix (q_var 0 (pv 0)) (q_int) (fun _ _ => rfl)) (qa_nil))) (q_fn (Z.fn 1 f_p_tips "tips" ["hang"] rfl) hr rfl (takes_of rfl rfl rfl rfl) (qa_cons (q_ix (or_ix hu) s_ix (q_var 0 (pv 0)) (q_int) (fun _ _ => rfl)) (qa_nil))))))
set_option maxHeartbeats 1000000 in
theorem d_p_knots (Z : Lk P w K mg base sg mts mks fa (gxOf ga) n C I) (f : Addr) (cdv : Value) (A : Around) (outer : List PySem.Env) (s : Shared) (H : Hp) (E : XK) (hr : Room (n + 1) (A.deeper (envOfC "knots" (defScope s_p_knots) s.heap.objs.size f cdv))) :
    PSs (cxOf (L2.CX P w) P w K mg base N_p_knots "knots" (defScope s_p_knots) f cdv A outer s H E) (defBody s_p_knots) (tSOf K (caK K) E (b_p_knots.code C I)) := by
  have nd := sc_p_knots.nd
  have hu := hu_of hr
  have hu65 : (A.deeper (envOfC "knots" (defScope s_p_knots) s.heap.objs.size f cdv)).units + 65 < cLine := by have := hr.un; omega
  dsimp only [b_p_knots]
  exact qs_seq (qs_if (qt_val (q_fn (Z.fn 0 f_p_is_tip "is_tip" ["hang"] rfl) hr rfl (takes_of rfl rfl rfl rfl) (qa_cons (q_var 0 (pv 0)) (qa_nil)))) (qs_one (qs_ret (q_tup (qa_cons (q_int) (qa_cons (q_int) (qa_nil)))))) (qs_nil)) (qs_seq (qs_set (i := 1) (q_fn (Z.fn 2 f_p_knots "knots" ["hang"] rfl) hr rfl (takes_of rfl rfl rfl rfl) (qa_cons (q_ix (or_ix hu) s_ix (q_var 0 (pv 0)) (q_int) (fun _ _ => rfl)) (qa_nil))) nd rfl (Or.inl rfl)) (qs_seq (qs_set (i := 2) (q_fn (Z.fn 2 f_p_knots "knots" ["hang"] rfl) hr rfl (takes_of rfl rfl rfl rfl) (qa_cons (q_ix (or_ix hu) s_ix (q_var 0 (pv 0)) (q_int) (fun _ _ => rfl)) (qa_nil))) nd rfl (Or.inl rfl)) (qs_seq (qs_set (i := 3) (q_op or_add (s_add false) (q_ix (or_ix hu) s_ix (q_var 1 (pv 1)) (q_int) (fun _ _ => rfl)) (q_ix (or_ix hu) s_ix (q_var 2 (pv 2)) (q_int) (fun _ _ => rfl))) nd rfl (Or.inl rfl)) (qs_seq (qs_set (i := 4) (q_op or_add (s_add false) (q_ix (or_ix hu) s_ix (q_var 1 (pv 1)) (q_int) (fun _ _ => rfl)) (q_ix (or_ix hu) s_ix (q_var 2 (pv 2)) (q_int) (fun _ _ => rfl))) nd rfl (Or.inl rfl)) (qs_seq (qs_if (qt_cmp (or_eq hr.units) (s_eq) (q_ix (or_ix hu) s_ix (q_var 0 (pv 0)) (q_int) (fun _ _ => rfl)) (q_str) (nomark _)) (qs_one (qs_ret (q_tup (qa_cons (q_op or_add (s_add false) (q_var 3 (pv 3)) (q_int)) (qa_cons (q_var 4 (pv 4)) (qa_nil)))))) (qs_nil)) (qs_one (qs_ret (q_tup (qa_cons (q_var 3 (pv 3)) (qa_cons (q_op or_add (s_add false) (q_var 4 (pv 4)) (q_int)) (qa_nil)))))))))))
set_option maxHeartbeats 1000000 in
theorem d_p_renamed (Z : Lk P w K mg base sg mts mks fa (gxOf ga) n C I) (f : Addr) (cdv : Value) (A : Around) (outer : List PySem.Env) (s : Shared) (H : Hp) (E : XK) (hr : Room (n + 1) (A.deeper (envOfC "renamed" (defScope s_p_renamed) s.heap.objs.size f cdv))) :
    PSs (cxOf (L2.CX P w) P w K mg base N_p_renamed "renamed" (defScope s_p_renamed) f cdv A outer s H E) (defBody s_p_renamed) (tSOf K (caK K) E (b_p_renamed.code C I)) := by
  have nd := sc_p_renamed.nd
  have hu := hu_of hr
  have hu65 : (A.deeper (envOfC "renamed" (defScope s_p_renamed) s.heap.objs.size f cdv)).units + 65 < cLine := by have := hr.un; omega
  dsimp only [b_p_renamed]
  exact qs_seq (qs_if (qt_val (q_fn (Z.fn 0 f_p_is_tip "is_tip" ["hang"] rfl) hr rfl (takes_of rfl rfl rfl rfl) (qa_cons (q_var 0 (pv 0)) (qa_nil)))) (qs_one (qs_ret (q_tup (qa_cons (q_ix (or_ix hu) s_ix (q_var 0 (pv 0)) (q_int) (fun _ _ => rfl)) (qa_cons (q_ix (or_ix hu) s_ix (q_var 0 (pv 0)) (q_int) (fun _ _ => rfl)) (qa_cons (q_get2 hu (q_var 1 (pv 1)) (q_ix (or_ix hu) s_ix (q_var 0 (pv 0)) (q_int) (fun _ _ => rfl)) (q_ix (or_ix hu) s_ix (q_var 0 (pv 0)) (q_int) (fun _ _ => rfl)) ⟨rfl, rfl, rfl, rfl⟩) (qa_nil))))))) (qs_nil)) (qs_one (qs_ret (q_tup (qa_cons (q_ix (or_ix hu) s_ix (q_var 0 (pv 0)) (q_int) (fun _ _ => rfl)) (qa_cons (q_fn (Z.fn 3 f_p_renamed "renamed" ["hang", "names"] rfl) hr rfl (takes_of rfl rfl rfl rfl) (qa_cons (q_ix (or_ix hu) s_ix (q_var 0 (pv 0)) (q_int) (fun _ _ => rfl)) (qa_cons (q_var 1 (pv 1)) (qa_nil)))) (qa_cons (q_fn (Z.fn 3 f_p_renamed "renamed" ["hang", "names"] rfl) hr rfl (takes_of rfl rfl rfl rfl) (qa_cons (q_ix (or_ix hu) s_ix (q_var 0 (pv 0)) (q_int) (fun _ _ => rfl)) (qa_cons (q_var 1 (pv 1)) (qa_nil)))) (qa_nil)))))))
set_option maxHeartbeats 1000000 in
theorem d_l_stir (Z : Lk P w K mg base sg mts mks fa (gxOf ga) n C I) (f : Addr) (cdv : Value) (A : Around) (outer : List PySem.Env) (s : Shared) (H : Hp) (E : XK) (hr : Room (n + 1) (A.deeper (envOfC "_law_stir" (defScope s_l_stir) s.heap.objs.size f cdv))) :
    PSs (cxOf (L2.CX P w) P w K mg base N_l_stir "_law_stir" (defScope s_l_stir) f cdv A outer s H E) (defBody s_l_stir) (tSOf K (caK K) E (b_l_stir.code C I)) := by
  have nd := sc_l_stir.nd
  have hu := hu_of hr
  have hu65 : (A.deeper (envOfC "_law_stir" (defScope s_l_stir) s.heap.objs.size f cdv)).units + 65 < cLine := by have := hr.un; omega
  dsimp only [b_l_stir]
  exact qs_seq (qs_set (i := 1) (q_int) nd rfl (Or.inl rfl)) (qs_seq (qs_for it_any (passes_of rfl) rfl (pi_any (q_lst (qa_cons (q_int) (qa_cons (q_int) (qa_cons (q_int) (qa_cons (q_int) (qa_nil))))))) (pg_name (i := 2) nd rfl (Or.inl rfl)) (qs_seq (qs_set (i := 3) (q_op op_mod (s_mod) (q_op or_mul (s_mul false) (q_op op_mod (s_mod) (q_op or_add (s_add false) (q_op or_mul (s_mul false) (q_var 0 (pv 0)) (q_var 2 (pv 2))) (q_int)) (q_int)) (q_int)) (q_int)) nd rfl (Or.inl rfl)) (qs_one (qs_set (i := 1) (q_op or_add (s_add false) (q_op or_mul (s_mul false) (q_var 1 (pv 1)) (q_op op_pow (s_pow) (q_int) (q_int))) (q_op op_fdiv (s_div) (q_var 3 (pv 3)) (q_int))) nd rfl (Or.inl rfl))))) (qs_one (qs_ret (q_var 1 (pv 1)))))
set_option maxHeartbeats 1000000 in
theorem d_l_cell (Z : Lk P w K mg base sg mts mks fa (gxOf ga) n C I) (f : Addr) (cdv : Value) (A : Around) (outer : List PySem.Env) (s : Shared) (H : Hp) (E : XK) (hr : Room (n + 1) (A.deeper (envOfC "_law_cell" (defScope s_l_cell) s.heap.objs.size f cdv))) :
    PSs (cxOf (L2.CX P w) P w K mg base N_l_cell "_law_cell" (defScope s_l_cell) f cdv A outer s H E) (defBody s_l_cell) (tSOf K (caK K) E (b_l_cell.code C I)) := by
  have nd := sc_l_cell.nd
  have hu := hu_of hr
  have hu65 : (A.deeper (envOfC "_law_cell" (defScope s_l_cell) s.heap.objs.size f cdv)).units + 65 < cLine := by have := hr.un; omega
  dsimp only [b_l_cell]
  exact qs_seq (qs_if (qt_cmp op_lt (s_cmp _) (q_var 1 (pv 1)) (q_blt or_len s_len rfl (Z.bl 0 "len" rfl) boot_len (qa_cons (q_var 0 (pv 0)) (qa_nil))) (nomark _)) (qs_one (qs_ret (q_fn (Z.fn 4 f_l_stir "_law_stir" ["cell"] rfl) hr rfl (takes_of rfl rfl rfl rfl) (qa_cons (q_ix (or_ix hu) s_ix (q_var 0 (pv 0)) (q_var 1 (pv 1)) (fun _ _ => rfl)) (qa_nil))))) (qs_nil)) (qs_one (qs_ret (q_fn (Z.fn 4 f_l_stir "_law_stir" ["cell"] rfl) hr rfl (takes_of rfl rfl rfl rfl) (qa_cons (q_int) (qa_nil)))))
set_option maxHeartbeats 1000000 in
theorem d_l_cells (Z : Lk P w K mg base sg mts mks fa (gxOf ga) n C I) (f : Addr) (cdv : Value) (A : Around) (outer : List PySem.Env) (s : Shared) (H : Hp) (E : XK) (hr : Room (n + 1) (A.deeper (envOfC "_law_cells" (defScope s_l_cells) s.heap.objs.size f cdv))) :
    PSs (cxOf (L2.CX P w) P w K mg base N_l_cells "_law_cells" (defScope s_l_cells) f cdv A outer s H E) (defBody s_l_cells) (tSOf K (caK K) E (b_l_cells.code C I)) := by
  have nd := sc_l_cells.nd
  have hu := hu_of hr
  have hu65 : (A.deeper (envOfC "_law_cells" (defScope s_l_cells) s.heap.objs.size f cdv)).units + 65 < cLine := by have := hr.un; omega
  dsimp only [b_l_cells]
  exact qs_one (qs_ret (q_comp (c := false) (own := [("cell", 3)]) it_any (by decide) rfl nd (pi_any (q_slice (c := false) (q_var 0 (pv 0)) (qo_some (q_var 1 (pv 1))) (qo_some (q_var 2 (pv 2))))) (blkOk_by (N := N_l_cells) (sc := defScope s_l_cells) (by decide +kernel)) (fun _ _ _ _ _ => pg_name (i := 3) nd rfl (Or.inl rfl)) c_yes (fun _ _ _ _ _ => pts_nil) (fun _ _ _ _ _ => q_fn (Z.fn 4 f_l_stir "_law_stir" ["cell"] rfl) hr rfl takes0 (qa_cons (q_var 3 (pv 3)) (qa_nil)))))
set_option maxHeartbeats 1000000 in
theorem d_l_dye (Z : Lk P w K mg base sg mts mks fa (gxOf ga) n C I) (f : Addr) (cdv : Value) (A : Around) (outer : List PySem.Env) (s : Shared) (H : Hp) (E : XK) (hr : Room (n + 1) (A.deeper (envOfC "_law_dye" (defScope s_l_dye) s.heap.objs.size f cdv))) :
    PSs (cxOf (L2.CX P w) P w K mg base N_l_dye "_law_dye" (defScope s_l_dye) f cdv A outer s H E) (defBody s_l_dye) (tSOf K (caK K) E (b_l_dye.code C I)) := by
  have nd := sc_l_dye.nd
  have hu := hu_of hr
  have hu65 : (A.deeper (envOfC "_law_dye" (defScope s_l_dye) s.heap.objs.size f cdv)).units + 65 < cLine := by have := hr.un; omega
  dsimp only [b_l_dye]
  exact qs_seq (qs_set (i := 1) (q_op or_add (s_add false) (q_int) (q_op op_mod (s_mod) (q_var 0 (pv 0)) (q_int))) nd rfl (Or.inl rfl)) (qs_seq (qs_if (qt_cmp (or_eq hr.units) (s_eq) (q_op op_mod (s_mod) (q_var 0 (pv 0)) (q_int)) (q_int) (nomark _)) (qs_one (qs_set (i := 1) (q_int) nd rfl (Or.inl rfl))) (qs_nil)) (qs_seq (qs_set (i := 2) (q_op or_mul (s_mul false) (q_int) (q_op op_mod (s_mod) (q_op op_fdiv (s_div) (q_var 0 (pv 0)) (q_int)) (q_int))) nd rfl (Or.inr rfl)) (qs_one (qs_ret (q_bm PySem.F.plainAttrs_str PySem.F.slot_str_join PySem.F.type_str_join mt_join s_join (q_str) (qa_cons (q_comp (c := false) (own := [("k", 3)]) (it_range1 cons1_len) (by decide) rfl nd (pi_range1 rfl (Z.bl 1 "range" rfl) (qa_cons (q_var 1 (pv 1)) (qa_nil))) (blkOk_by (N := N_l_dye) (sc := defScope s_l_dye) (by decide +kernel)) (fun _ _ _ _ _ => pg_name (i := 3) nd rfl (Or.inl rfl)) c_yes (fun _ _ _ _ _ => pts_nil) (fun _ _ _ _ _ => q_ix (or_ix hu) s_ix (q_str) (q_op op_mod (s_mod) (q_op or_add (s_add false) (q_op op_fdiv (s_div) (q_var 0 (pv 0)) (q_int)) (q_op or_mul (s_mul false) (q_var 2 (pv 2)) (q_var 3 (pv 3)))) (q_int)) (fun _ _ => rfl))) (qa_nil)))))))
set_option maxHeartbeats 1000000 in
theorem d_l_book (Z : Lk P w K mg base sg mts mks fa (gxOf ga) n C I) (f : Addr) (cdv : Value) (A : Around) (outer : List PySem.Env) (s : Shared) (H : Hp) (E : XK) (hr : Room (n + 1) (A.deeper (envOfC "_law_book" (defScope s_l_book) s.heap.objs.size f cdv))) :
    PSs (cxOf (L2.CX P w) P w K mg base N_l_book "_law_book" (defScope s_l_book) f cdv A outer s H E) (defBody s_l_book) (tSOf K (caK K) E (b_l_book.code C I)) := by
  have nd := sc_l_book.nd
  have hu := hu_of hr
  have hu65 : (A.deeper (envOfC "_law_book" (defScope s_l_book) s.heap.objs.size f cdv)).units + 65 < cLine := by have := hr.un; omega
  dsimp only [b_l_book]
  exact qs_seq (qs_set (i := 1) (q_op op_mod (s_mod) (q_op op_fdiv (s_div) (q_var 0 (pv 0)) (q_int)) (q_ix (or_ix hu) s_ix (q_lst (qa_cons (q_int) (qa_cons (q_int) (qa_cons (q_op op_pow (s_pow) (q_int) (q_int)) (qa_cons (q_op op_pow (s_pow) (q_int) (q_int)) (qa_nil)))))) (q_op op_mod (s_mod) (q_var 0 (pv 0)) (q_int)) (fun _ _ => rfl))) nd rfl (Or.inl rfl)) (qs_one (qs_ret (q_lst (qa_cons (q_var 1 (pv 1)) (qa_cons (q_ix (or_ix hu) s_ix (q_lst (qa_cons (q_int) (qa_cons (q_int) (qa_cons (q_int) (qa_cons (q_op or_add (s_add false) (q_op op_pow (s_pow) (q_int) (q_int)) (q_int)) (qa_nil)))))) (q_op op_mod (s_mod) (q_op op_fdiv (s_div) (q_var 0 (pv 0)) (q_int)) (q_int)) (fun _ _ => rfl)) (qa_cons (q_int) (qa_nil)))))))
set_option maxHeartbeats 1000000 in
theorem d_l_number (Z : Lk P w K mg base sg mts mks fa (gxOf ga) n C I) (f : Addr) (cdv : Value) (A : Around) (outer : List PySem.Env) (s : Shared) (H : Hp) (E : XK) (hr : Room (n + 1) (A.deeper (envOfC "_law_number" (defScope s_l_number) s.heap.objs.size f cdv))) :
    PSs (cxOf (L2.CX P w) P w K mg base N_l_number "_law_number" (defScope s_l_number) f cdv A outer s H E) (defBody s_l_number) (tSOf K (caK K) E (b_l_number.code C I)) := by
  have nd := sc_l_number.nd
  have hu := hu_of hr
  have hu65 : (A.deeper (envOfC "_law_number" (defScope s_l_number) s.heap.objs.size f cdv)).units + 65 < cLine := by have := hr.un; omega
  dsimp only [b_l_number]
  exact qs_seq (qs_set (i := 1) (q_ix (or_ix hu) s_ix (q_var 0 (pv 0)) (q_int) (fun _ _ => rfl)) nd rfl (Or.inl rfl)) (qs_seq (qs_sub hu (q_op or_add (s_add false) (q_var 1 (pv 1)) (q_int)) (q_var 0 (pv 0)) (q_int)) (qs_one (qs_ret (q_op or_add (s_add false) (q_ix (or_ix hu) s_ix (q_var 0 (pv 0)) (q_int) (fun _ _ => rfl)) (q_op or_mul (s_mul false) (q_ix (or_ix hu) s_ix (q_var 0 (pv 0)) (q_int) (fun _ _ => rfl)) (q_op or_add (s_add false) (q_op op_mod (s_mod) (q_op or_mul (s_mul false) (q_var 1 (pv 1)) (q_int)) (q_int)) (q_op or_mul (s_mul false) (q_int) (q_op op_fdiv (s_div) (q_var 1 (pv 1)) (q_int)))))))))
set_option maxHeartbeats 1000000 in
theorem d_l_is_tip (Z : Lk P w K mg base sg mts mks fa (gxOf ga) n C I) (f : Addr) (cdv : Value) (A : Around) (outer : List PySem.Env) (s : Shared) (H : Hp) (E : XK) (hr : Room (n + 1) (A.deeper (envOfC "_law_is_tip" (defScope s_l_is_tip) s.heap.objs.size f cdv))) :
    PSs (cxOf (L2.CX P w) P w K mg base N_l_is_tip "_law_is_tip" (defScope s_l_is_tip) f cdv A outer s H E) (defBody s_l_is_tip) (tSOf K (caK K) E (b_l_is_tip.code C I)) := by
  have nd := sc_l_is_tip.nd
  have hu := hu_of hr
  have hu65 : (A.deeper (envOfC "_law_is_tip" (defScope s_l_is_tip) s.heap.objs.size f cdv)).units + 65 < cLine := by have := hr.un; omega
  dsimp only [b_l_is_tip]
  exact qs_one (qs_ret (q_or (q_cmp (or_eq hr.units) (s_eq) (q_ix (or_ix hu) s_ix (q_var 0 (pv 0)) (q_int) (fun _ _ => rfl)) (q_str) (nomark _)) (q_one (q_cmp (or_eq hr.units) (s_eq) (q_ix (or_ix hu) s_ix (q_var 0 (pv 0)) (q_int) (fun _ _ => rfl)) (q_str) (nomark _)))))
set_option maxHeartbeats 1000000 in
theorem d_l_tips (Z : Lk P w K mg base sg mts mks fa (gxOf ga) n C I) (f : Addr) (cdv : Value) (A : Around) (outer : List PySem.Env) (s : Shared) (H : Hp) (E : XK) (hr : Room (n + 1) (A.deeper (envOfC "_law_tips" (defScope s_l_tips) s.heap.objs.size f cdv))) :
    PSs (cxOf (L2.CX P w) P w K mg base N_l_tips "_law_tips" (defScope s_l_tips) f cdv A outer s H E) (defBody s_l_tips) (tSOf K (caK K) E (b_l_tips.code C I)) := by
  have nd := sc_l_tips.nd
  have hu := hu_of hr
  have hu65 : (A.deeper (envOfC "_law_tips" (defScope s_l_tips) s.heap.objs.size f cdv)).units + 65 < cLine := by have := hr.un; omega
  dsimp only [b_l_tips]
  exact qs_seq (qs_if (qt_val (q_fn (Z.fn 5 f_l_is_tip "_law_is_tip" ["hang"] rfl) hr rfl (takes_of rfl rfl rfl rfl) (qa_cons (q_var 0 (pv 0)) (qa_nil)))) (qs_one (qs_ret (q_lst (qa_cons (q_var 0 (pv 0)) (qa_nil))))) (qs_nil)) (qs_one (qs_ret (q_op or_add (s_add false) (q_fn (Z.fn 6 f_l_tips "_law_tips" ["hang"] rfl) hr rfl (takes_of rfl rfl rfl rfl) (qa_cons (q_ix (or_ix hu) s_ix (q_var 0 (pv 0)) (q_int) (fun _ _ => rfl)) (qa_nil))) (q_fn (Z.fn 6 f_l_tips "_law_tips" ["hang"] rfl) hr rfl (takes_of rfl rfl rfl rfl) (qa_cons (q_ix (or_ix hu) s_ix (q_var 0 (pv 0)) (q_int) (fun _ _ => rfl)) (qa_nil))))))
set_option maxHeartbeats 1000000 in
theorem d_l_mirror (Z : Lk P w K mg base sg mts mks fa (gxOf ga) n C I) (f : Addr) (cdv : Value) (A : Around) (outer : List PySem.Env) (s : Shared) (H : Hp) (E : XK) (hr : Room (n + 1) (A.deeper (envOfC "_law_mirror" (defScope s_l_mirror) s.heap.objs.size f cdv))) :
    PSs (cxOf (L2.CX P w) P w K mg base N_l_mirror "_law_mirror" (defScope s_l_mirror) f cdv A outer s H E) (defBody s_l_mirror) (tSOf K (caK K) E (b_l_mirror.code C I)) := by
  have nd := sc_l_mirror.nd
  have hu := hu_of hr
  have hu65 : (A.deeper (envOfC "_law_mirror" (defScope s_l_mirror) s.heap.objs.size f cdv)).units + 65 < cLine := by have := hr.un; omega
  dsimp only [b_l_mirror]
  exact qs_seq (qs_set (i := 1) (q_dispIx (kvs := [((.inr "light"), .str "dark"), ((.inr "dark"), .str "light"), ((.inr "fast"), .str "loose"), ((.inr "loose"), .str "fast")]) hu (pps_cons pe_str pe_str (pps_cons pe_str pe_str (pps_cons pe_str pe_str (pps_cons pe_str pe_str (pps_nil))))) (.cons ⟨rfl, rfl⟩ (.cons ⟨rfl, rfl⟩ (.cons ⟨rfl, rfl⟩ (.cons ⟨rfl, rfl⟩ (.nil))))) (by rfl) (by rfl) (fun z => by cases z) (by decide) (by decide) (q_ix (or_ix hu) s_ix (q_var 0 (pv 0)) (q_int) (fun _ _ => rfl)) (fun _ _ => rfl)) nd rfl (Or.inl rfl)) (qs_seq (qs_if (qt_val (q_fn (Z.fn 5 f_l_is_tip "_law_is_tip" ["hang"] rfl) hr rfl (takes_of rfl rfl rfl rfl) (qa_cons (q_var 0 (pv 0)) (qa_nil)))) (qs_one (qs_ret (q_tup (qa_cons (q_var 1 (pv 1)) (qa_cons (q_ix (or_ix hu) s_ix (q_var 0 (pv 0)) (q_int) (fun _ _ => rfl)) (qa_cons (q_ix (or_ix hu) s_ix (q_var 0 (pv 0)) (q_int) (fun _ _ => rfl)) (qa_nil))))))) (qs_nil)) (qs_one (qs_ret (q_tup (qa_cons (q_var 1 (pv 1)) (qa_cons (q_fn (Z.fn 7 f_l_mirror "_law_mirror" ["hang"] rfl) hr rfl (takes_of rfl rfl rfl rfl) (qa_cons (q_ix (or_ix hu) s_ix (q_var 0 (pv 0)) (q_int) (fun _ _ => rfl)) (qa_nil))) (qa_cons (q_fn (Z.fn 7 f_l_mirror "_law_mirror" ["hang"] rfl) hr rfl (takes_of rfl rfl rfl rfl) (qa_cons (q_ix (or_ix hu) s_ix (q_var 0 (pv 0)) (q_int) (fun _ _ => rfl)) (qa_nil))) (qa_nil))))))))
set_option maxHeartbeats 1000000 in
theorem d_l_anew (Z : Lk P w K mg base sg mts mks fa (gxOf ga) n C I) (f : Addr) (cdv : Value) (A : Around) (outer : List PySem.Env) (s : Shared) (H : Hp) (E : XK) (hr : Room (n + 1) (A.deeper (envOfC "_law_anew" (defScope s_l_anew) s.heap.objs.size f cdv))) :
    PSs (cxOf (L2.CX P w) P w K mg base N_l_anew "_law_anew" (defScope s_l_anew) f cdv A outer s H E) (defBody s_l_anew) (tSOf K (caK K) E (b_l_anew.code C I)) := by
  have nd := sc_l_anew.nd
  have hu := hu_of hr
  have hu65 : (A.deeper (envOfC "_law_anew" (defScope s_l_anew) s.heap.objs.size f cdv)).units + 65 < cLine := by have := hr.un; omega
  dsimp only [b_l_anew]
  exact qs_seq (qs_if (qt_val (q_fn (Z.fn 5 f_l_is_tip "_law_is_tip" ["hang"] rfl) hr rfl (takes_of rfl rfl rfl rfl) (qa_cons (q_var 0 (pv 0)) (qa_nil)))) (qs_one (qs_ret (q_tup (qa_cons (q_ix (or_ix hu) s_ix (q_var 0 (pv 0)) (q_int) (fun _ _ => rfl)) (qa_cons (q_ix (or_ix hu) s_ix (q_var 0 (pv 0)) (q_int) (fun _ _ => rfl)) (qa_cons (q_fn (Z.fn 8 f_l_number "_law_number" ["book"] rfl) hr rfl (takes_of rfl rfl rfl rfl) (qa_cons (q_var 1 (pv 1)) (qa_nil))) (qa_nil))))))) (qs_nil)) (qs_seq (qs_set (i := 2) (q_fn (Z.fn 9 f_l_anew "_law_anew" ["hang", "book"] rfl) hr rfl (takes_of rfl rfl rfl rfl) (qa_cons (q_ix (or_ix hu) s_ix (q_var 0 (pv 0)) (q_int) (fun _ _ => rfl)) (qa_cons (q_var 1 (pv 1)) (qa_nil)))) nd rfl (Or.inl rfl)) (qs_one (qs_ret (q_tup (qa_cons (q_ix (or_ix hu) s_ix (q_var 0 (pv 0)) (q_int) (fun _ _ => rfl)) (qa_cons (q_var 2 (pv 2)) (qa_cons (q_fn (Z.fn 9 f_l_anew "_law_anew" ["hang", "book"] rfl) hr rfl (takes_of rfl rfl rfl rfl) (qa_cons (q_ix (or_ix hu) s_ix (q_var 0 (pv 0)) (q_int) (fun _ _ => rfl)) (qa_cons (q_var 1 (pv 1)) (qa_nil)))) (qa_nil))))))))
set_option maxHeartbeats 1000000 in
theorem d_l_add_cord (Z : Lk P w K mg base sg mts mks fa (gxOf ga) n C I) (f : Addr) (cdv : Value) (A : Around) (outer : List PySem.Env) (s : Shared) (H : Hp) (E : XK) (hr : Room (n + 1) (A.deeper (envOfC "_law_add_cord" (defScope s_l_add_cord) s.heap.objs.size f cdv))) :
    PSs (cxOf (L2.CX P w) P w K mg base N_l_add_cord "_law_add_cord" (defScope s_l_add_cord) f cdv A outer s H E) (defBody s_l_add_cord) (tSOf K (caK K) E (b_l_add_cord.code C I)) := by
  have nd := sc_l_add_cord.nd
  have hu := hu_of hr
  have hu65 : (A.deeper (envOfC "_law_add_cord" (defScope s_l_add_cord) s.heap.objs.size f cdv)).units + 65 < cLine := by have := hr.un; omega
  dsimp only [b_l_add_cord]
  exact qs_seq (qs_set (i := 2) (q_fn (Z.fn 8 f_l_number "_law_number" ["book"] rfl) hr rfl (takes_of rfl rfl rfl rfl) (qa_cons (q_ix (or_ix hu) s_ix (q_var 0 (pv 0)) (q_int) (fun _ _ => rfl)) (qa_nil))) nd rfl (Or.inl rfl)) (qs_seq (qs_set (i := 3) (q_fn (Z.fn 10 f_l_dye "_law_dye" ["cell"] rfl) hr rfl (takes_of rfl rfl rfl rfl) (qa_cons (q_op op_fdiv (s_div) (q_var 1 (pv 1)) (q_int)) (qa_nil))) nd rfl (Or.inl rfl)) (qs_seq (qs_set (i := 4) (q_lst (qa_cons (q_tup (qa_cons (q_str) (qa_cons (q_var 3 (pv 3)) (qa_cons (q_var 2 (pv 2)) (qa_nil))))) (qa_cons (q_tup (qa_cons (q_str) (qa_cons (q_var 3 (pv 3)) (qa_cons (q_var 2 (pv 2)) (qa_nil))))) (qa_nil)))) nd rfl (Or.inl rfl)) (qs_seq (qs_if (qt_cmp (or_eq hr.units) (s_eq) (q_op op_mod (s_mod) (q_op op_fdiv (s_div) (q_var 1 (pv 1)) (q_int)) (q_int)) (q_int) (nomark _)) (qs_one (qs_set (i := 4) (q_lst (qa_cons (q_ix (or_ix hu) s_ix (q_var 4 (pv 4)) (q_int) (fun _ _ => rfl)) (qa_cons (q_ix (or_ix hu) s_ix (q_var 4 (pv 4)) (q_int) (fun _ _ => rfl)) (qa_nil)))) nd rfl (Or.inl rfl))) (qs_nil)) (qs_seq (qs_expr (q_bm PySem.F.plainAttrs_list PySem.F.slot_list_extend PySem.F.type_list_extend mt_extend s_extend (q_ix (or_ix hu) s_ix (q_var 0 (pv 0)) (q_int) (fun _ _ => rfl)) (qa_cons (q_var 4 (pv 4)) (qa_nil)))) (qs_one (qs_expr (q_bm PySem.F.plainAttrs_list PySem.F.slot_list_extend PySem.F.type_list_extend mt_extend s_extend (q_ix (or_ix hu) s_ix (q_var 0 (pv 0)) (q_int) (fun _ _ => rfl)) (qa_cons (q_lst (qa_cons (q_var 2 (pv 2)) (qa_cons (q_var 2 (pv 2)) (qa_nil)))) (qa_nil)))))))))
set_option maxHeartbeats 1000000 in
theorem d_l_tie (Z : Lk P w K mg base sg mts mks fa (gxOf ga) n C I) (f : Addr) (cdv : Value) (A : Around) (outer : List PySem.Env) (s : Shared) (H : Hp) (E : XK) (hr : Room (n + 1) (A.deeper (envOfC "_law_tie" (defScope s_l_tie) s.heap.objs.size f cdv))) :
    PSs (cxOf (L2.CX P w) P w K mg base N_l_tie "_law_tie" (defScope s_l_tie) f cdv A outer s H E) (defBody s_l_tie) (tSOf K (caK K) E (b_l_tie.code C I)) := by
  have nd := sc_l_tie.nd
  have hu := hu_of hr
  have hu65 : (A.deeper (envOfC "_law_tie" (defScope s_l_tie) s.heap.objs.size f cdv)).units + 65 < cLine := by have := hr.un; omega
  dsimp only [b_l_tie]
  exact qs_seq (qs_setLc (i := 5) (c := false) (own := [("k", 10)]) (it_range1 cons1_len) (by decide) rfl nd rfl rfl (sw_true rfl rfl rfl (by decide +kernel)) (pi_range1 rfl (Z.bl 1 "range" rfl) (qa_cons (q_blt or_len s_len rfl (Z.bl 0 "len" rfl) boot_len (qa_cons (q_ix (or_ix hu) s_ix (q_var 0 (pv 0)) (q_int) (fun _ _ => rfl)) (qa_nil))) (qa_nil))) (blkOk_by (N := N_l_tie) (sc := defScope s_l_tie) (by decide +kernel)) (fun _ _ _ _ _ => pg_name (i := 10) nd rfl (Or.inl rfl)) (fun _ _ _ h => h) (fun _ _ _ _ _ => pts_one (PW.pt (qw_and (qt_cmp (or_ne hr.units) (s_ne) (q_var 10 (pv 10)) (q_var 1 (pv 1)) (nomark _)) (qw_and1 (qt_cmp (or_ne hr.units) (s_ne) (q_var 10 (pv 10)) (q_var 2 (pv 2)) (nomark _)))))) (fun _ _ _ _ _ => q_var 10 (pv 10))) (qs_seq (qs_set (i := 6) (q_ix (or_ix hu) s_ix (q_ix (or_ix hu) s_ix (q_var 0 (pv 0)) (q_int) (fun _ _ => rfl)) (q_var 1 (pv 1)) (fun _ _ => rfl)) nd rfl (Or.inr rfl)) (qs_seq (qs_set (i := 7) (q_ix (or_ix hu) s_ix (q_ix (or_ix hu) s_ix (q_var 0 (pv 0)) (q_int) (fun _ _ => rfl)) (q_var 2 (pv 2)) (fun _ _ => rfl)) nd rfl (Or.inr rfl)) (qs_seq (qs_setLc (i := 8) (c := true) (own := [("k", 10)]) it_any (by decide) rfl nd rfl rfl (sw_true rfl rfl rfl (by decide +kernel)) (pi_any (q_var 5 (pv 5))) (blkOk_by (N := N_l_tie) (sc := defScope s_l_tie) (by decide +kernel)) (fun _ _ _ _ _ => pg_name (i := 10) nd rfl (Or.inl rfl)) c_yes (fun _ _ _ _ _ => pts_nil) (fun _ _ _ _ _ => q_ix (or_ix hu) s_ix (q_ix (or_ix hu) s_ix (q_var 0 (pv 0)) (q_int) (fun _ _ => rfl)) (q_var 10 (pv 10)) (fun _ _ => rfl))) (qs_seq (qs_expr (q_bm PySem.F.plainAttrs_list PySem.F.slot_list_insert PySem.F.type_list_insert mt_insert s_insert (q_var 8 (pv 8)) (qa_cons (q_op op_mod (s_mod) (q_var 4 (pv 4)) (q_op or_add (s_add false) (q_blt or_len s_len rfl (Z.bl 0 "len" rfl) boot_len (qa_cons (q_var 5 (pv 5)) (qa_nil))) (q_int))) (qa_cons (q_tup (qa_cons (q_var 3 (pv 3)) (qa_cons (q_ix (or_ix hu) s_ix (q_ix (or_ix hu) s_ix (q_var 0 (pv 0)) (q_int) (fun _ _ => rfl)) (q_var 1 (pv 1)) (fun _ _ => rfl)) (qa_cons (q_ix (or_ix hu) s_ix (q_ix (or_ix hu) s_ix (q_var 0 (pv 0)) (q_int) (fun _ _ => rfl)) (q_var 2 (pv 2)) (fun _ _ => rfl)) (qa_nil))))) (qa_nil))))) (qs_seq (qs_setLc (i := 9) (c := true) (own := [("k", 10)]) it_any (by decide) rfl nd rfl rfl (sw_true rfl rfl rfl (by decide +kernel)) (pi_any (q_var 5 (pv 5))) (blkOk_by (N := N_l_tie) (sc := defScope s_l_tie) (by decide +kernel)) (fun _ _ _ _ _ => pg_name (i := 10) nd rfl (Or.inl rfl)) c_yes (fun _ _ _ _ _ => pts_nil) (fun _ _ _ _ _ => q_ix (or_ix hu) s_ix (q_ix (or_ix hu) s_ix (q_var 0 (pv 0)) (q_int) (fun _ _ => rfl)) (q_var 10 (pv 10)) (fun _ _ => rfl))) (qs_seq (qs_expr (q_bm PySem.F.plainAttrs_list PySem.F.slot_list_insert PySem.F.type_list_insert mt_insert s_insert (q_var 9 (pv 9)) (qa_cons (q_op op_mod (s_mod) (q_var 4 (pv 4)) (q_op or_add (s_add false) (q_blt or_len s_len rfl (Z.bl 0 "len" rfl) boot_len (qa_cons (q_var 5 (pv 5)) (qa_nil))) (q_int))) (qa_cons (q_var 6 (pv 6)) (qa_nil))))) (qs_seq (qs_sub hu (q_var 8 (pv 8)) (q_var 0 (pv 0)) (q_int)) (qs_one (qs_sub hu (q_comp (c := true) (own := [("mark", 11)]) it_any (by decide) rfl nd (pi_any (q_var 9 (pv 9))) (blkOk_by (N := N_l_tie) (sc := defScope s_l_tie) (by decide +kernel)) (fun _ _ _ _ _ => pg_name (i := 11) nd rfl (Or.inl rfl)) c_yes (fun _ _ _ _ _ => pts_nil) (fun _ _ _ _ _ => q_ifExp (qt_cmp (or_eq hr.units) (s_eq) (q_var 11 (pv 11)) (q_var 7 (pv 7)) (nomark _)) (q_var 6 (pv 6)) (q_var 11 (pv 11)))) (q_var 0 (pv 0)) (q_int))))))))))
set_option maxHeartbeats 1000000 in
theorem d_l_add_knot (Z : Lk P w K mg base sg mts mks fa (gxOf ga) n C I) (f : Addr) (cdv : Value) (A : Around) (outer : List PySem.Env) (s : Shared) (H : Hp) (E : XK) (hr : Room (n + 1) (A.deeper (envOfC "_law_add_knot" (defScope s_l_add_knot) s.heap.objs.size f cdv))) :
    PSs (cxOf (L2.CX P w) P w K mg base N_l_add_knot "_law_add_knot" (defScope s_l_add_knot) f cdv A outer s H E) (defBody s_l_add_knot) (tSOf K (caK K) E (b_l_add_knot.code C I)) := by
  have nd := sc_l_add_knot.nd
  have hu := hu_of hr
  have hu65 : (A.deeper (envOfC "_law_add_knot" (defScope s_l_add_knot) s.heap.objs.size f cdv)).units + 65 < cLine := by have := hr.un; omega
  dsimp only [b_l_add_knot]
  exact qs_seq (qs_set (i := 3) (q_blt or_len s_len rfl (Z.bl 0 "len" rfl) boot_len (qa_cons (q_ix (or_ix hu) s_ix (q_var 0 (pv 0)) (q_int) (fun _ _ => rfl)) (qa_nil))) nd rfl (Or.inl rfl)) (qs_seq (qs_set (i := 4) (q_op op_mod (s_mod) (q_op op_fdiv (s_div) (q_var 1 (pv 1)) (q_int)) (q_var 3 (pv 3))) nd rfl (Or.inl rfl)) (qs_seq (qs_set (i := 5) (q_op op_mod (s_mod) (q_op op_fdiv (s_div) (q_var 1 (pv 1)) (q_int)) (q_var 3 (pv 3))) nd rfl (Or.inl rfl)) (qs_seq (qs_if (qt_cmp (or_eq hr.units) (s_eq) (q_var 4 (pv 4)) (q_var 5 (pv 5)) (nomark _)) (qs_one (qs_set (i := 5) (q_op op_mod (s_mod) (q_op or_add (s_add false) (q_var 4 (pv 4)) (q_int)) (q_var 3 (pv 3))) nd rfl (Or.inl rfl))) (qs_nil)) (qs_seq (qs_set (i := 6) (q_str) nd rfl (Or.inl rfl)) (qs_seq (qs_if (PW.pt (qw_or (PW.pt (qw_and (qt_val (q_var 2 (pv 2))) (qw_and1 (qt_cmp (or_eq hr.units) (s_eq) (q_ix (or_ix hu) s_ix (q_ix (or_ix hu) s_ix (q_var 0 (pv 0)) (q_int) (fun _ _ => rfl)) (q_var 4 (pv 4)) (fun _ _ => rfl)) (q_ix (or_ix hu) s_ix (q_ix (or_ix hu) s_ix (q_var 0 (pv 0)) (q_int) (fun _ _ => rfl)) (q_var 5 (pv 5)) (fun _ _ => rfl)) (nomark _))))) (qw_or1 (PW.pt (qw_and (qt_not (qt_val (q_var 2 (pv 2)))) (qw_and1 (qt_cmp op_gt (s_cmp _) (q_op op_mod (s_mod) (q_var 1 (pv 1)) (q_int)) (q_int) (nomark _)))))))) (qs_one (qs_set (i := 6) (q_str) nd rfl (Or.inl rfl))) (qs_nil)) (qs_one (qs_expr (q_fn (Z.fn 11 f_l_tie "_law_tie" ["loft", "a", "b", "word", "spot"] rfl) hr rfl (takes_of rfl rfl rfl rfl) (qa_cons (q_var 0 (pv 0)) (qa_cons (q_var 4 (pv 4)) (qa_cons (q_var 5 (pv 5)) (qa_cons (q_var 6 (pv 6)) (qa_cons (q_op op_fdiv (s_div) (q_var 1 (pv 1)) (q_int)) (qa_nil))))))))))))))
set_option maxHeartbeats 1000000 in
theorem d_l_add_splice (Z : Lk P w K mg base sg mts mks fa (gxOf ga) n C I) (f : Addr) (cdv : Value) (A : Around) (outer : List PySem.Env) (s : Shared) (H : Hp) (E : XK) (hr : Room (n + 1) (A.deeper (envOfC "_law_add_splice" (defScope s_l_add_splice) s.heap.objs.size f cdv))) :
    PSs (cxOf (L2.CX P w) P w K mg base N_l_add_splice "_law_add_splice" (defScope s_l_add_splice) f cdv A outer s H E) (defBody s_l_add_splice) (tSOf K (caK K) E (b_l_add_splice.code C I)) := by
  have nd := sc_l_add_splice.nd
  have hu := hu_of hr
  have hu65 : (A.deeper (envOfC "_law_add_splice" (defScope s_l_add_splice) s.heap.objs.size f cdv)).units + 65 < cLine := by have := hr.un; omega
  dsimp only [b_l_add_splice]
  exact qs_seq (qs_set (i := 3) (q_op op_mod (s_mod) (q_op op_fdiv (s_div) (q_var 1 (pv 1)) (q_int)) (q_blt or_len s_len rfl (Z.bl 0 "len" rfl) boot_len (qa_cons (q_ix (or_ix hu) s_ix (q_var 0 (pv 0)) (q_int) (fun _ _ => rfl)) (qa_nil)))) nd rfl (Or.inl rfl)) (qs_seq (qs_set (i := 4) (q_ix (or_ix hu) s_ix (q_ix (or_ix hu) s_ix (q_var 0 (pv 0)) (q_int) (fun _ _ => rfl)) (q_var 3 (pv 3)) (fun _ _ => rfl)) nd rfl (Or.inl rfl)) (qs_seq (qs_set (i := 5) (q_fn (Z.fn 9 f_l_anew "_law_anew" ["hang", "book"] rfl) hr rfl (takes_of rfl rfl rfl rfl) (qa_cons (q_var 4 (pv 4)) (qa_cons (q_ix (or_ix hu) s_ix (q_var 0 (pv 0)) (q_int) (fun _ _ => rfl)) (qa_nil)))) nd rfl (Or.inl rfl)) (qs_seq (qs_set (i := 6) (q_tup (qa_cons (q_var 4 (pv 4)) (qa_cons (q_fn (Z.fn 7 f_l_mirror "_law_mirror" ["hang"] rfl) hr rfl (takes_of rfl rfl rfl rfl) (qa_cons (q_var 5 (pv 5)) (qa_nil))) (qa_nil)))) nd rfl (Or.inl rfl)) (qs_seq (qs_if (qt_cmp (or_eq hr.units) (s_eq) (q_op op_mod (s_mod) (q_op op_fdiv (s_div) (q_var 1 (pv 1)) (q_int)) (q_int)) (q_int) (nomark _)) (qs_one (qs_set (i := 6) (q_tup (qa_cons (q_ix (or_ix hu) s_ix (q_var 6 (pv 6)) (q_int) (fun _ _ => rfl)) (qa_cons (q_ix (or_ix hu) s_ix (q_var 6 (pv 6)) (q_int) (fun _ _ => rfl)) (qa_nil)))) nd rfl (Or.inl rfl))) (qs_nil)) (qs_seq (qs_expr (q_bm PySem.F.plainAttrs_list PySem.F.slot_list_insert PySem.F.type_list_insert mt_insert s_insert (q_ix (or_ix hu) s_ix (q_var 0 (pv 0)) (q_int) (fun _ _ => rfl)) (qa_cons (q_op op_mod (s_mod) (q_op op_fdiv (s_div) (q_var 1 (pv 1)) (q_int)) (q_op or_add (s_add false) (q_blt or_len s_len rfl (Z.bl 0 "len" rfl) boot_len (qa_cons (q_ix (or_ix hu) s_ix (q_var 0 (pv 0)) (q_int) (fun _ _ => rfl)) (qa_nil))) (q_int))) (qa_cons (q_var 6 (pv 6)) (qa_nil))))) (qs_seq (qs_sub hu (q_var 5 (pv 5)) (q_ix (or_ix hu) s_ix (q_var 0 (pv 0)) (q_int) (fun _ _ => rfl)) (q_var 3 (pv 3))) (qs_one (qs_if (PW.pt (qw_and (qt_cmp (or_eq hr.units) (s_eq) (q_op op_mod (s_mod) (q_op op_fdiv (s_div) (q_var 1 (pv 1)) (q_int)) (q_int)) (q_int) (nomark _)) (qw_and1 (PW.pt (qw_or (qt_cmp (or_eq hr.units) (s_eq) (q_ix (or_ix hu) s_ix (q_var 5 (pv 5)) (q_int) (fun _ _ => rfl)) (q_str) (nomark _)) (qw_or1 (PW.pt (qw_and (qt_cmp (or_eq hr.units) (s_eq) (q_ix (or_ix hu) s_ix (q_var 5 (pv 5)) (q_int) (fun _ _ => rfl)) (q_str) (nomark _)) (qw_and1 (qt_not (qt_val (q_var 2 (pv 2))))))))))))) (qs_seq (qs_sub hu (q_ix (or_ix hu) s_ix (q_var 5 (pv 5)) (q_int) (fun _ _ => rfl)) (q_ix (or_ix hu) s_ix (q_var 0 (pv 0)) (q_int) (fun _ _ => rfl)) (q_var 3 (pv 3))) (qs_seq (qs_expr (q_bm PySem.F.plainAttrs_list PySem.F.slot_list_insert PySem.F.type_list_insert mt_insert s_insert (q_ix (or_ix hu) s_ix (q_var 0 (pv 0)) (q_int) (fun _ _ => rfl)) (qa_cons (q_op or_add (s_add false) (q_var 3 (pv 3)) (q_int)) (qa_cons (q_ix (or_ix hu) s_ix (q_var 5 (pv 5)) (q_int) (fun _ _ => rfl)) (qa_nil))))) (qs_one (qs_expr (q_bm PySem.F.plainAttrs_list PySem.F.slot_list_insert PySem.F.type_list_insert mt_insert s_insert (q_ix (or_ix hu) s_ix (q_var 0 (pv 0)) (q_int) (fun _ _ => rfl)) (qa_cons (q_op or_add (s_add false) (q_var 3 (pv 3)) (q_int)) (qa_cons (q_ix (or_ix hu) s_ix (q_ix (or_ix hu) s_ix (q_var 0 (pv 0)) (q_int) (fun _ _ => rfl)) (q_var 3 (pv 3)) (fun _ _ => rfl)) (qa_nil)))))))) (qs_nil)))))))))
set_option maxHeartbeats 1000000 in
theorem d_l_close (Z : Lk P w K mg base sg mts mks fa (gxOf ga) n C I) (f : Addr) (cdv : Value) (A : Around) (outer : List PySem.Env) (s : Shared) (H : Hp) (E : XK) (hr : Room (n + 1) (A.deeper (envOfC "_law_close" (defScope s_l_close) s.heap.objs.size f cdv))) :
    PSs (cxOf (L2.CX P w) P w K mg base N_l_close "_law_close" (defScope s_l_close) f cdv A outer s H E) (defBody s_l_close) (tSOf K (caK K) E (b_l_close.code C I)) := by
  have nd := sc_l_close.nd
  have hu := hu_of hr
  have hu65 : (A.deeper (envOfC "_law_close" (defScope s_l_close) s.heap.objs.size f cdv)).units + 65 < cLine := by have := hr.un; omega
  dsimp only [b_l_close]
  exact qs_seq (qs_if (qt_cmp (or_eq hr.units) (s_eq) (q_ix (or_ix hu) s_ix (q_var 0 (pv 0)) (q_int) (fun _ _ => rfl)) (q_lst (qa_nil)) (nomark _)) (qs_one (qs_expr (q_fn (Z.fn 12 f_l_add_cord "_law_add_cord" ["loft", "cell"] rfl) hr rfl (takes_of rfl rfl rfl rfl) (qa_cons (q_var 0 (pv 0)) (qa_cons (q_var 1 (pv 1)) (qa_nil)))))) (qs_nil)) (qs_seq (qs_setLc (i := 2) (c := false) (own := [("k", 3)]) (it_range1 cons1_len) (by decide) rfl nd rfl rfl (sw_true rfl rfl rfl (by decide +kernel)) (pi_range1 rfl (Z.bl 1 "range" rfl) (qa_cons (q_blt or_len s_len rfl (Z.bl 0 "len" rfl) boot_len (qa_cons (q_ix (or_ix hu) s_ix (q_var 0 (pv 0)) (q_int) (fun _ _ => rfl)) (qa_nil))) (qa_nil))) (blkOk_by (N := N_l_close) (sc := defScope s_l_close) (by decide +kernel)) (fun _ _ _ _ _ => pg_name (i := 3) nd rfl (Or.inl rfl)) (fun _ _ _ h => h) (fun _ _ _ _ _ => pts_one (qt_cmp (or_ne hr.units) (s_ne) (q_ix (or_ix hu) s_ix (q_ix (or_ix hu) s_ix (q_var 0 (pv 0)) (q_int) (fun _ _ => rfl)) (q_var 3 (pv 3)) (fun _ _ => rfl)) (q_ix (or_ix hu) s_ix (q_ix (or_ix hu) s_ix (q_var 0 (pv 0)) (q_int) (fun _ _ => rfl)) (q_int) (fun _ _ => rfl)) (nomark _))) (fun _ _ _ _ _ => q_var 3 (pv 3))) (qs_one (qs_while 100000 (passes_of rfl) (qt_cmp (or_ne hr.units) (s_ne) (q_var 2 (pv 2)) (q_lst (qa_nil)) (nomark _)) (qs_seq (qs_expr (q_fn (Z.fn 11 f_l_tie "_law_tie" ["loft", "a", "b", "word", "spot"] rfl) hr rfl (takes_of rfl rfl rfl rfl) (qa_cons (q_var 0 (pv 0)) (qa_cons (q_int) (qa_cons (q_ix (or_ix hu) s_ix (q_var 2 (pv 2)) (q_int) (fun _ _ => rfl)) (qa_cons (q_str) (qa_cons (q_var 1 (pv 1)) (qa_nil)))))))) (qs_one (qs_setLc (i := 2) (c := false) (own := [("k", 3)]) (it_range1 cons1_len) (by decide) rfl nd rfl rfl (sw_true rfl rfl rfl (by decide +kernel)) (pi_range1 rfl (Z.bl 1 "range" rfl) (qa_cons (q_blt or_len s_len rfl (Z.bl 0 "len" rfl) boot_len (qa_cons (q_ix (or_ix hu) s_ix (q_var 0 (pv 0)) (q_int) (fun _ _ => rfl)) (qa_nil))) (qa_nil))) (blkOk_by (N := N_l_close) (sc := defScope s_l_close) (by decide +kernel)) (fun _ _ _ _ _ => pg_name (i := 3) nd rfl (Or.inl rfl)) (fun _ _ _ h => h) (fun _ _ _ _ _ => pts_one (qt_cmp (or_ne hr.units) (s_ne) (q_ix (or_ix hu) s_ix (q_ix (or_ix hu) s_ix (q_var 0 (pv 0)) (q_int) (fun _ _ => rfl)) (q_var 3 (pv 3)) (fun _ _ => rfl)) (q_ix (or_ix hu) s_ix (q_ix (or_ix hu) s_ix (q_var 0 (pv 0)) (q_int) (fun _ _ => rfl)) (q_int) (fun _ _ => rfl)) (nomark _))) (fun _ _ _ _ _ => q_var 3 (pv 3))))))))
set_option maxHeartbeats 1000000 in
theorem d_l_loft (Z : Lk P w K mg base sg mts mks fa (gxOf ga) n C I) (f : Addr) (cdv : Value) (A : Around) (outer : List PySem.Env) (s : Shared) (H : Hp) (E : XK) (hr : Room (n + 1) (A.deeper (envOfC "_law_loft" (defScope s_l_loft) s.heap.objs.size f cdv))) :
    PSs (cxOf (L2.CX P w) P w K mg base N_l_loft "_law_loft" (defScope s_l_loft) f cdv A outer s H E) (defBody s_l_loft) (tSOf K (caK K) E (b_l_loft.code C I)) := by
  have nd := sc_l_loft.nd
  have hu := hu_of hr
  have hu65 : (A.deeper (envOfC "_law_loft" (defScope s_l_loft) s.heap.objs.size f cdv)).units + 65 < cLine := by have := hr.un; omega
  dsimp only [b_l_loft]
  exact qs_seq (qs_set (i := 4) (q_lst (qa_cons (q_lst (qa_nil)) (qa_cons (q_lst (qa_nil)) (qa_cons (q_lst (qa_nil)) (qa_cons (q_fn (Z.fn 14 f_l_book "_law_book" ["cell"] rfl) hr rfl (takes_of rfl rfl rfl rfl) (qa_cons (q_fn (Z.fn 13 f_l_cell "_law_cell" ["script", "k"] rfl) hr rfl (takes_of rfl rfl rfl rfl) (qa_cons (q_var 0 (pv 0)) (qa_cons (q_var 1 (pv 1)) (qa_nil)))) (qa_nil))) (qa_nil)))))) nd rfl (Or.inl rfl)) (qs_seq (qs_for it_any (passes_of rfl) rfl (pi_any (q_fn (Z.fn 15 f_l_cells "_law_cells" ["script", "first", "behind"] rfl) hr rfl (takes_of rfl rfl rfl rfl) (qa_cons (q_var 0 (pv 0)) (qa_cons (q_op or_add (s_add false) (q_var 1 (pv 1)) (q_int)) (qa_cons (q_op or_add (s_add false) (q_op or_add (s_add false) (q_var 1 (pv 1)) (q_int)) (q_var 2 (pv 2))) (qa_nil)))))) (pg_name (i := 5) nd rfl (Or.inl rfl)) (qs_one (qs_if (PW.pt (qw_or (qt_cmp op_lt (s_cmp _) (q_op op_mod (s_mod) (q_var 5 (pv 5)) (q_int)) (q_int) (nomark _)) (qw_or1 (qt_cmp op_lt (s_cmp _) (q_blt or_len s_len rfl (Z.bl 0 "len" rfl) boot_len (qa_cons (q_ix (or_ix hu) s_ix (q_var 4 (pv 4)) (q_int) (fun _ _ => rfl)) (qa_nil))) (q_int) (nomark _))))) (qs_one (qs_expr (q_fn (Z.fn 12 f_l_add_cord "_law_add_cord" ["loft", "cell"] rfl) hr rfl (takes_of rfl rfl rfl rfl) (qa_cons (q_var 4 (pv 4)) (qa_cons (q_var 5 (pv 5)) (qa_nil)))))) (qs_one (qs_if (PW.pt (qw_and (qt_cmp (or_eq hr.units) (s_eq) (q_op op_mod (s_mod) (q_var 5 (pv 5)) (q_int)) (q_int) (nomark _)) (qw_and1 (qt_cmp op_lt (s_cmp _) (q_blt or_len s_len rfl (Z.bl 0 "len" rfl) boot_len (qa_cons (q_fn (Z.fn 6 f_l_tips "_law_tips" ["hang"] rfl) hr rfl (takes_of rfl rfl rfl rfl) (qa_cons (q_ix (or_ix hu) s_ix (q_ix (or_ix hu) s_ix (q_var 4 (pv 4)) (q_int) (fun _ _ => rfl)) (q_op op_mod (s_mod) (q_op op_fdiv (s_div) (q_var 5 (pv 5)) (q_int)) (q_blt or_len s_len rfl (Z.bl 0 "len" rfl) boot_len (qa_cons (q_ix (or_ix hu) s_ix (q_var 4 (pv 4)) (q_int) (fun _ _ => rfl)) (qa_nil)))) (fun _ _ => rfl)) (qa_nil))) (qa_nil))) (q_int) (nomark _))))) (qs_one (qs_expr (q_fn (Z.fn 16 f_l_add_splice "_law_add_splice" ["loft", "cell", "good"] rfl) hr rfl (takes_of rfl rfl rfl rfl) (qa_cons (q_var 4 (pv 4)) (qa_cons (q_var 5 (pv 5)) (qa_cons (q_var 3 (pv 3)) (qa_nil))))))) (qs_one (qs_expr (q_fn (Z.fn 17 f_l_add_knot "_law_add_knot" ["loft", "cell", "good"] rfl) hr rfl (takes_of rfl rfl rfl rfl) (qa_cons (q_var 4 (pv 4)) (qa_cons (q_var 5 (pv 5)) (qa_cons (q_var 3 (pv 3)) (qa_nil)))))))))))) (qs_seq (qs_if (qt_val (q_var 3 (pv 3))) (qs_one (qs_expr (q_fn (Z.fn 18 f_l_close "_law_close" ["loft", "cell"] rfl) hr rfl (takes_of rfl rfl rfl rfl) (qa_cons (q_var 4 (pv 4)) (qa_cons (q_fn (Z.fn 13 f_l_cell "_law_cell" ["script", "k"] rfl) hr rfl (takes_of rfl rfl rfl rfl) (qa_cons (q_var 0 (pv 0)) (qa_cons (q_var 1 (pv 1)) (qa_nil)))) (qa_nil)))))) (qs_nil)) (qs_one (qs_ret (q_var 4 (pv 4))))))
set_option maxHeartbeats 1000000 in
theorem d_l_whole (Z : Lk P w K mg base sg mts mks fa (gxOf ga) n C I) (f : Addr) (cdv : Value) (A : Around) (outer : List PySem.Env) (s : Shared) (H : Hp) (E : XK) (hr : Room (n + 1) (A.deeper (envOfC "_law_whole" (defScope s_l_whole) s.heap.objs.size f cdv))) :
    PSs (cxOf (L2.CX P w) P w K mg base N_l_whole "_law_whole" (defScope s_l_whole) f cdv A outer s H E) (defBody s_l_whole) (tSOf K (caK K) E (b_l_whole.code C I)) := by
  have nd := sc_l_whole.nd
  have hu := hu_of hr
  have hu65 : (A.deeper (envOfC "_law_whole" (defScope s_l_whole) s.heap.objs.size f cdv)).units + 65 < cLine := by have := hr.un; omega
  dsimp only [b_l_whole]
  exact qs_one (qs_ret (q_and (q_isT rfl (Z.bl 2 "isinstance" rfl) (q_var 0 (pv 0)) (pe_bltn (v := .ty "int") rfl (Z.bl 3 "int" rfl) (by decide +kernel) rfl)) (q_one (q_not (q_isT rfl (Z.bl 2 "isinstance" rfl) (q_var 0 (pv 0)) (pe_bltn (v := .ty "bool") rfl (Z.bl 4 "bool" rfl) (by decide +kernel) rfl))))))
set_option maxHeartbeats 1000000 in
theorem d_l_hang (Z : Lk P w K mg base sg mts mks fa (gxOf ga) n C I) (f : Addr) (cdv : Value) (A : Around) (outer : List PySem.Env) (s : Shared) (H : Hp) (E : XK) (hr : Room (n + 1) (A.deeper (envOfC "_law_hang" (defScope s_l_hang) s.heap.objs.size f cdv))) :
    PSs (cxOf (L2.CX P w) P w K mg base N_l_hang "_law_hang" (defScope s_l_hang) f cdv A outer s H E) (defBody s_l_hang) (tSOf K (caK K) E (b_l_hang.code C I)) := by
  have nd := sc_l_hang.nd
  have hu := hu_of hr
  have hu65 : (A.deeper (envOfC "_law_hang" (defScope s_l_hang) s.heap.objs.size f cdv)).units + 65 < cLine := by have := hr.un; omega
  dsimp only [b_l_hang]
  exact qs_seq (qs_if (PW.pt (qw_or (qt_not (qt_val (q_isT rfl (Z.bl 2 "isinstance" rfl) (q_var 0 (pv 0)) (pe_bltn (v := .ty "tuple") rfl (Z.bl 5 "tuple" rfl) (by decide +kernel) rfl)))) (qw_or (qt_cmp (or_ne hr.units) (s_ne) (q_blt or_len s_len rfl (Z.bl 0 "len" rfl) boot_len (qa_cons (q_var 0 (pv 0)) (qa_nil))) (q_int) (nomark _)) (qw_or1 (qt_not (qt_val (q_isT rfl (Z.bl 2 "isinstance" rfl) (q_ix (or_ix hu) s_ix (q_var 0 (pv 0)) (q_int) (fun _ _ => rfl)) (pe_bltn (v := .ty "str") rfl (Z.bl 6 "str" rfl) (by decide +kernel) rfl)))))))) (qs_one (qs_ret (q_bl))) (qs_nil)) (qs_seq (qs_if (PW.pt (qw_or (qt_cmp (or_eq hr.units) (s_eq) (q_ix (or_ix hu) s_ix (q_var 0 (pv 0)) (q_int) (fun _ _ => rfl)) (q_str) (nomark _)) (qw_or1 (qt_cmp (or_eq hr.units) (s_eq) (q_ix (or_ix hu) s_ix (q_var 0 (pv 0)) (q_int) (fun _ _ => rfl)) (q_str) (nomark _))))) (qs_one (qs_ret (q_and (q_fn (Z.fn 19 f_l_hang "_law_hang" ["found"] rfl) hr rfl (takes_of rfl rfl rfl rfl) (qa_cons (q_ix (or_ix hu) s_ix (q_var 0 (pv 0)) (q_int) (fun _ _ => rfl)) (qa_nil))) (q_one (q_fn (Z.fn 19 f_l_hang "_law_hang" ["found"] rfl) hr rfl (takes_of rfl rfl rfl rfl) (qa_cons (q_ix (or_ix hu) s_ix (q_var 0 (pv 0)) (q_int) (fun _ _ => rfl)) (qa_nil))))))) (qs_nil)) (qs_one (qs_ret (q_and (q_isT rfl (Z.bl 2 "isinstance" rfl) (q_ix (or_ix hu) s_ix (q_var 0 (pv 0)) (q_int) (fun _ _ => rfl)) (pe_bltn (v := .ty "str") rfl (Z.bl 6 "str" rfl) (by decide +kernel) rfl)) (q_one (q_fn (Z.fn 20 f_l_whole "_law_whole" ["found"] rfl) hr rfl (takes_of rfl rfl rfl rfl) (qa_cons (q_ix (or_ix hu) s_ix (q_var 0 (pv 0)) (q_int) (fun _ _ => rfl)) (qa_nil))))))))
set_option maxHeartbeats 1000000 in
theorem d_l_words (Z : Lk P w K mg base sg mts mks fa (gxOf ga) n C I) (f : Addr) (cdv : Value) (A : Around) (outer : List PySem.Env) (s : Shared) (H : Hp) (E : XK) (hr : Room (n + 1) (A.deeper (envOfC "_law_words" (defScope s_l_words) s.heap.objs.size f cdv))) :
    PSs (cxOf (L2.CX P w) P w K mg base N_l_words "_law_words" (defScope s_l_words) f cdv A outer s H E) (defBody s_l_words) (tSOf K (caK K) E (b_l_words.code C I)) := by
  have nd := sc_l_words.nd
  have hu := hu_of hr
  have hu65 : (A.deeper (envOfC "_law_words" (defScope s_l_words) s.heap.objs.size f cdv)).units + 65 < cLine := by have := hr.un; omega
  dsimp only [b_l_words]
  exact qs_seq (qs_if (qt_val (q_fn (Z.fn 5 f_l_is_tip "_law_is_tip" ["hang"] rfl) hr rfl (takes_of rfl rfl rfl rfl) (qa_cons (q_var 0 (pv 0)) (qa_nil)))) (qs_one (qs_ret (q_lst (qa_nil)))) (qs_nil)) (qs_one (qs_ret (q_op or_add (s_add false) (q_op or_add (s_add false) (q_lst (qa_cons (q_ix (or_ix hu) s_ix (q_var 0 (pv 0)) (q_int) (fun _ _ => rfl)) (qa_nil))) (q_fn (Z.fn 21 f_l_words "_law_words" ["hang"] rfl) hr rfl (takes_of rfl rfl rfl rfl) (qa_cons (q_ix (or_ix hu) s_ix (q_var 0 (pv 0)) (q_int) (fun _ _ => rfl)) (qa_nil)))) (q_fn (Z.fn 21 f_l_words "_law_words" ["hang"] rfl) hr rfl (takes_of rfl rfl rfl rfl) (qa_cons (q_ix (or_ix hu) s_ix (q_var 0 (pv 0)) (q_int) (fun _ _ => rfl)) (qa_nil))))))
set_option maxHeartbeats 1000000 in
theorem d_l_renamed (Z : Lk P w K mg base sg mts mks fa (gxOf ga) n C I) (f : Addr) (cdv : Value) (A : Around) (outer : List PySem.Env) (s : Shared) (H : Hp) (E : XK) (hr : Room (n + 1) (A.deeper (envOfC "_law_renamed" (defScope s_l_renamed) s.heap.objs.size f cdv))) :
    PSs (cxOf (L2.CX P w) P w K mg base N_l_renamed "_law_renamed" (defScope s_l_renamed) f cdv A outer s H E) (defBody s_l_renamed) (tSOf K (caK K) E (b_l_renamed.code C I)) := by
  have nd := sc_l_renamed.nd
  have hu := hu_of hr
  have hu65 : (A.deeper (envOfC "_law_renamed" (defScope s_l_renamed) s.heap.objs.size f cdv)).units + 65 < cLine := by have := hr.un; omega
  dsimp only [b_l_renamed]
  exact qs_seq (qs_if (qt_not (qt_val (q_fn (Z.fn 5 f_l_is_tip "_law_is_tip" ["hang"] rfl) hr rfl (takes_of rfl rfl rfl rfl) (qa_cons (q_var 0 (pv 0)) (qa_nil))))) (qs_one (qs_ret (q_tup (qa_cons (q_ix (or_ix hu) s_ix (q_var 0 (pv 0)) (q_int) (fun _ _ => rfl)) (qa_cons (q_fn (Z.fn 22 f_l_renamed "_law_renamed" ["hang", "names"] rfl) hr rfl (takes_of rfl rfl rfl rfl) (qa_cons (q_ix (or_ix hu) s_ix (q_var 0 (pv 0)) (q_int) (fun _ _ => rfl)) (qa_cons (q_var 1 (pv 1)) (qa_nil)))) (qa_cons (q_fn (Z.fn 22 f_l_renamed "_law_renamed" ["hang", "names"] rfl) hr rfl (takes_of rfl rfl rfl rfl) (qa_cons (q_ix (or_ix hu) s_ix (q_var 0 (pv 0)) (q_int) (fun _ _ => rfl)) (qa_cons (q_var 1 (pv 1)) (qa_nil)))) (qa_nil))))))) (qs_nil)) (qs_seq (qs_if (qt_cmp (or_in hu65) (s_in) (q_ix (or_ix hu) s_ix (q_var 0 (pv 0)) (q_int) (fun _ _ => rfl)) (q_var 1 (pv 1)) (by with_unfolding_all rfl)) (qs_one (qs_ret (q_tup (qa_cons (q_ix (or_ix hu) s_ix (q_var 0 (pv 0)) (q_int) (fun _ _ => rfl)) (qa_cons (q_ix (or_ix hu) s_ix (q_var 0 (pv 0)) (q_int) (fun _ _ => rfl)) (qa_cons (q_ix (or_ix hu) s_ix (q_var 1 (pv 1)) (q_ix (or_ix hu) s_ix (q_var 0 (pv 0)) (q_int) (fun _ _ => rfl)) (fun _ _ => rfl)) (qa_nil))))))) (qs_nil)) (qs_one (qs_ret (q_var 0 (pv 0)))))
set_option maxHeartbeats 1000000 in
theorem d_law_k02 (Z : Lk P w K mg base sg mts mks fa (gxOf ga) n C I) (f : Addr) (cdv : Value) (A : Around) (outer : List PySem.Env) (s : Shared) (H : Hp) (E : XK) (hr : Room (n + 1) (A.deeper (envOfC "law" (defScope s_law_k02) s.heap.objs.size f cdv))) :
    PSs (cxOf (L2.CX P w) P w K mg base N_law_k02 "law" (defScope s_law_k02) f cdv A outer s H E) (defBody s_law_k02) (tSOf K (caK K) E (b_law_k02.code C I)) := by
  have nd := sc_law_k02.nd
  have hu := hu_of hr
  have hu65 : (A.deeper (envOfC "law" (defScope s_law_k02) s.heap.objs.size f cdv)).units + 65 < cLine := by have := hr.un; omega
  dsimp only [b_law_k02]
  exact qs_seq (qs_set (i := 1) (q_fn (Z.fn 23 f_l_loft "_law_loft" ["script", "first", "most", "good"] rfl) hr rfl (takes_of rfl rfl rfl rfl) (qa_cons (q_var 0 (pv 0)) (qa_cons (q_int) (qa_cons (q_int) (qa_cons (q_bl) (qa_nil)))))) nd rfl (Or.inl rfl)) (qs_seq (qs_if (qt_cmp (or_eq hr.units) (s_eq) (q_ix (or_ix hu) s_ix (q_var 1 (pv 1)) (q_int) (fun _ _ => rfl)) (q_lst (qa_nil)) (nomark _)) (qs_one (qs_expr (q_fn (Z.fn 12 f_l_add_cord "_law_add_cord" ["loft", "cell"] rfl) hr rfl (takes_of rfl rfl rfl rfl) (qa_cons (q_var 1 (pv 1)) (qa_cons (q_fn (Z.fn 13 f_l_cell "_law_cell" ["script", "k"] rfl) hr rfl (takes_of rfl rfl rfl rfl) (qa_cons (q_var 0 (pv 0)) (qa_cons (q_int) (qa_nil)))) (qa_nil)))))) (qs_nil)) (qs_seq (qs_set (i := 2) (q_ix (or_ix hu) s_ix (q_ix (or_ix hu) s_ix (q_var 1 (pv 1)) (q_int) (fun _ _ => rfl)) (q_op op_mod (s_mod) (q_fn (Z.fn 13 f_l_cell "_law_cell" ["script", "k"] rfl) hr rfl (takes_of rfl rfl rfl rfl) (qa_cons (q_var 0 (pv 0)) (qa_cons (q_int) (qa_nil)))) (q_blt or_len s_len rfl (Z.bl 0 "len" rfl) boot_len (qa_cons (q_ix (or_ix hu) s_ix (q_var 1 (pv 1)) (q_int) (fun _ _ => rfl)) (qa_nil)))) (fun _ _ => rfl)) nd rfl (Or.inl rfl)) (qs_seq (qs_set (i := 3) (q_fn (Z.fn 6 f_l_tips "_law_tips" ["hang"] rfl) hr rfl (takes_of rfl rfl rfl rfl) (qa_cons (q_var 2 (pv 2)) (qa_nil))) nd rfl (Or.inl rfl)) (qs_seq (qs_set (i := 4) (q_fn (Z.fn 1 f_p_tips "tips" ["hang"] rfl) hr rfl (takes_of rfl rfl rfl rfl) (qa_cons (q_var 2 (pv 2)) (qa_nil))) nd rfl (Or.inl rfl)) (qs_seq (qs_if (PW.pt (qw_or (qt_not (qt_val (q_isT rfl (Z.bl 2 "isinstance" rfl) (q_var 4 (pv 4)) (pe_bltn (v := .ty "list") rfl (Z.bl 7 "list" rfl) (by decide +kernel) rfl)))) (qw_or (qt_cmp (or_ne hr.units) (s_ne) (q_var 4 (pv 4)) (q_var 3 (pv 3)) (nomark _)) (qw_or1 (qt_not (qt_val (q_blt (cr_all rfl) s_all rfl (Z.bl 8 "all" rfl) (by decide +kernel) (qa_cons (q_comp (c := false) (own := [("tip", 9)]) it_any (by decide) rfl nd (pi_any (q_var 4 (pv 4))) (blkOk_by (N := N_law_k02) (sc := defScope s_law_k02) (by decide +kernel)) (fun _ _ _ _ _ => pg_name (i := 9) nd rfl (Or.inl rfl)) c_yes (fun _ _ _ _ _ => pts_nil) (fun _ _ _ _ _ => q_fn (Z.fn 19 f_l_hang "_law_hang" ["found"] rfl) hr rfl takes0 (qa_cons (q_var 9 (pv 9)) (qa_nil)))) (qa_nil))))))))) (qs_one (qs_ret (q_bl))) (qs_nil)) (qs_seq (qs_set (i := 5) (q_fn (Z.fn 21 f_l_words "_law_words" ["hang"] rfl) hr rfl (takes_of rfl rfl rfl rfl) (qa_cons (q_var 2 (pv 2)) (qa_nil))) nd rfl (Or.inl rfl)) (qs_seq (qs_set (i := 6) (q_fn (Z.fn 2 f_p_knots "knots" ["hang"] rfl) hr rfl (takes_of rfl rfl rfl rfl) (qa_cons (q_var 2 (pv 2)) (qa_nil))) nd rfl (Or.inl rfl)) (qs_seq (qs_if (PW.pt (qw_or (qt_not (qt_val (q_isT rfl (Z.bl 2 "isinstance" rfl) (q_var 6 (pv 6)) (pe_bltn (v := .ty "tuple") rfl (Z.bl 5 "tuple" rfl) (by decide +kernel) rfl)))) (qw_or (qt_cmp (or_ne hr.units) (s_ne) (q_blt or_len s_len rfl (Z.bl 0 "len" rfl) boot_len (qa_cons (q_var 6 (pv 6)) (qa_nil))) (q_int) (nomark _)) (qw_or (qt_not (qt_val (q_fn (Z.fn 20 f_l_whole "_law_whole" ["found"] rfl) hr rfl (takes_of rfl rfl rfl rfl) (qa_cons (q_ix (or_ix hu) s_ix (q_var 6 (pv 6)) (q_int) (fun _ _ => rfl)) (qa_nil))))) (qw_or1 (qt_not (qt_val (q_fn (Z.fn 20 f_l_whole "_law_whole" ["found"] rfl) hr rfl (takes_of rfl rfl rfl rfl) (qa_cons (q_ix (or_ix hu) s_ix (q_var 6 (pv 6)) (q_int) (fun _ _ => rfl)) (qa_nil)))))))))) (qs_one (qs_ret (q_bl))) (qs_nil)) (qs_seq (qs_if (qt_cmp (or_ne hr.units) (s_ne) (q_var 6 (pv 6)) (q_tup (qa_cons (q_bm PySem.F.plainAttrs_list PySem.F.slot_list_count PySem.F.type_list_count mt_scount s_count (q_var 5 (pv 5)) (qa_cons (q_str) (qa_nil))) (qa_cons (q_bm PySem.F.plainAttrs_list PySem.F.slot_list_count PySem.F.type_list_count mt_scount s_count (q_var 5 (pv 5)) (qa_cons (q_str) (qa_nil))) (qa_nil)))) (nomark _)) (qs_one (qs_ret (q_bl))) (qs_nil)) (qs_seq (qs_set (i := 7) (q_disp [(mN (fun S ds => C f_l_number ds S) (mCons (m2 oIx (mV 1) (mC (.int 3))) (mNil)), mC (.int 7))] (qp_cons (q_fn (Z.fn 8 f_l_number "_law_number" ["book"] rfl) hr rfl takes0 (qa_cons (q_ix (or_ix hu) s_ix (q_var 1 (pv 1)) (q_int) (fun _ _ => rfl)) (qa_nil))) (q_int) (qp_nil)) (by rfl) (by rfl) (fun z => by cases z) (by decide)) nd rfl (Or.inl rfl)) (qs_seq (qs_for it_enum (passes_of rfl) rfl (pi_enum rfl (Z.bl 9 "enumerate" rfl) (qa_cons (q_var 3 (pv 3)) (qa_nil))) (pg_tup rfl (pgs_cons (pg_name (i := 8) nd rfl (Or.inl rfl)) (pgs_cons (pg_name (i := 9) nd rfl (Or.inl rfl)) pgs_nil))) (qs_one (qs_if (qt_cmp (or_eq hr.units) (s_eq) (q_op op_mod (s_mod) (q_op op_fdiv (s_div) (q_fn (Z.fn 13 f_l_cell "_law_cell" ["script", "k"] rfl) hr rfl (takes_of rfl rfl rfl rfl) (qa_cons (q_var 0 (pv 0)) (qa_cons (q_int) (qa_nil)))) (q_op or_add (s_add false) (q_var 8 (pv 8)) (q_int))) (q_int)) (q_int) (nomark _)) (qs_one (qs_sub hu (q_op or_add (s_add false) (q_op op_mod (s_mod) (q_fn (Z.fn 13 f_l_cell "_law_cell" ["script", "k"] rfl) hr rfl (takes_of rfl rfl rfl rfl) (qa_cons (q_var 0 (pv 0)) (qa_cons (q_int) (qa_nil)))) (q_op op_pow (s_pow) (q_int) (q_int))) (q_op or_mul (s_mul false) (q_int) (q_var 8 (pv 8)))) (q_var 7 (pv 7)) (q_ix (or_ix hu) s_ix (q_var 9 (pv 9)) (q_int) (fun _ _ => rfl)))) (qs_nil)))) (qs_seq (qs_set (i := 10) (q_blty call_dictD s_dict rfl (Z.bl 10 "dict" rfl) (by decide +kernel) (qa_cons (q_var 7 (pv 7)) (qa_nil))) nd rfl (Or.inl rfl)) (qs_seq (qs_set (i := 11) (q_fn (Z.fn 3 f_p_renamed "renamed" ["hang", "names"] rfl) hr rfl (takes_of rfl rfl rfl rfl) (qa_cons (q_var 2 (pv 2)) (qa_cons (q_var 7 (pv 7)) (qa_nil)))) nd rfl (Or.inl rfl)) (qs_one (qs_ret (q_and (q_fn (Z.fn 19 f_l_hang "_law_hang" ["found"] rfl) hr rfl (takes_of rfl rfl rfl rfl) (qa_cons (q_var 11 (pv 11)) (qa_nil))) (q_and (q_cmp (or_eq hr.units) (s_eq) (q_var 11 (pv 11)) (q_fn (Z.fn 22 f_l_renamed "_law_renamed" ["hang", "names"] rfl) hr rfl (takes_of rfl rfl rfl rfl) (qa_cons (q_var 2 (pv 2)) (qa_cons (q_var 10 (pv 10)) (qa_nil)))) (nomark _)) (q_one (q_cmp (or_eqX hr.units) (s_eqX) (q_var 7 (pv 7)) (q_var 10 (pv 10)) (nomark _))))))))))))))))))))
end
def fns : List He.DefD := (⟨("is_tip", none), "is_tip", "is_tip", defArgs s_p_is_tip, defBody s_p_is_tip, defScope s_p_is_tip, [], []⟩ ::
  ⟨("tips", none), "tips", "tips", defArgs s_p_tips, defBody s_p_tips, defScope s_p_tips, [], []⟩ ::
  ⟨("knots", none), "knots", "knots", defArgs s_p_knots, defBody s_p_knots, defScope s_p_knots, [], []⟩ ::
  ⟨("renamed", none), "renamed", "renamed", defArgs s_p_renamed, defBody s_p_renamed, defScope s_p_renamed, [], []⟩ ::
  ⟨("_law_stir", none), "_law_stir", "_law_stir", defArgs s_l_stir, defBody s_l_stir, defScope s_l_stir, [], []⟩ ::
  ⟨("_law_cell", none), "_law_cell", "_law_cell", defArgs s_l_cell, defBody s_l_cell, defScope s_l_cell, [], []⟩ ::
  ⟨("_law_cells", none), "_law_cells", "_law_cells", defArgs s_l_cells, defBody s_l_cells, defScope s_l_cells, [], []⟩ ::
  ⟨("_law_dye", none), "_law_dye", "_law_dye", defArgs s_l_dye, defBody s_l_dye, defScope s_l_dye, [], []⟩ ::
  ⟨("_law_book", none), "_law_book", "_law_book", defArgs s_l_book, defBody s_l_book, defScope s_l_book, [], []⟩ ::
  ⟨("_law_number", none), "_law_number", "_law_number", defArgs s_l_number, defBody s_l_number, defScope s_l_number, [], []⟩ ::
  ⟨("_law_is_tip", none), "_law_is_tip", "_law_is_tip", defArgs s_l_is_tip, defBody s_l_is_tip, defScope s_l_is_tip, [], []⟩ ::
  ⟨("_law_tips", none), "_law_tips", "_law_tips", defArgs s_l_tips, defBody s_l_tips, defScope s_l_tips, [], []⟩ ::
  ⟨("_law_mirror", none), "_law_mirror", "_law_mirror", defArgs s_l_mirror, defBody s_l_mirror, defScope s_l_mirror, [], []⟩ ::
  ⟨("_law_anew", none), "_law_anew", "_law_anew", defArgs s_l_anew, defBody s_l_anew, defScope s_l_anew, [], []⟩ ::
  ⟨("_law_add_cord", none), "_law_add_cord", "_law_add_cord", defArgs s_l_add_cord, defBody s_l_add_cord, defScope s_l_add_cord, [], []⟩ ::
  ⟨("_law_tie", none), "_law_tie", "_law_tie", defArgs s_l_tie, defBody s_l_tie, defScope s_l_tie, [], []⟩ ::
  ⟨("_law_add_knot", none), "_law_add_knot", "_law_add_knot", defArgs s_l_add_knot, defBody s_l_add_knot, defScope s_l_add_knot, [], []⟩ ::
  ⟨("_law_add_splice", none), "_law_add_splice", "_law_add_splice", defArgs s_l_add_splice, defBody s_l_add_splice, defScope s_l_add_splice, [], []⟩ ::
  ⟨("_law_close", none), "_law_close", "_law_close", defArgs s_l_close, defBody s_l_close, defScope s_l_close, [], []⟩ ::
  ⟨("_law_loft", none), "_law_loft", "_law_loft", defArgs s_l_loft, defBody s_l_loft, defScope s_l_loft, [], []⟩ ::
  ⟨("_law_whole", none), "_law_whole", "_law_whole", defArgs s_l_whole, defBody s_l_whole, defScope s_l_whole, [], []⟩ ::
  ⟨("_law_hang", none), "_law_hang", "_law_hang", defArgs s_l_hang, defBody s_l_hang, defScope s_l_hang, [], []⟩ ::
  ⟨("_law_words", none), "_law_words", "_law_words", defArgs s_l_words, defBody s_l_words, defScope s_l_words, [], []⟩ ::
  ⟨("_law_renamed", none), "_law_renamed", "_law_renamed", defArgs s_l_renamed, defBody s_l_renamed, defScope s_l_renamed, [], []⟩ ::
  ⟨("law", none), "law", "law", defArgs s_law_k02, defBody s_law_k02, defScope s_law_k02, [], []⟩ ::
  [])
section
variable {P : Program} {w : World} {K : PySem.W.Frag} {mg : Str → Option Value} {base : Heap}
set_option maxHeartbeats 8000000 in
theorem allZ (c : He.SaysD fa fns K) (y : gxOf ga K = true) (X : K.In base) (G : base.Ns mainGlobals mg) : ∀ n, Lk P w K mg base sg mts mks fa (gxOf ga) n (ev T (n + 1)) (ev T n) ∧ ∀ q ∈ mks, MkAt P w K mg base (caK K) (n + 1) q.2.1 q.2.2.1 q.2.2.2.1 q.2.2.2.2 (ev T (n + 1) q.1) := by
  obtain ⟨fd0, F0⟩ := c.def_ 0 rfl
  have m0 := He.glo_ok X G (c.fact 11 (f := .glo "is_tip") rfl)
  have b0 : L2.Binds K fd0 N_p_is_tip_ps [] := F0.bindsN fun _ _ _ _ _ _ us hl => match us, hl with | [_], _ => rfl
  obtain ⟨fd1, F1⟩ := c.def_ 1 rfl
  have m1 := He.glo_ok X G (c.fact 12 (f := .glo "tips") rfl)
  have b1 : L2.Binds K fd1 N_p_tips_ps [] := F1.bindsN fun _ _ _ _ _ _ us hl => match us, hl with | [_], _ => rfl
  obtain ⟨fd2, F2⟩ := c.def_ 2 rfl
  have m2 := He.glo_ok X G (c.fact 13 (f := .glo "knots") rfl)
  have b2 : L2.Binds K fd2 N_p_knots_ps [] := F2.bindsN fun _ _ _ _ _ _ us hl => match us, hl with | [_], _ => rfl
  obtain ⟨fd3, F3⟩ := c.def_ 3 rfl
  have m3 := He.glo_ok X G (c.fact 14 (f := .glo "renamed") rfl)
  have b3 : L2.Binds K fd3 N_p_renamed_ps [] := F3.bindsN fun _ _ _ _ _ _ us hl => match us, hl with | [_, _], _ => rfl
  obtain ⟨fd4, F4⟩ := c.def_ 4 rfl
  have m4 := He.glo_ok X G (c.fact 15 (f := .glo "_law_stir") rfl)
  have b4 : L2.Binds K fd4 N_l_stir_ps [] := F4.bindsN fun _ _ _ _ _ _ us hl => match us, hl with | [_], _ => rfl
  obtain ⟨fd5, F5⟩ := c.def_ 5 rfl
  have m5 := He.glo_ok X G (c.fact 24 (f := .glo "_law_cell") rfl)
  have b5 : L2.Binds K fd5 N_l_cell_ps [] := F5.bindsN fun _ _ _ _ _ _ us hl => match us, hl with | [_, _], _ => rfl
  obtain ⟨fd6, F6⟩ := c.def_ 6 rfl
  have m6 := He.glo_ok X G (c.fact 26 (f := .glo "_law_cells") rfl)
  have b6 : L2.Binds K fd6 N_l_cells_ps [] := F6.bindsN fun _ _ _ _ _ _ us hl => match us, hl with | [_, _, _], _ => rfl
  obtain ⟨fd7, F7⟩ := c.def_ 7 rfl
  have m7 := He.glo_ok X G (c.fact 21 (f := .glo "_law_dye") rfl)
  have b7 : L2.Binds K fd7 N_l_dye_ps [] := F7.bindsN fun _ _ _ _ _ _ us hl => match us, hl with | [_], _ => rfl
  obtain ⟨fd8, F8⟩ := c.def_ 8 rfl
  have m8 := He.glo_ok X G (c.fact 25 (f := .glo "_law_book") rfl)
  have b8 : L2.Binds K fd8 N_l_book_ps [] := F8.bindsN fun _ _ _ _ _ _ us hl => match us, hl with | [_], _ => rfl
  obtain ⟨fd9, F9⟩ := c.def_ 9 rfl
  have m9 := He.glo_ok X G (c.fact 19 (f := .glo "_law_number") rfl)
  have b9 : L2.Binds K fd9 N_l_number_ps [] := F9.bindsN fun _ _ _ _ _ _ us hl => match us, hl with | [_], _ => rfl
  obtain ⟨fd10, F10⟩ := c.def_ 10 rfl
  have m10 := He.glo_ok X G (c.fact 16 (f := .glo "_law_is_tip") rfl)
  have b10 : L2.Binds K fd10 N_l_is_tip_ps [] := F10.bindsN fun _ _ _ _ _ _ us hl => match us, hl with | [_], _ => rfl
  obtain ⟨fd11, F11⟩ := c.def_ 11 rfl
  have m11 := He.glo_ok X G (c.fact 17 (f := .glo "_law_tips") rfl)
  have b11 : L2.Binds K fd11 N_l_tips_ps [] := F11.bindsN fun _ _ _ _ _ _ us hl => match us, hl with | [_], _ => rfl
  obtain ⟨fd12, F12⟩ := c.def_ 12 rfl
  have m12 := He.glo_ok X G (c.fact 18 (f := .glo "_law_mirror") rfl)
  have b12 : L2.Binds K fd12 N_l_mirror_ps [] := F12.bindsN fun _ _ _ _ _ _ us hl => match us, hl with | [_], _ => rfl
  obtain ⟨fd13, F13⟩ := c.def_ 13 rfl
  have m13 := He.glo_ok X G (c.fact 20 (f := .glo "_law_anew") rfl)
  have b13 : L2.Binds K fd13 N_l_anew_ps [] := F13.bindsN fun _ _ _ _ _ _ us hl => match us, hl with | [_, _], _ => rfl
  obtain ⟨fd14, F14⟩ := c.def_ 14 rfl
  have m14 := He.glo_ok X G (c.fact 23 (f := .glo "_law_add_cord") rfl)
  have b14 : L2.Binds K fd14 N_l_add_cord_ps [] := F14.bindsN fun _ _ _ _ _ _ us hl => match us, hl with | [_, _], _ => rfl
  obtain ⟨fd15, F15⟩ := c.def_ 15 rfl
  have m15 := He.glo_ok X G (c.fact 22 (f := .glo "_law_tie") rfl)
  have b15 : L2.Binds K fd15 N_l_tie_ps [] := F15.bindsN fun _ _ _ _ _ _ us hl => match us, hl with | [_, _, _, _, _], _ => rfl
  obtain ⟨fd16, F16⟩ := c.def_ 16 rfl
  have m16 := He.glo_ok X G (c.fact 28 (f := .glo "_law_add_knot") rfl)
  have b16 : L2.Binds K fd16 N_l_add_knot_ps [] := F16.bindsN fun _ _ _ _ _ _ us hl => match us, hl with | [_, _, _], _ => rfl
  obtain ⟨fd17, F17⟩ := c.def_ 17 rfl
  have m17 := He.glo_ok X G (c.fact 27 (f := .glo "_law_add_splice") rfl)
  have b17 : L2.Binds K fd17 N_l_add_splice_ps [] := F17.bindsN fun _ _ _ _ _ _ us hl => match us, hl with | [_, _, _], _ => rfl
  obtain ⟨fd18, F18⟩ := c.def_ 18 rfl
  have m18 := He.glo_ok X G (c.fact 29 (f := .glo "_law_close") rfl)
  have b18 : L2.Binds K fd18 N_l_close_ps [] := F18.bindsN fun _ _ _ _ _ _ us hl => match us, hl with | [_, _], _ => rfl
  obtain ⟨fd19, F19⟩ := c.def_ 19 rfl
  have m19 := He.glo_ok X G (c.fact 34 (f := .glo "_law_loft") rfl)
  have b19 : L2.Binds K fd19 N_l_loft_ps [] := F19.bindsN fun _ _ _ _ _ _ us hl => match us, hl with | [_, _, _, _], _ => rfl
  obtain ⟨fd20, F20⟩ := c.def_ 20 rfl
  have m20 := He.glo_ok X G (c.fact 31 (f := .glo "_law_whole") rfl)
  have b20 : L2.Binds K fd20 N_l_whole_ps [] := F20.bindsN fun _ _ _ _ _ _ us hl => match us, hl with | [_], _ => rfl
  obtain ⟨fd21, F21⟩ := c.def_ 21 rfl
  have m21 := He.glo_ok X G (c.fact 30 (f := .glo "_law_hang") rfl)
  have b21 : L2.Binds K fd21 N_l_hang_ps [] := F21.bindsN fun _ _ _ _ _ _ us hl => match us, hl with | [_], _ => rfl
  obtain ⟨fd22, F22⟩ := c.def_ 22 rfl
  have m22 := He.glo_ok X G (c.fact 32 (f := .glo "_law_words") rfl)
  have b22 : L2.Binds K fd22 N_l_words_ps [] := F22.bindsN fun _ _ _ _ _ _ us hl => match us, hl with | [_], _ => rfl
  obtain ⟨fd23, F23⟩ := c.def_ 23 rfl
  have m23 := He.glo_ok X G (c.fact 33 (f := .glo "_law_renamed") rfl)
  have b23 : L2.Binds K fd23 N_l_renamed_ps [] := F23.bindsN fun _ _ _ _ _ _ us hl => match us, hl with | [_, _], _ => rfl
  obtain ⟨fd24, F24⟩ := c.def_ 24 rfl
  have m24 := He.glo_ok X G (c.fact 35 (f := .glo "law") rfl)
  have b24 : L2.Binds K fd24 N_law_k02_ps [] := F24.bindsN fun _ _ _ _ _ _ us hl => match us, hl with | [_], _ => rfl
  have fct : ∀ (j : Nat) f, fa[j]? = some f → f.ok K = true := fun j f h => c.fact j h
  intro n
  induction n with
  | zero =>
    have h1 : ∀ q ∈ sg, FnAt P w K mg base (caK K) 1 q.2.1 q.2.2 (ev T 1 q.1) := fa_cons (at_one m0 F0.kp b0) (fa_cons (at_one m1 F1.kp b1) (fa_cons (at_one m2 F2.kp b2) (fa_cons (at_one m3 F3.kp b3) (fa_cons (at_one m4 F4.kp b4) (fa_cons (at_one m10 F10.kp b10) (fa_cons (at_one m11 F11.kp b11) (fa_cons (at_one m12 F12.kp b12) (fa_cons (at_one m9 F9.kp b9) (fa_cons (at_one m13 F13.kp b13) (fa_cons (at_one m7 F7.kp b7) (fa_cons (at_one m15 F15.kp b15) (fa_cons (at_one m14 F14.kp b14) (fa_cons (at_one m5 F5.kp b5) (fa_cons (at_one m8 F8.kp b8) (fa_cons (at_one m6 F6.kp b6) (fa_cons (at_one m17 F17.kp b17) (fa_cons (at_one m16 F16.kp b16) (fa_cons (at_one m18 F18.kp b18) (fa_cons (at_one m21 F21.kp b21) (fa_cons (at_one m20 F20.kp b20) (fa_cons (at_one m22 F22.kp b22) (fa_cons (at_one m23 F23.kp b23) (fa_cons (at_one m19 F19.kp b19) (fa_cons (at_one m24 F24.kp b24) (fa_nil)))))))))))))))))))))))))
    have h2 : ∀ q ∈ mts, MtAt P w K mg base (caK K) 1 q.2.1 q.2.2.1 q.2.2.2 (ev T 1 q.1) := fa_nil
    have h3 : ∀ q ∈ mks, MkAt P w K mg base (caK K) 0 q.2.1 q.2.2.1 q.2.2.2.1 q.2.2.2.2 (ev T 0 q.1) := fa_nil
    have h4 : ∀ q ∈ mks, MkAt P w K mg base (caK K) 1 q.2.1 q.2.2.1 q.2.2.2.1 q.2.2.2.2 (ev T 1 q.1) := fa_nil
    exact ⟨⟨fun j i x ps h => h1 _ (List.mem_of_getElem? h), fun j i c m ps h => h2 _ (List.mem_of_getElem? h), fun j i x c ps dds h => h3 _ (List.mem_of_getElem? h), fct, X, G, y⟩, h4⟩
  | succ n ZE =>
    obtain ⟨Z, E⟩ := ZE
    have h1 : ∀ q ∈ sg, FnAt P w K mg base (caK K) (n + 2) q.2.1 q.2.2 (ev T (n + 2) q.1) := fa_cons (at_fn (sim_ok (b := b_p_is_tip) rfl F0 sc_p_is_tip rfl rfl (d_p_is_tip Z _)) m0 F0.kp b0) (fa_cons (at_fn (sim_ok (b := b_p_tips) rfl F1 sc_p_tips rfl rfl (d_p_tips Z _)) m1 F1.kp b1) (fa_cons (at_fn (sim_ok (b := b_p_knots) rfl F2 sc_p_knots rfl rfl (d_p_knots Z _)) m2 F2.kp b2) (fa_cons (at_fn (sim_ok (b := b_p_renamed) rfl F3 sc_p_renamed rfl rfl (d_p_renamed Z _)) m3 F3.kp b3) (fa_cons (at_fn (sim_ok (b := b_l_stir) rfl F4 sc_l_stir rfl rfl (d_l_stir Z _)) m4 F4.kp b4) (fa_cons (at_fn (sim_ok (b := b_l_is_tip) rfl F10 sc_l_is_tip rfl rfl (d_l_is_tip Z _)) m10 F10.kp b10) (fa_cons (at_fn (sim_ok (b := b_l_tips) rfl F11 sc_l_tips rfl rfl (d_l_tips Z _)) m11 F11.kp b11) (fa_cons (at_fn (sim_ok (b := b_l_mirror) rfl F12 sc_l_mirror rfl rfl (d_l_mirror Z _)) m12 F12.kp b12) (fa_cons (at_fn (sim_ok (b := b_l_number) rfl F9 sc_l_number rfl rfl (d_l_number Z _)) m9 F9.kp b9) (fa_cons (at_fn (sim_ok (b := b_l_anew) rfl F13 sc_l_anew rfl rfl (d_l_anew Z _)) m13 F13.kp b13) (fa_cons (at_fn (sim_ok (b := b_l_dye) rfl F7 sc_l_dye rfl rfl (d_l_dye Z _)) m7 F7.kp b7) (fa_cons (at_fn (sim_ok (b := b_l_tie) rfl F15 sc_l_tie rfl rfl (d_l_tie Z _)) m15 F15.kp b15) (fa_cons (at_fn (sim_ok (b := b_l_add_cord) rfl F14 sc_l_add_cord rfl rfl (d_l_add_cord Z _)) m14 F14.kp b14) (fa_cons (at_fn (sim_ok (b := b_l_cell) rfl F5 sc_l_cell rfl rfl (d_l_cell Z _)) m5 F5.kp b5) (fa_cons (at_fn (sim_ok (b := b_l_book) rfl F8 sc_l_book rfl rfl (d_l_book Z _)) m8 F8.kp b8) (fa_cons (at_fn (sim_ok (b := b_l_cells) rfl F6 sc_l_cells rfl rfl (d_l_cells Z _)) m6 F6.kp b6) (fa_cons (at_fn (sim_ok (b := b_l_add_splice) rfl F17 sc_l_add_splice rfl rfl (d_l_add_splice Z _)) m17 F17.kp b17) (fa_cons (at_fn (sim_ok (b := b_l_add_knot) rfl F16 sc_l_add_knot rfl rfl (d_l_add_knot Z _)) m16 F16.kp b16) (fa_cons (at_fn (sim_ok (b := b_l_close) rfl F18 sc_l_close rfl rfl (d_l_close Z _)) m18 F18.kp b18) (fa_cons (at_fn (sim_ok (b := b_l_hang) rfl F21 sc_l_hang rfl rfl (d_l_hang Z _)) m21 F21.kp b21) (fa_cons (at_fn (sim_ok (b := b_l_whole) rfl F20 sc_l_whole rfl rfl (d_l_whole Z _)) m20 F20.kp b20) (fa_cons (at_fn (sim_ok (b := b_l_words) rfl F22 sc_l_words rfl rfl (d_l_words Z _)) m22 F22.kp b22) (fa_cons (at_fn (sim_ok (b := b_l_renamed) rfl F23 sc_l_renamed rfl rfl (d_l_renamed Z _)) m23 F23.kp b23) (fa_cons (at_fn (sim_ok (b := b_l_loft) rfl F19 sc_l_loft rfl rfl (d_l_loft Z _)) m19 F19.kp b19) (fa_cons (at_fn (sim_ok (b := b_law_k02) rfl F24 sc_law_k02 rfl rfl (d_law_k02 Z _)) m24 F24.kp b24) (fa_nil)))))))))))))))))))))))))
    have h2 : ∀ q ∈ mts, MtAt P w K mg base (caK K) (n + 2) q.2.1 q.2.2.1 q.2.2.2 (ev T (n + 2) q.1) := fa_nil
    have h3 : ∀ q ∈ mks, MkAt P w K mg base (caK K) (n + 1) q.2.1 q.2.2.1 q.2.2.2.1 q.2.2.2.2 (ev T (n + 1) q.1) := E
    have h4 : ∀ q ∈ mks, MkAt P w K mg base (caK K) (n + 2) q.2.1 q.2.2.1 q.2.2.2.1 q.2.2.2.2 (ev T (n + 2) q.1) := fa_nil
    exact ⟨⟨fun j i x ps h => h1 _ (List.mem_of_getElem? h), fun j i c m ps h => h2 _ (List.mem_of_getElem? h), fun j i x c ps dds h => h3 _ (List.mem_of_getElem? h), fct, X, G, y⟩, h4⟩
theorem all (c : He.SaysD fa fns K) (y : gxOf ga K = true) (X : K.In base) (G : base.Ns mainGlobals mg) (n : Nat) : Lk P w K mg base sg mts mks fa (gxOf ga) n (ev T (n + 1)) (ev T n) := (allZ c y X G n).1
end
end Nl
/-! E1: evaluation of mirrors, step by step, each step a rule of simp -/
namespace Nl
open PySem Sm
abbrev ML := Sm.Env → Store → R (List D)
def kSeq (q : MS) : R Fl → R Fl
  | .ok (.nx r) S => q r S
  | x => x
@[simp] theorem kSeq_nx (q : MS) (r : Sm.Env) (S : Store) : kSeq q (.ok (.nx r) S) = q r S := rfl
@[simp] theorem kSeq_rt (q : MS) (d : D) (S : Store) : kSeq q (.ok (.rt d) S) = .ok (.rt d) S := rfl
@[simp] theorem kSeq_bk (q : MS) (r : Sm.Env) (S : Store) : kSeq q (.ok (.bk r) S) = .ok (.bk r) S := rfl
@[simp] theorem kSeq_ct (q : MS) (r : Sm.Env) (S : Store) : kSeq q (.ok (.ct r) S) = .ok (.ct r) S := rfl
@[simp] theorem kSeq_x (q : MS) (c : Nat) (S : Store) : kSeq q (.ex c S) = .ex c S := rfl
@[simp ↓] theorem x_seq (a q : MS) (ρ : Sm.Env) (S : Store) : sSeq a q ρ S = kSeq q (a ρ S) := by
  unfold sSeq kSeq; cases a ρ S with
  | ok f S1 => cases f <;> rfl
  | ex c S1 => rfl
  | err => rfl
@[simp ↓] theorem x_nil (ρ : Sm.Env) (S : Store) : sNil ρ S = .ok (.nx ρ) S := rfl
@[simp ↓] theorem x_brk (ρ : Sm.Env) (S : Store) : sBrk ρ S = .ok (.bk ρ) S := rfl
@[simp ↓] theorem x_ct (ρ : Sm.Env) (S : Store) : sCt ρ S = .ok (.ct ρ) S := rfl
@[simp ↓] theorem x_retN (ρ : Sm.Env) (S : Store) : sRetN ρ S = .ok (.rt .non) S := rfl
@[simp ↓] theorem x_raise (c : Nat) (ρ : Sm.Env) (S : Store) : sRaise c ρ S = .ex c S := rfl
def kIf (p : MS) (q : MS) (ρ : Sm.Env) : R D → R Fl
  | .ok (.bl true) S => p ρ S
  | .ok (.bl false) S => q ρ S
  | .ex c S => .ex c S
  | .ok _ _ => .err
  | .err => .err
@[simp] theorem kIf_0 (p : MS) (q : MS) (ρ : Sm.Env)  (S : Store) : kIf p q ρ (.ok (.bl true) S) = p ρ S := rfl
@[simp] theorem kIf_1 (p : MS) (q : MS) (ρ : Sm.Env)  (S : Store) : kIf p q ρ (.ok (.bl false) S) = q ρ S := rfl
@[simp] theorem kIf_x (p : MS) (q : MS) (ρ : Sm.Env) (c : Nat) (S : Store) : kIf p q ρ (.ex c S) = .ex c S := rfl
@[simp ↓] theorem x_if (a : ME) (p q : MS) (ρ : Sm.Env) (S : Store) : sIf a p q ρ S = kIf p q ρ (a ρ S) := by
  unfold sIf kIf; cases a ρ S with
  | ok d S1 => cases d <;> first | rfl | (rename_i b; cases b <;> rfl)
  | ex c S1 => rfl
  | err => rfl
def kAsg (n : Nat) (ρ : Sm.Env) : R D → R Fl
  | .ok d S => .ok (.nx (ρ.set n (some d))) S
  | .ex c S => .ex c S
  | .err => .err
@[simp] theorem kAsg_0 (n : Nat) (ρ : Sm.Env) (d : D) (S : Store) : kAsg n ρ (.ok d S) = .ok (.nx (ρ.set n (some d))) S := rfl
@[simp] theorem kAsg_x (n : Nat) (ρ : Sm.Env) (c : Nat) (S : Store) : kAsg n ρ (.ex c S) = .ex c S := rfl
@[simp ↓] theorem x_asg (n : Nat) (a : ME) (ρ : Sm.Env) (S : Store) : sAsg n a ρ S = kAsg n ρ (a ρ S) := by
  unfold sAsg kAsg; cases a ρ S <;> rfl
def kRet  : R D → R Fl
  | .ok d S => .ok (.rt d) S
  | .ex c S => .ex c S
  | .err => .err
@[simp] theorem kRet_0  (d : D) (S : Store) : kRet  (.ok d S) = .ok (.rt d) S := rfl
@[simp] theorem kRet_x  (c : Nat) (S : Store) : kRet  (.ex c S) = .ex c S := rfl
@[simp ↓] theorem x_ret (a : ME) (ρ : Sm.Env) (S : Store) : sRet a ρ S = kRet (a ρ S) := by
  unfold sRet kRet; cases a ρ S <;> rfl
def kDrop (ρ : Sm.Env) : R D → R Fl
  | .ok d S => .ok (.nx ρ) S
  | .ex c S => .ex c S
  | .err => .err
@[simp] theorem kDrop_0 (ρ : Sm.Env) (d : D) (S : Store) : kDrop ρ (.ok d S) = .ok (.nx ρ) S := rfl
@[simp] theorem kDrop_x (ρ : Sm.Env) (c : Nat) (S : Store) : kDrop ρ (.ex c S) = .ex c S := rfl
@[simp ↓] theorem x_drop (a : ME) (ρ : Sm.Env) (S : Store) : sDrop a ρ S = kDrop ρ (a ρ S) := by
  unfold sDrop kDrop; cases a ρ S <;> rfl
def kV (o : Option (Option D)) (S : Store) : R D := match o with
  | some (some d) => .ok d S
  | _ => .err
@[simp] theorem kV_ok (d : D) (S : Store) : kV (some (some d)) S = .ok d S := rfl
@[simp ↓] theorem x_var (n : Nat) (ρ : Sm.Env) (S : Store) : mV n ρ S = kV (ρ[n]?) S := rfl
@[simp ↓] theorem x_con (d : D) (ρ : Sm.Env) (S : Store) : mC d ρ S = .ok d S := rfl
def kM1 (f : Store → D → R D) : R D → R D
  | .ok d S => f S d
  | .ex c S => .ex c S
  | .err => .err
@[simp] theorem kM1_0 (f : Store → D → R D) (d : D) (S : Store) : kM1 f (.ok d S) = f S d := rfl
@[simp] theorem kM1_x (f : Store → D → R D) (c : Nat) (S : Store) : kM1 f (.ex c S) = .ex c S := rfl
@[simp ↓] theorem x_m1 (f : Store → D → R D) (a : ME) (ρ : Sm.Env) (S : Store) : m1 f a ρ S = kM1 f (a ρ S) := by
  unfold m1 kM1; cases a ρ S <;> rfl
def kM2b (f : Store → D → D → R D) (g : D) : R D → R D
  | .ok d S => f S g d
  | .ex c S => .ex c S
  | .err => .err
@[simp] theorem kM2b_0 (f : Store → D → D → R D) (g : D) (d : D) (S : Store) : kM2b f g (.ok d S) = f S g d := rfl
@[simp] theorem kM2b_x (f : Store → D → D → R D) (g : D) (c : Nat) (S : Store) : kM2b f g (.ex c S) = .ex c S := rfl
def kM2 (f : Store → D → D → R D) (q : ME) (ρ : Sm.Env) : R D → R D
  | .ok d S => kM2b f d (q ρ S)
  | .ex c S => .ex c S
  | .err => .err
@[simp] theorem kM2_0 (f : Store → D → D → R D) (q : ME) (ρ : Sm.Env) (d : D) (S : Store) : kM2 f q ρ (.ok d S) = kM2b f d (q ρ S) := rfl
@[simp] theorem kM2_x (f : Store → D → D → R D) (q : ME) (ρ : Sm.Env) (c : Nat) (S : Store) : kM2 f q ρ (.ex c S) = .ex c S := rfl
@[simp ↓] theorem x_m2 (f : Store → D → D → R D) (a q : ME) (ρ : Sm.Env) (S : Store) : m2 f a q ρ S = kM2 f q ρ (a ρ S) := by
  unfold m2; cases h : a ρ S with
  | ok d S1 => simp only [bind_ok, kM2_0]; cases h2 : q ρ S1 <;> rfl
  | ex c S1 => rfl
  | err => rfl
@[simp ↓] theorem x_nilL (ρ : Sm.Env) (S : Store) : mNil ρ S = .ok [] S := rfl
def kConsb (g : D) : R (List D) → R (List D)
  | .ok ds S => .ok (g :: ds) S
  | .ex c S => .ex c S
  | .err => .err
@[simp] theorem kConsb_0 (g : D) (ds : List D) (S : Store) : kConsb g (.ok ds S) = .ok (g :: ds) S := rfl
@[simp] theorem kConsb_x (g : D) (c : Nat) (S : Store) : kConsb g (.ex c S) = .ex c S := rfl
def kCons (q : ML) (ρ : Sm.Env) : R D → R (List D)
  | .ok d S => kConsb d (q ρ S)
  | .ex c S => .ex c S
  | .err => .err
@[simp] theorem kCons_0 (q : ML) (ρ : Sm.Env) (d : D) (S : Store) : kCons q ρ (.ok d S) = kConsb d (q ρ S) := rfl
@[simp] theorem kCons_x (q : ML) (ρ : Sm.Env) (c : Nat) (S : Store) : kCons q ρ (.ex c S) = .ex c S := rfl
@[simp ↓] theorem x_cons (a : ME) (q : ML) (ρ : Sm.Env) (S : Store) : mCons a q ρ S = kCons q ρ (a ρ S) := by
  unfold mCons; cases h : a ρ S with
  | ok d S1 => simp only [bind_ok, kCons_0]; cases h2 : q ρ S1 <;> rfl
  | ex c S1 => rfl
  | err => rfl
def kN (f : Store → List D → R D) : R (List D) → R D
  | .ok ds S => f S ds
  | .ex c S => .ex c S
  | .err => .err
@[simp] theorem kN_0 (f : Store → List D → R D) (ds : List D) (S : Store) : kN f (.ok ds S) = f S ds := rfl
@[simp] theorem kN_x (f : Store → List D → R D) (c : Nat) (S : Store) : kN f (.ex c S) = .ex c S := rfl
@[simp ↓] theorem x_n (f : Store → List D → R D) (a : ML) (ρ : Sm.Env) (S : Store) : mN f a ρ S = kN f (a ρ S) := by
  unfold mN kN; cases a ρ S <;> rfl
def kNot  : R D → R D
  | .ok (.bl b) S => .ok (.bl (!b)) S
  | .ex c S => .ex c S
  | .ok _ _ => .err
  | .err => .err
@[simp] theorem kNot_0   (S : Store) : kNot  (.ok (.bl b) S) = .ok (.bl (!b)) S := rfl
@[simp] theorem kNot_x  (c : Nat) (S : Store) : kNot  (.ex c S) = .ex c S := rfl
@[simp ↓] theorem x_not (a : ME) (ρ : Sm.Env) (S : Store) : mNot a ρ S = kNot (a ρ S) := by
  unfold mNot kNot; cases a ρ S with
  | ok d S1 => cases d <;> first | rfl | (rename_i b; cases b <;> rfl)
  | ex c S1 => rfl
  | err => rfl
def kAnd (q : ME) (ρ : Sm.Env) : R D → R D
  | .ok (.bl true) S => q ρ S
  | .ok (.bl false) S => .ok (.bl false) S
  | .ex c S => .ex c S
  | .ok _ _ => .err
  | .err => .err
@[simp] theorem kAnd_0 (q : ME) (ρ : Sm.Env)  (S : Store) : kAnd q ρ (.ok (.bl true) S) = q ρ S := rfl
@[simp] theorem kAnd_1 (q : ME) (ρ : Sm.Env)  (S : Store) : kAnd q ρ (.ok (.bl false) S) = .ok (.bl false) S := rfl
@[simp] theorem kAnd_x (q : ME) (ρ : Sm.Env) (c : Nat) (S : Store) : kAnd q ρ (.ex c S) = .ex c S := rfl
@[simp ↓] theorem x_and (a q : ME) (ρ : Sm.Env) (S : Store) : mAnd a q ρ S = kAnd q ρ (a ρ S) := by
  unfold mAnd kAnd; cases a ρ S with
  | ok d S1 => cases d <;> first | rfl | (rename_i b; cases b <;> rfl)
  | ex c S1 => rfl
  | err => rfl
def kOr (q : ME) (ρ : Sm.Env) : R D → R D
  | .ok (.bl false) S => q ρ S
  | .ok (.bl true) S => .ok (.bl true) S
  | .ex c S => .ex c S
  | .ok _ _ => .err
  | .err => .err
@[simp] theorem kOr_0 (q : ME) (ρ : Sm.Env)  (S : Store) : kOr q ρ (.ok (.bl false) S) = q ρ S := rfl
@[simp] theorem kOr_1 (q : ME) (ρ : Sm.Env)  (S : Store) : kOr q ρ (.ok (.bl true) S) = .ok (.bl true) S := rfl
@[simp] theorem kOr_x (q : ME) (ρ : Sm.Env) (c : Nat) (S : Store) : kOr q ρ (.ex c S) = .ex c S := rfl
@[simp ↓] theorem x_or (a q : ME) (ρ : Sm.Env) (S : Store) : mOr a q ρ S = kOr q ρ (a ρ S) := by
  unfold mOr kOr; cases a ρ S with
  | ok d S1 => cases d <;> first | rfl | (rename_i b; cases b <;> rfl)
  | ex c S1 => rfl
  | err => rfl
def kIfE (p : ME) (q : ME) (ρ : Sm.Env) : R D → R D
  | .ok (.bl true) S => p ρ S
  | .ok (.bl false) S => q ρ S
  | .ex c S => .ex c S
  | .ok _ _ => .err
  | .err => .err
@[simp] theorem kIfE_0 (p : ME) (q : ME) (ρ : Sm.Env)  (S : Store) : kIfE p q ρ (.ok (.bl true) S) = p ρ S := rfl
@[simp] theorem kIfE_1 (p : ME) (q : ME) (ρ : Sm.Env)  (S : Store) : kIfE p q ρ (.ok (.bl false) S) = q ρ S := rfl
@[simp] theorem kIfE_x (p : ME) (q : ME) (ρ : Sm.Env) (c : Nat) (S : Store) : kIfE p q ρ (.ex c S) = .ex c S := rfl
@[simp ↓] theorem x_ifE (a p q : ME) (ρ : Sm.Env) (S : Store) : mIf a p q ρ S = kIfE p q ρ (a ρ S) := by
  unfold mIf kIfE; cases a ρ S with
  | ok d S1 => cases d <;> first | rfl | (rename_i b; cases b <;> rfl)
  | ex c S1 => rfl
  | err => rfl
def kCh3 (g : Store → D → D → R D) (u : D) : R D → R D
  | .ok k S => g S u k
  | .ex c S => .ex c S
  | .err => .err
@[simp] theorem kCh3_0 (g : Store → D → D → R D) (u : D) (k : D) (S : Store) : kCh3 g u (.ok k S) = g S u k := rfl
@[simp] theorem kCh3_x (g : Store → D → D → R D) (u : D) (c : Nat) (S : Store) : kCh3 g u (.ex c S) = .ex c S := rfl
def kCh2 (g : Store → D → D → R D) (q : ME) (ρ : Sm.Env) (u : D) : R D → R D
  | .ok (.bl true) S => kCh3 g u (q ρ S)
  | .ok (.bl false) S => .ok (.bl false) S
  | .ex c S => .ex c S
  | .ok _ _ => .err
  | .err => .err
@[simp] theorem kCh2_0 (g : Store → D → D → R D) (q : ME) (ρ : Sm.Env) (u : D)  (S : Store) : kCh2 g q ρ u (.ok (.bl true) S) = kCh3 g u (q ρ S) := rfl
@[simp] theorem kCh2_1 (g : Store → D → D → R D) (q : ME) (ρ : Sm.Env) (u : D)  (S : Store) : kCh2 g q ρ u (.ok (.bl false) S) = .ok (.bl false) S := rfl
@[simp] theorem kCh2_x (g : Store → D → D → R D) (q : ME) (ρ : Sm.Env) (u : D) (c : Nat) (S : Store) : kCh2 g q ρ u (.ex c S) = .ex c S := rfl
def kCh1 (f : Store → D → D → R D) (g : Store → D → D → R D) (q : ME) (ρ : Sm.Env) (v : D) : R D → R D
  | .ok e S => kCh2 g q ρ e (f S v e)
  | .ex c S => .ex c S
  | .err => .err
@[simp] theorem kCh1_0 (f : Store → D → D → R D) (g : Store → D → D → R D) (q : ME) (ρ : Sm.Env) (v : D) (e : D) (S : Store) : kCh1 f g q ρ v (.ok e S) = kCh2 g q ρ e (f S v e) := rfl
@[simp] theorem kCh1_x (f : Store → D → D → R D) (g : Store → D → D → R D) (q : ME) (ρ : Sm.Env) (v : D) (c : Nat) (S : Store) : kCh1 f g q ρ v (.ex c S) = .ex c S := rfl
def kCh (f : Store → D → D → R D) (g : Store → D → D → R D) (p : ME) (q : ME) (ρ : Sm.Env) : R D → R D
  | .ok d S => kCh1 f g q ρ d (p ρ S)
  | .ex c S => .ex c S
  | .err => .err
@[simp] theorem kCh_0 (f : Store → D → D → R D) (g : Store → D → D → R D) (p : ME) (q : ME) (ρ : Sm.Env) (d : D) (S : Store) : kCh f g p q ρ (.ok d S) = kCh1 f g q ρ d (p ρ S) := rfl
@[simp] theorem kCh_x (f : Store → D → D → R D) (g : Store → D → D → R D) (p : ME) (q : ME) (ρ : Sm.Env) (c : Nat) (S : Store) : kCh f g p q ρ (.ex c S) = .ex c S := rfl
@[simp ↓] theorem x_ch (f g : Store → D → D → R D) (a p q : ME) (ρ : Sm.Env) (S : Store) : mChain f g a p q ρ S = kCh f g p q ρ (a ρ S) := by
  unfold mChain; cases h : a ρ S with
  | ex c S1 => rfl
  | err => rfl
  | ok d S1 =>
    simp only [bind_ok, kCh_0]
    cases h2 : p ρ S1 with
    | ex c S1 => rfl
    | err => rfl
    | ok e S2 =>
      simp only [bind_ok, kCh1_0]
      cases h3 : f S2 d e with
      | ex c S1 => rfl
      | err => rfl
      | ok y S3 =>
        cases y <;> first | rfl | skip
        next b =>
          cases b
          · rfl
          · simp only [bind_ok, kCh2_0]
            cases q ρ S3 <;> rfl
def kSome  : R D → R (Option Int)
  | .ok (.int i) S => .ok (some i) S
  | .ex c S => .ex c S
  | .ok _ _ => .err
  | .err => .err
@[simp] theorem kSome_0   (S : Store) : kSome  (.ok (.int i) S) = .ok (some i) S := rfl
@[simp] theorem kSome_x  (c : Nat) (S : Store) : kSome  (.ex c S) = .ex c S := rfl
@[simp ↓] theorem x_oNo (ρ : Sm.Env) (S : Store) : oNo ρ S = .ok none S := rfl
@[simp ↓] theorem x_oSome (a : ME) (ρ : Sm.Env) (S : Store) : oSome a ρ S = kSome (a ρ S) := by
  unfold oSome kSome; cases a ρ S with
  | ok d S1 => cases d <;> first | rfl | (rename_i b; cases b <;> rfl)
  | ex c S1 => rfl
  | err => rfl
def kSl2 (t : Bool) (u : D) (l : Option Int) : R (Option Int) → R D
  | .ok h S => oSl t S u l h
  | .ex c S => .ex c S
  | .err => .err
@[simp] theorem kSl2_0 (t : Bool) (u : D) (l : Option Int) (h : Option Int) (S : Store) : kSl2 t u l (.ok h S) = oSl t S u l h := rfl
@[simp] theorem kSl2_x (t : Bool) (u : D) (l : Option Int) (c : Nat) (S : Store) : kSl2 t u l (.ex c S) = .ex c S := rfl
def kSl1 (t : Bool) (q : Sm.Env → Store → R (Option Int)) (ρ : Sm.Env) (u : D) : R (Option Int) → R D
  | .ok l S => kSl2 t u l (q ρ S)
  | .ex c S => .ex c S
  | .err => .err
@[simp] theorem kSl1_0 (t : Bool) (q : Sm.Env → Store → R (Option Int)) (ρ : Sm.Env) (u : D) (l : Option Int) (S : Store) : kSl1 t q ρ u (.ok l S) = kSl2 t u l (q ρ S) := rfl
@[simp] theorem kSl1_x (t : Bool) (q : Sm.Env → Store → R (Option Int)) (ρ : Sm.Env) (u : D) (c : Nat) (S : Store) : kSl1 t q ρ u (.ex c S) = .ex c S := rfl
def kSl (t : Bool) (p : Sm.Env → Store → R (Option Int)) (q : Sm.Env → Store → R (Option Int)) (ρ : Sm.Env) : R D → R D
  | .ok d S => kSl1 t q ρ d (p ρ S)
  | .ex c S => .ex c S
  | .err => .err
@[simp] theorem kSl_0 (t : Bool) (p : Sm.Env → Store → R (Option Int)) (q : Sm.Env → Store → R (Option Int)) (ρ : Sm.Env) (d : D) (S : Store) : kSl t p q ρ (.ok d S) = kSl1 t q ρ d (p ρ S) := rfl
@[simp] theorem kSl_x (t : Bool) (p : Sm.Env → Store → R (Option Int)) (q : Sm.Env → Store → R (Option Int)) (ρ : Sm.Env) (c : Nat) (S : Store) : kSl t p q ρ (.ex c S) = .ex c S := rfl
@[simp ↓] theorem x_sl (t : Bool) (a : ME) (p q : Sm.Env → Store → R (Option Int)) (ρ : Sm.Env) (S : Store) : mSl t a p q ρ S = kSl t p q ρ (a ρ S) := by
  unfold mSl; cases h : a ρ S with
  | ex c S1 => rfl
  | err => rfl
  | ok d S1 =>
    simp only [bind_ok, kSl_0]
    cases h2 : p ρ S1 with
    | ex c S1 => rfl
    | err => rfl
    | ok e S2 =>
      simp only [bind_ok, kSl1_0]
      cases q ρ S2 <;> rfl
def kBMb (f : Store → D → List D → R D) (u : D) : R (List D) → R D
  | .ok ds S => f S u ds
  | .ex c S => .ex c S
  | .err => .err
@[simp] theorem kBMb_0 (f : Store → D → List D → R D) (u : D) (ds : List D) (S : Store) : kBMb f u (.ok ds S) = f S u ds := rfl
@[simp] theorem kBMb_x (f : Store → D → List D → R D) (u : D) (c : Nat) (S : Store) : kBMb f u (.ex c S) = .ex c S := rfl
def kBM (T : String) (f : Store → D → List D → R D) (q : ML) (ρ : Sm.Env) : R D → R D
  | .ok d S => if tyOk T S d then kBMb f d (q ρ S) else .err
  | .ex c S => .ex c S
  | .err => .err
@[simp] theorem kBM_0 (T : String) (f : Store → D → List D → R D) (q : ML) (ρ : Sm.Env) (d : D) (S : Store) : kBM T f q ρ (.ok d S) = if tyOk T S d then kBMb f d (q ρ S) else .err := rfl
@[simp] theorem kBM_x (T : String) (f : Store → D → List D → R D) (q : ML) (ρ : Sm.Env) (c : Nat) (S : Store) : kBM T f q ρ (.ex c S) = .ex c S := rfl
@[simp ↓] theorem x_bm (T : String) (f : Store → D → List D → R D) (a : ME) (q : ML) (ρ : Sm.Env) (S : Store) : mBM T f a q ρ S = kBM T f q ρ (a ρ S) := by
  unfold mBM; cases h : a ρ S with
  | ex c S1 => rfl
  | err => rfl
  | ok d S1 =>
    simp only [bind_ok, kBM_0]
    split
    · cases q ρ S1 <;> rfl
    · rfl
def kBM0 (T : String) (f : Store → D → List D → R D) : R D → R D
  | .ok d S => if tyOk T S d then f S d [] else .err
  | .ex c S => .ex c S
  | .err => .err
@[simp] theorem kBM0_0 (T : String) (f : Store → D → List D → R D) (d : D) (S : Store) : kBM0 T f (.ok d S) = if tyOk T S d then f S d [] else .err := rfl
@[simp] theorem kBM0_x (T : String) (f : Store → D → List D → R D) (c : Nat) (S : Store) : kBM0 T f (.ex c S) = .ex c S := rfl
@[simp ↓] theorem x_bm0 (T : String) (f : Store → D → List D → R D) (a : ME) (ρ : Sm.Env) (S : Store) : mBM0 T f a ρ S = kBM0 T f (a ρ S) := by
  unfold mBM0 kBM0; cases a ρ S <;> rfl
def kSub3 (ρ : Sm.Env) : R D → R Fl
  | .ok d S => .ok (.nx ρ) S
  | .ex c S => .ex c S
  | .err => .err
@[simp] theorem kSub3_0 (ρ : Sm.Env) (d : D) (S : Store) : kSub3 ρ (.ok d S) = .ok (.nx ρ) S := rfl
@[simp] theorem kSub3_x (ρ : Sm.Env) (c : Nat) (S : Store) : kSub3 ρ (.ex c S) = .ex c S := rfl
def kSub2 (ρ : Sm.Env) (v : D) (u : D) : R D → R Fl
  | .ok k S => kSub3 ρ (oSet S u k v)
  | .ex c S => .ex c S
  | .err => .err
@[simp] theorem kSub2_0 (ρ : Sm.Env) (v : D) (u : D) (k : D) (S : Store) : kSub2 ρ v u (.ok k S) = kSub3 ρ (oSet S u k v) := rfl
@[simp] theorem kSub2_x (ρ : Sm.Env) (v : D) (u : D) (c : Nat) (S : Store) : kSub2 ρ v u (.ex c S) = .ex c S := rfl
def kSub1 (q : ME) (ρ : Sm.Env) (v : D) : R D → R Fl
  | .ok d S => kSub2 ρ v d (q ρ S)
  | .ex c S => .ex c S
  | .err => .err
@[simp] theorem kSub1_0 (q : ME) (ρ : Sm.Env) (v : D) (d : D) (S : Store) : kSub1 q ρ v (.ok d S) = kSub2 ρ v d (q ρ S) := rfl
@[simp] theorem kSub1_x (q : ME) (ρ : Sm.Env) (v : D) (c : Nat) (S : Store) : kSub1 q ρ v (.ex c S) = .ex c S := rfl
def kSub (p : ME) (q : ME) (ρ : Sm.Env) : R D → R Fl
  | .ok d S => kSub1 q ρ d (p ρ S)
  | .ex c S => .ex c S
  | .err => .err
@[simp] theorem kSub_0 (p : ME) (q : ME) (ρ : Sm.Env) (d : D) (S : Store) : kSub p q ρ (.ok d S) = kSub1 q ρ d (p ρ S) := rfl
@[simp] theorem kSub_x (p : ME) (q : ME) (ρ : Sm.Env) (c : Nat) (S : Store) : kSub p q ρ (.ex c S) = .ex c S := rfl
@[simp ↓] theorem x_sub (a p q : ME) (ρ : Sm.Env) (S : Store) : sSub a p q ρ S = kSub p q ρ (a ρ S) := by
  unfold sSub; cases h : a ρ S with
  | ex c S1 => rfl
  | err => rfl
  | ok d S1 =>
    simp only [bind_ok, kSub_0]
    cases h2 : p ρ S1 with
    | ex c S1 => rfl
    | err => rfl
    | ok e S2 =>
      simp only [bind_ok, kSub1_0]
      cases h3 : q ρ S2 with
      | ex c S1 => rfl
      | err => rfl
      | ok y S3 =>
        simp only [bind_ok, kSub2_0]
        cases oSet S3 e y d <;> rfl
def kAsgs (is : List Nat) (ρ : Sm.Env) : R D → R Fl
  | .ok (.tup ds) S => if ds.length = is.length then .ok (.nx (setAll is ds ρ)) S else .err
  | .ex c S => .ex c S
  | .ok _ _ => .err
  | .err => .err
@[simp] theorem kAsgs_0 (is : List Nat) (ρ : Sm.Env) (ds : List D) (S : Store) : kAsgs is ρ (.ok (.tup ds) S) = if ds.length = is.length then .ok (.nx (setAll is ds ρ)) S else .err := rfl
@[simp] theorem kAsgs_x (is : List Nat) (ρ : Sm.Env) (c : Nat) (S : Store) : kAsgs is ρ (.ex c S) = .ex c S := rfl
@[simp ↓] theorem x_asgs (is : List Nat) (a : ME) (ρ : Sm.Env) (S : Store) : sAsgs is a ρ S = kAsgs is ρ (a ρ S) := by
  unfold sAsgs kAsgs; cases a ρ S with
  | ok d S1 => cases d <;> first | rfl | (rename_i b; cases b <;> rfl)
  | ex c S1 => rfl
  | err => rfl
noncomputable def kMake (n : Nat) (fz : Bool) (F : List D → Store → R D) (dds : List D) : R (List D) → R D
  | .ok ds S => made fz S (F (.cell S.length :: (ds ++ dds)) (S ++ [.ins n [] []]))
  | .ex c S => .ex c S
  | .err => .err
@[simp] theorem kMake_0 (n : Nat) (fz : Bool) (F : List D → Store → R D) (dds ds : List D) (S : Store) : kMake n fz F dds (.ok ds S) = made fz S (F (.cell S.length :: (ds ++ dds)) (S ++ [.ins n [] []])) := rfl
@[simp] theorem kMake_x (n : Nat) (fz : Bool) (F : List D → Store → R D) (dds : List D) (c : Nat) (S : Store) : kMake n fz F dds (.ex c S) = .ex c S := rfl
@[simp ↓] theorem x_make (n : Nat) (fz : Bool) (F : List D → Store → R D) (dds : List D) (a : ML) (ρ : Sm.Env) (S : Store) : mMake n fz F dds a ρ S = kMake n fz F dds (a ρ S) := by
  unfold mMake kMake; cases a ρ S <;> rfl
noncomputable def kMeth (n : Nat) (m : Str) (F : List D → Store → R D) (q : ML) (ρ : Sm.Env) : R D → R D
  | .ok d S => (match objOf S d with
    | some (n2, ns, _) => if n2 = n ∧ m ∉ ns then kN (fun S2 ds => F (d :: ds) S2) (q ρ S) else .err
    | none => .err)
  | .ex c S => .ex c S
  | .err => .err
@[simp] theorem kMeth_0 (n : Nat) (m : Str) (F : List D → Store → R D) (q : ML) (ρ : Sm.Env) (d : D) (S : Store) : kMeth n m F q ρ (.ok d S) = (match objOf S d with
    | some (n2, ns, _) => if n2 = n ∧ m ∉ ns then kN (fun S2 ds => F (d :: ds) S2) (q ρ S) else .err
    | none => .err) := rfl
@[simp ↓] theorem x_meth (n : Nat) (m : Str) (F : List D → Store → R D) (a : ME) (q : ML) (ρ : Sm.Env) (S : Store) : mMeth n m F a q ρ S = kMeth n m F q ρ (a ρ S) := by
  unfold mMeth; cases h : a ρ S with
  | ex c S1 => rfl
  | err => rfl
  | ok d S1 =>
    simp only [bind_ok, kMeth_0]
    cases objOf S1 d with
    | none => rfl
    | some t =>
      obtain ⟨n2, ns, z⟩ := t
      simp only
      split
      · cases q ρ S1 <;> rfl
      · rfl
noncomputable def kFld1 (n : Nat) (f : Str) (v : D) (ρ : Sm.Env) : R D → R Fl
  | .ok d S => (match cellI S d with
    | some (j, n2, ns, ds) => if n2 = n ∧ ns.length < 1000 then .ok (.nx ρ) (S.set j (.ins n (putN f ns) (putD f v ns ds))) else .err
    | none => .err)
  | .ex c S => .ex c S
  | .err => .err
@[simp] theorem kFld1_0 (n : Nat) (f : Str) (v : D) (ρ : Sm.Env) (d : D) (S : Store) : kFld1 n f v ρ (.ok d S) = (match cellI S d with
    | some (j, n2, ns, ds) => if n2 = n ∧ ns.length < 1000 then .ok (.nx ρ) (S.set j (.ins n (putN f ns) (putD f v ns ds))) else .err
    | none => .err) := rfl
noncomputable def kFld (n : Nat) (f : Str) (q : ME) (ρ : Sm.Env) : R D → R Fl
  | .ok d S => kFld1 n f d ρ (q ρ S)
  | .ex c S => .ex c S
  | .err => .err
@[simp] theorem kFld_0 (n : Nat) (f : Str) (q : ME) (ρ : Sm.Env) (d : D) (S : Store) : kFld n f q ρ (.ok d S) = kFld1 n f d ρ (q ρ S) := rfl
@[simp] theorem kFld_x (n : Nat) (f : Str) (q : ME) (ρ : Sm.Env) (c : Nat) (S : Store) : kFld n f q ρ (.ex c S) = .ex c S := rfl
@[simp ↓] theorem x_fldM (n : Nat) (f : Str) (a q : ME) (ρ : Sm.Env) (S : Store) : sFldM n f a q ρ S = kFld n f q ρ (a ρ S) := by
  unfold sFldM; cases h : a ρ S with
  | ex c S1 => rfl
  | err => rfl
  | ok d S1 =>
    simp only [bind_ok, kFld_0]
    cases q ρ S1 <;> rfl
def kGet2b (u : D) (k : D) : R D → R D
  | .ok z S => (match dGet S u k with
  | some (some r) => .ok r S
  | some none => .ok z S
  | none => .err)
  | .ex c S => .ex c S
  | .err => .err
@[simp] theorem kGet2b_0 (u : D) (k : D) (z : D) (S : Store) : kGet2b u k (.ok z S) = (match dGet S u k with
  | some (some r) => .ok r S
  | some none => .ok z S
  | none => .err) := rfl
@[simp] theorem kGet2b_x (u : D) (k : D) (c : Nat) (S : Store) : kGet2b u k (.ex c S) = .ex c S := rfl
def kGet1 (q : ME) (ρ : Sm.Env) (u : D) : R D → R D
  | .ok e S => kGet2b u e (q ρ S)
  | .ex c S => .ex c S
  | .err => .err
@[simp] theorem kGet1_0 (q : ME) (ρ : Sm.Env) (u : D) (e : D) (S : Store) : kGet1 q ρ u (.ok e S) = kGet2b u e (q ρ S) := rfl
@[simp] theorem kGet1_x (q : ME) (ρ : Sm.Env) (u : D) (c : Nat) (S : Store) : kGet1 q ρ u (.ex c S) = .ex c S := rfl
def kGet (p : ME) (q : ME) (ρ : Sm.Env) : R D → R D
  | .ok d S => if isDict S d then kGet1 q ρ d (p ρ S) else .err
  | .ex c S => .ex c S
  | .err => .err
@[simp] theorem kGet_0 (p : ME) (q : ME) (ρ : Sm.Env) (d : D) (S : Store) : kGet p q ρ (.ok d S) = if isDict S d then kGet1 q ρ d (p ρ S) else .err := rfl
@[simp] theorem kGet_x (p : ME) (q : ME) (ρ : Sm.Env) (c : Nat) (S : Store) : kGet p q ρ (.ex c S) = .ex c S := rfl
@[simp ↓] theorem x_get (a p q : ME) (ρ : Sm.Env) (S : Store) : mGet2 a p q ρ S = kGet p q ρ (a ρ S) := by
  unfold mGet2; cases h : a ρ S with
  | ex c S1 => rfl
  | err => rfl
  | ok d S1 =>
    simp only [bind_ok, kGet_0]
    split
    · cases h2 : p ρ S1 with
      | ex c S1 => rfl
      | err => rfl
      | ok e S2 =>
        simp only [bind_ok, kGet1_0]
        cases q ρ S2 <;> rfl
    · rfl
def kSetD2 (u : D) (k : D) : R D → R D
  | .ok z S => (match cellK S u, keyOf k with
  | some (n, kvs), some y => if kvs.length < sizeLine then (match valK kvs y with
    | some r => .ok r S
    | none => .ok z (S.set n (.dk (putG kvs y z)))) else .err
  | _, _ => .err)
  | .ex c S => .ex c S
  | .err => .err
@[simp] theorem kSetD2_0 (u : D) (k : D) (z : D) (S : Store) : kSetD2 u k (.ok z S) = (match cellK S u, keyOf k with
  | some (n, kvs), some y => if kvs.length < sizeLine then (match valK kvs y with
    | some r => .ok r S
    | none => .ok z (S.set n (.dk (putG kvs y z)))) else .err
  | _, _ => .err) := rfl
@[simp] theorem kSetD2_x (u : D) (k : D) (c : Nat) (S : Store) : kSetD2 u k (.ex c S) = .ex c S := rfl
def kSetD1 (q : ME) (ρ : Sm.Env) (u : D) : R D → R D
  | .ok e S => kSetD2 u e (q ρ S)
  | .ex c S => .ex c S
  | .err => .err
@[simp] theorem kSetD1_0 (q : ME) (ρ : Sm.Env) (u : D) (e : D) (S : Store) : kSetD1 q ρ u (.ok e S) = kSetD2 u e (q ρ S) := rfl
@[simp] theorem kSetD1_x (q : ME) (ρ : Sm.Env) (u : D) (c : Nat) (S : Store) : kSetD1 q ρ u (.ex c S) = .ex c S := rfl
def kSetD (p : ME) (q : ME) (ρ : Sm.Env) : R D → R D
  | .ok d S => if isDict S d then kSetD1 q ρ d (p ρ S) else .err
  | .ex c S => .ex c S
  | .err => .err
@[simp] theorem kSetD_0 (p : ME) (q : ME) (ρ : Sm.Env) (d : D) (S : Store) : kSetD p q ρ (.ok d S) = if isDict S d then kSetD1 q ρ d (p ρ S) else .err := rfl
@[simp] theorem kSetD_x (p : ME) (q : ME) (ρ : Sm.Env) (c : Nat) (S : Store) : kSetD p q ρ (.ex c S) = .ex c S := rfl
@[simp ↓] theorem x_setD (a p q : ME) (ρ : Sm.Env) (S : Store) : mSetD a p q ρ S = kSetD p q ρ (a ρ S) := by
  unfold mSetD; cases h : a ρ S with
  | ex c S1 => rfl
  | err => rfl
  | ok d S1 =>
    simp only [bind_ok, kSetD_0]
    split
    · cases h2 : p ρ S1 with
      | ex c S1 => rfl
      | err => rfl
      | ok e S2 =>
        simp only [bind_ok, kSetD1_0]
        cases q ρ S2 <;> rfl
    · rfl
def kTru  : R D → R D
  | .ok d S => (match truD S d with
  | some b => .ok (.bl b) S
  | none => .err)
  | .ex c S => .ex c S
  | .err => .err
@[simp] theorem kTru_0  (d : D) (S : Store) : kTru  (.ok d S) = (match truD S d with
  | some b => .ok (.bl b) S
  | none => .err) := rfl
@[simp] theorem kTru_x  (c : Nat) (S : Store) : kTru  (.ex c S) = .ex c S := rfl
@[simp ↓] theorem x_tru (a : ME) (ρ : Sm.Env) (S : Store) : mTru a ρ S = kTru (a ρ S) := by
  unfold mTru kTru; cases a ρ S <;> rfl
@[simp ↓] theorem x_dk (ρ : Sm.Env) (S : Store) : mDk ρ S = .ok (.cell S.length) (S ++ [.dk []]) := rfl
@[simp ↓] theorem x_dt (ρ : Sm.Env) (S : Store) : mDt ρ S = .ok (.cell S.length) (S ++ [.dt []]) := rfl
end Nl
/-! E2: the operations, as rules of simp; hangs as data -/
namespace Nl
open PySem Sm
open Classical in
theorem fin_rtT {S S' : Store} {d : D} (h : S'.take S.length = S) (c : Cl S.length d) : fin true S (.ok (.rt d) S') = .ok d S := by
  unfold fin; simp only [if_true]; rw [if_pos ⟨h, c⟩]
open Classical in
theorem dfz_cl {k : Nat} {S' : Store} {f : Nat} {d : D} (c : Cl k d) : dfz k S' f d = some d := by
  cases f <;> (unfold dfz; exact if_pos c)
theorem optAll_cl {k : Nat} {S' : Store} {f : Nat} : ∀ {ds : List D}, ClL k ds → optAll (dfz k S' f) ds = some ds
  | [], _ => rfl
  | d :: ds, c => by unfold optAll; rw [dfz_cl c.1, optAll_cl c.2]
theorem dfz_cell {k : Nat} {S' : Store} {f n : Nat} {ds ds' : List D} (h : S'[n]? = some (.lst ds)) (hl : k ≤ n) (c : optAll (dfz k S' f) ds = some ds') : dfz k S' (f + 1) (.cell n) = some (.lst ds') := by
  unfold dfz
  have nc : ¬ Cl k (.cell n) := fun z => absurd (show n < k from z) (by omega)
  rw [if_neg nc]
  simp only [h]
  rw [if_pos hl, c]; rfl
open Classical in
theorem fin_dfz {S S' : Store} {d d' : D} (ht : S'.take S.length = S) (hd : dfz S.length S' 5 d = some d') : fin true S (.ok (.rt d) S') = .ok d' S := by
  unfold fin; simp only [if_true]
  by_cases c : Cl S.length d
  · rw [dfz_cl c] at hd
    cases hd
    exact if_pos ⟨ht, c⟩
  · rw [if_neg (fun z => c z.2)]
    unfold frz
    rw [if_pos ht, hd]
theorem fin_frz {S S' : Store} {n : Nat} {ds : List D} (h : S'[n]? = some (.lst ds)) (ht : S'.take S.length = S) (hl : S.length ≤ n) (c : ClL S.length ds) : fin true S (.ok (.rt (.cell n)) S') = .ok (.lst ds) S :=
  fin_dfz ht (dfz_cell h hl (optAll_cl c))
theorem fin_nxT {S S' : Store} {r : Sm.Env} (h : S'.take S.length = S) : fin true S (.ok (.nx r) S') = .ok .non S := by
  unfold fin; simp only [if_true]; rw [if_pos h]
theorem fin_exT {S S' : Store} {c : Nat} (h : S'.take S.length = S) : fin true S (.ex c S') = .ex c S := by
  unfold fin; simp only [if_true]; rw [if_pos h]
/-! ### evaluation of a def -/
theorem ev_s {T : Nat → Option Body} {i : Nat} {b : Body} (h : T i = some b) (n : Nat) (args : List D) (S : Store) : ev T (n + 2) i args S = step1 b (ev T (n + 1)) (ev T n) args S := by
  show (match T i with
    | none => R.err
    | some b => step1 b (ev T (n + 1)) (ev T n) args S) = _
  rw [h]
@[simp] theorem fin_rt (S S' : Store) (d : D) : fin false S (.ok (.rt d) S') = .ok d S' := rfl
@[simp] theorem fin_nx (S S' : Store) (r : Sm.Env) : fin false S (.ok (.nx r) S') = .ok .non S' := rfl
@[simp] theorem fin_ex (S S' : Store) (c : Nat) : fin false S (.ex c S') = .ex c S' := rfl
/-! ### items -/
def atR (o : Option D) (S : Store) : R D := match o with
  | some r => .ok r S
  | none => .err
@[simp] theorem atR_some (r : D) (S : Store) : atR (some r) S = .ok r S := rfl
def kIx (o : Option MO) (i : Int) (S : Store) : R D := match o with
  | some (.lst ds) => atR (L2.atI ds i) S
  | some (.dk kvs) => atR (valK kvs (.inl i)) S
  | some (.fk kvs) => atR (valK kvs (.inl i)) S
  | _ => .err
@[simp] theorem kIx_lst (ds : List D) (i : Int) (S : Store) : kIx (some (.lst ds)) i S = atR (L2.atI ds i) S := rfl
@[simp] theorem kIx_dk (kvs : List (L2.Key × D)) (i : Int) (S : Store) : kIx (some (.dk kvs)) i S = atR (valK kvs (.inl i)) S := rfl
@[simp] theorem ix_tup (ds : List D) (i : Int) (S : Store) : oIx S (.tup ds) (.int i) = atR (L2.atI ds i) S := by
  unfold oIx atR; rfl
@[simp] theorem ix_lst (ds : List D) (i : Int) (S : Store) : oIx S (.lst ds) (.int i) = atR (L2.atI ds i) S := by
  unfold oIx atR; rfl
@[simp] theorem ix_scr (ns : List Int) (i : Int) (S : Store) : oIx S (.scr ns) (.int i) = atR (L2.atI (ns.map D.int) i) S := by
  unfold oIx atR; rfl
@[simp] theorem ix_cell (n : Nat) (i : Int) (S : Store) : oIx S (.cell n) (.int i) = kIx (S[n]?) i S := by
  unfold oIx kIx atR
  show (match seqL S (.cell n) with
      | some ds => (match L2.atI ds i with
        | some r => R.ok r S
        | none => .err)
      | none => match dGet S (.cell n) (.int i) with
        | some (some r) => .ok r S
        | _ => .err) = _
  cases h : S[n]? with
  | none => simp [seqL, dGet, dLook, h]
  | some mo =>
    cases mo <;> simp [seqL, dGet, dLook, h, keyOf, dLookT]
    all_goals (next kvs => cases valK kvs (.inl i) <;> rfl)
theorem atI0 {A : Type} (a : A) (l : List A) : L2.atI (a :: l) 0 = some a := L2.atI_nat (j := 0) rfl
theorem atI1 {A : Type} (a b : A) (l : List A) : L2.atI (a :: b :: l) 1 = some b := L2.atI_nat (j := 1) rfl
theorem atI2 {A : Type} (a b c : A) (l : List A) : L2.atI (a :: b :: c :: l) 2 = some c := L2.atI_nat (j := 2) rfl
theorem atI3 {A : Type} (a b c d : A) (l : List A) : L2.atI (a :: b :: c :: d :: l) 3 = some d := L2.atI_nat (j := 3) rfl
theorem atI_nat {A : Type} (l : List A) (k : Nat) : L2.atI l (k : Int) = l[k]? := by
  cases h : l[k]? with
  | some a => exact L2.atI_nat h
  | none =>
    have : l.length ≤ k := List.getElem?_eq_none_iff.mp h
    unfold L2.atI L2.ixN
    rw [if_pos (by omega), if_neg (by omega)]; rfl
theorem atI_pos {A : Type} {l : List A} {i : Int} (h : 0 ≤ i) : L2.atI l i = l[i.toNat]? := by
  have := atI_nat l i.toNat
  rwa [Int.toNat_of_nonneg h] at this
@[simp] theorem s_at0 {A : Type} (a : A) (l : List A) : L2.atI (a :: l) 0 = some a := atI0 a l
@[simp] theorem s_at1 {A : Type} (a b : A) (l : List A) : L2.atI (a :: b :: l) 1 = some b := atI1 a b l
@[simp] theorem s_at2 {A : Type} (a b c : A) (l : List A) : L2.atI (a :: b :: c :: l) 2 = some c := atI2 a b c l
@[simp] theorem s_at3 {A : Type} (a b c d : A) (l : List A) : L2.atI (a :: b :: c :: d :: l) 3 = some d := atI3 a b c d l
@[simp] theorem s_atn {A : Type} (l : List A) (k : Nat) : L2.atI l (k : Int) = l[k]? := atI_nat l k
/-! ### numbers -/
@[simp] theorem add_int (c : Bool) (S : Store) (i j : Int) : oAdd c S (.int i) (.int j) = .ok (.int (i + j)) S := rfl
@[simp] theorem sub_int (S : Store) (i j : Int) : oSub S (.int i) (.int j) = .ok (.int (i - j)) S := rfl
def mulOk (i j : Int) : Prop := (-(2 ^ 64) < i ∧ i < 2 ^ 64) ∨ (-(2 ^ 64) < j ∧ j < 2 ^ 64)
open Classical in
@[simp] theorem mul_int (c : Bool) (S : Store) (i j : Int) : oMul c S (.int i) (.int j) = if mulOk i j then .ok (.int (i * j)) S else .err := by
  show (if (-(2 ^ 64) < i ∧ i < 2 ^ 64) ∨ (-(2 ^ 64) < j ∧ j < 2 ^ 64) then R.ok (D.int (i * j)) S else .err) = _
  by_cases h : mulOk i j
  · rw [if_pos h]; exact if_pos h
  · rw [if_neg h]; exact if_neg h
theorem mulOk_l {i : Int} (j : Int) (h : -1000000000000000000 < i ∧ i < 1000000000000000000) : mulOk i j := .inl ⟨by omega, by omega⟩
theorem mulOk_r (i : Int) {j : Int} (h : -1000000000000000000 < j ∧ j < 1000000000000000000) : mulOk i j := .inr ⟨by omega, by omega⟩
@[simp] theorem mulOk_nr (i j : Int) (h : (-1000000000000000000 < j ∧ j < 1000000000000000000)) : mulOk i j = True := eq_true (mulOk_r i h)
@[simp] theorem mulOk_nl (i j : Int) (h : (-1000000000000000000 < i ∧ i < 1000000000000000000)) : mulOk i j = True := eq_true (mulOk_l j h)
@[simp] theorem div_int (S : Store) (i j : Int) : oDiv S (.int i) (.int j) = if 0 < j ∧ j < 1073741824 then .ok (.int (i / j)) S else .err := rfl
@[simp] theorem mod_int (S : Store) (i j : Int) : oMod S (.int i) (.int j) = if 0 < j then .ok (.int (i % j)) S else .err := rfl
@[simp] theorem pow_int (S : Store) (i j : Int) : oPow S (.int i) (.int j) = if 0 ≤ j ∧ j ≤ 1000000 ∧ i.natAbs < 2 ^ 64 then .ok (.int (i ^ j.toNat)) S else .err := rfl
@[simp] theorem neg_int (S : Store) (i : Int) : oNeg S (.int i) = .ok (.int (-i)) S := rfl
@[simp] theorem cmp_int (p : Int → Int → Bool) (S : Store) (i j : Int) : oCmp p S (.int i) (.int j) = .ok (.bl (p i j)) S := rfl
@[simp] theorem add_str (c : Bool) (S : Store) (x y : Str) : oAdd c S (.str x) (.str y) = if x.length + y.length ≤ sizeLine then .ok (.str (x ++ y)) S else .err := rfl
@[simp] theorem finL_f (ds : List D) (S : Store) : finL false ds S = .ok (.lst ds) S := rfl
@[simp] theorem finL_t (ds : List D) (S : Store) : finL true ds S = .ok (.cell S.length) (S ++ [.lst ds]) := rfl
@[simp] theorem add_lst (c : Bool) (S : Store) (x y : List D) : oAdd c S (.lst x) (.lst y) = if x.length + y.length ≤ sizeLine then finL c (x ++ y) S else .err := rfl
@[simp] theorem tup_le (S : Store) (ds : List D) : oTup S ds = if ds.length ≤ 64 then .ok (.tup ds) S else .err := rfl
@[simp] theorem lst_le (c : Bool) (S : Store) (ds : List D) : oLst c S ds = if ds.length ≤ 64 then finL c ds S else .err := rfl
@[simp] theorem len_lst (S : Store) (ds : List D) : oLen S [.lst ds] = .ok (.int ds.length) S := rfl
@[simp] theorem len_tup (S : Store) (ds : List D) : oLen S [.tup ds] = .ok (.int ds.length) S := rfl
@[simp] theorem len_scr (S : Store) (ns : List Int) : oLen S [.scr ns] = .ok (.int ns.length) S := by
  show R.ok (D.int ((ns.map D.int).length : Int)) S = _
  rw [List.length_map]
@[simp] theorem len_str (S : Store) (x : Str) : oLen S [.str x] = if x.length ≤ sizeLine then .ok (.int x.length) S else .err := rfl
/-! ### cells -/
def kSeqL (o : Option MO) : Option (List D) := match o with
  | some (.lst ds) => some ds
  | _ => none
@[simp] theorem kSeqL_lst (ds : List D) : kSeqL (some (.lst ds)) = some ds := rfl
@[simp] theorem seqL_cell (S : Store) (n : Nat) : seqL S (.cell n) = kSeqL (S[n]?) := by
  unfold seqL kSeqL; rfl
@[simp] theorem seqP_cell (S : Store) (n : Nat) : seqP S (.cell n) = kSeqL (S[n]?) := by
  unfold seqP kSeqL; rfl
@[simp] theorem seqA_cell (S : Store) (n : Nat) : seqA S (.cell n) = kSeqL (S[n]?) := by
  unfold seqA; exact seqL_cell S n
@[simp] theorem seqA_lst (S : Store) (ds : List D) : seqA S (.lst ds) = some ds := rfl
@[simp] theorem seqA_tup (S : Store) (ds : List D) : seqA S (.tup ds) = some ds := rfl
@[simp] theorem tyOk_cell (S : Store) (n : Nat) : tyOk "list" S (.cell n) = (kSeqL (S[n]?)).isSome := by
  rw [← seqL_cell]; unfold tyOk; simp
@[simp] theorem tyOk_lst (S : Store) (ds : List D) : tyOk "list" S (.lst ds) = true := rfl
@[simp] theorem tyOk_str (S : Store) (x : Str) : tyOk "str" S (.str x) = true := rfl
def kLen (o : Option MO) (S : Store) : R D := match o with
  | some (.lst ds) => .ok (.int ds.length) S
  | some (.dk kvs) => R.ok (D.int kvs.length) S
  | _ => .err
@[simp] theorem kLen_lst (ds : List D) (S : Store) : kLen (some (.lst ds)) S = .ok (.int ds.length) S := rfl
@[simp] theorem kLen_dk (ds : List (L2.Key × D)) (S : Store) : kLen (some (.dk ds)) S = .ok (.int ds.length) S := rfl
@[simp] theorem len_cell (S : Store) (n : Nat) : oLen S [.cell n] = kLen (S[n]?) S := by
  show (match seqA S (.cell n) with
    | some ds => R.ok (D.int ds.length) S
    | none => (match S[n]? with
        | some (.dk kvs) => R.ok (D.int kvs.length) S
        | _ => .err)) = _
  rw [seqA_cell]
  cases h : S[n]? with
  | none => rfl
  | some mo => cases mo <;> rfl
theorem cellL_c (S : Store) (n : Nat) : cellL S (.cell n) = (kSeqL (S[n]?)).map fun ds => (n, ds) := by
  unfold cellL kSeqL
  show (match S[n]? with
    | some (.lst ds) => some (n, ds)
    | _ => none) = _
  cases h : S[n]? with
  | none => rfl
  | some mo => cases mo <;> rfl
def kExt (o u : Option (List D)) (n : Nat) (S : Store) : R D := match o, u with
  | some ds, some us => if ds.length + us.length ≤ sizeLine then .ok .non (S.set n (.lst (ds ++ us))) else .err
  | _, _ => .err
@[simp] theorem kExt_s (ds us : List D) (n : Nat) (S : Store) : kExt (some ds) (some us) n S = if ds.length + us.length ≤ sizeLine then .ok .non (S.set n (.lst (ds ++ us))) else .err := rfl
@[simp] theorem ext_cell (S : Store) (n : Nat) (e : D) : oExtend S (.cell n) [e] = kExt (kSeqL (S[n]?)) (seqP S e) n S := by
  unfold oExtend kExt
  rw [cellL_c]
  cases kSeqL (S[n]?) with
  | none => rfl
  | some ds =>
    show (match seqP S e with
      | some us => if ds.length + us.length ≤ sizeLine then R.ok D.non (S.set n (.lst (ds ++ us))) else .err
      | none => .err) = _
    cases seqP S e <;> rfl
def kApp (o : Option (List D)) (e : D) (n : Nat) (S : Store) : R D := match o with
  | some ds => if ds.length < sizeLine then .ok .non (S.set n (.lst (ds ++ [e]))) else .err
  | _ => .err
@[simp] theorem kApp_s (ds : List D) (e : D) (n : Nat) (S : Store) : kApp (some ds) e n S = if ds.length < sizeLine then .ok .non (S.set n (.lst (ds ++ [e]))) else .err := rfl
@[simp] theorem app_cell (S : Store) (n : Nat) (e : D) : oAppend S (.cell n) [e] = kApp (kSeqL (S[n]?)) e n S := by
  unfold oAppend kApp
  rw [cellL_c]
  cases kSeqL (S[n]?) <;> rfl
def kIns (o : Option (List D)) (i : Int) (e : D) (n : Nat) (S : Store) : R D := match o with
  | some ds => if ds.length < sizeLine ∧ 0 ≤ i ∧ i < 2 ^ 63 then .ok .non (S.set n (.lst (ds.take i.toNat ++ [e] ++ ds.drop i.toNat))) else .err
  | _ => .err
@[simp] theorem kIns_s (ds : List D) (i : Int) (e : D) (n : Nat) (S : Store) : kIns (some ds) i e n S = if ds.length < sizeLine ∧ 0 ≤ i ∧ i < 2 ^ 63 then .ok .non (S.set n (.lst (ds.take i.toNat ++ [e] ++ ds.drop i.toNat))) else .err := rfl
@[simp] theorem ins_cell (S : Store) (n : Nat) (i : Int) (e : D) : oInsert S (.cell n) [.int i, e] = kIns (kSeqL (S[n]?)) i e n S := by
  unfold oInsert kIns
  rw [cellL_c]
  cases kSeqL (S[n]?) <;> rfl
def kSet (o : Option MO) (i e : D) (n : Nat) (S : Store) : R D := match o with
  | some (.lst ds) => (match i with
    | .int k => (match L2.ixN ds.length k with
      | some j => .ok .non (S.set n (.lst (ds.set j e)))
      | none => .err)
    | _ => .err)
  | some (.dk kvs) => (match keyOf i with
    | some k => if kvs.length < sizeLine then .ok .non (S.set n (.dk (putG kvs k e))) else .err
    | none => .err)
  | some (.dt kvs) => (match keysD i with
    | some k => if kvs.length < sizeLine then .ok .non (S.set n (.dt (putG kvs k e))) else .err
    | none => .err)
  | _ => .err
@[simp] theorem kSet_lst (ds : List D) (k : Int) (e : D) (n : Nat) (S : Store) : kSet (some (.lst ds)) (.int k) e n S = match L2.ixN ds.length k with
      | some j => .ok .non (S.set n (.lst (ds.set j e)))
      | none => .err := rfl
@[simp] theorem kSet_dk (kvs : List (L2.Key × D)) (i e : D) (n : Nat) (S : Store) : kSet (some (.dk kvs)) i e n S = match keyOf i with
    | some k => if kvs.length < sizeLine then .ok .non (S.set n (.dk (putG kvs k e))) else .err
    | none => .err := rfl
@[simp] theorem kSet_dt (kvs : List (List L2.Key × D)) (i e : D) (n : Nat) (S : Store) : kSet (some (.dt kvs)) i e n S = match keysD i with
    | some k => if kvs.length < sizeLine then .ok .non (S.set n (.dt (putG kvs k e))) else .err
    | none => .err := rfl
@[simp] theorem set_cell (S : Store) (n : Nat) (i e : D) : oSet S (.cell n) i e = kSet (S[n]?) i e n S := by
  unfold oSet kSet
  rw [cellL_c]
  cases h : S[n]? with
  | none => simp [kSeqL, cellK, cellT, h]
  | some mo =>
    cases mo <;> simp [kSeqL, cellK, cellT, h] <;> first | (cases i <;> rfl) | (cases keyOf i <;> rfl) | (cases keysD i <;> rfl)
theorem ixN_nat {n k : Nat} (h : k < n) : L2.ixN n (k : Int) = some k := by
  unfold L2.ixN
  rw [if_pos (by omega), if_pos (by omega), Int.toNat_natCast]
/-! ### lists walked -/
@[simp] theorem itA_lst (ds : List D) (S : Store) : itemsA [.lst ds] S = some (ones ds) := rfl
@[simp] theorem itA_scr (ns : List Int) (S : Store) : itemsA [.scr ns] S = some (ones (ns.map D.int)) := rfl
@[simp] theorem itA_cell (n : Nat) (S : Store) : itemsA [.cell n] S = (kSeqL (S[n]?)).map ones := by
  rw [← seqL_cell]; rfl
theorem itA_tup {ds : List D} (h : ds.length ≤ sizeLine) (S : Store) : itemsA [.tup ds] S = some (ones ds) := by
  show (match (if ds.length ≤ sizeLine then some (ones ds) else none) with
    | some its => some its
    | none => (seqL S (.tup ds)).map ones) = _
  rw [if_pos h]
theorem it_r1 {n : Nat} (h : n ≤ sizeLine) (S : Store) : itemsR [.int n] S = some ((List.range n).map fun (k : Nat) => [D.int k]) := by
  have hz : (n : Int) ≤ (sizeLine : Int) := by exact_mod_cast h
  show (if -(2 ^ 62) ≤ (n : Int) ∧ (n : Int) ≤ sizeLine then some ((List.range (n : Int).toNat).map fun (k : Nat) => [D.int k]) else none) = _
  rw [if_pos ⟨by omega, hz⟩, Int.toNat_natCast]
/-! ### loops over data that stand still -/
def forV (tg : List Nat) (body : MS) : List (List D) → Sm.Env → Store → R Fl
  | [], ρ, S => .ok (.nx ρ) S
  | d :: ds, ρ, S => match body (setAll tg d ρ) S with
    | .ok (.nx r) S2 => forV tg body ds r S2
    | .ok (.ct r) S2 => forV tg body ds r S2
    | .ok (.bk r) S2 => .ok (.nx r) S2
    | r => r
theorem forL_V {items : Store → Option (List (List D))} {its : List (List D)} {tg : List Nat} {body : MS} (h : ∀ S, items S = some its) : ∀ (ds : List (List D)) (ρ : Sm.Env) (S : Store), forL items its tg body ds ρ S = forV tg body ds ρ S
  | [], ρ, S => by unfold forL forV; rw [if_pos (h S)]
  | d :: ds, ρ, S => by
    unfold forL forV
    rw [if_pos (h S)]
    cases body (setAll tg d ρ) S with
    | ok f S2 => cases f <;> simp only [forL_V h ds]
    | ex c S2 => rfl
    | err => rfl
theorem for_src {args : ML} {items : List D → Store → Option (List (List D))} {tg : List Nat} {body : MS} {ρ : Sm.Env} {S S1 : Store} {src : List D} {its : List (List D)} (h : args ρ S = .ok src S1) (hi : ∀ S, items src S = some its) :
    sFor args items tg body ρ S = forV tg body its ρ S1 := by
  unfold sFor
  rw [h, bind_ok]
  simp only [hi]
  exact forL_V hi its ρ S1
/-- a loop by its invariant: each turn goes on -/
theorem forV_inv {tg : List Nat} {body : MS} (I : List (List D) → Sm.Env → Store → Prop) : ∀ (post pre : List (List D)) (ρ : Sm.Env) (S : Store),
    (∀ p d q ρ S, pre ++ post = p ++ d :: q → I p ρ S → ∃ r S', body (setAll tg d ρ) S = .ok (.nx r) S' ∧ I (p ++ [d]) r S') → I pre ρ S → ∃ r S', forV tg body post ρ S = .ok (.nx r) S' ∧ I (pre ++ post) r S'
  | [], pre, ρ, S, _, h => ⟨ρ, S, rfl, by rw [List.append_nil]; exact h⟩
  | d :: ds, pre, ρ, S, st, h => by
    obtain ⟨r, S1, e, h1⟩ := st pre d ds ρ S rfl h
    obtain ⟨r2, S2, e2, h2⟩ := forV_inv I ds (pre ++ [d]) r S1 (fun p d' q ρ' S' hp => st p d' q ρ' S' (by rw [← hp]; simp)) h1
    refine ⟨r2, S2, ?_, by simpa using h2⟩
    show (match body (setAll tg d ρ) S with
    | .ok (.nx r) S2 => forV tg body ds r S2
    | .ok (.ct r) S2 => forV tg body ds r S2
    | .ok (.bk r) S2 => .ok (.nx r) S2
    | r => r) = _
    rw [e]
    exact e2
theorem comp_src {c : Bool} {args : ML} {items : List D → Store → Option (List (List D))} {tg own : List Nat} {cond elt : ME} {ρ : Sm.Env} {S S1 : Store} {src : List D} {its : List (List D)} (h : args ρ S = .ok src S1) (hi : items src S1 = some its)
    (p : List D → Bool) (f : List D → D) (hp : ∀ d ∈ its, cond (setAll tg d (wipeE ρ own)) S1 = .ok (.bl (p d)) S1) (hf : ∀ d ∈ its, p d = true → elt (setAll tg d (wipeE ρ own)) S1 = .ok (f d) S1) :
    mComp c args items tg own cond elt ρ S = finL c ((its.filter p).map f) S1 := by
  unfold mComp
  rw [h, bind_ok]
  simp only [hi]
  have key : ∀ ds : List (List D), (∀ d ∈ ds, d ∈ its) → compL (items src) its tg (wipeE ρ own) cond elt ds S1 = .ok ((ds.filter p).map f) S1 := by
    intro ds
    induction ds with
    | nil => intro _; unfold compL; rw [if_pos hi]; rfl
    | cons d ds ih =>
      intro hm
      have h1 := hp d (hm d List.mem_cons_self)
      have h3 := ih fun e he => hm e (List.mem_cons_of_mem _ he)
      unfold compL
      rw [if_pos hi, h1, nox_ok, bind_ok]
      cases q : p d with
      | true =>
        have h2 := hf d (hm d List.mem_cons_self) q
        simp only [h2, nox_ok, bind_ok, h3, List.filter_cons, q, if_true, List.map_cons]
      | false => simp only [h3, List.filter_cons, q, Bool.false_eq_true, if_false]
  rw [key its fun d hd => hd, bind_ok]
/-- over a list -/
theorem comp_ones {A : Type} {c : Bool} {args : ML} {items : List D → Store → Option (List (List D))} {tg own : List Nat} {cond elt : ME} {ρ : Sm.Env} {S S1 : Store} {src : List D} (xs : List A) (inj : A → D) (h : args ρ S = .ok src S1) (hi : items src S1 = some (xs.map fun x => [inj x]))
    (p : A → Bool) (f : A → D) (hp : ∀ x ∈ xs, cond (setAll tg [inj x] (wipeE ρ own)) S1 = .ok (.bl (p x)) S1) (hf : ∀ x ∈ xs, p x = true → elt (setAll tg [inj x] (wipeE ρ own)) S1 = .ok (f x) S1) :
    mComp c args items tg own cond elt ρ S = finL c ((xs.filter p).map f) S1 := by
  unfold mComp
  rw [h, bind_ok]
  simp only [hi]
  have key : ∀ ds : List A, (∀ d ∈ ds, d ∈ xs) → compL (items src) (xs.map fun x => [inj x]) tg (wipeE ρ own) cond elt (ds.map fun x => [inj x]) S1 = .ok ((ds.filter p).map f) S1 := by
    intro ds
    induction ds with
    | nil => intro _; simp only [List.map_nil]; unfold compL; rw [if_pos hi]; rfl
    | cons d ds ih =>
      intro hm
      have h1 := hp d (hm d List.mem_cons_self)
      have h3 := ih fun e he => hm e (List.mem_cons_of_mem _ he)
      simp only [List.map_cons]
      unfold compL
      rw [if_pos hi, h1, nox_ok, bind_ok]
      cases q : p d with
      | true =>
        have h2 := hf d (hm d List.mem_cons_self) q
        simp only [h2, nox_ok, bind_ok, h3, List.filter_cons, q, if_true, List.map_cons]
      | false => simp only [h3, List.filter_cons, q, Bool.false_eq_true, if_false]
  rw [key xs fun d hd => hd, bind_ok]
theorem filter_yes {A : Type} (l : List A) : (l.filter fun _ => true) = l := List.filter_eq_self.mpr fun _ _ => rfl
@[simp] theorem ones_map {A : Type} (xs : List A) (f : A → D) : ones (xs.map f) = xs.map fun x => [f x] := by
  unfold ones; rw [List.map_map]; rfl
/-! ### words -/
@[simp] theorem w1 : (Str.ofString "light" = Str.ofString "dark") = False := eq_false (by decide +kernel)
@[simp] theorem w2 : (Str.ofString "light" = Str.ofString "fast") = False := eq_false (by decide +kernel)
@[simp] theorem w3 : (Str.ofString "light" = Str.ofString "loose") = False := eq_false (by decide +kernel)
@[simp] theorem w4 : (Str.ofString "dark" = Str.ofString "light") = False := eq_false (by decide +kernel)
@[simp] theorem w5 : (Str.ofString "dark" = Str.ofString "fast") = False := eq_false (by decide +kernel)
@[simp] theorem w6 : (Str.ofString "dark" = Str.ofString "loose") = False := eq_false (by decide +kernel)
@[simp] theorem w7 : (Str.ofString "fast" = Str.ofString "light") = False := eq_false (by decide +kernel)
@[simp] theorem w8 : (Str.ofString "fast" = Str.ofString "dark") = False := eq_false (by decide +kernel)
@[simp] theorem w9 : (Str.ofString "fast" = Str.ofString "loose") = False := eq_false (by decide +kernel)
@[simp] theorem w10 : (Str.ofString "loose" = Str.ofString "light") = False := eq_false (by decide +kernel)
@[simp] theorem w11 : (Str.ofString "loose" = Str.ofString "dark") = False := eq_false (by decide +kernel)
@[simp] theorem w12 : (Str.ofString "loose" = Str.ofString "fast") = False := eq_false (by decide +kernel)
/-! ### comparisons -/
theorem fit_int (x : Int) : fit (.int x) = true := by
  show (okD (.int x) && SeqAt.shaped (pyD (.int x))) = true
  simp [okD, pyD, SeqAt.shaped, PyData.canLay0, PyData.depth]
theorem fit_bl (x : Bool) : fit (.bl x) = true := by
  show (okD (.bl x) && SeqAt.shaped (pyD (.bl x))) = true
  simp [okD, pyD, SeqAt.shaped, PyData.canLay0, PyData.depth]
@[simp] theorem dr_str (S : Store) (x : Str) : deref S (.str x) = .str x := rfl
@[simp] theorem dr_int (S : Store) (x : Int) : deref S (.int x) = .int x := rfl
@[simp] theorem dr_bl (S : Store) (x : Bool) : deref S (.bl x) = .bl x := rfl
@[simp] theorem dr_tup (S : Store) (x : List D) : deref S (.tup x) = .tup x := rfl
@[simp] theorem dr_lst (S : Store) (x : List D) : deref S (.lst x) = .lst x := rfl
theorem eqD_str (x y : Str) : eqD (.str x) (.str y) = decide (x = y) := by
  show PyData.eqv (.str x) (.str y) = _
  rw [PyData.eqv]; by_cases h : x = y <;> simp [h]
theorem eqD_int (x y : Int) : eqD (.int x) (.int y) = decide (x = y) := by
  show PyData.eqv (.int x) (.int y) = _
  rw [PyData.eqv]; by_cases h : x = y <;> simp [h]
theorem eqD_bl (x y : Bool) : eqD (.bl x) (.bl y) = decide (x = y) := by
  show PyData.eqv (.bool x) (.bool y) = _
  rw [PyData.eqv]; cases x <;> cases y <;> rfl
theorem oEq_fit {S : Store} {d e : D} (h1 : fit (deref S d) = true) (h2 : fit (deref S e) = true) : oEq S d e = .ok (.bl (eqD (deref S d) (deref S e))) S := by
  unfold oEq
  cases h : twoS d e with
  | none => simp [h1, h2]
  | some b =>
    unfold twoS at h
    split at h
    · cases h; simp [eqD_str]
    · cases h
theorem oNe_fit {S : Store} {d e : D} (h1 : fit (deref S d) = true) (h2 : fit (deref S e) = true) : oNe S d e = .ok (.bl (!eqD (deref S d) (deref S e))) S := by
  unfold oNe
  cases h : twoS d e with
  | none => simp [h1, h2]
  | some b =>
    unfold twoS at h
    split at h
    · cases h; simp [eqD_str]
    · cases h
@[simp] theorem oEq_str (S : Store) (x y : Str) : oEq S (.str x) (.str y) = .ok (.bl (decide (x = y))) S := rfl
@[simp] theorem oNe_str (S : Store) (x y : Str) : oNe S (.str x) (.str y) = .ok (.bl (!decide (x = y))) S := rfl
@[simp] theorem oEq_int (S : Store) (x y : Int) : oEq S (.int x) (.int y) = .ok (.bl (decide (x = y))) S := by
  rw [oEq_fit (by simp [fit_int]) (by simp [fit_int])]; simp [eqD_int]
@[simp] theorem oNe_int (S : Store) (x y : Int) : oNe S (.int x) (.int y) = .ok (.bl (!decide (x = y))) S := by
  rw [oNe_fit (by simp [fit_int]) (by simp [fit_int])]; simp [eqD_int]
@[simp] theorem oEq_bl (S : Store) (x y : Bool) : oEq S (.bl x) (.bl y) = .ok (.bl (decide (x = y))) S := by
  rw [oEq_fit (by simp [fit_bl]) (by simp [fit_bl])]; simp [eqD_bl]
@[simp] theorem oNe_bl (S : Store) (x y : Bool) : oNe S (.bl x) (.bl y) = .ok (.bl (!decide (x = y))) S := by
  rw [oNe_fit (by simp [fit_bl]) (by simp [fit_bl])]; simp [eqD_bl]
@[simp] theorem oIs_bl (S : Store) (a b : Bool) : oIsN S (.bl a) (.bl b) = .ok (.bl (decide (a = b))) S := rfl
/-! ### what kind -/
@[simp] theorem isT_int (T : String) (S : Store) (i : Int) : oIsT T S (.int i) = match L2.kitB "int" T with
    | some b => .ok (.bl b) S
    | none => .err := rfl
@[simp] theorem isT_bl (T : String) (S : Store) (i : Bool) : oIsT T S (.bl i) = match L2.kitB "bool" T with
    | some b => .ok (.bl b) S
    | none => .err := rfl
@[simp] theorem isT_str (T : String) (S : Store) (i : Str) : oIsT T S (.str i) = match L2.kitB "str" T with
    | some b => .ok (.bl b) S
    | none => .err := rfl
@[simp] theorem isT_tup (T : String) (S : Store) (i : List D) : oIsT T S (.tup i) = match L2.kitB "tuple" T with
    | some b => .ok (.bl b) S
    | none => .err := rfl
@[simp] theorem isT_lst (T : String) (S : Store) (i : List D) : oIsT T S (.lst i) = match L2.kitB "list" T with
    | some b => .ok (.bl b) S
    | none => .err := rfl
@[simp] theorem kb1 : L2.kitB "int" "int" = some true := by decide +kernel
@[simp] theorem kb2 : L2.kitB "int" "bool" = some false := by decide +kernel
@[simp] theorem kb3 : L2.kitB "tuple" "tuple" = some true := by decide +kernel
@[simp] theorem kb4 : L2.kitB "str" "str" = some true := by decide +kernel
@[simp] theorem kb5 : L2.kitB "bool" "bool" = some true := by decide +kernel
@[simp] theorem kb6 : L2.kitB "list" "list" = some true := by decide +kernel
@[simp] theorem kb7 : L2.kitB "bool" "int" = some true := by decide +kernel
end Nl
/-! P2: hangs; the defs about them -/
namespace Nl
open PySem Sm
inductive Hg where
  | tip (dark : Bool) (dye : Str) (num : Int)
  | knot (loose : Bool) (l r : Hg)
  deriving DecidableEq
def tw (d : Bool) : Str := if d then "dark" else "light"
def kw (d : Bool) : Str := if d then "loose" else "fast"
@[simp] theorem tw_t : tw true = Str.ofString "dark" := rfl
@[simp] theorem tw_f : tw false = Str.ofString "light" := rfl
@[simp] theorem kw_t : kw true = Str.ofString "loose" := rfl
@[simp] theorem kw_f : kw false = Str.ofString "fast" := rfl
def ofH : Hg → D
  | .tip d y n => .tup [.str (tw d), .str y, .int n]
  | .knot k l r => .tup [.str (kw k), ofH l, ofH r]
@[simp] theorem ofH_t (d : Bool) (y : Str) (n : Int) : ofH (.tip d y n) = .tup [.str (tw d), .str y, .int n] := rfl
@[simp] theorem ofH_k (d : Bool) (l r : Hg) : ofH (.knot d l r) = .tup [.str (kw d), ofH l, ofH r] := rfl
def ofL (hs : List Hg) : D := .lst (hs.map ofH)
namespace Hg
def isTip : Hg → Bool
  | tip _ _ _ => true
  | knot _ _ _ => false
def depth : Hg → Nat
  | tip _ _ _ => 0
  | knot _ l r => max l.depth r.depth + 1
def size : Hg → Nat
  | tip _ _ _ => 1
  | knot _ l r => l.size + r.size + 1
def tips : Hg → List Hg
  | tip d y n => [tip d y n]
  | knot _ l r => l.tips ++ r.tips
def mir : Hg → Hg
  | tip d y n => tip (!d) y n
  | knot k l r => knot (!k) l.mir r.mir
def bare : Hg → Hg
  | tip d y _ => tip d y 0
  | knot k l r => knot k l.bare r.bare
/-- number of tips -/
def nt (h : Hg) : Nat := h.tips.length
theorem nt_pos (h : Hg) : 0 < h.nt := by
  induction h with
  | tip _ _ _ => exact Nat.one_pos
  | knot _ l r a b => simp only [nt, tips, List.length_append] at *; omega
@[simp] theorem nt_tip (d : Bool) (y : Str) (n : Int) : (tip d y n).nt = 1 := rfl
@[simp] theorem nt_knot (k : Bool) (l r : Hg) : (knot k l r).nt = l.nt + r.nt := by simp [nt, tips]
/-- no hang is another's mirror with the numbers left out: one mirrors the other -/
def mirs : Hg → Hg → Bool
  | tip d y _, tip d' y' _ => (d != d') && decide (y = y')
  | knot k l r, knot k' l' r' => (k != k') && (l.mirs l' && r.mirs r')
  | _, _ => false
theorem mirs_bare : ∀ h g : Hg, h.mirs g = decide (h.mir.bare = g.bare)
  | tip d y _, tip d' y' _ => by
    simp only [mirs, mir, bare, tip.injEq]
    cases d <;> cases d' <;> simp
  | knot k l r, knot k' l' r' => by
    simp only [mirs, mir, bare, knot.injEq, mirs_bare l l', mirs_bare r r']
    cases k <;> cases k' <;> simp
  | tip _ _ _, knot _ _ _ => by simp [mirs, mir, bare]
  | knot _ _ _, tip _ _ _ => by simp [mirs, mir, bare]
end Hg
variable {T : Nat → Option Body}
theorem two_up {N : Nat} (k : Nat) (h : k + 2 ≤ N) : ∃ m, N = m + 2 ∧ k ≤ m := ⟨N - 2, by omega, by omega⟩
theorem dl {k : Bool} {l r : Hg} {N : Nat} (c : Nat) (h : (Hg.knot k l r).depth + (c + 1) ≤ N) (hc : 1 ≤ c) : ∃ m, N = m + 2 ∧ l.depth + (c + 1) ≤ m + 1 ∧ r.depth + (c + 1) ≤ m + 1 ∧ c ≤ m + 1 := by
  simp only [Hg.depth] at h
  exact ⟨N - 2, by omega, by omega, by omega, by omega⟩
structure HangFns (T : Nat → Option Body) : Prop where
  p_is_tip : T f_p_is_tip = some b_p_is_tip
  p_mirrored : T f_p_mirrored = some b_p_mirrored
  p_mirrors : T f_p_mirrors = some b_p_mirrors
theorem e_p_is_tip (c : T f_p_is_tip = some b_p_is_tip) (h : Hg) {N : Nat} (hN : 2 ≤ N) (S : Store) : ev T N f_p_is_tip [ofH h] S = .ok (.bl h.isTip) S := by
  obtain ⟨n, rfl, _⟩ := two_up 0 hN
  rw [ev_s c]
  cases h with
  | tip d y k => cases d <;> simp [step1, b_p_is_tip, Hg.isTip]
  | knot k l r => cases k <;> simp [step1, b_p_is_tip, Hg.isTip]
theorem e_p_mirrored (c : T f_p_mirrored = some b_p_mirrored) : ∀ (h : Hg) {N : Nat} (_ : h.depth + 2 ≤ N) (S : Store), ev T N f_p_mirrored [ofH h] S = .ok (ofH h.mir) S
  | .tip d y k, N, hN, S => by
    obtain ⟨n, rfl, _⟩ := two_up 0 (N := N) (by omega)
    rw [ev_s c]
    cases d <;> simp [step1, b_p_mirrored, Hg.mir]
  | .knot k l r, N, hN, S => by
    obtain ⟨n, rfl, hl, hr, _⟩ := dl 1 hN (by omega)
    have h1 := e_p_mirrored c l hl S
    have h2 := e_p_mirrored c r hr S
    rw [ev_s c]
    cases k <;> simp [step1, b_p_mirrored, h1, h2, Hg.mir]
theorem e_p_mirrors (c0 : T f_p_is_tip = some b_p_is_tip) (c : T f_p_mirrors = some b_p_mirrors) : ∀ (h g : Hg) {N : Nat} (_ : h.depth + 3 ≤ N) (S : Store), ev T N f_p_mirrors [ofH h, ofH g] S = .ok (.bl (h.mirs g)) S
  | .tip d y k, g, N, hN, S => by
    obtain ⟨n, rfl, _⟩ := two_up 1 (N := N) (by omega)
    have t1 := e_p_is_tip c0 (.tip d y k) (N := n + 1) (by omega) S
    have t2 := e_p_is_tip c0 g (N := n + 1) (by omega) S
    rw [ev_s c]
    cases g with
    | tip d' y' k' => cases d <;> cases d' <;> simp at t1 t2 <;> simp [step1, b_p_mirrors, t1, t2, Hg.isTip, Hg.mirs]
    | knot k' l r => simp [step1, b_p_mirrors, ← ofH_t, ← ofH_k, t1, t2, Hg.isTip, Hg.mirs, -ofH_t, -ofH_k]
  | .knot k l r, g, N, hN, S => by
    obtain ⟨n, rfl, hl, hr, _⟩ := dl 2 hN (by omega)
    have t1 := e_p_is_tip c0 (.knot k l r) (N := n + 1) (by omega) S
    have t2 := e_p_is_tip c0 g (N := n + 1) (by omega) S
    rw [ev_s c]
    cases g with
    | tip d' y' k' => simp [step1, b_p_mirrors, ← ofH_t, ← ofH_k, t1, t2, Hg.isTip, Hg.mirs, -ofH_t, -ofH_k]
    | knot k' l' r' =>
      have h1 := e_p_mirrors c0 c l l' (N := n + 1) (by omega) S
      have h2 := e_p_mirrors c0 c r r' (N := n + 1) (by omega) S
      cases q : l.mirs l' <;> cases k <;> cases k' <;> simp at t1 t2 <;> simp [step1, b_p_mirrors, t1, t2, Hg.isTip, Hg.mirs, h1, h2, q]
/-! ### the law's own -/
theorem e_l_is_tip (c : T f_l_is_tip = some b_l_is_tip) (h : Hg) {N : Nat} (hN : 2 ≤ N) (S : Store) : ev T N f_l_is_tip [ofH h] S = .ok (.bl h.isTip) S := by
  obtain ⟨n, rfl, _⟩ := two_up 0 hN
  rw [ev_s c]
  cases h with
  | tip d y k => cases d <;> simp [step1, b_l_is_tip, Hg.isTip]
  | knot k l r => cases k <;> simp [step1, b_l_is_tip, Hg.isTip]
theorem e_l_tips (c0 : T f_l_is_tip = some b_l_is_tip) (c : T f_l_tips = some b_l_tips) : ∀ (h : Hg) {N : Nat} (_ : h.depth + 3 ≤ N) (_ : h.nt ≤ sizeLine) (S : Store), ev T N f_l_tips [ofH h] S = .ok (ofL h.tips) S
  | .tip d y k, N, hN, _, S => by
    obtain ⟨n, rfl, _⟩ := two_up 1 (N := N) (by omega)
    have t1 := e_l_is_tip c0 (.tip d y k) (N := n + 1) (by omega) S
    rw [ev_s c]
    simp at t1
    simp [step1, b_l_tips, t1, Hg.isTip, Hg.tips, ofL]
  | .knot k l r, N, hN, hz, S => by
    obtain ⟨n, rfl, hl, hr, _⟩ := dl 2 hN (by omega)
    have t1 := e_l_is_tip c0 (.knot k l r) (N := n + 1) (by omega) S
    rw [Hg.nt_knot] at hz
    have h1 := e_l_tips c0 c l (N := n + 1) (by omega) (by omega) S
    have h2 := e_l_tips c0 c r (N := n + 1) (by omega) (by omega) S
    have z : l.tips.length + r.tips.length ≤ sizeLine := hz
    rw [ev_s c]
    simp at t1
    simp [step1, b_l_tips, t1, h1, h2, Hg.isTip, Hg.tips, ofL, z]
theorem mk1 : L2.valV (L2.mergeK [] [(.inr "light", .str "dark"), (.inr "dark", .str "light"), (.inr "fast", .str "loose"), (.inr "loose", .str "fast")]) (.inr "light") = some (.str "dark") := by decide +kernel
theorem mk2 : L2.valV (L2.mergeK [] [(.inr "light", .str "dark"), (.inr "dark", .str "light"), (.inr "fast", .str "loose"), (.inr "loose", .str "fast")]) (.inr "dark") = some (.str "light") := by decide +kernel
theorem mk3 : L2.valV (L2.mergeK [] [(.inr "light", .str "dark"), (.inr "dark", .str "light"), (.inr "fast", .str "loose"), (.inr "loose", .str "fast")]) (.inr "fast") = some (.str "loose") := by decide +kernel
theorem mk4 : L2.valV (L2.mergeK [] [(.inr "light", .str "dark"), (.inr "dark", .str "light"), (.inr "fast", .str "loose"), (.inr "loose", .str "fast")]) (.inr "loose") = some (.str "fast") := by decide +kernel
theorem e_l_mirror (c0 : T f_l_is_tip = some b_l_is_tip) (c : T f_l_mirror = some b_l_mirror) : ∀ (h : Hg) {N : Nat} (_ : h.depth + 3 ≤ N) (S : Store), ev T N f_l_mirror [ofH h] S = .ok (ofH h.mir) S
  | .tip d y k, N, hN, S => by
    obtain ⟨n, rfl, _⟩ := two_up 1 (N := N) (by omega)
    have t1 := e_l_is_tip c0 (.tip d y k) (N := n + 1) (by omega) S
    rw [ev_s c]
    cases d <;> simp at t1 <;> simp [step1, b_l_mirror, t1, Hg.isTip, Hg.mir, oDisp, keyOf, mk1, mk2]
  | .knot k l r, N, hN, S => by
    obtain ⟨n, rfl, hl, hr, _⟩ := dl 2 hN (by omega)
    have t1 := e_l_is_tip c0 (.knot k l r) (N := n + 1) (by omega) S
    have h1 := e_l_mirror c0 c l (N := n + 1) (by omega) S
    have h2 := e_l_mirror c0 c r (N := n + 1) (by omega) S
    rw [ev_s c]
    cases k <;> simp at t1 <;> simp [step1, b_l_mirror, t1, h1, h2, Hg.isTip, Hg.mir, oDisp, keyOf, mk3, mk4]
end Nl
/-! P3: the law's numbers, cells, dyes, books -/
namespace Nl
open PySem Sm
variable {T : Nat → Option Body}
def stir1 (c found factor : Int) : Int := found * 1000000000 + (c * factor + 7919) % 2147483647 * 40692 % 2147483399 / 7
def stirI (c : Int) : Int := stir1 c (stir1 c (stir1 c (stir1 c 0 48271) 69621) 39373) 44488
theorem stirI_nn (c : Int) : 0 ≤ stirI c := by
  have h : ∀ f k, 0 ≤ f → 0 ≤ stir1 c f k := fun f k hf => by
    unfold stir1
    have : 0 ≤ (c * k + 7919) % 2147483647 * 40692 % 2147483399 := Int.emod_nonneg _ (by decide)
    omega
  exact h _ _ (h _ _ (h _ _ (h _ _ (by decide))))
theorem e_stir (c : T f_l_stir = some b_l_stir) (x : Int) {N : Nat} (hN : 2 ≤ N) (S : Store) : ev T N f_l_stir [.int x] S = .ok (.int (stirI x)) S := by
  obtain ⟨n, rfl, _⟩ := two_up 0 (N := N) hN
  rw [ev_s c]
  simp [step1, b_l_stir]
  rw [for_src (src := [.lst [.int 48271, .int 69621, .int 39373, .int 44488]]) (S1 := S) (by rfl) (fun S => itA_lst _ S)]
  simp [ones, forV, setAll, stirI, stir1]
/-- the k-th cell of a script -/
def cellI (ns : List Int) (k : Nat) : Int := stirI (ns.getD k 0)
theorem cellI_nn (ns : List Int) (k : Nat) : 0 ≤ cellI ns k := stirI_nn _
theorem e_cell (c0 : T f_l_stir = some b_l_stir) (c : T f_l_cell = some b_l_cell) (ns : List Int) (k : Nat) {N : Nat} (hN : 3 ≤ N) (S : Store) : ev T N f_l_cell [.scr ns, .int k] S = .ok (.int (cellI ns k)) S := by
  obtain ⟨n, rfl, _⟩ := two_up 1 (N := N) hN
  rw [ev_s c]
  have st : ∀ x S, ev T (n + 1) f_l_stir [.int x] S = .ok (.int (stirI x)) S := fun x S => e_stir c0 x (by omega) S
  by_cases h : k < ns.length
  · simp [step1, b_l_cell, h, st, cellI]
  · have g : ns.getD k 0 = 0 := by simp [List.getD, List.getElem?_eq_none (by omega : ns.length ≤ k)]
    simp [step1, b_l_cell, h, st, cellI, g]
theorem six {n d : Nat} {i : Int} (h : 0 ≤ i) : HT.sIx n d (some i) = min i.toNat n := by
  obtain ⟨k, rfl⟩ := Int.eq_ofNat_of_zero_le h
  show HT.sIx n d (some ((k : Nat) : Int)) = _
  rw [HT.sIx_nat]; rfl
theorem six0 {n d : Nat} : HT.sIx n d none = d := rfl
/-- a slice with both ends -/
theorem cutD_nat {A : Type} (l : List A) (i j : Nat) : cutD l (some (i : Int)) (some (j : Int)) = (l.take j).drop i := by
  unfold cutD
  rw [six (i := (i : Int)) (by omega), six (i := (j : Int)) (by omega), Int.toNat_natCast, Int.toNat_natCast]
  by_cases h : l.length ≤ i
  · rw [List.drop_eq_nil_of_le (by omega), List.take_nil, List.drop_eq_nil_of_le (by rw [List.length_take]; omega)]
  · rw [show min i l.length = i by omega, List.drop_take]
    by_cases h2 : j ≤ l.length
    · rw [show min j l.length = j by omega]
    · rw [show min j l.length = l.length by omega, List.take_of_length_le (by rw [List.length_drop]; omega), List.take_of_length_le (by rw [List.length_drop]; omega)]
theorem cutD_to {A : Type} (l : List A) (j : Nat) : cutD l none (some (j : Int)) = l.take j := by
  unfold cutD
  rw [six0, six (i := (j : Int)) (by omega), Int.toNat_natCast]
  by_cases h2 : j ≤ l.length
  · simp [Nat.min_eq_left h2]
  · simp [show min j l.length = l.length by omega, List.take_of_length_le (by omega : l.length ≤ j)]
theorem cutD_from {A : Type} (l : List A) (i : Nat) : cutD l (some (i : Int)) none = l.drop i := by
  unfold cutD
  rw [six0, six (i := (i : Int)) (by omega), Int.toNat_natCast]
  by_cases h2 : i ≤ l.length
  · rw [Nat.min_eq_left h2]; exact List.take_of_length_le (by rw [List.length_drop]; omega)
  · rw [show min i l.length = l.length by omega, List.drop_eq_nil_of_le (by omega), List.drop_eq_nil_of_le (by omega), List.take_nil]
@[simp] theorem sl_lst (c : Bool) (S : Store) (ds : List D) (lo hi : Option Int) : oSl c S (.lst ds) lo hi = finL c (cutD ds lo hi) S := rfl
@[simp] theorem sl_scr (c : Bool) (S : Store) (ns : List Int) (lo hi : Option Int) : oSl c S (.scr ns) lo hi = finL c (cutD (ns.map D.int) lo hi) S := rfl
@[simp] theorem sl_str (c : Bool) (S : Store) (x : Str) (lo hi : Option Int) : oSl c S (.str x) lo hi = if x.length ≤ sizeLine then .ok (.str (L2.cutS x lo hi)) S else .err := rfl
theorem e_cells (c0 : T f_l_stir = some b_l_stir) (c : T f_l_cells = some b_l_cells) (ns : List Int) (i j : Nat) {N : Nat} (hN : 3 ≤ N) (S : Store) : ev T N f_l_cells [.scr ns, .int i, .int j] S = .ok (.lst ((((ns.take j).drop i).map stirI).map D.int)) S := by
  obtain ⟨n, rfl, _⟩ := two_up 1 (N := N) hN
  rw [ev_s c]
  simp [step1, b_l_cells]
  rw [comp_ones ((ns.take j).drop i) D.int (S1 := S) (src := [.lst (((ns.take j).drop i).map D.int)]) (by simp [cutD_nat]) (by rw [itA_lst, ones_map]) (fun _ => true) (fun v => .int (stirI v)) (fun d _ => rfl) ?_]
  · simp [filter_yes, Function.comp_def]
  · intro x _ _
    simp [setAll, wipeE, e_stir c0 x (N := n + 1) (by omega) S]
/-! ### dyes -/
def abc : Str := Str.ofString "abcdefghijklmnopqrstuvwxyz"
theorem abc_cps : abc.cps.toList = (List.range 26).map (97 + ·) := by decide +kernel
theorem abc_len : abc.length = 26 := by decide +kernel
theorem abc_at {j : Int} (h0 : 0 ≤ j) (h1 : j < 26) (S : Store) : oIx S (.str abc) (.int j) = .ok (.str ⟨#[97 + j.toNat]⟩) S := by
  have e : L2.atI abc.cps.toList j = some (97 + j.toNat) := by
    rw [atI_pos h0, abc_cps, List.getElem?_map, List.getElem?_range (by omega)]; rfl
  unfold oIx
  simp [abc_len, e]
  decide
theorem strsOf_map {A : Type} (f : A → Str) (l : List A) : strsOf (l.map fun x => .str (f x)) = some (l.map f) := by
  induction l with
  | nil => rfl
  | cons a l ih => simp only [List.map_cons, strsOf, ih]; rfl
theorem join0 (l : List Str) : Str.join (Str.ofString "") l = ⟨(l.flatMap fun x => x.cps.toList).toArray⟩ := by
  have e0 : Str.ofString "" = ⟨#[]⟩ := by decide +kernel
  rw [e0]
  induction l with
  | nil => rfl
  | cons x l ih =>
    cases l with
    | nil => simp [Str.join]
    | cons y l =>
      rw [Str.join, ih]
      · show (Str.mk ((x.cps ++ #[]) ++ _) : Str) = _
        simp
      · simp
def dyeSize (c : Int) : Nat := if c % 11 = 5 then 20 else (1 + c % 3).toNat
def dyeCps (c : Int) : List Nat := (List.range (dyeSize c)).map fun (k : Nat) => 97 + ((c / 3 + 7 * (c / 5 % 4) * k) % 26).toNat
def dyeS (c : Int) : Str := ⟨(dyeCps c).toArray⟩
theorem dyeSize_le (c : Int) : 1 ≤ dyeSize c ∧ dyeSize c ≤ 20 := by unfold dyeSize; split <;> omega
/-- a dye: one to twenty letters -/
def IsDye (y : Str) : Prop := 1 ≤ y.length ∧ y.length ≤ 20 ∧ ∀ x ∈ y.cps.toList, 97 ≤ x ∧ x < 123
theorem dyeS_ok (c : Int) : IsDye (dyeS c) := by
  have l : (dyeS c).length = dyeSize c := by simp [dyeS, Str.length, dyeCps]
  have := dyeSize_le c
  refine ⟨by omega, by omega, fun x hx => ?_⟩
  have hx : x ∈ (dyeCps c).toArray.toList := hx
  rw [List.toList_toArray] at hx
  obtain ⟨k, _, rfl⟩ := List.mem_map.mp hx
  omega
theorem e_dye (c : T f_l_dye = some b_l_dye) (x : Int) {N : Nat} (hN : 2 ≤ N) (S : Store) : ev T N f_l_dye [.int x] S = .ok (.str (dyeS x)) S := by
  obtain ⟨n, rfl, _⟩ := two_up 0 (N := N) hN
  rw [ev_s c]
  have hz := dyeSize_le x
  have hs : (20 : Nat) ≤ sizeLine := by decide
  have comp : ∀ (ρ : Sm.Env) (m : Int) (hm : m = (dyeSize x : Int)) (ha : ρ = [some (.int x), some (.int m), some (.int (7 * (x / 5 % 4))), none]), mComp false (mCons (mV 1) mNil) itemsR [3] [3] (mC (.bl true)) (m2 oIx (mC (.str "abcdefghijklmnopqrstuvwxyz")) (m2 oMod (m2 (oAdd false) (m2 oDiv (mV 0) (mC (.int 3))) (m2 (oMul false) (mV 2) (mV 3))) (mC (.int 26)))) ρ S
      = .ok (.lst ((List.range (dyeSize x)).map fun (k : Nat) => D.str ⟨#[97 + ((x / 3 + 7 * (x / 5 % 4) * k) % 26).toNat]⟩)) S := by
    intro ρ m hm ha
    subst ha hm
    rw [comp_ones (List.range (dyeSize x)) (fun k : Nat => D.int k) (S1 := S) (src := [.int (dyeSize x)]) (by simp) (it_r1 (by omega) S) (fun _ => true) (fun k => D.str ⟨#[97 + ((x / 3 + 7 * (x / 5 % 4) * k) % 26).toNat]⟩) (fun d _ => rfl) ?_]
    · simp [filter_yes]
    · intro k hk _
      have hk : k < dyeSize x := List.mem_range.mp hk
      have := abc_at (j := (x / 3 + 7 * (x / 5 % 4) * k) % 26) (by omega) (by omega) S
      unfold abc at this
      simp [setAll, wipeE]
      rw [if_pos (mulOk_l _ ⟨by omega, by omega⟩)]
      simp [this]
  have join : ∀ S, oJoin S (.str (Str.ofString "")) [.lst ((List.range (dyeSize x)).map fun (k : Nat) => D.str ⟨#[97 + ((x / 3 + 7 * (x / 5 % 4) * k) % 26).toNat]⟩)] = .ok (.str (dyeS x)) S := by
    intro S
    unfold oJoin
    simp [strsOf_map, TL.join_eq, join0]
    have e0 : (Str.ofString "").length = 0 := by decide +kernel
    have e1 : ∀ z : Nat, (Str.mk #[z]).length = 1 := fun z => rfl
    rw [if_pos (by simp [Function.comp_def, e0, e1, List.map_const', List.sum_replicate_nat]; omega)]
    simp [dyeS, dyeCps, List.flatMap_map]
    rw [List.map_eq_flatMap]
  by_cases h : x % 11 = 5
  · have hm : dyeSize x = 20 := by unfold dyeSize; rw [if_pos h]
    simp [step1, b_l_dye, h, comp _ 20 (by rw [hm]; rfl) rfl, join]
  · have hm : 1 + x % 3 = (dyeSize x : Int) := by unfold dyeSize; rw [if_neg h]; omega
    simp [step1, b_l_dye, h, comp _ (1 + x % 3) hm rfl, join]
end Nl
/-! P4: the law's loft: books, numbers, cords, knots, splices -/
namespace Nl
open PySem Sm
variable {T : Nat → Option Body}
structure Bk where
  b0 : Int
  b1 : Int
  n : Nat
def Bk.num (b : Bk) (k : Nat) : Int := b.b0 + b.b1 * ((k : Int) * 21 % 64 + 64 * ((k : Int) / 64))
def Bk.mo (b : Bk) : MO := .lst [.int b.b0, .int b.b1, .int b.n]
def Bk.up (b : Bk) (k : Nat) : Bk := { b with n := b.n + k }
theorem Bk.up_up (b : Bk) (i j : Nat) : (b.up i).up j = b.up (i + j) := by simp [Bk.up, Nat.add_assoc]
structure Bk.Ok (b : Bk) : Prop where
  lo : 0 ≤ b.b0 ∧ b.b0 < 10 ^ 29
  step : 0 < b.b1 ∧ b.b1 ≤ 1000000007
theorem gset {A : Type} (S : List A) (i j : Nat) (x : A) : (S.set i x)[j]? = if i = j then (S[i]?).map (fun _ => x) else S[j]? := by
  rw [List.getElem?_set]
  by_cases h : i = j
  · subst h
    by_cases h2 : i < S.length
    · simp [h2]
    · simp [h2]
  · simp [h]
theorem lt_of_get {A : Type} {l : List A} {i : Nat} {a : A} (h : l[i]? = some a) : i < l.length := (List.getElem?_eq_some_iff.mp h).1
theorem e_number (c : T f_l_number = some b_l_number) {b : Bk} (hb : b.Ok) {e : Nat} {S : Store} (he : S[e]? = some b.mo) {N : Nat} (hN : 2 ≤ N) : ev T N f_l_number [.cell e] S = .ok (.int (b.num b.n)) (S.set e (b.up 1).mo) := by
  obtain ⟨n, rfl, _⟩ := two_up 0 (N := N) hN
  rw [ev_s c]
  have hs := hb.step
  have key : ∀ m : Int, S[e]? = some (.lst [.int b.b0, .int b.b1, .int m]) → step1 b_l_number (ev T (n + 1)) (ev T n) [.cell e] S = .ok (.int (b.b0 + b.b1 * (m * 21 % 64 + 64 * (m / 64)))) (S.set e (.lst [.int b.b0, .int b.b1, .int (m + 1)])) := by
    intro m hm
    simp [step1, b_l_number, hm, L2.ixN, gset]
    rw [if_pos (mulOk_l _ ⟨by omega, by omega⟩)]
    simp
  exact key _ he
def bookOf (c : Int) : Bk := ⟨c / 16 % (if c % 4 = 0 then 10 else if c % 4 = 1 then 1000 else if c % 4 = 2 then 10 ^ 12 else 10 ^ 29), (if c / 4 % 4 = 0 then 1 else if c / 4 % 4 = 1 then 2 else if c / 4 % 4 = 2 then 97 else 1000000007), 0⟩
theorem bookOf_ok (c : Int) : (bookOf c).Ok := by
  have p : ∀ m : Int, 0 < m → m ≤ 10 ^ 29 → 0 ≤ c / 16 % m ∧ c / 16 % m < 10 ^ 29 := fun m h1 h2 => ⟨Int.emod_nonneg _ (by omega), Int.lt_of_lt_of_le (Int.emod_lt_of_pos _ h1) h2⟩
  unfold bookOf
  refine ⟨?_, ?_⟩
  · dsimp only
    split
    · exact p _ (by decide) (by decide)
    split
    · exact p _ (by decide) (by decide)
    split
    · exact p _ (by decide) (by decide)
    · exact p _ (by decide) (by decide)
  · dsimp only
    split
    · omega
    split
    · omega
    split <;> omega
theorem e_book (c : T f_l_book = some b_l_book) (x : Int) {N : Nat} (hN : 2 ≤ N) (S : Store) : ev T N f_l_book [.int x] S = .ok (.cell S.length) (S ++ [(bookOf x).mo]) := by
  obtain ⟨n, rfl, _⟩ := two_up 0 (N := N) hN
  rw [ev_s c]
  have h1 : x % 4 = 0 ∨ x % 4 = 1 ∨ x % 4 = 2 ∨ x % 4 = 3 := by omega
  have h2 : x / 4 % 4 = 0 ∨ x / 4 % 4 = 1 ∨ x / 4 % 4 = 2 ∨ x / 4 % 4 = 3 := by omega
  rcases h1 with h1 | h1 | h1 | h1 <;> rcases h2 with h2 | h2 | h2 | h2 <;> simp [step1, b_l_book, h1, h2, Bk.mo, bookOf]
namespace Hg
/-- other numbers, from a book's place on -/
def anew (b : Bk) : Hg → Nat → Hg
  | tip d y _, k => tip d y (b.num k)
  | knot w l r, k => knot w (l.anew b k) (r.anew b (k + l.nt))
theorem nt_anew (b : Bk) : ∀ (h : Hg) (k : Nat), (h.anew b k).nt = h.nt
  | tip _ _ _, _ => rfl
  | knot _ l r, k => by simp [anew, nt_anew b l, nt_anew b r]
theorem depth_anew (b : Bk) : ∀ (h : Hg) (k : Nat), (h.anew b k).depth = h.depth
  | tip _ _ _, _ => rfl
  | knot _ l r, k => by simp [anew, depth, depth_anew b l, depth_anew b r]
theorem nt_mir : ∀ (h : Hg), h.mir.nt = h.nt
  | tip _ _ _ => rfl
  | knot _ l r => by simp [mir, nt_mir l, nt_mir r]
theorem depth_mir : ∀ (h : Hg), h.mir.depth = h.depth
  | tip _ _ _ => rfl
  | knot _ l r => by simp [mir, depth, depth_mir l, depth_mir r]
theorem mir_mir : ∀ (h : Hg), h.mir.mir = h
  | tip d _ _ => by simp [mir]
  | knot k l r => by simp [mir, mir_mir l, mir_mir r]
end Hg
theorem e_anew (c0 : T f_l_is_tip = some b_l_is_tip) (c1 : T f_l_number = some b_l_number) (c : T f_l_anew = some b_l_anew) : ∀ (h : Hg) {b : Bk} (_ : b.Ok) {e : Nat} {S : Store} (_ : S[e]? = some b.mo) {N : Nat} (_ : h.depth + 3 ≤ N),
    ev T N f_l_anew [ofH h, .cell e] S = .ok (ofH (h.anew b b.n)) (S.set e (b.up h.nt).mo)
  | .tip d y k, b, hb, e, S, he, N, hN => by
    obtain ⟨n, rfl, _⟩ := two_up 1 (N := N) (by omega)
    have t1 := e_l_is_tip c0 (.tip d y k) (N := n + 1) (by omega) S
    have t2 := e_number c1 hb he (N := n + 1) (by omega)
    rw [ev_s c]
    simp at t1
    simp [step1, b_l_anew, t1, t2, Hg.isTip, Hg.anew]
  | .knot k l r, b, hb, e, S, he, N, hN => by
    obtain ⟨n, rfl, hl, hr, _⟩ := dl 2 hN (by omega)
    have t1 := e_l_is_tip c0 (.knot k l r) (N := n + 1) (by omega) S
    have h1 := e_anew c0 c1 c l hb he (N := n + 1) (by omega)
    have he2 : (S.set e (b.up l.nt).mo)[e]? = some (b.up l.nt).mo := by simp [lt_of_get he]
    have h2 := e_anew c0 c1 c r (b := b.up l.nt) ⟨hb.lo, hb.step⟩ he2 (N := n + 1) (by omega)
    have e1 : r.anew (b.up l.nt) (b.up l.nt).n = r.anew b (b.n + l.nt) := by
      have : ∀ (h : Hg) (k : Nat), h.anew (b.up l.nt) k = h.anew b k := by
        intro h; induction h with
        | tip _ _ _ => intro k; rfl
        | knot w x y hx hy => intro k; simp [Hg.anew, hx, hy]
      exact this _ _
    rw [ev_s c]
    simp at t1
    simp [e1, Bk.up_up] at h2
    simp [step1, b_l_anew, t1, h1, h2, Hg.isTip, Hg.anew]
/-! ### lofts -/
def ofP (p : Hg × Hg) : D := .tup [ofH p.1, ofH p.2]
structure Lo where
  hs : List Hg
  ms : List Int
  sp : List (Hg × Hg)
  bk : Bk
structure LAt (S : Store) (k a b c e : Nat) (L : Lo) : Prop where
  hk : S[k]? = some (.lst [.cell a, .cell b, .cell c, .cell e])
  ha : S[a]? = some (.lst (L.hs.map ofH))
  hb : S[b]? = some (.lst (L.ms.map D.int))
  hc : S[c]? = some (.lst (L.sp.map ofP))
  he : S[e]? = some L.bk.mo
  nd : [k, a, b, c, e].Nodup
/-- what may have changed: the loft's own cells; what is new -/
structure Grow (S : Store) (F : List Nat) (S' : Store) (F' : List Nat) : Prop where
  len : S.length ≤ S'.length
  old : ∀ j, j < S.length → j ∉ F → S'[j]? = S[j]?
  own : ∀ j, j ∈ F' → j ∈ F ∨ S.length ≤ j
theorem Grow.refl (S : Store) (F : List Nat) : Grow S F S F := ⟨Nat.le_refl _, fun _ _ _ => rfl, fun _ h => .inl h⟩
theorem Grow.trans {S S1 S2 : Store} {F F1 F2 : List Nat} (g : Grow S F S1 F1) (h : Grow S1 F1 S2 F2) : Grow S F S2 F2 := by
  refine ⟨Nat.le_trans g.len h.len, fun j hj hn => ?_, fun j hj => ?_⟩
  · rw [h.old j (Nat.lt_of_lt_of_le hj g.len) fun q => ?_]
    · exact g.old j hj hn
    · rcases g.own j q with z | z
      · exact hn z
      · omega
  · rcases h.own j hj with z | z
    · exact g.own j z
    · exact .inr (Nat.le_trans g.len z)
theorem Grow.set (S : Store) (F : List Nat) (j : Nat) (o : MO) (h : j ∈ F) : Grow S F (S.set j o) F := by
  refine ⟨by simp, fun i hi hn => ?_, fun _ h => .inl h⟩
  rw [List.getElem?_set_ne fun e => hn (by rw [← e]; exact h)]
theorem Grow.app (S X : Store) (F : List Nat) : Grow S F (S ++ X) F :=
  ⟨by simp, fun i hi hn => List.getElem?_append_left hi, fun _ h => .inl h⟩
theorem ne5 {k a b c e : Nat} (h : [k, a, b, c, e].Nodup) : (k ≠ a ∧ k ≠ b ∧ k ≠ c ∧ k ≠ e ∧ a ≠ b ∧ a ≠ c ∧ a ≠ e ∧ b ≠ c ∧ b ≠ e ∧ c ≠ e) ∧ (a ≠ k ∧ b ≠ k ∧ c ≠ k ∧ e ≠ k ∧ b ≠ a ∧ c ≠ a ∧ e ≠ a ∧ c ≠ b ∧ e ≠ b ∧ e ≠ c) := by
  simp at h; omega
structure LoftFns (T : Nat → Option Body) : Prop where
  is_tip : T f_l_is_tip = some b_l_is_tip
  tips : T f_l_tips = some b_l_tips
  mirror : T f_l_mirror = some b_l_mirror
  number : T f_l_number = some b_l_number
  anew : T f_l_anew = some b_l_anew
  dye : T f_l_dye = some b_l_dye
  stir : T f_l_stir = some b_l_stir
  cell : T f_l_cell = some b_l_cell
  cells : T f_l_cells = some b_l_cells
  book : T f_l_book = some b_l_book
  add_cord : T f_l_add_cord = some b_l_add_cord
  tie : T f_l_tie = some b_l_tie
  add_knot : T f_l_add_knot = some b_l_add_knot
  add_splice : T f_l_add_splice = some b_l_add_splice
  close : T f_l_close = some b_l_close
  loft : T f_l_loft = some b_l_loft
def Lo.cord (L : Lo) (x : Int) : Lo :=
  { hs := L.hs ++ [.tip (decide (x / 7 % 2 = 1)) (dyeS (x / 7)) (L.bk.num L.bk.n), .tip (!decide (x / 7 % 2 = 1)) (dyeS (x / 7)) (L.bk.num L.bk.n)], ms := L.ms ++ [L.bk.num L.bk.n, L.bk.num L.bk.n], sp := L.sp, bk := L.bk.up 1 }
theorem sz {n : Nat} (h : n ≤ 4000) : n ≤ sizeLine := Nat.le_trans h (by decide)
theorem sz' {n : Nat} (h : n < 4000) : n < sizeLine := Nat.lt_of_lt_of_le h (by decide)
theorem e_add_cord (c : LoftFns T) {S : Store} {k a b d e : Nat} {L : Lo} (l : LAt S k a b d e L) (hb : L.bk.Ok) (z1 : L.hs.length + 2 ≤ 4000) (z2 : L.ms.length + 2 ≤ 4000) (x : Int) {N : Nat} (hN : 4 ≤ N) :
    ∃ S', ev T N f_l_add_cord [.cell k, .int x] S = .ok .non S' ∧ LAt S' k a b d e (L.cord x) ∧ Grow S [k, a, b, d, e] S' [k, a, b, d, e] := by
  obtain ⟨n, rfl, _⟩ := two_up 2 (N := N) hN
  rw [ev_s c.add_cord]
  obtain ⟨hk, ha, hb', hc, he, nd⟩ := l
  obtain ⟨⟨n1, n2, n3, n4, n5, n6, n7, n8, n9, n10⟩, m1, m2, m3, m4, m5, m6, m7, m8, m9, m10⟩ := ne5 nd
  have t1 := e_number c.number hb he (N := n + 1) (by omega)
  have t2 : ∀ S, ev T (n + 1) f_l_dye [.int (x / 7)] S = .ok (.str (dyeS (x / 7))) S := fun S => e_dye c.dye (x / 7) (by omega) S
  by_cases h : x / 7 % 2 = 1
  · refine ⟨_, by simp [step1, b_l_add_cord, hk, ha, hb', hc, he, t1, t2, h, n1, n2, n3, n4, n5, n6, n7, n8, n9, n10, m1, m2, m3, m4, m5, m6, m7, m8, m9, m10, sz z1, sz z2, gset]; rfl, ?_, ?_⟩
    · refine ⟨?_, ?_, ?_, ?_, ?_, nd⟩ <;> simp [gset, hk, ha, hb', hc, he, n1, n2, n3, n4, n5, n6, n7, n8, n9, n10, m1, m2, m3, m4, m5, m6, m7, m8, m9, m10, Lo.cord, h]
    · exact ((Grow.set _ _ e _ (by simp)).trans (Grow.set _ _ a _ (by simp))).trans (Grow.set _ _ b _ (by simp))
  · refine ⟨_, by simp [step1, b_l_add_cord, hk, ha, hb', hc, he, t1, t2, h, n1, n2, n3, n4, n5, n6, n7, n8, n9, n10, m1, m2, m3, m4, m5, m6, m7, m8, m9, m10, sz z1, sz z2, gset]; rfl, ?_, ?_⟩
    · refine ⟨?_, ?_, ?_, ?_, ?_, nd⟩ <;> simp [gset, hk, ha, hb', hc, he, n1, n2, n3, n4, n5, n6, n7, n8, n9, n10, m1, m2, m3, m4, m5, m6, m7, m8, m9, m10, Lo.cord, h]
    · exact ((Grow.set _ _ e _ (by simp)).trans (Grow.set _ _ a _ (by simp))).trans (Grow.set _ _ b _ (by simp))
end Nl
/-! P5: the law's loft: knots, splices, the whole -/
namespace Nl
open PySem Sm
variable {T : Nat → Option Body}
/-- the items at some places -/
def sel {A : Type} (l : List A) (ks : List Nat) : List A := ks.filterMap fun k => l[k]?
def keep (n i j : Nat) : List Nat := (List.range n).filter fun q => decide (q ≠ i) && decide (q ≠ j)
theorem keep_lt {n i j q : Nat} (h : q ∈ keep n i j) : q < n := List.mem_range.mp (List.mem_filter.mp h).1
theorem keep_len (n i j : Nat) : (keep n i j).length ≤ n := by
  have := List.length_filter_le (fun q => decide (q ≠ i) && decide (q ≠ j)) (List.range n)
  rw [List.length_range] at this; exact this
def ins {A : Type} (l : List A) (p : Nat) (a : A) : List A := l.take p ++ [a] ++ l.drop p
def Lo.spot (L : Lo) (i j : Nat) (spot : Int) : Nat := (spot % (((keep L.hs.length i j).length : Int) + 1)).toNat
def Lo.tie (L : Lo) (i j : Nat) (h : Hg) (mi mj : Int) (spot : Int) : Lo :=
  { hs := ins (sel L.hs (keep L.hs.length i j)) (L.spot i j spot) h, ms := (ins (sel L.ms (keep L.hs.length i j)) (L.spot i j spot) mi).map fun m => if m = mj then mi else m, sp := L.sp, bk := L.bk }
theorem sel_map {A B : Type} {l : List A} {f : A → B} {ks : List Nat} (g : Nat → B) (h : ∀ k ∈ ks, ∃ a, l[k]? = some a ∧ g k = f a) : ks.map g = (sel l ks).map f := by
  unfold sel
  induction ks with
  | nil => rfl
  | cons k ks ih =>
    obtain ⟨a, h1, h2⟩ := h k List.mem_cons_self
    rw [List.map_cons, List.filterMap_cons, h1, ih fun q hq => h q (List.mem_cons_of_mem _ hq), h2]; rfl
theorem ins_map {A B : Type} (f : A → B) (l : List A) (p : Nat) (a : A) : (ins l p a).map f = ins (l.map f) p (f a) := by
  unfold ins; simp [List.map_take, List.map_drop]
theorem ins_len {A : Type} (l : List A) (p : Nat) (a : A) : (ins l p a).length = l.length + 1 := by
  unfold ins
  rw [List.length_append, List.length_append, List.length_take, List.length_drop, List.length_singleton]
  omega
theorem sel_len {A : Type} {l : List A} {ks : List Nat} (h : ∀ k ∈ ks, k < l.length) : (sel l ks).length = ks.length := by
  unfold sel
  induction ks with
  | nil => rfl
  | cons k ks ih =>
    have := h k List.mem_cons_self
    rw [List.filterMap_cons, List.getElem?_eq_getElem this]
    simp [ih fun q hq => h q (List.mem_cons_of_mem _ hq)]
/-- [x[k] for k in ks], x a cell's list -/
theorem comp_sel {A : Type} {c : Bool} {args : ML} {tg own : List Nat} {elt : ME} {ρ : Sm.Env} {S : Store} (l : List A) (f : A → D) (ks : List Nat) (h : args ρ S = .ok [.lst (ks.map fun q : Nat => D.int q)] S) (hk : ∀ q ∈ ks, q < l.length)
    (he : ∀ (q : Nat) x, l[q]? = some x → elt (setAll tg [D.int q] (wipeE ρ own)) S = .ok (f x) S) : mComp c args itemsA tg own (mC (.bl true)) elt ρ S = finL c ((sel l ks).map f) S := by
  have hsel : ks.map (fun q => match l[q]? with
      | some x => f x
      | none => .non) = (sel l ks).map f := sel_map _ fun q hq => ⟨_, List.getElem?_eq_getElem (hk q hq), by rw [List.getElem?_eq_getElem (hk q hq)]⟩
  rw [comp_ones ks (fun q : Nat => D.int q) h (by rw [itA_lst, ones_map]) (fun _ => true) (fun q => match l[q]? with
      | some x => f x
      | none => .non) (fun q _ => rfl) (fun q hq _ => by
        rw [List.getElem?_eq_getElem (hk q hq)]
        exact he q _ (List.getElem?_eq_getElem (hk q hq))), filter_yes, hsel]
theorem comp_map {A : Type} {c : Bool} {args : ML} {tg own : List Nat} {elt : ME} {ρ : Sm.Env} {S : Store} {d : D} (xs : List A) (inj f : A → D) (h : args ρ S = .ok [d] S) (hi : itemsA [d] S = some (xs.map fun x => [inj x]))
    (he : ∀ x ∈ xs, elt (setAll tg [inj x] (wipeE ρ own)) S = .ok (f x) S) : mComp c args itemsA tg own (mC (.bl true)) elt ρ S = finL c (xs.map f) S := by
  rw [comp_ones xs inj h hi (fun _ => true) f (fun q _ => rfl) (fun q hq _ => he q hq), filter_yes]
theorem gapp {A : Type} {S : List A} {j : Nat} {o : A} (h : S[j]? = some o) (X : List A) : (S ++ X)[j]? = some o := by
  rw [List.getElem?_append_left (lt_of_get h)]; exact h
theorem e_tie (c : LoftFns T) {S : Store} {k a b d e : Nat} {L : Lo} (l : LAt S k a b d e L) (hz : L.hs.length < 4000) (hm : L.ms.length = L.hs.length) {i j : Nat} {hi hj : Hg} {mi mj : Int}
    (gi : L.hs[i]? = some hi) (gj : L.hs[j]? = some hj) (ei : L.ms[i]? = some mi) (ej : L.ms[j]? = some mj) (w : Bool) (spot : Int) {N : Nat} (hN : 2 ≤ N) :
    ∃ S', ev T N f_l_tie [.cell k, .int i, .int j, .str (kw w), .int spot] S = .ok .non S' ∧ ∃ a' b', LAt S' k a' b' d e (L.tie i j (.knot w hi hj) mi mj spot) ∧ Grow S [k, a, b, d, e] S' [k, a', b', d, e] := by
  obtain ⟨n, rfl, _⟩ := two_up 0 (N := N) hN
  rw [ev_s c.tie]
  obtain ⟨hk, ha, hb', hc, he, nd⟩ := l
  obtain ⟨⟨n1, n2, n3, n4, n5, n6, n7, n8, n9, n10⟩, m1, m2, m3, m4, m5, m6, m7, m8, m9, m10⟩ := ne5 nd
  have lk := lt_of_get hk; have la := lt_of_get ha; have lb := lt_of_get hb'; have ld := lt_of_get hc; have le := lt_of_get he
  have kl := keep_len L.hs.length i j
  simp [step1, b_l_tie]
  rw [comp_ones (List.range L.hs.length) (fun q : Nat => D.int q) (S1 := S) (src := [.int L.hs.length]) (by simp [hk, ha]) (it_r1 (sz (Nat.le_of_lt hz)) S) (fun q => decide (q ≠ i) && decide (q ≠ j)) (fun q => .int q)
    (fun q _ => by
      by_cases h1 : q = i
      · subst h1; simp [setAll, wipeE]
      · by_cases h2 : q = j
        · subst h2; simp [setAll, wipeE, h1, Int.ofNat_inj]
        · simp [setAll, wipeE, h1, h2, Int.ofNat_inj]) (fun q _ _ => by simp [setAll, wipeE])]
  rw [show (List.range L.hs.length).filter (fun q => decide (q ≠ i) && decide (q ≠ j)) = keep L.hs.length i j from rfl]
  simp [hk, hb', ei, ej]
  rw [comp_sel L.hs ofH (keep L.hs.length i j) (S := S) (by simp) (fun q hq => keep_lt hq) (fun q x hx => by simp [setAll, wipeE, hk, ha, hx])]
  have s1 : (sel L.hs (keep L.hs.length i j)).length = (keep L.hs.length i j).length := sel_len fun q hq => keep_lt hq
  have s2 : (sel L.ms (keep L.hs.length i j)).length = (keep L.hs.length i j).length := sel_len fun q hq => by rw [hm]; exact keep_lt hq
  have q0 : (0 : Int) < ((keep L.hs.length i j).length : Int) + 1 := by omega
  have q1 : 0 ≤ spot % (((keep L.hs.length i j).length : Int) + 1) := Int.emod_nonneg _ (by omega)
  have q2 : spot % (((keep L.hs.length i j).length : Int) + 1) < 9223372036854775808 := by
    have := Int.emod_lt_of_pos spot q0
    omega
  have q3 : (keep L.hs.length i j).length < sizeLine := sz' (by omega)
  have ak := gapp hk; have aa := gapp ha; have ab := gapp hb'
  have kS : k ≠ S.length := by omega
  have aS : a ≠ S.length := by omega
  have bS : b ≠ S.length := by omega
  simp [s1, q0, q1, q2, q3, ak, aa, gi, gj]
  rw [comp_sel L.ms D.int (keep L.hs.length i j) (by simp) (fun q hq => by rw [hm]; exact keep_lt hq) (fun q x hx => by simp [setAll, wipeE, ak, ab, hx])]
  simp [s2, q0, q1, q2, q3, ak, aa, ab, gset, kS, aS, bS, L2.ixN]
  have q4 : k ≠ S.length + 1 := by omega
  have q5 : k ≠ S.length + 2 := by omega
  have ad := gapp hc; have ae := gapp he
  generalize hS2 : (S ++ [_, _]).set k _ = S2
  have g1 : S2[k]? = some (.lst [.cell S.length, .cell b, .cell d, .cell e]) := by rw [← hS2]; simp [gset, ak]
  have g2 : S2[S.length]? = some (.lst ((L.tie i j (.knot w hi hj) mi mj spot).hs.map ofH)) := by rw [← hS2]; simp [gset, kS, Lo.tie, ins_map, Lo.spot, ins, List.map_take, List.map_drop]
  have g3 : S2[S.length + 1]? = some (.lst ((ins (sel L.ms (keep L.hs.length i j)) (L.spot i j spot) mi).map D.int)) := by rw [← hS2]; simp [gset, q4, ins_map, Lo.spot, ins, List.map_take, List.map_drop]
  have g4 : S2.length = S.length + 2 := by rw [← hS2]; simp
  have g5 : ∀ q, q < S.length → q ≠ k → S2[q]? = S[q]? := fun q hq hn => by rw [← hS2, gset, if_neg (fun h => hn h.symm), List.getElem?_append_left hq]
  rw [comp_map (d := .cell (S.length + 1)) (ins (sel L.ms (keep L.hs.length i j)) (L.spot i j spot) mi) D.int (fun m => .int (if m = mj then mi else m)) (by simp) (by simp [g3]) (fun m _ => by by_cases h : m = mj <;> simp [setAll, wipeE, h])]
  have a1 := gapp g1
  refine ⟨_, by simp [a1, L2.ixN]; rfl, S.length, S2.length, ⟨?_, ?_, ?_, ?_, ?_, ?_⟩, ?_⟩
  · simp [gset, a1]
  · simp [gset, kS, gapp g2]
  · have : k ≠ S2.length := by omega
    simp [gset, this, Lo.tie]
  · simp [gset, n3, gapp ((g5 d ld m3).trans hc), Lo.tie]
  · simp [gset, n4, gapp ((g5 e le m4).trans he), Lo.tie]
  · simp at nd ⊢; omega
  · refine ⟨by simp; omega, fun q hq hn => ?_, fun q hq => ?_⟩
    · have h : q ≠ k := fun h => hn (by simp [h])
      rw [gset, if_neg (fun z => h z.symm), List.getElem?_append_left (by omega)]
      exact g5 q hq h
    · simp at hq ⊢; omega
end Nl
/-! P6: the law's loft: knots, splices, the whole -/
namespace Nl
open PySem Sm
variable {T : Nat → Option Body}
instance : Inhabited Hg := ⟨.tip false ⟨#[]⟩ 0⟩
def Lo.at (L : Lo) (x : Int) : Nat := (x % (L.hs.length : Int)).toNat
def Lo.at2 (L : Lo) (x : Int) : Nat := if L.at (x / 7) = L.at (x / 448) then L.at ((L.at (x / 7) : Int) + 1) else L.at (x / 448)
theorem Lo.at_lt {L : Lo} (h : 0 < L.hs.length) (x : Int) : L.at x < L.hs.length ∧ x % (L.hs.length : Int) = (L.at x : Int) := by
  unfold Lo.at
  have h1 : 0 ≤ x % (L.hs.length : Int) := Int.emod_nonneg _ (by omega)
  have h2 : x % (L.hs.length : Int) < L.hs.length := Int.emod_lt_of_pos _ (by omega)
  omega
theorem Lo.at2_lt {L : Lo} (h : 0 < L.hs.length) (x : Int) : L.at2 x < L.hs.length := by
  unfold Lo.at2
  split
  · exact (Lo.at_lt h _).1
  · exact (Lo.at_lt h _).1
theorem Lo.at2_ne {L : Lo} (h : 2 ≤ L.hs.length) (x : Int) : L.at (x / 7) ≠ L.at2 x := by
  unfold Lo.at2
  split
  · next q =>
    have h1 := Lo.at_lt (L := L) (by omega) (x / 7)
    have h3 := Lo.at_lt (L := L) (by omega) ((L.at (x / 7) : Int) + 1)
    generalize L.at ((L.at (x / 7) : Int) + 1) = w at *
    intro e
    by_cases z : (L.at (x / 7) : Int) + 1 < L.hs.length
    · rw [Int.emod_eq_of_lt (by omega) z] at h3; omega
    · have : (L.at (x / 7) : Int) + 1 = L.hs.length := by omega
      rw [this, Int.emod_self] at h3; omega
  · next q => exact q
def Lo.word (L : Lo) (x : Int) (good : Bool) : Bool := (good && decide (L.ms.getD (L.at (x / 7)) 0 = L.ms.getD (L.at2 x) 0)) || (!good && decide (3 < x % 7))
def Lo.knot (L : Lo) (x : Int) (good : Bool) : Lo :=
  L.tie (L.at (x / 7)) (L.at2 x) (.knot (L.word x good) (L.hs.getD (L.at (x / 7)) default) (L.hs.getD (L.at2 x) default)) (L.ms.getD (L.at (x / 7)) 0) (L.ms.getD (L.at2 x) 0) (x / 28672)
theorem getD_get {A : Type} {l : List A} {i : Nat} (h : i < l.length) (d : A) : l[i]? = some (l.getD i d) := by
  rw [List.getElem?_eq_getElem h, List.getD_eq_getElem?_getD, List.getElem?_eq_getElem h]; rfl
theorem e_add_knot (c : LoftFns T) {S : Store} {k a b d e : Nat} {L : Lo} (l : LAt S k a b d e L) (hz : L.hs.length < 4000) (hm : L.ms.length = L.hs.length) (h2 : 2 ≤ L.hs.length) (x : Int) (good : Bool) {N : Nat} (hN : 3 ≤ N) :
    ∃ S', ev T N f_l_add_knot [.cell k, .int x, .bl good] S = .ok .non S' ∧ ∃ a' b', LAt S' k a' b' d e (L.knot x good) ∧ Grow S [k, a, b, d, e] S' [k, a', b', d, e] := by
  obtain ⟨n, rfl, _⟩ := two_up 1 (N := N) hN
  have pi := Lo.at_lt (L := L) (by omega) (x / 7)
  have pj := Lo.at_lt (L := L) (by omega) (x / 448)
  have pk := Lo.at_lt (L := L) (by omega) ((L.at (x / 7) : Int) + 1)
  have p2 := Lo.at2_lt (L := L) (by omega) x
  obtain ⟨S', h1, h3⟩ := e_tie c l hz hm (i := L.at (x / 7)) (j := L.at2 x) (getD_get pi.1 default) (getD_get p2 default) (getD_get (by omega) 0) (getD_get (by omega) 0) (L.word x good) (x / 28672) (N := n + 1) (by omega)
  refine ⟨S', ?_, h3⟩
  obtain ⟨hk, ha, hb', hc, he, nd⟩ := l
  rw [ev_s c.add_knot]
  have z0 : 0 < L.hs.length := by omega
  obtain ⟨mi, gi, emi⟩ : ∃ m, L.ms[L.at (x / 7)]? = some m ∧ L.ms.getD (L.at (x / 7)) 0 = m := ⟨_, getD_get (by omega) 0, rfl⟩
  obtain ⟨mj, gj, emj⟩ : ∃ m, L.ms[L.at2 x]? = some m ∧ L.ms.getD (L.at2 x) 0 = m := ⟨_, getD_get (by omega) 0, rfl⟩
  have ej : (if (L.at (x / 7) : Int) = (L.at (x / 448) : Int) then (L.at ((L.at (x / 7) : Int) + 1) : Int) else (L.at (x / 448) : Int)) = (L.at2 x : Int) := by
    unfold Lo.at2
    by_cases q : L.at (x / 7) = L.at (x / 448)
    · rw [if_pos q, if_pos (by rw [q])]
    · rw [if_neg q, if_neg (fun z => q (by omega))]
  have e3 : ∀ w : Bool, L.word x good = w → D.str (kw (L.word x good)) = D.str (kw w) := fun w h => by rw [h]
  by_cases q : L.at (x / 7) = L.at (x / 448)
  · have ej : (L.at ((L.at (x / 7) : Int) + 1) : Int) = (L.at2 x : Int) := by rw [← ej, if_pos (by rw [q])]
    cases good with
    | true =>
      by_cases q2 : mi = mj
      · have w : L.word x true = true := by unfold Lo.word; rw [emi, emj]; simp [q2]
        rw [w] at h1; simp at h1
        simp [step1, b_l_add_knot, hk, ha, hb', z0, pi.2, pj.2, pk.2, ← q, ej, gi, gj, q2, h1]
      · have w : L.word x true = false := by unfold Lo.word; rw [emi, emj]; simp [q2]
        rw [w] at h1; simp at h1
        simp [step1, b_l_add_knot, hk, ha, hb', z0, pi.2, pj.2, pk.2, ← q, ej, gi, gj, q2, h1]
    | false =>
      by_cases q2 : 3 < x % 7
      · have w : L.word x false = true := by unfold Lo.word; simp [q2]
        rw [w] at h1; simp at h1
        simp [step1, b_l_add_knot, hk, ha, hb', z0, pi.2, pj.2, pk.2, ← q, ej, gi, gj, q2, h1]
      · have w : L.word x false = false := by unfold Lo.word; simp [q2]
        rw [w] at h1; simp at h1
        simp [step1, b_l_add_knot, hk, ha, hb', z0, pi.2, pj.2, pk.2, ← q, ej, gi, gj, q2, h1]
  · have ej : (L.at (x / 448) : Int) = (L.at2 x : Int) := by rw [← ej, if_neg (fun z => q (by omega))]
    have q' : ¬ (L.at (x / 7) : Int) = (L.at2 x : Int) := by rw [← ej]; omega
    have q'' : ¬ L.at (x / 7) = L.at2 x := by omega
    cases good with
    | true =>
      by_cases q2 : mi = mj
      · have w : L.word x true = true := by unfold Lo.word; rw [emi, emj]; simp [q2]
        rw [w] at h1; simp at h1
        simp [step1, b_l_add_knot, hk, ha, hb', z0, pi.2, pj.2, pk.2, ej, q', q'', gi, gj, q2, h1]
      · have w : L.word x true = false := by unfold Lo.word; rw [emi, emj]; simp [q2]
        rw [w] at h1; simp at h1
        simp [step1, b_l_add_knot, hk, ha, hb', z0, pi.2, pj.2, pk.2, ej, q', q'', gi, gj, q2, h1]
    | false =>
      by_cases q2 : 3 < x % 7
      · have w : L.word x false = true := by unfold Lo.word; simp [q2]
        rw [w] at h1; simp at h1
        simp [step1, b_l_add_knot, hk, ha, hb', z0, pi.2, pj.2, pk.2, ej, q', q'', gi, gj, q2, h1]
      · have w : L.word x false = false := by unfold Lo.word; simp [q2]
        rw [w] at h1; simp at h1
        simp [step1, b_l_add_knot, hk, ha, hb', z0, pi.2, pj.2, pk.2, ej, q', q'', gi, gj, q2, h1]
end Nl
/-! P7: the law's loft: splices, the whole -/
namespace Nl
open PySem Sm
variable {T : Nat → Option Body}
theorem Grow.set' {S S1 : Store} {F : List Nat} (g : Grow S F S1 F) {j : Nat} {o : MO} (h : j ∈ F) : Grow S F (S1.set j o) F := g.trans (Grow.set _ _ _ _ h)
local macro_rules | `(tactic| walk_at "grow") => `(tactic| (repeat (first | exact Grow.refl _ _ | refine Grow.set' ?_ (by simp))))
def Lo.spl (L : Lo) (x : Int) (far h : Hg) : List (Hg × Hg) := ins L.sp (x / 1792 % ((L.sp.length : Int) + 1)).toNat (if x / 448 % 2 = 1 then (far.mir, h) else (h, far.mir))
def Lo.splice (L : Lo) (x : Int) (good : Bool) : Lo :=
  let i := L.at (x / 7)
  let h := L.hs.getD i default
  match h.anew L.bk L.bk.n with
  | .tip d y n => { hs := L.hs.set i (.tip d y n), ms := L.ms, sp := L.spl x (.tip d y n) h, bk := L.bk.up h.nt }
  | .knot w l r => if x / 896 % 2 = 1 ∧ (w = true ∨ good = false) then { hs := ins (L.hs.set i l) (i + 1) r, ms := ins L.ms (i + 1) (L.ms.getD i 0), sp := L.spl x (.knot w l r) h, bk := L.bk.up h.nt }
    else { hs := L.hs.set i (.knot w l r), ms := L.ms, sp := L.spl x (.knot w l r) h, bk := L.bk.up h.nt }
theorem e_add_splice (c : LoftFns T) {S : Store} {k a b d e : Nat} {L : Lo} (l : LAt S k a b d e L) (hb : L.bk.Ok) (hz : L.hs.length < 4000) (hz2 : L.sp.length < 4000) (hm : L.ms.length = L.hs.length) (h1 : 1 ≤ L.hs.length) (x : Int) (good : Bool)
    {D0 : Nat} (hd : ∀ h ∈ L.hs, h.depth ≤ D0) {N : Nat} (hN : D0 + 4 ≤ N) :
    ∃ S', ev T N f_l_add_splice [.cell k, .int x, .bl good] S = .ok .non S' ∧ LAt S' k a b d e (L.splice x good) ∧ Grow S [k, a, b, d, e] S' [k, a, b, d, e] := by
  obtain ⟨n, rfl, _⟩ := two_up (D0 + 2) (N := N) (by omega)
  have pi := Lo.at_lt (L := L) (by omega) (x / 7)
  obtain ⟨h, gh, eh⟩ : ∃ h, L.hs[L.at (x / 7)]? = some h ∧ L.hs.getD (L.at (x / 7)) default = h := ⟨_, getD_get pi.1 default, rfl⟩
  obtain ⟨mi, gi, emi⟩ : ∃ m, L.ms[L.at (x / 7)]? = some m ∧ L.ms.getD (L.at (x / 7)) 0 = m := ⟨_, getD_get (by omega) 0, rfl⟩
  have dh : h.depth ≤ D0 := hd h (List.mem_of_getElem? gh)
  obtain ⟨hk, ha, hb', hc, he, nd⟩ := l
  obtain ⟨⟨n1, n2, n3, n4, n5, n6, n7, n8, n9, n10⟩, m1, m2, m3, m4, m5, m6, m7, m8, m9, m10⟩ := ne5 nd
  rw [ev_s c.add_splice]
  have z0 : 0 < L.hs.length := by omega
  have t1 := e_anew c.is_tip c.number c.anew h hb he (N := n + 1) (by omega)
  have t2 : ∀ S, ev T (n + 1) f_l_mirror [ofH (h.anew L.bk L.bk.n)] S = .ok (ofH (h.anew L.bk L.bk.n).mir) S := fun S => e_l_mirror c.is_tip c.mirror _ (by rw [Hg.depth_anew]; omega) S
  have q0 : (0 : Int) < (L.sp.length : Int) + 1 := by omega
  have q1 : 0 ≤ x / 1792 % ((L.sp.length : Int) + 1) := Int.emod_nonneg _ (by omega)
  have q2 : x / 1792 % ((L.sp.length : Int) + 1) < 9223372036854775808 := by
    have := Int.emod_lt_of_pos (x / 1792) q0
    omega
  have q3 : L.sp.length < sizeLine := sz' hz2
  have q4 : L.hs.length < sizeLine := sz' hz
  have q6 : (L.at (x / 7) : Int) + 1 < 9223372036854775808 := by omega
  have q7 : (0 : Int) ≤ (L.at (x / 7) : Int) + 1 := by omega
  have q8 : ((L.at (x / 7) : Int) + 1).toNat = L.at (x / 7) + 1 := by omega
  have q9 : L2.ixN L.hs.length (L.at (x / 7) : Int) = some (L.at (x / 7)) := ixN_nat pi.1
  unfold Lo.splice
  simp only [eh, emi]
  generalize hf : h.anew L.bk L.bk.n = far at *
  have key : ∀ (p : Hg × Hg), p = (if x / 448 % 2 = 1 then (far.mir, h) else (h, far.mir)) → List.map ofP (L.spl x far h) = (L.sp.map ofP).take (x / 1792 % ((L.sp.length : Int) + 1)).toNat ++ D.tup [ofH p.1, ofH p.2] :: (L.sp.map ofP).drop (x / 1792 % ((L.sp.length : Int) + 1)).toNat := by
    intro p hp
    unfold Lo.spl
    rw [← hp, ins_map]; simp [ins, ofP]
  have key := key _ rfl
  cases far with
  | tip fd fy fn =>
    simp at t1 t2
    cases fd <;> by_cases p1 : x / 448 % 2 = 1 <;> by_cases p2 : x / 896 % 2 = 1 <;> simp [p1] at key <;> simp at t1 t2 <;>
      refine ⟨_, by simp [step1, b_l_add_splice, hk, ha, hb', hc, he, z0, pi.2, gh, t1, t2, p1, p2, q0, q1, q2, q3, q4, q9, gset, n1, n2, n3, n4, n5, n6, n7, n8, n9, n10, m1, m2, m3, m4, m5, m6, m7, m8, m9, m10]; rfl, ⟨?_, ?_, ?_, ?_, ?_, nd⟩, by walk_at "grow"⟩ <;>
      simp [hk, ha, hb', hc, he, gset, key, n1, n2, n3, n4, n5, n6, n7, n8, n9, n10, m1, m2, m3, m4, m5, m6, m7, m8, m9, m10]
  | knot w l r =>
    simp at t1 t2
    cases w <;> cases good <;> by_cases p1 : x / 448 % 2 = 1 <;> by_cases p2 : x / 896 % 2 = 1 <;> simp [p1] at key <;> simp at t1 t2 <;>
      refine ⟨_, by simp [step1, b_l_add_splice, hk, ha, hb', hc, he, z0, pi.2, gh, t1, t2, p1, p2, q0, q1, q2, q3, q4, q6, q7, q8, q9, gi, hm, gset, n1, n2, n3, n4, n5, n6, n7, n8, n9, n10, m1, m2, m3, m4, m5, m6, m7, m8, m9, m10]; rfl, ⟨?_, ?_, ?_, ?_, ?_, nd⟩, by walk_at "grow"⟩ <;>
      simp [hk, ha, hb', hc, he, gset, key, p2, ins_map, ins, List.map_take, List.map_drop, n1, n2, n3, n4, n5, n6, n7, n8, n9, n10, m1, m2, m3, m4, m5, m6, m7, m8, m9, m10]
end Nl
/-! Q1: plain data: when == may be asked, what it says -/
namespace Nl
open PySem Sm
/-- plain data of at most this depth -/
structure Lay (d : D) (n : Nat) : Prop where
  ok : okD d = true
  lay : (pyD d).canLay0 = true
  dep : (pyD d).depth ≤ n
theorem Lay.fit {d : D} {n : Nat} (h : Lay d n) (hn : n ≤ 64) : fit d = true := by
  show (okD d && SeqAt.shaped (pyD d)) = true
  simp [h.ok, SeqAt.shaped, h.lay, Nat.le_trans h.dep hn]
theorem Lay.mono {d : D} {n m : Nat} (h : Lay d n) (hn : n ≤ m) : Lay d m := ⟨h.ok, h.lay, Nat.le_trans h.dep hn⟩
theorem lay_int (i : Int) (n : Nat) : Lay (.int i) n := ⟨by simp [okD], by simp [pyD, PyData.canLay0], by simp [pyD, PyData.depth]⟩
theorem lay_bl (i : Bool) (n : Nat) : Lay (.bl i) n := ⟨by simp [okD], by simp [pyD, PyData.canLay0], by simp [pyD, PyData.depth]⟩
theorem lay_str {x : Str} (h : PyData.strOk x = true) (n : Nat) : Lay (.str x) n := ⟨by simp [okD], by simp [pyD, PyData.canLay0, h], by simp [pyD, PyData.depth]⟩
theorem lay_all : ∀ {ds : List D} {n : Nat}, (∀ d ∈ ds, Lay d n) → okL ds = true ∧ PyData.canLayAll0 (pyL ds) = true ∧ PyData.depthAll (pyL ds) ≤ n
  | [], n, _ => ⟨by simp [okL], by simp [pyL, PyData.canLayAll0], by simp [pyL, PyData.depthAll]⟩
  | d :: ds, n, h => by
    have h1 := h d List.mem_cons_self
    have h2 := lay_all fun e he => h e (List.mem_cons_of_mem _ he)
    refine ⟨by simp [okL, h1.ok, h2.1], by simp [pyL, PyData.canLayAll0, h1.lay, h2.2.1], ?_⟩
    have := h1.dep
    have := h2.2.2
    simp [pyL, PyData.depthAll]; omega
theorem lay_tup {ds : List D} {n : Nat} (h : ∀ d ∈ ds, Lay d n) : Lay (.tup ds) (n + 1) := by
  obtain ⟨h1, h2, h3⟩ := lay_all h
  exact ⟨by simp [okD, h1], by simp [pyD, PyData.canLay0, h2], by simp [pyD, PyData.depth]; exact h3⟩
theorem lay_lst {ds : List D} {n : Nat} (h : ∀ d ∈ ds, Lay d n) : Lay (.lst ds) (n + 1) := by
  obtain ⟨h1, h2, h3⟩ := lay_all h
  exact ⟨by simp [okD, h1], by simp [pyD, PyData.canLay0, h2], by simp [pyD, PyData.depth]; exact h3⟩
theorem eqD_tup (xs ys : List D) : eqD (.tup xs) (.tup ys) = PyData.eqvAll (pyL xs) (pyL ys) := by
  show PyData.eqv (pyD (.tup xs)) (pyD (.tup ys)) = _
  simp [pyD, PyData.eqv]
theorem eqD_lst (xs ys : List D) : eqD (.lst xs) (.lst ys) = PyData.eqvAll (pyL xs) (pyL ys) := by
  show PyData.eqv (pyD (.lst xs)) (pyD (.lst ys)) = _
  simp [pyD, PyData.eqv]
theorem eqA_nil : PyData.eqvAll (pyL []) (pyL []) = true := by simp [pyL, PyData.eqvAll]
theorem eqA_cons (x y : D) (xs ys : List D) : PyData.eqvAll (pyL (x :: xs)) (pyL (y :: ys)) = (eqD x y && PyData.eqvAll (pyL xs) (pyL ys)) := by
  show PyData.eqvAll (pyL (x :: xs)) (pyL (y :: ys)) = (PyData.eqv (pyD x) (pyD y) && _)
  simp [pyL, PyData.eqvAll]
theorem eqA_nc (y : D) (ys : List D) : PyData.eqvAll (pyL []) (pyL (y :: ys)) = false := by simp [pyL, PyData.eqvAll]
theorem eqA_cn (y : D) (ys : List D) : PyData.eqvAll (pyL (y :: ys)) (pyL []) = false := by simp [pyL, PyData.eqvAll]
/-- an injection whose == is = -/
def EqF {A : Type} [DecidableEq A] (f : A → D) : Prop := ∀ a b, eqD (f a) (f b) = decide (a = b)
theorem eqA_map {A : Type} [DecidableEq A] {f : A → D} (h : EqF f) : ∀ xs ys : List A, PyData.eqvAll (pyL (xs.map f)) (pyL (ys.map f)) = decide (xs = ys)
  | [], [] => by simp [eqA_nil]
  | [], y :: ys => by simp [eqA_nc]
  | x :: xs, [] => by simp [eqA_cn]
  | x :: xs, y :: ys => by
    rw [List.map_cons, List.map_cons, eqA_cons, h x y, eqA_map h xs ys]
    by_cases h1 : x = y <;> by_cases h2 : xs = ys <;> simp [h1, h2]
theorem eq_lstF {A : Type} [DecidableEq A] {f : A → D} (h : EqF f) (xs ys : List A) : eqD (.lst (xs.map f)) (.lst (ys.map f)) = decide (xs = ys) := by rw [eqD_lst, eqA_map h]
theorem eqF_int : EqF D.int := eqD_int
theorem eqF_str : EqF D.str := eqD_str
theorem tw_inj {a b : Bool} (h : tw a = tw b) : a = b := by cases a <;> cases b <;> simp at h <;> rfl
theorem kw_inj {a b : Bool} (h : kw a = kw b) : a = b := by cases a <;> cases b <;> simp at h <;> rfl
theorem tw_kw (a b : Bool) : tw a ≠ kw b := by cases a <;> cases b <;> simp
theorem eqF_H : EqF ofH := by
  intro a
  induction a with
  | tip d y n =>
    intro b
    cases b with
    | tip d' y' n' =>
      simp only [ofH, eqD_tup, eqA_cons, eqA_nil, eqD_str, eqD_int, Hg.tip.injEq]
      by_cases h1 : d = d'
      · by_cases h2 : y = y' <;> by_cases h3 : n = n' <;> simp [h1, h2, h3]
      · have : ¬ tw d = tw d' := fun h => h1 (tw_inj h)
        simp [h1, this]
    | knot k l r =>
      simp only [ofH, eqD_tup, eqA_cons, eqD_str]
      simp [tw_kw]
  | knot k l r hl hr =>
    intro b
    cases b with
    | tip d' y' n' =>
      simp only [ofH, eqD_tup, eqA_cons, eqD_str]
      simp [(tw_kw _ _).symm]
    | knot k' l' r' =>
      simp only [ofH, eqD_tup, eqA_cons, eqA_nil, eqD_str, hl l', hr r', Hg.knot.injEq]
      by_cases h1 : k = k'
      · by_cases h2 : l = l' <;> by_cases h3 : r = r' <;> simp [h1, h2, h3]
      · have : ¬ kw k = kw k' := fun h => h1 (kw_inj h)
        simp [h1, this]
theorem eqF_P : EqF ofP := by
  intro a b
  show eqD (.tup [ofH a.1, ofH a.2]) (.tup [ofH b.1, ofH b.2]) = _
  simp only [eqD_tup, eqA_cons, eqA_nil, eqF_H a.1 b.1, eqF_H a.2 b.2]
  cases a; cases b
  simp only [Prod.mk.injEq]
  by_cases h1 : ‹Hg› = ‹Hg› <;> simp
namespace Hg
/-- something holds of each tip -/
def All (P : Bool → Str → Int → Prop) : Hg → Prop
  | tip d y n => P d y n
  | knot _ l r => l.All P ∧ r.All P
theorem All.mono {P Q : Bool → Str → Int → Prop} (h : ∀ d y n, P d y n → Q d y n) : ∀ {g : Hg}, g.All P → g.All Q
  | tip _ _ _, p => h _ _ _ p
  | knot _ _ _, p => ⟨p.1.mono h, p.2.mono h⟩
end Hg
/-- dyes and numbers within the document's bounds -/
abbrev Hg.Fine (h : Hg) : Prop := h.All fun _ y n => IsDye y ∧ 0 ≤ n ∧ n < 10 ^ 30
theorem dye_ok {y : Str} (h : IsDye y) : PyData.strOk y = true := by
  unfold PyData.strOk
  rw [Array.all_eq_true']
  intro x hx
  have := h.2.2 x (by simpa using hx)
  simp; omega
theorem tw_ok (b : Bool) : PyData.strOk (tw b) = true := by cases b <;> decide +kernel
theorem kw_ok (b : Bool) : PyData.strOk (kw b) = true := by cases b <;> decide +kernel
theorem lay_H : ∀ {h : Hg}, h.Fine → Lay (ofH h) (h.depth + 1)
  | .tip d y n, p => lay_tup fun z hz => by
    simp at hz
    rcases hz with rfl | rfl | rfl
    · exact lay_str (tw_ok d) _
    · exact lay_str (dye_ok p.1) _
    · exact lay_int _ _
  | .knot k l r, p => lay_tup fun z hz => by
    simp at hz
    rcases hz with rfl | rfl | rfl
    · exact lay_str (kw_ok k) _
    · exact (lay_H p.1).mono (by simp only [Hg.depth]; omega)
    · exact (lay_H p.2).mono (by simp only [Hg.depth]; omega)
theorem lay_P {p : Hg × Hg} {n : Nat} (h1 : p.1.Fine) (h2 : p.2.Fine) (d1 : p.1.depth ≤ n) (d2 : p.2.depth ≤ n) : Lay (ofP p) (n + 2) := lay_tup fun z hz => by
  simp at hz
  rcases hz with rfl | rfl
  · exact (lay_H h1).mono (by omega)
  · exact (lay_H h2).mono (by omega)
theorem lay_map {A : Type} {f : A → D} {l : List A} {n : Nat} (h : ∀ a ∈ l, Lay (f a) n) : Lay (.lst (l.map f)) (n + 1) := lay_lst fun z hz => by
  obtain ⟨a, ha, rfl⟩ := List.mem_map.mp hz
  exact h a ha
/-- == of data laid out by an injection -/
theorem oEq_lay {A : Type} [DecidableEq A] {f : A → D} (he : EqF f) {a b : A} {n m : Nat} (h1 : Lay (f a) n) (h2 : Lay (f b) m) (hn : n ≤ 64) (hm : m ≤ 64) {S : Store} {d e : D} (hd : deref S d = f a) (hf : deref S e = f b) : oEq S d e = .ok (.bl (decide (a = b))) S := by
  rw [oEq_fit (by rw [hd]; exact h1.fit hn) (by rw [hf]; exact h2.fit hm), hd, hf, he]
theorem oNe_lay {A : Type} [DecidableEq A] {f : A → D} (he : EqF f) {a b : A} {n m : Nat} (h1 : Lay (f a) n) (h2 : Lay (f b) m) (hn : n ≤ 64) (hm : m ≤ 64) {S : Store} {d e : D} (hd : deref S d = f a) (hf : deref S e = f b) : oNe S d e = .ok (.bl (!decide (a = b))) S := by
  rw [oNe_fit (by rw [hd]; exact h1.fit hn) (by rw [hf]; exact h2.fit hm), hd, hf, he]
@[simp] theorem dr_cell (S : Store) (n : Nat) : deref S (.cell n) = match kSeqL (S[n]?) with
    | some ds => .lst ds
    | none => .cell n := by
  show (match seqL S (.cell n) with
    | some ds => D.lst ds
    | none => .cell n) = _
  rw [seqL_cell]
end Nl
/-! Q2: places and permutations -/
namespace Nl
open PySem Sm
theorem sel_range {A : Type} (l : List A) : sel l (List.range l.length) = l := by
  induction l with
  | nil => rfl
  | cons a l ih =>
    unfold sel at *
    rw [List.length_cons, List.range_succ_eq_map, List.filterMap_cons, List.filterMap_map]
    have : ((fun k => (a :: l)[k]?) ∘ Nat.succ) = fun k => l[k]? := by funext k; simp
    rw [this, ih]; rfl
theorem keep_perm {n i j : Nat} (h : i ≠ j) (hi : i < n) (hj : j < n) : (List.range n).Perm (i :: j :: keep n i j) := by
  have nd : (List.range n).Nodup := List.nodup_range
  have h1 := List.perm_cons_erase (List.mem_range.mpr hi)
  rw [nd.erase_eq_filter] at h1
  have nd2 : ((List.range n).filter (· != i)).Nodup := nd.filter (· != i)
  have h2 := List.perm_cons_erase (show j ∈ (List.range n).filter (· != i) by simp [hj]; exact fun e => h e.symm)
  rw [nd2.erase_eq_filter, List.filter_filter] at h2
  have e : (List.range n).filter (fun a => a != j && a != i) = keep n i j := by
    unfold keep
    congr 1
    funext q
    by_cases h1 : q = i <;> by_cases h2 : q = j <;> simp [h1, h2]
  rw [e] at h2
  exact h1.trans (h2.cons i)
theorem sel_perm {A : Type} {l : List A} {i j : Nat} {a b : A} (h : i ≠ j) (ha : l[i]? = some a) (hb : l[j]? = some b) : l.Perm (a :: b :: sel l (keep l.length i j)) := by
  have h1 := (keep_perm h (lt_of_get ha) (lt_of_get hb)).filterMap (fun k => l[k]?)
  have h2 : (List.range l.length).filterMap (fun k => l[k]?) = l := sel_range l
  rw [h2, List.filterMap_cons, ha, List.filterMap_cons, hb] at h1
  exact h1
theorem ins_perm {A : Type} (l : List A) (p : Nat) (a : A) : (ins l p a).Perm (a :: l) := by
  unfold ins
  rw [List.append_assoc]
  have : (l.take p ++ ([a] ++ l.drop p)).Perm (a :: (l.take p ++ l.drop p)) := List.perm_middle
  rwa [List.take_append_drop] at this
theorem set_perm {A : Type} {l : List A} {i : Nat} {a b : A} (h : l[i]? = some a) : (a :: l.set i b).Perm (b :: l) := by
  induction l generalizing i with
  | nil => simp at h
  | cons x l ih =>
    cases i with
    | zero => simp at h; subst h; exact List.Perm.swap _ _ _
    | succ i =>
      simp at h
      have := ih h
      exact ((List.Perm.swap _ _ _).trans (this.cons x)).trans (List.Perm.swap _ _ _)
/-- all of a loft's tips' number -/
def nts (l : List Hg) : Nat := (l.map Hg.nt).sum
theorem nts_perm {l m : List Hg} (h : l.Perm m) : nts l = nts m := (h.map Hg.nt).sum_nat
theorem nts_cons (h : Hg) (l : List Hg) : nts (h :: l) = h.nt + nts l := by simp [nts]
theorem nts_app (l m : List Hg) : nts (l ++ m) = nts l + nts m := by simp [nts]
theorem nts_mem {l : List Hg} {h : Hg} (m : h ∈ l) : h.nt ≤ nts l := by
  induction l with
  | nil => cases m
  | cons x l ih =>
    rw [nts_cons]
    rcases List.mem_cons.mp m with rfl | m
    · omega
    · have := ih m; omega
theorem nts_len (l : List Hg) : l.length ≤ nts l := by
  induction l with
  | nil => exact Nat.le_refl _
  | cons x l ih => rw [nts_cons, List.length_cons]; have := x.nt_pos; omega
theorem depth_nt (h : Hg) : h.depth < h.nt := by
  induction h with
  | tip _ _ _ => exact Nat.one_pos
  | knot k l r a b => simp only [Hg.nt_knot, Hg.depth]; have := l.nt_pos; have := r.nt_pos; omega
theorem nts_set {l : List Hg} {i : Nat} {a b : Hg} (h : l[i]? = some a) (e : a.nt = b.nt) : nts (l.set i b) = nts l := by
  have := nts_perm (set_perm (b := b) h)
  rw [nts_cons, nts_cons] at this; omega
end Nl
/-! P8: the law's loft, whole -/
namespace Nl
open PySem Sm
variable {T : Nat → Option Body}
theorem forV_cons {tg : List Nat} {body : MS} {d : List D} {ds : List (List D)} {ρ r : Sm.Env} {S S' : Store} (h : body (setAll tg d ρ) S = .ok (.nx r) S') : forV tg body (d :: ds) ρ S = forV tg body ds r S' := by
  show (match body (setAll tg d ρ) S with
    | .ok (.nx r) S2 => forV tg body ds r S2
    | .ok (.ct r) S2 => forV tg body ds r S2
    | .ok (.bk r) S2 => .ok (.nx r) S2
    | r => r) = _
  rw [h]
/-- a loop over a list, each turn goes on; the turn's number is known -/
theorem forV_idx {A St : Type} {tg : List Nat} {body : MS} (inj : A → D) (step : St → A → St) (xs : List A) (I : Nat → St → Sm.Env → Store → Prop)
    (h : ∀ i st x ρ S, xs[i]? = some x → I i st ρ S → ∃ r S', body (setAll tg [inj x] ρ) S = .ok (.nx r) S' ∧ I (i + 1) (step st x) r S') {st : St} {ρ : Sm.Env} {S : Store} (h0 : I 0 st ρ S) :
    ∃ r S', forV tg body (xs.map fun x => [inj x]) ρ S = .ok (.nx r) S' ∧ I xs.length (xs.foldl step st) r S' := by
  have key : ∀ (ys : List A) (i : Nat) (st : St) (ρ : Sm.Env) (S : Store), xs.drop i = ys → I i st ρ S → ∃ r S', forV tg body (ys.map fun x => [inj x]) ρ S = .ok (.nx r) S' ∧ I (i + ys.length) (ys.foldl step st) r S' := by
    intro ys
    induction ys with
    | nil => intro i st ρ S _ h0; exact ⟨ρ, S, rfl, h0⟩
    | cons y ys ih =>
      intro i st ρ S hd h0
      have e : xs[i]? = some y := by
        have := List.getElem?_drop (xs := xs) (i := i) (j := 0)
        rw [hd] at this; simpa using this.symm
      obtain ⟨r, S1, h1, h2⟩ := h i st y ρ S e h0
      have hd2 : xs.drop (i + 1) = ys := by rw [← List.drop_drop, hd]; rfl
      obtain ⟨r2, S2, h3, h4⟩ := ih (i + 1) (step st y) r S1 hd2 h2
      refine ⟨r2, S2, ?_, ?_⟩
      · rw [List.map_cons, forV_cons h1, h3]
      · rw [List.length_cons, List.foldl_cons, show i + (ys.length + 1) = i + 1 + ys.length by omega]; exact h4
  simpa using key xs 0 st ρ S rfl h0
theorem forV_z {A St : Type} {tg : List Nat} {body : MS} {inj : A → D} {xs : List A} {ρ : Sm.Env} {S : Store} {z : R Fl} (hz : forV tg body (xs.map fun x => [inj x]) ρ S = z) (step : St → A → St) (I : Nat → St → Sm.Env → Store → Prop) {st : St} (h0 : I 0 st ρ S)
    (h : ∀ i st x ρ S, xs[i]? = some x → I i st ρ S → ∃ r S', body (setAll tg [inj x] ρ) S = .ok (.nx r) S' ∧ I (i + 1) (step st x) r S') :
    ∃ r S', z = .ok (.nx r) S' ∧ I xs.length (xs.foldl step st) r S' := by
  obtain ⟨r, S', h1, h2⟩ := forV_idx inj step xs I h h0
  exact ⟨r, S', hz.symm.trans h1, h2⟩
/-! ### the steps -/
def Lo.step (good : Bool) (L : Lo) (x : Int) : Lo :=
  if x % 7 < 2 ∨ L.hs.length < 2 then L.cord x else if x % 7 = 6 ∧ (L.hs.getD (L.at (x / 7)) default).nt < 5 then L.splice x good else L.knot x good
structure Lo.Inv (n : Nat) (L : Lo) : Prop where
  m : L.ms.length = L.hs.length
  tot : nts L.hs ≤ 2 * n
  zs : L.sp.length ≤ n
  dsp : ∀ p ∈ L.sp, p.1.nt ≤ 4 ∧ p.2.nt ≤ 4
  fine : ∀ h ∈ L.hs, h.Fine
  fsp : ∀ p ∈ L.sp, p.1.Fine ∧ p.2.Fine
  bk : L.bk.Ok
  bn : L.bk.n ≤ 5 * n
theorem Lo.Inv.z {n : Nat} {L : Lo} (h : L.Inv n) : L.hs.length ≤ 2 * n := Nat.le_trans (nts_len _) h.tot
theorem Lo.Inv.nt {n : Nat} {L : Lo} (h : L.Inv n) : ∀ g ∈ L.hs, g.nt ≤ 2 * n := fun g hg => Nat.le_trans (nts_mem hg) h.tot
theorem Lo.Inv.dep {n : Nat} {L : Lo} (h : L.Inv n) : ∀ g ∈ L.hs, g.depth ≤ 2 * n := fun g hg => by have := h.nt g hg; have := depth_nt g; omega
theorem mem_ins {A : Type} {l : List A} {p : Nat} {a x : A} (h : x ∈ ins l p a) : x ∈ l ∨ x = a := by
  unfold ins at h
  simp at h
  rcases h with h | h | h
  · exact .inl (List.mem_of_mem_take h)
  · exact .inr h
  · exact .inl (List.mem_of_mem_drop h)
theorem mem_sel {A : Type} {l : List A} {ks : List Nat} {x : A} (h : x ∈ sel l ks) : x ∈ l := by
  unfold sel at h
  obtain ⟨k, _, hk⟩ := List.mem_filterMap.mp h
  exact List.mem_of_getElem? hk
theorem mem_getD {A : Type} {l : List A} {i : Nat} (h : i < l.length) (d : A) : l.getD i d ∈ l := List.mem_of_getElem? (getD_get h d)
theorem num_ok {b : Bk} (h : b.Ok) {k : Nat} (hk : k ≤ 1000) : 0 ≤ b.num k ∧ b.num k < 10 ^ 30 := by
  obtain ⟨⟨l1, l2⟩, s1, s2⟩ := h
  unfold Bk.num
  have f0 : 0 ≤ (k : Int) * 21 % 64 + 64 * ((k : Int) / 64) := by omega
  have f1 : (k : Int) * 21 % 64 + 64 * ((k : Int) / 64) ≤ 1063 := by omega
  generalize (k : Int) * 21 % 64 + 64 * ((k : Int) / 64) = f at *
  have m1 : 0 ≤ b.b1 * f := Int.mul_nonneg (Int.le_of_lt s1) f0
  have m2 : b.b1 * f ≤ 1000000007 * 1063 := Int.mul_le_mul s2 f1 f0 (by decide)
  generalize b.b1 * f = g at *
  constructor
  · omega
  · have : (10 : Int) ^ 30 = 10 * 10 ^ 29 := by decide
    omega
theorem fine_anew {b : Bk} (hb : b.Ok) : ∀ {h : Hg} {k : Nat}, h.Fine → k + h.nt ≤ 1000 → (h.anew b k).Fine
  | .tip d y n, k, p, hk => ⟨p.1, num_ok hb (by simp at hk; omega)⟩
  | .knot w l r, k, p, hk => by
    rw [Hg.nt_knot] at hk
    exact ⟨fine_anew hb p.1 (by omega), fine_anew hb p.2 (by omega)⟩
theorem fine_mir : ∀ {h : Hg}, h.Fine → h.mir.Fine
  | .tip d y n, p => p
  | .knot w l r, p => ⟨fine_mir p.1, fine_mir p.2⟩
theorem fine_ofmir : ∀ {h : Hg}, h.mir.Fine → h.Fine
  | .tip d y n, p => p
  | .knot w l r, p => ⟨fine_ofmir p.1, fine_ofmir p.2⟩
theorem Lo.Inv.cord {n : Nat} {L : Lo} (h : L.Inv n) (hn : n ≤ 100) (x : Int) : (L.cord x).Inv (n + 1) := by
  have nk := num_ok h.bk (k := L.bk.n) (by have := h.bn; omega)
  obtain ⟨m, tot, zs, dsp, fine, fsp, bk, bn⟩ := h
  refine ⟨by simp [Lo.cord, m], ?_, Nat.le_succ_of_le zs, dsp, fun h hh => ?_, fsp, ⟨bk.lo, bk.step⟩, by simp [Lo.cord, Bk.up]; omega⟩
  · simp only [Lo.cord, nts_app, nts_cons, Hg.nt_tip]
    simp [nts] at *; omega
  · simp [Lo.cord] at hh
    rcases hh with hh | rfl | rfl
    · exact fine h hh
    · exact ⟨dyeS_ok _, nk⟩
    · exact ⟨dyeS_ok _, nk⟩
theorem Lo.Inv.tie {n : Nat} {L : Lo} (h : L.Inv n) {i j : Nat} {w : Bool} {a b : Hg} (hij : i ≠ j) (ha : L.hs[i]? = some a) (hb : L.hs[j]? = some b) {mi mj spot : Int} : (L.tie i j (.knot w a b) mi mj spot).Inv n := by
  obtain ⟨m, tot, zs, dsp, fine, fsp, bk, bn⟩ := h
  have s1 : (sel L.hs (keep L.hs.length i j)).length = (keep L.hs.length i j).length := sel_len fun q hq => keep_lt hq
  have s2 : (sel L.ms (keep L.hs.length i j)).length = (keep L.hs.length i j).length := sel_len fun q hq => by rw [m]; exact keep_lt hq
  refine ⟨by simp [Lo.tie, ins_len, s1, s2], ?_, zs, dsp, fun h hh => ?_, fsp, bk, bn⟩
  · have h1 := nts_perm (sel_perm hij ha hb)
    have h2 := nts_perm (ins_perm (sel L.hs (keep L.hs.length i j)) (L.spot i j spot) (.knot w a b))
    simp only [nts_cons, Hg.nt_knot] at h1 h2
    simp only [Lo.tie]; omega
  · rcases mem_ins hh with q | rfl
    · exact fine h (mem_sel q)
    · exact ⟨fine _ (List.mem_of_getElem? ha), fine _ (List.mem_of_getElem? hb)⟩
theorem Lo.Inv.mono {n m : Nat} {L : Lo} (h : L.Inv n) (hm : n ≤ m) : L.Inv m :=
  ⟨h.m, Nat.le_trans h.tot (by omega), Nat.le_trans h.zs hm, h.dsp, h.fine, h.fsp, h.bk, Nat.le_trans h.bn (by omega)⟩
theorem Lo.Inv.knot {n : Nat} {L : Lo} (h : L.Inv n) (x : Int) (good : Bool) (h2 : 2 ≤ L.hs.length) : (L.knot x good).Inv n :=
  h.tie (Lo.at2_ne h2 x) (getD_get (Lo.at_lt (by omega) _).1 _) (getD_get (Lo.at2_lt (by omega) _) _)
theorem Lo.Inv.splice {n : Nat} {L : Lo} (h : L.Inv n) (hn : n ≤ 100) (x : Int) (good : Bool) (h2 : 1 ≤ L.hs.length) (h5 : (L.hs.getD (L.at (x / 7)) default).nt < 5) : (L.splice x good).Inv (n + 1) := by
  obtain ⟨m, tot, zs, dsp, fine, fsp, bk, bn⟩ := h
  have hi := (Lo.at_lt (L := L) (by omega) (x / 7)).1
  have gh := getD_get hi default
  unfold Lo.splice
  simp only
  generalize hh0 : L.hs.getD (L.at (x / 7)) default = h0 at *
  have fh := fine h0 (List.mem_of_getElem? gh)
  have ff : (h0.anew L.bk L.bk.n).Fine := fine_anew bk fh (by omega)
  have nf : (h0.anew L.bk L.bk.n).nt = h0.nt := Hg.nt_anew _ _ _
  generalize h0.anew L.bk L.bk.n = far at *
  have sl : (L.spl x far h0).length ≤ n + 1 ∧ (∀ p ∈ L.spl x far h0, p.1.nt ≤ 4 ∧ p.2.nt ≤ 4) ∧ ∀ p ∈ L.spl x far h0, p.1.Fine ∧ p.2.Fine := by
    unfold Lo.spl
    refine ⟨by rw [ins_len]; omega, fun p hp => ?_, fun p hp => ?_⟩
    · rcases mem_ins hp with q | rfl
      · exact dsp p q
      · split <;> simp only [Hg.nt_mir] <;> omega
    · rcases mem_ins hp with q | rfl
      · exact fsp p q
      · split
        · exact ⟨fine_mir ff, fh⟩
        · exact ⟨fh, fine_mir ff⟩
  have bn2 : (L.bk.up h0.nt).n ≤ 5 * (n + 1) := by simp only [Bk.up]; omega
  cases far with
  | tip d y k =>
    refine ⟨by simp [m], by rw [nts_set gh nf.symm]; omega, sl.1, sl.2.1, fun h hh => ?_, sl.2.2, ⟨bk.lo, bk.step⟩, bn2⟩
    rcases List.mem_or_eq_of_mem_set hh with q | rfl
    · exact fine h q
    · exact ff
  | knot w l r =>
    simp only
    split
    · refine ⟨by simp [ins_len, m], ?_, sl.1, sl.2.1, fun h hh => ?_, sl.2.2, ⟨bk.lo, bk.step⟩, bn2⟩
      · have h1 := nts_perm (ins_perm (L.hs.set (L.at (x / 7)) l) (L.at (x / 7) + 1) r)
        have h3 := nts_perm (set_perm (b := l) gh)
        simp only [nts_cons, Hg.nt_knot] at h1 h3 nf
        simp only; omega
      · rcases mem_ins hh with q | rfl
        · rcases List.mem_or_eq_of_mem_set q with q | rfl
          · exact fine h q
          · exact ff.1
        · exact ff.2
    · refine ⟨by simp [m], by rw [nts_set gh nf.symm]; omega, sl.1, sl.2.1, fun h hh => ?_, sl.2.2, ⟨bk.lo, bk.step⟩, bn2⟩
      rcases List.mem_or_eq_of_mem_set hh with q | rfl
      · exact fine h q
      · exact ff
theorem Lo.Inv.step {n : Nat} {L : Lo} (h : L.Inv n) (hn : n ≤ 100) (x : Int) (good : Bool) : (L.step good x).Inv (n + 1) := by
  unfold Lo.step
  split
  · exact h.cord hn x
  next q =>
    split
    · next z => exact h.splice hn x good (by omega) z.2
    · exact (h.knot x good (by omega)).mono (by omega)
theorem nt_size {h : Hg} (hd : h.nt ≤ 1000) : h.nt ≤ sizeLine := Nat.le_trans hd (by decide)
def cellsI (ns : List Int) (i j : Nat) : List Int := ((ns.take j).drop i).map stirI
def loft0 (ns : List Int) (first : Nat) : Lo := ⟨[], [], [], bookOf (cellI ns first)⟩
def loftL (ns : List Int) (first most : Nat) (good : Bool) : Lo := (cellsI ns (first + 1) (first + 1 + most)).foldl (Lo.step good) (loft0 ns first)
theorem fold_inv (good : Bool) : ∀ (xs : List Int) (n : Nat) (L : Lo), n + xs.length ≤ 100 → L.Inv n → (xs.foldl (Lo.step good) L).Inv (n + xs.length)
  | [], _, _, _, h => h
  | x :: xs, n, L, hl, h => by
    rw [List.length_cons] at hl
    rw [List.foldl_cons, List.length_cons, show n + (xs.length + 1) = n + 1 + xs.length by omega]
    exact fold_inv good xs (n + 1) _ (by omega) (h.step (by omega) x good)
theorem cellsI_len (ns : List Int) (i j : Nat) : (cellsI ns i j).length ≤ j - i := by
  unfold cellsI
  rw [List.length_map, List.length_drop, List.length_take]; omega
theorem loft0_inv (ns : List Int) (first : Nat) : (loft0 ns first).Inv 0 := ⟨rfl, by simp [loft0, nts], by simp [loft0], fun h hh => by simp [loft0] at hh, fun h hh => by simp [loft0] at hh, fun h hh => by simp [loft0] at hh, bookOf_ok _, by simp [loft0, bookOf]⟩
theorem loftL_inv (ns : List Int) (first most : Nat) (hm : most ≤ 60) (good : Bool) : (loftL ns first most good).Inv most := by
  have := cellsI_len ns (first + 1) (first + 1 + most)
  exact (fold_inv good _ 0 _ (by omega) (loft0_inv ns first)).mono (by omega)
/-! ### the loft -/
theorem e_loft (c : LoftFns T) (ns : List Int) (first most : Nat) (good : Bool) (hm : most ≤ 20) {N : Nat} (hN : 60 ≤ N) (S : Store) : ∃ S1 k a b d e, LAt S1 k a b d e (loftL ns first most good) ∧ Grow S [] S1 [k, a, b, d, e] ∧
    (good = false → ev T N f_l_loft [.scr ns, .int first, .int most, .bl good] S = .ok (.cell k) S1) ∧
    (∀ S2, ev T (N - 1) f_l_close [.cell k, .int (cellI ns first)] S1 = .ok .non S2 → good = true → ev T N f_l_loft [.scr ns, .int first, .int most, .bl good] S = .ok (.cell k) S2) := by
  obtain ⟨n, rfl, _⟩ := two_up 58 (N := N) hN
  rw [ev_s c.loft]
  have t1 : ∀ S, ev T (n + 1) f_l_cell [.scr ns, .int first] S = .ok (.int (cellI ns first)) S := fun S => e_cell c.stir c.cell ns first (by omega) S
  have t2 := fun S => e_book c.book (cellI ns first) (N := n + 1) (by omega) S
  have t3 : ∀ S, ev T (n + 1) f_l_cells [.scr ns, .int (first + 1), .int (first + 1 + most)] S = .ok (.lst ((cellsI ns (first + 1) (first + 1 + most)).map D.int)) S := fun S => e_cells c.stir c.cells ns (first + 1) (first + 1 + most) (N := n + 1) (by omega) S
  simp [step1, b_l_loft, t1, t2]
  rw [for_src (src := [.lst ((cellsI ns (first + 1) (first + 1 + most)).map D.int)]) (by simp [t3]; rfl) (fun S => itA_lst _ S), ones_map]
  have cl := cellsI_len ns (first + 1) (first + 1 + most)
  generalize hS0 : S ++ [_, _, _, _, _] = S0
  have l0 : LAt S0 (S.length + 4) S.length (S.length + 1) (S.length + 2) (S.length + 3) (loft0 ns first) := by
    subst hS0
    refine ⟨?_, ?_, ?_, ?_, ?_, by simp⟩ <;> simp [loft0]
  have g0 : Grow S [] S0 [S.length + 4, S.length, S.length + 1, S.length + 2, S.length + 3] := by
    subst hS0
    refine ⟨by simp, fun j hj _ => List.getElem?_append_left hj, fun j hj => ?_⟩
    simp at hj; omega
  generalize hxs : cellsI ns (first + 1) (first + 1 + most) = xs at *
  generalize hz : forV [5] _ _ _ _ = z
  obtain ⟨r, S1, h1, iv, ⟨o, rfl⟩, a, b, l1, g1⟩ := forV_z hz (Lo.step good) (fun i L ρ S1 => L.Inv i ∧ (∃ o, ρ = [some (.scr ns), some (.int first), some (.int most), some (.bl good), some (.cell (S.length + 4)), o]) ∧
      ∃ a b, LAt S1 (S.length + 4) a b (S.length + 2) (S.length + 3) L ∧ Grow S [] S1 [S.length + 4, a, b, S.length + 2, S.length + 3]) (st := loft0 ns first) ⟨loft0_inv ns first, ⟨none, rfl⟩, _, _, l0, g0⟩
    (by
      rintro i L x ρ S1 hx ⟨iv, ⟨o, rfl⟩, a, b, l, g⟩
      have hi := lt_of_get hx
      have z := iv.z
      have mm := iv.m
      have sp := iv.zs
      have iv2 := iv.step (by omega) x good
      by_cases q1 : x % 7 < 2 ∨ L.hs.length < 2
      · obtain ⟨S', e1, l', g'⟩ := e_add_cord c l iv.bk (by omega) (by omega) x (N := n + 1) (by omega)
        refine ⟨[some (.scr ns), some (.int first), some (.int most), some (.bl good), some (.cell (S.length + 4)), some (.int x)], S', ?_, iv2, ⟨_, rfl⟩, a, b, by unfold Lo.step; rw [if_pos q1]; exact l', g.trans g'⟩
        by_cases q2 : x % 7 < 2
        · simp [setAll, q2, e1]
        · have q3 : (L.hs.length : Int) < 2 := by omega
          simp [setAll, q2, q3, e1, l.hk, l.ha]
      · have q2 : ¬ x % 7 < 2 := by omega
        have q3 : ¬ (L.hs.length : Int) < 2 := by omega
        have q4 : 0 < L.hs.length := by omega
        have pi := Lo.at_lt (L := L) q4 (x / 7)
        obtain ⟨h, gh, eh⟩ : ∃ h, L.hs[L.at (x / 7)]? = some h ∧ L.hs.getD (L.at (x / 7)) default = h := ⟨_, getD_get pi.1 default, rfl⟩
        have hh := List.mem_of_getElem? gh
        have dh := iv.dep h hh
        have nh := iv.nt h hh
        have t4 := e_l_tips c.is_tip c.tips h (N := n + 1) (by omega) (nt_size (by omega)) S1
        by_cases q5 : x % 7 = 6
        · by_cases q6 : h.nt < 5
          · obtain ⟨S', e1, l', g'⟩ := e_add_splice c l iv.bk (by omega) (by omega) iv.m (by omega) x good (D0 := 2 * i) iv.dep (N := n + 1) (by omega)
            refine ⟨[some (.scr ns), some (.int first), some (.int most), some (.bl good), some (.cell (S.length + 4)), some (.int x)], S', ?_, iv2, ⟨_, rfl⟩, a, b, by unfold Lo.step; rw [if_neg q1, eh, if_pos ⟨q5, q6⟩]; exact l', g.trans g'⟩
            have q6 : (h.tips.length : Int) < 5 := by unfold Hg.nt at q6; omega
            simp [setAll, q2, q3, q4, q5, q6, e1, l.hk, l.ha, pi.2, gh, t4, ofL]
          · obtain ⟨S', e1, a', b', l', g'⟩ := e_add_knot c l (by omega) iv.m (by omega) x good (N := n + 1) (by omega)
            refine ⟨[some (.scr ns), some (.int first), some (.int most), some (.bl good), some (.cell (S.length + 4)), some (.int x)], S', ?_, iv2, ⟨_, rfl⟩, a', b', by unfold Lo.step; rw [if_neg q1, eh, if_neg (fun z => q6 z.2)]; exact l', g.trans g'⟩
            have q6 : ¬ (h.tips.length : Int) < 5 := by unfold Hg.nt at q6; omega
            simp [setAll, q2, q3, q4, q5, q6, e1, l.hk, l.ha, pi.2, gh, t4, ofL]
        · obtain ⟨S', e1, a', b', l', g'⟩ := e_add_knot c l (by omega) iv.m (by omega) x good (N := n + 1) (by omega)
          refine ⟨[some (.scr ns), some (.int first), some (.int most), some (.bl good), some (.cell (S.length + 4)), some (.int x)], S', ?_, iv2, ⟨_, rfl⟩, a', b', by unfold Lo.step; rw [if_neg q1, eh, if_neg (fun z => q5 z.1)]; exact l', g.trans g'⟩
          simp [setAll, q2, q3, q4, q5, e1, l.hk, l.ha, pi.2, gh, t4, ofL])
  subst h1
  refine ⟨S1, S.length + 4, a, b, _, _, ?_, g1, fun hg => ?_, fun S2 h2 hg => ?_⟩
  · have e : xs.foldl (Lo.step good) (loft0 ns first) = loftL ns first most good := by unfold loftL; rw [hxs]
    rw [← e]; exact l1
  · subst hg; simp
  · subst hg; simp [t1, h2]
end Nl
/-! R1: the laws' defs about hangs -/
namespace Nl
open PySem Sm
variable {T : Nat → Option Body}
theorem e_l_whole (c : T f_l_whole = some b_l_whole) (i : Int) {N : Nat} (hN : 2 ≤ N) (S : Store) : ev T N f_l_whole [.int i] S = .ok (.bl true) S := by
  obtain ⟨n, rfl, _⟩ := two_up 0 (N := N) hN
  rw [ev_s c]
  simp [step1, b_l_whole]
theorem e_l_truth (c : T f_l_truth = some b_l_truth) (i j : Bool) {N : Nat} (hN : 2 ≤ N) (S : Store) : ev T N f_l_truth [.bl i, .bl j] S = .ok (.bl (decide (i = j))) S := by
  obtain ⟨n, rfl, _⟩ := two_up 0 (N := N) hN
  rw [ev_s c]
  simp [step1, b_l_truth]
theorem e_l_hang (c0 : T f_l_whole = some b_l_whole) (c : T f_l_hang = some b_l_hang) : ∀ (h : Hg) {N : Nat} (_ : h.depth + 3 ≤ N) (S : Store), ev T N f_l_hang [ofH h] S = .ok (.bl true) S
  | .tip d y k, N, hN, S => by
    obtain ⟨n, rfl, _⟩ := two_up 1 (N := N) (by omega)
    have t1 := e_l_whole c0 k (N := n + 1) (by omega) S
    rw [ev_s c]
    cases d <;> simp [step1, b_l_hang, t1]
  | .knot k l r, N, hN, S => by
    obtain ⟨n, rfl, hl, hr, _⟩ := dl 2 hN (by omega)
    have h1 := e_l_hang c0 c l (N := n + 1) (by omega) S
    have h2 := e_l_hang c0 c r (N := n + 1) (by omega) S
    rw [ev_s c]
    cases k <;> simp [step1, b_l_hang, h1, h2]
theorem e_l_bare (c0 : T f_l_is_tip = some b_l_is_tip) (c : T f_l_bare = some b_l_bare) : ∀ (h : Hg) {N : Nat} (_ : h.depth + 3 ≤ N) (S : Store), ev T N f_l_bare [ofH h] S = .ok (ofH h.bare) S
  | .tip d y k, N, hN, S => by
    obtain ⟨n, rfl, _⟩ := two_up 1 (N := N) (by omega)
    have t1 := e_l_is_tip c0 (.tip d y k) (N := n + 1) (by omega) S
    rw [ev_s c]
    simp at t1
    simp [step1, b_l_bare, t1, Hg.isTip, Hg.bare]
  | .knot k l r, N, hN, S => by
    obtain ⟨n, rfl, hl, hr, _⟩ := dl 2 hN (by omega)
    have t1 := e_l_is_tip c0 (.knot k l r) (N := n + 1) (by omega) S
    have h1 := e_l_bare c0 c l (N := n + 1) (by omega) S
    have h2 := e_l_bare c0 c r (N := n + 1) (by omega) S
    rw [ev_s c]
    simp at t1
    simp [step1, b_l_bare, t1, h1, h2, Hg.isTip, Hg.bare]
def Hg.mk : Hg → Nat
  | .tip _ _ _ => 0
  | .knot _ l r => 1 + l.mk + r.mk
theorem e_l_many_knots (c0 : T f_l_is_tip = some b_l_is_tip) (c : T f_l_many_knots = some b_l_many_knots) : ∀ (h : Hg) {N : Nat} (_ : h.depth + 3 ≤ N) (S : Store), ev T N f_l_many_knots [ofH h] S = .ok (.int h.mk) S
  | .tip d y k, N, hN, S => by
    obtain ⟨n, rfl, _⟩ := two_up 1 (N := N) (by omega)
    have t1 := e_l_is_tip c0 (.tip d y k) (N := n + 1) (by omega) S
    rw [ev_s c]
    simp at t1
    simp [step1, b_l_many_knots, t1, Hg.isTip, Hg.mk]
  | .knot k l r, N, hN, S => by
    obtain ⟨n, rfl, hl, hr, _⟩ := dl 2 hN (by omega)
    have t1 := e_l_is_tip c0 (.knot k l r) (N := n + 1) (by omega) S
    have h1 := e_l_many_knots c0 c l (N := n + 1) (by omega) S
    have h2 := e_l_many_knots c0 c r (N := n + 1) (by omega) S
    rw [ev_s c]
    simp at t1
    simp [step1, b_l_many_knots, t1, h1, h2, Hg.isTip, Hg.mk]
def Hg.turn : Hg → Int → Hg
  | .tip d y n, _ => .tip d y n
  | .knot k l r, i => if i < 0 ∨ ((Hg.knot k l r).mk : Int) ≤ i then .knot k l r else if i = 0 then .knot (!k) l r else .knot k (l.turn (i - 1)) (r.turn (i - 1 - l.mk))
theorem mk5 : L2.valV (L2.mergeK [] [(.inr "fast", .str "loose"), (.inr "loose", .str "fast")]) (.inr "fast") = some (.str "loose") := by decide +kernel
theorem mk6 : L2.valV (L2.mergeK [] [(.inr "fast", .str "loose"), (.inr "loose", .str "fast")]) (.inr "loose") = some (.str "fast") := by decide +kernel
theorem e_l_turned (c0 : T f_l_is_tip = some b_l_is_tip) (c1 : T f_l_many_knots = some b_l_many_knots) (c : T f_l_turned = some b_l_turned) : ∀ (h : Hg) (i : Int) {N : Nat} (_ : h.depth + 4 ≤ N) (S : Store), ev T N f_l_turned [ofH h, .int i] S = .ok (ofH (h.turn i)) S
  | .tip d y k, i, N, hN, S => by
    obtain ⟨n, rfl, _⟩ := two_up 2 (N := N) (by omega)
    have t1 := e_l_many_knots c0 c1 (.tip d y k) (N := n + 1) (by simp [Hg.depth]; omega) S
    rw [ev_s c]
    simp [Hg.mk] at t1
    by_cases q1 : i < 0
    · simp [step1, b_l_turned, q1, Hg.turn]
    · have q2 : 0 ≤ i := by omega
      simp [step1, b_l_turned, q1, q2, t1, Hg.turn]
  | .knot k l r, i, N, hN, S => by
    obtain ⟨n, rfl, hl, hr, _⟩ := dl 3 hN (by omega)
    have t1 := e_l_many_knots c0 c1 (.knot k l r) (N := n + 1) (by simp only [Hg.depth] at *; omega) S
    have t2 := e_l_many_knots c0 c1 l (N := n + 1) (by omega) S
    have h1 := e_l_turned c0 c1 c l (i - 1) (N := n + 1) (by omega) S
    have h2 := e_l_turned c0 c1 c r (i - 1 - l.mk) (N := n + 1) (by omega) S
    rw [ev_s c]
    rw [ofH_k] at t1
    by_cases q1 : i < 0
    · simp [step1, b_l_turned, q1, Hg.turn]
    · by_cases q2 : ((Hg.knot k l r).mk : Int) ≤ i
      · simp [step1, b_l_turned, q1, q2, t1, Hg.turn]
      · by_cases q3 : i = 0
        · have q4 : ∀ k, ¬ (Hg.knot k l r).mk = 0 := fun k => by simp only [Hg.mk]; omega
          subst q3; cases k <;> simp at t1 <;> simp [step1, b_l_turned, q4, t1, Hg.turn, oDisp, keyOf, mk5, mk6]
        · simp [step1, b_l_turned, q1, q2, q3, t1, t2, h1, h2, Hg.turn]
def Hg.withTip : Hg → Int → Hg → Hg
  | .tip _ _ _, _, g => g
  | .knot k l r, i, g => if i < l.nt then .knot k (l.withTip i g) r else .knot k l (r.withTip (i - l.nt) g)
theorem e_l_with_tip (c0 : T f_l_is_tip = some b_l_is_tip) (c1 : T f_l_tips = some b_l_tips) (c : T f_l_with_tip = some b_l_with_tip) (g : Hg) : ∀ (h : Hg) (i : Int) {N : Nat} (_ : h.depth + 4 ≤ N) (_ : h.nt ≤ sizeLine) (S : Store), ev T N f_l_with_tip [ofH h, .int i, ofH g] S = .ok (ofH (h.withTip i g)) S
  | .tip d y k, i, N, hN, _, S => by
    obtain ⟨n, rfl, _⟩ := two_up 2 (N := N) (by omega)
    have t1 := e_l_is_tip c0 (.tip d y k) (N := n + 1) (by omega) S
    rw [ev_s c]
    simp at t1
    simp [step1, b_l_with_tip, t1, Hg.isTip, Hg.withTip]
  | .knot k l r, i, N, hN, hz, S => by
    obtain ⟨n, rfl, hl, hr, _⟩ := dl 3 hN (by omega)
    rw [Hg.nt_knot] at hz
    have t1 := e_l_is_tip c0 (.knot k l r) (N := n + 1) (by omega) S
    have t2 := e_l_tips c0 c1 l (N := n + 1) (by omega) (by omega) S
    have h1 := e_l_with_tip c0 c1 c g l i (N := n + 1) (by omega) (by omega) S
    have h2 := e_l_with_tip c0 c1 c g r (i - l.tips.length) (N := n + 1) (by omega) (by omega) S
    rw [ev_s c]
    simp at t1
    by_cases q1 : i < (l.tips.length : Int)
    · have q2 : i < (l.nt : Int) := q1
      simp [step1, b_l_with_tip, t1, t2, ofL, h1, h2, q1, q2, Hg.isTip, Hg.withTip]
    · have q2 : ¬ i < (l.nt : Int) := q1
      simp [step1, b_l_with_tip, t1, t2, ofL, h1, h2, q1, q2, Hg.isTip, Hg.withTip]
      simp [Hg.nt]
/-- the dye of a spoiled tip -/
def dyeK (y : Str) : Str := if 19 < y.length then ⟨(y.cps.toList.take 19).toArray⟩ else y ++ Str.ofString "k"
theorem dyeK_ok {y : Str} (h : IsDye y) : IsDye (dyeK y) := by
  obtain ⟨h1, h2, h3⟩ := h
  unfold dyeK
  split
  · next q =>
    have e : (⟨(y.cps.toList.take 19).toArray⟩ : Str).length = min 19 y.length := by simp [Str.length]
    refine ⟨by omega, by omega, fun x hx => h3 x ?_⟩
    rw [List.toList_toArray] at hx
    exact List.mem_of_mem_take hx
  · next q =>
    have ek : (Str.ofString "k").cps = #[107] := by decide +kernel
    have e : (y ++ Str.ofString "k").cps = y.cps ++ #[107] := by rw [← ek]; rfl
    have e1 : (y ++ Str.ofString "k").length = y.length + 1 := by
      show (y ++ Str.ofString "k").cps.size = _
      rw [e]; simp [Str.length]
    refine ⟨by omega, by omega, fun x hx => ?_⟩
    rw [e] at hx
    simp at hx
    rcases hx with hx | rfl
    · exact h3 x (by simpa using hx)
    · omega
theorem cutS_D (z : Str) (lo hi : Option Int) : L2.cutS z lo hi = ⟨(cutD z.cps.toList lo hi).toArray⟩ := by
  unfold L2.cutS cutD
  rfl
structure SpoilFns (T : Nat → Option Body) : Prop where
  is_tip : T f_l_is_tip = some b_l_is_tip
  tips : T f_l_tips = some b_l_tips
  mirror : T f_l_mirror = some b_l_mirror
  many_knots : T f_l_many_knots = some b_l_many_knots
  turned : T f_l_turned = some b_l_turned
  with_tip : T f_l_with_tip = some b_l_with_tip
  spoiled : T f_l_spoiled = some b_l_spoiled
/-- a spoiled hang: by the mode, at the tip -/
def Hg.spoil (h : Hg) (mode cell : Int) : Hg :=
  let i := (cell % (h.nt : Int)).toNat
  let t := h.tips.getD i default
  if mode = 1 then h.withTip i t.mir
  else if mode = 2 then h.withTip i (match t with
    | .tip d y n => .tip d (dyeK y) n
    | g => g)
  else if mode = 3 then h.withTip i (.knot (decide (cell / 64 % 2 = 1)) t t)
  else if mode = 4 then h.turn (cell % ((h.mk : Int) + 1))
  else h
theorem tips_tip : ∀ {h g : Hg}, g ∈ h.tips → ∃ d y n, g = .tip d y n
  | .tip d y n, g, m => by simp [Hg.tips] at m; exact ⟨d, y, n, m⟩
  | .knot k l r, g, m => by
    simp [Hg.tips] at m
    rcases m with m | m
    · exact tips_tip m
    · exact tips_tip m
theorem fine_tips : ∀ {h g : Hg}, h.Fine → g ∈ h.tips → g.Fine
  | .tip d y n, g, p, m => by simp [Hg.tips] at m; subst m; exact p
  | .knot k l r, g, p, m => by
    simp [Hg.tips] at m
    rcases m with m | m
    · exact fine_tips p.1 m
    · exact fine_tips p.2 m
theorem fine_withTip {g : Hg} (pg : g.Fine) : ∀ {h : Hg} {i : Int}, h.Fine → (h.withTip i g).Fine
  | .tip d y n, i, p => pg
  | .knot k l r, i, p => by
    unfold Hg.withTip
    split
    · exact ⟨fine_withTip pg p.1, p.2⟩
    · exact ⟨p.1, fine_withTip pg p.2⟩
theorem fine_turn : ∀ {h : Hg} {i : Int}, h.Fine → (h.turn i).Fine
  | .tip d y n, i, p => p
  | .knot k l r, i, p => by
    unfold Hg.turn
    split
    · exact p
    split
    · exact p
    · exact ⟨fine_turn p.1, fine_turn p.2⟩
theorem depth_withTip {g : Hg} (pg : g.depth ≤ 1) : ∀ {h : Hg} {i : Int}, (h.withTip i g).depth ≤ h.depth + 1
  | .tip d y n, i => by simp only [Hg.withTip, Hg.depth]; omega
  | .knot k l r, i => by
    unfold Hg.withTip
    have h1 := depth_withTip pg (h := l) (i := i)
    have h2 := depth_withTip pg (h := r) (i := i - l.nt)
    split <;> simp only [Hg.depth] <;> omega
theorem depth_turn : ∀ {h : Hg} {i : Int}, (h.turn i).depth = h.depth
  | .tip d y n, i => rfl
  | .knot k l r, i => by
    unfold Hg.turn
    split
    · rfl
    split
    · rfl
    · simp only [Hg.depth, depth_turn (h := l), depth_turn (h := r)]
theorem e_l_spoiled (c : SpoilFns T) (h : Hg) (hf : h.Fine) (mode cell : Int) {N : Nat} (hN : h.depth + 5 ≤ N) (hz : h.nt ≤ sizeLine) (S : Store) : ev T N f_l_spoiled [ofH h, .int mode, .int cell] S = .ok (ofH (h.spoil mode cell)) S := by
  obtain ⟨n, rfl, _⟩ := two_up 3 (N := N) (by omega)
  have np := h.nt_pos
  have z0 : 0 < h.tips.length := np
  have t1 := e_l_tips c.is_tip c.tips h (N := n + 1) (by omega) hz S
  have i0 : 0 ≤ cell % (h.nt : Int) := Int.emod_nonneg _ (by omega)
  have i1 : cell % (h.nt : Int) < h.nt := Int.emod_lt_of_pos _ (by omega)
  have ei : cell % (h.tips.length : Int) = ((cell % (h.nt : Int)).toNat : Int) := by rw [Int.toNat_of_nonneg i0]; rfl
  have gi : (cell % (h.nt : Int)).toNat < h.tips.length := by show _ < h.nt; omega
  obtain ⟨t, gt, et⟩ : ∃ t, h.tips[(cell % (h.nt : Int)).toNat]? = some t ∧ h.tips.getD (cell % (h.nt : Int)).toNat default = t := ⟨_, getD_get gi default, rfl⟩
  have mt := List.mem_of_getElem? gt
  obtain ⟨d, y, k, rfl⟩ := tips_tip mt
  have ft := fine_tips hf mt
  have t3 := e_l_many_knots c.is_tip c.many_knots h (N := n + 1) (by omega) S
  have wt := fun g => e_l_with_tip c.is_tip c.tips c.with_tip g h (cell % (h.nt : Int)).toNat (N := n + 1) (by omega) hz S
  have tm := e_l_mirror c.is_tip c.mirror (.tip d y k) (N := n + 1) (by simp [Hg.depth]; omega) S
  have tt := e_l_turned c.is_tip c.many_knots c.turned h (cell % ((h.mk : Int) + 1)) (N := n + 1) (by omega) S
  have m0 : (0 : Int) < (h.mk : Int) + 1 := by omega
  rw [ev_s c.spoiled]
  unfold Hg.spoil
  simp only [et]
  generalize (cell % (h.nt : Int)).toNat = i at *
  by_cases q1 : mode = 1
  · have := wt (Hg.tip d y k).mir
    simp [Hg.mir] at this
    simp at tm
    simp [step1, b_l_spoiled, q1, t1, z0, ei, gt, ofL, tm, this, Hg.mir]
  by_cases q2 : mode = 2
  · have yl : y.length ≤ sizeLine := Nat.le_trans ft.1.2.1 (by decide)
    have kl : (Str.ofString "k").length = 1 := by decide +kernel
    have yl2 : y.length + 1 ≤ sizeLine := Nat.le_trans (Nat.succ_le_succ ft.1.2.1) (by decide)
    have := wt (Hg.tip d (dyeK y) k)
    simp at this
    by_cases q3 : (19 : Int) < (y.length : Int)
    · have q4 : 19 < y.length := by omega
      have e : L2.cutS y none (some 19) = dyeK y := by
        unfold dyeK
        rw [if_pos q4, cutS_D]
        have := cutD_to y.cps.toList 19
        simp at this
        rw [this]
      simp [step1, b_l_spoiled, q2, t1, z0, ei, gt, ofL, yl, yl2, kl, q3, e, this]
    · have q4 : ¬ 19 < y.length := by omega
      have e : y ++ Str.ofString "k" = dyeK y := by unfold dyeK; rw [if_neg q4]
      simp [step1, b_l_spoiled, q2, t1, z0, ei, gt, ofL, yl, yl2, kl, q3, e, this]
  by_cases q3 : mode = 3
  · have w := wt (Hg.knot (decide (cell / 64 % 2 = 1)) (.tip d y k) (.tip d y k))
    have q4 : cell / 64 % 2 = 0 ∨ cell / 64 % 2 = 1 := by omega
    rcases q4 with q4 | q4
    · simp [q4] at w
      simp [step1, b_l_spoiled, q3, t1, z0, ei, gt, ofL, q4, w]
    · simp [q4] at w
      simp [step1, b_l_spoiled, q3, t1, z0, ei, gt, ofL, q4, w]
  by_cases q4 : mode = 4
  · simp [step1, b_l_spoiled, q4, t1, z0, ei, gt, ofL, t3, m0, tt]
  · simp [step1, b_l_spoiled, q1, q2, q3, q4, t1, z0, ei, gt, ofL]

theorem deref_H (S : Store) (h : Hg) : deref S (ofH h) = ofH h := by cases h <;> rfl
theorem fine_spoil {h : Hg} (hf : h.Fine) (mode cell : Int) : (h.spoil mode cell).Fine := by
  have np := h.nt_pos
  have i0 : 0 ≤ cell % (h.nt : Int) := Int.emod_nonneg _ (by omega)
  have i1 : cell % (h.nt : Int) < h.nt := Int.emod_lt_of_pos _ (by omega)
  have gi : (cell % (h.nt : Int)).toNat < h.tips.length := by show _ < h.nt; omega
  have mt := mem_getD gi default
  have ft := fine_tips hf mt
  obtain ⟨d, y, k, e⟩ := tips_tip mt
  unfold Hg.spoil
  simp only
  rw [e] at ft ⊢
  split
  · exact fine_withTip (fine_mir ft) hf
  split
  · exact fine_withTip (show (Hg.tip d (dyeK y) k).Fine from ⟨dyeK_ok ft.1, ft.2⟩) hf
  split
  · exact fine_withTip (show (Hg.knot _ (.tip d y k) (.tip d y k)).Fine from ⟨ft, ft⟩) hf
  split
  · exact fine_turn hf
  · exact hf
theorem depth_spoil {h : Hg} (mode cell : Int) : (h.spoil mode cell).depth ≤ h.depth + 1 := by
  have np := h.nt_pos
  have i0 : 0 ≤ cell % (h.nt : Int) := Int.emod_nonneg _ (by omega)
  have i1 : cell % (h.nt : Int) < h.nt := Int.emod_lt_of_pos _ (by omega)
  have gi : (cell % (h.nt : Int)).toNat < h.tips.length := by show _ < h.nt; omega
  obtain ⟨d, y, k, e⟩ := tips_tip (mem_getD gi default)
  unfold Hg.spoil
  simp only
  rw [e]
  split
  · exact depth_withTip (by simp [Hg.mir, Hg.depth])
  split
  · exact depth_withTip (by simp [Hg.depth])
  split
  · exact depth_withTip (by simp [Hg.depth])
  split
  · rw [depth_turn]; omega
  · omega
theorem fine_bare : ∀ {h : Hg}, h.Fine → h.bare.Fine
  | .tip d y n, p => ⟨p.1, by decide, by decide⟩
  | .knot k l r, p => ⟨fine_bare p.1, fine_bare p.2⟩
theorem depth_bare : ∀ {h : Hg}, h.bare.depth = h.depth
  | .tip d y n => rfl
  | .knot k l r => by simp [Hg.bare, Hg.depth, depth_bare (h := l), depth_bare (h := r)]
theorem bare_mir : ∀ (h : Hg), h.mir.bare = h.bare.mir
  | .tip d y n => rfl
  | .knot k l r => by simp [Hg.bare, Hg.mir, bare_mir l, bare_mir r]
theorem mirs_self (h : Hg) : h.mirs h = false := by
  cases h <;> simp [Hg.mirs]
theorem mirs_symm (h g : Hg) : h.mirs g = g.mirs h := by
  rw [Hg.mirs_bare, Hg.mirs_bare]
  have : (h.mir.bare = g.bare) ↔ (g.mir.bare = h.bare) := by
    constructor
    · intro e; rw [bare_mir, ← e, bare_mir, Hg.mir_mir]
    · intro e; rw [bare_mir, ← e, bare_mir, Hg.mir_mir]
  simp [this]
end Nl
/-! R2: loops; the loft closed; two knots turned; three ways to a loft -/
namespace Nl
open PySem Sm
variable {T : Nat → Option Body}
/-! ### loops -/
theorem for_srcL {args : ML} {items : List D → Store → Option (List (List D))} {tg : List Nat} {body : MS} {ρ : Sm.Env} {S S1 : Store} {src : List D} {its : List (List D)} (h : args ρ S = .ok src S1) (hi : items src S1 = some its) :
    sFor args items tg body ρ S = forL (items src) its tg body its ρ S1 := by
  unfold sFor
  rw [h, bind_ok]
  simp only [hi]
open Classical in
theorem forL_z {A : Type} {items : Store → Option (List (List D))} {its : List (List D)} {tg : List Nat} {body : MS} {ρ : Sm.Env} {S : Store} {z : R Fl} (hz : forL items its tg body its ρ S = z) (inj : A → List D) (xs : List A) (hx : its = xs.map inj) (I : Nat → Sm.Env → Store → Prop)
    (h0 : I 0 ρ S) (hi : ∀ i ρ S, I i ρ S → items S = some its) (h : ∀ i x ρ S, xs[i]? = some x → I i ρ S → ∃ r S', body (setAll tg (inj x) ρ) S = .ok (.nx r) S' ∧ I (i + 1) r S') : ∃ r S', z = .ok (.nx r) S' ∧ I xs.length r S' := by
  have key : ∀ (ys : List A) (i : Nat) (ρ : Sm.Env) (S : Store), xs.drop i = ys → I i ρ S → ∃ r S', forL items its tg body (ys.map inj) ρ S = .ok (.nx r) S' ∧ I (i + ys.length) r S' := by
    intro ys
    induction ys with
    | nil =>
      intro i ρ S _ h0
      refine ⟨ρ, S, ?_, h0⟩
      rw [List.map_nil]; unfold forL; rw [if_pos (hi _ _ _ h0)]
    | cons y ys ih =>
      intro i ρ S hd h0
      have e : xs[i]? = some y := by
        have := List.getElem?_drop (xs := xs) (i := i) (j := 0)
        rw [hd] at this; simpa using this.symm
      obtain ⟨r, S1, h1, h2⟩ := h i y ρ S e h0
      have hd2 : xs.drop (i + 1) = ys := by rw [← List.drop_drop, hd]; rfl
      obtain ⟨r2, S2, h3, h4⟩ := ih (i + 1) r S1 hd2 h2
      refine ⟨r2, S2, ?_, ?_⟩
      · rw [List.map_cons]; unfold forL
        rw [if_pos (hi _ _ _ h0), h1]
        exact h3
      · rw [List.length_cons, show i + (ys.length + 1) = i + 1 + ys.length by omega]; exact h4
  obtain ⟨r, S', h1, h2⟩ := key xs 0 ρ S rfl h0
  refine ⟨r, S', ?_, by simpa using h2⟩
  rw [← hz]
  rw [← hx] at h1
  exact h1
theorem while_z {c : ME} {b : MS} {fuel : Nat} {ρ : Sm.Env} {S : Store} {z : R Fl} (hz : whileN c b fuel ρ S = z) (I : Nat → Sm.Env → Store → Prop) (P : Sm.Env → Store → Prop) {m : Nat} (hm : m < fuel) (h0 : I m ρ S)
    (h : ∀ m ρ S, I m ρ S → (∃ S1, c ρ S = .ok (.bl false) S1 ∧ P ρ S1) ∨ (∃ S1 r S2 m', c ρ S = .ok (.bl true) S1 ∧ b ρ S1 = .ok (.nx r) S2 ∧ m' < m ∧ I m' r S2)) : ∃ r S', z = .ok (.nx r) S' ∧ P r S' := by
  subst hz
  induction fuel generalizing m ρ S with
  | zero => omega
  | succ k ih =>
    rcases h m ρ S h0 with ⟨S1, h1, h2⟩ | ⟨S1, r, S2, m', h1, h2, h3, h4⟩
    · refine ⟨ρ, S1, ?_, h2⟩
      unfold whileN
      rw [h1]; rfl
    · obtain ⟨r2, S3, h5, h6⟩ := ih (by omega) h4
      refine ⟨r2, S3, ?_, h6⟩
      unfold whileN
      rw [h1]
      simp only [bind_ok, h2]
      exact h5
theorem enum_map {A : Type} (f : A → D) : ∀ (l : List A) (k : Nat), enumFrom k (l.map f) = (l.zipIdx k).map fun p => [D.int p.2, f p.1]
  | [], _ => rfl
  | a :: l, k => by rw [List.map_cons, List.zipIdx_cons, List.map_cons, ← enum_map f l (k + 1)]; rfl
theorem zip_at {A : Type} {l : List A} {i : Nat} {p : A × Nat} (h : l.zipIdx[i]? = some p) : l[i]? = some p.1 ∧ p.2 = i := by
  rw [List.getElem?_zipIdx] at h
  cases q : l[i]? with
  | none => rw [q] at h; cases h
  | some a => rw [q] at h; cases h; simp
@[simp] theorem itE_lst (ds : List D) (S : Store) : itemsE [.lst ds] S = some (enumFrom 0 ds) := rfl
@[simp] theorem itE_cell (n : Nat) (S : Store) : itemsE [.cell n] S = (kSeqL (S[n]?)).map (enumFrom 0) := by rw [← seqL_cell]; rfl
/-! ### the loft closed -/
structure Kept (Pr : Lo → Prop) : Prop where
  cord : ∀ L x, Pr L → Pr (L.cord x)
  tie : ∀ L i j a b mi mj spot, Pr L → i ≠ j → L.hs[i]? = some a → L.hs[j]? = some b → L.ms[i]? = some mi → L.ms[j]? = some mj → Pr (L.tie i j (.knot false a b) mi mj spot)
def Lo.spare (L : Lo) : List Nat := (List.range L.hs.length).filter fun k => decide (L.ms[k]? ≠ L.ms[0]?)
theorem tie_len {L : Lo} {i j : Nat} (hij : i ≠ j) {a b h : Hg} (ha : L.hs[i]? = some a) (hb : L.hs[j]? = some b) {mi mj spot : Int} : (L.tie i j h mi mj spot).hs.length + 1 = L.hs.length := by
  have h1 := (sel_perm hij ha hb).length_eq
  simp only [Lo.tie, ins_len]
  simp at h1; omega
theorem LAt.emp {S : Store} {k a b d e : Nat} {L : Lo} (l : LAt S k a b d e L) {n : Nat} (iv : L.Inv n) (hn : n ≤ 25) : oEq S (.cell a) (.lst []) = .ok (.bl (decide (L.hs = []))) S := by
  have lay := lay_map (f := ofH) (l := L.hs) (n := 60) fun h hh => (lay_H (iv.fine h hh)).mono (by have := iv.dep h hh; omega)
  have ll : Lay (.lst (([] : List Hg).map ofH)) 1 := lay_lst (n := 0) fun z hz => by simp at hz
  exact oEq_lay (A := List Hg) (f := fun l => .lst (l.map ofH)) (fun x y => eq_lstF eqF_H x y) lay ll (by decide) (by decide) (S := S) (d := .cell a) (e := .lst []) (by simp [l.ha]) (by simp)
theorem ne_ints (S : Store) (ks : List Nat) : oNe S (.lst (ks.map fun q : Nat => D.int q)) (.lst []) = .ok (.bl (!decide (ks = []))) S := by
  have lay := lay_map (f := fun q : Nat => D.int q) (l := ks) (n := 1) fun h hh => lay_int _ _
  have ll : Lay (.lst (([] : List Nat).map fun q : Nat => D.int q)) 1 := lay_lst (n := 0) fun z hz => by simp at hz
  have ef : EqF (fun q : Nat => D.int q) := fun a b => by rw [eqD_int]; simp [Int.ofNat_inj]
  exact oNe_lay (A := List Nat) (f := fun l => .lst (l.map fun q : Nat => D.int q)) (fun x y => eq_lstF ef x y) lay ll (by decide) (by decide) (S := S) (d := .lst (ks.map fun q : Nat => D.int q)) (e := .lst []) rfl rfl
theorem e_close (c : LoftFns T) {Pr : Lo → Prop} (kp : Kept Pr) {S : Store} {k a b d e : Nat} {L : Lo} (l : LAt S k a b d e L) {n : Nat} (iv : L.Inv n) (hn : n ≤ 20) (hp : Pr L) (x : Int) {N : Nat} (hN : 10 ≤ N) :
    ∃ S', ev T N f_l_close [.cell k, .int x] S = .ok .non S' ∧ ∃ a' b' L', LAt S' k a' b' d e L' ∧ Grow S [k, a, b, d, e] S' [k, a', b', d, e] ∧ L'.Inv (n + 1) ∧ Pr L' ∧ L'.spare = [] ∧ L'.hs ≠ [] := by
  obtain ⟨N, rfl, _⟩ := two_up 8 (N := N) (by omega)
  rw [ev_s c.close]
  have z := iv.z
  have mm := iv.m
  -- the first statement
  obtain ⟨S1, L1, l1, g1, iv1, hp1, hne, h1⟩ : ∃ S1 L1, LAt S1 k a b d e L1 ∧ Grow S [k, a, b, d, e] S1 [k, a, b, d, e] ∧ L1.Inv (n + 1) ∧ Pr L1 ∧ L1.hs ≠ [] ∧
      (sIf (m2 (oEq) (m2 oIx (mV 0) (mC (.int 0))) (mN (oLst false) (mNil))) (sDrop (mN (fun S ds => ev T (N + 1) f_l_add_cord ds S) (mCons (mV 0) (mCons (mV 1) (mNil))))) (sNil)) [some (.cell k), some (.int x), none, none] S = .ok (.nx [some (.cell k), some (.int x), none, none]) S1 := by
    have q := l.emp iv (by omega)
    by_cases he : L.hs = []
    · have z : L.hs.length = 0 := by rw [he]; rfl
      obtain ⟨S2, e2, l2, g2⟩ := e_add_cord c l iv.bk (by omega) (by omega) x (N := N + 1) (by omega)
      exact ⟨S2, _, l2, g2, iv.cord (by omega) x, kp.cord _ _ hp, by simp [Lo.cord], by simp [l.hk, q, he, e2]⟩
    · exact ⟨S, L, l, Grow.refl _ _, iv.mono (by omega), hp, he, by simp [l.hk, q, he]⟩
  simp [step1, b_l_close, -x_if]
  rw [h1]
  simp
  -- which are spare
  have sp : ∀ (ρ : Sm.Env) (S : Store) (a b : Nat) (L : Lo), LAt S k a b d e L → L.Inv (n + 1) → L.hs ≠ [] → ρ[0]? = some (some (.cell k)) → ρ.length = 4 →
      mComp false (mCons (mN oLen (mCons (m2 oIx (mV 0) (mC (.int 0))) mNil)) mNil) itemsR [3] [3] (m2 oNe (m2 oIx (m2 oIx (mV 0) (mC (.int 1))) (mV 3)) (m2 oIx (m2 oIx (mV 0) (mC (.int 1))) (mC (.int 0)))) (mV 3) ρ S = .ok (.lst (L.spare.map fun q : Nat => D.int q)) S := by
    intro ρ S a b L l iv hne h0 hl
    have z := iv.z
    have mm := iv.m
    match ρ, h0, hl with
    | [r0, r1, r2, r3], h0, _ =>
      have h0 : r0 = some (.cell k) := by simpa using h0
      subst h0
      have hm0 : 0 < L.ms.length := by rw [mm]; exact List.length_pos_iff.mpr hne
      rw [comp_ones (List.range L.hs.length) (fun q : Nat => D.int q) (S1 := S) (src := [.int L.hs.length]) (by simp [l.hk, l.ha]) (it_r1 (sz (by omega)) S) (fun q => decide (L.ms[q]? ≠ L.ms[0]?)) (fun q => .int q)
        (fun q hq => by
          have hq : q < L.ms.length := by rw [mm]; exact List.mem_range.mp hq
          have e1 := List.getElem?_eq_getElem hq
          have e2 := List.getElem?_eq_getElem hm0
          have e3 : L2.atI (L.ms.map D.int) 0 = some (D.int L.ms[0]) := by
            have := atI_nat (L.ms.map D.int) 0
            simp at this; simp [this, hm0]
          generalize L.ms[q] = x1 at *
          generalize L.ms[0] = x2 at *
          by_cases h1 : x1 = x2 <;> simp [setAll, wipeE, l.hk, l.hb, e1, e2, e3, h1]) (fun q _ _ => by simp [setAll, wipeE])]
      simp [Lo.spare]
  rw [sp _ S1 a b L1 l1 iv1 hne (by simp) (by simp)]
  simp
  generalize hz : whileN _ _ _ _ _ = zz
  obtain ⟨r, S2, h2, a2, b2, L2, l2, g2, iv2, hp2, hs2, hne2⟩ := while_z hz
    (fun m ρ S' => ∃ a' b' L' o, ρ = [some (.cell k), some (.int x), some (.lst (L'.spare.map fun q : Nat => D.int q)), o] ∧ LAt S' k a' b' d e L' ∧ Grow S [k, a, b, d, e] S' [k, a', b', d, e] ∧ L'.Inv (n + 1) ∧ Pr L' ∧ L'.hs.length = m ∧ L'.hs ≠ [])
    (fun ρ S' => ∃ a' b' L', LAt S' k a' b' d e L' ∧ Grow S [k, a, b, d, e] S' [k, a', b', d, e] ∧ L'.Inv (n + 1) ∧ Pr L' ∧ L'.spare = [] ∧ L'.hs ≠ [])
    (m := L1.hs.length) (by have := iv1.z; omega) ⟨a, b, L1, none, rfl, l1, g1, iv1, hp1, rfl, hne⟩
    (by
      rintro m ρ S' ⟨a', b', L', o, rfl, l', g', iv', hp', rfl, hne'⟩
      have z' := iv'.z
      have mm' := iv'.m
      have t1 := ne_ints S' L'.spare
      by_cases hs : L'.spare = []
      · left
        exact ⟨S', by simp [hs] at t1 ⊢; exact t1, a', b', L', l', g', iv', hp', hs, hne'⟩
      · right
        obtain ⟨j, js, hj⟩ : ∃ j js, L'.spare = j :: js := List.exists_cons_of_ne_nil hs
        have hjm : j ∈ L'.spare := by rw [hj]; exact List.mem_cons_self
        obtain ⟨hj1, hj2⟩ := List.mem_filter.mp hjm
        have hj1 := List.mem_range.mp hj1
        have hj2 : L'.ms[j]? ≠ L'.ms[0]? := of_decide_eq_true hj2
        have h0 : 0 < L'.hs.length := List.length_pos_iff.mpr hne'
        have hj0 : 0 ≠ j := fun h => hj2 (by rw [← h])
        obtain ⟨S3, e3, a3, b3, l3, g3⟩ := e_tie c l' (by omega) mm' (i := 0) (j := j) (List.getElem?_eq_getElem h0) (List.getElem?_eq_getElem hj1) (List.getElem?_eq_getElem (by omega)) (List.getElem?_eq_getElem (by omega)) false x (N := N + 1) (by omega)
        have e3 : ev T (N + 1) f_l_tie [.cell k, .int 0, .int j, .str (Str.ofString "fast"), .int x] S' = .ok .non S3 := e3
        have iv3 := iv'.tie hj0 (List.getElem?_eq_getElem h0) (List.getElem?_eq_getElem hj1) (w := false) (mi := L'.ms[0]) (mj := L'.ms[j]) (spot := x)
        have hp3 := kp.tie L' 0 j _ _ _ _ x hp' hj0 (List.getElem?_eq_getElem h0) (List.getElem?_eq_getElem hj1) (List.getElem?_eq_getElem (by omega)) (List.getElem?_eq_getElem (by omega))
        have hl3 := tie_len (L := L') hj0 (List.getElem?_eq_getElem h0) (List.getElem?_eq_getElem hj1) (h := .knot false L'.hs[0] L'.hs[j]) (mi := L'.ms[0]) (mj := L'.ms[j]) (spot := x)
        have hne3 : (L'.tie 0 j (.knot false L'.hs[0] L'.hs[j]) L'.ms[0] L'.ms[j] x).hs ≠ [] := List.ne_nil_of_length_pos (by simp only [Lo.tie, ins_len]; omega)
        have sp3 := sp [some (.cell k), some (.int x), some (.lst (L'.spare.map fun q : Nat => D.int q)), o] S3 a3 b3 _ l3 iv3 hne3 (by simp) (by simp)
        rw [hj] at sp3 t1
        refine ⟨S', [some (.cell k), some (.int x), some (.lst ((L'.tie 0 j (.knot false L'.hs[0] L'.hs[j]) L'.ms[0] L'.ms[j] x).spare.map fun q : Nat => D.int q)), o], S3, (L'.tie 0 j (.knot false L'.hs[0] L'.hs[j]) L'.ms[0] L'.ms[j] x).hs.length, ?_, ?_, by omega, a3, b3, _, o, rfl, l3, g'.trans g3, iv3, hp3, rfl, hne3⟩
        · simp at t1; simp [hj, t1]
        · simp at sp3; simp [hj, e3, sp3])
  subst h2
  exact ⟨S2, by simp, a2, b2, L2, l2, g2, iv2, hp2, hs2, hne2⟩
end Nl
/-! R3: words; two knots turned; three ways to a loft -/
namespace Nl
open PySem Sm
variable {T : Nat → Option Body}
def Hg.words : Hg → List Bool
  | .tip _ _ _ => []
  | .knot k l r => k :: (l.words ++ r.words)
theorem words_len (h : Hg) : h.words.length + 1 = h.nt := by
  induction h with
  | tip _ _ _ => rfl
  | knot k l r a b => simp only [Hg.words, List.length_cons, List.length_append, Hg.nt_knot]; omega
theorem e_l_words (c0 : T f_l_is_tip = some b_l_is_tip) (c : T f_l_words = some b_l_words) : ∀ (h : Hg) {N : Nat} (_ : h.depth + 3 ≤ N) (_ : h.nt ≤ 4000) (S : Store), ev T N f_l_words [ofH h] S = .ok (.lst (h.words.map fun k => .str (kw k))) S
  | .tip d y k, N, hN, _, S => by
    obtain ⟨n, rfl, _⟩ := two_up 1 (N := N) (by omega)
    have t1 := e_l_is_tip c0 (.tip d y k) (N := n + 1) (by omega) S
    rw [ev_s c]
    simp at t1
    simp [step1, b_l_words, t1, Hg.isTip, Hg.words]
  | .knot k l r, N, hN, hz, S => by
    obtain ⟨n, rfl, hl, hr, _⟩ := dl 2 hN (by omega)
    have t1 := e_l_is_tip c0 (.knot k l r) (N := n + 1) (by omega) S
    rw [Hg.nt_knot] at hz
    have h1 := e_l_words c0 c l (N := n + 1) (by omega) (by omega) S
    have h2 := e_l_words c0 c r (N := n + 1) (by omega) (by omega) S
    have w1 := words_len l
    have w2 := words_len r
    have z1 : l.words.length + 1 ≤ sizeLine := sz (by omega)
    have z2 : l.words.length + 1 + r.words.length ≤ sizeLine := sz (by omega)
    have z3 : 1 + l.words.length ≤ sizeLine := sz (by omega)
    rw [ev_s c]
    simp at t1
    simp [step1, b_l_words, t1, h1, h2, Hg.isTip, Hg.words, z1, z2, z3]
def Lo.put (L : Lo) (i : Nat) (h : Hg) : Lo := { L with hs := L.hs.set i h }
structure Kept2 (Pr : Lo → Prop) : Prop extends Kept Pr where
  turn : ∀ L i h t, Pr L → L.hs[i]? = some h → Pr (L.put i (h.turn t))
theorem nt_turn : ∀ (h : Hg) (i : Int), (h.turn i).nt = h.nt
  | .tip _ _ _, _ => rfl
  | .knot k l r, i => by
    unfold Hg.turn
    split
    · rfl
    split
    · rfl
    · simp [nt_turn l, nt_turn r]
theorem Lo.Inv.put {n : Nat} {L : Lo} (h : L.Inv n) {i : Nat} {a b : Hg} (ha : L.hs[i]? = some a) (hb : b.nt = a.nt) (fb : b.Fine) : (L.put i b).Inv n := by
  obtain ⟨m, tot, zs, dsp, fine, fsp, bk, bn⟩ := h
  refine ⟨by simp [Lo.put, m], by simp only [Lo.put]; rw [nts_set ha hb.symm]; exact tot, zs, dsp, fun h hh => ?_, fsp, bk, bn⟩
  rcases List.mem_or_eq_of_mem_set hh with q | rfl
  · exact fine h q
  · exact fb
theorem LAt.put {S : Store} {k a b d e : Nat} {L : Lo} (l : LAt S k a b d e L) (i : Nat) (h : Hg) : LAt (S.set a (.lst ((L.hs.set i h).map ofH))) k a b d e (L.put i h) := by
  obtain ⟨hk, ha, hb', hc, he, nd⟩ := l
  obtain ⟨⟨n1, n2, n3, n4, n5, n6, n7, n8, n9, n10⟩, m1, m2, m3, m4, m5, m6, m7, m8, m9, m10⟩ := ne5 nd
  refine ⟨?_, ?_, ?_, ?_, ?_, nd⟩ <;> simp [gset, hk, ha, hb', hc, he, n1, n2, n3, n4, n5, n6, n7, n8, n9, n10, m1, m2, m3, m4, m5, m6, m7, m8, m9, m10, Lo.put]
/-- cells that stand apart from a loft's -/
theorem LAt.frame {S S' : Store} {k a b d e : Nat} {L : Lo} (l : LAt S k a b d e L) (h : ∀ j, j ∈ [k, a, b, d, e] → S'[j]? = S[j]?) : LAt S' k a b d e L :=
  ⟨(h k (by simp)).trans l.hk, (h a (by simp)).trans l.ha, (h b (by simp)).trans l.hb, (h d (by simp)).trans l.hc, (h e (by simp)).trans l.he, l.nd⟩
def ofS (p : Nat × Nat) : D := .tup [.int p.1, .int p.2]
/-- the lists of the loose and of the fast knots' places, in a dict's cells -/
structure FAt (S : Store) (f u v : Nat) (us vs : List (Nat × Nat)) : Prop where
  hf : S[f]? = some (.dk [(.inr "loose", .cell u), (.inr "fast", .cell v)])
  hu : S[u]? = some (.lst (us.map ofS))
  hv : S[v]? = some (.lst (vs.map ofS))
  ne : f ≠ u ∧ f ≠ v ∧ u ≠ v
structure TurnFns (T : Nat → Option Body) : Prop extends LoftFns T where
  words : T f_l_words = some b_l_words
  many_knots : T f_l_many_knots = some b_l_many_knots
  turned : T f_l_turned = some b_l_turned
  two_turned : T f_l_two_turned = some b_l_two_turned
  three_ways : T f_l_three_ways = some b_l_three_ways
theorem ix_dk_str (S : Store) (f : Nat) (kvs : List (L2.Key × D)) (x : Str) (r : D) (h : S[f]? = some (.dk kvs)) (hr : valK kvs (.inr x) = some r) : oIx S (.cell f) (.str x) = .ok r S := by
  show (match dGet S (.cell f) (.str x) with
    | some (some r) => R.ok r S
    | _ => .err) = _
  have : dGet S (.cell f) (.str x) = some (some r) := by simp [dGet, dLook, h, keyOf, hr]
  rw [this]
theorem vk1 (u v : D) : valK [((.inr "loose" : L2.Key), u), (.inr "fast", v)] (.inr "loose") = some u := by simp [valK]
theorem vk2 (u v : D) : valK [((.inr "loose" : L2.Key), u), (.inr "fast", v)] (.inr "fast") = some v := by
  have : ¬ ((Sum.inr (Str.ofString "loose") : L2.Key) = Sum.inr (Str.ofString "fast")) := by simp
  simp [valK, this]
theorem FAt.ixl {S : Store} {f u v : Nat} {us vs : List (Nat × Nat)} (h : FAt S f u v us vs) : oIx S (.cell f) (.str (Str.ofString "loose")) = .ok (.cell u) S := ix_dk_str S f _ _ _ h.hf (vk1 _ _)
theorem FAt.ixf {S : Store} {f u v : Nat} {us vs : List (Nat × Nat)} (h : FAt S f u v us vs) : oIx S (.cell f) (.str (Str.ofString "fast")) = .ok (.cell v) S := ix_dk_str S f _ _ _ h.hf (vk2 _ _)
theorem neE (S : Store) (n : Nat) (us : List (Nat × Nat)) (h : S[n]? = some (.lst (us.map ofS))) : oNe S (.cell n) (.lst []) = .ok (.bl (!decide (us = []))) S := by
  have ef : EqF ofS := fun a b => by
    show eqD (.tup [.int a.1, .int a.2]) (.tup [.int b.1, .int b.2]) = _
    simp only [eqD_tup, eqA_cons, eqA_nil, eqD_int]
    cases a; cases b
    simp only [Prod.mk.injEq, Int.ofNat_inj]
    by_cases h1 : ‹Nat› = ‹Nat› <;> simp
  have lay := lay_map (f := ofS) (l := us) (n := 3) fun p hp => lay_tup (n := 2) fun z hz => by
    simp at hz
    rcases hz with rfl | rfl <;> exact lay_int _ _
  have ll : Lay (.lst (([] : List (Nat × Nat)).map ofS)) 1 := lay_lst (n := 0) fun z hz => by simp at hz
  exact oNe_lay (A := List (Nat × Nat)) (f := fun l => .lst (l.map ofS)) (fun x y => eq_lstF ef x y) lay ll (by decide) (by decide) (S := S) (d := .cell n) (e := .lst []) (by simp [h]) (by simp)
theorem FAt.appU {S : Store} {f u v : Nat} {us vs : List (Nat × Nat)} (h : FAt S f u v us vs) (p : Nat × Nat) : FAt (S.set u (.lst (us.map ofS ++ [ofS p]))) f u v (us ++ [p]) vs := by
  obtain ⟨h1, h2, h3, n1, n2, n3⟩ := h
  refine ⟨?_, ?_, ?_, n1, n2, n3⟩ <;> simp [gset, h1, h2, h3, n1, n2, n3, n1.symm, n2.symm, n3.symm]
theorem FAt.appV {S : Store} {f u v : Nat} {us vs : List (Nat × Nat)} (h : FAt S f u v us vs) (p : Nat × Nat) : FAt (S.set v (.lst (vs.map ofS ++ [ofS p]))) f u v us (vs ++ [p]) := by
  obtain ⟨h1, h2, h3, n1, n2, n3⟩ := h
  refine ⟨?_, ?_, ?_, n1, n2, n3⟩ <;> simp [gset, h1, h2, h3, n1, n2, n3, n1.symm, n2.symm, n3.symm]
theorem FAt.frame {S S' : Store} {f u v : Nat} {us vs : List (Nat × Nat)} (h : FAt S f u v us vs) (g : ∀ j, j ∈ [f, u, v] → S'[j]? = S[j]?) : FAt S' f u v us vs :=
  ⟨(g f (by simp)).trans h.hf, (g u (by simp)).trans h.hu, (g v (by simp)).trans h.hv, h.ne⟩
/-- what stood stands as it stood -/
structure Same (S S' : Store) : Prop where
  len : S.length ≤ S'.length
  get : ∀ j, j < S.length → S'[j]? = S[j]?
theorem Same.refl (S : Store) : Same S S := ⟨Nat.le_refl _, fun _ _ => rfl⟩
theorem Same.set {S S' : Store} (h : Same S S') {j : Nat} (hj : S.length ≤ j) (o : MO) : Same S (S'.set j o) :=
  ⟨by simp [h.len], fun i hi => by rw [gset, if_neg (by omega)]; exact h.get i hi⟩
theorem Same.lat {S S' : Store} (h : Same S S') {k a b d e : Nat} {L : Lo} (l : LAt S k a b d e L) : LAt S' k a b d e L := by
  have lk := lt_of_get l.hk; have la := lt_of_get l.ha; have lb := lt_of_get l.hb; have ld := lt_of_get l.hc; have le := lt_of_get l.he
  refine l.frame fun j hj => h.get j ?_
  simp at hj
  rcases hj with rfl | rfl | rfl | rfl | rfl <;> assumption
theorem Same.grow {S S' : Store} (h : Same S S') (F : List Nat) : Grow S F S' F := ⟨h.len, fun j hj _ => h.get j hj, fun _ h => .inl h⟩
theorem e_two_turned (c : TurnFns T) {Pr : Lo → Prop} (kp : Kept2 Pr) {S : Store} {k a b d e : Nat} {L : Lo} (l : LAt S k a b d e L) {n : Nat} (iv : L.Inv n) (hn : n ≤ 21) (hp : Pr L) (x : Int) {N : Nat} (hN : 60 ≤ N) :
    ∃ S', ev T N f_l_two_turned [.cell k, .int x] S = .ok .non S' ∧ ∃ L', LAt S' k a b d e L' ∧ Grow S [k, a, b, d, e] S' [k, a, b, d, e] ∧ L'.Inv n ∧ Pr L' ∧ L'.hs.length = L.hs.length := by
  obtain ⟨N, rfl, _⟩ := two_up 58 (N := N) (by omega)
  rw [ev_s c.two_turned]
  have z := iv.z
  simp [step1, b_l_two_turned, mDisp, mPairs, keyPairs, keyOf, mergeG, putG]
  generalize hS0 : S ++ [_, _, _] = S0
  have f0 : FAt S0 (S.length + 2) S.length (S.length + 1) [] [] := by
    subst hS0
    refine ⟨by simp, by simp, by simp, by omega, by omega, by omega⟩
  have s0 : Same S S0 := by
    subst hS0
    exact ⟨by simp, fun j hj => List.getElem?_append_left hj⟩
  have l0 := s0.lat l
  have lk := lt_of_get l.hk; have la := lt_of_get l.ha; have lb := lt_of_get l.hb; have ld := lt_of_get l.hc; have le := lt_of_get l.he
  rw [for_srcL (src := [.cell a]) (its := enumFrom 0 (L.hs.map ofH)) (by simp [l0.hk]; rfl) (by simp [l0.ha])]
  generalize hz : forL _ _ _ _ _ _ _ = zz
  obtain ⟨r, S1, h1, s1, ⟨o3, o4, o5, o6, rfl⟩, us, vs, f1, hl1, hp1⟩ := forL_z hz (fun p : Hg × Nat => [D.int p.2, ofH p.1]) L.hs.zipIdx (enum_map ofH L.hs 0)
    (fun i ρ S1 => Same S S1 ∧ (∃ o3 o4 o5 o6, ρ = [some (.cell k), some (.int x), some (.cell (S.length + 2)), o3, o4, o5, o6]) ∧ ∃ us vs, FAt S1 (S.length + 2) S.length (S.length + 1) us vs ∧ us.length + vs.length ≤ i * 50 ∧ ∀ p ∈ us ++ vs, p.1 < L.hs.length)
    ⟨s0, ⟨none, none, none, none, rfl⟩, [], [], f0, by simp, fun p hp => by simp at hp⟩
    (by
      rintro i ρ S1 ⟨s1, _, us, vs, f1, _⟩
      have := (s1.lat l).ha
      simp [this])
    (by
      rintro i ⟨h, j⟩ ρ S1 hx ⟨s1, ⟨o3, o4, o5, o6, rfl⟩, us, vs, f1, hl1, hp1⟩
      obtain ⟨gh, ej⟩ := zip_at hx
      have gh : L.hs[i]? = some h := gh
      have ej : i = j := ej.symm
      subst ej
      have hi := lt_of_get gh
      have mh := List.mem_of_getElem? gh
      have dh := iv.dep h mh
      have nh := iv.nt h mh
      have wl := words_len h
      have t1 := e_l_words c.is_tip c.words h (N := N + 1) (by omega) (by omega) S1
      simp only [setAll]
      rw [for_srcL (src := [.lst (h.words.map fun k => .str (kw k))]) (its := enumFrom 0 (h.words.map fun k => .str (kw k))) (by simp [t1]; rfl) (by simp)]
      generalize hz2 : forL _ _ _ _ _ _ _ = zz2
      obtain ⟨r2, S2, h2, s2, ⟨p5, p6, rfl⟩, us2, vs2, f2, hl2, hp2⟩ := forL_z hz2 (fun p : Bool × Nat => [D.int p.2, .str (kw p.1)]) h.words.zipIdx (enum_map _ h.words 0)
        (fun m ρ S2 => Same S S2 ∧ (∃ o5 o6, ρ = [some (.cell k), some (.int x), some (.cell (S.length + 2)), some (.int i), some (ofH h), o5, o6]) ∧ ∃ us vs, FAt S2 (S.length + 2) S.length (S.length + 1) us vs ∧ us.length + vs.length ≤ i * 50 + m ∧ ∀ p ∈ us ++ vs, p.1 < L.hs.length)
        ⟨s1, ⟨o5, o6, rfl⟩, us, vs, f1, by omega, hp1⟩ (fun _ _ _ _ => by simp)
        (by
          rintro m ⟨w, m'⟩ ρ S2 hm ⟨s2, ⟨p5, p6, rfl⟩, us2, vs2, f2, hl2, hp2⟩
          obtain ⟨gw, ej⟩ := zip_at hm
          have ej : m = m' := ej.symm
          subst ej
          have hm' := lt_of_get gw
          have big : us2.length + vs2.length < 4000 := by
            have : i * 50 ≤ 42 * 50 := Nat.mul_le_mul_right _ (by omega)
            omega
          cases w with
          | true =>
            have zu : us2.length < sizeLine := sz' (by omega)
            refine ⟨[some (.cell k), some (.int x), some (.cell (S.length + 2)), some (.int i), some (ofH h), some (.int m), some (.str (Str.ofString "loose"))], _, by simp [setAll, f2.ixl, f2.hu, zu]; rfl, s2.set (Nat.le_refl _) _, ⟨_, _, rfl⟩, _, _, f2.appU (i, m), by simp; omega, fun p hp => ?_⟩
            simp at hp
            rcases hp with hp | rfl | hp
            · exact hp2 p (by simp [hp])
            · exact hi
            · exact hp2 p (by simp [hp])
          | false =>
            have zu : vs2.length < sizeLine := sz' (by omega)
            refine ⟨[some (.cell k), some (.int x), some (.cell (S.length + 2)), some (.int i), some (ofH h), some (.int m), some (.str (Str.ofString "fast"))], _, by simp [setAll, f2.ixf, f2.hv, zu]; rfl, s2.set (Nat.le_succ _) _, ⟨_, _, rfl⟩, _, _, f2.appV (i, m), by simp; omega, fun p hp => ?_⟩
            simp at hp
            rcases hp with hp | hp | rfl
            · exact hp2 p (by simp [hp])
            · exact hp2 p (by simp [hp])
            · exact hi)
      subst h2
      rw [List.length_zipIdx] at hl2
      exact ⟨_, S2, rfl, s2, ⟨_, _, _, _, rfl⟩, us2, vs2, f2, by
        have : (i + 1) * 50 = i * 50 + 50 := by omega
        omega, hp2⟩)
  subst h1
  simp
  have l1 := s1.lat l
  rw [for_src (src := [.lst [.str (Str.ofString "loose"), .str (Str.ofString "fast")]]) (by simp; rfl) (fun S => itA_lst _ S)]
  have e2 : ones [D.str (Str.ofString "loose"), D.str (Str.ofString "fast")] = [true, false].map fun w => [D.str (kw w)] := rfl
  rw [e2]
  generalize hz3 : forV _ _ _ _ _ = zz3
  obtain ⟨r3, S3, h3, ⟨x3, q3, q4, q5, q6, rfl⟩, L3, l3, f3, g3, iv3, hp3, hl3⟩ := forV_z hz3 (fun (u : Unit) (_ : Bool) => u)
    (fun i _ ρ S3 => (∃ x3 o3 o4 o5 o6, ρ = [some (.cell k), some (.int x3), some (.cell (S.length + 2)), o3, o4, o5, o6]) ∧ ∃ L3, LAt S3 k a b d e L3 ∧ FAt S3 (S.length + 2) S.length (S.length + 1) us vs ∧ Grow S [k, a, b, d, e] S3 [k, a, b, d, e] ∧ L3.Inv n ∧ Pr L3 ∧ L3.hs.length = L.hs.length)
    (st := ()) ⟨⟨x, _, _, _, _, rfl⟩, L, l1, f1, s1.grow _, iv, hp, rfl⟩
    (by
      rintro i _ w ρ S3 hx ⟨⟨x3, q3, q4, q5, q6, rfl⟩, L3, l3, f3, g3, iv3, hp3, hl3⟩
      have n1 := neE S3 _ us f3.hu
      have n2 := neE S3 _ vs f3.hv
      by_cases hu : us = []
      · refine ⟨[some (.cell k), some (.int x3), some (.cell (S.length + 2)), q3, q4, q5, some (.str (kw w))], S3, ?_, ⟨x3, _, _, _, _, rfl⟩, L3, l3, f3, g3, iv3, hp3, hl3⟩
        simp [setAll, f3.ixl, n1, hu]
      by_cases hv : vs = []
      · refine ⟨[some (.cell k), some (.int x3), some (.cell (S.length + 2)), q3, q4, q5, some (.str (kw w))], S3, ?_, ⟨x3, _, _, _, _, rfl⟩, L3, l3, f3, g3, iv3, hp3, hl3⟩
        simp [setAll, f3.ixl, f3.ixf, n1, n2, hu, hv]
      -- the place
      have go : ∀ (ws : List (Nat × Nat)) (w : Bool) (nw : Nat), ws ≠ [] → (∀ p ∈ ws, p ∈ us ++ vs) → S3[nw]? = some (.lst (ws.map ofS)) → oIx S3 (.cell (S.length + 2)) (.str (kw w)) = .ok (.cell nw) S3 → ∃ r S', (sIf
                (mAnd (m2 oNe (m2 oIx (mV 2) (mC (D.str (Str.ofString "loose")))) (mN (oLst false) mNil))
                  (m2 oNe (m2 oIx (mV 2) (mC (D.str (Str.ofString "fast")))) (mN (oLst false) mNil)))
                (sSeq
                  (sAsgs [3, 5]
                    (m2 oIx (m2 oIx (mV 2) (mV 6)) (m2 oMod (mV 1) (mN oLen (mCons (m2 oIx (mV 2) (mV 6)) mNil)))))
                  (sSeq
                    (sSub
                      (mN (fun S ds => ev T (N + 1) f_l_turned ds S)
                        (mCons (m2 oIx (m2 oIx (mV 0) (mC (D.int 0))) (mV 3)) (mCons (mV 5) mNil)))
                      (m2 oIx (mV 0) (mC (D.int 0))) (mV 3))
                    (sAsg 1 (m2 oDiv (mV 1) (mC (D.int 64))))))
                sNil) [some (.cell k), some (.int x3), some (.cell (S.length + 2)), q3, q4, q5, some (.str (kw w))] S3 = .ok (.nx r) S' ∧ (∃ x3 o3 o4 o5 o6, r = [some (.cell k), some (.int x3), some (.cell (S.length + 2)), o3, o4, o5, o6]) ∧ ∃ L3, LAt S' k a b d e L3 ∧ FAt S' (S.length + 2) S.length (S.length + 1) us vs ∧ Grow S [k, a, b, d, e] S' [k, a, b, d, e] ∧ L3.Inv n ∧ Pr L3 ∧ L3.hs.length = L.hs.length := by
        intro ws w nw hne hsub hnw hix
        have hw0 : 0 < ws.length := List.length_pos_iff.mpr hne
        have m0 : 0 ≤ x3 % (ws.length : Int) := Int.emod_nonneg _ (by omega)
        have m1 : x3 % (ws.length : Int) < ws.length := Int.emod_lt_of_pos _ (by omega)
        obtain ⟨i3, hi3, ei3⟩ : ∃ i3 : Nat, i3 < ws.length ∧ x3 % (ws.length : Int) = (i3 : Int) := ⟨(x3 % (ws.length : Int)).toNat, by omega, by omega⟩
        have gp := List.getElem?_eq_getElem hi3
        have hp : ws[i3] ∈ ws := List.getElem_mem hi3
        generalize ws[i3] = p at *
        obtain ⟨ps, pt⟩ := p
        have hps : ps < L3.hs.length := by rw [hl3]; exact hp1 _ (hsub _ hp)
        have gh := List.getElem?_eq_getElem hps
        have mh := List.mem_of_getElem? gh
        generalize L3.hs[ps] = h at *
        have dh := iv3.dep h mh
        have tt := e_l_turned c.is_tip c.many_knots c.turned h pt (N := N + 1) (by omega) S3
        have ixn := ixN_nat hps
        refine ⟨[some (.cell k), some (.int (x3 / 64)), some (.cell (S.length + 2)), some (.int ps), q4, some (.int pt), some (.str (kw w))], S3.set a (.lst ((L3.hs.set ps (h.turn pt)).map ofH)), ?_, ⟨_, _, _, _, _, rfl⟩, L3.put ps (h.turn pt), l3.put _ _, f3.frame ?_, g3.trans (Grow.set _ _ a _ (by simp)), iv3.put gh (nt_turn _ _) (fine_turn (iv3.fine h mh)), kp.turn _ _ _ _ hp3 gh, by simp [Lo.put, hl3]⟩
        · simp [setAll, f3.ixl, f3.ixf, n1, n2, hu, hv, hix, hnw, hw0, ei3, gp, ofS, l3.hk, l3.ha, gh, tt, ixn]
        · intro j hj
          have : a ≠ j := by simp at hj; omega
          rw [gset, if_neg this]
      cases w with
      | true => exact go us true _ hu (fun p hp => by simp [hp]) f3.hu f3.ixl
      | false => exact go vs false _ hv (fun p hp => by simp [hp]) f3.hv f3.ixf)
  subst h3
  exact ⟨S3, by simp, L3, l3, g3, iv3, hp3, hl3⟩
end Nl
/-! R4: three ways to a loft -/
namespace Nl
open PySem Sm
variable {T : Nat → Option Body}
theorem e_three_ways (c : TurnFns T) {Pr : Lo → Prop} (kp : Kept2 Pr) (ns : List Int) (first most : Nat) (hm : most ≤ 20) (hpl : ∀ good, Pr (loftL ns (first + 1) most good)) {N : Nat} (hN : 70 ≤ N) (S : Store) :
    ∃ S' k, ev T N f_l_three_ways [.scr ns, .int first, .int most] S = .ok (.cell k) S' ∧ ∃ a b d e L, LAt S' k a b d e L ∧ Grow S [] S' [k, a, b, d, e] ∧ L.Inv (most + 1) ∧ Pr L := by
  obtain ⟨n, rfl, _⟩ := two_up 68 (N := N) hN
  rw [ev_s c.three_ways]
  have t1 : ∀ S, ev T (n + 1) f_l_cell [.scr ns, .int first] S = .ok (.int (cellI ns first)) S := fun S => e_cell c.stir c.cell ns first (by omega) S
  have t0 : 0 ≤ cellI ns first := cellI_nn _ _
  have fst : ((first + 1 : Nat) : Int) = (first : Int) + 1 := by omega
  by_cases q1 : cellI ns first % 3 = 0
  · obtain ⟨S1, k, a, b, d, e, l1, g1, h1, _⟩ := e_loft c.toLoftFns ns (first + 1) most false hm (N := n + 1) (by omega) S
    have h1 := h1 rfl
    rw [fst] at h1
    exact ⟨S1, k, by simp [step1, b_l_three_ways, t1, q1, h1], a, b, d, e, _, l1, g1, (loftL_inv ns (first + 1) most (by omega) false).mono (by omega), hpl false⟩
  · have q0 : 0 < cellI ns first % 3 := by omega
    obtain ⟨S1, k, a, b, d, e, l1, g1, _, h1⟩ := e_loft c.toLoftFns ns (first + 1) most true hm (N := n + 1) (by omega) S
    obtain ⟨S2, h2, a2, b2, L2, l2, g2, iv2, p2, _, hne⟩ := e_close c.toLoftFns kp.toKept l1 (loftL_inv ns (first + 1) most (by omega) true) hm (hpl true) (cellI ns (first + 1)) (N := n) (by omega)
    have h1 := h1 S2 h2 rfl
    rw [fst] at h1
    by_cases q2 : cellI ns first % 3 = 2
    · have hl : 0 < L2.hs.length := List.length_pos_iff.mpr hne
      by_cases q3 : cellI ns first / 3 % 2 = 1
      · obtain ⟨S3, h3, L3, l3, g3, iv3, p3, _⟩ := e_two_turned c kp l2 iv2 (by omega) p2 (cellI ns first / 6) (N := n + 1) (by omega)
        exact ⟨S3, k, by simp [step1, b_l_three_ways, t1, q2, q3, h1, h3], a2, b2, d, e, L3, l3, (g1.trans g2).trans g3, iv3, p3⟩
      · obtain ⟨i, hi, ei⟩ : ∃ i : Nat, i < L2.hs.length ∧ cellI ns first / 6 % (L2.hs.length : Int) = (i : Int) := ⟨_, Lo.at_lt hl _⟩
        have gh := List.getElem?_eq_getElem hi
        have mh := List.mem_of_getElem? gh
        generalize L2.hs[i] = h at *
        have dh := iv2.dep h mh
        have tk := e_l_many_knots c.is_tip c.many_knots h (N := n + 1) (by omega) S2
        have tt := e_l_turned c.is_tip c.many_knots c.turned h (cellI ns first / 6 / 64 % ((h.mk : Int) + 1)) (N := n + 1) (by omega) S2
        have ixn := ixN_nat hi
        have m0 : (0 : Int) < (h.mk : Int) + 1 := by omega
        refine ⟨S2.set a2 (.lst ((L2.hs.set i (h.turn (cellI ns first / 6 / 64 % ((h.mk : Int) + 1)))).map ofH)), k, ?_, a2, b2, d, e, _, l2.put i (h.turn (cellI ns first / 6 / 64 % ((h.mk : Int) + 1))), (g1.trans g2).trans (Grow.set _ _ a2 _ (by simp)), iv2.put gh (nt_turn _ _) (fine_turn (iv2.fine h mh)), kp.turn _ _ _ _ p2 gh⟩
        simp [step1, b_l_three_ways, t1, q2, q3, h1, l2.hk, l2.ha, hl, ei, gh, tk, tt, m0, ixn]
    · exact ⟨S2, k, by simp [step1, b_l_three_ways, t1, q0, q2, h1], a2, b2, d, e, L2, l2, g1.trans g2, iv2, p2⟩
end Nl
/-! Q3: nets that fit: each cord's two tips stand once -/
namespace Nl
open PySem Sm
def tipsL (hs : List Hg) : List Hg := hs.flatMap Hg.tips
def tipsP (p : Hg × Hg) : List Hg := p.1.tips ++ p.2.tips
def tipsS (sp : List (Hg × Hg)) : List Hg := sp.flatMap tipsP
def allT (hs : List Hg) (sp : List (Hg × Hg)) : List Hg := tipsL hs ++ tipsS sp
def lightsOf : List Hg → List (Int × Str)
  | [] => []
  | .tip false y n :: r => (n, y) :: lightsOf r
  | _ :: r => lightsOf r
def darksOf : List Hg → List (Int × Str)
  | [] => []
  | .tip true y n :: r => (n, y) :: darksOf r
  | _ :: r => darksOf r
theorem lights_app (l m : List Hg) : lightsOf (l ++ m) = lightsOf l ++ lightsOf m := by
  induction l with
  | nil => rfl
  | cons a l ih =>
    cases a with
    | tip d y n => cases d <;> simp [lightsOf, ih]
    | knot k x y => simp [lightsOf, ih]
theorem darks_app (l m : List Hg) : darksOf (l ++ m) = darksOf l ++ darksOf m := by
  induction l with
  | nil => rfl
  | cons a l ih =>
    cases a with
    | tip d y n => cases d <;> simp [darksOf, ih]
    | knot k x y => simp [darksOf, ih]
theorem mem_lights {l : List Hg} {n : Int} {y : Str} : (n, y) ∈ lightsOf l ↔ .tip false y n ∈ l := by
  induction l with
  | nil => simp [lightsOf]
  | cons a l ih =>
    cases a with
    | tip d y' n' =>
      cases d
      · simp only [lightsOf, List.mem_cons, ih, Prod.mk.injEq, Hg.tip.injEq]
        constructor
        · rintro (⟨rfl, rfl⟩ | h)
          · exact .inl (by simp)
          · exact .inr h
        · rintro (⟨_, rfl, rfl⟩ | h)
          · exact .inl ⟨rfl, rfl⟩
          · exact .inr h
      · simp [lightsOf, ih]
    | knot k x y => simp [lightsOf, ih]
theorem mem_darks {l : List Hg} {n : Int} {y : Str} : (n, y) ∈ darksOf l ↔ .tip true y n ∈ l := by
  induction l with
  | nil => simp [darksOf]
  | cons a l ih =>
    cases a with
    | tip d y' n' =>
      cases d
      · simp [darksOf, ih]
      · simp only [darksOf, List.mem_cons, ih, Prod.mk.injEq, Hg.tip.injEq]
        constructor
        · rintro (⟨rfl, rfl⟩ | h)
          · exact .inl (by simp)
          · exact .inr h
        · rintro (⟨_, rfl, rfl⟩ | h)
          · exact .inl ⟨rfl, rfl⟩
          · exact .inr h
    | knot k x y => simp [darksOf, ih]
/-- each cord that stands has a light and a dark tip of one dye, each once -/
structure Fits (ts : List Hg) : Prop where
  tip : ∀ t ∈ ts, t.isTip = true
  ln : ((lightsOf ts).map (·.1)).Nodup
  dn : ((darksOf ts).map (·.1)).Nodup
  mate : ∀ p, p ∈ lightsOf ts ↔ p ∈ darksOf ts
theorem lights_perm {l m : List Hg} (h : l.Perm m) : (lightsOf l).Perm (lightsOf m) := by
  induction h with
  | nil => exact .nil
  | cons a _ ih =>
    cases a with
    | tip d y n => cases d <;> simp only [lightsOf] <;> first | exact ih | exact ih.cons _
    | knot k x y => exact ih
  | swap a b l =>
    cases a with
    | tip d y n =>
      cases b with
      | tip d' y' n' => cases d <;> cases d' <;> simp only [lightsOf] <;> first | exact .refl _ | exact .swap _ _ _
      | knot _ _ _ => cases d <;> exact .refl _
    | knot _ _ _ =>
      cases b with
      | tip d' y' n' => cases d' <;> exact .refl _
      | knot _ _ _ => exact .refl _
  | trans _ _ a b => exact a.trans b
theorem darks_perm {l m : List Hg} (h : l.Perm m) : (darksOf l).Perm (darksOf m) := by
  induction h with
  | nil => exact .nil
  | cons a _ ih =>
    cases a with
    | tip d y n => cases d <;> simp only [darksOf] <;> first | exact ih | exact ih.cons _
    | knot k x y => exact ih
  | swap a b l =>
    cases a with
    | tip d y n =>
      cases b with
      | tip d' y' n' => cases d <;> cases d' <;> simp only [darksOf] <;> first | exact .refl _ | exact .swap _ _ _
      | knot _ _ _ => cases d <;> exact .refl _
    | knot _ _ _ =>
      cases b with
      | tip d' y' n' => cases d' <;> exact .refl _
      | knot _ _ _ => exact .refl _
  | trans _ _ a b => exact a.trans b
theorem Fits.perm {l m : List Hg} (h : Fits l) (p : l.Perm m) : Fits m := by
  have p1 := lights_perm p
  have p2 := darks_perm p
  exact ⟨fun t ht => h.tip t (p.mem_iff.mpr ht), (p1.map _).nodup_iff.mp h.ln, (p2.map _).nodup_iff.mp h.dn, fun q => by rw [← p1.mem_iff, ← p2.mem_iff]; exact h.mate q⟩
/-- the tips of the cords of a book, by their dyes -/
def cordTips (b : Bk) (k : Nat) : List Str → List Hg
  | [] => []
  | y :: ys => .tip false y (b.num k) :: .tip true y (b.num k) :: cordTips b (k + 1) ys
theorem cordTips_app (b : Bk) : ∀ (ys zs : List Str) (k : Nat), cordTips b k (ys ++ zs) = cordTips b k ys ++ cordTips b (k + ys.length) zs
  | [], zs, k => rfl
  | y :: ys, zs, k => by
    simp only [List.cons_append, cordTips, cordTips_app b ys zs (k + 1), List.length_cons]
    rw [show k + 1 + ys.length = k + (ys.length + 1) by omega]
theorem num_inj {b : Bk} (h : b.Ok) {i j : Nat} (e : b.num i = b.num j) : i = j := by
  unfold Bk.num at e
  have e2 : b.b1 * ((i : Int) * 21 % 64 + 64 * ((i : Int) / 64)) = b.b1 * ((j : Int) * 21 % 64 + 64 * ((j : Int) / 64)) := by omega
  have e3 := Int.eq_of_mul_eq_mul_left (by have := h.step.1; omega) e2
  have inv : ∀ r : Nat, r < 64 → r * 21 % 64 * 61 % 64 = r := by decide
  have e4 : i * 21 % 64 + 64 * (i / 64) = j * 21 % 64 + 64 * (j / 64) := by omega
  have m1 : i * 21 % 64 = i % 64 * 21 % 64 := by omega
  have m2 : j * 21 % 64 = j % 64 * 21 % 64 := by omega
  have i1 := inv (i % 64) (by omega)
  have i2 := inv (j % 64) (by omega)
  have q1 : i * 21 % 64 = j * 21 % 64 := by omega
  rw [← m1] at i1
  rw [← m2, ← q1] at i2
  omega
theorem lights_cords (b : Bk) : ∀ (ys : List Str) (k : Nat), lightsOf (cordTips b k ys) = (ys.zipIdx k).map fun p => (b.num p.2, p.1)
  | [], k => rfl
  | y :: ys, k => by simp [cordTips, lightsOf, lights_cords b ys (k + 1)]
theorem darks_cords (b : Bk) : ∀ (ys : List Str) (k : Nat), darksOf (cordTips b k ys) = (ys.zipIdx k).map fun p => (b.num p.2, p.1)
  | [], k => rfl
  | y :: ys, k => by simp [cordTips, darksOf, darks_cords b ys (k + 1)]
theorem cords_nodup {b : Bk} (h : b.Ok) : ∀ (ys : List Str) (k : Nat), (((ys.zipIdx k).map fun p => (b.num p.2, p.1)).map (·.1)).Nodup := by
  intro ys k
  rw [List.map_map]
  have e : ((fun p : Int × Str => p.1) ∘ fun p : Str × Nat => (b.num p.2, p.1)) = fun p : Str × Nat => b.num p.2 := rfl
  rw [e]
  induction ys generalizing k with
  | nil => simp
  | cons y ys ih =>
    rw [List.zipIdx_cons, List.map_cons, List.nodup_cons]
    refine ⟨fun hm => ?_, ih (k + 1)⟩
    obtain ⟨⟨z, j⟩, hz, e⟩ := List.mem_map.mp hm
    have := num_inj h e
    have hj := List.le_snd_of_mem_zipIdx hz
    simp at this hj; omega
theorem fits_cords {b : Bk} (h : b.Ok) (ys : List Str) (k : Nat) : Fits (cordTips b k ys) := by
  refine ⟨fun t ht => ?_, by rw [lights_cords]; exact cords_nodup h ys k, by rw [darks_cords]; exact cords_nodup h ys k, fun p => by rw [lights_cords, darks_cords]⟩
  induction ys generalizing k with
  | nil => simp [cordTips] at ht
  | cons y ys ih =>
    simp [cordTips] at ht
    rcases ht with rfl | rfl | ht
    · rfl
    · rfl
    · exact ih _ ht
/-! ### the law's loft -/
structure Lo.Net (L : Lo) : Prop where
  ok : L.bk.Ok
  fit : ∃ ys : List Str, ys.length = L.bk.n ∧ (allT L.hs L.sp).Perm (cordTips L.bk 0 ys)
  mir : ∀ p ∈ L.sp, p.1.mirs p.2 = true
theorem Lo.Net.fits {L : Lo} (h : L.Net) : Fits (allT L.hs L.sp) := by
  obtain ⟨ys, _, p⟩ := h.fit
  exact (fits_cords h.ok ys 0).perm p.symm
theorem tipsL_perm {l m : List Hg} (h : l.Perm m) : (tipsL l).Perm (tipsL m) := h.flatMap_right _
theorem tipsS_perm {l m : List (Hg × Hg)} (h : l.Perm m) : (tipsS l).Perm (tipsS m) := h.flatMap_right _
theorem tips_anew (b : Bk) : ∀ (h : Hg) (k : Nat), ((h.anew b k).tips ++ (h.anew b k).mir.tips).Perm (cordTips b k (h.tips.map fun t => match t with
    | .tip _ y _ => y
    | _ => ⟨#[]⟩))
  | .tip d y n, k => by
    cases d
    · exact .refl _
    · exact .swap _ _ _
  | .knot w l r, k => by
    have hl := tips_anew b l k
    have hr := tips_anew b r (k + l.nt)
    simp only [Hg.anew, Hg.mir, Hg.tips, List.map_append, cordTips_app, List.length_map]
    have e : l.tips.length = l.nt := rfl
    rw [e]
    refine List.Perm.trans ?_ (hl.append hr)
    simp only [List.append_assoc]
    refine List.Perm.append_left _ ?_
    rw [← List.append_assoc, ← List.append_assoc]
    exact List.Perm.append_right _ List.perm_append_comm
theorem bare_anew (b : Bk) : ∀ (h : Hg) (k : Nat), (h.anew b k).bare = h.bare
  | .tip d y n, k => rfl
  | .knot w l r, k => by simp [Hg.anew, Hg.bare, bare_anew b l, bare_anew b r]
theorem tips_turn : ∀ (h : Hg) (i : Int), (h.turn i).tips = h.tips
  | .tip _ _ _, _ => rfl
  | .knot k l r, i => by
    unfold Hg.turn
    split
    · rfl
    split
    · rfl
    · simp [Hg.tips, tips_turn l, tips_turn r]
end Nl
/-! Q4: the law's loft is a net at each step -/
namespace Nl
open PySem Sm
theorem tipsL_cons (h : Hg) (l : List Hg) : tipsL (h :: l) = h.tips ++ tipsL l := rfl
theorem tipsL_app (l m : List Hg) : tipsL (l ++ m) = tipsL l ++ tipsL m := List.flatMap_append
theorem tipsS_cons (p : Hg × Hg) (l : List (Hg × Hg)) : tipsS (p :: l) = tipsP p ++ tipsS l := rfl
theorem tie_tips {L : Lo} {i j : Nat} (hij : i ≠ j) {a b : Hg} (ha : L.hs[i]? = some a) (hb : L.hs[j]? = some b) {w : Bool} {mi mj spot : Int} : (tipsL (L.tie i j (.knot w a b) mi mj spot).hs).Perm (tipsL L.hs) := by
  have h1 := tipsL_perm (sel_perm hij ha hb)
  have h2 := tipsL_perm (ins_perm (sel L.hs (keep L.hs.length i j)) (L.spot i j spot) (.knot w a b))
  rw [tipsL_cons] at h2
  rw [tipsL_cons, tipsL_cons] at h1
  refine h2.trans (List.Perm.trans ?_ h1.symm)
  simp only [Hg.tips, List.append_assoc]
  exact .refl _
theorem Lo.Net.cord {L : Lo} (h : L.Net) (x : Int) : (L.cord x).Net := by
  obtain ⟨ok, ⟨ys, hy, p⟩, mir⟩ := h
  refine ⟨⟨ok.lo, ok.step⟩, ⟨ys ++ [dyeS (x / 7)], by simp [Lo.cord, Bk.up, hy], ?_⟩, mir⟩
  have e : cordTips (L.cord x).bk 0 (ys ++ [dyeS (x / 7)]) = cordTips L.bk 0 ys ++ [.tip false (dyeS (x / 7)) (L.bk.num L.bk.n), .tip true (dyeS (x / 7)) (L.bk.num L.bk.n)] := by
    have e0 : ∀ (zs : List Str) (k : Nat), cordTips (L.cord x).bk k zs = cordTips L.bk k zs := by
      intro zs
      induction zs with
      | nil => intro k; rfl
      | cons z zs ih => intro k; simp only [cordTips, ih]; rfl
    rw [e0, cordTips_app]
    simp [cordTips, hy]
  rw [e]
  simp only [allT, Lo.cord, tipsL_app, List.append_assoc]
  have p2 := p
  simp only [allT] at p2
  have sw : (tipsL [Hg.tip (decide (x / 7 % 2 = 1)) (dyeS (x / 7)) (L.bk.num L.bk.n), .tip (!decide (x / 7 % 2 = 1)) (dyeS (x / 7)) (L.bk.num L.bk.n)]).Perm [.tip false (dyeS (x / 7)) (L.bk.num L.bk.n), .tip true (dyeS (x / 7)) (L.bk.num L.bk.n)] := by
    by_cases q : x / 7 % 2 = 1
    · simp only [q, decide_true, Bool.not_true]; exact .swap _ _ _
    · simp only [q, decide_false, Bool.not_false]; exact .refl _
  refine List.Perm.trans (List.Perm.append_left _ List.perm_append_comm) ?_
  rw [← List.append_assoc]
  exact p2.append sw
theorem Lo.Net.tie {L : Lo} (h : L.Net) {i j : Nat} (hij : i ≠ j) {a b : Hg} (ha : L.hs[i]? = some a) (hb : L.hs[j]? = some b) {w : Bool} {mi mj spot : Int} : (L.tie i j (.knot w a b) mi mj spot).Net := by
  obtain ⟨ok, ⟨ys, hy, p⟩, mir⟩ := h
  exact ⟨ok, ⟨ys, hy, ((tie_tips hij ha hb).append_right _).trans p⟩, mir⟩
theorem tipsL_set {l : List Hg} {i : Nat} {a b : Hg} (h : l[i]? = some a) : (a.tips ++ tipsL (l.set i b)).Perm (b.tips ++ tipsL l) := by
  have := tipsL_perm (set_perm (b := b) h)
  rwa [tipsL_cons, tipsL_cons] at this
theorem Lo.Net.turn {L : Lo} (h : L.Net) {i : Nat} {a : Hg} (ha : L.hs[i]? = some a) (t : Int) : (L.put i (a.turn t)).Net := by
  obtain ⟨ok, ⟨ys, hy, p⟩, mir⟩ := h
  refine ⟨ok, ⟨ys, hy, List.Perm.trans (List.Perm.append_right _ ?_) p⟩, mir⟩
  have := tipsL_set (b := a.turn t) ha
  rw [tips_turn] at this
  exact (List.perm_append_left_iff _).mp this
theorem Lo.Net.splice {L : Lo} (h : L.Net) (h1 : 1 ≤ L.hs.length) (x : Int) (good : Bool) : (L.splice x good).Net := by
  obtain ⟨ok, ⟨ys, hy, p⟩, mir⟩ := h
  have hi := (Lo.at_lt (L := L) (by omega) (x / 7)).1
  have gh := getD_get hi default
  unfold Lo.splice
  simp only
  generalize hh0 : L.hs.getD (L.at (x / 7)) default = h0 at *
  have ta := tips_anew L.bk h0 L.bk.n
  have ba := bare_anew L.bk h0 L.bk.n
  have nf : (h0.anew L.bk L.bk.n).nt = h0.nt := Hg.nt_anew _ _ _
  generalize hds : (h0.tips.map fun t => match t with
    | .tip _ y _ => y
    | _ => ⟨#[]⟩) = ds at *
  have hdl : ds.length = h0.nt := by rw [← hds, List.length_map]; rfl
  generalize h0.anew L.bk L.bk.n = far at *
  -- the splices
  have ts : (tipsS (L.spl x far h0)).Perm ((h0.tips ++ far.mir.tips) ++ tipsS L.sp) := by
    unfold Lo.spl
    refine (tipsS_perm (ins_perm _ _ _)).trans ?_
    rw [tipsS_cons]
    refine List.Perm.append_right _ ?_
    split
    · exact List.perm_append_comm
    · exact .refl _
  have ms : ∀ p ∈ L.spl x far h0, p.1.mirs p.2 = true := by
    intro p hp
    unfold Lo.spl at hp
    rcases mem_ins hp with q | rfl
    · exact mir p q
    · have e1 : h0.mirs far.mir = true := by
        rw [Hg.mirs_bare, bare_mir, bare_mir, ba]; simp
      split
      · rw [mirs_symm]; exact e1
      · exact e1
  have all : ∀ hs : List Hg, (h0.tips ++ tipsL hs).Perm (far.tips ++ tipsL L.hs) → (allT hs (L.spl x far h0)).Perm (cordTips (L.bk.up h0.nt) 0 (ys ++ ds)) := by
    intro hs hp
    have e0 : ∀ (zs : List Str) (k : Nat), cordTips (L.bk.up h0.nt) k zs = cordTips L.bk k zs := by
      intro zs
      induction zs with
      | nil => intro k; rfl
      | cons z zs ih => intro k; simp only [cordTips, ih]; rfl
    rw [e0, cordTips_app, hy, Nat.zero_add]
    refine List.Perm.trans ?_ (p.append ta)
    -- hs ++ (h0 ++ far.mir ++ sp)  ~  (L.hs ++ sp) ++ (far ++ far.mir)
    unfold allT
    refine (List.Perm.append_left _ ts).trans ?_
    have s1 : (tipsL hs ++ ((h0.tips ++ far.mir.tips) ++ tipsS L.sp)).Perm ((h0.tips ++ tipsL hs) ++ (far.mir.tips ++ tipsS L.sp)) := by
      rw [List.append_assoc h0.tips, ← List.append_assoc (tipsL hs), List.append_assoc h0.tips (tipsL hs), ← List.append_assoc h0.tips (tipsL hs)]
      exact List.Perm.append_right _ List.perm_append_comm
    refine s1.trans ((hp.append_right _).trans ?_)
    have s2 : ((far.tips ++ tipsL L.hs) ++ (far.mir.tips ++ tipsS L.sp)).Perm ((tipsL L.hs ++ far.tips) ++ (tipsS L.sp ++ far.mir.tips)) := List.perm_append_comm.append List.perm_append_comm
    refine s2.trans ?_
    rw [List.append_assoc, List.append_assoc]
    refine List.Perm.append_left _ ?_
    rw [← List.append_assoc, ← List.append_assoc]
    exact List.Perm.append_right _ List.perm_append_comm
  have len : (ys ++ ds).length = (L.bk.up h0.nt).n := by simp [Bk.up, hy, hdl]
  have set := tipsL_set (b := far) gh
  cases far with
  | tip d y k => exact ⟨⟨ok.lo, ok.step⟩, ⟨ys ++ ds, len, all _ set⟩, ms⟩
  | knot w l r =>
    simp only
    split
    · refine ⟨⟨ok.lo, ok.step⟩, ⟨ys ++ ds, len, all _ ?_⟩, ms⟩
      have q1 := tipsL_perm (ins_perm (L.hs.set (L.at (x / 7)) l) (L.at (x / 7) + 1) r)
      rw [tipsL_cons] at q1
      have q2 := tipsL_set (b := l) gh
      refine (List.Perm.append_left _ q1).trans ?_
      have q3 : (h0.tips ++ (r.tips ++ tipsL (L.hs.set (L.at (x / 7)) l))).Perm (r.tips ++ (h0.tips ++ tipsL (L.hs.set (L.at (x / 7)) l))) := by
        rw [← List.append_assoc, ← List.append_assoc]
        exact List.Perm.append_right _ List.perm_append_comm
      refine q3.trans ((List.Perm.append_left _ q2).trans ?_)
      simp only [Hg.tips]
      rw [← List.append_assoc]
      exact List.Perm.append_right _ List.perm_append_comm
    · exact ⟨⟨ok.lo, ok.step⟩, ⟨ys ++ ds, len, all _ set⟩, ms⟩
theorem Lo.Net.step {L : Lo} (h : L.Net) (good : Bool) (x : Int) : (L.step good x).Net := by
  unfold Lo.step
  split
  · exact h.cord x
  next q =>
    split
    · exact h.splice (by omega) x good
    · exact h.tie (Lo.at2_ne (by omega) x) (getD_get (Lo.at_lt (by omega) _).1 _) (getD_get (Lo.at2_lt (by omega) _) _)
theorem fold_net (good : Bool) : ∀ (xs : List Int) (L : Lo), L.Net → (xs.foldl (Lo.step good) L).Net
  | [], _, h => h
  | x :: xs, L, h => fold_net good xs _ (h.step good x)
theorem loftL_net (ns : List Int) (first most : Nat) (good : Bool) : (loftL ns first most good).Net :=
  fold_net good _ _ ⟨bookOf_ok _, ⟨[], rfl, .refl _⟩, fun p hp => by simp [loft0] at hp⟩
theorem kept_net : Kept2 Lo.Net where
  cord := fun L x h => h.cord x
  tie := fun L i j a b mi mj spot h hij ha hb _ _ => h.tie hij ha hb
  turn := fun L i h t hn hi => hn.turn hi t
end Nl
/-! R5: nets made -/
namespace Nl
open PySem Sm
variable {T : Nat → Option Body}
@[simp] theorem w13 : (Str.ofString "rack" = Str.ofString "splices") = False := eq_false (by decide +kernel)
@[simp] theorem w14 : (Str.ofString "rack" = Str.ofString "rings") = False := eq_false (by decide +kernel)
@[simp] theorem w15 : (Str.ofString "splices" = Str.ofString "rings") = False := eq_false (by decide +kernel)
@[simp] theorem w16 : (Str.ofString "splices" = Str.ofString "rack") = False := eq_false (by decide +kernel)
@[simp] theorem w17 : (Str.ofString "rings" = Str.ofString "rack") = False := eq_false (by decide +kernel)
@[simp] theorem w18 : (Str.ofString "rings" = Str.ofString "splices") = False := eq_false (by decide +kernel)
def netF : List Str := ["rack", "splices", "rings"]
def netD (hs : List Hg) (sp : List (Hg × Hg)) (rings : Int) : D := .obj 7 netF [.lst (hs.map ofH), .lst (sp.map ofP), .int rings]
theorem fld_obj {S : Store} {c : Nat} {f : Str} {ns : List Str} {ds : List D} {r : D} (h : (ns.zip ds).lookup f = some r) : oFld c f S (.obj c ns ds) = .ok r S := by
  unfold oFld
  simp [h]
theorem fld_cell {S : Store} {n c : Nat} {f : Str} {ns : List Str} {ds : List D} {r : D} (hS : S[n]? = some (.ins c ns ds)) (h : (ns.zip ds).lookup f = some r) : oFld c f S (.cell n) = .ok r S := by
  unfold oFld
  have : objOf S (.cell n) = some (c, ns, ds) := by
    show (match S[n]? with
    | some (.ins c ns ds) => some (c, ns, ds)
    | _ => none) = _
    rw [hS]
  simp [this, h]
theorem lk_rack (a b c : D) : (netF.zip [a, b, c]).lookup (Str.ofString "rack") = some a := by simp [netF, List.lookup]
theorem lk_spl (a b c : D) : (netF.zip [a, b, c]).lookup (Str.ofString "splices") = some b := by
  have : (Str.ofString "splices" == Str.ofString "rack") = false := beq_eq_false_iff_ne.mpr (by simp)
  simp [netF, List.lookup, this]
theorem lk_rings (a b c : D) : (netF.zip [a, b, c]).lookup (Str.ofString "rings") = some c := by
  have h1 : (Str.ofString "rings" == Str.ofString "rack") = false := beq_eq_false_iff_ne.mpr (by simp)
  have h2 : (Str.ofString "rings" == Str.ofString "splices") = false := beq_eq_false_iff_ne.mpr (by simp)
  simp [netF, List.lookup, h1, h2]
@[simp] theorem net_rack (S : Store) (hs : List Hg) (sp : List (Hg × Hg)) (r : Int) : oFld 7 "rack" S (netD hs sp r) = .ok (.lst (hs.map ofH)) S := fld_obj (lk_rack _ _ _)
@[simp] theorem net_spl (S : Store) (hs : List Hg) (sp : List (Hg × Hg)) (r : Int) : oFld 7 "splices" S (netD hs sp r) = .ok (.lst (sp.map ofP)) S := fld_obj (lk_spl _ _ _)
@[simp] theorem net_rings (S : Store) (hs : List Hg) (sp : List (Hg × Hg)) (r : Int) : oFld 7 "rings" S (netD hs sp r) = .ok (.int r) S := fld_obj (lk_rings _ _ _)
@[simp] theorem net_is (S : Store) (hs : List Hg) (sp : List (Hg × Hg)) (r : Int) : oIsC 7 S (netD hs sp r) = .ok (.bl true) S := by
  unfold oIsC netD
  simp
/-! ### the program's tips -/
theorem e_p_tips (c0 : T f_p_is_tip = some b_p_is_tip) (c : T f_p_tips = some b_p_tips) : ∀ (h : Hg) {N : Nat} (_ : h.depth + 3 ≤ N) (_ : h.nt ≤ sizeLine) (S : Store), ev T N f_p_tips [ofH h] S = .ok (ofL h.tips) S
  | .tip d y k, N, hN, _, S => by
    obtain ⟨n, rfl, _⟩ := two_up 1 (N := N) (by omega)
    have t1 := e_p_is_tip c0 (.tip d y k) (N := n + 1) (by omega) S
    rw [ev_s c]
    simp at t1
    simp [step1, b_p_tips, t1, Hg.isTip, Hg.tips, ofL]
  | .knot k l r, N, hN, hz, S => by
    obtain ⟨n, rfl, hl, hr, _⟩ := dl 2 hN (by omega)
    have t1 := e_p_is_tip c0 (.knot k l r) (N := n + 1) (by omega) S
    rw [Hg.nt_knot] at hz
    have h1 := e_p_tips c0 c l (N := n + 1) (by omega) (by omega) S
    have h2 := e_p_tips c0 c r (N := n + 1) (by omega) (by omega) S
    have z : l.tips.length + r.tips.length ≤ sizeLine := hz
    rw [ev_s c]
    simp at t1
    simp [step1, b_p_tips, t1, h1, h2, Hg.isTip, Hg.tips, ofL, z]
theorem cl_H (n : Nat) : ∀ h : Hg, Cl n (ofH h)
  | .tip d y k => by simp [ofH, Cl, ClL]
  | .knot k l r => by simp [ofH, Cl, ClL, cl_H n l, cl_H n r]
theorem cl_map {A : Type} {f : A → D} {n : Nat} (h : ∀ a, Cl n (f a)) : ∀ l : List A, ClL n (l.map f)
  | [] => trivial
  | a :: l => ⟨h a, cl_map h l⟩
theorem cl_P (n : Nat) (p : Hg × Hg) : Cl n (ofP p) := by simp [ofP, Cl, ClL, cl_H]
theorem tipsL_len (l : List Hg) : (tipsL l).length = nts l := by
  induction l with
  | nil => rfl
  | cons h l ih => rw [tipsL_cons, nts_cons, List.length_append, ih]; rfl
theorem take_app {A : Type} (S X : List A) : (S ++ X).take S.length = S := List.take_left'  rfl
theorem set_app {A : Type} (S : List A) (x y : A) : (S ++ [x]).set S.length y = S ++ [y] := by
  rw [List.set_append_right _ _ (Nat.le_refl _)]; simp
/-- the tips of some hangs -/
theorem e_p_all_tips (c0 : T f_p_is_tip = some b_p_is_tip) (c1 : T f_p_tips = some b_p_tips) (c : T f_p_all_tips = some b_p_all_tips) (hs : List Hg) {d : D} (hi : ∀ S, itemsA [d] S = some (hs.map fun h => [ofH h])) (hd : ∀ h ∈ hs, h.depth ≤ 100) (hz : nts hs ≤ 1000000) {N : Nat} (hN : 110 ≤ N) (S : Store) :
    ev T N f_p_all_tips [d] S = .ok (.cell S.length) (S ++ [.lst ((tipsL hs).map ofH)]) := by
  obtain ⟨n, rfl, _⟩ := two_up 108 (N := N) hN
  rw [ev_s c]
  simp [step1, b_p_all_tips]
  rw [for_src (src := [d]) (by simp; rfl) hi]
  generalize hz0 : forV _ _ _ _ _ = zz
  obtain ⟨r, S1, h1, ⟨o, rfl⟩, rfl, hl⟩ := forV_z hz0 (fun (u : List Hg) (h : Hg) => u ++ h.tips)
    (fun i u ρ S1 => (∃ o, ρ = [some d, some (.cell S.length), o]) ∧ S1 = S ++ [.lst (u.map ofH)] ∧ u = tipsL (hs.take i)) (st := []) ⟨⟨none, rfl⟩, rfl, rfl⟩
    (by
      rintro i u h ρ S1 hx ⟨⟨o, rfl⟩, rfl, hu⟩
      have mh := List.mem_of_getElem? hx
      have dh := hd h mh
      have nh := nts_mem mh
      have t1 := e_p_tips c0 c1 h (N := n + 1) (by omega) (Nat.le_trans (by omega : h.nt ≤ 1000000) (by decide)) (S ++ [.lst (u.map ofH)])
      have hu2 : u ++ h.tips = tipsL (hs.take (i + 1)) := by rw [List.take_add_one, hx, tipsL_app, hu]; simp [tipsL]
      have ln : (u ++ h.tips).length ≤ sizeLine := by
        rw [hu2, tipsL_len]
        have : nts (hs.take (i + 1)) ≤ nts hs := by
          have e := nts_app (hs.take (i + 1)) (hs.drop (i + 1))
          rw [List.take_append_drop] at e; omega
        exact Nat.le_trans this (Nat.le_trans hz (by decide))
      rw [List.length_append] at ln
      exact ⟨_, S ++ [.lst ((u ++ h.tips).map ofH)], by simp [setAll, t1, ofL, ln]; rfl, ⟨_, rfl⟩, rfl, hu2⟩)
  subst h1
  have e : hs.foldl (fun (u : List Hg) (h : Hg) => u ++ h.tips) [] = tipsL hs := by
    rw [hl]; simp
  rw [e]
  simp
structure NetFns (T : Nat → Option Body) : Prop where
  is_tip : T f_p_is_tip = some b_p_is_tip
  tips : T f_p_tips = some b_p_tips
  all_tips : T f_p_all_tips = some b_p_all_tips
  mirrors : T f_p_mirrors = some b_p_mirrors
  net_tips : T f_p_net_tips = some b_p_net_tips
  check_cords : T f_p_check_cords = some b_p_check_cords
  init : T f_p_Net_init = some b_p_Net_init
/-- what of a net's hangs the program must be able to bear -/
structure Small (hs : List Hg) (sp : List (Hg × Hg)) : Prop where
  dh : ∀ h ∈ hs, h.depth ≤ 100
  dp : ∀ p ∈ sp, p.1.depth ≤ 100 ∧ p.2.depth ≤ 100
  z : (allT hs sp).length ≤ 1000000
  zs : hs.length ≤ 1000000 ∧ sp.length ≤ 1000000
/-- the tips of a net; d: the net, as an object or a cell -/
theorem e_p_net_tips (c : NetFns T) (hs : List Hg) (sp : List (Hg × Hg)) (sm : Small hs sp) {d : D} {S : Store} (h1 : ∀ X, oFld 7 "rack" (S ++ X) d = .ok (.lst (hs.map ofH)) (S ++ X)) (h2 : ∀ X, oFld 7 "splices" (S ++ X) d = .ok (.lst (sp.map ofP)) (S ++ X)) {N : Nat} (hN : 112 ≤ N) :
    ev T N f_p_net_tips [d] S = .ok (ofL (allT hs sp)) S := by
  obtain ⟨n, rfl, _⟩ := two_up 110 (N := N) hN
  rw [ev_s c.net_tips]
  have h10 := h1 []
  rw [List.append_nil] at h10
  have zl : nts hs ≤ 1000000 := by
    have := sm.z
    unfold allT at this
    rw [List.length_append, tipsL_len] at this; omega
  have t1 := e_p_all_tips c.is_tip c.tips c.all_tips hs (d := .lst (hs.map ofH)) (fun S => by rw [itA_lst, ones_map]) sm.dh zl (N := n + 1) (by omega) S
  simp [step1, b_p_net_tips, h10, t1]
  have h2' := h2 [.lst ((tipsL hs).map ofH)]
  rw [for_src (src := [.lst (sp.map ofP)]) (by simp [h2']; rfl) (fun S => itA_lst _ S), ones_map]
  generalize hz0 : forV _ _ _ _ _ = zz
  obtain ⟨r, S1, e1, ⟨o, rfl⟩, ⟨X, rfl⟩, hl⟩ := forV_z hz0 (fun (u : List Hg) (p : Hg × Hg) => u ++ tipsP p)
    (fun i u ρ S1 => (∃ o, ρ = [some d, some (.cell S.length), o]) ∧ (∃ X, S1 = S ++ .lst (u.map ofH) :: X) ∧ u = tipsL hs ++ tipsS (sp.take i)) (st := tipsL hs) ⟨⟨none, rfl⟩, ⟨[], rfl⟩, by simp [tipsS]⟩
    (by
      rintro i u p ρ S1 hx ⟨⟨o, rfl⟩, ⟨X, rfl⟩, hu⟩
      have mp := List.mem_of_getElem? hx
      have dp := sm.dp p mp
      have hu2 : u ++ tipsP p = tipsL hs ++ tipsS (sp.take (i + 1)) := by rw [List.take_add_one, hx, hu]; simp [tipsS]
      have ln : (u ++ tipsP p).length ≤ 1000000 := by
        rw [hu2]
        refine Nat.le_trans ?_ sm.z
        unfold allT
        rw [List.length_append, List.length_append]
        have e := congrArg List.length (show tipsS (sp.take (i + 1)) ++ tipsS (sp.drop (i + 1)) = tipsS sp by unfold tipsS; rw [← List.flatMap_append, List.take_append_drop])
        rw [List.length_append] at e; omega
      have ln2 : (u ++ tipsP p).length ≤ sizeLine := Nat.le_trans ln (by decide)
      have lp : nts [p.1, p.2] ≤ 1000000 := by
        rw [List.length_append] at ln
        have : (tipsP p).length = nts [p.1, p.2] := by simp [tipsP, nts, Hg.nt]
        omega
      have t2 := e_p_all_tips c.is_tip c.tips c.all_tips [p.1, p.2] (d := ofP p) (fun S => itA_tup (ds := [ofH p.1, ofH p.2]) (show 2 ≤ sizeLine by decide) S) (fun h hh => by
          simp at hh
          rcases hh with rfl | rfl
          · exact dp.1
          · exact dp.2) lp (N := n + 1) (by omega) (S ++ .lst (u.map ofH) :: X)
      have e2 : tipsL [p.1, p.2] = tipsP p := by simp [tipsL, tipsP]
      rw [e2] at t2
      rw [List.length_append] at ln2
      refine ⟨[some d, some (.cell S.length), some (ofP p)], S ++ .lst ((u ++ tipsP p).map ofH) :: (X ++ [.lst ((tipsP p).map ofH)]), ?_, ⟨_, rfl⟩, ⟨_, rfl⟩, hu2⟩
      simp at t2
      simp [setAll, t2, ln2])
  subst e1
  have e : sp.foldl (fun (u : List Hg) (p : Hg × Hg) => u ++ tipsP p) (tipsL hs) = allT hs sp := by
    rw [hl]; simp [allT]
  rw [e]
  simp
  exact fin_frz (by simp) (take_app _ _) (Nat.le_refl _) (cl_map (cl_H _) _)
/-! ### cords checked -/
def dictOf (l : List (Int × Str)) : List (L2.Key × D) := l.map fun p => (.inl p.1, .str p.2)
theorem val_none {l : List (Int × Str)} {n : Int} (h : n ∉ l.map (·.1)) : valK (dictOf l) (.inl n) = none := by
  induction l with
  | nil => rfl
  | cons p l ih =>
    simp at h
    have h1 : ¬ ((Sum.inl p.1 : L2.Key) = Sum.inl n) := by simp; exact fun z => h.1 z.symm
    have : valK (dictOf (p :: l)) (.inl n) = valK (dictOf l) (.inl n) := by simp [valK, dictOf, h1]
    rw [this]
    exact ih (by simpa using h.2)
theorem val_some {l : List (Int × Str)} {n : Int} {y : Str} (nd : (l.map (·.1)).Nodup) (h : (n, y) ∈ l) : valK (dictOf l) (.inl n) = some (.str y) := by
  induction l with
  | nil => cases h
  | cons p l ih =>
    rw [List.map_cons, List.nodup_cons] at nd
    rcases List.mem_cons.mp h with e | e
    · subst e; simp [valK, dictOf]
    · have : p.1 ≠ n := fun z => nd.1 (by rw [z]; exact List.mem_map.mpr ⟨_, e, rfl⟩)
      have h1 : ¬ ((Sum.inl p.1 : L2.Key) = Sum.inl n) := by simpa using this
      have e2 : valK (dictOf (p :: l)) (.inl n) = valK (dictOf l) (.inl n) := by simp [valK, dictOf, h1]
      rw [e2]
      exact ih nd.2 e
theorem put_new {l : List (Int × Str)} {n : Int} (y : Str) (h : n ∉ l.map (·.1)) : putG (dictOf l) (.inl n) (.str y) = dictOf (l ++ [(n, y)]) := by
  have : (dictOf l).any (fun kv => decide (kv.1 = .inl n)) = false := by
    rw [List.any_eq_false]
    intro kv hkv
    obtain ⟨p, hp, rfl⟩ := List.mem_map.mp hkv
    simp
    exact fun z => h (by rw [← z]; exact List.mem_map.mpr ⟨p, hp, rfl⟩)
  unfold putG
  rw [this]
  simp [dictOf]
theorem in_dk {S : Store} {m : Nat} {kvs : List (L2.Key × D)} (h : S[m]? = some (.dk kvs)) (n : Int) : oIn S (.int n) (.cell m) = .ok (.bl (valK kvs (.inl n)).isSome) S := by
  unfold oIn oInB
  have h1 : inStr (.int n) (.cell m) = none := rfl
  have h2 : dGet S (.cell m) (.int n) = some (valK kvs (.inl n)) := by simp [dGet, dLook, h, keyOf]
  rw [h1, h2]
theorem hits_all {ls : List (Int × Str)} (nd : (ls.map (·.1)).Nodup) : ∀ ks : List (Int × Str), (∀ p ∈ ks, p ∈ ls) → hitsD (dictOf ls) (dictOf ks) = some true
  | [], _ => rfl
  | (n, y) :: ks, h => by
    have e := val_some nd (h (n, y) List.mem_cons_self)
    have ih := hits_all nd ks fun p hp => h p (List.mem_cons_of_mem _ hp)
    show (match valK (dictOf ls) (.inl n) with
    | none => some false
    | some v => match eqScD (.str y) v, hitsD (dictOf ls) (dictOf ks) with
      | some e, some b => some (e && b)
      | _, _ => none) = _
    rw [e, ih]
    simp [eqScD]
theorem nodup_len {A : Type} [DecidableEq A] : ∀ {l m : List A}, l.Nodup → (∀ a ∈ l, a ∈ m) → l.length ≤ m.length
  | [], _, _, _ => Nat.zero_le _
  | a :: l, m, nd, h => by
    rw [List.nodup_cons] at nd
    have hm := h a List.mem_cons_self
    have p := List.perm_cons_erase hm
    have : ∀ b ∈ l, b ∈ m.erase a := fun b hb => by
      have := p.mem_iff.mp (h b (List.mem_cons_of_mem _ hb))
      rcases List.mem_cons.mp this with e | e
      · subst e; exact absurd hb nd.1
      · exact e
    have := nodup_len nd.2 this
    have e := p.length_eq
    simp at e ⊢; omega
theorem nodup_of_map {A B : Type} {f : A → B} : ∀ {l : List A}, (l.map f).Nodup → l.Nodup
  | [], _ => List.nodup_nil
  | a :: l, h => by
    rw [List.map_cons, List.nodup_cons] at h
    exact List.nodup_cons.mpr ⟨fun z => h.1 (List.mem_map.mpr ⟨a, z, rfl⟩), nodup_of_map h.2⟩
theorem Fits.len {ts : List Hg} (h : Fits ts) : (lightsOf ts).length = (darksOf ts).length :=
  Nat.le_antisymm (nodup_len (nodup_of_map h.ln) fun a ha => (h.mate a).mp ha) (nodup_len (nodup_of_map h.dn) fun a ha => (h.mate a).mpr ha)
theorem lights_len (l : List Hg) : (lightsOf l).length ≤ l.length := by
  induction l with
  | nil => exact Nat.le_refl _
  | cons a l ih =>
    cases a with
    | tip d y n => cases d <;> simp [lightsOf] <;> omega
    | knot k x y => simp [lightsOf]; omega
theorem darks_len (l : List Hg) : (darksOf l).length ≤ l.length := by
  induction l with
  | nil => exact Nat.le_refl _
  | cons a l ih =>
    cases a with
    | tip d y n => cases d <;> simp [darksOf] <;> omega
    | knot k x y => simp [darksOf]; omega
theorem dict_len (l : List (Int × Str)) : (dictOf l).length = l.length := by simp [dictOf]
theorem e_p_check_cords (c : T f_p_check_cords = some b_p_check_cords) {ts : List Hg} (ft : Fits ts) (hz : ts.length ≤ 1000000) {N : Nat} (hN : 2 ≤ N) (S : Store) : ev T N f_p_check_cords [.lst (ts.map ofH)] S = .ok .non S := by
  obtain ⟨n, rfl, _⟩ := two_up 0 (N := N) hN
  rw [ev_s c]
  simp [step1, b_p_check_cords]
  rw [for_src (src := [.lst (ts.map ofH)]) (by simp; rfl) (fun S => itA_lst _ S), ones_map]
  generalize hz0 : forV _ _ _ _ _ = zz
  obtain ⟨r, S1, e1, ⟨o3, o4, rfl⟩, rfl⟩ := forV_z hz0 (fun (u : Unit) (_ : Hg) => u)
    (fun i _ ρ S1 => (∃ o3 o4, ρ = [some (.lst (ts.map ofH)), some (.cell S.length), some (.cell (S.length + 1)), o3, o4]) ∧ S1 = S ++ [.dk (dictOf (lightsOf (ts.take i))), .dk (dictOf (darksOf (ts.take i)))]) (st := ()) ⟨⟨none, none, rfl⟩, by simp [lightsOf, darksOf, dictOf]⟩
    (by
      rintro i _ t ρ S1 hx ⟨⟨o3, o4, rfl⟩, rfl⟩
      have ht := ft.tip t (List.mem_of_getElem? hx)
      have hi := lt_of_get hx
      have tk : ts.take (i + 1) = ts.take i ++ [t] := by rw [List.take_add_one, hx]; rfl
      have full : ts.take i ++ (t :: ts.drop (i + 1)) = ts := by
        have := List.take_append_drop i ts
        rw [List.drop_eq_getElem_cons hi] at this
        rw [List.getElem?_eq_getElem hi] at hx
        cases hx
        exact this
      have l1 := lights_len (ts.take i)
      have l2 := darks_len (ts.take i)
      have l3 : (ts.take i).length ≤ ts.length := by rw [List.length_take]; omega
      have z1 : (dictOf (lightsOf (ts.take i))).length < sizeLine := by rw [dict_len]; exact Nat.lt_of_le_of_lt (by omega : _ ≤ 1000000) (by decide)
      have z2 : (dictOf (darksOf (ts.take i))).length < sizeLine := by rw [dict_len]; exact Nat.lt_of_le_of_lt (by omega : _ ≤ 1000000) (by decide)
      cases t with
      | knot _ _ _ => cases ht
      | tip d y m =>
        cases d with
        | false =>
          have nn : m ∉ (lightsOf (ts.take i)).map (·.1) := by
            have := ft.ln
            rw [← full, lights_app, List.map_append, List.nodup_append] at this
            intro hm
            exact this.2.2 m hm m (by simp [lightsOf]) rfl
          have vn := val_none nn
          have pn := put_new y nn
          have ik := in_dk (S := S ++ [.dk (dictOf (lightsOf (ts.take i))), .dk (dictOf (darksOf (ts.take i)))]) (m := S.length) (kvs := dictOf (lightsOf (ts.take i))) (by simp) m
          rw [vn] at ik
          refine ⟨[some (.lst (ts.map ofH)), some (.cell S.length), some (.cell (S.length + 1)), some (ofH (.tip false y m)), some (.cell S.length)], _, by simp [setAll, ik, keyOf, z1, pn]; rfl, ⟨_, _, rfl⟩, ?_⟩
          rw [tk, lights_app, darks_app]
          simp [lightsOf, darksOf]
        | true =>
          have nn : m ∉ (darksOf (ts.take i)).map (·.1) := by
            have := ft.dn
            rw [← full, darks_app, List.map_append, List.nodup_append] at this
            intro hm
            exact this.2.2 m hm m (by simp [darksOf]) rfl
          have vn := val_none nn
          have pn := put_new y nn
          have ik := in_dk (S := S ++ [.dk (dictOf (lightsOf (ts.take i))), .dk (dictOf (darksOf (ts.take i)))]) (m := S.length + 1) (kvs := dictOf (darksOf (ts.take i))) (by simp) m
          rw [vn] at ik
          refine ⟨[some (.lst (ts.map ofH)), some (.cell S.length), some (.cell (S.length + 1)), some (ofH (.tip true y m)), some (.cell (S.length + 1))], _, by simp [setAll, ik, keyOf, z2, pn]; rfl, ⟨_, _, rfl⟩, ?_⟩
          rw [tk, lights_app, darks_app]
          simp [lightsOf, darksOf])
  subst e1
  have q : oNeX (S ++ [.dk (dictOf (lightsOf (ts.take ts.length))), .dk (dictOf (darksOf (ts.take ts.length)))]) (.cell S.length) (.cell (S.length + 1)) = .ok (.bl false) (S ++ [.dk (dictOf (lightsOf (ts.take ts.length))), .dk (dictOf (darksOf (ts.take ts.length)))]) := by
    unfold oNeX
    have : dEq (S ++ [.dk (dictOf (lightsOf (ts.take ts.length))), .dk (dictOf (darksOf (ts.take ts.length)))]) (.cell S.length) (.cell (S.length + 1)) = some true := by
      simp only [List.take_length]
      unfold dEq
      simp [dkOf, dict_len, ft.len, hits_all ft.dn (lightsOf ts) fun p hp => (ft.mate p).mp hp]
    rw [this]; rfl
  simp at q
  simp [q]
  exact fin_nxT (take_app _ _)
end Nl
/-! R6: nets made and compared -/
namespace Nl
open PySem Sm
variable {T : Nat → Option Body}
def kCI (o : Option MO) (n : Nat) : Option (Nat × Nat × List Str × List D) := match o with
  | some (.ins c ns ds) => some (n, c, ns, ds)
  | _ => none
@[simp] theorem kCI_ins (n c : Nat) (ns : List Str) (ds : List D) : kCI (some (.ins c ns ds)) n = some (n, c, ns, ds) := rfl
@[simp] theorem cellI_c (S : Store) (n : Nat) : Sm.cellI S (.cell n) = kCI (S[n]?) n := by unfold Sm.cellI kCI; rfl
theorem put1 : putN (Str.ofString "rack") [] = [Str.ofString "rack"] := rfl
theorem put2 : putN (Str.ofString "splices") [Str.ofString "rack"] = [Str.ofString "rack", Str.ofString "splices"] := by simp [putN]
theorem put3 : putN (Str.ofString "splices") [Str.ofString "rack", Str.ofString "splices"] = [Str.ofString "rack", Str.ofString "splices"] := by simp [putN]
theorem put4 : putN (Str.ofString "rings") [Str.ofString "rack", Str.ofString "splices"] = netF := by simp [putN, netF]
theorem pud1 (a : D) : putD (Str.ofString "rack") a [] [] = [a] := rfl
theorem pud2 (a b : D) : putD (Str.ofString "splices") b [Str.ofString "rack"] [a] = [a, b] := by simp [putD]
theorem pud3 (a b c : D) : putD (Str.ofString "splices") c [Str.ofString "rack", Str.ofString "splices"] [a, b] = [a, c] := by simp [putD]
theorem pud4 (a b c : D) : putD (Str.ofString "rings") c [Str.ofString "rack", Str.ofString "splices"] [a, b] = [a, b, c] := by simp [putD]
theorem notN_lst (S : Store) (ds : List D) : oNotN S (.lst ds) .non = .ok (.bl true) S := rfl
theorem notN_tup (S : Store) (ds : List D) : oNotN S (.tup ds) .non = .ok (.bl true) S := rfl
@[simp] theorem notN_non (S : Store) : oNotN S .non .non = .ok (.bl false) S := rfl
theorem made_ok {S : Store} {ns : List Str} {ds : List D} (h : ClL S.length ds) : made true S (.ok .non (S ++ [.ins 7 ns ds])) = .ok (.obj 7 ns ds) S := by
  unfold made
  simp [h]
/-- the end of Net.__init__: cords and mirrors -/
theorem net_end (c : NetFns T) {hs : List Hg} {sp : List (Hg × Hg)} {rings : Int} (sm : Small hs sp) (ft : Fits (allT hs sp)) (mr : ∀ p ∈ sp, p.1.mirs p.2 = true) {n : Nat} (hN : 111 ≤ n) (S : Store) (o4 o2 : Option D) (o1 o3 : Option D) :
    ∃ r, (sSeq (sDrop (mN (fun S ds => ev T (n + 1) f_p_check_cords ds S) (mCons (mN (fun S ds => ev T (n + 1) f_p_net_tips ds S) (mCons (mV 0) (mNil))) (mNil)))) (sFor (mCons (m1 (oFld 7 "splices") (mV 0)) mNil) itemsA [4] (sIf (mNot (mN (fun S ds => ev T (n + 1) f_p_mirrors ds S) (mCons (m2 oIx (mV 4) (mC (.int 0))) (mCons (m2 oIx (mV 4) (mC (.int 1))) (mNil))))) (sRaise 3) (sNil))))
      [some (.cell S.length), o1, o2, o3, o4] (S ++ [.ins 7 netF [.lst (hs.map ofH), .lst (sp.map ofP), .int rings]]) = .ok (.nx r) (S ++ [.ins 7 netF [.lst (hs.map ofH), .lst (sp.map ofP), .int rings]]) := by
  have g1 : ∀ X, oFld 7 "rack" ((S ++ [.ins 7 netF [.lst (hs.map ofH), .lst (sp.map ofP), .int rings]]) ++ X) (.cell S.length) = .ok (.lst (hs.map ofH)) ((S ++ [.ins 7 netF [.lst (hs.map ofH), .lst (sp.map ofP), .int rings]]) ++ X) := fun X =>
    fld_cell (ns := netF) (ds := [.lst (hs.map ofH), .lst (sp.map ofP), .int rings]) (gapp (by simp) X) (lk_rack _ _ _)
  have g2 : ∀ X, oFld 7 "splices" ((S ++ [.ins 7 netF [.lst (hs.map ofH), .lst (sp.map ofP), .int rings]]) ++ X) (.cell S.length) = .ok (.lst (sp.map ofP)) ((S ++ [.ins 7 netF [.lst (hs.map ofH), .lst (sp.map ofP), .int rings]]) ++ X) := fun X =>
    fld_cell (ns := netF) (ds := [.lst (hs.map ofH), .lst (sp.map ofP), .int rings]) (gapp (by simp) X) (lk_spl _ _ _)
  have t1 := e_p_net_tips c hs sp sm g1 g2 (N := n + 1) (by omega)
  have t2 := e_p_check_cords c.check_cords ft sm.z (N := n + 1) (by omega) (S ++ [.ins 7 netF [.lst (hs.map ofH), .lst (sp.map ofP), .int rings]])
  have g2' := g2 []
  rw [List.append_nil] at g2'
  generalize S ++ [.ins 7 netF [.lst (hs.map ofH), .lst (sp.map ofP), .int rings]] = S1 at *
  simp [t1, ofL, t2]
  rw [for_src (src := [.lst (sp.map ofP)]) (by simp [g2']; rfl) (fun S => itA_lst _ S), ones_map]
  generalize hz0 : forV _ _ _ _ _ = zz
  obtain ⟨r, S2, e1, ⟨o, rfl⟩, rfl⟩ := forV_z hz0 (fun (u : Unit) (_ : Hg × Hg) => u) (fun i _ ρ S2 => (∃ o, ρ = [some (.cell S.length), o1, o2, o3, o]) ∧ S2 = S1) (st := ()) ⟨⟨_, rfl⟩, rfl⟩
    (by
      rintro i _ p ρ S2 hx ⟨⟨o, rfl⟩, rfl⟩
      have mp := List.mem_of_getElem? hx
      have t3 := e_p_mirrors c.is_tip c.mirrors p.1 p.2 (N := n + 1) (by have := (sm.dp p mp).1; omega) S2
      rw [mr p mp] at t3
      exact ⟨[some (.cell S.length), o1, o2, o3, some (ofP p)], S2, by simp [setAll, ofP, t3], ⟨_, rfl⟩, rfl⟩)
  exact ⟨_, e1⟩
/-- a net is made of a rack and splices, handed in as lists or tuples -/
theorem e_net (c : NetFns T) {hs : List Hg} {sp : List (Hg × Hg)} {rings : Int} (sm : Small hs sp) (ft : Fits (allT hs sp)) (mr : ∀ p ∈ sp, p.1.mirs p.2 = true) {rd sd : D} (hr : ∀ S, seqA S rd = some (hs.map ofH)) (hn : ∀ S, oNotN S sd .non = .ok (.bl true) S)
    (hi : ∀ S, itemsA [sd] S = some (sp.map fun p => [ofP p])) {N : Nat} (hN : 113 ≤ N) (S : Store) : made true S (ev T N f_p_Net_init [.cell S.length, rd, sd, .int rings] (S ++ [.ins 7 [] []])) = .ok (netD hs sp rings) S := by
  obtain ⟨n, rfl, _⟩ := two_up 111 (N := N) hN
  rw [ev_s c.init]
  have z1 : hs.length ≤ sizeLine := Nat.le_trans sm.zs.1 (by decide)
  obtain ⟨r, e1⟩ := net_end c (rings := rings) sm ft mr (n := n) (by omega) S none (some sd) (some rd) (some (.int rings))
  have key : step1 b_p_Net_init (ev T (n + 1)) (ev T n) [.cell S.length, rd, sd, .int rings] (S ++ [.ins 7 [] []]) = .ok .non (S ++ [.ins 7 netF [.lst (hs.map ofH), .lst (sp.map ofP), .int rings]]) := by
    simp [step1, b_p_Net_init, oList, hr, hn, z1, put1, put2, pud1, pud2]
    rw [comp_map (d := sd) sp ofP ofP (by simp) (hi _) (fun p _ => by simp [setAll, wipeE, ofP, oTuple])]
    simp [put3, put4, pud3, pud4]
    simp at e1
    rw [e1]
    rfl
  rw [key]
  exact made_ok ⟨cl_map (cl_H _) _, cl_map (cl_P _) _, trivial, trivial⟩
end Nl
/-! R7: nets compared by the laws -/
namespace Nl
open PySem Sm
variable {T : Nat → Option Body}
structure EqFns (T : Nat → Option Body) : Prop where
  whole : T f_l_whole = some b_l_whole
  hang : T f_l_hang = some b_l_hang
  hangs : T f_l_hangs = some b_l_hangs
  pairs : T f_l_pairs = some b_l_pairs
  net : T f_l_net = some b_l_net
theorem itZ {S : Store} {d e : D} {ds es : List D} (h1 : seqL S d = some ds) (h2 : seqL S e = some es) : itemsZ [d, e] S = some (zipD ds es) := by
  show (match seqL S d, seqL S e with
    | some ds, some es => some (zipD ds es)
    | _, _ => none) = _
  rw [h1, h2]
theorem zip_same {A : Type} (f : A → D) : ∀ l : List A, zipD (l.map f) (l.map f) = l.map fun a => [f a, f a]
  | [] => rfl
  | a :: l => by simp only [List.map_cons, zipD, zip_same f l]
def FineL (hs : List Hg) : Prop := ∀ h ∈ hs, h.Fine ∧ h.depth ≤ 60
def FineS (sp : List (Hg × Hg)) : Prop := ∀ p ∈ sp, (p.1.Fine ∧ p.1.depth ≤ 60) ∧ (p.2.Fine ∧ p.2.depth ≤ 60)
theorem seqA_L {S : Store} {d : D} {ds : List D} (h : seqL S d = some ds) : seqA S d = some ds := by
  cases d with
  | tup es => cases h
  | _ => exact h
theorem len_seq {S : Store} {d : D} {ds : List D} (h : seqL S d = some ds) : oLen S [d] = .ok (.int ds.length) S := by
  cases d with
  | str x => cases h
  | lst es => cases h; rfl
  | scr ns => cases h; simp
  | cell n =>
    rw [seqL_cell] at h
    rw [len_cell]
    cases q : S[n]? with
    | none => rw [q] at h; cases h
    | some mo => cases mo <;> rw [q] at h <;> cases h; rfl
  | _ => cases h
theorem e_l_hangs (c : EqFns T) {hs : List Hg} (hf : FineL hs) {S : Store} {due : D} (hd : seqL S due = some (hs.map ofH)) {N : Nat} (hN : 70 ≤ N) : ev T N f_l_hangs [.lst (hs.map ofH), due] S = .ok (.bl true) S := by
  obtain ⟨n, rfl, _⟩ := two_up 68 (N := N) hN
  rw [ev_s c.hangs]
  have hl := len_seq hd
  rw [List.length_map] at hl
  simp [step1, b_l_hangs, hl]
  rw [for_srcL (src := [.lst (hs.map ofH), due]) (by simp) (itZ rfl hd)]
  generalize hz0 : forL _ _ _ _ _ _ _ = zz
  obtain ⟨r, S2, e1, rfl, o2, o3, rfl⟩ := forL_z hz0 (fun h => [ofH h, ofH h]) hs (zip_same ofH hs) (fun i ρ S2 => S2 = S ∧ ∃ o2 o3, ρ = [some (.lst (hs.map ofH)), some due, o2, o3]) ⟨rfl, _, _, rfl⟩
    (by rintro i ρ S2 ⟨rfl, _⟩; exact itZ rfl hd)
    (by
      rintro i h ρ S2 hx ⟨rfl, o2, o3, rfl⟩
      obtain ⟨fh, dh⟩ := hf h (List.mem_of_getElem? hx)
      have t1 := e_l_hang c.whole c.hang h (N := n + 1) (by omega) S2
      have q := oNe_lay eqF_H (lay_H fh) (lay_H fh) (by omega) (by omega) (S := S2) (deref_H _ _) (deref_H _ _)
      exact ⟨[some (.lst (hs.map ofH)), some due, some (ofH h), some (ofH h)], S2, by simp [setAll, t1, q], rfl, _, _, rfl⟩)
  subst e1
  simp
theorem e_l_pairs (c : EqFns T) {sp : List (Hg × Hg)} (hf : FineS sp) {S : Store} {due : D} (hd : seqL S due = some (sp.map ofP)) {N : Nat} (hN : 72 ≤ N) : ev T N f_l_pairs [.lst (sp.map ofP), due] S = .ok (.bl true) S := by
  obtain ⟨n, rfl, _⟩ := two_up 70 (N := N) hN
  rw [ev_s c.pairs]
  have hl := len_seq hd
  rw [List.length_map] at hl
  simp [step1, b_l_pairs, hl]
  rw [for_srcL (src := [.lst (sp.map ofP), due]) (by simp) (itZ rfl hd)]
  generalize hz0 : forL _ _ _ _ _ _ _ = zz
  obtain ⟨r, S2, e1, rfl, o2, o3, rfl⟩ := forL_z hz0 (fun h => [ofP h, ofP h]) sp (zip_same ofP sp) (fun i ρ S2 => S2 = S ∧ ∃ o2 o3, ρ = [some (.lst (sp.map ofP)), some due, o2, o3]) ⟨rfl, _, _, rfl⟩
    (by rintro i ρ S2 ⟨rfl, _⟩; exact itZ rfl hd)
    (by
      rintro i p ρ S2 hx ⟨rfl, o2, o3, rfl⟩
      obtain ⟨f1, f2⟩ := hf p (List.mem_of_getElem? hx)
      have t1 := e_l_hangs c (hs := [p.1, p.2]) (fun h hh => by
        simp at hh
        rcases hh with rfl | rfl
        · exact f1
        · exact f2) (S := S2) (due := .lst [ofH p.1, ofH p.2]) rfl (N := n + 1) (by omega)
      have t1 : ev T (n + 1) f_l_hangs [.lst [ofH p.1, ofH p.2], .lst [ofH p.1, ofH p.2]] S2 = .ok (.bl true) S2 := t1
      have q2 : 2 ≤ sizeLine := by decide
      exact ⟨[some (.lst (sp.map ofP)), some due, some (ofP p), some (ofP p)], S2, by simp [setAll, ofP, oList, q2, t1], rfl, _, _, rfl⟩)
  subst e1
  simp
theorem e_l_net (c : EqFns T) {hs : List Hg} {sp : List (Hg × Hg)} (hf : FineL hs) (sf : FineS sp) (r : Int) {S : Store} {rd sd : D} (hr : seqL S rd = some (hs.map ofH)) (hd : seqL S sd = some (sp.map ofP)) {N : Nat} (hN : 74 ≤ N) :
    ev T N f_l_net [netD hs sp r, rd, sd, .int r] S = .ok (.bl true) S := by
  obtain ⟨n, rfl, _⟩ := two_up 72 (N := N) hN
  rw [ev_s c.net]
  have t1 := e_l_hangs c hf hr (N := n + 1) (by omega)
  have t2 := e_l_pairs c sf hd (N := n + 1) (by omega)
  have t3 := e_l_whole c.whole r (N := n + 1) (by omega) S
  simp [step1, b_l_net, t1, t2, t3]
/-! ### a loft's net -/
theorem Lo.Inv.fineL {n : Nat} {L : Lo} (h : L.Inv n) (hn : n ≤ 25) : FineL L.hs := fun g hg => ⟨h.fine g hg, by have := h.dep g hg; omega⟩
theorem Lo.Inv.fineS {n : Nat} {L : Lo} (h : L.Inv n) : FineS L.sp := fun p hp => ⟨⟨(h.fsp p hp).1, by have := (h.dsp p hp).1; have := depth_nt p.1; omega⟩, ⟨(h.fsp p hp).2, by have := (h.dsp p hp).2; have := depth_nt p.2; omega⟩⟩
theorem tipsS_len : ∀ {sp : List (Hg × Hg)} {m : Nat}, (∀ p ∈ sp, p.1.nt ≤ m ∧ p.2.nt ≤ m) → (tipsS sp).length ≤ 2 * m * sp.length
  | [], m, _ => Nat.zero_le _
  | p :: sp, m, h => by
    have h1 := h p List.mem_cons_self
    have h2 := tipsS_len (sp := sp) (m := m) fun q hq => h q (List.mem_cons_of_mem _ hq)
    rw [tipsS_cons, List.length_append, List.length_cons]
    have : (tipsP p).length = p.1.nt + p.2.nt := by simp [tipsP, Hg.nt]
    rw [this, Nat.mul_succ]; omega
theorem Lo.Inv.small {n : Nat} {L : Lo} (h : L.Inv n) (hn : n ≤ 25) : Small L.hs L.sp := by
  have z := h.z
  have zs := h.zs
  have t := h.tot
  have ts := tipsS_len (sp := L.sp) (m := 4) h.dsp
  refine ⟨fun g hg => by have := h.dep g hg; omega, fun p hp => by
    have := (h.fineS p hp)
    exact ⟨by omega, by omega⟩, ?_, by omega, by omega⟩
  unfold allT
  rw [List.length_append, tipsL_len]
  have : 2 * 4 * L.sp.length ≤ 8 * 25 := Nat.mul_le_mul (by decide) (by omega)
  omega
end Nl
/-! Q5: drawing a splice -/
namespace Nl
open PySem Sm
structure NetA where
  hs : List Hg
  sp : List (Hg × Hg)
  rings : Int
namespace Hg
def ren (f : Int → Int) : Hg → Hg
  | tip d y n => tip d y (f n)
  | knot k l r => knot k (l.ren f) (r.ren f)
theorem tips_ren (f : Int → Int) : ∀ h : Hg, (h.ren f).tips = h.tips.map (Hg.ren f)
  | tip _ _ _ => rfl
  | knot k l r => by simp [ren, tips, tips_ren f l, tips_ren f r]
theorem bare_ren (f : Int → Int) : ∀ h : Hg, (h.ren f).bare = h.bare
  | tip _ _ _ => rfl
  | knot k l r => by simp [ren, bare, bare_ren f l, bare_ren f r]
theorem mir_ren (f : Int → Int) : ∀ h : Hg, (h.ren f).mir = h.mir.ren f
  | tip _ _ _ => rfl
  | knot k l r => by simp [ren, mir, mir_ren f l, mir_ren f r]
theorem mirs_ren (f g : Int → Int) (h k : Hg) : (h.ren f).mirs (k.ren g) = h.mirs k := by
  rw [mirs_bare, mirs_bare, mir_ren, bare_ren, bare_ren]
theorem depth_ren (f : Int → Int) : ∀ h : Hg, (h.ren f).depth = h.depth
  | tip _ _ _ => rfl
  | knot k l r => by simp [ren, depth, depth_ren f l, depth_ren f r]
theorem nt_ren (f : Int → Int) : ∀ h : Hg, (h.ren f).nt = h.nt
  | tip _ _ _ => rfl
  | knot k l r => by simp [ren, nt_ren f l, nt_ren f r]
end Hg
def renP (f : Int → Int) (p : Hg × Hg) : Hg × Hg := (p.1.ren f, p.2.ren f)
theorem tipsL_ren (f : Int → Int) : ∀ l : List Hg, tipsL (l.map (Hg.ren f)) = (tipsL l).map (Hg.ren f)
  | [] => rfl
  | h :: l => by rw [List.map_cons, tipsL_cons, tipsL_cons, Hg.tips_ren, tipsL_ren f l, List.map_append]
theorem tipsS_ren (f : Int → Int) : ∀ l : List (Hg × Hg), tipsS (l.map (renP f)) = (tipsS l).map (Hg.ren f)
  | [] => rfl
  | p :: l => by rw [List.map_cons, tipsS_cons, tipsS_cons, tipsS_ren f l, List.map_append]; simp [tipsP, renP, Hg.tips_ren]
theorem allT_ren (f : Int → Int) (hs : List Hg) (sp : List (Hg × Hg)) : allT (hs.map (Hg.ren f)) (sp.map (renP f)) = (allT hs sp).map (Hg.ren f) := by
  simp [allT, tipsL_ren, tipsS_ren]
/-- both numbers become the lesser one -/
def both (a b n : Int) : Int := if n = a ∨ n = b then min a b else n
def drawA (N : NetA) (i : Nat) : NetA := match N.sp[i]? with
  | some (.knot _ l r, .knot _ l2 r2) => ⟨N.hs, N.sp.take i ++ [(l, l2), (r, r2)] ++ N.sp.drop (i + 1), N.rings⟩
  | some (.tip _ _ a, .tip _ _ b) => if a = b then ⟨N.hs, N.sp.take i ++ N.sp.drop (i + 1), N.rings + 1⟩
    else ⟨N.hs.map (Hg.ren (both a b)), (N.sp.take i ++ N.sp.drop (i + 1)).map (renP (both a b)), N.rings⟩
  | _ => N
structure NetA.Ok (N : NetA) : Prop where
  fit : Fits (allT N.hs N.sp)
  mir : ∀ p ∈ N.sp, p.1.mirs p.2 = true
theorem lights_ren (f : Int → Int) : ∀ l : List Hg, (∀ t ∈ l, t.isTip = true) → lightsOf (l.map (Hg.ren f)) = (lightsOf l).map fun p => (f p.1, p.2)
  | [], _ => rfl
  | t :: l, h => by
    have ih := lights_ren f l fun x hx => h x (List.mem_cons_of_mem _ hx)
    have ht := h t List.mem_cons_self
    cases t with
    | knot _ _ _ => cases ht
    | tip d y n => cases d <;> simp [Hg.ren, lightsOf, ih]
theorem darks_ren (f : Int → Int) : ∀ l : List Hg, (∀ t ∈ l, t.isTip = true) → darksOf (l.map (Hg.ren f)) = (darksOf l).map fun p => (f p.1, p.2)
  | [], _ => rfl
  | t :: l, h => by
    have ih := darks_ren f l fun x hx => h x (List.mem_cons_of_mem _ hx)
    have ht := h t List.mem_cons_self
    cases t with
    | knot _ _ _ => cases ht
    | tip d y n => cases d <;> simp [Hg.ren, darksOf, ih]
theorem nodup_map_on {A B : Type} {f : A → B} : ∀ {l : List A}, l.Nodup → (∀ a ∈ l, ∀ b ∈ l, f a = f b → a = b) → (l.map f).Nodup
  | [], _, _ => List.nodup_nil
  | a :: l, nd, h => by
    rw [List.nodup_cons] at nd
    rw [List.map_cons, List.nodup_cons]
    refine ⟨fun hm => ?_, nodup_map_on nd.2 fun x hx y hy => h x (List.mem_cons_of_mem _ hx) y (List.mem_cons_of_mem _ hy)⟩
    obtain ⟨b, hb, e⟩ := List.mem_map.mp hm
    have := h b (List.mem_cons_of_mem _ hb) a List.mem_cons_self e
    subst this
    exact nd.1 hb
theorem fst_inj {l : List (Int × Str)} (nd : (l.map (·.1)).Nodup) {n : Int} {y z : Str} (h1 : (n, y) ∈ l) (h2 : (n, z) ∈ l) : y = z := by
  have e1 := val_some nd h1
  rw [val_some nd h2] at e1
  cases e1; rfl
/-- a cord that goes -/
theorem Fits.drop {d : Bool} {y : Str} {n : Int} {ts : List Hg} (h : Fits (.tip d y n :: .tip (!d) y n :: ts)) : Fits ts := by
  obtain ⟨tp, ln, dn, mate⟩ := h
  cases d
  · simp only [Bool.not_false, lightsOf, darksOf, List.map_cons, List.nodup_cons] at ln dn mate
    refine ⟨fun t ht => tp t (by simp [ht]), ln.2, dn.2, fun p => ?_⟩
    have m := mate p
    simp only [List.mem_cons] at m
    constructor
    · intro hp
      rcases m.mp (.inr hp) with e | e
      · exact absurd (List.mem_map.mpr ⟨p, hp, by rw [e]⟩) ln.1
      · exact e
    · intro hp
      rcases m.mpr (.inr hp) with e | e
      · exact absurd (List.mem_map.mpr ⟨p, hp, by rw [e]⟩) dn.1
      · exact e
  · simp only [Bool.not_true, lightsOf, darksOf, List.map_cons, List.nodup_cons] at ln dn mate
    refine ⟨fun t ht => tp t (by simp [ht]), ln.2, dn.2, fun p => ?_⟩
    have m := mate p
    simp only [List.mem_cons] at m
    constructor
    · intro hp
      rcases m.mp (.inr hp) with e | e
      · exact absurd (List.mem_map.mpr ⟨p, hp, by rw [e]⟩) ln.1
      · exact e
    · intro hp
      rcases m.mpr (.inr hp) with e | e
      · exact absurd (List.mem_map.mpr ⟨p, hp, by rw [e]⟩) dn.1
      · exact e
theorem both_l (a b : Int) : both a b a = min a b := by simp [both]
theorem both_r (a b : Int) : both a b b = min a b := by simp [both]
theorem both_n {a b n : Int} (h1 : n ≠ a) (h2 : n ≠ b) : both a b n = n := by simp [both, h1, h2]
theorem both_or (a b n : Int) : both a b n = n ∨ both a b n = a ∨ both a b n = b := by unfold both; split <;> omega
/-- the light tip of cord a and the dark one of cord b go; both cords become one -/
theorem fits_one {y : Str} {a b : Int} (ab : a ≠ b) {ts : List Hg} (h : Fits (.tip false y a :: .tip true y b :: ts)) : Fits (ts.map (Hg.ren (both a b))) := by
  obtain ⟨tp, ln, dn, mate⟩ := h
  have tpt : ∀ t ∈ ts, t.isTip = true := fun t ht => tp t (by simp [ht])
  simp only [lightsOf, darksOf, List.map_cons, List.nodup_cons] at ln dn mate
  have na : ∀ z, (a, z) ∉ lightsOf ts := fun z hz => ln.1 (List.mem_map.mpr ⟨_, hz, rfl⟩)
  have nb : ∀ z, (b, z) ∉ darksOf ts := fun z hz => dn.1 (List.mem_map.mpr ⟨_, hz, rfl⟩)
  have hb : (b, y) ∈ lightsOf ts := by
    have := (mate (b, y)).mpr (by simp)
    rcases List.mem_cons.mp this with e | e
    · simp at e; exact absurd e.symm ab
    · exact e
  have ha : (a, y) ∈ darksOf ts := by
    have := (mate (a, y)).mp (by simp)
    rcases List.mem_cons.mp this with e | e
    · simp at e; exact absurd e ab
    · exact e
  refine ⟨fun t ht => ?_, ?_, ?_, fun p => ?_⟩
  · obtain ⟨t0, h0, rfl⟩ := List.mem_map.mp ht
    have := tpt t0 h0
    cases t0 with
    | tip _ _ _ => rfl
    | knot _ _ _ => cases this
  · rw [lights_ren _ _ tpt, List.map_map]
    have : ((fun p : Int × Str => p.1) ∘ fun p : Int × Str => (both a b p.1, p.2)) = fun p => both a b p.1 := rfl
    rw [this]
    have e : (lightsOf ts).map (fun p => both a b p.1) = ((lightsOf ts).map (·.1)).map (both a b) := by rw [List.map_map]; rfl
    rw [e]
    refine nodup_map_on ln.2 fun m hm k hk q => ?_
    have hma : m ≠ a := fun z => ln.1 (by rw [z] at hm; exact hm)
    have hka : k ≠ a := fun z => ln.1 (by rw [z] at hk; exact hk)
    unfold both at q
    split at q <;> split at q <;> omega
  · rw [darks_ren _ _ tpt, List.map_map]
    have : ((fun p : Int × Str => p.1) ∘ fun p : Int × Str => (both a b p.1, p.2)) = fun p => both a b p.1 := rfl
    rw [this]
    have e : (darksOf ts).map (fun p => both a b p.1) = ((darksOf ts).map (·.1)).map (both a b) := by rw [List.map_map]; rfl
    rw [e]
    refine nodup_map_on dn.2 fun m hm k hk q => ?_
    have hma : m ≠ b := fun z => dn.1 (by rw [z] at hm; exact hm)
    have hka : k ≠ b := fun z => dn.1 (by rw [z] at hk; exact hk)
    unfold both at q
    split at q <;> split at q <;> omega
  · rw [lights_ren _ _ tpt, darks_ren _ _ tpt, List.mem_map, List.mem_map]
    have m := fun q => mate q
    simp only [List.mem_cons] at m
    constructor
    · rintro ⟨⟨n, z⟩, hz, rfl⟩
      by_cases h1 : n = b
      · subst h1
        have : z = y := fst_inj ln.2 hz hb
        subst this
        exact ⟨(a, z), ha, by simp [both]⟩
      · have h2 : n ≠ a := fun e => na z (by rw [← e]; exact hz)
        rcases (m (n, z)).mp (.inr hz) with e | e
        · simp at e; exact absurd e.1 h1
        · exact ⟨(n, z), e, rfl⟩
    · rintro ⟨⟨n, z⟩, hz, rfl⟩
      by_cases h1 : n = a
      · subst h1
        have : z = y := fst_inj dn.2 hz ha
        subst this
        exact ⟨(b, z), hb, by simp [both]⟩
      · have h2 : n ≠ b := fun e => nb z (by rw [← e]; exact hz)
        rcases (m (n, z)).mpr (.inr hz) with e | e
        · simp at e; exact absurd e.1 h1
        · exact ⟨(n, z), e, rfl⟩
theorem both_comm (a b : Int) : both a b = both b a := by
  funext n
  unfold both
  by_cases h1 : n = a <;> by_cases h2 : n = b <;> simp [h1, h2, Int.min_comm]
theorem spl_perm {sp : List (Hg × Hg)} {i : Nat} {p : Hg × Hg} (h : sp[i]? = some p) : (tipsS sp).Perm (tipsP p ++ tipsS (sp.take i ++ sp.drop (i + 1))) := by
  have e : sp = sp.take i ++ p :: sp.drop (i + 1) := by
    have hi := lt_of_get h
    have := List.take_append_drop i sp
    rw [List.drop_eq_getElem_cons hi] at this
    rw [List.getElem?_eq_getElem hi] at h
    cases h; exact this.symm
  have p1 : sp.Perm (p :: (sp.take i ++ sp.drop (i + 1))) := by
    conv => lhs; rw [e]
    exact List.perm_middle
  have := tipsS_perm p1
  rwa [tipsS_cons] at this
theorem mem_cut {sp : List (Hg × Hg)} {i : Nat} {q : Hg × Hg} (h : q ∈ sp.take i ++ sp.drop (i + 1)) : q ∈ sp := by
  rcases List.mem_append.mp h with z | z
  · exact List.mem_of_mem_take z
  · exact List.mem_of_mem_drop z
theorem allT_pull {hs : List Hg} {sp : List (Hg × Hg)} {i : Nat} {p : Hg × Hg} (h : sp[i]? = some p) : (allT hs sp).Perm (tipsP p ++ allT hs (sp.take i ++ sp.drop (i + 1))) := by
  unfold allT
  refine (List.Perm.append_left _ (spl_perm h)).trans ?_
  rw [← List.append_assoc, ← List.append_assoc]
  exact List.Perm.append_right _ List.perm_append_comm
theorem NetA.Ok.draw {N : NetA} (h : N.Ok) (i : Nat) : (drawA N i).Ok := by
  obtain ⟨fit, mir⟩ := h
  unfold drawA
  split
  · next k l r k2 l2 r2 hp =>
    have mp := mir _ (List.mem_of_getElem? hp)
    simp only [Hg.mirs, Bool.and_eq_true] at mp
    have pl := allT_pull (hs := N.hs) hp
    refine ⟨fit.perm (pl.trans ?_), fun q hq => ?_⟩
    · have p1 : (tipsS (N.sp.take i ++ [(l, l2), (r, r2)] ++ N.sp.drop (i + 1))).Perm ((tipsP (l, l2) ++ tipsP (r, r2)) ++ tipsS (N.sp.take i ++ N.sp.drop (i + 1))) := by
        have : (N.sp.take i ++ [(l, l2), (r, r2)] ++ N.sp.drop (i + 1)).Perm ((l, l2) :: (r, r2) :: (N.sp.take i ++ N.sp.drop (i + 1))) := by
          rw [List.append_assoc]
          refine (List.perm_append_comm).trans ?_
          rw [List.append_assoc]
          exact List.Perm.append_left [(l, l2), (r, r2)] List.perm_append_comm
        have := tipsS_perm this
        rw [tipsS_cons, tipsS_cons, ← List.append_assoc] at this
        exact this
      have p2 : (tipsP (Hg.knot k l r, Hg.knot k2 l2 r2)).Perm (tipsP (l, l2) ++ tipsP (r, r2)) := by
        simp only [tipsP, Hg.tips, List.append_assoc]
        refine List.Perm.append_left _ ?_
        rw [← List.append_assoc, ← List.append_assoc]
        exact List.Perm.append_right _ List.perm_append_comm
      unfold allT
      refine (p2.append_right _).trans ?_
      refine List.Perm.trans ?_ (List.Perm.append_left _ p1.symm)
      rw [← List.append_assoc, ← List.append_assoc]
      exact List.Perm.append_right _ List.perm_append_comm
    · simp at hq
      rcases hq with z | z | z | z
      · exact mir q (List.mem_of_mem_take z)
      · rw [z]; exact mp.2.1
      · rw [z]; exact mp.2.2
      · exact mir q (List.mem_of_mem_drop z)
  · next d y a d2 y2 b hp =>
    have mp := mir _ (List.mem_of_getElem? hp)
    simp only [Hg.mirs, Bool.and_eq_true, bne_iff_ne, decide_eq_true_eq] at mp
    obtain ⟨md, my⟩ := mp
    subst my
    have pl := allT_pull (hs := N.hs) hp
    have f2 := fit.perm pl
    have e : tipsP (Hg.tip d y a, Hg.tip d2 y b) = [.tip d y a, .tip d2 y b] := rfl
    rw [e] at f2
    have ed : d2 = !d := by cases d <;> cases d2 <;> simp at md <;> rfl
    subst ed
    split
    · next hab =>
      subst hab
      exact ⟨f2.drop, fun q hq => mir q (mem_cut hq)⟩
    · next hab =>
      refine ⟨?_, fun q hq => ?_⟩
      · rw [allT_ren]
        cases d with
        | false => exact fits_one hab f2
        | true =>
          rw [both_comm]
          exact fits_one (fun z => hab z.symm) (f2.perm (.swap _ _ _))
      · obtain ⟨q0, h0, rfl⟩ := List.mem_map.mp hq
        show (q0.1.ren _).mirs (q0.2.ren _) = true
        rw [Hg.mirs_ren]
        exact mir q0 (mem_cut h0)
  · exact ⟨fit, mir⟩
end Nl
/-! R8: hangs renamed, splices drawn -/
namespace Nl
open PySem Sm
variable {T : Nat → Option Body}
/-- a dict that tells new numbers -/
def Tells (kvs : List (L2.Key × D)) (f : Int → Int) : Prop := ∀ m : Int, valK kvs (.inl m) = some (.int (f m)) ∨ (valK kvs (.inl m) = none ∧ f m = m)
theorem dGet_dk {S : Store} {n : Nat} {kvs : List (L2.Key × D)} (h : S[n]? = some (.dk kvs)) (m : Int) : dGet S (.cell n) (.int m) = some (valK kvs (.inl m)) := by simp [dGet, dLook, h, keyOf]
theorem isDict_dk {S : Store} {n : Nat} {kvs : List (L2.Key × D)} (h : S[n]? = some (.dk kvs)) : isDict S (.cell n) = true := by
  unfold isDict
  simp [h]
theorem e_p_renamed (c0 : T f_p_is_tip = some b_p_is_tip) (c : T f_p_renamed = some b_p_renamed) {S : Store} {n : Nat} {kvs : List (L2.Key × D)} {f : Int → Int} (hS : S[n]? = some (.dk kvs)) (t : Tells kvs f) : ∀ (h : Hg) {N : Nat} (_ : h.depth + 3 ≤ N), ev T N f_p_renamed [ofH h, .cell n] S = .ok (ofH (h.ren f)) S
  | .tip d y k, N, hN => by
    obtain ⟨N, rfl, _⟩ := two_up 1 (N := N) (by omega)
    have t1 := e_p_is_tip c0 (.tip d y k) (N := N + 1) (by omega) S
    have t2 := dGet_dk hS k
    have t3 := isDict_dk hS
    rw [ev_s c]
    simp at t1
    rcases t k with e | ⟨e, e2⟩
    · simp [step1, b_p_renamed, t1, Hg.isTip, Hg.ren, t2, t3, e]
    · simp [step1, b_p_renamed, t1, Hg.isTip, Hg.ren, t2, t3, e, e2]
  | .knot k l r, N, hN => by
    obtain ⟨N, rfl, hl, hr, _⟩ := dl 2 hN (by omega)
    have t1 := e_p_is_tip c0 (.knot k l r) (N := N + 1) (by omega) S
    have h1 := e_p_renamed c0 c hS t l (N := N + 1) (by omega)
    have h2 := e_p_renamed c0 c hS t r (N := N + 1) (by omega)
    rw [ev_s c]
    simp at t1
    simp [step1, b_p_renamed, t1, h1, h2, Hg.isTip, Hg.ren]
/-! ### sizes -/
theorem sp_le_tips : ∀ sp : List (Hg × Hg), sp.length ≤ (tipsS sp).length
  | [] => Nat.le_refl _
  | p :: sp => by
    have := sp_le_tips sp
    rw [tipsS_cons, List.length_append, List.length_cons]
    have e : (tipsP p).length = p.1.nt + p.2.nt := by simp [tipsP, Hg.nt]
    have := p.1.nt_pos
    omega
theorem Small.of {hs : List Hg} {sp : List (Hg × Hg)} (dh : ∀ h ∈ hs, h.depth ≤ 100) (dp : ∀ p ∈ sp, p.1.depth ≤ 100 ∧ p.2.depth ≤ 100) (z : (allT hs sp).length ≤ 1000000) : Small hs sp := by
  refine ⟨dh, dp, z, ?_, ?_⟩
  · have := nts_len hs
    unfold allT at z
    rw [List.length_append, tipsL_len] at z; omega
  · have := sp_le_tips sp
    unfold allT at z
    rw [List.length_append] at z; omega
theorem mem_cut_map {f : Int → Int} {sp : List (Hg × Hg)} {i : Nat} {q : Hg × Hg} (h : q ∈ (sp.take i ++ sp.drop (i + 1)).map (renP f)) : ∃ q0 ∈ sp, q = renP f q0 := by
  obtain ⟨q0, h0, rfl⟩ := List.mem_map.mp h
  exact ⟨q0, mem_cut h0, rfl⟩
theorem cut_tips_le {hs : List Hg} {sp : List (Hg × Hg)} {i : Nat} {p : Hg × Hg} (h : sp[i]? = some p) : (allT hs (sp.take i ++ sp.drop (i + 1))).length + (tipsP p).length = (allT hs sp).length := by
  have := (allT_pull (hs := hs) h).length_eq
  rw [List.length_append] at this; omega
theorem draw_len {N : NetA} {i : Nat} : (allT (drawA N i).hs (drawA N i).sp).length ≤ (allT N.hs N.sp).length := by
  unfold drawA
  split
  · next k l r k2 l2 r2 hp =>
    have e1 := cut_tips_le (hs := N.hs) hp
    have e2 : (tipsP (Hg.knot k l r, Hg.knot k2 l2 r2)).length = (tipsP (l, l2)).length + (tipsP (r, r2)).length := by simp [tipsP, Hg.tips]; omega
    unfold allT at *
    simp only [tipsS, List.flatMap_append, List.length_append, List.flatMap_cons, List.flatMap_nil, List.length_nil] at *
    omega
  · next hp =>
    have e1 := cut_tips_le (hs := N.hs) hp
    split
    · simp only; omega
    · simp only [allT_ren, List.length_map]; omega
  · exact Nat.le_refl _
/-- what a predicate of hangs must bear, to be kept by drawing -/
structure Bears (P : Hg → Prop) : Prop where
  parts : ∀ k l r, P (.knot k l r) → P l ∧ P r
theorem draw_bears {P : Hg → Prop} (b : Bears P) {N : NetA} (hr : ∀ h a b d y d2 y2, P h → P (.tip d y a) → P (.tip d2 y2 b) → P (h.ren (both a b))) (h1 : ∀ h ∈ N.hs, P h) (h2 : ∀ p ∈ N.sp, P p.1 ∧ P p.2) (i : Nat) :
    (∀ h ∈ (drawA N i).hs, P h) ∧ ∀ p ∈ (drawA N i).sp, P p.1 ∧ P p.2 := by
  unfold drawA
  split
  · next k l r k2 l2 r2 hp =>
    obtain ⟨p1, p2⟩ := h2 _ (List.mem_of_getElem? hp)
    have q1 := b.parts _ _ _ p1
    have q2 := b.parts _ _ _ p2
    refine ⟨h1, fun q hq => ?_⟩
    simp at hq
    rcases hq with z | z | z | z
    · exact h2 q (List.mem_of_mem_take z)
    · rw [z]; exact ⟨q1.1, q2.1⟩
    · rw [z]; exact ⟨q1.2, q2.2⟩
    · exact h2 q (List.mem_of_mem_drop z)
  · next d y a d2 y2 b hp =>
    obtain ⟨p1, p2⟩ := h2 _ (List.mem_of_getElem? hp)
    split
    · exact ⟨h1, fun q hq => h2 q (mem_cut hq)⟩
    · refine ⟨fun h hh => ?_, fun q hq => ?_⟩
      · obtain ⟨h0, m0, rfl⟩ := List.mem_map.mp hh
        exact hr _ _ _ _ _ _ _ (h1 h0 m0) p1 p2
      · obtain ⟨q0, m0, rfl⟩ := mem_cut_map hq
        exact ⟨hr _ _ _ _ _ _ _ (h2 q0 m0).1 p1 p2, hr _ _ _ _ _ _ _ (h2 q0 m0).2 p1 p2⟩
  · exact ⟨h1, h2⟩
theorem ren_fine {f : Int → Int} : ∀ {h : Hg}, h.Fine → (∀ n, 0 ≤ n ∧ n < 10 ^ 30 → 0 ≤ f n ∧ f n < 10 ^ 30) → (h.ren f).Fine
  | .tip d y n, p, hf => ⟨p.1, hf n p.2⟩
  | .knot k l r, p, hf => ⟨ren_fine p.1 hf, ren_fine p.2 hf⟩
structure NetA.Fine (N : NetA) : Prop where
  hs : FineL N.hs
  sp : FineS N.sp
theorem NetA.Fine.draw {N : NetA} (h : N.Fine) (i : Nat) : (drawA N i).Fine := by
  have b : Bears (fun h => h.Fine ∧ h.depth ≤ 60) := ⟨fun k l r p => by
    obtain ⟨⟨f1, f2⟩, d⟩ := p
    simp only [Hg.depth] at d
    exact ⟨⟨f1, by omega⟩, ⟨f2, by omega⟩⟩⟩
  obtain ⟨h1, h2⟩ := draw_bears b (N := N) (fun h a b d y d2 y2 p p1 p2 => by
    refine ⟨ren_fine p.1 fun n hn => ?_, by rw [Hg.depth_ren]; exact p.2⟩
    have q1 := p1.1.2
    have q2 := p2.1.2
    rcases both_or a b n with e | e | e <;> rw [e] <;> assumption) h.hs h.sp i
  exact ⟨h1, h2⟩
theorem NetA.Fine.small {N : NetA} (h : N.Fine) (z : (allT N.hs N.sp).length ≤ 1000000) : Small N.hs N.sp :=
  Small.of (fun g hg => by have := (h.hs g hg).2; omega) (fun p hp => ⟨by have := (h.sp p hp).1.2; omega, by have := (h.sp p hp).2.2; omega⟩) z
/-! ### drawn -/
structure DrawFns (T : Nat → Option Body) : Prop extends NetFns T where
  renamed : T f_p_renamed = some b_p_renamed
  drawn : T f_p_drawn = some b_p_drawn
def NetA.d (N : NetA) : D := netD N.hs N.sp N.rings
theorem e_net' (c : NetFns T) {N : NetA} (ok : N.Ok) (fn : N.Fine) (z : (allT N.hs N.sp).length ≤ 1000000) {n : Nat} (hn : 113 ≤ n) (S : Store) :
    made true S (ev T n f_p_Net_init [.cell S.length, .lst (N.hs.map ofH), .lst (N.sp.map ofP), .int N.rings] (S ++ [.ins 7 [] []])) = .ok N.d S :=
  e_net c (fn.small z) ok.fit ok.mir (fun _ => rfl) (fun _ => rfl) (fun S => by rw [itA_lst, ones_map]) hn S
theorem tells_both {a b : Int} (h : a ≠ b) : Tells [((.inl a : L2.Key), D.int (min a b)), (.inl b, D.int (min a b))] (both a b) := by
  intro m
  by_cases h1 : m = a
  · left; subst h1; simp [valK, both]
  · have e1 : ¬ ((Sum.inl a : L2.Key) = Sum.inl m) := by simp; exact fun z => h1 z.symm
    by_cases h2 : m = b
    · left; subst h2; simp [valK, both, h]
    · right
      have e2 : ¬ ((Sum.inl b : L2.Key) = Sum.inl m) := by simp; exact fun z => h2 z.symm
      exact ⟨by simp [valK, e1, e2], both_n h1 h2⟩
theorem e_p_drawn_no (c : DrawFns T) (N : NetA) (at_ : Int) (h : at_ < 0 ∨ (N.sp.length : Int) ≤ at_) {n : Nat} (hn : 2 ≤ n) (S : Store) : ev T n f_p_drawn [N.d, .int at_] S = .ex 4 S := by
  obtain ⟨n, rfl, _⟩ := two_up 0 (N := n) hn
  rw [ev_s c.drawn]
  by_cases h1 : 0 ≤ at_
  · have h2 : ¬ at_ < (N.sp.length : Int) := by omega
    simp [step1, b_p_drawn, NetA.d, h1, h2]
    exact fin_exT (by simp)
  · simp [step1, b_p_drawn, NetA.d, h1]
    exact fin_exT (by simp)
end Nl
/-! R9: a splice drawn -/
namespace Nl
open PySem Sm
variable {T : Nat → Option Body}
theorem cutD_from1 {A : Type} (l : List A) (i : Nat) : cutD l (some ((i : Int) + 1)) none = l.drop (i + 1) := by
  have := cutD_from l (i + 1)
  rwa [Int.natCast_add] at this
theorem tells_merge {a b : Int} (h : a ≠ b) : mergeG [] [((.inl a : L2.Key), D.int (min a b)), (.inl b, D.int (min a b))] = [((.inl a : L2.Key), D.int (min a b)), (.inl b, D.int (min a b))] := by
  have : ¬ ((Sum.inl a : L2.Key) = Sum.inl b) := by simp; exact h
  simp [mergeG, putG, this]
theorem cl_net {n : Nat} (hs : List Hg) (sp : List (Hg × Hg)) (r : Int) : Cl n (netD hs sp r) := ⟨cl_map (cl_H _) _, cl_map (cl_P _) _, trivial, trivial⟩
theorem min2 (S : Store) (a b : Int) : oMin2 S [.int a, .int b] = .ok (.int (min a b)) S := by
  show R.ok (D.int _) S = _
  congr 2
  first | rfl | (rw [Int.min_def]; split <;> split <;> omega)
theorem e_p_drawn (c : DrawFns T) {N : NetA} (ok : N.Ok) (fn : N.Fine) (z : (allT N.hs N.sp).length ≤ 1000000) {i : Nat} (hi : i < N.sp.length) {n : Nat} (hn : 115 ≤ n) (S : Store) :
    ev T n f_p_drawn [N.d, .int i] S = .ok (drawA N i).d S := by
  obtain ⟨n, rfl, _⟩ := two_up 113 (N := n) hn
  rw [ev_s c.drawn]
  have gp := List.getElem?_eq_getElem hi
  generalize N.sp[i] = p at gp
  obtain ⟨one, other⟩ := p
  have mp := ok.mir _ (List.mem_of_getElem? gp)
  have fp := fn.sp _ (List.mem_of_getElem? gp)
  have dok := ok.draw i
  have dfn := fn.draw i
  have dz := Nat.le_trans (draw_len (N := N) (i := i)) z
  have mk := fun S => e_net' c.toNetFns dok dfn dz (n := n) (by omega) S
  have t1 := e_p_is_tip c.is_tip one (N := n + 1) (by omega) S
  have sz0 := (fn.small z).zs
  have y1 : min i N.sp.length + 2 + (N.sp.length - (i + 1)) ≤ sizeLine := Nat.le_trans (m := 2000000) (by omega) (by decide)
  have y2 : min i N.sp.length + (N.sp.length - (i + 1)) ≤ sizeLine := Nat.le_trans (m := 2000000) (by omega) (by decide)
  have y3 : min i N.sp.length + 2 ≤ sizeLine := Nat.le_trans (m := 2000000) (by omega) (by decide)
  have hi' : (i : Int) < (N.sp.length : Int) := by omega
  cases one with
  | knot k l r =>
    cases other with
    | tip d y m => simp [Hg.mirs] at mp
    | knot k2 l2 r2 =>
      have e : drawA N i = ⟨N.hs, N.sp.take i ++ [(l, l2), (r, r2)] ++ N.sp.drop (i + 1), N.rings⟩ := by unfold drawA; rw [gp]
      rw [e] at mk ⊢
      simp [Hg.isTip] at t1
      simp [ofP, List.map_take, List.map_drop] at mk
      simp [step1, b_p_drawn, NetA.d, hi', gp, ofP, cutD_to, cutD_from1, t1, y1, y2, y3, mk, List.map_take, List.map_drop]
      exact fin_rtT (by simp) (cl_net _ _ _)
  | tip d y a =>
    cases other with
    | knot k2 l2 r2 => simp [Hg.mirs] at mp
    | tip d2 yb b =>
      simp [Hg.isTip] at t1
      by_cases hab : a = b
      · subst hab
        have e : drawA N i = ⟨N.hs, N.sp.take i ++ N.sp.drop (i + 1), N.rings + 1⟩ := by unfold drawA; rw [gp]; simp
        rw [e] at mk ⊢
        simp [ofP, List.map_take, List.map_drop] at mk
        simp [step1, b_p_drawn, NetA.d, hi', gp, ofP, cutD_to, cutD_from1, t1, y1, y2, y3, mk, List.map_take, List.map_drop]
        exact fin_rtT (by simp) (cl_net _ _ _)
      · have e : drawA N i = ⟨N.hs.map (Hg.ren (both a b)), (N.sp.take i ++ N.sp.drop (i + 1)).map (renP (both a b)), N.rings⟩ := by unfold drawA; rw [gp]; simp [hab]
        rw [e] at mk ⊢
        have hS : (S ++ [MO.dk (mergeG [] [((.inl a : L2.Key), D.int (min a b)), (.inl b, D.int (min a b))])])[S.length]? = some (.dk [((.inl a : L2.Key), D.int (min a b)), (.inl b, D.int (min a b))]) := by rw [tells_merge hab]; simp
        generalize hS1 : S ++ [MO.dk (mergeG [] [((.inl a : L2.Key), D.int (min a b)), (.inl b, D.int (min a b))])] = S1 at *
        have rn := fun (h : Hg) (hd : h.depth ≤ 60) => e_p_renamed c.is_tip c.renamed hS (tells_both hab) h (N := n + 1) (by omega)
        have mk1 := mk S1
        simp [step1, b_p_drawn, NetA.d, hi', gp, ofP, cutD_to, cutD_from1, t1, y1, y2, y3, List.map_take, List.map_drop, hab, min2, mDisp, mPairs, keyPairs, keyOf, hS1]
        rw [comp_map (d := .lst (N.hs.map ofH)) N.hs ofH (fun h => ofH (h.ren (both a b))) (by simp) (by rw [itA_lst, ones_map]) (fun h hh => by simp [setAll, wipeE, rn h (fn.hs h hh).2])]
        simp
        rw [comp_map (d := .lst ((N.sp.take i ++ N.sp.drop (i + 1)).map ofP)) (N.sp.take i ++ N.sp.drop (i + 1)) ofP (fun p => ofP (renP (both a b) p)) (by simp [y2, List.map_take, List.map_drop]) (by rw [itA_lst, ones_map]) (fun p hp => by
          have f := fn.sp p (mem_cut hp)
          simp [setAll, wipeE, ofP, renP, rn p.1 f.1.2, rn p.2 f.2.2])]
        simp [List.map_take, List.map_drop, Function.comp_def] at mk1
        simp [List.map_take, List.map_drop, mk1]
        exact fin_rtT (by rw [← hS1]; simp) (cl_net _ _ _)
open Classical in
theorem dfz_tup {k : Nat} {S' : Store} {f : Nat} {ds ds' : List D} (c : optAll (dfz k S' f) ds = some ds') : dfz k S' (f + 1) (.tup ds) = some (.tup ds') := by
  by_cases h : Cl k (.tup ds)
  · rw [dfz_cl h]
    have e := optAll_cl (k := k) (S' := S') (f := f) (ds := ds) h
    rw [e] at c; cases c; rfl
  · unfold dfz
    rw [if_neg h]
    show Option.map D.tup (optAll (dfz k S' f) ds) = _
    rw [c]; rfl
theorem optAll_nil {f : D → Option D} : optAll f [] = some [] := rfl
theorem optAll_cons {f : D → Option D} {d d' : D} {ds ds' : List D} (h : f d = some d') (h2 : optAll f ds = some ds') : optAll f (d :: ds) = some (d' :: ds') := by
  unfold optAll; rw [h, h2]
/-- rack and splices in cells -/
structure NAt (S : Store) (a d : Nat) (N : NetA) : Prop where
  ha : S[a]? = some (.lst (N.hs.map ofH))
  hd : S[d]? = some (.lst (N.sp.map ofP))
@[simp] theorem list_cell (c : Bool) (S : Store) (n : Nat) (ds : List D) (h : S[n]? = some (.lst ds)) (hz : ds.length ≤ sizeLine) : oList c S [.cell n] = finL c ds S := by
  show (match seqA S (.cell n) with
    | some es => if es.length ≤ sizeLine then finL c es S else .err
    | none => .err) = _
  rw [seqA_cell, h]
  simp [hz]
/-! ### try -/
def kTry (ret : Bool) (cls : List Nat) (h i : Nat) (suite : MS) (ρ : Sm.Env) : R D → R Fl
  | .ok d S => if ret then .ok (.rt d) S else .ok (.nx ρ) S
  | .ex c S => if c ∈ cls then (if c = h then (if i < ρ.length then gone i (suite (ρ.set i none) S) else .err) else .ex c S) else .err
  | .err => .err
@[simp] theorem kTry_ok (ret : Bool) (cls : List Nat) (h i : Nat) (suite : MS) (ρ : Sm.Env) (d : D) (S : Store) : kTry ret cls h i suite ρ (.ok d S) = if ret then .ok (.rt d) S else .ok (.nx ρ) S := rfl
@[simp] theorem kTry_ex (ret : Bool) (cls : List Nat) (h i : Nat) (suite : MS) (ρ : Sm.Env) (c : Nat) (S : Store) : kTry ret cls h i suite ρ (.ex c S) = if c ∈ cls then (if c = h then (if i < ρ.length then gone i (suite (ρ.set i none) S) else .err) else .ex c S) else .err := rfl
@[simp ↓] theorem x_try (ret : Bool) (e : ME) (cls : List Nat) (h i : Nat) (suite : MS) (ρ : Sm.Env) (S : Store) : sTry ret e cls h i suite ρ S = kTry ret cls h i suite ρ (e ρ S) := by
  unfold sTry kTry; cases e ρ S <;> rfl
@[simp] theorem gone_nx (i : Nat) (r : Sm.Env) (S : Store) : gone i (.ok (.nx r) S) = .ok (.nx (r.set i none)) S := rfl
@[simp] theorem gone_rt (i : Nat) (d : D) (S : Store) : gone i (.ok (.rt d) S) = .ok (.rt d) S := rfl
/-! ### cords of a book -/
def Cords (b : Bk) (n : Nat) (ts : List Hg) : Prop := ∃ ys : List Str, ys.length = n ∧ ts.Perm (cordTips b 0 ys)
theorem Cords.perm {b : Bk} {n : Nat} {ts us : List Hg} (h : Cords b n ts) (p : us.Perm ts) : Cords b n us := by
  obtain ⟨ys, h1, h2⟩ := h
  exact ⟨ys, h1, p.trans h2⟩
theorem Cords.fits {b : Bk} {n : Nat} {ts : List Hg} (h : Cords b n ts) (ok : b.Ok) : Fits ts := by
  obtain ⟨ys, _, p⟩ := h
  exact (fits_cords ok ys 0).perm p.symm
theorem Cords.add {b : Bk} {n : Nat} {ts : List Hg} (h : Cords b n ts) (y : Str) : Cords b (n + 1) (.tip false y (b.num n) :: .tip true y (b.num n) :: ts) := by
  obtain ⟨ys, h1, p⟩ := h
  refine ⟨ys ++ [y], by simp [h1], ?_⟩
  rw [cordTips_app, Nat.zero_add, h1]
  refine List.Perm.trans ?_ (p.append_right _)
  simp only [cordTips]
  exact (List.perm_append_comm (l₁ := [_, _]) (l₂ := ts))
theorem cordTips_len (b : Bk) : ∀ (ys : List Str) (k : Nat), (cordTips b k ys).length = 2 * ys.length
  | [], _ => rfl
  | y :: ys, k => by simp only [cordTips, List.length_cons, cordTips_len b ys]; omega
theorem Cords.len {b : Bk} {n : Nat} {ts : List Hg} (h : Cords b n ts) : ts.length = 2 * n := by
  obtain ⟨ys, h1, p⟩ := h
  rw [p.length_eq, cordTips_len, h1]
theorem Lo.Net.cords {L : Lo} (h : L.Net) : Cords L.bk L.bk.n (allT L.hs L.sp) := h.fit
def ash : Str := Str.ofString "ash"
theorem ash_ok : IsDye (Str.ofString "ash") := by
  refine ⟨by decide +kernel, by decide +kernel, ?_⟩
  decide +kernel
/-- a net that the program can bear -/
structure NetA.Good (N : NetA) : Prop where
  ok : N.Ok
  fn : N.Fine
  z : (allT N.hs N.sp).length ≤ 1000000
theorem NetA.Good.draw {N : NetA} (h : N.Good) (i : Nat) : (drawA N i).Good := ⟨h.ok.draw i, h.fn.draw i, Nat.le_trans draw_len h.z⟩
theorem Lo.Inv.good {n : Nat} {L : Lo} (h : L.Inv n) (hn : n ≤ 25) (nt : L.Net) (r : Int) : NetA.Good ⟨L.hs, L.sp, r⟩ := ⟨⟨nt.fits, nt.mir⟩, ⟨h.fineL hn, h.fineS⟩, (h.small hn).z⟩
theorem NetA.Good.zs {N : NetA} (h : N.Good) : N.hs.length ≤ 1000000 ∧ N.sp.length ≤ 1000000 := (h.fn.small h.z).zs
@[simp] theorem isC_str (c : Nat) (S : Store) (x : Str) : oIsC c S (.str x) = .ok (.bl false) S := by unfold oIsC; rfl
theorem ne_spl {S : Store} {d : Nat} {sp : List (Hg × Hg)} (h : S[d]? = some (.lst (sp.map ofP))) (f : FineS sp) : oNe S (.cell d) (.lst []) = .ok (.bl (!decide (sp = []))) S := by
  have lay := lay_map (f := ofP) (l := sp) (n := 62) fun p hp => lay_P (f p hp).1.1 (f p hp).2.1 (f p hp).1.2 (f p hp).2.2
  have ll : Lay (.lst (([] : List (Hg × Hg)).map ofP)) 1 := lay_lst (n := 0) fun z hz => by simp at hz
  exact oNe_lay (A := List (Hg × Hg)) (f := fun l => .lst (l.map ofP)) (fun x y => eq_lstF eqF_P x y) lay ll (by decide) (by decide) (S := S) (d := .cell d) (e := .lst []) (by simp [h]) (by simp)
theorem ne_hs {S : Store} {d : Nat} {hs : List Hg} (h : S[d]? = some (.lst (hs.map ofH))) (f : FineL hs) : oNe S (.cell d) (.lst []) = .ok (.bl (!decide (hs = []))) S := by
  have lay := lay_map (f := ofH) (l := hs) (n := 61) fun h hh => (lay_H (f h hh).1).mono (by have := (f h hh).2; omega)
  have ll : Lay (.lst (([] : List Hg).map ofH)) 1 := lay_lst (n := 0) fun z hz => by simp at hz
  exact oNe_lay (A := List Hg) (f := fun l => .lst (l.map ofH)) (fun x y => eq_lstF eqF_H x y) lay ll (by decide) (by decide) (S := S) (d := .cell d) (e := .lst []) (by simp [h]) (by simp)
theorem sl_cell {S : Store} {n : Nat} {ds : List D} (h : S[n]? = some (.lst ds)) (lo hi : Option Int) : oSl false S (.cell n) lo hi = .ok (.lst (cutD ds lo hi)) S := by
  unfold oSl; simp [h]
@[simp] theorem max2 (S : Store) (a b : Int) : oMax2 S [.int a, .int b] = .ok (.int (max a b)) S := by
  show R.ok (D.int _) S = _
  congr 2
  first | rfl | (rw [Int.max_def]; split <;> split <;> omega)
theorem num_ok2 {b : Bk} (h : b.Ok) {k : Nat} (hk : k ≤ 1000) : 0 ≤ b.num k ∧ b.num k < 2 * 10 ^ 29 := by
  obtain ⟨⟨l1, l2⟩, s1, s2⟩ := h
  unfold Bk.num
  have f0 : 0 ≤ (k : Int) * 21 % 64 + 64 * ((k : Int) / 64) := by omega
  have f1 : (k : Int) * 21 % 64 + 64 * ((k : Int) / 64) ≤ 1063 := by omega
  generalize (k : Int) * 21 % 64 + 64 * ((k : Int) / 64) = f at *
  have m1 : 0 ≤ b.b1 * f := Int.mul_nonneg (Int.le_of_lt s1) f0
  have m2 : b.b1 * f ≤ 1000000007 * 1063 := Int.mul_le_mul s2 f1 f0 (by decide)
  generalize b.b1 * f = g at *
  constructor
  · omega
  · have : (2 : Int) * 10 ^ 29 = 200000000000000000000000000000 := by decide
    have : (10 : Int) ^ 29 = 100000000000000000000000000000 := by decide
    omega
def tnum : Hg → Int
  | .tip _ _ n => n
  | .knot _ _ _ => 0
def numsT (ts : List Hg) : List Int := ts.map tnum
theorem cordTips_num {b : Bk} : ∀ {ys : List Str} {k : Nat} {t : Hg}, t ∈ cordTips b k ys → ∃ j, k ≤ j ∧ j < k + ys.length ∧ tnum t = b.num j
  | [], _, _, h => by cases h
  | y :: ys, k, t, h => by
    simp only [cordTips, List.mem_cons] at h
    rcases h with rfl | rfl | h
    · exact ⟨k, Nat.le_refl _, by simp, rfl⟩
    · exact ⟨k, Nat.le_refl _, by simp, rfl⟩
    · obtain ⟨j, h1, h2, h3⟩ := cordTips_num h
      exact ⟨j, by omega, by simp only [List.length_cons]; omega, h3⟩
theorem Cords.num {b : Bk} {n : Nat} {ts : List Hg} (h : Cords b n ts) {m : Int} (hm : m ∈ numsT ts) : ∃ j < n, m = b.num j := by
  obtain ⟨ys, h1, p⟩ := h
  obtain ⟨t, ht, rfl⟩ := List.mem_map.mp hm
  obtain ⟨j, _, h2, h3⟩ := cordTips_num (p.mem_iff.mp ht)
  exact ⟨j, by omega, h3⟩
end Nl
/-! G1: graphs: which points hang together, how many lines draw clumps together -/
namespace Gr
variable {V : Type} [DecidableEq V]
def merge (h : V → V) (a b : V) : V → V := fun v => if h v = h a then h b else h v
def labF : List (V × V) → (V → V) → V → V
  | [], h => h
  | e :: E, h => labF E (merge h e.1 e.2)
def rkF : List (V × V) → (V → V) → Nat
  | [], _ => 0
  | e :: E, h => (if h e.1 = h e.2 then 0 else 1) + rkF E (merge h e.1 e.2)
abbrev lab (E : List (V × V)) : V → V := labF E id
abbrev rk (E : List (V × V)) : Nat := rkF E id
omit [DecidableEq V] in
inductive Conn (E : List (V × V)) : V → V → Prop
  | refl (a : V) : Conn E a a
  | edge (a b : V) : (a, b) ∈ E → Conn E a b
  | symm (a b : V) : Conn E a b → Conn E b a
  | trans (a b c : V) : Conn E a b → Conn E b c → Conn E a c
theorem merge_same {h : V → V} {a b : V} (e : h a = h b) : merge h a b = h := by
  funext v
  unfold merge
  split
  · next q => rw [q, e]
  · rfl
theorem rk_le : ∀ (E : List (V × V)) (h : V → V), rkF E h ≤ E.length
  | [], _ => Nat.le_refl _
  | e :: E, h => by
    have := rk_le E (merge h e.1 e.2)
    simp only [rkF, List.length_cons]
    split <;> omega
theorem lab_app : ∀ (E F : List (V × V)) (h : V → V), labF (E ++ F) h = labF F (labF E h)
  | [], _, _ => rfl
  | e :: E, F, h => lab_app E F _
theorem rk_app : ∀ (E F : List (V × V)) (h : V → V), rkF (E ++ F) h = rkF E h + rkF F (labF E h)
  | [], _, _ => by simp [rkF, labF]
  | e :: E, F, h => by
    simp only [List.cons_append, rkF, labF, rk_app E F]; omega
def mp {W : Type} (f : V → W) (e : V × V) : W × W := (f e.1, f e.2)
theorem rk_comp {W : Type} [DecidableEq W] (f : V → W) : ∀ (E : List (V × V)) (g : W → W) (h : V → V), (∀ u v, h u = h v ↔ g (f u) = g (f v)) → rkF E h = rkF (E.map (mp f)) g
  | [], _, _, _ => rfl
  | e :: E, g, h, k => by
    simp only [List.map_cons, rkF, mp]
    rw [rk_comp f E (merge g (f e.1) (f e.2)) (merge h e.1 e.2)]
    · by_cases q : h e.1 = h e.2
      · rw [if_pos q, if_pos ((k _ _).mp q)]
      · rw [if_neg q, if_neg (fun z => q ((k _ _).mpr z))]
    · intro u v
      unfold merge
      by_cases q1 : h u = h e.1 <;> by_cases q2 : h v = h e.1
      · rw [if_pos q1, if_pos q2, if_pos ((k _ _).mp q1), if_pos ((k _ _).mp q2)]; simp
      · rw [if_pos q1, if_neg q2, if_pos ((k _ _).mp q1), if_neg (fun z => q2 ((k _ _).mpr z))]; exact k _ _
      · rw [if_neg q1, if_pos q2, if_neg (fun z => q1 ((k _ _).mpr z)), if_pos ((k _ _).mp q2)]; exact k _ _
      · rw [if_neg q1, if_neg q2, if_neg (fun z => q1 ((k _ _).mpr z)), if_neg (fun z => q2 ((k _ _).mpr z))]; exact k _ _
/-- lines behind others: their clumps' own -/
theorem rk_app' (E F : List (V × V)) : rk (E ++ F) = rk E + rk (F.map (mp (lab E))) := by
  show rkF (E ++ F) id = _
  rw [rk_app]
  congr 1
  exact rk_comp (lab E) F id (lab E) fun u v => Iff.rfl
/-! ### what hangs together -/
theorem Conn.mono {E F : List (V × V)} (h : ∀ e ∈ E, e ∈ F) {a b : V} (c : Conn E a b) : Conn F a b := by
  induction c with
  | refl a => exact .refl _
  | edge a b m => exact .edge _ _ (h _ m)
  | symm a b _ ih => exact .symm _ _ ih
  | trans a b c _ _ i j => exact .trans _ _ _ i j
theorem Conn.sub {E F : List (V × V)} (h : ∀ a b, (a, b) ∈ E → Conn F a b) {a b : V} (c : Conn E a b) : Conn F a b := by
  induction c with
  | refl a => exact .refl _
  | edge a b m => exact h _ _ m
  | symm a b _ ih => exact .symm _ _ ih
  | trans a b c _ _ i j => exact .trans _ _ _ i j
theorem lab_conn : ∀ (F E : List (V × V)) (h : V → V), (∀ a b, h a = h b ↔ Conn E a b) → ∀ a b, labF F h a = labF F h b ↔ Conn (E ++ F) a b
  | [], E, h, k, a, b => by rw [List.append_nil]; exact k a b
  | e :: F, E, h, k, a, b => by
    have key := lab_conn F (E ++ [e]) (merge h e.1 e.2) (fun u v => by
      constructor
      · intro q
        have up : ∀ x y, h x = h y → Conn (E ++ [e]) x y := fun x y z => ((k x y).mp z).mono fun e he => by simp [he]
        have ed : Conn (E ++ [e]) e.1 e.2 := .edge _ _ (by simp)
        unfold merge at q
        by_cases q1 : h u = h e.1 <;> by_cases q2 : h v = h e.1
        · exact up _ _ (q1.trans q2.symm)
        · rw [if_pos q1, if_neg q2] at q
          exact (up _ _ q1).trans _ _ _ (ed.trans _ _ _ (up _ _ q))
        · rw [if_neg q1, if_pos q2] at q
          exact (up _ _ q).trans _ _ _ ((ed.symm _ _).trans _ _ _ ((up _ _ q2).symm _ _))
        · rw [if_neg q1, if_neg q2] at q
          exact up _ _ q
      · intro c
        induction c with
        | refl a => rfl
        | symm a b _ ih => exact ih.symm
        | trans a b c _ _ i j => exact i.trans j
        | edge a b m =>
          simp at m
          rcases m with m | m
          · have : h a = h b := (k a b).mpr (.edge _ _ m)
            unfold merge; rw [this]
          · subst m
            show (if h a = h a then h b else h a) = if h b = h a then h b else h b
            rw [if_pos rfl]
            split <;> rfl) a b
    rw [List.append_assoc] at key
    exact key
theorem lab_iff (E : List (V × V)) (a b : V) : lab E a = lab E b ↔ Conn E a b := by
  have := lab_conn E [] id (fun a b => by
    constructor
    · rintro (rfl : a = b); exact .refl _
    · intro c
      induction c with
      | refl a => rfl
      | symm a b _ ih => exact ih.symm
      | trans a b c _ _ i j => exact i.trans j
      | edge a b m => cases m) a b
  simpa using this
/-! ### counting clumps -/
def Idem (h : V → V) : Prop := ∀ v, h (h v) = h v
theorem merge_idem {h : V → V} (i : Idem h) (a b : V) : Idem (merge h a b) := by
  intro v
  unfold merge
  by_cases q : h v = h a
  · rw [if_pos q, i b]
    split <;> rfl
  · rw [if_neg q, i v, if_neg q]
theorem lab_idem : ∀ (E : List (V × V)) {h : V → V}, Idem h → Idem (labF E h)
  | [], _, i => i
  | e :: E, _, i => lab_idem E (merge_idem i _ _)
def fixed (U : List V) (h : V → V) : List V := U.filter fun v => decide (h v = v)
def Stay (U : List V) (h : V → V) : Prop := ∀ v ∈ U, h v ∈ U
theorem merge_stay {U : List V} {h : V → V} (s : Stay U h) {a b : V} (hb : b ∈ U) : Stay U (merge h a b) := by
  intro v hv
  unfold merge
  split
  · exact s b hb
  · exact s v hv
theorem filter_drop : ∀ {l : List V} {x : V}, l.Nodup → x ∈ l → (l.filter fun v => decide (v ≠ x)).length + 1 = l.length
  | [], _, _, m => by cases m
  | a :: l, x, nd, m => by
    rw [List.nodup_cons] at nd
    by_cases q : a = x
    · subst q
      have e : l.filter (fun v => decide (v ≠ a)) = l := List.filter_eq_self.mpr fun v hv => by
        simp
        rintro rfl
        exact nd.1 hv
      rw [List.filter_cons, if_neg (by simp), e, List.length_cons]
    · have : x ∈ l := by
        rcases List.mem_cons.mp m with z | z
        · exact absurd z.symm q
        · exact z
      rw [List.filter_cons, if_pos (by simp [q]), List.length_cons, List.length_cons, filter_drop nd.2 this]
theorem fixed_merge {U : List V} (nd : U.Nodup) {h : V → V} (i : Idem h) (s : Stay U h) {a b : V} (ha : a ∈ U) (q : h a ≠ h b) : (fixed U (merge h a b)).length + 1 = (fixed U h).length := by
  have e : fixed U (merge h a b) = (fixed U h).filter fun v => decide (v ≠ h a) := by
    unfold fixed
    rw [List.filter_filter]
    congr 1
    funext v
    unfold merge
    by_cases z : h v = h a
    · rw [if_pos z]
      by_cases y : h v = v
      · have : ¬ h b = v := fun w => q (by rw [← z, ← w, i b])
        simp [this, y, ← z]
      · have : ¬ h b = v := fun w => q (by rw [← z, ← w, i b])
        simp [this, y]
    · rw [if_neg z]
      by_cases y : h v = v
      · have : v ≠ h a := fun w => z (y.trans w)
        simp [y, this]
      · simp [y]
  rw [e]
  exact filter_drop (nd.filter _) (List.mem_filter.mpr ⟨s a ha, by simp [i a]⟩)
theorem rk_fixed {U : List V} (nd : U.Nodup) : ∀ (E : List (V × V)) {h : V → V}, Idem h → Stay U h → (∀ e ∈ E, e.1 ∈ U ∧ e.2 ∈ U) → rkF E h + (fixed U (labF E h)).length = (fixed U h).length
  | [], _, _, _, _ => by simp [rkF, labF]
  | e :: E, h, i, s, m => by
    have he := m e List.mem_cons_self
    have ih := rk_fixed nd E (merge_idem i e.1 e.2) (merge_stay s he.2) fun f hf => m f (List.mem_cons_of_mem _ hf)
    simp only [rkF, labF]
    by_cases q : h e.1 = h e.2
    · rw [if_pos q, Nat.zero_add, ih, merge_same q]
    · rw [if_neg q]
      have := fixed_merge nd i s he.1 q
      omega
theorem nodup_len {A : Type} [DecidableEq A] : ∀ {l m : List A}, l.Nodup → (∀ a ∈ l, a ∈ m) → l.length ≤ m.length
  | [], _, _, _ => Nat.zero_le _
  | a :: l, m, nd, h => by
    rw [List.nodup_cons] at nd
    have hm := h a List.mem_cons_self
    have p := List.perm_cons_erase hm
    have : ∀ b ∈ l, b ∈ m.erase a := fun b hb => by
      have := p.mem_iff.mp (h b (List.mem_cons_of_mem _ hb))
      rcases List.mem_cons.mp this with e | e
      · subst e; exact absurd hb nd.1
      · exact e
    have := nodup_len nd.2 this
    have e := p.length_eq
    simp at e ⊢; omega
theorem nodup_map {A B : Type} {f : A → B} : ∀ {l : List A}, l.Nodup → (∀ a ∈ l, ∀ b ∈ l, f a = f b → a = b) → (l.map f).Nodup
  | [], _, _ => List.nodup_nil
  | a :: l, nd, h => by
    rw [List.nodup_cons] at nd
    rw [List.map_cons, List.nodup_cons]
    refine ⟨fun hm => ?_, nodup_map nd.2 fun x hx y hy => h x (List.mem_cons_of_mem _ hx) y (List.mem_cons_of_mem _ hy)⟩
    obtain ⟨b, hb, e⟩ := List.mem_map.mp hm
    have := h b (List.mem_cons_of_mem _ hb) a List.mem_cons_self e
    subst this
    exact nd.1 hb
theorem fixed_le {U : List V} (nd : U.Nodup) {h g : V → V} (ih : Idem h) (ig : Idem g) (sg : Stay U g) (k : ∀ a b, g a = g b → h a = h b) : (fixed U h).length ≤ (fixed U g).length := by
  have n1 : ((fixed U h).map g).Nodup := nodup_map (nd.filter _) fun a ha b hb e => by
    have h1 := (List.mem_filter.mp ha).2
    have h2 := (List.mem_filter.mp hb).2
    simp at h1 h2
    rw [← h1, ← h2]; exact k a b e
  have := nodup_len n1 (m := fixed U g) fun x hx => by
    obtain ⟨v, hv, rfl⟩ := List.mem_map.mp hx
    exact List.mem_filter.mpr ⟨sg v (List.mem_filter.mp hv).1, by simp [ig v]⟩
  rwa [List.length_map] at this
theorem lab_stay {U : List V} : ∀ (E : List (V × V)) {h : V → V}, Stay U h → (∀ e ∈ E, e.1 ∈ U ∧ e.2 ∈ U) → Stay U (labF E h)
  | [], _, s, _ => s
  | e :: E, h, s, m => lab_stay E (merge_stay s (m e List.mem_cons_self).2) fun f hf => m f (List.mem_cons_of_mem _ hf)
theorem fixed_id (U : List V) : fixed U (id : V → V) = U := List.filter_eq_self.mpr fun v _ => by simp
/-- points and lines and clumps -/
theorem rk_count {U : List V} (nd : U.Nodup) {E : List (V × V)} (m : ∀ e ∈ E, e.1 ∈ U ∧ e.2 ∈ U) : rk E + (fixed U (lab E)).length = U.length := by
  have := rk_fixed nd E (h := id) (fun _ => rfl) (fun _ h => h) m
  rwa [fixed_id] at this
def ends (E : List (V × V)) : List V := E.flatMap fun e => [e.1, e.2]
theorem mem_ends {E : List (V × V)} {e : V × V} (h : e ∈ E) : e.1 ∈ ends E ∧ e.2 ∈ ends E := ⟨List.mem_flatMap.mpr ⟨e, h, by simp⟩, List.mem_flatMap.mpr ⟨e, h, by simp⟩⟩
theorem nodup_of : ∀ l : List V, ∃ U : List V, U.Nodup ∧ ∀ v, v ∈ l → v ∈ U
  | [] => ⟨[], List.nodup_nil, fun _ h => h⟩
  | a :: l => by
    obtain ⟨U, nd, h⟩ := nodup_of l
    by_cases q : a ∈ U
    · exact ⟨U, nd, fun v hv => by
        rcases List.mem_cons.mp hv with rfl | z
        · exact q
        · exact h v z⟩
    · exact ⟨a :: U, List.nodup_cons.mpr ⟨q, nd⟩, fun v hv => by
        rcases List.mem_cons.mp hv with rfl | z
        · exact List.mem_cons_self
        · exact List.mem_cons_of_mem _ (h v z)⟩
theorem rk_conn {E F : List (V × V)} (k : ∀ a b, Conn E a b ↔ Conn F a b) : rk E = rk F := by
  obtain ⟨U, nd, hu⟩ : ∃ U : List V, U.Nodup ∧ ∀ v, v ∈ ends E ++ ends F → v ∈ U := nodup_of _
  have mE : ∀ e ∈ E, e.1 ∈ U ∧ e.2 ∈ U := fun e he => ⟨hu _ (by simp [mem_ends he]), hu _ (by simp [mem_ends he])⟩
  have mF : ∀ e ∈ F, e.1 ∈ U ∧ e.2 ∈ U := fun e he => ⟨hu _ (by simp [mem_ends he]), hu _ (by simp [mem_ends he])⟩
  have h1 : rk E + (fixed U (lab E)).length = U.length := rk_count nd mE
  have h2 : rk F + (fixed U (lab F)).length = U.length := rk_count nd mF
  have iE := lab_idem E (h := id) fun _ => rfl
  have iF := lab_idem F (h := id) fun _ => rfl
  have sE := lab_stay E (h := id) (fun _ h => h) mE
  have sF := lab_stay F (h := id) (fun _ h => h) mF
  have k1 : ∀ a b, lab F a = lab F b → lab E a = lab E b := fun a b e => (lab_iff E a b).mpr ((k a b).mpr ((lab_iff F a b).mp e))
  have k2 : ∀ a b, lab E a = lab E b → lab F a = lab F b := fun a b e => (lab_iff F a b).mpr ((k a b).mp ((lab_iff E a b).mp e))
  have l1 : (fixed U (lab E)).length ≤ (fixed U (lab F)).length := fixed_le nd iE iF sF k1
  have l2 : (fixed U (lab F)).length ≤ (fixed U (lab E)).length := fixed_le nd iF iE sE k2
  omega
theorem conn_perm {E F : List (V × V)} (p : E.Perm F) (a b : V) : Conn E a b ↔ Conn F a b := ⟨Conn.mono fun _ h => p.mem_iff.mp h, Conn.mono fun _ h => p.mem_iff.mpr h⟩
theorem rk_perm {E F : List (V × V)} (p : E.Perm F) : rk E = rk F := rk_conn (conn_perm p)
def flip (e : V × V) : V × V := (e.2, e.1)
/-- a line either way round -/
theorem rk_flip (a b : V) (E : List (V × V)) : rk ((a, b) :: E) = rk ((b, a) :: E) := rk_conn fun x y => ⟨Conn.sub fun u v m => by
    rcases List.mem_cons.mp m with z | z
    · cases z; exact .symm _ _ (.edge _ _ (by simp))
    · exact .edge _ _ (by simp [z]), Conn.sub fun u v m => by
    rcases List.mem_cons.mp m with z | z
    · cases z; exact .symm _ _ (.edge _ _ (by simp))
    · exact .edge _ _ (by simp [z])⟩
theorem rk_loop (a : V) (E : List (V × V)) : rk ((a, a) :: E) = rk E := by
  show (if (a : V) = a then 0 else 1) + rkF E (merge id a a) = _
  rw [if_pos rfl, Nat.zero_add, merge_same rfl]
theorem rk_cut {a b : V} (h : a ≠ b) (E : List (V × V)) : rk ((a, b) :: E) = 1 + rk (E.map (mp fun v => if v = a then b else v)) := by
  show (if (a : V) = b then 0 else 1) + rkF E (merge id a b) = _
  rw [if_neg h]
  congr 1
  exact rk_comp (fun v => if v = a then b else v) E id (merge id a b) fun u v => Iff.rfl
end Gr
/-! Q6: whichever splice is drawn first, the same net is left -/
namespace Nl
open PySem Sm Gr
/-! ### the least number of what hangs together -/
def mlF : List (Int × Int) → (Int → Int) → Int → Int
  | [], h => h
  | e :: E, h => mlF E (fun v => both (h e.1) (h e.2) (h v))
abbrev ml (E : List (Int × Int)) : Int → Int := mlF E id
theorem ml_comp (f : Int → Int) : ∀ (E : List (Int × Int)) (g : Int → Int) (v : Int), mlF E (fun v => g (f v)) v = mlF (E.map (mp f)) g (f v)
  | [], _, _ => rfl
  | e :: E, g, v => ml_comp f E (fun w => both (g (f e.1)) (g (f e.2)) (g w)) v
theorem both_le (a b n : Int) : both a b n ≤ n := by unfold both; split <;> omega
theorem ml_le : ∀ (E : List (Int × Int)) (h : Int → Int) (v : Int), mlF E h v ≤ h v
  | [], _, _ => Int.le_refl _
  | e :: E, h, v => Int.le_trans (ml_le E _ v) (both_le _ _ _)
theorem ml_conn : ∀ (E E0 : List (Int × Int)) (h : Int → Int), (∀ v, Conn E0 v (h v)) → ∀ v, Conn (E0 ++ E) v (mlF E h v)
  | [], E0, h, k, v => by rw [List.append_nil]; exact k v
  | e :: E, E0, h, k, v => by
    have up : ∀ x y, Conn E0 x y → Conn (E0 ++ [e]) x y := fun x y c => c.mono fun e he => by simp [he]
    have ed : Conn (E0 ++ [e]) e.1 e.2 := .edge _ _ (by simp)
    have := ml_conn E (E0 ++ [e]) (fun v => both (h e.1) (h e.2) (h v)) (fun v => by
      show Conn _ v (both (h e.1) (h e.2) (h v))
      have c1 : Conn (E0 ++ [e]) (h e.1) (h e.2) := ((up _ _ (k e.1)).symm _ _).trans _ _ _ (ed.trans _ _ _ (up _ _ (k e.2)))
      have c0 := up _ _ (k v)
      unfold both
      split
      · next q =>
        have : min (h e.1) (h e.2) = h e.1 ∨ min (h e.1) (h e.2) = h e.2 := by omega
        rcases q with q | q <;> rcases this with z | z <;> rw [z]
        · rw [q] at c0; exact c0
        · rw [q] at c0; exact c0.trans _ _ _ c1
        · rw [q] at c0; exact c0.trans _ _ _ (c1.symm _ _)
        · rw [q] at c0; exact c0
      · exact c0) v
    rw [List.append_assoc] at this
    exact this
theorem ml_eq : ∀ (E E0 : List (Int × Int)) (h : Int → Int), (∀ u v, Conn E0 u v → h u = h v) → ∀ u v, Conn (E0 ++ E) u v → mlF E h u = mlF E h v
  | [], E0, h, k, u, v, c => by rw [List.append_nil] at c; exact k u v c
  | e :: E, E0, h, k, u, v, c => by
    refine ml_eq E (E0 ++ [e]) (fun v => both (h e.1) (h e.2) (h v)) (fun u v c => ?_) u v (by rw [List.append_assoc]; exact c)
    induction c with
    | refl a => rfl
    | symm a b _ ih => exact ih.symm
    | trans a b c _ _ i j => exact i.trans j
    | edge a b m =>
      rcases List.mem_append.mp m with m | m
      · have := k a b (.edge _ _ m)
        show both _ _ (h a) = both _ _ (h b)
        rw [this]
      · simp at m
        subst m
        show both _ _ (h a) = both _ _ (h b)
        rw [both_l, both_r]
theorem conn_nil {u v : Int} (c : Conn [] u v) : u = v := by
  induction c with
  | refl a => rfl
  | symm a b _ ih => exact ih.symm
  | trans a b c _ _ i j => exact i.trans j
  | edge a b m => cases m
theorem ml_self (E : List (Int × Int)) (v : Int) : Conn E v (ml E v) := by
  have := ml_conn E [] id (fun v => .refl v) v
  simpa using this
theorem ml_same {E : List (Int × Int)} {u v : Int} (c : Conn E u v) : ml E u = ml E v := ml_eq E [] id (fun u v c => conn_nil c) u v (by simpa using c)
theorem ml_least {E : List (Int × Int)} {u v : Int} (c : Conn E v u) : ml E v ≤ u := by
  rw [ml_same c]; exact ml_le E id u
theorem ml_congr {E F : List (Int × Int)} (k : ∀ a b, Conn E a b ↔ Conn F a b) : ml E = ml F := by
  funext v
  have h1 := ml_least ((k _ _).mpr (ml_self F v))
  have h2 := ml_least ((k _ _).mp (ml_self E v))
  omega
/-! ### the lines of splices, between cords -/
def nums : Hg → List Int
  | .tip _ _ n => [n]
  | .knot _ l r => nums l ++ nums r
theorem nums_len : ∀ h : Hg, (nums h).length = h.nt
  | .tip _ _ _ => rfl
  | .knot _ l r => by simp [nums, nums_len l, nums_len r]
theorem nums_ren (f : Int → Int) : ∀ h : Hg, nums (h.ren f) = (nums h).map f
  | .tip _ _ _ => rfl
  | .knot _ l r => by simp [Hg.ren, nums, nums_ren f l, nums_ren f r]
def edP (p : Hg × Hg) : List (Int × Int) := (nums p.1).zip (nums p.2)
def ed (sp : List (Hg × Hg)) : List (Int × Int) := sp.flatMap edP
theorem mirs_nt : ∀ {h g : Hg}, h.mirs g = true → h.nt = g.nt
  | .tip _ _ _, .tip _ _ _, _ => rfl
  | .knot _ l r, .knot _ l2 r2, m => by
    simp only [Hg.mirs, Bool.and_eq_true] at m
    rw [Hg.nt_knot, Hg.nt_knot, mirs_nt m.2.1, mirs_nt m.2.2]
  | .tip _ _ _, .knot _ _ _, m => by cases m
  | .knot _ _ _, .tip _ _ _, m => by cases m
theorem edP_len {p : Hg × Hg} (m : p.1.mirs p.2 = true) : (edP p).length = p.1.nt := by
  simp [edP, nums_len, mirs_nt m]
theorem edP_knot {k k2 : Bool} {l r l2 r2 : Hg} (m : l.mirs l2 = true) : edP (.knot k l r, .knot k2 l2 r2) = edP (l, l2) ++ edP (r, r2) := by
  show (nums l ++ nums r).zip (nums l2 ++ nums r2) = _
  rw [List.zip_append (by rw [nums_len, nums_len, mirs_nt m])]
  rfl
theorem edP_ren (f : Int → Int) (p : Hg × Hg) : edP (renP f p) = (edP p).map (mp f) := by
  show (nums (p.1.ren f)).zip (nums (p.2.ren f)) = _
  rw [nums_ren, nums_ren, List.zip_map]; rfl
theorem ed_ren (f : Int → Int) (sp : List (Hg × Hg)) : ed (sp.map (renP f)) = (ed sp).map (mp f) := by
  unfold ed
  rw [List.flatMap_map, List.map_flatMap]
  congr 1
  funext p
  exact edP_ren f p
theorem ed_app (s t : List (Hg × Hg)) : ed (s ++ t) = ed s ++ ed t := List.flatMap_append
theorem ed_perm {s t : List (Hg × Hg)} (p : s.Perm t) : (ed s).Perm (ed t) := p.flatMap_right _
theorem split_at {A : Type} {sp : List A} {i : Nat} {p : A} (h : sp[i]? = some p) : sp = sp.take i ++ p :: sp.drop (i + 1) := by
  have hi := lt_of_get h
  have := List.take_append_drop i sp
  rw [List.drop_eq_getElem_cons hi] at this
  rw [List.getElem?_eq_getElem hi] at h
  cases h; exact this.symm
theorem ed_pull {sp : List (Hg × Hg)} {i : Nat} {p : Hg × Hg} (h : sp[i]? = some p) : (ed sp).Perm (edP p ++ ed (sp.take i ++ sp.drop (i + 1))) := by
  have e : sp = sp.take i ++ p :: sp.drop (i + 1) := by
    have hi := lt_of_get h
    have := List.take_append_drop i sp
    rw [List.drop_eq_getElem_cons hi] at this
    rw [List.getElem?_eq_getElem hi] at h
    cases h; exact this.symm
  have p1 : sp.Perm (p :: (sp.take i ++ sp.drop (i + 1))) := by
    conv => lhs; rw [e]
    exact List.perm_middle
  exact ed_perm p1
theorem ed_same {sp : List (Hg × Hg)} {i : Nat} {k l r k2 l2 r2} (h : sp[i]? = some (Hg.knot k l r, Hg.knot k2 l2 r2)) (m : l.mirs l2 = true) : ed (sp.take i ++ [(l, l2), (r, r2)] ++ sp.drop (i + 1)) = ed sp := by
  have e := split_at h
  conv => rhs; rw [e]
  simp only [ed, List.flatMap_append, List.flatMap_cons, List.flatMap_nil, List.append_nil]
  rw [edP_knot m, List.append_assoc]
/-! ### what is left -/
def finH (N : NetA) : List Hg := N.hs.map (Hg.ren (ml (ed N.sp)))
def finR (N : NetA) : Int := N.rings + (ed N.sp).length - rk (ed N.sp)
def outA (N : NetA) : NetA := ⟨finH N, [], finR N⟩
theorem ren_ren (f g : Int → Int) : ∀ h : Hg, (h.ren g).ren f = h.ren fun v => f (g v)
  | .tip _ _ _ => rfl
  | .knot _ l r => by simp [Hg.ren, ren_ren f g l, ren_ren f g r]
theorem ren_id : ∀ h : Hg, h.ren id = h
  | .tip _ _ _ => rfl
  | .knot _ l r => by simp [Hg.ren, ren_id l, ren_id r]
theorem fin_done {N : NetA} (h : N.sp = []) : N = outA N := by
  cases N with
  | mk hs sp rings =>
    subst h
    show _ = NetA.mk (hs.map (Hg.ren id)) [] (rings + ((0 : Nat) : Int) - ((0 : Nat) : Int))
    have : hs.map (Hg.ren id) = hs := by
      conv => rhs; rw [← List.map_id hs]
      congr 1
      funext h; exact ren_id h
    rw [this]; simp
theorem conn_loop (a : Int) (E : List (Int × Int)) (x y : Int) : Conn ((a, a) :: E) x y ↔ Conn E x y := ⟨Conn.sub fun u v m => by
    rcases List.mem_cons.mp m with z | z
    · cases z; exact .refl _
    · exact .edge _ _ z, Conn.mono fun e he => List.mem_cons_of_mem _ he⟩
theorem conn_flip (a b : Int) (E : List (Int × Int)) (x y : Int) : Conn ((a, b) :: E) x y ↔ Conn ((b, a) :: E) x y := ⟨Conn.sub fun u v m => by
    rcases List.mem_cons.mp m with z | z
    · cases z; exact .symm _ _ (.edge _ _ (by simp))
    · exact .edge _ _ (by simp [z]), Conn.sub fun u v m => by
    rcases List.mem_cons.mp m with z | z
    · cases z; exact .symm _ _ (.edge _ _ (by simp))
    · exact .edge _ _ (by simp [z])⟩
theorem rk_both {a b : Int} (h : a ≠ b) (E : List (Int × Int)) : rk ((a, b) :: E) = 1 + rk (E.map (mp (both a b))) := by
  by_cases q : a ≤ b
  · have e : both a b = fun v => if v = b then a else v := by
      funext v
      unfold both
      by_cases h1 : v = b
      · rw [if_pos (.inr h1), if_pos h1]; omega
      · rw [if_neg h1]
        split <;> omega
    rw [rk_flip, rk_cut (fun z => h z.symm), e]
  · have e : both a b = fun v => if v = a then b else v := by
      funext v
      unfold both
      by_cases h1 : v = a
      · rw [if_pos (.inl h1), if_pos h1]; omega
      · rw [if_neg h1]
        split <;> omega
    rw [rk_cut h, e]
theorem draw_fin {N : NetA} (ok : N.Ok) (i : Nat) : finH (drawA N i) = finH N ∧ finR (drawA N i) = finR N := by
  unfold drawA
  split
  · next k l r k2 l2 r2 hp =>
    have mp := ok.mir _ (List.mem_of_getElem? hp)
    simp only [Hg.mirs, Bool.and_eq_true] at mp
    have e := ed_same hp mp.2.1
    unfold finH finR
    simp only [e]
    exact ⟨trivial, trivial⟩
  · next d y a d2 y2 b hp =>
    have pl := ed_pull hp
    have e0 : edP (Hg.tip d y a, Hg.tip d2 y2 b) = [(a, b)] := rfl
    rw [e0] at pl
    generalize hE : ed (N.sp.take i ++ N.sp.drop (i + 1)) = E at *
    have pl : (ed N.sp).Perm ((a, b) :: E) := pl
    have r1 := rk_perm pl
    have m1 := ml_congr (conn_perm pl)
    have n1 := pl.length_eq
    rw [List.length_cons] at n1
    split
    · next hab =>
      subst hab
      unfold finH finR
      simp only [hE]
      rw [m1, r1, n1, rk_loop, ml_congr (conn_loop a E)]
      exact ⟨rfl, by omega⟩
    · next hab =>
      unfold finH finR
      simp only [ed_ren, hE]
      rw [m1, r1, n1, rk_both hab, List.length_map]
      refine ⟨?_, by omega⟩
      rw [List.map_map]
      congr 1
      funext h
      show (h.ren (both a b)).ren _ = _
      rw [ren_ren]
      congr 1
      funext v
      exact (ml_comp (both a b) E id v).symm
  · exact ⟨rfl, rfl⟩
theorem draw_out {N : NetA} (ok : N.Ok) (i : Nat) : outA (drawA N i) = outA N := by
  unfold outA
  rw [(draw_fin ok i).1, (draw_fin ok i).2]
theorem ed_len : ∀ {sp : List (Hg × Hg)}, (∀ p ∈ sp, p.1.mirs p.2 = true) → (ed sp).length = (sp.map fun p => p.1.nt).sum
  | [], _ => rfl
  | p :: sp, m => by
    have ih := ed_len (sp := sp) fun q hq => m q (List.mem_cons_of_mem _ hq)
    show (edP p ++ ed sp).length = _
    rw [List.length_append, ih, edP_len (m p List.mem_cons_self), List.map_cons, List.sum_cons]
theorem ed_ge : ∀ {sp : List (Hg × Hg)}, (∀ p ∈ sp, p.1.mirs p.2 = true) → sp.length ≤ (ed sp).length
  | [], _ => Nat.le_refl _
  | p :: sp, m => by
    have ih := ed_ge (sp := sp) fun q hq => m q (List.mem_cons_of_mem _ hq)
    show _ ≤ (edP p ++ ed sp).length
    rw [List.length_append, edP_len (m p List.mem_cons_self), List.length_cons]
    have := p.1.nt_pos; omega
/-- how many drawings are left -/
def mu (N : NetA) : Nat := 2 * (ed N.sp).length - N.sp.length
theorem draw_mu {N : NetA} (ok : N.Ok) {i : Nat} (hi : i < N.sp.length) : mu (drawA N i) + 1 = mu N ∧ ((drawA N i).sp.length + 1 = N.sp.length ∨ (drawA N i).sp.length = N.sp.length + 1) := by
  have g := ed_ge ok.mir
  have gp := List.getElem?_eq_getElem hi
  generalize N.sp[i] = p at gp
  obtain ⟨one, other⟩ := p
  have m := ok.mir _ (List.mem_of_getElem? gp)
  have g2 := ed_ge (ok.draw i).mir
  have lt : (N.sp.take i).length = i := by rw [List.length_take]; omega
  have ld : (N.sp.drop (i + 1)).length = N.sp.length - (i + 1) := by rw [List.length_drop]
  cases one with
  | knot k l r =>
    cases other with
    | tip _ _ _ => cases m
    | knot k2 l2 r2 =>
      simp only [Hg.mirs, Bool.and_eq_true] at m
      have e : drawA N i = ⟨N.hs, N.sp.take i ++ [(l, l2), (r, r2)] ++ N.sp.drop (i + 1), N.rings⟩ := by unfold drawA; rw [gp]
      have es := ed_same gp m.2.1
      rw [e] at g2 ⊢
      unfold mu
      simp only [es] at g2 ⊢
      simp only [List.length_append, lt, ld, List.length_cons, List.length_nil] at g2 ⊢
      omega
  | tip d y a =>
    cases other with
    | knot _ _ _ => cases m
    | tip d2 y2 b =>
      have pl := (ed_pull gp).length_eq
      have e0 : edP (Hg.tip d y a, Hg.tip d2 y2 b) = [(a, b)] := rfl
      rw [e0, List.length_append, List.length_singleton] at pl
      by_cases hab : a = b
      · have e : drawA N i = ⟨N.hs, N.sp.take i ++ N.sp.drop (i + 1), N.rings + 1⟩ := by unfold drawA; rw [gp]; simp [hab]
        rw [e] at g2 ⊢
        unfold mu
        simp only [List.length_append, lt, ld] at pl g2 ⊢
        omega
      · have e : drawA N i = ⟨N.hs.map (Hg.ren (both a b)), (N.sp.take i ++ N.sp.drop (i + 1)).map (renP (both a b)), N.rings⟩ := by unfold drawA; rw [gp]; simp [hab]
        rw [e] at g2 ⊢
        unfold mu
        simp only [ed_ren, List.length_map, List.length_append, lt, ld] at pl g2 ⊢
        omega
end Nl
/-! R10: all splices drawn -/
namespace Nl
open PySem Sm
variable {T : Nat → Option Body}
theorem e_p_drawn_out (c : DrawFns T) (c2 : T f_p_drawn_out = some b_p_drawn_out) {N : NetA} (gd : N.Good) (hm : mu N < 100000) {n : Nat} (hn : 120 ≤ n) (S : Store) :
    ev T n f_p_drawn_out [N.d] S = .ok (outA N).d S := by
  obtain ⟨n, rfl, _⟩ := two_up 118 (N := n) hn
  rw [ev_s c2]
  have mk := e_net' c.toNetFns gd.ok gd.fn gd.z (n := n) (by omega) S
  simp [NetA.d] at mk
  simp [step1, b_p_drawn_out, NetA.d, mk]
  generalize hz : whileN _ _ _ _ _ = zz
  obtain ⟨r, S2, h2, rfl, rfl⟩ := while_z hz
    (fun m ρ S' => S' = S ∧ ∃ M : NetA, ρ = [some M.d] ∧ M.Good ∧ mu M = m ∧ outA M = outA N)
    (fun ρ S' => S' = S ∧ ρ = [some (outA N).d]) (m := mu N) hm ⟨rfl, N, rfl, gd, rfl, rfl⟩
    (by
      rintro m ρ S' ⟨rfl, M, rfl, gm, rfl, eo⟩
      by_cases he : M.sp = []
      · left
        refine ⟨S', by simp [NetA.d, he, truD], rfl, ?_⟩
        rw [← eo, ← fin_done he]
      · right
        have hl : 0 < M.sp.length := List.length_pos_iff.mpr he
        have t := e_p_drawn c gm.ok gm.fn gm.z hl (n := n + 1) (by omega) S'
        refine ⟨S', [some (drawA M 0).d], S', mu (drawA M 0), by simp [NetA.d, he, truD], ?_, by have := (draw_mu gm.ok hl).1; omega, rfl, drawA M 0, rfl, gm.draw 0, rfl, by rw [draw_out gm.ok, eo]⟩
        simp at t
        simp [t])
  subst h2
  simp [NetA.d]
/-- a loop that may be left -/
theorem forV_brk {A : Type} {tg : List Nat} {body : MS} {inj : A → D} {xs : List A} {ρ : Sm.Env} {S : Store} {z : R Fl} (hz : forV tg body (xs.map fun x => [inj x]) ρ S = z) (I : Nat → Sm.Env → Store → Prop) (P : Sm.Env → Store → Prop) (h0 : I 0 ρ S)
    (h : ∀ i x ρ S, xs[i]? = some x → I i ρ S → (∃ r S', body (setAll tg [inj x] ρ) S = .ok (.nx r) S' ∧ I (i + 1) r S') ∨ (∃ r S', body (setAll tg [inj x] ρ) S = .ok (.bk r) S' ∧ P r S')) (he : ∀ ρ S, I xs.length ρ S → P ρ S) :
    ∃ r S', z = .ok (.nx r) S' ∧ P r S' := by
  subst hz
  have key : ∀ (ys : List A) (i : Nat) (ρ : Sm.Env) (S : Store), xs.drop i = ys → i + ys.length = xs.length → I i ρ S → ∃ r S', forV tg body (ys.map fun x => [inj x]) ρ S = .ok (.nx r) S' ∧ P r S' := by
    intro ys
    induction ys with
    | nil => intro i ρ S _ hl h0; exact ⟨ρ, S, rfl, he _ _ (by simp at hl; rw [← hl]; exact h0)⟩
    | cons y ys ih =>
      intro i ρ S hd hl h0
      have e : xs[i]? = some y := by
        have := List.getElem?_drop (xs := xs) (i := i) (j := 0)
        rw [hd] at this; simpa using this.symm
      have hd2 : xs.drop (i + 1) = ys := by rw [← List.drop_drop, hd]; rfl
      rcases h i y ρ S e h0 with ⟨r, S1, h1, h2⟩ | ⟨r, S1, h1, h2⟩
      · obtain ⟨r2, S2, h3, h4⟩ := ih (i + 1) r S1 hd2 (by rw [List.length_cons] at hl; omega) h2
        exact ⟨r2, S2, by rw [List.map_cons, forV_cons h1, h3], h4⟩
      · refine ⟨r, S1, ?_, h2⟩
        rw [List.map_cons]
        show (match body (setAll tg [inj y] ρ) S with
        | .ok (.nx r) S2 => forV tg body _ r S2
        | .ok (.ct r) S2 => forV tg body _ r S2
        | .ok (.bk r) S2 => .ok (.nx r) S2
        | r => r) = _
        rw [h1]
  exact key xs 0 ρ S rfl (by simp) h0
theorem notIn2 (S : Store) (i a b : Int) : oNotIn S (.int i) (.tup [.int a, .int b]) = .ok (.bl (!(decide (i = a) || decide (i = b)))) S := by
  unfold oNotIn oInB
  have h1 : inStr (.int i) (.tup [.int a, .int b]) = none := rfl
  have h2 : dGet S (.tup [.int a, .int b]) (.int i) = none := rfl
  have h3 : inInts S (.int i) (.tup [.int a, .int b]) = some (decide (i = a) || decide (i = b)) := by
    simp [inInts, flatI]
  rw [h1, h2, h3]
end Nl
/-! R11: dicts of numbers; nets told, lifted, compared -/
namespace Nl
open PySem Sm
variable {T : Nat → Option Body}
/-! ### dicts -/
theorem val_put {k B : Type} [DecidableEq k] (kvs : List (k × B)) (x y : k) (v : B) : valK (putG kvs x v) y = if y = x then some v else valK kvs y := by
  unfold putG
  by_cases h : (kvs.any fun kv => decide (kv.1 = x)) = true
  · rw [if_pos h]
    by_cases q : y = x
    · subst q
      rw [if_pos rfl]
      induction kvs with
      | nil => simp at h
      | cons p kvs ih =>
        by_cases e : p.1 = y
        · simp [valK, e]
        · have : (kvs.any fun kv => decide (kv.1 = y)) = true := by simpa [e] using h
          have ih := ih this
          simp [valK, e] at ih ⊢
          exact ih
    · rw [if_neg q]
      clear h
      induction kvs with
      | nil => rfl
      | cons p kvs ih =>
        have q' : ¬ x = y := fun z => q z.symm
        by_cases e : p.1 = x
        · have : ¬ p.1 = y := fun z => q' (e.symm.trans z)
          simp [valK, e, q'] at ih ⊢
          exact ih
        · by_cases e2 : p.1 = y
          · subst e2
            simp [valK, q]
          · simp [valK, e, e2] at ih ⊢
            exact ih
  · rw [if_neg h]
    by_cases q : y = x
    · subst q
      rw [if_pos rfl]
      have : kvs.find? (fun kv => decide (kv.1 = y)) = none := by
        rw [List.find?_eq_none]
        intro p hp z
        exact h (List.any_eq_true.mpr ⟨p, hp, z⟩)
      simp [valK, List.find?_append, this]
    · rw [if_neg q]
      have q' : ¬ x = y := fun z => q z.symm
      simp [valK, List.find?_append, q']
theorem len_put {k B : Type} [DecidableEq k] (kvs : List (k × B)) (x : k) (v : B) : (putG kvs x v).length = if (valK kvs x).isSome then kvs.length else kvs.length + 1 := by
  unfold putG valK
  by_cases h : (kvs.any fun kv => decide (kv.1 = x)) = true
  · rw [if_pos h]
    have : ((kvs.find? fun kv => decide (kv.1 = x)).map (·.2)).isSome = true := by
      obtain ⟨p, hp, z⟩ := List.any_eq_true.mp h
      rw [Option.isSome_map, List.find?_isSome]
      exact ⟨p, hp, z⟩
    rw [if_pos this, List.length_map]
  · rw [if_neg h]
    have : ¬ ((kvs.find? fun kv => decide (kv.1 = x)).map (·.2)).isSome = true := by
      rw [Option.isSome_map, List.find?_isSome]
      rintro ⟨p, hp, z⟩
      exact h (List.any_eq_true.mpr ⟨p, hp, z⟩)
    rw [if_neg this, List.length_append]; rfl
theorem len_put_le {k B : Type} [DecidableEq k] (kvs : List (k × B)) (x : k) (v : B) : (putG kvs x v).length ≤ kvs.length + 1 := by
  rw [len_put]; split <;> omega
/-! ### numbered by where they first stand -/
def firsts (acc l : List Int) : List Int := l.foldl (fun acc n => if n ∈ acc then acc else acc ++ [n]) acc
theorem firsts_cons (acc l : List Int) (n : Int) : firsts acc (n :: l) = firsts (if n ∈ acc then acc else acc ++ [n]) l := rfl
theorem firsts_app (acc l m : List Int) : firsts acc (l ++ m) = firsts (firsts acc l) m := List.foldl_append
theorem firsts_nodup : ∀ (l : List Int) {acc : List Int}, acc.Nodup → (firsts acc l).Nodup
  | [], _, h => h
  | n :: l, acc, h => by
    rw [firsts_cons]
    refine firsts_nodup l ?_
    split
    · exact h
    · next q => exact List.nodup_append.mpr ⟨h, by simp, fun a ha b hb => by simp at hb; subst hb; exact fun e => q (by rw [← e]; exact ha)⟩
theorem mem_firsts : ∀ (l : List Int) {acc : List Int} {m : Int}, m ∈ firsts acc l ↔ m ∈ acc ∨ m ∈ l
  | [], _, _ => by simp [firsts]
  | n :: l, acc, m => by
    rw [firsts_cons, mem_firsts l]
    split
    · next q =>
      constructor
      · rintro (h | h)
        · exact .inl h
        · exact .inr (by simp [h])
      · rintro (h | h)
        · exact .inl h
        · rcases List.mem_cons.mp h with rfl | h
          · exact .inl q
          · exact .inr h
    · simp; constructor
      · rintro ((h | h) | h) <;> simp [h]
      · rintro (h | h | h) <;> simp [h]
theorem firsts_idx : ∀ (l : List Int) {acc : List Int} {m : Int}, m ∈ acc → (firsts acc l).idxOf m = acc.idxOf m
  | [], _, _, _ => rfl
  | n :: l, acc, m, h => by
    rw [firsts_cons]
    split
    · exact firsts_idx l h
    · rw [firsts_idx l (List.mem_append_left _ h), List.idxOf_append, if_pos h]
def toldN (acc : List Int) (n : Int) : Int := if n ∈ acc then (acc.idxOf n : Int) else n
/-- a dict that tells places -/
structure IsNames (kvs : List (L2.Key × D)) (acc : List Int) : Prop where
  nd : acc.Nodup
  len : kvs.length = acc.length
  val : ∀ n : Int, valK kvs (.inl n) = if n ∈ acc then some (.int (acc.idxOf n : Nat)) else none
theorem IsNames.nil : IsNames [] [] := ⟨List.nodup_nil, rfl, fun n => by simp [valK]⟩
theorem IsNames.put {kvs : List (L2.Key × D)} {acc : List Int} (h : IsNames kvs acc) {n : Int} (hn : n ∉ acc) : IsNames (putG kvs (.inl n) (.int (acc.length : Nat))) (acc ++ [n]) := by
  refine ⟨List.nodup_append.mpr ⟨h.nd, by simp, fun a ha b hb => by simp at hb; subst hb; exact fun e => hn (by rw [← e]; exact ha)⟩, ?_, fun m => ?_⟩
  · have : valK kvs (.inl n) = none := by rw [h.val, if_neg hn]
    rw [len_put, this]
    simp [h.len]
  · rw [val_put, h.val]
    by_cases q : m = n
    · subst q
      rw [if_pos rfl, if_pos (by simp), List.idxOf_append, if_neg hn]
      simp
    · have : ¬ ((Sum.inl m : L2.Key) = Sum.inl n) := by simp; exact q
      rw [if_neg this]
      by_cases z : m ∈ acc
      · rw [if_pos z, if_pos (by simp [z]), List.idxOf_append, if_pos z]
      · rw [if_neg z, if_neg (by simp [z, q])]
theorem IsNames.tells {kvs : List (L2.Key × D)} {acc : List Int} (h : IsNames kvs acc) : Tells kvs (toldN acc) := by
  intro m
  by_cases q : m ∈ acc
  · left; rw [h.val, if_pos q]; simp [toldN, q]
  · right; rw [h.val, if_neg q]; exact ⟨rfl, by simp [toldN, q]⟩
theorem notIn_dk {S : Store} {m : Nat} {kvs : List (L2.Key × D)} (h : S[m]? = some (.dk kvs)) (n : Int) : oNotIn S (.int n) (.cell m) = .ok (.bl (!(valK kvs (.inl n)).isSome)) S := by
  unfold oNotIn oInB
  have h1 : inStr (.int n) (.cell m) = none := rfl
  have h2 : dGet S (.cell m) (.int n) = some (valK kvs (.inl n)) := by simp [dGet, dLook, h, keyOf]
  rw [h1, h2]
theorem numsT_tips : ∀ h : Hg, numsT h.tips = nums h
  | .tip _ _ _ => rfl
  | .knot _ l r => by
    have h1 := numsT_tips l
    have h2 := numsT_tips r
    unfold numsT at *
    simp only [Hg.tips, List.map_append, nums, h1, h2]
/-- the cord's number of each tip of a net -/
def numsA (N : NetA) : List Int := numsT (allT N.hs N.sp)
def renA (f : Int → Int) (N : NetA) : NetA := ⟨N.hs.map (Hg.ren f), N.sp.map (renP f), N.rings⟩
theorem renP_eq (f : Int → Int) : (fun p : Hg × Hg => (p.1.ren f, p.2.ren f)) = renP f := rfl
structure ToldFns (T : Nat → Option Body) : Prop extends NetFns T where
  renamed : T f_p_renamed = some b_p_renamed
  with_names : T f_p_with_names = some b_p_with_names
  told : T f_p_told = some b_p_told
  lifted : T f_p_lifted = some b_p_lifted
  alike : T f_p_alike = some b_p_alike
theorem e_p_with_names (c : ToldFns T) {N : NetA} (gd : N.Good) {f : Int → Int} (gr : (renA f N).Good) {S : Store} {m : Nat} {kvs : List (L2.Key × D)} (hS : S[m]? = some (.dk kvs)) (t : Tells kvs f) {n : Nat} (hn : 120 ≤ n) :
    ev T n f_p_with_names [N.d, .cell m] S = .ok (renA f N).d S := by
  obtain ⟨n, rfl, _⟩ := two_up 118 (N := n) hn
  rw [ev_s c.with_names]
  have rn := fun (h : Hg) (hd : h.depth ≤ 60) => e_p_renamed c.is_tip c.renamed hS t h (N := n + 1) (by omega)
  have mk := e_net' c.toNetFns gr.ok gr.fn gr.z (n := n) (by omega) S
  simp [step1, b_p_with_names, NetA.d]
  rw [comp_map (d := .lst (N.hs.map ofH)) N.hs ofH (fun h => ofH (h.ren f)) (by simp) (by rw [itA_lst, ones_map]) (fun h hh => by simp [setAll, wipeE, rn h (gd.fn.hs h hh).2])]
  simp
  rw [comp_map (d := .lst (N.sp.map ofP)) N.sp ofP (fun p => ofP (renP f p)) (by simp) (by rw [itA_lst, ones_map]) (fun p hp => by
    have fp := gd.fn.sp p hp
    simp [setAll, wipeE, ofP, renP, rn p.1 fp.1.2, rn p.2 fp.2.2])]
  simp [renA, NetA.d, Function.comp_def] at mk
  simp [mk, renA]
theorem e_tips (c : NetFns T) {N : NetA} (gd : N.Good) {n : Nat} (hn : 112 ≤ n) (S : Store) : ev T n f_p_net_tips [N.d] S = .ok (.lst ((allT N.hs N.sp).map ofH)) S :=
  e_p_net_tips c N.hs N.sp (gd.fn.small gd.z) (fun _ => by simp [NetA.d]) (fun _ => by simp [NetA.d]) hn
theorem numsT_snoc {ts : List Hg} {i : Nat} {t : Hg} (h : ts[i]? = some t) : numsT (ts.take (i + 1)) = numsT (ts.take i) ++ [tnum t] := by
  rw [List.take_add_one, h]; simp [numsT]
theorem e_p_told (c : ToldFns T) {N : NetA} (gd : N.Good) (gr : (renA (toldN (firsts [] (numsA N))) N).Good) {n : Nat} (hn : 124 ≤ n) (S : Store) :
    ev T n f_p_told [N.d] S = .ok (renA (toldN (firsts [] (numsA N))) N).d S := by
  obtain ⟨n, rfl, _⟩ := two_up 122 (N := n) hn
  rw [ev_s c.told]
  have t1 := e_tips c.toNetFns gd (n := n + 1) (by omega)
  simp [step1, b_p_told]
  rw [for_src (src := [.lst ((allT N.hs N.sp).map ofH)]) (by simp [t1]; rfl) (fun S => itA_lst _ S), ones_map]
  generalize hz0 : forV _ _ _ _ _ = zz
  obtain ⟨r, S1, e1, ⟨o, rfl⟩, kvs, rfl, hk⟩ := forV_z hz0 (fun (u : Unit) (_ : Hg) => u)
    (fun i _ ρ S1 => (∃ o, ρ = [some N.d, some (.cell S.length), o]) ∧ ∃ kvs, S1 = S ++ [.dk kvs] ∧ IsNames kvs (firsts [] (numsT ((allT N.hs N.sp).take i)))) (st := ()) ⟨⟨none, rfl⟩, [], rfl, .nil⟩
    (by
      rintro i _ t ρ S1 hx ⟨⟨o, rfl⟩, kvs, rfl, hk⟩
      have ht := gd.ok.fit.tip t (List.mem_of_getElem? hx)
      cases t with
      | knot _ _ _ => cases ht
      | tip dk y m =>
        have hS : (S ++ [MO.dk kvs])[S.length]? = some (.dk kvs) := by simp
        have q1 := notIn_dk hS m
        rw [hk.val] at q1
        have e2 := numsT_snoc hx
        have hl : kvs.length < sizeLine := by
          have : (firsts [] (numsT ((allT N.hs N.sp).take i))).length ≤ (allT N.hs N.sp).length := by
            have := Gr.nodup_len hk.nd (m := numsT (allT N.hs N.sp)) fun a ha => by
              rcases (mem_firsts _).mp ha with z | z
              · cases z
              · obtain ⟨t, h1, rfl⟩ := List.mem_map.mp z
                exact List.mem_map.mpr ⟨t, List.mem_of_mem_take h1, rfl⟩
            have e : (numsT (allT N.hs N.sp)).length = (allT N.hs N.sp).length := List.length_map _
            omega
          have := gd.z
          rw [hk.len]
          exact Nat.lt_of_le_of_lt (by omega : _ ≤ 1000000) (by decide)
        by_cases q : m ∈ firsts [] (numsT ((allT N.hs N.sp).take i))
        · rw [if_pos q] at q1
          refine ⟨[some N.d, some (.cell S.length), some (ofH (.tip dk y m))], S ++ [.dk kvs], by simp [setAll, q1], ⟨_, rfl⟩, kvs, rfl, ?_⟩
          have e3 : tnum (.tip dk y m) = m := rfl
          rw [e2, firsts_app, firsts_cons, e3, if_pos q]; exact hk
        · rw [if_neg q] at q1
          refine ⟨[some N.d, some (.cell S.length), some (ofH (.tip dk y m))], S ++ [.dk (putG kvs (.inl m) (.int (firsts [] (numsT ((allT N.hs N.sp).take i))).length))], by rw [hk.len] at hl; simp [setAll, q1, keyOf, hl, hk.len], ⟨_, rfl⟩, _, rfl, ?_⟩
          have e3 : tnum (.tip dk y m) = m := rfl
          rw [e2, firsts_app, firsts_cons, e3, if_neg q]; exact hk.put q)
  subst e1
  rw [List.take_length] at hk
  have q := e_p_with_names c gd gr (S := S ++ [.dk kvs]) (m := S.length) (kvs := kvs) (by simp) hk.tells (n := n + 1) (by omega)
  simp [q]
  exact fin_rtT (take_app _ _) (cl_net _ _ _)
end Nl
/-! R12: nets told, lifted, compared; the laws' told forms -/
namespace Nl
open PySem Sm
variable {T : Nat → Option Body}
theorem mem_numsT {h : Hg} {m : Int} (d : Bool) (y : Str) : ∀ {ts : List Hg}, .tip d y m ∈ ts → m ∈ numsT ts := fun hm => List.mem_map.mpr ⟨_, hm, rfl⟩
theorem ren_congr {f g : Int → Int} : ∀ {h : Hg}, (∀ m ∈ nums h, f m = g m) → h.ren f = h.ren g
  | .tip d y n, k => by simp only [Hg.ren]; rw [k n (by simp [nums])]
  | .knot w l r, k => by
    simp only [Hg.ren]
    rw [ren_congr (h := l) fun m hm => k m (by simp [nums, hm]), ren_congr (h := r) fun m hm => k m (by simp [nums, hm])]
theorem ren_fine' {f : Int → Int} : ∀ {h : Hg}, h.Fine → (∀ m ∈ nums h, 0 ≤ f m ∧ f m < 10 ^ 30) → (h.ren f).Fine
  | .tip d y n, p, k => ⟨p.1, k n (by simp [nums])⟩
  | .knot w l r, p, k => ⟨ren_fine' p.1 fun m hm => k m (by simp [nums, hm]), ren_fine' p.2 fun m hm => k m (by simp [nums, hm])⟩
def numsL (hs : List Hg) : List Int := hs.flatMap nums
def numsP (p : Hg × Hg) : List Int := nums p.1 ++ nums p.2
def numsS (sp : List (Hg × Hg)) : List Int := sp.flatMap numsP
theorem numsT_app (l m : List Hg) : numsT (l ++ m) = numsT l ++ numsT m := List.map_append
theorem numsT_L : ∀ hs : List Hg, numsT (tipsL hs) = numsL hs
  | [] => rfl
  | h :: hs => by rw [tipsL_cons, numsT_app, numsT_tips, numsT_L hs]; rfl
theorem numsT_P (p : Hg × Hg) : numsT (tipsP p) = numsP p := by unfold tipsP numsP; rw [numsT_app, numsT_tips, numsT_tips]
theorem numsT_S : ∀ sp : List (Hg × Hg), numsT (tipsS sp) = numsS sp
  | [] => rfl
  | p :: sp => by rw [tipsS_cons, numsT_app, numsT_P, numsT_S sp]; rfl
theorem numsA_eq (N : NetA) : numsA N = numsL N.hs ++ numsS N.sp := by unfold numsA allT; rw [numsT_app, numsT_L, numsT_S]
theorem mem_numsL {hs : List Hg} {h : Hg} {m : Int} (hh : h ∈ hs) (hm : m ∈ nums h) : m ∈ numsL hs := List.mem_flatMap.mpr ⟨h, hh, hm⟩
theorem mem_numsS {sp : List (Hg × Hg)} {p : Hg × Hg} {m : Int} (hp : p ∈ sp) (hm : m ∈ numsP p) : m ∈ numsS sp := List.mem_flatMap.mpr ⟨p, hp, hm⟩
/-- a net whose cords are numbered anew, unlike numbers unlike -/
theorem fits_ren {f : Int → Int} {ts : List Hg} (h : Fits ts) (inj : ∀ a ∈ numsT ts, ∀ b ∈ numsT ts, f a = f b → a = b) : Fits (ts.map (Hg.ren f)) := by
  obtain ⟨tp, ln, dn, mate⟩ := h
  have ml : ∀ p ∈ lightsOf ts, p.1 ∈ numsT ts := fun p hp => List.mem_map.mpr ⟨_, mem_lights.mp hp, rfl⟩
  have md : ∀ p ∈ darksOf ts, p.1 ∈ numsT ts := fun p hp => List.mem_map.mpr ⟨_, mem_darks.mp hp, rfl⟩
  refine ⟨fun t ht => ?_, ?_, ?_, fun p => ?_⟩
  · obtain ⟨t0, h0, rfl⟩ := List.mem_map.mp ht
    have := tp t0 h0
    cases t0 with
    | tip _ _ _ => rfl
    | knot _ _ _ => cases this
  · rw [lights_ren _ _ tp, List.map_map]
    have e : (lightsOf ts).map ((fun p : Int × Str => p.1) ∘ fun p : Int × Str => (f p.1, p.2)) = ((lightsOf ts).map (·.1)).map f := by rw [List.map_map]; rfl
    rw [e]
    refine nodup_map_on ln fun a ha b hb q => ?_
    obtain ⟨p, hp, rfl⟩ := List.mem_map.mp ha
    obtain ⟨p2, hp2, rfl⟩ := List.mem_map.mp hb
    exact inj _ (ml p hp) _ (ml p2 hp2) q
  · rw [darks_ren _ _ tp, List.map_map]
    have e : (darksOf ts).map ((fun p : Int × Str => p.1) ∘ fun p : Int × Str => (f p.1, p.2)) = ((darksOf ts).map (·.1)).map f := by rw [List.map_map]; rfl
    rw [e]
    refine nodup_map_on dn fun a ha b hb q => ?_
    obtain ⟨p, hp, rfl⟩ := List.mem_map.mp ha
    obtain ⟨p2, hp2, rfl⟩ := List.mem_map.mp hb
    exact inj _ (md p hp) _ (md p2 hp2) q
  · rw [lights_ren _ _ tp, darks_ren _ _ tp, List.mem_map, List.mem_map]
    constructor
    · rintro ⟨q, hq, rfl⟩; exact ⟨q, (mate q).mp hq, rfl⟩
    · rintro ⟨q, hq, rfl⟩; exact ⟨q, (mate q).mpr hq, rfl⟩
theorem NetA.Good.ren {N : NetA} (gd : N.Good) {f : Int → Int} (inj : ∀ a ∈ numsA N, ∀ b ∈ numsA N, f a = f b → a = b) (bd : ∀ a ∈ numsA N, 0 ≤ f a ∧ f a < 10 ^ 30) : (renA f N).Good := by
  have h1 : ∀ h ∈ N.hs, ∀ m ∈ nums h, m ∈ numsA N := fun h hh m hm => by rw [numsA_eq]; exact List.mem_append_left _ (mem_numsL hh hm)
  have h2 : ∀ p ∈ N.sp, ∀ m ∈ numsP p, m ∈ numsA N := fun p hp m hm => by rw [numsA_eq]; exact List.mem_append_right _ (mem_numsS hp hm)
  refine ⟨⟨?_, fun p hp => ?_⟩, ⟨fun h hh => ?_, fun p hp => ?_⟩, ?_⟩
  · show Fits (allT (N.hs.map (Hg.ren f)) (N.sp.map (renP f)))
    rw [allT_ren]
    exact fits_ren gd.ok.fit inj
  · obtain ⟨q, hq, rfl⟩ := List.mem_map.mp hp
    show (q.1.ren f).mirs (q.2.ren f) = true
    rw [Hg.mirs_ren]; exact gd.ok.mir q hq
  · obtain ⟨h0, m0, rfl⟩ := List.mem_map.mp hh
    obtain ⟨f0, d0⟩ := gd.fn.hs h0 m0
    exact ⟨ren_fine' f0 fun m hm => bd m (h1 h0 m0 m hm), by rw [Hg.depth_ren]; exact d0⟩
  · obtain ⟨q, hq, rfl⟩ := List.mem_map.mp hp
    obtain ⟨⟨f1, d1⟩, f2, d2⟩ := gd.fn.sp q hq
    exact ⟨⟨ren_fine' f1 fun m hm => bd m (h2 q hq m (by simp [numsP, hm])), by show (q.1.ren f).depth ≤ 60; rw [Hg.depth_ren]; exact d1⟩, ⟨ren_fine' f2 fun m hm => bd m (h2 q hq m (by simp [numsP, hm])), by show (q.2.ren f).depth ≤ 60; rw [Hg.depth_ren]; exact d2⟩⟩
  · show (allT (N.hs.map (Hg.ren f)) (N.sp.map (renP f))).length ≤ _
    rw [allT_ren, List.length_map]; exact gd.z
theorem toldN_inj {acc : List Int} {a b : Int} (ha : a ∈ acc) (hb : b ∈ acc) (e : toldN acc a = toldN acc b) : a = b := by
  simp only [toldN, if_pos ha, if_pos hb] at e
  have e : acc.idxOf a = acc.idxOf b := by omega
  have h1 : acc[acc.idxOf a]? = some a := by
    rw [List.getElem?_eq_getElem (List.idxOf_lt_length_of_mem ha), List.getElem_idxOf]
  have h2 : acc[acc.idxOf b]? = some b := by
    rw [List.getElem?_eq_getElem (List.idxOf_lt_length_of_mem hb), List.getElem_idxOf]
  rw [e, h2] at h1
  cases h1; rfl
def toldA (N : NetA) : NetA := renA (toldN (firsts [] (numsA N))) N
theorem numsA_len (N : NetA) : (numsA N).length = (allT N.hs N.sp).length := List.length_map _
theorem NetA.Good.told {N : NetA} (gd : N.Good) : (toldA N).Good := by
  have mem : ∀ a ∈ numsA N, a ∈ firsts [] (numsA N) := fun a ha => (mem_firsts _).mpr (.inr ha)
  refine gd.ren (fun a ha b hb e => toldN_inj (mem a ha) (mem b hb) e) fun a ha => ?_
  have nd := firsts_nodup (numsA N) (acc := []) List.nodup_nil
  have := Gr.nodup_len nd (m := numsA N) fun a ha => ((mem_firsts _).mp ha).resolve_left (fun z => by cases z)
  have h1 := List.idxOf_lt_length_of_mem (mem a ha)
  have h2 := gd.z
  rw [numsA_len] at this
  simp only [toldN, if_pos (mem a ha)]
  omega
theorem e_told (c : ToldFns T) {N : NetA} (gd : N.Good) {n : Nat} (hn : 124 ≤ n) (S : Store) : ev T n f_p_told [N.d] S = .ok (toldA N).d S := e_p_told c gd gd.told hn S
/-! ### lifted -/
theorem e_p_lifted (c : ToldFns T) {N : NetA} (gd : N.Good) (step : Int) (gr : (renA (fun n => n + step) N).Good) {n : Nat} (hn : 124 ≤ n) (S : Store) :
    ev T n f_p_lifted [N.d, .int step] S = .ok (renA (fun n => n + step) N).d S := by
  obtain ⟨n, rfl, _⟩ := two_up 122 (N := n) hn
  rw [ev_s c.lifted]
  have t1 := e_tips c.toNetFns gd (n := n + 1) (by omega)
  simp [step1, b_p_lifted]
  rw [for_src (src := [.lst ((allT N.hs N.sp).map ofH)]) (by simp [t1]; rfl) (fun S => itA_lst _ S), ones_map]
  generalize hz0 : forV _ _ _ _ _ = zz
  obtain ⟨r, S1, e1, ⟨o, rfl⟩, kvs, rfl, hl, hk⟩ := forV_z hz0 (fun (u : Unit) (_ : Hg) => u)
    (fun i _ ρ S1 => (∃ o, ρ = [some N.d, some (.int step), some (.cell S.length), o]) ∧ ∃ kvs, S1 = S ++ [.dk kvs] ∧ kvs.length ≤ i ∧ ∀ m : Int, valK kvs (.inl m) = if m ∈ numsT ((allT N.hs N.sp).take i) then some (.int (m + step)) else none) (st := ()) ⟨⟨none, rfl⟩, [], rfl, by simp, fun m => by simp [numsT, valK]⟩
    (by
      rintro i _ t ρ S1 hx ⟨⟨o, rfl⟩, kvs, rfl, hl, hk⟩
      have ht := gd.ok.fit.tip t (List.mem_of_getElem? hx)
      have hi := lt_of_get hx
      have hz := gd.z
      cases t with
      | knot _ _ _ => cases ht
      | tip dk y m =>
        have e2 := numsT_snoc hx
        have e3 : tnum (.tip dk y m) = m := rfl
        have hl2 : kvs.length < sizeLine := Nat.lt_of_le_of_lt (by omega : _ ≤ 1000000) (by decide)
        refine ⟨[some N.d, some (.int step), some (.cell S.length), some (ofH (.tip dk y m))], S ++ [.dk (putG kvs (.inl m) (.int (m + step)))], by simp [setAll, keyOf, hl2], ⟨_, rfl⟩, _, rfl, ?_, fun k => ?_⟩
        · have := len_put_le kvs (.inl m : L2.Key) (.int (m + step)); omega
        · rw [val_put, hk, e2, e3]
          by_cases q : k = m
          · subst q; simp
          · have : ¬ ((Sum.inl k : L2.Key) = Sum.inl m) := by simp; exact q
            rw [if_neg this]
            simp [q])
  subst e1
  rw [List.take_length] at hk
  have hk : ∀ m : Int, valK kvs (.inl m) = if m ∈ numsA N then some (.int (m + step)) else none := hk
  have tl : Tells kvs (fun n => if n ∈ numsA N then n + step else n) := fun m => by
    by_cases q : m ∈ numsA N
    · left; rw [hk m, if_pos q]; simp [q]
    · right; rw [hk m, if_neg q]; exact ⟨rfl, if_neg q⟩
  have e2 : renA (fun n => if n ∈ numsA N then n + step else n) N = renA (fun n => n + step) N := by
    unfold renA
    congr 1
    · refine List.map_congr_left fun h hh => ren_congr fun m hm => if_pos ?_
      rw [numsA_eq]; exact List.mem_append_left _ (mem_numsL hh hm)
    · refine List.map_congr_left fun p hp => ?_
      unfold renP
      have : ∀ m ∈ numsP p, m ∈ numsA N := fun m hm => by rw [numsA_eq]; exact List.mem_append_right _ (mem_numsS hp hm)
      rw [ren_congr (h := p.1) fun m hm => if_pos (this m (by simp [numsP, hm])), ren_congr (h := p.2) fun m hm => if_pos (this m (by simp [numsP, hm]))]
  have q := e_p_with_names c gd (by rw [e2]; exact gr) (S := S ++ [.dk kvs]) (m := S.length) (kvs := kvs) (by simp) tl (n := n + 1) (by omega)
  rw [e2] at q
  simp [q]
  exact fin_rtT (take_app _ _) (cl_net _ _ _)
/-! ### alike -/
theorem oEq_hs {S : Store} {d e : D} {hs gs : List Hg} (f : FineL hs) (g : FineL gs) (hd : deref S d = .lst (hs.map ofH)) (he : deref S e = .lst (gs.map ofH)) : oEq S d e = .ok (.bl (decide (hs = gs))) S :=
  oEq_lay (A := List Hg) (f := fun l => .lst (l.map ofH)) (fun x y => eq_lstF eqF_H x y) (lay_map (n := 61) fun h hh => (lay_H (f h hh).1).mono (by have := (f h hh).2; omega)) (lay_map (n := 61) fun h hh => (lay_H (g h hh).1).mono (by have := (g h hh).2; omega)) (by decide) (by decide) hd he
theorem oEq_sp {S : Store} {d e : D} {hs gs : List (Hg × Hg)} (f : FineS hs) (g : FineS gs) (hd : deref S d = .lst (hs.map ofP)) (he : deref S e = .lst (gs.map ofP)) : oEq S d e = .ok (.bl (decide (hs = gs))) S :=
  oEq_lay (A := List (Hg × Hg)) (f := fun l => .lst (l.map ofP)) (fun x y => eq_lstF eqF_P x y) (lay_map (n := 62) fun p hp => lay_P (f p hp).1.1 (f p hp).2.1 (f p hp).1.2 (f p hp).2.2) (lay_map (n := 62) fun p hp => lay_P (g p hp).1.1 (g p hp).2.1 (g p hp).1.2 (g p hp).2.2) (by decide) (by decide) hd he
def alikeA (M N : NetA) : Bool := decide ((toldA M).hs = (toldA N).hs) && (decide ((toldA M).sp = (toldA N).sp) && decide (M.rings = N.rings))
theorem e_p_alike (c : ToldFns T) {M N : NetA} (gm : M.Good) (gn : N.Good) {n : Nat} (hn : 126 ≤ n) (S : Store) : ev T n f_p_alike [M.d, N.d] S = .ok (.bl (alikeA M N)) S := by
  obtain ⟨n, rfl, _⟩ := two_up 124 (N := n) hn
  rw [ev_s c.alike]
  have t1 := e_told c gm (n := n + 1) (by omega) S
  have t2 := e_told c gn (n := n + 1) (by omega) S
  have q1 := oEq_hs (S := S) gm.told.fn.hs gn.told.fn.hs (d := .lst ((toldA M).hs.map ofH)) (e := .lst ((toldA N).hs.map ofH)) rfl rfl
  have q2 := oEq_sp (S := S) gm.told.fn.sp gn.told.fn.sp (d := .lst ((toldA M).sp.map ofP)) (e := .lst ((toldA N).sp.map ofP)) rfl rfl
  have r1 : (toldA M).rings = M.rings := rfl
  have r2 : (toldA N).rings = N.rings := rfl
  simp [NetA.d] at t1 t2
  unfold alikeA
  by_cases h1 : (toldA M).hs = (toldA N).hs
  · by_cases h2 : (toldA M).sp = (toldA N).sp
    · simp [h1] at q1
      simp [h2] at q2
      simp [step1, b_p_alike, NetA.d, t1, t2, q1, q2, h1, h2, r1, r2]
    · simp [h1] at q1
      simp [h2] at q2
      simp [step1, b_p_alike, NetA.d, t1, t2, q1, q2, h1, h2, r1, r2]
  · simp [h1] at q1
    simp [step1, b_p_alike, NetA.d, t1, t2, q1, h1, r1, r2]
end Nl
/-! R13: the laws' told forms -/
namespace Nl
open PySem Sm
variable {T : Nat → Option Body}
/-- a list made item by item, while cells change -/
theorem comp_fold {A : Type} {c : Bool} {args : ML} {items : List D → Store → Option (List (List D))} {tg own : List Nat} {elt : ME} {ρ : Sm.Env} {S S1 : Store} {src : List D} (xs : List A) (inj : A → D) (I : Nat → List D → Store → Prop) (h : args ρ S = .ok src S1)
    (hi : ∀ i ys S, I i ys S → items src S = some (xs.map fun x => [inj x])) (h0 : I 0 [] S1)
    (he : ∀ i ys x S, xs[i]? = some x → I i ys S → ∃ y S', elt (setAll tg [inj x] (wipeE ρ own)) S = .ok y S' ∧ I (i + 1) (ys ++ [y]) S') :
    ∃ ys S', mComp c args items tg own (mC (.bl true)) elt ρ S = finL c ys S' ∧ I xs.length ys S' := by
  have key : ∀ (zs : List A) (i : Nat) (ys : List D) (S : Store), xs.drop i = zs → I i ys S → ∃ us S', compL (items src) (xs.map fun x => [inj x]) tg (wipeE ρ own) (mC (.bl true)) elt (zs.map fun x => [inj x]) S = .ok us S' ∧ I (i + zs.length) (ys ++ us) S' := by
    intro zs
    induction zs with
    | nil =>
      intro i ys S _ h0
      refine ⟨[], S, ?_, by simpa using h0⟩
      rw [List.map_nil]; unfold compL; rw [if_pos (hi _ _ _ h0)]
    | cons z zs ih =>
      intro i ys S hd h0
      have e : xs[i]? = some z := by
        have := List.getElem?_drop (xs := xs) (i := i) (j := 0)
        rw [hd] at this; simpa using this.symm
      obtain ⟨y, S1, h1, h2⟩ := he i ys z S e h0
      have hd2 : xs.drop (i + 1) = zs := by rw [← List.drop_drop, hd]; rfl
      obtain ⟨us, S2, h3, h4⟩ := ih (i + 1) (ys ++ [y]) S1 hd2 h2
      refine ⟨y :: us, S2, ?_, ?_⟩
      · rw [List.map_cons]; unfold compL
        rw [if_pos (hi _ _ _ h0)]
        show (R.ok (D.bl true) S).nox.bind _ = _
        simp only [nox_ok, bind_ok, h1, h3]
      · rw [List.append_assoc] at h4
        rw [List.length_cons, show i + (zs.length + 1) = i + 1 + zs.length by omega]; exact h4
  obtain ⟨us, S', h1, h2⟩ := key xs 0 [] S1 rfl h0
  refine ⟨us, S', ?_, by simpa using h2⟩
  unfold mComp
  rw [h, bind_ok]
  simp only [hi _ _ _ h0]
  rw [h1, bind_ok]
theorem set_self {A : Type} {S : List A} {m : Nat} {x : A} (h : S[m]? = some x) : S.set m x = S := by
  apply List.ext_getElem?
  intro i
  rw [gset]
  by_cases q : m = i
  · subst q; rw [if_pos rfl, h]; rfl
  · rw [if_neg q]
theorem firsts_len : ∀ (l acc : List Int), (firsts acc l).length ≤ acc.length + l.length
  | [], acc => Nat.le_refl _
  | n :: l, acc => by
    rw [firsts_cons]
    have := firsts_len l (if n ∈ acc then acc else acc ++ [n])
    rw [List.length_cons]
    split at this
    · next q => rw [if_pos q]; omega
    · next q => rw [if_neg q]; rw [List.length_append] at this; simp at this ⊢; omega
theorem toldN_more {acc : List Int} (l : List Int) {n : Int} (h : n ∈ acc) : toldN (firsts acc l) n = toldN acc n := by
  simp only [toldN]
  rw [if_pos h, if_pos ((mem_firsts l).mpr (.inl h)), firsts_idx l h]
theorem ren_more {acc : List Int} (l : List Int) {h : Hg} (k : ∀ n ∈ nums h, n ∈ acc) : h.ren (toldN (firsts acc l)) = h.ren (toldN acc) := ren_congr fun n hn => toldN_more l (k n hn)
theorem mem_f {acc l : List Int} {n : Int} (h : n ∈ l) : n ∈ firsts acc l := (mem_firsts l).mpr (.inr h)
theorem dGet_names {S : Store} {m : Nat} {kvs : List (L2.Key × D)} (h : S[m]? = some (.dk kvs)) {k : Int} {r : D} (hr : valK kvs (.inl k) = some r) : oIx S (.cell m) (.int k) = .ok r S := by
  rw [ix_cell, h, kIx_dk, hr]; rfl
theorem e_l_named (c0 : T f_l_is_tip = some b_l_is_tip) (c : T f_l_named = some b_l_named) : ∀ (h : Hg) {m : Nat} {kvs : List (L2.Key × D)} {acc : List Int} {S : Store} (_ : S[m]? = some (.dk kvs)) (_ : IsNames kvs acc) (_ : acc.length + h.nt ≤ 1000000) {N : Nat} (_ : h.depth + 3 ≤ N),
    ∃ kvs', ev T N f_l_named [ofH h, .cell m] S = .ok (ofH (h.ren (toldN (firsts acc (nums h))))) (S.set m (.dk kvs')) ∧ IsNames kvs' (firsts acc (nums h))
  | .tip d y k, m, kvs, acc, S, hS, hk, hz, N, hN => by
    obtain ⟨N, rfl, _⟩ := two_up 1 (N := N) (by omega)
    have t1 := e_l_is_tip c0 (.tip d y k) (N := N + 1) (by omega) S
    simp at t1
    have q1 := notIn_dk hS k
    rw [hk.val] at q1
    rw [ev_s c]
    by_cases q : k ∈ acc
    · rw [if_pos q] at q1
      have e : firsts acc (nums (.tip d y k)) = acc := by
        show (if k ∈ acc then acc else acc ++ [k]) = acc
        rw [if_pos q]
      have v : kIx (some (.dk kvs)) k S = .ok (.int (acc.idxOf k : Nat)) S := by rw [kIx_dk, hk.val, if_pos q]; rfl
      refine ⟨kvs, ?_, by rw [e]; exact hk⟩
      rw [set_self hS, e]
      have tn : toldN acc k = (acc.idxOf k : Int) := by simp [toldN, q]
      simp at v
      simp [step1, b_l_named, t1, Hg.isTip, q1, hS, v, Hg.ren, tn]
    · rw [if_neg q] at q1
      have e : firsts acc (nums (.tip d y k)) = acc ++ [k] := by
        show (if k ∈ acc then acc else acc ++ [k]) = _
        rw [if_neg q]
      have hp := hk.put q
      have hl : acc.length < sizeLine := Nat.lt_of_le_of_lt (by omega : acc.length ≤ 1000000) (by decide)
      have hm := lt_of_get hS
      have v := hp.val k
      rw [if_pos (by simp)] at v
      refine ⟨_, ?_, by rw [e]; exact hp⟩
      rw [e]
      have tn : toldN (acc ++ [k]) k = ((acc ++ [k]).idxOf k : Int) := by simp [toldN]
      simp [step1, b_l_named, t1, Hg.isTip, q1, hS, keyOf, hk.len, hl, gset, v, Hg.ren, tn]
  | .knot w l r, m, kvs, acc, S, hS, hk, hz, N, hN => by
    obtain ⟨N, rfl, hl, hr, _⟩ := dl 2 hN (by omega)
    have t1 := e_l_is_tip c0 (.knot w l r) (N := N + 1) (by omega) S
    simp at t1
    rw [Hg.nt_knot] at hz
    obtain ⟨k1, h1, i1⟩ := e_l_named c0 c l hS hk (by omega) (N := N + 1) (by omega)
    have hm := lt_of_get hS
    have hS1 : (S.set m (.dk k1))[m]? = some (.dk k1) := by simp [hm]
    have fl := firsts_len (nums l) acc
    rw [nums_len] at fl
    obtain ⟨k2, h2, i2⟩ := e_l_named c0 c r hS1 i1 (by omega) (N := N + 1) (by omega)
    have e : firsts acc (nums (.knot w l r)) = firsts (firsts acc (nums l)) (nums r) := firsts_app _ _ _
    refine ⟨k2, ?_, by rw [e]; exact i2⟩
    rw [ev_s c, e]
    have el := ren_more (nums r) (h := l) (acc := firsts acc (nums l)) fun n hn => mem_f hn
    simp [step1, b_l_named, t1, Hg.isTip, h1, h2, Hg.ren, el]
theorem e_l_up (c0 : T f_l_is_tip = some b_l_is_tip) (c : T f_l_up = some b_l_up) (step : Int) : ∀ (h : Hg) {N : Nat} (_ : h.depth + 3 ≤ N) (S : Store), ev T N f_l_up [ofH h, .int step] S = .ok (ofH (h.ren fun n => n + step)) S
  | .tip d y k, N, hN, S => by
    obtain ⟨N, rfl, _⟩ := two_up 1 (N := N) (by omega)
    have t1 := e_l_is_tip c0 (.tip d y k) (N := N + 1) (by omega) S
    simp at t1
    rw [ev_s c]
    simp [step1, b_l_up, t1, Hg.isTip, Hg.ren]
  | .knot w l r, N, hN, S => by
    obtain ⟨N, rfl, hl, hr, _⟩ := dl 2 hN (by omega)
    have t1 := e_l_is_tip c0 (.knot w l r) (N := N + 1) (by omega) S
    have h1 := e_l_up c0 c step l (N := N + 1) (by omega) S
    have h2 := e_l_up c0 c step r (N := N + 1) (by omega) S
    simp at t1
    rw [ev_s c]
    simp [step1, b_l_up, t1, Hg.isTip, h1, h2, Hg.ren]
theorem numsL_snoc {hs : List Hg} {i : Nat} {h : Hg} (e : hs[i]? = some h) : numsL (hs.take (i + 1)) = numsL (hs.take i) ++ nums h := by
  rw [List.take_add_one, e]; simp [numsL]
theorem numsS_snoc {sp : List (Hg × Hg)} {i : Nat} {p : Hg × Hg} (e : sp[i]? = some p) : numsS (sp.take (i + 1)) = numsS (sp.take i) ++ numsP p := by
  rw [List.take_add_one, e]; simp [numsS]
theorem numsL_take (hs : List Hg) (i : Nat) : (numsL (hs.take i)).length ≤ (numsL hs).length := by
  conv => rhs; rw [← List.take_append_drop i hs]
  unfold numsL
  rw [List.flatMap_append, List.length_append]; omega
theorem numsS_take (sp : List (Hg × Hg)) (i : Nat) : (numsS (sp.take i)).length ≤ (numsS sp).length := by
  conv => rhs; rw [← List.take_append_drop i sp]
  unfold numsS
  rw [List.flatMap_append, List.length_append]; omega
/-- the law's told form of rack and splices that stand in cells -/
theorem e_l_told (c0 : T f_l_is_tip = some b_l_is_tip) (c1 : T f_l_named = some b_l_named) (c : T f_l_told = some b_l_told) {N : NetA} (gd : N.Good) {S : Store} {a d : Nat} (l : NAt S a d N) {n : Nat} (hn : 70 ≤ n) :
    ev T n f_l_told [.cell a, .cell d] S = .ok (.tup [.lst ((toldA N).hs.map ofH), .lst ((toldA N).sp.map ofP)]) S := by
  obtain ⟨n, rfl, _⟩ := two_up 68 (N := n) hn
  rw [ev_s c]
  have la := lt_of_get l.ha
  have ld := lt_of_get l.hd
  have hz := gd.z
  rw [← numsA_len, numsA_eq, List.length_append] at hz
  simp [step1, b_l_told]
  obtain ⟨ys, S1, h1, kvs, e1, hk, hy⟩ := comp_fold (c := false) (args := mCons (mV 0) mNil) (items := itemsA) (tg := [7]) (own := [7]) (elt := mN (fun S ds => ev T (n + 1) f_l_named ds S) (mCons (mV 7) (mCons (mV 2) mNil)))
    (ρ := [some (.cell a), some (.cell d), some (.cell S.length), none, none, none, none, none]) (S := S ++ [.dk []]) (S1 := S ++ [.dk []]) (src := [.cell a]) N.hs ofH
    (fun i ys S1 => ∃ kvs, S1 = S ++ [.dk kvs] ∧ IsNames kvs (firsts [] (numsL (N.hs.take i))) ∧ ys = ((N.hs.take i).map (Hg.ren (toldN (firsts [] (numsL (N.hs.take i)))))).map ofH) (by simp)
    (by
      rintro i ys S1 ⟨kvs, rfl, _, _⟩
      simp [gapp l.ha])
    ⟨[], rfl, .nil, rfl⟩
    (by
      rintro i ys h S1 hx ⟨kvs, rfl, hk, rfl⟩
      have hd := (gd.fn.hs h (List.mem_of_getElem? hx)).2
      have e2 := numsL_snoc hx
      have tl := numsL_take N.hs (i + 1)
      rw [e2, List.length_append, nums_len] at tl
      have fl := firsts_len (numsL (N.hs.take i)) []
      simp at fl
      obtain ⟨k2, h2, i2⟩ := e_l_named c0 c1 h (S := S ++ [.dk kvs]) (m := S.length) (by simp) hk (by omega) (N := n + 1) (by omega)
      refine ⟨ofH (h.ren (toldN (firsts (firsts [] (numsL (N.hs.take i))) (nums h)))), S ++ [.dk k2], by simp [setAll, wipeE, h2], k2, rfl, by rw [e2, firsts_app]; exact i2, ?_⟩
      rw [e2, firsts_app, List.take_add_one, hx, List.map_append, List.map_append]
      congr 1
      refine congrArg (List.map ofH) (List.map_congr_left fun g hg => (ren_more (nums h) fun n hn => mem_f (mem_numsL hg hn)).symm))
  rw [List.take_length] at hk hy
  rw [h1]
  subst e1
  simp
  rw [for_srcL (src := [.cell d]) (its := N.sp.map fun p => [ofP p]) (by simp; rfl) (by simp [gapp l.hd])]
  generalize hz0 : forL _ _ _ _ _ _ _ = zz
  obtain ⟨r, S2, h2, ⟨o5, o6, rfl⟩, k2, us, rfl, hk2, hu⟩ := forL_z hz0 (fun p => [ofP p]) N.sp rfl
    (fun i ρ S2 => (∃ o5 o6, ρ = [some (.cell a), some (.cell d), some (.cell S.length), some (.lst ys), some (.cell (S.length + 1)), o5, o6, none]) ∧ ∃ k2 us, S2 = S ++ [.dk k2, .lst (us.map ofP)] ∧ IsNames k2 (firsts (firsts [] (numsL N.hs)) (numsS (N.sp.take i))) ∧ us = (N.sp.take i).map (renP (toldN (firsts (firsts [] (numsL N.hs)) (numsS (N.sp.take i))))))
    ⟨⟨none, none, rfl⟩, kvs, [], rfl, hk, rfl⟩
    (by
      rintro i ρ S2 ⟨_, k2, us, rfl, _, _⟩
      simp [gapp l.hd])
    (by
      rintro i p ρ S2 hx ⟨⟨o5, o6, rfl⟩, k2, us, rfl, hk2, rfl⟩
      have mp := List.mem_of_getElem? hx
      have hi := lt_of_get hx
      obtain ⟨⟨_, d1⟩, ⟨_, d2⟩⟩ := gd.fn.sp p mp
      have e2 := numsS_snoc hx
      have tl := numsS_take N.sp (i + 1)
      rw [e2, List.length_append] at tl
      have pl : (numsP p).length = p.1.nt + p.2.nt := by simp [numsP, nums_len]
      rw [pl] at tl
      have fl := firsts_len (numsS (N.sp.take i)) (firsts [] (numsL N.hs))
      have fl2 := firsts_len (numsL N.hs) []
      simp at fl2
      obtain ⟨k3, h3, i3⟩ := e_l_named c0 c1 p.1 (S := S ++ [.dk k2, .lst (((N.sp.take i).map (renP (toldN (firsts (firsts [] (numsL N.hs)) (numsS (N.sp.take i)))))).map ofP)]) (m := S.length) (by simp) hk2 (by omega) (N := n + 1) (by omega)
      have fl3 := firsts_len (nums p.1) (firsts (firsts [] (numsL N.hs)) (numsS (N.sp.take i)))
      rw [nums_len] at fl3
      obtain ⟨k4, h4, i4⟩ := e_l_named c0 c1 p.2 (S := S ++ [.dk k3, .lst (((N.sp.take i).map (renP (toldN (firsts (firsts [] (numsL N.hs)) (numsS (N.sp.take i)))))).map ofP)]) (m := S.length) (by simp) i3 (by omega) (N := n + 1) (by omega)
      have e3 : firsts (firsts (firsts [] (numsL N.hs)) (numsS (N.sp.take i))) (numsP p) = firsts (firsts (firsts (firsts [] (numsL N.hs)) (numsS (N.sp.take i))) (nums p.1)) (nums p.2) := by unfold numsP; rw [firsts_app]
      have ul : ((N.sp.take i).map (renP (toldN (firsts (firsts [] (numsL N.hs)) (numsS (N.sp.take i)))))).length < sizeLine := by
        rw [List.length_map, List.length_take]
        have := gd.zs
        exact Nat.lt_of_le_of_lt (by omega : _ ≤ 1000000) (by decide)
      simp only [List.length_map] at ul
      rw [e2, firsts_app (acc := firsts [] (numsL N.hs)), e3]
      generalize hac : firsts (firsts [] (numsL N.hs)) (numsS (N.sp.take i)) = acc at *
      have ep : renP (toldN (firsts (firsts acc (nums p.1)) (nums p.2))) p = (p.1.ren (toldN (firsts acc (nums p.1))), p.2.ren (toldN (firsts (firsts acc (nums p.1)) (nums p.2)))) := by
        unfold renP
        rw [ren_more (nums p.2) (h := p.1) (acc := firsts acc (nums p.1)) fun n hn => mem_f hn]
      refine ⟨[some (.cell a), some (.cell d), some (.cell S.length), some (.lst ys), some (.cell (S.length + 1)), some (ofP p), some (ofH (p.1.ren (toldN (firsts acc (nums p.1))))), none], S ++ [.dk k4, .lst (((N.sp.take i).map (renP (toldN acc))).map ofP ++ [ofP (renP (toldN (firsts (firsts acc (nums p.1)) (nums p.2))) p)])], ?_, ⟨_, _, rfl⟩, k4, (N.sp.take i).map (renP (toldN acc)) ++ [renP (toldN (firsts (firsts acc (nums p.1)) (nums p.2))) p], by simp, i4, ?_⟩
      · rw [ep]
        simp at h3 h4 ul
        simp [setAll, ofP, h3, h4, ul]
      · rw [List.take_add_one, hx, List.map_append]
        congr 1
        refine List.map_congr_left fun g hg => ?_
        have mm : ∀ n ∈ numsP g, n ∈ acc := fun n hn => by rw [← hac]; exact mem_f (mem_numsS hg hn)
        unfold renP
        rw [ren_more (nums p.2) (h := g.1) fun n hn => (mem_firsts _).mpr (.inl (mm n (by simp [numsP, hn]))), ren_more (nums p.1) (h := g.1) fun n hn => mm n (by simp [numsP, hn]),
          ren_more (nums p.2) (h := g.2) fun n hn => (mem_firsts _).mpr (.inl (mm n (by simp [numsP, hn]))), ren_more (nums p.1) (h := g.2) fun n hn => mm n (by simp [numsP, hn])])
  subst h2
  rw [List.take_length] at hk2 hu
  have eA : firsts (firsts [] (numsL N.hs)) (numsS N.sp) = firsts [] (numsA N) := by rw [numsA_eq, firsts_app]
  rw [eA] at hu
  have ey : ys = (toldA N).hs.map ofH := by
    rw [hy]
    refine congrArg (List.map ofH) (List.map_congr_left fun g hg => ?_)
    rw [← eA]
    exact (ren_more (numsS N.sp) fun n hn => mem_f (mem_numsL hg hn)).symm
  have eu : us = (toldA N).sp := hu
  subst ey eu
  simp
  have g : (S ++ [MO.dk k2, MO.lst ((toldA N).sp.map ofP)])[S.length + 1]? = some (.lst ((toldA N).sp.map ofP)) := by simp
  exact fin_dfz (S := S) (take_app S _) (dfz_tup (optAll_cons (dfz_cl (cl_map (cl_H _) _)) (optAll_cons (dfz_cell g (Nat.le_succ _) (optAll_cl (cl_map (cl_P _) _))) optAll_nil)))
end Nl
/-! R14: nets joined -/
namespace Nl
open PySem Sm Gr
variable {T : Nat → Option Body}
def cut {A : Type} (l : List A) (i : Nat) : List A := l.take i ++ l.drop (i + 1)
theorem cut_perm {A : Type} {l : List A} {i : Nat} {a : A} (h : l[i]? = some a) : l.Perm (a :: cut l i) := by
  conv => lhs; rw [split_at h]
  exact List.perm_middle
theorem mem_cut' {A : Type} {l : List A} {i : Nat} {a : A} (h : a ∈ cut l i) : a ∈ l := by
  rcases List.mem_append.mp h with z | z
  · exact List.mem_of_mem_take z
  · exact List.mem_of_mem_drop z
def joinA (N : NetA) (i : Nat) (M : NetA) (j : Nat) : NetA := ⟨cut N.hs i ++ cut M.hs j, N.sp ++ M.sp ++ [(N.hs.getD i default, M.hs.getD j default)], N.rings + M.rings⟩
theorem tipsS_app (s t : List (Hg × Hg)) : tipsS (s ++ t) = tipsS s ++ tipsS t := List.flatMap_append
theorem join_tips {N M : NetA} {i j : Nat} {a b : Hg} (ha : N.hs[i]? = some a) (hb : M.hs[j]? = some b) : (allT (joinA N i M j).hs (joinA N i M j).sp).Perm (allT N.hs N.sp ++ allT M.hs M.sp) := by
  have ea : N.hs.getD i default = a := by rw [List.getD_eq_getElem?_getD, ha]; rfl
  have eb : M.hs.getD j default = b := by rw [List.getD_eq_getElem?_getD, hb]; rfl
  have p1 := tipsL_perm (cut_perm ha)
  have p2 := tipsL_perm (cut_perm hb)
  rw [tipsL_cons] at p1 p2
  unfold joinA allT
  simp only [ea, eb, tipsL_app, tipsS_app]
  have e : tipsS [(a, b)] = a.tips ++ b.tips := by simp [tipsS, tipsP]
  rw [e]
  refine List.Perm.trans ?_ (List.Perm.append (p1.symm.append_right _) (p2.symm.append_right _))
  generalize tipsL (cut N.hs i) = x
  generalize tipsL (cut M.hs j) = y
  generalize tipsS N.sp = s
  generalize tipsS M.sp = t
  generalize a.tips = u
  generalize b.tips = v
  refine List.perm_iff_count.mpr fun z => ?_
  simp only [List.count_append]; omega
theorem fits_app {ts us : List Hg} (h : Fits ts) (k : Fits us) (dis : ∀ m ∈ numsT ts, m ∉ numsT us) : Fits (ts ++ us) := by
  have l1 : ∀ {xs : List Hg} {n : Int}, n ∈ (lightsOf xs).map (·.1) → n ∈ numsT xs := fun {xs n} hm => by
    obtain ⟨p, hp, rfl⟩ := List.mem_map.mp hm
    exact List.mem_map.mpr ⟨_, mem_lights.mp hp, rfl⟩
  have d1 : ∀ {xs : List Hg} {n : Int}, n ∈ (darksOf xs).map (·.1) → n ∈ numsT xs := fun {xs n} hm => by
    obtain ⟨p, hp, rfl⟩ := List.mem_map.mp hm
    exact List.mem_map.mpr ⟨_, mem_darks.mp hp, rfl⟩
  refine ⟨fun t ht => ?_, ?_, ?_, fun p => ?_⟩
  · rcases List.mem_append.mp ht with z | z
    · exact h.tip t z
    · exact k.tip t z
  · rw [lights_app, List.map_append]
    exact List.nodup_append.mpr ⟨h.ln, k.ln, fun a ha b hb e => dis a (l1 ha) (by rw [e]; exact l1 hb)⟩
  · rw [darks_app, List.map_append]
    exact List.nodup_append.mpr ⟨h.dn, k.dn, fun a ha b hb e => dis a (d1 ha) (by rw [e]; exact d1 hb)⟩
  · rw [lights_app, darks_app, List.mem_append, List.mem_append, h.mate p, k.mate p]
theorem NetA.Good.join {N M : NetA} (gn : N.Good) (gm : M.Good) {i j : Nat} {a b : Hg} (ha : N.hs[i]? = some a) (hb : M.hs[j]? = some b) (mr : a.mirs b = true) (dis : ∀ m ∈ numsA N, m ∉ numsA M) (z : (allT N.hs N.sp).length + (allT M.hs M.sp).length ≤ 1000000) : (joinA N i M j).Good := by
  have p := join_tips ha hb
  have ea : N.hs.getD i default = a := by rw [List.getD_eq_getElem?_getD, ha]; rfl
  have eb : M.hs.getD j default = b := by rw [List.getD_eq_getElem?_getD, hb]; rfl
  refine ⟨⟨(fits_app gn.ok.fit gm.ok.fit dis).perm p.symm, fun q hq => ?_⟩, ⟨fun h hh => ?_, fun q hq => ?_⟩, ?_⟩
  · unfold joinA at hq
    simp only [ea, eb, List.mem_append, List.mem_singleton] at hq
    rcases hq with (hq | hq) | rfl
    · exact gn.ok.mir q hq
    · exact gm.ok.mir q hq
    · exact mr
  · rcases List.mem_append.mp hh with w | w
    · exact gn.fn.hs h (mem_cut' w)
    · exact gm.fn.hs h (mem_cut' w)
  · unfold joinA at hq
    simp only [ea, eb, List.mem_append, List.mem_singleton] at hq
    rcases hq with (hq | hq) | rfl
    · exact gn.fn.sp q hq
    · exact gm.fn.sp q hq
    · exact ⟨gn.fn.hs a (List.mem_of_getElem? ha), gm.fn.hs b (List.mem_of_getElem? hb)⟩
  · rw [p.length_eq, List.length_append]; exact z
structure JoinFns (T : Nat → Option Body) : Prop extends NetFns T where
  joined : T f_p_joined = some b_p_joined
theorem e_p_joined_ex (c : JoinFns T) {N M : NetA} {i j : Int} (h : i < 0 ∨ (N.hs.length : Int) ≤ i ∨ j < 0 ∨ (M.hs.length : Int) ≤ j) {n : Nat} (hn : 115 ≤ n) (S : Store) : ev T n f_p_joined [N.d, .int i, M.d, .int j] S = .ex 4 S := by
  obtain ⟨n, rfl, _⟩ := two_up 113 (N := n) hn
  rw [ev_s c.joined]
  by_cases h1 : 0 ≤ i
  · by_cases h2 : i < (N.hs.length : Int)
    · by_cases h3 : 0 ≤ j
      · have h4 : ¬ j < (M.hs.length : Int) := by omega
        simp [step1, b_p_joined, NetA.d, h1, h2, h3, h4]
      · simp [step1, b_p_joined, NetA.d, h1, h2, h3]
    · simp [step1, b_p_joined, NetA.d, h1, h2]
  · simp [step1, b_p_joined, NetA.d, h1]
theorem e_p_joined_mir (c : JoinFns T) {N M : NetA} (gn : N.Good) {i j : Nat} {a b : Hg} (ha : N.hs[i]? = some a) (hb : M.hs[j]? = some b) (mr : a.mirs b = false) {n : Nat} (hn : 115 ≤ n) (S : Store) : ev T n f_p_joined [N.d, .int i, M.d, .int j] S = .ex 3 S := by
  obtain ⟨n, rfl, _⟩ := two_up 113 (N := n) hn
  rw [ev_s c.joined]
  have h1 : (i : Int) < (N.hs.length : Int) := by have := lt_of_get ha; omega
  have h2 : (j : Int) < (M.hs.length : Int) := by have := lt_of_get hb; omega
  have t1 := e_p_mirrors c.is_tip c.mirrors a b (N := n + 1) (by have := (gn.fn.hs a (List.mem_of_getElem? ha)).2; omega) S
  rw [mr] at t1
  simp [step1, b_p_joined, NetA.d, h1, h2, ha, hb, t1]
/-- as far as the net is made -/
theorem joined_run (c : JoinFns T) {N M : NetA} (gn : N.Good) (gm : M.Good) {i j : Nat} {a b : Hg} (ha : N.hs[i]? = some a) (hb : M.hs[j]? = some b) (mr : a.mirs b = true) {n : Nat} (hn : 115 ≤ n + 2) (S : Store) {z : R D}
    (hz : made true S (ev T n f_p_Net_init [.cell S.length, .lst ((joinA N i M j).hs.map ofH), .lst ((joinA N i M j).sp.map ofP), .int (joinA N i M j).rings] (S ++ [.ins 7 [] []])) = z) :
    ev T (n + 2) f_p_joined [N.d, .int i, M.d, .int j] S = fin false S (kRet z) := by
  rw [ev_s c.joined]
  have ea : N.hs.getD i default = a := by rw [List.getD_eq_getElem?_getD, ha]; rfl
  have eb : M.hs.getD j default = b := by rw [List.getD_eq_getElem?_getD, hb]; rfl
  have l1 := lt_of_get ha
  have l2 := lt_of_get hb
  have h1 : (i : Int) < (N.hs.length : Int) := by omega
  have h2 : (j : Int) < (M.hs.length : Int) := by omega
  have t1 := e_p_mirrors c.is_tip c.mirrors a b (N := n + 1) (by have := (gn.fn.hs a (List.mem_of_getElem? ha)).2; omega) S
  rw [mr] at t1
  have z1 := gn.zs
  have z2 := gm.zs
  have y1 : min i N.hs.length + (N.hs.length - (i + 1)) ≤ sizeLine := Nat.le_trans (m := 4000000) (by omega) (by decide)
  have y2 : min i N.hs.length + (N.hs.length - (i + 1)) + min j M.hs.length ≤ sizeLine := Nat.le_trans (m := 4000000) (by omega) (by decide)
  have y3 : min i N.hs.length + (N.hs.length - (i + 1)) + min j M.hs.length + (M.hs.length - (j + 1)) ≤ sizeLine := Nat.le_trans (m := 4000000) (by omega) (by decide)
  have y6 : min i N.hs.length + (N.hs.length - (i + 1) + min j M.hs.length) ≤ sizeLine := Nat.le_trans (m := 4000000) (by omega) (by decide)
  have y7 : min i N.hs.length + (N.hs.length - (i + 1) + min j M.hs.length) + (M.hs.length - (j + 1)) ≤ sizeLine := Nat.le_trans (m := 4000000) (by omega) (by decide)
  have y8 : min i N.hs.length + (N.hs.length - (i + 1) + (min j M.hs.length + (M.hs.length - (j + 1)))) ≤ sizeLine := Nat.le_trans (m := 4000000) (by omega) (by decide)
  have y9 : N.sp.length + (M.sp.length + 1) ≤ sizeLine := Nat.le_trans (m := 4000000) (by omega) (by decide)
  have y4 : N.sp.length + M.sp.length ≤ sizeLine := Nat.le_trans (m := 4000000) (by omega) (by decide)
  have y5 : N.sp.length + M.sp.length + 1 ≤ sizeLine := Nat.le_trans (m := 4000000) (by omega) (by decide)
  simp only [joinA, ea, eb, cut] at hz
  simp [ofP, List.map_take, List.map_drop, List.append_assoc] at hz
  simp [step1, b_p_joined, NetA.d, h1, h2, ha, hb, t1, cutD_to, cutD_from1, y1, y2, y3, y4, y5, y6, y7, y8, y9, List.map_take, List.map_drop, List.append_assoc, hz]
theorem e_p_joined (c : JoinFns T) {N M : NetA} (gn : N.Good) (gm : M.Good) {i j : Nat} {a b : Hg} (ha : N.hs[i]? = some a) (hb : M.hs[j]? = some b) (mr : a.mirs b = true) (gj : (joinA N i M j).Good) {n : Nat} (hn : 115 ≤ n) (S : Store) : ev T n f_p_joined [N.d, .int i, M.d, .int j] S = .ok (joinA N i M j).d S := by
  obtain ⟨n, rfl, _⟩ := two_up 113 (N := n) hn
  rw [joined_run c gn gm ha hb mr (by omega) S (e_net' c.toNetFns gj.ok gj.fn gj.z (n := n) (by omega) S)]
  rfl
end Nl
/-! R15: lofts beside one another; nets of a rack alone -/
namespace Nl
open PySem Sm Gr
variable {T : Nat → Option Body}
/-! ### books of any start -/
abbrev Bk.St (b : Bk) : Prop := 0 < b.b1 ∧ b.b1 ≤ 1000000007
theorem e_number' (c : T f_l_number = some b_l_number) {b : Bk} (hs : b.St) {e : Nat} {S : Store} (he : S[e]? = some b.mo) {N : Nat} (hN : 2 ≤ N) : ev T N f_l_number [.cell e] S = .ok (.int (b.num b.n)) (S.set e (b.up 1).mo) := by
  obtain ⟨n, rfl, _⟩ := two_up 0 (N := N) hN
  rw [ev_s c]
  have key : ∀ m : Int, S[e]? = some (.lst [.int b.b0, .int b.b1, .int m]) → step1 b_l_number (ev T (n + 1)) (ev T n) [.cell e] S = .ok (.int (b.b0 + b.b1 * (m * 21 % 64 + 64 * (m / 64)))) (S.set e (.lst [.int b.b0, .int b.b1, .int (m + 1)])) := by
    intro m hm
    simp [step1, b_l_number, hm, L2.ixN, gset]
    rw [if_pos (mulOk_l _ ⟨by omega, by omega⟩)]
    simp
  exact key _ he
theorem anew_up (b : Bk) (k : Nat) : ∀ (h : Hg) (j : Nat), h.anew (b.up k) j = h.anew b j
  | .tip _ _ _, _ => rfl
  | .knot w x y, j => by simp [Hg.anew, anew_up b k x, anew_up b k y]
theorem e_anew' (c0 : T f_l_is_tip = some b_l_is_tip) (c1 : T f_l_number = some b_l_number) (c : T f_l_anew = some b_l_anew) : ∀ (h : Hg) {b : Bk} (_ : b.St) {e : Nat} {S : Store} (_ : S[e]? = some b.mo) {N : Nat} (_ : h.depth + 3 ≤ N),
    ev T N f_l_anew [ofH h, .cell e] S = .ok (ofH (h.anew b b.n)) (S.set e (b.up h.nt).mo)
  | .tip d y k, b, hb, e, S, he, N, hN => by
    obtain ⟨n, rfl, _⟩ := two_up 1 (N := N) (by omega)
    have t1 := e_l_is_tip c0 (.tip d y k) (N := n + 1) (by omega) S
    have t2 := e_number' c1 hb he (N := n + 1) (by omega)
    rw [ev_s c]
    simp at t1
    simp [step1, b_l_anew, t1, t2, Hg.isTip, Hg.anew]
  | .knot k l r, b, hb, e, S, he, N, hN => by
    obtain ⟨n, rfl, hl, hr, _⟩ := dl 2 hN (by omega)
    have t1 := e_l_is_tip c0 (.knot k l r) (N := n + 1) (by omega) S
    have h1 := e_anew' c0 c1 c l hb he (N := n + 1) (by omega)
    have he2 : (S.set e (b.up l.nt).mo)[e]? = some (b.up l.nt).mo := by simp [lt_of_get he]
    have h2 := e_anew' c0 c1 c r (b := b.up l.nt) hb he2 (N := n + 1) (by omega)
    have e1 : r.anew (b.up l.nt) (b.up l.nt).n = r.anew b (b.n + l.nt) := anew_up _ _ _ _
    rw [ev_s c]
    simp at t1
    simp [e1, Bk.up_up] at h2
    simp [step1, b_l_anew, t1, h1, h2, Hg.isTip, Hg.anew]
theorem num_inj' {b : Bk} (h : b.St) {i j : Nat} (e : b.num i = b.num j) : i = j := by
  unfold Bk.num at e
  have e2 : b.b1 * ((i : Int) * 21 % 64 + 64 * ((i : Int) / 64)) = b.b1 * ((j : Int) * 21 % 64 + 64 * ((j : Int) / 64)) := by omega
  have e3 := Int.eq_of_mul_eq_mul_left (by have := h.1; omega) e2
  have inv : ∀ r : Nat, r < 64 → r * 21 % 64 * 61 % 64 = r := by decide
  have e4 : i * 21 % 64 + 64 * (i / 64) = j * 21 % 64 + 64 * (j / 64) := by omega
  have m1 : i * 21 % 64 = i % 64 * 21 % 64 := by omega
  have m2 : j * 21 % 64 = j % 64 * 21 % 64 := by omega
  have i1 := inv (i % 64) (by omega)
  have i2 := inv (j % 64) (by omega)
  have q1 : i * 21 % 64 = j * 21 % 64 := by omega
  rw [← m1] at i1
  rw [← m2, ← q1] at i2
  omega
theorem cords_nodup' {b : Bk} (h : b.St) : ∀ (ys : List Str) (k : Nat), (((ys.zipIdx k).map fun p => (b.num p.2, p.1)).map (·.1)).Nodup := by
  intro ys k
  rw [List.map_map]
  have e : ((fun p : Int × Str => p.1) ∘ fun p : Str × Nat => (b.num p.2, p.1)) = fun p : Str × Nat => b.num p.2 := rfl
  rw [e]
  induction ys generalizing k with
  | nil => simp
  | cons y ys ih =>
    rw [List.zipIdx_cons, List.map_cons, List.nodup_cons]
    refine ⟨fun hm => ?_, ih (k + 1)⟩
    obtain ⟨⟨z, j⟩, hz, e⟩ := List.mem_map.mp hm
    have := num_inj' h e
    have hj := List.le_snd_of_mem_zipIdx hz
    simp at this hj; omega
theorem fits_cords' {b : Bk} (h : b.St) (ys : List Str) (k : Nat) : Fits (cordTips b k ys) := by
  refine ⟨fun t ht => ?_, by rw [lights_cords]; exact cords_nodup' h ys k, by rw [darks_cords]; exact cords_nodup' h ys k, fun p => by rw [lights_cords, darks_cords]⟩
  induction ys generalizing k with
  | nil => simp [cordTips] at ht
  | cons y ys ih =>
    simp [cordTips] at ht
    rcases ht with rfl | rfl | ht
    · rfl
    · rfl
    · exact ih _ ht
theorem fits_anew {b : Bk} (h : b.St) (g : Hg) (k : Nat) : Fits ((g.anew b k).tips ++ (g.anew b k).mir.tips) := (fits_cords' h _ k).perm (tips_anew b g k).symm
theorem nums_anew (b : Bk) : ∀ (g : Hg) (k : Nat) {m : Int}, m ∈ nums (g.anew b k) → ∃ j, k ≤ j ∧ j < k + g.nt ∧ m = b.num j
  | .tip d y n, k, m, h => by
    simp [Hg.anew, nums] at h
    exact ⟨k, Nat.le_refl _, by simp, h⟩
  | .knot w l r, k, m, h => by
    rw [Hg.nt_knot]
    simp only [Hg.anew, nums, List.mem_append] at h
    rcases h with h | h
    · obtain ⟨j, h1, h2, h3⟩ := nums_anew b l k h
      exact ⟨j, h1, by omega, h3⟩
    · obtain ⟨j, h1, h2, h3⟩ := nums_anew b r _ h
      exact ⟨j, by omega, by omega, h3⟩
theorem nums_mir : ∀ h : Hg, nums h.mir = nums h
  | .tip _ _ _ => rfl
  | .knot _ l r => by simp [Hg.mir, nums, nums_mir l, nums_mir r]
def Bk.above (b : Bk) : Int := b.b0 + b.b1 * 300 + 1000000
/-- where a book's first numbers lie -/
theorem num_in {b : Bk} (h : b.St) {k : Nat} (hk : k < 256) : b.b0 ≤ b.num k ∧ b.num k < b.above := by
  unfold Bk.num Bk.above
  have f0 : 0 ≤ (k : Int) * 21 % 64 + 64 * ((k : Int) / 64) := by omega
  have f1 : (k : Int) * 21 % 64 + 64 * ((k : Int) / 64) ≤ 299 := by omega
  generalize (k : Int) * 21 % 64 + 64 * ((k : Int) / 64) = f at *
  have m1 : 0 ≤ b.b1 * f := Int.mul_nonneg (Int.le_of_lt h.1) f0
  have m2 : b.b1 * f ≤ b.b1 * 299 := Int.mul_le_mul_of_nonneg_left f1 (Int.le_of_lt h.1)
  have := h.1
  omega
theorem above_le {b : Bk} (h : b.Ok) : 0 ≤ b.b0 ∧ b.above ≤ 2 * 10 ^ 29 ∧ 0 < b.above := by
  obtain ⟨⟨l1, l2⟩, s1, s2⟩ := h
  unfold Bk.above
  have e : (10 : Int) ^ 29 = 100000000000000000000000000000 := by decide
  rw [e] at l2 ⊢
  omega
/-! ### nets of a rack alone -/
theorem e_net0 (c : NetFns T) {hs : List Hg} (gd : NetA.Good ⟨hs, [], 0⟩) {rd : D} (hr : ∀ S, seqA S rd = some (hs.map ofH)) {N : Nat} (hN : 113 ≤ N) (S : Store) : made true S (ev T N f_p_Net_init [.cell S.length, rd, .non, .int 0] (S ++ [.ins 7 [] []])) = .ok (netD hs [] 0) S := by
  obtain ⟨n, rfl, _⟩ := two_up 111 (N := N) hN
  rw [ev_s c.init]
  have sm := gd.fn.small gd.z
  have z1 : hs.length ≤ sizeLine := Nat.le_trans sm.zs.1 (by decide)
  obtain ⟨r, e1⟩ := net_end c (rings := 0) sm gd.ok.fit gd.ok.mir (n := n) (by omega) S none (some .non) (some rd) (some (.int 0))
  have key : step1 b_p_Net_init (ev T (n + 1)) (ev T n) [.cell S.length, rd, .non, .int 0] (S ++ [.ins 7 [] []]) = .ok .non (S ++ [.ins 7 netF [.lst (hs.map ofH), .lst (([] : List (Hg × Hg)).map ofP), .int 0]]) := by
    simp [step1, b_p_Net_init, oList, hr, z1, put1, put2, pud1, pud2]
    simp [put3, put4, pud3, pud4]
    simp at e1
    rw [e1]
    rfl
  rw [key]
  exact made_ok ⟨cl_map (cl_H _) _, cl_map (cl_P _) _, trivial, trivial⟩
theorem out_perm {N M : NetA} (h1 : N.hs = M.hs) (h2 : N.sp.Perm M.sp) (h3 : N.rings = M.rings) : outA N = outA M := by
  have p := ed_perm h2
  unfold outA finH finR
  rw [h1, h3, ml_congr (conn_perm p), rk_perm p, p.length_eq]
theorem ed_le : ∀ sp : List (Hg × Hg), (ed sp).length ≤ (tipsS sp).length
  | [] => Nat.le_refl _
  | p :: sp => by
    have ih := ed_le sp
    rw [tipsS_cons, List.length_append]
    show (edP p ++ ed sp).length ≤ _
    rw [List.length_append]
    have : (edP p).length ≤ (tipsP p).length := by
      simp only [edP, List.length_zip, nums_len, tipsP, List.length_append, Hg.nt]; omega
    omega
theorem mu_le (N : NetA) : mu N ≤ 2 * (allT N.hs N.sp).length := by
  have := ed_le N.sp
  unfold mu allT
  rw [List.length_append]; omega
/-! ### a loft that is not empty -/
structure SomeFns (T : Nat → Option Body) : Prop extends TurnFns T where
  some_ : T f_l_some = some b_l_some
  up : T f_l_up = some b_l_up
  above : T f_l_above = some b_l_above
  high : T f_l_high = some b_l_high
theorem emp_hs {S : Store} {d : Nat} {hs : List Hg} (h : S[d]? = some (.lst (hs.map ofH))) (f : FineL hs) : oEq S (.cell d) (.lst []) = .ok (.bl (decide (hs = []))) S := by
  have lay := lay_map (f := ofH) (l := hs) (n := 61) fun h hh => (lay_H (f h hh).1).mono (by have := (f h hh).2; omega)
  have ll : Lay (.lst (([] : List Hg).map ofH)) 1 := lay_lst (n := 0) fun z hz => by simp at hz
  exact oEq_lay (A := List Hg) (f := fun l => .lst (l.map ofH)) (fun x y => eq_lstF eqF_H x y) lay ll (by decide) (by decide) (S := S) (d := .cell d) (e := .lst []) (by simp [h]) (by simp)
theorem e_l_some (c : SomeFns T) (ns : List Int) (first most : Nat) (hm : most ≤ 20) {N : Nat} (hN : 80 ≤ N) (S : Store) :
    ∃ S' k, ev T N f_l_some [.scr ns, .int first, .int most] S = .ok (.cell k) S' ∧ ∃ a b d e L, LAt S' k a b d e L ∧ Grow S [] S' [k, a, b, d, e] ∧ L.Inv (most + 2) ∧ L.Net ∧ L.hs ≠ [] := by
  obtain ⟨n, rfl, _⟩ := two_up 78 (N := N) hN
  rw [ev_s c.some_]
  obtain ⟨S1, k, h1, a, b, d, e, L, l, g, iv, nt⟩ := e_three_ways c.toTurnFns kept_net ns first most hm (fun good => loftL_net ns (first + 1) most good) (N := n + 1) (by omega) S
  have t1 := e_cell c.stir c.cell ns first (N := n + 1) (by omega) S1
  have z := iv.z
  have mm := iv.m
  have em := emp_hs l.ha (iv.fineL (by omega))
  by_cases he : L.hs = []
  · obtain ⟨S2, e2, l2, g2⟩ := e_add_cord c.toLoftFns l iv.bk (by omega) (by omega) (cellI ns first) (N := n + 1) (by omega)
    exact ⟨S2, k, by simp [step1, b_l_some, h1, l.hk, em, he, t1, e2], a, b, d, e, _, l2, g.trans g2, iv.cord (by omega) _, nt.cord _, by simp [Lo.cord]⟩
  · exact ⟨S1, k, by simp [step1, b_l_some, h1, l.hk, em, he], a, b, d, e, L, l, g, iv.mono (by omega), nt, he⟩
theorem e_l_above (c : T f_l_above = some b_l_above) {S : Store} {k a b d e : Nat} {L : Lo} (l : LAt S k a b d e L) (st : L.bk.St) {N : Nat} (hN : 2 ≤ N) : ev T N f_l_above [.cell k] S = .ok (.int L.bk.above) S := by
  obtain ⟨n, rfl, _⟩ := two_up 0 (N := N) hN
  rw [ev_s c]
  have := st.1
  have := st.2
  simp [step1, b_l_above, l.hk, l.he, Bk.mo, Bk.above]
theorem e_l_high (c : SomeFns T) {S : Store} {k a b d e : Nat} {L : Lo} (l : LAt S k a b d e L) (fh : FineL L.hs) (fs : FineS L.sp) (step : Int) {N : Nat} (hN : 70 ≤ N) :
    ev T N f_l_high [.cell k, .int step] S = .ok (.tup [.lst ((L.hs.map (Hg.ren fun n => n + step)).map ofH), .lst ((L.sp.map (renP fun n => n + step)).map ofP)]) S := by
  obtain ⟨n, rfl, _⟩ := two_up 68 (N := N) hN
  rw [ev_s c.high]
  have up := fun (h : Hg) (hd : h.depth ≤ 60) S => e_l_up c.is_tip c.up step h (N := n + 1) (by omega) S
  simp [step1, b_l_high]
  rw [comp_map (d := .cell d) L.sp ofP (fun p => ofP (renP (fun n => n + step) p)) (by simp [l.hk]) (by rw [itA_cell, l.hc]; simp) (fun p hp => by
    have fp := fs p hp
    simp [setAll, wipeE, ofP, renP, up p.1 fp.1.2, up p.2 fp.2.2])]
  simp
  rw [comp_map (d := .cell a) L.hs ofH (fun h => ofH (h.ren fun n => n + step)) (by simp [l.hk]) (by rw [itA_cell, l.ha]; simp) (fun h hh => by simp [setAll, wipeE, up h (fh h hh).2])]
  simp [Function.comp_def]
theorem NetA.Good.out {N : NetA} (g : N.Good) : (outA N).Good := by
  have key : ∀ (m : Nat) (N : NetA), N.Good → mu N ≤ m → (outA N).Good := by
    intro m
    induction m with
    | zero =>
      intro N g h
      by_cases he : N.sp = []
      · rw [← fin_done he]; exact g
      · have := (draw_mu g.ok (List.length_pos_iff.mpr he)).1
        omega
    | succ m ih =>
      intro N g h
      by_cases he : N.sp = []
      · rw [← fin_done he]; exact g
      · have := (draw_mu g.ok (List.length_pos_iff.mpr he)).1
        rw [← draw_out g.ok 0]
        exact ih _ (g.draw 0) (by omega)
  exact key _ N g (Nat.le_refl _)
theorem atI_last {A : Type} (l : List A) (x : A) : L2.atI (l ++ [x]) (-1) = some x := by
  unfold L2.atI L2.ixN
  have e : ((-1 : Int) + ((l ++ [x]).length : Int)).toNat = l.length := by simp; omega
  have h0 : ¬ (0 : Int) ≤ -1 := by decide
  have h1 : -((l ++ [x]).length : Int) ≤ -1 := by simp; omega
  first
    | (rw [if_neg h0, if_pos h1, e]; simp)
    | (simp; rw [if_pos (by omega)]; simp; rw [show ((-1 : Int) + ((l.length : Int) + 1)).toNat = l.length by omega]; simp)
theorem cut_in {A : Type} (x y : A) (l : List A) : cutD (x :: (l ++ [y])) (some 1) (some (-1)) = l := by
  unfold cutD
  have e1 : HT.sIx (x :: (l ++ [y])).length 0 (some 1) = 1 := by
    show HT.sIx _ 0 (some ((1 : Nat) : Int)) = 1
    rw [HT.sIx_nat]; simp
  have e2 : HT.sIx (x :: (l ++ [y])).length (x :: (l ++ [y])).length (some (-1)) = l.length + 1 := by
    show (if (-1 : Int) < 0 then ((-1 : Int) + ((x :: (l ++ [y])).length : Int)).toNat else min (-1 : Int).toNat (x :: (l ++ [y])).length) = l.length + 1
    rw [if_pos (by decide)]
    simp
    omega
  rw [e1, e2]
  simp
end Nl
/-! Q7: ways through splices -/
namespace Nl
open PySem Sm Gr
/-! ### each tip stands once -/
theorem fits_nodup : ∀ {ts : List Hg}, (∀ t ∈ ts, t.isTip = true) → ((lightsOf ts).map (·.1)).Nodup → ((darksOf ts).map (·.1)).Nodup → ts.Nodup
  | [], _, _, _ => List.nodup_nil
  | t :: ts, tp, ln, dn => by
    have ht := tp t List.mem_cons_self
    have tp' : ∀ x ∈ ts, x.isTip = true := fun x hx => tp x (List.mem_cons_of_mem _ hx)
    cases t with
    | knot _ _ _ => cases ht
    | tip d y n =>
      cases d with
      | false =>
        simp only [lightsOf, darksOf, List.map_cons, List.nodup_cons] at ln dn
        exact List.nodup_cons.mpr ⟨fun h => ln.1 (List.mem_map.mpr ⟨_, mem_lights.mpr h, rfl⟩), fits_nodup tp' ln.2 dn⟩
      | true =>
        simp only [lightsOf, darksOf, List.map_cons, List.nodup_cons] at ln dn
        exact List.nodup_cons.mpr ⟨fun h => dn.1 (List.mem_map.mpr ⟨_, mem_darks.mpr h, rfl⟩), fits_nodup tp' ln dn.2⟩
theorem Fits.nodup {ts : List Hg} (h : Fits ts) : ts.Nodup := fits_nodup h.tip h.ln h.dn
/-- the other tip of a cord stands there too -/
theorem Fits.far {ts : List Hg} (h : Fits ts) {t : Hg} (ht : t ∈ ts) : t.mir ∈ ts := by
  have tt := h.tip t ht
  cases t with
  | knot _ _ _ => cases tt
  | tip d y n =>
    cases d with
    | false => exact mem_darks.mp ((h.mate (n, y)).mp (mem_lights.mpr ht))
    | true => exact mem_lights.mp ((h.mate (n, y)).mpr (mem_darks.mpr ht))
/-- tips of one number are one tip or one cord's two -/
theorem Fits.same {ts : List Hg} (h : Fits ts) {t u : Hg} (ht : t ∈ ts) (hu : u ∈ ts) (e : tnum t = tnum u) : u = t ∨ u = t.mir := by
  have tt := h.tip t ht
  have tu := h.tip u hu
  cases t with
  | knot _ _ _ => cases tt
  | tip d y n =>
    cases u with
    | knot _ _ _ => cases tu
    | tip d2 y2 n2 =>
      have e : n = n2 := e
      subst e
      have fl : ∀ {z w}, Hg.tip false z n ∈ ts → Hg.tip false w n ∈ ts → z = w := fun h1 h2 => fst_inj h.ln (mem_lights.mpr h1) (mem_lights.mpr h2)
      have fd : ∀ {z w}, Hg.tip true z n ∈ ts → Hg.tip true w n ∈ ts → z = w := fun h1 h2 => fst_inj h.dn (mem_darks.mpr h1) (mem_darks.mpr h2)
      have far := h.far hu
      cases d <;> cases d2 <;> simp only [Hg.mir, Bool.not_true, Bool.not_false] at far ⊢
      · left; rw [fl ht hu]
      · right; rw [fl ht far]
      · right; rw [fd ht far]
      · left; rw [fd ht hu]
/-! ### what stands over against a tip -/
def facesP (p : Hg × Hg) : List (Hg × Hg) := (p.1.tips.zip p.2.tips).flatMap fun q => [(q.1, q.2), (q.2, q.1)]
def faces (sp : List (Hg × Hg)) : List (Hg × Hg) := sp.flatMap facesP
/-- as a dict that is written in this order tells it -/
def faceL (P : List (Hg × Hg)) (t : Hg) : Option Hg := P.foldl (fun acc p => if p.1 = t then some p.2 else acc) none
theorem faceL_snoc (P : List (Hg × Hg)) (p : Hg × Hg) (t : Hg) : faceL (P ++ [p]) t = if p.1 = t then some p.2 else faceL P t := by
  unfold faceL; rw [List.foldl_append]; rfl
theorem snoc_ind {A : Type} {C : List A → Prop} (h0 : C []) (h1 : ∀ l a, C l → C (l ++ [a])) (l : List A) : C l := by
  have key : ∀ (r : List A), C r.reverse := by
    intro r
    induction r with
    | nil => exact h0
    | cons a r ih => rw [List.reverse_cons]; exact h1 _ _ ih
  have := key l.reverse
  rwa [List.reverse_reverse] at this
theorem faceL_mem {P : List (Hg × Hg)} {t u : Hg} (h : faceL P t = some u) : (t, u) ∈ P := by
  induction P using snoc_ind with
  | h0 => cases h
  | h1 P p ih =>
    rw [faceL_snoc] at h
    split at h
    · next e => cases h; subst e; simp
    · exact List.mem_append_left _ (ih h)
theorem faceL_some {P : List (Hg × Hg)} (nd : (P.map (·.1)).Nodup) {t u : Hg} (h : (t, u) ∈ P) : faceL P t = some u := by
  induction P using snoc_ind with
  | h0 => cases h
  | h1 P p ih =>
    rw [List.map_append, List.nodup_append] at nd
    rw [faceL_snoc]
    rcases List.mem_append.mp h with z | z
    · have : p.1 ≠ t := fun e => nd.2.2 t (List.mem_map.mpr ⟨_, z, rfl⟩) p.1 (by simp) e.symm
      rw [if_neg this]; exact ih nd.1 z
    · simp at z; subst z; rw [if_pos rfl]
theorem faceL_none {P : List (Hg × Hg)} {t : Hg} : faceL P t = none ↔ ∀ u, (t, u) ∉ P := by
  constructor
  · intro h u hu
    induction P using snoc_ind with
    | h0 => cases hu
    | h1 P p ih =>
      rw [faceL_snoc] at h
      split at h
      · cases h
      · next e =>
        rcases List.mem_append.mp hu with z | z
        · exact ih h z
        · simp at z; subst z; exact e rfl
  · intro h
    cases q : faceL P t with
    | none => rfl
    | some u => exact absurd (faceL_mem q) (h u)
theorem faces_swap {sp : List (Hg × Hg)} {t u : Hg} (h : (t, u) ∈ faces sp) : (u, t) ∈ faces sp := by
  obtain ⟨p, hp, h⟩ := List.mem_flatMap.mp h
  obtain ⟨q, hq, h⟩ := List.mem_flatMap.mp h
  refine List.mem_flatMap.mpr ⟨p, hp, List.mem_flatMap.mpr ⟨q, hq, ?_⟩⟩
  simp at h ⊢
  rcases h with ⟨rfl, rfl⟩ | ⟨rfl, rfl⟩ <;> simp
theorem zip_fst {A : Type} : ∀ (l m : List A), l.length = m.length → ((l.zip m).flatMap fun q => [(q.1, q.2), (q.2, q.1)]).map (·.1) = ((l.zip m).flatMap fun q => [q.1, q.2])
  | [], _, _ => rfl
  | _ :: _, [], h => by cases h
  | a :: l, b :: m, h => by simp at h; simp [zip_fst l m h]
theorem zip_perm {A : Type} : ∀ (l m : List A), l.length = m.length → ((l.zip m).flatMap fun q => [q.1, q.2]).Perm (l ++ m)
  | [], [], _ => .refl _
  | [], _ :: _, h => by cases h
  | _ :: _, [], h => by cases h
  | a :: l, b :: m, h => by
    simp at h
    simp only [List.zip_cons_cons, List.flatMap_cons, List.cons_append, List.nil_append]
    refine List.Perm.cons a ?_
    exact ((zip_perm l m h).cons b).trans List.perm_middle.symm
theorem facesP_fst {p : Hg × Hg} (m : p.1.mirs p.2 = true) : ((facesP p).map (·.1)).Perm (tipsP p) := by
  have hl : p.1.tips.length = p.2.tips.length := mirs_nt m
  unfold facesP
  rw [zip_fst _ _ hl]
  exact zip_perm _ _ hl
theorem faces_fst : ∀ {sp : List (Hg × Hg)}, (∀ p ∈ sp, p.1.mirs p.2 = true) → ((faces sp).map (·.1)).Perm (tipsS sp)
  | [], _ => .refl _
  | p :: sp, m => by
    show ((facesP p ++ faces sp).map (·.1)).Perm _
    rw [List.map_append, tipsS_cons]
    exact (facesP_fst (m p List.mem_cons_self)).append (faces_fst fun q hq => m q (List.mem_cons_of_mem _ hq))
theorem NetA.Ok.nd {N : NetA} (ok : N.Ok) : (allT N.hs N.sp).Nodup := ok.fit.nodup
theorem NetA.Ok.ndS {N : NetA} (ok : N.Ok) : (tipsS N.sp).Nodup := (List.nodup_append.mp ok.nd).2.1
theorem NetA.Ok.ndF {N : NetA} (ok : N.Ok) : ((faces N.sp).map (·.1)).Nodup := (faces_fst ok.mir).nodup_iff.mpr ok.ndS
abbrev face (N : NetA) (t : Hg) : Option Hg := faceL (faces N.sp) t
theorem face_iff {N : NetA} (ok : N.Ok) {t u : Hg} : face N t = some u ↔ (t, u) ∈ faces N.sp := ⟨faceL_mem, faceL_some ok.ndF⟩
theorem face_symm {N : NetA} (ok : N.Ok) {t u : Hg} (h : face N t = some u) : face N u = some t := (face_iff ok).mpr (faces_swap ((face_iff ok).mp h))
theorem face_inj {N : NetA} (ok : N.Ok) {t u v : Hg} (h : face N t = some v) (k : face N u = some v) : t = u := by
  have h1 := face_symm ok h
  rw [face_symm ok k] at h1
  cases h1; rfl
theorem face_mem {N : NetA} (ok : N.Ok) {t u : Hg} (h : face N t = some u) : t ∈ tipsS N.sp ∧ u ∈ tipsS N.sp :=
  ⟨(faces_fst ok.mir).mem_iff.mp (List.mem_map.mpr ⟨_, (face_iff ok).mp h, rfl⟩), (faces_fst ok.mir).mem_iff.mp (List.mem_map.mpr ⟨_, faces_swap ((face_iff ok).mp h), rfl⟩)⟩
theorem face_some {N : NetA} (ok : N.Ok) {t : Hg} (h : t ∈ tipsS N.sp) : ∃ u, face N t = some u := by
  obtain ⟨⟨a, u⟩, hp, e⟩ := List.mem_map.mp ((faces_fst ok.mir).mem_iff.mpr h)
  have e : a = t := e
  subst e
  exact ⟨u, (face_iff ok).mpr hp⟩
/-! ### roads -/
def meet (ss : List Hg) : List Hg := ss.flatMap fun s => [s, s.mir]
structure Road (f : Hg → Option Hg) (t : Hg) (ss : List Hg) : Prop where
  head : ss[0]? = some t
  step : ∀ i a b, ss[i]? = some a → ss[i + 1]? = some b → f a.mir = some b
  nd : ss.Nodup
theorem Road.one (f : Hg → Option Hg) (t : Hg) : Road f t [t] := ⟨rfl, fun i a b h1 h2 => by simp at h2, by simp⟩
theorem mir_inj {t u : Hg} (h : t.mir = u.mir) : t = u := by
  have := congrArg Hg.mir h
  rwa [Hg.mir_mir, Hg.mir_mir] at this
theorem Road.more {N : NetA} (ok : N.Ok) {t s u : Hg} {ss : List Hg} (h : Road (face N) t (ss ++ [s])) (hu : face N s.mir = some u) (ne : u ≠ t) : Road (face N) t (ss ++ [s] ++ [u]) := by
  refine ⟨?_, fun i a b h1 h2 => ?_, ?_⟩
  · rw [List.getElem?_append_left (by simp)]; exact h.head
  · by_cases q : i + 1 < (ss ++ [s]).length
    · rw [List.getElem?_append_left (by omega)] at h1
      rw [List.getElem?_append_left q] at h2
      exact h.step i a b h1 h2
    · have l2 := lt_of_get h2
      simp at l2 q
      have e : i = ss.length := by omega
      subst e
      have e1 : (ss ++ [s] ++ [u])[ss.length]? = some s := by simp
      have e2 : (ss ++ [s] ++ [u])[ss.length + 1]? = some u := by simp
      rw [e1] at h1; rw [e2] at h2
      cases h1; cases h2; exact hu
  · refine List.nodup_append.mpr ⟨h.nd, by simp, fun a ha b hb e => ?_⟩
    simp at hb
    subst hb e
    obtain ⟨j, hj⟩ := List.getElem?_of_mem ha
    cases j with
    | zero =>
      rw [h.head] at hj
      cases hj; exact ne rfl
    | succ j =>
      have hl := lt_of_get hj
      have hjj : j < (ss ++ [s]).length := by omega
      have e1 := List.getElem?_eq_getElem hjj
      have hs := h.step j _ _ e1 hj
      have e2 := mir_inj (face_inj ok hs hu)
      have e3 : (ss ++ [s])[ss.length]? = some s := by simp
      have e4 : (ss ++ [s])[j]? = some s := by rw [e1, e2]
      have := (List.getElem?_inj hjj h.nd).mp (e4.trans e3.symm)
      simp at hl
      omega
theorem road_mem {N : NetA} (ok : N.Ok) {t : Hg} {ss : List Hg} (h : Road (face N) t ss) {s : Hg} (hs : s ∈ ss) : s = t ∨ s ∈ tipsS N.sp := by
  obtain ⟨j, hj⟩ := List.getElem?_of_mem hs
  cases j with
  | zero => rw [h.head] at hj; cases hj; exact .inl rfl
  | succ j =>
    have hl := lt_of_get hj
    have e1 := List.getElem?_eq_getElem (show j < ss.length by omega)
    exact .inr (face_mem ok (h.step j _ _ e1 hj)).2
theorem road_len {N : NetA} (ok : N.Ok) {t : Hg} {ss : List Hg} (h : Road (face N) t ss) : ss.length ≤ (tipsS N.sp).length + 1 := by
  have := Gr.nodup_len h.nd (m := t :: tipsS N.sp) fun s hs => by
    rcases road_mem ok h hs with rfl | z
    · exact List.mem_cons_self
    · exact List.mem_cons_of_mem _ z
  simpa using this
end Nl
/-! R16: ways walked -/
namespace Nl
open PySem Sm Gr
variable {T : Nat → Option Body}
def keyT : Hg → List L2.Key
  | .tip d y n => [.inr (tw d), .inr y, .inl n]
  | .knot _ _ _ => []
theorem keyT_inj {t u : Hg} (ht : t.isTip = true) (hu : u.isTip = true) (h : keyT t = keyT u) : t = u := by
  cases t with
  | knot _ _ _ => cases ht
  | tip d y n =>
    cases u with
    | knot _ _ _ => cases hu
    | tip d2 y2 n2 =>
      simp [keyT] at h
      obtain ⟨h1, h2, h3⟩ := h
      rw [tw_inj h1, h2, h3]
theorem keysOf_tip (d : Bool) (y : Str) (n : Int) : keysOf [.str (tw d), .str y, .int n] = some (keyT (.tip d y n)) := rfl
theorem keysD_tip {t : Hg} (ht : t.isTip = true) : keysD (ofH t) = some (keyT t) := by
  cases t with
  | knot _ _ _ => cases ht
  | tip d y n => rfl
/-- a dict that tells the tips over against -/
def IsFace (kvs : List (List L2.Key × D)) (f : Hg → Option Hg) : Prop := ∀ t : Hg, t.isTip = true → valK kvs (keyT t) = (f t).map ofH
theorem IsFace.put {kvs : List (List L2.Key × D)} {P : List (Hg × Hg)} (h : IsFace kvs (faceL P)) {t u : Hg} (ht : t.isTip = true) : IsFace (putG kvs (keyT t) (ofH u)) (faceL (P ++ [(t, u)])) := by
  intro v hv
  rw [val_put, faceL_snoc, h v hv]
  by_cases q : t = v
  · subst q; simp
  · have : ¬ keyT v = keyT t := fun e => q (keyT_inj ht hv e.symm)
    rw [if_neg this, if_neg q]
/-- a dict of tips, still written or already read only -/
def DtAt (S : Store) (m : Nat) (kvs : List (List L2.Key × D)) : Prop := S[m]? = some (.dt kvs) ∨ S[m]? = some (.ft kvs)
theorem DtAt.app {S : Store} {m : Nat} {kvs : List (List L2.Key × D)} (h : DtAt S m kvs) (X : Store) : DtAt (S ++ X) m kvs := h.imp (fun h => gapp h X) (fun h => gapp h X)
theorem dGet_dt {S : Store} {m : Nat} {kvs : List (List L2.Key × D)} (h : DtAt S m kvs) {t : Hg} (ht : t.isTip = true) : dGet S (.cell m) (ofH t) = some (valK kvs (keyT t)) := by
  cases t with
  | knot _ _ _ => cases ht
  | tip d y n =>
    show dLook S[m]? (.tup [.str (tw d), .str y, .int n]) = _
    rcases h with h | h <;> rw [h] <;> show (keysOf [.str (tw d), .str y, .int n]).map _ = _ <;> rw [keysOf_tip] <;> rfl
theorem in_dt {S : Store} {m : Nat} {kvs : List (List L2.Key × D)} (h : DtAt S m kvs) {t : Hg} (ht : t.isTip = true) : oIn S (ofH t) (.cell m) = .ok (.bl (valK kvs (keyT t)).isSome) S := by
  unfold oIn oInB
  have h1 : inStr (ofH t) (.cell m) = none := by cases t <;> rfl
  rw [h1, dGet_dt h ht]
theorem ix_dt {S : Store} {m : Nat} {kvs : List (List L2.Key × D)} (h : DtAt S m kvs) {t : Hg} (ht : t.isTip = true) {r : D} (hr : valK kvs (keyT t) = some r) : oIx S (.cell m) (ofH t) = .ok r S := by
  have g := dGet_dt h ht
  rw [hr] at g
  cases t with
  | knot _ _ _ => cases ht
  | tip d y n =>
    show (match dGet S (.cell m) (.tup [.str (tw d), .str y, .int n]) with
    | some (some r) => R.ok r S
    | _ => .err) = _
    rw [show D.tup [.str (tw d), .str y, .int n] = ofH (.tip d y n) from rfl, g]
theorem set_dt {S : Store} {m : Nat} {kvs : List (List L2.Key × D)} (h : S[m]? = some (.dt kvs)) {t : Hg} (ht : t.isTip = true) (hl : kvs.length < sizeLine) (e : D) : oSet S (.cell m) (ofH t) e = .ok .non (S.set m (.dt (putG kvs (keyT t) e))) := by
  rw [set_cell, h, kSet_dt, keysD_tip ht]
  simp only
  rw [if_pos hl]
theorem facesP_tip {p q : Hg × Hg} (h : q ∈ p.1.tips.zip p.2.tips) : q.1.isTip = true ∧ q.2.isTip = true := by
  have h1 := List.of_mem_zip h
  obtain ⟨d, y, n, e1⟩ := tips_tip h1.1
  obtain ⟨d2, y2, n2, e2⟩ := tips_tip h1.2
  rw [e1, e2]; exact ⟨rfl, rfl⟩
theorem zipD_map {A B : Type} (f : A → D) (g : B → D) : ∀ (l : List A) (m : List B), zipD (l.map f) (m.map g) = (l.zip m).map fun q => [f q.1, g q.2]
  | [], _ => rfl
  | _ :: _, [] => rfl
  | a :: l, b :: m => by simp only [List.map_cons, zipD, List.zip_cons_cons, zipD_map f g l m]
structure WayFns (T : Nat → Option Body) : Prop extends NetFns T where
  mirrored : T f_p_mirrored = some b_p_mirrored
  facing : T f_p_facing = some b_p_facing
  road : T f_p_road = some b_p_road
  way : T f_p_way = some b_p_way
theorem faces_len {N : NetA} (ok : N.Ok) : (faces N.sp).length = (tipsS N.sp).length := by
  have := (faces_fst ok.mir).length_eq
  rwa [List.length_map] at this
theorem e_p_facing (c : WayFns T) {N : NetA} (gd : N.Good) {n : Nat} (hn : 110 ≤ n) (S : Store) :
    ∃ kvs, ev T n f_p_facing [N.d] S = .ok (.cell S.length) (S ++ [.dt kvs]) ∧ IsFace kvs (face N) ∧ kvs.map (·.1) = (faces N.sp).map fun q => keyT q.1 := by
  obtain ⟨n, rfl, _⟩ := two_up 108 (N := n) hn
  rw [ev_s c.facing]
  have hz := gd.z
  have fl := faces_len gd.ok
  have tl : (tipsS N.sp).length ≤ 1000000 := by unfold allT at hz; rw [List.length_append] at hz; omega
  have ndF := gd.ok.ndF
  have hl : ∀ (P R : List (Hg × Hg)), P ++ R = faces N.sp → P.length ≤ 1000000 := fun P R e => by
    have := congrArg List.length e
    rw [List.length_append] at this; omega
  -- a pair of tips
  have step : ∀ (P R : List (Hg × Hg)) (kvs : List (List L2.Key × D)) (t u : Hg), P ++ (t, u) :: R = faces N.sp → t.isTip = true → IsFace kvs (faceL P) → kvs.map (·.1) = P.map (fun q => keyT q.1) → (∀ q ∈ P, q.1.isTip = true) → kvs.length < sizeLine ∧ IsFace (putG kvs (keyT t) (ofH u)) (faceL (P ++ [(t, u)])) ∧ (putG kvs (keyT t) (ofH u)).map (·.1) = (P ++ [(t, u)]).map (fun q => keyT q.1) := by
    intro P R kvs t u e ht hk hm hP
    have hlen : kvs.length = P.length := by have := congrArg List.length hm; simpa using this
    refine ⟨by rw [hlen]; exact Nat.lt_of_le_of_lt (hl P _ e) (by decide), hk.put ht, ?_⟩
    have new : (kvs.any fun kv => decide (kv.1 = keyT t)) = false := by
      rw [List.any_eq_false]
      intro kv hkv
      have : kv.1 ∈ kvs.map (·.1) := List.mem_map.mpr ⟨kv, hkv, rfl⟩
      rw [hm] at this
      obtain ⟨q, hq, eq⟩ := List.mem_map.mp this
      simp
      intro z
      have e1 := keyT_inj (hP q hq) ht (eq.trans z)
      rw [← e, List.map_append, List.nodup_append] at ndF
      exact ndF.2.2 q.1 (List.mem_map.mpr ⟨q, hq, rfl⟩) t (by simp) e1
    unfold putG
    rw [new]
    simp [hm]
  simp [step1, b_p_facing, NetA.d]
  rw [for_src (src := [.lst (N.sp.map ofP)]) (by simp; rfl) (fun S => itA_lst _ S), ones_map]
  generalize hz0 : forV _ _ _ _ _ = zz
  obtain ⟨r, S1, e1, ⟨o2, o3, o4, rfl⟩, kvs, rfl, hk, hm⟩ := forV_z hz0 (fun (u : Unit) (_ : Hg × Hg) => u)
    (fun i _ ρ S1 => (∃ o2 o3 o4, ρ = [some N.d, some (.cell S.length), o2, o3, o4]) ∧ ∃ kvs, S1 = S ++ [.dt kvs] ∧ IsFace kvs (faceL (faces (N.sp.take i))) ∧ kvs.map (·.1) = (faces (N.sp.take i)).map fun q => keyT q.1) (st := ())
    ⟨⟨none, none, none, rfl⟩, [], rfl, fun t _ => rfl, rfl⟩
    (by
      rintro i _ p ρ S1 hx ⟨⟨o2, o3, o4, rfl⟩, kvs, rfl, hk, hm⟩
      have mp := List.mem_of_getElem? hx
      obtain ⟨⟨f1, d1⟩, f2, d2⟩ := gd.fn.sp p mp
      have z1 : p.1.nt ≤ sizeLine ∧ p.2.nt ≤ sizeLine := by
        have e := congrArg List.length (congrArg tipsS (split_at hx))
        rw [tipsS_app, tipsS_cons, List.length_append, List.length_append] at e
        have : (tipsP p).length = p.1.nt + p.2.nt := by simp [tipsP, Hg.nt]
        exact ⟨Nat.le_trans (m := 1000000) (by omega) (by decide), Nat.le_trans (m := 1000000) (by omega) (by decide)⟩
      have t1 := fun S => e_p_tips c.is_tip c.tips p.1 (N := n + 1) (by omega) z1.1 S
      have t2 := fun S => e_p_tips c.is_tip c.tips p.2 (N := n + 1) (by omega) z1.2 S
      have efull : faces (N.sp.take i) ++ (facesP p ++ faces (N.sp.drop (i + 1))) = faces N.sp := by
        conv => rhs; rw [split_at hx]
        simp [faces]
      simp only [setAll]
      rw [for_srcL (src := [.lst (p.1.tips.map ofH), .lst (p.2.tips.map ofH)]) (by simp [ofP, t1, t2, ofL]; rfl) (itZ rfl rfl)]
      generalize hz1 : forL _ _ _ _ _ _ _ = zz
      obtain ⟨r2, S2, h2, ⟨p3, p4, rfl⟩, k2, rfl, hk2, hm2⟩ := forL_z hz1 (fun q : Hg × Hg => [ofH q.1, ofH q.2]) (p.1.tips.zip p.2.tips) (zipD_map ofH ofH _ _)
        (fun j ρ S2 => (∃ p3 p4, ρ = [some N.d, some (.cell S.length), some (ofP p), p3, p4]) ∧ ∃ k2, S2 = S ++ [.dt k2] ∧ IsFace k2 (faceL (faces (N.sp.take i) ++ ((p.1.tips.zip p.2.tips).take j).flatMap fun q => [(q.1, q.2), (q.2, q.1)])) ∧ k2.map (·.1) = (faces (N.sp.take i) ++ ((p.1.tips.zip p.2.tips).take j).flatMap fun q => [(q.1, q.2), (q.2, q.1)]).map fun q => keyT q.1)
        ⟨⟨o3, o4, rfl⟩, kvs, rfl, by simpa using hk, by simpa using hm⟩
        (by rintro j ρ S2 _; exact itZ rfl rfl)
        (by
          rintro j q ρ S2 hq ⟨⟨p3, p4, rfl⟩, k2, rfl, hk2, hm2⟩
          obtain ⟨q1, q2⟩ := facesP_tip (List.mem_of_getElem? hq)
          generalize hP : faces (N.sp.take i) ++ ((p.1.tips.zip p.2.tips).take j).flatMap (fun q => [(q.1, q.2), (q.2, q.1)]) = P at *
          have ef : P ++ (q.1, q.2) :: ((q.2, q.1) :: (((p.1.tips.zip p.2.tips).drop (j + 1)).flatMap (fun q => [(q.1, q.2), (q.2, q.1)]) ++ faces (N.sp.drop (i + 1)))) = faces N.sp := by
            rw [← efull, ← hP]
            have : facesP p = ((p.1.tips.zip p.2.tips).take j).flatMap (fun q => [(q.1, q.2), (q.2, q.1)]) ++ ((q.1, q.2) :: (q.2, q.1) :: ((p.1.tips.zip p.2.tips).drop (j + 1)).flatMap (fun q => [(q.1, q.2), (q.2, q.1)])) := by
              unfold facesP
              conv => lhs; rw [split_at hq]
              simp
            rw [this]; simp
          have hPt : ∀ x ∈ P, x.1.isTip = true := by
            intro x hx
            have : x ∈ faces N.sp := by rw [← ef]; exact List.mem_append_left _ hx
            obtain ⟨pp, _, h3⟩ := List.mem_flatMap.mp this
            obtain ⟨qq, h4, h5⟩ := List.mem_flatMap.mp h3
            have tt := facesP_tip h4
            simp at h5
            rcases h5 with rfl | rfl
            · exact tt.1
            · exact tt.2
          obtain ⟨l1, i1, m1⟩ := step P _ k2 q.1 q.2 ef q1 hk2 hm2 hPt
          have ef2 : (P ++ [(q.1, q.2)]) ++ (q.2, q.1) :: (((p.1.tips.zip p.2.tips).drop (j + 1)).flatMap (fun q => [(q.1, q.2), (q.2, q.1)]) ++ faces (N.sp.drop (i + 1))) = faces N.sp := by rw [← ef]; simp
          obtain ⟨l2, i2, m2⟩ := step (P ++ [(q.1, q.2)]) _ _ q.2 q.1 ef2 q2 i1 m1 (by
            intro x hx
            rcases List.mem_append.mp hx with z | z
            · exact hPt x z
            · simp at z; subst z; exact q1)
          have s1 := set_dt (S := S ++ [.dt k2]) (m := S.length) (kvs := k2) (by simp) q1 l1 (ofH q.2)
          have s2 := set_dt (S := S ++ [.dt (putG k2 (keyT q.1) (ofH q.2))]) (m := S.length) (by simp) q2 l2 (ofH q.1)
          simp only [set_app] at s1 s2
          refine ⟨[some N.d, some (.cell S.length), some (ofP p), some (ofH q.1), some (ofH q.2)], S ++ [.dt (putG (putG k2 (keyT q.1) (ofH q.2)) (keyT q.2) (ofH q.1))], ?_, ⟨_, _, rfl⟩, _, rfl, ?_, ?_⟩
          · simp [setAll, s1, s2, -set_cell]
          · rw [List.take_add_one, hq, List.flatMap_append, ← List.append_assoc, hP]
            simpa using i2
          · rw [List.take_add_one, hq, List.flatMap_append, ← List.append_assoc, hP, m2]
            simp)
      rw [List.take_length] at hk2 hm2
      refine ⟨[some N.d, some (.cell S.length), some (ofP p), p3, p4], S ++ [.dt k2], h2, ⟨_, _, _, rfl⟩, k2, rfl, ?_, ?_⟩
      · have : faces (N.sp.take (i + 1)) = faces (N.sp.take i) ++ facesP p := by rw [List.take_add_one, hx]; simp [faces]
        rw [this]; exact hk2
      · have : faces (N.sp.take (i + 1)) = faces (N.sp.take i) ++ facesP p := by rw [List.take_add_one, hx]; simp [faces]
        rw [this]; exact hm2)
  subst e1
  rw [List.take_length] at hk hm
  exact ⟨kvs, by simp, hk, hm⟩
end Nl
/-! R17: roads walked -/
namespace Nl
open PySem Sm Gr
variable {T : Nat → Option Body}
theorem meet_snoc (ss : List Hg) (s : Hg) : meet (ss ++ [s]) = (meet ss ++ [s]) ++ [s.mir] := by simp [meet]
theorem meet_len (ss : List Hg) : (meet ss).length = 2 * ss.length := by
  induction ss with
  | nil => rfl
  | cons a ss ih => show ([a, a.mir] ++ meet ss).length = _; simp [ih]; omega
theorem mir_tip {t : Hg} (h : t.isTip = true) : t.mir.isTip = true := by
  cases t with
  | knot _ _ _ => cases h
  | tip d y n => rfl
theorem tip_depth {t : Hg} (h : t.isTip = true) : t.depth = 0 := by
  cases t with
  | knot _ _ _ => cases h
  | tip d y n => rfl
theorem tips_fine {ts : List Hg} {N : NetA} (fn : N.Fine) {t : Hg} (h : t ∈ allT N.hs N.sp) : t.isTip = true ∧ t.Fine := by
  unfold allT at h
  rcases List.mem_append.mp h with z | z
  · obtain ⟨g, hg, hm⟩ := List.mem_flatMap.mp z
    obtain ⟨d, y, n, e⟩ := tips_tip hm
    exact ⟨by rw [e]; rfl, fine_tips (fn.hs g hg).1 hm⟩
  · obtain ⟨p, hp, hm⟩ := List.mem_flatMap.mp z
    unfold tipsP at hm
    rcases List.mem_append.mp hm with w | w
    · obtain ⟨d, y, n, e⟩ := tips_tip w
      exact ⟨by rw [e]; rfl, fine_tips (fn.sp p hp).1.1 w⟩
    · obtain ⟨d, y, n, e⟩ := tips_tip w
      exact ⟨by rw [e]; rfl, fine_tips (fn.sp p hp).2.1 w⟩
theorem face_fine {N : NetA} (gd : N.Good) {t u : Hg} (h : face N t = some u) : u.isTip = true ∧ u.Fine :=
  tips_fine (ts := []) gd.fn (List.mem_append_right _ (face_mem gd.ok h).2)
theorem ne_tip {S : Store} {t u : Hg} (ht : t.isTip = true ∧ t.Fine) (hu : u.isTip = true ∧ u.Fine) : oNe S (ofH t) (ofH u) = .ok (.bl (!decide (t = u))) S :=
  oNe_lay eqF_H (lay_H ht.2) (lay_H hu.2) (by rw [tip_depth ht.1]; decide) (by rw [tip_depth hu.1]; decide) (deref_H _ _) (deref_H _ _)
/-- the tips met from a tip on; where the road ends -/
theorem e_p_road (c1 : T f_p_mirrored = some b_p_mirrored) (c : T f_p_road = some b_p_road) {N : NetA} (gd : N.Good) {S : Store} {m0 : Nat} {kvs : List (List L2.Key × D)} (hS : DtAt S m0 kvs) (hf : IsFace kvs (face N)) {t : Hg} (ht : t.isTip = true ∧ t.Fine) (hz : (tipsS N.sp).length ≤ 90000) {n : Nat} (hn : 10 ≤ n) :
    ∃ ss s, ev T n f_p_road [.cell m0, ofH t] S = .ok (.lst ((meet (ss ++ [s])).map ofH)) S ∧ Road (face N) t (ss ++ [s]) ∧ (face N s.mir = none ∨ face N s.mir = some t) := by
  obtain ⟨n, rfl, _⟩ := two_up 8 (N := n) hn
  rw [ev_s c]
  have mr := fun (t : Hg) (h : t.isTip = true) S => e_p_mirrored c1 t (N := n + 1) (by rw [tip_depth h]; omega) S
  simp [step1, b_p_road, mr t ht.1]
  generalize hz0 : whileN _ _ _ _ _ = zz
  obtain ⟨r, S2, e1, ss, s, rfl, rfl, rd, hend⟩ := while_z hz0
    (fun m ρ S1 => ∃ ss s, ρ = [some (.cell m0), some (ofH t), some (.cell S.length)] ∧ S1 = S ++ [.lst ((meet (ss ++ [s])).map ofH)] ∧ Road (face N) t (ss ++ [s]) ∧ (s.isTip = true ∧ s.Fine) ∧ m + (ss.length + 1) = (tipsS N.sp).length + 2)
    (fun ρ S1 => ∃ ss s, ρ = [some (.cell m0), some (ofH t), some (.cell S.length)] ∧ S1 = S ++ [.lst ((meet (ss ++ [s])).map ofH)] ∧ Road (face N) t (ss ++ [s]) ∧ (face N s.mir = none ∨ face N s.mir = some t))
    (m := (tipsS N.sp).length + 1) (by omega) ⟨[], t, rfl, by simp [meet], Road.one _ _, ht, by simp⟩
    (by
      rintro m ρ S1 ⟨ss, s, rfl, rfl, rd, hs, hm⟩
      have hS1 : DtAt (S ++ [MO.lst ((meet (ss ++ [s])).map ofH)]) m0 kvs := hS.app _
      have al : L2.atI ((meet (ss ++ [s])).map ofH) (-1) = some (ofH s.mir) := by
        rw [meet_snoc, List.map_append]; exact atI_last _ _
      have hsm := mir_tip hs.1
      have q1 := in_dt hS1 hsm
      rw [hf s.mir hsm] at q1
      cases hfc : face N s.mir with
      | none =>
        left
        rw [hfc] at q1
        exact ⟨_, by simp [al, q1], ss, s, rfl, rfl, rd, .inl hfc⟩
      | some u =>
        have hu := face_fine gd hfc
        have q2 := ix_dt hS1 hsm (by rw [hf s.mir hsm, hfc]; rfl)
        have q3 := ne_tip (S := S ++ [MO.lst ((meet (ss ++ [s])).map ofH)]) hu ht
        rw [hfc] at q1
        by_cases ut : u = t
        · left
          subst ut
          refine ⟨S ++ [MO.lst ((meet (ss ++ [s])).map ofH)], ?_, ss, s, rfl, rfl, rd, .inr hfc⟩
          simp at q3
          simp [al, q1, q2, q3]
        · right
          have rd2 := rd.more gd.ok hfc ut
          have rl := road_len gd.ok rd2
          simp at rl
          have ml := meet_len (ss ++ [s])
          simp only [List.length_append, List.length_singleton] at ml
          have l1 : (meet (ss ++ [s])).length < sizeLine := Nat.lt_of_le_of_lt (m := 1000000) (by omega) (by decide)
          have l2 : (meet (ss ++ [s])).length + 1 < sizeLine := Nat.lt_of_le_of_lt (m := 1000000) (by omega) (by decide)
          have al2 := atI_last ((meet (ss ++ [s])).map ofH) (ofH u)
          have mu := mr u hu.1
          simp [ut] at q3
          refine ⟨S ++ [MO.lst ((meet (ss ++ [s])).map ofH)], [some (.cell m0), some (ofH t), some (.cell S.length)], S ++ [.lst ((meet ((ss ++ [s]) ++ [u])).map ofH)], m - 1, by simp [al, q1, q2, q3], ?_, by omega, ss ++ [s], u, rfl, rfl, rd2, hu, by simp; omega⟩
          rw [meet_snoc (ss ++ [s])]
          simp [al, q2, l1, l2, al2, mu])
  subst e1
  refine ⟨ss, s, ?_, rd, hend⟩
  simp
  exact fin_frz (by simp) (take_app _ _) (Nat.le_refl _) (cl_map (cl_H _) _)
end Nl
/-! R18: loops that may end early; places in lists of tips -/
namespace Nl
open PySem Sm Gr
variable {T : Nat → Option Body}
/-- what a turn that ends the loop leaves -/
def stopF : R Fl → R Fl
  | .ok (.bk r) S => .ok (.nx r) S
  | x => x
def Stops : R Fl → Prop
  | .ok (.nx _) _ => False
  | .ok (.ct _) _ => False
  | _ => True
open Classical in
theorem forL_end {A : Type} {items : Store → Option (List (List D))} {its : List (List D)} {tg : List Nat} {body : MS} {ρ : Sm.Env} {S : Store} {z : R Fl} (hz : forL items its tg body its ρ S = z) (inj : A → List D) (xs : List A) (hx : its = xs.map inj) (I : Nat → Sm.Env → Store → Prop) (P : R Fl → Prop)
    (h0 : I 0 ρ S) (hi : ∀ i ρ S, I i ρ S → items S = some its)
    (h : ∀ i x ρ S, xs[i]? = some x → I i ρ S → (∃ r S', body (setAll tg (inj x) ρ) S = .ok (.nx r) S' ∧ I (i + 1) r S') ∨ (∃ w, body (setAll tg (inj x) ρ) S = w ∧ Stops w ∧ P (stopF w))) : (∃ r S', z = .ok (.nx r) S' ∧ I xs.length r S') ∨ P z := by
  have key : ∀ (ys : List A) (i : Nat) (ρ : Sm.Env) (S : Store), xs.drop i = ys → I i ρ S → (∃ r S', forL items its tg body (ys.map inj) ρ S = .ok (.nx r) S' ∧ I (i + ys.length) r S') ∨ P (forL items its tg body (ys.map inj) ρ S) := by
    intro ys
    induction ys with
    | nil =>
      intro i ρ S _ h0
      refine .inl ⟨ρ, S, ?_, h0⟩
      rw [List.map_nil]; unfold forL; rw [if_pos (hi _ _ _ h0)]
    | cons y ys ih =>
      intro i ρ S hd h0
      have e : xs[i]? = some y := by
        have := List.getElem?_drop (xs := xs) (i := i) (j := 0)
        rw [hd] at this; simpa using this.symm
      have hd2 : xs.drop (i + 1) = ys := by rw [← List.drop_drop, hd]; rfl
      rcases h i y ρ S e h0 with ⟨r, S1, h1, h2⟩ | ⟨w, h1, h2, h3⟩
      · have e2 : forL items its tg body ((y :: ys).map inj) ρ S = forL items its tg body (ys.map inj) r S1 := by
          rw [List.map_cons]
          conv => lhs; unfold forL
          rw [if_pos (hi _ _ _ h0), h1]
        rw [e2, List.length_cons, show i + (ys.length + 1) = i + 1 + ys.length by omega]
        exact ih (i + 1) r S1 hd2 h2
      · refine .inr ?_
        have e2 : forL items its tg body ((y :: ys).map inj) ρ S = stopF w := by
          rw [List.map_cons]
          conv => lhs; unfold forL
          rw [if_pos (hi _ _ _ h0), h1]
          cases w with
          | err => rfl
          | ex c S1 => rfl
          | ok f S1 =>
            cases f with
            | nx r => exact h2.elim
            | ct r => exact h2.elim
            | rt d => rfl
            | bk r => rfl
        rw [e2]; exact h3
  have := key xs 0 ρ S rfl h0
  rw [← hx, hz, Nat.zero_add] at this
  exact this
theorem forV_end {A : Type} {tg : List Nat} {body : MS} {inj : A → List D} {xs : List A} {ρ : Sm.Env} {S : Store} {z : R Fl} (hz : forV tg body (xs.map inj) ρ S = z) (I : Nat → Sm.Env → Store → Prop) (P : R Fl → Prop) (h0 : I 0 ρ S)
    (h : ∀ i x ρ S, xs[i]? = some x → I i ρ S → (∃ r S', body (setAll tg (inj x) ρ) S = .ok (.nx r) S' ∧ I (i + 1) r S') ∨ (∃ w, body (setAll tg (inj x) ρ) S = w ∧ Stops w ∧ P (stopF w))) : (∃ r S', z = .ok (.nx r) S' ∧ I xs.length r S') ∨ P z :=
  forL_end (items := fun _ => some (xs.map inj)) ((forL_V (fun _ => rfl) _ _ _).trans hz) inj xs rfl I P h0 (fun _ _ _ _ => rfl) h
theorem while_end {c : ME} {b : MS} {fuel : Nat} {ρ : Sm.Env} {S : Store} {z : R Fl} (hz : whileN c b fuel ρ S = z) (I : Nat → Sm.Env → Store → Prop) (P : R Fl → Prop) {m : Nat} (hm : m < fuel) (h0 : I m ρ S)
    (h : ∀ m ρ S, I m ρ S → (∃ S1, c ρ S = .ok (.bl false) S1 ∧ P (.ok (.nx ρ) S1)) ∨ (∃ S1 r S2 m', c ρ S = .ok (.bl true) S1 ∧ b ρ S1 = .ok (.nx r) S2 ∧ m' < m ∧ I m' r S2) ∨ (∃ S1 w, c ρ S = .ok (.bl true) S1 ∧ b ρ S1 = w ∧ Stops w ∧ P (stopF w)) ∨ (∃ c' S1, c ρ S = .ex c' S1 ∧ P (.ex c' S1))) : P z := by
  subst hz
  induction fuel generalizing m ρ S with
  | zero => omega
  | succ k ih =>
    rcases h m ρ S h0 with ⟨S1, h1, h2⟩ | ⟨S1, r, S2, m', h1, h2, h3, h4⟩ | ⟨S1, w, h1, h2, h3, h4⟩ | ⟨c', S1, h1, h2⟩
    · unfold whileN
      rw [h1]; exact h2
    · have := ih (by omega) h4
      unfold whileN
      rw [h1]
      simp only [bind_ok, h2]
      exact this
    · have e : whileN c b (k + 1) ρ S = stopF w := by
        unfold whileN
        rw [h1]
        simp only [bind_ok, h2]
        cases w with
        | err => rfl
        | ex c S1 => rfl
        | ok f S1 =>
          cases f with
          | nx r => exact h3.elim
          | ct r => exact h3.elim
          | rt d => rfl
          | bk r => rfl
      rw [e]; exact h4
    · unfold whileN
      rw [h1]; exact h2
theorem it_r2 {i j : Int} (h : -1000000 ≤ i ∧ i ≤ 1000000 ∧ -1000000 ≤ j ∧ j ≤ 1000000) (S : Store) : itemsR [.int i, .int j] S = some ((List.range (j - i).toNat).map fun (k : Nat) => [D.int (i + k)]) := by
  have hz : (2000000 : Int) ≤ (sizeLine : Int) := by decide
  show (if -(2 ^ 62) ≤ i ∧ i < 2 ^ 62 ∧ -(2 ^ 62) ≤ j ∧ j < 2 ^ 62 ∧ j - i ≤ sizeLine then some ((List.range (j - i).toNat).map fun (k : Nat) => [D.int (i + k)]) else none) = _
  rw [if_pos ⟨by omega, by omega, by omega, by omega, by omega⟩]
theorem mod_nat {n : Nat} (h : 0 < n) (x : Int) : ∃ j : Nat, j < n ∧ x % (n : Int) = (j : Int) := by
  have h0 : 0 ≤ x % (n : Int) := Int.emod_nonneg _ (by omega)
  have h1 : x % (n : Int) < n := Int.emod_lt_of_pos _ (by omega)
  exact ⟨(x % (n : Int)).toNat, by omega, by omega⟩
/-! ### the place of a tip -/
theorem find_tips {t : Hg} : ∀ {ts : List Hg} (k : Nat), t ∈ ts → ∃ j, findD (ofH t) k (ts.map ofH) = some (k + j) ∧ ts[j]? = some t
  | [], _, h => by cases h
  | a :: ts, k, h => by
    rw [List.map_cons]
    unfold findD
    rw [eqF_H]
    by_cases q : a = t
    · subst q
      exact ⟨0, by simp, rfl⟩
    · rcases List.mem_cons.mp h with rfl | h
      · exact absurd rfl q
      · obtain ⟨j, h1, h2⟩ := find_tips (k + 1) h
        exact ⟨j + 1, by simp [q, h1]; omega, h2⟩
theorem index_tips {S : Store} {t : Hg} {ts : List Hg} (ft : t.Fine ∧ t.depth ≤ 60) (fts : FineL ts) (h : t ∈ ts) : ∃ j : Nat, oIndex S (.lst (ts.map ofH)) [ofH t] = .ok (.int j) S ∧ ts[j]? = some t := by
  obtain ⟨j, h1, h2⟩ := find_tips 0 h
  refine ⟨j, ?_, h2⟩
  have f1 : fit (ofH t) = true := (lay_H ft.1).fit (by omega)
  have f2 : fit (.lst (ts.map ofH)) = true := (lay_map (n := 61) fun h hh => (lay_H (fts h hh).1).mono (by have := (fts h hh).2; omega)).fit (by decide)
  show (if fit (.lst (ts.map ofH)) && fit (ofH t) then (match findD (ofH t) 0 (ts.map ofH) with
    | some j => R.ok (D.int j) S
    | none => .err) else .err) = _
  rw [f1, f2, h1]
  simp
theorem facesP_at {p : Hg × Hg} {j : Nat} {t u : Hg} (h1 : p.1.tips[j]? = some t) (h2 : p.2.tips[j]? = some u) : (t, u) ∈ facesP p ∧ (u, t) ∈ facesP p := by
  have hz : (p.1.tips.zip p.2.tips)[j]? = some (t, u) := by rw [List.getElem?_zip_eq_some]; exact ⟨h1, h2⟩
  have hm := List.mem_of_getElem? hz
  exact ⟨List.mem_flatMap.mpr ⟨_, hm, by simp⟩, List.mem_flatMap.mpr ⟨_, hm, by simp⟩⟩
theorem face_at {N : NetA} (ok : N.Ok) {p : Hg × Hg} (hp : p ∈ N.sp) {j : Nat} {t u : Hg} (h1 : p.1.tips[j]? = some t) (h2 : p.2.tips[j]? = some u) : face N t = some u ∧ face N u = some t :=
  ⟨(face_iff ok).mpr (List.mem_flatMap.mpr ⟨p, hp, (facesP_at h1 h2).1⟩), (face_iff ok).mpr (List.mem_flatMap.mpr ⟨p, hp, (facesP_at h1 h2).2⟩)⟩
theorem meet_get : ∀ (ss : List Hg) (k : Nat), (meet ss)[2 * k]? = ss[k]? ∧ (meet ss)[2 * k + 1]? = (ss[k]?).map Hg.mir
  | [], k => by simp [meet]
  | s :: ss, 0 => by simp [meet]
  | s :: ss, k + 1 => by
    have ih := meet_get ss k
    have e : meet (s :: ss) = s :: s.mir :: meet ss := rfl
    rw [e, show 2 * (k + 1) = 2 * k + 1 + 1 by omega]
    simpa using ih
theorem atI_one {A : Type} (l : List A) (k : Nat) : L2.atI l (1 + (k : Int)) = l[k + 1]? := by
  have := atI_nat l (k + 1)
  rwa [show ((k + 1 : Nat) : Int) = 1 + (k : Int) by omega] at this
end Nl
/-! k02: tips, knots, renamed -/
namespace Nl
open PySem Sm Gr
variable {T : Nat → Option Body}
theorem keys_put {k B : Type} [DecidableEq k] (kvs : List (k × B)) (x : k) (v : B) : (putG kvs x v).map (·.1) = if x ∈ kvs.map (·.1) then kvs.map (·.1) else kvs.map (·.1) ++ [x] := by
  unfold putG
  by_cases h : (kvs.any fun kv => decide (kv.1 = x)) = true
  · have hm : x ∈ kvs.map (·.1) := by
      obtain ⟨p, hp, e⟩ := List.any_eq_true.mp h
      exact List.mem_map.mpr ⟨p, hp, of_decide_eq_true e⟩
    rw [if_pos h, if_pos hm, List.map_map]
    refine List.map_congr_left fun p _ => ?_
    show (if p.1 = x then (p.1, v) else p).1 = p.1
    split <;> rfl
  · have hm : x ∉ kvs.map (·.1) := fun z => by
      obtain ⟨p, hp, e⟩ := List.mem_map.mp z
      exact h (List.any_eq_true.mpr ⟨p, hp, decide_eq_true e⟩)
    rw [if_neg h, if_neg hm, List.map_append]; rfl
theorem mem_put {k B : Type} [DecidableEq k] {kvs : List (k × B)} {x : k} {v : B} {p : k × B} (h : p ∈ putG kvs x v) : p ∈ kvs ∨ p.2 = v := by
  unfold putG at h
  split at h
  · obtain ⟨q, hq, e⟩ := List.mem_map.mp h
    split at e
    · right; rw [← e]
    · left; rw [← e]; exact hq
  · rcases List.mem_append.mp h with h | h
    · exact .inl h
    · right; rw [List.mem_singleton] at h; rw [h]
theorem val_mem {k B : Type} [DecidableEq k] : ∀ {kvs : List (k × B)} {p : k × B}, (kvs.map (·.1)).Nodup → p ∈ kvs → valK kvs p.1 = some p.2
  | [], _, _, h => by cases h
  | q :: kvs, p, nd, h => by
    rw [List.map_cons, List.nodup_cons] at nd
    rcases List.mem_cons.mp h with rfl | h
    · simp [valK]
    · have ne : ¬ q.1 = p.1 := fun e => nd.1 (by rw [e]; exact List.mem_map.mpr ⟨p, h, rfl⟩)
      have ih := val_mem nd.2 h
      unfold valK at ih ⊢
      rw [List.find?_cons_of_neg (by simpa using ne)]
      exact ih
theorem mem_val {k B : Type} [DecidableEq k] {kvs : List (k × B)} {x : k} {v : B} (h : valK kvs x = some v) : (x, v) ∈ kvs := by
  unfold valK at h
  cases q : kvs.find? fun kv => decide (kv.1 = x) with
  | none => rw [q] at h; cases h
  | some p =>
    rw [q] at h
    have e1 : p.1 = x := by have := List.find?_some q; exact of_decide_eq_true this
    have e2 := List.mem_of_find?_eq_some q
    cases h
    rw [← e1]; exact e2
structure NmOk (kvs : List (L2.Key × D)) : Prop where
  nd : (kvs.map (·.1)).Nodup
  val : ∀ p ∈ kvs, ∃ i, p.2 = .int i ∧ 0 ≤ i ∧ i < 10 ^ 30
theorem NmOk.put {kvs : List (L2.Key × D)} (h : NmOk kvs) (x : L2.Key) {i : Int} (h0 : 0 ≤ i ∧ i < 10 ^ 30) : NmOk (putG kvs x (.int i)) := by
  refine ⟨?_, fun p hp => ?_⟩
  · rw [keys_put]
    split
    · exact h.nd
    · next q =>
      exact List.nodup_append.mpr ⟨h.nd, by simp, fun a ha b hb e => by
        rw [List.mem_singleton] at hb
        subst hb e
        exact q ha⟩
  · rcases mem_put hp with z | z
    · exact h.val p z
    · exact ⟨i, z, h0⟩
def nmF (kvs : List (L2.Key × D)) (m : Int) : Int := match valK kvs (.inl m) with
  | some (.int i) => i
  | _ => m
theorem NmOk.tells {kvs : List (L2.Key × D)} (h : NmOk kvs) : Tells kvs (nmF kvs) := fun m => by
  unfold nmF
  cases q : valK kvs (.inl m) with
  | none => exact .inr ⟨rfl, rfl⟩
  | some v =>
    obtain ⟨i, e, _⟩ := h.val _ (mem_val q)
    have e : v = .int i := e
    subst e
    exact .inl rfl
theorem NmOk.bd {kvs : List (L2.Key × D)} (h : NmOk kvs) (m : Int) (hm : 0 ≤ m ∧ m < 10 ^ 30) : 0 ≤ nmF kvs m ∧ nmF kvs m < 10 ^ 30 := by
  unfold nmF
  cases q : valK kvs (.inl m) with
  | none => exact hm
  | some v =>
    obtain ⟨i, e, h0⟩ := h.val _ (mem_val q)
    have e : v = .int i := e
    subst e
    exact h0
theorem NmOk.hits {kvs : List (L2.Key × D)} (h : NmOk kvs) : hitsD kvs kvs = some true := by
  have : ∀ ks : List (L2.Key × D), (∀ p ∈ ks, p ∈ kvs) → hitsD kvs ks = some true := by
    intro ks
    induction ks with
    | nil => intro _; rfl
    | cons p ks ih =>
      intro hm
      have hp := hm p List.mem_cons_self
      have ih := ih fun q hq => hm q (List.mem_cons_of_mem _ hq)
      obtain ⟨i, e, _⟩ := h.val p hp
      have v := val_mem h.nd hp
      unfold hitsD
      rw [v, ih, e]
      simp [eqScD]
  exact this kvs fun _ h => h
theorem e_p_knots (c0 : T f_p_is_tip = some b_p_is_tip) (c : T f_p_knots = some b_p_knots) : ∀ (h : Hg) {N : Nat} (_ : h.depth + 3 ≤ N) (S : Store), ev T N f_p_knots [ofH h] S = .ok (.tup [.int (h.words.count false : Nat), .int (h.words.count true : Nat)]) S
  | .tip d y k, N, hN, S => by
    obtain ⟨n, rfl, _⟩ := two_up 1 (N := N) (by omega)
    rw [ev_s c]
    have t1 := e_p_is_tip c0 (.tip d y k) (N := n + 1) (by omega) S
    simp [Hg.isTip] at t1
    cases d <;> simp at t1 <;> simp [step1, b_p_knots, t1, Hg.words]
  | .knot k l r, N, hN, S => by
    obtain ⟨n, rfl, h1, h2, _⟩ := dl 2 hN (by decide)
    rw [ev_s c]
    have t1 := e_p_is_tip c0 (.knot k l r) (N := n + 1) (by omega) S
    have t2 := e_p_knots c0 c l h1 S
    have t3 := e_p_knots c0 c r h2 S
    simp [Hg.isTip] at t1
    cases k <;> simp at t1 <;> simp [step1, b_p_knots, t1, t2, t3, Hg.words, List.count_cons] <;> omega
theorem e_l_renamed (c0 : T f_l_is_tip = some b_l_is_tip) (c : T f_l_renamed = some b_l_renamed) {S : Store} {m : Nat} {kvs : List (L2.Key × D)} (hS : S[m]? = some (.dk kvs)) {f : Int → Int} (t : Tells kvs f) : ∀ (h : Hg) {N : Nat} (_ : h.depth + 3 ≤ N), ev T N f_l_renamed [ofH h, .cell m] S = .ok (ofH (h.ren f)) S
  | .tip d y k, N, hN => by
    obtain ⟨n, rfl, _⟩ := two_up 1 (N := N) (by omega)
    rw [ev_s c]
    have t1 := e_l_is_tip c0 (.tip d y k) (N := n + 1) (by omega) S
    have i1 := in_dk hS k
    simp [Hg.isTip] at t1
    rcases t k with q | ⟨q, e⟩
    · cases d <;> simp at t1 <;> simp [q] at i1 <;> simp [step1, b_l_renamed, t1, i1, hS, q, Hg.ren]
    · cases d <;> simp at t1 <;> simp [q] at i1 <;> simp [step1, b_l_renamed, t1, i1, hS, q, Hg.ren, e]
  | .knot k l r, N, hN => by
    obtain ⟨n, rfl, h1, h2, _⟩ := dl 2 hN (by decide)
    rw [ev_s c]
    have t1 := e_l_is_tip c0 (.knot k l r) (N := n + 1) (by omega) S
    have t2 := e_l_renamed c0 c hS t l h1
    have t3 := e_l_renamed c0 c hS t r h2
    simp [Hg.isTip] at t1
    cases k <;> simp at t1 <;> simp [step1, b_l_renamed, t1, t2, t3, Hg.ren]
theorem count_kw (b : Bool) : ∀ l : List Bool, (l.map kw).count (kw b) = l.count b
  | [] => rfl
  | a :: l => by
    rw [List.map_cons, List.count_cons, List.count_cons, count_kw b l]
    by_cases q : a = b
    · subst q; simp
    · have : ¬ kw a = kw b := fun e => q (kw_inj e)
      simp [q, this]
theorem e_count (S : Store) (l : List Bool) (b : Bool) : oCount S (.lst (l.map fun k => .str (kw k))) [.str (kw b)] = .ok (.int (l.count b : Nat)) S := by
  show (match strsOf (l.map fun k => .str (kw k)) with
    | some ys => R.ok (D.int (ys.count (kw b) : Nat)) S
    | none => .err) = _
  rw [strsOf_map]
  simp only
  rw [count_kw]
theorem e_l_loft_no (c : LoftFns T) (ns : List Int) (first most : Nat) (hm : most ≤ 20) {N : Nat} (hN : 60 ≤ N) (S : Store) : ∃ S' k, ev T N f_l_loft [.scr ns, .int first, .int most, .bl false] S = .ok (.cell k) S' ∧ ∃ a b d e, LAt S' k a b d e (loftL ns first most false) := by
  obtain ⟨S1, k, a, b, d, e, l1, g1, h1, _⟩ := e_loft c ns first most false hm hN S
  exact ⟨S1, k, h1 rfl, a, b, d, e, l1⟩
structure K02Fns (T : Nat → Option Body) : Prop where
  loft : LoftFns T
  p_is_tip : T f_p_is_tip = some b_p_is_tip
  p_tips : T f_p_tips = some b_p_tips
  p_knots : T f_p_knots = some b_p_knots
  p_renamed : T f_p_renamed = some b_p_renamed
  whole : T f_l_whole = some b_l_whole
  hang : T f_l_hang = some b_l_hang
  words : T f_l_words = some b_l_words
  renamed : T f_l_renamed = some b_l_renamed
  law : T f_law_k02 = some b_law_k02
theorem law_k02 (c : K02Fns T) (ns : List Int) {N : Nat} (hN : 100 ≤ N) : ∃ S, ev T N f_law_k02 [.scr ns] [] = .ok (.bl true) S := by
  obtain ⟨n, rfl, _⟩ := two_up 98 (N := N) hN
  rw [ev_s c.law]
  obtain ⟨S1, k, h1, a, b, d, e, l1⟩ := e_l_loft_no c.loft ns 2 14 (by decide) (N := n + 1) (by omega) []
  have h1 : ev T (n + 1) f_l_loft [.scr ns, .int 2, .int 14, .bl false] [] = .ok (.cell k) S1 := h1
  have iv1 := loftL_inv ns 2 14 (by decide) false
  generalize loftL ns 2 14 false = L1 at *
  have t0 : ∀ S (j : Nat), ev T (n + 1) f_l_cell [.scr ns, .int j] S = .ok (.int (cellI ns j)) S := fun S j => e_cell c.loft.stir c.loft.cell ns j (by omega) S
  have t00 : ∀ S, ev T (n + 1) f_l_cell [.scr ns, .int 0] S = .ok (.int (cellI ns 0)) S := fun S => t0 S 0
  have t01 : ∀ S, ev T (n + 1) f_l_cell [.scr ns, .int 1] S = .ok (.int (cellI ns 1)) S := fun S => t0 S 1
  obtain ⟨S, L, l, iv, ne, hrun⟩ : ∃ S L, LAt S k a b d e L ∧ L.Inv 16 ∧ L.hs ≠ [] ∧
      (sIf (m2 (oEq) (m2 oIx (mV 1) (mC (.int 0))) (mN (oLst false) (mNil))) (sDrop (mN (fun S ds => ev T (n + 1) f_l_add_cord ds S) (mCons (mV 1) (mCons (mN (fun S ds => ev T (n + 1) f_l_cell ds S) (mCons (mV 0) (mCons (mC (.int 0)) (mNil)))) (mNil))))) (sNil))
        [some (.scr ns), some (.cell k), none, none, none, none, none, none, none, none, none, none] S1 = .ok (.nx [some (.scr ns), some (.cell k), none, none, none, none, none, none, none, none, none, none]) S := by
    have z := iv1.z
    have mm := iv1.m
    have em := emp_hs l1.ha (iv1.fineL (by omega))
    by_cases he : L1.hs = []
    · obtain ⟨S2, e2, l2, g2⟩ := e_add_cord c.loft l1 iv1.bk (by omega) (by omega) (cellI ns 0) (N := n + 1) (by omega)
      exact ⟨S2, _, l2, (iv1.cord (by omega) _).mono (by omega), by simp [Lo.cord], by simp [l1.hk, em, he, t00, e2]⟩
    · exact ⟨S1, L1, l1, iv1.mono (by omega), he, by simp [l1.hk, em, he]⟩
  obtain ⟨i, hi, ei⟩ := mod_nat (List.length_pos_iff.mpr ne) (cellI ns 0)
  have L0 : 0 < L.hs.length := List.length_pos_iff.mpr ne
  obtain ⟨h, gh⟩ : ∃ h, L.hs[i]? = some h := ⟨_, List.getElem?_eq_getElem hi⟩
  have mh := List.mem_of_getElem? gh
  have fh := iv.fine h mh
  have dh := iv.dep h mh
  have nh := iv.nt h mh
  have q1 := e_l_tips c.loft.is_tip c.loft.tips h (N := n + 1) (by omega) (sz (by omega)) S
  have q2 := e_p_tips c.p_is_tip c.p_tips h (N := n + 1) (by omega) (sz (by omega)) S
  have q3 := e_l_words c.loft.is_tip c.words h (N := n + 1) (by omega) (by omega) S
  have q4 := e_p_knots c.p_is_tip c.p_knots h (N := n + 1) (by omega) S
  have q5 : ∀ (i : Int) S, ev T (n + 1) f_l_whole [.int i] S = .ok (.bl true) S := fun i S => e_l_whole c.whole i (by omega) S
  have q6 := e_count S h.words false
  have q7 := e_count S h.words true
  simp only [kw_t, kw_f] at q6 q7
  have ft : FineL h.tips := fun x hx => ⟨fine_tips fh hx, by obtain ⟨_, _, _, rfl⟩ := tips_tip hx; exact Nat.zero_le _⟩
  have q8 : oNe S (.lst (h.tips.map ofH)) (.lst (h.tips.map ofH)) = .ok (.bl false) S := by
    have ll : Lay (.lst (h.tips.map ofH)) 62 := lay_map (n := 61) fun x hx => (lay_H (ft x hx).1).mono (by have := (ft x hx).2; omega)
    rw [oNe_lay (A := List Hg) (f := fun l => .lst (l.map ofH)) (fun x y => eq_lstF eqF_H x y) (a := h.tips) (b := h.tips) ll ll (by decide) (by decide) (S := S) (d := .lst (h.tips.map ofH)) (e := .lst (h.tips.map ofH)) (by simp) (by simp)]
    simp
  have q9 : ∀ i j : Int, oNe S (.tup [.int i, .int j]) (.tup [.int i, .int j]) = .ok (.bl false) S := fun i j => by
    have ll : Lay (.tup [.int i, .int j]) 1 := lay_tup (n := 0) fun x hx => by
      simp at hx
      rcases hx with rfl | rfl <;> exact lay_int _ _
    rw [oNe_fit (d := .tup [.int i, .int j]) (e := .tup [.int i, .int j]) (by rw [dr_tup]; exact ll.fit (by decide)) (by rw [dr_tup]; exact ll.fit (by decide))]
    simp [eqD_tup, eqA_cons, eqA_nil, eqD_int]
  have cm : mComp false (mCons (mV 4) mNil) itemsA [9] [9] (mC (.bl true)) (mN (fun S ds => ev T (n + 1) f_l_hang ds S) (mCons (mV 9) (mNil)))
      [some (.scr ns), some (.cell k), some (ofH h), some (.lst (h.tips.map ofH)), some (.lst (h.tips.map ofH)), none, none, none, none, none, none, none] S = finL false (h.tips.map fun _ => .bl true) S := by
    rw [comp_map (d := .lst (h.tips.map ofH)) h.tips ofH (fun _ => .bl true) (by simp) (by simp)]
    intro x hx
    have := e_l_hang c.whole c.hang x (N := n + 1) (by have := (ft x hx).2; omega) S
    simp [setAll, wipeE, this]
  have al : ∀ (l : List Hg), oAll S [.lst (l.map fun _ => .bl true)] = .ok (.bl true) S := fun l => by
    have e : boolsOf (l.map fun _ => D.bl true) = some (l.map fun _ => true) := by
      induction l with
      | nil => rfl
      | cons a l ih => simp only [List.map_cons, boolsOf, ih]; rfl
    show (match boolsOf (l.map fun _ => D.bl true) with
      | some bs => R.ok (D.bl (bs.all id)) S
      | none => .err) = _
    rw [e]; simp
  have nu := e_number c.loft.number iv.bk l.he (N := n + 1) (by omega)
  generalize hk : L.bk.num L.bk.n = num at *
  generalize hS2 : S.set e (L.bk.up 1).mo = S2 at *
  -- the names
  have nm0 : NmOk (mergeG [] [((.inl num : L2.Key), D.int 7)]) := by
    show NmOk (putG [] (.inl num : L2.Key) (D.int 7))
    exact NmOk.put (kvs := []) ⟨List.nodup_nil, fun p hp => by cases hp⟩ _ (by decide)
  have len0 : (mergeG [] [((.inl num : L2.Key), D.int 7)]).length ≤ 1 := len_put_le ([] : List (L2.Key × D)) (.inl num) (D.int 7)
  generalize hm0 : mergeG [] [((.inl num : L2.Key), D.int 7)] = kv0 at *
  obtain ⟨o8, o9, kvs, nm, hfor⟩ : ∃ o8 o9 kvs, NmOk kvs ∧ (sFor (mCons (mV 3) (mNil)) itemsE [8, 9] (sIf (m2 (oEq) (m2 (oMod) (m2 (oDiv) (mN (fun S ds => ev T (n + 1) f_l_cell ds S) (mCons (mV 0) (mCons (mC (.int 1)) (mNil)))) (m2 (oAdd false) (mV 8) (mC (.int 1)))) (mC (.int 2))) (mC (.int 0))) (sSub (m2 (oAdd false) (m2 (oMod) (mN (fun S ds => ev T (n + 1) f_l_cell ds S) (mCons (mV 0) (mCons (mC (.int 1)) (mNil)))) (m2 (oPow) (mC (.int 10)) (mC (.int 12)))) (m2 (oMul false) (mC (.int 3)) (mV 8))) (mV 7) (m2 oIx (mV 9) (mC (.int 2)))) (sNil)))
      [some (.scr ns), some (.cell k), some (ofH h), some (.lst (h.tips.map ofH)), some (.lst (h.tips.map ofH)), some (.lst (h.words.map fun k => .str (kw k))), some (.tup [.int (h.words.count false : Nat), .int (h.words.count true : Nat)]), some (.cell S2.length), none, none, none, none] (S2 ++ [.dk kv0])
      = .ok (.nx [some (.scr ns), some (.cell k), some (ofH h), some (.lst (h.tips.map ofH)), some (.lst (h.tips.map ofH)), some (.lst (h.words.map fun k => .str (kw k))), some (.tup [.int (h.words.count false : Nat), .int (h.words.count true : Nat)]), some (.cell S2.length), o8, o9, none, none]) (S2 ++ [.dk kvs]) := by
    rw [for_src (src := [.lst (h.tips.map ofH)]) (its := h.tips.zipIdx.map fun p => [D.int p.2, ofH p.1]) (by simp; rfl) (fun S => by rw [itE_lst, enum_map])]
    generalize hz0 : forV _ _ _ _ _ = zz
    rcases forV_end (inj := fun p : Hg × Nat => [D.int p.2, ofH p.1]) hz0
      (fun i ρ S3 => ∃ o8 o9 kvs, ρ = [some (.scr ns), some (.cell k), some (ofH h), some (.lst (h.tips.map ofH)), some (.lst (h.tips.map ofH)), some (.lst (h.words.map fun k => .str (kw k))), some (.tup [.int (h.words.count false : Nat), .int (h.words.count true : Nat)]), some (.cell S2.length), o8, o9, none, none] ∧ S3 = S2 ++ [.dk kvs] ∧ NmOk kvs ∧ kvs.length ≤ 1 + i)
      (fun _ => False) ⟨none, none, kv0, rfl, rfl, nm0, by omega⟩
      (by
        rintro i x ρ S3 hx ⟨o8, o9, kvs, rfl, rfl, nm, hl⟩
        left
        obtain ⟨hx1, hx2⟩ := zip_at hx
        have il := lt_of_get hx1
        obtain ⟨x, j⟩ := x
        simp only at hx1 hx2
        subst hx2
        obtain ⟨dd, y, m, rfl⟩ := tips_tip (List.mem_of_getElem? hx1)
        have il : j < h.nt := il
        have c1 := cellI_nn ns 1
        generalize hji : (j : Int) = ji at *
        have z1 : 0 < ji + 1 ∧ ji + 1 < 1073741824 := by omega
        have e12 : (10 : Int) ^ 12 = 1000000000000 := by decide
        have e30 : (10 : Int) ^ 30 = 1000000000000000000000000000000 := by decide
        have kz : kvs.length < sizeLine := sz' (by omega)
        have mo : mulOk 3 ji := mulOk_l _ (by decide)
        by_cases q : cellI ns 1 / (ji + 1) % 2 = 0
        · exact ⟨_, S2 ++ [.dk (putG kvs (.inl m) (.int (cellI ns 1 % 1000000000000 + 3 * ji)))], by simp [setAll, t01, q, z1, mo, keyOf, kz, hji]; exact ⟨rfl, rfl⟩, _, _, _, rfl, rfl, nm.put _ (by omega), by have := len_put_le kvs (.inl m : L2.Key) (D.int (cellI ns 1 % 1000000000000 + 3 * ji)); omega⟩
        · exact ⟨_, S2 ++ [.dk kvs], by simp [setAll, t01, q, z1, hji]; exact ⟨rfl, rfl⟩, _, _, _, rfl, rfl, nm, by omega⟩) with ⟨r, S', rfl, o8, o9, kvs, rfl, rfl, nm, _⟩ | z
    · exact ⟨o8, o9, kvs, nm, rfl⟩
    · exact z.elim
  have T7 : (S2 ++ [MO.dk kvs] ++ [.dk kvs])[S2.length]? = some (.dk kvs) := gapp (by simp) _
  have T10 : (S2 ++ [MO.dk kvs] ++ [.dk kvs])[S2.length + 1]? = some (.dk kvs) := by simp
  have r1 := e_p_renamed c.p_is_tip c.p_renamed T7 nm.tells h (N := n + 1) (by omega)
  have r2 := e_l_renamed c.loft.is_tip c.renamed T10 nm.tells h (N := n + 1) (by omega)
  have fr : (h.ren (nmF kvs)).Fine := ren_fine fh fun m hm => nm.bd m hm
  have r3 := e_l_hang c.whole c.hang (h.ren (nmF kvs)) (N := n + 1) (by rw [Hg.depth_ren]; omega) (S2 ++ [MO.dk kvs] ++ [.dk kvs])
  have r4 : oEq (S2 ++ [MO.dk kvs] ++ [.dk kvs]) (ofH (h.ren (nmF kvs))) (ofH (h.ren (nmF kvs))) = .ok (.bl true) (S2 ++ [MO.dk kvs] ++ [.dk kvs]) := by
    rw [oEq_lay eqF_H (lay_H fr) (lay_H fr) (by rw [Hg.depth_ren]; omega) (by rw [Hg.depth_ren]; omega) (deref_H _ _) (deref_H _ _)]; simp
  have r5 : oEqX (S2 ++ [MO.dk kvs] ++ [.dk kvs]) (.cell S2.length) (.cell (S2.length + 1)) = .ok (.bl true) (S2 ++ [MO.dk kvs] ++ [.dk kvs]) := by
    have e1 : dkOf (S2 ++ [MO.dk kvs] ++ [.dk kvs]) (.cell S2.length) = some kvs := by simp [dkOf, T7]
    have e2 : dkOf (S2 ++ [MO.dk kvs] ++ [.dk kvs]) (.cell (S2.length + 1)) = some kvs := by simp [dkOf, T10]
    unfold oEqX dEq
    rw [e1, e2]
    simp [nm.hits]
  have od : oDict (S2 ++ [MO.dk kvs]) [.cell S2.length] = .ok (.cell (S2.length + 1)) (S2 ++ [MO.dk kvs] ++ [.dk kvs]) := by
    show (match (S2 ++ [MO.dk kvs])[S2.length]? with
      | some (.dk kvs') => R.ok (D.cell (S2 ++ [MO.dk kvs]).length) (S2 ++ [MO.dk kvs] ++ [MO.dk kvs'])
      | _ => .err) = _
    have : (S2 ++ [MO.dk kvs])[S2.length]? = some (.dk kvs) := by simp
    rw [this]; simp
  have dsp : ∀ (o2 o3 o4 o5 o6 o7 o8 o9 o10 o11 : Option D), mDisp [(mN (fun S ds => ev T (n + 1) f_l_number ds S) (mCons (m2 oIx (mV 1) (mC (.int 3))) (mNil)), mC (.int 7))] [some (.scr ns), some (.cell k), o2, o3, o4, o5, o6, o7, o8, o9, o10, o11] S = .ok (.cell S2.length) (S2 ++ [.dk (mergeG [] [((.inl num : L2.Key), D.int 7)])]) := fun o2 o3 o4 o5 o6 o7 o8 o9 o10 o11 => by
    have e1 : mN (fun S ds => ev T (n + 1) f_l_number ds S) (mCons (m2 oIx (mV 1) (mC (.int 3))) (mNil)) [some (.scr ns), some (.cell k), o2, o3, o4, o5, o6, o7, o8, o9, o10, o11] S = .ok (.int num) S2 := by
      simp [l.hk, nu]
    unfold mDisp
    simp only [mPairs, e1, nox_ok, bind_ok, x_con, keyPairs, keyOf]
    rfl
  simp [step1, b_law_k02, h1, -x_if]
  rw [hrun]
  simp [l.hk, l.ha, t00, ei, gh, L0, q1, q2, q3, q4, q5, q6, q7, q8, q9, ofL, cm, al, dsp, hm0]
  rw [hfor]
  have fin0 : ∀ S, fin true [] (.ok (.rt (.bl true)) S) = .ok (.bl true) [] := fun S => fin_rtT (by simp) trivial
  simp at od r1 r2 r3 r4 r5
  simp [od, r1, r2, r3, r4, r5, fin0]
end Nl
namespace Nl
open PySem PySem.Spec PyProof.Rows L2 Sm
theorem law_true : ∀ ns : List Int, ns.length ≤ 63 → ∃ S, ev T 200 f_law_k02 [.scr ns] [] = .ok (.bl true) S := fun ns _ =>
  law_k02 ⟨⟨rfl, rfl, rfl, rfl, rfl, rfl, rfl, rfl, rfl, rfl, rfl, rfl, rfl, rfl, rfl, rfl⟩, rfl, rfl, rfl, rfl, rfl, rfl, rfl, rfl, rfl⟩ ns (by decide)
end Nl
namespace Nl
open PySem PySem.Spec PyProof.Rows L2 Sm
def loose0 : List Str := ["is_tip", "tips", "knots", "renamed", "_law_stir", "_law_cell", "_law_cells", "_law_dye", "_law_book", "_law_number", "_law_is_tip", "_law_tips", "_law_mirror", "_law_anew", "_law_add_cord", "_law_tie", "_law_add_knot", "_law_add_splice", "_law_close", "_law_loft", "_law_whole", "_law_hang", "_law_words", "_law_renamed"]
abbrev loose : List Str := loose0
abbrev Rw : PySem.W.OpenRow := PySem.W.OpenLaw.row PySem.Challenge.rw_netloft_k02_tips
abbrev hk : PySem.W.Hook := hookX 6 fa fns ga
def ob (s : PySem.W.SharedT) : AlX := obX 6 fa fns ga (HandSHeadRun.getT s)
theorem ob_eq (s : PySem.W.SharedT) : ob s = hk.obs s.abs := obX_eq (HandSHeadRun.getT_eq s)
theorem run (w : World) : HandSHeadRun.RunEq Rw (PySem.W.view Rw.prog [26]) hk ob 4000 loose w := by
  intro os
  kernel_rfl
end Nl
open PySem PySem.W PySem.Calls PyProof.Rows
set_option maxHeartbeats 8000000 in
theorem PySem.Challenge.cw_netloft_k02_tips_holds : PySem.Challenge.rw_netloft_k02_tips.Holds := by
  w_on; o_law
  refine HandSHeadRun.head_any (r := OpenLaw.row PySem.Challenge.rw_netloft_k02_tips) (q := view (OpenLaw.row PySem.Challenge.rw_netloft_k02_tips).prog [26]) (H := Nl.hk) (ob := Nl.ob) (M := 4000) (loose := Nl.loose) (d := HandSHeadRun.topDef (OpenLaw.row PySem.Challenge.rw_netloft_k02_tips).prog 26) (kwd := []) Nl.ob_eq
    (by kernel_rfl) (fun s => by kernel_rfl) Nl.run (by kernel_rfl) (by kernel_rfl) (by kernel_rfl) (by rfl) (by first | assumption | decide +kernel) (by decide +kernel) ⟨rfl, rfl, rfl, rfl, rfl, by decide +kernel⟩ ?hw ?hc
  case hw => w_witness2
  case hc =>
    refine Sm.walk_ofW (l := PySem.Challenge.rw_netloft_k02_tips) (n := 63) (k := 200) (x := "script") (CX := fun w => L2.CX (PySem.Challenge.rw_netloft_k02_tips).prog w) rfl (by decide) (by kernel_rfl) ⟨rfl, by decide, by decide⟩ ?F Sm.cx_no
    intro w mg fa h Y G hmg0
    obtain ⟨K, KX, c, y⟩ := Y
    have hmg : mg ("law" : PySem.Str) = some (.ref fa) := by
      have e : (HandSHeadRun.topDef (OpenLaw.row PySem.Challenge.rw_netloft_k02_tips).prog 26).name = ("law" : PySem.Str) := by kernel_rfl
      rw [← e]
      exact hmg0
    have e := hmg.symm.trans (He.glo_ok KX G (c.fact 35 (f := .glo "law") rfl))
    cases e
    obtain ⟨fd, F⟩ := c.def_ 24 rfl
    have b := L2.FunD.bindsA (ps := ["script"]) F fun _ _ _ _ _ _ us hl => match us, hl with | [_], _ => rfl
    exact ⟨K, fd, Sm.spOf K (Sm.caK K) (Sm.ev Nl.T 200 Nl.f_law_k02), KX, fun s v => b s [v] rfl, Sm.law_sp (Nl.law_true), fun base X G => Sm.sim_ok (b := Nl.b_law_k02) rfl F Nl.sc_law_k02 rfl rfl (Nl.d_law_k02 (Nl.all c y X G 198) _)⟩
