import PyProof.Rows.All
import Wide.All
import OpenK.AllK
import Wide.FinOn
import HandS.ForMost
import HandS.ForExc
import HandS.Wide
import HandS.CallSlots
import HandS.Flow
import HandS.ExcCtx
import HandS.Deep
import HandS.IsInst
import HandS.More
import HandS.Style
import HandS.SetKeys
import HandS.Defaults
import HandS.Head0
import HandS.Head1
import HandS.Head2
import HandS.HeadEnd
import HandS.HeadHook1
import HandS.HeadHook2
import HandS.SetFor
import PyProof.SeqRoads2
import HandS.ExcIs
import HandS.Conv
import HandS.SortInts
import HandS.Zip
import HandS.Text
import HandS.SortRule
import HandS.HotCalls
import PySem.Challenge.RW_netloft_k16_joined
set_option Elab.async false
set_option maxRecDepth 100000
set_option linter.all false
/-! S1: the abstract world: data D, stores of cells, how they lie in the heap; readings tOf -/
namespace Sm
open PySem PySem.Spec PyProof.Rows L2
inductive D where
  | non | bl (b : Bool) | int (i : Int) | str (x : Str)
  | tup (ds : List D) | lst (ds : List D)
  | obj (c : Nat) (ns : List Str) (ds : List D)
  | cell (n : Nat) | scr (ns : List Int) | exc (c : Nat)
inductive MO where
  | dead | lst (ds : List D) | dk (kvs : List (Key × D)) | dt (kvs : List (List Key × D)) | ins (c : Nat) (ns : List Str) (ds : List D)
  | fk (kvs : List (Key × D)) | ft (kvs : List (List Key × D))
abbrev Store := List MO
/-- where the cells of a store lie; objects that are being made, hidden from all data -/
structure Cells where
  c : List (Option Addr)
  h : List Addr
def CLive (M : Cells) (a : Addr) : Prop := ∃ i : Nat, M.c[i]? = some (some a)
def Live (M : Cells) (a : Addr) : Prop := CLive M a ∨ a ∈ M.h
def Cells.push (M : Cells) (p : Addr) : Cells := ⟨M.c ++ [some p], M.h⟩
def Cells.kill (M : Cells) (n : Nat) : Cells := ⟨M.c.set n none, M.h⟩
def Cells.cut (M : Cells) (n : Nat) : Cells := ⟨M.c.take n, M.h⟩
def Cells.hide (M : Cells) (p : Addr) : Cells := ⟨M.c, p :: M.h⟩
def Cells.as (M : Cells) (l : List Addr) : Cells := ⟨M.c, l⟩
inductive R (A : Type) where
  | ok (a : A) (S : Store) | ex (c : Nat) (S : Store) | err
def R.bind {A B : Type} : R A → (A → Store → R B) → R B
  | .ok a S, f => f a S
  | .ex c S, _ => .ex c S
  | .err, _ => .err
@[simp] theorem bind_ok {A B : Type} (a : A) (S : Store) (f : A → Store → R B) : (R.ok a S).bind f = f a S := rfl
@[simp] theorem bind_ex {A B : Type} (c : Nat) (S : Store) (f : A → Store → R B) : (R.ex c S).bind f = .ex c S := rfl
@[simp] theorem bind_err {A B : Type} (f : A → Store → R B) : (R.err).bind f = .err := rfl
abbrev Env := List (Option D)
abbrev ME := Env → Store → R D
inductive Fl where
  | nx (r : Env) | rt (d : D) | bk (r : Env) | ct (r : Env)
abbrev MS := Env → Store → R Fl
def SqK (K : PySem.W.Frag) (a : Addr) (xs : List V) : Prop :=
  ∃ (o : Obj) (its : Array Value) (n : Nat), K.lookup a = some o ∧ o.cls = .type "list" ∧ o.dict = none ∧ o.data = .seq its n ∧ its.size ≤ sizeLine ∧ Vals xs its.toList
/-! ### how data lie in the abstract heap -/
section
variable (K : PySem.W.Frag) (ca : Nat → Addr) (H : Hp) (M : Cells)
mutual
def Rep : D → V → Prop
  | .non, v => v = .non
  | .bl b, v => v = .bl b
  | .int i, v => v = .int i
  | .str x, v => v = .str x
  | .tup ds, v => ∃ a xs, v = .ref a ∧ H a = some (.tup xs) ∧ ¬ Live M a ∧ RepL ds xs
  | .lst ds, v => ∃ a xs, v = .ref a ∧ H a = some (.lst xs) ∧ ¬ Live M a ∧ xs.length ≤ sizeLine ∧ RepL ds xs
  | .obj c ns ds, v => ∃ a dx fs, v = .ref a ∧ H a = some (.ins (ca c) dx fs) ∧ ¬ Live M a ∧ fs.map (·.1) = ns ∧ RepL ds (fs.map (·.2))
  | .cell n, v => ∃ x, M.c[n]? = some x ∧ ∀ a, x = some a → v = .ref a
  | .scr ns, v => ∃ a, v = .ref a ∧ ((Rd H a (.lst (ns.map V.int)) ∧ ¬ Live M a) ∨ SqK K a (ns.map V.int)) ∧ ns.length ≤ sizeLine
  | .exc _, v => ∃ a, v = .ref a
def RepL : List D → List V → Prop
  | [], [] => True
  | d :: ds, v :: vs => Rep d v ∧ RepL ds vs
  | [], _ :: _ => False
  | _ :: _, [] => False
end
def CellOk (x : Option Addr) : MO → Prop
  | .dead => x = none
  | .lst ds => ∃ a xs, x = some a ∧ H a = some (.lst xs) ∧ xs.length ≤ sizeLine ∧ RepL K ca H M ds xs
  | .dk kvs => ∃ a ys, x = some a ∧ H a = some (.dK ys) ∧ ys.map (·.1) = kvs.map (·.1) ∧ RepL K ca H M (kvs.map (·.2)) (ys.map (·.2))
  | .dt kvs => ∃ a ys, x = some a ∧ H a = some (.dT ys) ∧ ys.map (·.1) = kvs.map (·.1) ∧ RepL K ca H M (kvs.map (·.2)) (ys.map (·.2))
  | .ins c ns ds => ∃ a dx fs, x = some a ∧ H a = some (.ins (ca c) dx fs) ∧ fs.map (·.1) = ns ∧ RepL K ca H M ds (fs.map (·.2))
  | .fk kvs => ∃ a ys od, x = some a ∧ H a = some (.frz od (.dK ys)) ∧ ys.map (·.1) = kvs.map (·.1) ∧ RepL K ca H M (kvs.map (·.2)) (ys.map (·.2))
  | .ft kvs => ∃ a ys od, x = some a ∧ H a = some (.frz od (.dT ys)) ∧ ys.map (·.1) = kvs.map (·.1) ∧ RepL K ca H M (kvs.map (·.2)) (ys.map (·.2))
end
structure RelS (K : PySem.W.Frag) (ca : Nat → Addr) (H : Hp) (M : Cells) (S : Store) : Prop where
  len : M.c.length = S.length
  inj : ∀ (i j : Nat) (a : Addr), M.c[i]? = some (some a) → M.c[j]? = some (some a) → i = j
  cells : ∀ (i : Nat) (mo : MO), S[i]? = some mo → ∃ x, M.c[i]? = some x ∧ CellOk K ca H M x mo
  hid : ∀ a, a ∈ M.h → H a ≠ none ∧ ¬ CLive M a
  hidt : ∀ a, a ∈ M.h → ∀ xs, H a ≠ some (.tup xs)
/-- what may have happened: new cells, dead cells, changed cells, new objects -/
structure Ext (H : Hp) (M : Cells) (H' : Hp) (M' : Cells) : Prop where
  len : M.c.length ≤ M'.c.length
  old : ∀ l : Nat, l < M.c.length → M'.c[l]? = M.c[l]? ∨ M'.c[l]? = some none
  new : ∀ (l : Nat) (a : Addr), M.c.length ≤ l → M'.c[l]? = some (some a) → H a = none
  fr : ∀ b o, H b = some o → ¬ CLive M b → H' b = some o
  on : ∀ b, H b ≠ none → H' b ≠ none
  hid : M'.h = M.h
  fz : ∀ b od u, H b = some (.frz od u) → H' b = some (.frz od u)
theorem Ext.refl (H : Hp) (M : Cells) : Ext H M H M := by
  refine ⟨Nat.le_refl _, fun _ _ => .inl rfl, fun l a h e => ?_, fun _ _ h _ => h, fun _ h => h, rfl, fun _ _ _ h => h⟩
  rw [List.getElem?_eq_none h] at e; cases e
section
variable {K : PySem.W.Frag} {ca : Nat → Addr} {H H' H2 : Hp} {M M' M2 : Cells}
theorem Ext.cdies (e : Ext H M H' M') {a : Addr} (h : CLive M' a) (ha : H a ≠ none) : CLive M a := by
  obtain ⟨l, hl⟩ := h
  by_cases q : l < M.c.length
  · rcases e.old l q with z | z
    · exact ⟨l, by rw [← z]; exact hl⟩
    · rw [z] at hl; cases hl
  · exact absurd (e.new l a (by omega) hl) ha
theorem Ext.dies (e : Ext H M H' M') {a : Addr} (h : Live M' a) (ha : H a ≠ none) : Live M a := by
  rcases h with h | h
  · exact .inl (e.cdies h ha)
  · rw [e.hid] at h; exact .inr h
theorem Ext.trans (e : Ext H M H' M') (f : Ext H' M' H2 M2) : Ext H M H2 M2 := by
  refine ⟨Nat.le_trans e.len f.len, fun l h => ?_, fun l a h q => ?_, fun b o h nl => ?_, fun b h => f.on b (e.on b h), f.hid.trans e.hid, fun b od u h => f.fz b od u (e.fz b od u h)⟩
  · rcases f.old l (Nat.lt_of_lt_of_le h e.len) with z | z
    · rw [z]; exact e.old l h
    · exact .inr z
  · by_cases hl : l < M'.c.length
    · rcases f.old l hl with z | z
      · exact e.new l a h (by rw [← z]; exact q)
      · rw [z] at q; cases q
    · have h1 := f.new l a (by omega) q
      cases h2 : H a with
      | none => rfl
      | some o => exact absurd h1 (e.on a (by rw [h2]; exact fun z => nomatch z))
  · refine f.fr b o (e.fr b o h nl) fun q => nl (e.cdies q (by rw [h]; exact fun z => nomatch z))
theorem live_none (e : Ext H M H' M') {a : Addr} {o : HO} (h : H a = some o) (n : ¬ Live M a) : ¬ Live M' a := fun q => n (e.dies q (by rw [h]; exact fun z => nomatch z))
theorem Ext.fr' (e : Ext H M H' M') {b : Addr} {o : HO} (h : H b = some o) (n : ¬ Live M b) : H' b = some o := e.fr b o h fun q => n (.inl q)
mutual
theorem Rep.ext (e : Ext H M H' M') : ∀ (d : D) (v : V), Rep K ca H M d v → Rep K ca H' M' d v
  | .non, _, h => h
  | .bl _, _, h => h
  | .int _, _, h => h
  | .str _, _, h => h
  | .tup ds, v, h => by
    obtain ⟨a, xs, r, h1, n, q⟩ := h
    exact ⟨a, xs, r, e.fr' h1 n, live_none e h1 n, RepL.ext e ds xs q⟩
  | .lst ds, v, h => by
    obtain ⟨a, xs, r, h1, n, z, q⟩ := h
    exact ⟨a, xs, r, e.fr' h1 n, live_none e h1 n, z, RepL.ext e ds xs q⟩
  | .obj c ns ds, v, h => by
    obtain ⟨a, dx, fs, r, h1, n, z, q⟩ := h
    exact ⟨a, dx, fs, r, e.fr' h1 n, live_none e h1 n, z, RepL.ext e ds _ q⟩
  | .cell n, v, h => by
    obtain ⟨x, hx, q⟩ := h
    have hl : n < M.c.length := (List.getElem?_eq_some_iff.mp hx).1
    rcases e.old n hl with z | z
    · exact ⟨x, z.trans hx, q⟩
    · exact ⟨none, z, fun a y => nomatch y⟩
  | .scr ns, v, h => by
    obtain ⟨a, r, q, z⟩ := h
    refine ⟨a, r, ?_, z⟩
    rcases q with ⟨q, n⟩ | q
    · rcases q with q | ⟨o, q⟩
      · exact .inl ⟨.inl (e.fr' q n), live_none e q n⟩
      · exact .inl ⟨.inr ⟨o, e.fr' q n⟩, live_none e q n⟩
    · exact .inr q
  | .exc _, _, h => h
theorem RepL.ext (e : Ext H M H' M') : ∀ (ds : List D) (vs : List V), RepL K ca H M ds vs → RepL K ca H' M' ds vs
  | [], [], h => h
  | d :: ds, v :: vs, h => ⟨Rep.ext e d v h.1, RepL.ext e ds vs h.2⟩
  | [], _ :: _, h => h.elim
  | _ :: _, [], h => h.elim
end
theorem RepL.length : ∀ {ds : List D} {vs : List V}, RepL K ca H M ds vs → ds.length = vs.length
  | [], [], _ => rfl
  | _ :: _, _ :: _, h => congrArg Nat.succ (RepL.length h.2)
  | [], _ :: _, h => h.elim
  | _ :: _, [], h => h.elim
theorem RepL.get : ∀ {ds : List D} {vs : List V} {i : Nat} {d : D}, RepL K ca H M ds vs → ds[i]? = some d → ∃ v, vs[i]? = some v ∧ Rep K ca H M d v
  | [], [], i, d, _, e => by simp at e
  | d :: ds, v :: vs, 0, x, h, e => by simp at e; subst e; exact ⟨v, rfl, h.1⟩
  | d :: ds, v :: vs, i + 1, x, h, e => by
    obtain ⟨w, hw, q⟩ := RepL.get (i := i) (d := x) h.2 (by simpa using e)
    exact ⟨w, by simpa using hw, q⟩
  | [], _ :: _, _, _, h, _ => h.elim
  | _ :: _, [], _, _, h, _ => h.elim
theorem RepL.app : ∀ {ds es : List D} {vs us : List V}, RepL K ca H M ds vs → RepL K ca H M es us → RepL K ca H M (ds ++ es) (vs ++ us)
  | [], _, [], _, _, q => q
  | _ :: _, _, _ :: _, _, h, q => ⟨h.1, RepL.app h.2 q⟩
  | [], _, _ :: _, _, h, _ => h.elim
  | _ :: _, _, [], _, h, _ => h.elim
theorem RepL.take : ∀ (n : Nat) {ds : List D} {vs : List V}, RepL K ca H M ds vs → RepL K ca H M (ds.take n) (vs.take n)
  | 0, _, _, _ => by simp only [List.take_zero]; exact trivial
  | n + 1, [], [], h => h
  | n + 1, _ :: _, _ :: _, h => ⟨h.1, RepL.take n h.2⟩
  | _ + 1, [], _ :: _, h => h.elim
  | _ + 1, _ :: _, [], h => h.elim
theorem RepL.drop : ∀ (n : Nat) {ds : List D} {vs : List V}, RepL K ca H M ds vs → RepL K ca H M (ds.drop n) (vs.drop n)
  | 0, _, _, h => h
  | n + 1, [], [], h => h
  | n + 1, _ :: _, _ :: _, h => RepL.drop n h.2
  | _ + 1, [], _ :: _, h => h.elim
  | _ + 1, _ :: _, [], h => h.elim
theorem RepL.set : ∀ {ds : List D} {vs : List V} (i : Nat) {d : D} {v : V}, RepL K ca H M ds vs → Rep K ca H M d v → RepL K ca H M (ds.set i d) (vs.set i v)
  | [], [], _, _, _, h, _ => h
  | _ :: _, _ :: _, 0, _, _, h, q => ⟨q, h.2⟩
  | _ :: _, _ :: _, i + 1, _, _, h, q => ⟨h.1, RepL.set i h.2 q⟩
  | [], _ :: _, _, _, _, h, _ => h.elim
  | _ :: _, [], _, _, _, h, _ => h.elim
theorem RepL.one {d : D} {v : V} (h : Rep K ca H M d v) : RepL K ca H M [d] [v] := ⟨h, trivial⟩
theorem RepL.inv1 {d : D} {vs : List V} (h : RepL K ca H M [d] vs) : ∃ v, vs = [v] ∧ Rep K ca H M d v := by
  match vs, h with
  | [v], h => exact ⟨v, rfl, h.1⟩
theorem RepL.inv2 {d e : D} {vs : List V} (h : RepL K ca H M [d, e] vs) : ∃ v u, vs = [v, u] ∧ Rep K ca H M d v ∧ Rep K ca H M e u := by
  match vs, h with
  | [v, u], h => exact ⟨v, u, rfl, h.1, h.2.1⟩
theorem CellOk.ext (e : Ext H M H' M') {x : Option Addr} {mo : MO} (h : CellOk K ca H M x mo) (k : ∀ a, x = some a → H' a = H a) : CellOk K ca H' M' x mo := by
  cases mo with
  | dead => exact h
  | lst ds => obtain ⟨a, xs, r, h1, z, q⟩ := h; exact ⟨a, xs, r, (k a r).trans h1, z, RepL.ext e _ _ q⟩
  | dk kvs => obtain ⟨a, ys, r, h1, z, q⟩ := h; exact ⟨a, ys, r, (k a r).trans h1, z, RepL.ext e _ _ q⟩
  | dt kvs => obtain ⟨a, ys, r, h1, z, q⟩ := h; exact ⟨a, ys, r, (k a r).trans h1, z, RepL.ext e _ _ q⟩
  | ins c ns ds => obtain ⟨a, dx, fs, r, h1, z, q⟩ := h; exact ⟨a, dx, fs, r, (k a r).trans h1, z, RepL.ext e _ _ q⟩
  | fk kvs => obtain ⟨a, ys, od, r, h1, z, q⟩ := h; exact ⟨a, ys, od, r, (k a r).trans h1, z, RepL.ext e _ _ q⟩
  | ft kvs => obtain ⟨a, ys, od, r, h1, z, q⟩ := h; exact ⟨a, ys, od, r, (k a r).trans h1, z, RepL.ext e _ _ q⟩
theorem CellOk.there {x : Option Addr} {mo : MO} {a : Addr} (h : CellOk K ca H M x mo) (e : x = some a) : H a ≠ none := by
  subst e
  cases mo with
  | dead => cases h
  | lst ds => obtain ⟨b, xs, r, h1, _⟩ := h; cases r; rw [h1]; exact fun z => nomatch z
  | dk ds => obtain ⟨b, xs, r, h1, _⟩ := h; cases r; rw [h1]; exact fun z => nomatch z
  | dt ds => obtain ⟨b, xs, r, h1, _⟩ := h; cases r; rw [h1]; exact fun z => nomatch z
  | ins c ns ds => obtain ⟨b, dx, fs, r, h1, _⟩ := h; cases r; rw [h1]; exact fun z => nomatch z
  | fk ds => obtain ⟨b, xs, od, r, h1, _⟩ := h; cases r; rw [h1]; exact fun z => nomatch z
  | ft ds => obtain ⟨b, xs, od, r, h1, _⟩ := h; cases r; rw [h1]; exact fun z => nomatch z
variable {S S' : Store}
theorem RelS.cthere (r : RelS K ca H M S) {a : Addr} (h : CLive M a) : H a ≠ none := by
  obtain ⟨l, hl⟩ := h
  have hi : l < S.length := by rw [← r.len]; exact (List.getElem?_eq_some_iff.mp hl).1
  obtain ⟨x, hx, c⟩ := r.cells l _ (List.getElem?_eq_getElem hi)
  rw [hl] at hx; cases hx
  exact c.there rfl
theorem RelS.there (r : RelS K ca H M S) {a : Addr} (h : Live M a) : H a ≠ none := by
  rcases h with h | h
  · exact r.cthere h
  · exact (r.hid a h).1
theorem RelS.fresh (r : RelS K ca H M S) {p : Addr} (hp : H p = none) : ¬ Live M p := fun q => r.there q hp
theorem upd_on {p : Addr} {o : HO} {b : Addr} (h : H b ≠ none) : upd H p o b ≠ none := by
  by_cases q : b = p
  · subst q; rw [upd_same]; exact fun z => nomatch z
  · rw [upd_ne q]; exact h
/-- a new object that is no cell -/
theorem ext_new {p : Addr} (hp : H p = none) (o : HO) : Ext H M (upd H p o) M := by
  refine ⟨Nat.le_refl _, fun _ _ => .inl rfl, fun l a h e => ?_, fun b u h _ => ?_, fun b h => upd_on h, rfl, fun b od u h => by rw [upd_ne (ne_of_none h hp)]; exact h⟩
  · rw [List.getElem?_eq_none h] at e; cases e
  · rw [upd_ne (ne_of_none h hp)]; exact h
theorem RelS.new (r : RelS K ca H M S) {p : Addr} (hp : H p = none) (o : HO) : RelS K ca (upd H p o) M S := by
  refine ⟨r.len, r.inj, fun i mo h => ?_, fun a h => ⟨upd_on (r.hid a h).1, (r.hid a h).2⟩, fun a h xs => by rw [upd_ne (fun e => (r.hid a h).1 (by rw [e]; exact hp))]; exact r.hidt a h xs⟩
  obtain ⟨x, hx, c⟩ := r.cells i mo h
  refine ⟨x, hx, c.ext (ext_new hp o) fun a e => ?_⟩
  subst e
  exact upd_ne fun q => c.there rfl (by rw [q]; exact hp)
/-- a new cell -/
theorem ext_cell {p : Addr} (hp : H p = none) (o : HO) : Ext H M (upd H p o) (M.push p) := by
  have e := ext_new (M := M) hp o
  refine ⟨by simp [Cells.push], fun l h => .inl (List.getElem?_append_left h), fun l a h q => ?_, e.fr, e.on, rfl, e.fz⟩
  have q : (M.c ++ [some p])[l]? = some (some a) := q
  rw [List.getElem?_append_right h] at q
  cases k : l - M.c.length with
  | zero => rw [k] at q; simp at q; rw [← q]; exact hp
  | succ n => rw [k] at q; simp at q
theorem RelS.cell (r : RelS K ca H M S) {p : Addr} (hp : H p = none) (o : HO) {mo : MO} (c : CellOk K ca (upd H p o) (M.push p) (some p) mo) : RelS K ca (upd H p o) (M.push p) (S ++ [mo]) := by
  have nl := r.fresh hp
  refine ⟨by simp [Cells.push, r.len], fun i j a h1 h2 => ?_, fun i mo' h => ?_, fun a h => ⟨upd_on (r.hid a h).1, ?_⟩, fun a h xs => by rw [upd_ne (fun e => (r.hid a h).1 (by rw [e]; exact hp))]; exact r.hidt a h xs⟩
  · have h1 : (M.c ++ [some p])[i]? = some (some a) := h1
    have h2 : (M.c ++ [some p])[j]? = some (some a) := h2
    by_cases hi : i < M.c.length
    · rw [List.getElem?_append_left hi] at h1
      by_cases hj : j < M.c.length
      · rw [List.getElem?_append_left hj] at h2; exact r.inj i j a h1 h2
      · rw [List.getElem?_append_right (by omega)] at h2
        cases k : j - M.c.length with
        | zero => rw [k] at h2; simp at h2; subst h2; exact absurd (.inl ⟨i, h1⟩) nl
        | succ n => rw [k] at h2; simp at h2
    · rw [List.getElem?_append_right (by omega)] at h1
      cases k : i - M.c.length with
      | succ n => rw [k] at h1; simp at h1
      | zero =>
        rw [k] at h1; simp at h1; subst h1
        by_cases hj : j < M.c.length
        · rw [List.getElem?_append_left hj] at h2; exact absurd (.inl ⟨j, h2⟩) nl
        · rw [List.getElem?_append_right (by omega)] at h2
          cases k2 : j - M.c.length with
          | zero => omega
          | succ n => rw [k2] at h2; simp at h2
  · show ∃ x, (M.c ++ [some p])[i]? = some x ∧ _
    by_cases hi : i < S.length
    · rw [List.getElem?_append_left hi] at h
      obtain ⟨x, hx, q⟩ := r.cells i mo' h
      refine ⟨x, by rw [List.getElem?_append_left (by rw [r.len]; exact hi)]; exact hx, q.ext (ext_cell hp o) fun a e => ?_⟩
      subst e
      exact upd_ne fun z => q.there rfl (by rw [z]; exact hp)
    · rw [List.getElem?_append_right (by omega)] at h
      cases k : i - S.length with
      | succ n => rw [k] at h; simp at h
      | zero =>
        rw [k] at h; simp at h; subst h
        exact ⟨some p, by rw [List.getElem?_append_right (by rw [r.len]; omega), r.len, k]; rfl, c⟩
  · rintro ⟨i, q⟩
    have q : (M.c ++ [some p])[i]? = some (some a) := q
    by_cases hi : i < M.c.length
    · rw [List.getElem?_append_left hi] at q
      exact (r.hid a h).2 ⟨i, q⟩
    · rw [List.getElem?_append_right (by omega)] at q
      cases k : i - M.c.length with
      | succ n => rw [k] at q; simp at q
      | zero => rw [k] at q; simp at q; subst q; exact (r.hid _ h).1 hp
/-- a cell is written -/
def WLive (H : Hp) (M : Cells) (a : Addr) : Prop := CLive M a ∧ ∀ od u, H a ≠ some (.frz od u)
theorem ext_write {a : Addr} (l : WLive H M a) (o : HO) : Ext H M (upd H a o) M := by
  have ha := l.1
  refine ⟨Nat.le_refl _, fun _ _ => .inl rfl, fun l b h e => ?_, fun b u h n => ?_, fun b h => upd_on h, rfl, fun b od u h => by rw [upd_ne (fun q => l.2 od u (by rw [← q]; exact h))]; exact h⟩
  · rw [List.getElem?_eq_none h] at e; cases e
  · rw [upd_ne (fun q => n (by rw [q]; exact ha))]; exact h
theorem RelS.write (r : RelS K ca H M S) {n : Nat} {a : Addr} (ha : M.c[n]? = some (some a)) (hz : ∀ od u, H a ≠ some (.frz od u)) (o : HO) {mo : MO} (c : CellOk K ca (upd H a o) M (some a) mo) : RelS K ca (upd H a o) M (S.set n mo) := by
  refine ⟨by simp [r.len], r.inj, fun i mo' h => ?_, fun a h => ⟨upd_on (r.hid a h).1, (r.hid a h).2⟩, fun b h xs => by rw [upd_ne (fun e => (r.hid b h).2 (by rw [e]; exact ⟨n, ha⟩))]; exact r.hidt b h xs⟩
  by_cases hi : i = n
  · subst hi
    rw [List.getElem?_set] at h
    simp at h
    obtain ⟨_, h⟩ := h
    subst h
    exact ⟨_, ha, c⟩
  · rw [List.getElem?_set_ne (fun z => hi z.symm)] at h
    obtain ⟨x, hx, q⟩ := r.cells i mo' h
    refine ⟨x, hx, q.ext (ext_write ⟨⟨n, ha⟩, hz⟩ o) fun b e => ?_⟩
    subst e
    exact upd_ne fun z => hi (r.inj i n a (by rw [← z]; exact hx) ha)
/-- a cell of the store and its object -/
theorem RelS.lst (r : RelS K ca H M S) {n : Nat} {ds : List D} (h : S[n]? = some (.lst ds)) : ∃ a xs, M.c[n]? = some (some a) ∧ H a = some (.lst xs) ∧ xs.length ≤ sizeLine ∧ RepL K ca H M ds xs := by
  obtain ⟨x, hx, a, xs, e, q⟩ := r.cells n _ h
  subst e
  exact ⟨a, xs, hx, q⟩
/-- a cell dies: its list is data from now on -/
theorem ext_die {n : Nat} : Ext H M H (M.kill n) := by
  refine ⟨by simp [Cells.kill], fun l h => ?_, fun l a h e => ?_, fun _ _ h _ => h, fun _ h => h, rfl, fun _ _ _ h => h⟩
  · show (M.c.set n none)[l]? = _ ∨ (M.c.set n none)[l]? = _
    by_cases q : l = n
    · subst q; right; rw [List.getElem?_set]; simp [h]
    · left; rw [List.getElem?_set_ne (fun z => q z.symm)]
  · rw [List.getElem?_eq_none (by simpa [Cells.kill] using h)] at e; cases e
theorem kill_get {n k : Nat} {a : Addr} (q : (M.kill n).c[k]? = some (some a)) : M.c[k]? = some (some a) := by
  have q : (M.c.set n none)[k]? = some (some a) := q
  by_cases z : k = n
  · subst z; rw [List.getElem?_set] at q; simp at q
  · rw [List.getElem?_set_ne (fun y => z y.symm)] at q; exact q
theorem RelS.die (r : RelS K ca H M S) {n : Nat} : RelS K ca H (M.kill n) (S.set n .dead) := by
  refine ⟨by simp [Cells.kill, r.len], fun i j a h1 h2 => r.inj i j a (kill_get h1) (kill_get h2), fun i mo h => ?_, fun a h => ⟨(r.hid a h).1, fun ⟨i, q⟩ => (r.hid a h).2 ⟨i, kill_get q⟩⟩, r.hidt⟩
  show ∃ x, (M.c.set n none)[i]? = some x ∧ _
  by_cases z : i = n
  · subst z
    rw [List.getElem?_set] at h
    simp at h
    obtain ⟨hl, h⟩ := h
    subst h
    exact ⟨none, by rw [List.getElem?_set]; simp [r.len, hl], rfl⟩
  · rw [List.getElem?_set_ne (fun y => z y.symm)] at h
    obtain ⟨x, hx, c⟩ := r.cells i mo h
    exact ⟨x, by rw [List.getElem?_set_ne (fun y => z y.symm)]; exact hx, c.ext ext_die fun _ _ => rfl⟩
theorem notLive_die (r : RelS K ca H M S) {n : Nat} {a : Addr} (h : M.c[n]? = some (some a)) : ¬ Live (M.kill n) a := by
  rintro (⟨i, q⟩ | q)
  · have q : (M.c.set n none)[i]? = some (some a) := q
    by_cases z : i = n
    · subst z; rw [List.getElem?_set] at q; simp at q
    · rw [List.getElem?_set_ne (fun y => z y.symm)] at q
      exact z (r.inj i n a q h)
  · exact (r.hid a q).2 ⟨n, h⟩
/-! ### an object that is being made is hidden -/
theorem live_hide {p a : Addr} (n : ¬ Live M a) (h : a ≠ p) : ¬ Live (M.hide p) a := by
  rintro (q | q)
  · exact n (.inl q)
  · rcases List.mem_cons.mp q with z | z
    · exact h z
    · exact n (.inr z)
theorem live_as {l : List Addr} {a : Addr} (hl : ∀ b, b ∈ l → b ∈ M.h) (n : ¬ Live M a) : ¬ Live (M.as l) a := by
  rintro (q | q)
  · exact n (.inl q)
  · exact n (.inr (hl _ q))
mutual
theorem Rep.hide {p : Addr} (hp : H p = none) (o : HO) : ∀ (d : D) (v : V), Rep K ca H M d v → Rep K ca (upd H p o) (M.hide p) d v
  | .non, _, h => h
  | .bl _, _, h => h
  | .int _, _, h => h
  | .str _, _, h => h
  | .tup ds, v, h => by
    obtain ⟨a, xs, r, h1, n, q⟩ := h
    have ne := ne_of_none h1 hp
    exact ⟨a, xs, r, by rw [upd_ne ne]; exact h1, live_hide n ne, RepL.hide hp o ds xs q⟩
  | .lst ds, v, h => by
    obtain ⟨a, xs, r, h1, n, z, q⟩ := h
    have ne := ne_of_none h1 hp
    exact ⟨a, xs, r, by rw [upd_ne ne]; exact h1, live_hide n ne, z, RepL.hide hp o ds xs q⟩
  | .obj c ns ds, v, h => by
    obtain ⟨a, dx, fs, r, h1, n, z, q⟩ := h
    have ne := ne_of_none h1 hp
    exact ⟨a, dx, fs, r, by rw [upd_ne ne]; exact h1, live_hide n ne, z, RepL.hide hp o ds _ q⟩
  | .cell n, v, h => h
  | .scr ns, v, h => by
    obtain ⟨a, r, q, z⟩ := h
    refine ⟨a, r, ?_, z⟩
    rcases q with ⟨q, n⟩ | q
    · rcases q with q | ⟨o', q⟩
      · have ne := ne_of_none q hp
        exact .inl ⟨.inl (by rw [upd_ne ne]; exact q), live_hide n ne⟩
      · have ne := ne_of_none q hp
        exact .inl ⟨.inr ⟨o', by rw [upd_ne ne]; exact q⟩, live_hide n ne⟩
    · exact .inr q
  | .exc _, _, h => h
theorem RepL.hide {p : Addr} (hp : H p = none) (o : HO) : ∀ (ds : List D) (vs : List V), RepL K ca H M ds vs → RepL K ca (upd H p o) (M.hide p) ds vs
  | [], [], h => h
  | d :: ds, v :: vs, h => ⟨Rep.hide hp o d v h.1, RepL.hide hp o ds vs h.2⟩
  | [], _ :: _, h => h.elim
  | _ :: _, [], h => h.elim
end
mutual
theorem Rep.rehide {p : Addr} (hp : p ∈ M.h) (o : HO) : ∀ (d : D) (v : V), Rep K ca H M d v → Rep K ca (upd H p o) M d v
  | .non, _, h => h
  | .bl _, _, h => h
  | .int _, _, h => h
  | .str _, _, h => h
  | .tup ds, v, h => by
    obtain ⟨a, xs, r, h1, n, q⟩ := h
    have ne : a ≠ p := fun e => n (.inr (by rw [e]; exact hp))
    exact ⟨a, xs, r, by rw [upd_ne ne]; exact h1, n, RepL.rehide hp o ds xs q⟩
  | .lst ds, v, h => by
    obtain ⟨a, xs, r, h1, n, z, q⟩ := h
    have ne : a ≠ p := fun e => n (.inr (by rw [e]; exact hp))
    exact ⟨a, xs, r, by rw [upd_ne ne]; exact h1, n, z, RepL.rehide hp o ds xs q⟩
  | .obj c ns ds, v, h => by
    obtain ⟨a, dx, fs, r, h1, n, z, q⟩ := h
    have ne : a ≠ p := fun e => n (.inr (by rw [e]; exact hp))
    exact ⟨a, dx, fs, r, by rw [upd_ne ne]; exact h1, n, z, RepL.rehide hp o ds _ q⟩
  | .cell n, v, h => h
  | .scr ns, v, h => by
    obtain ⟨a, r, q, z⟩ := h
    refine ⟨a, r, ?_, z⟩
    rcases q with ⟨q, n⟩ | q
    · have ne : a ≠ p := fun e => n (.inr (by rw [e]; exact hp))
      rcases q with q | ⟨o', q⟩
      · exact .inl ⟨.inl (by rw [upd_ne ne]; exact q), n⟩
      · exact .inl ⟨.inr ⟨o', by rw [upd_ne ne]; exact q⟩, n⟩
    · exact .inr q
  | .exc _, _, h => h
theorem RepL.rehide {p : Addr} (hp : p ∈ M.h) (o : HO) : ∀ (ds : List D) (vs : List V), RepL K ca H M ds vs → RepL K ca (upd H p o) M ds vs
  | [], [], h => h
  | d :: ds, v :: vs, h => ⟨Rep.rehide hp o d v h.1, RepL.rehide hp o ds vs h.2⟩
  | [], _ :: _, h => h.elim
  | _ :: _, [], h => h.elim
end
mutual
theorem Rep.as {l : List Addr} (hl : ∀ b, b ∈ l → b ∈ M.h) : ∀ (d : D) (v : V), Rep K ca H M d v → Rep K ca H (M.as l) d v
  | .non, _, h => h
  | .bl _, _, h => h
  | .int _, _, h => h
  | .str _, _, h => h
  | .tup ds, v, h => by
    obtain ⟨a, xs, r, h1, n, q⟩ := h
    exact ⟨a, xs, r, h1, live_as hl n, RepL.as hl ds xs q⟩
  | .lst ds, v, h => by
    obtain ⟨a, xs, r, h1, n, z, q⟩ := h
    exact ⟨a, xs, r, h1, live_as hl n, z, RepL.as hl ds xs q⟩
  | .obj c ns ds, v, h => by
    obtain ⟨a, dx, fs, r, h1, n, z, q⟩ := h
    exact ⟨a, dx, fs, r, h1, live_as hl n, z, RepL.as hl ds _ q⟩
  | .cell n, v, h => h
  | .scr ns, v, h => by
    obtain ⟨a, r, q, z⟩ := h
    exact ⟨a, r, q.imp (fun p => ⟨p.1, live_as hl p.2⟩) id, z⟩
  | .exc _, _, h => h
theorem RepL.as {l : List Addr} (hl : ∀ b, b ∈ l → b ∈ M.h) : ∀ (ds : List D) (vs : List V), RepL K ca H M ds vs → RepL K ca H (M.as l) ds vs
  | [], [], h => h
  | d :: ds, v :: vs, h => ⟨Rep.as hl d v h.1, RepL.as hl ds vs h.2⟩
  | [], _ :: _, h => h.elim
  | _ :: _, [], h => h.elim
end
theorem CellOk.map {f : Hp} {M2 : Cells} {x : Option Addr} {mo : MO} (h : CellOk K ca H M x mo) (hr : ∀ ds vs, RepL K ca H M ds vs → RepL K ca f M2 ds vs) (k : ∀ a, x = some a → f a = H a) : CellOk K ca f M2 x mo := by
  cases mo with
  | dead => exact h
  | lst ds => obtain ⟨a, xs, r, h1, z, q⟩ := h; exact ⟨a, xs, r, (k a r).trans h1, z, hr _ _ q⟩
  | dk kvs => obtain ⟨a, ys, r, h1, z, q⟩ := h; exact ⟨a, ys, r, (k a r).trans h1, z, hr _ _ q⟩
  | dt kvs => obtain ⟨a, ys, r, h1, z, q⟩ := h; exact ⟨a, ys, r, (k a r).trans h1, z, hr _ _ q⟩
  | ins c ns ds => obtain ⟨a, dx, fs, r, h1, z, q⟩ := h; exact ⟨a, dx, fs, r, (k a r).trans h1, z, hr _ _ q⟩
  | fk kvs => obtain ⟨a, ys, od, r, h1, z, q⟩ := h; exact ⟨a, ys, od, r, (k a r).trans h1, z, hr _ _ q⟩
  | ft kvs => obtain ⟨a, ys, od, r, h1, z, q⟩ := h; exact ⟨a, ys, od, r, (k a r).trans h1, z, hr _ _ q⟩
theorem RelS.hide (r : RelS K ca H M S) {p : Addr} (hp : H p = none) (o : HO) (ho : ∀ xs, o ≠ .tup xs := by intro xs h; cases h) : RelS K ca (upd H p o) (M.hide p) S := by
  refine ⟨r.len, r.inj, fun i mo h => ?_, fun a h => ?_, fun a h xs => ?_⟩
  · obtain ⟨x, hx, c⟩ := r.cells i mo h
    refine ⟨x, hx, c.map (fun ds vs => RepL.hide hp o ds vs) fun a e => ?_⟩
    subst e
    exact upd_ne fun q => c.there rfl (by rw [q]; exact hp)
  · rcases List.mem_cons.mp h with z | z
    · subst z
      exact ⟨(by rw [upd_same]; exact Option.some_ne_none _), fun q => r.cthere q hp⟩
    · exact ⟨upd_on (r.hid a z).1, (r.hid a z).2⟩
  · rcases List.mem_cons.mp h with z | z
    · subst z; rw [upd_same]; exact fun e => ho xs (Option.some.inj e)
    · rw [upd_ne (fun e => (r.hid a z).1 (by rw [e]; exact hp))]; exact r.hidt a z xs
theorem RelS.rehide (r : RelS K ca H M S) {p : Addr} (hp : p ∈ M.h) (o : HO) (ho : ∀ xs, o ≠ .tup xs := by intro xs h; cases h) : RelS K ca (upd H p o) M S := by
  refine ⟨r.len, r.inj, fun i mo h => ?_, fun a h => ⟨upd_on (r.hid a h).1, (r.hid a h).2⟩, fun a h xs => by
    by_cases e : a = p
    · subst e; rw [upd_same]; exact fun z => ho xs (Option.some.inj z)
    · rw [upd_ne e]; exact r.hidt a h xs⟩
  obtain ⟨x, hx, c⟩ := r.cells i mo h
  refine ⟨x, hx, c.map (fun ds vs => RepL.rehide hp o ds vs) fun a e => ?_⟩
  subst e
  exact upd_ne fun q => (r.hid p hp).2 ⟨i, by rw [← q]; exact hx⟩
theorem RelS.as (r : RelS K ca H M S) {l : List Addr} (hl : ∀ b, b ∈ l → b ∈ M.h) : RelS K ca H (M.as l) S := by
  refine ⟨r.len, r.inj, fun i mo h => ?_, fun a h => r.hid a (hl a h), fun a h => r.hidt a (hl a h)⟩
  obtain ⟨x, hx, c⟩ := r.cells i mo h
  exact ⟨x, hx, c.map (fun ds vs => RepL.as hl ds vs) fun a e => rfl⟩
theorem Ext.as (e : Ext H M H' M') (l : List Addr) : Ext H (M.as l) H' (M'.as l) := ⟨e.len, e.old, e.new, e.fr, e.on, rfl, e.fz⟩
theorem Ext.over (e : Ext H M H' M') {p : Addr} (hp : H p = none) (o : HO) : Ext H M (upd H' p o) M' :=
  ⟨e.len, e.old, e.new, fun b u h n => by rw [upd_ne (ne_of_none h hp)]; exact e.fr b u h n, fun b h => upd_on (e.on b h), e.hid, fun b od u h => by rw [upd_ne (ne_of_none h hp)]; exact e.fz b od u h⟩
/-! ### the cells in a datum -/
mutual
def Cl (n : Nat) : D → Prop
  | .tup ds => ClL n ds
  | .lst ds => ClL n ds
  | .obj _ _ ds => ClL n ds
  | .cell m => m < n
  | _ => True
def ClL (n : Nat) : List D → Prop
  | [] => True
  | d :: ds => Cl n d ∧ ClL n ds
end
mutual
theorem Rep.cl : ∀ (d : D) (v : V), Rep K ca H M d v → Cl M.c.length d
  | .non, _, _ => trivial
  | .bl _, _, _ => trivial
  | .int _, _, _ => trivial
  | .str _, _, _ => trivial
  | .tup ds, v, h => by obtain ⟨a, xs, _, _, _, q⟩ := h; exact RepL.cl ds xs q
  | .lst ds, v, h => by obtain ⟨a, xs, _, _, _, _, q⟩ := h; exact RepL.cl ds xs q
  | .obj c ns ds, v, h => by obtain ⟨a, dx, fs, _, _, _, _, q⟩ := h; exact RepL.cl ds _ q
  | .cell n, v, h => by obtain ⟨x, hx, q⟩ := h; exact (List.getElem?_eq_some_iff.mp hx).1
  | .scr _, _, _ => trivial
  | .exc _, _, _ => trivial
theorem RepL.cl : ∀ (ds : List D) (vs : List V), RepL K ca H M ds vs → ClL M.c.length ds
  | [], [], _ => trivial
  | d :: ds, v :: vs, h => ⟨Rep.cl d v h.1, RepL.cl ds vs h.2⟩
  | [], _ :: _, h => h.elim
  | _ :: _, [], h => h.elim
end
theorem live_take {n : Nat} {a : Addr} (h : Live (M.cut n) a) : Live M a := by
  rcases h with ⟨i, q⟩ | q
  · have q : (M.c.take n)[i]? = some (some a) := q
    rw [List.getElem?_take] at q
    split at q
    · exact .inl ⟨i, q⟩
    · cases q
  · exact .inr q
mutual
theorem Rep.take {n : Nat} : ∀ (d : D) (v : V), Cl n d → Rep K ca H M d v → Rep K ca H (M.cut n) d v
  | .non, _, _, h => h
  | .bl _, _, _, h => h
  | .int _, _, _, h => h
  | .str _, _, _, h => h
  | .tup ds, v, c, h => by
    obtain ⟨a, xs, r, h1, nl, q⟩ := h
    exact ⟨a, xs, r, h1, fun z => nl (live_take z), RepL.take' ds xs c q⟩
  | .lst ds, v, c, h => by
    obtain ⟨a, xs, r, h1, nl, z, q⟩ := h
    exact ⟨a, xs, r, h1, fun z => nl (live_take z), z, RepL.take' ds xs c q⟩
  | .obj k ns ds, v, c, h => by
    obtain ⟨a, dx, fs, r, h1, nl, z, q⟩ := h
    exact ⟨a, dx, fs, r, h1, fun z => nl (live_take z), z, RepL.take' ds _ c q⟩
  | .cell m, v, c, h => by
    obtain ⟨x, hx, q⟩ := h
    exact ⟨x, by show (M.c.take n)[m]? = _; rw [List.getElem?_take, if_pos (show m < n from c)]; exact hx, q⟩
  | .scr ns, v, c, h => by
    obtain ⟨a, r, q, z⟩ := h
    exact ⟨a, r, q.imp (fun p => ⟨p.1, fun y => p.2 (live_take y)⟩) id, z⟩
  | .exc _, _, _, h => h
theorem RepL.take' {n : Nat} : ∀ (ds : List D) (vs : List V), ClL n ds → RepL K ca H M ds vs → RepL K ca H (M.cut n) ds vs
  | [], [], _, h => h
  | d :: ds, v :: vs, c, h => ⟨Rep.take d v c.1 h.1, RepL.take' ds vs c.2 h.2⟩
  | [], _ :: _, _, h => h.elim
  | _ :: _, [], _, h => h.elim
end
def ClM (n : Nat) : MO → Prop
  | .dead => True
  | .lst ds => ClL n ds
  | .dk kvs => ClL n (kvs.map (·.2))
  | .dt kvs => ClL n (kvs.map (·.2))
  | .ins _ _ ds => ClL n ds
  | .fk kvs => ClL n (kvs.map (·.2))
  | .ft kvs => ClL n (kvs.map (·.2))
theorem CellOk.cl {x : Option Addr} {mo : MO} (h : CellOk K ca H M x mo) : ClM M.c.length mo := by
  cases mo with
  | dead => trivial
  | lst ds => obtain ⟨a, xs, r, h1, z, q⟩ := h; exact RepL.cl _ _ q
  | dk kvs => obtain ⟨a, ys, r, h1, z, q⟩ := h; exact RepL.cl _ _ q
  | dt kvs => obtain ⟨a, ys, r, h1, z, q⟩ := h; exact RepL.cl _ _ q
  | ins c ns ds => obtain ⟨a, dx, fs, r, h1, z, q⟩ := h; exact RepL.cl _ _ q
  | fk ds => obtain ⟨a, ys, od, r, h1, z, q⟩ := h; exact RepL.cl _ _ q
  | ft ds => obtain ⟨a, ys, od, r, h1, z, q⟩ := h; exact RepL.cl _ _ q
theorem CellOk.take {n : Nat} {x : Option Addr} {mo : MO} (c : ClM n mo) (h : CellOk K ca H M x mo) : CellOk K ca H (M.cut n) x mo := by
  cases mo with
  | dead => exact h
  | lst ds => obtain ⟨a, xs, r, h1, z, q⟩ := h; exact ⟨a, xs, r, h1, z, RepL.take' _ _ c q⟩
  | dk kvs => obtain ⟨a, ys, r, h1, z, q⟩ := h; exact ⟨a, ys, r, h1, z, RepL.take' _ _ c q⟩
  | dt kvs => obtain ⟨a, ys, r, h1, z, q⟩ := h; exact ⟨a, ys, r, h1, z, RepL.take' _ _ c q⟩
  | ins k ns ds => obtain ⟨a, dx, fs, r, h1, z, q⟩ := h; exact ⟨a, dx, fs, r, h1, z, RepL.take' _ _ c q⟩
  | fk ds => obtain ⟨a, ys, od, r, h1, z, q⟩ := h; exact ⟨a, ys, od, r, h1, z, RepL.take' _ _ c q⟩
  | ft ds => obtain ⟨a, ys, od, r, h1, z, q⟩ := h; exact ⟨a, ys, od, r, h1, z, RepL.take' _ _ c q⟩
/-- the new cells are forgotten; the old ones stand as they stood -/
theorem cells_same (e : Ext H M H' M') (r : RelS K ca H M S) (r' : RelS K ca H' M' S') (hs : S'.take S.length = S) : M = M'.cut M.c.length := by
  have hc : M.c = M'.c.take M.c.length := by
    apply List.ext_getElem?
    intro i
    rw [List.getElem?_take]
    split
    · next hi =>
      rcases e.old i hi with z | z
      · exact z.symm
      · have hS : i < S.length := by rw [← r.len]; exact hi
        have hS' : S'[i]? = S[i]? := by
          conv => rhs; rw [← hs]
          rw [List.getElem?_take, if_pos hS]
        obtain ⟨x, hx, c⟩ := r.cells i _ (List.getElem?_eq_getElem hS)
        obtain ⟨x', hx', c'⟩ := r'.cells i S[i] (by rw [hS']; exact List.getElem?_eq_getElem hS)
        rw [z] at hx'; cases hx'
        have : S[i] = .dead := by
          cases q : S[i] with
          | dead => rfl
          | lst ds => rw [q] at c'; obtain ⟨_, _, y, _⟩ := c'; cases y
          | dk ds => rw [q] at c'; obtain ⟨_, _, y, _⟩ := c'; cases y
          | dt ds => rw [q] at c'; obtain ⟨_, _, y, _⟩ := c'; cases y
          | ins k ns ds => rw [q] at c'; obtain ⟨_, _, _, y, _⟩ := c'; cases y
          | fk ds => rw [q] at c'; obtain ⟨_, _, _, y, _⟩ := c'; cases y
          | ft ds => rw [q] at c'; obtain ⟨_, _, _, y, _⟩ := c'; cases y
        rw [this] at c
        have c : x = none := c
        rw [z, hx, c]
    · next hi => exact List.getElem?_eq_none (by omega)
  cases M with
  | mk mc mh =>
    have hh : M'.h = mh := e.hid
    show (⟨mc, mh⟩ : Cells) = ⟨M'.c.take mc.length, M'.h⟩
    rw [hh]
    have hc : mc = M'.c.take mc.length := hc
    rw [← hc]
theorem forget (e : Ext H M H' M') (r : RelS K ca H M S) (r' : RelS K ca H' M' S') (hs : S'.take S.length = S) : Ext H M H' M ∧ RelS K ca H' M S := by
  have hM := cells_same e r r' hs
  refine ⟨⟨Nat.le_refl _, fun _ _ => .inl rfl, fun l a h q => ?_, e.fr, e.on, rfl, e.fz⟩, r.len, r.inj, fun i mo h => ?_, fun a h => ⟨e.on a (r.hid a h).1, (r.hid a h).2⟩, fun a h xs => by
    obtain ⟨h1, h2⟩ := r.hid a h
    cases q : H a with
    | none => exact absurd q h1
    | some o => rw [e.fr a o q h2, ← q]; exact r.hidt a h xs⟩
  · rw [List.getElem?_eq_none h] at q; cases q
  · have hi : i < S.length := (List.getElem?_eq_some_iff.mp h).1
    have hS' : S'[i]? = some mo := by
      rw [← h]; conv => rhs; rw [← hs]
      rw [List.getElem?_take, if_pos hi]
    obtain ⟨x, hx, c⟩ := r.cells i mo h
    obtain ⟨x', hx', c'⟩ := r'.cells i mo hS'
    refine ⟨x', ?_, ?_⟩
    · rw [hM]
      show (M'.c.take M.c.length)[i]? = _
      rw [List.getElem?_take, if_pos (by rw [r.len]; exact hi)]; exact hx'
    · have := c'.take (n := M.c.length) c.cl
      rw [← hM] at this
      exact this
theorem forget_rep (e : Ext H M H' M') (r : RelS K ca H M S) (r' : RelS K ca H' M' S') (hs : S'.take S.length = S) {d : D} {v : V} (c : Cl M.c.length d) (h : Rep K ca H' M' d v) : Rep K ca H' M d v := by
  have hM := cells_same e r r' hs
  have := Rep.take (n := M.c.length) d v c h
  rw [← hM] at this
  exact this
end
end Sm
/-! S2: readings of the abstract world: expressions, tests, statements -/
namespace Sm
open PySem PySem.Spec PyProof.Rows L2
section
variable (K : PySem.W.Frag) (ca : Nat → Addr)
def REnv (H : Hp) (M : Cells) : Env → L2.St → Prop
  | [], [] => True
  | none :: r, _ :: s => REnv H M r s
  | some d :: r, some v :: s => Rep K ca H M d v ∧ REnv H M r s
  | _, _ => False
abbrev XW := Value → Option Addr → Hp → Prop
/-- what is wanted of an outcome -/
def Post {A B : Type} (rp : Hp → Cells → A → B → Prop) (H : Hp) (M : Cells) (Q : B → Hp → Prop) (W : XW) : R A → Prop
  | .ok a S' => ∀ b M' H', Ext H M H' M' → RelS K ca H' M' S' → rp H' M' a b → Q b H'
  | .ex c S' => ∀ M' H', Ext H M H' M' → RelS K ca H' M' S' → W (.ref (ca c)) none H'
  | .err => False
abbrev rD (H : Hp) (M : Cells) (d : D) (v : V) : Prop := Rep K ca H M d v
abbrev rL (H : Hp) (M : Cells) (d : List D) (v : List V) : Prop := RepL K ca H M d v
abbrev rB (_ : Hp) (_ : Cells) (d v : Bool) : Prop := v = d
def tOf (W : WX) (m : ME) : TE := fun σ H Q => ∃ ρ M S, REnv K ca H M ρ σ ∧ RelS K ca H M S ∧ Post K ca (rD K ca) H M Q (fun c d H' => W c d σ H') (m ρ S)
def tOfA (W : WX) (m : Env → Store → R (List D)) : TA := fun σ H Q => ∃ ρ M S, REnv K ca H M ρ σ ∧ RelS K ca H M S ∧ Post K ca (rL K ca) H M Q (fun c d H' => W c d σ H') (m ρ S)
def asB : D → Store → R Bool
  | .bl b, S => .ok b S
  | _, _ => .err
def tOfT (W : WX) (m : ME) : TT := fun σ H Q => ∃ ρ M S, REnv K ca H M ρ σ ∧ RelS K ca H M S ∧ Post K ca rB H M Q (fun c d H' => W c d σ H') ((m ρ S).bind asB)
def PostS (H : Hp) (M : Cells) (D : Ends) (W : XW) : R Fl → Prop
  | .ok (.nx r) S' => ∀ σ' M' H', Ext H M H' M' → RelS K ca H' M' S' → REnv K ca H' M' r σ' → D.nx σ' H'
  | .ok (.bk r) S' => ∀ σ' M' H', Ext H M H' M' → RelS K ca H' M' S' → REnv K ca H' M' r σ' → D.bk σ' H'
  | .ok (.ct r) S' => ∀ σ' M' H', Ext H M H' M' → RelS K ca H' M' S' → REnv K ca H' M' r σ' → D.ct σ' H'
  | .ok (.rt d) S' => ∀ v M' H', Ext H M H' M' → RelS K ca H' M' S' → Rep K ca H' M' d v → D.rt v H'
  | .ex c S' => ∀ M' H', Ext H M H' M' → RelS K ca H' M' S' → W (.ref (ca c)) none H'
  | .err => False
def tSOf (W : XW) (m : MS) : TS := fun D σ H => ∃ ρ M S, REnv K ca H M ρ σ ∧ RelS K ca H M S ∧ PostS K ca H M D W (m ρ S)
end
section
variable {K : PySem.W.Frag} {ca : Nat → Addr} {H H' H1 : Hp} {M M' M1 : Cells} {S : Store}
theorem REnv.ext (e : Ext H M H' M') : ∀ {r : Env} {s : L2.St}, REnv K ca H M r s → REnv K ca H' M' r s
  | [], [], h => h
  | none :: r, _ :: s, h => REnv.ext (r := r) (s := s) e h
  | some d :: r, some v :: s, h => ⟨Rep.ext e d v h.1, REnv.ext (r := r) (s := s) e h.2⟩
  | [], _ :: _, h => h.elim
  | some _ :: _, none :: _, h => h.elim
  | none :: _, [], h => h.elim
  | some _ :: _, [], h => h.elim
theorem REnv.set : ∀ {r : Env} {s : L2.St} (i : Nat) {d : D} {v : V}, REnv K ca H M r s → Rep K ca H M d v → REnv K ca H M (r.set i (some d)) (s.set i (some v))
  | [], [], _, _, _, h, _ => h
  | none :: r, _ :: s, 0, _, _, h, q => ⟨q, h⟩
  | some _ :: r, some _ :: s, 0, _, _, h, q => ⟨q, h.2⟩
  | none :: r, _ :: s, i + 1, _, _, h, q => REnv.set (r := r) (s := s) i h q
  | some _ :: r, some _ :: s, i + 1, _, _, h, q => ⟨h.1, REnv.set (r := r) (s := s) i h.2 q⟩
  | [], _ :: _, _, _, _, h, _ => h.elim
  | some _ :: _, none :: _, _, _, _, h, _ => h.elim
  | none :: _, [], _, _, _, h, _ => h.elim
  | some _ :: _, [], _, _, _, h, _ => h.elim
theorem REnv.get : ∀ {r : Env} {s : L2.St} {i : Nat} {d : D}, REnv K ca H M r s → r[i]? = some (some d) → ∃ v, s[i]? = some (some v) ∧ Rep K ca H M d v
  | [], [], _, _, _, e => by simp at e
  | none :: r, x :: s, 0, _, h, e => by simp at e
  | some d :: r, some v :: s, 0, _, h, e => by simp at e; subst e; exact ⟨v, rfl, h.1⟩
  | none :: r, x :: s, i + 1, d, h, e => by
    obtain ⟨v, h1, h2⟩ := REnv.get (r := r) (s := s) (i := i) h (by simpa using e)
    exact ⟨v, by simpa using h1, h2⟩
  | some _ :: r, some _ :: s, i + 1, d, h, e => by
    obtain ⟨v, h1, h2⟩ := REnv.get (r := r) (s := s) (i := i) h.2 (by simpa using e)
    exact ⟨v, by simpa using h1, h2⟩
  | [], _ :: _, _, _, h, _ => h.elim
  | some _ :: _, none :: _, _, _, h, _ => h.elim
  | none :: _, [], _, _, h, _ => h.elim
  | some _ :: _, [], _, _, h, _ => h.elim
theorem REnv.length : ∀ {r : Env} {s : L2.St}, REnv K ca H M r s → r.length = s.length
  | [], [], h => rfl
  | none :: r, x :: s, h => congrArg Nat.succ (REnv.length (r := r) (s := s) h)
  | some _ :: r, some _ :: s, h => congrArg Nat.succ (REnv.length (r := r) (s := s) h.2)
  | [], _ :: _, h => h.elim
  | some _ :: _, none :: _, h => h.elim
  | none :: _, [], h => h.elim
  | some _ :: _, [], h => h.elim
theorem Post.mono {A B : Type} {rp : Hp → Cells → A → B → Prop} {Q Q' : B → Hp → Prop} {W : XW} {r : R A} (h : Post K ca rp H M Q W r) (q : ∀ b H', Q b H' → Q' b H') : Post K ca rp H M Q' W r := by
  cases r with
  | ok a S' => exact fun b M' H' e s p => q _ _ (h b M' H' e s p)
  | ex c S' => exact h
  | err => exact h
theorem Post.up {A B : Type} {rp : Hp → Cells → A → B → Prop} {Q : B → Hp → Prop} {W : XW} {r : R A} (e : Ext H M H1 M1) (h : Post K ca rp H M Q W r) : Post K ca rp H1 M1 Q W r := by
  cases r with
  | ok a S' => exact fun b M' H' e' s p => h b M' H' (e.trans e') s p
  | ex c S' => exact fun M' H' e' s => h M' H' (e.trans e') s
  | err => exact h
theorem PostS.up {D : Ends} {W : XW} {r : R Fl} (e : Ext H M H1 M1) (h : PostS K ca H M D W r) : PostS K ca H1 M1 D W r := by
  cases r with
  | ok a S' =>
    cases a with
    | nx r => exact fun b M' H' e' s p => h b M' H' (e.trans e') s p
    | bk r => exact fun b M' H' e' s p => h b M' H' (e.trans e') s p
    | ct r => exact fun b M' H' e' s p => h b M' H' (e.trans e') s p
    | rt r => exact fun b M' H' e' s p => h b M' H' (e.trans e') s p
  | ex c S' => exact fun M' H' e' s => h M' H' (e.trans e') s
  | err => exact h
theorem post_bind {A B A' B' : Type} {rp : Hp → Cells → A → B → Prop} {rp' : Hp → Cells → A' → B' → Prop} {Q : B' → Hp → Prop} {W : XW} {r : R A} {k : A → Store → R A'} (h : Post K ca rp' H M Q W (r.bind k)) :
    Post K ca rp H M (fun x H1 => ∃ M1 S1 d, Ext H M H1 M1 ∧ RelS K ca H1 M1 S1 ∧ rp H1 M1 d x ∧ Post K ca rp' H1 M1 Q W (k d S1)) W r := by
  cases r with
  | ok a S' => exact fun b M' H' e s p => ⟨M', S', a, e, s, p, h.up e⟩
  | ex c S' => exact h
  | err => exact h
theorem post_bindS {A B : Type} {rp : Hp → Cells → A → B → Prop} {D : Ends} {W : XW} {r : R A} {k : A → Store → R Fl} (h : PostS K ca H M D W (r.bind k)) :
    Post K ca rp H M (fun x H1 => ∃ M1 S1 d, Ext H M H1 M1 ∧ RelS K ca H1 M1 S1 ∧ rp H1 M1 d x ∧ PostS K ca H1 M1 D W (k d S1)) W r := by
  cases r with
  | ok a S' => exact fun b M' H' e s p => ⟨M', S', a, e, s, p, h.up e⟩
  | ex c S' => exact h
  | err => exact h
end
theorem weakE {X : Cx} {e : Expr} {t t' : TE} (h : PE X e t) (w : ∀ σ H Q, t' σ H Q → t σ H Q) : PE X e t' := ⟨fun pins s σ H Q I q => h.run pins s σ H Q I (w σ H Q q)⟩
theorem weakT {X : Cx} {e : Expr} {t t' : TT} (h : PT X e t) (w : ∀ σ H Q, t' σ H Q → t σ H Q) : PT X e t' := ⟨fun pins s σ H Q I q => h.run pins s σ H Q I (w σ H Q q)⟩
theorem weakW {X : Cx} {e : Expr} {t t' : TT} (h : PW X e t) (w : ∀ σ H Q, t' σ H Q → t σ H Q) : PW X e t' := ⟨fun wh pins s σ H Q I q => h.run wh pins s σ H Q I (w σ H Q q)⟩
theorem weakA {X : Cx} {e : List Expr} {t t' : TA} (h : PA X e t) (w : ∀ σ H Q, t' σ H Q → t σ H Q) : PA X e t' := ⟨fun p pins s σ H Q I q => h.run p pins s σ H Q I (w σ H Q q)⟩
theorem weakS {X : Cx} {e : Stmt} {t t' : TS} (h : PS X e t) (w : ∀ D σ H, t' D σ H → t D σ H) : PS X e t' := ⟨fun pins s σ H D I q => h.run pins s σ H D I (w D σ H q)⟩
theorem weakSs {X : Cx} {e : List Stmt} {t t' : TS} (h : PSs X e t) (w : ∀ D σ H, t' D σ H → t D σ H) : PSs X e t' := ⟨fun pins s σ H D I q => h.run pins s σ H D I (w D σ H q)⟩
/-! ### expressions: names, constants, operations -/
section
variable {X : Cx} {ca : Nat → Addr} {W : WX}
def mV (i : Nat) : ME := fun ρ S => match ρ[i]? with
  | some (some d) => .ok d S
  | _ => .err
def mC (d : D) : ME := fun _ S => .ok d S
def m1 (f : Store → D → R D) (a : ME) : ME := fun ρ S => (a ρ S).bind fun d S1 => f S1 d
def m2 (f : Store → D → D → R D) (a b : ME) : ME := fun ρ S => (a ρ S).bind fun d S1 => (b ρ S1).bind fun e S2 => f S2 d e
def mNil : Env → Store → R (List D) := fun _ S => .ok [] S
def mCons (a : ME) (b : Env → Store → R (List D)) : Env → Store → R (List D) := fun ρ S => (a ρ S).bind fun d S1 => (b ρ S1).bind fun ds S2 => .ok (d :: ds) S2
def mN (f : Store → List D → R D) (a : Env → Store → R (List D)) : ME := fun ρ S => (a ρ S).bind fun ds S1 => f S1 ds
def Sound1 (K : PySem.W.Frag) (ca : Nat → Addr) (r : V → Hp → VK → Prop) (f : Store → D → R D) : Prop :=
  ∀ H M S x d Q W, RelS K ca H M S → Rep K ca H M d x → Post K ca (rD K ca) H M Q W (f S d) → r x H Q
def Sound2 (K : PySem.W.Frag) (ca : Nat → Addr) (r : R2) (f : Store → D → D → R D) : Prop :=
  ∀ H M S x y d e Q W, RelS K ca H M S → Rep K ca H M d x → Rep K ca H M e y → Post K ca (rD K ca) H M Q W (f S d e) → r x y H Q
def SoundN (K : PySem.W.Frag) (ca : Nat → Addr) (r : List V → Hp → VK → Prop) (f : Store → List D → R D) : Prop :=
  ∀ H M S xs ds Q W, RelS K ca H M S → RepL K ca H M ds xs → Post K ca (rD K ca) H M Q W (f S ds) → r xs H Q
theorem q_var (i : Nat) {x : Str} {pos : Pos} (h : PE X (.Name x pos) (tVar i)) : PE X (.Name x pos) (tOf X.K ca W (mV i)) := weakE h fun σ H Q => by
  rintro ⟨ρ, M, S, re, rs, p⟩
  unfold mV at p
  split at p
  · next d e =>
    obtain ⟨v, hv, q⟩ := re.get e
    exact ⟨v, hv, p v M H (Ext.refl _ _) rs q⟩
  · exact p.elim
theorem q_const {e : Expr} {d : D} {v : V} (h : PE X e (tC v)) (r : ∀ H M, Rep X.K ca H M d v) : PE X e (tOf X.K ca W (mC d)) := weakE h fun σ H Q => by
  rintro ⟨ρ, M, S, re, rs, p⟩
  exact p v M H (Ext.refl _ _) rs (r H M)
theorem q_int {i j pos} : PE X (.Constant (.int i) j pos) (tOf X.K ca W (mC (.int i))) := q_const pe_int fun _ _ => rfl
theorem q_bl {i j pos} : PE X (.Constant (.bool i) j pos) (tOf X.K ca W (mC (.bl i))) := q_const pe_bl fun _ _ => rfl
theorem q_non {j pos} : PE X (.Constant .none j pos) (tOf X.K ca W (mC .non)) := q_const pe_non fun _ _ => rfl
theorem q_str {x j pos} : PE X (.Constant (.str x) j pos) (tOf X.K ca W (mC (.str x))) := q_const pe_str fun _ _ => rfl
theorem two_of {ma mb : ME} {r : R2} {f : Store → D → D → R D} (s : Sound2 X.K ca r f) (σ : L2.St) (H : Hp) (Q : VK) : tOf X.K ca W (m2 f ma mb) σ H Q → tOp r (tOf X.K ca W ma) (tOf X.K ca W mb) σ H Q := by
  rintro ⟨ρ, M, S, re, rs, p⟩
  refine ⟨ρ, M, S, re, rs, (post_bind p).mono ?_⟩
  rintro x H1 ⟨M1, S1, d, e1, rs1, r1, p1⟩
  refine ⟨ρ, M1, S1, re.ext e1, rs1, (post_bind p1).mono ?_⟩
  rintro y H2 ⟨M2, S2, e, e2, rs2, r2, p2⟩
  exact s H2 M2 S2 x y d e Q _ rs2 (Rep.ext e2 _ _ r1) r2 p2
theorem one_of {ma : ME} {r : V → Hp → VK → Prop} {f : Store → D → R D} (s : Sound1 X.K ca r f) (σ : L2.St) (H : Hp) (Q : VK) : tOf X.K ca W (m1 f ma) σ H Q → tUn r (tOf X.K ca W ma) σ H Q := by
  rintro ⟨ρ, M, S, re, rs, p⟩
  refine ⟨ρ, M, S, re, rs, (post_bind p).mono ?_⟩
  rintro x H1 ⟨M1, S1, d, e1, rs1, r1, p1⟩
  exact s H1 M1 S1 x d Q _ rs1 r1 p1
theorem q_op {op : Operator} {a b : Expr} {pos : Pos} {ma mb : ME} {r : R2} {f : Store → D → D → R D} (ho : OpR X (binaryOp op) r) (s : Sound2 X.K ca r f) (ha : PE X a (tOf X.K ca W ma)) (hb : PE X b (tOf X.K ca W mb)) :
    PE X (.BinOp a op b pos) (tOf X.K ca W (m2 f ma mb)) := weakE (pe_op ho ha hb) (two_of s)
theorem q_un {op : UnaryOp} {a : Expr} {pos : Pos} {ma : ME} {r : V → Hp → VK → Prop} {f : Store → D → R D} (ho : UnR X (unaryOp op) r) (s : Sound1 X.K ca r f) (ha : PE X a (tOf X.K ca W ma)) :
    PE X (.UnaryOp op a pos) (tOf X.K ca W (m1 f ma)) := weakE (pe_un ho ha) (one_of s)
theorem q_cmp {op : CmpOp} {a b : Expr} {pos : Pos} {ma mb : ME} {r : R2} {f : Store → D → D → R D} (ho : OpR X (compareOp op) r) (s : Sound2 X.K ca r f) (ha : PE X a (tOf X.K ca W ma)) (hb : PE X b (tOf X.K ca W mb)) (hm : behindInMarks op b = false) :
    PE X (.Compare a [op] [b] pos) (tOf X.K ca W (m2 f ma mb)) := weakE (pe_cmpR ho ha hb hm) (two_of s)
theorem q_ix {a b : Expr} {pos : Pos} {ma mb : ME} {r : R2} {f : Store → D → D → R D} (ho : IxR X r) (s : Sound2 X.K ca r f) (ha : PE X a (tOf X.K ca W ma)) (hb : PE X b (tOf X.K ca W mb)) (hs : PlainIx b) :
    PE X (.Subscript a b pos) (tOf X.K ca W (m2 f ma mb)) := weakE (pe_ix ho ha hb hs) (two_of s)
/-! arguments -/
theorem qa_nil : PA X [] (tOfA X.K ca W mNil) := weakA pa_nil fun σ H Q => by
  rintro ⟨ρ, M, S, re, rs, p⟩
  exact p [] M H (Ext.refl _ _) rs trivial
theorem qa_cons {e : Expr} {es : List Expr} {ma : ME} {ms : Env → Store → R (List D)} (ha : PE X e (tOf X.K ca W ma)) (hr : PA X es (tOfA X.K ca W ms)) (hs : starEach (e :: es) X.env = (false, eval e X.env) :: starEach es X.env := by rfl) :
    PA X (e :: es) (tOfA X.K ca W (mCons ma ms)) := weakA (pa_cons ha hr hs) fun σ H Q => by
  rintro ⟨ρ, M, S, re, rs, p⟩
  refine ⟨ρ, M, S, re, rs, (post_bind p).mono ?_⟩
  rintro x H1 ⟨M1, S1, d, e1, rs1, r1, p1⟩
  refine ⟨ρ, M1, S1, re.ext e1, rs1, (post_bind p1).mono ?_⟩
  rintro y H2 ⟨M2, S2, e, e2, rs2, r2, p2⟩
  exact p2 _ M2 H2 (Ext.refl _ _) rs2 ⟨Rep.ext e2 _ _ r1, r2⟩
theorem n_of {ms : Env → Store → R (List D)} {r : List V → Hp → VK → Prop} {f : Store → List D → R D} (s : SoundN X.K ca r f) (σ : L2.St) (H : Hp) (Q : VK) : tOf X.K ca W (mN f ms) σ H Q → tCB r (tOfA X.K ca W ms) σ H Q := by
  rintro ⟨ρ, M, S, re, rs, p⟩
  refine ⟨ρ, M, S, re, rs, (post_bind p).mono ?_⟩
  rintro x H1 ⟨M1, S1, d, e1, rs1, r1, p1⟩
  exact s H1 M1 S1 x d Q _ rs1 r1 p1
/-! ### tests -/
theorem t_of {ma : ME} (σ : L2.St) (H : Hp) (Q : Bool → Hp → Prop) : tOfT X.K ca W ma σ H Q → tOf X.K ca W ma σ H (fun x H' => ∃ k, x = .bl k ∧ Q k H') := by
  rintro ⟨ρ, M, S, re, rs, p⟩
  refine ⟨ρ, M, S, re, rs, (post_bind p).mono ?_⟩
  rintro x H1 ⟨M1, S1, d, e1, rs1, r1, p1⟩
  cases d <;> first | exact p1.elim | skip
  next b => exact ⟨b, r1, p1 b M1 H1 (Ext.refl _ _) rs1 rfl⟩
theorem qt_val {e : Expr} {ma : ME} (h : PE X e (tOf X.K ca W ma)) (he : ∀ whole, isTrue e X.env whole = (do let v ← whole; standAt e.pos; holding [v] (truthy v)) := by intro _; rfl) : PT X e (tOfT X.K ca W ma) :=
  weakT (pt_val h he) t_of
theorem qt_cmp {op : CmpOp} {a b : Expr} {pos : Pos} {ma mb : ME} {r : R2} {f : Store → D → D → R D} (ho : OpR X (compareOp op) r) (s : Sound2 X.K ca r f) (ha : PE X a (tOf X.K ca W ma)) (hb : PE X b (tOf X.K ca W mb)) (hm : behindInMarks op b = false) :
    PT X (.Compare a [op] [b] pos) (tOfT X.K ca W (m2 f ma mb)) := weakT (pt_cmpR ho ha hb hm) fun σ H Q q => two_of s σ H _ (t_of σ H Q q)
def mNot (a : ME) : ME := fun ρ S => (a ρ S).bind fun d S1 => match d with
  | .bl b => .ok (.bl (!b)) S1
  | _ => .err
def mAnd (a b : ME) : ME := fun ρ S => (a ρ S).bind fun d S1 => match d with
  | .bl true => b ρ S1
  | .bl false => .ok (.bl false) S1
  | _ => .err
def mOr (a b : ME) : ME := fun ρ S => (a ρ S).bind fun d S1 => match d with
  | .bl false => b ρ S1
  | .bl true => .ok (.bl true) S1
  | _ => .err
def mIf (c a b : ME) : ME := fun ρ S => (c ρ S).bind fun d S1 => match d with
  | .bl true => a ρ S1
  | .bl false => b ρ S1
  | _ => .err
theorem qt_not {a : Expr} {pos : Pos} {ma : ME} (ha : PT X a (tOfT X.K ca W ma)) : PT X (.UnaryOp .Not a pos) (tOfT X.K ca W (mNot ma)) := weakT (pt_not ha) fun σ H Q => by
  rintro ⟨ρ, M, S, re, rs, p⟩
  refine ⟨ρ, M, S, re, rs, ?_⟩
  unfold mNot at p
  cases q : ma ρ S with
  | ok d S' =>
    rw [q] at p
    cases d <;> first | exact p.elim | skip
    next b => exact fun b' M' H' e rs' hb => p (!b') M' H' e rs' (by rw [hb])
  | ex c S' => rw [q] at p; exact p
  | err => rw [q] at p; exact p
theorem qw_and1 {a : Expr} {pos : Pos} {ma : ME} (ha : PT X a (tOfT X.K ca W ma)) : PW X (.BoolOp .And [a] pos) (tOfT X.K ca W ma) := pw_and1 ha
theorem qw_or1 {a : Expr} {pos : Pos} {ma : ME} (ha : PT X a (tOfT X.K ca W ma)) : PW X (.BoolOp .Or [a] pos) (tOfT X.K ca W ma) := pw_or1 ha
theorem and_of {ma mb : ME} (σ : L2.St) (H : Hp) (Q : Bool → Hp → Prop) : tOfT X.K ca W (mAnd ma mb) σ H Q → tAnd (tOfT X.K ca W ma) (tOfT X.K ca W mb) σ H Q := by
  rintro ⟨ρ, M, S, re, rs, p⟩
  refine ⟨ρ, M, S, re, rs, ?_⟩
  unfold mAnd at p
  cases q : ma ρ S with
  | ok d S' =>
    rw [q] at p
    cases d <;> first | exact p.elim | skip
    next b =>
      cases b with
      | true =>
        intro b' M' H' e rs' hb
        subst hb
        show tOfT X.K ca W mb σ H' Q
        exact ⟨ρ, M', S', re.ext e, rs', p.up e⟩
      | false =>
        intro b' M' H' e rs' hb
        subst hb
        exact p false M' H' e rs' rfl
  | ex c S' => rw [q] at p; exact p
  | err => rw [q] at p; exact p
theorem or_of {ma mb : ME} (σ : L2.St) (H : Hp) (Q : Bool → Hp → Prop) : tOfT X.K ca W (mOr ma mb) σ H Q → tOr (tOfT X.K ca W ma) (tOfT X.K ca W mb) σ H Q := by
  rintro ⟨ρ, M, S, re, rs, p⟩
  refine ⟨ρ, M, S, re, rs, ?_⟩
  unfold mOr at p
  cases q : ma ρ S with
  | ok d S' =>
    rw [q] at p
    cases d <;> first | exact p.elim | skip
    next b =>
      cases b with
      | false =>
        intro b' M' H' e rs' hb
        subst hb
        show tOfT X.K ca W mb σ H' Q
        exact ⟨ρ, M', S', re.ext e, rs', p.up e⟩
      | true =>
        intro b' M' H' e rs' hb
        subst hb
        exact p true M' H' e rs' rfl
  | ex c S' => rw [q] at p; exact p
  | err => rw [q] at p; exact p
theorem qw_and {a b : Expr} {rest : List Expr} {pos : Pos} {ma mb : ME} (ha : PT X a (tOfT X.K ca W ma)) (hb : PW X (.BoolOp .And (b :: rest) pos) (tOfT X.K ca W mb)) : PW X (.BoolOp .And (a :: b :: rest) pos) (tOfT X.K ca W (mAnd ma mb)) :=
  weakW (pw_and ha hb) and_of
theorem qw_or {a b : Expr} {rest : List Expr} {pos : Pos} {ma mb : ME} (ha : PT X a (tOfT X.K ca W ma)) (hb : PW X (.BoolOp .Or (b :: rest) pos) (tOfT X.K ca W mb)) : PW X (.BoolOp .Or (a :: b :: rest) pos) (tOfT X.K ca W (mOr ma mb)) :=
  weakW (pw_or ha hb) or_of
/-- as values -/
theorem q_one {op : BoolOp} {a : Expr} {pos : Pos} {ma : ME} (ha : PE X a (tOf X.K ca W ma)) : PE X (.BoolOp op [a] pos) (tOf X.K ca W ma) := pe_one ha
theorem q_and {a b : Expr} {rest : List Expr} {pos : Pos} {ma mb : ME} (ha : PE X a (tOf X.K ca W ma)) (hb : PE X (.BoolOp .And (b :: rest) pos) (tOf X.K ca W mb)) : PE X (.BoolOp .And (a :: b :: rest) pos) (tOf X.K ca W (mAnd ma mb)) :=
  weakE (pe_and ha hb) fun σ H Q => by
    rintro ⟨ρ, M, S, re, rs, p⟩
    refine ⟨ρ, M, S, re, rs, (post_bind p).mono ?_⟩
    rintro x H1 ⟨M1, S1, d, e1, rs1, r1, p1⟩
    cases d <;> first | exact p1.elim | skip
    next b =>
      refine ⟨b, r1, ?_⟩
      cases b with
      | true => exact ⟨ρ, M1, S1, re.ext e1, rs1, p1⟩
      | false => exact p1 _ M1 H1 (Ext.refl _ _) rs1 rfl
theorem q_or {a b : Expr} {rest : List Expr} {pos : Pos} {ma mb : ME} (ha : PE X a (tOf X.K ca W ma)) (hb : PE X (.BoolOp .Or (b :: rest) pos) (tOf X.K ca W mb)) : PE X (.BoolOp .Or (a :: b :: rest) pos) (tOf X.K ca W (mOr ma mb)) :=
  weakE (pe_or ha hb) fun σ H Q => by
    rintro ⟨ρ, M, S, re, rs, p⟩
    refine ⟨ρ, M, S, re, rs, (post_bind p).mono ?_⟩
    rintro x H1 ⟨M1, S1, d, e1, rs1, r1, p1⟩
    cases d <;> first | exact p1.elim | skip
    next b =>
      refine ⟨b, r1, ?_⟩
      cases b with
      | false => exact ⟨ρ, M1, S1, re.ext e1, rs1, p1⟩
      | true => exact p1 _ M1 H1 (Ext.refl _ _) rs1 rfl
theorem q_not {a : Expr} {pos : Pos} {ma : ME} (ha : PE X a (tOf X.K ca W ma)) : PE X (.UnaryOp .Not a pos) (tOf X.K ca W (mNot ma)) := weakE (pe_not ha) fun σ H Q => by
  rintro ⟨ρ, M, S, re, rs, p⟩
  refine ⟨ρ, M, S, re, rs, (post_bind p).mono ?_⟩
  rintro x H1 ⟨M1, S1, d, e1, rs1, r1, p1⟩
  cases d <;> first | exact p1.elim | skip
  next b => exact ⟨b, r1, p1 _ M1 H1 (Ext.refl _ _) rs1 rfl⟩
theorem q_ifExp {c a b : Expr} {pos : Pos} {mc ma mb : ME} (hc : PT X c (tOfT X.K ca W mc)) (ha : PE X a (tOf X.K ca W ma)) (hb : PE X b (tOf X.K ca W mb)) : PE X (.IfExp c a b pos) (tOf X.K ca W (mIf mc ma mb)) :=
  weakE (pe_ifExp hc ha hb) fun σ H Q => by
    rintro ⟨ρ, M, S, re, rs, p⟩
    refine ⟨ρ, M, S, re, rs, ?_⟩
    unfold mIf at p
    cases q : mc ρ S with
    | ok d S' =>
      rw [q] at p
      cases d <;> first | exact p.elim | skip
      next b =>
        cases b with
        | true =>
          intro b' M' H' e rs' hb
          subst hb
          show tOf X.K ca W ma σ H' Q
          exact ⟨ρ, M', S', re.ext e, rs', p.up e⟩
        | false =>
          intro b' M' H' e rs' hb
          subst hb
          show tOf X.K ca W mb σ H' Q
          exact ⟨ρ, M', S', re.ext e, rs', p.up e⟩
    | ex c S' => rw [q] at p; exact p
    | err => rw [q] at p; exact p
end
/-! ### statements -/
section
variable {X : Cx} {ca : Nat → Addr} {W : XW}
abbrev wx (W : XW) : WX := fun c d _ H => W c d H
def sSeq (a b : MS) : MS := fun ρ S => match a ρ S with
  | .ok (.nx r) S1 => b r S1
  | r => r
def sNil : MS := fun ρ S => .ok (.nx ρ) S
def sIf (c : ME) (a b : MS) : MS := fun ρ S => (c ρ S).bind fun d S1 => match d with
  | .bl true => a ρ S1
  | .bl false => b ρ S1
  | _ => .err
def sAsg (i : Nat) (a : ME) : MS := fun ρ S => (a ρ S).bind fun d S1 => .ok (.nx (ρ.set i (some d))) S1
def sRet (a : ME) : MS := fun ρ S => (a ρ S).bind fun d S1 => .ok (.rt d) S1
def sRetN : MS := fun ρ S => .ok (.rt .non) S
def sDrop (a : ME) : MS := fun ρ S => (a ρ S).bind fun _ S1 => .ok (.nx ρ) S1
def sBrk : MS := fun ρ S => .ok (.bk ρ) S
def sCt : MS := fun ρ S => .ok (.ct ρ) S
theorem qs_seq {st : Stmt} {rest : List Stmt} {a b : MS} (h1 : PS X st (tSOf X.K ca W a)) (h2 : PSs X rest (tSOf X.K ca W b)) : PSs X (st :: rest) (tSOf X.K ca W (sSeq a b)) := weakSs (pss_cons h1 h2) fun D σ H => by
  rintro ⟨ρ, M, S, re, rs, p⟩
  refine ⟨ρ, M, S, re, rs, ?_⟩
  unfold sSeq at p
  cases q : a ρ S with
  | ok f S' =>
    rw [q] at p
    cases f with
    | nx r => exact fun σ' M' H' e rs' re' => ⟨r, M', S', re', rs', p.up e⟩
    | rt d => exact p
    | bk r => exact p
    | ct r => exact p
  | ex c S' => rw [q] at p; exact p
  | err => rw [q] at p; exact p
theorem qs_one {st : Stmt} {a : MS} (h1 : PS X st (tSOf X.K ca W a)) : PSs X [st] (tSOf X.K ca W a) := pss_one h1
theorem qs_nil : PSs X [] (tSOf X.K ca W sNil) := weakSs pss_nil fun D σ H => by
  rintro ⟨ρ, M, S, re, rs, p⟩
  exact p σ M H (Ext.refl _ _) rs re
theorem qs_if {c : Expr} {as bs : List Stmt} {pos : Pos} {mc : ME} {a b : MS} (hc : PT X c (tOfT X.K ca (wx W) mc)) (ha : PSs X as (tSOf X.K ca W a)) (hb : PSs X bs (tSOf X.K ca W b)) : PS X (.If c as bs pos) (tSOf X.K ca W (sIf mc a b)) :=
  weakS (ps_if hc ha hb) fun D σ H => by
    rintro ⟨ρ, M, S, re, rs, p⟩
    refine ⟨ρ, M, S, re, rs, ?_⟩
    unfold sIf at p
    cases q : mc ρ S with
    | ok d S' =>
      rw [q] at p
      cases d <;> first | exact p.elim | skip
      next b =>
        cases b with
        | true =>
          intro b' M' H' e rs' hb
          subst hb
          show tSOf X.K ca W a D σ H'
          exact ⟨ρ, M', S', re.ext e, rs', p.up e⟩
        | false =>
          intro b' M' H' e rs' hb
          subst hb
          show tSOf X.K ca W _ D σ H'
          exact ⟨ρ, M', S', re.ext e, rs', p.up e⟩
    | ex c S' => rw [q] at p; exact p
    | err => rw [q] at p; exact p
theorem asg_of {a : ME} {i : Nat} (D : Ends) (σ : L2.St) (H : Hp) : tSOf X.K ca W (sAsg i a) D σ H → tAsg (tOf X.K ca (wx W) a) (gName i) D σ H := by
  rintro ⟨ρ, M, S, re, rs, p⟩
  refine ⟨ρ, M, S, re, rs, (post_bindS p).mono ?_⟩
  rintro x H1 ⟨M1, S1, d, e1, rs1, r1, p1⟩
  exact p1 _ M1 H1 (Ext.refl _ _) rs1 ((re.ext e1).set i r1)
theorem qs_set {i : Nat} {x : Str} {e : Expr} {a : ME} {pos pos' : Pos} (he : PE X e (tOf X.K ca (wx W) a)) (hN : X.N.Nodup) (hi : X.N[i]? = some x) (hx : Loc X.env.scope x) (hs : swapsWith e (some (.Name x pos')) pos.line X.env = pure false := by rfl)
    (hf : X.fn x = true ∨ X.env.scope.names.lookup x = some .local := by first | exact .inl rfl | exact .inr rfl | assumption) : PS X (.Assign [.Name x pos'] e pos) (tSOf X.K ca W (sAsg i a)) :=
  weakS (ps_set hN hi hx he hs hf) asg_of
theorem qs_ret {e : Expr} {a : ME} {pos : Pos} (he : PE X e (tOf X.K ca (wx W) a)) : PS X (.Return (some e) pos) (tSOf X.K ca W (sRet a)) := weakS (ps_ret he) fun D σ H => by
  rintro ⟨ρ, M, S, re, rs, p⟩
  refine ⟨ρ, M, S, re, rs, (post_bindS p).mono ?_⟩
  rintro x H1 ⟨M1, S1, d, e1, rs1, r1, p1⟩
  exact p1 _ M1 H1 (Ext.refl _ _) rs1 r1
theorem qs_expr {e : Expr} {a : ME} {pos : Pos} (he : PE X e (tOf X.K ca (wx W) a)) (hs : swapsWith e none pos.line X.env = pure false := by rfl) : PS X (.Expr e pos) (tSOf X.K ca W (sDrop a)) := weakS (ps_expr he hs) fun D σ H => by
  rintro ⟨ρ, M, S, re, rs, p⟩
  refine ⟨ρ, M, S, re, rs, (post_bindS p).mono ?_⟩
  rintro x H1 ⟨M1, S1, d, e1, rs1, r1, p1⟩
  exact p1 σ M1 H1 (Ext.refl _ _) rs1 (re.ext e1)
end
end Sm
/-! S3: loops, comprehensions, calls -/
namespace Sm
open PySem PySem.Spec PyProof.Rows L2
open Classical
def setAll : List Nat → List D → Env → Env
  | i :: is, d :: ds, r => setAll is ds (r.set i (some d))
  | _, _, r => r
def setV : List Nat → List V → L2.St → L2.St
  | i :: is, v :: vs, s => setV is vs (s.set i (some v))
  | _, _, s => s
def wipeE (r : Env) : List Nat → Env
  | [] => r
  | v :: vs => (wipeE r vs).set v none
/-- a list that is read -/
def seqL (S : Store) : D → Option (List D)
  | .lst ds => some ds
  | .cell n => match S[n]? with
    | some (.lst ds) => some ds
    | _ => none
  | .scr ns => some (ns.map D.int)
  | _ => none
@[simp] theorem seqL_lst (S : Store) (ds : List D) : seqL S (.lst ds) = some ds := rfl
@[simp] theorem seqL_scr (S : Store) (ns : List Int) : seqL S (.scr ns) = some (ns.map D.int) := rfl
section
variable {K : PySem.W.Frag} {ca : Nat → Addr} {H H' H1 : Hp} {M M' M1 : Cells} {S : Store}
theorem REnv.setAll : ∀ {is : List Nat} {ds : List D} {vs : List V} {r : Env} {s : L2.St}, REnv K ca H M r s → RepL K ca H M ds vs → REnv K ca H M (Sm.setAll is ds r) (setV is vs s)
  | [], [], [], _, _, h, _ => h
  | [], _ :: _, _ :: _, _, _, h, _ => h
  | _ :: _, [], [], _, _, h, _ => h
  | i :: is, d :: ds, v :: vs, r, s, h, q => REnv.setAll (is := is) (h.set i q.1) q.2
  | _, [], _ :: _, _, _, _, q => q.elim
  | _, _ :: _, [], _, _, _, q => q.elim
theorem REnv.setNone : ∀ {r : Env} {s : L2.St} (i : Nat), REnv K ca H M r s → REnv K ca H M (r.set i none) (s.set i none)
  | [], [], _, h => h
  | none :: r, _ :: s, 0, h => h
  | some _ :: r, some _ :: s, 0, h => h.2
  | none :: r, _ :: s, i + 1, h => REnv.setNone (r := r) (s := s) i h
  | some _ :: r, some _ :: s, i + 1, h => ⟨h.1, REnv.setNone (r := r) (s := s) i h.2⟩
  | [], _ :: _, _, h => h.elim
  | some _ :: _, none :: _, _, h => h.elim
  | none :: _, [], _, h => h.elim
  | some _ :: _, [], _, h => h.elim
theorem REnv.wipe {r : Env} {s : L2.St} (h : REnv K ca H M r s) : ∀ vs : List Nat, REnv K ca H M (wipeE r vs) (L2.wipe s vs)
  | [] => h
  | v :: vs => (REnv.wipe h vs).setNone v
theorem REnv.hide {p : Addr} (hp : H p = none) (o : HO) : ∀ {r : Env} {s : L2.St}, REnv K ca H M r s → REnv K ca (upd H p o) (M.hide p) r s
  | [], [], h => h
  | none :: r, _ :: s, h => REnv.hide (r := r) (s := s) hp o h
  | some d :: r, some v :: s, h => ⟨Rep.hide hp o d v h.1, REnv.hide (r := r) (s := s) hp o h.2⟩
  | [], _ :: _, h => h.elim
  | some _ :: _, none :: _, h => h.elim
  | none :: _, [], h => h.elim
  | some _ :: _, [], h => h.elim
theorem REnv.rehide {p : Addr} (hp : p ∈ M.h) (o : HO) : ∀ {r : Env} {s : L2.St}, REnv K ca H M r s → REnv K ca (upd H p o) M r s
  | [], [], h => h
  | none :: r, _ :: s, h => REnv.rehide (r := r) (s := s) hp o h
  | some d :: r, some v :: s, h => ⟨Rep.rehide hp o d v h.1, REnv.rehide (r := r) (s := s) hp o h.2⟩
  | [], _ :: _, h => h.elim
  | some _ :: _, none :: _, h => h.elim
  | none :: _, [], h => h.elim
  | some _ :: _, [], h => h.elim
theorem ints_rep (ns : List Int) : RepL K ca H M (ns.map D.int) (ns.map V.int) := by
  induction ns with
  | nil => trivial
  | cons n ns ih => exact ⟨rfl, ih⟩
theorem seq_rep (rs : RelS K ca H M S) {d : D} {v : V} {ds : List D} (r : Rep K ca H M d v) (h : seqL S d = some ds) : ∃ a xs, v = .ref a ∧ SqL K H a xs ∧ RepL K ca H M ds xs ∧ xs.length ≤ sizeLine := by
  cases d with
  | lst es =>
    cases h
    obtain ⟨a, xs, e, h1, n, z, q⟩ := r
    exact ⟨a, xs, e, SqL.of h1, q, z⟩
  | cell n =>
    have h : (match S[n]? with
      | some (.lst ds) => some ds
      | _ => none) = some ds := h
    split at h
    · next es e =>
      cases h
      obtain ⟨a, xs, hm, h1, z, q⟩ := rs.lst e
      obtain ⟨x, hx, hv⟩ := r
      rw [hm] at hx; cases hx
      exact ⟨a, xs, hv a rfl, SqL.of h1, q, z⟩
    · cases h
  | scr ns =>
    cases h
    obtain ⟨a, e, q, z⟩ := r
    refine ⟨a, _, e, ?_, ints_rep ns, by simpa using z⟩
    rcases q with q | q
    · exact .inl q.1
    · exact .inr q
  | non => cases h
  | bl _ => cases h
  | int _ => cases h
  | str _ => cases h
  | tup _ => cases h
  | obj _ _ _ => cases h
  | exc _ => cases h
end
/-! ### what is walked -/
/-- what is frozen stays -/
def Still (H0 H : Hp) : Prop := ∀ b od u, H0 b = some (.frz od u) → H b = some (.frz od u)
structure Walk (K : PySem.W.Frag) (ca : Nat → Addr) (H0 : Hp) (J : It) (g : TG) (src : List D) (vs : List V) (tg : List Nat) (items : Store → Option (List (List D))) : Prop where
  size : ∀ H M S its, Still H0 H → RelS K ca H M S → RepL K ca H M src vs → items S = some its → its.length ≤ sizeLine
  turn : ∀ H M S its (i : Nat), Still H0 H → RelS K ca H M S → RepL K ca H M src vs → items S = some its →
    (its.length ≤ i → J.stop i H) ∧ ∀ item, its[i]? = some item → J.go i H ∧ ∀ x H', J.yld i H x H' →
      Ext H M H' M ∧ RelS K ca H' M S ∧ ∃ us, RepL K ca H' M item us ∧ ∀ σ Q, Q (setV tg us σ) H' → g x σ H' Q
def IterOk (K : PySem.W.Frag) (ca : Nat → Addr) (W : WX) (wi : TI) (args : Env → Store → R (List D)) (items : List D → Store → Option (List (List D))) (tg : List Nat) (g : TG) : Prop :=
  ∀ σ H Rr ρ M S, REnv K ca H M ρ σ → RelS K ca H M S →
    Post K ca (rL K ca) H M (fun vs H1 => ∃ M1 S1 src its, Ext H M H1 M1 ∧ RelS K ca H1 M1 S1 ∧ RepL K ca H1 M1 src vs ∧ items src S1 = some its ∧ ∀ J, Walk K ca H1 J g src vs tg (items src) → Rr J H1) (fun c d H' => W c d σ H') (args ρ S) → wi σ H Rr
/-- nothing is raised here -/
def R.nox {A : Type} : R A → R A
  | .ok a S => .ok a S
  | _ => .err
@[simp] theorem nox_ok {A : Type} (a : A) (S : Store) : (R.ok a S).nox = .ok a S := rfl
noncomputable def forL (items : Store → Option (List (List D))) (its : List (List D)) (tg : List Nat) (body : MS) : List (List D) → Env → Store → R Fl
  | [], ρ, S => if items S = some its then .ok (.nx ρ) S else .err
  | d :: ds, ρ, S => if items S = some its then (match body (setAll tg d ρ) S with
      | .ok (.nx r) S2 => forL items its tg body ds r S2
      | .ok (.ct r) S2 => forL items its tg body ds r S2
      | .ok (.bk r) S2 => .ok (.nx r) S2
      | r => r) else .err
noncomputable def sFor (args : Env → Store → R (List D)) (items : List D → Store → Option (List (List D))) (tg : List Nat) (body : MS) : MS := fun ρ S => (args ρ S).bind fun src S1 => match items src S1 with
  | none => .err
  | some its => forL (items src) its tg body its ρ S1
noncomputable def compL (items : Store → Option (List (List D))) (its : List (List D)) (tg : List Nat) (ρ : Env) (cond elt : ME) : List (List D) → Store → R (List D)
  | [], S => if items S = some its then .ok [] S else .err
  | d :: ds, S => if items S = some its then (cond (setAll tg d ρ) S).nox.bind fun b S1 => (match b with
      | .bl true => (elt (setAll tg d ρ) S1).nox.bind fun y S2 => (compL items its tg ρ cond elt ds S2).bind fun ys S3 => .ok (y :: ys) S3
      | .bl false => compL items its tg ρ cond elt ds S1
      | _ => .err) else .err
/-- a new list: data, or a cell -/
def finL (c : Bool) (ys : List D) (S : Store) : R D := if c then .ok (.cell S.length) (S ++ [.lst ys]) else .ok (.lst ys) S
noncomputable def mComp (c : Bool) (args : Env → Store → R (List D)) (items : List D → Store → Option (List (List D))) (tg own : List Nat) (cond elt : ME) : ME := fun ρ S => (args ρ S).bind fun src S1 => match items src S1 with
  | none => .err
  | some its => (compL (items src) its tg (wipeE ρ own) cond elt its S1).bind fun ys S2 => finL c ys S2
section
variable {X : Cx} {ca : Nat → Addr} {W : XW}
theorem for_of {wi : TI} {g : TG} {args : Env → Store → R (List D)} {items : List D → Store → Option (List (List D))} {tg : List Nat} {mb : MS} (it : IterOk X.K ca (wx W) wi args items tg g) (De : Ends) (σ : L2.St) (H : Hp) :
    tSOf X.K ca W (sFor args items tg mb) De σ H → tFor wi g (tSOf X.K ca W mb) De σ H := by
  rintro ⟨ρ, M, S, re, rs, p⟩
  refine it σ H _ ρ M S re rs ((post_bindS p).mono ?_)
  rintro vs H1 ⟨M1, S1, src, e1, rs1, r1, p1⟩
  split at p1
  · exact p1.elim
  next its hi =>
  refine ⟨M1, S1, src, its, e1, rs1, r1, hi, fun J wk => ?_⟩
  refine ⟨fun i m σ' H' => ∃ ρ' M' S', m = its.length - i ∧ i ≤ its.length ∧ Still H1 H' ∧ RepL X.K ca H' M' src vs ∧ REnv X.K ca H' M' ρ' σ' ∧ RelS X.K ca H' M' S' ∧ PostS X.K ca H' M' De W (forL (items src) its tg mb (its.drop i) ρ' S'),
    ⟨_, ρ, M1, S1, rfl, Nat.zero_le _, (fun _ _ _ h => h), r1, re.ext e1, rs1, by simpa using p1⟩, ?_⟩
  rintro i m σ' H' ⟨ρ', M', S', rfl, hle, st, rv, re', rs', p'⟩
  by_cases hlt : i < its.length
  · rw [List.drop_eq_getElem_cons hlt] at p'
    unfold forL at p'
    split at p'
    · next hsame =>
      obtain ⟨_, t2⟩ := wk.turn H' M' S' its i st rs' rv hsame
      obtain ⟨go, yl⟩ := t2 its[i] (List.getElem?_eq_getElem hlt)
      refine .inr ⟨go, fun σ2 H2 => ∃ ρ2 M2 S2, Still H1 H2 ∧ RepL X.K ca H2 M2 src vs ∧ REnv X.K ca H2 M2 ρ2 σ2 ∧ RelS X.K ca H2 M2 S2 ∧ PostS X.K ca H2 M2 De W (forL (items src) its tg mb (its.drop (i + 1)) ρ2 S2), ?_, fun x Hx hy => ?_⟩
      · rintro σ2 H2 ⟨ρ2, M2, S2, st2, a, b, c, d⟩
        exact ⟨its.length - (i + 1), by omega, ρ2, M2, S2, rfl, hlt, st2, a, b, c, d⟩
      · obtain ⟨ex, rsx, us, ru, gx⟩ := yl x Hx hy
        refine gx σ' _ ?_
        refine ⟨setAll tg its[i] ρ', M', S', (re'.ext ex).setAll ru, rsx, ?_⟩
        have p2 := p'.up ex
        have rv2 := RepL.ext ex _ _ rv
        cases q : mb (setAll tg its[i] ρ') S' with
        | ok f S2 =>
          rw [q] at p2
          cases f with
          | nx r => exact fun σ2 M2 H2 e2 rs2 re2 => ⟨r, M2, S2, fun b od u h => e2.fz b od u (ex.fz b od u (st b od u h)), RepL.ext e2 _ _ rv2, re2, rs2, p2.up e2⟩
          | ct r => exact fun σ2 M2 H2 e2 rs2 re2 => ⟨r, M2, S2, fun b od u h => e2.fz b od u (ex.fz b od u (st b od u h)), RepL.ext e2 _ _ rv2, re2, rs2, p2.up e2⟩
          | bk r => exact p2
          | rt d => exact p2
        | ex c S2 => rw [q] at p2; exact p2
        | err => rw [q] at p2; exact p2
    · exact p'.elim
  · have hi' : its.drop i = [] := List.drop_eq_nil_of_le (by omega)
    rw [hi'] at p'
    unfold forL at p'
    split at p'
    · next hsame =>
      obtain ⟨t1, _⟩ := wk.turn H' M' S' its i st rs' rv hsame
      exact .inl ⟨t1 (by omega), p' σ' M' H' (Ext.refl _ _) rs' re'⟩
    · exact p'.elim
theorem qs_for {tgx iter : Expr} {body : List Stmt} {wi : TI} {g : TG} {pos : Pos} {args : Env → Store → R (List D)} {items : List D → Store → Option (List (List D))} {tg : List Nat} {mb : MS} (it : IterOk X.K ca (wx W) wi args items tg g)
    (hp : PassesOwn (model X.prog X.w) X.A X.env X.xe) (hc : X.calm = true) (hi : PI X tgx iter wi) (hg : PG X tgx g) (hb : PSs X body (tSOf X.K ca W mb)) (hs : ∀ x, foldedSetIterable iter X.env x = pure x := by intro _; rfl) :
    PS X (.For tgx iter body [] pos) (tSOf X.K ca W (sFor args items tg mb)) := weakS (ps_for hp hc hi hg hb hs) (for_of it)
/-! ### while -/
def whileN (c : ME) (b : MS) : Nat → MS
  | 0, _, _ => .err
  | k + 1, ρ, S => (c ρ S).bind fun d S1 => match d with
    | .bl true => (match b ρ S1 with
      | .ok (.nx r) S2 => whileN c b k r S2
      | .ok (.ct r) S2 => whileN c b k r S2
      | .ok (.bk r) S2 => .ok (.nx r) S2
      | r => r)
    | .bl false => .ok (.nx ρ) S1
    | _ => .err
theorem qs_while {c : Expr} {body : List Stmt} {pos : Pos} {mc : ME} {mb : MS} (n : Nat) (hp : PassesOwn (model X.prog X.w) X.A X.env X.xe) (hc : PT X c (tOfT X.K ca (wx W) mc)) (hb : PSs X body (tSOf X.K ca W mb)) :
    PS X (.While c body [] pos) (tSOf X.K ca W (whileN mc mb n)) := weakS (ps_while hp hc hb) fun De σ H => by
  rintro ⟨ρ, M, S, re, rs, p⟩
  refine ⟨fun m σ H => ∃ ρ M S, REnv X.K ca H M ρ σ ∧ RelS X.K ca H M S ∧ PostS X.K ca H M De W (whileN mc mb m ρ S), ⟨n, ρ, M, S, re, rs, p⟩, ?_⟩
  clear p rs re
  rintro m σ H ⟨ρ, M, S, re, rs, p⟩
  cases m with
  | zero => exact p.elim
  | succ k =>
    refine ⟨ρ, M, S, re, rs, ?_⟩
    unfold whileN at p
    cases q : mc ρ S with
    | ok d S' =>
      rw [q] at p
      cases d <;> first | exact p.elim | skip
      next b =>
        cases b with
        | false =>
          intro b' M' H' e rs' hb
          subst hb
          exact p σ M' H' e rs' (re.ext e)
        | true =>
          intro b' M' H' e rs' hb
          subst hb
          refine ⟨fun σ2 H2 => ∃ ρ2 M2 S2, REnv X.K ca H2 M2 ρ2 σ2 ∧ RelS X.K ca H2 M2 S2 ∧ PostS X.K ca H2 M2 De W (whileN mc mb k ρ2 S2), fun σ2 H2 h2 => ⟨k, Nat.lt_succ_self _, h2⟩, ?_⟩
          refine ⟨ρ, M', S', re.ext e, rs', ?_⟩
          have p2 := p.up e
          cases q2 : mb ρ S' with
          | ok f S2 =>
            have p2 : PostS X.K ca H' M' De W (match mb ρ S' with
              | .ok (.nx r) S2 => whileN mc mb k r S2
              | .ok (.ct r) S2 => whileN mc mb k r S2
              | .ok (.bk r) S2 => .ok (.nx r) S2
              | r => r) := p2
            rw [q2] at p2
            cases f with
            | nx r => exact fun σ2 M2 H2 e2 rs2 re2 => ⟨r, M2, S2, re2, rs2, p2.up e2⟩
            | ct r => exact fun σ2 M2 H2 e2 rs2 re2 => ⟨r, M2, S2, re2, rs2, p2.up e2⟩
            | bk r => exact p2
            | rt d => exact p2
          | ex c S2 =>
            have p2 : PostS X.K ca H' M' De W (match mb ρ S' with
              | .ok (.nx r) S2 => whileN mc mb k r S2
              | .ok (.ct r) S2 => whileN mc mb k r S2
              | .ok (.bk r) S2 => .ok (.nx r) S2
              | r => r) := p2
            rw [q2] at p2; exact p2
          | err =>
            have p2 : PostS X.K ca H' M' De W (match mb ρ S' with
              | .ok (.nx r) S2 => whileN mc mb k r S2
              | .ok (.ct r) S2 => whileN mc mb k r S2
              | .ok (.bk r) S2 => .ok (.nx r) S2
              | r => r) := p2
            rw [q2] at p2; exact p2
    | ex c S' => rw [q] at p; exact p
    | err => rw [q] at p; exact p
end
/-! ### comprehensions -/
section
variable {X : Cx} {ca : Nat → Addr} {W : WX}
theorem wipe_setV {own : List Nat} : ∀ {tg : List Nat} {us : List V} {σ : L2.St}, (∀ i ∈ tg, i ∈ own) → L2.wipe (setV tg us σ) own = L2.wipe σ own
  | [], _, _, _ => by unfold setV; rfl
  | _ :: _, [], _, _ => by unfold setV; rfl
  | i :: tg, u :: us, σ, h => by
    show L2.wipe (setV tg us (σ.set i (some u))) own = _
    rw [wipe_setV fun j hj => h j (List.mem_cons_of_mem _ hj)]
    have key : ∀ (own : List Nat) (σ : L2.St), i ∈ own → L2.wipe (σ.set i (some u)) own = L2.wipe σ own := by
      intro own
      induction own with
      | nil => intro _ h; exact absurd h (by simp)
      | cons v vs ih =>
        intro σ h
        unfold L2.wipe
        by_cases hm : i ∈ vs
        · rw [ih σ hm]
        · rcases List.mem_cons.mp h with z | z
          · subst z
            have out : ∀ (vs : List Nat) (σ : L2.St), i ∉ vs → L2.wipe (σ.set i (some u)) vs = (L2.wipe σ vs).set i (some u) := by
              intro vs
              induction vs with
              | nil => intro _ _; rfl
              | cons y ys ih2 =>
                intro σ hn
                unfold L2.wipe
                rw [ih2 σ fun q => hn (List.mem_cons_of_mem _ q)]
                exact List.set_comm _ _ (fun q => hn (by rw [q]; exact List.mem_cons_self))
            rw [out vs σ hm, List.set_set]
          · exact absurd z hm
    exact key own σ (h i List.mem_cons_self)
theorem wipe_wipe : ∀ (own : List Nat) (σ : L2.St), L2.wipe (L2.wipe σ own) own = L2.wipe σ own := by
  intro own
  have comm : ∀ (vs : List Nat) (σ : L2.St) (i : Nat), L2.wipe (σ.set i none) vs = (L2.wipe σ vs).set i none := by
    intro vs
    induction vs with
    | nil => intro _ _; rfl
    | cons y ys ih =>
      intro σ i
      unfold L2.wipe
      rw [ih σ i]
      by_cases q : y = i
      · subst q; rfl
      · exact List.set_comm _ _ (fun z => q z.symm)
  induction own with
  | nil => intro _; rfl
  | cons v vs ih =>
    intro σ
    show (L2.wipe ((L2.wipe σ vs).set v none) vs).set v none = (L2.wipe σ vs).set v none
    rw [comm vs _ v, ih σ, List.set_set]
theorem bind_assoc {A B C : Type} (r : R A) (f : A → Store → R B) (g : B → Store → R C) : (r.bind f).bind g = r.bind fun a S => (f a S).bind g := by cases r <;> rfl
theorem finL_new {K : PySem.W.Frag} {H : Hp} {M : Cells} {Q : VK} {Wx : XW} {c : Bool} {ys : List D} {S : Store} {p : Addr} {xs : List V} (h : Post K ca (rD K ca) H M Q Wx (finL c ys S)) (rs : RelS K ca H M S) (hp : H p = none)
    (z : xs.length ≤ sizeLine) (r : RepL K ca H M ys xs) : Q (.ref p) (upd H p (.lst xs)) := by
  unfold finL at h
  cases c with
  | false => exact h _ M _ (ext_new hp _) (rs.new hp _) ⟨p, xs, rfl, upd_same, rs.fresh hp, z, RepL.ext (ext_new hp _) _ _ r⟩
  | true =>
    refine h _ (M.push p) _ (ext_cell hp _) (rs.cell hp _ ⟨p, xs, rfl, upd_same, z, RepL.ext (ext_cell hp _) _ _ r⟩) ⟨some p, ?_, fun a q => by cases q; rfl⟩
    show (M.c ++ [some p])[S.length]? = _
    rw [← rs.len]; simp
section
variable {K : PySem.W.Frag} {H : Hp} {M M2 : Cells}
mutual
theorem Rep.live (hl : ∀ a, ¬ Live M a → ¬ Live M2 a) (hc : ∀ (n : Nat) x, M.c[n]? = some x → M2.c[n]? = some x) : ∀ (d : D) (v : V), Rep K ca H M d v → Rep K ca H M2 d v
  | .non, _, h => h
  | .bl _, _, h => h
  | .int _, _, h => h
  | .str _, _, h => h
  | .tup ds, v, h => by
    obtain ⟨a, xs, r, h1, n, q⟩ := h
    exact ⟨a, xs, r, h1, hl a n, RepL.live hl hc ds xs q⟩
  | .lst ds, v, h => by
    obtain ⟨a, xs, r, h1, n, z, q⟩ := h
    exact ⟨a, xs, r, h1, hl a n, z, RepL.live hl hc ds xs q⟩
  | .obj c ns ds, v, h => by
    obtain ⟨a, dx, fs, r, h1, n, z, q⟩ := h
    exact ⟨a, dx, fs, r, h1, hl a n, z, RepL.live hl hc ds _ q⟩
  | .cell n, v, h => by
    obtain ⟨x, hx, q⟩ := h
    exact ⟨x, hc n x hx, q⟩
  | .scr ns, v, h => by
    obtain ⟨a, r, q, z⟩ := h
    exact ⟨a, r, q.imp (fun p => ⟨p.1, hl a p.2⟩) id, z⟩
  | .exc _, _, h => h
theorem RepL.live (hl : ∀ a, ¬ Live M a → ¬ Live M2 a) (hc : ∀ (n : Nat) x, M.c[n]? = some x → M2.c[n]? = some x) : ∀ (ds : List D) (vs : List V), RepL K ca H M ds vs → RepL K ca H M2 ds vs
  | [], [], h => h
  | d :: ds, v :: vs, h => ⟨Rep.live hl hc d v h.1, RepL.live hl hc ds vs h.2⟩
  | [], _ :: _, h => h.elim
  | _ :: _, [], h => h.elim
end
end
/-- a list that was hidden while it was made comes to light -/
theorem finL_hid {K : PySem.W.Frag} {H1 H : Hp} {M1 M : Cells} {Q : VK} {Wx : XW} {c : Bool} {ys : List D} {S S1 : Store} {L : Addr} {xs : List V} (h : Post K ca (rD K ca) H1 M1 Q Wx (finL c ys S)) (e : Ext H1 M1 H (M.as M1.h)) (hM : M.h = L :: M1.h)
    (rs1 : RelS K ca H1 M1 S1) (rs : RelS K ca H M S) (hL : H L = some (.lst xs)) (h1 : H1 L = none) (z : xs.length ≤ sizeLine) (r : RepL K ca H M ys xs) : Q (.ref L) H := by
  have inL : L ∈ M.h := by rw [hM]; exact List.mem_cons_self
  have sub : ∀ b, b ∈ M1.h → b ∈ M.h := fun b hb => by rw [hM]; exact List.mem_cons_of_mem _ hb
  have nL : L ∉ M1.h := fun q => (rs1.hid L q).1 h1
  have nc : ¬ CLive M L := (rs.hid L inL).2
  unfold finL at h
  cases c with
  | false =>
    refine h (.ref L) (M.as M1.h) H e (rs.as sub) ⟨L, xs, rfl, hL, ?_, z, RepL.as sub _ _ r⟩
    rintro (q | q)
    · exact nc q
    · exact nL q
  | true =>
    have lv : ∀ a, ¬ Live M a → ¬ Live ((M.as M1.h).push L) a := fun a n => by
      rintro (⟨i, q⟩ | q)
      · have q : (M.c ++ [some L])[i]? = some (some a) := q
        by_cases hi : i < M.c.length
        · rw [List.getElem?_append_left hi] at q; exact n (.inl ⟨i, q⟩)
        · rw [List.getElem?_append_right (by omega)] at q
          cases k : i - M.c.length with
          | zero => rw [k] at q; simp at q; subst q; exact n (.inr inL)
          | succ m => rw [k] at q; simp at q
      · exact n (.inr (sub _ q))
    have cc : ∀ (n : Nat) x, M.c[n]? = some x → ((M.as M1.h).push L).c[n]? = some x := fun n x hx => by
      show (M.c ++ [some L])[n]? = some x
      rw [List.getElem?_append_left (List.getElem?_eq_some_iff.mp hx).1]; exact hx
    have ex : Ext H1 M1 H ((M.as M1.h).push L) := by
      refine ⟨?_, fun l hl => ?_, fun l a hl q => ?_, e.fr, e.on, rfl, e.fz⟩
      · have := e.len; show M1.c.length ≤ (M.c ++ [some L]).length
        have : M1.c.length ≤ M.c.length := this
        simp; omega
      · show (M.c ++ [some L])[l]? = _ ∨ (M.c ++ [some L])[l]? = _
        have hl2 : l < M.c.length := Nat.lt_of_lt_of_le hl e.len
        rw [List.getElem?_append_left hl2]; exact e.old l hl
      · have q : (M.c ++ [some L])[l]? = some (some a) := q
        by_cases hlt : l < M.c.length
        · rw [List.getElem?_append_left hlt] at q; exact e.new l a hl q
        · rw [List.getElem?_append_right (by omega)] at q
          cases k : l - M.c.length with
          | zero => rw [k] at q; simp at q; rw [← q]; exact h1
          | succ n => rw [k] at q; simp at q
    refine h (.ref L) ((M.as M1.h).push L) H ex ⟨by show (M.c ++ [some L]).length = _; simp [rs.len], fun i j a h2 h3 => ?_, fun i mo hm => ?_, fun a ha => ⟨(rs.hid a (sub a ha)).1, ?_⟩, fun a ha => rs.hidt a (sub a ha)⟩ ⟨some L, ?_, fun a q => by cases q; rfl⟩
    · have h2 : (M.c ++ [some L])[i]? = some (some a) := h2
      have h3 : (M.c ++ [some L])[j]? = some (some a) := h3
      have cas : ∀ k : Nat, (M.c ++ [some L])[k]? = some (some a) → (M.c[k]? = some (some a) ∧ k < M.c.length) ∨ (k = M.c.length ∧ a = L) := fun k q => by
        by_cases hk : k < M.c.length
        · rw [List.getElem?_append_left hk] at q; exact .inl ⟨q, hk⟩
        · rw [List.getElem?_append_right (by omega)] at q
          cases kk : k - M.c.length with
          | zero => rw [kk] at q; simp at q; exact .inr ⟨by omega, q.symm⟩
          | succ m => rw [kk] at q; simp at q
      rcases cas i h2 with ⟨u1, _⟩ | ⟨u1, u2⟩ <;> rcases cas j h3 with ⟨w1, _⟩ | ⟨w1, w2⟩
      · exact rs.inj i j a u1 w1
      · subst w2; exact absurd ⟨i, u1⟩ nc
      · subst u2; exact absurd ⟨j, w1⟩ nc
      · omega
    · show ∃ x, (M.c ++ [some L])[i]? = some x ∧ _
      by_cases hi : i < S.length
      · rw [List.getElem?_append_left hi] at hm
        obtain ⟨x, hx, q⟩ := rs.cells i mo hm
        exact ⟨x, by rw [List.getElem?_append_left (by rw [rs.len]; exact hi)]; exact hx, q.map (fun ds vs => RepL.live lv cc ds vs) fun _ _ => rfl⟩
      · rw [List.getElem?_append_right (by omega)] at hm
        cases k : i - S.length with
        | succ n => rw [k] at hm; simp at hm
        | zero =>
          rw [k] at hm; simp at hm; subst hm
          exact ⟨some L, by rw [List.getElem?_append_right (by rw [rs.len]; omega), rs.len, k]; rfl, L, xs, rfl, hL, z, RepL.live lv cc _ _ r⟩
    · rintro ⟨i, q⟩
      have q : (M.c ++ [some L])[i]? = some (some a) := q
      by_cases hi : i < M.c.length
      · rw [List.getElem?_append_left hi] at q
        exact (rs.hid a (sub a ha)).2 ⟨i, q⟩
      · rw [List.getElem?_append_right (by omega)] at q
        cases k : i - M.c.length with
        | succ n => rw [k] at q; simp at q
        | zero => rw [k] at q; simp at q; subst q; exact nL ha
    · show (M.c ++ [some L])[S.length]? = _
      rw [← rs.len]; simp
/-- while the list is being made at L: what is reached, and what is still wanted -/
theorem comp_of {wi : TI} {g : TG} {args : Env → Store → R (List D)} {items : List D → Store → Option (List (List D))} {tg own : List Nat} {cond elt : ME} {c : Bool} (it : IterOk X.K ca W wi args items tg g) (hown : ∀ i ∈ tg, i ∈ own) {tt : TT} {te : TE}
    (ht : ∀ σ H Q, tOfT X.K ca (fun _ _ _ _ => False) cond σ H Q → tt σ H Q) (he : ∀ σ H Q, tOf X.K ca (fun _ _ _ _ => False) elt σ H Q → te σ H Q) (σ : L2.St) (H : Hp) (Q : VK) :
    tOf X.K ca W (mComp c args items tg own cond elt) σ H Q → tLc wi g tt te own σ H Q := by
  rintro ⟨ρ, M, S, re, rs, p⟩
  refine it σ H _ ρ M S re rs ((post_bind p).mono ?_)
  rintro vs H1 ⟨M1, S1, src, e1, rs1, r1, p1⟩
  split at p1
  · exact p1.elim
  next its hi =>
  refine ⟨M1, S1, src, its, e1, rs1, r1, hi, fun J wk L hL => ?_⟩
  have hsz := wk.size H1 M1 S1 its (fun _ _ _ h => h) rs1 r1 hi
  have rw1 := (re.ext e1).wipe own
  -- the invariant
  refine ⟨fun i m H' => ∃ M' S' acc accV, m = its.length - i ∧ i ≤ its.length ∧ Ext H1 M1 H' (M'.as M1.h) ∧ M'.h = L :: M1.h ∧ RepL X.K ca H' M' src vs ∧ REnv X.K ca H' M' (wipeE ρ own) (L2.wipe σ own) ∧ RelS X.K ca H' M' S' ∧
    H' L = some (.lst accV) ∧ RepL X.K ca H' M' acc accV ∧ acc.length ≤ i ∧
    Post X.K ca (rD X.K ca) H1 M1 Q (fun c d H' => W c d σ H') ((compL (items src) its tg (wipeE ρ own) cond elt (its.drop i) S').bind fun ys S2 => finL c (acc ++ ys) S2), ?_, ?_⟩
  · refine ⟨_, M1.hide L, S1, [], [], rfl, Nat.zero_le _, ?_, rfl, RepL.hide hL _ _ _ r1, REnv.hide hL _ rw1, rs1.hide hL _, upd_same, trivial, Nat.le_refl _, ?_⟩
    · exact (Ext.refl H1 M1).over hL _
    · simpa using p1
  · rintro i m H' ⟨M', S', acc, accV, rfl, hle, ex, hh, rv, re', rs', hL', ra, hal, p'⟩
    have inL : L ∈ M'.h := by rw [hh]; exact List.mem_cons_self
    have ncl : ¬ CLive M' L := (rs'.hid L inL).2
    by_cases hlt : i < its.length
    · rw [List.drop_eq_getElem_cons hlt] at p'
      unfold compL at p'
      by_cases hsame : items src S' = some its
      · rw [if_pos hsame] at p'
        obtain ⟨_, t2⟩ := wk.turn H' M' S' its i ex.fz rs' rv hsame
        obtain ⟨go, yl⟩ := t2 its[i] (List.getElem?_eq_getElem hlt)
        refine .inr ⟨go, fun H'' => ∃ M' S' acc accV, Ext H1 M1 H'' (M'.as M1.h) ∧ M'.h = L :: M1.h ∧ RepL X.K ca H'' M' src vs ∧ REnv X.K ca H'' M' (wipeE ρ own) (L2.wipe σ own) ∧ RelS X.K ca H'' M' S' ∧
          H'' L = some (.lst accV) ∧ RepL X.K ca H'' M' acc accV ∧ acc.length ≤ i + 1 ∧
          Post X.K ca (rD X.K ca) H1 M1 Q (fun c d H' => W c d σ H') ((compL (items src) its tg (wipeE ρ own) cond elt (its.drop (i + 1)) S').bind fun ys S2 => finL c (acc ++ ys) S2), ?_, fun x Hx hy => ?_⟩
        · rintro H'' ⟨M2, S2, acc2, accV2, a1, a2, a3, a4, a5, a6, a7, a8, a9⟩
          exact ⟨its.length - (i + 1), by omega, M2, S2, acc2, accV2, rfl, hlt, a1, a2, a3, a4, a5, a6, a7, a8, a9⟩
        obtain ⟨ex1, rsx, us, ru, gx⟩ := yl x Hx hy
        refine gx (L2.wipe σ own) _ ⟨?_, ?_⟩
        · rw [wipe_setV hown]; exact wipe_wipe own σ
        have re2 : REnv X.K ca Hx M' (setAll tg its[i] (wipeE ρ own)) (setV tg us (L2.wipe σ own)) := (re'.ext ex1).setAll ru
        refine ht _ Hx _ ⟨setAll tg its[i] (wipeE ρ own), M', S', re2, rsx, ?_⟩
        cases hq : cond (setAll tg its[i] (wipeE ρ own)) S' with
        | ex k S2 => rw [hq] at p'; exact p'.elim
        | err => rw [hq] at p'; exact p'.elim
        | ok d S2 =>
          rw [hq] at p'
          cases d <;> first | exact p'.elim | skip
          next b =>
            cases b with
            | false =>
              intro b' M2 H3 e2 rs2 hb
              subst hb
              have E := ex1.trans e2
              have hLa := E.fr L _ hL' ncl
              exact ⟨M2, S2, acc, accV, ex.trans (E.as _), E.hid.trans hh, RepL.ext E _ _ rv, re'.ext E, rs2, hLa, RepL.ext E _ _ ra, Nat.le_succ_of_le hal, p'⟩
            | true =>
              intro b' M2 H3 e2 rs2 hb
              subst hb
              show te _ H3 _
              refine he _ H3 _ ⟨setAll tg its[i] (wipeE ρ own), M2, S2, re2.ext e2, rs2, ?_⟩
              have p2 : Post X.K ca (rD X.K ca) H1 M1 Q (fun c d H' => W c d σ H') (((elt (setAll tg its[i] (wipeE ρ own)) S2).nox.bind fun y S2 => (compL (items src) its tg (wipeE ρ own) cond elt (its.drop (i + 1)) S2).bind fun ys S3 => .ok (y :: ys) S3).bind fun ys S2 => finL c (acc ++ ys) S2) := p'
              cases hq2 : elt (setAll tg its[i] (wipeE ρ own)) S2 with
              | ex k S3 => rw [hq2] at p2; exact p2.elim
              | err => rw [hq2] at p2; exact p2.elim
              | ok y S3 =>
                rw [hq2] at p2
                intro v M3 H4 e3 rs3 ry
                have E := (ex1.trans e2).trans e3
                have hLa := E.fr L _ hL' ncl
                have hM3 : M3.h = L :: M1.h := E.hid.trans hh
                have in3 : L ∈ M3.h := by rw [hM3]; exact List.mem_cons_self
                have hlen := ra.length
                refine ⟨accV, hLa, by omega, M3, S3, acc ++ [y], accV ++ [v], (ex.trans (E.as _)).over hL _, hM3, RepL.rehide in3 _ _ _ (RepL.ext E _ _ rv), REnv.rehide in3 _ (re'.ext E), rs3.rehide in3 _, upd_same,
                  RepL.rehide in3 _ _ _ ((RepL.ext E _ _ ra).app (RepL.one ry)), by simp; omega, ?_⟩
                simp only [nox_ok, bind_ok, bind_assoc] at p2
                simp only [List.append_assoc, List.cons_append, List.nil_append]
                exact p2
      · rw [if_neg hsame] at p'; exact p'.elim
    · have hi' : its.drop i = [] := List.drop_eq_nil_of_le (by omega)
      rw [hi'] at p'
      unfold compL at p'
      by_cases hsame : items src S' = some its
      · rw [if_pos hsame] at p'
        obtain ⟨t1, _⟩ := wk.turn H' M' S' its i ex.fz rs' rv hsame
        refine .inl ⟨t1 (by omega), ?_⟩
        simp only [bind_ok, List.append_nil] at p'
        have hlen := ra.length
        exact finL_hid p' ex hh rs1 rs' hL' hL (by omega) ra
      · rw [if_neg hsame] at p'; exact p'.elim
end
end Sm
/-! S4: what is walked: lists, tuples, ranges, enumerate, zip; comprehensions as rules; calls -/
namespace Sm
open PySem PySem.Spec PyProof.Rows L2
open Classical
def ones (ds : List D) : List (List D) := ds.map fun d => [d]
def itemsT : List D → Store → Option (List (List D))
  | [.tup ds], _ => if ds.length ≤ sizeLine then some (ones ds) else none
  | _, _ => none
def itemsR : List D → Store → Option (List (List D))
  | [.int j], _ => if -(2 ^ 62) ≤ j ∧ j ≤ sizeLine then some ((List.range j.toNat).map fun (k : Nat) => [D.int k]) else none
  | [.int i, .int j], _ => if -(2 ^ 62) ≤ i ∧ i < 2 ^ 62 ∧ -(2 ^ 62) ≤ j ∧ j < 2 ^ 62 ∧ j - i ≤ sizeLine then some ((List.range (j - i).toNat).map fun (k : Nat) => [D.int (i + k)]) else none
  | _, _ => none
def enumFrom (k : Nat) : List D → List (List D)
  | [] => []
  | d :: ds => [D.int k, d] :: enumFrom (k + 1) ds
def itemsE : List D → Store → Option (List (List D))
  | [d], S => (seqL S d).map (enumFrom 0)
  | _, _ => none
def zipD : List D → List D → List (List D)
  | d :: ds, e :: es => [d, e] :: zipD ds es
  | _, _ => []
def itemsZ : List D → Store → Option (List (List D))
  | [d, e], S => match seqL S d, seqL S e with
    | some ds, some es => some (zipD ds es)
    | _, _ => none
  | _, _ => none
theorem ones_get {ds : List D} {i : Nat} {item : List D} (h : (ones ds)[i]? = some item) : ∃ d, ds[i]? = some d ∧ item = [d] := by
  unfold ones at h
  rw [List.getElem?_map] at h
  cases q : ds[i]? with
  | none => rw [q] at h; cases h
  | some d => rw [q] at h; cases h; exact ⟨d, rfl, rfl⟩
theorem enum_get : ∀ {ds : List D} {k i : Nat} {item : List D}, (enumFrom k ds)[i]? = some item → ∃ d, ds[i]? = some d ∧ item = [D.int ((k + i : Nat) : Int), d]
  | [], _, _, _, h => by simp [enumFrom] at h
  | d :: ds, k, 0, _, h => by simp [enumFrom] at h; exact ⟨d, rfl, by rw [← h]; rfl⟩
  | d :: ds, k, i + 1, item, h => by
    have h : (enumFrom (k + 1) ds)[i]? = some item := by simpa [enumFrom] using h
    obtain ⟨e, h1, h2⟩ := enum_get h
    exact ⟨e, by simpa using h1, by rw [h2]; congr 3; omega⟩
theorem enum_len : ∀ (ds : List D) (k : Nat), (enumFrom k ds).length = ds.length
  | [], _ => rfl
  | _ :: ds, k => congrArg Nat.succ (enum_len ds (k + 1))
theorem zip_get : ∀ {ds es : List D} {i : Nat} {item : List D}, (zipD ds es)[i]? = some item → ∃ d e, ds[i]? = some d ∧ es[i]? = some e ∧ item = [d, e]
  | [], es, _, _, h => by simp [zipD] at h
  | _ :: _, [], _, _, h => by simp [zipD] at h
  | d :: ds, e :: es, 0, _, h => by simp [zipD] at h; exact ⟨d, e, rfl, rfl, h.symm⟩
  | d :: ds, e :: es, i + 1, item, h => by
    have h : (zipD ds es)[i]? = some item := by simpa [zipD] using h
    obtain ⟨a, b, h1, h2, h3⟩ := zip_get h
    exact ⟨a, b, by simpa using h1, by simpa using h2, h3⟩
theorem zip_len : ∀ (ds es : List D), (zipD ds es).length = min ds.length es.length
  | [], es => by simp [zipD]
  | _ :: _, [] => by simp [zipD]
  | d :: ds, e :: es => by simp [zipD, zip_len ds es]
section
variable {X : Cx} {ca : Nat → Addr} {W : WX}
theorem one_arg {m : ME} {ρ : Env} {S : Store} {H : Hp} {M : Cells} {Q : List V → Hp → Prop} {Wx : XW} (p : Post X.K ca (rL X.K ca) H M Q Wx (mCons m mNil ρ S)) : Post X.K ca (rD X.K ca) H M (fun v H' => Q [v] H') Wx (m ρ S) := by
  refine (post_bind p).mono ?_
  rintro x H1 ⟨M1, S1, d, e1, rs1, r1, p1⟩
  exact p1 [x] M1 H1 (Ext.refl _ _) rs1 (RepL.one r1)
theorem itemsT_inv {src : List D} {S : Store} {its : List (List D)} (h : itemsT src S = some its) : ∃ ds, src = [.tup ds] ∧ ds.length ≤ sizeLine ∧ its = ones ds := by
  unfold itemsT at h
  split at h
  · next ds =>
    split at h
    · next z => cases h; exact ⟨ds, rfl, z, rfl⟩
    · cases h
  · cases h
theorem range_walk {K : PySem.W.Frag} {H0 : Hp} {lo : Int} {n i : Nat} {src : List D} {vs : List V} {items : Store → Option (List (List D))} (hn : n ≤ sizeLine) (h : ∀ S its, items S = some its → its = (List.range n).map fun (k : Nat) => [D.int (lo + k)]) :
    Walk K ca H0 (Itr lo n) (gName i) src vs [i] items := by
  refine ⟨fun H M S its _ rs r hi => ?_, fun H M S its j _ rs r hi => ?_⟩
  · rw [h S its hi, List.length_map, List.length_range]; exact hn
  · rw [h S its hi]
    refine ⟨fun hj => by rw [List.length_map, List.length_range] at hj; exact hj, fun item hit => ?_⟩
    rw [List.getElem?_map] at hit
    cases q : (List.range n)[j]? with
    | none => rw [q] at hit; cases hit
    | some k =>
      rw [q] at hit; cases hit
      have hj : j < n := by have := (List.getElem?_eq_some_iff.mp q).1; rw [List.length_range] at this; exact this
      rw [List.getElem?_range hj] at q; cases q
      refine ⟨hj, fun x Hx hy => ?_⟩
      obtain ⟨rfl, rfl⟩ := hy
      exact ⟨Ext.refl _ _, rs, [_], RepL.one rfl, fun σ Q h => h⟩
theorem itemsR_inv {src : List D} {S : Store} {its : List (List D)} (h : itemsR src S = some its) :
    (∃ j : Int, src = [.int j] ∧ -(2 ^ 62) ≤ j ∧ j ≤ sizeLine ∧ its = (List.range j.toNat).map fun (k : Nat) => [D.int k]) ∨
    ∃ i j : Int, src = [.int i, .int j] ∧ (-(2 ^ 62) ≤ i ∧ i < 2 ^ 62 ∧ -(2 ^ 62) ≤ j ∧ j < 2 ^ 62) ∧ j - i ≤ sizeLine ∧ its = (List.range (j - i).toNat).map fun (k : Nat) => [D.int (i + k)] := by
  unfold itemsR at h
  split at h
  · next j =>
    split at h
    · next z => cases h; exact .inl ⟨j, rfl, z.1, z.2, rfl⟩
    · cases h
  · next i j =>
    split at h
    · next z => cases h; exact .inr ⟨i, j, rfl, ⟨z.1, z.2.1, z.2.2.1, z.2.2.2.1⟩, z.2.2.2.2, rfl⟩
    · cases h
  · cases h
theorem it_range1 {ms : Env → Store → R (List D)} {i : Nat} (h1 : ∀ ρ S, ∃ r, ms ρ S = r ∧ ∀ src S', r = .ok src S' → src.length = 1) : IterOk X.K ca W (iRng1 (tOfA X.K ca W ms)) ms itemsR [i] (gName i) := by
  intro σ H Rr ρ M S re rs p
  obtain ⟨r, hr, h1⟩ := h1 ρ S
  refine ⟨ρ, M, S, re, rs, ?_⟩
  rw [hr] at p ⊢
  cases r with
  | ex c S' => exact p
  | err => exact p
  | ok src S' =>
    have hlen := h1 src S' rfl
    intro vs M1 H1 e1 rs1 r1
    obtain ⟨M2, S2, src2, its, e2, rs2, r2, hi, wk⟩ := p vs M1 H1 e1 rs1 r1
    rcases itemsR_inv hi with ⟨j, rfl, z1, z2, rfl⟩ | ⟨i', j, rfl, z1, z2, rfl⟩
    · obtain ⟨v, rfl, rv⟩ := r2.inv1
      cases rv
      have hz : (sizeLine : Int) < 2 ^ 62 := by decide
      refine ⟨j, rfl, z1, by omega, wk _ (range_walk (by omega) fun S its h => ?_)⟩
      rcases itemsR_inv h with ⟨j', e, _, _, rfl⟩ | ⟨i', j', e, _⟩
      · cases e; simp
      · cases e
    · have := r1.length; have := r2.length
      simp at *
      omega
theorem cons1_len {a : ME} (ρ : Env) (S : Store) : ∃ r, mCons a mNil ρ S = r ∧ ∀ src S', r = .ok src S' → src.length = 1 := by
  refine ⟨_, rfl, fun src S' h => ?_⟩
  unfold mCons at h
  cases q : a ρ S with
  | ok d S1 => rw [q] at h; cases h; rfl
  | ex c S1 => rw [q] at h; cases h
  | err => rw [q] at h; cases h
abbrev gTwo (K : PySem.W.Frag) (i j : Nat) : TG := gTup K 2 (gCons (gName i) (gCons (gName j) gNil))
theorem two_go {K : PySem.W.Frag} {i j : Nat} {T : Addr} {x y : V} {σ : L2.St} {H : Hp} {Q : L2.St → Hp → Prop} (h : H T = some (.tup [x, y])) (q : Q (setV [i, j] [x, y] σ) H) : gTwo K i j (.ref T) σ H Q :=
  ⟨T, [x, y], rfl, SqT.of h, rfl, x, [y], rfl, y, [], rfl, rfl, q⟩
theorem it_enum {ms : Env → Store → R (List D)} {i j : Nat} : IterOk X.K ca W (iEnum X.K (tOfA X.K ca W ms)) ms itemsE [i, j] (gTwo X.K i j) := by
  intro σ H Rr ρ M S re rs p
  refine ⟨ρ, M, S, re, rs, p.mono ?_⟩
  rintro vs H1 ⟨M1, S1, src, its, e1, rs1, r1, hi, wk⟩
  match src, vs, r1, hi, wk with
  | [d], [v], r1, hi, wk =>
    have hi : (seqL S1 d).map (enumFrom 0) = some its := hi
    cases q : seqL S1 d with
    | none => rw [q] at hi; cases hi
    | some ds =>
      obtain ⟨a, xs, rfl, sq, rl, z⟩ := seq_rep rs1 r1.1 q
      refine ⟨a, xs, rfl, sq, wk _ ⟨fun H2 M2 S2 its2 _ rs2 r2 h2 => ?_, fun H2 M2 S2 its2 j _ rs2 r2 h2 => ?_⟩⟩
      · have h2 : (seqL S2 d).map (enumFrom 0) = some its2 := h2
        cases q2 : seqL S2 d with
        | none => rw [q2] at h2; cases h2
        | some ds2 =>
          rw [q2] at h2; cases h2
          obtain ⟨a2, xs2, e2, sq2, rl2, z2⟩ := seq_rep rs2 r2.1 q2
          have := rl2.length
          rw [enum_len]; omega
      · have h2 : (seqL S2 d).map (enumFrom 0) = some its2 := h2
        cases q2 : seqL S2 d with
        | none => rw [q2] at h2; cases h2
        | some ds2 =>
          rw [q2] at h2; cases h2
          obtain ⟨a2, xs2, e2, sq2, rl2, z2⟩ := seq_rep rs2 r2.1 q2
          cases e2
          have hl := rl2.length
          refine ⟨fun hj => ⟨xs2, sq2, by rw [enum_len] at hj; omega⟩, fun item hit => ?_⟩
          obtain ⟨d2, hd2, rfl⟩ := enum_get hit
          obtain ⟨v, hv, rv⟩ := rl2.get hd2
          refine ⟨⟨xs2, v, sq2, hv⟩, fun x Hx hy => ?_⟩
          obtain ⟨T, x', rfl, hT, rfl, hy⟩ := hy
          have := hy xs2 sq2
          rw [hv] at this; cases this
          refine ⟨ext_new hT _, rs2.new hT _, [.int ((j : Nat) : Int), v], ⟨by rw [Nat.zero_add]; rfl, Rep.ext (ext_new hT _) _ _ rv, trivial⟩, fun σ Q h => two_go upd_same h⟩
theorem itemsZ_inv {d e : D} {S : Store} {its : List (List D)} (h : itemsZ [d, e] S = some its) : ∃ ds es, seqL S d = some ds ∧ seqL S e = some es ∧ its = zipD ds es := by
  have h : (match seqL S d, seqL S e with
    | some ds, some es => some (zipD ds es)
    | _, _ => none) = some its := h
  split at h
  · next ds es h1 h2 => cases h; exact ⟨ds, es, h1, h2, rfl⟩
  · cases h
theorem it_zip {ms : Env → Store → R (List D)} {i j : Nat} : IterOk X.K ca W (iZip X.K (tOfA X.K ca W ms)) ms itemsZ [i, j] (gTwo X.K i j) := by
  intro σ H Rr ρ M S re rs p
  refine ⟨ρ, M, S, re, rs, p.mono ?_⟩
  rintro vs H1 ⟨M1, S1, src, its, e1, rs1, r1, hi, wk⟩
  match src, vs, r1, hi, wk with
  | [d, e], [v, u], r1, hi, wk =>
    obtain ⟨ds, es, q1, q2, rfl⟩ := itemsZ_inv hi
    obtain ⟨a, xs, rfl, sq, rl, z⟩ := seq_rep rs1 r1.1 q1
    obtain ⟨b, ys, rfl, sq', rl', z'⟩ := seq_rep rs1 r1.2.1 q2
    refine ⟨a, b, xs, ys, rfl, sq, sq', wk _ ⟨fun H2 M2 S2 its2 _ rs2 r2 h2 => ?_, fun H2 M2 S2 its2 j _ rs2 r2 h2 => ?_⟩⟩
    · obtain ⟨ds2, es2, q3, q4, rfl⟩ := itemsZ_inv h2
      obtain ⟨a2, xs2, e2, sq2, rl2, z2⟩ := seq_rep rs2 r2.1 q3
      have := rl2.length
      rw [zip_len]; omega
    · obtain ⟨ds2, es2, q3, q4, rfl⟩ := itemsZ_inv h2
      obtain ⟨a2, xs2, e2, sq2, rl2, z2⟩ := seq_rep rs2 r2.1 q3
      obtain ⟨b2, ys2, e3, sq3, rl3, z3⟩ := seq_rep rs2 r2.2.1 q4
      cases e2; cases e3
      have hl := rl2.length
      have hl' := rl3.length
      refine ⟨fun hj => ⟨xs2, ys2, sq2, sq3, by rw [zip_len] at hj; omega⟩, fun item hit => ?_⟩
      obtain ⟨d2, e2, hd2, he2, rfl⟩ := zip_get hit
      obtain ⟨v, hv, rv⟩ := rl2.get hd2
      obtain ⟨u, hu, ru⟩ := rl3.get he2
      refine ⟨⟨xs2, ys2, v, u, sq2, sq3, hv, hu⟩, fun x Hx hy => ?_⟩
      obtain ⟨T, x', y', rfl, hT, rfl, hy, hy'⟩ := hy
      have := hy xs2 sq2
      rw [hv] at this; cases this
      have := hy' ys2 sq3
      rw [hu] at this; cases this
      exact ⟨ext_new hT _, rs2.new hT _, [v, u], ⟨Rep.ext (ext_new hT _) _ _ rv, Rep.ext (ext_new hT _) _ _ ru, trivial⟩, fun σ Q h => two_go upd_same h⟩
/-! ### comprehensions -/
theorem q_comp {elt tgx iter : Expr} {ifs : List Expr} {scope : Scope} {own : List (Str × Nat)} {pos : Pos} {wi : TI} {g : TG} {tt : TT} {args : Env → Store → R (List D)} {items : List D → Store → Option (List (List D))} {tg : List Nat} {cond me : ME} {c : Bool}
    (it : IterOk X.K ca W wi args items tg g) (hown : ∀ i ∈ tg, i ∈ own.map (·.2)) (hc : X.calm = true) (hN : X.N.Nodup) (hi : PI X tgx iter wi) (ok : BlkOk X.N X.env.scope scope own)
    (hg : ∀ (s : Shared) (H : Hp) (C : Addr) (cl : List (Str × Addr)) (fp : List Addr), PG (X.blk s H scope (compEnvC scope cl C X.env) fp) tgx g)
    (hcond : ∀ σ H Q, tOfT X.K ca (fun _ _ _ _ => False) cond σ H Q → tt σ H Q)
    (ht : ∀ (s : Shared) (H : Hp) (C : Addr) (cl : List (Str × Addr)) (fp : List Addr), PTs (X.blk s H scope (compEnvC scope cl C X.env) fp) ifs tt)
    (he : ∀ (s : Shared) (H : Hp) (C : Addr) (cl : List (Str × Addr)) (fp : List Addr), PE (X.blk s H scope (compEnvC scope cl C X.env) fp) elt (tOf X.K ca (fun _ _ _ _ => False) me)) (hs : ∀ x, foldedSetIterable iter X.env x = pure x := by intro _; rfl) :
    PE X (.ListComp elt [⟨tgx, iter, ifs, 0⟩] scope pos) (tOf X.K ca W (mComp c args items tg (own.map (·.2)) cond me)) :=
  weakE (pe_lc hc hN hi ok hg ht he hs) (comp_of it hown hcond fun σ H Q h => h)
theorem c_yes (σ : L2.St) (H : Hp) (Q : Bool → Hp → Prop) : tOfT X.K ca (fun _ _ _ _ => False) (mC (.bl true)) σ H Q → tYes σ H Q := by
  rintro ⟨ρ, M, S, re, rs, p⟩
  exact p true M H (Ext.refl _ _) rs rfl
end
section
variable {X : Cx} {ca : Nat → Addr} {W : XW}
theorem qs_setLc {i : Nat} {y : Str} {py : Pos} {elt tgx iter : Expr} {ifs : List Expr} {scope : Scope} {own : List (Str × Nat)} {pos spos : Pos} {wi : TI} {g : TG} {tt : TT} {args : Env → Store → R (List D)} {items : List D → Store → Option (List (List D))} {tg : List Nat} {cond me : ME} {c : Bool}
    (it : IterOk X.K ca (wx W) wi args items tg g) (hown : ∀ i ∈ tg, i ∈ own.map (·.2)) (hc : X.calm = true) (hN : X.N.Nodup) (hy : X.N[i]? = some y) (hyl : X.env.scope.names.lookup y = some .local)
    (hsw : swapsWith (.ListComp elt [⟨tgx, iter, ifs, 0⟩] scope pos) (some (.Name y py)) spos.line X.env = pure true) (hi : PI X tgx iter wi) (ok : BlkOk X.N X.env.scope scope own)
    (hg : ∀ (s : Shared) (H : Hp) (C : Addr) (cl : List (Str × Addr)) (fp : List Addr), PG (X.blk s H scope (compEnvC scope cl C X.env) fp) tgx g)
    (hcond : ∀ σ H Q, tOfT X.K ca (fun _ _ _ _ => False) cond σ H Q → tt σ H Q)
    (ht : ∀ (s : Shared) (H : Hp) (C : Addr) (cl : List (Str × Addr)) (fp : List Addr), PTs (X.blk s H scope (compEnvC scope cl C X.env) fp) ifs tt)
    (he : ∀ (s : Shared) (H : Hp) (C : Addr) (cl : List (Str × Addr)) (fp : List Addr), PE (X.blk s H scope (compEnvC scope cl C X.env) fp) elt (tOf X.K ca (fun _ _ _ _ => False) me)) (hs : ∀ x, foldedSetIterable iter X.env x = pure x := by intro _; rfl) :
    PS X (.Assign [.Name y py] (.ListComp elt [⟨tgx, iter, ifs, 0⟩] scope pos) spos) (tSOf X.K ca W (sAsg i (mComp c args items tg (own.map (·.2)) cond me))) :=
  weakS (ps_setLc hc hN hy hyl hsw hi ok hg ht he hs) fun De σ H => by
    rintro ⟨ρ, M, S, re, rs, p⟩
    refine comp_of it hown hcond (fun σ H Q h => h) σ H _ ⟨ρ, M, S, re, rs, (post_bindS p).mono ?_⟩
    rintro x H1 ⟨M1, S1, d, e1, rs1, r1, p1⟩
    exact p1 _ M1 H1 (Ext.refl _ _) rs1 ((re.ext e1).set i r1)
end
end Sm
/-! S5: functions: their mirrors, calls, methods, new instances -/
namespace Sm
open PySem PySem.Spec PyProof.Rows L2
open Classical
abbrev Orc := Nat → List D → Store → R D
structure Body where
  cut : Bool
  ar : Nat
  sl : Nat
  code : Orc → Orc → MS
def optAll (f : D → Option D) : List D → Option (List D)
  | [] => some []
  | d :: ds => match f d, optAll f ds with
    | some x, some xs => some (x :: xs)
    | _, _ => none
/-- lists of the def's own that it hands back stand as data from then on -/
noncomputable def dfz (k : Nat) (S' : Store) : Nat → D → Option D
  | 0, d => if Cl k d then some d else none
  | f + 1, d => if Cl k d then some d else match d with
    | .tup ds => (optAll (dfz k S' f) ds).map .tup
    | .lst ds => (optAll (dfz k S' f) ds).map .lst
    | .cell n => (match S'[n]? with
      | some (.lst ds) => if k ≤ n then (optAll (dfz k S' f) ds).map .lst else none
      | _ => none)
    | _ => none
noncomputable def frz (S S' : Store) (d : D) : R D := if S'.take S.length = S then (match dfz S.length S' 5 d with
  | some d' => .ok d' S
  | none => .err) else .err
/-- a def's end: what its own cells held is forgotten where it says so -/
noncomputable def fin (cut : Bool) (S : Store) : R Fl → R D
  | .ok (.rt d) S' => if cut then (if S'.take S.length = S ∧ Cl S.length d then .ok d S else frz S S' d) else .ok d S'
  | .ok (.nx _) S' => if cut then (if S'.take S.length = S then .ok .non S else .err) else .ok .non S'
  | .ex c S' => if cut then (if S'.take S.length = S then .ex c S else .err) else .ex c S'
  | _ => .err
noncomputable def step1 (b : Body) (C I : Orc) (args : List D) (S : Store) : R D :=
  if args.length = b.ar then fin b.cut S (b.code C I (args.map some ++ List.replicate (b.sl - b.ar) none) S) else .err
noncomputable def step (T : Nat → Option Body) (C I : Orc) : Orc := fun f args S => match T f with
  | none => .err
  | some b => step1 b C I args S
def noOrc : Orc := fun _ _ _ => .err
/-- a def's promise, by its mirror -/
def spOf (K : PySem.W.Frag) (ca : Nat → Addr) (F : List D → Store → R D) : Sp := fun vs H Q E => ∃ ds M S, RelS K ca H M S ∧ RepL K ca H M ds vs ∧ Post K ca (rD K ca) H M Q E (F ds S)
section
variable {P : Program} {w : World} {K : PySem.W.Frag} {mg : Str → Option Value} {base : Heap} {ca : Nat → Addr}
theorem env_start {H : Hp} {M : Cells} : ∀ {ds : List D} {vs : List V} (k : Nat), RepL K ca H M ds vs → REnv K ca H M (ds.map some ++ List.replicate k none) (vs.map some ++ List.replicate k none)
  | [], [], 0, _ => trivial
  | [], [], k + 1, h => by
    show REnv K ca H M (none :: List.replicate k none) (none :: List.replicate k none)
    exact env_start (ds := []) (vs := []) k h
  | d :: ds, v :: vs, k, h => ⟨h.1, env_start k h.2⟩
  | [], _ :: _, _, h => h.elim
  | _ :: _, [], _, h => h.elim
theorem optAll_rep {H : Hp} {M M2 : Cells} {f : D → Option D} (h : ∀ d d' v, f d = some d' → Rep K ca H M d v → Rep K ca H M2 d' v) : ∀ {ds ds' : List D} {xs : List V}, optAll f ds = some ds' → RepL K ca H M ds xs → RepL K ca H M2 ds' xs
  | [], ds', [], e, _ => by cases e; trivial
  | d :: ds, ds', x :: xs, e, r => by
    unfold optAll at e
    split at e
    · next y ys h1 h2 =>
      cases e
      exact ⟨h d y x h1 r.1, optAll_rep h h2 r.2⟩
    · cases e
  | [], _, _ :: _, _, r => r.elim
  | _ :: _, _, [], _, r => r.elim
theorem dfz_rep {H H' : Hp} {M M' : Cells} {S S' : Store} (e : Ext H M H' M') (rs : RelS K ca H M S) (rs' : RelS K ca H' M' S') (hs : S'.take S.length = S) : ∀ (f : Nat) (d d' : D) (v : V), dfz S.length S' f d = some d' → Rep K ca H' M' d v → Rep K ca H' M d' v := by
  have hM := cells_same e rs rs' hs
  have nl : ∀ a, ¬ Live M' a → ¬ Live M a := fun a n z => n (live_take (n := M.c.length) (by rw [← hM]; exact z))
  intro f
  induction f with
  | zero =>
    intro d d' v h r
    unfold dfz at h
    split at h
    · next c => cases h; exact forget_rep e rs rs' hs (by rw [rs.len]; exact c) r
    · cases h
  | succ f ih =>
    intro d d' v h r
    unfold dfz at h
    split at h
    · next c => cases h; exact forget_rep e rs rs' hs (by rw [rs.len]; exact c) r
    · split at h
      · next ds _ =>
        obtain ⟨ys, h1, rfl⟩ := Option.map_eq_some_iff.mp h
        obtain ⟨a, xs, rfl, h2, n, q⟩ := r
        exact ⟨a, xs, rfl, h2, nl a n, optAll_rep ih h1 q⟩
      · next ds _ =>
        obtain ⟨ys, h1, rfl⟩ := Option.map_eq_some_iff.mp h
        obtain ⟨a, xs, rfl, h2, n, z, q⟩ := r
        exact ⟨a, xs, rfl, h2, nl a n, z, optAll_rep ih h1 q⟩
      · next n _ =>
        split at h
        · next ds hn =>
          split at h
          · next hk =>
            obtain ⟨ys, h1, rfl⟩ := Option.map_eq_some_iff.mp h
            obtain ⟨y, hy, a, xs, e1, h2, hz, rl⟩ := rs'.cells _ _ hn
            obtain ⟨x, hx, hv⟩ := r
            rw [hy] at hx; cases hx
            have hva := hv a e1
            subst hva e1
            refine ⟨a, xs, rfl, h2, ?_, hz, optAll_rep ih h1 rl⟩
            rintro (⟨i, z⟩ | z)
            · have hi : i < M.c.length := (List.getElem?_eq_some_iff.mp z).1
              have z2 : M'.c[i]? = some (some a) := by
                have z3 : (M'.c.take M.c.length)[i]? = some (some a) := by
                  have : M.c = M'.c.take M.c.length := congrArg Cells.c hM
                  rw [← this]; exact z
                rw [List.getElem?_take, if_pos hi] at z3
                exact z3
              have := rs'.inj i n a z2 hy
              rw [rs.len] at hi; omega
            · rw [← e.hid] at z
              exact (rs'.hid a z).2 ⟨n, hy⟩
          · cases h
        · cases h
      · cases h
theorem fin_ok {H : Hp} {M : Cells} {S : Store} {Q : VK} {E : XW} {cut : Bool} {r : R Fl} (rs : RelS K ca H M S) (p : Post K ca (rD K ca) H M Q E (fin cut S r)) : PostS K ca H M { nx := fun _ H' => Q .non H', rt := Q } E r := by
  cases r with
  | err => exact p
  | ex c S' =>
    unfold fin at p
    cases cut with
    | false => exact p
    | true =>
      simp only [if_true] at p
      split at p
      · next hs =>
        intro M' H' e rs'
        obtain ⟨e2, rs2⟩ := forget e rs rs' hs
        exact p M H' e2 rs2
      · exact p.elim
  | ok f S' =>
    cases f with
    | bk r => exact p.elim
    | ct r => exact p.elim
    | rt d =>
      unfold fin at p
      cases cut with
      | false => exact p
      | true =>
        simp only [if_true] at p
        split at p
        · next hs =>
          intro v M' H' e rs' rv
          obtain ⟨e2, rs2⟩ := forget e rs rs' hs.1
          exact p v M H' e2 rs2 (forget_rep e rs rs' hs.1 (by rw [rs.len]; exact hs.2) rv)
        · unfold frz at p
          split at p
          · next hs =>
            split at p
            · next d' hd =>
              intro v M' H' e rs' rv
              obtain ⟨e2, rs2⟩ := forget e rs rs' hs
              exact p v M H' e2 rs2 (dfz_rep e rs rs' hs 5 d d' v hd rv)
            · exact p.elim
          · exact p.elim
    | nx r =>
      unfold fin at p
      cases cut with
      | false => exact fun σ' M' H' e rs' re' => p .non M' H' e rs' rfl
      | true =>
        simp only [if_true] at p
        split at p
        · next hs =>
          intro σ' M' H' e rs' re'
          obtain ⟨e2, rs2⟩ := forget e rs rs' hs
          exact p .non M H' e2 rs2 rfl
        · exact p.elim
theorem fn_none {f : Addr} {fd : FuncData} {ps : List Str} {n : Nat} : FnOk P w K mg base (L2N.CX P w) n f fd ps (spOf K ca fun _ _ => .err) := by
  have no : ∀ vs H Q E, ¬ spOf K ca (fun _ _ => .err) vs H Q E := fun vs H Q E ⟨ds, M, S, rs, r, p⟩ => p.elim
  exact ⟨fun vs H Q E h => absurd h (no vs H Q E), fun A outer s H args us vs Q E _ _ _ _ h => absurd h (no vs H Q E)⟩
end
/-- a def that stands at a name, with its mirror -/
def FnAt (P : Program) (w : World) (K : PySem.W.Frag) (mg : Str → Option Value) (base : Heap) (ca : Nat → Addr) (n : Nat) (x : Str) (ps : List Str) (F : List D → Store → R D) : Prop :=
  ∃ f fd, FnOk P w K mg base (L2N.CX P w) n f fd ps (spOf K ca F) ∧ mg x = some (.ref f) ∧ PySem.W.keepIn K (.ref f) = true ∧ Binds K fd ps []
/-- a class's method -/
def MtAt (P : Program) (w : World) (K : PySem.W.Frag) (mg : Str → Option Value) (base : Heap) (ca : Nat → Addr) (n : Nat) (c : Nat) (m : Str) (ps : List Str) (F : List D → Store → R D) : Prop :=
  ∃ f fd, FnOk P w K mg base (L2N.CX P w) n f fd ps (spOf K ca F) ∧ Cls K (ca c) ∧ Meth K (ca c) m f ∧ Binds K fd ps []
/-- a class that is made by its name -/
def MkAt (P : Program) (w : World) (K : PySem.W.Frag) (mg : Str → Option Value) (base : Heap) (ca : Nat → Addr) (n : Nat) (x : Str) (c : Nat) (ps : List Str) (dds : List D) (F : List D → Store → R D) : Prop :=
  ∃ f fd ds dvs, FnOk P w K mg base (L2N.CX P w) n f fd ps (spOf K ca F) ∧ Mk K (ca c) f ∧ mg x = some (.ref (ca c)) ∧ Binds K fd ps ds ∧ Vals dvs ds ∧ ∀ H M, RepL K ca H M dds dvs
section
variable {X : Cx} {ca : Nat → Addr} {W : WX} {n : Nat} {x : Str} {ps : List Str} {F : List D → Store → R D}
theorem q_fn {e : Expr} {es : List Expr} {p pos : Pos} {ms : Sm.Env → Store → R (List D)} (c : FnAt X.prog X.w X.K X.mg X.base ca n x ps F) (hr : Room n X.A) (hg : Gl X x) (tk : L2N.Takes X W) (ha : PA X (e :: es) (tOfA X.K ca W ms))
    (hdb : (x == ("__debug__" : Str)) = false := by decide) (he : starEach (e :: es) X.env = (false, eval e X.env) :: starEach es X.env := by rfl) (hpl : (backTo pos (starEach es X.env)).any (·.1) = false := by rfl) :
    PE X (.Call (.Name x p) (e :: es) [] pos) (tOf X.K ca W (mN (fun S ds => F ds S) ms)) := by
  obtain ⟨f, fd, Fk, hm, hk, hb⟩ := c
  refine weakE (pe_callSD (E := WE W) Fk hr hg hm hk hb .nil (L2N.passAt tk) ha hdb he hpl) fun σ H Q => ?_
  rintro ⟨ρ, M, S, re, rs, q⟩
  refine ⟨ρ, M, S, re, rs, (post_bind q).mono ?_⟩
  rintro vs H1 ⟨M1, S1, ds, e1, rs1, r1, p1⟩
  refine ⟨ds, M1, S1, rs1, by rw [List.append_nil]; exact r1, p1⟩
/-- an instance that is read -/
def objOf (S : Store) : D → Option (Nat × List Str × List D)
  | .obj c ns ds => some (c, ns, ds)
  | .cell n => match S[n]? with
    | some (.ins c ns ds) => some (c, ns, ds)
    | _ => none
  | _ => none
@[simp] theorem objOf_obj (S : Store) (c : Nat) (ns : List Str) (ds : List D) : objOf S (.obj c ns ds) = some (c, ns, ds) := rfl
theorem obj_rep {K : PySem.W.Frag} {H : Hp} {M : Cells} {S : Store} (rs : RelS K ca H M S) {d : D} {v : V} {c : Nat} {ns : List Str} {ds : List D} (r : Rep K ca H M d v) (h : objOf S d = some (c, ns, ds)) :
    ∃ a dx fs, v = .ref a ∧ H a = some (.ins (ca c) dx fs) ∧ fs.map (·.1) = ns ∧ RepL K ca H M ds (fs.map (·.2)) := by
  cases d with
  | obj c' ns' ds' =>
    cases h
    obtain ⟨a, dx, fs, e, h1, n, z, q⟩ := r
    exact ⟨a, dx, fs, e, h1, z, q⟩
  | cell k =>
    have h : (match S[k]? with
      | some (.ins c ns ds) => some (c, ns, ds)
      | _ => none) = some (c, ns, ds) := h
    split at h
    · next c' ns' ds' e =>
      cases h
      obtain ⟨x, hx, q⟩ := r
      obtain ⟨y, hy, a, dx, fs, e1, h1, z, q2⟩ := rs.cells k _ e
      rw [hx] at hy; cases hy
      exact ⟨a, dx, fs, q a e1, h1, z, q2⟩
    · cases h
  | non => cases h
  | bl _ => cases h
  | int _ => cases h
  | str _ => cases h
  | tup _ => cases h
  | lst _ => cases h
  | scr _ => cases h
  | exc _ => cases h
noncomputable def mMeth (c : Nat) (m : Str) (F : List D → Store → R D) (o : ME) (args : Sm.Env → Store → R (List D)) : ME := fun ρ S => (o ρ S).bind fun d S1 => match objOf S1 d with
  | some (c', ns, _) => if c' = c ∧ m ∉ ns then (args ρ S1).bind fun ds S2 => F (d :: ds) S2 else .err
  | none => .err
end
/-! ### a new instance -/
section
variable {X : Cx} {CX : CXT} {k : Nat} {f C : Addr} {fd : FuncData} {ps : List Str} {sp : Sp} {dvs : List V} {ds : List Value} {E : L2.St → XK} {x : Str} {p pos : Pos} {e : Expr} {es : List Expr} {t : TA}
def tMakeSD (C : Addr) (sp : Sp) (dvs : List V) (E : L2.St → XK) (t : TA) : TE := fun σ H Q => t σ H fun vs H1 => ∀ x dx, H1 x = none → H1 dx = none → dx ≠ x →
  sp (.ref x :: (vs ++ dvs)) (upd (upd H1 dx (.own x)) x (.ins C dx [])) (fun v H2 => v = .non ∧ Q (.ref x) H2) (E σ)
theorem run_makeSD {pins : List (Addr × Obj)} {σ : L2.St} {H : Hp} {s : Shared} {Q : VK} {us : List Value} {vs : List V} (M : Mk X.K C f) (F : FnOk X.prog X.w X.K X.mg X.base CX k f fd ps sp) (hr : Room (k + 1) X.A) (hb : Binds X.K fd ps ds) (hd : Vals dvs ds)
    (hx : PassesAt CX X σ (E σ)) (I : Inv X pins σ H s) (r : Vals vs us)
    (h : ∀ x dx, H x = none → H dx = none → dx ≠ x → sp (.ref x :: (vs ++ dvs)) (upd (upd H dx (.own x)) x (.ins C dx [])) (fun v H2 => v = .non ∧ Q (.ref x) H2) (E σ)) :
    wpAny (model X.prog X.w) X.A (call (.ref C) us) (EP X pins σ Q) X.xe s := by
  have hq := h (s.heap.objs.size + 1) s.heap.objs.size (I.hok.fresh (Nat.le_succ _)) (I.hok.fresh (Nat.le_refl _)) (Nat.ne_of_lt (Nat.lt_succ_self _))
  have I2 := Inv.made (C := C) I
  have r2 : Vals (V.ref (s.heap.objs.size + 1) :: (vs ++ dvs)) (Value.ref (s.heap.objs.size + 1) :: (us ++ ds)) := .cons rfl (r.append hd)
  have hl : (Value.ref (s.heap.objs.size + 1) :: us ++ ds).length = ps.length := by
    have e := r2.length
    rw [F.len _ _ _ _ hq] at e
    exact e.symm
  refine wpAny_call (make_map (f := f) I.kIn M.makes M.init (beq_iff_eq.mp M.fn) (codeAny_mono (F.run _ X.stack _ _ ⟨Value.ref (s.heap.objs.size + 1) :: us, []⟩ (Value.ref (s.heap.objs.size + 1) :: (us ++ ds)) _ _ (E σ) (hr.make C us [])
    (I2.env0.make C us []) (hb _ (Value.ref (s.heap.objs.size + 1) :: us) I2.kIn hl) r2 hq) fun r s' hq' => ?_))
  cases r with
  | error e => exact hx pins _ _ e s' I2 hq'
  | ok fl =>
    cases fl with
    | ret u =>
      obtain ⟨v, H', I3, rv, ev, q3⟩ := I2.after hq'
      subst ev
      exact ⟨rv, ⟨V.ref (s.heap.objs.size + 1), H', I3, rfl, q3⟩⟩
    | next => exact False.elim hq'
    | brk => exact False.elim hq'
    | cont => exact False.elim hq'
theorem pe_makeSD (M : Mk X.K C f) (F : FnOk X.prog X.w X.K X.mg X.base CX k f fd ps sp) (hr : Room (k + 1) X.A) (hg : Gl X x) (hm : X.mg x = some (.ref C)) (hb : Binds X.K fd ps ds) (hd : Vals dvs ds) (hx : ∀ σ, PassesAt CX X σ (E σ))
    (ha : PA X (e :: es) t) (hdb : (x == ("__debug__" : Str)) = false := by decide) (he : starEach (e :: es) X.env = (false, eval e X.env) :: starEach es X.env := by rfl) (hpl : (backTo pos (starEach es X.env)).any (·.1) = false := by rfl) :
    PE X (.Call (.Name x p) (e :: es) [] pos) (tMakeSD C sp dvs E t) := by
  refine ⟨fun pins s σ H Q I h => ?_⟩
  refine wpAny_Call_Name_kw (ld_glob I hg hm ?_ hdb)
  refine PySem.W.callWith_K (h₀ := X.base) I.ok.mod.kin M.kp (thn (ha.run pos pins s σ H _ I h) fun us s1 ⟨vs, H1, I1, r, q⟩ => ⟨I1.kIn, ?_⟩) he hpl
  exact run_makeSD M F hr hb hd (hx σ) I1 r q
end
/-- what __init__ has made: data (fz), or a cell -/
noncomputable def made (fz : Bool) (S : Store) : R D → R D
  | .ok .non S' => if fz then (match S'[S.length]? with
      | some (.ins c ns ds) => if S'.length = S.length + 1 ∧ S'.take S.length = S ∧ ClL S.length ds then .ok (.obj c ns ds) S else .err
      | _ => .err) else .ok (.cell S.length) S'
  | .ex c S' => if fz then (if S'.take S.length = S then .ex c S else .err) else .ex c S'
  | _ => .err
noncomputable def mMake (c : Nat) (fz : Bool) (F : List D → Store → R D) (dds : List D) (args : Sm.Env → Store → R (List D)) : ME := fun ρ S => (args ρ S).bind fun ds S1 =>
  made fz S1 (F (.cell S1.length :: (ds ++ dds)) (S1 ++ [.ins c [] []]))
section
variable {X : Cx} {ca : Nat → Addr} {W : WX} {n c : Nat} {x : Str} {ps : List Str} {F : List D → Store → R D} {dds : List D}
theorem cell_new {K : PySem.W.Frag} {H : Hp} {M : Cells} {S : Store} {a dx : Addr} (rs : RelS K ca H M S) (ha : H a = none) (hd : H dx = none) (hn : dx ≠ a) :
    Ext H M (upd (upd H dx (.own a)) a (.ins (ca c) dx [])) (M.push a) ∧ RelS K ca (upd (upd H dx (.own a)) a (.ins (ca c) dx [])) (M.push a) (S ++ [.ins c [] []]) := by
  have h2 : (upd H dx (.own a)) a = none := by rw [upd_ne hn.symm]; exact ha
  have e1 := ext_new (M := M) hd (.own a)
  have r1 := rs.new hd (.own a)
  exact ⟨e1.trans (ext_cell h2 _), r1.cell h2 _ ⟨a, dx, [], rfl, upd_same, rfl, trivial⟩⟩
theorem made_ok {K : PySem.W.Frag} {H : Hp} {M : Cells} {S : Store} {a dx : Addr} {fz : Bool} {r : R D} {Q : VK} {E : XW} (rs : RelS K ca H M S) (ha : H a = none) (hd : H dx = none) (hn : dx ≠ a) (p : Post K ca (rD K ca) H M Q E (made fz S r)) :
    Post K ca (rD K ca) (upd (upd H dx (.own a)) a (.ins (ca c) dx [])) (M.push a) (fun v H2 => v = .non ∧ Q (.ref a) H2) E r := by
  obtain ⟨e0, r0⟩ := cell_new (c := c) rs ha hd hn
  have at0 : (M.push a).c[S.length]? = some (some a) := by show (M.c ++ [some a])[S.length]? = _; rw [← rs.len]; simp
  have hl0 : S.length < (M.push a).c.length := by show S.length < (M.c ++ [some a]).length; simp [rs.len]
  cases r with
  | err => exact p.elim
  | ex c' S' =>
    unfold made at p
    cases fz with
    | false => exact fun M' H' e rs' => p M' H' (e0.trans e) rs'
    | true =>
      simp only [if_true] at p
      split at p
      · next hs =>
        intro M' H' e rs'
        obtain ⟨e2, rs2⟩ := forget (e0.trans e) rs rs' hs
        exact p M H' e2 rs2
      · exact p.elim
  | ok d S' =>
    cases d <;> first | exact p.elim | skip
    unfold made at p
    intro v M' H' e rs' rv
    refine ⟨rv, ?_⟩
    have atM : M'.c[S.length]? = some (some a) ∨ M'.c[S.length]? = some none := by
      rcases e.old _ hl0 with z | z
      · exact .inl (z.trans at0)
      · exact .inr z
    cases fz with
    | false =>
      refine p (.ref a) M' H' (e0.trans e) rs' ?_
      rcases atM with z | z
      · exact ⟨_, z, fun b q => by cases q; rfl⟩
      · exact ⟨_, z, fun b q => nomatch q⟩
    | true =>
      simp only [if_true] at p
      split at p
      · next c' ns ds hins =>
        split at p
        · next hs =>
          obtain ⟨hlen, htake, hcl⟩ := hs
          obtain ⟨y, hy, b, dx', fs, e1, h1, hns, rl⟩ := rs'.cells _ _ hins
          subst e1
          have hb : b = a := by
            rcases atM with z | z
            · rw [hy] at z; cases z; rfl
            · rw [hy] at z; cases z
          subst hb
          -- the cell dies
          have rd := rs'.die (n := S.length)
          have ed := ext_die (H := H') (M := M') (n := S.length)
          have tk : (S'.set S.length .dead).take S.length = S := by rw [List.take_set_of_le (Nat.le_refl _)]; exact htake
          obtain ⟨e2, rs2⟩ := forget ((e0.trans e).trans ed) rs rd tk
          refine p (.ref b) M H' e2 rs2 ?_
          refine forget_rep (S' := S'.set S.length .dead) ((e0.trans e).trans ed) rs rd tk (by rw [rs.len]; exact hcl) ?_
          exact ⟨b, dx', fs, rfl, h1, notLive_die rs' hy, hns, RepL.ext ed _ _ rl⟩
        · exact p.elim
      · exact p.elim
theorem q_make {e : Expr} {es : List Expr} {p pos : Pos} {fz : Bool} {ms : Sm.Env → Store → R (List D)} (k : MkAt X.prog X.w X.K X.mg X.base ca n x c ps dds F) (hr : Room (n + 1) X.A) (hg : Gl X x) (tk : L2N.Takes X W) (ha : PA X (e :: es) (tOfA X.K ca W ms))
    (hdb : (x == ("__debug__" : Str)) = false := by decide) (he : starEach (e :: es) X.env = (false, eval e X.env) :: starEach es X.env := by rfl) (hpl : (backTo pos (starEach es X.env)).any (·.1) = false := by rfl) :
    PE X (.Call (.Name x p) (e :: es) [] pos) (tOf X.K ca W (mMake c fz F dds ms)) := by
  obtain ⟨f, fd, ds, dvs, Fk, Mk, hm, hb, hd, rd⟩ := k
  refine weakE (pe_makeSD (E := WE W) Mk Fk hr hg hm hb hd (L2N.passAt tk) ha hdb he hpl) fun σ H Q => ?_
  rintro ⟨ρ, M, S, re, rs, q⟩
  refine ⟨ρ, M, S, re, rs, (post_bind q).mono ?_⟩
  rintro vs H1 ⟨M1, S1, es, e1, rs1, r1, p1⟩
  intro a dx ha' hd' hn
  obtain ⟨e0, r0⟩ := cell_new (c := c) rs1 ha' hd' hn
  have hcell : Rep X.K ca (upd (upd H1 dx (.own a)) a (.ins (ca c) dx [])) (M1.push a) (D.cell S1.length) (V.ref a) :=
    ⟨some a, by show (M1.c ++ [some a])[S1.length]? = _; rw [← rs1.len]; simp, fun b q => by cases q; rfl⟩
  have hrep : RepL X.K ca (upd (upd H1 dx (.own a)) a (.ins (ca c) dx [])) (M1.push a) (D.cell S1.length :: (es ++ dds)) (V.ref a :: (vs ++ dvs)) := ⟨hcell, RepL.ext e0 _ _ (r1.app (rd _ _))⟩
  exact ⟨_, M1.push a, _, r0, hrep, made_ok rs1 ha' hd' hn p1⟩
end
end Sm
/-! S6: the operations -/
namespace Sm
open PySem PySem.Spec PyProof.Rows L2
open Classical
/-- a list that stands in the heap as itself -/
def seqP (S : Store) : D → Option (List D)
  | .lst ds => some ds
  | .cell n => match S[n]? with
    | some (.lst ds) => some ds
    | _ => none
  | _ => none
@[simp] theorem seqP_lst (S : Store) (ds : List D) : seqP S (.lst ds) = some ds := rfl
section
variable {K : PySem.W.Frag} {ca : Nat → Addr} {H : Hp} {M : Cells} {S : Store}
theorem seqP_rep (rs : RelS K ca H M S) {d : D} {v : V} {ds : List D} (r : Rep K ca H M d v) (h : seqP S d = some ds) : ∃ a xs, v = .ref a ∧ H a = some (.lst xs) ∧ RepL K ca H M ds xs ∧ xs.length ≤ sizeLine := by
  cases d with
  | lst es =>
    cases h
    obtain ⟨a, xs, e, h1, n, z, q⟩ := r
    exact ⟨a, xs, e, h1, q, z⟩
  | cell n =>
    have h : (match S[n]? with
      | some (.lst ds) => some ds
      | _ => none) = some ds := h
    split at h
    · next es e =>
      cases h
      obtain ⟨a, xs, hm, h1, z, q⟩ := rs.lst e
      obtain ⟨x, hx, hv⟩ := r
      rw [hm] at hx; cases hx
      exact ⟨a, xs, hv a rfl, h1, q, z⟩
    · cases h
  | non => cases h
  | bl _ => cases h
  | int _ => cases h
  | str _ => cases h
  | tup _ => cases h
  | obj _ _ _ => cases h
  | scr _ => cases h
  | exc _ => cases h
end
/-! ### arithmetic -/
def oAdd (c : Bool) (S : Store) (d e : D) : R D := match d, e with
  | .int i, .int j => .ok (.int (i + j)) S
  | .str x, .str y => if x.length + y.length ≤ sizeLine then .ok (.str (x ++ y)) S else .err
  | _, _ => match seqP S d, seqP S e with
    | some ds, some es => if ds.length + es.length ≤ sizeLine then finL c (ds ++ es) S else .err
    | _, _ => .err
def oSub (S : Store) (d e : D) : R D := match d, e with
  | .int i, .int j => .ok (.int (i - j)) S
  | _, _ => .err
def oMul (c : Bool) (S : Store) (d e : D) : R D := match d, e with
  | .int i, .int j => if (-(2 ^ 64) < i ∧ i < 2 ^ 64) ∨ (-(2 ^ 64) < j ∧ j < 2 ^ 64) then .ok (.int (i * j)) S else .err
  | _, .int k => match seqP S d with
    | some ds => if -(2 ^ 63) ≤ k ∧ k < 2 ^ 63 ∧ ds.length * k.toNat ≤ sizeLine then finL c (List.replicate k.toNat ds).flatten S else .err
    | none => .err
  | _, _ => .err
def oDiv (S : Store) (d e : D) : R D := match d, e with
  | .int i, .int j => if 0 < j ∧ j < 1073741824 then .ok (.int (i / j)) S else .err
  | _, _ => .err
def oMod (S : Store) (d e : D) : R D := match d, e with
  | .int i, .int j => if 0 < j then .ok (.int (i % j)) S else .err
  | _, _ => .err
def oPow (S : Store) (d e : D) : R D := match d, e with
  | .int i, .int j => if 0 ≤ j ∧ j ≤ 1000000 ∧ i.natAbs < 2 ^ 64 then .ok (.int (i ^ j.toNat)) S else .err
  | _, _ => .err
def oNeg (S : Store) (d : D) : R D := match d with
  | .int i => .ok (.int (-i)) S
  | _ => .err
section
variable {X : Cx} {ca : Nat → Addr}
theorem one_ok {K : PySem.W.Frag} {H : Hp} {M : Cells} {S : Store} {Q : VK} {W : XW} {d : D} {v : V} (p : Post K ca (rD K ca) H M Q W (.ok d S)) (rs : RelS K ca H M S) (r : Rep K ca H M d v) : Q v H := p v M H (Ext.refl _ _) rs r
abbrev rAddA : R2 := fun x y H Q => rI0 (fun i j => .int (i + j)) x y H Q ∨ ((∃ i j, x = .str i ∧ y = .str j ∧ i.length + j.length ≤ sizeLine ∧ Q (.str (i ++ j)) H) ∨ rCat x y H Q)
theorem or_add : OpR X (binaryOp .Add) rAddA := op_add.or (op_add_str.or op_cat)
theorem s_add {K : PySem.W.Frag} (c : Bool) : Sound2 K ca rAddA (oAdd c) := by
  intro H M S x y d e Q W rs rx ry p
  unfold oAdd at p
  split at p
  · cases rx; cases ry
    exact .inl ⟨_, _, rfl, rfl, one_ok p rs rfl⟩
  · split at p
    · next z => cases rx; cases ry; exact .inr (.inl ⟨_, _, rfl, rfl, z, one_ok p rs rfl⟩)
    · exact p.elim
  · split at p
    · next ds es h1 h2 =>
      split at p
      · next z =>
        obtain ⟨a, xs, rfl, ha, ra, za⟩ := seqP_rep rs rx h1
        obtain ⟨b, ys, rfl, hb, rb, zb⟩ := seqP_rep rs ry h2
        have l1 := ra.length; have l2 := rb.length
        refine .inr (.inr ⟨a, b, xs, ys, rfl, rfl, ha, hb, by omega, fun q hq => finL_new p rs hq (by rw [List.length_append]; omega) (ra.app rb)⟩)
      · exact p.elim
    · exact p.elim
theorem s_sub {K : PySem.W.Frag} : Sound2 K ca (rI0 fun i j => .int (i - j)) oSub := by
  intro H M S x y d e Q W rs rx ry p
  unfold oSub at p
  split at p
  · cases rx; cases ry; exact ⟨_, _, rfl, rfl, one_ok p rs rfl⟩
  · exact p.elim
abbrev rMulA : R2 := fun x y H Q => rI CMul (fun i j => .int (i * j)) x y H Q ∨ rRep x y H Q
theorem or_mul : OpR X (binaryOp .Mult) rMulA := op_mul.or op_rep
theorem repl_rep {K : PySem.W.Frag} {H : Hp} {M : Cells} {ds : List D} {xs : List V} (r : RepL K ca H M ds xs) : ∀ k : Nat, RepL K ca H M (List.replicate k ds).flatten (List.replicate k xs).flatten
  | 0 => trivial
  | k + 1 => by rw [List.replicate_succ, List.replicate_succ, List.flatten_cons, List.flatten_cons]; exact r.app (repl_rep r k)
theorem s_mul {K : PySem.W.Frag} (c : Bool) : Sound2 K ca rMulA (oMul c) := by
  intro H M S x y d e Q W rs rx ry p
  unfold oMul at p
  split at p
  · split at p
    · next z => cases rx; cases ry; exact .inl ⟨_, _, rfl, rfl, z, one_ok p rs rfl⟩
    · exact p.elim
  · next k _ =>
    split at p
    · next ds h1 =>
      split at p
      · next z =>
        obtain ⟨a, xs, rfl, ha, ra, za⟩ := seqP_rep rs rx h1
        cases ry
        have l1 := ra.length
        refine .inr ⟨a, k, xs, rfl, rfl, ha, z.1, z.2.1, by rw [← l1]; exact z.2.2, fun q hq => finL_new p rs hq ?_ (repl_rep ra _)⟩
        have : (List.replicate k.toNat xs).flatten.length = xs.length * k.toNat := by simp [Nat.mul_comm]
        rw [this, ← l1]; exact z.2.2
      · exact p.elim
    · exact p.elim
  · exact p.elim
theorem s_div {K : PySem.W.Frag} : Sound2 K ca (rI CDiv fun i j => .int (i / j)) oDiv := by
  intro H M S x y d e Q W rs rx ry p
  unfold oDiv at p
  split at p
  · split at p
    · next z => cases rx; cases ry; exact ⟨_, _, rfl, rfl, z, one_ok p rs rfl⟩
    · exact p.elim
  · exact p.elim
theorem s_mod {K : PySem.W.Frag} : Sound2 K ca (rI (fun _ j => 0 < j) fun i j => .int (i % j)) oMod := by
  intro H M S x y d e Q W rs rx ry p
  unfold oMod at p
  split at p
  · split at p
    · next z => cases rx; cases ry; exact ⟨_, _, rfl, rfl, z, one_ok p rs rfl⟩
    · exact p.elim
  · exact p.elim
theorem s_pow {K : PySem.W.Frag} : Sound2 K ca (rI CPow fun i j => .int (i ^ j.toNat)) oPow := by
  intro H M S x y d e Q W rs rx ry p
  unfold oPow at p
  split at p
  · split at p
    · next z => cases rx; cases ry; exact ⟨_, _, rfl, rfl, z, one_ok p rs rfl⟩
    · exact p.elim
  · exact p.elim
theorem s_neg {K : PySem.W.Frag} : Sound1 K ca (rU fun i => .int (-i)) oNeg := by
  intro H M S x d Q W rs rx p
  unfold oNeg at p
  split at p
  · cases rx; exact ⟨_, rfl, one_ok p rs rfl⟩
  · exact p.elim
end
/-! ### comparisons -/
/-! plain data -/
mutual
def okD : D → Bool
  | .non => true
  | .bl _ => true
  | .int _ => true
  | .str _ => true
  | .tup ds => okL ds
  | .lst ds => okL ds
  | _ => false
def okL : List D → Bool
  | [] => true
  | d :: ds => okD d && okL ds
end
mutual
def pyD : D → PyData
  | .bl b => .bool b
  | .int i => .int i
  | .str x => .str x
  | .tup ds => .tuple (pyL ds)
  | .lst ds => .list (pyL ds)
  | _ => .none
def pyL : List D → List PyData
  | [] => []
  | d :: ds => pyD d :: pyL ds
end
def deref (S : Store) (d : D) : D := match seqL S d with
  | some ds => .lst ds
  | none => d
/-- == of data -/
def eqD (d e : D) : Bool := PyData.eqv (pyD d) (pyD e)
def fit (d : D) : Bool := okD d && SeqAt.shaped (pyD d)
def twoS (d e : D) : Option Bool := match d, e with
  | .str x, .str y => some (decide (x = y))
  | _, _ => none
def oEq (S : Store) (d e : D) : R D := match twoS d e with
  | some b => .ok (.bl b) S
  | none => if fit (deref S d) && fit (deref S e) then .ok (.bl (eqD (deref S d) (deref S e))) S else .err
def oNe (S : Store) (d e : D) : R D := match twoS d e with
  | some b => .ok (.bl (!b)) S
  | none => if fit (deref S d) && fit (deref S e) then .ok (.bl (!eqD (deref S d) (deref S e))) S else .err
def oCmp (p : Int → Int → Bool) (S : Store) (d e : D) : R D := match d, e with
  | .int i, .int j => .ok (.bl (p i j)) S
  | _, _ => .err
def oIsN (S : Store) (d e : D) : R D := match e with
  | .non => match d with
    | .non => .ok (.bl true) S
    | .exc _ => .err
    | .cell n => match S[n]? with
      | some .dead => .err
      | none => .err
      | _ => .ok (.bl false) S
    | _ => .ok (.bl false) S
  | .bl b => match d with
    | .bl a => .ok (.bl (decide (a = b))) S
    | _ => .err
  | _ => .err
def oNotN (S : Store) (d e : D) : R D := match oIsN S d e with
  | .ok (.bl b) S => .ok (.bl (!b)) S
  | _ => .err
section
variable {X : Cx} {ca : Nat → Addr}
mutual
theorem dp_of {K : PySem.W.Frag} {H : Hp} {M : Cells} : ∀ (d : D) (v : V), Rep K ca H M d v → okD d = true → Dp K H v (pyD d)
  | .non, v, r, _ => by cases r; exact .non
  | .bl _, v, r, _ => by cases r; exact .bl _
  | .int _, v, r, _ => by cases r; exact .int _
  | .str _, v, r, _ => by cases r; exact .str _
  | .tup ds, v, r, h => by
    obtain ⟨a, xs, rfl, h1, n, q⟩ := r
    exact .tup (SqT.of h1) (dp_all ds xs q h)
  | .lst ds, v, r, h => by
    obtain ⟨a, xs, rfl, h1, n, z, q⟩ := r
    exact .lst (SqL.of h1) (dp_all ds xs q h)
  | .obj _ _ _, _, _, h => by cases h
  | .cell _, _, _, h => by cases h
  | .scr _, _, _, h => by cases h
  | .exc _, _, _, h => by cases h
theorem dp_all {K : PySem.W.Frag} {H : Hp} {M : Cells} : ∀ (ds : List D) (vs : List V), RepL K ca H M ds vs → okL ds = true → DpAll K H vs (pyL ds)
  | [], [], _, _ => .nil
  | d :: ds, v :: vs, r, h => by
    have h : (okD d && okL ds) = true := h
    rw [Bool.and_eq_true] at h
    exact .cons (dp_of d v r.1 h.1) (dp_all ds vs r.2 h.2)
  | [], _ :: _, r, _ => r.elim
  | _ :: _, [], r, _ => r.elim
end
theorem dp_deref {K : PySem.W.Frag} {H : Hp} {M : Cells} {S : Store} (rs : RelS K ca H M S) {d : D} {v : V} (r : Rep K ca H M d v) (h : fit (deref S d) = true) : Dp K H v (pyD (deref S d)) ∧ SeqAt.shaped (pyD (deref S d)) = true := by
  unfold fit at h
  rw [Bool.and_eq_true] at h
  refine ⟨?_, h.2⟩
  have h := h.1
  unfold deref at h ⊢
  split at h
  · next ds e =>
    obtain ⟨a, xs, rfl, sq, rl, z⟩ := seq_rep rs r e
    exact .lst sq (dp_all ds xs rl h)
  · exact dp_of d v r h
theorem twoS_rep {K : PySem.W.Frag} {H : Hp} {M : Cells} {x y : V} {d e : D} {b : Bool} (rx : Rep K ca H M d x) (ry : Rep K ca H M e y) (h : twoS d e = some b) : ∃ i j, x = .str i ∧ y = .str j ∧ b = decide (V.str i = V.str j) := by
  unfold twoS at h
  split at h
  · next i j =>
    cases h; cases rx; cases ry
    refine ⟨i, j, rfl, rfl, ?_⟩
    by_cases q : i = j
    · subst q; simp
    · simp [q]
  · cases h
abbrev rEqA (K : PySem.W.Frag) : R2 := fun x y H Q => rEq x y H Q ∨ rEqD K x y H Q
abbrev rNeA (K : PySem.W.Frag) : R2 := fun x y H Q => rNe x y H Q ∨ rNeD K x y H Q
theorem or_eq (hu : X.A.units + 64 < cLine) : OpR X (compareOp .Eq) (rEqA X.K) := op_eq.or (op_eqD hu)
theorem or_ne (hu : X.A.units + 64 < cLine) : OpR X (compareOp .NotEq) (rNeA X.K) := op_ne.or (op_neD hu)
theorem s_eq {K : PySem.W.Frag} : Sound2 K ca (rEqA K) oEq := by
  intro H M S x y d e Q W rs rx ry p
  unfold oEq at p
  split at p
  · next b hb =>
    obtain ⟨i, j, rfl, rfl, rfl⟩ := twoS_rep rx ry hb
    exact .inl ⟨rfl, one_ok p rs rfl⟩
  refine .inr ?_
  split at p
  · next z =>
    rw [Bool.and_eq_true] at z
    obtain ⟨h1, h2⟩ := dp_deref rs rx z.1
    obtain ⟨h3, h4⟩ := dp_deref rs ry z.2
    exact ⟨_, _, h1, h3, h2, h4, one_ok p rs rfl⟩
  · exact p.elim
theorem s_ne {K : PySem.W.Frag} : Sound2 K ca (rNeA K) oNe := by
  intro H M S x y d e Q W rs rx ry p
  unfold oNe at p
  split at p
  · next b hb =>
    obtain ⟨i, j, rfl, rfl, rfl⟩ := twoS_rep rx ry hb
    exact .inl ⟨rfl, one_ok p rs rfl⟩
  refine .inr ?_
  split at p
  · next z =>
    rw [Bool.and_eq_true] at z
    obtain ⟨h1, h2⟩ := dp_deref rs rx z.1
    obtain ⟨h3, h4⟩ := dp_deref rs ry z.2
    exact ⟨_, _, h1, h3, h2, h4, one_ok p rs rfl⟩
  · exact p.elim
theorem s_cmp {K : PySem.W.Frag} (f : Int → Int → Bool) : Sound2 K ca (rI0 fun i j => .bl (f i j)) (oCmp f) := by
  intro H M S x y d e Q W rs rx ry p
  unfold oCmp at p
  split at p
  · cases rx; cases ry; exact ⟨_, _, rfl, rfl, one_ok p rs rfl⟩
  · exact p.elim
abbrev rNotA : R2 := fun x y H Q => (y = .non ∧ Q (.bl (!decide (x = .non))) H) ∨ rNotB x y H Q
theorem or_isnot : OpR X (compareOp .IsNot) rNotA := op_notN.or op_notBl
theorem isn_core {K : PySem.W.Frag} {H : Hp} {M : Cells} {S S' : Store} {x y : V} {d e : D} {r : D} (rs : RelS K ca H M S) (rx : Rep K ca H M d x) (ry : Rep K ca H M e y) (h : oIsN S d e = .ok r S') :
    S' = S ∧ ((y = .non ∧ r = .bl (decide (x = .non))) ∨ ∃ a b, x = .bl a ∧ y = .bl b ∧ r = .bl (decide (a = b))) := by
  unfold oIsN at h
  split at h
  · cases ry
    have nr : ∀ a, V.ref a ≠ V.non := fun a q => nomatch q
    split at h
    · cases rx; cases h; exact ⟨rfl, .inl ⟨rfl, rfl⟩⟩
    · cases h
    · next n =>
      split at h
      · cases h
      · cases h
      · next k hk1 hk2 =>
        cases h
        obtain ⟨z, hz, q⟩ := rx
        refine ⟨rfl, .inl ⟨rfl, ?_⟩⟩
        cases hmo : S[n]? with
        | none => exact (hk2 hmo).elim
        | some mo =>
          obtain ⟨z', hz', c⟩ := rs.cells n mo hmo
          rw [hz] at hz'; cases hz'
          have : ∃ a, z = some a := by
            cases mo with
            | dead => exact absurd hmo hk1
            | lst _ => obtain ⟨a, _, e, _⟩ := c; exact ⟨a, e⟩
            | dk _ => obtain ⟨a, _, e, _⟩ := c; exact ⟨a, e⟩
            | dt _ => obtain ⟨a, _, e, _⟩ := c; exact ⟨a, e⟩
            | ins _ _ _ => obtain ⟨a, _, _, e, _⟩ := c; exact ⟨a, e⟩
            | fk _ => obtain ⟨a, _, _, e, _⟩ := c; exact ⟨a, e⟩
            | ft _ => obtain ⟨a, _, _, e, _⟩ := c; exact ⟨a, e⟩
          obtain ⟨a, ea⟩ := this
          rw [q a ea]; rfl
    · next h1 h2 h3 =>
      cases h
      refine ⟨rfl, .inl ⟨rfl, ?_⟩⟩
      cases d with
      | non => exact absurd rfl h1
      | exc _ => exact absurd rfl (h2 _)
      | cell _ => exact absurd rfl (h3 _)
      | bl _ => cases rx; rfl
      | int _ => cases rx; rfl
      | str _ => cases rx; rfl
      | tup _ => obtain ⟨a, _, rfl, _⟩ := rx; rfl
      | lst _ => obtain ⟨a, _, rfl, _⟩ := rx; rfl
      | obj _ _ _ => obtain ⟨a, _, _, rfl, _⟩ := rx; rfl
      | scr _ => obtain ⟨a, rfl, _⟩ := rx; rfl
  · split at h
    · cases h; cases rx; cases ry; exact ⟨rfl, .inr ⟨_, _, rfl, rfl, rfl⟩⟩
    · cases h
  · cases h
theorem s_isnot {K : PySem.W.Frag} : Sound2 K ca rNotA oNotN := by
  intro H M S x y d e Q W rs rx ry p
  unfold oNotN at p
  split at p
  · next b S' h =>
    obtain ⟨rfl, q⟩ := isn_core rs rx ry h
    rcases q with ⟨rfl, e⟩ | ⟨a, b, rfl, rfl, e⟩
    · cases e; exact .inl ⟨rfl, one_ok p rs rfl⟩
    · cases e; exact .inr ⟨a, b, rfl, rfl, one_ok p rs rfl⟩
  · exact p.elim
/-- a < b < c -/
def mChain (f g : Store → D → D → R D) (a b c : ME) : ME := fun ρ S => (a ρ S).bind fun d S1 => (b ρ S1).bind fun e S2 => (f S2 d e).bind fun r S3 => match r with
  | .bl true => (c ρ S3).bind fun k S4 => g S4 e k
  | .bl false => .ok (.bl false) S3
  | _ => .err
theorem chain_of {X : Cx} {W : WX} {ca : Nat → Addr} {r r' : R2} {f g : Store → D → D → R D} {ma mb mc : ME} (s : Sound2 X.K ca r f) (s' : Sound2 X.K ca r' g) (σ : L2.St) (H : Hp) (Q : VK) :
    tOf X.K ca W (mChain f g ma mb mc) σ H Q → tChain r r' (tOf X.K ca W ma) (tOf X.K ca W mb) (tOf X.K ca W mc) σ H Q := by
  rintro ⟨ρ, M, S, re, rs, p⟩
  refine ⟨ρ, M, S, re, rs, (post_bind p).mono ?_⟩
  rintro x H1 ⟨M1, S1, d, e1, rs1, r1, p1⟩
  refine ⟨ρ, M1, S1, re.ext e1, rs1, (post_bind p1).mono ?_⟩
  rintro y H2 ⟨M2, S2, e, e2, rs2, r2, p2⟩
  refine s H2 M2 S2 x y d e _ _ rs2 (Rep.ext e2 _ _ r1) r2 ((post_bind p2).mono ?_)
  rintro z H3 ⟨M3, S3, b, e3, rs3, r3, p3⟩
  cases b <;> first | exact p3.elim | skip
  next b =>
    refine ⟨b, r3, ?_⟩
    cases b with
    | true =>
      refine ⟨ρ, M3, S3, ((re.ext e1).ext e2).ext e3, rs3, (post_bind p3).mono ?_⟩
      rintro u H4 ⟨M4, S4, k, e4, rs4, r4, p4⟩
      exact s' H4 M4 S4 y u e k Q _ rs4 (Rep.ext e4 _ _ (Rep.ext e3 _ _ r2)) r4 p4
    | false => exact p3 _ M3 H3 (Ext.refl _ _) rs3 rfl
theorem qt_chain {X : Cx} {W : WX} {ca : Nat → Addr} {op op' : CmpOp} {r r' : R2} {f g : Store → D → D → R D} {a b c : Expr} {pos : Pos} {ma mb mc : ME} (ho : OpR X (compareOp op) r) (ho' : OpR X (compareOp op') r') (s : Sound2 X.K ca r f) (s' : Sound2 X.K ca r' g)
    (ha : PE X a (tOf X.K ca W ma)) (hb : PE X b (tOf X.K ca W mb)) (hc : PE X c (tOf X.K ca W mc)) (hm : lastMarks [op, op'] [b, c] = false := by with_unfolding_all rfl) :
    PT X (.Compare a [op, op'] [b, c] pos) (tOfT X.K ca W (mChain f g ma mb mc)) := weakT (pt_chain ho ho' ha hb hc hm) fun σ H Q q => chain_of s s' σ H _ (t_of σ H Q q)
end
end Sm
/-! S7: subscripts, slices, displays, dicts, methods, built-ins -/
namespace Sm
open PySem PySem.Spec PyProof.Rows L2
open Classical
/-! ### dicts by keys -/
section
variable {k : Type} [DecidableEq k] {B : Type}
def valK (kvs : List (k × B)) (x : k) : Option B := (kvs.find? fun kv => decide (kv.1 = x)).map (·.2)
def putG (kvs : List (k × B)) (x : k) (v : B) : List (k × B) :=
  if (kvs.any fun kv => decide (kv.1 = x)) = true then kvs.map (fun kv => if kv.1 = x then (kv.1, v) else kv) else kvs ++ [(x, v)]
end
def keyOf : D → Option Key
  | .int i => some (.inl i)
  | .str x => some (.inr x)
  | _ => none
def keysOf : List D → Option (List Key)
  | [] => some []
  | d :: ds => match keyOf d, keysOf ds with
    | some x, some xs => some (x :: xs)
    | _, _ => none
section
variable {K : PySem.W.Frag} {ca : Nat → Addr} {H : Hp} {M : Cells} {S : Store}
theorem key_rep {d : D} {v : V} {x : Key} (r : Rep K ca H M d v) (h : keyOf d = some x) : v = kV x := by
  cases d with
  | int i => cases h; cases r; rfl
  | str z => cases h; cases r; rfl
  | non => cases h
  | bl _ => cases h
  | tup _ => cases h
  | lst _ => cases h
  | obj _ _ _ => cases h
  | cell _ => cases h
  | scr _ => cases h
  | exc _ => cases h
theorem keys_rep : ∀ {ds : List D} {vs : List V} {xs : List Key}, RepL K ca H M ds vs → keysOf ds = some xs → vs = xs.map kV
  | [], [], _, _, h => by cases h; rfl
  | d :: ds, v :: vs, xs, r, h => by
    have h : (match keyOf d, keysOf ds with
      | some x, some xs => some (x :: xs)
      | _, _ => none) = some xs := h
    split at h
    · next x ys h1 h2 => cases h; rw [key_rep r.1 h1, keys_rep r.2 h2]; rfl
    · cases h
  | [], _ :: _, _, r, _ => r.elim
  | _ :: _, [], _, r, _ => r.elim
theorem val_rep {k : Type} [DecidableEq k] : ∀ {kvs : List (k × D)} {ys : List (k × V)} (x : k), ys.map (·.1) = kvs.map (·.1) → RepL K ca H M (kvs.map (·.2)) (ys.map (·.2)) →
    (∀ d, valK kvs x = some d → ∃ v, valV ys x = some v ∧ Rep K ca H M d v) ∧ (valK kvs x = none → valV ys x = none)
  | [], [], _, _, _ => ⟨fun d h => (nomatch h), fun _ => rfl⟩
  | (a, d) :: kvs, (b, v) :: ys, x, e, r => by
    have e1 : b = a := (List.cons.inj e).1
    subst e1
    have ih := val_rep (kvs := kvs) (ys := ys) x (List.cons.inj e).2 r.2
    unfold valK valV
    by_cases h : b = x
    · simp only [List.find?_cons, h, decide_true, Option.map_some]
      exact ⟨fun d' q => by cases q; exact ⟨v, rfl, r.1⟩, fun q => nomatch q⟩
    · simp only [List.find?_cons, h, decide_false]
      exact ih
  | [], _ :: _, _, e, _ => nomatch e
  | _ :: _, [], _, e, _ => nomatch e
theorem any_rep {k : Type} [DecidableEq k] : ∀ {kvs : List (k × D)} {ys : List (k × V)} (x : k), ys.map (·.1) = kvs.map (·.1) → (ys.any fun kv => decide (kv.1 = x)) = kvs.any fun kv => decide (kv.1 = x)
  | [], [], _, _ => rfl
  | (a, d) :: kvs, (b, v) :: ys, x, e => by
    have e1 : b = a := (List.cons.inj e).1
    subst e1
    rw [List.any_cons, List.any_cons, any_rep (kvs := kvs) (ys := ys) x (List.cons.inj e).2]
  | [], _ :: _, _, e => nomatch e
  | _ :: _, [], _, e => nomatch e
theorem map_rep {k : Type} [DecidableEq k] : ∀ {kvs : List (k × D)} {ys : List (k × V)} (x : k) {d : D} {v : V}, ys.map (·.1) = kvs.map (·.1) → RepL K ca H M (kvs.map (·.2)) (ys.map (·.2)) → Rep K ca H M d v →
    (ys.map fun kv => if kv.1 = x then (kv.1, v) else kv).map (·.1) = (kvs.map fun kv => if kv.1 = x then (kv.1, d) else kv).map (·.1) ∧
    RepL K ca H M ((kvs.map fun kv => if kv.1 = x then (kv.1, d) else kv).map (·.2)) ((ys.map fun kv => if kv.1 = x then (kv.1, v) else kv).map (·.2))
  | [], [], _, _, _, _, _, _ => ⟨rfl, trivial⟩
  | (a, c) :: kvs, (b, u) :: ys, x, d, v, e, r, rv => by
    have e1 : b = a := (List.cons.inj e).1
    subst e1
    have ih := map_rep (kvs := kvs) (ys := ys) x (List.cons.inj e).2 r.2 rv
    by_cases h : b = x
    · simp only [List.map_cons, h, if_true]
      exact ⟨by rw [ih.1], rv, ih.2⟩
    · simp only [List.map_cons, h, if_false]
      exact ⟨by rw [ih.1], r.1, ih.2⟩
  | [], _ :: _, _, _, _, e, _, _ => nomatch e
  | _ :: _, [], _, _, _, e, _, _ => nomatch e
theorem put_rep {k : Type} [DecidableEq k] {kvs : List (k × D)} {ys : List (k × V)} (x : k) {d : D} {v : V} (e : ys.map (·.1) = kvs.map (·.1)) (r : RepL K ca H M (kvs.map (·.2)) (ys.map (·.2))) (rv : Rep K ca H M d v) :
    (putK ys x v).map (·.1) = (putG kvs x d).map (·.1) ∧ RepL K ca H M ((putG kvs x d).map (·.2)) ((putK ys x v).map (·.2)) := by
  unfold putK putG
  rw [any_rep x e]
  split
  · exact map_rep x e r rv
  · rw [List.map_append, List.map_append, List.map_append, List.map_append]
    exact ⟨by rw [e]; rfl, r.app (RepL.one rv)⟩
/-- what a dict holds at a key -/
def dLookT (kvs : List (List Key × D)) (e : D) : Option (Option D) := match e with
  | .tup ds => (keysOf ds).map fun x => valK kvs x
  | _ => none
def dLook (mo : Option MO) (e : D) : Option (Option D) := match mo with
  | some (.dk kvs) => (keyOf e).map fun x => valK kvs x
  | some (.dt kvs) => dLookT kvs e
  | some (.fk kvs) => (keyOf e).map fun x => valK kvs x
  | some (.ft kvs) => dLookT kvs e
  | _ => none
def dGet (S : Store) (d e : D) : Option (Option D) := match d with
  | .cell n => dLook S[n]? e
  | _ => none
def ORep (K : PySem.W.Frag) (ca : Nat → Addr) (H : Hp) (M : Cells) (o : Option D) (ov : Option V) : Prop := match o with
  | some d => ∃ v, ov = some v ∧ Rep K ca H M d v
  | none => ov = none
theorem ORep.some_eq {o : Option D} {ov : Option V} (h : ORep K ca H M o ov) : ov.isSome = o.isSome := by
  cases o with
  | none => rw [show ov = none from h]; rfl
  | some d => obtain ⟨v, e, _⟩ := h; rw [e]; rfl
theorem orep_of {kk : Type} [DecidableEq kk] {kvs : List (kk × D)} {ys : List (kk × V)} (x : kk) (e : ys.map (·.1) = kvs.map (·.1)) (r : RepL K ca H M (kvs.map (·.2)) (ys.map (·.2))) : ORep K ca H M (valK kvs x) (valV ys x) := by
  obtain ⟨g1, g2⟩ := val_rep x e r
  cases w : valK kvs x with
  | none => exact g2 w
  | some d' => exact g1 d' w
theorem dget_rep (rs : RelS K ca H M S) {d e : D} {x y : V} {o : Option D} (rx : Rep K ca H M d x) (ry : Rep K ca H M e y) (h : dGet S d e = some o) :
    ∃ a ov, x = .ref a ∧ DGet H a y ov ∧ ORep K ca H M o ov := by
  cases d with
  | cell n =>
    replace h : dLook S[n]? e = some o := h
    obtain ⟨z, hz, hv⟩ := rx
    unfold dLook at h
    split at h
    · next kvs hS =>
      obtain ⟨z', hz', a, ys, rfl, h1, h2, h3⟩ := rs.cells n _ hS
      rw [hz] at hz'; cases hz'
      cases q : keyOf e with
      | none => rw [q] at h; cases h
      | some k =>
        rw [q] at h; cases h
        have := key_rep ry q
        subst this
        exact ⟨a, valV ys k, hv a rfl, DGet.k h1, orep_of k h2 h3⟩
    · next kvs hS =>
      obtain ⟨z', hz', a, ys, rfl, h1, h2, h3⟩ := rs.cells n _ hS
      rw [hz] at hz'; cases hz'
      cases e <;> first | (cases h; done) | skip
      next ds =>
        obtain ⟨b, xs, rfl, hb, _, rl⟩ := ry
        replace h : (keysOf ds).map (fun x => valK kvs x) = some o := h
        cases q : keysOf ds with
        | none => rw [q] at h; cases h
        | some k =>
          rw [q] at h; cases h
          have := keys_rep rl q
          subst this
          exact ⟨a, valV ys k, hv a rfl, DGet.t h1 hb, orep_of k h2 h3⟩
    · next kvs hS =>
      obtain ⟨z', hz', a, ys, od, rfl, h1, h2, h3⟩ := rs.cells n _ hS
      rw [hz] at hz'; cases hz'
      cases q : keyOf e with
      | none => rw [q] at h; cases h
      | some k =>
        rw [q] at h; cases h
        have := key_rep ry q
        subst this
        exact ⟨a, valV ys k, hv a rfl, .inl ⟨ys, k, .inr ⟨od, h1⟩, rfl, rfl⟩, orep_of k h2 h3⟩
    · next kvs hS =>
      obtain ⟨z', hz', a, ys, od, rfl, h1, h2, h3⟩ := rs.cells n _ hS
      rw [hz] at hz'; cases hz'
      cases e <;> first | (cases h; done) | skip
      next ds =>
        obtain ⟨b, xs, rfl, hb, _, rl⟩ := ry
        replace h : (keysOf ds).map (fun x => valK kvs x) = some o := h
        cases q : keysOf ds with
        | none => rw [q] at h; cases h
        | some k =>
          rw [q] at h; cases h
          have := keys_rep rl q
          subst this
          exact ⟨a, valV ys k, hv a rfl, .inr ⟨ys, k, b, .inr ⟨od, h1⟩, rfl, hb, rfl⟩, orep_of k h2 h3⟩
    · cases h
  | non => cases h
  | bl _ => cases h
  | int _ => cases h
  | str _ => cases h
  | tup _ => cases h
  | lst _ => cases h
  | obj _ _ _ => cases h
  | scr _ => cases h
  | exc _ => cases h
end
/-! ### subscripts -/
section
variable {X : Cx} {ca : Nat → Addr}
abbrev rIxD : R2 := fun x y H Q => ∃ a v, x = .ref a ∧ DGet H a y (some v) ∧ Q v H
theorem ix_dict (hu : X.A.units + 1 < cLine) : IxR X rIxD := by
  intro value slice pins s σ H x y v u Q I rx ry h hs
  obtain ⟨a, z, rfl, g, q⟩ := h
  cases rx
  have hT := dict_typeIs I g
  unfold subscriptTail
  refine wpAny_bind ?_
  rw [getitemInPython_of_ne hT.not_modules]
  refine wpAny_bind (wpAny_specialOf hT PySem.F.slot_dict_getitem.lookup ?_)
  have fin : wpAny (model X.prog X.w) X.A (subscripted slice false (.ref a) u) (fun r s₃ => wpAny (model X.prog X.w) X.A (letTemporaryGo value (.ref a) r >>= fun _ => pure r) (EP X pins σ Q) X.xe s₃) X.xe s := by
    rw [hs]
    exact wpAny_operating (wpAny_mono (d_getItem hu I g ry fun w' s3 I3 rw' => show EP X pins σ Q w' s3 from ⟨z, H, I3, rw', q⟩) (fun r s₃ h₃ => wpAny_bind (wpAny_letTemporaryGo (wpAny_pure h₃))) fun _ _ x => x)
  first
    | exact wpAny_pure (wpAny_bind fin)
    | exact wpAny_bind (wpAny_pure (wpAny_bind fin))
    | exact wpAny_bind fin
abbrev rIxA (K : PySem.W.Frag) : R2 := fun x y H Q => rIx K x y H Q ∨ rIxD x y H Q
theorem or_ix (hu : X.A.units + 1 < cLine) : IxR X (rIxA X.K) := ix_seq.or (ix_dict hu)
end
/-- the item at a place, counted from the end below nought -/
def oIx (S : Store) (d e : D) : R D := match e with
  | .int i => match d with
    | .tup ds => match atI ds i with
      | some r => .ok r S
      | none => .err
    | .str x => if x.length ≤ sizeLine then (match atI x.cps.toList i with
      | some c => .ok (.str ⟨#[c]⟩) S
      | none => .err) else .err
    | _ => match seqL S d with
      | some ds => match atI ds i with
        | some r => .ok r S
        | none => .err
      | none => match dGet S d e with
        | some (some r) => .ok r S
        | _ => .err
  | _ => match dGet S d e with
    | some (some r) => .ok r S
    | _ => .err
section
variable {ca : Nat → Addr}
theorem at_rep {K : PySem.W.Frag} {H : Hp} {M : Cells} {ds : List D} {xs : List V} {i : Int} {r : D} (rl : RepL K ca H M ds xs) (h : atI ds i = some r) : ∃ v, atI xs i = some v ∧ Rep K ca H M r v := by
  unfold atI at h ⊢
  rw [← rl.length]
  cases q : ixN ds.length i with
  | none => rw [q] at h; cases h
  | some j =>
    rw [q] at h
    obtain ⟨v, hv, rv⟩ := rl.get (show ds[j]? = some r from h)
    exact ⟨v, hv, rv⟩
theorem s_ix {K : PySem.W.Frag} : Sound2 K ca (rIxA K) oIx := by
  intro H M S x y d e Q W rs rx ry p
  have dict : ∀ r, dGet S d e = some (some r) → Post K ca (rD K ca) H M Q W (.ok r S) → rIxA K x y H Q := fun r h p => by
    obtain ⟨a, ov, e1, g, ho⟩ := dget_rep rs rx ry h
    obtain ⟨v, e2, rv⟩ := ho
    subst e2
    exact .inr ⟨a, v, e1, g, one_ok p rs rv⟩
  unfold oIx at p
  split at p
  · next i =>
    cases ry
    split at p
    · next ds =>
      obtain ⟨a, xs, rfl, h1, n, rl⟩ := rx
      split at p
      · next r hr =>
        obtain ⟨v, hv, rv⟩ := at_rep rl hr
        exact .inl (.inr (.inl ⟨a, xs, i, v, rfl, rfl, SqT.of h1, hv, one_ok p rs rv⟩))
      · exact p.elim
    · next x =>
      cases rx
      split at p
      · next hz =>
        split at p
        · next c hc => exact .inl (.inr (.inr ⟨x, i, c, rfl, rfl, hz, hc, one_ok p rs rfl⟩))
        · exact p.elim
      · exact p.elim
    · split at p
      · next ds hd =>
        obtain ⟨a, xs, rfl, sq, rl, z⟩ := seq_rep rs rx hd
        split at p
        · next r hr =>
          obtain ⟨v, hv, rv⟩ := at_rep rl hr
          exact .inl (.inl ⟨a, xs, i, v, rfl, rfl, sq, hv, one_ok p rs rv⟩)
        · exact p.elim
      · split at p
        · next r hr => exact dict r hr p
        · exact p.elim
  · split at p
    · next r hr => exact dict r hr p
    · exact p.elim
end
/-! ### slices -/
def cutD {B : Type} (xs : List B) (lo hi : Option Int) : List B := (xs.drop (HT.sIx xs.length 0 lo)).take (HT.sIx xs.length xs.length hi - HT.sIx xs.length 0 lo)
def oNo : Env → Store → R (Option Int) := fun _ S => .ok none S
def oSome (a : ME) : Env → Store → R (Option Int) := fun ρ S => (a ρ S).bind fun d S1 => match d with
  | .int i => .ok (some i) S1
  | _ => .err
def oSl (c : Bool) (S : Store) (d : D) (lo hi : Option Int) : R D := match d with
  | .str x => if x.length ≤ sizeLine then .ok (.str (cutS x lo hi)) S else .err
  | _ => match seqL S d with
    | some ds => finL c (cutD ds lo hi) S
    | none => .err
def mSl (c : Bool) (a : ME) (lo hi : Env → Store → R (Option Int)) : ME := fun ρ S => (a ρ S).bind fun d S1 => (lo ρ S1).bind fun l S2 => (hi ρ S2).bind fun h S3 => oSl c S3 d l h
section
variable {X : Cx} {ca : Nat → Addr} {W : WX}
abbrev rO (_ : Hp) (_ : Cells) (d v : Option Int) : Prop := v = d
def tOfO (K : PySem.W.Frag) (ca : Nat → Addr) (W : WX) (m : Env → Store → R (Option Int)) : TO := fun σ H Q => ∃ ρ M S, REnv K ca H M ρ σ ∧ RelS K ca H M S ∧ Post K ca rO H M Q (fun c d H' => W c d σ H') (m ρ S)
theorem weakO {e : Option Expr} {t t' : TO} (h : PO X e t) (w : ∀ σ H Q, t' σ H Q → t σ H Q) : PO X e t' := ⟨fun pins s σ H Q I q => h.run pins s σ H Q I (w σ H Q q)⟩
theorem qo_no : PO X none (tOfO X.K ca W oNo) := weakO po_none fun σ H Q => by
  rintro ⟨ρ, M, S, re, rs, p⟩
  exact p none M H (Ext.refl _ _) rs rfl
theorem qo_some {e : Expr} {a : ME} (h : PE X e (tOf X.K ca W a)) : PO X (some e) (tOfO X.K ca W (oSome a)) := weakO (po_some h) fun σ H Q => by
  rintro ⟨ρ, M, S, re, rs, p⟩
  refine ⟨ρ, M, S, re, rs, (post_bind p).mono ?_⟩
  rintro x H1 ⟨M1, S1, d, e1, rs1, r1, p1⟩
  cases d <;> first | exact p1.elim | skip
  next i => exact ⟨i, r1, p1 _ M1 H1 (Ext.refl _ _) rs1 rfl⟩
abbrev rSlA (K : PySem.W.Frag) : V → Option Int → Option Int → Hp → VK → Prop := fun x lo hi H Q => rSlL K x lo hi H Q ∨ rSlS x lo hi H Q
theorem or_sl : SlR X (rSlA X.K) := sl_list.or sl_str
theorem cut_rep {K : PySem.W.Frag} {H : Hp} {M : Cells} {ds : List D} {xs : List V} (rl : RepL K ca H M ds xs) (lo hi : Option Int) : RepL K ca H M (cutD ds lo hi) (cutV xs lo hi) := by
  unfold cutD cutV
  rw [← rl.length]
  exact RepL.take _ (RepL.drop _ rl)
theorem q_slice {e : Expr} {lo hi : Option Expr} {p2 pos : Pos} {c : Bool} {a : ME} {l h : Env → Store → R (Option Int)} (he : PE X e (tOf X.K ca W a)) (hl : PO X lo (tOfO X.K ca W l)) (hh : PO X hi (tOfO X.K ca W h)) :
    PE X (.Subscript e (.Slice lo hi none p2) pos) (tOf X.K ca W (mSl c a l h)) := weakE (pe_slice or_sl he hl hh) fun σ H Q => by
  rintro ⟨ρ, M, S, re, rs, p⟩
  refine ⟨ρ, M, S, re, rs, (post_bind p).mono ?_⟩
  rintro x H1 ⟨M1, S1, d, e1, rs1, r1, p1⟩
  refine ⟨ρ, M1, S1, re.ext e1, rs1, (post_bind p1).mono ?_⟩
  rintro _ H2 ⟨M2, S2, lo, e2, rs2, rfl, p2⟩
  refine ⟨ρ, M2, S2, (re.ext e1).ext e2, rs2, (post_bind p2).mono ?_⟩
  rintro _ H3 ⟨M3, S3, hi, e3, rs3, rfl, p3⟩
  have rd := Rep.ext e3 _ _ (Rep.ext e2 _ _ r1)
  unfold oSl at p3
  split at p3
  · next z =>
    cases rd
    split at p3
    · next hz => exact .inr ⟨z, rfl, hz, one_ok p3 rs3 rfl⟩
    · exact p3.elim
  · split at p3
    · next ds hd =>
      obtain ⟨b, xs, rfl, sq, rl, z⟩ := seq_rep rs3 rd hd
      exact .inl ⟨b, xs, rfl, sq, fun q hq => finL_new p3 rs3 hq (Nat.le_trans (cutV_length _ _ _) z) (cut_rep rl _ _)⟩
    · exact p3.elim
end
/-! ### tuples, lists, written dicts -/
def oTup (S : Store) (ds : List D) : R D := if ds.length ≤ 64 then .ok (.tup ds) S else .err
def oLst (c : Bool) (S : Store) (ds : List D) : R D := if ds.length ≤ 64 then finL c ds S else .err
section
variable {X : Cx} {ca : Nat → Addr} {W : WX}
theorem le64 {n : Nat} (h : n ≤ 64) : n ≤ sizeLine := Nat.le_trans h (by decide)
theorem q_tup {es : List Expr} {x1 : Nat} {pos : Pos} {ms : Env → Store → R (List D)} (ha : PA X es (tOfA X.K ca W ms)) : PE X (.Tuple es x1 pos) (tOf X.K ca W (mN oTup ms)) := weakE (pe_tup ha) fun σ H Q => by
  rintro ⟨ρ, M, S, re, rs, p⟩
  refine ⟨ρ, M, S, re, rs, (post_bind p).mono ?_⟩
  rintro xs H1 ⟨M1, S1, ds, e1, rs1, r1, p1⟩
  unfold oTup at p1
  split at p1
  · next h =>
    have hl := r1.length
    refine ⟨by rw [← hl]; exact le64 h, fun q hq => ?_⟩
    exact p1 _ M1 _ (ext_new hq _) (rs1.new hq _) ⟨q, xs, rfl, upd_same, rs1.fresh hq, RepL.ext (ext_new hq _) _ _ r1⟩
  · exact p1.elim
theorem q_lst {es : List Expr} {pos : Pos} {c : Bool} {ms : Env → Store → R (List D)} (ha : PA X es (tOfA X.K ca W ms)) : PE X (.List es pos) (tOf X.K ca W (mN (oLst c) ms)) := weakE (pe_lst ha) fun σ H Q => by
  rintro ⟨ρ, M, S, re, rs, p⟩
  refine ⟨ρ, M, S, re, rs, (post_bind p).mono ?_⟩
  rintro xs H1 ⟨M1, S1, ds, e1, rs1, r1, p1⟩
  unfold oLst at p1
  split at p1
  · next h =>
    have hl := r1.length
    exact ⟨by rw [← hl]; exact le64 h, fun q hq => finL_new p1 rs1 hq (by rw [← hl]; exact le64 h) r1⟩
  · exact p1.elim
/-- {} with keys numbers and texts -/
def mDk : ME := fun _ S => .ok (.cell S.length) (S ++ [.dk []])
def mDt : ME := fun _ S => .ok (.cell S.length) (S ++ [.dt []])
theorem cell_at {M : Cells} {S : Store} {p : Addr} (h : M.c.length = S.length) : (M.push p).c[S.length]? = some (some p) := by
  show (M.c ++ [some p])[S.length]? = _
  rw [← h]; simp
theorem q_dk {pos : Pos} : PE X (.Dict [] [] pos) (tOf X.K ca W mDk) := weakE pe_dnewK fun σ H Q => by
  rintro ⟨ρ, M, S, re, rs, p⟩
  exact fun q hq => p _ (M.push q) _ (ext_cell hq _) (rs.cell hq _ ⟨q, [], rfl, upd_same, rfl, trivial⟩) ⟨some q, cell_at rs.len, fun a e => by cases e; rfl⟩
/-- a written dict of constants, asked at once -/
def oDisp (kvs : List (Key × V)) (S : Store) (d : D) : R D := match keyOf d with
  | some x => match valV (mergeK [] kvs) x with
    | some (.str z) => .ok (.str z) S
    | some (.int z) => .ok (.int z) S
    | some (.bl z) => .ok (.bl z) S
    | _ => .err
  | none => .err
theorem consts_run : ∀ {trs : List (TE × TE)} {kvs : List (Key × V)}, Paired (fun (t : TE × TE) (kv : Key × V) => t.1 = tC (kV kv.1) ∧ t.2 = tC kv.2) trs kvs → ∀ {σ : L2.St} {H : Hp} {Q : List (V × V) → Hp → Prop}, Q (kvs.map fun kv => (kV kv.1, kv.2)) H → tPairs trs σ H Q
  | [], [], .nil, _, _, _, h => h
  | (_, _) :: _, (_, _) :: _, .cons ⟨e1, e2⟩ t, σ, H, Q, h => by
    cases e1; cases e2
    show tPairs _ σ H _
    exact consts_run t h
theorem q_dispIx {keys : List (Option Expr)} {values : List Expr} {trs : List (TE × TE)} {kvs : List (Key × V)} {pos pos' : Pos} {b : Expr} {mb : ME} (hu : X.A.units + 1 < cLine) (h : PPs X pos keys values trs)
    (hc : Paired (fun (t : TE × TE) (kv : Key × V) => t.1 = tC (kV kv.1) ∧ t.2 = tC kv.2) trs kvs) (hall : keys.all (·.isSome) = true) (hl : keys.length = values.length) (h0 : keys ≠ []) (h15 : keys.length ≤ 15) (hk : kvs.length ≤ 15)
    (hb : PE X b (tOf X.K ca W mb)) (hs : NoSl b) : PE X (.Subscript (.Dict keys values pos) b pos') (tOf X.K ca W (m1 (oDisp kvs) mb)) :=
  weakE (pe_dget hu (pe_disp h hall hl h0 h15) hb hs) fun σ H Q => by
    rintro ⟨ρ, M, S, re, rs, p⟩
    intro q hq
    refine consts_run hc ⟨upd_same, kvs, rfl, hk, ?_⟩
    rw [upd_upd]
    refine ⟨ρ, M, S, re.ext (ext_new hq _), rs.new hq _, (post_bind (p.up (ext_new hq _))).mono ?_⟩
    rintro y H1 ⟨M1, S1, d, e1, rs1, r1, p1⟩
    have hd : H1 q = some (.dK (mergeK [] kvs)) := e1.fr _ _ upd_same fun z => rs.fresh hq (.inl z)
    unfold oDisp at p1
    split at p1
    · next x hx =>
      have := key_rep r1 hx
      subst this
      split at p1
      · next z hz => exact ⟨q, _, rfl, by have := DGet.k (k := x) hd; rw [hz] at this; exact this, one_ok p1 rs1 rfl⟩
      · next z hz => exact ⟨q, _, rfl, by have := DGet.k (k := x) hd; rw [hz] at this; exact this, one_ok p1 rs1 rfl⟩
      · next z hz => exact ⟨q, _, rfl, by have := DGet.k (k := x) hd; rw [hz] at this; exact this, one_ok p1 rs1 rfl⟩
      · exact p1.elim
    · exact p1.elim
end
/-! ### in, not in -/
def flatI : List D → Option (List Int)
  | [] => some []
  | .int i :: ds => (flatI ds).map (i :: ·)
  | _ :: _ => none
def seqA (S : Store) (d : D) : Option (List D) := match d with
  | .tup ds => some ds
  | _ => seqL S d
def inStr (d e : D) : Option Bool := match d, e with
  | .str x, .str y => some (!(Builtin.Str.occurrences y x 0 y.length 1).isEmpty)
  | _, _ => none
def inInts (S : Store) (d e : D) : Option Bool := match d with
  | .int i => ((seqA S e).bind flatI).map fun js => decide (i ∈ js)
  | _ => none
def flatS : List D → Option (List Str)
  | [] => some []
  | .str i :: ds => (flatS ds).map (i :: ·)
  | _ :: _ => none
def inTexts (S : Store) (d e : D) : Option Bool := match d with
  | .str i => ((seqA S e).bind flatS).map fun js => decide (i ∈ js)
  | _ => none
def inData (S : Store) (d e : D) : Option Bool := match seqL S e with
  | some ds => if fit (deref S d) && fit (.lst ds) then some (ds.any fun z => eqD z (deref S d)) else none
  | none => none
/-- is it in a text, a dict, a list of numbers, a list of data -/
def oInB (S : Store) (d e : D) : Option Bool := match inStr d e with
  | some b => some b
  | none => match dGet S e d with
    | some o => some o.isSome
    | none => match inInts S d e with
      | some b => some b
      | none => match inTexts S d e with
        | some b => some b
        | none => inData S d e
def oIn (S : Store) (d e : D) : R D := match oInB S d e with
  | some b => .ok (.bl b) S
  | none => .err
section
variable {X : Cx} {ca : Nat → Addr} {W : WX}
abbrev rDIn (neg : Bool) : R2 := fun y x H Q => ∃ a o, x = .ref a ∧ DGet H a y o ∧ Q (.bl (if neg then !o.isSome else o.isSome)) H
theorem op_in_dict (hu : X.A.units + 1 < cLine) : OpR X (compareOp .In) (rDIn false) := by
  intro pins s σ H y x u v Q I ry rx h
  obtain ⟨a, o, rfl, g, q⟩ := h
  cases rx
  exact d_in hu I g ry fun s3 I3 => ⟨.bl o.isSome, H, I3, rfl, q⟩
abbrev rInS (neg : Bool) : R2 := fun x y H Q => ∃ i j, x = .str i ∧ y = .str j ∧ Q (.bl (if neg then !(!(Builtin.Str.occurrences j i 0 j.length 1).isEmpty) else !(Builtin.Str.occurrences j i 0 j.length 1).isEmpty)) H
abbrev rInA (K : PySem.W.Frag) (neg : Bool) : R2 := fun x y H Q => rInS neg x y H Q ∨ (rDIn neg x y H Q ∨ (rIn K neg x y H Q ∨ (if neg then rNotInD K x y H Q else rInD K x y H Q)))
theorem or_in (hu : X.A.units + 65 < cLine) : OpR X (compareOp .In) (rInA X.K false) := OpR.or op_in_str (OpR.or (op_in_dict (by omega)) (OpR.or op_in_seq (op_inD hu)))
theorem flat_rep {K : PySem.W.Frag} {H : Hp} {M : Cells} : ∀ {ds : List D} {xs : List V} {js : List Int}, RepL K ca H M ds xs → flatI ds = some js → xs = js.map V.int
  | [], [], js, _, h => by cases h; rfl
  | d :: ds, v :: vs, js, r, h => by
    cases d <;> first | (cases h; done) | skip
    next i =>
      have h : (flatI ds).map (i :: ·) = some js := h
      cases q : flatI ds with
      | none => rw [q] at h; cases h
      | some ks =>
        rw [q] at h; cases h
        rw [flat_rep r.2 q, (r.1 : v = .int i)]; rfl
  | [], _ :: _, _, r, _ => r.elim
  | _ :: _, [], _, r, _ => r.elim
theorem inV_ints (i : Int) : ∀ js : List Int, inV (.int i) (js.map V.int) = decide (i ∈ js)
  | [] => rfl
  | j :: js => by
    have ih := inV_ints i js
    unfold inV at ih ⊢
    rw [List.map_cons, List.any_cons, ih]
    have e1 : eqV (.int j) (.int i) = decide (j = i) := by
      by_cases h : j = i
      · subst h; simp [eqV]
      · simp [eqV, h]
    rw [e1]
    by_cases h : i = j
    · subst h; simp
    · simp [h, Ne.symm h]
theorem flatS_rep {K : PySem.W.Frag} {H : Hp} {M : Cells} : ∀ {ds : List D} {xs : List V} {js : List Str}, RepL K ca H M ds xs → flatS ds = some js → xs = js.map V.str
  | [], [], js, _, h => by cases h; rfl
  | d :: ds, v :: vs, js, r, h => by
    cases d <;> first | (cases h; done) | skip
    next i =>
      have h : (flatS ds).map (i :: ·) = some js := h
      cases q : flatS ds with
      | none => rw [q] at h; cases h
      | some ks =>
        rw [q] at h; cases h
        rw [flatS_rep r.2 q, (r.1 : v = .str i)]; rfl
  | [], _ :: _, _, r, _ => r.elim
  | _ :: _, [], _, r, _ => r.elim
theorem inV_strs (i : Str) : ∀ js : List Str, inV (.str i) (js.map V.str) = decide (i ∈ js)
  | [] => rfl
  | j :: js => by
    have ih := inV_strs i js
    unfold inV at ih ⊢
    rw [List.map_cons, List.any_cons, ih]
    have e1 : eqV (.str j) (.str i) = decide (j = i) := by
      by_cases h : j = i
      · subst h; simp [eqV]
      · simp [eqV, h]
    rw [e1]
    by_cases h : i = j
    · subst h; simp
    · simp [h, Ne.symm h]
theorem all_flatS : ∀ js : List Str, (js.map V.str).all flatV = true
  | [] => rfl
  | _ :: js => by rw [List.map_cons, List.all_cons, all_flatS js]; rfl
theorem all_flat : ∀ js : List Int, (js.map V.int).all flatV = true
  | [] => rfl
  | _ :: js => by rw [List.map_cons, List.all_cons, all_flat js]; rfl
theorem seqA_rep {K : PySem.W.Frag} {H : Hp} {M : Cells} {S : Store} (rs : RelS K ca H M S) {d : D} {v : V} {ds : List D} (r : Rep K ca H M d v) (h : seqA S d = some ds) : ∃ a xs, v = .ref a ∧ (SqL K H a xs ∨ SqT K H a xs) ∧ RepL K ca H M ds xs := by
  unfold seqA at h
  split at h
  · cases h
    obtain ⟨a, xs, e, h1, n, q⟩ := r
    exact ⟨a, xs, e, .inr (SqT.of h1), q⟩
  · obtain ⟨a, xs, e, h1, q, z⟩ := seq_rep rs r h
    exact ⟨a, xs, e, .inl h1, q⟩
theorem any_py (ds : List D) (d : D) : ((pyL ds).any fun z => PyData.eqv z (pyD d)) = ds.any fun z => eqD z d := by
  induction ds with
  | nil => rfl
  | cons e es ih => unfold pyL; rw [List.any_cons, List.any_cons, ih]; rfl
theorem in_core {K : PySem.W.Frag} {neg : Bool} {H : Hp} {M : Cells} {S : Store} {x y : V} {d e : D} {b : Bool} {Q : VK} (rs : RelS K ca H M S) (rx : Rep K ca H M d x) (ry : Rep K ca H M e y) (h : oInB S d e = some b) (q : Q (.bl (if neg then !b else b)) H) : rInA K neg x y H Q := by
  unfold oInB at h
  split at h
  · next b' hb =>
    cases h
    unfold inStr at hb
    split at hb
    · cases hb; cases rx; cases ry
      refine .inl ⟨_, _, rfl, rfl, ?_⟩
      cases neg <;> exact q
    · cases hb
  · split at h
    · next o ho =>
      cases h
      obtain ⟨a, ov, rfl, g, hv⟩ := dget_rep rs ry rx ho
      refine .inr (.inl ⟨a, ov, rfl, g, ?_⟩)
      rw [hv.some_eq]; exact q
    · split at h
      · next b' hj =>
        cases h
        unfold inInts at hj
        split at hj
        · next i =>
          cases rx
          cases hjs : (seqA S e).bind flatI with
          | none => rw [hjs] at hj; cases hj
          | some js =>
            rw [hjs] at hj; cases hj
            obtain ⟨ds, hd, hf⟩ := Option.bind_eq_some_iff.mp hjs
            obtain ⟨a, xs, rfl, sq, rl⟩ := seqA_rep rs ry hd
            have := flat_rep rl hf
            subst this
            refine .inr (.inr (.inl ⟨a, _, rfl, sq, rfl, all_flat js, ?_⟩))
            rw [inV_ints]; exact q
        · cases hj
      · split at h
        · next b' hj =>
          cases h
          unfold inTexts at hj
          split at hj
          · next i =>
            cases rx
            cases hjs : (seqA S e).bind flatS with
            | none => rw [hjs] at hj; cases hj
            | some js =>
              rw [hjs] at hj; cases hj
              obtain ⟨ds, hd, hf⟩ := Option.bind_eq_some_iff.mp hjs
              obtain ⟨a, xs, rfl, sq, rl⟩ := seqA_rep rs ry hd
              have := flatS_rep rl hf
              subst this
              refine .inr (.inr (.inl ⟨a, _, rfl, sq, rfl, all_flatS js, ?_⟩))
              rw [inV_strs]; exact q
          · cases hj
        unfold inData at h
        split at h
        · next ds hd =>
          split at h
          · next z =>
            cases h
            rw [Bool.and_eq_true] at z
            obtain ⟨h1, h2⟩ := dp_deref rs rx z.1
            obtain ⟨a, xs, rfl, sq, rl, _⟩ := seq_rep rs ry hd
            have z2 := z.2
            unfold fit at z2
            rw [Bool.and_eq_true] at z2
            have hdp : Dp K H (.ref a) (.list (pyL ds)) := .lst sq (dp_all ds xs rl z2.1)
            rw [← any_py] at q
            refine .inr (.inr (.inr ?_))
            cases neg with
            | true => exact ⟨_, _, h1, hdp, h2, z2.2, q⟩
            | false => exact ⟨_, _, h1, hdp, h2, z2.2, q⟩
          · cases h
        · cases h
theorem s_in {K : PySem.W.Frag} : Sound2 K ca (rInA K false) oIn := by
  intro H M S x y d e Q W rs rx ry p
  unfold oIn at p
  split at p
  · next b h => exact in_core (neg := false) rs rx ry h (one_ok p rs rfl)
  · exact p.elim
end
end Sm
/-! S8: methods, built-ins, stores -/
namespace Sm
open PySem PySem.Spec PyProof.Rows L2
open Classical
/-! ### methods of lists, texts -/
def tyOk (T : String) (S : Store) (d : D) : Bool := match d with
  | .str _ => T == "str"
  | _ => T == "list" && (seqL S d).isSome
def mBM (T : String) (f : Store → D → List D → R D) (o : ME) (args : Env → Store → R (List D)) : ME := fun ρ S => (o ρ S).bind fun d S1 => if tyOk T S1 d then (args ρ S1).bind fun ds S2 => f S2 d ds else .err
def mBM0 (T : String) (f : Store → D → List D → R D) (o : ME) : ME := fun ρ S => (o ρ S).bind fun d S1 => if tyOk T S1 d then f S1 d [] else .err
def SoundM (K : PySem.W.Frag) (ca : Nat → Addr) (r : V → List V → Hp → VK → Prop) (f : Store → D → List D → R D) : Prop :=
  ∀ H M S x xs d ds Q W, RelS K ca H M S → Rep K ca H M d x → RepL K ca H M ds xs → Post K ca (rD K ca) H M Q W (f S d ds) → r x xs H Q
section
variable {X : Cx} {ca : Nat → Addr} {W : WX}
theorem ty_rep {K : PySem.W.Frag} {T : String} {H : Hp} {M : Cells} {S : Store} {d : D} {v : V} (rs : RelS K ca H M S) (r : Rep K ca H M d v) (h : tyOk T S d = true) : tyV K T v H := by
  have lst : (T == "list" && (seqL S d).isSome) = true → tyV K T v H := fun h => by
    rw [Bool.and_eq_true] at h
    obtain ⟨ds, hd⟩ := Option.isSome_iff_exists.mp h.2
    obtain ⟨a, xs, rfl, sq, _⟩ := seq_rep rs r hd
    exact .inl ⟨eq_of_beq h.1, xs, sq⟩
  cases d with
  | str x =>
    cases r
    exact eq_of_beq (show (T == "str") = true from h)
  | non => exact lst h
  | bl _ => exact lst h
  | int _ => exact lst h
  | tup _ => exact lst h
  | lst _ => exact lst h
  | obj _ _ _ => exact lst h
  | cell _ => exact lst h
  | scr _ => exact lst h
  | exc _ => exact lst h
theorem q_bm {o e : Expr} {es : List Expr} {name : Str} {apos cpos : Pos} {T id : String} {r : V → List V → Hp → VK → Prop} {f : Store → D → List D → R D} {mo : ME} {ms : Env → Store → R (List D)}
    (pa : PlainAttrs T) (slot : Slot T name id) (hty : typeOf (.builtin id) = pure (.type "method_descriptor")) (hm : MtR X id r) (s : SoundM X.K ca r f) (ho : PE X o (tOf X.K ca W mo)) (ha : PA X (e :: es) (tOfA X.K ca W ms))
    (hbase : attributeBase o name X.env (eval o X.env) = eval o X.env := by rfl)
    (hfew : ((backTo cpos (starEach (e :: es) X.env)).all (fun x => !x.1) && (backToKw cpos (keywordEach [] X.env)).all (fun x => x.1.isSome)
      && decide ((e :: es).length + ([] : List Keyword).length + (if ([] : List Keyword).isEmpty then 0 else 1) < 30)) = true := by rfl)
    (hline : (apos.endLine == cpos.line) = true := by rfl) (hs : starEach (e :: es) X.env = (false, eval e X.env) :: starEach es X.env := by rfl) (hplain : (backTo cpos (starEach es X.env)).any (·.1) = false := by rfl) :
    PE X (.Call (.Attribute o name apos) (e :: es) [] cpos) (tOf X.K ca W (mBM T f mo ms)) := weakE (pe_bm pa slot hty hm ho ha hbase hfew hline hs hplain) fun σ H Q => by
  rintro ⟨ρ, M, S, re, rs, p⟩
  refine ⟨ρ, M, S, re, rs, (post_bind p).mono ?_⟩
  rintro x H1 ⟨M1, S1, d, e1, rs1, r1, p1⟩
  split at p1
  · next ht =>
    refine ⟨ty_rep rs1 r1 ht, ρ, M1, S1, re.ext e1, rs1, (post_bind p1).mono ?_⟩
    rintro xs H2 ⟨M2, S2, ds, e2, rs2, r2, p2⟩
    exact s H2 M2 S2 x xs d ds Q _ rs2 (Rep.ext e2 _ _ r1) r2 p2
  · exact p1.elim
/-- a list that is a cell: read, and written anew -/
def cellL (S : Store) (d : D) : Option (Nat × List D) := match d with
  | .cell n => match S[n]? with
    | some (.lst ds) => some (n, ds)
    | _ => none
  | _ => none
theorem cellL_some {S : Store} {d : D} {n : Nat} {ds : List D} (h : cellL S d = some (n, ds)) : d = .cell n ∧ S[n]? = some (.lst ds) := by
  unfold cellL at h
  split at h
  · split at h
    · next e => cases h; exact ⟨rfl, e⟩
    · cases h
  · cases h
theorem cell_write {K : PySem.W.Frag} {H : Hp} {M : Cells} {S : Store} {d : D} {v : V} {n : Nat} {ds : List D} (rs : RelS K ca H M S) (r : Rep K ca H M d v) (h : cellL S d = some (n, ds)) :
    ∃ a xs, v = .ref a ∧ H a = some (.lst xs) ∧ xs.length ≤ sizeLine ∧ RepL K ca H M ds xs ∧ WLive H M a ∧
      ∀ ys us, RepL K ca H M ys us → us.length ≤ sizeLine → RelS K ca (upd H a (.lst us)) M (S.set n (.lst ys)) := by
  obtain ⟨rfl, hS⟩ := cellL_some h
  obtain ⟨a, xs, hm, h1, z, q⟩ := rs.lst hS
  obtain ⟨x, hx, hv⟩ := r
  rw [hm] at hx; cases hx
  have nf : ∀ od u, H a ≠ some (.frz od u) := fun od u e => by rw [h1] at e; cases e
  refine ⟨a, xs, hv a rfl, h1, z, q, ⟨⟨n, hm⟩, nf⟩, fun ys us rl hz => rs.write hm nf _ ⟨a, us, rfl, upd_same, hz, RepL.ext (ext_write ⟨⟨n, hm⟩, nf⟩ _) _ _ rl⟩⟩
theorem post_w {K : PySem.W.Frag} {H : Hp} {M : Cells} {S' : Store} {Q : VK} {Wx : XW} {d : D} {v : V} {a : Addr} {o : HO} (p : Post K ca (rD K ca) H M Q Wx (.ok d S')) (l : WLive H M a) (rs : RelS K ca (upd H a o) M S') (r : Rep K ca H M d v) : Q v (upd H a o) :=
  p v M _ (ext_write l o) rs (Rep.ext (ext_write l o) _ _ r)
def oAppend (S : Store) (d : D) (es : List D) : R D := match cellL S d, es with
  | some (n, ds), [e] => if ds.length < sizeLine then .ok .non (S.set n (.lst (ds ++ [e]))) else .err
  | _, _ => .err
def oExtend (S : Store) (d : D) (es : List D) : R D := match cellL S d, es with
  | some (n, ds), [e] => match seqP S e with
    | some us => if ds.length + us.length ≤ sizeLine then .ok .non (S.set n (.lst (ds ++ us))) else .err
    | none => .err
  | _, _ => .err
def oInsert (S : Store) (d : D) (es : List D) : R D := match cellL S d, es with
  | some (n, ds), [.int i, e] => if ds.length < sizeLine ∧ 0 ≤ i ∧ i < 2 ^ 63 then .ok .non (S.set n (.lst (ds.take i.toNat ++ [e] ++ ds.drop i.toNat))) else .err
  | _, _ => .err
theorem s_append {K : PySem.W.Frag} : SoundM K ca rAppend oAppend := by
  intro H M S x xs d ds Q W rs rx rl p
  unfold oAppend at p
  split at p
  · next n ds' e h =>
    split at p
    · next hz =>
      obtain ⟨v, rfl, rv⟩ := rl.inv1
      obtain ⟨a, xs', rfl, h1, z, q, l, wr⟩ := cell_write rs rx h
      have hl := q.length
      exact ⟨a, xs', v, rfl, rfl, h1, by omega, post_w p l (wr _ _ (q.app (RepL.one rv)) (by rw [List.length_append]; simp; omega)) rfl⟩
    · exact p.elim
  · exact p.elim
theorem s_extend {K : PySem.W.Frag} : SoundM K ca rExtend oExtend := by
  intro H M S x xs d ds Q W rs rx rl p
  unfold oExtend at p
  split at p
  · next n ds' e h =>
    split at p
    · next us hu =>
      split at p
      · next hz =>
        obtain ⟨v, rfl, rv⟩ := rl.inv1
        obtain ⟨a, xs', rfl, h1, z, q, l, wr⟩ := cell_write rs rx h
        obtain ⟨b, ys, rfl, h2, q2, z2⟩ := seqP_rep rs rv hu
        have hl := q.length; have hl2 := q2.length
        exact ⟨a, b, xs', ys, rfl, rfl, h1, h2, by omega, post_w p l (wr _ _ (q.app q2) (by rw [List.length_append]; omega)) rfl⟩
      · exact p.elim
    · exact p.elim
  · exact p.elim
abbrev rInsert : V → List V → Hp → VK → Prop := fun x vs H Q => ∃ (l : Addr) (xs : List V) (i : Int) (y : V), x = .ref l ∧ vs = [.int i, y] ∧ H l = some (.lst xs) ∧ xs.length < sizeLine ∧ 0 ≤ i ∧ i < 2 ^ 63 ∧
    Q .non (upd H l (.lst (xs.take i.toNat ++ [y] ++ xs.drop i.toNat)))
theorem s_insert {K : PySem.W.Frag} : SoundM K ca rInsert oInsert := by
  intro H M S x xs d ds Q W rs rx rl p
  unfold oInsert at p
  split at p
  · next n ds' i e h =>
    split at p
    · next hz =>
      obtain ⟨v, u, rfl, rv, ru⟩ := rl.inv2
      cases rv
      obtain ⟨a, xs', rfl, h1, z, q, l, wr⟩ := cell_write rs rx h
      have hl := q.length
      refine ⟨a, xs', i, u, rfl, rfl, h1, by omega, hz.2.1, hz.2.2, post_w p l (wr _ _ (((RepL.take _ q).app (RepL.one ru)).app (RepL.drop _ q)) ?_) rfl⟩
      simp only [List.length_append, List.length_take, List.length_drop, List.length_singleton]
      omega
    · exact p.elim
  · exact p.elim
theorem RepL.erase {K : PySem.W.Frag} {H : Hp} {M : Cells} : ∀ {ds : List D} {vs : List V} (k : Nat), RepL K ca H M ds vs → RepL K ca H M (ds.eraseIdx k) (vs.eraseIdx k)
  | [], [], _, h => h
  | _ :: _, _ :: _, 0, h => h.2
  | _ :: _, _ :: _, k + 1, h => ⟨h.1, RepL.erase k h.2⟩
  | [], _ :: _, _, h => h.elim
  | _ :: _, [], _, h => h.elim
/-- the texts of a list -/
def strsOf : List D → Option (List Str)
  | [] => some []
  | .str x :: ds => (strsOf ds).map (x :: ·)
  | _ :: _ => none
theorem strs_rep {K : PySem.W.Frag} {H : Hp} {M : Cells} : ∀ {ds : List D} {xs : List V} {js : List Str}, RepL K ca H M ds xs → strsOf ds = some js → xs = js.map V.str
  | [], [], js, _, h => by cases h; rfl
  | d :: ds, v :: vs, js, r, h => by
    cases d <;> first | (cases h; done) | skip
    next i =>
      replace h : (strsOf ds).map (i :: ·) = some js := h
      cases q : strsOf ds with
      | none => rw [q] at h; cases h
      | some ks =>
        rw [q] at h; cases h
        rw [strs_rep r.2 q, (r.1 : v = .str i)]; rfl
  | [], _ :: _, _, r, _ => r.elim
  | _ :: _, [], _, r, _ => r.elim
def oJoin (S : Store) (d : D) (es : List D) : R D := match d, es with
  | .str a, [e] => match (seqL S e).bind strsOf with
    | some ys => if (ys.map (·.length)).sum + ys.length * a.length ≤ 16777216 then .ok (.str (Txt.join a ys)) S else .err
    | none => .err
  | _, _ => .err
abbrev rJoin (K : PySem.W.Frag) : V → List V → Hp → VK → Prop := fun x xs H Q => ∃ a p, ∃ ys : List Str, x = .str a ∧ xs = [.ref p] ∧ (SqL K H p (ys.map V.str) ∨ SqT K H p (ys.map V.str)) ∧
    (ys.map (·.length)).sum + ys.length * a.length ≤ 16777216 ∧ Q (.str (Txt.join a ys)) H
theorem s_join {K : PySem.W.Frag} : SoundM K ca (rJoin K) oJoin := by
  intro H M S x xs d ds Q W rs rx rl p
  unfold oJoin at p
  split at p
  · next a e =>
    cases rx
    split at p
    · next ys hy =>
      split at p
      · next hz =>
        obtain ⟨v, rfl, rv⟩ := rl.inv1
        obtain ⟨es, h1, h2⟩ := Option.bind_eq_some_iff.mp hy
        obtain ⟨b, us, rfl, sq, q, z⟩ := seq_rep rs rv h1
        have := strs_rep q h2
        subst this
        exact ⟨a, b, ys, rfl, rfl, .inl sq, hz, one_ok p rs rfl⟩
      · exact p.elim
    · exact p.elim
  · exact p.elim
end
/-! ### built-ins -/
def oLen (S : Store) (ds : List D) : R D := match ds with
  | [.str x] => if x.length ≤ sizeLine then .ok (.int x.length) S else .err
  | [d] => match seqA S d with
    | some ds => .ok (.int ds.length) S
    | none => match d with
      | .cell n => match S[n]? with
        | some (.dk kvs) => .ok (.int kvs.length) S
        | _ => .err
      | _ => .err
  | _ => .err
def oList (c : Bool) (S : Store) (ds : List D) : R D := match ds with
  | [d] => match seqA S d with
    | some es => if es.length ≤ sizeLine then finL c es S else .err
    | none => .err
  | _ => .err
def oTuple (S : Store) (ds : List D) : R D := match ds with
  | [.tup es] => .ok (.tup es) S
  | [d] => match seqL S d with
    | some es => .ok (.tup es) S
    | none => .err
  | _ => .err
def oMax2 (S : Store) (ds : List D) : R D := match ds with
  | [.int i, .int j] => .ok (.int (if j > i then j else i)) S
  | _ => .err
/-- the name of a datum's built-in type -/
def tyN (S : Store) (d : D) : Option String := match d with
  | .non => some "NoneType"
  | .bl _ => some "bool"
  | .int _ => some "int"
  | .str _ => some "str"
  | .tup _ => some "tuple"
  | _ => match seqP S d with
    | some _ => some "list"
    | none => none
def oIsT (T : String) (S : Store) (d : D) : R D := match tyN S d with
  | some t => match kitB t T with
    | some b => .ok (.bl b) S
    | none => .err
  | none => .err
section
variable {X : Cx} {ca : Nat → Addr} {W : WX}
abbrev rLenA (K : PySem.W.Frag) : List V → Hp → VK → Prop := fun xs H Q => (∃ x n, xs = [x] ∧ LenV K x H n ∧ Q (.int n) H) ∨ ∃ a kvs, xs = [V.ref a] ∧ H a = some (.dK kvs) ∧ Q (.int kvs.length) H
theorem or_len : CallR X (.builtin "len") (rLenA X.K) := call_len.or call_lenD
theorem s_len {K : PySem.W.Frag} : SoundN K ca (rLenA K) oLen := by
  intro H M S xs ds Q W rs rl p
  unfold oLen at p
  split at p
  · next x =>
    obtain ⟨v, rfl, rv⟩ := rl.inv1
    cases rv
    split at p
    · next hz => exact .inl ⟨_, _, rfl, ⟨hz, rfl⟩, one_ok p rs rfl⟩
    · exact p.elim
  · next d _ =>
    obtain ⟨v, rfl, rv⟩ := rl.inv1
    split at p
    · next es he =>
      obtain ⟨a, us, rfl, sq, q⟩ := seqA_rep rs rv he
      have hl := q.length
      refine .inl ⟨_, us.length, rfl, ?_, one_ok p rs (by rw [hl]; rfl)⟩
      exact sq.imp (fun h => ⟨us, h, rfl⟩) (fun h => ⟨us, h, rfl⟩)
    · split at p
      · split at p
        · next kvs hS =>
          obtain ⟨z, hz, a, ys, rfl, h1, h2, h3⟩ := rs.cells _ _ hS
          obtain ⟨z', hz', hv⟩ := rv
          rw [hz] at hz'; cases hz'
          refine .inr ⟨a, ys, by rw [hv a rfl], h1, one_ok p rs ?_⟩
          have := congrArg List.length h2
          rw [List.length_map, List.length_map] at this
          rw [this]; rfl
        · exact p.elim
      · exact p.elim
  · exact p.elim
theorem s_list {K : PySem.W.Frag} (c : Bool) : SoundN K ca (fun xs H Q => ∃ p ys, xs = [.ref p] ∧ (SqL K H p ys ∨ SqT K H p ys) ∧ ∀ l, H l = none → Q (.ref l) (upd H l (.lst ys))) (oList c) := by
  intro H M S xs ds Q W rs rl p
  unfold oList at p
  split at p
  · next d =>
    obtain ⟨v, rfl, rv⟩ := rl.inv1
    split at p
    · next es he =>
      split at p
      · next hz =>
        obtain ⟨a, us, rfl, sq, q⟩ := seqA_rep rs rv he
        have hl := q.length
        exact ⟨a, us, rfl, sq, fun l hl' => finL_new p rs hl' (by omega) q⟩
      · exact p.elim
    · exact p.elim
  · exact p.elim
theorem s_tuple {K : PySem.W.Frag} : SoundN K ca (fun xs H Q => ∃ p ys, xs = [.ref p] ∧ ((SqL K H p ys ∧ ∀ l, H l = none → Q (.ref l) (upd H l (.tup ys))) ∨ (SqT K H p ys ∧ Q (.ref p) H))) oTuple := by
  intro H M S xs ds Q W rs rl p
  unfold oTuple at p
  split at p
  · next es =>
    obtain ⟨v, rfl, rv⟩ := rl.inv1
    obtain ⟨a, us, rfl, h1, n, q⟩ := id rv
    exact ⟨a, us, rfl, .inr ⟨SqT.of h1, one_ok p rs rv⟩⟩
  · next d _ =>
    obtain ⟨v, rfl, rv⟩ := rl.inv1
    split at p
    · next es he =>
      obtain ⟨a, us, rfl, sq, q, z⟩ := seq_rep rs rv he
      refine ⟨a, us, rfl, .inl ⟨sq, fun l hl => ?_⟩⟩
      exact p _ M _ (ext_new hl _) (rs.new hl _) ⟨l, us, rfl, upd_same, rs.fresh hl, RepL.ext (ext_new hl _) _ _ q⟩
    · exact p.elim
  · exact p.elim
theorem q_blt {x : Str} {p pos : Pos} {e : Expr} {es : List Expr} {id : String} {r : List V → Hp → VK → Prop} {f : Store → List D → R D} {ms : Env → Store → R (List D)} (hc : CallR X (.builtin id) r) (s : SoundN X.K ca r f) (hg : Gl X x) (hm : X.mg x = none) (hv : bootBuiltins x = some (.builtin id)) (ha : PA X (e :: es) (tOfA X.K ca W ms)) (hn : x ≠ "__name__" := by decide) (hdb : (x == ("__debug__" : Str)) = false := by decide)
    (he : starEach (e :: es) X.env = (false, eval e X.env) :: starEach es X.env := by rfl) (hpl : (backTo pos (starEach es X.env)).any (·.1) = false := by rfl) : PE X (.Call (.Name x p) (e :: es) [] pos) (tOf X.K ca W (mN f ms)) :=
  weakE (pe_callB hc hg hm hv ha hn hdb he hpl) (n_of s)
theorem q_blty {x : Str} {p pos : Pos} {e : Expr} {es : List Expr} {T : String} {r : List V → Hp → VK → Prop} {f : Store → List D → R D} {ms : Env → Store → R (List D)} (hc : CallR X (.type T) r) (s : SoundN X.K ca r f) (hg : Gl X x) (hm : X.mg x = none) (hv : bootBuiltins x = some (.type T)) (ha : PA X (e :: es) (tOfA X.K ca W ms)) (hn : x ≠ "__name__" := by decide) (hdb : (x == ("__debug__" : Str)) = false := by decide)
    (he : starEach (e :: es) X.env = (false, eval e X.env) :: starEach es X.env := by rfl) (hpl : (backTo pos (starEach es X.env)).any (·.1) = false := by rfl) : PE X (.Call (.Name x p) (e :: es) [] pos) (tOf X.K ca W (mN f ms)) :=
  weakE (pe_callTy hc hg hm hv ha hn hdb he hpl) (n_of s)
theorem tyN_rep {K : PySem.W.Frag} {H : Hp} {M : Cells} {S : Store} (rs : RelS K ca H M S) {d : D} {v : V} {t : String} (r : Rep K ca H M d v) (h : tyN S d = some t) : TyX K H v (.type t) := by
  have lst : (match seqP S d with
    | some _ => some "list"
    | none => none) = some t → TyX K H v (.type t) := fun h => by
    split at h
    · next es he =>
      cases h
      obtain ⟨a, xs, rfl, h1, _⟩ := seqP_rep rs r he
      exact .base (.lst h1)
    · cases h
  cases d with
  | non => cases h; cases r; exact .base .non
  | bl _ => cases h; cases r; exact .base (.bl _)
  | int _ => cases h; cases r; exact .base (.int _)
  | str _ => cases h; cases r; exact .base (.str _)
  | tup _ => cases h; obtain ⟨a, xs, rfl, h1, _⟩ := r; exact .base (.tup h1)
  | lst _ => exact lst h
  | obj _ _ _ => exact lst h
  | cell _ => exact lst h
  | scr _ => exact lst h
  | exc _ => exact lst h
/-- isinstance(e, T), T a built-in type's name -/
theorem q_isT {p p2 pos : Pos} {e : Expr} {y : Str} {T : String} {me : ME} (hg : Gl X "isinstance") (hm : X.mg "isinstance" = none) (he : PE X e (tOf X.K ca W me)) (hy : PE X (.Name y p2) (tC (.ty T)))
    (he1 : starEach [e, .Name y p2] X.env = (false, eval e X.env) :: starEach [.Name y p2] X.env := by rfl) (he2 : starEach [.Name y p2] X.env = (false, eval (.Name y p2) X.env) :: starEach [] X.env := by rfl)
    (hpl : (backTo pos (starEach [.Name y p2] X.env)).any (·.1) = false := by rfl) :
    PE X (.Call (.Name "isinstance" p) [e, .Name y p2] [] pos) (tOf X.K ca W (m1 (oIsT T) me)) :=
  weakE (pe_callB call_isi hg hm (by decide +kernel) (pa_cons he (pa_cons hy pa_nil he2) he1) (by decide) (by decide) he1 hpl) fun σ H Q => by
    rintro ⟨ρ, M, S, re, rs, q⟩
    refine ⟨ρ, M, S, re, rs, (post_bind q).mono ?_⟩
    rintro v H1 ⟨M1, S1, d, e1, rs1, r1, p1⟩
    unfold oIsT at p1
    split at p1
    · next t ht =>
      split at p1
      · next b hb => exact ⟨v, .ty T, .type t, .type T, b, rfl, .ty _, tyN_rep rs1 r1 ht, kit_ty hb, one_ok p1 rs1 rfl⟩
      · exact p1.elim
    · exact p1.elim
end
end Sm
/-! S9: stores, attributes, dict methods, raise -/
namespace Sm
open PySem PySem.Spec PyProof.Rows L2
open Classical
/-! ### o[i] = e -/
def cellK (S : Store) (d : D) : Option (Nat × List (Key × D)) := match d with
  | .cell n => match S[n]? with
    | some (.dk ds) => some (n, ds)
    | _ => none
  | _ => none
def cellT (S : Store) (d : D) : Option (Nat × List (List Key × D)) := match d with
  | .cell n => match S[n]? with
    | some (.dt ds) => some (n, ds)
    | _ => none
  | _ => none
def keysD (d : D) : Option (List Key) := match d with
  | .tup ds => keysOf ds
  | _ => none
/-- the store behind o[i] = e -/
def oSet (S : Store) (o i e : D) : R D := match cellL S o with
  | some (n, ds) => match i with
    | .int k => match ixN ds.length k with
      | some j => .ok .non (S.set n (.lst (ds.set j e)))
      | none => .err
    | _ => .err
  | none => match cellK S o, keyOf i with
    | some (n, kvs), some k => if kvs.length < sizeLine then .ok .non (S.set n (.dk (putG kvs k e))) else .err
    | _, _ => match cellT S o, keysD i with
      | some (n, kvs), some k => if kvs.length < sizeLine then .ok .non (S.set n (.dt (putG kvs k e))) else .err
      | _, _ => .err
section
variable {X : Cx} {ca : Nat → Addr} {W : WX}
abbrev rSetD : TSet := fun o i v H Q => ∃ a H', o = .ref a ∧ DPut H a i v H' ∧ Q H'
theorem set_dict (hu : X.A.units + 1 < cLine) : PSet X rSetD := by
  intro pins s σ H o i v ov iv u Q I ro ri rv h
  obtain ⟨a, H', rfl, g, q⟩ := h
  cases ro
  exact d_setItem hu I g ri rv fun s4 I4 => ⟨H', I4, q⟩
abbrev rSetA : TSet := fun o i v H Q => rSetL o i v H Q ∨ rSetD o i v H Q
theorem or_set (hu : X.A.units + 1 < cLine) : PSet X rSetA := by
  intro pins s σ H o i v ov iv u Q I ro ri rv h
  rcases h with h | h
  · exact set_list pins s σ H o i v ov iv u Q I ro ri rv h
  · exact set_dict hu pins s σ H o i v ov iv u Q I ro ri rv h
theorem cellK_some {S : Store} {d : D} {n : Nat} {ds : List (Key × D)} (h : cellK S d = some (n, ds)) : d = .cell n ∧ S[n]? = some (.dk ds) := by
  unfold cellK at h
  split at h
  · split at h
    · next e => cases h; exact ⟨rfl, e⟩
    · cases h
  · cases h
theorem cellT_some {S : Store} {d : D} {n : Nat} {ds : List (List Key × D)} (h : cellT S d = some (n, ds)) : d = .cell n ∧ S[n]? = some (.dt ds) := by
  unfold cellT at h
  split at h
  · split at h
    · next e => cases h; exact ⟨rfl, e⟩
    · cases h
  · cases h
theorem set_rep {K : PySem.W.Frag} {H : Hp} {M : Cells} {S : Store} {Q : VK} {Wx : XW} {o i e : D} {ov iv v : V} (rs : RelS K ca H M S) (ro : Rep K ca H M o ov) (ri : Rep K ca H M i iv) (re : Rep K ca H M e v)
    (p : Post K ca (rD K ca) H M Q Wx (oSet S o i e)) : rSetA ov iv v H (fun H' => Q .non H') := by
  unfold oSet at p
  split at p
  · next n ds h =>
    split at p
    · next k =>
      cases ri
      split at p
      · next j hj =>
        obtain ⟨a, xs', rfl, h1, z, q, l, wr⟩ := cell_write rs ro h
        have hl := q.length
        exact .inl ⟨a, xs', k, j, rfl, rfl, h1, by rw [← hl]; exact hj, post_w p l (wr _ _ (q.set j re) (by rw [List.length_set]; exact z)) rfl⟩
      · exact p.elim
    · exact p.elim
  · split at p
    · next n kvs k h hk =>
      split at p
      · next hz =>
        obtain ⟨rfl, hS⟩ := cellK_some h
        obtain ⟨z, hz', a, ys, rfl, h1, h2, h3⟩ := rs.cells n _ hS
        obtain ⟨z', hz2, hv⟩ := ro
        rw [hz'] at hz2; cases hz2
        have := key_rep ri hk
        subst this
        have l : WLive H M a := ⟨⟨n, hz'⟩, fun od u e => by rw [h1] at e; cases e⟩
        have hlen := congrArg List.length h2
        rw [List.length_map, List.length_map] at hlen
        obtain ⟨g1, g2⟩ := put_rep k h2 h3 re
        exact .inr ⟨a, _, hv a rfl, DPut.k h1 (by omega), post_w p l (rs.write hz' l.2 _ ⟨a, putK ys k v, rfl, upd_same, g1, RepL.ext (ext_write l _) _ _ g2⟩) rfl⟩
      · exact p.elim
    · split at p
      · next n kvs k h hk =>
        split at p
        · next hz =>
          obtain ⟨rfl, hS⟩ := cellT_some h
          obtain ⟨z, hz', a, ys, rfl, h1, h2, h3⟩ := rs.cells n _ hS
          obtain ⟨z', hz2, hv⟩ := ro
          rw [hz'] at hz2; cases hz2
          unfold keysD at hk
          split at hk
          · next es =>
            obtain ⟨b, xs, rfl, hb, _, rl⟩ := ri
            have := keys_rep rl hk
            subst this
            have l : WLive H M a := ⟨⟨n, hz'⟩, fun od u e => by rw [h1] at e; cases e⟩
            have hlen := congrArg List.length h2
            rw [List.length_map, List.length_map] at hlen
            obtain ⟨g1, g2⟩ := put_rep k h2 h3 re
            exact .inr ⟨a, _, hv a rfl, DPut.t h1 hb (by omega), post_w p l (rs.write hz' l.2 _ ⟨a, putK ys k v, rfl, upd_same, g1, RepL.ext (ext_write l _) _ _ g2⟩) rfl⟩
          · cases hk
        · exact p.elim
      · exact p.elim
end
def sSub (v o i : ME) : MS := fun ρ S => (v ρ S).bind fun e S1 => (o ρ S1).bind fun d S2 => (i ρ S2).bind fun k S3 => (oSet S3 d k e).bind fun _ S4 => .ok (.nx ρ) S4
def sAsgs (is : List Nat) (a : ME) : MS := fun ρ S => (a ρ S).bind fun d S1 => match d with
  | .tup ds => if ds.length = is.length then .ok (.nx (setAll is ds ρ)) S1 else .err
  | _ => .err
/-- the store behind o.f = e -/
def cellI (S : Store) (d : D) : Option (Nat × Nat × List Str × List D) := match d with
  | .cell n => match S[n]? with
    | some (.ins c ns ds) => some (n, c, ns, ds)
    | _ => none
  | _ => none
def putN (f : Str) : List Str → List Str
  | [] => [f]
  | g :: r => if g = f then g :: r else g :: putN f r
def putD (f : Str) (v : D) : List Str → List D → List D
  | g :: r, x :: xs => if g = f then v :: xs else x :: putD f v r xs
  | _, _ => [v]
noncomputable def sFldM (c : Nat) (f : Str) (v o : ME) : MS := fun ρ S => (v ρ S).bind fun e S1 => (o ρ S1).bind fun d S2 => match cellI S2 d with
  | some (n, c', ns, ds) => if c' = c ∧ ns.length < 1000 then .ok (.nx ρ) (S2.set n (.ins c (putN f ns) (putD f e ns ds))) else .err
  | none => .err
/-- o.f -/
noncomputable def oFld (c : Nat) (f : Str) (S : Store) (d : D) : R D := match objOf S d with
  | some (c', ns, ds) => if c' = c then (match (ns.zip ds).lookup f with
    | some r => .ok r S
    | none => .err) else .err
  | none => .err
section
variable {X : Cx} {ca : Nat → Addr} {W : XW}
theorem qs_sub {o i e : Expr} {tpos pos : Pos} {mv mo mi : ME} (hu : X.A.units + 1 < cLine) (he : PE X e (tOf X.K ca (wx W) mv)) (ho : PE X o (tOf X.K ca (wx W) mo)) (hi : PE X i (tOf X.K ca (wx W) mi))
    (ha : ∀ v, assign (.Subscript o i tpos) X.env v = (do
      let ov ← holding [v] (eval o X.env)
      let iv ← holding [v, ov] (eval i X.env)
      standAt tpos
      holding [v, ov, iv] (setItem ov iv v)
      release [v, ov, iv] []) := by intro _; rfl)
    (hs : swapsWithSole [.Subscript o i tpos] e pos.line X.env = pure false := by rfl) (hw : swappedStores [.Subscript o i tpos] e X.env = pure none := by rfl)
    (h1 : (assignEach [.Subscript o i tpos] X.env).map (·.2) = [assign (.Subscript o i tpos) X.env] := by rfl) : PS X (.Assign [.Subscript o i tpos] e pos) (tSOf X.K ca W (sSub mv mo mi)) :=
  weakS (ps_asg he (pg_sub ho hi (or_set hu) ha) hs hw h1) fun De σ H => by
    rintro ⟨ρ, M, S, re, rs, p⟩
    refine ⟨ρ, M, S, re, rs, (post_bindS p).mono ?_⟩
    rintro v H1 ⟨M1, S1, e, e1, rs1, r1, p1⟩
    refine ⟨ρ, M1, S1, re.ext e1, rs1, (post_bindS p1).mono ?_⟩
    rintro ov H2 ⟨M2, S2, d, e2, rs2, r2, p2⟩
    refine ⟨ρ, M2, S2, (re.ext e1).ext e2, rs2, (post_bindS p2).mono ?_⟩
    rintro iv H3 ⟨M3, S3, k, e3, rs3, r3, p3⟩
    have p4 := post_bindS (rp := rD X.K ca) p3
    have := set_rep (Q := fun _ H' => De.nx σ H') rs3 (Rep.ext e3 _ _ r2) r3 (Rep.ext e3 _ _ (Rep.ext e2 _ _ r1)) (p4.mono ?_)
    · exact this
    rintro x H4 ⟨M4, S4, u, e4, rs4, r4, p5⟩
    exact p5 σ M4 H4 (Ext.refl _ _) rs4 ((((re.ext e1).ext e2).ext e3).ext e4)
theorem gs_run : ∀ {is : List Nat} {us : List V} {σ : L2.St} {H : Hp} {Q : L2.St → Hp → Prop}, us.length = is.length → Q (setV is us σ) H → (is.foldr (fun i t => gCons (gName i) t) gNil) us σ H Q
  | [], [], _, _, _, _, h => ⟨rfl, h⟩
  | i :: is, u :: us, σ, H, Q, e, h => ⟨u, us, rfl, gs_run (is := is) (us := us) (Nat.succ.inj e) h⟩
  | [], _ :: _, _, _, _, e, _ => nomatch e
  | _ :: _, [], _, _, _, e, _ => nomatch e
theorem qs_tup {tgs : List Expr} {k : Nat} {e : Expr} {tpos pos : Pos} {is : List Nat} {mv : ME} (hc : X.calm = true) (he : PE X e (tOf X.K ca (wx W) mv)) (hg : PGs X tgs (is.foldr (fun i t => gCons (gName i) t) gNil))
    (hn : (assignEach tgs X.env).length = is.length := by rfl) (hst : (assignEach tgs X.env).findIdx? (·.1) = none := by rfl)
    (hs : swapsWithSole [.Tuple tgs k tpos] e pos.line X.env = pure false := by rfl) (hw : swappedStores [.Tuple tgs k tpos] e X.env = pure none := by rfl)
    (h1 : (assignEach [.Tuple tgs k tpos] X.env).map (·.2) = [assign (.Tuple tgs k tpos) X.env] := by rfl) : PS X (.Assign [.Tuple tgs k tpos] e pos) (tSOf X.K ca W (sAsgs is mv)) :=
  weakS (ps_asg he (pg_tup hc hg hn hst) hs hw h1) fun De σ H => by
    rintro ⟨ρ, M, S, re, rs, p⟩
    refine ⟨ρ, M, S, re, rs, (post_bindS p).mono ?_⟩
    rintro v H1 ⟨M1, S1, d, e1, rs1, r1, p1⟩
    split at p1
    · next ds =>
      split at p1
      · next hl =>
        obtain ⟨a, xs, rfl, h1, n, rl⟩ := r1
        have hl2 := rl.length
        exact ⟨a, xs, rfl, SqT.of h1, by omega, gs_run (by omega) (p1 _ M1 H1 (Ext.refl _ _) rs1 ((re.ext e1).setAll rl))⟩
      · exact p1.elim
    · exact p1.elim
theorem putF_names (f : Str) (v : V) : ∀ fs : List (Str × V), (putF f v fs).map (·.1) = putN f (fs.map (·.1))
  | [] => rfl
  | (g, x) :: r => by
    unfold putF
    show _ = (if g = f then g :: r.map (·.1) else g :: putN f (r.map (·.1)))
    split
    · rfl
    · rw [← putF_names f v r]; rfl
theorem putF_vals {K : PySem.W.Frag} {H : Hp} {M : Cells} (f : Str) {d : D} {v : V} (rv : Rep K ca H M d v) : ∀ {fs : List (Str × V)} {ds : List D}, RepL K ca H M ds (fs.map (·.2)) → RepL K ca H M (putD f d (fs.map (·.1)) ds) ((putF f v fs).map (·.2))
  | [], [], _ => ⟨rv, trivial⟩
  | (g, x) :: r, e :: ds, h => by
    unfold putF
    show RepL K ca H M (if g = f then d :: ds else e :: putD f d (r.map (·.1)) ds) _
    split
    · exact ⟨rv, h.2⟩
    · exact ⟨h.1, putF_vals f rv h.2⟩
  | [], _ :: _, h => h.elim
  | _ :: _, [], h => h.elim
theorem cellI_some {S : Store} {d : D} {n c : Nat} {ns : List Str} {ds : List D} (h : cellI S d = some (n, c, ns, ds)) : d = .cell n ∧ S[n]? = some (.ins c ns ds) := by
  unfold cellI at h
  split at h
  · split at h
    · next e => cases h; exact ⟨rfl, e⟩
    · cases h
  · cases h
theorem qs_fld {o e : Expr} {f : Str} {c : Nat} {tpos pos : Pos} {mv mo : ME} (hc : Cls X.K (ca c)) (hn : NoAttr X.K (ca c) f) (he : PE X e (tOf X.K ca (wx W) mv)) (ho : PE X o (tOf X.K ca (wx W) mo)) (hs : swapsWith e (some (.Attribute o f tpos)) pos.line X.env = pure false := by rfl) :
    PS X (.Assign [.Attribute o f tpos] e pos) (tSOf X.K ca W (sFldM c f mv mo)) := weakS (ps_fld ho he hs) fun De σ H => by
  rintro ⟨ρ, M, S, re, rs, p⟩
  refine ⟨ρ, M, S, re, rs, (post_bindS p).mono ?_⟩
  rintro v H1 ⟨M1, S1, e, e1, rs1, r1, p1⟩
  refine ⟨ρ, M1, S1, re.ext e1, rs1, (post_bindS p1).mono ?_⟩
  rintro ov H2 ⟨M2, S2, d, e2, rs2, r2, p2⟩
  split at p2
  · next n c' ns ds h =>
    split at p2
    · next hz =>
      obtain ⟨rfl, hz⟩ := hz
      obtain ⟨rfl, hS⟩ := cellI_some h
      obtain ⟨z, hz', a, dx, fs, rfl, h1, h2, h3⟩ := rs2.cells n _ hS
      obtain ⟨z', hz2, hv⟩ := r2
      rw [hz'] at hz2; cases hz2
      have l : WLive H2 M2 a := ⟨⟨n, hz'⟩, fun od u e => by rw [h1] at e; cases e⟩
      have hlen := congrArg List.length h2
      rw [List.length_map] at hlen
      refine ⟨a, ca c', dx, fs, hv a rfl, h1, hc, hn, by omega, ?_⟩
      refine p2 σ M2 _ (ext_write l _) (rs2.write hz' l.2 _ ⟨a, dx, putF f v fs, rfl, upd_same, by rw [putF_names, h2], RepL.ext (ext_write l _) _ _ ?_⟩) (((re.ext e1).ext e2).ext (ext_write l _))
      rw [← h2]
      exact putF_vals f (Rep.ext e2 _ _ r1) h3
    · exact p2.elim
  · exact p2.elim
end
section
variable {X : Cx} {ca : Nat → Addr} {W : WX}
theorem fld_look {K : PySem.W.Frag} {H : Hp} {M : Cells} {f : Str} : ∀ {fs : List (Str × V)} {ds : List D} {r : D}, RepL K ca H M ds (fs.map (·.2)) → ((fs.map (·.1)).zip ds).lookup f = some r → ∃ v, fs.lookup f = some v ∧ Rep K ca H M r v
  | [], [], _, _, h => by cases h
  | (g, x) :: fs, d :: ds, r, h, q => by
    have q : List.lookup f ((g, d) :: (fs.map (·.1)).zip ds) = some r := q
    rw [List.lookup_cons] at q
    rw [List.lookup_cons]
    split at q
    · next e => cases q; exact ⟨x, rfl, h.1⟩
    · next e => exact fld_look h.2 q
  | [], _ :: _, _, h, _ => h.elim
  | _ :: _, [], _, h, _ => h.elim
theorem q_fld {e : Expr} {f : Str} {c : Nat} {pos : Pos} {me : ME} (hc : Cls X.K (ca c)) (hn : NoAttr X.K (ca c) f) (he : PE X e (tOf X.K ca W me)) (hb : attributeBase e f X.env (eval e X.env) = eval e X.env := by rfl) :
    PE X (.Attribute e f pos) (tOf X.K ca W (m1 (oFld c f) me)) := weakE (pe_fld he hb) fun σ H Q => by
  rintro ⟨ρ, M, S, re, rs, p⟩
  refine ⟨ρ, M, S, re, rs, (post_bind p).mono ?_⟩
  rintro x H1 ⟨M1, S1, d, e1, rs1, r1, p1⟩
  unfold oFld at p1
  split at p1
  · next c' ns ds h =>
    split at p1
    · next hz =>
      subst hz
      split at p1
      · next r hr =>
        obtain ⟨a, dx, fs, rfl, h1, z, q1⟩ := obj_rep rs1 r1 h
        rw [← z] at hr
        obtain ⟨v, hv, rv⟩ := fld_look q1 hr
        exact ⟨a, _, dx, fs, v, rfl, h1, hc, hn, hv, one_ok p1 rs1 rv⟩
      · exact p1.elim
    · exact p1.elim
  · exact p1.elim
/-! ### d.get(k, x), d.setdefault(k, x) -/
def isDict (S : Store) (d : D) : Bool := match d with
  | .cell n => match S[n]? with
    | some (.dk _) => true
    | some (.dt _) => true
    | _ => false
  | _ => false
def mGet2 (o k x : ME) : ME := fun ρ S => (o ρ S).bind fun d S1 => if isDict S1 d then (k ρ S1).bind fun e S2 => (x ρ S2).bind fun z S3 => match dGet S3 d e with
  | some (some r) => .ok r S3
  | some none => .ok z S3
  | none => .err else .err
def mSetD (o k x : ME) : ME := fun ρ S => (o ρ S).bind fun d S1 => if isDict S1 d then (k ρ S1).bind fun e S2 => (x ρ S2).bind fun z S3 => match cellK S3 d, keyOf e with
  | some (n, kvs), some y => if kvs.length < sizeLine then (match valK kvs y with
    | some r => .ok r S3
    | none => .ok z (S3.set n (.dk (putG kvs y z)))) else .err
  | _, _ => .err else .err
end
/-! ### raise C('..') -/
def sRaise (c : Nat) : MS := fun _ S => .ex c S
theorem qs_raise {X : Cx} {ca : Nat → Addr} {W : XW} {e : Expr} {c : Nat} {pos : Pos} (hc : X.calm = true) (tk : L2N.Takes X (wx W)) (he : L2N.PMk X e (fun _ H Q => Q (.ref (ca c)) none H)) : PS X (.Raise (some e) none pos) (tSOf X.K ca W (sRaise c)) :=
  weakS (L2N.ps_raise hc tk he) fun De σ H => by
    rintro ⟨ρ, M, S, re, rs, p⟩
    exact p M H (Ext.refl _ _) rs
end Sm
/-! S10: a list or a tuple is walked; the facts of a program -/
namespace Sm
open PySem PySem.Spec PyProof.Rows L2
open Classical
def itemsA : List D → Store → Option (List (List D))
  | [d], S => match itemsT [d] S with
    | some its => some its
    | none => (seqL S d).map ones
  | _, _ => none
section
variable {X : Cx} {ca : Nat → Addr} {W : WX}
def iAny (K : PySem.W.Frag) (te : TE) : TI := fun σ H R => te σ H fun x H1 => ∃ a, x = .ref a ∧ (((∃ xs, SqL K H1 a xs) ∧ R (Itl K a) H1) ∨ ((∃ xs, SqT K H1 a xs) ∧ R (Itt K a) H1))
theorem pi_any {tgx l : Expr} {tl : TE} (hl : PE X l tl) : PI X tgx l (iAny X.K tl) := by
  refine ⟨fun pins s σ H R I h => ?_⟩
  refine thn (hl.run pins s σ H _ I h) fun v s1 ⟨x, H1, I1, r1, q1⟩ => ?_
  obtain ⟨a, e, q1⟩ := q1
  subst e
  cases r1
  rcases q1 with ⟨⟨xs, hq⟩, q⟩ | ⟨⟨xs, hq⟩, q⟩
  · obtain ⟨its, rv, p, hz⟩ := I1.list hq
    refine wpAny_pyIter_list p.isList ?_
    refine ⟨s1.heap.objs.size, [s1.heap.objs.size], _, _, H1, rfl, I1.kept (t' := s1.toks) fun b o e => Heap.get?_push_of_some _ e, turn_list a _, ⟨_, Heap.get?_push_size _ rfl, rfl, rfl⟩, fun b hb => ?_, q⟩
    have e : b = s1.heap.objs.size := by simpa using hb
    subst e
    exact I1.fpOk (Nat.le_refl _) (I1.hok.fresh (Nat.le_refl _))
  · obtain ⟨its, rv, p, hz⟩ := I1.tuple hq
    refine wpAny_pyIter_tuple (show s1.heap.IsTuple a its.toArray from p) ?_
    refine ⟨s1.heap.objs.size, [s1.heap.objs.size], _, _, H1, rfl, I1.kept (t' := s1.toks) fun b o e => Heap.get?_push_of_some _ e, turn_tuple a _, ⟨_, Heap.get?_push_size _ rfl, rfl, rfl⟩, fun b hb => ?_, q⟩
    have e : b = s1.heap.objs.size := by simpa using hb
    subst e
    exact I1.fpOk (Nat.le_refl _) (I1.hok.fresh (Nat.le_refl _))
theorem itemsA_inv {src : List D} {S : Store} {its : List (List D)} (h : itemsA src S = some its) : ∃ d, src = [d] ∧ ((∃ ds, d = .tup ds ∧ ds.length ≤ sizeLine ∧ its = ones ds) ∨ ((∀ ds, d ≠ .tup ds) ∧ ∃ ds, seqL S d = some ds ∧ its = ones ds)) := by
  unfold itemsA at h
  split at h
  · next d =>
    refine ⟨d, rfl, ?_⟩
    split at h
    · next its' h' =>
      cases h
      obtain ⟨ds, e, z, rfl⟩ := itemsT_inv h'
      cases e
      exact .inl ⟨ds, rfl, z, rfl⟩
    · cases q : seqL S d with
      | none => rw [q] at h; cases h
      | some ds =>
        rw [q] at h; cases h
        refine .inr ⟨fun es e => ?_, ds, rfl, rfl⟩
        subst e; cases q
  · cases h
theorem walk_tup {K : PySem.W.Frag} {H0 : Hp} {d : D} {a : Addr} {i : Nat} {ds0 : List D} (hd : d = .tup ds0) : Walk K ca H0 (Itt K a) (gName i) [d] [.ref a] [i] (itemsA [d]) := by
  subst hd
  refine ⟨fun H2 M2 S2 its2 _ rs2 r2 h2 => ?_, fun H2 M2 S2 its2 j _ rs2 r2 h2 => ?_⟩
  · obtain ⟨d, e, h | h⟩ := itemsA_inv h2
    · obtain ⟨ds, e2, z, rfl⟩ := h; unfold ones; rw [List.length_map]; exact z
    · cases e; exact absurd rfl (h.1 _)
  · obtain ⟨d, e, h | h⟩ := itemsA_inv h2
    · obtain ⟨ds, e2, z, rfl⟩ := h
      cases e; cases e2
      obtain ⟨a2, xs2, e2, h2, n2, rl2⟩ := r2.1
      cases e2
      have hl := rl2.length
      refine ⟨fun hj => ⟨xs2, SqT.of h2, by unfold ones at hj; rw [List.length_map] at hj; omega⟩, fun item hit => ?_⟩
      obtain ⟨d2, hd2, rfl⟩ := ones_get hit
      obtain ⟨v, hv, rv⟩ := rl2.get hd2
      refine ⟨⟨xs2, v, SqT.of h2, hv⟩, fun x Hx hy => ?_⟩
      obtain ⟨rfl, hy⟩ := hy
      have := hy xs2 (SqT.of h2)
      rw [hv] at this; cases this
      exact ⟨Ext.refl _ _, rs2, [v], RepL.one rv, fun σ Q h => h⟩
    · cases e; exact absurd rfl (h.1 _)
theorem walk_lst {K : PySem.W.Frag} {H0 : Hp} {d : D} {a : Addr} {i : Nat} (hd : ∀ ds, d ≠ .tup ds) : Walk K ca H0 (Itl K a) (gName i) [d] [.ref a] [i] (itemsA [d]) := by
  refine ⟨fun H2 M2 S2 its2 _ rs2 r2 h2 => ?_, fun H2 M2 S2 its2 j _ rs2 r2 h2 => ?_⟩
  · obtain ⟨d', e, h | h⟩ := itemsA_inv h2
    · cases e; obtain ⟨ds, e2, _⟩ := h; exact absurd e2 (hd _)
    · cases e
      obtain ⟨_, ds, q, rfl⟩ := h
      obtain ⟨a2, xs2, e2, sq2, rl2, z2⟩ := seq_rep rs2 r2.1 q
      have := rl2.length
      unfold ones; rw [List.length_map]; omega
  · obtain ⟨d', e, h | h⟩ := itemsA_inv h2
    · cases e; obtain ⟨ds, e2, _⟩ := h; exact absurd e2 (hd _)
    · cases e
      obtain ⟨_, ds, q, rfl⟩ := h
      obtain ⟨a2, xs2, e2, sq2, rl2, z2⟩ := seq_rep rs2 r2.1 q
      cases e2
      have hl := rl2.length
      refine ⟨fun hj => ⟨xs2, sq2, by unfold ones at hj; rw [List.length_map] at hj; omega⟩, fun item hit => ?_⟩
      obtain ⟨d2, hd2, rfl⟩ := ones_get hit
      obtain ⟨v, hv, rv⟩ := rl2.get hd2
      refine ⟨⟨xs2, v, sq2, hv⟩, fun x Hx hy => ?_⟩
      obtain ⟨rfl, hy⟩ := hy
      have := hy xs2 sq2
      rw [hv] at this; cases this
      exact ⟨Ext.refl _ _, rs2, [v], RepL.one rv, fun σ Q h => h⟩
theorem it_any {m : ME} {i : Nat} : IterOk X.K ca W (iAny X.K (tOf X.K ca W m)) (mCons m mNil) itemsA [i] (gName i) := by
  intro σ H Rr ρ M S re rs p
  refine ⟨ρ, M, S, re, rs, (one_arg p).mono ?_⟩
  rintro x H1 ⟨M1, S1, src, its, e1, rs1, r1, hi, wk⟩
  obtain ⟨d, rfl, h | h⟩ := itemsA_inv hi
  · obtain ⟨ds, rfl, z, rfl⟩ := h
    obtain ⟨a, xs, rfl, h1, n, rl⟩ := id r1.1
    exact ⟨a, rfl, .inr ⟨⟨xs, SqT.of h1⟩, wk _ (walk_tup rfl)⟩⟩
  · obtain ⟨hn, ds, q, rfl⟩ := h
    obtain ⟨a, xs, rfl, sq, rl, z⟩ := seq_rep rs1 r1.1 q
    exact ⟨a, rfl, .inl ⟨⟨xs, sq⟩, wk _ (walk_lst hn)⟩⟩
end
/-! ### a test by truth: a list, a number, a text -/
def truD (S : Store) (d : D) : Option Bool := match d with
  | .bl b => some b
  | .int i => some (i != 0)
  | .non => some false
  | _ => match seqL S d with
    | some ds => some (!ds.isEmpty)
    | none => none
def mTru (a : ME) : ME := fun ρ S => (a ρ S).bind fun d S1 => match truD S1 d with
  | some b => .ok (.bl b) S1
  | none => .err
/-! ### what a program's top has left -/
/-- the classes' names, by number -/
def cn : Nat → Str
  | 0 => "NetError" | 1 => "BadText" | 2 => "Unfit" | 3 => "NoMirror" | 4 => "NoPlace" | 5 => "NoTurn" | 6 => "Unsound" | 7 => "Net" | _ => "Plan"
abbrev caK (K : PySem.W.Frag) : Nat → Addr := fun c => He.ga K (cn c)
structure Lk (P : Program) (w : World) (K : PySem.W.Frag) (mg : Str → Option Value) (base : Heap) (sg : List (Nat × Str × List Str)) (mts : List (Nat × Nat × Str × List Str)) (mks : List (Nat × Str × Nat × List Str × List D))
    (fa : List He.Fa) (gx : PySem.W.Frag → Bool) (n : Nat) (C I : Orc) : Prop where
  fn : ∀ (j i : Nat) x ps, sg[j]? = some (i, x, ps) → FnAt P w K mg base (caK K) (n + 1) x ps (C i)
  mt : ∀ (j i : Nat) c m ps, mts[j]? = some (i, c, m, ps) → MtAt P w K mg base (caK K) (n + 1) c m ps (C i)
  mkc : ∀ (j i : Nat) x c ps dds, mks[j]? = some (i, x, c, ps, dds) → MkAt P w K mg base (caK K) n x c ps dds (I i)
  fact : ∀ (j : Nat) f, fa[j]? = some f → f.ok K = true
  kin : K.In base
  ns : base.Ns mainGlobals mg
  gx_ : gx K = true
section
variable {P : Program} {w : World} {K : PySem.W.Frag} {mg : Str → Option Value} {base : Heap} {sg : List (Nat × Str × List Str)} {mts : List (Nat × Nat × Str × List Str)} {mks : List (Nat × Str × Nat × List Str × List D)} {fa : List He.Fa} {xg : PySem.W.Frag → Bool} {n : Nat} {C I : Orc}
theorem Lk.bl (Z : Lk P w K mg base sg mts mks fa xg n C I) (j : Nat) (x : Str) (h : fa[j]? = some (.free x)) : mg x = none := He.free_ok Z.kin Z.ns (Z.fact j _ h)
theorem Lk.cl (Z : Lk P w K mg base sg mts mks fa xg n C I) (j c : Nat) (h : fa[j]? = some (.cls (cn c))) : Cls K (caK K c) := He.cls_ok (Z.fact j _ h)
theorem Lk.na (Z : Lk P w K mg base sg mts mks fa xg n C I) (j c : Nat) (f : Str) (h : fa[j]? = some (.noat (cn c) f)) : NoAttr K (caK K c) f := He.noat_ok (Z.fact j _ h)
theorem Lk.ex (Z : Lk P w K mg base sg mts mks fa xg n C I) (j c : Nat) (h : fa[j]? = some (.exc (cn c))) : PySem.W.excIn K (caK K c) He.veBase "ValueError.__new__" = true ∧ PySem.W.keepIn K (.ref (caK K c)) = true ∧ PySem.W.subIn K (.ref (caK K c)) (.type "BaseException") = some true ∧
    PySem.W.typeIn K (.ref (caK K c)) = some (.type "type") := He.exc_ok (Z.fact j _ h)
theorem Lk.gx (Z : Lk P w K mg base sg mts mks fa xg n C I) (j c : Nat) (h : fa[j]? = some (.glo (cn c))) : mg (cn c) = some (.ref (caK K c)) := He.glo_ok Z.kin Z.ns (Z.fact j _ h)
end
/-- the rule for a def of the text -/
theorem fn_simD {P : Program} {w : World} {K : PySem.W.Frag} {mg : Str → Option Value} {base : Heap} {ca : Nat → Addr} {x qual : Str} {st : Stmt} {dvs : List V} {kws : List (Str × V)} {f : Addr} {fd : FuncData} {N ps : List Str} {n : Nat} {b : Body} {C I : Orc}
    (F : FunD K x qual (defArgs st) (defBody st) (defScope st) dvs kws f fd) (Sc : FnScope N ps (defScope st)) (h1 : ps.length = b.ar) (h2 : N.length = b.sl)
    (hb : ∀ (cdv : Value) (A : Around) (outer : List PySem.Env) (s : Shared) (H : Hp) (E : XK), Room n (A.deeper (envOfC qual (defScope st) s.heap.objs.size f cdv)) →
      PSs (cxOf (L2N.CX P w) P w K mg base N qual (defScope st) f cdv A outer s H E) (defBody st) (tSOf K ca E (b.code C I))) :
    FnOk P w K mg base (L2N.CX P w) (n + 1) f fd ps (spOf K ca (step1 b C I)) := by
  have len : ∀ vs H Q E, spOf K ca (step1 b C I) vs H Q E → vs.length = ps.length ∧ ∃ ds M S, RelS K ca H M S ∧ RepL K ca H M ds vs ∧ ds.length = b.ar ∧
      Post K ca (rD K ca) H M Q E (fin b.cut S (b.code C I (ds.map some ++ List.replicate (b.sl - b.ar) none) S)) := fun vs H Q E ⟨ds, M, S, rs, r, p⟩ => by
    unfold step1 at p
    split at p
    · next hl => exact ⟨by rw [← r.length, hl, h1], ds, M, S, rs, r, hl, p⟩
    · exact p.elim
  refine F.ok Sc (fun vs H Q E h => (len vs H Q E h).1) fun cdv A outer s H vs Q E hr h => ⟨_, hb cdv A outer s H E hr, ?_⟩
  obtain ⟨_, ds, M, S, rs, r, hl, p⟩ := len vs H Q E h
  refine ⟨_, M, S, ?_, rs, fin_ok rs p⟩
  have e := r.length
  unfold L2.start
  have : N.length - vs.length = b.sl - b.ar := by omega
  rw [this]
  exact env_start _ r
/-- depths: at the first two nothing is known -/
noncomputable def ev (T : Nat → Option Body) : Nat → Orc
  | 0 => noOrc
  | 1 => noOrc
  | k + 2 => step T (ev T (k + 1)) (ev T k)
/-- a law: F gives the written part, the function object, the promise over every base -/
theorem walk_ofW {l : PySem.W.OpenLaw} {n k : Nat} {q : Program} {loose : List Str} {XP : (Str → Option Value) → Heap → Prop} {YP : World → Heap → Prop} {d : DefRec} {CX : World → CXT} {x : Str}
    (hn : l.most = some n) (hn2 : n ≤ sizeLine) (hdf : d.params.defaults = []) (hr : Room k callerA)
    (F : ∀ (w : World) (mg : Str → Option Value) (fa : Addr) (h : Heap), YP w h → h.Ns mainGlobals mg → mg d.name = some (.ref fa) →
      ∃ (K : PySem.W.Frag) (fd : FuncData) (sp : Sp), K.In h ∧ (∀ (s : Shared) (u : Value), BindsTo s fd ⟨[u], []⟩ [(x, u)]) ∧
        (∀ (H : Hp) (a : Addr) (ns : List Int), ns.length ≤ n → Only H → SqL K H a (ns.map V.int) → sp [.ref a] H (fun v _ => v = .bl true) fun _ _ _ => False) ∧
        ∀ base : Heap, K.In base → base.Ns mainGlobals mg → FnOk l.prog w K mg base (CX w) k fa fd [x] sp)
    (hCX : ∀ (w : World) (H : Hp) (s : Shared) (e : Value) (s' : Shared), CX w [] H s (fun _ _ _ => False) e s' → False) :
    PySem.W.WalkO q loose XP YP l.row.toRowW d [] (fun f vs => PySem.call f vs) := by
  refine Att.attach_call hn hdf fun w s₀ s₁ mg mb fa o pm cd doc a vs ns G Y ho hd hcd hmg hobj hints hlen hg => ?_
  obtain ⟨K, fd, sp, KX, hb, hsp, hF⟩ := F w mg fa _ Y G.T.g hmg
  exact law_call KX G.T.g G.T.b G.T.builtins G.T.nolimit hg hobj hints (Nat.le_trans hlen hn2) hr hF hb (fun H hO hS => hsp H a ns hlen hO hS) fun H e s' => hCX w H s₁ e s'
theorem cx_no {P : Program} (w : World) (H : Hp) (s : Shared) (e : Value) (s' : Shared) (h : L2N.CX P w [] H s (fun _ _ _ => False) e s') : False := by
  obtain ⟨_, _, _, _, _, _, _, _, _, _, _, _, z⟩ := h
  exact z.elim
/-- the law's own end: its mirror hands back True -/
theorem law_sp {K : PySem.W.Frag} {ca : Nat → Addr} {F : List D → Store → R D} (h : ∀ ns : List Int, ns.length ≤ 63 → ∃ S', F [.scr ns] [] = .ok (.bl true) S') (H : Hp) (a : Addr) (ns : List Int) (hl : ns.length ≤ 63) (_ : Only H) (hS : SqL K H a (ns.map V.int)) :
    spOf K ca F [.ref a] H (fun v _ => v = .bl true) fun _ _ _ => False := by
  obtain ⟨S', e⟩ := h ns hl
  refine ⟨[.scr ns], ⟨[], []⟩, [], ⟨rfl, fun i j a h => by simp at h, fun i mo h => by simp at h, fun a h => by simp at h, fun a h => by simp at h⟩, ⟨⟨a, rfl, ?_, Nat.le_trans hl (by decide)⟩, trivial⟩, ?_⟩
  · rcases hS with hS | hS
    · refine .inl ⟨hS, ?_⟩
      rintro (⟨i, h⟩ | h)
      · simp at h
      · simp at h
    · exact .inr hS
  · rw [e]
    exact fun v M' H' _ _ r => r
/-! ### all defs of a text, at every depth -/
section
variable {P : Program} {w : World} {K : PySem.W.Frag} {mg : Str → Option Value} {base : Heap} {ca : Nat → Addr} {T : Nat → Option Body} {n i : Nat} {b : Body} {x qual : Str} {st : Stmt} {dvs : List V} {kws : List (Str × V)} {f : Addr} {fd : FuncData} {N ps : List Str}
theorem sim_ok (hT : T i = some b) (F : FunD K x qual (defArgs st) (defBody st) (defScope st) dvs kws f fd) (Sc : FnScope N ps (defScope st)) (h1 : ps.length = b.ar) (h2 : N.length = b.sl)
    (hb : ∀ (cdv : Value) (A : Around) (outer : List PySem.Env) (s : Shared) (H : Hp) (E : XK), Room (n + 1) (A.deeper (envOfC qual (defScope st) s.heap.objs.size f cdv)) →
      PSs (cxOf (L2N.CX P w) P w K mg base N qual (defScope st) f cdv A outer s H E) (defBody st) (tSOf K ca E (b.code (ev T (n + 1)) (ev T n)))) :
    FnOk P w K mg base (L2N.CX P w) (n + 2) f fd ps (spOf K ca (ev T (n + 2) i)) := by
  have e : ev T (n + 2) i = step1 b (ev T (n + 1)) (ev T n) := by
    show (fun args S => match T i with
      | none => R.err
      | some b => step1 b (ev T (n + 1)) (ev T n) args S) = _
    rw [hT]
  rw [e]
  exact fn_simD F Sc h1 h2 hb
theorem at_fn (F : FnOk P w K mg base (L2N.CX P w) n f fd ps (spOf K ca (ev T n i))) (hm : mg x = some (.ref f)) (kp : PySem.W.keepIn K (.ref f) = true) (hb : Binds K fd ps []) : FnAt P w K mg base ca n x ps (ev T n i) := ⟨f, fd, F, hm, kp, hb⟩
theorem at_one (hm : mg x = some (.ref f)) (kp : PySem.W.keepIn K (.ref f) = true) (hb : Binds K fd ps []) : FnAt P w K mg base ca 1 x ps (ev T 1 i) := ⟨f, fd, fn_none, hm, kp, hb⟩
end
theorem fa_cons {A : Type} {p : A → Prop} {a : A} {l : List A} (h : p a) (t : ∀ q ∈ l, p q) : ∀ q ∈ a :: l, p q := fun q hq => by
  rcases List.mem_cons.mp hq with e | e
  · subst e; exact h
  · exact t q e
theorem fa_nil {A : Type} {p : A → Prop} : ∀ q ∈ ([] : List A), p q := fun _ h => nomatch h
end Sm
/-! S11: written dicts, instances of own classes, counts, numbers as texts -/
namespace Sm
open PySem PySem.Spec PyProof.Rows L2
open Classical
/-! ### a hidden object becomes a cell -/
theorem cell_hid {K : PySem.W.Frag} {ca : Nat → Addr} {H1 H : Hp} {M1 M : Cells} {S S1 : Store} {L : Addr} {mo : MO} (e : Ext H1 M1 H (M.as M1.h)) (hM : M.h = L :: M1.h)
    (rs1 : RelS K ca H1 M1 S1) (rs : RelS K ca H M S) (h1 : H1 L = none) (ok : ∀ M2, (∀ ds vs, RepL K ca H M ds vs → RepL K ca H M2 ds vs) → CellOk K ca H M2 (some L) mo) :
    Ext H1 M1 H ((M.as M1.h).push L) ∧ RelS K ca H ((M.as M1.h).push L) (S ++ [mo]) ∧ Rep K ca H ((M.as M1.h).push L) (.cell S.length) (.ref L) := by
  have inL : L ∈ M.h := by rw [hM]; exact List.mem_cons_self
  have sub : ∀ b, b ∈ M1.h → b ∈ M.h := fun b hb => by rw [hM]; exact List.mem_cons_of_mem _ hb
  have nL : L ∉ M1.h := fun q => (rs1.hid L q).1 h1
  have nc : ¬ CLive M L := (rs.hid L inL).2
  have cas : ∀ (k : Nat) x, (M.c ++ [some L])[k]? = some x → (M.c[k]? = some x ∧ k < M.c.length) ∨ (k = M.c.length ∧ x = some L) := fun k x q => by
    by_cases hk : k < M.c.length
    · rw [List.getElem?_append_left hk] at q; exact .inl ⟨q, hk⟩
    · rw [List.getElem?_append_right (by omega)] at q
      cases kk : k - M.c.length with
      | zero => rw [kk] at q; simp at q; exact .inr ⟨by omega, q.symm⟩
      | succ m => rw [kk] at q; simp at q
  have lv : ∀ a, ¬ Live M a → ¬ Live ((M.as M1.h).push L) a := fun a n => by
    rintro (⟨i, q⟩ | q)
    · rcases cas i (some a) q with ⟨q, _⟩ | ⟨_, q⟩
      · exact n (.inl ⟨i, q⟩)
      · cases q; exact n (.inr inL)
    · exact n (.inr (sub _ q))
  have cc : ∀ (n : Nat) x, M.c[n]? = some x → ((M.as M1.h).push L).c[n]? = some x := fun n x hx => by
    show (M.c ++ [some L])[n]? = some x
    rw [List.getElem?_append_left (List.getElem?_eq_some_iff.mp hx).1]; exact hx
  refine ⟨⟨?_, fun l hl => ?_, fun l a hl q => ?_, e.fr, e.on, rfl, e.fz⟩, ⟨by show (M.c ++ [some L]).length = _; simp [rs.len], fun i j a h2 h3 => ?_, fun i mo' hm => ?_, fun a ha => ⟨(rs.hid a (sub a ha)).1, ?_⟩, fun a ha => rs.hidt a (sub a ha)⟩, ⟨some L, ?_, fun a q => by cases q; rfl⟩⟩
  · have := e.len; show M1.c.length ≤ (M.c ++ [some L]).length
    have : M1.c.length ≤ M.c.length := this
    simp; omega
  · show (M.c ++ [some L])[l]? = _ ∨ (M.c ++ [some L])[l]? = _
    have hl2 : l < M.c.length := Nat.lt_of_lt_of_le hl e.len
    rw [List.getElem?_append_left hl2]; exact e.old l hl
  · rcases cas l (some a) q with ⟨q, _⟩ | ⟨_, q⟩
    · exact e.new l a hl q
    · cases q; exact h1
  · rcases cas i (some a) h2 with ⟨u1, _⟩ | ⟨u1, u2⟩ <;> rcases cas j (some a) h3 with ⟨w1, _⟩ | ⟨w1, w2⟩
    · exact rs.inj i j a u1 w1
    · cases w2; exact absurd ⟨i, u1⟩ nc
    · cases u2; exact absurd ⟨j, w1⟩ nc
    · omega
  · show ∃ x, (M.c ++ [some L])[i]? = some x ∧ _
    by_cases hi : i < S.length
    · rw [List.getElem?_append_left hi] at hm
      obtain ⟨x, hx, q⟩ := rs.cells i mo' hm
      exact ⟨x, by rw [List.getElem?_append_left (by rw [rs.len]; exact hi)]; exact hx, q.map (fun ds vs => RepL.live lv cc ds vs) fun _ _ => rfl⟩
    · rw [List.getElem?_append_right (by omega)] at hm
      cases k : i - S.length with
      | succ n => rw [k] at hm; simp at hm
      | zero =>
        rw [k] at hm; simp at hm; subst hm
        exact ⟨some L, by rw [List.getElem?_append_right (by rw [rs.len]; omega), rs.len, k]; rfl, ok _ fun ds vs => RepL.live lv cc ds vs⟩
  · rintro ⟨i, q⟩
    rcases cas i (some a) q with ⟨q, _⟩ | ⟨_, q⟩
    · exact (rs.hid a (sub a ha)).2 ⟨i, q⟩
    · cases q; exact nL ha
  · show (M.c ++ [some L])[S.length]? = _
    rw [← rs.len]; simp
/-! ### written dicts -/
def mPairs : List (ME × ME) → Env → Store → R (List (D × D))
  | [], _, S => .ok [] S
  | (k, v) :: r, ρ, S => (k ρ S).nox.bind fun d S1 => (v ρ S1).nox.bind fun e S2 => (mPairs r ρ S2).bind fun ps S3 => .ok ((d, e) :: ps) S3
def keyPairs : List (D × D) → Option (List (Key × D))
  | [] => some []
  | (k, v) :: r => match keyOf k, keyPairs r with
    | some x, some qs => some ((x, v) :: qs)
    | _, _ => none
def mergeG (kvs more : List (Key × D)) : List (Key × D) := more.foldl (fun acc kv => putG acc kv.1 kv.2) kvs
def mDisp (ms : List (ME × ME)) : ME := fun ρ S => (mPairs ms ρ S).bind fun ps S1 => match keyPairs ps with
  | some qs => if qs.length ≤ 15 then .ok (.cell S1.length) (S1 ++ [.dk (mergeG [] qs)]) else .err
  | none => .err
def RepP (K : PySem.W.Frag) (ca : Nat → Addr) (H : Hp) (M : Cells) (ps : List (D × D)) (vs : List (V × V)) : Prop := RepL K ca H M (ps.map (·.1)) (vs.map (·.1)) ∧ RepL K ca H M (ps.map (·.2)) (vs.map (·.2))
abbrev noW : WX := fun _ _ _ _ => False
theorem pairs_run {K : PySem.W.Frag} {ca : Nat → Addr} {ρ : Env} {σ : L2.St} : ∀ (ms : List (ME × ME)) {H : Hp} {M : Cells} {S S2 : Store} {ps : List (D × D)} {Q : List (V × V) → Hp → Prop}, mPairs ms ρ S = .ok ps S2 → REnv K ca H M ρ σ → RelS K ca H M S →
    (∀ vs H2 M2, Ext H M H2 M2 → RelS K ca H2 M2 S2 → RepP K ca H2 M2 ps vs → Q vs H2) → tPairs (ms.map fun m => (tOf K ca noW m.1, tOf K ca noW m.2)) σ H Q
  | [], H, M, S, S2, ps, Q, h, re, rs, q => by
    cases h
    exact q [] H M (Ext.refl _ _) rs ⟨trivial, trivial⟩
  | (k, v) :: ms, H, M, S, S2, ps, Q, h, re, rs, q => by
    unfold mPairs at h
    show tOf K ca noW k σ H _
    refine ⟨ρ, M, S, re, rs, ?_⟩
    show Post K ca (rD K ca) H M _ _ (k ρ S)
    cases hk : k ρ S with
    | err => rw [hk] at h; cases h
    | ex c S1 => rw [hk] at h; cases h
    | ok d S1 =>
      rw [hk] at h
      intro x M1 H1 e1 rs1 r1
      refine ⟨ρ, M1, S1, re.ext e1, rs1, ?_⟩
      simp only [nox_ok, bind_ok] at h
      show Post K ca (rD K ca) H1 M1 _ _ (v ρ S1)
      cases hv : v ρ S1 with
      | err => rw [hv] at h; cases h
      | ex c S1 => rw [hv] at h; cases h
      | ok e S3 =>
        rw [hv] at h
        simp only [nox_ok, bind_ok] at h
        intro y M2 H2 e2 rs2 r2
        cases hr : mPairs ms ρ S3 with
        | err => rw [hr] at h; cases h
        | ex c S1 => rw [hr] at h; cases h
        | ok qs S4 =>
          rw [hr] at h
          cases h
          refine pairs_run ms hr ((re.ext e1).ext e2) rs2 fun vs H3 M3 e3 rs3 rp => ?_
          refine q _ H3 M3 ((e1.trans e2).trans e3) rs3 ⟨⟨Rep.ext (e2.trans e3) _ _ r1, rp.1⟩, ⟨Rep.ext e3 _ _ r2, rp.2⟩⟩
theorem keyPairs_rep {K : PySem.W.Frag} {ca : Nat → Addr} {H : Hp} {M : Cells} : ∀ {ps : List (D × D)} {vs : List (V × V)} {qs : List (Key × D)}, RepP K ca H M ps vs → keyPairs ps = some qs →
    ∃ kvs : List (Key × V), vs = kvs.map (fun kv => (kV kv.1, kv.2)) ∧ kvs.map (·.1) = qs.map (·.1) ∧ RepL K ca H M (qs.map (·.2)) (kvs.map (·.2))
  | [], vs, qs, r, h => by
    cases h
    match vs, r with
    | [], _ => exact ⟨[], rfl, rfl, trivial⟩
  | (k, v) :: ps, vs, qs, r, h => by
    unfold keyPairs at h
    cases hk : keyOf k with
    | none => rw [hk] at h; cases h
    | some x =>
      rw [hk] at h
      cases hr : keyPairs ps with
      | none => rw [hr] at h; cases h
      | some rs =>
        rw [hr] at h
        cases h
        match vs, r with
        | (a, b) :: vs, r =>
          obtain ⟨kvs, e1, e2, e3⟩ := keyPairs_rep (ps := ps) (vs := vs) ⟨r.1.2, r.2.2⟩ hr
          have ea := key_rep r.1.1 hk
          refine ⟨(x, b) :: kvs, by rw [List.map_cons, ← e1]; show _ = (kV x, b) :: vs; rw [← show a = kV x from ea], by simp [e2], ⟨r.2.1, e3⟩⟩
theorem merge_rep {K : PySem.W.Frag} {ca : Nat → Addr} {H : Hp} {M : Cells} : ∀ {qs qs0 : List (Key × D)} {ks ks0 : List (Key × V)}, ks.map (·.1) = qs.map (·.1) → RepL K ca H M (qs.map (·.2)) (ks.map (·.2)) → ks0.map (·.1) = qs0.map (·.1) → RepL K ca H M (qs0.map (·.2)) (ks0.map (·.2)) →
    (mergeK ks0 ks).map (·.1) = (mergeG qs0 qs).map (·.1) ∧ RepL K ca H M ((mergeG qs0 qs).map (·.2)) ((mergeK ks0 ks).map (·.2))
  | [], _, [], _, _, _, e, r => ⟨e, r⟩
  | (x, d) :: qs, qs0, (y, v) :: ks, ks0, e1, r1, e2, r2 => by
    have hx : y = x := by simpa using (List.cons.inj e1).1
    subst hx
    obtain ⟨p1, p2⟩ := put_rep (K := K) (ca := ca) (H := H) (M := M) y e2 r2 r1.1
    exact merge_rep (qs := qs) (ks := ks) (List.cons.inj e1).2 r1.2 p1 p2
  | [], _, _ :: _, _, e, _, _, _ => by cases e
  | _ :: _, _, [], _, e, _, _, _ => by cases e
abbrev prs (K : PySem.W.Frag) (ca : Nat → Addr) (ms : List (ME × ME)) : List (TE × TE) := ms.map fun m => (tOf K ca noW m.1, tOf K ca noW m.2)
theorem qp_nil {X : Cx} {ca : Nat → Addr} {pos : Pos} : PPs X pos [] [] (prs X.K ca []) := pps_nil
theorem qp_cons {X : Cx} {ca : Nat → Addr} {pos : Pos} {k v : Expr} {ks : List (Option Expr)} {vs : List Expr} {mk mv : ME} {ms : List (ME × ME)} (hk : PE X k (tOf X.K ca noW mk)) (hv : PE X v (tOf X.K ca noW mv)) (hr : PPs X pos ks vs (prs X.K ca ms)) :
    PPs X pos (some k :: ks) (v :: vs) (prs X.K ca ((mk, mv) :: ms)) := pps_cons hk hv hr
section
variable {X : Cx} {ca : Nat → Addr} {W : WX}
theorem q_disp {keys : List (Option Expr)} {values : List Expr} {pos : Pos} (ms : List (ME × ME)) (h : PPs X pos keys values (prs X.K ca ms))
    (hall : keys.all (·.isSome) = true) (hl : keys.length = values.length) (h0 : keys ≠ []) (h15 : keys.length ≤ 15) : PE X (.Dict keys values pos) (tOf X.K ca W (mDisp ms)) :=
  weakE (pe_disp h hall hl h0 h15) fun σ H Q => by
    rintro ⟨ρ, M, S, re, rs, p⟩
    intro L hL
    unfold mDisp at p
    cases hp : mPairs ms ρ S with
    | err => rw [hp] at p; exact p.elim
    | ex c S1 =>
      exfalso
      have no : ∀ (ms : List (ME × ME)) (ρ : Env) (S S1 : Store) (c : Nat), mPairs ms ρ S ≠ .ex c S1 := by
        intro ms ρ
        induction ms with
        | nil => intro S S1 c h; cases h
        | cons m ms ih =>
          intro S S1 c h
          obtain ⟨k, v⟩ := m
          unfold mPairs at h
          cases hk : k ρ S with
          | err => rw [hk] at h; cases h
          | ex c S1 => rw [hk] at h; cases h
          | ok d S2 =>
            rw [hk] at h
            simp only [nox_ok, bind_ok] at h
            cases hv : v ρ S2 with
            | err => rw [hv] at h; cases h
            | ex c S1 => rw [hv] at h; cases h
            | ok d S3 =>
              rw [hv] at h
              simp only [nox_ok, bind_ok] at h
              cases hr : mPairs ms ρ S3 with
              | err => rw [hr] at h; cases h
              | ex c' S' => exact ih _ _ _ hr
              | ok d S4 => rw [hr] at h; cases h
      exact no _ _ _ _ _ hp
    | ok ps S1 =>
      rw [hp] at p
      simp only [bind_ok] at p
      split at p
      · next qs hq =>
        split at p
        · next h15 =>
          refine pairs_run ms hp (REnv.hide hL _ re) (rs.hide hL _) fun vs H2 M2 e2 rs2 rp => ?_
          have hM : M2.h = L :: M.h := e2.hid
          have inL : L ∈ M2.h := by rw [hM]; exact List.mem_cons_self
          have hL2 : H2 L = some (.dK []) := e2.fr L _ upd_same ((rs.hide hL (.dK [])).hid L (by exact List.mem_cons_self)).2
          obtain ⟨kvs, e3, e4, e5⟩ := keyPairs_rep rp hq
          have hlen : kvs.length = qs.length := by have := congrArg List.length e4; simpa using this
          refine ⟨hL2, kvs, e3, by omega, ?_⟩
          have E0 : Ext H M (upd H L (.dK [])) ((M.hide L).as M.h) := (Ext.refl H M).over hL _
          have E : Ext H M (upd H2 L (.dK (mergeK [] kvs))) (M2.as M.h) := (E0.trans (e2.as M.h)).over hL _
          obtain ⟨g1, g2⟩ := merge_rep (K := X.K) (ca := ca) (H := H2) (M := M2) (ks0 := []) (qs0 := []) e4 e5 rfl trivial
          obtain ⟨c1, c2, c3⟩ := cell_hid (mo := .dk (mergeG [] qs)) E hM rs (rs2.rehide inL (.dK (mergeK [] kvs))) hL fun M3 up => ⟨L, mergeK [] kvs, rfl, upd_same, g1, up _ _ (RepL.rehide inL _ _ _ g2)⟩
          exact p _ _ _ c1 c2 c3
        · exact p.elim
      · exact p.elim
end
/-! ### instances of own classes -/
/-- more facts, of exceptions -/
def excFacts (K : PySem.W.Frag) (x : Str) : Bool :=
  decide (PySem.W.findIn K (.ref (He.ga K x)) "__getattribute__" = some (some (.builtin "BaseException.__getattribute__"))) && (decide (PySem.W.findIn K (.ref (He.ga K x)) "__getattr__" = some none) && (decide (PySem.W.subIn K (.ref (He.ga K x)) (.type "BaseException") = some true) &&
    (PySem.W.hasDictIn K (He.ga K x) && (decide (PySem.W.findIn K (.ref (He.ga K x)) "__class__" = some (some (.builtin "object.__class__"))) && (decide (PySem.W.specialIn K (.builtin "object.__class__") "__get__" = some (some (.builtin "getset_descriptor.__get__"))) &&
    (decide (PySem.W.takesIn K (.builtin "object.__class__") = some true) && decide (PySem.W.mroIn K (He.ga K x) (.type "object") = some true)))))))
inductive Ga where
  | ins (x : Str) | kitT (T : String) (x : Str) (b : Bool) | kitC (x y : Str) (b : Bool) | kitB (x : Str) (T : String) (b : Bool) | excC (x : Str)
def Ga.ok (K : PySem.W.Frag) : Ga → Bool
  | .ins x => decide (PySem.W.findIn K (.ref (He.ga K x)) "__class__" = some (some (.builtin "object.__class__"))) && (decide (PySem.W.specialIn K (.builtin "object.__class__") "__get__" = some (some (.builtin "getset_descriptor.__get__"))) &&
    (decide (PySem.W.takesIn K (.builtin "object.__class__") = some true) && decide (PySem.W.mroIn K (He.ga K x) (.type "object") = some true)))
  | .kitT T x b => decide (PySem.W.kitOne K (.type T) (.ref (He.ga K x)) = some b)
  | .kitC x y b => decide (PySem.W.kitOne K (.ref (He.ga K x)) (.ref (He.ga K y)) = some b)
  | .kitB x T b => decide (PySem.W.kitOne K (.ref (He.ga K x)) (.type T) = some b)
  | .excC x => excFacts K x
/-- isinstance(d, C) for an instance of C, a text -/
noncomputable def oIsC (c : Nat) (S : Store) (d : D) : R D := match d with
  | .str _ => .ok (.bl false) S
  | _ => match objOf S d with
    | some (c', _, _) => if c' = c then .ok (.bl true) S else .err
    | none => .err
structure InsF (K : PySem.W.Frag) (C : Addr) : Prop where
  cl : Cls K C
  ha : PySem.W.findIn K (.ref C) "__class__" = some (some (.builtin "object.__class__"))
  hn : PySem.W.specialIn K (.builtin "object.__class__") "__get__" = some (some (.builtin "getset_descriptor.__get__"))
  htk : PySem.W.takesIn K (.builtin "object.__class__") = some true
  hm : PySem.W.mroIn K C (.type "object") = some true
  st : PySem.W.kitOne K (.type "str") (.ref C) = some false
theorem insF_of {K : PySem.W.Frag} {x : Str} (cl : Cls K (He.ga K x)) (h : (Ga.ins x).ok K = true) (h2 : (Ga.kitT "str" x false).ok K = true) : InsF K (He.ga K x) := by
  obtain ⟨a, h⟩ := He.ba h
  obtain ⟨b, h⟩ := He.ba h
  obtain ⟨c, d⟩ := He.ba h
  exact ⟨cl, of_decide_eq_true a, of_decide_eq_true b, of_decide_eq_true c, of_decide_eq_true d, of_decide_eq_true h2⟩
section
variable {X : Cx} {ca : Nat → Addr} {W : WX}
theorem q_isC {p p2 pos : Pos} {e : Expr} {y : Str} {c : Nat} {me : ME} (hg : Gl X "isinstance") (hm : X.mg "isinstance" = none) (F : InsF X.K (ca c)) (he : PE X e (tOf X.K ca W me)) (hy : PE X (.Name y p2) (tC (.ref (ca c))))
    (he1 : starEach [e, .Name y p2] X.env = (false, eval e X.env) :: starEach [.Name y p2] X.env := by rfl) (he2 : starEach [.Name y p2] X.env = (false, eval (.Name y p2) X.env) :: starEach [] X.env := by rfl)
    (hpl : (backTo pos (starEach [.Name y p2] X.env)).any (·.1) = false := by rfl) :
    PE X (.Call (.Name "isinstance" p) [e, .Name y p2] [] pos) (tOf X.K ca W (m1 (oIsC c) me)) :=
  weakE (pe_callB call_isi hg hm (by decide +kernel) (pa_cons he (pa_cons hy pa_nil he2) he1) (by decide) (by decide) he1 hpl) fun σ H Q => by
    rintro ⟨ρ, M, S, re, rs, q⟩
    refine ⟨ρ, M, S, re, rs, (post_bind q).mono ?_⟩
    rintro v H1 ⟨M1, S1, d, e1, rs1, r1, p1⟩
    unfold oIsC at p1
    split at p1
    · cases r1
      exact ⟨_, .ref (ca c), .type "str", .ref (ca c), false, rfl, .own _, .base (.str _), F.st, one_ok p1 rs1 rfl⟩
    · split at p1
      · next c' ns ds ho =>
        split at p1
        · next hc =>
          subst hc
          obtain ⟨a, dx, fs, rfl, h1, _, _⟩ := obj_rep rs1 r1 ho
          refine ⟨_, .ref (ca c'), .ref (ca c'), .ref (ca c'), true, rfl, .own _, .base (.ins h1 F.cl F.ha F.hn F.htk F.hm), ?_, one_ok p1 rs1 rfl⟩
          unfold PySem.W.kitOne
          rw [if_pos (by simp)]
        · exact p1.elim
      · exact p1.elim
end
/-! ### counts, numbers as texts -/
end Sm
namespace Sm
open PySem PySem.Spec PyProof.Rows L2
open Classical
/-! ### more facts of a program -/
abbrev gxOf (ga : List Ga) : PySem.W.Frag → Bool := fun K => ga.all fun g => g.ok K
theorem Lk.gf {P : Program} {w : World} {K : PySem.W.Frag} {mg : Str → Option Value} {base : Heap} {sg : List (Nat × Str × List Str)} {mts : List (Nat × Nat × Str × List Str)} {mks : List (Nat × Str × Nat × List Str × List D)} {fa : List He.Fa} {ga : List Ga} {n : Nat} {C I : Orc}
    (Z : Lk P w K mg base sg mts mks fa (gxOf ga) n C I) (j : Nat) (g : Ga) (h : ga[j]? = some g) : g.ok K = true := List.all_eq_true.mp Z.gx_ g (List.mem_of_getElem? h)
theorem Lk.inF {P : Program} {w : World} {K : PySem.W.Frag} {mg : Str → Option Value} {base : Heap} {sg : List (Nat × Str × List Str)} {mts : List (Nat × Nat × Str × List Str)} {mks : List (Nat × Str × Nat × List Str × List D)} {fa : List He.Fa} {ga : List Ga} {n : Nat} {C I : Orc}
    (Z : Lk P w K mg base sg mts mks fa (gxOf ga) n C I) (j i1 i2 c : Nat) (h : fa[j]? = some (.cls (cn c))) (h1 : ga[i1]? = some (.ins (cn c))) (h2 : ga[i2]? = some (.kitT "str" (cn c) false)) : InsF K (caK K c) := insF_of (Z.cl j c h) (Z.gf i1 _ h1) (Z.gf i2 _ h2)
abbrev AlX : Type := He.AlD × Bool
def obX (n : Nat) (fa : List He.Fa) (fns : List He.DefD) (ga : List Ga) (g : Addr → Option Obj) : AlX := (He.obsDG n fa fns g, gxOf ga (He.frG g (He.asD g n)))
def hookX (n : Nat) (fa : List He.Fa) (fns : List He.DefD) (ga : List Ga) : PySem.W.Hook where
  α := AlX
  obs := fun s => obX n fa fns ga s.heap.get?
  val := fun _ => (He.valD fns, true)
  says := fun _ h => ∃ K : PySem.W.Frag, K.In h ∧ He.SaysD fa fns K ∧ gxOf ga K = true
  of := fun _ _ e => ⟨_, He.frG_in, congrArg Prod.fst e, congrArg Prod.snd e⟩
  keeps := fun _ _ _ ⟨K, hK, c, y⟩ k => ⟨K, PySem.W.Frag.In.keeps hK k, c, y⟩
theorem obX_eq {n : Nat} {fa : List He.Fa} {fns : List He.DefD} {ga : List Ga} {g : Addr → Option Obj} {s : Shared} (h : ∀ a, g a = s.heap.get? a) : obX n fa fns ga g = (hookX n fa fns ga).obs s := by
  have e : g = s.heap.get? := funext h
  rw [e]; rfl
end Sm
/-! S12: dicts compared -/
namespace Sm
open PySem PySem.Spec PyProof.Rows L2
open Classical
def eqSc : V → V → Option Bool
  | .str x, .str y => some (decide (x = y))
  | .int i, .int j => some (decide (i = j))
  | _, _ => none
def hitsV (ls : List (Key × V)) : List (Key × V) → Option Bool
  | [] => some true
  | p :: r => match valV ls p.1 with
    | none => some false
    | some v => match eqSc p.2 v, hitsV ls r with
      | some e, some b => some (e && b)
      | _, _ => none
theorem eqSc_at {A : Around} {s : Shared} {x y : V} {v u : Value} {b : Bool} (rx : RelV x v) (ry : RelV y u) (h : eqSc x y = some b) : SeqAt.EqAt A s v u b := by
  unfold eqSc at h
  split at h
  · next i j =>
    cases h
    obtain ⟨t, rfl⟩ := rx
    obtain ⟨t', rfl⟩ := ry
    have e : (i.cps.toList == j.cps.toList) = decide (i = j) := by
      by_cases q : i = j
      · subst q; simp
      · have : ¬ i.cps = j.cps := fun z => q (by cases i; cases j; simp at z; simp [z])
        simp [q, this]
    rw [← e]
    exact (PySem.SeqRoads2.EqGives.str i j t t').at A s
  · next i j =>
    cases h
    obtain ⟨t, rfl⟩ := rx
    obtain ⟨t', rfl⟩ := ry
    have e : (i == j) = decide (i = j) := by by_cases q : i = j <;> simp [q]
    rw [← e]
    exact (MeetsSeq.EqGives.int i j t t').at A s
  · cases h
theorem hits_gen {A : Around} {s : Shared} {kvs : List (Key × V)} {vb : List (Key × Value)} (rb : KV kvs vb) : ∀ {ks : List (Key × V)} {va : List (Key × Value)} {r : Bool}, KV ks va → hitsV kvs ks = some r → PySem.W.KeqHits A s vb va r
  | [], [], r, _, h => by cases h; exact .nil
  | p :: ps, q :: qs, r, ra, h => by
    obtain ⟨k, v⟩ := q
    cases ra with
    | cons h1 h2 =>
      obtain ⟨hk, hv⟩ := h1
      have hk : p.1 = k := hk
      unfold hitsV at h
      have rr := rb.val p.1
      split at h
      · next e =>
        cases h
        rw [e] at rr
        have : valueAt vb k = none := by
          rw [← hk]
          cases q : valueAt vb p.1 with
          | none => rfl
          | some z => rw [q] at rr; exact rr.elim
        exact .miss this
      · next w e =>
        split at h
        · next e1 b1 he hb =>
          cases h
          rw [e] at rr
          obtain ⟨y, hy, ry⟩ := rr.some_of
          rw [hk] at hy
          exact .hit hy (eqSc_at hv ry he) (hits_gen rb h2 hb)
        · cases h
  | [], _ :: _, _, ra, _ => by cases ra
  | _ :: _, [], _, ra, _ => by cases ra
abbrev rEqDG (neg : Bool) : R2 := fun x y H Q => ∃ a b ks ls r, x = .ref a ∧ y = .ref b ∧ H a = some (.dK ks) ∧ H b = some (.dK ls) ∧ (ks.length = ls.length → hitsV ls ks = some r) ∧ Q (.bl (if neg then !((ks.length == ls.length) && r) else (ks.length == ls.length) && r)) H
section
variable {X : Cx}
theorem op_ne_dictG (hu : X.A.units < cLine) : OpR X (compareOp .NotEq) (rEqDG true) := by
  intro pins s σ H x y v u Q I rx ry h
  obtain ⟨a, b, ks, ls, r, rfl, rfl, ea, eb, hp, q⟩ := h
  cases rx; cases ry
  obtain ⟨_, ya, va, ra, da⟩ := (show ObjOk X.prog X.w H s.heap a (.dK ks) from I.hok a _ ea)
  obtain ⟨_, yb, vb, rb, db⟩ := (show ObjOk X.prog X.w H s.heap b (.dK ls) from I.hok b _ eb)
  have l1 := ra.length; have l2 := rb.length
  exact PySem.W.keq_ne (knd := mixKind X.prog X.w) (r := r) ya yb da db hu (fun e => hits_gen rb ra (hp (by rw [l1, l2]; exact e))) (fin_bl I q (by rw [← l1, ← l2]; rfl))
end
def eqScD : D → D → Option Bool
  | .str x, .str y => some (decide (x = y))
  | .int i, .int j => some (decide (i = j))
  | _, _ => none
def hitsD (ls : List (Key × D)) : List (Key × D) → Option Bool
  | [] => some true
  | p :: r => match valK ls p.1 with
    | none => some false
    | some v => match eqScD p.2 v, hitsD ls r with
      | some e, some b => some (e && b)
      | _, _ => none
def dkOf (S : Store) (d : D) : Option (List (Key × D)) := match d with
  | .cell n => match S[n]? with
    | some (.dk ks) => some ks
    | _ => none
  | _ => none
def dEq (S : Store) (d e : D) : Option Bool := match dkOf S d, dkOf S e with
  | some ks, some ls => if ks.length = ls.length then hitsD ls ks else some false
  | _, _ => none
def oNeX (S : Store) (d e : D) : R D := match dEq S d e with
  | some b => .ok (.bl (!b)) S
  | none => oNe S d e
section
variable {K : PySem.W.Frag} {ca : Nat → Addr} {H : Hp} {M : Cells} {S : Store}
theorem dkOf_rep (rs : RelS K ca H M S) {d : D} {v : V} {ks : List (Key × D)} (r : Rep K ca H M d v) (h : dkOf S d = some ks) : ∃ a ys, v = .ref a ∧ H a = some (.dK ys) ∧ ys.map (·.1) = ks.map (·.1) ∧ RepL K ca H M (ks.map (·.2)) (ys.map (·.2)) := by
  unfold dkOf at h
  split at h
  · next n =>
    split at h
    · next ks' hS =>
      cases h
      obtain ⟨z, hz, a, ys, e1, h1, h2, h3⟩ := rs.cells _ _ hS
      obtain ⟨z', hz', hv⟩ := r
      rw [hz] at hz'; cases hz'
      exact ⟨a, ys, hv a e1, h1, h2, h3⟩
    · cases h
  · cases h
theorem eqSc_rep {d e : D} {x y : V} {b : Bool} (rx : Rep K ca H M d x) (ry : Rep K ca H M e y) (h : eqScD d e = some b) : eqSc x y = some b := by
  unfold eqScD at h
  split at h
  · cases rx; cases ry; exact h
  · cases rx; cases ry; exact h
  · cases h
theorem hits_rep {ls : List (Key × D)} {lv : List (Key × V)} (e : lv.map (·.1) = ls.map (·.1)) (rl : RepL K ca H M (ls.map (·.2)) (lv.map (·.2))) : ∀ {ks : List (Key × D)} {kv : List (Key × V)} {b : Bool}, kv.map (·.1) = ks.map (·.1) → RepL K ca H M (ks.map (·.2)) (kv.map (·.2)) → hitsD ls ks = some b → hitsV lv kv = some b
  | [], [], b, _, _, h => h
  | (k, d) :: ks, (k2, v) :: kv, b, ek, rk, h => by
    have hk : k2 = k := by simpa using (List.cons.inj ek).1
    subst hk
    unfold hitsD at h
    unfold hitsV
    have o := orep_of (K := K) (ca := ca) (H := H) (M := M) k2 e rl
    split at h
    · next hn =>
      have hn : valK ls k2 = none := hn
      rw [hn] at o
      have o : valV lv k2 = none := o
      simp only [o]; exact h
    · next w hw =>
      have hw : valK ls k2 = some w := hw
      rw [hw] at o
      obtain ⟨z, hz, rz⟩ := o
      simp only [hz]
      split at h
      · next e1 b1 he hb =>
        have := eqSc_rep rk.1 rz he
        simp only [this, hits_rep e rl (List.cons.inj ek).2 rk.2 hb]
        exact h
      · cases h
  | [], _ :: _, _, ek, _, _ => by cases ek
  | _ :: _, [], _, ek, _, _ => by cases ek
theorem dEq_rep (rs : RelS K ca H M S) {d e : D} {x y : V} {b : Bool} (rx : Rep K ca H M d x) (ry : Rep K ca H M e y) (h : dEq S d e = some b) :
    ∃ a a2 ks ls r, x = .ref a ∧ y = .ref a2 ∧ H a = some (.dK ks) ∧ H a2 = some (.dK ls) ∧ (ks.length = ls.length → hitsV ls ks = some r) ∧ ((ks.length == ls.length) && r) = b := by
  unfold dEq at h
  split at h
  · next ks ls h1 h2 =>
    obtain ⟨a, ys, rfl, p1, p2, p3⟩ := dkOf_rep rs rx h1
    obtain ⟨a2, zs, rfl, q1, q2, q3⟩ := dkOf_rep rs ry h2
    have l1 : ys.length = ks.length := by simpa using congrArg List.length p2
    have l2 : zs.length = ls.length := by simpa using congrArg List.length q2
    split at h
    · next hl => exact ⟨a, a2, ys, zs, b, rfl, rfl, p1, q1, fun _ => hits_rep q2 q3 p2 p3 h, by simp [l1, l2, hl]⟩
    · next hl =>
      cases h
      exact ⟨a, a2, ys, zs, false, rfl, rfl, p1, q1, fun z => absurd (by omega) hl, by simp⟩
  · cases h
end
section
variable {X : Cx} {ca : Nat → Addr}
theorem or_neX (hu : X.A.units + 64 < cLine) : OpR X (compareOp .NotEq) (fun x y H Q => rEqDG true x y H Q ∨ rNeA X.K x y H Q) := (op_ne_dictG (by omega)).or (or_ne hu)
theorem s_neX {K : PySem.W.Frag} : Sound2 K ca (fun x y H Q => rEqDG true x y H Q ∨ rNeA K x y H Q) oNeX := by
  intro H M S x y d e Q W rs rx ry p
  unfold oNeX at p
  split at p
  · next b hb =>
    obtain ⟨a, a2, ks, ls, r, h1, h2, h3, h4, h5, h6⟩ := dEq_rep rs rx ry hb
    exact .inl ⟨a, a2, ks, ls, r, h1, h2, h3, h4, h5, one_ok p rs (by rw [h6]; rfl)⟩
  · exact .inr (s_ne H M S x y d e Q W rs rx ry p)
end
end Sm
/-! S13: try, with one clause that gives the exception a name -/
namespace Sm
open PySem PySem.Spec PyProof.Rows L2
open Classical
/-! ### questions about the caught exception: slot i holds it, at a -/
def tEe (i : Nat) (a : Addr) (b : Bool) : TE := fun σ H Q => σ[i]? = some (some (.ref a)) ∧ Q (.bl b) H
theorem excC_of {K : PySem.W.Frag} {x : Str} (h : excFacts K x = true) : ExcC K (He.ga K x) := by
  obtain ⟨a, h⟩ := He.ba h
  obtain ⟨b, h⟩ := He.ba h
  obtain ⟨c, h⟩ := He.ba h
  obtain ⟨d, h⟩ := He.ba h
  obtain ⟨e, h⟩ := He.ba h
  obtain ⟨f, h⟩ := He.ba h
  obtain ⟨g, k⟩ := He.ba h
  exact ⟨of_decide_eq_true a, of_decide_eq_true b, of_decide_eq_true c, d, of_decide_eq_true e, of_decide_eq_true f, of_decide_eq_true g, of_decide_eq_true k⟩
section
variable {X : Cx} {a : Addr} {oe : Obj} {pn : List (Addr × Obj)} {i : Nat}
/-- a suite: what it does, while slot i holds the exception -/
def tSE (K : PySem.W.Frag) (ca : Nat → Addr) (i : Nat) (a : Addr) (m : MS) : TS := fun De σ H => σ[i]? = some (some (.ref a)) ∧ tSOf K ca (fun _ _ _ => False) m De σ H
end
/-! ### try: .. except C as e: suite -/
theorem REnv.setAny {K : PySem.W.Frag} {ca : Nat → Addr} {H : Hp} {M : Cells} : ∀ {r : Env} {s : L2.St} (i : Nat) (x : Option V), REnv K ca H M r s → REnv K ca H M (r.set i none) (s.set i x)
  | [], [], _, _, h => h
  | none :: r, _ :: s, 0, _, h => h
  | some _ :: r, some _ :: s, 0, _, h => h.2
  | none :: r, _ :: s, i + 1, x, h => REnv.setAny (r := r) (s := s) i x h
  | some _ :: r, some _ :: s, i + 1, x, h => ⟨h.1, REnv.setAny (r := r) (s := s) i x h.2⟩
  | [], _ :: _, _, _, h => h.elim
  | some _ :: _, none :: _, _, _, h => h.elim
  | none :: _, [], _, _, h => h.elim
  | some _ :: _, [], _, _, h => h.elim
/-- the name is gone behind the suite -/
def gone (i : Nat) : R Fl → R Fl
  | .ok (.nx r) S => .ok (.nx (r.set i none)) S
  | .ok (.rt d) S => .ok (.rt d) S
  | _ => .err
/-- ret: is the body's value handed back -/
def sTry (ret : Bool) (e : ME) (cls : List Nat) (h i : Nat) (suite : MS) : MS := fun ρ S => match e ρ S with
  | .ok d S1 => if ret then .ok (.rt d) S1 else .ok (.nx ρ) S1
  | .ex c S1 => if c ∈ cls then (if c = h then (if i < ρ.length then gone i (suite (ρ.set i none) S1) else .err) else .ex c S1) else .err
  | .err => .err
section
variable {X : Cx} {ca : Nat → Addr} {W : XW} {x n : Str} {i h : Nat} {cls : List Nat} {suite : List Stmt} {b₀ : Stmt} {np p1 pos pos' : Pos} {e : Expr} {m : ME} {ms : MS}
theorem suite_in {a : Addr} {oe : Obj} {cl : Value} {d : Option Addr} {pn : List (Addr × Obj)} (hz : L2N.Zn cl d oe) (hf : ∃ vs, oe.data = .fields vs)
    (hsu : ∀ (oe : Obj) (pn : List (Addr × Obj)), L2N.Zn (.ref (ca h)) none oe → (∃ vs, oe.data = .fields vs) → PSs (X.suite a ((a, oe) :: pn)) (b₀ :: suite) (tSE X.K ca i a ms)) :
    PSs (X.suite a ((a, oe) :: pn)) (b₀ :: suite) (fun De σ H => cl = .ref (ca h) ∧ d = none ∧ tSE X.K ca i a ms De σ H) := by
  refine ⟨fun pins s σ H De I q => ?_⟩
  obtain ⟨rfl, rfl, q⟩ := q
  exact (hsu oe pn hz hf).run pins s σ H De I q
end
end Sm
/-! S14: dicts walked by keys; lists of pairs walked; reversed; list(range), sorted, min, dict -/
namespace Sm
open PySem PySem.Spec PyProof.Rows L2
open Classical
section
variable {X : Cx} {ca : Nat → Addr} {W : WX}
/-! ### a list of pairs, each unpacked -/
def pairOf : D → Option (List D)
  | .tup [a, b] => some [a, b]
  | _ => none
def pairsD : List D → Option (List (List D))
  | [] => some []
  | d :: ds => match pairOf d, pairsD ds with
    | some p, some ps => some (p :: ps)
    | _, _ => none
def items2 : List D → Store → Option (List (List D))
  | [d], S => (seqL S d).bind pairsD
  | _, _ => none
/-! ### reversed(e) of a list that is data -/
/-! ### a dict walked by its keys: from then on it is read only -/
/-! ### list(range(e)) -/
/-! ### sorted(e) of whole numbers -/
/-! ### min(e) of whole numbers -/
/-! ### dict(d) -/
end
end Sm
/-! E1: evaluation of mirrors, step by step, each step a rule of simp -/
namespace Nl
open PySem Sm
abbrev ML := Sm.Env → Store → R (List D)
def kSeq (q : MS) : R Fl → R Fl
  | .ok (.nx r) S => q r S
  | x => x
@[simp] theorem kSeq_nx (q : MS) (r : Sm.Env) (S : Store) : kSeq q (.ok (.nx r) S) = q r S := rfl
@[simp] theorem kSeq_rt (q : MS) (d : D) (S : Store) : kSeq q (.ok (.rt d) S) = .ok (.rt d) S := rfl
@[simp] theorem kSeq_bk (q : MS) (r : Sm.Env) (S : Store) : kSeq q (.ok (.bk r) S) = .ok (.bk r) S := rfl
@[simp] theorem kSeq_ct (q : MS) (r : Sm.Env) (S : Store) : kSeq q (.ok (.ct r) S) = .ok (.ct r) S := rfl
@[simp] theorem kSeq_x (q : MS) (c : Nat) (S : Store) : kSeq q (.ex c S) = .ex c S := rfl
@[simp ↓] theorem x_seq (a q : MS) (ρ : Sm.Env) (S : Store) : sSeq a q ρ S = kSeq q (a ρ S) := by
  unfold sSeq kSeq; cases a ρ S with
  | ok f S1 => cases f <;> rfl
  | ex c S1 => rfl
  | err => rfl
@[simp ↓] theorem x_nil (ρ : Sm.Env) (S : Store) : sNil ρ S = .ok (.nx ρ) S := rfl
@[simp ↓] theorem x_brk (ρ : Sm.Env) (S : Store) : sBrk ρ S = .ok (.bk ρ) S := rfl
@[simp ↓] theorem x_ct (ρ : Sm.Env) (S : Store) : sCt ρ S = .ok (.ct ρ) S := rfl
@[simp ↓] theorem x_retN (ρ : Sm.Env) (S : Store) : sRetN ρ S = .ok (.rt .non) S := rfl
@[simp ↓] theorem x_raise (c : Nat) (ρ : Sm.Env) (S : Store) : sRaise c ρ S = .ex c S := rfl
def kIf (p : MS) (q : MS) (ρ : Sm.Env) : R D → R Fl
  | .ok (.bl true) S => p ρ S
  | .ok (.bl false) S => q ρ S
  | .ex c S => .ex c S
  | .ok _ _ => .err
  | .err => .err
@[simp] theorem kIf_0 (p : MS) (q : MS) (ρ : Sm.Env)  (S : Store) : kIf p q ρ (.ok (.bl true) S) = p ρ S := rfl
@[simp] theorem kIf_1 (p : MS) (q : MS) (ρ : Sm.Env)  (S : Store) : kIf p q ρ (.ok (.bl false) S) = q ρ S := rfl
@[simp] theorem kIf_x (p : MS) (q : MS) (ρ : Sm.Env) (c : Nat) (S : Store) : kIf p q ρ (.ex c S) = .ex c S := rfl
@[simp ↓] theorem x_if (a : ME) (p q : MS) (ρ : Sm.Env) (S : Store) : sIf a p q ρ S = kIf p q ρ (a ρ S) := by
  unfold sIf kIf; cases a ρ S with
  | ok d S1 => cases d <;> first | rfl | (rename_i b; cases b <;> rfl)
  | ex c S1 => rfl
  | err => rfl
def kAsg (n : Nat) (ρ : Sm.Env) : R D → R Fl
  | .ok d S => .ok (.nx (ρ.set n (some d))) S
  | .ex c S => .ex c S
  | .err => .err
@[simp] theorem kAsg_0 (n : Nat) (ρ : Sm.Env) (d : D) (S : Store) : kAsg n ρ (.ok d S) = .ok (.nx (ρ.set n (some d))) S := rfl
@[simp] theorem kAsg_x (n : Nat) (ρ : Sm.Env) (c : Nat) (S : Store) : kAsg n ρ (.ex c S) = .ex c S := rfl
@[simp ↓] theorem x_asg (n : Nat) (a : ME) (ρ : Sm.Env) (S : Store) : sAsg n a ρ S = kAsg n ρ (a ρ S) := by
  unfold sAsg kAsg; cases a ρ S <;> rfl
def kRet  : R D → R Fl
  | .ok d S => .ok (.rt d) S
  | .ex c S => .ex c S
  | .err => .err
@[simp] theorem kRet_0  (d : D) (S : Store) : kRet  (.ok d S) = .ok (.rt d) S := rfl
@[simp] theorem kRet_x  (c : Nat) (S : Store) : kRet  (.ex c S) = .ex c S := rfl
@[simp ↓] theorem x_ret (a : ME) (ρ : Sm.Env) (S : Store) : sRet a ρ S = kRet (a ρ S) := by
  unfold sRet kRet; cases a ρ S <;> rfl
def kDrop (ρ : Sm.Env) : R D → R Fl
  | .ok d S => .ok (.nx ρ) S
  | .ex c S => .ex c S
  | .err => .err
@[simp] theorem kDrop_0 (ρ : Sm.Env) (d : D) (S : Store) : kDrop ρ (.ok d S) = .ok (.nx ρ) S := rfl
@[simp] theorem kDrop_x (ρ : Sm.Env) (c : Nat) (S : Store) : kDrop ρ (.ex c S) = .ex c S := rfl
@[simp ↓] theorem x_drop (a : ME) (ρ : Sm.Env) (S : Store) : sDrop a ρ S = kDrop ρ (a ρ S) := by
  unfold sDrop kDrop; cases a ρ S <;> rfl
def kV (o : Option (Option D)) (S : Store) : R D := match o with
  | some (some d) => .ok d S
  | _ => .err
@[simp] theorem kV_ok (d : D) (S : Store) : kV (some (some d)) S = .ok d S := rfl
@[simp ↓] theorem x_var (n : Nat) (ρ : Sm.Env) (S : Store) : mV n ρ S = kV (ρ[n]?) S := rfl
@[simp ↓] theorem x_con (d : D) (ρ : Sm.Env) (S : Store) : mC d ρ S = .ok d S := rfl
def kM1 (f : Store → D → R D) : R D → R D
  | .ok d S => f S d
  | .ex c S => .ex c S
  | .err => .err
@[simp] theorem kM1_0 (f : Store → D → R D) (d : D) (S : Store) : kM1 f (.ok d S) = f S d := rfl
@[simp] theorem kM1_x (f : Store → D → R D) (c : Nat) (S : Store) : kM1 f (.ex c S) = .ex c S := rfl
@[simp ↓] theorem x_m1 (f : Store → D → R D) (a : ME) (ρ : Sm.Env) (S : Store) : m1 f a ρ S = kM1 f (a ρ S) := by
  unfold m1 kM1; cases a ρ S <;> rfl
def kM2b (f : Store → D → D → R D) (g : D) : R D → R D
  | .ok d S => f S g d
  | .ex c S => .ex c S
  | .err => .err
@[simp] theorem kM2b_0 (f : Store → D → D → R D) (g : D) (d : D) (S : Store) : kM2b f g (.ok d S) = f S g d := rfl
@[simp] theorem kM2b_x (f : Store → D → D → R D) (g : D) (c : Nat) (S : Store) : kM2b f g (.ex c S) = .ex c S := rfl
def kM2 (f : Store → D → D → R D) (q : ME) (ρ : Sm.Env) : R D → R D
  | .ok d S => kM2b f d (q ρ S)
  | .ex c S => .ex c S
  | .err => .err
@[simp] theorem kM2_0 (f : Store → D → D → R D) (q : ME) (ρ : Sm.Env) (d : D) (S : Store) : kM2 f q ρ (.ok d S) = kM2b f d (q ρ S) := rfl
@[simp] theorem kM2_x (f : Store → D → D → R D) (q : ME) (ρ : Sm.Env) (c : Nat) (S : Store) : kM2 f q ρ (.ex c S) = .ex c S := rfl
@[simp ↓] theorem x_m2 (f : Store → D → D → R D) (a q : ME) (ρ : Sm.Env) (S : Store) : m2 f a q ρ S = kM2 f q ρ (a ρ S) := by
  unfold m2; cases h : a ρ S with
  | ok d S1 => simp only [bind_ok, kM2_0]; cases h2 : q ρ S1 <;> rfl
  | ex c S1 => rfl
  | err => rfl
@[simp ↓] theorem x_nilL (ρ : Sm.Env) (S : Store) : mNil ρ S = .ok [] S := rfl
def kConsb (g : D) : R (List D) → R (List D)
  | .ok ds S => .ok (g :: ds) S
  | .ex c S => .ex c S
  | .err => .err
@[simp] theorem kConsb_0 (g : D) (ds : List D) (S : Store) : kConsb g (.ok ds S) = .ok (g :: ds) S := rfl
@[simp] theorem kConsb_x (g : D) (c : Nat) (S : Store) : kConsb g (.ex c S) = .ex c S := rfl
def kCons (q : ML) (ρ : Sm.Env) : R D → R (List D)
  | .ok d S => kConsb d (q ρ S)
  | .ex c S => .ex c S
  | .err => .err
@[simp] theorem kCons_0 (q : ML) (ρ : Sm.Env) (d : D) (S : Store) : kCons q ρ (.ok d S) = kConsb d (q ρ S) := rfl
@[simp] theorem kCons_x (q : ML) (ρ : Sm.Env) (c : Nat) (S : Store) : kCons q ρ (.ex c S) = .ex c S := rfl
@[simp ↓] theorem x_cons (a : ME) (q : ML) (ρ : Sm.Env) (S : Store) : mCons a q ρ S = kCons q ρ (a ρ S) := by
  unfold mCons; cases h : a ρ S with
  | ok d S1 => simp only [bind_ok, kCons_0]; cases h2 : q ρ S1 <;> rfl
  | ex c S1 => rfl
  | err => rfl
def kN (f : Store → List D → R D) : R (List D) → R D
  | .ok ds S => f S ds
  | .ex c S => .ex c S
  | .err => .err
@[simp] theorem kN_0 (f : Store → List D → R D) (ds : List D) (S : Store) : kN f (.ok ds S) = f S ds := rfl
@[simp] theorem kN_x (f : Store → List D → R D) (c : Nat) (S : Store) : kN f (.ex c S) = .ex c S := rfl
@[simp ↓] theorem x_n (f : Store → List D → R D) (a : ML) (ρ : Sm.Env) (S : Store) : mN f a ρ S = kN f (a ρ S) := by
  unfold mN kN; cases a ρ S <;> rfl
def kNot  : R D → R D
  | .ok (.bl b) S => .ok (.bl (!b)) S
  | .ex c S => .ex c S
  | .ok _ _ => .err
  | .err => .err
@[simp] theorem kNot_0   (S : Store) : kNot  (.ok (.bl b) S) = .ok (.bl (!b)) S := rfl
@[simp] theorem kNot_x  (c : Nat) (S : Store) : kNot  (.ex c S) = .ex c S := rfl
@[simp ↓] theorem x_not (a : ME) (ρ : Sm.Env) (S : Store) : mNot a ρ S = kNot (a ρ S) := by
  unfold mNot kNot; cases a ρ S with
  | ok d S1 => cases d <;> first | rfl | (rename_i b; cases b <;> rfl)
  | ex c S1 => rfl
  | err => rfl
def kAnd (q : ME) (ρ : Sm.Env) : R D → R D
  | .ok (.bl true) S => q ρ S
  | .ok (.bl false) S => .ok (.bl false) S
  | .ex c S => .ex c S
  | .ok _ _ => .err
  | .err => .err
@[simp] theorem kAnd_0 (q : ME) (ρ : Sm.Env)  (S : Store) : kAnd q ρ (.ok (.bl true) S) = q ρ S := rfl
@[simp] theorem kAnd_1 (q : ME) (ρ : Sm.Env)  (S : Store) : kAnd q ρ (.ok (.bl false) S) = .ok (.bl false) S := rfl
@[simp] theorem kAnd_x (q : ME) (ρ : Sm.Env) (c : Nat) (S : Store) : kAnd q ρ (.ex c S) = .ex c S := rfl
@[simp ↓] theorem x_and (a q : ME) (ρ : Sm.Env) (S : Store) : mAnd a q ρ S = kAnd q ρ (a ρ S) := by
  unfold mAnd kAnd; cases a ρ S with
  | ok d S1 => cases d <;> first | rfl | (rename_i b; cases b <;> rfl)
  | ex c S1 => rfl
  | err => rfl
def kOr (q : ME) (ρ : Sm.Env) : R D → R D
  | .ok (.bl false) S => q ρ S
  | .ok (.bl true) S => .ok (.bl true) S
  | .ex c S => .ex c S
  | .ok _ _ => .err
  | .err => .err
@[simp] theorem kOr_0 (q : ME) (ρ : Sm.Env)  (S : Store) : kOr q ρ (.ok (.bl false) S) = q ρ S := rfl
@[simp] theorem kOr_1 (q : ME) (ρ : Sm.Env)  (S : Store) : kOr q ρ (.ok (.bl true) S) = .ok (.bl true) S := rfl
@[simp] theorem kOr_x (q : ME) (ρ : Sm.Env) (c : Nat) (S : Store) : kOr q ρ (.ex c S) = .ex c S := rfl
@[simp ↓] theorem x_or (a q : ME) (ρ : Sm.Env) (S : Store) : mOr a q ρ S = kOr q ρ (a ρ S) := by
  unfold mOr kOr; cases a ρ S with
  | ok d S1 => cases d <;> first | rfl | (rename_i b; cases b <;> rfl)
  | ex c S1 => rfl
  | err => rfl
def kIfE (p : ME) (q : ME) (ρ : Sm.Env) : R D → R D
  | .ok (.bl true) S => p ρ S
  | .ok (.bl false) S => q ρ S
  | .ex c S => .ex c S
  | .ok _ _ => .err
  | .err => .err
@[simp] theorem kIfE_0 (p : ME) (q : ME) (ρ : Sm.Env)  (S : Store) : kIfE p q ρ (.ok (.bl true) S) = p ρ S := rfl
@[simp] theorem kIfE_1 (p : ME) (q : ME) (ρ : Sm.Env)  (S : Store) : kIfE p q ρ (.ok (.bl false) S) = q ρ S := rfl
@[simp] theorem kIfE_x (p : ME) (q : ME) (ρ : Sm.Env) (c : Nat) (S : Store) : kIfE p q ρ (.ex c S) = .ex c S := rfl
@[simp ↓] theorem x_ifE (a p q : ME) (ρ : Sm.Env) (S : Store) : mIf a p q ρ S = kIfE p q ρ (a ρ S) := by
  unfold mIf kIfE; cases a ρ S with
  | ok d S1 => cases d <;> first | rfl | (rename_i b; cases b <;> rfl)
  | ex c S1 => rfl
  | err => rfl
def kCh3 (g : Store → D → D → R D) (u : D) : R D → R D
  | .ok k S => g S u k
  | .ex c S => .ex c S
  | .err => .err
@[simp] theorem kCh3_0 (g : Store → D → D → R D) (u : D) (k : D) (S : Store) : kCh3 g u (.ok k S) = g S u k := rfl
@[simp] theorem kCh3_x (g : Store → D → D → R D) (u : D) (c : Nat) (S : Store) : kCh3 g u (.ex c S) = .ex c S := rfl
def kCh2 (g : Store → D → D → R D) (q : ME) (ρ : Sm.Env) (u : D) : R D → R D
  | .ok (.bl true) S => kCh3 g u (q ρ S)
  | .ok (.bl false) S => .ok (.bl false) S
  | .ex c S => .ex c S
  | .ok _ _ => .err
  | .err => .err
@[simp] theorem kCh2_0 (g : Store → D → D → R D) (q : ME) (ρ : Sm.Env) (u : D)  (S : Store) : kCh2 g q ρ u (.ok (.bl true) S) = kCh3 g u (q ρ S) := rfl
@[simp] theorem kCh2_1 (g : Store → D → D → R D) (q : ME) (ρ : Sm.Env) (u : D)  (S : Store) : kCh2 g q ρ u (.ok (.bl false) S) = .ok (.bl false) S := rfl
@[simp] theorem kCh2_x (g : Store → D → D → R D) (q : ME) (ρ : Sm.Env) (u : D) (c : Nat) (S : Store) : kCh2 g q ρ u (.ex c S) = .ex c S := rfl
def kCh1 (f : Store → D → D → R D) (g : Store → D → D → R D) (q : ME) (ρ : Sm.Env) (v : D) : R D → R D
  | .ok e S => kCh2 g q ρ e (f S v e)
  | .ex c S => .ex c S
  | .err => .err
@[simp] theorem kCh1_0 (f : Store → D → D → R D) (g : Store → D → D → R D) (q : ME) (ρ : Sm.Env) (v : D) (e : D) (S : Store) : kCh1 f g q ρ v (.ok e S) = kCh2 g q ρ e (f S v e) := rfl
@[simp] theorem kCh1_x (f : Store → D → D → R D) (g : Store → D → D → R D) (q : ME) (ρ : Sm.Env) (v : D) (c : Nat) (S : Store) : kCh1 f g q ρ v (.ex c S) = .ex c S := rfl
def kCh (f : Store → D → D → R D) (g : Store → D → D → R D) (p : ME) (q : ME) (ρ : Sm.Env) : R D → R D
  | .ok d S => kCh1 f g q ρ d (p ρ S)
  | .ex c S => .ex c S
  | .err => .err
@[simp] theorem kCh_0 (f : Store → D → D → R D) (g : Store → D → D → R D) (p : ME) (q : ME) (ρ : Sm.Env) (d : D) (S : Store) : kCh f g p q ρ (.ok d S) = kCh1 f g q ρ d (p ρ S) := rfl
@[simp] theorem kCh_x (f : Store → D → D → R D) (g : Store → D → D → R D) (p : ME) (q : ME) (ρ : Sm.Env) (c : Nat) (S : Store) : kCh f g p q ρ (.ex c S) = .ex c S := rfl
@[simp ↓] theorem x_ch (f g : Store → D → D → R D) (a p q : ME) (ρ : Sm.Env) (S : Store) : mChain f g a p q ρ S = kCh f g p q ρ (a ρ S) := by
  unfold mChain; cases h : a ρ S with
  | ex c S1 => rfl
  | err => rfl
  | ok d S1 =>
    simp only [bind_ok, kCh_0]
    cases h2 : p ρ S1 with
    | ex c S1 => rfl
    | err => rfl
    | ok e S2 =>
      simp only [bind_ok, kCh1_0]
      cases h3 : f S2 d e with
      | ex c S1 => rfl
      | err => rfl
      | ok y S3 =>
        cases y <;> first | rfl | skip
        next b =>
          cases b
          · rfl
          · simp only [bind_ok, kCh2_0]
            cases q ρ S3 <;> rfl
def kSome  : R D → R (Option Int)
  | .ok (.int i) S => .ok (some i) S
  | .ex c S => .ex c S
  | .ok _ _ => .err
  | .err => .err
@[simp] theorem kSome_0   (S : Store) : kSome  (.ok (.int i) S) = .ok (some i) S := rfl
@[simp] theorem kSome_x  (c : Nat) (S : Store) : kSome  (.ex c S) = .ex c S := rfl
@[simp ↓] theorem x_oNo (ρ : Sm.Env) (S : Store) : oNo ρ S = .ok none S := rfl
@[simp ↓] theorem x_oSome (a : ME) (ρ : Sm.Env) (S : Store) : oSome a ρ S = kSome (a ρ S) := by
  unfold oSome kSome; cases a ρ S with
  | ok d S1 => cases d <;> first | rfl | (rename_i b; cases b <;> rfl)
  | ex c S1 => rfl
  | err => rfl
def kSl2 (t : Bool) (u : D) (l : Option Int) : R (Option Int) → R D
  | .ok h S => oSl t S u l h
  | .ex c S => .ex c S
  | .err => .err
@[simp] theorem kSl2_0 (t : Bool) (u : D) (l : Option Int) (h : Option Int) (S : Store) : kSl2 t u l (.ok h S) = oSl t S u l h := rfl
@[simp] theorem kSl2_x (t : Bool) (u : D) (l : Option Int) (c : Nat) (S : Store) : kSl2 t u l (.ex c S) = .ex c S := rfl
def kSl1 (t : Bool) (q : Sm.Env → Store → R (Option Int)) (ρ : Sm.Env) (u : D) : R (Option Int) → R D
  | .ok l S => kSl2 t u l (q ρ S)
  | .ex c S => .ex c S
  | .err => .err
@[simp] theorem kSl1_0 (t : Bool) (q : Sm.Env → Store → R (Option Int)) (ρ : Sm.Env) (u : D) (l : Option Int) (S : Store) : kSl1 t q ρ u (.ok l S) = kSl2 t u l (q ρ S) := rfl
@[simp] theorem kSl1_x (t : Bool) (q : Sm.Env → Store → R (Option Int)) (ρ : Sm.Env) (u : D) (c : Nat) (S : Store) : kSl1 t q ρ u (.ex c S) = .ex c S := rfl
def kSl (t : Bool) (p : Sm.Env → Store → R (Option Int)) (q : Sm.Env → Store → R (Option Int)) (ρ : Sm.Env) : R D → R D
  | .ok d S => kSl1 t q ρ d (p ρ S)
  | .ex c S => .ex c S
  | .err => .err
@[simp] theorem kSl_0 (t : Bool) (p : Sm.Env → Store → R (Option Int)) (q : Sm.Env → Store → R (Option Int)) (ρ : Sm.Env) (d : D) (S : Store) : kSl t p q ρ (.ok d S) = kSl1 t q ρ d (p ρ S) := rfl
@[simp] theorem kSl_x (t : Bool) (p : Sm.Env → Store → R (Option Int)) (q : Sm.Env → Store → R (Option Int)) (ρ : Sm.Env) (c : Nat) (S : Store) : kSl t p q ρ (.ex c S) = .ex c S := rfl
@[simp ↓] theorem x_sl (t : Bool) (a : ME) (p q : Sm.Env → Store → R (Option Int)) (ρ : Sm.Env) (S : Store) : mSl t a p q ρ S = kSl t p q ρ (a ρ S) := by
  unfold mSl; cases h : a ρ S with
  | ex c S1 => rfl
  | err => rfl
  | ok d S1 =>
    simp only [bind_ok, kSl_0]
    cases h2 : p ρ S1 with
    | ex c S1 => rfl
    | err => rfl
    | ok e S2 =>
      simp only [bind_ok, kSl1_0]
      cases q ρ S2 <;> rfl
def kBMb (f : Store → D → List D → R D) (u : D) : R (List D) → R D
  | .ok ds S => f S u ds
  | .ex c S => .ex c S
  | .err => .err
@[simp] theorem kBMb_0 (f : Store → D → List D → R D) (u : D) (ds : List D) (S : Store) : kBMb f u (.ok ds S) = f S u ds := rfl
@[simp] theorem kBMb_x (f : Store → D → List D → R D) (u : D) (c : Nat) (S : Store) : kBMb f u (.ex c S) = .ex c S := rfl
def kBM (T : String) (f : Store → D → List D → R D) (q : ML) (ρ : Sm.Env) : R D → R D
  | .ok d S => if tyOk T S d then kBMb f d (q ρ S) else .err
  | .ex c S => .ex c S
  | .err => .err
@[simp] theorem kBM_0 (T : String) (f : Store → D → List D → R D) (q : ML) (ρ : Sm.Env) (d : D) (S : Store) : kBM T f q ρ (.ok d S) = if tyOk T S d then kBMb f d (q ρ S) else .err := rfl
@[simp] theorem kBM_x (T : String) (f : Store → D → List D → R D) (q : ML) (ρ : Sm.Env) (c : Nat) (S : Store) : kBM T f q ρ (.ex c S) = .ex c S := rfl
@[simp ↓] theorem x_bm (T : String) (f : Store → D → List D → R D) (a : ME) (q : ML) (ρ : Sm.Env) (S : Store) : mBM T f a q ρ S = kBM T f q ρ (a ρ S) := by
  unfold mBM; cases h : a ρ S with
  | ex c S1 => rfl
  | err => rfl
  | ok d S1 =>
    simp only [bind_ok, kBM_0]
    split
    · cases q ρ S1 <;> rfl
    · rfl
def kBM0 (T : String) (f : Store → D → List D → R D) : R D → R D
  | .ok d S => if tyOk T S d then f S d [] else .err
  | .ex c S => .ex c S
  | .err => .err
@[simp] theorem kBM0_0 (T : String) (f : Store → D → List D → R D) (d : D) (S : Store) : kBM0 T f (.ok d S) = if tyOk T S d then f S d [] else .err := rfl
@[simp] theorem kBM0_x (T : String) (f : Store → D → List D → R D) (c : Nat) (S : Store) : kBM0 T f (.ex c S) = .ex c S := rfl
@[simp ↓] theorem x_bm0 (T : String) (f : Store → D → List D → R D) (a : ME) (ρ : Sm.Env) (S : Store) : mBM0 T f a ρ S = kBM0 T f (a ρ S) := by
  unfold mBM0 kBM0; cases a ρ S <;> rfl
def kSub3 (ρ : Sm.Env) : R D → R Fl
  | .ok d S => .ok (.nx ρ) S
  | .ex c S => .ex c S
  | .err => .err
@[simp] theorem kSub3_0 (ρ : Sm.Env) (d : D) (S : Store) : kSub3 ρ (.ok d S) = .ok (.nx ρ) S := rfl
@[simp] theorem kSub3_x (ρ : Sm.Env) (c : Nat) (S : Store) : kSub3 ρ (.ex c S) = .ex c S := rfl
def kSub2 (ρ : Sm.Env) (v : D) (u : D) : R D → R Fl
  | .ok k S => kSub3 ρ (oSet S u k v)
  | .ex c S => .ex c S
  | .err => .err
@[simp] theorem kSub2_0 (ρ : Sm.Env) (v : D) (u : D) (k : D) (S : Store) : kSub2 ρ v u (.ok k S) = kSub3 ρ (oSet S u k v) := rfl
@[simp] theorem kSub2_x (ρ : Sm.Env) (v : D) (u : D) (c : Nat) (S : Store) : kSub2 ρ v u (.ex c S) = .ex c S := rfl
def kSub1 (q : ME) (ρ : Sm.Env) (v : D) : R D → R Fl
  | .ok d S => kSub2 ρ v d (q ρ S)
  | .ex c S => .ex c S
  | .err => .err
@[simp] theorem kSub1_0 (q : ME) (ρ : Sm.Env) (v : D) (d : D) (S : Store) : kSub1 q ρ v (.ok d S) = kSub2 ρ v d (q ρ S) := rfl
@[simp] theorem kSub1_x (q : ME) (ρ : Sm.Env) (v : D) (c : Nat) (S : Store) : kSub1 q ρ v (.ex c S) = .ex c S := rfl
def kSub (p : ME) (q : ME) (ρ : Sm.Env) : R D → R Fl
  | .ok d S => kSub1 q ρ d (p ρ S)
  | .ex c S => .ex c S
  | .err => .err
@[simp] theorem kSub_0 (p : ME) (q : ME) (ρ : Sm.Env) (d : D) (S : Store) : kSub p q ρ (.ok d S) = kSub1 q ρ d (p ρ S) := rfl
@[simp] theorem kSub_x (p : ME) (q : ME) (ρ : Sm.Env) (c : Nat) (S : Store) : kSub p q ρ (.ex c S) = .ex c S := rfl
@[simp ↓] theorem x_sub (a p q : ME) (ρ : Sm.Env) (S : Store) : sSub a p q ρ S = kSub p q ρ (a ρ S) := by
  unfold sSub; cases h : a ρ S with
  | ex c S1 => rfl
  | err => rfl
  | ok d S1 =>
    simp only [bind_ok, kSub_0]
    cases h2 : p ρ S1 with
    | ex c S1 => rfl
    | err => rfl
    | ok e S2 =>
      simp only [bind_ok, kSub1_0]
      cases h3 : q ρ S2 with
      | ex c S1 => rfl
      | err => rfl
      | ok y S3 =>
        simp only [bind_ok, kSub2_0]
        cases oSet S3 e y d <;> rfl
def kAsgs (is : List Nat) (ρ : Sm.Env) : R D → R Fl
  | .ok (.tup ds) S => if ds.length = is.length then .ok (.nx (setAll is ds ρ)) S else .err
  | .ex c S => .ex c S
  | .ok _ _ => .err
  | .err => .err
@[simp] theorem kAsgs_0 (is : List Nat) (ρ : Sm.Env) (ds : List D) (S : Store) : kAsgs is ρ (.ok (.tup ds) S) = if ds.length = is.length then .ok (.nx (setAll is ds ρ)) S else .err := rfl
@[simp] theorem kAsgs_x (is : List Nat) (ρ : Sm.Env) (c : Nat) (S : Store) : kAsgs is ρ (.ex c S) = .ex c S := rfl
@[simp ↓] theorem x_asgs (is : List Nat) (a : ME) (ρ : Sm.Env) (S : Store) : sAsgs is a ρ S = kAsgs is ρ (a ρ S) := by
  unfold sAsgs kAsgs; cases a ρ S with
  | ok d S1 => cases d <;> first | rfl | (rename_i b; cases b <;> rfl)
  | ex c S1 => rfl
  | err => rfl
noncomputable def kMake (n : Nat) (fz : Bool) (F : List D → Store → R D) (dds : List D) : R (List D) → R D
  | .ok ds S => made fz S (F (.cell S.length :: (ds ++ dds)) (S ++ [.ins n [] []]))
  | .ex c S => .ex c S
  | .err => .err
@[simp] theorem kMake_0 (n : Nat) (fz : Bool) (F : List D → Store → R D) (dds ds : List D) (S : Store) : kMake n fz F dds (.ok ds S) = made fz S (F (.cell S.length :: (ds ++ dds)) (S ++ [.ins n [] []])) := rfl
@[simp] theorem kMake_x (n : Nat) (fz : Bool) (F : List D → Store → R D) (dds : List D) (c : Nat) (S : Store) : kMake n fz F dds (.ex c S) = .ex c S := rfl
@[simp ↓] theorem x_make (n : Nat) (fz : Bool) (F : List D → Store → R D) (dds : List D) (a : ML) (ρ : Sm.Env) (S : Store) : mMake n fz F dds a ρ S = kMake n fz F dds (a ρ S) := by
  unfold mMake kMake; cases a ρ S <;> rfl
noncomputable def kMeth (n : Nat) (m : Str) (F : List D → Store → R D) (q : ML) (ρ : Sm.Env) : R D → R D
  | .ok d S => (match objOf S d with
    | some (n2, ns, _) => if n2 = n ∧ m ∉ ns then kN (fun S2 ds => F (d :: ds) S2) (q ρ S) else .err
    | none => .err)
  | .ex c S => .ex c S
  | .err => .err
@[simp] theorem kMeth_0 (n : Nat) (m : Str) (F : List D → Store → R D) (q : ML) (ρ : Sm.Env) (d : D) (S : Store) : kMeth n m F q ρ (.ok d S) = (match objOf S d with
    | some (n2, ns, _) => if n2 = n ∧ m ∉ ns then kN (fun S2 ds => F (d :: ds) S2) (q ρ S) else .err
    | none => .err) := rfl
@[simp ↓] theorem x_meth (n : Nat) (m : Str) (F : List D → Store → R D) (a : ME) (q : ML) (ρ : Sm.Env) (S : Store) : mMeth n m F a q ρ S = kMeth n m F q ρ (a ρ S) := by
  unfold mMeth; cases h : a ρ S with
  | ex c S1 => rfl
  | err => rfl
  | ok d S1 =>
    simp only [bind_ok, kMeth_0]
    cases objOf S1 d with
    | none => rfl
    | some t =>
      obtain ⟨n2, ns, z⟩ := t
      simp only
      split
      · cases q ρ S1 <;> rfl
      · rfl
noncomputable def kFld1 (n : Nat) (f : Str) (v : D) (ρ : Sm.Env) : R D → R Fl
  | .ok d S => (match cellI S d with
    | some (j, n2, ns, ds) => if n2 = n ∧ ns.length < 1000 then .ok (.nx ρ) (S.set j (.ins n (putN f ns) (putD f v ns ds))) else .err
    | none => .err)
  | .ex c S => .ex c S
  | .err => .err
@[simp] theorem kFld1_0 (n : Nat) (f : Str) (v : D) (ρ : Sm.Env) (d : D) (S : Store) : kFld1 n f v ρ (.ok d S) = (match cellI S d with
    | some (j, n2, ns, ds) => if n2 = n ∧ ns.length < 1000 then .ok (.nx ρ) (S.set j (.ins n (putN f ns) (putD f v ns ds))) else .err
    | none => .err) := rfl
noncomputable def kFld (n : Nat) (f : Str) (q : ME) (ρ : Sm.Env) : R D → R Fl
  | .ok d S => kFld1 n f d ρ (q ρ S)
  | .ex c S => .ex c S
  | .err => .err
@[simp] theorem kFld_0 (n : Nat) (f : Str) (q : ME) (ρ : Sm.Env) (d : D) (S : Store) : kFld n f q ρ (.ok d S) = kFld1 n f d ρ (q ρ S) := rfl
@[simp] theorem kFld_x (n : Nat) (f : Str) (q : ME) (ρ : Sm.Env) (c : Nat) (S : Store) : kFld n f q ρ (.ex c S) = .ex c S := rfl
@[simp ↓] theorem x_fldM (n : Nat) (f : Str) (a q : ME) (ρ : Sm.Env) (S : Store) : sFldM n f a q ρ S = kFld n f q ρ (a ρ S) := by
  unfold sFldM; cases h : a ρ S with
  | ex c S1 => rfl
  | err => rfl
  | ok d S1 =>
    simp only [bind_ok, kFld_0]
    cases q ρ S1 <;> rfl
def kGet2b (u : D) (k : D) : R D → R D
  | .ok z S => (match dGet S u k with
  | some (some r) => .ok r S
  | some none => .ok z S
  | none => .err)
  | .ex c S => .ex c S
  | .err => .err
@[simp] theorem kGet2b_0 (u : D) (k : D) (z : D) (S : Store) : kGet2b u k (.ok z S) = (match dGet S u k with
  | some (some r) => .ok r S
  | some none => .ok z S
  | none => .err) := rfl
@[simp] theorem kGet2b_x (u : D) (k : D) (c : Nat) (S : Store) : kGet2b u k (.ex c S) = .ex c S := rfl
def kGet1 (q : ME) (ρ : Sm.Env) (u : D) : R D → R D
  | .ok e S => kGet2b u e (q ρ S)
  | .ex c S => .ex c S
  | .err => .err
@[simp] theorem kGet1_0 (q : ME) (ρ : Sm.Env) (u : D) (e : D) (S : Store) : kGet1 q ρ u (.ok e S) = kGet2b u e (q ρ S) := rfl
@[simp] theorem kGet1_x (q : ME) (ρ : Sm.Env) (u : D) (c : Nat) (S : Store) : kGet1 q ρ u (.ex c S) = .ex c S := rfl
def kGet (p : ME) (q : ME) (ρ : Sm.Env) : R D → R D
  | .ok d S => if isDict S d then kGet1 q ρ d (p ρ S) else .err
  | .ex c S => .ex c S
  | .err => .err
@[simp] theorem kGet_0 (p : ME) (q : ME) (ρ : Sm.Env) (d : D) (S : Store) : kGet p q ρ (.ok d S) = if isDict S d then kGet1 q ρ d (p ρ S) else .err := rfl
@[simp] theorem kGet_x (p : ME) (q : ME) (ρ : Sm.Env) (c : Nat) (S : Store) : kGet p q ρ (.ex c S) = .ex c S := rfl
@[simp ↓] theorem x_get (a p q : ME) (ρ : Sm.Env) (S : Store) : mGet2 a p q ρ S = kGet p q ρ (a ρ S) := by
  unfold mGet2; cases h : a ρ S with
  | ex c S1 => rfl
  | err => rfl
  | ok d S1 =>
    simp only [bind_ok, kGet_0]
    split
    · cases h2 : p ρ S1 with
      | ex c S1 => rfl
      | err => rfl
      | ok e S2 =>
        simp only [bind_ok, kGet1_0]
        cases q ρ S2 <;> rfl
    · rfl
def kSetD2 (u : D) (k : D) : R D → R D
  | .ok z S => (match cellK S u, keyOf k with
  | some (n, kvs), some y => if kvs.length < sizeLine then (match valK kvs y with
    | some r => .ok r S
    | none => .ok z (S.set n (.dk (putG kvs y z)))) else .err
  | _, _ => .err)
  | .ex c S => .ex c S
  | .err => .err
@[simp] theorem kSetD2_0 (u : D) (k : D) (z : D) (S : Store) : kSetD2 u k (.ok z S) = (match cellK S u, keyOf k with
  | some (n, kvs), some y => if kvs.length < sizeLine then (match valK kvs y with
    | some r => .ok r S
    | none => .ok z (S.set n (.dk (putG kvs y z)))) else .err
  | _, _ => .err) := rfl
@[simp] theorem kSetD2_x (u : D) (k : D) (c : Nat) (S : Store) : kSetD2 u k (.ex c S) = .ex c S := rfl
def kSetD1 (q : ME) (ρ : Sm.Env) (u : D) : R D → R D
  | .ok e S => kSetD2 u e (q ρ S)
  | .ex c S => .ex c S
  | .err => .err
@[simp] theorem kSetD1_0 (q : ME) (ρ : Sm.Env) (u : D) (e : D) (S : Store) : kSetD1 q ρ u (.ok e S) = kSetD2 u e (q ρ S) := rfl
@[simp] theorem kSetD1_x (q : ME) (ρ : Sm.Env) (u : D) (c : Nat) (S : Store) : kSetD1 q ρ u (.ex c S) = .ex c S := rfl
def kSetD (p : ME) (q : ME) (ρ : Sm.Env) : R D → R D
  | .ok d S => if isDict S d then kSetD1 q ρ d (p ρ S) else .err
  | .ex c S => .ex c S
  | .err => .err
@[simp] theorem kSetD_0 (p : ME) (q : ME) (ρ : Sm.Env) (d : D) (S : Store) : kSetD p q ρ (.ok d S) = if isDict S d then kSetD1 q ρ d (p ρ S) else .err := rfl
@[simp] theorem kSetD_x (p : ME) (q : ME) (ρ : Sm.Env) (c : Nat) (S : Store) : kSetD p q ρ (.ex c S) = .ex c S := rfl
@[simp ↓] theorem x_setD (a p q : ME) (ρ : Sm.Env) (S : Store) : mSetD a p q ρ S = kSetD p q ρ (a ρ S) := by
  unfold mSetD; cases h : a ρ S with
  | ex c S1 => rfl
  | err => rfl
  | ok d S1 =>
    simp only [bind_ok, kSetD_0]
    split
    · cases h2 : p ρ S1 with
      | ex c S1 => rfl
      | err => rfl
      | ok e S2 =>
        simp only [bind_ok, kSetD1_0]
        cases q ρ S2 <;> rfl
    · rfl
def kTru  : R D → R D
  | .ok d S => (match truD S d with
  | some b => .ok (.bl b) S
  | none => .err)
  | .ex c S => .ex c S
  | .err => .err
@[simp] theorem kTru_0  (d : D) (S : Store) : kTru  (.ok d S) = (match truD S d with
  | some b => .ok (.bl b) S
  | none => .err) := rfl
@[simp] theorem kTru_x  (c : Nat) (S : Store) : kTru  (.ex c S) = .ex c S := rfl
@[simp ↓] theorem x_tru (a : ME) (ρ : Sm.Env) (S : Store) : mTru a ρ S = kTru (a ρ S) := by
  unfold mTru kTru; cases a ρ S <;> rfl
@[simp ↓] theorem x_dk (ρ : Sm.Env) (S : Store) : mDk ρ S = .ok (.cell S.length) (S ++ [.dk []]) := rfl
@[simp ↓] theorem x_dt (ρ : Sm.Env) (S : Store) : mDt ρ S = .ok (.cell S.length) (S ++ [.dt []]) := rfl
end Nl
/-! E2: the operations, as rules of simp; hangs as data -/
namespace Nl
open PySem Sm
open Classical in
theorem fin_rtT {S S' : Store} {d : D} (h : S'.take S.length = S) (c : Cl S.length d) : fin true S (.ok (.rt d) S') = .ok d S := by
  unfold fin; simp only [if_true]; rw [if_pos ⟨h, c⟩]
open Classical in
theorem dfz_cl {k : Nat} {S' : Store} {f : Nat} {d : D} (c : Cl k d) : dfz k S' f d = some d := by
  cases f <;> (unfold dfz; exact if_pos c)
theorem optAll_cl {k : Nat} {S' : Store} {f : Nat} : ∀ {ds : List D}, ClL k ds → optAll (dfz k S' f) ds = some ds
  | [], _ => rfl
  | d :: ds, c => by unfold optAll; rw [dfz_cl c.1, optAll_cl c.2]
theorem dfz_cell {k : Nat} {S' : Store} {f n : Nat} {ds ds' : List D} (h : S'[n]? = some (.lst ds)) (hl : k ≤ n) (c : optAll (dfz k S' f) ds = some ds') : dfz k S' (f + 1) (.cell n) = some (.lst ds') := by
  unfold dfz
  have nc : ¬ Cl k (.cell n) := fun z => absurd (show n < k from z) (by omega)
  rw [if_neg nc]
  simp only [h]
  rw [if_pos hl, c]; rfl
open Classical in
theorem fin_dfz {S S' : Store} {d d' : D} (ht : S'.take S.length = S) (hd : dfz S.length S' 5 d = some d') : fin true S (.ok (.rt d) S') = .ok d' S := by
  unfold fin; simp only [if_true]
  by_cases c : Cl S.length d
  · rw [dfz_cl c] at hd
    cases hd
    exact if_pos ⟨ht, c⟩
  · rw [if_neg (fun z => c z.2)]
    unfold frz
    rw [if_pos ht, hd]
theorem fin_frz {S S' : Store} {n : Nat} {ds : List D} (h : S'[n]? = some (.lst ds)) (ht : S'.take S.length = S) (hl : S.length ≤ n) (c : ClL S.length ds) : fin true S (.ok (.rt (.cell n)) S') = .ok (.lst ds) S :=
  fin_dfz ht (dfz_cell h hl (optAll_cl c))
theorem fin_nxT {S S' : Store} {r : Sm.Env} (h : S'.take S.length = S) : fin true S (.ok (.nx r) S') = .ok .non S := by
  unfold fin; simp only [if_true]; rw [if_pos h]
theorem fin_exT {S S' : Store} {c : Nat} (h : S'.take S.length = S) : fin true S (.ex c S') = .ex c S := by
  unfold fin; simp only [if_true]; rw [if_pos h]
/-! ### evaluation of a def -/
theorem ev_s {T : Nat → Option Body} {i : Nat} {b : Body} (h : T i = some b) (n : Nat) (args : List D) (S : Store) : ev T (n + 2) i args S = step1 b (ev T (n + 1)) (ev T n) args S := by
  show (match T i with
    | none => R.err
    | some b => step1 b (ev T (n + 1)) (ev T n) args S) = _
  rw [h]
@[simp] theorem fin_rt (S S' : Store) (d : D) : fin false S (.ok (.rt d) S') = .ok d S' := rfl
@[simp] theorem fin_nx (S S' : Store) (r : Sm.Env) : fin false S (.ok (.nx r) S') = .ok .non S' := rfl
@[simp] theorem fin_ex (S S' : Store) (c : Nat) : fin false S (.ex c S') = .ex c S' := rfl
/-! ### items -/
def atR (o : Option D) (S : Store) : R D := match o with
  | some r => .ok r S
  | none => .err
@[simp] theorem atR_some (r : D) (S : Store) : atR (some r) S = .ok r S := rfl
def kIx (o : Option MO) (i : Int) (S : Store) : R D := match o with
  | some (.lst ds) => atR (L2.atI ds i) S
  | some (.dk kvs) => atR (valK kvs (.inl i)) S
  | some (.fk kvs) => atR (valK kvs (.inl i)) S
  | _ => .err
@[simp] theorem kIx_lst (ds : List D) (i : Int) (S : Store) : kIx (some (.lst ds)) i S = atR (L2.atI ds i) S := rfl
@[simp] theorem kIx_dk (kvs : List (L2.Key × D)) (i : Int) (S : Store) : kIx (some (.dk kvs)) i S = atR (valK kvs (.inl i)) S := rfl
@[simp] theorem ix_tup (ds : List D) (i : Int) (S : Store) : oIx S (.tup ds) (.int i) = atR (L2.atI ds i) S := by
  unfold oIx atR; rfl
@[simp] theorem ix_lst (ds : List D) (i : Int) (S : Store) : oIx S (.lst ds) (.int i) = atR (L2.atI ds i) S := by
  unfold oIx atR; rfl
@[simp] theorem ix_scr (ns : List Int) (i : Int) (S : Store) : oIx S (.scr ns) (.int i) = atR (L2.atI (ns.map D.int) i) S := by
  unfold oIx atR; rfl
@[simp] theorem ix_cell (n : Nat) (i : Int) (S : Store) : oIx S (.cell n) (.int i) = kIx (S[n]?) i S := by
  unfold oIx kIx atR
  show (match seqL S (.cell n) with
      | some ds => (match L2.atI ds i with
        | some r => R.ok r S
        | none => .err)
      | none => match dGet S (.cell n) (.int i) with
        | some (some r) => .ok r S
        | _ => .err) = _
  cases h : S[n]? with
  | none => simp [seqL, dGet, dLook, h]
  | some mo =>
    cases mo <;> simp [seqL, dGet, dLook, h, keyOf, dLookT]
    all_goals (next kvs => cases valK kvs (.inl i) <;> rfl)
theorem atI0 {A : Type} (a : A) (l : List A) : L2.atI (a :: l) 0 = some a := L2.atI_nat (j := 0) rfl
theorem atI1 {A : Type} (a b : A) (l : List A) : L2.atI (a :: b :: l) 1 = some b := L2.atI_nat (j := 1) rfl
theorem atI2 {A : Type} (a b c : A) (l : List A) : L2.atI (a :: b :: c :: l) 2 = some c := L2.atI_nat (j := 2) rfl
theorem atI3 {A : Type} (a b c d : A) (l : List A) : L2.atI (a :: b :: c :: d :: l) 3 = some d := L2.atI_nat (j := 3) rfl
theorem atI_nat {A : Type} (l : List A) (k : Nat) : L2.atI l (k : Int) = l[k]? := by
  cases h : l[k]? with
  | some a => exact L2.atI_nat h
  | none =>
    have : l.length ≤ k := List.getElem?_eq_none_iff.mp h
    unfold L2.atI L2.ixN
    rw [if_pos (by omega), if_neg (by omega)]; rfl
theorem atI_pos {A : Type} {l : List A} {i : Int} (h : 0 ≤ i) : L2.atI l i = l[i.toNat]? := by
  have := atI_nat l i.toNat
  rwa [Int.toNat_of_nonneg h] at this
@[simp] theorem s_at0 {A : Type} (a : A) (l : List A) : L2.atI (a :: l) 0 = some a := atI0 a l
@[simp] theorem s_at1 {A : Type} (a b : A) (l : List A) : L2.atI (a :: b :: l) 1 = some b := atI1 a b l
@[simp] theorem s_at2 {A : Type} (a b c : A) (l : List A) : L2.atI (a :: b :: c :: l) 2 = some c := atI2 a b c l
@[simp] theorem s_at3 {A : Type} (a b c d : A) (l : List A) : L2.atI (a :: b :: c :: d :: l) 3 = some d := atI3 a b c d l
@[simp] theorem s_atn {A : Type} (l : List A) (k : Nat) : L2.atI l (k : Int) = l[k]? := atI_nat l k
/-! ### numbers -/
@[simp] theorem add_int (c : Bool) (S : Store) (i j : Int) : oAdd c S (.int i) (.int j) = .ok (.int (i + j)) S := rfl
@[simp] theorem sub_int (S : Store) (i j : Int) : oSub S (.int i) (.int j) = .ok (.int (i - j)) S := rfl
def mulOk (i j : Int) : Prop := (-(2 ^ 64) < i ∧ i < 2 ^ 64) ∨ (-(2 ^ 64) < j ∧ j < 2 ^ 64)
open Classical in
@[simp] theorem mul_int (c : Bool) (S : Store) (i j : Int) : oMul c S (.int i) (.int j) = if mulOk i j then .ok (.int (i * j)) S else .err := by
  show (if (-(2 ^ 64) < i ∧ i < 2 ^ 64) ∨ (-(2 ^ 64) < j ∧ j < 2 ^ 64) then R.ok (D.int (i * j)) S else .err) = _
  by_cases h : mulOk i j
  · rw [if_pos h]; exact if_pos h
  · rw [if_neg h]; exact if_neg h
theorem mulOk_l {i : Int} (j : Int) (h : -1000000000000000000 < i ∧ i < 1000000000000000000) : mulOk i j := .inl ⟨by omega, by omega⟩
theorem mulOk_r (i : Int) {j : Int} (h : -1000000000000000000 < j ∧ j < 1000000000000000000) : mulOk i j := .inr ⟨by omega, by omega⟩
@[simp] theorem mulOk_nr (i j : Int) (h : (-1000000000000000000 < j ∧ j < 1000000000000000000)) : mulOk i j = True := eq_true (mulOk_r i h)
@[simp] theorem mulOk_nl (i j : Int) (h : (-1000000000000000000 < i ∧ i < 1000000000000000000)) : mulOk i j = True := eq_true (mulOk_l j h)
@[simp] theorem div_int (S : Store) (i j : Int) : oDiv S (.int i) (.int j) = if 0 < j ∧ j < 1073741824 then .ok (.int (i / j)) S else .err := rfl
@[simp] theorem mod_int (S : Store) (i j : Int) : oMod S (.int i) (.int j) = if 0 < j then .ok (.int (i % j)) S else .err := rfl
@[simp] theorem pow_int (S : Store) (i j : Int) : oPow S (.int i) (.int j) = if 0 ≤ j ∧ j ≤ 1000000 ∧ i.natAbs < 2 ^ 64 then .ok (.int (i ^ j.toNat)) S else .err := rfl
@[simp] theorem neg_int (S : Store) (i : Int) : oNeg S (.int i) = .ok (.int (-i)) S := rfl
@[simp] theorem cmp_int (p : Int → Int → Bool) (S : Store) (i j : Int) : oCmp p S (.int i) (.int j) = .ok (.bl (p i j)) S := rfl
@[simp] theorem add_str (c : Bool) (S : Store) (x y : Str) : oAdd c S (.str x) (.str y) = if x.length + y.length ≤ sizeLine then .ok (.str (x ++ y)) S else .err := rfl
@[simp] theorem finL_f (ds : List D) (S : Store) : finL false ds S = .ok (.lst ds) S := rfl
@[simp] theorem finL_t (ds : List D) (S : Store) : finL true ds S = .ok (.cell S.length) (S ++ [.lst ds]) := rfl
@[simp] theorem add_lst (c : Bool) (S : Store) (x y : List D) : oAdd c S (.lst x) (.lst y) = if x.length + y.length ≤ sizeLine then finL c (x ++ y) S else .err := rfl
@[simp] theorem tup_le (S : Store) (ds : List D) : oTup S ds = if ds.length ≤ 64 then .ok (.tup ds) S else .err := rfl
@[simp] theorem lst_le (c : Bool) (S : Store) (ds : List D) : oLst c S ds = if ds.length ≤ 64 then finL c ds S else .err := rfl
@[simp] theorem len_lst (S : Store) (ds : List D) : oLen S [.lst ds] = .ok (.int ds.length) S := rfl
@[simp] theorem len_tup (S : Store) (ds : List D) : oLen S [.tup ds] = .ok (.int ds.length) S := rfl
@[simp] theorem len_scr (S : Store) (ns : List Int) : oLen S [.scr ns] = .ok (.int ns.length) S := by
  show R.ok (D.int ((ns.map D.int).length : Int)) S = _
  rw [List.length_map]
@[simp] theorem len_str (S : Store) (x : Str) : oLen S [.str x] = if x.length ≤ sizeLine then .ok (.int x.length) S else .err := rfl
/-! ### cells -/
def kSeqL (o : Option MO) : Option (List D) := match o with
  | some (.lst ds) => some ds
  | _ => none
@[simp] theorem kSeqL_lst (ds : List D) : kSeqL (some (.lst ds)) = some ds := rfl
@[simp] theorem seqL_cell (S : Store) (n : Nat) : seqL S (.cell n) = kSeqL (S[n]?) := by
  unfold seqL kSeqL; rfl
@[simp] theorem seqP_cell (S : Store) (n : Nat) : seqP S (.cell n) = kSeqL (S[n]?) := by
  unfold seqP kSeqL; rfl
@[simp] theorem seqA_cell (S : Store) (n : Nat) : seqA S (.cell n) = kSeqL (S[n]?) := by
  unfold seqA; exact seqL_cell S n
@[simp] theorem seqA_lst (S : Store) (ds : List D) : seqA S (.lst ds) = some ds := rfl
@[simp] theorem seqA_tup (S : Store) (ds : List D) : seqA S (.tup ds) = some ds := rfl
@[simp] theorem tyOk_cell (S : Store) (n : Nat) : tyOk "list" S (.cell n) = (kSeqL (S[n]?)).isSome := by
  rw [← seqL_cell]; unfold tyOk; simp
@[simp] theorem tyOk_lst (S : Store) (ds : List D) : tyOk "list" S (.lst ds) = true := rfl
@[simp] theorem tyOk_str (S : Store) (x : Str) : tyOk "str" S (.str x) = true := rfl
def kLen (o : Option MO) (S : Store) : R D := match o with
  | some (.lst ds) => .ok (.int ds.length) S
  | some (.dk kvs) => R.ok (D.int kvs.length) S
  | _ => .err
@[simp] theorem kLen_lst (ds : List D) (S : Store) : kLen (some (.lst ds)) S = .ok (.int ds.length) S := rfl
@[simp] theorem kLen_dk (ds : List (L2.Key × D)) (S : Store) : kLen (some (.dk ds)) S = .ok (.int ds.length) S := rfl
@[simp] theorem len_cell (S : Store) (n : Nat) : oLen S [.cell n] = kLen (S[n]?) S := by
  show (match seqA S (.cell n) with
    | some ds => R.ok (D.int ds.length) S
    | none => (match S[n]? with
        | some (.dk kvs) => R.ok (D.int kvs.length) S
        | _ => .err)) = _
  rw [seqA_cell]
  cases h : S[n]? with
  | none => rfl
  | some mo => cases mo <;> rfl
theorem cellL_c (S : Store) (n : Nat) : cellL S (.cell n) = (kSeqL (S[n]?)).map fun ds => (n, ds) := by
  unfold cellL kSeqL
  show (match S[n]? with
    | some (.lst ds) => some (n, ds)
    | _ => none) = _
  cases h : S[n]? with
  | none => rfl
  | some mo => cases mo <;> rfl
def kExt (o u : Option (List D)) (n : Nat) (S : Store) : R D := match o, u with
  | some ds, some us => if ds.length + us.length ≤ sizeLine then .ok .non (S.set n (.lst (ds ++ us))) else .err
  | _, _ => .err
@[simp] theorem kExt_s (ds us : List D) (n : Nat) (S : Store) : kExt (some ds) (some us) n S = if ds.length + us.length ≤ sizeLine then .ok .non (S.set n (.lst (ds ++ us))) else .err := rfl
@[simp] theorem ext_cell (S : Store) (n : Nat) (e : D) : oExtend S (.cell n) [e] = kExt (kSeqL (S[n]?)) (seqP S e) n S := by
  unfold oExtend kExt
  rw [cellL_c]
  cases kSeqL (S[n]?) with
  | none => rfl
  | some ds =>
    show (match seqP S e with
      | some us => if ds.length + us.length ≤ sizeLine then R.ok D.non (S.set n (.lst (ds ++ us))) else .err
      | none => .err) = _
    cases seqP S e <;> rfl
def kApp (o : Option (List D)) (e : D) (n : Nat) (S : Store) : R D := match o with
  | some ds => if ds.length < sizeLine then .ok .non (S.set n (.lst (ds ++ [e]))) else .err
  | _ => .err
@[simp] theorem kApp_s (ds : List D) (e : D) (n : Nat) (S : Store) : kApp (some ds) e n S = if ds.length < sizeLine then .ok .non (S.set n (.lst (ds ++ [e]))) else .err := rfl
@[simp] theorem app_cell (S : Store) (n : Nat) (e : D) : oAppend S (.cell n) [e] = kApp (kSeqL (S[n]?)) e n S := by
  unfold oAppend kApp
  rw [cellL_c]
  cases kSeqL (S[n]?) <;> rfl
def kIns (o : Option (List D)) (i : Int) (e : D) (n : Nat) (S : Store) : R D := match o with
  | some ds => if ds.length < sizeLine ∧ 0 ≤ i ∧ i < 2 ^ 63 then .ok .non (S.set n (.lst (ds.take i.toNat ++ [e] ++ ds.drop i.toNat))) else .err
  | _ => .err
@[simp] theorem kIns_s (ds : List D) (i : Int) (e : D) (n : Nat) (S : Store) : kIns (some ds) i e n S = if ds.length < sizeLine ∧ 0 ≤ i ∧ i < 2 ^ 63 then .ok .non (S.set n (.lst (ds.take i.toNat ++ [e] ++ ds.drop i.toNat))) else .err := rfl
@[simp] theorem ins_cell (S : Store) (n : Nat) (i : Int) (e : D) : oInsert S (.cell n) [.int i, e] = kIns (kSeqL (S[n]?)) i e n S := by
  unfold oInsert kIns
  rw [cellL_c]
  cases kSeqL (S[n]?) <;> rfl
def kSet (o : Option MO) (i e : D) (n : Nat) (S : Store) : R D := match o with
  | some (.lst ds) => (match i with
    | .int k => (match L2.ixN ds.length k with
      | some j => .ok .non (S.set n (.lst (ds.set j e)))
      | none => .err)
    | _ => .err)
  | some (.dk kvs) => (match keyOf i with
    | some k => if kvs.length < sizeLine then .ok .non (S.set n (.dk (putG kvs k e))) else .err
    | none => .err)
  | some (.dt kvs) => (match keysD i with
    | some k => if kvs.length < sizeLine then .ok .non (S.set n (.dt (putG kvs k e))) else .err
    | none => .err)
  | _ => .err
@[simp] theorem kSet_lst (ds : List D) (k : Int) (e : D) (n : Nat) (S : Store) : kSet (some (.lst ds)) (.int k) e n S = match L2.ixN ds.length k with
      | some j => .ok .non (S.set n (.lst (ds.set j e)))
      | none => .err := rfl
@[simp] theorem kSet_dk (kvs : List (L2.Key × D)) (i e : D) (n : Nat) (S : Store) : kSet (some (.dk kvs)) i e n S = match keyOf i with
    | some k => if kvs.length < sizeLine then .ok .non (S.set n (.dk (putG kvs k e))) else .err
    | none => .err := rfl
@[simp] theorem kSet_dt (kvs : List (List L2.Key × D)) (i e : D) (n : Nat) (S : Store) : kSet (some (.dt kvs)) i e n S = match keysD i with
    | some k => if kvs.length < sizeLine then .ok .non (S.set n (.dt (putG kvs k e))) else .err
    | none => .err := rfl
@[simp] theorem set_cell (S : Store) (n : Nat) (i e : D) : oSet S (.cell n) i e = kSet (S[n]?) i e n S := by
  unfold oSet kSet
  rw [cellL_c]
  cases h : S[n]? with
  | none => simp [kSeqL, cellK, cellT, h]
  | some mo =>
    cases mo <;> simp [kSeqL, cellK, cellT, h] <;> first | (cases i <;> rfl) | (cases keyOf i <;> rfl) | (cases keysD i <;> rfl)
theorem ixN_nat {n k : Nat} (h : k < n) : L2.ixN n (k : Int) = some k := by
  unfold L2.ixN
  rw [if_pos (by omega), if_pos (by omega), Int.toNat_natCast]
/-! ### lists walked -/
@[simp] theorem itA_lst (ds : List D) (S : Store) : itemsA [.lst ds] S = some (ones ds) := rfl
@[simp] theorem itA_scr (ns : List Int) (S : Store) : itemsA [.scr ns] S = some (ones (ns.map D.int)) := rfl
@[simp] theorem itA_cell (n : Nat) (S : Store) : itemsA [.cell n] S = (kSeqL (S[n]?)).map ones := by
  rw [← seqL_cell]; rfl
theorem itA_tup {ds : List D} (h : ds.length ≤ sizeLine) (S : Store) : itemsA [.tup ds] S = some (ones ds) := by
  show (match (if ds.length ≤ sizeLine then some (ones ds) else none) with
    | some its => some its
    | none => (seqL S (.tup ds)).map ones) = _
  rw [if_pos h]
theorem it_r1 {n : Nat} (h : n ≤ sizeLine) (S : Store) : itemsR [.int n] S = some ((List.range n).map fun (k : Nat) => [D.int k]) := by
  have hz : (n : Int) ≤ (sizeLine : Int) := by exact_mod_cast h
  show (if -(2 ^ 62) ≤ (n : Int) ∧ (n : Int) ≤ sizeLine then some ((List.range (n : Int).toNat).map fun (k : Nat) => [D.int k]) else none) = _
  rw [if_pos ⟨by omega, hz⟩, Int.toNat_natCast]
/-! ### loops over data that stand still -/
def forV (tg : List Nat) (body : MS) : List (List D) → Sm.Env → Store → R Fl
  | [], ρ, S => .ok (.nx ρ) S
  | d :: ds, ρ, S => match body (setAll tg d ρ) S with
    | .ok (.nx r) S2 => forV tg body ds r S2
    | .ok (.ct r) S2 => forV tg body ds r S2
    | .ok (.bk r) S2 => .ok (.nx r) S2
    | r => r
theorem forL_V {items : Store → Option (List (List D))} {its : List (List D)} {tg : List Nat} {body : MS} (h : ∀ S, items S = some its) : ∀ (ds : List (List D)) (ρ : Sm.Env) (S : Store), forL items its tg body ds ρ S = forV tg body ds ρ S
  | [], ρ, S => by unfold forL forV; rw [if_pos (h S)]
  | d :: ds, ρ, S => by
    unfold forL forV
    rw [if_pos (h S)]
    cases body (setAll tg d ρ) S with
    | ok f S2 => cases f <;> simp only [forL_V h ds]
    | ex c S2 => rfl
    | err => rfl
theorem for_src {args : ML} {items : List D → Store → Option (List (List D))} {tg : List Nat} {body : MS} {ρ : Sm.Env} {S S1 : Store} {src : List D} {its : List (List D)} (h : args ρ S = .ok src S1) (hi : ∀ S, items src S = some its) :
    sFor args items tg body ρ S = forV tg body its ρ S1 := by
  unfold sFor
  rw [h, bind_ok]
  simp only [hi]
  exact forL_V hi its ρ S1
/-- over a list -/
theorem comp_ones {A : Type} {c : Bool} {args : ML} {items : List D → Store → Option (List (List D))} {tg own : List Nat} {cond elt : ME} {ρ : Sm.Env} {S S1 : Store} {src : List D} (xs : List A) (inj : A → D) (h : args ρ S = .ok src S1) (hi : items src S1 = some (xs.map fun x => [inj x]))
    (p : A → Bool) (f : A → D) (hp : ∀ x ∈ xs, cond (setAll tg [inj x] (wipeE ρ own)) S1 = .ok (.bl (p x)) S1) (hf : ∀ x ∈ xs, p x = true → elt (setAll tg [inj x] (wipeE ρ own)) S1 = .ok (f x) S1) :
    mComp c args items tg own cond elt ρ S = finL c ((xs.filter p).map f) S1 := by
  unfold mComp
  rw [h, bind_ok]
  simp only [hi]
  have key : ∀ ds : List A, (∀ d ∈ ds, d ∈ xs) → compL (items src) (xs.map fun x => [inj x]) tg (wipeE ρ own) cond elt (ds.map fun x => [inj x]) S1 = .ok ((ds.filter p).map f) S1 := by
    intro ds
    induction ds with
    | nil => intro _; simp only [List.map_nil]; unfold compL; rw [if_pos hi]; rfl
    | cons d ds ih =>
      intro hm
      have h1 := hp d (hm d List.mem_cons_self)
      have h3 := ih fun e he => hm e (List.mem_cons_of_mem _ he)
      simp only [List.map_cons]
      unfold compL
      rw [if_pos hi, h1, nox_ok, bind_ok]
      cases q : p d with
      | true =>
        have h2 := hf d (hm d List.mem_cons_self) q
        simp only [h2, nox_ok, bind_ok, h3, List.filter_cons, q, if_true, List.map_cons]
      | false => simp only [h3, List.filter_cons, q, Bool.false_eq_true, if_false]
  rw [key xs fun d hd => hd, bind_ok]
theorem filter_yes {A : Type} (l : List A) : (l.filter fun _ => true) = l := List.filter_eq_self.mpr fun _ _ => rfl
@[simp] theorem ones_map {A : Type} (xs : List A) (f : A → D) : ones (xs.map f) = xs.map fun x => [f x] := by
  unfold ones; rw [List.map_map]; rfl
/-! ### words -/
@[simp] theorem w1 : (Str.ofString "light" = Str.ofString "dark") = False := eq_false (by decide +kernel)
@[simp] theorem w2 : (Str.ofString "light" = Str.ofString "fast") = False := eq_false (by decide +kernel)
@[simp] theorem w3 : (Str.ofString "light" = Str.ofString "loose") = False := eq_false (by decide +kernel)
@[simp] theorem w4 : (Str.ofString "dark" = Str.ofString "light") = False := eq_false (by decide +kernel)
@[simp] theorem w5 : (Str.ofString "dark" = Str.ofString "fast") = False := eq_false (by decide +kernel)
@[simp] theorem w6 : (Str.ofString "dark" = Str.ofString "loose") = False := eq_false (by decide +kernel)
@[simp] theorem w7 : (Str.ofString "fast" = Str.ofString "light") = False := eq_false (by decide +kernel)
@[simp] theorem w8 : (Str.ofString "fast" = Str.ofString "dark") = False := eq_false (by decide +kernel)
@[simp] theorem w9 : (Str.ofString "fast" = Str.ofString "loose") = False := eq_false (by decide +kernel)
@[simp] theorem w10 : (Str.ofString "loose" = Str.ofString "light") = False := eq_false (by decide +kernel)
@[simp] theorem w11 : (Str.ofString "loose" = Str.ofString "dark") = False := eq_false (by decide +kernel)
@[simp] theorem w12 : (Str.ofString "loose" = Str.ofString "fast") = False := eq_false (by decide +kernel)
/-! ### comparisons -/
theorem fit_int (x : Int) : fit (.int x) = true := by
  show (okD (.int x) && SeqAt.shaped (pyD (.int x))) = true
  simp [okD, pyD, SeqAt.shaped, PyData.canLay0, PyData.depth]
theorem fit_bl (x : Bool) : fit (.bl x) = true := by
  show (okD (.bl x) && SeqAt.shaped (pyD (.bl x))) = true
  simp [okD, pyD, SeqAt.shaped, PyData.canLay0, PyData.depth]
@[simp] theorem dr_str (S : Store) (x : Str) : deref S (.str x) = .str x := rfl
@[simp] theorem dr_int (S : Store) (x : Int) : deref S (.int x) = .int x := rfl
@[simp] theorem dr_bl (S : Store) (x : Bool) : deref S (.bl x) = .bl x := rfl
@[simp] theorem dr_tup (S : Store) (x : List D) : deref S (.tup x) = .tup x := rfl
@[simp] theorem dr_lst (S : Store) (x : List D) : deref S (.lst x) = .lst x := rfl
theorem eqD_str (x y : Str) : eqD (.str x) (.str y) = decide (x = y) := by
  show PyData.eqv (.str x) (.str y) = _
  rw [PyData.eqv]; by_cases h : x = y <;> simp [h]
theorem eqD_int (x y : Int) : eqD (.int x) (.int y) = decide (x = y) := by
  show PyData.eqv (.int x) (.int y) = _
  rw [PyData.eqv]; by_cases h : x = y <;> simp [h]
theorem eqD_bl (x y : Bool) : eqD (.bl x) (.bl y) = decide (x = y) := by
  show PyData.eqv (.bool x) (.bool y) = _
  rw [PyData.eqv]; cases x <;> cases y <;> rfl
theorem oEq_fit {S : Store} {d e : D} (h1 : fit (deref S d) = true) (h2 : fit (deref S e) = true) : oEq S d e = .ok (.bl (eqD (deref S d) (deref S e))) S := by
  unfold oEq
  cases h : twoS d e with
  | none => simp [h1, h2]
  | some b =>
    unfold twoS at h
    split at h
    · cases h; simp [eqD_str]
    · cases h
theorem oNe_fit {S : Store} {d e : D} (h1 : fit (deref S d) = true) (h2 : fit (deref S e) = true) : oNe S d e = .ok (.bl (!eqD (deref S d) (deref S e))) S := by
  unfold oNe
  cases h : twoS d e with
  | none => simp [h1, h2]
  | some b =>
    unfold twoS at h
    split at h
    · cases h; simp [eqD_str]
    · cases h
@[simp] theorem oEq_str (S : Store) (x y : Str) : oEq S (.str x) (.str y) = .ok (.bl (decide (x = y))) S := rfl
@[simp] theorem oNe_str (S : Store) (x y : Str) : oNe S (.str x) (.str y) = .ok (.bl (!decide (x = y))) S := rfl
@[simp] theorem oEq_int (S : Store) (x y : Int) : oEq S (.int x) (.int y) = .ok (.bl (decide (x = y))) S := by
  rw [oEq_fit (by simp [fit_int]) (by simp [fit_int])]; simp [eqD_int]
@[simp] theorem oNe_int (S : Store) (x y : Int) : oNe S (.int x) (.int y) = .ok (.bl (!decide (x = y))) S := by
  rw [oNe_fit (by simp [fit_int]) (by simp [fit_int])]; simp [eqD_int]
@[simp] theorem oEq_bl (S : Store) (x y : Bool) : oEq S (.bl x) (.bl y) = .ok (.bl (decide (x = y))) S := by
  rw [oEq_fit (by simp [fit_bl]) (by simp [fit_bl])]; simp [eqD_bl]
@[simp] theorem oNe_bl (S : Store) (x y : Bool) : oNe S (.bl x) (.bl y) = .ok (.bl (!decide (x = y))) S := by
  rw [oNe_fit (by simp [fit_bl]) (by simp [fit_bl])]; simp [eqD_bl]
@[simp] theorem oIs_bl (S : Store) (a b : Bool) : oIsN S (.bl a) (.bl b) = .ok (.bl (decide (a = b))) S := rfl
/-! ### what kind -/
@[simp] theorem isT_int (T : String) (S : Store) (i : Int) : oIsT T S (.int i) = match L2.kitB "int" T with
    | some b => .ok (.bl b) S
    | none => .err := rfl
@[simp] theorem isT_bl (T : String) (S : Store) (i : Bool) : oIsT T S (.bl i) = match L2.kitB "bool" T with
    | some b => .ok (.bl b) S
    | none => .err := rfl
@[simp] theorem isT_str (T : String) (S : Store) (i : Str) : oIsT T S (.str i) = match L2.kitB "str" T with
    | some b => .ok (.bl b) S
    | none => .err := rfl
@[simp] theorem isT_tup (T : String) (S : Store) (i : List D) : oIsT T S (.tup i) = match L2.kitB "tuple" T with
    | some b => .ok (.bl b) S
    | none => .err := rfl
@[simp] theorem isT_lst (T : String) (S : Store) (i : List D) : oIsT T S (.lst i) = match L2.kitB "list" T with
    | some b => .ok (.bl b) S
    | none => .err := rfl
@[simp] theorem kb1 : L2.kitB "int" "int" = some true := by decide +kernel
@[simp] theorem kb2 : L2.kitB "int" "bool" = some false := by decide +kernel
@[simp] theorem kb3 : L2.kitB "tuple" "tuple" = some true := by decide +kernel
@[simp] theorem kb4 : L2.kitB "str" "str" = some true := by decide +kernel
@[simp] theorem kb5 : L2.kitB "bool" "bool" = some true := by decide +kernel
@[simp] theorem kb6 : L2.kitB "list" "list" = some true := by decide +kernel
@[simp] theorem kb7 : L2.kitB "bool" "int" = some true := by decide +kernel
end Nl
/-! S15: len(set(e)) of whole numbers; try with several clauses, each of which gives the exception the same name -/
namespace Sm
open PySem PySem.Spec PyProof.Rows L2
/-! ### how many different numbers -/
end Sm
/-! S16: try with several clauses, each of which gives the exception the same name -/
namespace Sm
open PySem PySem.Spec PyProof.Rows L2
open Classical
abbrev Clause := Value × (Addr → Value → Option Addr → TS)
/-- what the clauses wish of an exception, one behind the other; slot i is the name's -/
def wNamed (K : PySem.W.Frag) (i : Nat) (out : WX) (De : Ends) : List Clause → WX
  | [] => out
  | q :: r => wAs K q.1 i q.2 (wNamed K i out De r) De
inductive ClOk (X : Cx) (n : Str) : List ExceptHandler → List Clause → Prop
  | nil : ClOk X n [] []
  | cons {x : Str} {c : Value} {f : Addr → Value → Option Addr → TS} {st : Stmt} {su : List Stmt} {p p' : Pos} {hs : List ExceptHandler} {l : List Clause} (nm : Names X x c)
      (ok : ∀ (a : Addr) (ob : Obj) (cl : Value) (dd : Option Addr) (pn : List (Addr × Obj)), L2N.Zn cl dd ob → (∃ vs, ob.data = .fields vs) → PSs (X.suite a ((a, ob) :: pn)) (st :: su) (f a cl dd)) (rest : ClOk X n hs l) :
      ClOk X n (.ExceptHandler (some (.Name x p)) (some n) (st :: su) p' :: hs) ((c, f) :: l)
theorem ps_try_named {X : Cx} {n : Str} {i : Nat} {body : List Stmt} {h0 : ExceptHandler} {hs : List ExceptHandler} {l : List Clause} {pos : Pos} {tb : WX → TS} {out : WX}
    (stk : X.stack = X.env :: X.outer) (frm : X.env.frame = some X.env.locals) (nd : X.N.Nodup) (ni : X.N[i]? = some n) (nl : X.env.kindOf n = some .local) (tk : L2N.Takes X out)
    (bd : ∀ (W : WX) (pn : List (Addr × Obj)) (xe : Value → Shared → Prop), L2N.Takes (X.tr pn xe) W → PassesOwn (model X.prog X.w) X.A X.env xe → PSs (X.tr pn xe) body (tb W))
    (cl : ClOk X n (h0 :: hs) l) : PS X (.Try body (h0 :: hs) [] [] pos) (fun De σ H => tb (wNamed X.K i out De l) De σ H) := by
  constructor
  intro pins s σ H De inv start
  have okX := inv.ok
  have frames : X.A.frames = some (X.env :: X.outer) := by rw [okX.frames, stk]
  have loc : Loc X.env.scope n := .inl nl
  apply wpAny_Try_except
  have bodyRun := (bd (wNamed X.K i out De l) (X.pn ++ pins)
    (fun e s1 => wpAny (model X.prog X.w) X.A (noteFrame e X.env) (fun _ s2 => wpAny (model X.prog X.w) X.A (setFlight e none)
      (fun _ s3 => wpAny (model X.prog X.w) X.A (handleBy e X.env (h0 :: hs)) (SP X pins De) X.xe s3) X.xe s2) X.xe s1)
    (fun u s' caught => by
      obtain ⟨a, B, sI, ps', σ1, H1, cv, dd, rfl, inv', keepB, upS, sky, fresh, hos, hag, wish⟩ := caught
      have inv1 : Inv X pins σ1 H1 sI := inv'.ofTry okX
      have sky1 : Sky B (X.env :: X.outer) a (L2N.Zn cv dd) X.env.locals s'.heap := stk ▸ sky
      refine L2N.Sky.land (Q := fun _ s3 => wpAny (model X.prog X.w) X.A (handleBy (.ref a) X.env (h0 :: hs)) (SP X pins De) X.xe s3) L2N.Zn.steady frames frm sky1 fun hL fly upL => ?_
      have invL : Inv X pins σ1 H1 { s' with heap := hL } := inv1.landed keepB fly.1 (upS.trans upL) hos hag
      obtain ⟨ob, fs, hob, zob, dob⟩ := fly.there
      have offFrames : a ∉ frs (X.env :: X.outer) := by
        intro m
        obtain ⟨_, ob', hob', nofs⟩ := fly.2.2.1.mem m
        rw [hob] at hob'
        cases hob'
        exact nofs _ dob
      have offLocals : a ≠ X.env.locals := fun z => offFrames (List.mem_filterMap.mpr ⟨X.env, List.mem_cons_self, by rw [frm, z]⟩)
      have offOuter : a ∉ X.fs := fun m => by
        obtain ⟨ev1, m1, m2⟩ := List.mem_filterMap.mp m
        exact offFrames (List.mem_filterMap.mpr ⟨ev1, List.mem_cons_of_mem _ m1, m2⟩)
      have invS := invL.suite hob dob fresh offLocals offOuter
      have walk : ∀ {hs1 : List ExceptHandler} {l1 : List Clause}, ClOk X n hs1 l1 → wNamed X.K i out De l1 cv dd σ1 H1 →
          wpAny (model X.prog X.w) X.A (handleBy (.ref a) X.env hs1) (SP X pins De) X.xe { s' with heap := hL } := by
        intro hs1 l1 ck
        induction ck with
        | nil =>
          intro wish
          apply wpAny_handleBy_nil
          obtain ⟨g1, g2, g3, ob2, fs2, TT, oT, tr, q1, q2, q3, q4, q5⟩ := id fly
          unfold PySem.passOn
          apply wpAny_bind
          apply wpAny_field q1 q3 q4
          rw [if_neg (by simp : ¬ ((Value.ref TT == Value.none) = true))]
          have last : wpAny (model X.prog X.w) X.A (setFlight (.ref a) X.env.frame) (fun _ s4 => wpAny (model X.prog X.w) X.A (throw (.ref a) : Sem Flow) (SP X pins De) X.xe s4) X.xe { s' with heap := hL } := by
            rw [frm]
            refine HandSPX.setFlight_upZ fly fun h4 held up4 => wpAny_throw (tk _ _ ?_)
            exact ⟨a, B, sI, pins, σ1, H1, cv, dd, rfl, inv1, keepB, (upS.trans upL).trans up4, .inr (.inr (stk ▸ held)), fresh, hos, hag, wish⟩
          first
            | exact wpAny_bind (wpAny_pure (wpAny_bind last))
            | exact wpAny_bind last
        | @cons x c f st su p p' hs2 l2 nm sok rest ih =>
          intro wish
          obtain ⟨b, hb, yes, no⟩ := wish
          apply wpAny_handleBy_cons (codeAny_handlers_test _) (by intro q; cases q)
          have looks : PySem.W.Looks (model X.prog X.w) hL (typeOf (.ref a)) cv := fun A2 Q2 E2 s2 k2 q2 => wpAny_typeOf_ref (k2 _ _ hob) (by rw [zob.1]; exact q2)
          have match_ := PySem.W.exm_one (M := model X.prog X.w) invL.kIn looks hb
          have named : ∀ {Q2 : Value → Shared → Prop} {E2 : Value → Shared → Prop}, Q2 c { s' with heap := hL } → wpAny (model X.prog X.w) (X.A.mark (some (.ref a))) (eval (.Name x p) X.env) Q2 E2 { s' with heap := hL } := by
            intro Q2 E2 q2
            obtain ⟨m1, m2, m3 | ⟨m3, m4, m5⟩⟩ := nm
            · exact ld_glob (X := X.suite a ((a, ob) :: (X.pn ++ pins))) invS m1 m3 q2 m2
            · exact ld_blt (X := X.suite a ((a, ob) :: (X.pn ++ pins))) invS m1 m3 m4 q2 m5 m2
          apply named
          apply match_.here
          cases b with
          | false => exact ih (no rfl)
          | true =>
            apply codeAny_handlers_suite_as
            apply HandSPX.lands_againZ fly
            intro h5 fly5 up5
            have inv5 : Inv X pins σ1 H1 { s' with heap := h5 } := inv1.landed keepB fly5.1 ((upS.trans upL).trans up5) hos hag
            obtain ⟨ob5, fs5, hob5, zob5, dob5⟩ := fly5.there
            have invS5 := inv5.suite hob5 dob5 fresh offLocals offOuter
            refine store_ok (X := X.suite a ((a, ob5) :: (X.pn ++ pins))) (v := .ref a) invS5 nd ni loc rfl (fun s6 invS6 => ?_) (.inr nl)
            have run5 := (sok a ob5 cv dd (X.pn ++ pins) zob5 ⟨_, dob5⟩).run [] s6 _ H1 _ invS6 (yes rfl a fresh)
            refine wpAny_mono run5 (fun fl s7 out7 => ?_) (fun _ _ z => False.elim z)
            have leave : ∀ {σ7 : L2.St} {H7 : Hp} {Q7 : Shared → Prop}, Inv (X.suite a ((a, ob5) :: (X.pn ++ pins))) [] σ7 H7 s7 → (∀ s8, Inv X pins (σ7.set i none) H7 s8 → Q7 s8) →
                wpAny (model X.prog X.w) X.A (do bindName X.env n .none; unbindBehindTheSuite X.env n p') (fun _ s8 => Q7 s8) X.xe s7 := by
              intro σ7 H7 Q7 v1 v2
              exact gone_ok (v1.unsuite okX) nd ni nl v2
            cases fl with
            | next => obtain ⟨σ7, H7, v1, v2⟩ := out7; exact leave v1 fun s8 v3 => ⟨_, _, v3, v2⟩
            | brk => obtain ⟨σ7, H7, v1, v2⟩ := out7; exact leave v1 fun s8 v3 => ⟨_, _, v3, v2⟩
            | cont => obtain ⟨σ7, H7, v1, v2⟩ := out7; exact leave v1 fun s8 v3 => ⟨_, _, v3, v2⟩
            | ret u => obtain ⟨v7, σ7, H7, v1, v4, v2⟩ := out7; exact leave v1 fun s8 v3 => ⟨_, _, _, v3, v4, v2⟩
      exact walk cl wish) PassesOwn.looking).run [] s σ H De (inv.toTry _) start
  refine wpAny_mono bodyRun (fun fl s1 out1 => ?_) (fun e s1 z => z)
  cases fl with
  | next => obtain ⟨σ1, H1, v1, v2⟩ := out1; exact wpAny_execs_nil ⟨σ1, H1, v1.ofTry okX, v2⟩
  | brk => obtain ⟨σ1, H1, v1, v2⟩ := out1; exact ⟨σ1, H1, v1.ofTry okX, v2⟩
  | cont => obtain ⟨σ1, H1, v1, v2⟩ := out1; exact ⟨σ1, H1, v1.ofTry okX, v2⟩
  | ret u => obtain ⟨v, σ1, H1, v1, v3, v2⟩ := out1; exact ⟨v, σ1, H1, v1.ofTry okX, v3, v2⟩
end Sm
/-! S17: try with several clauses, the rule for the mirrors -/
namespace Sm
open PySem PySem.Spec PyProof.Rows L2
open Classical
/-- the first clause whose class it is -/
def pickX (i c : Nat) (ρ : Env) (S : Store) : List (Nat × MS) → R Fl
  | [] => .ex c S
  | q :: r => if c = q.1 then (if i < ρ.length then gone i (q.2 (ρ.set i none) S) else .err) else pickX i c ρ S r
def sTrys (ret : Bool) (e : ME) (cls : List Nat) (i : Nat) (cs : List (Nat × MS)) : MS := fun ρ S => match e ρ S with
  | .ok d S1 => if ret then .ok (.rt d) S1 else .ok (.nx ρ) S1
  | .ex c S1 => if c ∈ cls then pickX i c ρ S1 cs else .err
  | .err => .err
def clsOf (K : PySem.W.Frag) (ca : Nat → Addr) (i : Nat) (q : Nat × MS) : Clause := (.ref (ca q.1), fun a cl d De σ H => cl = .ref (ca q.1) ∧ d = none ∧ tSE K ca i a q.2 De σ H)
section
variable {X : Cx} {ca : Nat → Addr} {W : XW} {n : Str} {i : Nat} {cls : List Nat} {p1 pos : Pos} {e : Expr} {m : ME} {cs : List (Nat × MS)} {h0 : ExceptHandler} {hs : List ExceptHandler}
theorem pick_core {D : Ends} {c : Nat} (hc : c ∈ cls) {ρ : Env} {σ : L2.St} {M : Cells} {H H' : Hp} {M' : Cells} {S1 : Store} (re : REnv X.K ca H M ρ σ) (ee : Ext H M H' M') (rs' : RelS X.K ca H' M' S1) :
    ∀ {cs : List (Nat × MS)}, (∀ c ∈ cls, ∀ q ∈ cs, PySem.W.exmOne X.K (.ref (ca c)) (.ref (ca q.1)) = some (decide (c = q.1))) → PostS X.K ca H M D W (pickX i c ρ S1 cs) → wNamed X.K i (wx W) D (cs.map (clsOf X.K ca i)) (.ref (ca c)) none σ H'
  | [], _, p => p M' H' ee rs'
  | q :: cs, hx, p => by
    refine ⟨decide (c = q.1), hx c hc q List.mem_cons_self, fun hb a ha => ?_, fun hb => ?_⟩
    · have hb : c = q.1 := of_decide_eq_true hb
      unfold pickX at p
      rw [if_pos hb] at p
      split at p
      · next hi =>
        have hl : i < σ.length := by rw [← re.length]; exact hi
        refine ⟨by rw [hb], rfl, by rw [List.getElem?_set_self hl], ρ.set i none, M', S1, REnv.setAny i _ (re.ext ee), rs', ?_⟩
        have p2 := p.up ee
        cases q2 : q.2 (ρ.set i none) S1 with
        | err => rw [q2] at p2; exact p2.elim
        | ex c S' => rw [q2] at p2; exact p2.elim
        | ok f S2 =>
          rw [q2] at p2
          cases f with
          | nx r => exact fun σ' M2 H2 e2 rs2 re2 => p2 _ M2 H2 e2 rs2 (REnv.setAny i none re2)
          | rt d => exact p2
          | bk r => exact p2.elim
          | ct r => exact p2.elim
      · exact p.elim
    · have hb : ¬ c = q.1 := of_decide_eq_false hb
      unfold pickX at p
      rw [if_neg hb] at p
      exact pick_core hc re ee rs' (fun c hc r hr => hx c hc r (List.mem_cons_of_mem _ hr)) p
theorem trys_core {ret : Bool} {σ : L2.St} {H : Hp} {D : Ends} (hx : ∀ c ∈ cls, ∀ q ∈ cs, PySem.W.exmOne X.K (.ref (ca c)) (.ref (ca q.1)) = some (decide (c = q.1))) :
    tSOf X.K ca W (sTrys ret m cls i cs) D σ H → tOf X.K ca (wNamed X.K i (wx W) D (cs.map (clsOf X.K ca i))) m σ H (fun v H' => if ret then D.rt v H' else D.nx σ H') := by
  rintro ⟨ρ, M, S, re, rs, p⟩
  refine ⟨ρ, M, S, re, rs, ?_⟩
  unfold sTrys at p
  cases q : m ρ S with
  | err => rw [q] at p; exact p
  | ok d S1 =>
    rw [q] at p
    intro v M' H' e rs' rv
    cases ret with
    | true => exact p v M' H' e rs' rv
    | false => exact p σ M' H' e rs' (re.ext e)
  | ex c S1 =>
    rw [q] at p
    intro M' H' e rs'
    have p : PostS X.K ca H M D W (if c ∈ cls then pickX i c ρ S1 cs else .err) := p
    split at p
    · next hc => exact pick_core hc re e rs' hx p
    · exact p.elim
theorem qs_trysR (hs' : X.stack = X.env :: X.outer) (hf : X.env.frame = some X.env.locals) (hN : X.N.Nodup) (hi : X.N[i]? = some n) (hln : X.env.kindOf n = some .local) (tk : L2N.Takes X (wx W))
    (hx : ∀ c ∈ cls, ∀ q ∈ cs, PySem.W.exmOne X.K (.ref (ca c)) (.ref (ca q.1)) = some (decide (c = q.1)))
    (hb : ∀ (W' : WX) (pn : List (Addr × Obj)) (xe : Value → Shared → Prop), L2N.Takes (X.tr pn xe) W' → PE (X.tr pn xe) e (tOf X.K ca W' m))
    (hsu : ClOk X n (h0 :: hs) (cs.map (clsOf X.K ca i))) :
    PS X (.Try [.Return (some e) p1] (h0 :: hs) [] [] pos) (tSOf X.K ca W (sTrys true m cls i cs)) :=
  weakS (ps_try_named (i := i) (tb := fun W' D σ H => tOf X.K ca W' m σ H D.rt) hs' hf hN hi hln tk (fun W' pn xe tk' _ => pss_one (ps_ret (hb W' pn xe tk'))) hsu) fun D σ H q => by
    exact trys_core (ret := true) hx q
/-- one clause -/
theorem cl_cons {x : Str} {h : Nat} {ms : MS} {b₀ : Stmt} {suite : List Stmt} {p p' : Pos} {hs : List ExceptHandler} {cs : List (Nat × MS)} (nm : Names X x (.ref (ca h)))
    (hsu : ∀ (a : Addr) (oe : Obj) (pn : List (Addr × Obj)), L2N.Zn (.ref (ca h)) none oe → (∃ vs, oe.data = .fields vs) → PSs (X.suite a ((a, oe) :: pn)) (b₀ :: suite) (tSE X.K ca i a ms))
    (rest : ClOk X n hs (cs.map (clsOf X.K ca i))) : ClOk X n (.ExceptHandler (some (.Name x p)) (some n) (b₀ :: suite) p' :: hs) (((h, ms) :: cs).map (clsOf X.K ca i)) :=
  ClOk.cons nm (fun a ob cl d pn hz hf => suite_in hz hf (hsu a)) rest
theorem cl_nil : ClOk X n [] ((([] : List (Nat × MS))).map (clsOf X.K ca i)) := ClOk.nil
end
end Sm
/-! S18: list.extend by a tuple -/
namespace Sm
open PySem PySem.Spec PyProof.Rows L2
open Classical
set_option maxRecDepth 8000 in
theorem list_extend_tup (l : Addr) (items : Array Value) (n : Nat) (b : Addr) (items2 : Array Value) (n2 : Nat) (dd : Option Addr) (sl : Array (Option Value)) (hs0 : ¬(!items.isEmpty && Builtin.List.listTooLong (items.size + items2.size)) = true) (hs1 : items.size ≤ sizeLine) (hs2 : items.size + items2.size ≤ sizeLine + 1) :
    Meets (Builtin.«list.extend» ⟨[.ref l, .ref b], []⟩) (fun _ R s => s.heap.get? l = some { cls := .type "list", dict := none, data := .seq items n, slots := #[] } ∧ s.heap.get? b = some { cls := .type "tuple", dict := dd, data := .seq items2 n2, slots := sl } ∧ R (.ok (.ret Value.none)) { s with heap := s.heap.update l (Obj.mapSeq fun x => x ++ items2), toks := s.toks }) :=
  .of_wp fun prog w A R s h => by
    obtain ⟨hp, g, d, tk, os⟩ := s; obtain ⟨hl, hb, h⟩ := h
    have hz' : (items ++ items2).size ≤ sizeLine + 1 := by rw [Array.size_append]; exact hs2
    wp_walk using (wpAny_updateSeq hl rfl (hz := hs1) (_hz' := hz')), wpAny_loadPart' hl, wpAny_loadPart' hb; exact ⟨_, rfl, h⟩
def rExtendT : V → List V → Hp → VK → Prop := fun x vs H Q => ∃ l b xs zs, x = .ref l ∧ vs = [.ref b] ∧ H l = some (.lst xs) ∧ H b = some (.tup zs) ∧ xs.length + zs.length ≤ sizeLine ∧ Q .non (upd H l (.lst (xs ++ zs)))
section
variable {X : Cx} {ca : Nat → Addr}
theorem mt_extendT : MtR X "list.extend" rExtendT := by
  intro pins s σ H x vs v us Q I rx rv h
  obtain ⟨l, b, xs, zs, rfl, rfl, hH, hB, hz, q⟩ := h
  cases rx
  obtain ⟨u, rfl, ru⟩ := rv.one
  cases ru
  obtain ⟨z, its, n, r, hl, e⟩ := I.lstM hH
  obtain ⟨z2, its2, r2, ⟨cls, dd, data, sl⟩, e2, hc, n2, hd⟩ := I.hok b _ hB
  simp only at hc hd
  subst hc hd
  have hl2 := r2.length
  have hsz : its.toArray.size + its2.toArray.size ≤ sizeLine := by rw [List.size_toArray, List.size_toArray]; omega
  have hlong : ¬ (!its.toArray.isEmpty && Builtin.List.listTooLong (its.toArray.size + its2.toArray.size)) = true := by
    rw [notLongL hsz, Bool.and_false]
    exact Bool.false_ne_true
  refine call_meets F.slot_list_extend ⟨_, e, rfl⟩ F.entry_list_extend (F.args_list_extend_2 _ _)
    (list_extend_tup l its.toArray n b its2.toArray n2 dd sl hlong (by rw [List.size_toArray]; omega) (by omega)) ⟨e, e2, ?_⟩
  refine ⟨.non, _, I.lset (its' := its ++ its2) hH e (by simp) (r.append r2) ?_, rfl, q⟩
  rw [List.length_append]
  omega
def oExtendT (S : Store) (d : D) (es : List D) : R D := match cellL S d, es with
  | some (n, ds), [.tup us] => if ds.length + us.length ≤ sizeLine then .ok .non (S.set n (.lst (ds ++ us))) else .err
  | _, _ => .err
theorem s_extendT {K : PySem.W.Frag} : SoundM K ca rExtendT oExtendT := by
  intro H M S x xs d ds Q W rs rx rl p
  unfold oExtendT at p
  split at p
  · next n ds' us h =>
    split at p
    · next hz =>
      obtain ⟨v, rfl, rv⟩ := rl.inv1
      obtain ⟨a, xs', rfl, h1, z, q, l, wr⟩ := cell_write rs rx h
      obtain ⟨b, ys, rfl, h2, nl, q2⟩ := rv
      have hl := q.length; have hl2 := q2.length
      exact ⟨a, b, xs', ys, rfl, rfl, h1, h2, by omega, post_w p l (wr _ _ (q.app q2) (by rw [List.length_append]; omega)) rfl⟩
    · exact p.elim
  · exact p.elim
end
end Sm
/-! S19: a list compared with the empty list -/
namespace Sm
open PySem PySem.Spec PyProof.Rows L2
open Classical
end Sm
/-! S20: a clause's suite of its own steps, by the class that was caught -/
namespace Sm
open PySem PySem.Spec PyProof.Rows L2
open Classical
/-! ### while slot i holds the exception -/
abbrev gP (i : Nat) (a : Addr) : L2.St → Prop := fun σ => σ[i]? = some (some (.ref a))
def tG (g : L2.St → Prop) (t : TE) : TE := fun σ H Q => g σ ∧ t σ H Q
def tGA (g : L2.St → Prop) (t : TA) : TA := fun σ H Q => g σ ∧ t σ H Q
section
variable {X : Cx} {ca : Nat → Addr} {W : WX} {g : L2.St → Prop}
theorem g_e {e : Expr} {m : ME} (h : PE X e (tOf X.K ca W m)) : PE X e (tG g (tOf X.K ca W m)) := weakE h fun σ H Q q => q.2
theorem g_is {e : Expr} {i : Nat} {a : Addr} {b : Bool} (h : PE X e (tEe i a b)) : PE X e (tG (gP i a) (tOf X.K ca W (mC (.bl b)))) := weakE h fun σ H Q => by
  rintro ⟨gg, ρ, M, S, re, rs, p⟩
  exact ⟨gg, p (.bl b) M H (Ext.refl _ _) rs rfl⟩
theorem ga_nil : PA X [] (tGA g (tOfA X.K ca W mNil)) := weakA qa_nil fun σ H Q q => q.2
theorem ga_cons {e : Expr} {es : List Expr} {ma : ME} {ms : Env → Store → R (List D)} (ha : PE X e (tG g (tOf X.K ca W ma))) (hr : PA X es (tGA g (tOfA X.K ca W ms))) (hs : starEach (e :: es) X.env = (false, eval e X.env) :: starEach es X.env := by rfl) :
    PA X (e :: es) (tGA g (tOfA X.K ca W (mCons ma ms))) := weakA (pa_cons ha hr hs) fun σ H Q => by
  rintro ⟨gg, ρ, M, S, re, rs, p⟩
  refine ⟨gg, ρ, M, S, re, rs, (post_bind p).mono ?_⟩
  rintro x H1 ⟨M1, S1, d, e1, rs1, r1, p1⟩
  refine ⟨gg, ρ, M1, S1, re.ext e1, rs1, (post_bind p1).mono ?_⟩
  rintro y H2 ⟨M2, S2, e, e2, rs2, r2, p2⟩
  exact p2 _ M2 H2 (Ext.refl _ _) rs2 ⟨Rep.ext e2 _ _ r1, r2⟩
theorem g_lst {es : List Expr} {pos : Pos} {c : Bool} {ms : Env → Store → R (List D)} (ha : PA X es (tGA g (tOfA X.K ca W ms))) : PE X (.List es pos) (tG g (tOf X.K ca W (mN (oLst c) ms))) := weakE (pe_lst ha) fun σ H Q => by
  rintro ⟨gg, ρ, M, S, re, rs, p⟩
  refine ⟨gg, ρ, M, S, re, rs, (post_bind p).mono ?_⟩
  rintro xs H1 ⟨M1, S1, ds, e1, rs1, r1, p1⟩
  unfold oLst at p1
  split at p1
  · next h =>
    have hl := r1.length
    exact ⟨by rw [← hl]; exact le64 h, fun q hq => finL_new p1 rs1 hq (by rw [← hl]; exact le64 h) r1⟩
  · exact p1.elim
/-- a suite that keeps slot i -/
def tSG (K : PySem.W.Frag) (ca : Nat → Addr) (g : L2.St → Prop) (m : MS) : TS := fun De σ H => g σ ∧ tSOf K ca (fun _ _ _ => False) m { De with nx := fun σ' H' => g σ' → De.nx σ' H' } σ H
theorem g_set {j : Nat} {x : Str} {e : Expr} {m : ME} {pos pos' : Pos} (gj : ∀ σ v, g σ → g (σ.set j (some v))) (he : PE X e (tG g (tOf X.K ca (wx fun _ _ _ => False) m))) (hN : X.N.Nodup) (hi : X.N[j]? = some x) (hx : Loc X.env.scope x)
    (hs : swapsWith e (some (.Name x pos')) pos.line X.env = pure false := by rfl)
    (hf : X.fn x = true ∨ X.env.scope.names.lookup x = some .local := by first | exact .inl rfl | exact .inr rfl | assumption) : PS X (.Assign [.Name x pos'] e pos) (tSG X.K ca g (sAsg j m)) :=
  weakS (ps_set hN hi hx he hs hf) fun D σ H => by
    rintro ⟨gg, ρ, M, S, re, rs, p⟩
    refine ⟨gg, ρ, M, S, re, rs, (post_bindS p).mono ?_⟩
    rintro x H1 ⟨M1, S1, d, e1, rs1, r1, p1⟩
    exact p1 _ M1 H1 (Ext.refl _ _) rs1 ((re.ext e1).set j r1) (gj _ _ gg)
theorem g_one {st : Stmt} {m : MS} (h : PS X st (tSG X.K ca g m)) : PSs X [st] (tSG X.K ca g m) := pss_one h
theorem g_seq {st : Stmt} {rest : List Stmt} {a b : MS} (h1 : PS X st (tSG X.K ca g a)) (h2 : PSs X rest (tSG X.K ca g b)) : PSs X (st :: rest) (tSG X.K ca g (sSeq a b)) := weakSs (pss_cons h1 h2) fun D σ H => by
  rintro ⟨gg, ρ, M, S, re, rs, p⟩
  refine ⟨gg, ρ, M, S, re, rs, ?_⟩
  unfold sSeq at p
  cases q : a ρ S with
  | ok f S' =>
    rw [q] at p
    cases f with
    | nx r => exact fun σ' M' H' e rs' re' g' => ⟨g', r, M', S', re', rs', p.up e⟩
    | rt d => exact p
    | bk r => exact p
    | ct r => exact p
  | ex c S' => rw [q] at p; exact p
  | err => rw [q] at p; exact p
theorem gP_set {i j : Nat} {a : Addr} (h : j ≠ i) : ∀ (σ : L2.St) (v : V), gP i a σ → gP i a (σ.set j (some v)) := fun σ v hg => by
  show (σ.set j (some v))[i]? = _
  rw [List.getElem?_set_ne h]; exact hg
end
/-! ### try: e except C as n: a suite by the class -/
end Sm
/-! S21: sorted of a list of pairs of texts -/
namespace SrtO
open PySem PyProof.Rows Srt
section
variable {prog : Program} {w : World} {A : Around} {E : Value → Shared → Prop} {s : Shared}
def IsTxPair (h : Heap) (v : Value) (x y : PySem.Str) : Prop := ∃ a o t u n, v = .ref a ∧ h.get? a = some o ∧ o.cls = .type "tuple" ∧ o.data = .seq #[.str x t, .str y u] n
theorem IsTxPair.keeps {h h' : Heap} {v : Value} {x y : PySem.Str} (p : IsTxPair h v x y) (k : ∀ b o, h.get? b = some o → o.cls = .type "tuple" → h'.get? b = some o) : IsTxPair h' v x y := by
  obtain ⟨a, o, t, u, n, e, ho, hc, hd⟩ := p
  exact ⟨a, o, t, u, n, e, k _ _ ho hc, hc, hd⟩
end
end SrtO
namespace L2
open PySem PySem.Spec PyProof.Rows
end L2
/-! S22: sorted of pairs of texts, the rule for the mirrors -/
namespace Sm
open PySem PySem.Spec PyProof.Rows L2
open Classical
/-- a part of a tuple, not the whole -/
def oSlT (S : Store) (d : D) (lo hi : Option Int) : R D := match d with
  | .tup ds => if HT.sIx ds.length 0 lo = 0 ∧ HT.sIx ds.length ds.length hi = ds.length then .err else .ok (.tup (cutD ds lo hi)) S
  | _ => .err
def mSlT (a : ME) (lo hi : Env → Store → R (Option Int)) : ME := fun ρ S => (a ρ S).bind fun d S1 => (lo ρ S1).bind fun l S2 => (hi ρ S2).bind fun h S3 => oSlT S3 d l h
end Sm
set_option maxHeartbeats 2000000
/-! S23: a def that is handed the caught exception -/
namespace Sm
open PySem PySem.Spec PyProof.Rows L2 L2H
open Classical
/-! ### what such a def promises -/
structure FnE (P : Program) (w : World) (K : PySem.W.Frag) (mg : Str → Option Value) (base : Heap) (CX : CXT) (k : Nat) (f : Addr) (fd : FuncData) (ps : List Str) (R : Addr × Obj → List V → Hp → VK → XK → Prop) : Prop where
  len : ∀ p vs H Q E, R p vs H Q E → vs.length = ps.length
  run : ∀ (A : Around) (outer : List PySem.Env) (s : Shared) (H : Hp) (args : Args) (us : List Value) (vs : List V) (Q : VK) (E : XK) (p : Addr × Obj), RoomH k A → Hot1 A p → PinOk outer H s p → Env0 P w K mg base A outer s H → BindsTo s fd args (ps.zip us) → Vals vs us → R p vs H Q E →
    codeAny (model P w) A (.call (.ref f) args) (CR CX outer P w H s Q E) s
theorem fn_ofE {CX : CXT} {P : Program} {w : World} {K : PySem.W.Frag} {mg : Str → Option Value} {base : Heap} {k : Nat} {f : Addr} {name qual : Str} {params : Arguments} {body : List Stmt} {scope : Scope} {dV kV doc pm cdv ct oc : Value} {an od : Option Addr}
    {osl : Array (Option Value)} {N ps : List Str} {R : Addr × Obj → List V → Hp → VK → XK → Prop} (lk : K.lookup f = some ⟨oc, od, .func (PySem.W.fnOf name qual params body scope dV kV doc pm an cdv ct), osl⟩) (hcd : PySem.W.codeIn K cdv qual = true) (S : FnScope N ps scope)
    (len : ∀ p vs H Q E, R p vs H Q E → vs.length = ps.length)
    (hbody : ∀ (A : Around) (outer : List PySem.Env) (s : Shared) (H : Hp) (vs : List V) (Q : VK) (E : XK) (p : Addr × Obj), Hot1 A p → RoomH k (A.deeper (envOfC qual scope s.heap.objs.size f cdv)) → R p vs H Q E →
      ∃ t, PSs (cxH CX P w K mg base N qual scope f cdv A outer s H E p) body t ∧ t { nx := fun _ H' => Q .non H', rt := Q } (L2.start N vs) H) :
    FnE P w K mg base CX (k + 1) f (PySem.W.fnOf name qual params body scope dV kV doc pm an cdv ct) ps R := by
  refine ⟨len, fun A outer s H args us vs Q E p hr hot hpin e0 hb r hsp => ?_⟩
  have hl := len _ _ _ _ _ hsp
  have KX : K.In s.heap := e0.mod.kin.keeps fun b o e => (e0.bs b o e).1
  have lim : s.heap.NoLimit := e0.mod.nolimit.keeps fun b o e => (e0.bs b o e).1
  have hkind : ∀ y ∈ ps.zip us, scope.names.lookup y.1 = some .local ∨ (scope.names.lookup y.1 = some .cell ∧ ((cellsFrom (s.heap.objs.size + 1) scope.names []).lookup y.1).isSome = true) := fun ⟨n, v⟩ hy => by
    rcases S.par n (List.of_mem_zip hy).1 with q | q
    · exact .inl q
    · exact .inr ⟨q, PySem.W.cellsFrom_some _ _ _ (.inl q)⟩
  refine codeAny_call_function hr.depth (KX _ _ lk) rfl S.co S.gen rfl (PySem.W.codeRec_of KX hcd) (hb _ _ _ _ ?_)
  refine wpAny_newFunctionEnv_cells S.kind hkind fun env he s1 x => ?_
  subst he
  refine ⟨lim.keeps x.toInCall.keep, codeAny_func ?_⟩
  obtain ⟨t, ht, hq⟩ := hbody A outer s H vs Q E p hot (hr.deeper _) hsp
  have I : Inv (cxH CX P w K mg base N qual scope f cdv A outer s H E p) [] (L2.start N vs) H s1 := inv_startH S hpin e0 hl r x
  refine wpAny_mono (ht.run [] s1 (L2.start N vs) H _ I hq) (fun fl s' hs => ?_) fun e s' hs => hs
  have fin : ∀ {σ' : L2.St} {H' : Hp} {v : V} {u : Value}, Inv (cxH CX P w K mg base N qual scope f cdv A outer s H E p) [] σ' H' s' → RelV v u → Q v H' → CE outer P w H s Q u s' :=
    fun {σ' H' v u} J rv q => ⟨v, H', J.os, J.bare, J.base, J.hok, rv, q⟩
  cases fl with
  | ret u =>
    obtain ⟨v, σ', H', J, rv, q⟩ := hs
    exact fin J rv q
  | next =>
    obtain ⟨σ', H', J, q⟩ := hs
    exact fin (v := V.non) (u := Value.none) J rfl q
  | brk =>
    obtain ⟨_, _, _, q⟩ := hs
    exact False.elim q
  | cont =>
    obtain ⟨_, _, _, q⟩ := hs
    exact False.elim q
/-! ### questions about a pinned exception -/
theorem call_isP {X : Cx} {a D : Addr} {oe : Obj} (C : ExcC X.K D) (hz : L2N.Zn (.ref D) none oe) (hf : ∃ vs, oe.data = .fields vs) (hp : (a, oe) ∈ X.pn) : CallR X (.builtin "isinstance") (rIsE X.K D a) := by
  intro pins s σ H xs us Q I r h
  obtain ⟨c, cv, b, rfl, hcv, e, q⟩ := h
  cases r with
  | cons rx rr =>
    cases rr with
    | cons rt rr =>
      cases rr
      cases rx
      have ec := hcv _ rt
      subst ec
      obtain ⟨hget, _⟩ := I.pin (a, oe) (List.mem_append.mpr (.inl hp))
      obtain ⟨vs, hv⟩ := hf
      have J : PySem.W.InstAt s.heap a oe D none := by
        obtain ⟨oc, od, oda, osl⟩ := oe
        obtain ⟨h1, h2, _⟩ := hz
        dsimp only at h1 h2 hv
        subst h1 h2 hv
        exact ⟨hget, rfl, rfl, trivial⟩
      exact PySem.W.kia_one (PySem.W.handS_kitx_exc C.hg C.hk C.hs C.hd C.ha C.hn C.ht C.hm) I.kIn J e (fun z => nomatch z) fun tk => ⟨.bl b, H, I.kept (t' := tk) fun _ _ z => z, rfl, q⟩
theorem qp_is {X : Cx} {a D : Addr} {oe : Obj} {i : Nat} {p p1 p2 pos : Pos} {n y : Str} {cv : V} {u : Value} {b : Bool} (C : ExcC X.K D) (hz : L2N.Zn (.ref D) none oe) (hf : ∃ vs, oe.data = .fields vs) (hp : (a, oe) ∈ X.pn) (hg : Gl X "isinstance") (hm : X.mg "isinstance" = none)
    (hn : PE X (.Name n p1) (tVar i)) (hy : PE X (.Name y p2) (tC cv)) (hu : ∀ w, RelV cv w → w = u) (hk : PySem.W.kitOne X.K (.ref D) u = some b)
    (he1 : starEach [.Name n p1, .Name y p2] X.env = (false, eval (.Name n p1) X.env) :: starEach [.Name y p2] X.env := by rfl) (he2 : starEach [.Name y p2] X.env = (false, eval (.Name y p2) X.env) :: starEach [] X.env := by rfl)
    (hpl : (backTo pos (starEach [.Name y p2] X.env)).any (·.1) = false := by rfl) :
    PE X (.Call (.Name "isinstance" p) [.Name n p1, .Name y p2] [] pos) (tEe i a b) :=
  weakE (pe_callB (call_isP C hz hf hp) hg hm (by decide +kernel) (pa_cons hn (pa_cons hy pa_nil he2) he1) (by decide) (by decide) he1 hpl) fun σ H Q => by
    rintro ⟨h1, h2⟩
    exact ⟨.ref a, h1, cv, u, b, rfl, hu, hk, h2⟩
/-! ### a def of the exception and a text, static by the class -/
def RE (K : PySem.W.Frag) (ca : Nat → Addr) (Dc : Addr) (res : Str → Option Str) : Addr × Obj → List V → Hp → VK → XK → Prop := fun p vs H Q _ =>
  L2N.Zn (.ref Dc) none p.2 ∧ (∃ fs, p.2.data = .fields fs) ∧ ∃ kind out, res kind = some out ∧ vs = [.ref p.1, .str kind] ∧ ∃ M S, RelS K ca H M S ∧ Post K ca (rD K ca) H M Q (fun _ _ _ => False) (R.ok (D.str out) S)
theorem fn_simE {P : Program} {w : World} {K : PySem.W.Frag} {mg : Str → Option Value} {base : Heap} {ca : Nat → Addr} {x qual : Str} {st : Stmt} {dvs : List V} {kws : List (Str × V)} {f : Addr} {fd : FuncData} {N ps : List Str} {n : Nat} {cut : Bool} {code : MS} {Dc : Addr} {res : Str → Option Str}
    (F : FunD K x qual (defArgs st) (defBody st) (defScope st) dvs kws f fd) (Sc : FnScope N ps (defScope st)) (h1 : ps.length = 2)
    (hb : ∀ (cdv : Value) (A : Around) (outer : List PySem.Env) (s : Shared) (H : Hp) (E : XK) (p : Addr × Obj), L2N.Zn (.ref Dc) none p.2 → (∃ fs, p.2.data = .fields fs) → Hot1 A p → RoomH n (A.deeper (envOfC qual (defScope st) s.heap.objs.size f cdv)) →
      PSs (cxH (L2N.CX P w) P w K mg base N qual (defScope st) f cdv A outer s H E p) (defBody st) (tSG K ca (gP 0 p.1) code))
    (hG : ∀ (kind out : Str) (S : Store), res kind = some out → fin cut S (code (none :: some (D.str kind) :: List.replicate (N.length - 2) none) S) = .ok (.str out) S) :
    FnE P w K mg base (L2N.CX P w) (n + 1) f fd ps (RE K ca Dc res) := by
  obtain ⟨oc, od, dV, kV, doc, pm, an, cdv, ct, osl, rfl, lk, hcd, _, _⟩ := F.ex
  refine fn_ofE lk hcd Sc (fun p vs H Q E h => ?_) fun A outer s H vs Q E p hot hr h => ?_
  · obtain ⟨_, _, kind, out, _, rfl, _⟩ := h
    rw [h1]; rfl
  · obtain ⟨hz, hf, kind, out, ho, rfl, M, S, rs, p0⟩ := h
    refine ⟨_, hb cdv A outer s H E p hz hf hot hr, ?_⟩
    have hN : N.length = N.length - 2 + 2 := by
      have := congrArg List.length Sc.pre
      rw [List.length_take] at this
      omega
    have p1 : Post K ca (rD K ca) H M Q (fun _ _ _ => False) (fin cut S (code (none :: some (D.str kind) :: List.replicate (N.length - 2) none) S)) := by rw [hG _ _ _ ho]; exact p0
    have p2 := fin_ok rs p1
    have es : L2.start N [V.ref p.1, V.str kind] = some (V.ref p.1) :: some (V.str kind) :: List.replicate (N.length - 2) none := rfl
    rw [es]
    refine ⟨rfl, none :: some (D.str kind) :: List.replicate (N.length - 2) none, M, S, ?_, rs, ?_⟩
    · have e0 := env_start (K := K) (ca := ca) (H := H) (M := M) (ds := []) (vs := []) (N.length - 2) trivial
      exact ⟨rfl, e0⟩
    · cases q : code (none :: some (D.str kind) :: List.replicate (N.length - 2) none) S with
      | err => rw [q] at p2; exact p2
      | ex c S' => rw [q] at p2; exact p2
      | ok fl S' =>
        rw [q] at p2
        cases fl with
        | nx r => exact fun σ' M' H' e rs' re' _ => p2 σ' M' H' e rs' re'
        | rt d => exact p2
        | bk r => exact p2
        | ct r => exact p2
section
variable {X : Cx} {CX : CXT} {k : Nat} {f : Addr} {fd : FuncData} {ps : List Str} {R : Addr × Obj → List V → Hp → VK → XK → Prop} {E : L2.St → XK} {x : Str} {q pos : Pos} {e : Expr} {es : List Expr} {t : TA}
theorem run_fnE {pins : List (Addr × Obj)} {σ : L2.St} {H : Hp} {s : Shared} {Q : VK} {us : List Value} {vs : List V} {p : Addr × Obj} (F : FnE X.prog X.w X.K X.mg X.base CX k f fd ps R) (hr : RoomH k X.A) (hot : Hot1 X.A p) (hp : p ∈ X.pn) (hb : Binds X.K fd ps []) (hx : PassesAt CX X σ (E σ))
    (I : Inv X pins σ H s) (r : Vals vs us) (h : R p vs H Q (E σ)) : wpAny (model X.prog X.w) X.A (call (.ref f) us) (EP X pins σ Q) X.xe s := by
  have hl : us.length = ps.length := by rw [← r.length]; exact F.len _ _ _ _ _ h
  have b := hb s us I.kIn (by rw [List.append_nil]; exact hl)
  rw [List.append_nil] at b
  have P1 := I.pin p (List.mem_append_left _ hp)
  have hpin : PinOk X.stack H s p := ⟨P1.1, P1.2.1, fun hm => (List.mem_cons.mp (I.stkSub p.1 hm)).elim P1.2.2.1 P1.2.2.2.1, P1.2.2.2.2⟩
  refine wpAny_call (codeAny_mono (F.run X.A X.stack s H ⟨us, []⟩ us vs Q (E σ) p hr hot hpin I.env0 b r h) fun r s' hq => ?_)
  cases r with
  | error e => exact hx pins H s e s' I hq
  | ok fl =>
    cases fl with
    | ret u => exact I.after hq
    | next => exact False.elim hq
    | brk => exact False.elim hq
    | cont => exact False.elim hq
theorem pe_callE {p : Addr × Obj} (F : FnE X.prog X.w X.K X.mg X.base CX k f fd ps R) (hr : RoomH k X.A) (hot : Hot1 X.A p) (hp : p ∈ X.pn) (hg : Gl X x) (hm : X.mg x = some (.ref f)) (hk : PySem.W.keepIn X.K (.ref f) = true) (hb : Binds X.K fd ps []) (hx : ∀ σ, PassesAt CX X σ (E σ))
    (ha : PA X (e :: es) t) (hdb : (x == ("__debug__" : Str)) = false := by decide) (he : starEach (e :: es) X.env = (false, eval e X.env) :: starEach es X.env := by rfl) (hpl : (backTo pos (starEach es X.env)).any (·.1) = false := by rfl) :
    PE X (.Call (.Name x q) (e :: es) [] pos) (fun σ H Q => t σ H fun vs H1 => R p vs H1 Q (E σ)) := by
  refine ⟨fun pins s σ H Q I h => ?_⟩
  refine wpAny_Call_Name_kw (ld_glob I hg hm ?_ hdb)
  refine PySem.W.callWith_K (h₀ := X.base) I.ok.mod.kin hk (thn (ha.run pos pins s σ H _ I h) fun us s1 ⟨vs, H1, I1, r, q⟩ => ⟨I1.kIn, ?_⟩) he hpl
  exact run_fnE F hr hot hp hb (hx σ) I1 r q
end
/-- such a def, by its name -/
def EAt (P : Program) (w : World) (K : PySem.W.Frag) (mg : Str → Option Value) (base : Heap) (ca : Nat → Addr) (n : Nat) (x : Str) (ps : List Str) (c : Nat) (res : Str → Option Str) : Prop :=
  ∃ f fd, FnE P w K mg base (L2N.CX P w) n f fd ps (RE K ca (ca c) res) ∧ mg x = some (.ref f) ∧ PySem.W.keepIn K (.ref f) = true ∧ Binds K fd ps []
/-- f(e, "text") in the clause's suite -/
theorem q_callE {X : Cx} {ca : Nat → Addr} {n c i : Nat} {a : Addr} {oe : Obj} {x y : Str} {ps : List Str} {res : Str → Option Str} {p0 p1 p2 pos : Pos} {j : Nat} {kind out : Str} (F : EAt X.prog X.w X.K X.mg X.base ca n x ps c res) (ho : res kind = some out) (hr : RoomH n X.A) (hg : Gl X x) (hz : L2N.Zn (.ref (ca c)) none oe) (hf : ∃ vs, oe.data = .fields vs) (hh : X.A.handled = some (.ref a)) (hp : (a, oe) ∈ X.pn)
    (tk : L2N.Takes X (wx fun _ _ _ => False)) (hn : PE X (.Name y p1) (tVar i)) (hdb : (x == ("__debug__" : Str)) = false := by decide)
    (he1 : starEach [.Name y p1, .Constant (.str kind) j p2] X.env = (false, eval (.Name y p1) X.env) :: starEach [.Constant (.str kind) j p2] X.env := by rfl) (he2 : starEach [.Constant (.str kind) j p2] X.env = (false, eval (.Constant (.str kind) j p2) X.env) :: starEach [] X.env := by rfl)
    (hpl : (backTo pos (starEach [.Constant (.str kind) j p2] X.env)).any (·.1) = false := by rfl) :
    PE X (.Call (.Name x p0) [.Name y p1, .Constant (.str kind) j p2] [] pos) (tG (gP i a) (tOf X.K ca (wx fun _ _ _ => False) (mC (.str out)))) := by
  obtain ⟨f, fd, Fk, hm, hk, hb⟩ := F
  refine weakE (pe_callE (p := (a, oe)) (E := WE (wx fun _ _ _ => False)) Fk hr ⟨hh, hf.elim fun vs e => ⟨vs, e, hz.2.2 vs e⟩⟩ hp hg hm hk hb (L2N.passAt tk) (pa_cons hn (pa_cons pe_str pa_nil he2) he1) hdb he1 hpl) fun σ H Q => ?_
  rintro ⟨gg, ρ, M, S, re, rs, p⟩
  exact ⟨.ref a, gg, hz, hf, kind, out, ho, rfl, M, S, rs, p⟩
end Sm
/-! S24: the body of a def that is handed the caught exception -/
namespace Sm
open PySem PySem.Spec PyProof.Rows L2 L2H
open Classical
def tGT (g : L2.St → Prop) (t : TT) : TT := fun σ H Q => g σ ∧ t σ H Q
section
variable {X : Cx} {ca : Nat → Addr} {W : WX} {g : L2.St → Prop}
theorem g_t {e : Expr} {m : ME} (h : PT X e (tOfT X.K ca W m)) : PT X e (tGT g (tOfT X.K ca W m)) := weakT h fun σ H Q q => q.2
theorem g_tv {e : Expr} {m : ME} (h : PE X e (tG g (tOf X.K ca W m))) (he : ∀ whole, isTrue e X.env whole = (do let v ← whole; standAt e.pos; holding [v] (truthy v)) := by intro _; rfl) : PT X e (tGT g (tOfT X.K ca W m)) :=
  weakT (pt_val h he) fun σ H Q q => ⟨q.1, t_of σ H Q q.2⟩
theorem g_w1 {a : Expr} {pos : Pos} {ma : ME} (ha : PT X a (tGT g (tOfT X.K ca W ma))) : PW X (.BoolOp .And [a] pos) (tGT g (tOfT X.K ca W ma)) := pw_and1 ha
theorem g_wand {a b : Expr} {rest : List Expr} {pos : Pos} {ma mb : ME} (ha : PT X a (tGT g (tOfT X.K ca W ma))) (hb : PW X (.BoolOp .And (b :: rest) pos) (tGT g (tOfT X.K ca W mb))) : PW X (.BoolOp .And (a :: b :: rest) pos) (tGT g (tOfT X.K ca W (mAnd ma mb))) :=
  weakW (pw_and ha hb) fun σ H Q => by
    rintro ⟨gg, ρ, M, S, re, rs, p⟩
    refine ⟨gg, ρ, M, S, re, rs, ?_⟩
    unfold mAnd at p
    cases q : ma ρ S with
    | ok d S' =>
      rw [q] at p
      cases d <;> first | exact p.elim | skip
      next b =>
        cases b with
        | true =>
          intro b' M' H' e rs' hb
          subst hb
          exact ⟨gg, ρ, M', S', re.ext e, rs', p.up e⟩
        | false =>
          intro b' M' H' e rs' hb
          subst hb
          exact p false M' H' e rs' rfl
    | ex c S' => rw [q] at p; exact p
    | err => rw [q] at p; exact p
theorem g_nil : PSs X [] (tSG X.K ca g sNil) := weakSs pss_nil fun De σ H => by
  rintro ⟨gg, ρ, M, S, re, rs, p⟩
  exact p σ M H (Ext.refl _ _) rs re gg
theorem g_if {c : Expr} {as : List Stmt} {pos : Pos} {mc : ME} {a : MS} (hc : PT X c (tGT g (tOfT X.K ca (wx fun _ _ _ => False) mc))) (ha : PSs X as (tSG X.K ca g a)) : PS X (.If c as [] pos) (tSG X.K ca g (sIf mc a sNil)) :=
  weakS (ps_if hc ha (g_nil (X := X) (ca := ca) (g := g))) fun D σ H => by
    rintro ⟨gg, ρ, M, S, re, rs, p⟩
    refine ⟨gg, ρ, M, S, re, rs, ?_⟩
    unfold sIf at p
    cases q : mc ρ S with
    | ok d S' =>
      rw [q] at p
      cases d <;> first | exact p.elim | skip
      next b =>
        cases b with
        | true =>
          intro b' M' H' e rs' hb
          subst hb
          exact ⟨gg, ρ, M', S', re.ext e, rs', p.up e⟩
        | false =>
          intro b' M' H' e rs' hb
          subst hb
          exact ⟨gg, ρ, M', S', re.ext e, rs', p.up e⟩
    | ex c S' => rw [q] at p; exact p
    | err => rw [q] at p; exact p
theorem g_ret {e : Expr} {m : ME} {pos : Pos} (he : PE X e (tG g (tOf X.K ca (wx fun _ _ _ => False) m))) : PS X (.Return (some e) pos) (tSG X.K ca g (sRet m)) := weakS (ps_ret he) fun D σ H => by
  rintro ⟨gg, ρ, M, S, re, rs, p⟩
  refine ⟨gg, ρ, M, S, re, rs, (post_bindS p).mono ?_⟩
  rintro x H1 ⟨M1, S1, d, e1, rs1, r1, p1⟩
  exact p1 _ M1 H1 (Ext.refl _ _) rs1 r1
/-- return f(e, "text") in a clause's suite -/
theorem qe_retG {i : Nat} {a : Addr} {e : Expr} {d : D} {pos : Pos} (he : PE X e (tG (gP i a) (tOf X.K ca (wx fun _ _ _ => False) (mC d)))) : PSs X [.Return (some e) pos] (tSE X.K ca i a (sRet (mC d))) := weakSs (pss_one (ps_ret he)) fun D σ H => by
  rintro ⟨gg, ρ, M, S, re, rs, p⟩
  exact ⟨gg, ρ, M, S, re, rs, p⟩
end
end Sm
/-! S25: truths counted -/
namespace Sm
open PySem PySem.Spec PyProof.Rows L2 L2H
open Classical
open PySem.SeqRoads2 PySem.MeetsSeq PySem.MeetsSeq2 PySem.SeqAt
def eqB (k : Bool) (v : Value) : Bool := match v with
  | .bool n => n == k
  | _ => false
theorem eqB_at {k : Bool} {A : Around} {s : Shared} : ∀ {us : List Value} {ns : List Bool}, Vals (ns.map V.bl) us → ∀ y ∈ us, EqAt A s y (.bool k) (eqB k y)
  | [], _, _ => fun y hy => by cases hy
  | u :: us, n :: ns, h => fun y hy => by
    cases h with
    | cons h1 h2 =>
      rcases List.mem_cons.mp hy with e | e
      · rw [e]
        cases h1
        exact EqAt.bool_bool n k
      · exact eqB_at h2 y e
  | _ :: _, [], h => by cases h
theorem eqB_count {k : Bool} : ∀ {us : List Value} {ns : List Bool}, Vals (ns.map V.bl) us → us.countP (eqB k) = ns.count k
  | [], [], _ => rfl
  | u :: us, n :: ns, h => by
    cases h with
    | cons h1 h2 =>
      cases h1
      rw [List.countP_cons, List.count_cons, eqB_count (k := k) h2]
      rfl
  | [], _ :: _, h => by cases h
  | _ :: _, [], h => by cases h
def rCntB (K : PySem.W.Frag) : V → List V → Hp → VK → Prop := fun x xs H Q => ∃ (p : Addr) (ns : List Bool) (k : Bool), x = .ref p ∧ xs = [.bl k] ∧ SqL K H p (ns.map V.bl) ∧ Q (.int (ns.count k : Nat)) H
section
variable {X : Cx} {ca : Nat → Addr}
theorem mt_bcount : MtR X "list.count" (rCntB X.K) := by
  intro pins s σ H x xs v us Q I rx rxs h
  obtain ⟨p, ns, k, rfl, rfl, hs, q⟩ := h
  cases rx
  obtain ⟨u, rfl, ru⟩ := rxs.one
  cases ru
  obtain ⟨its, rv, ⟨⟨cls, dd, data, sl⟩, n, ho, hc, hdn, hd⟩, hlen⟩ := I.list hs
  simp only at hc hd
  subst hc hd
  refine call_meets PySem.F.slot_list_count ⟨_, ho, rfl⟩ PySem.F.entry_list_count (PySem.F.args_list_count_2 _ _)
    (SeqAt.list_countAt p its.toArray n dd sl (.bool k) (eqB k)) ⟨ho, fun y hy => eqB_at rv y (by simpa using hy), ?_⟩
  have ec : its.toArray.toList.countP (eqB k) = ns.count k := eqB_count rv
  exact ⟨.int (ns.count k : Nat), H, I.tok _, ⟨s.toks, by rw [ec]⟩, q⟩
def blsOf : List D → Option (List Bool)
  | [] => some []
  | .bl b :: ds => (blsOf ds).map (b :: ·)
  | _ => none
theorem bls_rep {K : PySem.W.Frag} {H : Hp} {M : Cells} : ∀ {ds : List D} {xs : List V} {js : List Bool}, RepL K ca H M ds xs → blsOf ds = some js → xs = js.map V.bl
  | [], [], js, _, h => by cases h; rfl
  | d :: ds, v :: vs, js, r, h => by
    cases d <;> first | (cases h; done) | skip
    next i =>
      replace h : (blsOf ds).map (i :: ·) = some js := h
      cases q : blsOf ds with
      | none => rw [q] at h; cases h
      | some ks =>
        rw [q] at h; cases h
        rw [bls_rep r.2 q, (r.1 : v = .bl i)]; rfl
  | [], _ :: _, _, r, _ => r.elim
  | _ :: _, [], _, r, _ => r.elim
def oCountB (S : Store) (d : D) (es : List D) : R D := match es with
  | [.bl k] => match (seqL S d).bind blsOf with
    | some ys => .ok (.int (ys.count k : Nat)) S
    | none => .err
  | _ => .err
theorem s_countB {K : PySem.W.Frag} : SoundM K ca (rCntB K) oCountB := by
  intro H M S x xs d ds Q W rs rx rxs p
  unfold oCountB at p
  split at p
  · next k =>
    split at p
    · next ys hy =>
      obtain ⟨es, h1, h2⟩ := Option.bind_eq_some_iff.mp hy
      obtain ⟨a, us, rfl, sq, rl, _⟩ := seq_rep rs rx h1
      have e := bls_rep rl h2
      subst e
      obtain ⟨v, rfl, rv⟩ := rxs.inv1
      cases rv
      exact ⟨a, ys, k, rfl, rfl, sq, one_ok p rs rfl⟩
    · exact p.elim
  · exact p.elim
end
end Sm
set_option maxHeartbeats 2000000
/-! S26: a loop over a list while an exception is handled -/
namespace Sm
open PySem PySem.Spec PyProof.Rows L2 L2H HotX
open Classical
theorem takesN0 {X : Cx} : L2N.Takes X (fun _ _ _ _ => False) := fun _ _ x => by
  obtain ⟨_, _, _, _, _, _, _, _, _, _, _, _, _, _, _, _, z⟩ := x
  exact z.elim
end Sm
set_option maxHeartbeats 2000000
/-! S27: try with several clauses, some of them of a base class; k06's def of the caught exception -/
namespace Sm
open PySem PySem.Spec PyProof.Rows L2 L2H
open Classical
/-- a def that is never called so -/
def sNone : MS := fun _ _ => .err
theorem qs_none {X : Cx} {ca : Nat → Addr} {W : XW} {body : List Stmt} : PSs X body (tSOf X.K ca W sNone) := ⟨fun pins s σ H De I h => by
  obtain ⟨ρ, M, S, re, rs, p⟩ := h
  exact p.elim⟩
end Sm
namespace Nl
open PySem PySem.Spec PyProof.Rows L2 Sm
def top (i : Nat) : Stmt := PySem.Challenge.pw_netloft_k16_joined.main.body.getD i (.Pass ⟨0, 0, 0, 0⟩)
abbrev s_p_is_tip : Stmt := top 6
abbrev s_p_mirrors : Stmt := top 7
abbrev s_p_tips : Stmt := top 8
abbrev s_p_all_tips : Stmt := top 9
abbrev s_p_Net_init : Stmt := inClass (top 11) 0
abbrev s_p_net_tips : Stmt := top 12
abbrev s_p_check_cords : Stmt := top 13
abbrev s_p_joined : Stmt := top 15
abbrev s_l_stir : Stmt := top 17
abbrev s_l_cell : Stmt := top 18
abbrev s_l_cells : Stmt := top 19
abbrev s_l_dye : Stmt := top 20
abbrev s_l_book : Stmt := top 21
abbrev s_l_number : Stmt := top 22
abbrev s_l_is_tip : Stmt := top 23
abbrev s_l_tips : Stmt := top 24
abbrev s_l_mirror : Stmt := top 25
abbrev s_l_anew : Stmt := top 26
abbrev s_l_add_cord : Stmt := top 27
abbrev s_l_tie : Stmt := top 28
abbrev s_l_add_knot : Stmt := top 29
abbrev s_l_add_splice : Stmt := top 30
abbrev s_l_close : Stmt := top 31
abbrev s_l_loft : Stmt := top 32
abbrev s_l_many_knots : Stmt := top 33
abbrev s_l_turned : Stmt := top 34
abbrev s_l_words : Stmt := top 35
abbrev s_l_two_turned : Stmt := top 36
abbrev s_l_three_ways : Stmt := top 37
abbrev s_l_whole : Stmt := top 38
abbrev s_l_hang : Stmt := top 39
abbrev s_l_hangs : Stmt := top 40
abbrev s_l_pairs : Stmt := top 41
abbrev s_l_net : Stmt := top 42
abbrev s_l_bare : Stmt := top 43
abbrev s_l_far_loft : Stmt := top 44
abbrev s_l_up : Stmt := top 45
abbrev s_l_cords_k16 : Stmt := top 46
abbrev s_l_alone_k16 : Stmt := top 47
abbrev s_l_joined_k16 : Stmt := top 48
abbrev s_l_due_k16x : Stmt := top 49
abbrev s_law_k16 : Stmt := top 50
def fa : List He.Fa := (.free "list" :: .cls "Net" :: .noat "Net" "rack" :: .noat "Net" "splices" :: .free "tuple" :: .noat "Net" "rings" :: .exc "NoMirror" :: .glo "NoMirror" :: .exc "Unfit" :: .glo "Unfit" :: .free "len" :: .exc "NoPlace" :: .glo "NoPlace" :: .free "range" :: .free "enumerate" :: .free "isinstance" :: .free "int" :: .free "bool" :: .free "str" :: .free "zip" :: .glo "Net" :: .exm "NoPlace" "Unfit" false :: .exm "NoPlace" "NoMirror" false :: .exm "NoPlace" "NoPlace" true :: .exm "NoMirror" "Unfit" false :: .exm "NoMirror" "NoMirror" true :: .exm "NoMirror" "NoPlace" false :: .exm "Unfit" "Unfit" true :: .exm "Unfit" "NoMirror" false :: .exm "Unfit" "NoPlace" false :: .glo "NetError" :: .free "ValueError" :: .glo "is_tip" :: .glo "mirrors" :: .glo "tips" :: .glo "net_tips" :: .glo "check_cords" :: .glo "all_tips" :: .glo "_law_stir" :: .glo "_law_is_tip" :: .glo "_law_tips" :: .glo "_law_mirror" :: .glo "_law_number" :: .glo "_law_anew" :: .glo "_law_dye" :: .glo "_law_tie" :: .glo "_law_add_cord" :: .glo "_law_cell" :: .glo "_law_book" :: .glo "_law_cells" :: .glo "_law_add_splice" :: .glo "_law_add_knot" :: .glo "_law_close" :: .glo "_law_many_knots" :: .glo "_law_turned" :: .glo "_law_words" :: .glo "_law_loft" :: .glo "_law_two_turned" :: .glo "_law_hang" :: .glo "_law_whole" :: .glo "_law_hangs" :: .glo "_law_pairs" :: .glo "_law_bare" :: .glo "_law_three_ways" :: .glo "_law_up" :: .glo "joined" :: .glo "_law_cords" :: .glo "_law_far_loft" :: .glo "_law_due" :: .glo "_law_joined" :: .glo "_law_net" :: .glo "law" :: .glo "_law_alone" :: .mkr "Net" :: [])
def ga : List Ga := [.ins "Net", .kitT "str" "Net" false, .excC "Unfit", .kitC "Unfit" "Unfit" true, .kitC "Unfit" "NoMirror" false, .kitC "Unfit" "NoPlace" false, .kitC "Unfit" "NetError" true, .kitB "Unfit" "ValueError" true, .excC "NoMirror", .kitC "NoMirror" "Unfit" false, .kitC "NoMirror" "NoMirror" true, .kitC "NoMirror" "NoPlace" false, .kitC "NoMirror" "NetError" true, .kitB "NoMirror" "ValueError" true, .excC "NoPlace", .kitC "NoPlace" "Unfit" false, .kitC "NoPlace" "NoMirror" false, .kitC "NoPlace" "NoPlace" true, .kitC "NoPlace" "NetError" true, .kitB "NoPlace" "ValueError" true]
def fns : List He.DefD := (⟨("is_tip", none), "is_tip", "is_tip", defArgs s_p_is_tip, defBody s_p_is_tip, defScope s_p_is_tip, [], []⟩ ::
  ⟨("mirrors", none), "mirrors", "mirrors", defArgs s_p_mirrors, defBody s_p_mirrors, defScope s_p_mirrors, [], []⟩ ::
  ⟨("tips", none), "tips", "tips", defArgs s_p_tips, defBody s_p_tips, defScope s_p_tips, [], []⟩ ::
  ⟨("all_tips", none), "all_tips", "all_tips", defArgs s_p_all_tips, defBody s_p_all_tips, defScope s_p_all_tips, [], []⟩ ::
  ⟨("Net", some "__init__"), "__init__", "Net.__init__", defArgs s_p_Net_init, defBody s_p_Net_init, defScope s_p_Net_init, [.non, .int 0], []⟩ ::
  ⟨("net_tips", none), "net_tips", "net_tips", defArgs s_p_net_tips, defBody s_p_net_tips, defScope s_p_net_tips, [], []⟩ ::
  ⟨("check_cords", none), "check_cords", "check_cords", defArgs s_p_check_cords, defBody s_p_check_cords, defScope s_p_check_cords, [], []⟩ ::
  ⟨("joined", none), "joined", "joined", defArgs s_p_joined, defBody s_p_joined, defScope s_p_joined, [], []⟩ ::
  ⟨("_law_stir", none), "_law_stir", "_law_stir", defArgs s_l_stir, defBody s_l_stir, defScope s_l_stir, [], []⟩ ::
  ⟨("_law_cell", none), "_law_cell", "_law_cell", defArgs s_l_cell, defBody s_l_cell, defScope s_l_cell, [], []⟩ ::
  ⟨("_law_cells", none), "_law_cells", "_law_cells", defArgs s_l_cells, defBody s_l_cells, defScope s_l_cells, [], []⟩ ::
  ⟨("_law_dye", none), "_law_dye", "_law_dye", defArgs s_l_dye, defBody s_l_dye, defScope s_l_dye, [], []⟩ ::
  ⟨("_law_book", none), "_law_book", "_law_book", defArgs s_l_book, defBody s_l_book, defScope s_l_book, [], []⟩ ::
  ⟨("_law_number", none), "_law_number", "_law_number", defArgs s_l_number, defBody s_l_number, defScope s_l_number, [], []⟩ ::
  ⟨("_law_is_tip", none), "_law_is_tip", "_law_is_tip", defArgs s_l_is_tip, defBody s_l_is_tip, defScope s_l_is_tip, [], []⟩ ::
  ⟨("_law_tips", none), "_law_tips", "_law_tips", defArgs s_l_tips, defBody s_l_tips, defScope s_l_tips, [], []⟩ ::
  ⟨("_law_mirror", none), "_law_mirror", "_law_mirror", defArgs s_l_mirror, defBody s_l_mirror, defScope s_l_mirror, [], []⟩ ::
  ⟨("_law_anew", none), "_law_anew", "_law_anew", defArgs s_l_anew, defBody s_l_anew, defScope s_l_anew, [], []⟩ ::
  ⟨("_law_add_cord", none), "_law_add_cord", "_law_add_cord", defArgs s_l_add_cord, defBody s_l_add_cord, defScope s_l_add_cord, [], []⟩ ::
  ⟨("_law_tie", none), "_law_tie", "_law_tie", defArgs s_l_tie, defBody s_l_tie, defScope s_l_tie, [], []⟩ ::
  ⟨("_law_add_knot", none), "_law_add_knot", "_law_add_knot", defArgs s_l_add_knot, defBody s_l_add_knot, defScope s_l_add_knot, [], []⟩ ::
  ⟨("_law_add_splice", none), "_law_add_splice", "_law_add_splice", defArgs s_l_add_splice, defBody s_l_add_splice, defScope s_l_add_splice, [], []⟩ ::
  ⟨("_law_close", none), "_law_close", "_law_close", defArgs s_l_close, defBody s_l_close, defScope s_l_close, [], []⟩ ::
  ⟨("_law_loft", none), "_law_loft", "_law_loft", defArgs s_l_loft, defBody s_l_loft, defScope s_l_loft, [], []⟩ ::
  ⟨("_law_many_knots", none), "_law_many_knots", "_law_many_knots", defArgs s_l_many_knots, defBody s_l_many_knots, defScope s_l_many_knots, [], []⟩ ::
  ⟨("_law_turned", none), "_law_turned", "_law_turned", defArgs s_l_turned, defBody s_l_turned, defScope s_l_turned, [], []⟩ ::
  ⟨("_law_words", none), "_law_words", "_law_words", defArgs s_l_words, defBody s_l_words, defScope s_l_words, [], []⟩ ::
  ⟨("_law_two_turned", none), "_law_two_turned", "_law_two_turned", defArgs s_l_two_turned, defBody s_l_two_turned, defScope s_l_two_turned, [], []⟩ ::
  ⟨("_law_three_ways", none), "_law_three_ways", "_law_three_ways", defArgs s_l_three_ways, defBody s_l_three_ways, defScope s_l_three_ways, [], []⟩ ::
  ⟨("_law_whole", none), "_law_whole", "_law_whole", defArgs s_l_whole, defBody s_l_whole, defScope s_l_whole, [], []⟩ ::
  ⟨("_law_hang", none), "_law_hang", "_law_hang", defArgs s_l_hang, defBody s_l_hang, defScope s_l_hang, [], []⟩ ::
  ⟨("_law_hangs", none), "_law_hangs", "_law_hangs", defArgs s_l_hangs, defBody s_l_hangs, defScope s_l_hangs, [], []⟩ ::
  ⟨("_law_pairs", none), "_law_pairs", "_law_pairs", defArgs s_l_pairs, defBody s_l_pairs, defScope s_l_pairs, [], []⟩ ::
  ⟨("_law_net", none), "_law_net", "_law_net", defArgs s_l_net, defBody s_l_net, defScope s_l_net, [], []⟩ ::
  ⟨("_law_bare", none), "_law_bare", "_law_bare", defArgs s_l_bare, defBody s_l_bare, defScope s_l_bare, [], []⟩ ::
  ⟨("_law_far_loft", none), "_law_far_loft", "_law_far_loft", defArgs s_l_far_loft, defBody s_l_far_loft, defScope s_l_far_loft, [], []⟩ ::
  ⟨("_law_up", none), "_law_up", "_law_up", defArgs s_l_up, defBody s_l_up, defScope s_l_up, [], []⟩ ::
  ⟨("_law_cords", none), "_law_cords", "_law_cords", defArgs s_l_cords_k16, defBody s_l_cords_k16, defScope s_l_cords_k16, [], []⟩ ::
  ⟨("_law_alone", none), "_law_alone", "_law_alone", defArgs s_l_alone_k16, defBody s_l_alone_k16, defScope s_l_alone_k16, [], []⟩ ::
  ⟨("_law_joined", none), "_law_joined", "_law_joined", defArgs s_l_joined_k16, defBody s_l_joined_k16, defScope s_l_joined_k16, [], []⟩ ::
  ⟨("_law_due", none), "_law_due", "_law_due", defArgs s_l_due_k16x, defBody s_l_due_k16x, defScope s_l_due_k16x, [], []⟩ ::
  ⟨("law", none), "law", "law", defArgs s_law_k16, defBody s_law_k16, defScope s_law_k16, [], []⟩ ::
  [])
def loose0 : List Str := ["NetError", "Unfit", "NoMirror", "NoPlace", "is_tip", "mirrors", "tips", "all_tips", "Net", "net_tips", "check_cords", "joined", "_law_stir", "_law_cell", "_law_cells", "_law_dye", "_law_book", "_law_number", "_law_is_tip", "_law_tips", "_law_mirror", "_law_anew", "_law_add_cord", "_law_tie", "_law_add_knot", "_law_add_splice", "_law_close", "_law_loft", "_law_many_knots", "_law_turned"]
def loose1 : List Str := ["_law_words", "_law_two_turned", "_law_three_ways", "_law_whole", "_law_hang", "_law_hangs", "_law_pairs", "_law_net", "_law_bare", "_law_far_loft", "_law_up", "_law_cords", "_law_alone", "_law_joined", "_law_due"]
abbrev loose : List Str := loose0 ++ loose1
abbrev Rw : PySem.W.OpenRow := PySem.W.OpenLaw.row PySem.Challenge.rw_netloft_k16_joined
abbrev hk : PySem.W.Hook := hookX 6 fa fns ga
def ob (s : PySem.W.SharedT) : AlX := obX 6 fa fns ga (HandSHeadRun.getT s)
theorem ob_eq (s : PySem.W.SharedT) : ob s = hk.obs s.abs := obX_eq (HandSHeadRun.getT_eq s)
theorem run (w : World) : HandSHeadRun.RunEq Rw (PySem.W.view Rw.prog [50]) hk ob 4000 loose w := by
  intro os
  kernel_rfl
end Nl
namespace Nl
open PySem PySem.Spec PyProof.Rows L2 Sm
abbrev f_p_is_tip : Nat := 0
abbrev f_p_mirrors : Nat := 2
abbrev f_p_tips : Nat := 28
abbrev f_p_all_tips : Nat := 34
abbrev f_p_Net_init : Nat := 35
abbrev f_p_net_tips : Nat := 36
abbrev f_p_check_cords : Nat := 37
abbrev f_p_joined : Nat := 152
abbrev f_l_stir : Nat := 3
abbrev f_l_cell : Nat := 4
abbrev f_l_cells : Nat := 5
abbrev f_l_dye : Nat := 6
abbrev f_l_book : Nat := 7
abbrev f_l_number : Nat := 8
abbrev f_l_is_tip : Nat := 9
abbrev f_l_tips : Nat := 10
abbrev f_l_mirror : Nat := 11
abbrev f_l_anew : Nat := 12
abbrev f_l_add_cord : Nat := 13
abbrev f_l_tie : Nat := 14
abbrev f_l_add_knot : Nat := 15
abbrev f_l_add_splice : Nat := 16
abbrev f_l_close : Nat := 17
abbrev f_l_loft : Nat := 18
abbrev f_l_many_knots : Nat := 19
abbrev f_l_turned : Nat := 20
abbrev f_l_words : Nat := 31
abbrev f_l_two_turned : Nat := 38
abbrev f_l_three_ways : Nat := 39
abbrev f_l_whole : Nat := 21
abbrev f_l_hang : Nat := 22
abbrev f_l_hangs : Nat := 40
abbrev f_l_pairs : Nat := 41
abbrev f_l_net : Nat := 42
abbrev f_l_bare : Nat := 23
abbrev f_l_far_loft : Nat := 153
abbrev f_l_up : Nat := 55
abbrev f_l_cords_k16 : Nat := 154
abbrev f_l_alone_k16 : Nat := 155
abbrev f_l_joined_k16 : Nat := 188
abbrev f_l_due_k16x : Nat := 189
abbrev f_law_k16 : Nat := 158
noncomputable def b_p_is_tip : Body := { cut := false, ar := 1, sl := 1, code := fun C I => sRet (mOr (m2 (oEq) (m2 oIx (mV 0) (mC (.int 0))) (mC (.str "light"))) (m2 (oEq) (m2 oIx (mV 0) (mC (.int 0))) (mC (.str "dark")))) }
noncomputable def b_p_mirrors : Body := { cut := false, ar := 2, sl := 2, code := fun C I => sSeq (sIf (mOr (m2 (oNe) (mN (fun S ds => C f_p_is_tip ds S) (mCons (mV 0) (mNil))) (mN (fun S ds => C f_p_is_tip ds S) (mCons (mV 1) (mNil)))) (m2 (oEq) (m2 oIx (mV 0) (mC (.int 0))) (m2 oIx (mV 1) (mC (.int 0))))) (sRet (mC (.bl false))) (sNil)) (sSeq (sIf (mN (fun S ds => C f_p_is_tip ds S) (mCons (mV 0) (mNil))) (sRet (m2 (oEq) (m2 oIx (mV 0) (mC (.int 1))) (m2 oIx (mV 1) (mC (.int 1))))) (sNil)) (sRet (mAnd (mN (fun S ds => C f_p_mirrors ds S) (mCons (m2 oIx (mV 0) (mC (.int 1))) (mCons (m2 oIx (mV 1) (mC (.int 1))) (mNil)))) (mN (fun S ds => C f_p_mirrors ds S) (mCons (m2 oIx (mV 0) (mC (.int 2))) (mCons (m2 oIx (mV 1) (mC (.int 2))) (mNil))))))) }
noncomputable def b_p_tips : Body := { cut := false, ar := 1, sl := 1, code := fun C I => sSeq (sIf (mN (fun S ds => C f_p_is_tip ds S) (mCons (mV 0) (mNil))) (sRet (mN (oLst false) (mCons (mV 0) (mNil)))) (sNil)) (sRet (m2 (oAdd false) (mN (fun S ds => C f_p_tips ds S) (mCons (m2 oIx (mV 0) (mC (.int 1))) (mNil))) (mN (fun S ds => C f_p_tips ds S) (mCons (m2 oIx (mV 0) (mC (.int 2))) (mNil))))) }
noncomputable def b_p_all_tips : Body := { cut := false, ar := 1, sl := 3, code := fun C I => sSeq (sAsg 1 (mN (oLst true) (mNil))) (sSeq (sFor (mCons (mV 0) mNil) itemsA [2] (sDrop (mBM "list" oExtend (mV 1) (mCons (mN (fun S ds => C f_p_tips ds S) (mCons (mV 2) (mNil))) (mNil))))) (sRet (mV 1))) }
noncomputable def b_p_Net_init : Body := { cut := false, ar := 4, sl := 5, code := fun C I => sSeq (sFldM 7 "rack" (mN (oList false) (mCons (mV 1) (mNil))) (mV 0)) (sSeq (sFldM 7 "splices" (mN (oLst false) (mNil)) (mV 0)) (sSeq (sIf (m2 (oNotN) (mV 2) (mC .non)) (sFldM 7 "splices" (mComp false (mCons (mV 2) mNil) itemsA [4] [4] (mC (.bl true)) (mN oTuple (mCons (mV 4) (mNil)))) (mV 0)) (sNil)) (sSeq (sFldM 7 "rings" (mV 3) (mV 0)) (sSeq (sDrop (mN (fun S ds => C f_p_check_cords ds S) (mCons (mN (fun S ds => C f_p_net_tips ds S) (mCons (mV 0) (mNil))) (mNil)))) (sFor (mCons (m1 (oFld 7 "splices") (mV 0)) mNil) itemsA [4] (sIf (mNot (mN (fun S ds => C f_p_mirrors ds S) (mCons (m2 oIx (mV 4) (mC (.int 0))) (mCons (m2 oIx (mV 4) (mC (.int 1))) (mNil))))) (sRaise 3) (sNil))))))) }
noncomputable def b_p_net_tips : Body := { cut := true, ar := 1, sl := 3, code := fun C I => sSeq (sAsg 1 (mN (fun S ds => C f_p_all_tips ds S) (mCons (m1 (oFld 7 "rack") (mV 0)) (mNil)))) (sSeq (sFor (mCons (m1 (oFld 7 "splices") (mV 0)) mNil) itemsA [2] (sDrop (mBM "list" oExtend (mV 1) (mCons (mN (fun S ds => C f_p_all_tips ds S) (mCons (mV 2) (mNil))) (mNil))))) (sRet (mV 1))) }
noncomputable def b_p_check_cords : Body := { cut := true, ar := 1, sl := 5, code := fun C I => sSeq (sAsg 1 (mDk)) (sSeq (sAsg 2 (mDk)) (sSeq (sFor (mCons (mV 0) mNil) itemsA [3] (sSeq (sAsg 4 (mV 1)) (sSeq (sIf (m2 (oEq) (m2 oIx (mV 3) (mC (.int 0))) (mC (.str "dark"))) (sAsg 4 (mV 2)) (sNil)) (sSeq (sIf (m2 (oIn) (m2 oIx (mV 3) (mC (.int 2))) (mV 4)) (sRaise 2) (sNil)) (sSub (m2 oIx (mV 3) (mC (.int 1))) (mV 4) (m2 oIx (mV 3) (mC (.int 2)))))))) (sIf (m2 (oNeX) (mV 1) (mV 2)) (sRaise 2) (sNil)))) }
noncomputable def b_p_joined : Body := { cut := false, ar := 4, sl := 6, code := fun C I => sSeq (sIf (mOr (mNot (mChain (oCmp fun i j => decide (i ≤ j)) (oCmp fun i j => decide (i < j)) (mC (.int 0)) (mV 1) (mN oLen (mCons (m1 (oFld 7 "rack") (mV 0)) (mNil))))) (mNot (mChain (oCmp fun i j => decide (i ≤ j)) (oCmp fun i j => decide (i < j)) (mC (.int 0)) (mV 3) (mN oLen (mCons (m1 (oFld 7 "rack") (mV 2)) (mNil)))))) (sRaise 4) (sNil)) (sSeq (sIf (mNot (mN (fun S ds => C f_p_mirrors ds S) (mCons (m2 oIx (m1 (oFld 7 "rack") (mV 0)) (mV 1)) (mCons (m2 oIx (m1 (oFld 7 "rack") (mV 2)) (mV 3)) (mNil))))) (sRaise 3) (sNil)) (sSeq (sAsg 4 (m2 (oAdd false) (m2 (oAdd false) (m2 (oAdd false) (mSl false (m1 (oFld 7 "rack") (mV 0)) (oNo) (oSome (mV 1))) (mSl false (m1 (oFld 7 "rack") (mV 0)) (oSome (m2 (oAdd false) (mV 1) (mC (.int 1)))) (oNo))) (mSl false (m1 (oFld 7 "rack") (mV 2)) (oNo) (oSome (mV 3)))) (mSl false (m1 (oFld 7 "rack") (mV 2)) (oSome (m2 (oAdd false) (mV 3) (mC (.int 1)))) (oNo)))) (sSeq (sAsg 5 (m2 (oAdd false) (m2 (oAdd false) (m1 (oFld 7 "splices") (mV 0)) (m1 (oFld 7 "splices") (mV 2))) (mN (oLst false) (mCons (mN oTup (mCons (m2 oIx (m1 (oFld 7 "rack") (mV 0)) (mV 1)) (mCons (m2 oIx (m1 (oFld 7 "rack") (mV 2)) (mV 3)) (mNil)))) (mNil))))) (sRet (mMake 7 true (fun ds S => I f_p_Net_init ds S) [] (mCons (mV 4) (mCons (mV 5) (mCons (m2 (oAdd false) (m1 (oFld 7 "rings") (mV 0)) (m1 (oFld 7 "rings") (mV 2))) (mNil))))))))) }
noncomputable def b_l_stir : Body := { cut := false, ar := 1, sl := 4, code := fun C I => sSeq (sAsg 1 (mC (.int 0))) (sSeq (sFor (mCons (mN (oLst false) (mCons (mC (.int 48271)) (mCons (mC (.int 69621)) (mCons (mC (.int 39373)) (mCons (mC (.int 44488)) (mNil)))))) mNil) itemsA [2] (sSeq (sAsg 3 (m2 (oMod) (m2 (oMul false) (m2 (oMod) (m2 (oAdd false) (m2 (oMul false) (mV 0) (mV 2)) (mC (.int 7919))) (mC (.int 2147483647))) (mC (.int 40692))) (mC (.int 2147483399)))) (sAsg 1 (m2 (oAdd false) (m2 (oMul false) (mV 1) (m2 (oPow) (mC (.int 10)) (mC (.int 9)))) (m2 (oDiv) (mV 3) (mC (.int 7))))))) (sRet (mV 1))) }
noncomputable def b_l_cell : Body := { cut := false, ar := 2, sl := 2, code := fun C I => sSeq (sIf (m2 (oCmp fun i j => decide (i < j)) (mV 1) (mN oLen (mCons (mV 0) (mNil)))) (sRet (mN (fun S ds => C f_l_stir ds S) (mCons (m2 oIx (mV 0) (mV 1)) (mNil)))) (sNil)) (sRet (mN (fun S ds => C f_l_stir ds S) (mCons (mC (.int 0)) (mNil)))) }
noncomputable def b_l_cells : Body := { cut := false, ar := 3, sl := 4, code := fun C I => sRet (mComp false (mCons (mSl false (mV 0) (oSome (mV 1)) (oSome (mV 2))) mNil) itemsA [3] [3] (mC (.bl true)) (mN (fun S ds => C f_l_stir ds S) (mCons (mV 3) (mNil)))) }
noncomputable def b_l_dye : Body := { cut := false, ar := 1, sl := 4, code := fun C I => sSeq (sAsg 1 (m2 (oAdd false) (mC (.int 1)) (m2 (oMod) (mV 0) (mC (.int 3))))) (sSeq (sIf (m2 (oEq) (m2 (oMod) (mV 0) (mC (.int 11))) (mC (.int 5))) (sAsg 1 (mC (.int 20))) (sNil)) (sSeq (sAsg 2 (m2 (oMul false) (mC (.int 7)) (m2 (oMod) (m2 (oDiv) (mV 0) (mC (.int 5))) (mC (.int 4))))) (sRet (mBM "str" oJoin (mC (.str "")) (mCons (mComp false (mCons (mV 1) (mNil)) itemsR [3] [3] (mC (.bl true)) (m2 oIx (mC (.str "abcdefghijklmnopqrstuvwxyz")) (m2 (oMod) (m2 (oAdd false) (m2 (oDiv) (mV 0) (mC (.int 3))) (m2 (oMul false) (mV 2) (mV 3))) (mC (.int 26))))) (mNil)))))) }
noncomputable def b_l_book : Body := { cut := false, ar := 1, sl := 2, code := fun C I => sSeq (sAsg 1 (m2 (oMod) (m2 (oDiv) (mV 0) (mC (.int 16))) (m2 oIx (mN (oLst false) (mCons (mC (.int 10)) (mCons (mC (.int 1000)) (mCons (m2 (oPow) (mC (.int 10)) (mC (.int 12))) (mCons (m2 (oPow) (mC (.int 10)) (mC (.int 29))) (mNil)))))) (m2 (oMod) (mV 0) (mC (.int 4)))))) (sRet (mN (oLst true) (mCons (mV 1) (mCons (m2 oIx (mN (oLst false) (mCons (mC (.int 1)) (mCons (mC (.int 2)) (mCons (mC (.int 97)) (mCons (m2 (oAdd false) (m2 (oPow) (mC (.int 10)) (mC (.int 9))) (mC (.int 7))) (mNil)))))) (m2 (oMod) (m2 (oDiv) (mV 0) (mC (.int 4))) (mC (.int 4)))) (mCons (mC (.int 0)) (mNil)))))) }
noncomputable def b_l_number : Body := { cut := false, ar := 1, sl := 2, code := fun C I => sSeq (sAsg 1 (m2 oIx (mV 0) (mC (.int 2)))) (sSeq (sSub (m2 (oAdd false) (mV 1) (mC (.int 1))) (mV 0) (mC (.int 2))) (sRet (m2 (oAdd false) (m2 oIx (mV 0) (mC (.int 0))) (m2 (oMul false) (m2 oIx (mV 0) (mC (.int 1))) (m2 (oAdd false) (m2 (oMod) (m2 (oMul false) (mV 1) (mC (.int 21))) (mC (.int 64))) (m2 (oMul false) (mC (.int 64)) (m2 (oDiv) (mV 1) (mC (.int 64))))))))) }
noncomputable def b_l_is_tip : Body := { cut := false, ar := 1, sl := 1, code := fun C I => sRet (mOr (m2 (oEq) (m2 oIx (mV 0) (mC (.int 0))) (mC (.str "light"))) (m2 (oEq) (m2 oIx (mV 0) (mC (.int 0))) (mC (.str "dark")))) }
noncomputable def b_l_tips : Body := { cut := false, ar := 1, sl := 1, code := fun C I => sSeq (sIf (mN (fun S ds => C f_l_is_tip ds S) (mCons (mV 0) (mNil))) (sRet (mN (oLst false) (mCons (mV 0) (mNil)))) (sNil)) (sRet (m2 (oAdd false) (mN (fun S ds => C f_l_tips ds S) (mCons (m2 oIx (mV 0) (mC (.int 1))) (mNil))) (mN (fun S ds => C f_l_tips ds S) (mCons (m2 oIx (mV 0) (mC (.int 2))) (mNil))))) }
noncomputable def b_l_mirror : Body := { cut := false, ar := 1, sl := 2, code := fun C I => sSeq (sAsg 1 (m1 (oDisp [((.inr "light"), .str "dark"), ((.inr "dark"), .str "light"), ((.inr "fast"), .str "loose"), ((.inr "loose"), .str "fast")]) (m2 oIx (mV 0) (mC (.int 0))))) (sSeq (sIf (mN (fun S ds => C f_l_is_tip ds S) (mCons (mV 0) (mNil))) (sRet (mN oTup (mCons (mV 1) (mCons (m2 oIx (mV 0) (mC (.int 1))) (mCons (m2 oIx (mV 0) (mC (.int 2))) (mNil)))))) (sNil)) (sRet (mN oTup (mCons (mV 1) (mCons (mN (fun S ds => C f_l_mirror ds S) (mCons (m2 oIx (mV 0) (mC (.int 1))) (mNil))) (mCons (mN (fun S ds => C f_l_mirror ds S) (mCons (m2 oIx (mV 0) (mC (.int 2))) (mNil))) (mNil))))))) }
noncomputable def b_l_anew : Body := { cut := false, ar := 2, sl := 3, code := fun C I => sSeq (sIf (mN (fun S ds => C f_l_is_tip ds S) (mCons (mV 0) (mNil))) (sRet (mN oTup (mCons (m2 oIx (mV 0) (mC (.int 0))) (mCons (m2 oIx (mV 0) (mC (.int 1))) (mCons (mN (fun S ds => C f_l_number ds S) (mCons (mV 1) (mNil))) (mNil)))))) (sNil)) (sSeq (sAsg 2 (mN (fun S ds => C f_l_anew ds S) (mCons (m2 oIx (mV 0) (mC (.int 1))) (mCons (mV 1) (mNil))))) (sRet (mN oTup (mCons (m2 oIx (mV 0) (mC (.int 0))) (mCons (mV 2) (mCons (mN (fun S ds => C f_l_anew ds S) (mCons (m2 oIx (mV 0) (mC (.int 2))) (mCons (mV 1) (mNil)))) (mNil))))))) }
noncomputable def b_l_add_cord : Body := { cut := false, ar := 2, sl := 5, code := fun C I => sSeq (sAsg 2 (mN (fun S ds => C f_l_number ds S) (mCons (m2 oIx (mV 0) (mC (.int 3))) (mNil)))) (sSeq (sAsg 3 (mN (fun S ds => C f_l_dye ds S) (mCons (m2 (oDiv) (mV 1) (mC (.int 7))) (mNil)))) (sSeq (sAsg 4 (mN (oLst false) (mCons (mN oTup (mCons (mC (.str "light")) (mCons (mV 3) (mCons (mV 2) (mNil))))) (mCons (mN oTup (mCons (mC (.str "dark")) (mCons (mV 3) (mCons (mV 2) (mNil))))) (mNil))))) (sSeq (sIf (m2 (oEq) (m2 (oMod) (m2 (oDiv) (mV 1) (mC (.int 7))) (mC (.int 2))) (mC (.int 1))) (sAsg 4 (mN (oLst false) (mCons (m2 oIx (mV 4) (mC (.int 1))) (mCons (m2 oIx (mV 4) (mC (.int 0))) (mNil))))) (sNil)) (sSeq (sDrop (mBM "list" oExtend (m2 oIx (mV 0) (mC (.int 0))) (mCons (mV 4) (mNil)))) (sDrop (mBM "list" oExtend (m2 oIx (mV 0) (mC (.int 1))) (mCons (mN (oLst false) (mCons (mV 2) (mCons (mV 2) (mNil)))) (mNil)))))))) }
noncomputable def b_l_tie : Body := { cut := false, ar := 5, sl := 12, code := fun C I => sSeq (sAsg 5 (mComp false (mCons (mN oLen (mCons (m2 oIx (mV 0) (mC (.int 0))) (mNil))) (mNil)) itemsR [10] [10] (mAnd (m2 (oNe) (mV 10) (mV 1)) (m2 (oNe) (mV 10) (mV 2))) (mV 10))) (sSeq (sAsg 6 (m2 oIx (m2 oIx (mV 0) (mC (.int 1))) (mV 1))) (sSeq (sAsg 7 (m2 oIx (m2 oIx (mV 0) (mC (.int 1))) (mV 2))) (sSeq (sAsg 8 (mComp true (mCons (mV 5) mNil) itemsA [10] [10] (mC (.bl true)) (m2 oIx (m2 oIx (mV 0) (mC (.int 0))) (mV 10)))) (sSeq (sDrop (mBM "list" oInsert (mV 8) (mCons (m2 (oMod) (mV 4) (m2 (oAdd false) (mN oLen (mCons (mV 5) (mNil))) (mC (.int 1)))) (mCons (mN oTup (mCons (mV 3) (mCons (m2 oIx (m2 oIx (mV 0) (mC (.int 0))) (mV 1)) (mCons (m2 oIx (m2 oIx (mV 0) (mC (.int 0))) (mV 2)) (mNil))))) (mNil))))) (sSeq (sAsg 9 (mComp true (mCons (mV 5) mNil) itemsA [10] [10] (mC (.bl true)) (m2 oIx (m2 oIx (mV 0) (mC (.int 1))) (mV 10)))) (sSeq (sDrop (mBM "list" oInsert (mV 9) (mCons (m2 (oMod) (mV 4) (m2 (oAdd false) (mN oLen (mCons (mV 5) (mNil))) (mC (.int 1)))) (mCons (mV 6) (mNil))))) (sSeq (sSub (mV 8) (mV 0) (mC (.int 0))) (sSub (mComp true (mCons (mV 9) mNil) itemsA [11] [11] (mC (.bl true)) (mIf (m2 (oEq) (mV 11) (mV 7)) (mV 6) (mV 11))) (mV 0) (mC (.int 1)))))))))) }
noncomputable def b_l_add_knot : Body := { cut := false, ar := 3, sl := 7, code := fun C I => sSeq (sAsg 3 (mN oLen (mCons (m2 oIx (mV 0) (mC (.int 0))) (mNil)))) (sSeq (sAsg 4 (m2 (oMod) (m2 (oDiv) (mV 1) (mC (.int 7))) (mV 3))) (sSeq (sAsg 5 (m2 (oMod) (m2 (oDiv) (mV 1) (mC (.int 448))) (mV 3))) (sSeq (sIf (m2 (oEq) (mV 4) (mV 5)) (sAsg 5 (m2 (oMod) (m2 (oAdd false) (mV 4) (mC (.int 1))) (mV 3))) (sNil)) (sSeq (sAsg 6 (mC (.str "fast"))) (sSeq (sIf (mOr (mAnd (mV 2) (m2 (oEq) (m2 oIx (m2 oIx (mV 0) (mC (.int 1))) (mV 4)) (m2 oIx (m2 oIx (mV 0) (mC (.int 1))) (mV 5)))) (mAnd (mNot (mV 2)) (m2 (oCmp fun i j => decide (j < i)) (m2 (oMod) (mV 1) (mC (.int 7))) (mC (.int 3))))) (sAsg 6 (mC (.str "loose"))) (sNil)) (sDrop (mN (fun S ds => C f_l_tie ds S) (mCons (mV 0) (mCons (mV 4) (mCons (mV 5) (mCons (mV 6) (mCons (m2 (oDiv) (mV 1) (mC (.int 28672))) (mNil))))))))))))) }
noncomputable def b_l_add_splice : Body := { cut := false, ar := 3, sl := 7, code := fun C I => sSeq (sAsg 3 (m2 (oMod) (m2 (oDiv) (mV 1) (mC (.int 7))) (mN oLen (mCons (m2 oIx (mV 0) (mC (.int 0))) (mNil))))) (sSeq (sAsg 4 (m2 oIx (m2 oIx (mV 0) (mC (.int 0))) (mV 3))) (sSeq (sAsg 5 (mN (fun S ds => C f_l_anew ds S) (mCons (mV 4) (mCons (m2 oIx (mV 0) (mC (.int 3))) (mNil))))) (sSeq (sAsg 6 (mN oTup (mCons (mV 4) (mCons (mN (fun S ds => C f_l_mirror ds S) (mCons (mV 5) (mNil))) (mNil))))) (sSeq (sIf (m2 (oEq) (m2 (oMod) (m2 (oDiv) (mV 1) (mC (.int 448))) (mC (.int 2))) (mC (.int 1))) (sAsg 6 (mN oTup (mCons (m2 oIx (mV 6) (mC (.int 1))) (mCons (m2 oIx (mV 6) (mC (.int 0))) (mNil))))) (sNil)) (sSeq (sDrop (mBM "list" oInsert (m2 oIx (mV 0) (mC (.int 2))) (mCons (m2 (oMod) (m2 (oDiv) (mV 1) (mC (.int 1792))) (m2 (oAdd false) (mN oLen (mCons (m2 oIx (mV 0) (mC (.int 2))) (mNil))) (mC (.int 1)))) (mCons (mV 6) (mNil))))) (sSeq (sSub (mV 5) (m2 oIx (mV 0) (mC (.int 0))) (mV 3)) (sIf (mAnd (m2 (oEq) (m2 (oMod) (m2 (oDiv) (mV 1) (mC (.int 896))) (mC (.int 2))) (mC (.int 1))) (mOr (m2 (oEq) (m2 oIx (mV 5) (mC (.int 0))) (mC (.str "loose"))) (mAnd (m2 (oEq) (m2 oIx (mV 5) (mC (.int 0))) (mC (.str "fast"))) (mNot (mV 2))))) (sSeq (sSub (m2 oIx (mV 5) (mC (.int 1))) (m2 oIx (mV 0) (mC (.int 0))) (mV 3)) (sSeq (sDrop (mBM "list" oInsert (m2 oIx (mV 0) (mC (.int 0))) (mCons (m2 (oAdd false) (mV 3) (mC (.int 1))) (mCons (m2 oIx (mV 5) (mC (.int 2))) (mNil))))) (sDrop (mBM "list" oInsert (m2 oIx (mV 0) (mC (.int 1))) (mCons (m2 (oAdd false) (mV 3) (mC (.int 1))) (mCons (m2 oIx (m2 oIx (mV 0) (mC (.int 1))) (mV 3)) (mNil))))))) (sNil)))))))) }
noncomputable def b_l_close : Body := { cut := false, ar := 2, sl := 4, code := fun C I => sSeq (sIf (m2 (oEq) (m2 oIx (mV 0) (mC (.int 0))) (mN (oLst false) (mNil))) (sDrop (mN (fun S ds => C f_l_add_cord ds S) (mCons (mV 0) (mCons (mV 1) (mNil))))) (sNil)) (sSeq (sAsg 2 (mComp false (mCons (mN oLen (mCons (m2 oIx (mV 0) (mC (.int 0))) (mNil))) (mNil)) itemsR [3] [3] (m2 (oNe) (m2 oIx (m2 oIx (mV 0) (mC (.int 1))) (mV 3)) (m2 oIx (m2 oIx (mV 0) (mC (.int 1))) (mC (.int 0)))) (mV 3))) (whileN (m2 (oNe) (mV 2) (mN (oLst false) (mNil))) (sSeq (sDrop (mN (fun S ds => C f_l_tie ds S) (mCons (mV 0) (mCons (mC (.int 0)) (mCons (m2 oIx (mV 2) (mC (.int 0))) (mCons (mC (.str "fast")) (mCons (mV 1) (mNil)))))))) (sAsg 2 (mComp false (mCons (mN oLen (mCons (m2 oIx (mV 0) (mC (.int 0))) (mNil))) (mNil)) itemsR [3] [3] (m2 (oNe) (m2 oIx (m2 oIx (mV 0) (mC (.int 1))) (mV 3)) (m2 oIx (m2 oIx (mV 0) (mC (.int 1))) (mC (.int 0)))) (mV 3)))) 100000)) }
noncomputable def b_l_loft : Body := { cut := false, ar := 4, sl := 6, code := fun C I => sSeq (sAsg 4 (mN (oLst true) (mCons (mN (oLst true) (mNil)) (mCons (mN (oLst true) (mNil)) (mCons (mN (oLst true) (mNil)) (mCons (mN (fun S ds => C f_l_book ds S) (mCons (mN (fun S ds => C f_l_cell ds S) (mCons (mV 0) (mCons (mV 1) (mNil)))) (mNil))) (mNil))))))) (sSeq (sFor (mCons (mN (fun S ds => C f_l_cells ds S) (mCons (mV 0) (mCons (m2 (oAdd false) (mV 1) (mC (.int 1))) (mCons (m2 (oAdd false) (m2 (oAdd false) (mV 1) (mC (.int 1))) (mV 2)) (mNil))))) mNil) itemsA [5] (sIf (mOr (m2 (oCmp fun i j => decide (i < j)) (m2 (oMod) (mV 5) (mC (.int 7))) (mC (.int 2))) (m2 (oCmp fun i j => decide (i < j)) (mN oLen (mCons (m2 oIx (mV 4) (mC (.int 0))) (mNil))) (mC (.int 2)))) (sDrop (mN (fun S ds => C f_l_add_cord ds S) (mCons (mV 4) (mCons (mV 5) (mNil))))) (sIf (mAnd (m2 (oEq) (m2 (oMod) (mV 5) (mC (.int 7))) (mC (.int 6))) (m2 (oCmp fun i j => decide (i < j)) (mN oLen (mCons (mN (fun S ds => C f_l_tips ds S) (mCons (m2 oIx (m2 oIx (mV 4) (mC (.int 0))) (m2 (oMod) (m2 (oDiv) (mV 5) (mC (.int 7))) (mN oLen (mCons (m2 oIx (mV 4) (mC (.int 0))) (mNil))))) (mNil))) (mNil))) (mC (.int 5)))) (sDrop (mN (fun S ds => C f_l_add_splice ds S) (mCons (mV 4) (mCons (mV 5) (mCons (mV 3) (mNil)))))) (sDrop (mN (fun S ds => C f_l_add_knot ds S) (mCons (mV 4) (mCons (mV 5) (mCons (mV 3) (mNil))))))))) (sSeq (sIf (mV 3) (sDrop (mN (fun S ds => C f_l_close ds S) (mCons (mV 4) (mCons (mN (fun S ds => C f_l_cell ds S) (mCons (mV 0) (mCons (mV 1) (mNil)))) (mNil))))) (sNil)) (sRet (mV 4)))) }
noncomputable def b_l_many_knots : Body := { cut := false, ar := 1, sl := 1, code := fun C I => sSeq (sIf (mN (fun S ds => C f_l_is_tip ds S) (mCons (mV 0) (mNil))) (sRet (mC (.int 0))) (sNil)) (sRet (m2 (oAdd false) (m2 (oAdd false) (mC (.int 1)) (mN (fun S ds => C f_l_many_knots ds S) (mCons (m2 oIx (mV 0) (mC (.int 1))) (mNil)))) (mN (fun S ds => C f_l_many_knots ds S) (mCons (m2 oIx (mV 0) (mC (.int 2))) (mNil))))) }
noncomputable def b_l_turned : Body := { cut := false, ar := 2, sl := 3, code := fun C I => sSeq (sIf (mOr (m2 (oCmp fun i j => decide (i < j)) (mV 1) (mC (.int 0))) (m2 (oCmp fun i j => decide (j ≤ i)) (mV 1) (mN (fun S ds => C f_l_many_knots ds S) (mCons (mV 0) (mNil))))) (sRet (mV 0)) (sNil)) (sSeq (sIf (m2 (oEq) (mV 1) (mC (.int 0))) (sRet (mN oTup (mCons (m1 (oDisp [((.inr "fast"), .str "loose"), ((.inr "loose"), .str "fast")]) (m2 oIx (mV 0) (mC (.int 0)))) (mCons (m2 oIx (mV 0) (mC (.int 1))) (mCons (m2 oIx (mV 0) (mC (.int 2))) (mNil)))))) (sNil)) (sSeq (sAsg 2 (mN (fun S ds => C f_l_many_knots ds S) (mCons (m2 oIx (mV 0) (mC (.int 1))) (mNil)))) (sRet (mN oTup (mCons (m2 oIx (mV 0) (mC (.int 0))) (mCons (mN (fun S ds => C f_l_turned ds S) (mCons (m2 oIx (mV 0) (mC (.int 1))) (mCons (m2 (oSub) (mV 1) (mC (.int 1))) (mNil)))) (mCons (mN (fun S ds => C f_l_turned ds S) (mCons (m2 oIx (mV 0) (mC (.int 2))) (mCons (m2 (oSub) (m2 (oSub) (mV 1) (mC (.int 1))) (mV 2)) (mNil)))) (mNil)))))))) }
noncomputable def b_l_words : Body := { cut := false, ar := 1, sl := 1, code := fun C I => sSeq (sIf (mN (fun S ds => C f_l_is_tip ds S) (mCons (mV 0) (mNil))) (sRet (mN (oLst false) (mNil))) (sNil)) (sRet (m2 (oAdd false) (m2 (oAdd false) (mN (oLst false) (mCons (m2 oIx (mV 0) (mC (.int 0))) (mNil))) (mN (fun S ds => C f_l_words ds S) (mCons (m2 oIx (mV 0) (mC (.int 1))) (mNil)))) (mN (fun S ds => C f_l_words ds S) (mCons (m2 oIx (mV 0) (mC (.int 2))) (mNil))))) }
noncomputable def b_l_two_turned : Body := { cut := false, ar := 2, sl := 7, code := fun C I => sSeq (sAsg 2 (mDisp [(mC (.str "loose"), mN (oLst true) (mNil)), (mC (.str "fast"), mN (oLst true) (mNil))])) (sSeq (sFor (mCons (m2 oIx (mV 0) (mC (.int 0))) (mNil)) itemsE [3, 4] (sFor (mCons (mN (fun S ds => C f_l_words ds S) (mCons (mV 4) (mNil))) (mNil)) itemsE [5, 6] (sDrop (mBM "list" oAppend (m2 oIx (mV 2) (mV 6)) (mCons (mN oTup (mCons (mV 3) (mCons (mV 5) (mNil)))) (mNil)))))) (sFor (mCons (mN (oLst false) (mCons (mC (.str "loose")) (mCons (mC (.str "fast")) (mNil)))) mNil) itemsA [6] (sIf (mAnd (m2 (oNe) (m2 oIx (mV 2) (mC (.str "loose"))) (mN (oLst false) (mNil))) (m2 (oNe) (m2 oIx (mV 2) (mC (.str "fast"))) (mN (oLst false) (mNil)))) (sSeq (sAsgs [3, 5] (m2 oIx (m2 oIx (mV 2) (mV 6)) (m2 (oMod) (mV 1) (mN oLen (mCons (m2 oIx (mV 2) (mV 6)) (mNil)))))) (sSeq (sSub (mN (fun S ds => C f_l_turned ds S) (mCons (m2 oIx (m2 oIx (mV 0) (mC (.int 0))) (mV 3)) (mCons (mV 5) (mNil)))) (m2 oIx (mV 0) (mC (.int 0))) (mV 3)) (sAsg 1 (m2 (oDiv) (mV 1) (mC (.int 64)))))) (sNil)))) }
noncomputable def b_l_three_ways : Body := { cut := false, ar := 3, sl := 8, code := fun C I => sSeq (sAsg 3 (m2 (oMod) (mN (fun S ds => C f_l_cell ds S) (mCons (mV 0) (mCons (mV 1) (mNil)))) (mC (.int 3)))) (sSeq (sAsg 4 (mN (fun S ds => C f_l_loft ds S) (mCons (mV 0) (mCons (m2 (oAdd false) (mV 1) (mC (.int 1))) (mCons (mV 2) (mCons (m2 (oCmp fun i j => decide (j < i)) (mV 3) (mC (.int 0))) (mNil))))))) (sSeq (sAsg 5 (m2 (oDiv) (mN (fun S ds => C f_l_cell ds S) (mCons (mV 0) (mCons (mV 1) (mNil)))) (mC (.int 6)))) (sSeq (sIf (mAnd (m2 (oEq) (mV 3) (mC (.int 2))) (m2 (oEq) (m2 (oMod) (m2 (oDiv) (mN (fun S ds => C f_l_cell ds S) (mCons (mV 0) (mCons (mV 1) (mNil)))) (mC (.int 3))) (mC (.int 2))) (mC (.int 1)))) (sDrop (mN (fun S ds => C f_l_two_turned ds S) (mCons (mV 4) (mCons (mV 5) (mNil))))) (sIf (m2 (oEq) (mV 3) (mC (.int 2))) (sSeq (sAsg 6 (m2 (oMod) (mV 5) (mN oLen (mCons (m2 oIx (mV 4) (mC (.int 0))) (mNil))))) (sSeq (sAsg 7 (mN (fun S ds => C f_l_many_knots ds S) (mCons (m2 oIx (m2 oIx (mV 4) (mC (.int 0))) (mV 6)) (mNil)))) (sSub (mN (fun S ds => C f_l_turned ds S) (mCons (m2 oIx (m2 oIx (mV 4) (mC (.int 0))) (mV 6)) (mCons (m2 (oMod) (m2 (oDiv) (mV 5) (mC (.int 64))) (m2 (oAdd false) (mV 7) (mC (.int 1)))) (mNil)))) (m2 oIx (mV 4) (mC (.int 0))) (mV 6)))) (sNil))) (sRet (mV 4))))) }
noncomputable def b_l_whole : Body := { cut := false, ar := 1, sl := 1, code := fun C I => sRet (mAnd (m1 (oIsT "int") (mV 0)) (mNot (m1 (oIsT "bool") (mV 0)))) }
noncomputable def b_l_hang : Body := { cut := false, ar := 1, sl := 1, code := fun C I => sSeq (sIf (mOr (mNot (m1 (oIsT "tuple") (mV 0))) (mOr (m2 (oNe) (mN oLen (mCons (mV 0) (mNil))) (mC (.int 3))) (mNot (m1 (oIsT "str") (m2 oIx (mV 0) (mC (.int 0))))))) (sRet (mC (.bl false))) (sNil)) (sSeq (sIf (mOr (m2 (oEq) (m2 oIx (mV 0) (mC (.int 0))) (mC (.str "fast"))) (m2 (oEq) (m2 oIx (mV 0) (mC (.int 0))) (mC (.str "loose")))) (sRet (mAnd (mN (fun S ds => C f_l_hang ds S) (mCons (m2 oIx (mV 0) (mC (.int 1))) (mNil))) (mN (fun S ds => C f_l_hang ds S) (mCons (m2 oIx (mV 0) (mC (.int 2))) (mNil))))) (sNil)) (sRet (mAnd (m1 (oIsT "str") (m2 oIx (mV 0) (mC (.int 1)))) (mN (fun S ds => C f_l_whole ds S) (mCons (m2 oIx (mV 0) (mC (.int 2))) (mNil)))))) }
noncomputable def b_l_hangs : Body := { cut := false, ar := 2, sl := 4, code := fun C I => sSeq (sIf (mOr (mNot (m1 (oIsT "list") (mV 0))) (m2 (oNe) (mN oLen (mCons (mV 0) (mNil))) (mN oLen (mCons (mV 1) (mNil))))) (sRet (mC (.bl false))) (sNil)) (sSeq (sFor (mCons (mV 0) (mCons (mV 1) (mNil))) itemsZ [2, 3] (sIf (mOr (mNot (mN (fun S ds => C f_l_hang ds S) (mCons (mV 2) (mNil)))) (m2 (oNe) (mV 2) (mV 3))) (sRet (mC (.bl false))) (sNil))) (sRet (mC (.bl true)))) }
noncomputable def b_l_pairs : Body := { cut := false, ar := 2, sl := 4, code := fun C I => sSeq (sIf (mOr (mNot (m1 (oIsT "list") (mV 0))) (m2 (oNe) (mN oLen (mCons (mV 0) (mNil))) (mN oLen (mCons (mV 1) (mNil))))) (sRet (mC (.bl false))) (sNil)) (sSeq (sFor (mCons (mV 0) (mCons (mV 1) (mNil))) itemsZ [2, 3] (sIf (mOr (mNot (m1 (oIsT "tuple") (mV 2))) (mNot (mN (fun S ds => C f_l_hangs ds S) (mCons (mN (oList false) (mCons (mV 2) (mNil))) (mCons (mN (oList false) (mCons (mV 3) (mNil))) (mNil)))))) (sRet (mC (.bl false))) (sNil))) (sRet (mC (.bl true)))) }
noncomputable def b_l_net : Body := { cut := false, ar := 4, sl := 4, code := fun C I => sSeq (sIf (mOr (mNot (m1 (oIsC 7) (mV 0))) (mOr (mNot (mN (fun S ds => C f_l_hangs ds S) (mCons (m1 (oFld 7 "rack") (mV 0)) (mCons (mV 1) (mNil))))) (mNot (mN (fun S ds => C f_l_pairs ds S) (mCons (m1 (oFld 7 "splices") (mV 0)) (mCons (mV 2) (mNil))))))) (sRet (mC (.bl false))) (sNil)) (sRet (mAnd (mN (fun S ds => C f_l_whole ds S) (mCons (m1 (oFld 7 "rings") (mV 0)) (mNil))) (m2 (oEq) (m1 (oFld 7 "rings") (mV 0)) (mV 3)))) }
noncomputable def b_l_bare : Body := { cut := false, ar := 1, sl := 1, code := fun C I => sSeq (sIf (mN (fun S ds => C f_l_is_tip ds S) (mCons (mV 0) (mNil))) (sRet (mN oTup (mCons (m2 oIx (mV 0) (mC (.int 0))) (mCons (m2 oIx (mV 0) (mC (.int 1))) (mCons (mC (.int 0)) (mNil)))))) (sNil)) (sRet (mN oTup (mCons (m2 oIx (mV 0) (mC (.int 0))) (mCons (mN (fun S ds => C f_l_bare ds S) (mCons (m2 oIx (mV 0) (mC (.int 1))) (mNil))) (mCons (mN (fun S ds => C f_l_bare ds S) (mCons (m2 oIx (mV 0) (mC (.int 2))) (mNil))) (mNil)))))) }
noncomputable def b_l_far_loft : Body := { cut := false, ar := 4, sl := 13, code := fun C I => sSeq (sAsg 4 (mN (fun S ds => C f_l_three_ways ds S) (mCons (mV 0) (mCons (mV 1) (mCons (mC (.int 9)) (mNil)))))) (sSeq (sAsg 5 (m2 (oAdd false) (m2 (oAdd false) (m2 oIx (m2 oIx (mV 2) (mC (.int 3))) (mC (.int 0))) (m2 (oMul false) (m2 oIx (m2 oIx (mV 2) (mC (.int 3))) (mC (.int 1))) (mC (.int 300)))) (m2 (oPow) (mC (.int 10)) (mC (.int 6))))) (sSeq (sAsg 6 (mComp false (mCons (m2 oIx (mV 4) (mC (.int 0))) mNil) itemsA [11] [11] (mC (.bl true)) (mN (fun S ds => C f_l_up ds S) (mCons (mV 11) (mCons (mV 5) (mNil)))))) (sSeq (sAsg 7 (mComp false (mCons (m2 oIx (mV 4) (mC (.int 2))) mNil) itemsA [12] [12] (mC (.bl true)) (mN oTup (mCons (mN (fun S ds => C f_l_up ds S) (mCons (m2 oIx (mV 12) (mC (.int 0))) (mCons (mV 5) (mNil)))) (mCons (mN (fun S ds => C f_l_up ds S) (mCons (m2 oIx (mV 12) (mC (.int 1))) (mCons (mV 5) (mNil)))) (mNil)))))) (sSeq (sAsg 8 (mN (fun S ds => C f_l_anew ds S) (mCons (mV 3) (mCons (m2 oIx (mV 2) (mC (.int 3))) (mNil))))) (sSeq (sAsg 9 (m2 (oMod) (m2 (oDiv) (mN (fun S ds => C f_l_cell ds S) (mCons (mV 0) (mCons (mV 1) (mNil)))) (mC (.int 3))) (m2 (oAdd false) (mN oLen (mCons (mV 6) (mNil))) (mC (.int 1))))) (sSeq (sAsg 10 (mN (fun S ds => C f_l_tips ds S) (mCons (mV 8) (mNil)))) (sRet (mN oTup (mCons (m2 (oAdd false) (m2 (oAdd false) (m2 (oAdd false) (mSl false (mV 6) (oNo) (oSome (mV 9))) (mN (oLst false) (mCons (mN (fun S ds => C f_l_mirror ds S) (mCons (mV 8) (mNil))) (mNil)))) (mSl false (mV 6) (oSome (mV 9)) (oNo))) (mV 10)) (mCons (mV 7) (mCons (mV 9) (mNil)))))))))))) }
noncomputable def b_l_up : Body := { cut := false, ar := 2, sl := 2, code := fun C I => sSeq (sIf (mN (fun S ds => C f_l_is_tip ds S) (mCons (mV 0) (mNil))) (sRet (mN oTup (mCons (m2 oIx (mV 0) (mC (.int 0))) (mCons (m2 oIx (mV 0) (mC (.int 1))) (mCons (m2 (oAdd false) (m2 oIx (mV 0) (mC (.int 2))) (mV 1)) (mNil)))))) (sNil)) (sRet (mN oTup (mCons (m2 oIx (mV 0) (mC (.int 0))) (mCons (mN (fun S ds => C f_l_up ds S) (mCons (m2 oIx (mV 0) (mC (.int 1))) (mCons (mV 1) (mNil)))) (mCons (mN (fun S ds => C f_l_up ds S) (mCons (m2 oIx (mV 0) (mC (.int 2))) (mCons (mV 1) (mNil)))) (mNil)))))) }
noncomputable def b_l_cords_k16 : Body := { cut := true, ar := 1, sl := 6, code := fun C I => sSeq (sAsg 1 (mN (oList true) (mCons (m1 (oFld 7 "rack") (mV 0)) (mNil)))) (sSeq (sFor (mCons (m1 (oFld 7 "splices") (mV 0)) mNil) itemsA [2] (sDrop (mBM "list" oExtendT (mV 1) (mCons (mV 2) (mNil))))) (sSeq (sAsg 3 (mN (oLst true) (mNil))) (sSeq (sFor (mCons (mV 1) mNil) itemsA [4] (sDrop (mBM "list" oExtend (mV 3) (mCons (mComp false (mCons (mN (fun S ds => C f_l_tips ds S) (mCons (mV 4) (mNil))) mNil) itemsA [5] [5] (mC (.bl true)) (m2 oIx (mV 5) (mC (.int 2)))) (mNil))))) (sRet (mV 3))))) }
noncomputable def b_l_alone_k16 : Body := { cut := false, ar := 2, sl := 3, code := fun C I => sNone }
noncomputable def b_l_joined_k16 : Body := { cut := false, ar := 4, sl := 5, code := fun C I => sTrys true (mN (fun S ds => C f_p_joined ds S) (mCons (mV 0) (mCons (mV 1) (mCons (mV 2) (mCons (mV 3) (mNil)))))) [2, 3, 4] 4 [(4, sRet (mC (.str "no place"))), (3, sRet (mC (.str "no mirror"))), (2, sRet (mC (.str "unfit")))] }
noncomputable def b_l_due_k16x : Body := { cut := false, ar := 4, sl := 6, code := fun C I => sSeq (sIf (mOr (m2 (oCmp fun i j => decide (i < j)) (mV 1) (mC (.int 0))) (mOr (m2 (oCmp fun i j => decide (j ≤ i)) (mV 1) (mN oLen (mCons (m1 (oFld 7 "rack") (mV 0)) (mNil)))) (mOr (m2 (oCmp fun i j => decide (i < j)) (mV 3) (mC (.int 0))) (m2 (oCmp fun i j => decide (j ≤ i)) (mV 3) (mN oLen (mCons (m1 (oFld 7 "rack") (mV 2)) (mNil))))))) (sRet (mC (.str "no place"))) (sNil)) (sSeq (sIf (m2 (oNe) (mN (fun S ds => C f_l_bare ds S) (mCons (mN (fun S ds => C f_l_mirror ds S) (mCons (m2 oIx (m1 (oFld 7 "rack") (mV 0)) (mV 1)) (mNil))) (mNil))) (mN (fun S ds => C f_l_bare ds S) (mCons (m2 oIx (m1 (oFld 7 "rack") (mV 2)) (mV 3)) (mNil)))) (sRet (mC (.str "no mirror"))) (sNil)) (sSeq (sAsg 4 (mN (fun S ds => C f_l_cords_k16 ds S) (mCons (mV 0) (mNil)))) (sSeq (sFor (mCons (mN (fun S ds => C f_l_cords_k16 ds S) (mCons (mV 2) (mNil))) mNil) itemsA [5] (sIf (m2 (oIn) (mV 5) (mV 4)) (sRet (mC (.str "unfit"))) (sNil))) (sRet (mC (.str "net")))))) }
noncomputable def b_law_k16 : Body := { cut := true, ar := 1, sl := 14, code := fun C I => sSeq (sAsg 1 (mN (fun S ds => C f_l_three_ways ds S) (mCons (mV 0) (mCons (mC (.int 4)) (mCons (mC (.int 9)) (mNil)))))) (sSeq (sIf (m2 (oEq) (m2 oIx (mV 1) (mC (.int 0))) (mN (oLst false) (mNil))) (sDrop (mN (fun S ds => C f_l_add_cord ds S) (mCons (mV 1) (mCons (mN (fun S ds => C f_l_cell ds S) (mCons (mV 0) (mCons (mC (.int 4)) (mNil)))) (mNil))))) (sNil)) (sSeq (sAsg 2 (m2 (oMod) (mN (fun S ds => C f_l_cell ds S) (mCons (mV 0) (mCons (mC (.int 0)) (mNil)))) (mN oLen (mCons (m2 oIx (mV 1) (mC (.int 0))) (mNil))))) (sSeq (sAsg 3 (mN (fun S ds => C f_l_far_loft ds S) (mCons (mV 0) (mCons (mC (.int 16)) (mCons (mV 1) (mCons (m2 oIx (m2 oIx (mV 1) (mC (.int 0))) (mV 2)) (mNil))))))) (sSeq (sAsg 4 (m2 oIx (mV 3) (mC (.int 2)))) (sSeq (sAsg 5 (m2 (oMod) (mN (fun S ds => C f_l_cell ds S) (mCons (mV 0) (mCons (mC (.int 1)) (mNil)))) (mC (.int 7)))) (sSeq (sIf (m2 (oEq) (mV 5) (mC (.int 1))) (sAsg 2 (m2 oIx (mN (oLst false) (mCons (m1 oNeg (mC (.int 1))) (mCons (mN oLen (mCons (m2 oIx (mV 1) (mC (.int 0))) (mNil))) (mCons (m2 (oAdd false) (mN oLen (mCons (m2 oIx (mV 1) (mC (.int 0))) (mNil))) (mC (.int 5))) (mNil))))) (m2 (oMod) (m2 (oDiv) (mN (fun S ds => C f_l_cell ds S) (mCons (mV 0) (mCons (mC (.int 1)) (mNil)))) (mC (.int 7))) (mC (.int 3))))) (sNil)) (sSeq (sIf (m2 (oEq) (mV 5) (mC (.int 2))) (sAsg 4 (m2 oIx (mN (oLst false) (mCons (m1 oNeg (mC (.int 1))) (mCons (mN oLen (mCons (m2 oIx (mV 3) (mC (.int 0))) (mNil))) (mCons (m2 (oAdd false) (mN oLen (mCons (m2 oIx (mV 3) (mC (.int 0))) (mNil))) (mC (.int 5))) (mNil))))) (m2 (oMod) (m2 (oDiv) (mN (fun S ds => C f_l_cell ds S) (mCons (mV 0) (mCons (mC (.int 1)) (mNil)))) (mC (.int 7))) (mC (.int 3))))) (sNil)) (sSeq (sIf (m2 (oEq) (mV 5) (mC (.int 3))) (sAsg 4 (m2 (oMod) (m2 (oDiv) (mN (fun S ds => C f_l_cell ds S) (mCons (mV 0) (mCons (mC (.int 1)) (mNil)))) (mC (.int 7))) (mN oLen (mCons (m2 oIx (mV 3) (mC (.int 0))) (mNil))))) (sNil)) (sSeq (sAsg 6 (m2 oIx (mV 3) (mC (.int 0)))) (sSeq (sIf (mOr (m2 (oEq) (mV 5) (mC (.int 4))) (mAnd (m2 (oIn) (mV 5) (mN oTup (mCons (mC (.int 1)) (mCons (mC (.int 3)) (mNil))))) (m2 (oEq) (m2 (oMod) (m2 (oDiv) (mN (fun S ds => C f_l_cell ds S) (mCons (mV 0) (mCons (mC (.int 1)) (mNil)))) (mC (.int 21))) (mC (.int 2))) (mC (.int 1))))) (sSeq (sAsg 7 (m2 oIx (m2 oIx (mN (fun S ds => C f_l_tips ds S) (mCons (m2 oIx (m2 oIx (mV 1) (mC (.int 0))) (mC (.int 0))) (mNil))) (mC (.int 0))) (mC (.int 2)))) (sAsg 6 (m2 (oAdd false) (mV 6) (mN (oLst false) (mCons (mN oTup (mCons (mC (.str "light")) (mCons (mC (.str "ash")) (mCons (mV 7) (mNil))))) (mCons (mN oTup (mCons (mC (.str "dark")) (mCons (mC (.str "ash")) (mCons (mV 7) (mNil))))) (mNil))))))) (sNil)) (sSeq (sAsg 8 (mMake 7 true (fun ds S => I f_p_Net_init ds S) [] (mCons (mN (oList false) (mCons (m2 oIx (mV 1) (mC (.int 0))) (mNil))) (mCons (mN (oList false) (mCons (m2 oIx (mV 1) (mC (.int 2))) (mNil))) (mCons (m2 (oMod) (mN (fun S ds => C f_l_cell ds S) (mCons (mV 0) (mCons (mC (.int 2)) (mNil)))) (mC (.int 3))) (mNil)))))) (sSeq (sAsg 9 (mMake 7 true (fun ds S => I f_p_Net_init ds S) [] (mCons (mN (oList false) (mCons (mV 6) (mNil))) (mCons (mN (oList false) (mCons (m2 oIx (mV 3) (mC (.int 1))) (mNil))) (mCons (m2 (oMod) (mN (fun S ds => C f_l_cell ds S) (mCons (mV 0) (mCons (mC (.int 3)) (mNil)))) (mC (.int 3))) (mNil)))))) (sSeq (sAsg 10 (mN (fun S ds => C f_l_due_k16x ds S) (mCons (mV 8) (mCons (mV 2) (mCons (mV 9) (mCons (mV 4) (mNil))))))) (sSeq (sAsg 11 (mN (fun S ds => C f_l_joined_k16 ds S) (mCons (mV 8) (mCons (mV 2) (mCons (mV 9) (mCons (mV 4) (mNil))))))) (sSeq (sIf (mNot (mN (fun S ds => C f_l_net ds S) (mCons (mV 8) (mCons (m2 oIx (mV 1) (mC (.int 0))) (mCons (m2 oIx (mV 1) (mC (.int 2))) (mCons (m2 (oMod) (mN (fun S ds => C f_l_cell ds S) (mCons (mV 0) (mCons (mC (.int 2)) (mNil)))) (mC (.int 3))) (mNil))))))) (sRet (mC (.bl false))) (sNil)) (sSeq (sIf (mNot (mN (fun S ds => C f_l_net ds S) (mCons (mV 9) (mCons (mV 6) (mCons (m2 oIx (mV 3) (mC (.int 1))) (mCons (m2 (oMod) (mN (fun S ds => C f_l_cell ds S) (mCons (mV 0) (mCons (mC (.int 3)) (mNil)))) (mC (.int 3))) (mNil))))))) (sRet (mC (.bl false))) (sNil)) (sSeq (sIf (m2 (oNe) (mV 10) (mC (.str "net"))) (sRet (mAnd (mNot (m1 (oIsC 7) (mV 11))) (m2 (oEq) (mV 11) (mV 10)))) (sNil)) (sSeq (sAsg 12 (m2 (oAdd true) (mSl false (m2 oIx (mV 1) (mC (.int 0))) (oNo) (oSome (mV 2))) (mSl false (m2 oIx (mV 1) (mC (.int 0))) (oSome (m2 (oAdd false) (mV 2) (mC (.int 1)))) (oNo)))) (sSeq (sDrop (mBM "list" oExtend (mV 12) (mCons (m2 (oAdd false) (mSl false (mV 6) (oNo) (oSome (mV 4))) (mSl false (mV 6) (oSome (m2 (oAdd false) (mV 4) (mC (.int 1)))) (oNo))) (mNil)))) (sSeq (sAsg 13 (m2 (oAdd false) (m2 (oAdd false) (m2 oIx (mV 1) (mC (.int 2))) (m2 oIx (mV 3) (mC (.int 1)))) (mN (oLst false) (mCons (mN oTup (mCons (m2 oIx (m2 oIx (mV 1) (mC (.int 0))) (mV 2)) (mCons (m2 oIx (mV 6) (mV 4)) (mNil)))) (mNil))))) (sRet (mN (fun S ds => C f_l_net ds S) (mCons (mV 11) (mCons (mV 12) (mCons (mV 13) (mCons (m2 (oAdd false) (m1 (oFld 7 "rings") (mV 8)) (m1 (oFld 7 "rings") (mV 9))) (mNil))))))))))))))))))))))))))) }
end Nl
namespace Nl
open PySem PySem.Spec PyProof.Rows L2 Sm
noncomputable def T : Nat → Option Body := fun i => ((f_p_is_tip, b_p_is_tip) :: (f_p_mirrors, b_p_mirrors) :: (f_p_tips, b_p_tips) :: (f_p_all_tips, b_p_all_tips) :: (f_p_Net_init, b_p_Net_init) :: (f_p_net_tips, b_p_net_tips) :: (f_p_check_cords, b_p_check_cords) :: (f_p_joined, b_p_joined) :: (f_l_stir, b_l_stir) :: (f_l_cell, b_l_cell) :: (f_l_cells, b_l_cells) :: (f_l_dye, b_l_dye) :: (f_l_book, b_l_book) :: (f_l_number, b_l_number) :: (f_l_is_tip, b_l_is_tip) :: (f_l_tips, b_l_tips) :: (f_l_mirror, b_l_mirror) :: (f_l_anew, b_l_anew) :: (f_l_add_cord, b_l_add_cord) :: (f_l_tie, b_l_tie) :: (f_l_add_knot, b_l_add_knot) :: (f_l_add_splice, b_l_add_splice) :: (f_l_close, b_l_close) :: (f_l_loft, b_l_loft) :: (f_l_many_knots, b_l_many_knots) :: (f_l_turned, b_l_turned) :: (f_l_words, b_l_words) :: (f_l_two_turned, b_l_two_turned) :: (f_l_three_ways, b_l_three_ways) :: (f_l_whole, b_l_whole) :: (f_l_hang, b_l_hang) :: (f_l_hangs, b_l_hangs) :: (f_l_pairs, b_l_pairs) :: (f_l_net, b_l_net) :: (f_l_bare, b_l_bare) :: (f_l_far_loft, b_l_far_loft) :: (f_l_up, b_l_up) :: (f_l_cords_k16, b_l_cords_k16) :: (f_l_alone_k16, b_l_alone_k16) :: (f_l_joined_k16, b_l_joined_k16) :: (f_l_due_k16x, b_l_due_k16x) :: (f_law_k16, b_law_k16) :: []).lookup i
abbrev N_p_is_tip : List Str := ["hang"]
abbrev N_p_is_tip_ps : List Str := ["hang"]
theorem sc_p_is_tip : FnScope N_p_is_tip ["hang"] (defScope s_p_is_tip) := ⟨rfl, rfl, rfl, by decide +kernel, rfl, by decide +kernel, by decide +kernel⟩
abbrev N_p_mirrors : List Str := ["one", "other"]
abbrev N_p_mirrors_ps : List Str := ["one", "other"]
theorem sc_p_mirrors : FnScope N_p_mirrors ["one", "other"] (defScope s_p_mirrors) := ⟨rfl, rfl, rfl, by decide +kernel, rfl, by decide +kernel, by decide +kernel⟩
abbrev N_p_tips : List Str := ["hang"]
abbrev N_p_tips_ps : List Str := ["hang"]
theorem sc_p_tips : FnScope N_p_tips ["hang"] (defScope s_p_tips) := ⟨rfl, rfl, rfl, by decide +kernel, rfl, by decide +kernel, by decide +kernel⟩
abbrev N_p_all_tips : List Str := ["hangs", "found", "hang"]
abbrev N_p_all_tips_ps : List Str := ["hangs"]
theorem sc_p_all_tips : FnScope N_p_all_tips ["hangs"] (defScope s_p_all_tips) := ⟨rfl, rfl, rfl, by decide +kernel, rfl, by decide +kernel, by decide +kernel⟩
abbrev N_p_Net_init : List Str := ["self", "rack", "splices", "rings", "pair"]
abbrev N_p_Net_init_ps : List Str := ["self", "rack", "splices", "rings"]
theorem sc_p_Net_init : FnScope N_p_Net_init ["self", "rack", "splices", "rings"] (defScope s_p_Net_init) := ⟨rfl, rfl, rfl, by decide +kernel, rfl, by decide +kernel, by decide +kernel⟩
abbrev N_p_net_tips : List Str := ["net", "found", "pair"]
abbrev N_p_net_tips_ps : List Str := ["net"]
theorem sc_p_net_tips : FnScope N_p_net_tips ["net"] (defScope s_p_net_tips) := ⟨rfl, rfl, rfl, by decide +kernel, rfl, by decide +kernel, by decide +kernel⟩
abbrev N_p_check_cords : List Str := ["found", "light", "dark", "tip", "side"]
abbrev N_p_check_cords_ps : List Str := ["found"]
theorem sc_p_check_cords : FnScope N_p_check_cords ["found"] (defScope s_p_check_cords) := ⟨rfl, rfl, rfl, by decide +kernel, rfl, by decide +kernel, by decide +kernel⟩
abbrev N_p_joined : List Str := ["one", "i", "other", "j", "rack", "splices"]
abbrev N_p_joined_ps : List Str := ["one", "i", "other", "j"]
theorem sc_p_joined : FnScope N_p_joined ["one", "i", "other", "j"] (defScope s_p_joined) := ⟨rfl, rfl, rfl, by decide +kernel, rfl, by decide +kernel, by decide +kernel⟩
abbrev N_l_stir : List Str := ["cell", "found", "factor", "mixed"]
abbrev N_l_stir_ps : List Str := ["cell"]
theorem sc_l_stir : FnScope N_l_stir ["cell"] (defScope s_l_stir) := ⟨rfl, rfl, rfl, by decide +kernel, rfl, by decide +kernel, by decide +kernel⟩
abbrev N_l_cell : List Str := ["script", "k"]
abbrev N_l_cell_ps : List Str := ["script", "k"]
theorem sc_l_cell : FnScope N_l_cell ["script", "k"] (defScope s_l_cell) := ⟨rfl, rfl, rfl, by decide +kernel, rfl, by decide +kernel, by decide +kernel⟩
abbrev N_l_cells : List Str := ["script", "first", "behind", "cell"]
abbrev N_l_cells_ps : List Str := ["script", "first", "behind"]
theorem sc_l_cells : FnScope N_l_cells ["script", "first", "behind"] (defScope s_l_cells) := ⟨rfl, rfl, rfl, by decide +kernel, rfl, by decide +kernel, by decide +kernel⟩
abbrev N_l_dye : List Str := ["cell", "size", "step", "k"]
abbrev N_l_dye_ps : List Str := ["cell"]
theorem sc_l_dye : FnScope N_l_dye ["cell"] (defScope s_l_dye) := ⟨rfl, rfl, rfl, by decide +kernel, rfl, by decide +kernel, by decide +kernel⟩
abbrev N_l_book : List Str := ["cell", "start"]
abbrev N_l_book_ps : List Str := ["cell"]
theorem sc_l_book : FnScope N_l_book ["cell"] (defScope s_l_book) := ⟨rfl, rfl, rfl, by decide +kernel, rfl, by decide +kernel, by decide +kernel⟩
abbrev N_l_number : List Str := ["book", "at"]
abbrev N_l_number_ps : List Str := ["book"]
theorem sc_l_number : FnScope N_l_number ["book"] (defScope s_l_number) := ⟨rfl, rfl, rfl, by decide +kernel, rfl, by decide +kernel, by decide +kernel⟩
abbrev N_l_is_tip : List Str := ["hang"]
abbrev N_l_is_tip_ps : List Str := ["hang"]
theorem sc_l_is_tip : FnScope N_l_is_tip ["hang"] (defScope s_l_is_tip) := ⟨rfl, rfl, rfl, by decide +kernel, rfl, by decide +kernel, by decide +kernel⟩
abbrev N_l_tips : List Str := ["hang"]
abbrev N_l_tips_ps : List Str := ["hang"]
theorem sc_l_tips : FnScope N_l_tips ["hang"] (defScope s_l_tips) := ⟨rfl, rfl, rfl, by decide +kernel, rfl, by decide +kernel, by decide +kernel⟩
abbrev N_l_mirror : List Str := ["hang", "word"]
abbrev N_l_mirror_ps : List Str := ["hang"]
theorem sc_l_mirror : FnScope N_l_mirror ["hang"] (defScope s_l_mirror) := ⟨rfl, rfl, rfl, by decide +kernel, rfl, by decide +kernel, by decide +kernel⟩
abbrev N_l_anew : List Str := ["hang", "book", "left"]
abbrev N_l_anew_ps : List Str := ["hang", "book"]
theorem sc_l_anew : FnScope N_l_anew ["hang", "book"] (defScope s_l_anew) := ⟨rfl, rfl, rfl, by decide +kernel, rfl, by decide +kernel, by decide +kernel⟩
abbrev N_l_add_cord : List Str := ["loft", "cell", "number", "dye", "pair"]
abbrev N_l_add_cord_ps : List Str := ["loft", "cell"]
theorem sc_l_add_cord : FnScope N_l_add_cord ["loft", "cell"] (defScope s_l_add_cord) := ⟨rfl, rfl, rfl, by decide +kernel, rfl, by decide +kernel, by decide +kernel⟩
abbrev N_l_tie : List Str := ["loft", "a", "b", "word", "spot", "keep", "one", "other", "hangs", "marks", "k", "mark"]
abbrev N_l_tie_ps : List Str := ["loft", "a", "b", "word", "spot"]
theorem sc_l_tie : FnScope N_l_tie ["loft", "a", "b", "word", "spot"] (defScope s_l_tie) := ⟨rfl, rfl, rfl, by decide +kernel, rfl, by decide +kernel, by decide +kernel⟩
abbrev N_l_add_knot : List Str := ["loft", "cell", "good", "many", "a", "b", "word"]
abbrev N_l_add_knot_ps : List Str := ["loft", "cell", "good"]
theorem sc_l_add_knot : FnScope N_l_add_knot ["loft", "cell", "good"] (defScope s_l_add_knot) := ⟨rfl, rfl, rfl, by decide +kernel, rfl, by decide +kernel, by decide +kernel⟩
abbrev N_l_add_splice : List Str := ["loft", "cell", "good", "a", "hang", "far", "pair"]
abbrev N_l_add_splice_ps : List Str := ["loft", "cell", "good"]
theorem sc_l_add_splice : FnScope N_l_add_splice ["loft", "cell", "good"] (defScope s_l_add_splice) := ⟨rfl, rfl, rfl, by decide +kernel, rfl, by decide +kernel, by decide +kernel⟩
abbrev N_l_close : List Str := ["loft", "cell", "spare", "k"]
abbrev N_l_close_ps : List Str := ["loft", "cell"]
theorem sc_l_close : FnScope N_l_close ["loft", "cell"] (defScope s_l_close) := ⟨rfl, rfl, rfl, by decide +kernel, rfl, by decide +kernel, by decide +kernel⟩
abbrev N_l_loft : List Str := ["script", "first", "most", "good", "loft", "cell"]
abbrev N_l_loft_ps : List Str := ["script", "first", "most", "good"]
theorem sc_l_loft : FnScope N_l_loft ["script", "first", "most", "good"] (defScope s_l_loft) := ⟨rfl, rfl, rfl, by decide +kernel, rfl, by decide +kernel, by decide +kernel⟩
abbrev N_l_many_knots : List Str := ["hang"]
abbrev N_l_many_knots_ps : List Str := ["hang"]
theorem sc_l_many_knots : FnScope N_l_many_knots ["hang"] (defScope s_l_many_knots) := ⟨rfl, rfl, rfl, by decide +kernel, rfl, by decide +kernel, by decide +kernel⟩
abbrev N_l_turned : List Str := ["hang", "at", "left"]
abbrev N_l_turned_ps : List Str := ["hang", "at"]
theorem sc_l_turned : FnScope N_l_turned ["hang", "at"] (defScope s_l_turned) := ⟨rfl, rfl, rfl, by decide +kernel, rfl, by decide +kernel, by decide +kernel⟩
abbrev N_l_words : List Str := ["hang"]
abbrev N_l_words_ps : List Str := ["hang"]
theorem sc_l_words : FnScope N_l_words ["hang"] (defScope s_l_words) := ⟨rfl, rfl, rfl, by decide +kernel, rfl, by decide +kernel, by decide +kernel⟩
abbrev N_l_two_turned : List Str := ["loft", "cell", "found", "spot", "hang", "at", "word"]
abbrev N_l_two_turned_ps : List Str := ["loft", "cell"]
theorem sc_l_two_turned : FnScope N_l_two_turned ["loft", "cell"] (defScope s_l_two_turned) := ⟨rfl, rfl, rfl, by decide +kernel, rfl, by decide +kernel, by decide +kernel⟩
abbrev N_l_three_ways : List Str := ["script", "first", "most", "mode", "loft", "cell", "spot", "many"]
abbrev N_l_three_ways_ps : List Str := ["script", "first", "most"]
theorem sc_l_three_ways : FnScope N_l_three_ways ["script", "first", "most"] (defScope s_l_three_ways) := ⟨rfl, rfl, rfl, by decide +kernel, rfl, by decide +kernel, by decide +kernel⟩
abbrev N_l_whole : List Str := ["found"]
abbrev N_l_whole_ps : List Str := ["found"]
theorem sc_l_whole : FnScope N_l_whole ["found"] (defScope s_l_whole) := ⟨rfl, rfl, rfl, by decide +kernel, rfl, by decide +kernel, by decide +kernel⟩
abbrev N_l_hang : List Str := ["found"]
abbrev N_l_hang_ps : List Str := ["found"]
theorem sc_l_hang : FnScope N_l_hang ["found"] (defScope s_l_hang) := ⟨rfl, rfl, rfl, by decide +kernel, rfl, by decide +kernel, by decide +kernel⟩
abbrev N_l_hangs : List Str := ["found", "due", "one", "other"]
abbrev N_l_hangs_ps : List Str := ["found", "due"]
theorem sc_l_hangs : FnScope N_l_hangs ["found", "due"] (defScope s_l_hangs) := ⟨rfl, rfl, rfl, by decide +kernel, rfl, by decide +kernel, by decide +kernel⟩
abbrev N_l_pairs : List Str := ["found", "due", "one", "other"]
abbrev N_l_pairs_ps : List Str := ["found", "due"]
theorem sc_l_pairs : FnScope N_l_pairs ["found", "due"] (defScope s_l_pairs) := ⟨rfl, rfl, rfl, by decide +kernel, rfl, by decide +kernel, by decide +kernel⟩
abbrev N_l_net : List Str := ["found", "rack", "splices", "rings"]
abbrev N_l_net_ps : List Str := ["found", "rack", "splices", "rings"]
theorem sc_l_net : FnScope N_l_net ["found", "rack", "splices", "rings"] (defScope s_l_net) := ⟨rfl, rfl, rfl, by decide +kernel, rfl, by decide +kernel, by decide +kernel⟩
abbrev N_l_bare : List Str := ["hang"]
abbrev N_l_bare_ps : List Str := ["hang"]
theorem sc_l_bare : FnScope N_l_bare ["hang"] (defScope s_l_bare) := ⟨rfl, rfl, rfl, by decide +kernel, rfl, by decide +kernel, by decide +kernel⟩
abbrev N_l_far_loft : List Str := ["script", "first", "loft", "hang", "other", "lift", "rack", "splices", "far", "spot", "tips_of", "one", "pair"]
abbrev N_l_far_loft_ps : List Str := ["script", "first", "loft", "hang"]
theorem sc_l_far_loft : FnScope N_l_far_loft ["script", "first", "loft", "hang"] (defScope s_l_far_loft) := ⟨rfl, rfl, rfl, by decide +kernel, rfl, by decide +kernel, by decide +kernel⟩
abbrev N_l_up : List Str := ["hang", "step"]
abbrev N_l_up_ps : List Str := ["hang", "step"]
theorem sc_l_up : FnScope N_l_up ["hang", "step"] (defScope s_l_up) := ⟨rfl, rfl, rfl, by decide +kernel, rfl, by decide +kernel, by decide +kernel⟩
abbrev N_l_cords_k16 : List Str := ["net", "hangs", "pair", "found", "hang", "tip"]
abbrev N_l_cords_k16_ps : List Str := ["net"]
theorem sc_l_cords_k16 : FnScope N_l_cords_k16 ["net"] (defScope s_l_cords_k16) := ⟨rfl, rfl, rfl, by decide +kernel, rfl, by decide +kernel, by decide +kernel⟩
abbrev N_l_alone_k16 : List Str := ["e", "kind", "answer"]
abbrev N_l_alone_k16_ps : List Str := ["e", "kind"]
theorem sc_l_alone_k16 : FnScope N_l_alone_k16 ["e", "kind"] (defScope s_l_alone_k16) := ⟨rfl, rfl, rfl, by decide +kernel, rfl, by decide +kernel, by decide +kernel⟩
abbrev N_l_joined_k16 : List Str := ["one", "i", "other", "j", "e"]
abbrev N_l_joined_k16_ps : List Str := ["one", "i", "other", "j"]
theorem sc_l_joined_k16 : FnScope N_l_joined_k16 ["one", "i", "other", "j"] (defScope s_l_joined_k16) := ⟨rfl, rfl, rfl, by decide +kernel, rfl, by decide +kernel, by decide +kernel⟩
abbrev N_l_due_k16x : List Str := ["one", "i", "other", "j", "known", "cord"]
abbrev N_l_due_k16x_ps : List Str := ["one", "i", "other", "j"]
theorem sc_l_due_k16x : FnScope N_l_due_k16x ["one", "i", "other", "j"] (defScope s_l_due_k16x) := ⟨rfl, rfl, rfl, by decide +kernel, rfl, by decide +kernel, by decide +kernel⟩
abbrev N_law_k16 : List Str := ["script", "loft", "i", "far", "j", "mode", "rack", "cord", "one", "other", "due", "found", "row", "pairs"]
abbrev N_law_k16_ps : List Str := ["script"]
theorem sc_law_k16 : FnScope N_law_k16 ["script"] (defScope s_law_k16) := ⟨rfl, rfl, rfl, by decide +kernel, rfl, by decide +kernel, by decide +kernel⟩
def sg : List (Nat × Str × List Str) := ((f_p_is_tip, "is_tip", ["hang"]) :: (f_p_mirrors, "mirrors", ["one", "other"]) :: (f_p_tips, "tips", ["hang"]) :: (f_p_net_tips, "net_tips", ["net"]) :: (f_p_check_cords, "check_cords", ["found"]) :: (f_p_all_tips, "all_tips", ["hangs"]) :: (f_l_stir, "_law_stir", ["cell"]) :: (f_l_is_tip, "_law_is_tip", ["hang"]) :: (f_l_tips, "_law_tips", ["hang"]) :: (f_l_mirror, "_law_mirror", ["hang"]) :: (f_l_number, "_law_number", ["book"]) :: (f_l_anew, "_law_anew", ["hang", "book"]) :: (f_l_dye, "_law_dye", ["cell"]) :: (f_l_tie, "_law_tie", ["loft", "a", "b", "word", "spot"]) :: (f_l_add_cord, "_law_add_cord", ["loft", "cell"]) :: (f_l_cell, "_law_cell", ["script", "k"]) :: (f_l_book, "_law_book", ["cell"]) :: (f_l_cells, "_law_cells", ["script", "first", "behind"]) :: (f_l_add_splice, "_law_add_splice", ["loft", "cell", "good"]) :: (f_l_add_knot, "_law_add_knot", ["loft", "cell", "good"]) :: (f_l_close, "_law_close", ["loft", "cell"]) :: (f_l_many_knots, "_law_many_knots", ["hang"]) :: (f_l_turned, "_law_turned", ["hang", "at"]) :: (f_l_words, "_law_words", ["hang"]) :: (f_l_loft, "_law_loft", ["script", "first", "most", "good"]) :: (f_l_two_turned, "_law_two_turned", ["loft", "cell"]) :: (f_l_hang, "_law_hang", ["found"]) :: (f_l_whole, "_law_whole", ["found"]) :: (f_l_hangs, "_law_hangs", ["found", "due"]) :: (f_l_pairs, "_law_pairs", ["found", "due"]) :: (f_l_bare, "_law_bare", ["hang"]) :: (f_l_three_ways, "_law_three_ways", ["script", "first", "most"]) :: (f_l_up, "_law_up", ["hang", "step"]) :: (f_p_joined, "joined", ["one", "i", "other", "j"]) :: (f_l_cords_k16, "_law_cords", ["net"]) :: (f_l_far_loft, "_law_far_loft", ["script", "first", "loft", "hang"]) :: (f_l_due_k16x, "_law_due", ["one", "i", "other", "j"]) :: (f_l_joined_k16, "_law_joined", ["one", "i", "other", "j"]) :: (f_l_net, "_law_net", ["found", "rack", "splices", "rings"]) :: (f_law_k16, "law", ["script"]) :: (f_l_alone_k16, "_law_alone", ["e", "kind"]) :: [])
def mts : List (Nat × Nat × Str × List Str) := []
def mks : List (Nat × Str × Nat × List Str × List D) := [(f_p_Net_init, "Net", 7, ["self", "rack", "splices", "rings"], [])]
section
variable {P : Program} {w : World} {K : PySem.W.Frag} {mg : Str → Option Value} {base : Heap} {n : Nat} {C I : Orc}
noncomputable def ma2 : MS := sSeq (sAsg 2 (mN (oLst false) (mCons (mC (.bl false)) (mCons (mC (.bl false)) (mCons (mC (.bl true)) (mNil)))))) (sSeq (sIf (mAnd (m2 (oEq) (mBM "list" oCountB (mV 2) (mCons (mC (.bl true)) (mNil))) (mC (.int 1))) (mAnd (mC (.bl true)) (mC (.bl true)))) (sRet (mV 1)) sNil) (sRet (mC (.str "odd"))))
set_option maxHeartbeats 1000000 in
theorem da2 (Z : Lk P w K mg base sg mts mks fa (gxOf ga) n C I) (f : Addr) (cdv : Value) (A : Around) (outer : List PySem.Env) (s : Shared) (H : Hp) (E : XK) (p : Addr × Obj) (hz : L2N.Zn (.ref (caK K 2)) none p.2) (hf : ∃ vs, p.2.data = .fields vs) (hot : L2H.Hot1 A p) (hr : L2H.RoomH n (A.deeper (envOfC "_law_alone" (defScope s_l_alone_k16) s.heap.objs.size f cdv))) :
    PSs (L2H.cxH (L2N.CX P w) P w K mg base N_l_alone_k16 "_law_alone" (defScope s_l_alone_k16) f cdv A outer s H E p) (defBody s_l_alone_k16) (tSG K (caK K) (gP 0 p.1) ma2) := by
  have nd := sc_l_alone_k16.nd
  have hu64 : (A.deeper (envOfC "_law_alone" (defScope s_l_alone_k16) s.heap.objs.size f cdv)).units + 64 < cLine := by have := hr.un; omega
  have hp : (p.1, p.2) ∈ [p] := List.mem_cons_self
  unfold ma2
  exact g_seq (g_set (j := 2) (gP_set (by decide)) (g_lst (ga_cons (g_is (qp_is (cv := .ref (caK K 4)) (u := .ref (caK K 4)) (excC_of (Z.gf 2 _ rfl)) hz hf hp rfl (Z.bl 15 "isinstance" rfl) (pv 0) (pe_glob rfl (Z.gx 12 4 rfl) rfl) (fun w h => h) (of_decide_eq_true (Z.gf 5 _ rfl)))) (ga_cons (g_is (qp_is (cv := .ref (caK K 3)) (u := .ref (caK K 3)) (excC_of (Z.gf 2 _ rfl)) hz hf hp rfl (Z.bl 15 "isinstance" rfl) (pv 0) (pe_glob rfl (Z.gx 7 3 rfl) rfl) (fun w h => h) (of_decide_eq_true (Z.gf 4 _ rfl)))) (ga_cons (g_is (qp_is (cv := .ref (caK K 2)) (u := .ref (caK K 2)) (excC_of (Z.gf 2 _ rfl)) hz hf hp rfl (Z.bl 15 "isinstance" rfl) (pv 0) (pe_glob rfl (Z.gx 9 2 rfl) rfl) (fun w h => h) (of_decide_eq_true (Z.gf 3 _ rfl)))) (ga_nil))))) nd rfl (Or.inl rfl)) (g_seq (g_if (PW.pt (g_wand (g_t (qt_cmp (or_eq hu64) (s_eq) (q_bm PySem.F.plainAttrs_list PySem.F.slot_list_count PySem.F.type_list_count mt_bcount s_countB (q_var 2 (pv 2)) (qa_cons (q_bl) (qa_nil))) (q_int) (nomark _))) (g_wand (g_tv (g_is (qp_is (cv := .ref (caK K 0)) (u := .ref (caK K 0)) (excC_of (Z.gf 2 _ rfl)) hz hf hp rfl (Z.bl 15 "isinstance" rfl) (pv 0) (pe_glob rfl (Z.gx 30 0 rfl) rfl) (fun w h => h) (of_decide_eq_true (Z.gf 6 _ rfl))))) (g_w1 (g_tv (g_is (qp_is (cv := .ty "ValueError") (u := .type "ValueError") (excC_of (Z.gf 2 _ rfl)) hz hf hp rfl (Z.bl 15 "isinstance" rfl) (pv 0) (pe_bltn (v := .ty "ValueError") rfl (Z.bl 31 "ValueError" rfl) (by decide +kernel) rfl) (fun w h => h) (of_decide_eq_true (Z.gf 7 _ rfl))))))))) (g_one (g_ret (g_e (q_var 1 (pv 1)))))) (g_one (g_ret (g_e (q_str)))))
noncomputable def ma3 : MS := sSeq (sAsg 2 (mN (oLst false) (mCons (mC (.bl false)) (mCons (mC (.bl true)) (mCons (mC (.bl false)) (mNil)))))) (sSeq (sIf (mAnd (m2 (oEq) (mBM "list" oCountB (mV 2) (mCons (mC (.bl true)) (mNil))) (mC (.int 1))) (mAnd (mC (.bl true)) (mC (.bl true)))) (sRet (mV 1)) sNil) (sRet (mC (.str "odd"))))
set_option maxHeartbeats 1000000 in
theorem da3 (Z : Lk P w K mg base sg mts mks fa (gxOf ga) n C I) (f : Addr) (cdv : Value) (A : Around) (outer : List PySem.Env) (s : Shared) (H : Hp) (E : XK) (p : Addr × Obj) (hz : L2N.Zn (.ref (caK K 3)) none p.2) (hf : ∃ vs, p.2.data = .fields vs) (hot : L2H.Hot1 A p) (hr : L2H.RoomH n (A.deeper (envOfC "_law_alone" (defScope s_l_alone_k16) s.heap.objs.size f cdv))) :
    PSs (L2H.cxH (L2N.CX P w) P w K mg base N_l_alone_k16 "_law_alone" (defScope s_l_alone_k16) f cdv A outer s H E p) (defBody s_l_alone_k16) (tSG K (caK K) (gP 0 p.1) ma3) := by
  have nd := sc_l_alone_k16.nd
  have hu64 : (A.deeper (envOfC "_law_alone" (defScope s_l_alone_k16) s.heap.objs.size f cdv)).units + 64 < cLine := by have := hr.un; omega
  have hp : (p.1, p.2) ∈ [p] := List.mem_cons_self
  unfold ma3
  exact g_seq (g_set (j := 2) (gP_set (by decide)) (g_lst (ga_cons (g_is (qp_is (cv := .ref (caK K 4)) (u := .ref (caK K 4)) (excC_of (Z.gf 8 _ rfl)) hz hf hp rfl (Z.bl 15 "isinstance" rfl) (pv 0) (pe_glob rfl (Z.gx 12 4 rfl) rfl) (fun w h => h) (of_decide_eq_true (Z.gf 11 _ rfl)))) (ga_cons (g_is (qp_is (cv := .ref (caK K 3)) (u := .ref (caK K 3)) (excC_of (Z.gf 8 _ rfl)) hz hf hp rfl (Z.bl 15 "isinstance" rfl) (pv 0) (pe_glob rfl (Z.gx 7 3 rfl) rfl) (fun w h => h) (of_decide_eq_true (Z.gf 10 _ rfl)))) (ga_cons (g_is (qp_is (cv := .ref (caK K 2)) (u := .ref (caK K 2)) (excC_of (Z.gf 8 _ rfl)) hz hf hp rfl (Z.bl 15 "isinstance" rfl) (pv 0) (pe_glob rfl (Z.gx 9 2 rfl) rfl) (fun w h => h) (of_decide_eq_true (Z.gf 9 _ rfl)))) (ga_nil))))) nd rfl (Or.inl rfl)) (g_seq (g_if (PW.pt (g_wand (g_t (qt_cmp (or_eq hu64) (s_eq) (q_bm PySem.F.plainAttrs_list PySem.F.slot_list_count PySem.F.type_list_count mt_bcount s_countB (q_var 2 (pv 2)) (qa_cons (q_bl) (qa_nil))) (q_int) (nomark _))) (g_wand (g_tv (g_is (qp_is (cv := .ref (caK K 0)) (u := .ref (caK K 0)) (excC_of (Z.gf 8 _ rfl)) hz hf hp rfl (Z.bl 15 "isinstance" rfl) (pv 0) (pe_glob rfl (Z.gx 30 0 rfl) rfl) (fun w h => h) (of_decide_eq_true (Z.gf 12 _ rfl))))) (g_w1 (g_tv (g_is (qp_is (cv := .ty "ValueError") (u := .type "ValueError") (excC_of (Z.gf 8 _ rfl)) hz hf hp rfl (Z.bl 15 "isinstance" rfl) (pv 0) (pe_bltn (v := .ty "ValueError") rfl (Z.bl 31 "ValueError" rfl) (by decide +kernel) rfl) (fun w h => h) (of_decide_eq_true (Z.gf 13 _ rfl))))))))) (g_one (g_ret (g_e (q_var 1 (pv 1)))))) (g_one (g_ret (g_e (q_str)))))
noncomputable def ma4 : MS := sSeq (sAsg 2 (mN (oLst false) (mCons (mC (.bl true)) (mCons (mC (.bl false)) (mCons (mC (.bl false)) (mNil)))))) (sSeq (sIf (mAnd (m2 (oEq) (mBM "list" oCountB (mV 2) (mCons (mC (.bl true)) (mNil))) (mC (.int 1))) (mAnd (mC (.bl true)) (mC (.bl true)))) (sRet (mV 1)) sNil) (sRet (mC (.str "odd"))))
set_option maxHeartbeats 1000000 in
theorem da4 (Z : Lk P w K mg base sg mts mks fa (gxOf ga) n C I) (f : Addr) (cdv : Value) (A : Around) (outer : List PySem.Env) (s : Shared) (H : Hp) (E : XK) (p : Addr × Obj) (hz : L2N.Zn (.ref (caK K 4)) none p.2) (hf : ∃ vs, p.2.data = .fields vs) (hot : L2H.Hot1 A p) (hr : L2H.RoomH n (A.deeper (envOfC "_law_alone" (defScope s_l_alone_k16) s.heap.objs.size f cdv))) :
    PSs (L2H.cxH (L2N.CX P w) P w K mg base N_l_alone_k16 "_law_alone" (defScope s_l_alone_k16) f cdv A outer s H E p) (defBody s_l_alone_k16) (tSG K (caK K) (gP 0 p.1) ma4) := by
  have nd := sc_l_alone_k16.nd
  have hu64 : (A.deeper (envOfC "_law_alone" (defScope s_l_alone_k16) s.heap.objs.size f cdv)).units + 64 < cLine := by have := hr.un; omega
  have hp : (p.1, p.2) ∈ [p] := List.mem_cons_self
  unfold ma4
  exact g_seq (g_set (j := 2) (gP_set (by decide)) (g_lst (ga_cons (g_is (qp_is (cv := .ref (caK K 4)) (u := .ref (caK K 4)) (excC_of (Z.gf 14 _ rfl)) hz hf hp rfl (Z.bl 15 "isinstance" rfl) (pv 0) (pe_glob rfl (Z.gx 12 4 rfl) rfl) (fun w h => h) (of_decide_eq_true (Z.gf 17 _ rfl)))) (ga_cons (g_is (qp_is (cv := .ref (caK K 3)) (u := .ref (caK K 3)) (excC_of (Z.gf 14 _ rfl)) hz hf hp rfl (Z.bl 15 "isinstance" rfl) (pv 0) (pe_glob rfl (Z.gx 7 3 rfl) rfl) (fun w h => h) (of_decide_eq_true (Z.gf 16 _ rfl)))) (ga_cons (g_is (qp_is (cv := .ref (caK K 2)) (u := .ref (caK K 2)) (excC_of (Z.gf 14 _ rfl)) hz hf hp rfl (Z.bl 15 "isinstance" rfl) (pv 0) (pe_glob rfl (Z.gx 9 2 rfl) rfl) (fun w h => h) (of_decide_eq_true (Z.gf 15 _ rfl)))) (ga_nil))))) nd rfl (Or.inl rfl)) (g_seq (g_if (PW.pt (g_wand (g_t (qt_cmp (or_eq hu64) (s_eq) (q_bm PySem.F.plainAttrs_list PySem.F.slot_list_count PySem.F.type_list_count mt_bcount s_countB (q_var 2 (pv 2)) (qa_cons (q_bl) (qa_nil))) (q_int) (nomark _))) (g_wand (g_tv (g_is (qp_is (cv := .ref (caK K 0)) (u := .ref (caK K 0)) (excC_of (Z.gf 14 _ rfl)) hz hf hp rfl (Z.bl 15 "isinstance" rfl) (pv 0) (pe_glob rfl (Z.gx 30 0 rfl) rfl) (fun w h => h) (of_decide_eq_true (Z.gf 18 _ rfl))))) (g_w1 (g_tv (g_is (qp_is (cv := .ty "ValueError") (u := .type "ValueError") (excC_of (Z.gf 14 _ rfl)) hz hf hp rfl (Z.bl 15 "isinstance" rfl) (pv 0) (pe_bltn (v := .ty "ValueError") rfl (Z.bl 31 "ValueError" rfl) (by decide +kernel) rfl) (fun w h => h) (of_decide_eq_true (Z.gf 19 _ rfl))))))))) (g_one (g_ret (g_e (q_var 1 (pv 1)))))) (g_one (g_ret (g_e (q_str)))))
set_option maxHeartbeats 1000000 in
theorem d_p_is_tip (Z : Lk P w K mg base sg mts mks fa (gxOf ga) n C I) (f : Addr) (cdv : Value) (A : Around) (outer : List PySem.Env) (s : Shared) (H : Hp) (E : XK) (hr : Room (n + 1) (A.deeper (envOfC "is_tip" (defScope s_p_is_tip) s.heap.objs.size f cdv))) :
    PSs (cxOf (L2N.CX P w) P w K mg base N_p_is_tip "is_tip" (defScope s_p_is_tip) f cdv A outer s H E) (defBody s_p_is_tip) (tSOf K (caK K) E (b_p_is_tip.code C I)) := by
  have nd := sc_p_is_tip.nd
  have hu := hu_of hr
  have hu65 : (A.deeper (envOfC "is_tip" (defScope s_p_is_tip) s.heap.objs.size f cdv)).units + 65 < cLine := by have := hr.un; omega
  dsimp only [b_p_is_tip]
  exact qs_one (qs_ret (q_or (q_cmp (or_eq hr.units) (s_eq) (q_ix (or_ix hu) s_ix (q_var 0 (pv 0)) (q_int) (fun _ _ => rfl)) (q_str) (nomark _)) (q_one (q_cmp (or_eq hr.units) (s_eq) (q_ix (or_ix hu) s_ix (q_var 0 (pv 0)) (q_int) (fun _ _ => rfl)) (q_str) (nomark _)))))
set_option maxHeartbeats 1000000 in
theorem d_p_mirrors (Z : Lk P w K mg base sg mts mks fa (gxOf ga) n C I) (f : Addr) (cdv : Value) (A : Around) (outer : List PySem.Env) (s : Shared) (H : Hp) (E : XK) (hr : Room (n + 1) (A.deeper (envOfC "mirrors" (defScope s_p_mirrors) s.heap.objs.size f cdv))) :
    PSs (cxOf (L2N.CX P w) P w K mg base N_p_mirrors "mirrors" (defScope s_p_mirrors) f cdv A outer s H E) (defBody s_p_mirrors) (tSOf K (caK K) E (b_p_mirrors.code C I)) := by
  have nd := sc_p_mirrors.nd
  have hu := hu_of hr
  have hu65 : (A.deeper (envOfC "mirrors" (defScope s_p_mirrors) s.heap.objs.size f cdv)).units + 65 < cLine := by have := hr.un; omega
  dsimp only [b_p_mirrors]
  exact qs_seq (qs_if (PW.pt (qw_or (qt_cmp (or_ne hr.units) (s_ne) (q_fn (Z.fn 0 f_p_is_tip "is_tip" ["hang"] rfl) hr rfl (L2N.takes_of rfl rfl rfl rfl) (qa_cons (q_var 0 (pv 0)) (qa_nil))) (q_fn (Z.fn 0 f_p_is_tip "is_tip" ["hang"] rfl) hr rfl (L2N.takes_of rfl rfl rfl rfl) (qa_cons (q_var 1 (pv 1)) (qa_nil))) (nomark _)) (qw_or1 (qt_cmp (or_eq hr.units) (s_eq) (q_ix (or_ix hu) s_ix (q_var 0 (pv 0)) (q_int) (fun _ _ => rfl)) (q_ix (or_ix hu) s_ix (q_var 1 (pv 1)) (q_int) (fun _ _ => rfl)) (nomark _))))) (qs_one (qs_ret (q_bl))) (qs_nil)) (qs_seq (qs_if (qt_val (q_fn (Z.fn 0 f_p_is_tip "is_tip" ["hang"] rfl) hr rfl (L2N.takes_of rfl rfl rfl rfl) (qa_cons (q_var 0 (pv 0)) (qa_nil)))) (qs_one (qs_ret (q_cmp (or_eq hr.units) (s_eq) (q_ix (or_ix hu) s_ix (q_var 0 (pv 0)) (q_int) (fun _ _ => rfl)) (q_ix (or_ix hu) s_ix (q_var 1 (pv 1)) (q_int) (fun _ _ => rfl)) (nomark _)))) (qs_nil)) (qs_one (qs_ret (q_and (q_fn (Z.fn 1 f_p_mirrors "mirrors" ["one", "other"] rfl) hr rfl (L2N.takes_of rfl rfl rfl rfl) (qa_cons (q_ix (or_ix hu) s_ix (q_var 0 (pv 0)) (q_int) (fun _ _ => rfl)) (qa_cons (q_ix (or_ix hu) s_ix (q_var 1 (pv 1)) (q_int) (fun _ _ => rfl)) (qa_nil)))) (q_one (q_fn (Z.fn 1 f_p_mirrors "mirrors" ["one", "other"] rfl) hr rfl (L2N.takes_of rfl rfl rfl rfl) (qa_cons (q_ix (or_ix hu) s_ix (q_var 0 (pv 0)) (q_int) (fun _ _ => rfl)) (qa_cons (q_ix (or_ix hu) s_ix (q_var 1 (pv 1)) (q_int) (fun _ _ => rfl)) (qa_nil)))))))))
set_option maxHeartbeats 1000000 in
theorem d_p_tips (Z : Lk P w K mg base sg mts mks fa (gxOf ga) n C I) (f : Addr) (cdv : Value) (A : Around) (outer : List PySem.Env) (s : Shared) (H : Hp) (E : XK) (hr : Room (n + 1) (A.deeper (envOfC "tips" (defScope s_p_tips) s.heap.objs.size f cdv))) :
    PSs (cxOf (L2N.CX P w) P w K mg base N_p_tips "tips" (defScope s_p_tips) f cdv A outer s H E) (defBody s_p_tips) (tSOf K (caK K) E (b_p_tips.code C I)) := by
  have nd := sc_p_tips.nd
  have hu := hu_of hr
  have hu65 : (A.deeper (envOfC "tips" (defScope s_p_tips) s.heap.objs.size f cdv)).units + 65 < cLine := by have := hr.un; omega
  dsimp only [b_p_tips]
  exact qs_seq (qs_if (qt_val (q_fn (Z.fn 0 f_p_is_tip "is_tip" ["hang"] rfl) hr rfl (L2N.takes_of rfl rfl rfl rfl) (qa_cons (q_var 0 (pv 0)) (qa_nil)))) (qs_one (qs_ret (q_lst (qa_cons (q_var 0 (pv 0)) (qa_nil))))) (qs_nil)) (qs_one (qs_ret (q_op or_add (s_add false) (q_fn (Z.fn 2 f_p_tips "tips" ["hang"] rfl) hr rfl (L2N.takes_of rfl rfl rfl rfl) (qa_cons (q_ix (or_ix hu) s_ix (q_var 0 (pv 0)) (q_int) (fun _ _ => rfl)) (qa_nil))) (q_fn (Z.fn 2 f_p_tips "tips" ["hang"] rfl) hr rfl (L2N.takes_of rfl rfl rfl rfl) (qa_cons (q_ix (or_ix hu) s_ix (q_var 0 (pv 0)) (q_int) (fun _ _ => rfl)) (qa_nil))))))
set_option maxHeartbeats 1000000 in
theorem d_p_all_tips (Z : Lk P w K mg base sg mts mks fa (gxOf ga) n C I) (f : Addr) (cdv : Value) (A : Around) (outer : List PySem.Env) (s : Shared) (H : Hp) (E : XK) (hr : Room (n + 1) (A.deeper (envOfC "all_tips" (defScope s_p_all_tips) s.heap.objs.size f cdv))) :
    PSs (cxOf (L2N.CX P w) P w K mg base N_p_all_tips "all_tips" (defScope s_p_all_tips) f cdv A outer s H E) (defBody s_p_all_tips) (tSOf K (caK K) E (b_p_all_tips.code C I)) := by
  have nd := sc_p_all_tips.nd
  have hu := hu_of hr
  have hu65 : (A.deeper (envOfC "all_tips" (defScope s_p_all_tips) s.heap.objs.size f cdv)).units + 65 < cLine := by have := hr.un; omega
  dsimp only [b_p_all_tips]
  exact qs_seq (qs_set (i := 1) (q_lst (qa_nil)) nd rfl (Or.inl rfl)) (qs_seq (qs_for it_any (passes_of rfl) rfl (pi_any (q_var 0 (pv 0))) (pg_name (i := 2) nd rfl (Or.inl rfl)) (qs_one (qs_expr (q_bm PySem.F.plainAttrs_list PySem.F.slot_list_extend PySem.F.type_list_extend mt_extend s_extend (q_var 1 (pv 1)) (qa_cons (q_fn (Z.fn 2 f_p_tips "tips" ["hang"] rfl) hr rfl (L2N.takes_of rfl rfl rfl rfl) (qa_cons (q_var 2 (pv 2)) (qa_nil))) (qa_nil)))))) (qs_one (qs_ret (q_var 1 (pv 1)))))
set_option maxHeartbeats 1000000 in
theorem d_p_Net_init (Z : Lk P w K mg base sg mts mks fa (gxOf ga) n C I) (f : Addr) (cdv : Value) (A : Around) (outer : List PySem.Env) (s : Shared) (H : Hp) (E : XK) (hr : Room (n + 1) (A.deeper (envOfC "Net.__init__" (defScope s_p_Net_init) s.heap.objs.size f cdv))) :
    PSs (cxOf (L2N.CX P w) P w K mg base N_p_Net_init "Net.__init__" (defScope s_p_Net_init) f cdv A outer s H E) (defBody s_p_Net_init) (tSOf K (caK K) E (b_p_Net_init.code C I)) := by
  have nd := sc_p_Net_init.nd
  have hu := hu_of hr
  have hu65 : (A.deeper (envOfC "Net.__init__" (defScope s_p_Net_init) s.heap.objs.size f cdv)).units + 65 < cLine := by have := hr.un; omega
  dsimp only [b_p_Net_init]
  exact qs_seq (qs_fld (Z.cl 1 7 rfl) (Z.na 2 7 "rack" rfl) (q_blty call_list_of (s_list false) rfl (Z.bl 0 "list" rfl) (by decide +kernel) (qa_cons (q_var 1 (pv 1)) (qa_nil))) (q_var 0 (pv 0))) (qs_seq (qs_fld (Z.cl 1 7 rfl) (Z.na 3 7 "splices" rfl) (q_lst (qa_nil)) (q_var 0 (pv 0))) (qs_seq (qs_if (qt_cmp or_isnot (s_isnot) (q_var 2 (pv 2)) (q_non) (nomark _)) (qs_one (qs_fld (Z.cl 1 7 rfl) (Z.na 3 7 "splices" rfl) (q_comp (c := false) (own := [("pair", 4)]) it_any (by decide) rfl nd (pi_any (q_var 2 (pv 2))) (blkOk_by (N := N_p_Net_init) (sc := defScope s_p_Net_init) (by decide +kernel)) (fun _ _ _ _ _ => pg_name (i := 4) nd rfl (Or.inl rfl)) c_yes (fun _ _ _ _ _ => pts_nil) (fun _ _ _ _ _ => q_blty call_tuple_of s_tuple rfl (Z.bl 4 "tuple" rfl) (by decide +kernel) (qa_cons (q_var 4 (pv 4)) (qa_nil)))) (q_var 0 (pv 0)))) (qs_nil)) (qs_seq (qs_fld (Z.cl 1 7 rfl) (Z.na 5 7 "rings" rfl) (q_var 3 (pv 3)) (q_var 0 (pv 0))) (qs_seq (qs_expr (q_fn (Z.fn 4 f_p_check_cords "check_cords" ["found"] rfl) hr rfl (L2N.takes_of rfl rfl rfl rfl) (qa_cons (q_fn (Z.fn 3 f_p_net_tips "net_tips" ["net"] rfl) hr rfl (L2N.takes_of rfl rfl rfl rfl) (qa_cons (q_var 0 (pv 0)) (qa_nil))) (qa_nil)))) (qs_one (qs_for it_any (passes_of rfl) rfl (pi_any (q_fld (Z.cl 1 7 rfl) (Z.na 3 7 "splices" rfl) (q_var 0 (pv 0)))) (pg_name (i := 4) nd rfl (Or.inl rfl)) (qs_one (qs_if (qt_not (qt_val (q_fn (Z.fn 1 f_p_mirrors "mirrors" ["one", "other"] rfl) hr rfl (L2N.takes_of rfl rfl rfl rfl) (qa_cons (q_ix (or_ix hu) s_ix (q_var 4 (pv 4)) (q_int) (fun _ _ => rfl)) (qa_cons (q_ix (or_ix hu) s_ix (q_var 4 (pv 4)) (q_int) (fun _ _ => rfl)) (qa_nil)))))) (qs_one (qs_raise rfl (L2N.takes_of rfl rfl rfl rfl) (L2N.pmk_own PySem.F.excBase_ValueError (Z.ex 6 3 rfl).1 (Z.gx 7 3 rfl) (Z.ex 6 3 rfl).2.1 (raises_own (Z.ex 6 3 rfl).2.2.1 (Z.ex 6 3 rfl).2.2.2) rfl))) (qs_nil)))))))))
set_option maxHeartbeats 1000000 in
theorem d_p_net_tips (Z : Lk P w K mg base sg mts mks fa (gxOf ga) n C I) (f : Addr) (cdv : Value) (A : Around) (outer : List PySem.Env) (s : Shared) (H : Hp) (E : XK) (hr : Room (n + 1) (A.deeper (envOfC "net_tips" (defScope s_p_net_tips) s.heap.objs.size f cdv))) :
    PSs (cxOf (L2N.CX P w) P w K mg base N_p_net_tips "net_tips" (defScope s_p_net_tips) f cdv A outer s H E) (defBody s_p_net_tips) (tSOf K (caK K) E (b_p_net_tips.code C I)) := by
  have nd := sc_p_net_tips.nd
  have hu := hu_of hr
  have hu65 : (A.deeper (envOfC "net_tips" (defScope s_p_net_tips) s.heap.objs.size f cdv)).units + 65 < cLine := by have := hr.un; omega
  dsimp only [b_p_net_tips]
  exact qs_seq (qs_set (i := 1) (q_fn (Z.fn 5 f_p_all_tips "all_tips" ["hangs"] rfl) hr rfl (L2N.takes_of rfl rfl rfl rfl) (qa_cons (q_fld (Z.cl 1 7 rfl) (Z.na 2 7 "rack" rfl) (q_var 0 (pv 0))) (qa_nil))) nd rfl (Or.inl rfl)) (qs_seq (qs_for it_any (passes_of rfl) rfl (pi_any (q_fld (Z.cl 1 7 rfl) (Z.na 3 7 "splices" rfl) (q_var 0 (pv 0)))) (pg_name (i := 2) nd rfl (Or.inl rfl)) (qs_one (qs_expr (q_bm PySem.F.plainAttrs_list PySem.F.slot_list_extend PySem.F.type_list_extend mt_extend s_extend (q_var 1 (pv 1)) (qa_cons (q_fn (Z.fn 5 f_p_all_tips "all_tips" ["hangs"] rfl) hr rfl (L2N.takes_of rfl rfl rfl rfl) (qa_cons (q_var 2 (pv 2)) (qa_nil))) (qa_nil)))))) (qs_one (qs_ret (q_var 1 (pv 1)))))
set_option maxHeartbeats 1000000 in
theorem d_p_check_cords (Z : Lk P w K mg base sg mts mks fa (gxOf ga) n C I) (f : Addr) (cdv : Value) (A : Around) (outer : List PySem.Env) (s : Shared) (H : Hp) (E : XK) (hr : Room (n + 1) (A.deeper (envOfC "check_cords" (defScope s_p_check_cords) s.heap.objs.size f cdv))) :
    PSs (cxOf (L2N.CX P w) P w K mg base N_p_check_cords "check_cords" (defScope s_p_check_cords) f cdv A outer s H E) (defBody s_p_check_cords) (tSOf K (caK K) E (b_p_check_cords.code C I)) := by
  have nd := sc_p_check_cords.nd
  have hu := hu_of hr
  have hu65 : (A.deeper (envOfC "check_cords" (defScope s_p_check_cords) s.heap.objs.size f cdv)).units + 65 < cLine := by have := hr.un; omega
  dsimp only [b_p_check_cords]
  exact qs_seq (qs_set (i := 1) (q_dk) nd rfl (Or.inl rfl)) (qs_seq (qs_set (i := 2) (q_dk) nd rfl (Or.inl rfl)) (qs_seq (qs_for it_any (passes_of rfl) rfl (pi_any (q_var 0 (pv 0))) (pg_name (i := 3) nd rfl (Or.inl rfl)) (qs_seq (qs_set (i := 4) (q_var 1 (pv 1)) nd rfl (Or.inl rfl)) (qs_seq (qs_if (qt_cmp (or_eq hr.units) (s_eq) (q_ix (or_ix hu) s_ix (q_var 3 (pv 3)) (q_int) (fun _ _ => rfl)) (q_str) (nomark _)) (qs_one (qs_set (i := 4) (q_var 2 (pv 2)) nd rfl (Or.inl rfl))) (qs_nil)) (qs_seq (qs_if (qt_cmp (or_in hu65) (s_in) (q_ix (or_ix hu) s_ix (q_var 3 (pv 3)) (q_int) (fun _ _ => rfl)) (q_var 4 (pv 4)) (by with_unfolding_all rfl)) (qs_one (qs_raise rfl (L2N.takes_of rfl rfl rfl rfl) (L2N.pmk_own PySem.F.excBase_ValueError (Z.ex 8 2 rfl).1 (Z.gx 9 2 rfl) (Z.ex 8 2 rfl).2.1 (raises_own (Z.ex 8 2 rfl).2.2.1 (Z.ex 8 2 rfl).2.2.2) rfl))) (qs_nil)) (qs_one (qs_sub hu (q_ix (or_ix hu) s_ix (q_var 3 (pv 3)) (q_int) (fun _ _ => rfl)) (q_var 4 (pv 4)) (q_ix (or_ix hu) s_ix (q_var 3 (pv 3)) (q_int) (fun _ _ => rfl)))))))) (qs_one (qs_if (qt_cmp (or_neX hr.units) (s_neX) (q_var 1 (pv 1)) (q_var 2 (pv 2)) (nomark _)) (qs_one (qs_raise rfl (L2N.takes_of rfl rfl rfl rfl) (L2N.pmk_own PySem.F.excBase_ValueError (Z.ex 8 2 rfl).1 (Z.gx 9 2 rfl) (Z.ex 8 2 rfl).2.1 (raises_own (Z.ex 8 2 rfl).2.2.1 (Z.ex 8 2 rfl).2.2.2) rfl))) (qs_nil)))))
set_option maxHeartbeats 1000000 in
theorem d_p_joined (Z : Lk P w K mg base sg mts mks fa (gxOf ga) n C I) (f : Addr) (cdv : Value) (A : Around) (outer : List PySem.Env) (s : Shared) (H : Hp) (E : XK) (hr : Room (n + 1) (A.deeper (envOfC "joined" (defScope s_p_joined) s.heap.objs.size f cdv))) :
    PSs (cxOf (L2N.CX P w) P w K mg base N_p_joined "joined" (defScope s_p_joined) f cdv A outer s H E) (defBody s_p_joined) (tSOf K (caK K) E (b_p_joined.code C I)) := by
  have nd := sc_p_joined.nd
  have hu := hu_of hr
  have hu65 : (A.deeper (envOfC "joined" (defScope s_p_joined) s.heap.objs.size f cdv)).units + 65 < cLine := by have := hr.un; omega
  dsimp only [b_p_joined]
  exact qs_seq (qs_if (PW.pt (qw_or (qt_not (qt_chain op_le op_lt (s_cmp _) (s_cmp _) (q_int) (q_var 1 (pv 1)) (q_blt or_len s_len rfl (Z.bl 10 "len" rfl) boot_len (qa_cons (q_fld (Z.cl 1 7 rfl) (Z.na 2 7 "rack" rfl) (q_var 0 (pv 0))) (qa_nil))))) (qw_or1 (qt_not (qt_chain op_le op_lt (s_cmp _) (s_cmp _) (q_int) (q_var 3 (pv 3)) (q_blt or_len s_len rfl (Z.bl 10 "len" rfl) boot_len (qa_cons (q_fld (Z.cl 1 7 rfl) (Z.na 2 7 "rack" rfl) (q_var 2 (pv 2))) (qa_nil)))))))) (qs_one (qs_raise rfl (L2N.takes_of rfl rfl rfl rfl) (L2N.pmk_own PySem.F.excBase_ValueError (Z.ex 11 4 rfl).1 (Z.gx 12 4 rfl) (Z.ex 11 4 rfl).2.1 (raises_own (Z.ex 11 4 rfl).2.2.1 (Z.ex 11 4 rfl).2.2.2) rfl))) (qs_nil)) (qs_seq (qs_if (qt_not (qt_val (q_fn (Z.fn 1 f_p_mirrors "mirrors" ["one", "other"] rfl) hr rfl (L2N.takes_of rfl rfl rfl rfl) (qa_cons (q_ix (or_ix hu) s_ix (q_fld (Z.cl 1 7 rfl) (Z.na 2 7 "rack" rfl) (q_var 0 (pv 0))) (q_var 1 (pv 1)) (fun _ _ => rfl)) (qa_cons (q_ix (or_ix hu) s_ix (q_fld (Z.cl 1 7 rfl) (Z.na 2 7 "rack" rfl) (q_var 2 (pv 2))) (q_var 3 (pv 3)) (fun _ _ => rfl)) (qa_nil)))))) (qs_one (qs_raise rfl (L2N.takes_of rfl rfl rfl rfl) (L2N.pmk_own PySem.F.excBase_ValueError (Z.ex 6 3 rfl).1 (Z.gx 7 3 rfl) (Z.ex 6 3 rfl).2.1 (raises_own (Z.ex 6 3 rfl).2.2.1 (Z.ex 6 3 rfl).2.2.2) rfl))) (qs_nil)) (qs_seq (qs_set (i := 4) (q_op or_add (s_add false) (q_op or_add (s_add false) (q_op or_add (s_add false) (q_slice (c := false) (q_fld (Z.cl 1 7 rfl) (Z.na 2 7 "rack" rfl) (q_var 0 (pv 0))) (qo_no) (qo_some (q_var 1 (pv 1)))) (q_slice (c := false) (q_fld (Z.cl 1 7 rfl) (Z.na 2 7 "rack" rfl) (q_var 0 (pv 0))) (qo_some (q_op or_add (s_add false) (q_var 1 (pv 1)) (q_int))) (qo_no))) (q_slice (c := false) (q_fld (Z.cl 1 7 rfl) (Z.na 2 7 "rack" rfl) (q_var 2 (pv 2))) (qo_no) (qo_some (q_var 3 (pv 3))))) (q_slice (c := false) (q_fld (Z.cl 1 7 rfl) (Z.na 2 7 "rack" rfl) (q_var 2 (pv 2))) (qo_some (q_op or_add (s_add false) (q_var 3 (pv 3)) (q_int))) (qo_no))) nd rfl (Or.inl rfl)) (qs_seq (qs_set (i := 5) (q_op or_add (s_add false) (q_op or_add (s_add false) (q_fld (Z.cl 1 7 rfl) (Z.na 3 7 "splices" rfl) (q_var 0 (pv 0))) (q_fld (Z.cl 1 7 rfl) (Z.na 3 7 "splices" rfl) (q_var 2 (pv 2)))) (q_lst (qa_cons (q_tup (qa_cons (q_ix (or_ix hu) s_ix (q_fld (Z.cl 1 7 rfl) (Z.na 2 7 "rack" rfl) (q_var 0 (pv 0))) (q_var 1 (pv 1)) (fun _ _ => rfl)) (qa_cons (q_ix (or_ix hu) s_ix (q_fld (Z.cl 1 7 rfl) (Z.na 2 7 "rack" rfl) (q_var 2 (pv 2))) (q_var 3 (pv 3)) (fun _ _ => rfl)) (qa_nil)))) (qa_nil)))) nd rfl (Or.inl rfl)) (qs_one (qs_ret (q_make (fz := true) (Z.mkc 0 f_p_Net_init "Net" 7 ["self", "rack", "splices", "rings"] [] rfl) hr rfl (L2N.takes_of rfl rfl rfl rfl) (qa_cons (q_var 4 (pv 4)) (qa_cons (q_var 5 (pv 5)) (qa_cons (q_op or_add (s_add false) (q_fld (Z.cl 1 7 rfl) (Z.na 5 7 "rings" rfl) (q_var 0 (pv 0))) (q_fld (Z.cl 1 7 rfl) (Z.na 5 7 "rings" rfl) (q_var 2 (pv 2)))) (qa_nil))))))))))
set_option maxHeartbeats 1000000 in
theorem d_l_stir (Z : Lk P w K mg base sg mts mks fa (gxOf ga) n C I) (f : Addr) (cdv : Value) (A : Around) (outer : List PySem.Env) (s : Shared) (H : Hp) (E : XK) (hr : Room (n + 1) (A.deeper (envOfC "_law_stir" (defScope s_l_stir) s.heap.objs.size f cdv))) :
    PSs (cxOf (L2N.CX P w) P w K mg base N_l_stir "_law_stir" (defScope s_l_stir) f cdv A outer s H E) (defBody s_l_stir) (tSOf K (caK K) E (b_l_stir.code C I)) := by
  have nd := sc_l_stir.nd
  have hu := hu_of hr
  have hu65 : (A.deeper (envOfC "_law_stir" (defScope s_l_stir) s.heap.objs.size f cdv)).units + 65 < cLine := by have := hr.un; omega
  dsimp only [b_l_stir]
  exact qs_seq (qs_set (i := 1) (q_int) nd rfl (Or.inl rfl)) (qs_seq (qs_for it_any (passes_of rfl) rfl (pi_any (q_lst (qa_cons (q_int) (qa_cons (q_int) (qa_cons (q_int) (qa_cons (q_int) (qa_nil))))))) (pg_name (i := 2) nd rfl (Or.inl rfl)) (qs_seq (qs_set (i := 3) (q_op op_mod (s_mod) (q_op or_mul (s_mul false) (q_op op_mod (s_mod) (q_op or_add (s_add false) (q_op or_mul (s_mul false) (q_var 0 (pv 0)) (q_var 2 (pv 2))) (q_int)) (q_int)) (q_int)) (q_int)) nd rfl (Or.inl rfl)) (qs_one (qs_set (i := 1) (q_op or_add (s_add false) (q_op or_mul (s_mul false) (q_var 1 (pv 1)) (q_op op_pow (s_pow) (q_int) (q_int))) (q_op op_fdiv (s_div) (q_var 3 (pv 3)) (q_int))) nd rfl (Or.inl rfl))))) (qs_one (qs_ret (q_var 1 (pv 1)))))
set_option maxHeartbeats 1000000 in
theorem d_l_cell (Z : Lk P w K mg base sg mts mks fa (gxOf ga) n C I) (f : Addr) (cdv : Value) (A : Around) (outer : List PySem.Env) (s : Shared) (H : Hp) (E : XK) (hr : Room (n + 1) (A.deeper (envOfC "_law_cell" (defScope s_l_cell) s.heap.objs.size f cdv))) :
    PSs (cxOf (L2N.CX P w) P w K mg base N_l_cell "_law_cell" (defScope s_l_cell) f cdv A outer s H E) (defBody s_l_cell) (tSOf K (caK K) E (b_l_cell.code C I)) := by
  have nd := sc_l_cell.nd
  have hu := hu_of hr
  have hu65 : (A.deeper (envOfC "_law_cell" (defScope s_l_cell) s.heap.objs.size f cdv)).units + 65 < cLine := by have := hr.un; omega
  dsimp only [b_l_cell]
  exact qs_seq (qs_if (qt_cmp op_lt (s_cmp _) (q_var 1 (pv 1)) (q_blt or_len s_len rfl (Z.bl 10 "len" rfl) boot_len (qa_cons (q_var 0 (pv 0)) (qa_nil))) (nomark _)) (qs_one (qs_ret (q_fn (Z.fn 6 f_l_stir "_law_stir" ["cell"] rfl) hr rfl (L2N.takes_of rfl rfl rfl rfl) (qa_cons (q_ix (or_ix hu) s_ix (q_var 0 (pv 0)) (q_var 1 (pv 1)) (fun _ _ => rfl)) (qa_nil))))) (qs_nil)) (qs_one (qs_ret (q_fn (Z.fn 6 f_l_stir "_law_stir" ["cell"] rfl) hr rfl (L2N.takes_of rfl rfl rfl rfl) (qa_cons (q_int) (qa_nil)))))
set_option maxHeartbeats 1000000 in
theorem d_l_cells (Z : Lk P w K mg base sg mts mks fa (gxOf ga) n C I) (f : Addr) (cdv : Value) (A : Around) (outer : List PySem.Env) (s : Shared) (H : Hp) (E : XK) (hr : Room (n + 1) (A.deeper (envOfC "_law_cells" (defScope s_l_cells) s.heap.objs.size f cdv))) :
    PSs (cxOf (L2N.CX P w) P w K mg base N_l_cells "_law_cells" (defScope s_l_cells) f cdv A outer s H E) (defBody s_l_cells) (tSOf K (caK K) E (b_l_cells.code C I)) := by
  have nd := sc_l_cells.nd
  have hu := hu_of hr
  have hu65 : (A.deeper (envOfC "_law_cells" (defScope s_l_cells) s.heap.objs.size f cdv)).units + 65 < cLine := by have := hr.un; omega
  dsimp only [b_l_cells]
  exact qs_one (qs_ret (q_comp (c := false) (own := [("cell", 3)]) it_any (by decide) rfl nd (pi_any (q_slice (c := false) (q_var 0 (pv 0)) (qo_some (q_var 1 (pv 1))) (qo_some (q_var 2 (pv 2))))) (blkOk_by (N := N_l_cells) (sc := defScope s_l_cells) (by decide +kernel)) (fun _ _ _ _ _ => pg_name (i := 3) nd rfl (Or.inl rfl)) c_yes (fun _ _ _ _ _ => pts_nil) (fun _ _ _ _ _ => q_fn (Z.fn 6 f_l_stir "_law_stir" ["cell"] rfl) hr rfl takesN0 (qa_cons (q_var 3 (pv 3)) (qa_nil)))))
set_option maxHeartbeats 1000000 in
theorem d_l_dye (Z : Lk P w K mg base sg mts mks fa (gxOf ga) n C I) (f : Addr) (cdv : Value) (A : Around) (outer : List PySem.Env) (s : Shared) (H : Hp) (E : XK) (hr : Room (n + 1) (A.deeper (envOfC "_law_dye" (defScope s_l_dye) s.heap.objs.size f cdv))) :
    PSs (cxOf (L2N.CX P w) P w K mg base N_l_dye "_law_dye" (defScope s_l_dye) f cdv A outer s H E) (defBody s_l_dye) (tSOf K (caK K) E (b_l_dye.code C I)) := by
  have nd := sc_l_dye.nd
  have hu := hu_of hr
  have hu65 : (A.deeper (envOfC "_law_dye" (defScope s_l_dye) s.heap.objs.size f cdv)).units + 65 < cLine := by have := hr.un; omega
  dsimp only [b_l_dye]
  exact qs_seq (qs_set (i := 1) (q_op or_add (s_add false) (q_int) (q_op op_mod (s_mod) (q_var 0 (pv 0)) (q_int))) nd rfl (Or.inl rfl)) (qs_seq (qs_if (qt_cmp (or_eq hr.units) (s_eq) (q_op op_mod (s_mod) (q_var 0 (pv 0)) (q_int)) (q_int) (nomark _)) (qs_one (qs_set (i := 1) (q_int) nd rfl (Or.inl rfl))) (qs_nil)) (qs_seq (qs_set (i := 2) (q_op or_mul (s_mul false) (q_int) (q_op op_mod (s_mod) (q_op op_fdiv (s_div) (q_var 0 (pv 0)) (q_int)) (q_int))) nd rfl (Or.inr rfl)) (qs_one (qs_ret (q_bm PySem.F.plainAttrs_str PySem.F.slot_str_join PySem.F.type_str_join mt_join s_join (q_str) (qa_cons (q_comp (c := false) (own := [("k", 3)]) (it_range1 cons1_len) (by decide) rfl nd (pi_range1 rfl (Z.bl 13 "range" rfl) (qa_cons (q_var 1 (pv 1)) (qa_nil))) (blkOk_by (N := N_l_dye) (sc := defScope s_l_dye) (by decide +kernel)) (fun _ _ _ _ _ => pg_name (i := 3) nd rfl (Or.inl rfl)) c_yes (fun _ _ _ _ _ => pts_nil) (fun _ _ _ _ _ => q_ix (or_ix hu) s_ix (q_str) (q_op op_mod (s_mod) (q_op or_add (s_add false) (q_op op_fdiv (s_div) (q_var 0 (pv 0)) (q_int)) (q_op or_mul (s_mul false) (q_var 2 (pv 2)) (q_var 3 (pv 3)))) (q_int)) (fun _ _ => rfl))) (qa_nil)))))))
set_option maxHeartbeats 1000000 in
theorem d_l_book (Z : Lk P w K mg base sg mts mks fa (gxOf ga) n C I) (f : Addr) (cdv : Value) (A : Around) (outer : List PySem.Env) (s : Shared) (H : Hp) (E : XK) (hr : Room (n + 1) (A.deeper (envOfC "_law_book" (defScope s_l_book) s.heap.objs.size f cdv))) :
    PSs (cxOf (L2N.CX P w) P w K mg base N_l_book "_law_book" (defScope s_l_book) f cdv A outer s H E) (defBody s_l_book) (tSOf K (caK K) E (b_l_book.code C I)) := by
  have nd := sc_l_book.nd
  have hu := hu_of hr
  have hu65 : (A.deeper (envOfC "_law_book" (defScope s_l_book) s.heap.objs.size f cdv)).units + 65 < cLine := by have := hr.un; omega
  dsimp only [b_l_book]
  exact qs_seq (qs_set (i := 1) (q_op op_mod (s_mod) (q_op op_fdiv (s_div) (q_var 0 (pv 0)) (q_int)) (q_ix (or_ix hu) s_ix (q_lst (qa_cons (q_int) (qa_cons (q_int) (qa_cons (q_op op_pow (s_pow) (q_int) (q_int)) (qa_cons (q_op op_pow (s_pow) (q_int) (q_int)) (qa_nil)))))) (q_op op_mod (s_mod) (q_var 0 (pv 0)) (q_int)) (fun _ _ => rfl))) nd rfl (Or.inl rfl)) (qs_one (qs_ret (q_lst (qa_cons (q_var 1 (pv 1)) (qa_cons (q_ix (or_ix hu) s_ix (q_lst (qa_cons (q_int) (qa_cons (q_int) (qa_cons (q_int) (qa_cons (q_op or_add (s_add false) (q_op op_pow (s_pow) (q_int) (q_int)) (q_int)) (qa_nil)))))) (q_op op_mod (s_mod) (q_op op_fdiv (s_div) (q_var 0 (pv 0)) (q_int)) (q_int)) (fun _ _ => rfl)) (qa_cons (q_int) (qa_nil)))))))
set_option maxHeartbeats 1000000 in
theorem d_l_number (Z : Lk P w K mg base sg mts mks fa (gxOf ga) n C I) (f : Addr) (cdv : Value) (A : Around) (outer : List PySem.Env) (s : Shared) (H : Hp) (E : XK) (hr : Room (n + 1) (A.deeper (envOfC "_law_number" (defScope s_l_number) s.heap.objs.size f cdv))) :
    PSs (cxOf (L2N.CX P w) P w K mg base N_l_number "_law_number" (defScope s_l_number) f cdv A outer s H E) (defBody s_l_number) (tSOf K (caK K) E (b_l_number.code C I)) := by
  have nd := sc_l_number.nd
  have hu := hu_of hr
  have hu65 : (A.deeper (envOfC "_law_number" (defScope s_l_number) s.heap.objs.size f cdv)).units + 65 < cLine := by have := hr.un; omega
  dsimp only [b_l_number]
  exact qs_seq (qs_set (i := 1) (q_ix (or_ix hu) s_ix (q_var 0 (pv 0)) (q_int) (fun _ _ => rfl)) nd rfl (Or.inl rfl)) (qs_seq (qs_sub hu (q_op or_add (s_add false) (q_var 1 (pv 1)) (q_int)) (q_var 0 (pv 0)) (q_int)) (qs_one (qs_ret (q_op or_add (s_add false) (q_ix (or_ix hu) s_ix (q_var 0 (pv 0)) (q_int) (fun _ _ => rfl)) (q_op or_mul (s_mul false) (q_ix (or_ix hu) s_ix (q_var 0 (pv 0)) (q_int) (fun _ _ => rfl)) (q_op or_add (s_add false) (q_op op_mod (s_mod) (q_op or_mul (s_mul false) (q_var 1 (pv 1)) (q_int)) (q_int)) (q_op or_mul (s_mul false) (q_int) (q_op op_fdiv (s_div) (q_var 1 (pv 1)) (q_int)))))))))
set_option maxHeartbeats 1000000 in
theorem d_l_is_tip (Z : Lk P w K mg base sg mts mks fa (gxOf ga) n C I) (f : Addr) (cdv : Value) (A : Around) (outer : List PySem.Env) (s : Shared) (H : Hp) (E : XK) (hr : Room (n + 1) (A.deeper (envOfC "_law_is_tip" (defScope s_l_is_tip) s.heap.objs.size f cdv))) :
    PSs (cxOf (L2N.CX P w) P w K mg base N_l_is_tip "_law_is_tip" (defScope s_l_is_tip) f cdv A outer s H E) (defBody s_l_is_tip) (tSOf K (caK K) E (b_l_is_tip.code C I)) := by
  have nd := sc_l_is_tip.nd
  have hu := hu_of hr
  have hu65 : (A.deeper (envOfC "_law_is_tip" (defScope s_l_is_tip) s.heap.objs.size f cdv)).units + 65 < cLine := by have := hr.un; omega
  dsimp only [b_l_is_tip]
  exact qs_one (qs_ret (q_or (q_cmp (or_eq hr.units) (s_eq) (q_ix (or_ix hu) s_ix (q_var 0 (pv 0)) (q_int) (fun _ _ => rfl)) (q_str) (nomark _)) (q_one (q_cmp (or_eq hr.units) (s_eq) (q_ix (or_ix hu) s_ix (q_var 0 (pv 0)) (q_int) (fun _ _ => rfl)) (q_str) (nomark _)))))
set_option maxHeartbeats 1000000 in
theorem d_l_tips (Z : Lk P w K mg base sg mts mks fa (gxOf ga) n C I) (f : Addr) (cdv : Value) (A : Around) (outer : List PySem.Env) (s : Shared) (H : Hp) (E : XK) (hr : Room (n + 1) (A.deeper (envOfC "_law_tips" (defScope s_l_tips) s.heap.objs.size f cdv))) :
    PSs (cxOf (L2N.CX P w) P w K mg base N_l_tips "_law_tips" (defScope s_l_tips) f cdv A outer s H E) (defBody s_l_tips) (tSOf K (caK K) E (b_l_tips.code C I)) := by
  have nd := sc_l_tips.nd
  have hu := hu_of hr
  have hu65 : (A.deeper (envOfC "_law_tips" (defScope s_l_tips) s.heap.objs.size f cdv)).units + 65 < cLine := by have := hr.un; omega
  dsimp only [b_l_tips]
  exact qs_seq (qs_if (qt_val (q_fn (Z.fn 7 f_l_is_tip "_law_is_tip" ["hang"] rfl) hr rfl (L2N.takes_of rfl rfl rfl rfl) (qa_cons (q_var 0 (pv 0)) (qa_nil)))) (qs_one (qs_ret (q_lst (qa_cons (q_var 0 (pv 0)) (qa_nil))))) (qs_nil)) (qs_one (qs_ret (q_op or_add (s_add false) (q_fn (Z.fn 8 f_l_tips "_law_tips" ["hang"] rfl) hr rfl (L2N.takes_of rfl rfl rfl rfl) (qa_cons (q_ix (or_ix hu) s_ix (q_var 0 (pv 0)) (q_int) (fun _ _ => rfl)) (qa_nil))) (q_fn (Z.fn 8 f_l_tips "_law_tips" ["hang"] rfl) hr rfl (L2N.takes_of rfl rfl rfl rfl) (qa_cons (q_ix (or_ix hu) s_ix (q_var 0 (pv 0)) (q_int) (fun _ _ => rfl)) (qa_nil))))))
set_option maxHeartbeats 1000000 in
theorem d_l_mirror (Z : Lk P w K mg base sg mts mks fa (gxOf ga) n C I) (f : Addr) (cdv : Value) (A : Around) (outer : List PySem.Env) (s : Shared) (H : Hp) (E : XK) (hr : Room (n + 1) (A.deeper (envOfC "_law_mirror" (defScope s_l_mirror) s.heap.objs.size f cdv))) :
    PSs (cxOf (L2N.CX P w) P w K mg base N_l_mirror "_law_mirror" (defScope s_l_mirror) f cdv A outer s H E) (defBody s_l_mirror) (tSOf K (caK K) E (b_l_mirror.code C I)) := by
  have nd := sc_l_mirror.nd
  have hu := hu_of hr
  have hu65 : (A.deeper (envOfC "_law_mirror" (defScope s_l_mirror) s.heap.objs.size f cdv)).units + 65 < cLine := by have := hr.un; omega
  dsimp only [b_l_mirror]
  exact qs_seq (qs_set (i := 1) (q_dispIx (kvs := [((.inr "light"), .str "dark"), ((.inr "dark"), .str "light"), ((.inr "fast"), .str "loose"), ((.inr "loose"), .str "fast")]) hu (pps_cons pe_str pe_str (pps_cons pe_str pe_str (pps_cons pe_str pe_str (pps_cons pe_str pe_str (pps_nil))))) (.cons ⟨rfl, rfl⟩ (.cons ⟨rfl, rfl⟩ (.cons ⟨rfl, rfl⟩ (.cons ⟨rfl, rfl⟩ (.nil))))) (by rfl) (by rfl) (fun z => by cases z) (by decide) (by decide) (q_ix (or_ix hu) s_ix (q_var 0 (pv 0)) (q_int) (fun _ _ => rfl)) (fun _ _ => rfl)) nd rfl (Or.inl rfl)) (qs_seq (qs_if (qt_val (q_fn (Z.fn 7 f_l_is_tip "_law_is_tip" ["hang"] rfl) hr rfl (L2N.takes_of rfl rfl rfl rfl) (qa_cons (q_var 0 (pv 0)) (qa_nil)))) (qs_one (qs_ret (q_tup (qa_cons (q_var 1 (pv 1)) (qa_cons (q_ix (or_ix hu) s_ix (q_var 0 (pv 0)) (q_int) (fun _ _ => rfl)) (qa_cons (q_ix (or_ix hu) s_ix (q_var 0 (pv 0)) (q_int) (fun _ _ => rfl)) (qa_nil))))))) (qs_nil)) (qs_one (qs_ret (q_tup (qa_cons (q_var 1 (pv 1)) (qa_cons (q_fn (Z.fn 9 f_l_mirror "_law_mirror" ["hang"] rfl) hr rfl (L2N.takes_of rfl rfl rfl rfl) (qa_cons (q_ix (or_ix hu) s_ix (q_var 0 (pv 0)) (q_int) (fun _ _ => rfl)) (qa_nil))) (qa_cons (q_fn (Z.fn 9 f_l_mirror "_law_mirror" ["hang"] rfl) hr rfl (L2N.takes_of rfl rfl rfl rfl) (qa_cons (q_ix (or_ix hu) s_ix (q_var 0 (pv 0)) (q_int) (fun _ _ => rfl)) (qa_nil))) (qa_nil))))))))
set_option maxHeartbeats 1000000 in
theorem d_l_anew (Z : Lk P w K mg base sg mts mks fa (gxOf ga) n C I) (f : Addr) (cdv : Value) (A : Around) (outer : List PySem.Env) (s : Shared) (H : Hp) (E : XK) (hr : Room (n + 1) (A.deeper (envOfC "_law_anew" (defScope s_l_anew) s.heap.objs.size f cdv))) :
    PSs (cxOf (L2N.CX P w) P w K mg base N_l_anew "_law_anew" (defScope s_l_anew) f cdv A outer s H E) (defBody s_l_anew) (tSOf K (caK K) E (b_l_anew.code C I)) := by
  have nd := sc_l_anew.nd
  have hu := hu_of hr
  have hu65 : (A.deeper (envOfC "_law_anew" (defScope s_l_anew) s.heap.objs.size f cdv)).units + 65 < cLine := by have := hr.un; omega
  dsimp only [b_l_anew]
  exact qs_seq (qs_if (qt_val (q_fn (Z.fn 7 f_l_is_tip "_law_is_tip" ["hang"] rfl) hr rfl (L2N.takes_of rfl rfl rfl rfl) (qa_cons (q_var 0 (pv 0)) (qa_nil)))) (qs_one (qs_ret (q_tup (qa_cons (q_ix (or_ix hu) s_ix (q_var 0 (pv 0)) (q_int) (fun _ _ => rfl)) (qa_cons (q_ix (or_ix hu) s_ix (q_var 0 (pv 0)) (q_int) (fun _ _ => rfl)) (qa_cons (q_fn (Z.fn 10 f_l_number "_law_number" ["book"] rfl) hr rfl (L2N.takes_of rfl rfl rfl rfl) (qa_cons (q_var 1 (pv 1)) (qa_nil))) (qa_nil))))))) (qs_nil)) (qs_seq (qs_set (i := 2) (q_fn (Z.fn 11 f_l_anew "_law_anew" ["hang", "book"] rfl) hr rfl (L2N.takes_of rfl rfl rfl rfl) (qa_cons (q_ix (or_ix hu) s_ix (q_var 0 (pv 0)) (q_int) (fun _ _ => rfl)) (qa_cons (q_var 1 (pv 1)) (qa_nil)))) nd rfl (Or.inl rfl)) (qs_one (qs_ret (q_tup (qa_cons (q_ix (or_ix hu) s_ix (q_var 0 (pv 0)) (q_int) (fun _ _ => rfl)) (qa_cons (q_var 2 (pv 2)) (qa_cons (q_fn (Z.fn 11 f_l_anew "_law_anew" ["hang", "book"] rfl) hr rfl (L2N.takes_of rfl rfl rfl rfl) (qa_cons (q_ix (or_ix hu) s_ix (q_var 0 (pv 0)) (q_int) (fun _ _ => rfl)) (qa_cons (q_var 1 (pv 1)) (qa_nil)))) (qa_nil))))))))
set_option maxHeartbeats 1000000 in
theorem d_l_add_cord (Z : Lk P w K mg base sg mts mks fa (gxOf ga) n C I) (f : Addr) (cdv : Value) (A : Around) (outer : List PySem.Env) (s : Shared) (H : Hp) (E : XK) (hr : Room (n + 1) (A.deeper (envOfC "_law_add_cord" (defScope s_l_add_cord) s.heap.objs.size f cdv))) :
    PSs (cxOf (L2N.CX P w) P w K mg base N_l_add_cord "_law_add_cord" (defScope s_l_add_cord) f cdv A outer s H E) (defBody s_l_add_cord) (tSOf K (caK K) E (b_l_add_cord.code C I)) := by
  have nd := sc_l_add_cord.nd
  have hu := hu_of hr
  have hu65 : (A.deeper (envOfC "_law_add_cord" (defScope s_l_add_cord) s.heap.objs.size f cdv)).units + 65 < cLine := by have := hr.un; omega
  dsimp only [b_l_add_cord]
  exact qs_seq (qs_set (i := 2) (q_fn (Z.fn 10 f_l_number "_law_number" ["book"] rfl) hr rfl (L2N.takes_of rfl rfl rfl rfl) (qa_cons (q_ix (or_ix hu) s_ix (q_var 0 (pv 0)) (q_int) (fun _ _ => rfl)) (qa_nil))) nd rfl (Or.inl rfl)) (qs_seq (qs_set (i := 3) (q_fn (Z.fn 12 f_l_dye "_law_dye" ["cell"] rfl) hr rfl (L2N.takes_of rfl rfl rfl rfl) (qa_cons (q_op op_fdiv (s_div) (q_var 1 (pv 1)) (q_int)) (qa_nil))) nd rfl (Or.inl rfl)) (qs_seq (qs_set (i := 4) (q_lst (qa_cons (q_tup (qa_cons (q_str) (qa_cons (q_var 3 (pv 3)) (qa_cons (q_var 2 (pv 2)) (qa_nil))))) (qa_cons (q_tup (qa_cons (q_str) (qa_cons (q_var 3 (pv 3)) (qa_cons (q_var 2 (pv 2)) (qa_nil))))) (qa_nil)))) nd rfl (Or.inl rfl)) (qs_seq (qs_if (qt_cmp (or_eq hr.units) (s_eq) (q_op op_mod (s_mod) (q_op op_fdiv (s_div) (q_var 1 (pv 1)) (q_int)) (q_int)) (q_int) (nomark _)) (qs_one (qs_set (i := 4) (q_lst (qa_cons (q_ix (or_ix hu) s_ix (q_var 4 (pv 4)) (q_int) (fun _ _ => rfl)) (qa_cons (q_ix (or_ix hu) s_ix (q_var 4 (pv 4)) (q_int) (fun _ _ => rfl)) (qa_nil)))) nd rfl (Or.inl rfl))) (qs_nil)) (qs_seq (qs_expr (q_bm PySem.F.plainAttrs_list PySem.F.slot_list_extend PySem.F.type_list_extend mt_extend s_extend (q_ix (or_ix hu) s_ix (q_var 0 (pv 0)) (q_int) (fun _ _ => rfl)) (qa_cons (q_var 4 (pv 4)) (qa_nil)))) (qs_one (qs_expr (q_bm PySem.F.plainAttrs_list PySem.F.slot_list_extend PySem.F.type_list_extend mt_extend s_extend (q_ix (or_ix hu) s_ix (q_var 0 (pv 0)) (q_int) (fun _ _ => rfl)) (qa_cons (q_lst (qa_cons (q_var 2 (pv 2)) (qa_cons (q_var 2 (pv 2)) (qa_nil)))) (qa_nil)))))))))
set_option maxHeartbeats 1000000 in
theorem d_l_tie (Z : Lk P w K mg base sg mts mks fa (gxOf ga) n C I) (f : Addr) (cdv : Value) (A : Around) (outer : List PySem.Env) (s : Shared) (H : Hp) (E : XK) (hr : Room (n + 1) (A.deeper (envOfC "_law_tie" (defScope s_l_tie) s.heap.objs.size f cdv))) :
    PSs (cxOf (L2N.CX P w) P w K mg base N_l_tie "_law_tie" (defScope s_l_tie) f cdv A outer s H E) (defBody s_l_tie) (tSOf K (caK K) E (b_l_tie.code C I)) := by
  have nd := sc_l_tie.nd
  have hu := hu_of hr
  have hu65 : (A.deeper (envOfC "_law_tie" (defScope s_l_tie) s.heap.objs.size f cdv)).units + 65 < cLine := by have := hr.un; omega
  dsimp only [b_l_tie]
  exact qs_seq (qs_setLc (i := 5) (c := false) (own := [("k", 10)]) (it_range1 cons1_len) (by decide) rfl nd rfl rfl (sw_true rfl rfl rfl (by decide +kernel)) (pi_range1 rfl (Z.bl 13 "range" rfl) (qa_cons (q_blt or_len s_len rfl (Z.bl 10 "len" rfl) boot_len (qa_cons (q_ix (or_ix hu) s_ix (q_var 0 (pv 0)) (q_int) (fun _ _ => rfl)) (qa_nil))) (qa_nil))) (blkOk_by (N := N_l_tie) (sc := defScope s_l_tie) (by decide +kernel)) (fun _ _ _ _ _ => pg_name (i := 10) nd rfl (Or.inl rfl)) (fun _ _ _ h => h) (fun _ _ _ _ _ => pts_one (PW.pt (qw_and (qt_cmp (or_ne hr.units) (s_ne) (q_var 10 (pv 10)) (q_var 1 (pv 1)) (nomark _)) (qw_and1 (qt_cmp (or_ne hr.units) (s_ne) (q_var 10 (pv 10)) (q_var 2 (pv 2)) (nomark _)))))) (fun _ _ _ _ _ => q_var 10 (pv 10))) (qs_seq (qs_set (i := 6) (q_ix (or_ix hu) s_ix (q_ix (or_ix hu) s_ix (q_var 0 (pv 0)) (q_int) (fun _ _ => rfl)) (q_var 1 (pv 1)) (fun _ _ => rfl)) nd rfl (Or.inr rfl)) (qs_seq (qs_set (i := 7) (q_ix (or_ix hu) s_ix (q_ix (or_ix hu) s_ix (q_var 0 (pv 0)) (q_int) (fun _ _ => rfl)) (q_var 2 (pv 2)) (fun _ _ => rfl)) nd rfl (Or.inr rfl)) (qs_seq (qs_setLc (i := 8) (c := true) (own := [("k", 10)]) it_any (by decide) rfl nd rfl rfl (sw_true rfl rfl rfl (by decide +kernel)) (pi_any (q_var 5 (pv 5))) (blkOk_by (N := N_l_tie) (sc := defScope s_l_tie) (by decide +kernel)) (fun _ _ _ _ _ => pg_name (i := 10) nd rfl (Or.inl rfl)) c_yes (fun _ _ _ _ _ => pts_nil) (fun _ _ _ _ _ => q_ix (or_ix hu) s_ix (q_ix (or_ix hu) s_ix (q_var 0 (pv 0)) (q_int) (fun _ _ => rfl)) (q_var 10 (pv 10)) (fun _ _ => rfl))) (qs_seq (qs_expr (q_bm PySem.F.plainAttrs_list PySem.F.slot_list_insert PySem.F.type_list_insert mt_insert s_insert (q_var 8 (pv 8)) (qa_cons (q_op op_mod (s_mod) (q_var 4 (pv 4)) (q_op or_add (s_add false) (q_blt or_len s_len rfl (Z.bl 10 "len" rfl) boot_len (qa_cons (q_var 5 (pv 5)) (qa_nil))) (q_int))) (qa_cons (q_tup (qa_cons (q_var 3 (pv 3)) (qa_cons (q_ix (or_ix hu) s_ix (q_ix (or_ix hu) s_ix (q_var 0 (pv 0)) (q_int) (fun _ _ => rfl)) (q_var 1 (pv 1)) (fun _ _ => rfl)) (qa_cons (q_ix (or_ix hu) s_ix (q_ix (or_ix hu) s_ix (q_var 0 (pv 0)) (q_int) (fun _ _ => rfl)) (q_var 2 (pv 2)) (fun _ _ => rfl)) (qa_nil))))) (qa_nil))))) (qs_seq (qs_setLc (i := 9) (c := true) (own := [("k", 10)]) it_any (by decide) rfl nd rfl rfl (sw_true rfl rfl rfl (by decide +kernel)) (pi_any (q_var 5 (pv 5))) (blkOk_by (N := N_l_tie) (sc := defScope s_l_tie) (by decide +kernel)) (fun _ _ _ _ _ => pg_name (i := 10) nd rfl (Or.inl rfl)) c_yes (fun _ _ _ _ _ => pts_nil) (fun _ _ _ _ _ => q_ix (or_ix hu) s_ix (q_ix (or_ix hu) s_ix (q_var 0 (pv 0)) (q_int) (fun _ _ => rfl)) (q_var 10 (pv 10)) (fun _ _ => rfl))) (qs_seq (qs_expr (q_bm PySem.F.plainAttrs_list PySem.F.slot_list_insert PySem.F.type_list_insert mt_insert s_insert (q_var 9 (pv 9)) (qa_cons (q_op op_mod (s_mod) (q_var 4 (pv 4)) (q_op or_add (s_add false) (q_blt or_len s_len rfl (Z.bl 10 "len" rfl) boot_len (qa_cons (q_var 5 (pv 5)) (qa_nil))) (q_int))) (qa_cons (q_var 6 (pv 6)) (qa_nil))))) (qs_seq (qs_sub hu (q_var 8 (pv 8)) (q_var 0 (pv 0)) (q_int)) (qs_one (qs_sub hu (q_comp (c := true) (own := [("mark", 11)]) it_any (by decide) rfl nd (pi_any (q_var 9 (pv 9))) (blkOk_by (N := N_l_tie) (sc := defScope s_l_tie) (by decide +kernel)) (fun _ _ _ _ _ => pg_name (i := 11) nd rfl (Or.inl rfl)) c_yes (fun _ _ _ _ _ => pts_nil) (fun _ _ _ _ _ => q_ifExp (qt_cmp (or_eq hr.units) (s_eq) (q_var 11 (pv 11)) (q_var 7 (pv 7)) (nomark _)) (q_var 6 (pv 6)) (q_var 11 (pv 11)))) (q_var 0 (pv 0)) (q_int))))))))))
set_option maxHeartbeats 1000000 in
theorem d_l_add_knot (Z : Lk P w K mg base sg mts mks fa (gxOf ga) n C I) (f : Addr) (cdv : Value) (A : Around) (outer : List PySem.Env) (s : Shared) (H : Hp) (E : XK) (hr : Room (n + 1) (A.deeper (envOfC "_law_add_knot" (defScope s_l_add_knot) s.heap.objs.size f cdv))) :
    PSs (cxOf (L2N.CX P w) P w K mg base N_l_add_knot "_law_add_knot" (defScope s_l_add_knot) f cdv A outer s H E) (defBody s_l_add_knot) (tSOf K (caK K) E (b_l_add_knot.code C I)) := by
  have nd := sc_l_add_knot.nd
  have hu := hu_of hr
  have hu65 : (A.deeper (envOfC "_law_add_knot" (defScope s_l_add_knot) s.heap.objs.size f cdv)).units + 65 < cLine := by have := hr.un; omega
  dsimp only [b_l_add_knot]
  exact qs_seq (qs_set (i := 3) (q_blt or_len s_len rfl (Z.bl 10 "len" rfl) boot_len (qa_cons (q_ix (or_ix hu) s_ix (q_var 0 (pv 0)) (q_int) (fun _ _ => rfl)) (qa_nil))) nd rfl (Or.inl rfl)) (qs_seq (qs_set (i := 4) (q_op op_mod (s_mod) (q_op op_fdiv (s_div) (q_var 1 (pv 1)) (q_int)) (q_var 3 (pv 3))) nd rfl (Or.inl rfl)) (qs_seq (qs_set (i := 5) (q_op op_mod (s_mod) (q_op op_fdiv (s_div) (q_var 1 (pv 1)) (q_int)) (q_var 3 (pv 3))) nd rfl (Or.inl rfl)) (qs_seq (qs_if (qt_cmp (or_eq hr.units) (s_eq) (q_var 4 (pv 4)) (q_var 5 (pv 5)) (nomark _)) (qs_one (qs_set (i := 5) (q_op op_mod (s_mod) (q_op or_add (s_add false) (q_var 4 (pv 4)) (q_int)) (q_var 3 (pv 3))) nd rfl (Or.inl rfl))) (qs_nil)) (qs_seq (qs_set (i := 6) (q_str) nd rfl (Or.inl rfl)) (qs_seq (qs_if (PW.pt (qw_or (PW.pt (qw_and (qt_val (q_var 2 (pv 2))) (qw_and1 (qt_cmp (or_eq hr.units) (s_eq) (q_ix (or_ix hu) s_ix (q_ix (or_ix hu) s_ix (q_var 0 (pv 0)) (q_int) (fun _ _ => rfl)) (q_var 4 (pv 4)) (fun _ _ => rfl)) (q_ix (or_ix hu) s_ix (q_ix (or_ix hu) s_ix (q_var 0 (pv 0)) (q_int) (fun _ _ => rfl)) (q_var 5 (pv 5)) (fun _ _ => rfl)) (nomark _))))) (qw_or1 (PW.pt (qw_and (qt_not (qt_val (q_var 2 (pv 2)))) (qw_and1 (qt_cmp op_gt (s_cmp _) (q_op op_mod (s_mod) (q_var 1 (pv 1)) (q_int)) (q_int) (nomark _)))))))) (qs_one (qs_set (i := 6) (q_str) nd rfl (Or.inl rfl))) (qs_nil)) (qs_one (qs_expr (q_fn (Z.fn 13 f_l_tie "_law_tie" ["loft", "a", "b", "word", "spot"] rfl) hr rfl (L2N.takes_of rfl rfl rfl rfl) (qa_cons (q_var 0 (pv 0)) (qa_cons (q_var 4 (pv 4)) (qa_cons (q_var 5 (pv 5)) (qa_cons (q_var 6 (pv 6)) (qa_cons (q_op op_fdiv (s_div) (q_var 1 (pv 1)) (q_int)) (qa_nil))))))))))))))
set_option maxHeartbeats 1000000 in
theorem d_l_add_splice (Z : Lk P w K mg base sg mts mks fa (gxOf ga) n C I) (f : Addr) (cdv : Value) (A : Around) (outer : List PySem.Env) (s : Shared) (H : Hp) (E : XK) (hr : Room (n + 1) (A.deeper (envOfC "_law_add_splice" (defScope s_l_add_splice) s.heap.objs.size f cdv))) :
    PSs (cxOf (L2N.CX P w) P w K mg base N_l_add_splice "_law_add_splice" (defScope s_l_add_splice) f cdv A outer s H E) (defBody s_l_add_splice) (tSOf K (caK K) E (b_l_add_splice.code C I)) := by
  have nd := sc_l_add_splice.nd
  have hu := hu_of hr
  have hu65 : (A.deeper (envOfC "_law_add_splice" (defScope s_l_add_splice) s.heap.objs.size f cdv)).units + 65 < cLine := by have := hr.un; omega
  dsimp only [b_l_add_splice]
  exact qs_seq (qs_set (i := 3) (q_op op_mod (s_mod) (q_op op_fdiv (s_div) (q_var 1 (pv 1)) (q_int)) (q_blt or_len s_len rfl (Z.bl 10 "len" rfl) boot_len (qa_cons (q_ix (or_ix hu) s_ix (q_var 0 (pv 0)) (q_int) (fun _ _ => rfl)) (qa_nil)))) nd rfl (Or.inl rfl)) (qs_seq (qs_set (i := 4) (q_ix (or_ix hu) s_ix (q_ix (or_ix hu) s_ix (q_var 0 (pv 0)) (q_int) (fun _ _ => rfl)) (q_var 3 (pv 3)) (fun _ _ => rfl)) nd rfl (Or.inl rfl)) (qs_seq (qs_set (i := 5) (q_fn (Z.fn 11 f_l_anew "_law_anew" ["hang", "book"] rfl) hr rfl (L2N.takes_of rfl rfl rfl rfl) (qa_cons (q_var 4 (pv 4)) (qa_cons (q_ix (or_ix hu) s_ix (q_var 0 (pv 0)) (q_int) (fun _ _ => rfl)) (qa_nil)))) nd rfl (Or.inl rfl)) (qs_seq (qs_set (i := 6) (q_tup (qa_cons (q_var 4 (pv 4)) (qa_cons (q_fn (Z.fn 9 f_l_mirror "_law_mirror" ["hang"] rfl) hr rfl (L2N.takes_of rfl rfl rfl rfl) (qa_cons (q_var 5 (pv 5)) (qa_nil))) (qa_nil)))) nd rfl (Or.inl rfl)) (qs_seq (qs_if (qt_cmp (or_eq hr.units) (s_eq) (q_op op_mod (s_mod) (q_op op_fdiv (s_div) (q_var 1 (pv 1)) (q_int)) (q_int)) (q_int) (nomark _)) (qs_one (qs_set (i := 6) (q_tup (qa_cons (q_ix (or_ix hu) s_ix (q_var 6 (pv 6)) (q_int) (fun _ _ => rfl)) (qa_cons (q_ix (or_ix hu) s_ix (q_var 6 (pv 6)) (q_int) (fun _ _ => rfl)) (qa_nil)))) nd rfl (Or.inl rfl))) (qs_nil)) (qs_seq (qs_expr (q_bm PySem.F.plainAttrs_list PySem.F.slot_list_insert PySem.F.type_list_insert mt_insert s_insert (q_ix (or_ix hu) s_ix (q_var 0 (pv 0)) (q_int) (fun _ _ => rfl)) (qa_cons (q_op op_mod (s_mod) (q_op op_fdiv (s_div) (q_var 1 (pv 1)) (q_int)) (q_op or_add (s_add false) (q_blt or_len s_len rfl (Z.bl 10 "len" rfl) boot_len (qa_cons (q_ix (or_ix hu) s_ix (q_var 0 (pv 0)) (q_int) (fun _ _ => rfl)) (qa_nil))) (q_int))) (qa_cons (q_var 6 (pv 6)) (qa_nil))))) (qs_seq (qs_sub hu (q_var 5 (pv 5)) (q_ix (or_ix hu) s_ix (q_var 0 (pv 0)) (q_int) (fun _ _ => rfl)) (q_var 3 (pv 3))) (qs_one (qs_if (PW.pt (qw_and (qt_cmp (or_eq hr.units) (s_eq) (q_op op_mod (s_mod) (q_op op_fdiv (s_div) (q_var 1 (pv 1)) (q_int)) (q_int)) (q_int) (nomark _)) (qw_and1 (PW.pt (qw_or (qt_cmp (or_eq hr.units) (s_eq) (q_ix (or_ix hu) s_ix (q_var 5 (pv 5)) (q_int) (fun _ _ => rfl)) (q_str) (nomark _)) (qw_or1 (PW.pt (qw_and (qt_cmp (or_eq hr.units) (s_eq) (q_ix (or_ix hu) s_ix (q_var 5 (pv 5)) (q_int) (fun _ _ => rfl)) (q_str) (nomark _)) (qw_and1 (qt_not (qt_val (q_var 2 (pv 2))))))))))))) (qs_seq (qs_sub hu (q_ix (or_ix hu) s_ix (q_var 5 (pv 5)) (q_int) (fun _ _ => rfl)) (q_ix (or_ix hu) s_ix (q_var 0 (pv 0)) (q_int) (fun _ _ => rfl)) (q_var 3 (pv 3))) (qs_seq (qs_expr (q_bm PySem.F.plainAttrs_list PySem.F.slot_list_insert PySem.F.type_list_insert mt_insert s_insert (q_ix (or_ix hu) s_ix (q_var 0 (pv 0)) (q_int) (fun _ _ => rfl)) (qa_cons (q_op or_add (s_add false) (q_var 3 (pv 3)) (q_int)) (qa_cons (q_ix (or_ix hu) s_ix (q_var 5 (pv 5)) (q_int) (fun _ _ => rfl)) (qa_nil))))) (qs_one (qs_expr (q_bm PySem.F.plainAttrs_list PySem.F.slot_list_insert PySem.F.type_list_insert mt_insert s_insert (q_ix (or_ix hu) s_ix (q_var 0 (pv 0)) (q_int) (fun _ _ => rfl)) (qa_cons (q_op or_add (s_add false) (q_var 3 (pv 3)) (q_int)) (qa_cons (q_ix (or_ix hu) s_ix (q_ix (or_ix hu) s_ix (q_var 0 (pv 0)) (q_int) (fun _ _ => rfl)) (q_var 3 (pv 3)) (fun _ _ => rfl)) (qa_nil)))))))) (qs_nil)))))))))
set_option maxHeartbeats 1000000 in
theorem d_l_close (Z : Lk P w K mg base sg mts mks fa (gxOf ga) n C I) (f : Addr) (cdv : Value) (A : Around) (outer : List PySem.Env) (s : Shared) (H : Hp) (E : XK) (hr : Room (n + 1) (A.deeper (envOfC "_law_close" (defScope s_l_close) s.heap.objs.size f cdv))) :
    PSs (cxOf (L2N.CX P w) P w K mg base N_l_close "_law_close" (defScope s_l_close) f cdv A outer s H E) (defBody s_l_close) (tSOf K (caK K) E (b_l_close.code C I)) := by
  have nd := sc_l_close.nd
  have hu := hu_of hr
  have hu65 : (A.deeper (envOfC "_law_close" (defScope s_l_close) s.heap.objs.size f cdv)).units + 65 < cLine := by have := hr.un; omega
  dsimp only [b_l_close]
  exact qs_seq (qs_if (qt_cmp (or_eq hr.units) (s_eq) (q_ix (or_ix hu) s_ix (q_var 0 (pv 0)) (q_int) (fun _ _ => rfl)) (q_lst (qa_nil)) (nomark _)) (qs_one (qs_expr (q_fn (Z.fn 14 f_l_add_cord "_law_add_cord" ["loft", "cell"] rfl) hr rfl (L2N.takes_of rfl rfl rfl rfl) (qa_cons (q_var 0 (pv 0)) (qa_cons (q_var 1 (pv 1)) (qa_nil)))))) (qs_nil)) (qs_seq (qs_setLc (i := 2) (c := false) (own := [("k", 3)]) (it_range1 cons1_len) (by decide) rfl nd rfl rfl (sw_true rfl rfl rfl (by decide +kernel)) (pi_range1 rfl (Z.bl 13 "range" rfl) (qa_cons (q_blt or_len s_len rfl (Z.bl 10 "len" rfl) boot_len (qa_cons (q_ix (or_ix hu) s_ix (q_var 0 (pv 0)) (q_int) (fun _ _ => rfl)) (qa_nil))) (qa_nil))) (blkOk_by (N := N_l_close) (sc := defScope s_l_close) (by decide +kernel)) (fun _ _ _ _ _ => pg_name (i := 3) nd rfl (Or.inl rfl)) (fun _ _ _ h => h) (fun _ _ _ _ _ => pts_one (qt_cmp (or_ne hr.units) (s_ne) (q_ix (or_ix hu) s_ix (q_ix (or_ix hu) s_ix (q_var 0 (pv 0)) (q_int) (fun _ _ => rfl)) (q_var 3 (pv 3)) (fun _ _ => rfl)) (q_ix (or_ix hu) s_ix (q_ix (or_ix hu) s_ix (q_var 0 (pv 0)) (q_int) (fun _ _ => rfl)) (q_int) (fun _ _ => rfl)) (nomark _))) (fun _ _ _ _ _ => q_var 3 (pv 3))) (qs_one (qs_while 100000 (passes_of rfl) (qt_cmp (or_ne hr.units) (s_ne) (q_var 2 (pv 2)) (q_lst (qa_nil)) (nomark _)) (qs_seq (qs_expr (q_fn (Z.fn 13 f_l_tie "_law_tie" ["loft", "a", "b", "word", "spot"] rfl) hr rfl (L2N.takes_of rfl rfl rfl rfl) (qa_cons (q_var 0 (pv 0)) (qa_cons (q_int) (qa_cons (q_ix (or_ix hu) s_ix (q_var 2 (pv 2)) (q_int) (fun _ _ => rfl)) (qa_cons (q_str) (qa_cons (q_var 1 (pv 1)) (qa_nil)))))))) (qs_one (qs_setLc (i := 2) (c := false) (own := [("k", 3)]) (it_range1 cons1_len) (by decide) rfl nd rfl rfl (sw_true rfl rfl rfl (by decide +kernel)) (pi_range1 rfl (Z.bl 13 "range" rfl) (qa_cons (q_blt or_len s_len rfl (Z.bl 10 "len" rfl) boot_len (qa_cons (q_ix (or_ix hu) s_ix (q_var 0 (pv 0)) (q_int) (fun _ _ => rfl)) (qa_nil))) (qa_nil))) (blkOk_by (N := N_l_close) (sc := defScope s_l_close) (by decide +kernel)) (fun _ _ _ _ _ => pg_name (i := 3) nd rfl (Or.inl rfl)) (fun _ _ _ h => h) (fun _ _ _ _ _ => pts_one (qt_cmp (or_ne hr.units) (s_ne) (q_ix (or_ix hu) s_ix (q_ix (or_ix hu) s_ix (q_var 0 (pv 0)) (q_int) (fun _ _ => rfl)) (q_var 3 (pv 3)) (fun _ _ => rfl)) (q_ix (or_ix hu) s_ix (q_ix (or_ix hu) s_ix (q_var 0 (pv 0)) (q_int) (fun _ _ => rfl)) (q_int) (fun _ _ => rfl)) (nomark _))) (fun _ _ _ _ _ => q_var 3 (pv 3))))))))
set_option maxHeartbeats 1000000 in
theorem d_l_loft (Z : Lk P w K mg base sg mts mks fa (gxOf ga) n C I) (f : Addr) (cdv : Value) (A : Around) (outer : List PySem.Env) (s : Shared) (H : Hp) (E : XK) (hr : Room (n + 1) (A.deeper (envOfC "_law_loft" (defScope s_l_loft) s.heap.objs.size f cdv))) :
    PSs (cxOf (L2N.CX P w) P w K mg base N_l_loft "_law_loft" (defScope s_l_loft) f cdv A outer s H E) (defBody s_l_loft) (tSOf K (caK K) E (b_l_loft.code C I)) := by
  have nd := sc_l_loft.nd
  have hu := hu_of hr
  have hu65 : (A.deeper (envOfC "_law_loft" (defScope s_l_loft) s.heap.objs.size f cdv)).units + 65 < cLine := by have := hr.un; omega
  dsimp only [b_l_loft]
  exact qs_seq (qs_set (i := 4) (q_lst (qa_cons (q_lst (qa_nil)) (qa_cons (q_lst (qa_nil)) (qa_cons (q_lst (qa_nil)) (qa_cons (q_fn (Z.fn 16 f_l_book "_law_book" ["cell"] rfl) hr rfl (L2N.takes_of rfl rfl rfl rfl) (qa_cons (q_fn (Z.fn 15 f_l_cell "_law_cell" ["script", "k"] rfl) hr rfl (L2N.takes_of rfl rfl rfl rfl) (qa_cons (q_var 0 (pv 0)) (qa_cons (q_var 1 (pv 1)) (qa_nil)))) (qa_nil))) (qa_nil)))))) nd rfl (Or.inl rfl)) (qs_seq (qs_for it_any (passes_of rfl) rfl (pi_any (q_fn (Z.fn 17 f_l_cells "_law_cells" ["script", "first", "behind"] rfl) hr rfl (L2N.takes_of rfl rfl rfl rfl) (qa_cons (q_var 0 (pv 0)) (qa_cons (q_op or_add (s_add false) (q_var 1 (pv 1)) (q_int)) (qa_cons (q_op or_add (s_add false) (q_op or_add (s_add false) (q_var 1 (pv 1)) (q_int)) (q_var 2 (pv 2))) (qa_nil)))))) (pg_name (i := 5) nd rfl (Or.inl rfl)) (qs_one (qs_if (PW.pt (qw_or (qt_cmp op_lt (s_cmp _) (q_op op_mod (s_mod) (q_var 5 (pv 5)) (q_int)) (q_int) (nomark _)) (qw_or1 (qt_cmp op_lt (s_cmp _) (q_blt or_len s_len rfl (Z.bl 10 "len" rfl) boot_len (qa_cons (q_ix (or_ix hu) s_ix (q_var 4 (pv 4)) (q_int) (fun _ _ => rfl)) (qa_nil))) (q_int) (nomark _))))) (qs_one (qs_expr (q_fn (Z.fn 14 f_l_add_cord "_law_add_cord" ["loft", "cell"] rfl) hr rfl (L2N.takes_of rfl rfl rfl rfl) (qa_cons (q_var 4 (pv 4)) (qa_cons (q_var 5 (pv 5)) (qa_nil)))))) (qs_one (qs_if (PW.pt (qw_and (qt_cmp (or_eq hr.units) (s_eq) (q_op op_mod (s_mod) (q_var 5 (pv 5)) (q_int)) (q_int) (nomark _)) (qw_and1 (qt_cmp op_lt (s_cmp _) (q_blt or_len s_len rfl (Z.bl 10 "len" rfl) boot_len (qa_cons (q_fn (Z.fn 8 f_l_tips "_law_tips" ["hang"] rfl) hr rfl (L2N.takes_of rfl rfl rfl rfl) (qa_cons (q_ix (or_ix hu) s_ix (q_ix (or_ix hu) s_ix (q_var 4 (pv 4)) (q_int) (fun _ _ => rfl)) (q_op op_mod (s_mod) (q_op op_fdiv (s_div) (q_var 5 (pv 5)) (q_int)) (q_blt or_len s_len rfl (Z.bl 10 "len" rfl) boot_len (qa_cons (q_ix (or_ix hu) s_ix (q_var 4 (pv 4)) (q_int) (fun _ _ => rfl)) (qa_nil)))) (fun _ _ => rfl)) (qa_nil))) (qa_nil))) (q_int) (nomark _))))) (qs_one (qs_expr (q_fn (Z.fn 18 f_l_add_splice "_law_add_splice" ["loft", "cell", "good"] rfl) hr rfl (L2N.takes_of rfl rfl rfl rfl) (qa_cons (q_var 4 (pv 4)) (qa_cons (q_var 5 (pv 5)) (qa_cons (q_var 3 (pv 3)) (qa_nil))))))) (qs_one (qs_expr (q_fn (Z.fn 19 f_l_add_knot "_law_add_knot" ["loft", "cell", "good"] rfl) hr rfl (L2N.takes_of rfl rfl rfl rfl) (qa_cons (q_var 4 (pv 4)) (qa_cons (q_var 5 (pv 5)) (qa_cons (q_var 3 (pv 3)) (qa_nil)))))))))))) (qs_seq (qs_if (qt_val (q_var 3 (pv 3))) (qs_one (qs_expr (q_fn (Z.fn 20 f_l_close "_law_close" ["loft", "cell"] rfl) hr rfl (L2N.takes_of rfl rfl rfl rfl) (qa_cons (q_var 4 (pv 4)) (qa_cons (q_fn (Z.fn 15 f_l_cell "_law_cell" ["script", "k"] rfl) hr rfl (L2N.takes_of rfl rfl rfl rfl) (qa_cons (q_var 0 (pv 0)) (qa_cons (q_var 1 (pv 1)) (qa_nil)))) (qa_nil)))))) (qs_nil)) (qs_one (qs_ret (q_var 4 (pv 4))))))
set_option maxHeartbeats 1000000 in
theorem d_l_many_knots (Z : Lk P w K mg base sg mts mks fa (gxOf ga) n C I) (f : Addr) (cdv : Value) (A : Around) (outer : List PySem.Env) (s : Shared) (H : Hp) (E : XK) (hr : Room (n + 1) (A.deeper (envOfC "_law_many_knots" (defScope s_l_many_knots) s.heap.objs.size f cdv))) :
    PSs (cxOf (L2N.CX P w) P w K mg base N_l_many_knots "_law_many_knots" (defScope s_l_many_knots) f cdv A outer s H E) (defBody s_l_many_knots) (tSOf K (caK K) E (b_l_many_knots.code C I)) := by
  have nd := sc_l_many_knots.nd
  have hu := hu_of hr
  have hu65 : (A.deeper (envOfC "_law_many_knots" (defScope s_l_many_knots) s.heap.objs.size f cdv)).units + 65 < cLine := by have := hr.un; omega
  dsimp only [b_l_many_knots]
  exact qs_seq (qs_if (qt_val (q_fn (Z.fn 7 f_l_is_tip "_law_is_tip" ["hang"] rfl) hr rfl (L2N.takes_of rfl rfl rfl rfl) (qa_cons (q_var 0 (pv 0)) (qa_nil)))) (qs_one (qs_ret (q_int))) (qs_nil)) (qs_one (qs_ret (q_op or_add (s_add false) (q_op or_add (s_add false) (q_int) (q_fn (Z.fn 21 f_l_many_knots "_law_many_knots" ["hang"] rfl) hr rfl (L2N.takes_of rfl rfl rfl rfl) (qa_cons (q_ix (or_ix hu) s_ix (q_var 0 (pv 0)) (q_int) (fun _ _ => rfl)) (qa_nil)))) (q_fn (Z.fn 21 f_l_many_knots "_law_many_knots" ["hang"] rfl) hr rfl (L2N.takes_of rfl rfl rfl rfl) (qa_cons (q_ix (or_ix hu) s_ix (q_var 0 (pv 0)) (q_int) (fun _ _ => rfl)) (qa_nil))))))
set_option maxHeartbeats 1000000 in
theorem d_l_turned (Z : Lk P w K mg base sg mts mks fa (gxOf ga) n C I) (f : Addr) (cdv : Value) (A : Around) (outer : List PySem.Env) (s : Shared) (H : Hp) (E : XK) (hr : Room (n + 1) (A.deeper (envOfC "_law_turned" (defScope s_l_turned) s.heap.objs.size f cdv))) :
    PSs (cxOf (L2N.CX P w) P w K mg base N_l_turned "_law_turned" (defScope s_l_turned) f cdv A outer s H E) (defBody s_l_turned) (tSOf K (caK K) E (b_l_turned.code C I)) := by
  have nd := sc_l_turned.nd
  have hu := hu_of hr
  have hu65 : (A.deeper (envOfC "_law_turned" (defScope s_l_turned) s.heap.objs.size f cdv)).units + 65 < cLine := by have := hr.un; omega
  dsimp only [b_l_turned]
  exact qs_seq (qs_if (PW.pt (qw_or (qt_cmp op_lt (s_cmp _) (q_var 1 (pv 1)) (q_int) (nomark _)) (qw_or1 (qt_cmp op_ge (s_cmp _) (q_var 1 (pv 1)) (q_fn (Z.fn 21 f_l_many_knots "_law_many_knots" ["hang"] rfl) hr rfl (L2N.takes_of rfl rfl rfl rfl) (qa_cons (q_var 0 (pv 0)) (qa_nil))) (nomark _))))) (qs_one (qs_ret (q_var 0 (pv 0)))) (qs_nil)) (qs_seq (qs_if (qt_cmp (or_eq hr.units) (s_eq) (q_var 1 (pv 1)) (q_int) (nomark _)) (qs_one (qs_ret (q_tup (qa_cons (q_dispIx (kvs := [((.inr "fast"), .str "loose"), ((.inr "loose"), .str "fast")]) hu (pps_cons pe_str pe_str (pps_cons pe_str pe_str (pps_nil))) (.cons ⟨rfl, rfl⟩ (.cons ⟨rfl, rfl⟩ (.nil))) (by rfl) (by rfl) (fun z => by cases z) (by decide) (by decide) (q_ix (or_ix hu) s_ix (q_var 0 (pv 0)) (q_int) (fun _ _ => rfl)) (fun _ _ => rfl)) (qa_cons (q_ix (or_ix hu) s_ix (q_var 0 (pv 0)) (q_int) (fun _ _ => rfl)) (qa_cons (q_ix (or_ix hu) s_ix (q_var 0 (pv 0)) (q_int) (fun _ _ => rfl)) (qa_nil))))))) (qs_nil)) (qs_seq (qs_set (i := 2) (q_fn (Z.fn 21 f_l_many_knots "_law_many_knots" ["hang"] rfl) hr rfl (L2N.takes_of rfl rfl rfl rfl) (qa_cons (q_ix (or_ix hu) s_ix (q_var 0 (pv 0)) (q_int) (fun _ _ => rfl)) (qa_nil))) nd rfl (Or.inl rfl)) (qs_one (qs_ret (q_tup (qa_cons (q_ix (or_ix hu) s_ix (q_var 0 (pv 0)) (q_int) (fun _ _ => rfl)) (qa_cons (q_fn (Z.fn 22 f_l_turned "_law_turned" ["hang", "at"] rfl) hr rfl (L2N.takes_of rfl rfl rfl rfl) (qa_cons (q_ix (or_ix hu) s_ix (q_var 0 (pv 0)) (q_int) (fun _ _ => rfl)) (qa_cons (q_op op_sub (s_sub) (q_var 1 (pv 1)) (q_int)) (qa_nil)))) (qa_cons (q_fn (Z.fn 22 f_l_turned "_law_turned" ["hang", "at"] rfl) hr rfl (L2N.takes_of rfl rfl rfl rfl) (qa_cons (q_ix (or_ix hu) s_ix (q_var 0 (pv 0)) (q_int) (fun _ _ => rfl)) (qa_cons (q_op op_sub (s_sub) (q_op op_sub (s_sub) (q_var 1 (pv 1)) (q_int)) (q_var 2 (pv 2))) (qa_nil)))) (qa_nil)))))))))
set_option maxHeartbeats 1000000 in
theorem d_l_words (Z : Lk P w K mg base sg mts mks fa (gxOf ga) n C I) (f : Addr) (cdv : Value) (A : Around) (outer : List PySem.Env) (s : Shared) (H : Hp) (E : XK) (hr : Room (n + 1) (A.deeper (envOfC "_law_words" (defScope s_l_words) s.heap.objs.size f cdv))) :
    PSs (cxOf (L2N.CX P w) P w K mg base N_l_words "_law_words" (defScope s_l_words) f cdv A outer s H E) (defBody s_l_words) (tSOf K (caK K) E (b_l_words.code C I)) := by
  have nd := sc_l_words.nd
  have hu := hu_of hr
  have hu65 : (A.deeper (envOfC "_law_words" (defScope s_l_words) s.heap.objs.size f cdv)).units + 65 < cLine := by have := hr.un; omega
  dsimp only [b_l_words]
  exact qs_seq (qs_if (qt_val (q_fn (Z.fn 7 f_l_is_tip "_law_is_tip" ["hang"] rfl) hr rfl (L2N.takes_of rfl rfl rfl rfl) (qa_cons (q_var 0 (pv 0)) (qa_nil)))) (qs_one (qs_ret (q_lst (qa_nil)))) (qs_nil)) (qs_one (qs_ret (q_op or_add (s_add false) (q_op or_add (s_add false) (q_lst (qa_cons (q_ix (or_ix hu) s_ix (q_var 0 (pv 0)) (q_int) (fun _ _ => rfl)) (qa_nil))) (q_fn (Z.fn 23 f_l_words "_law_words" ["hang"] rfl) hr rfl (L2N.takes_of rfl rfl rfl rfl) (qa_cons (q_ix (or_ix hu) s_ix (q_var 0 (pv 0)) (q_int) (fun _ _ => rfl)) (qa_nil)))) (q_fn (Z.fn 23 f_l_words "_law_words" ["hang"] rfl) hr rfl (L2N.takes_of rfl rfl rfl rfl) (qa_cons (q_ix (or_ix hu) s_ix (q_var 0 (pv 0)) (q_int) (fun _ _ => rfl)) (qa_nil))))))
set_option maxHeartbeats 1000000 in
theorem d_l_two_turned (Z : Lk P w K mg base sg mts mks fa (gxOf ga) n C I) (f : Addr) (cdv : Value) (A : Around) (outer : List PySem.Env) (s : Shared) (H : Hp) (E : XK) (hr : Room (n + 1) (A.deeper (envOfC "_law_two_turned" (defScope s_l_two_turned) s.heap.objs.size f cdv))) :
    PSs (cxOf (L2N.CX P w) P w K mg base N_l_two_turned "_law_two_turned" (defScope s_l_two_turned) f cdv A outer s H E) (defBody s_l_two_turned) (tSOf K (caK K) E (b_l_two_turned.code C I)) := by
  have nd := sc_l_two_turned.nd
  have hu := hu_of hr
  have hu65 : (A.deeper (envOfC "_law_two_turned" (defScope s_l_two_turned) s.heap.objs.size f cdv)).units + 65 < cLine := by have := hr.un; omega
  dsimp only [b_l_two_turned]
  exact qs_seq (qs_set (i := 2) (q_disp [(mC (.str "loose"), mN (oLst true) (mNil)), (mC (.str "fast"), mN (oLst true) (mNil))] (qp_cons (q_str) (q_lst (qa_nil)) (qp_cons (q_str) (q_lst (qa_nil)) (qp_nil))) (by rfl) (by rfl) (fun z => by cases z) (by decide)) nd rfl (Or.inl rfl)) (qs_seq (qs_for it_enum (passes_of rfl) rfl (pi_enum rfl (Z.bl 14 "enumerate" rfl) (qa_cons (q_ix (or_ix hu) s_ix (q_var 0 (pv 0)) (q_int) (fun _ _ => rfl)) (qa_nil))) (pg_tup rfl (pgs_cons (pg_name (i := 3) nd rfl (Or.inl rfl)) (pgs_cons (pg_name (i := 4) nd rfl (Or.inl rfl)) pgs_nil))) (qs_one (qs_for it_enum (passes_of rfl) rfl (pi_enum rfl (Z.bl 14 "enumerate" rfl) (qa_cons (q_fn (Z.fn 23 f_l_words "_law_words" ["hang"] rfl) hr rfl (L2N.takes_of rfl rfl rfl rfl) (qa_cons (q_var 4 (pv 4)) (qa_nil))) (qa_nil))) (pg_tup rfl (pgs_cons (pg_name (i := 5) nd rfl (Or.inl rfl)) (pgs_cons (pg_name (i := 6) nd rfl (Or.inl rfl)) pgs_nil))) (qs_one (qs_expr (q_bm PySem.F.plainAttrs_list PySem.F.slot_list_append PySem.F.type_list_append mt_append s_append (q_ix (or_ix hu) s_ix (q_var 2 (pv 2)) (q_var 6 (pv 6)) (fun _ _ => rfl)) (qa_cons (q_tup (qa_cons (q_var 3 (pv 3)) (qa_cons (q_var 5 (pv 5)) (qa_nil)))) (qa_nil)))))))) (qs_one (qs_for it_any (passes_of rfl) rfl (pi_any (q_lst (qa_cons (q_str) (qa_cons (q_str) (qa_nil))))) (pg_name (i := 6) nd rfl (Or.inl rfl)) (qs_one (qs_if (PW.pt (qw_and (qt_cmp (or_ne hr.units) (s_ne) (q_ix (or_ix hu) s_ix (q_var 2 (pv 2)) (q_str) (fun _ _ => rfl)) (q_lst (qa_nil)) (nomark _)) (qw_and1 (qt_cmp (or_ne hr.units) (s_ne) (q_ix (or_ix hu) s_ix (q_var 2 (pv 2)) (q_str) (fun _ _ => rfl)) (q_lst (qa_nil)) (nomark _))))) (qs_seq (qs_tup (is := [3, 5]) rfl (q_ix (or_ix hu) s_ix (q_ix (or_ix hu) s_ix (q_var 2 (pv 2)) (q_var 6 (pv 6)) (fun _ _ => rfl)) (q_op op_mod (s_mod) (q_var 1 (pv 1)) (q_blt or_len s_len rfl (Z.bl 10 "len" rfl) boot_len (qa_cons (q_ix (or_ix hu) s_ix (q_var 2 (pv 2)) (q_var 6 (pv 6)) (fun _ _ => rfl)) (qa_nil)))) (fun _ _ => rfl)) (pgs_cons (pg_name (i := 3) nd rfl (Or.inl rfl)) (pgs_cons (pg_name (i := 5) nd rfl (Or.inl rfl)) (pgs_nil)))) (qs_seq (qs_sub hu (q_fn (Z.fn 22 f_l_turned "_law_turned" ["hang", "at"] rfl) hr rfl (L2N.takes_of rfl rfl rfl rfl) (qa_cons (q_ix (or_ix hu) s_ix (q_ix (or_ix hu) s_ix (q_var 0 (pv 0)) (q_int) (fun _ _ => rfl)) (q_var 3 (pv 3)) (fun _ _ => rfl)) (qa_cons (q_var 5 (pv 5)) (qa_nil)))) (q_ix (or_ix hu) s_ix (q_var 0 (pv 0)) (q_int) (fun _ _ => rfl)) (q_var 3 (pv 3))) (qs_one (qs_set (i := 1) (q_op op_fdiv (s_div) (q_var 1 (pv 1)) (q_int)) nd rfl (Or.inl rfl))))) (qs_nil))))))
set_option maxHeartbeats 1000000 in
theorem d_l_three_ways (Z : Lk P w K mg base sg mts mks fa (gxOf ga) n C I) (f : Addr) (cdv : Value) (A : Around) (outer : List PySem.Env) (s : Shared) (H : Hp) (E : XK) (hr : Room (n + 1) (A.deeper (envOfC "_law_three_ways" (defScope s_l_three_ways) s.heap.objs.size f cdv))) :
    PSs (cxOf (L2N.CX P w) P w K mg base N_l_three_ways "_law_three_ways" (defScope s_l_three_ways) f cdv A outer s H E) (defBody s_l_three_ways) (tSOf K (caK K) E (b_l_three_ways.code C I)) := by
  have nd := sc_l_three_ways.nd
  have hu := hu_of hr
  have hu65 : (A.deeper (envOfC "_law_three_ways" (defScope s_l_three_ways) s.heap.objs.size f cdv)).units + 65 < cLine := by have := hr.un; omega
  dsimp only [b_l_three_ways]
  exact qs_seq (qs_set (i := 3) (q_op op_mod (s_mod) (q_fn (Z.fn 15 f_l_cell "_law_cell" ["script", "k"] rfl) hr rfl (L2N.takes_of rfl rfl rfl rfl) (qa_cons (q_var 0 (pv 0)) (qa_cons (q_var 1 (pv 1)) (qa_nil)))) (q_int)) nd rfl (Or.inl rfl)) (qs_seq (qs_set (i := 4) (q_fn (Z.fn 24 f_l_loft "_law_loft" ["script", "first", "most", "good"] rfl) hr rfl (L2N.takes_of rfl rfl rfl rfl) (qa_cons (q_var 0 (pv 0)) (qa_cons (q_op or_add (s_add false) (q_var 1 (pv 1)) (q_int)) (qa_cons (q_var 2 (pv 2)) (qa_cons (q_cmp op_gt (s_cmp _) (q_var 3 (pv 3)) (q_int) (nomark _)) (qa_nil)))))) nd rfl (Or.inl rfl)) (qs_seq (qs_set (i := 5) (q_op op_fdiv (s_div) (q_fn (Z.fn 15 f_l_cell "_law_cell" ["script", "k"] rfl) hr rfl (L2N.takes_of rfl rfl rfl rfl) (qa_cons (q_var 0 (pv 0)) (qa_cons (q_var 1 (pv 1)) (qa_nil)))) (q_int)) nd rfl (Or.inl rfl)) (qs_seq (qs_if (PW.pt (qw_and (qt_cmp (or_eq hr.units) (s_eq) (q_var 3 (pv 3)) (q_int) (nomark _)) (qw_and1 (qt_cmp (or_eq hr.units) (s_eq) (q_op op_mod (s_mod) (q_op op_fdiv (s_div) (q_fn (Z.fn 15 f_l_cell "_law_cell" ["script", "k"] rfl) hr rfl (L2N.takes_of rfl rfl rfl rfl) (qa_cons (q_var 0 (pv 0)) (qa_cons (q_var 1 (pv 1)) (qa_nil)))) (q_int)) (q_int)) (q_int) (nomark _))))) (qs_one (qs_expr (q_fn (Z.fn 25 f_l_two_turned "_law_two_turned" ["loft", "cell"] rfl) hr rfl (L2N.takes_of rfl rfl rfl rfl) (qa_cons (q_var 4 (pv 4)) (qa_cons (q_var 5 (pv 5)) (qa_nil)))))) (qs_one (qs_if (qt_cmp (or_eq hr.units) (s_eq) (q_var 3 (pv 3)) (q_int) (nomark _)) (qs_seq (qs_set (i := 6) (q_op op_mod (s_mod) (q_var 5 (pv 5)) (q_blt or_len s_len rfl (Z.bl 10 "len" rfl) boot_len (qa_cons (q_ix (or_ix hu) s_ix (q_var 4 (pv 4)) (q_int) (fun _ _ => rfl)) (qa_nil)))) nd rfl (Or.inl rfl)) (qs_seq (qs_set (i := 7) (q_fn (Z.fn 21 f_l_many_knots "_law_many_knots" ["hang"] rfl) hr rfl (L2N.takes_of rfl rfl rfl rfl) (qa_cons (q_ix (or_ix hu) s_ix (q_ix (or_ix hu) s_ix (q_var 4 (pv 4)) (q_int) (fun _ _ => rfl)) (q_var 6 (pv 6)) (fun _ _ => rfl)) (qa_nil))) nd rfl (Or.inl rfl)) (qs_one (qs_sub hu (q_fn (Z.fn 22 f_l_turned "_law_turned" ["hang", "at"] rfl) hr rfl (L2N.takes_of rfl rfl rfl rfl) (qa_cons (q_ix (or_ix hu) s_ix (q_ix (or_ix hu) s_ix (q_var 4 (pv 4)) (q_int) (fun _ _ => rfl)) (q_var 6 (pv 6)) (fun _ _ => rfl)) (qa_cons (q_op op_mod (s_mod) (q_op op_fdiv (s_div) (q_var 5 (pv 5)) (q_int)) (q_op or_add (s_add false) (q_var 7 (pv 7)) (q_int))) (qa_nil)))) (q_ix (or_ix hu) s_ix (q_var 4 (pv 4)) (q_int) (fun _ _ => rfl)) (q_var 6 (pv 6)))))) (qs_nil)))) (qs_one (qs_ret (q_var 4 (pv 4)))))))
set_option maxHeartbeats 1000000 in
theorem d_l_whole (Z : Lk P w K mg base sg mts mks fa (gxOf ga) n C I) (f : Addr) (cdv : Value) (A : Around) (outer : List PySem.Env) (s : Shared) (H : Hp) (E : XK) (hr : Room (n + 1) (A.deeper (envOfC "_law_whole" (defScope s_l_whole) s.heap.objs.size f cdv))) :
    PSs (cxOf (L2N.CX P w) P w K mg base N_l_whole "_law_whole" (defScope s_l_whole) f cdv A outer s H E) (defBody s_l_whole) (tSOf K (caK K) E (b_l_whole.code C I)) := by
  have nd := sc_l_whole.nd
  have hu := hu_of hr
  have hu65 : (A.deeper (envOfC "_law_whole" (defScope s_l_whole) s.heap.objs.size f cdv)).units + 65 < cLine := by have := hr.un; omega
  dsimp only [b_l_whole]
  exact qs_one (qs_ret (q_and (q_isT rfl (Z.bl 15 "isinstance" rfl) (q_var 0 (pv 0)) (pe_bltn (v := .ty "int") rfl (Z.bl 16 "int" rfl) (by decide +kernel) rfl)) (q_one (q_not (q_isT rfl (Z.bl 15 "isinstance" rfl) (q_var 0 (pv 0)) (pe_bltn (v := .ty "bool") rfl (Z.bl 17 "bool" rfl) (by decide +kernel) rfl))))))
set_option maxHeartbeats 1000000 in
theorem d_l_hang (Z : Lk P w K mg base sg mts mks fa (gxOf ga) n C I) (f : Addr) (cdv : Value) (A : Around) (outer : List PySem.Env) (s : Shared) (H : Hp) (E : XK) (hr : Room (n + 1) (A.deeper (envOfC "_law_hang" (defScope s_l_hang) s.heap.objs.size f cdv))) :
    PSs (cxOf (L2N.CX P w) P w K mg base N_l_hang "_law_hang" (defScope s_l_hang) f cdv A outer s H E) (defBody s_l_hang) (tSOf K (caK K) E (b_l_hang.code C I)) := by
  have nd := sc_l_hang.nd
  have hu := hu_of hr
  have hu65 : (A.deeper (envOfC "_law_hang" (defScope s_l_hang) s.heap.objs.size f cdv)).units + 65 < cLine := by have := hr.un; omega
  dsimp only [b_l_hang]
  exact qs_seq (qs_if (PW.pt (qw_or (qt_not (qt_val (q_isT rfl (Z.bl 15 "isinstance" rfl) (q_var 0 (pv 0)) (pe_bltn (v := .ty "tuple") rfl (Z.bl 4 "tuple" rfl) (by decide +kernel) rfl)))) (qw_or (qt_cmp (or_ne hr.units) (s_ne) (q_blt or_len s_len rfl (Z.bl 10 "len" rfl) boot_len (qa_cons (q_var 0 (pv 0)) (qa_nil))) (q_int) (nomark _)) (qw_or1 (qt_not (qt_val (q_isT rfl (Z.bl 15 "isinstance" rfl) (q_ix (or_ix hu) s_ix (q_var 0 (pv 0)) (q_int) (fun _ _ => rfl)) (pe_bltn (v := .ty "str") rfl (Z.bl 18 "str" rfl) (by decide +kernel) rfl)))))))) (qs_one (qs_ret (q_bl))) (qs_nil)) (qs_seq (qs_if (PW.pt (qw_or (qt_cmp (or_eq hr.units) (s_eq) (q_ix (or_ix hu) s_ix (q_var 0 (pv 0)) (q_int) (fun _ _ => rfl)) (q_str) (nomark _)) (qw_or1 (qt_cmp (or_eq hr.units) (s_eq) (q_ix (or_ix hu) s_ix (q_var 0 (pv 0)) (q_int) (fun _ _ => rfl)) (q_str) (nomark _))))) (qs_one (qs_ret (q_and (q_fn (Z.fn 26 f_l_hang "_law_hang" ["found"] rfl) hr rfl (L2N.takes_of rfl rfl rfl rfl) (qa_cons (q_ix (or_ix hu) s_ix (q_var 0 (pv 0)) (q_int) (fun _ _ => rfl)) (qa_nil))) (q_one (q_fn (Z.fn 26 f_l_hang "_law_hang" ["found"] rfl) hr rfl (L2N.takes_of rfl rfl rfl rfl) (qa_cons (q_ix (or_ix hu) s_ix (q_var 0 (pv 0)) (q_int) (fun _ _ => rfl)) (qa_nil))))))) (qs_nil)) (qs_one (qs_ret (q_and (q_isT rfl (Z.bl 15 "isinstance" rfl) (q_ix (or_ix hu) s_ix (q_var 0 (pv 0)) (q_int) (fun _ _ => rfl)) (pe_bltn (v := .ty "str") rfl (Z.bl 18 "str" rfl) (by decide +kernel) rfl)) (q_one (q_fn (Z.fn 27 f_l_whole "_law_whole" ["found"] rfl) hr rfl (L2N.takes_of rfl rfl rfl rfl) (qa_cons (q_ix (or_ix hu) s_ix (q_var 0 (pv 0)) (q_int) (fun _ _ => rfl)) (qa_nil))))))))
set_option maxHeartbeats 1000000 in
theorem d_l_hangs (Z : Lk P w K mg base sg mts mks fa (gxOf ga) n C I) (f : Addr) (cdv : Value) (A : Around) (outer : List PySem.Env) (s : Shared) (H : Hp) (E : XK) (hr : Room (n + 1) (A.deeper (envOfC "_law_hangs" (defScope s_l_hangs) s.heap.objs.size f cdv))) :
    PSs (cxOf (L2N.CX P w) P w K mg base N_l_hangs "_law_hangs" (defScope s_l_hangs) f cdv A outer s H E) (defBody s_l_hangs) (tSOf K (caK K) E (b_l_hangs.code C I)) := by
  have nd := sc_l_hangs.nd
  have hu := hu_of hr
  have hu65 : (A.deeper (envOfC "_law_hangs" (defScope s_l_hangs) s.heap.objs.size f cdv)).units + 65 < cLine := by have := hr.un; omega
  dsimp only [b_l_hangs]
  exact qs_seq (qs_if (PW.pt (qw_or (qt_not (qt_val (q_isT rfl (Z.bl 15 "isinstance" rfl) (q_var 0 (pv 0)) (pe_bltn (v := .ty "list") rfl (Z.bl 0 "list" rfl) (by decide +kernel) rfl)))) (qw_or1 (qt_cmp (or_ne hr.units) (s_ne) (q_blt or_len s_len rfl (Z.bl 10 "len" rfl) boot_len (qa_cons (q_var 0 (pv 0)) (qa_nil))) (q_blt or_len s_len rfl (Z.bl 10 "len" rfl) boot_len (qa_cons (q_var 1 (pv 1)) (qa_nil))) (nomark _))))) (qs_one (qs_ret (q_bl))) (qs_nil)) (qs_seq (qs_for it_zip (passes_of rfl) rfl (pi_zip rfl (Z.bl 19 "zip" rfl) (qa_cons (q_var 0 (pv 0)) (qa_cons (q_var 1 (pv 1)) (qa_nil)))) (pg_tup rfl (pgs_cons (pg_name (i := 2) nd rfl (Or.inl rfl)) (pgs_cons (pg_name (i := 3) nd rfl (Or.inl rfl)) pgs_nil))) (qs_one (qs_if (PW.pt (qw_or (qt_not (qt_val (q_fn (Z.fn 26 f_l_hang "_law_hang" ["found"] rfl) hr rfl (L2N.takes_of rfl rfl rfl rfl) (qa_cons (q_var 2 (pv 2)) (qa_nil))))) (qw_or1 (qt_cmp (or_ne hr.units) (s_ne) (q_var 2 (pv 2)) (q_var 3 (pv 3)) (nomark _))))) (qs_one (qs_ret (q_bl))) (qs_nil)))) (qs_one (qs_ret (q_bl))))
set_option maxHeartbeats 1000000 in
theorem d_l_pairs (Z : Lk P w K mg base sg mts mks fa (gxOf ga) n C I) (f : Addr) (cdv : Value) (A : Around) (outer : List PySem.Env) (s : Shared) (H : Hp) (E : XK) (hr : Room (n + 1) (A.deeper (envOfC "_law_pairs" (defScope s_l_pairs) s.heap.objs.size f cdv))) :
    PSs (cxOf (L2N.CX P w) P w K mg base N_l_pairs "_law_pairs" (defScope s_l_pairs) f cdv A outer s H E) (defBody s_l_pairs) (tSOf K (caK K) E (b_l_pairs.code C I)) := by
  have nd := sc_l_pairs.nd
  have hu := hu_of hr
  have hu65 : (A.deeper (envOfC "_law_pairs" (defScope s_l_pairs) s.heap.objs.size f cdv)).units + 65 < cLine := by have := hr.un; omega
  dsimp only [b_l_pairs]
  exact qs_seq (qs_if (PW.pt (qw_or (qt_not (qt_val (q_isT rfl (Z.bl 15 "isinstance" rfl) (q_var 0 (pv 0)) (pe_bltn (v := .ty "list") rfl (Z.bl 0 "list" rfl) (by decide +kernel) rfl)))) (qw_or1 (qt_cmp (or_ne hr.units) (s_ne) (q_blt or_len s_len rfl (Z.bl 10 "len" rfl) boot_len (qa_cons (q_var 0 (pv 0)) (qa_nil))) (q_blt or_len s_len rfl (Z.bl 10 "len" rfl) boot_len (qa_cons (q_var 1 (pv 1)) (qa_nil))) (nomark _))))) (qs_one (qs_ret (q_bl))) (qs_nil)) (qs_seq (qs_for it_zip (passes_of rfl) rfl (pi_zip rfl (Z.bl 19 "zip" rfl) (qa_cons (q_var 0 (pv 0)) (qa_cons (q_var 1 (pv 1)) (qa_nil)))) (pg_tup rfl (pgs_cons (pg_name (i := 2) nd rfl (Or.inl rfl)) (pgs_cons (pg_name (i := 3) nd rfl (Or.inl rfl)) pgs_nil))) (qs_one (qs_if (PW.pt (qw_or (qt_not (qt_val (q_isT rfl (Z.bl 15 "isinstance" rfl) (q_var 2 (pv 2)) (pe_bltn (v := .ty "tuple") rfl (Z.bl 4 "tuple" rfl) (by decide +kernel) rfl)))) (qw_or1 (qt_not (qt_val (q_fn (Z.fn 28 f_l_hangs "_law_hangs" ["found", "due"] rfl) hr rfl (L2N.takes_of rfl rfl rfl rfl) (qa_cons (q_blty call_list_of (s_list false) rfl (Z.bl 0 "list" rfl) (by decide +kernel) (qa_cons (q_var 2 (pv 2)) (qa_nil))) (qa_cons (q_blty call_list_of (s_list false) rfl (Z.bl 0 "list" rfl) (by decide +kernel) (qa_cons (q_var 3 (pv 3)) (qa_nil))) (qa_nil))))))))) (qs_one (qs_ret (q_bl))) (qs_nil)))) (qs_one (qs_ret (q_bl))))
set_option maxHeartbeats 1000000 in
theorem d_l_net (Z : Lk P w K mg base sg mts mks fa (gxOf ga) n C I) (f : Addr) (cdv : Value) (A : Around) (outer : List PySem.Env) (s : Shared) (H : Hp) (E : XK) (hr : Room (n + 1) (A.deeper (envOfC "_law_net" (defScope s_l_net) s.heap.objs.size f cdv))) :
    PSs (cxOf (L2N.CX P w) P w K mg base N_l_net "_law_net" (defScope s_l_net) f cdv A outer s H E) (defBody s_l_net) (tSOf K (caK K) E (b_l_net.code C I)) := by
  have nd := sc_l_net.nd
  have hu := hu_of hr
  have hu65 : (A.deeper (envOfC "_law_net" (defScope s_l_net) s.heap.objs.size f cdv)).units + 65 < cLine := by have := hr.un; omega
  dsimp only [b_l_net]
  exact qs_seq (qs_if (PW.pt (qw_or (qt_not (qt_val (q_isC rfl (Z.bl 15 "isinstance" rfl) (Z.inF 1 0 1 7 rfl rfl rfl) (q_var 0 (pv 0)) (pe_glob rfl (Z.gx 20 7 rfl) rfl)))) (qw_or (qt_not (qt_val (q_fn (Z.fn 28 f_l_hangs "_law_hangs" ["found", "due"] rfl) hr rfl (L2N.takes_of rfl rfl rfl rfl) (qa_cons (q_fld (Z.cl 1 7 rfl) (Z.na 2 7 "rack" rfl) (q_var 0 (pv 0))) (qa_cons (q_var 1 (pv 1)) (qa_nil)))))) (qw_or1 (qt_not (qt_val (q_fn (Z.fn 29 f_l_pairs "_law_pairs" ["found", "due"] rfl) hr rfl (L2N.takes_of rfl rfl rfl rfl) (qa_cons (q_fld (Z.cl 1 7 rfl) (Z.na 3 7 "splices" rfl) (q_var 0 (pv 0))) (qa_cons (q_var 2 (pv 2)) (qa_nil)))))))))) (qs_one (qs_ret (q_bl))) (qs_nil)) (qs_one (qs_ret (q_and (q_fn (Z.fn 27 f_l_whole "_law_whole" ["found"] rfl) hr rfl (L2N.takes_of rfl rfl rfl rfl) (qa_cons (q_fld (Z.cl 1 7 rfl) (Z.na 5 7 "rings" rfl) (q_var 0 (pv 0))) (qa_nil))) (q_one (q_cmp (or_eq hr.units) (s_eq) (q_fld (Z.cl 1 7 rfl) (Z.na 5 7 "rings" rfl) (q_var 0 (pv 0))) (q_var 3 (pv 3)) (nomark _))))))
set_option maxHeartbeats 1000000 in
theorem d_l_bare (Z : Lk P w K mg base sg mts mks fa (gxOf ga) n C I) (f : Addr) (cdv : Value) (A : Around) (outer : List PySem.Env) (s : Shared) (H : Hp) (E : XK) (hr : Room (n + 1) (A.deeper (envOfC "_law_bare" (defScope s_l_bare) s.heap.objs.size f cdv))) :
    PSs (cxOf (L2N.CX P w) P w K mg base N_l_bare "_law_bare" (defScope s_l_bare) f cdv A outer s H E) (defBody s_l_bare) (tSOf K (caK K) E (b_l_bare.code C I)) := by
  have nd := sc_l_bare.nd
  have hu := hu_of hr
  have hu65 : (A.deeper (envOfC "_law_bare" (defScope s_l_bare) s.heap.objs.size f cdv)).units + 65 < cLine := by have := hr.un; omega
  dsimp only [b_l_bare]
  exact qs_seq (qs_if (qt_val (q_fn (Z.fn 7 f_l_is_tip "_law_is_tip" ["hang"] rfl) hr rfl (L2N.takes_of rfl rfl rfl rfl) (qa_cons (q_var 0 (pv 0)) (qa_nil)))) (qs_one (qs_ret (q_tup (qa_cons (q_ix (or_ix hu) s_ix (q_var 0 (pv 0)) (q_int) (fun _ _ => rfl)) (qa_cons (q_ix (or_ix hu) s_ix (q_var 0 (pv 0)) (q_int) (fun _ _ => rfl)) (qa_cons (q_int) (qa_nil))))))) (qs_nil)) (qs_one (qs_ret (q_tup (qa_cons (q_ix (or_ix hu) s_ix (q_var 0 (pv 0)) (q_int) (fun _ _ => rfl)) (qa_cons (q_fn (Z.fn 30 f_l_bare "_law_bare" ["hang"] rfl) hr rfl (L2N.takes_of rfl rfl rfl rfl) (qa_cons (q_ix (or_ix hu) s_ix (q_var 0 (pv 0)) (q_int) (fun _ _ => rfl)) (qa_nil))) (qa_cons (q_fn (Z.fn 30 f_l_bare "_law_bare" ["hang"] rfl) hr rfl (L2N.takes_of rfl rfl rfl rfl) (qa_cons (q_ix (or_ix hu) s_ix (q_var 0 (pv 0)) (q_int) (fun _ _ => rfl)) (qa_nil))) (qa_nil)))))))
set_option maxHeartbeats 1000000 in
theorem d_l_far_loft (Z : Lk P w K mg base sg mts mks fa (gxOf ga) n C I) (f : Addr) (cdv : Value) (A : Around) (outer : List PySem.Env) (s : Shared) (H : Hp) (E : XK) (hr : Room (n + 1) (A.deeper (envOfC "_law_far_loft" (defScope s_l_far_loft) s.heap.objs.size f cdv))) :
    PSs (cxOf (L2N.CX P w) P w K mg base N_l_far_loft "_law_far_loft" (defScope s_l_far_loft) f cdv A outer s H E) (defBody s_l_far_loft) (tSOf K (caK K) E (b_l_far_loft.code C I)) := by
  have nd := sc_l_far_loft.nd
  have hu := hu_of hr
  have hu65 : (A.deeper (envOfC "_law_far_loft" (defScope s_l_far_loft) s.heap.objs.size f cdv)).units + 65 < cLine := by have := hr.un; omega
  dsimp only [b_l_far_loft]
  exact qs_seq (qs_set (i := 4) (q_fn (Z.fn 31 f_l_three_ways "_law_three_ways" ["script", "first", "most"] rfl) hr rfl (L2N.takes_of rfl rfl rfl rfl) (qa_cons (q_var 0 (pv 0)) (qa_cons (q_var 1 (pv 1)) (qa_cons (q_int) (qa_nil))))) nd rfl (Or.inl rfl)) (qs_seq (qs_set (i := 5) (q_op or_add (s_add false) (q_op or_add (s_add false) (q_ix (or_ix hu) s_ix (q_ix (or_ix hu) s_ix (q_var 2 (pv 2)) (q_int) (fun _ _ => rfl)) (q_int) (fun _ _ => rfl)) (q_op or_mul (s_mul false) (q_ix (or_ix hu) s_ix (q_ix (or_ix hu) s_ix (q_var 2 (pv 2)) (q_int) (fun _ _ => rfl)) (q_int) (fun _ _ => rfl)) (q_int))) (q_op op_pow (s_pow) (q_int) (q_int))) nd rfl (Or.inr rfl)) (qs_seq (qs_setLc (i := 6) (c := false) (own := [("one", 11)]) it_any (by decide) rfl nd rfl rfl (sw_true rfl rfl rfl (by decide +kernel)) (pi_any (q_ix (or_ix hu) s_ix (q_var 4 (pv 4)) (q_int) (fun _ _ => rfl))) (blkOk_by (N := N_l_far_loft) (sc := defScope s_l_far_loft) (by decide +kernel)) (fun _ _ _ _ _ => pg_name (i := 11) nd rfl (Or.inl rfl)) c_yes (fun _ _ _ _ _ => pts_nil) (fun _ _ _ _ _ => q_fn (Z.fn 32 f_l_up "_law_up" ["hang", "step"] rfl) hr rfl takesN0 (qa_cons (q_var 11 (pv 11)) (qa_cons (q_var 5 (pv 5)) (qa_nil))))) (qs_seq (qs_setLc (i := 7) (c := false) (own := [("pair", 12)]) it_any (by decide) rfl nd rfl rfl (sw_true rfl rfl rfl (by decide +kernel)) (pi_any (q_ix (or_ix hu) s_ix (q_var 4 (pv 4)) (q_int) (fun _ _ => rfl))) (blkOk_by (N := N_l_far_loft) (sc := defScope s_l_far_loft) (by decide +kernel)) (fun _ _ _ _ _ => pg_name (i := 12) nd rfl (Or.inl rfl)) c_yes (fun _ _ _ _ _ => pts_nil) (fun _ _ _ _ _ => q_tup (qa_cons (q_fn (Z.fn 32 f_l_up "_law_up" ["hang", "step"] rfl) hr rfl takesN0 (qa_cons (q_ix (or_ix hu) s_ix (q_var 12 (pv 12)) (q_int) (fun _ _ => rfl)) (qa_cons (q_var 5 (pv 5)) (qa_nil)))) (qa_cons (q_fn (Z.fn 32 f_l_up "_law_up" ["hang", "step"] rfl) hr rfl takesN0 (qa_cons (q_ix (or_ix hu) s_ix (q_var 12 (pv 12)) (q_int) (fun _ _ => rfl)) (qa_cons (q_var 5 (pv 5)) (qa_nil)))) (qa_nil))))) (qs_seq (qs_set (i := 8) (q_fn (Z.fn 11 f_l_anew "_law_anew" ["hang", "book"] rfl) hr rfl (L2N.takes_of rfl rfl rfl rfl) (qa_cons (q_var 3 (pv 3)) (qa_cons (q_ix (or_ix hu) s_ix (q_var 2 (pv 2)) (q_int) (fun _ _ => rfl)) (qa_nil)))) nd rfl (Or.inl rfl)) (qs_seq (qs_set (i := 9) (q_op op_mod (s_mod) (q_op op_fdiv (s_div) (q_fn (Z.fn 15 f_l_cell "_law_cell" ["script", "k"] rfl) hr rfl (L2N.takes_of rfl rfl rfl rfl) (qa_cons (q_var 0 (pv 0)) (qa_cons (q_var 1 (pv 1)) (qa_nil)))) (q_int)) (q_op or_add (s_add false) (q_blt or_len s_len rfl (Z.bl 10 "len" rfl) boot_len (qa_cons (q_var 6 (pv 6)) (qa_nil))) (q_int))) nd rfl (Or.inl rfl)) (qs_seq (qs_set (i := 10) (q_fn (Z.fn 8 f_l_tips "_law_tips" ["hang"] rfl) hr rfl (L2N.takes_of rfl rfl rfl rfl) (qa_cons (q_var 8 (pv 8)) (qa_nil))) nd rfl (Or.inl rfl)) (qs_one (qs_ret (q_tup (qa_cons (q_op or_add (s_add false) (q_op or_add (s_add false) (q_op or_add (s_add false) (q_slice (c := false) (q_var 6 (pv 6)) (qo_no) (qo_some (q_var 9 (pv 9)))) (q_lst (qa_cons (q_fn (Z.fn 9 f_l_mirror "_law_mirror" ["hang"] rfl) hr rfl (L2N.takes_of rfl rfl rfl rfl) (qa_cons (q_var 8 (pv 8)) (qa_nil))) (qa_nil)))) (q_slice (c := false) (q_var 6 (pv 6)) (qo_some (q_var 9 (pv 9))) (qo_no))) (q_var 10 (pv 10))) (qa_cons (q_var 7 (pv 7)) (qa_cons (q_var 9 (pv 9)) (qa_nil)))))))))))))
set_option maxHeartbeats 1000000 in
theorem d_l_up (Z : Lk P w K mg base sg mts mks fa (gxOf ga) n C I) (f : Addr) (cdv : Value) (A : Around) (outer : List PySem.Env) (s : Shared) (H : Hp) (E : XK) (hr : Room (n + 1) (A.deeper (envOfC "_law_up" (defScope s_l_up) s.heap.objs.size f cdv))) :
    PSs (cxOf (L2N.CX P w) P w K mg base N_l_up "_law_up" (defScope s_l_up) f cdv A outer s H E) (defBody s_l_up) (tSOf K (caK K) E (b_l_up.code C I)) := by
  have nd := sc_l_up.nd
  have hu := hu_of hr
  have hu65 : (A.deeper (envOfC "_law_up" (defScope s_l_up) s.heap.objs.size f cdv)).units + 65 < cLine := by have := hr.un; omega
  dsimp only [b_l_up]
  exact qs_seq (qs_if (qt_val (q_fn (Z.fn 7 f_l_is_tip "_law_is_tip" ["hang"] rfl) hr rfl (L2N.takes_of rfl rfl rfl rfl) (qa_cons (q_var 0 (pv 0)) (qa_nil)))) (qs_one (qs_ret (q_tup (qa_cons (q_ix (or_ix hu) s_ix (q_var 0 (pv 0)) (q_int) (fun _ _ => rfl)) (qa_cons (q_ix (or_ix hu) s_ix (q_var 0 (pv 0)) (q_int) (fun _ _ => rfl)) (qa_cons (q_op or_add (s_add false) (q_ix (or_ix hu) s_ix (q_var 0 (pv 0)) (q_int) (fun _ _ => rfl)) (q_var 1 (pv 1))) (qa_nil))))))) (qs_nil)) (qs_one (qs_ret (q_tup (qa_cons (q_ix (or_ix hu) s_ix (q_var 0 (pv 0)) (q_int) (fun _ _ => rfl)) (qa_cons (q_fn (Z.fn 32 f_l_up "_law_up" ["hang", "step"] rfl) hr rfl (L2N.takes_of rfl rfl rfl rfl) (qa_cons (q_ix (or_ix hu) s_ix (q_var 0 (pv 0)) (q_int) (fun _ _ => rfl)) (qa_cons (q_var 1 (pv 1)) (qa_nil)))) (qa_cons (q_fn (Z.fn 32 f_l_up "_law_up" ["hang", "step"] rfl) hr rfl (L2N.takes_of rfl rfl rfl rfl) (qa_cons (q_ix (or_ix hu) s_ix (q_var 0 (pv 0)) (q_int) (fun _ _ => rfl)) (qa_cons (q_var 1 (pv 1)) (qa_nil)))) (qa_nil)))))))
set_option maxHeartbeats 1000000 in
theorem d_l_cords_k16 (Z : Lk P w K mg base sg mts mks fa (gxOf ga) n C I) (f : Addr) (cdv : Value) (A : Around) (outer : List PySem.Env) (s : Shared) (H : Hp) (E : XK) (hr : Room (n + 1) (A.deeper (envOfC "_law_cords" (defScope s_l_cords_k16) s.heap.objs.size f cdv))) :
    PSs (cxOf (L2N.CX P w) P w K mg base N_l_cords_k16 "_law_cords" (defScope s_l_cords_k16) f cdv A outer s H E) (defBody s_l_cords_k16) (tSOf K (caK K) E (b_l_cords_k16.code C I)) := by
  have nd := sc_l_cords_k16.nd
  have hu := hu_of hr
  have hu65 : (A.deeper (envOfC "_law_cords" (defScope s_l_cords_k16) s.heap.objs.size f cdv)).units + 65 < cLine := by have := hr.un; omega
  dsimp only [b_l_cords_k16]
  exact qs_seq (qs_set (i := 1) (q_blty call_list_of (s_list true) rfl (Z.bl 0 "list" rfl) (by decide +kernel) (qa_cons (q_fld (Z.cl 1 7 rfl) (Z.na 2 7 "rack" rfl) (q_var 0 (pv 0))) (qa_nil))) nd rfl (Or.inl rfl)) (qs_seq (qs_for it_any (passes_of rfl) rfl (pi_any (q_fld (Z.cl 1 7 rfl) (Z.na 3 7 "splices" rfl) (q_var 0 (pv 0)))) (pg_name (i := 2) nd rfl (Or.inl rfl)) (qs_one (qs_expr (q_bm PySem.F.plainAttrs_list PySem.F.slot_list_extend PySem.F.type_list_extend mt_extendT s_extendT (q_var 1 (pv 1)) (qa_cons (q_var 2 (pv 2)) (qa_nil)))))) (qs_seq (qs_set (i := 3) (q_lst (qa_nil)) nd rfl (Or.inl rfl)) (qs_seq (qs_for it_any (passes_of rfl) rfl (pi_any (q_var 1 (pv 1))) (pg_name (i := 4) nd rfl (Or.inl rfl)) (qs_one (qs_expr (q_bm PySem.F.plainAttrs_list PySem.F.slot_list_extend PySem.F.type_list_extend mt_extend s_extend (q_var 3 (pv 3)) (qa_cons (q_comp (c := false) (own := [("tip", 5)]) it_any (by decide) rfl nd (pi_any (q_fn (Z.fn 8 f_l_tips "_law_tips" ["hang"] rfl) hr rfl (L2N.takes_of rfl rfl rfl rfl) (qa_cons (q_var 4 (pv 4)) (qa_nil)))) (blkOk_by (N := N_l_cords_k16) (sc := defScope s_l_cords_k16) (by decide +kernel)) (fun _ _ _ _ _ => pg_name (i := 5) nd rfl (Or.inl rfl)) c_yes (fun _ _ _ _ _ => pts_nil) (fun _ _ _ _ _ => q_ix (or_ix hu) s_ix (q_var 5 (pv 5)) (q_int) (fun _ _ => rfl))) (qa_nil)))))) (qs_one (qs_ret (q_var 3 (pv 3)))))))
set_option maxHeartbeats 1000000 in
theorem d_l_alone_k16 (Z : Lk P w K mg base sg mts mks fa (gxOf ga) n C I) (f : Addr) (cdv : Value) (A : Around) (outer : List PySem.Env) (s : Shared) (H : Hp) (E : XK) (hr : Room (n + 1) (A.deeper (envOfC "_law_alone" (defScope s_l_alone_k16) s.heap.objs.size f cdv))) :
    PSs (cxOf (L2N.CX P w) P w K mg base N_l_alone_k16 "_law_alone" (defScope s_l_alone_k16) f cdv A outer s H E) (defBody s_l_alone_k16) (tSOf K (caK K) E (b_l_alone_k16.code C I)) := by
  have nd := sc_l_alone_k16.nd
  have hu := hu_of hr
  have hu65 : (A.deeper (envOfC "_law_alone" (defScope s_l_alone_k16) s.heap.objs.size f cdv)).units + 65 < cLine := by have := hr.un; omega
  dsimp only [b_l_alone_k16]
  exact qs_none
set_option maxHeartbeats 1000000 in
theorem d_l_joined_k16 (Z : Lk P w K mg base sg mts mks fa (gxOf ga) n C I) (ea2 : EAt P w K mg base (caK K) (n + 1) "_law_alone" N_l_alone_k16_ps 2 (some)) (ea3 : EAt P w K mg base (caK K) (n + 1) "_law_alone" N_l_alone_k16_ps 3 (some)) (ea4 : EAt P w K mg base (caK K) (n + 1) "_law_alone" N_l_alone_k16_ps 4 (some)) (f : Addr) (cdv : Value) (A : Around) (outer : List PySem.Env) (s : Shared) (H : Hp) (E : XK) (hr : Room (n + 1) (A.deeper (envOfC "_law_joined" (defScope s_l_joined_k16) s.heap.objs.size f cdv))) :
    PSs (cxOf (L2N.CX P w) P w K mg base N_l_joined_k16 "_law_joined" (defScope s_l_joined_k16) f cdv A outer s H E) (defBody s_l_joined_k16) (tSOf K (caK K) E (b_l_joined_k16.code C I)) := by
  have nd := sc_l_joined_k16.nd
  have hu := hu_of hr
  have hu65 : (A.deeper (envOfC "_law_joined" (defScope s_l_joined_k16) s.heap.objs.size f cdv)).units + 65 < cLine := by have := hr.un; omega
  dsimp only [b_l_joined_k16]
  exact qs_one (qs_trysR (i := 4) (cs := [(4, sRet (mC (.str "no place"))), (3, sRet (mC (.str "no mirror"))), (2, sRet (mC (.str "unfit")))]) rfl rfl nd rfl rfl (L2N.takes_of rfl rfl rfl rfl) (fa_cons (fa_cons (He.exm_ok (Z.fact 29 (.exm "Unfit" "NoPlace" false) rfl)) (fa_cons (He.exm_ok (Z.fact 28 (.exm "Unfit" "NoMirror" false) rfl)) (fa_cons (He.exm_ok (Z.fact 27 (.exm "Unfit" "Unfit" true) rfl)) (fa_nil)))) (fa_cons (fa_cons (He.exm_ok (Z.fact 26 (.exm "NoMirror" "NoPlace" false) rfl)) (fa_cons (He.exm_ok (Z.fact 25 (.exm "NoMirror" "NoMirror" true) rfl)) (fa_cons (He.exm_ok (Z.fact 24 (.exm "NoMirror" "Unfit" false) rfl)) (fa_nil)))) (fa_cons (fa_cons (He.exm_ok (Z.fact 23 (.exm "NoPlace" "NoPlace" true) rfl)) (fa_cons (He.exm_ok (Z.fact 22 (.exm "NoPlace" "NoMirror" false) rfl)) (fa_cons (He.exm_ok (Z.fact 21 (.exm "NoPlace" "Unfit" false) rfl)) (fa_nil)))) (fa_nil)))) (fun W' pn xe tkW => q_fn (Z.fn 33 f_p_joined "joined" ["one", "i", "other", "j"] rfl) hr rfl tkW (qa_cons (q_var 0 (pv 0)) (qa_cons (q_var 1 (pv 1)) (qa_cons (q_var 2 (pv 2)) (qa_cons (q_var 3 (pv 3)) (qa_nil)))))) (cl_cons ⟨rfl, by decide, .inl (Z.gx 12 4 rfl)⟩ (fun a oe pn hz hf => qe_retG (q_callE (n := n + 1) (res := some) ea4 rfl ⟨hr.dp, hr.un⟩ rfl hz hf rfl List.mem_cons_self takesN0 (pv 4))) (cl_cons ⟨rfl, by decide, .inl (Z.gx 7 3 rfl)⟩ (fun a oe pn hz hf => qe_retG (q_callE (n := n + 1) (res := some) ea3 rfl ⟨hr.dp, hr.un⟩ rfl hz hf rfl List.mem_cons_self takesN0 (pv 4))) (cl_cons ⟨rfl, by decide, .inl (Z.gx 9 2 rfl)⟩ (fun a oe pn hz hf => qe_retG (q_callE (n := n + 1) (res := some) ea2 rfl ⟨hr.dp, hr.un⟩ rfl hz hf rfl List.mem_cons_self takesN0 (pv 4))) (cl_nil)))))
set_option maxHeartbeats 1000000 in
theorem d_l_due_k16x (Z : Lk P w K mg base sg mts mks fa (gxOf ga) n C I) (f : Addr) (cdv : Value) (A : Around) (outer : List PySem.Env) (s : Shared) (H : Hp) (E : XK) (hr : Room (n + 1) (A.deeper (envOfC "_law_due" (defScope s_l_due_k16x) s.heap.objs.size f cdv))) :
    PSs (cxOf (L2N.CX P w) P w K mg base N_l_due_k16x "_law_due" (defScope s_l_due_k16x) f cdv A outer s H E) (defBody s_l_due_k16x) (tSOf K (caK K) E (b_l_due_k16x.code C I)) := by
  have nd := sc_l_due_k16x.nd
  have hu := hu_of hr
  have hu65 : (A.deeper (envOfC "_law_due" (defScope s_l_due_k16x) s.heap.objs.size f cdv)).units + 65 < cLine := by have := hr.un; omega
  dsimp only [b_l_due_k16x]
  exact qs_seq (qs_if (PW.pt (qw_or (qt_cmp op_lt (s_cmp _) (q_var 1 (pv 1)) (q_int) (nomark _)) (qw_or (qt_cmp op_ge (s_cmp _) (q_var 1 (pv 1)) (q_blt or_len s_len rfl (Z.bl 10 "len" rfl) boot_len (qa_cons (q_fld (Z.cl 1 7 rfl) (Z.na 2 7 "rack" rfl) (q_var 0 (pv 0))) (qa_nil))) (nomark _)) (qw_or (qt_cmp op_lt (s_cmp _) (q_var 3 (pv 3)) (q_int) (nomark _)) (qw_or1 (qt_cmp op_ge (s_cmp _) (q_var 3 (pv 3)) (q_blt or_len s_len rfl (Z.bl 10 "len" rfl) boot_len (qa_cons (q_fld (Z.cl 1 7 rfl) (Z.na 2 7 "rack" rfl) (q_var 2 (pv 2))) (qa_nil))) (nomark _))))))) (qs_one (qs_ret (q_str))) (qs_nil)) (qs_seq (qs_if (qt_cmp (or_ne hr.units) (s_ne) (q_fn (Z.fn 30 f_l_bare "_law_bare" ["hang"] rfl) hr rfl (L2N.takes_of rfl rfl rfl rfl) (qa_cons (q_fn (Z.fn 9 f_l_mirror "_law_mirror" ["hang"] rfl) hr rfl (L2N.takes_of rfl rfl rfl rfl) (qa_cons (q_ix (or_ix hu) s_ix (q_fld (Z.cl 1 7 rfl) (Z.na 2 7 "rack" rfl) (q_var 0 (pv 0))) (q_var 1 (pv 1)) (fun _ _ => rfl)) (qa_nil))) (qa_nil))) (q_fn (Z.fn 30 f_l_bare "_law_bare" ["hang"] rfl) hr rfl (L2N.takes_of rfl rfl rfl rfl) (qa_cons (q_ix (or_ix hu) s_ix (q_fld (Z.cl 1 7 rfl) (Z.na 2 7 "rack" rfl) (q_var 2 (pv 2))) (q_var 3 (pv 3)) (fun _ _ => rfl)) (qa_nil))) (nomark _)) (qs_one (qs_ret (q_str))) (qs_nil)) (qs_seq (qs_set (i := 4) (q_fn (Z.fn 34 f_l_cords_k16 "_law_cords" ["net"] rfl) hr rfl (L2N.takes_of rfl rfl rfl rfl) (qa_cons (q_var 0 (pv 0)) (qa_nil))) nd rfl (Or.inl rfl)) (qs_seq (qs_for it_any (passes_of rfl) rfl (pi_any (q_fn (Z.fn 34 f_l_cords_k16 "_law_cords" ["net"] rfl) hr rfl (L2N.takes_of rfl rfl rfl rfl) (qa_cons (q_var 2 (pv 2)) (qa_nil)))) (pg_name (i := 5) nd rfl (Or.inl rfl)) (qs_one (qs_if (qt_cmp (or_in hu65) (s_in) (q_var 5 (pv 5)) (q_var 4 (pv 4)) (by with_unfolding_all rfl)) (qs_one (qs_ret (q_str))) (qs_nil)))) (qs_one (qs_ret (q_str))))))
set_option maxHeartbeats 1000000 in
theorem d_law_k16 (Z : Lk P w K mg base sg mts mks fa (gxOf ga) n C I) (f : Addr) (cdv : Value) (A : Around) (outer : List PySem.Env) (s : Shared) (H : Hp) (E : XK) (hr : Room (n + 1) (A.deeper (envOfC "law" (defScope s_law_k16) s.heap.objs.size f cdv))) :
    PSs (cxOf (L2N.CX P w) P w K mg base N_law_k16 "law" (defScope s_law_k16) f cdv A outer s H E) (defBody s_law_k16) (tSOf K (caK K) E (b_law_k16.code C I)) := by
  have nd := sc_law_k16.nd
  have hu := hu_of hr
  have hu65 : (A.deeper (envOfC "law" (defScope s_law_k16) s.heap.objs.size f cdv)).units + 65 < cLine := by have := hr.un; omega
  dsimp only [b_law_k16]
  exact qs_seq (qs_set (i := 1) (q_fn (Z.fn 31 f_l_three_ways "_law_three_ways" ["script", "first", "most"] rfl) hr rfl (L2N.takes_of rfl rfl rfl rfl) (qa_cons (q_var 0 (pv 0)) (qa_cons (q_int) (qa_cons (q_int) (qa_nil))))) nd rfl (Or.inl rfl)) (qs_seq (qs_if (qt_cmp (or_eq hr.units) (s_eq) (q_ix (or_ix hu) s_ix (q_var 1 (pv 1)) (q_int) (fun _ _ => rfl)) (q_lst (qa_nil)) (nomark _)) (qs_one (qs_expr (q_fn (Z.fn 14 f_l_add_cord "_law_add_cord" ["loft", "cell"] rfl) hr rfl (L2N.takes_of rfl rfl rfl rfl) (qa_cons (q_var 1 (pv 1)) (qa_cons (q_fn (Z.fn 15 f_l_cell "_law_cell" ["script", "k"] rfl) hr rfl (L2N.takes_of rfl rfl rfl rfl) (qa_cons (q_var 0 (pv 0)) (qa_cons (q_int) (qa_nil)))) (qa_nil)))))) (qs_nil)) (qs_seq (qs_set (i := 2) (q_op op_mod (s_mod) (q_fn (Z.fn 15 f_l_cell "_law_cell" ["script", "k"] rfl) hr rfl (L2N.takes_of rfl rfl rfl rfl) (qa_cons (q_var 0 (pv 0)) (qa_cons (q_int) (qa_nil)))) (q_blt or_len s_len rfl (Z.bl 10 "len" rfl) boot_len (qa_cons (q_ix (or_ix hu) s_ix (q_var 1 (pv 1)) (q_int) (fun _ _ => rfl)) (qa_nil)))) nd rfl (Or.inl rfl)) (qs_seq (qs_set (i := 3) (q_fn (Z.fn 35 f_l_far_loft "_law_far_loft" ["script", "first", "loft", "hang"] rfl) hr rfl (L2N.takes_of rfl rfl rfl rfl) (qa_cons (q_var 0 (pv 0)) (qa_cons (q_int) (qa_cons (q_var 1 (pv 1)) (qa_cons (q_ix (or_ix hu) s_ix (q_ix (or_ix hu) s_ix (q_var 1 (pv 1)) (q_int) (fun _ _ => rfl)) (q_var 2 (pv 2)) (fun _ _ => rfl)) (qa_nil)))))) nd rfl (Or.inl rfl)) (qs_seq (qs_set (i := 4) (q_ix (or_ix hu) s_ix (q_var 3 (pv 3)) (q_int) (fun _ _ => rfl)) nd rfl (Or.inl rfl)) (qs_seq (qs_set (i := 5) (q_op op_mod (s_mod) (q_fn (Z.fn 15 f_l_cell "_law_cell" ["script", "k"] rfl) hr rfl (L2N.takes_of rfl rfl rfl rfl) (qa_cons (q_var 0 (pv 0)) (qa_cons (q_int) (qa_nil)))) (q_int)) nd rfl (Or.inl rfl)) (qs_seq (qs_if (qt_cmp (or_eq hr.units) (s_eq) (q_var 5 (pv 5)) (q_int) (nomark _)) (qs_one (qs_set (i := 2) (q_ix (or_ix hu) s_ix (q_lst (qa_cons (q_un un_neg s_neg (q_int)) (qa_cons (q_blt or_len s_len rfl (Z.bl 10 "len" rfl) boot_len (qa_cons (q_ix (or_ix hu) s_ix (q_var 1 (pv 1)) (q_int) (fun _ _ => rfl)) (qa_nil))) (qa_cons (q_op or_add (s_add false) (q_blt or_len s_len rfl (Z.bl 10 "len" rfl) boot_len (qa_cons (q_ix (or_ix hu) s_ix (q_var 1 (pv 1)) (q_int) (fun _ _ => rfl)) (qa_nil))) (q_int)) (qa_nil))))) (q_op op_mod (s_mod) (q_op op_fdiv (s_div) (q_fn (Z.fn 15 f_l_cell "_law_cell" ["script", "k"] rfl) hr rfl (L2N.takes_of rfl rfl rfl rfl) (qa_cons (q_var 0 (pv 0)) (qa_cons (q_int) (qa_nil)))) (q_int)) (q_int)) (fun _ _ => rfl)) nd rfl (Or.inl rfl))) (qs_nil)) (qs_seq (qs_if (qt_cmp (or_eq hr.units) (s_eq) (q_var 5 (pv 5)) (q_int) (nomark _)) (qs_one (qs_set (i := 4) (q_ix (or_ix hu) s_ix (q_lst (qa_cons (q_un un_neg s_neg (q_int)) (qa_cons (q_blt or_len s_len rfl (Z.bl 10 "len" rfl) boot_len (qa_cons (q_ix (or_ix hu) s_ix (q_var 3 (pv 3)) (q_int) (fun _ _ => rfl)) (qa_nil))) (qa_cons (q_op or_add (s_add false) (q_blt or_len s_len rfl (Z.bl 10 "len" rfl) boot_len (qa_cons (q_ix (or_ix hu) s_ix (q_var 3 (pv 3)) (q_int) (fun _ _ => rfl)) (qa_nil))) (q_int)) (qa_nil))))) (q_op op_mod (s_mod) (q_op op_fdiv (s_div) (q_fn (Z.fn 15 f_l_cell "_law_cell" ["script", "k"] rfl) hr rfl (L2N.takes_of rfl rfl rfl rfl) (qa_cons (q_var 0 (pv 0)) (qa_cons (q_int) (qa_nil)))) (q_int)) (q_int)) (fun _ _ => rfl)) nd rfl (Or.inl rfl))) (qs_nil)) (qs_seq (qs_if (qt_cmp (or_eq hr.units) (s_eq) (q_var 5 (pv 5)) (q_int) (nomark _)) (qs_one (qs_set (i := 4) (q_op op_mod (s_mod) (q_op op_fdiv (s_div) (q_fn (Z.fn 15 f_l_cell "_law_cell" ["script", "k"] rfl) hr rfl (L2N.takes_of rfl rfl rfl rfl) (qa_cons (q_var 0 (pv 0)) (qa_cons (q_int) (qa_nil)))) (q_int)) (q_blt or_len s_len rfl (Z.bl 10 "len" rfl) boot_len (qa_cons (q_ix (or_ix hu) s_ix (q_var 3 (pv 3)) (q_int) (fun _ _ => rfl)) (qa_nil)))) nd rfl (Or.inl rfl))) (qs_nil)) (qs_seq (qs_set (i := 6) (q_ix (or_ix hu) s_ix (q_var 3 (pv 3)) (q_int) (fun _ _ => rfl)) nd rfl (Or.inl rfl)) (qs_seq (qs_if (PW.pt (qw_or (qt_cmp (or_eq hr.units) (s_eq) (q_var 5 (pv 5)) (q_int) (nomark _)) (qw_or1 (PW.pt (qw_and (qt_cmp (or_in hu65) (s_in) (q_var 5 (pv 5)) (q_tup (qa_cons (q_int) (qa_cons (q_int) (qa_nil)))) (by with_unfolding_all rfl)) (qw_and1 (qt_cmp (or_eq hr.units) (s_eq) (q_op op_mod (s_mod) (q_op op_fdiv (s_div) (q_fn (Z.fn 15 f_l_cell "_law_cell" ["script", "k"] rfl) hr rfl (L2N.takes_of rfl rfl rfl rfl) (qa_cons (q_var 0 (pv 0)) (qa_cons (q_int) (qa_nil)))) (q_int)) (q_int)) (q_int) (nomark _)))))))) (qs_seq (qs_set (i := 7) (q_ix (or_ix hu) s_ix (q_ix (or_ix hu) s_ix (q_fn (Z.fn 8 f_l_tips "_law_tips" ["hang"] rfl) hr rfl (L2N.takes_of rfl rfl rfl rfl) (qa_cons (q_ix (or_ix hu) s_ix (q_ix (or_ix hu) s_ix (q_var 1 (pv 1)) (q_int) (fun _ _ => rfl)) (q_int) (fun _ _ => rfl)) (qa_nil))) (q_int) (fun _ _ => rfl)) (q_int) (fun _ _ => rfl)) nd rfl (Or.inl rfl)) (qs_one (qs_set (i := 6) (q_op or_add (s_add false) (q_var 6 (pv 6)) (q_lst (qa_cons (q_tup (qa_cons (q_str) (qa_cons (q_str) (qa_cons (q_var 7 (pv 7)) (qa_nil))))) (qa_cons (q_tup (qa_cons (q_str) (qa_cons (q_str) (qa_cons (q_var 7 (pv 7)) (qa_nil))))) (qa_nil))))) nd rfl (Or.inl rfl)))) (qs_nil)) (qs_seq (qs_set (i := 8) (q_make (fz := true) (Z.mkc 0 f_p_Net_init "Net" 7 ["self", "rack", "splices", "rings"] [] rfl) hr rfl (L2N.takes_of rfl rfl rfl rfl) (qa_cons (q_blty call_list_of (s_list false) rfl (Z.bl 0 "list" rfl) (by decide +kernel) (qa_cons (q_ix (or_ix hu) s_ix (q_var 1 (pv 1)) (q_int) (fun _ _ => rfl)) (qa_nil))) (qa_cons (q_blty call_list_of (s_list false) rfl (Z.bl 0 "list" rfl) (by decide +kernel) (qa_cons (q_ix (or_ix hu) s_ix (q_var 1 (pv 1)) (q_int) (fun _ _ => rfl)) (qa_nil))) (qa_cons (q_op op_mod (s_mod) (q_fn (Z.fn 15 f_l_cell "_law_cell" ["script", "k"] rfl) hr rfl (L2N.takes_of rfl rfl rfl rfl) (qa_cons (q_var 0 (pv 0)) (qa_cons (q_int) (qa_nil)))) (q_int)) (qa_nil))))) nd rfl (Or.inl rfl)) (qs_seq (qs_set (i := 9) (q_make (fz := true) (Z.mkc 0 f_p_Net_init "Net" 7 ["self", "rack", "splices", "rings"] [] rfl) hr rfl (L2N.takes_of rfl rfl rfl rfl) (qa_cons (q_blty call_list_of (s_list false) rfl (Z.bl 0 "list" rfl) (by decide +kernel) (qa_cons (q_var 6 (pv 6)) (qa_nil))) (qa_cons (q_blty call_list_of (s_list false) rfl (Z.bl 0 "list" rfl) (by decide +kernel) (qa_cons (q_ix (or_ix hu) s_ix (q_var 3 (pv 3)) (q_int) (fun _ _ => rfl)) (qa_nil))) (qa_cons (q_op op_mod (s_mod) (q_fn (Z.fn 15 f_l_cell "_law_cell" ["script", "k"] rfl) hr rfl (L2N.takes_of rfl rfl rfl rfl) (qa_cons (q_var 0 (pv 0)) (qa_cons (q_int) (qa_nil)))) (q_int)) (qa_nil))))) nd rfl (Or.inl rfl)) (qs_seq (qs_set (i := 10) (q_fn (Z.fn 36 f_l_due_k16x "_law_due" ["one", "i", "other", "j"] rfl) hr rfl (L2N.takes_of rfl rfl rfl rfl) (qa_cons (q_var 8 (pv 8)) (qa_cons (q_var 2 (pv 2)) (qa_cons (q_var 9 (pv 9)) (qa_cons (q_var 4 (pv 4)) (qa_nil)))))) nd rfl (Or.inl rfl)) (qs_seq (qs_set (i := 11) (q_fn (Z.fn 37 f_l_joined_k16 "_law_joined" ["one", "i", "other", "j"] rfl) hr rfl (L2N.takes_of rfl rfl rfl rfl) (qa_cons (q_var 8 (pv 8)) (qa_cons (q_var 2 (pv 2)) (qa_cons (q_var 9 (pv 9)) (qa_cons (q_var 4 (pv 4)) (qa_nil)))))) nd rfl (Or.inl rfl)) (qs_seq (qs_if (qt_not (qt_val (q_fn (Z.fn 38 f_l_net "_law_net" ["found", "rack", "splices", "rings"] rfl) hr rfl (L2N.takes_of rfl rfl rfl rfl) (qa_cons (q_var 8 (pv 8)) (qa_cons (q_ix (or_ix hu) s_ix (q_var 1 (pv 1)) (q_int) (fun _ _ => rfl)) (qa_cons (q_ix (or_ix hu) s_ix (q_var 1 (pv 1)) (q_int) (fun _ _ => rfl)) (qa_cons (q_op op_mod (s_mod) (q_fn (Z.fn 15 f_l_cell "_law_cell" ["script", "k"] rfl) hr rfl (L2N.takes_of rfl rfl rfl rfl) (qa_cons (q_var 0 (pv 0)) (qa_cons (q_int) (qa_nil)))) (q_int)) (qa_nil)))))))) (qs_one (qs_ret (q_bl))) (qs_nil)) (qs_seq (qs_if (qt_not (qt_val (q_fn (Z.fn 38 f_l_net "_law_net" ["found", "rack", "splices", "rings"] rfl) hr rfl (L2N.takes_of rfl rfl rfl rfl) (qa_cons (q_var 9 (pv 9)) (qa_cons (q_var 6 (pv 6)) (qa_cons (q_ix (or_ix hu) s_ix (q_var 3 (pv 3)) (q_int) (fun _ _ => rfl)) (qa_cons (q_op op_mod (s_mod) (q_fn (Z.fn 15 f_l_cell "_law_cell" ["script", "k"] rfl) hr rfl (L2N.takes_of rfl rfl rfl rfl) (qa_cons (q_var 0 (pv 0)) (qa_cons (q_int) (qa_nil)))) (q_int)) (qa_nil)))))))) (qs_one (qs_ret (q_bl))) (qs_nil)) (qs_seq (qs_if (qt_cmp (or_ne hr.units) (s_ne) (q_var 10 (pv 10)) (q_str) (nomark _)) (qs_one (qs_ret (q_and (q_not (q_isC rfl (Z.bl 15 "isinstance" rfl) (Z.inF 1 0 1 7 rfl rfl rfl) (q_var 11 (pv 11)) (pe_glob rfl (Z.gx 20 7 rfl) rfl))) (q_one (q_cmp (or_eq hr.units) (s_eq) (q_var 11 (pv 11)) (q_var 10 (pv 10)) (nomark _)))))) (qs_nil)) (qs_seq (qs_set (i := 12) (q_op or_add (s_add true) (q_slice (c := false) (q_ix (or_ix hu) s_ix (q_var 1 (pv 1)) (q_int) (fun _ _ => rfl)) (qo_no) (qo_some (q_var 2 (pv 2)))) (q_slice (c := false) (q_ix (or_ix hu) s_ix (q_var 1 (pv 1)) (q_int) (fun _ _ => rfl)) (qo_some (q_op or_add (s_add false) (q_var 2 (pv 2)) (q_int))) (qo_no))) nd rfl (Or.inl rfl)) (qs_seq (qs_expr (q_bm PySem.F.plainAttrs_list PySem.F.slot_list_extend PySem.F.type_list_extend mt_extend s_extend (q_var 12 (pv 12)) (qa_cons (q_op or_add (s_add false) (q_slice (c := false) (q_var 6 (pv 6)) (qo_no) (qo_some (q_var 4 (pv 4)))) (q_slice (c := false) (q_var 6 (pv 6)) (qo_some (q_op or_add (s_add false) (q_var 4 (pv 4)) (q_int))) (qo_no))) (qa_nil)))) (qs_seq (qs_set (i := 13) (q_op or_add (s_add false) (q_op or_add (s_add false) (q_ix (or_ix hu) s_ix (q_var 1 (pv 1)) (q_int) (fun _ _ => rfl)) (q_ix (or_ix hu) s_ix (q_var 3 (pv 3)) (q_int) (fun _ _ => rfl))) (q_lst (qa_cons (q_tup (qa_cons (q_ix (or_ix hu) s_ix (q_ix (or_ix hu) s_ix (q_var 1 (pv 1)) (q_int) (fun _ _ => rfl)) (q_var 2 (pv 2)) (fun _ _ => rfl)) (qa_cons (q_ix (or_ix hu) s_ix (q_var 6 (pv 6)) (q_var 4 (pv 4)) (fun _ _ => rfl)) (qa_nil)))) (qa_nil)))) nd rfl (Or.inl rfl)) (qs_one (qs_ret (q_fn (Z.fn 38 f_l_net "_law_net" ["found", "rack", "splices", "rings"] rfl) hr rfl (L2N.takes_of rfl rfl rfl rfl) (qa_cons (q_var 11 (pv 11)) (qa_cons (q_var 12 (pv 12)) (qa_cons (q_var 13 (pv 13)) (qa_cons (q_op or_add (s_add false) (q_fld (Z.cl 1 7 rfl) (Z.na 5 7 "rings" rfl) (q_var 8 (pv 8))) (q_fld (Z.cl 1 7 rfl) (Z.na 5 7 "rings" rfl) (q_var 9 (pv 9)))) (qa_nil))))))))))))))))))))))))))))
end
section
variable {P : Program} {w : World} {K : PySem.W.Frag} {mg : Str → Option Value} {base : Heap}
set_option maxHeartbeats 8000000 in
theorem allZ (c : He.SaysD fa fns K) (y : gxOf ga K = true) (X : K.In base) (G : base.Ns mainGlobals mg) : ∀ n, Lk P w K mg base sg mts mks fa (gxOf ga) n (ev T (n + 1)) (ev T n) ∧ ∀ q ∈ mks, MkAt P w K mg base (caK K) (n + 1) q.2.1 q.2.2.1 q.2.2.2.1 q.2.2.2.2 (ev T (n + 1) q.1) := by
  obtain ⟨fd0, F0⟩ := c.def_ 0 rfl
  have m0 := He.glo_ok X G (c.fact 32 (f := .glo "is_tip") rfl)
  have b0 : L2.Binds K fd0 N_p_is_tip_ps [] := F0.bindsN fun _ _ _ _ _ _ us hl => match us, hl with | [_], _ => rfl
  obtain ⟨fd1, F1⟩ := c.def_ 1 rfl
  have m1 := He.glo_ok X G (c.fact 33 (f := .glo "mirrors") rfl)
  have b1 : L2.Binds K fd1 N_p_mirrors_ps [] := F1.bindsN fun _ _ _ _ _ _ us hl => match us, hl with | [_, _], _ => rfl
  obtain ⟨fd2, F2⟩ := c.def_ 2 rfl
  have m2 := He.glo_ok X G (c.fact 34 (f := .glo "tips") rfl)
  have b2 : L2.Binds K fd2 N_p_tips_ps [] := F2.bindsN fun _ _ _ _ _ _ us hl => match us, hl with | [_], _ => rfl
  obtain ⟨fd3, F3⟩ := c.def_ 3 rfl
  have m3 := He.glo_ok X G (c.fact 37 (f := .glo "all_tips") rfl)
  have b3 : L2.Binds K fd3 N_p_all_tips_ps [] := F3.bindsN fun _ _ _ _ _ _ us hl => match us, hl with | [_], _ => rfl
  obtain ⟨fd4, F4⟩ := c.def_ 4 rfl
  obtain ⟨fd5, F5⟩ := c.def_ 5 rfl
  have m5 := He.glo_ok X G (c.fact 35 (f := .glo "net_tips") rfl)
  have b5 : L2.Binds K fd5 N_p_net_tips_ps [] := F5.bindsN fun _ _ _ _ _ _ us hl => match us, hl with | [_], _ => rfl
  obtain ⟨fd6, F6⟩ := c.def_ 6 rfl
  have m6 := He.glo_ok X G (c.fact 36 (f := .glo "check_cords") rfl)
  have b6 : L2.Binds K fd6 N_p_check_cords_ps [] := F6.bindsN fun _ _ _ _ _ _ us hl => match us, hl with | [_], _ => rfl
  obtain ⟨fd7, F7⟩ := c.def_ 7 rfl
  have m7 := He.glo_ok X G (c.fact 65 (f := .glo "joined") rfl)
  have b7 : L2.Binds K fd7 N_p_joined_ps [] := F7.bindsN fun _ _ _ _ _ _ us hl => match us, hl with | [_, _, _, _], _ => rfl
  obtain ⟨fd8, F8⟩ := c.def_ 8 rfl
  have m8 := He.glo_ok X G (c.fact 38 (f := .glo "_law_stir") rfl)
  have b8 : L2.Binds K fd8 N_l_stir_ps [] := F8.bindsN fun _ _ _ _ _ _ us hl => match us, hl with | [_], _ => rfl
  obtain ⟨fd9, F9⟩ := c.def_ 9 rfl
  have m9 := He.glo_ok X G (c.fact 47 (f := .glo "_law_cell") rfl)
  have b9 : L2.Binds K fd9 N_l_cell_ps [] := F9.bindsN fun _ _ _ _ _ _ us hl => match us, hl with | [_, _], _ => rfl
  obtain ⟨fd10, F10⟩ := c.def_ 10 rfl
  have m10 := He.glo_ok X G (c.fact 49 (f := .glo "_law_cells") rfl)
  have b10 : L2.Binds K fd10 N_l_cells_ps [] := F10.bindsN fun _ _ _ _ _ _ us hl => match us, hl with | [_, _, _], _ => rfl
  obtain ⟨fd11, F11⟩ := c.def_ 11 rfl
  have m11 := He.glo_ok X G (c.fact 44 (f := .glo "_law_dye") rfl)
  have b11 : L2.Binds K fd11 N_l_dye_ps [] := F11.bindsN fun _ _ _ _ _ _ us hl => match us, hl with | [_], _ => rfl
  obtain ⟨fd12, F12⟩ := c.def_ 12 rfl
  have m12 := He.glo_ok X G (c.fact 48 (f := .glo "_law_book") rfl)
  have b12 : L2.Binds K fd12 N_l_book_ps [] := F12.bindsN fun _ _ _ _ _ _ us hl => match us, hl with | [_], _ => rfl
  obtain ⟨fd13, F13⟩ := c.def_ 13 rfl
  have m13 := He.glo_ok X G (c.fact 42 (f := .glo "_law_number") rfl)
  have b13 : L2.Binds K fd13 N_l_number_ps [] := F13.bindsN fun _ _ _ _ _ _ us hl => match us, hl with | [_], _ => rfl
  obtain ⟨fd14, F14⟩ := c.def_ 14 rfl
  have m14 := He.glo_ok X G (c.fact 39 (f := .glo "_law_is_tip") rfl)
  have b14 : L2.Binds K fd14 N_l_is_tip_ps [] := F14.bindsN fun _ _ _ _ _ _ us hl => match us, hl with | [_], _ => rfl
  obtain ⟨fd15, F15⟩ := c.def_ 15 rfl
  have m15 := He.glo_ok X G (c.fact 40 (f := .glo "_law_tips") rfl)
  have b15 : L2.Binds K fd15 N_l_tips_ps [] := F15.bindsN fun _ _ _ _ _ _ us hl => match us, hl with | [_], _ => rfl
  obtain ⟨fd16, F16⟩ := c.def_ 16 rfl
  have m16 := He.glo_ok X G (c.fact 41 (f := .glo "_law_mirror") rfl)
  have b16 : L2.Binds K fd16 N_l_mirror_ps [] := F16.bindsN fun _ _ _ _ _ _ us hl => match us, hl with | [_], _ => rfl
  obtain ⟨fd17, F17⟩ := c.def_ 17 rfl
  have m17 := He.glo_ok X G (c.fact 43 (f := .glo "_law_anew") rfl)
  have b17 : L2.Binds K fd17 N_l_anew_ps [] := F17.bindsN fun _ _ _ _ _ _ us hl => match us, hl with | [_, _], _ => rfl
  obtain ⟨fd18, F18⟩ := c.def_ 18 rfl
  have m18 := He.glo_ok X G (c.fact 46 (f := .glo "_law_add_cord") rfl)
  have b18 : L2.Binds K fd18 N_l_add_cord_ps [] := F18.bindsN fun _ _ _ _ _ _ us hl => match us, hl with | [_, _], _ => rfl
  obtain ⟨fd19, F19⟩ := c.def_ 19 rfl
  have m19 := He.glo_ok X G (c.fact 45 (f := .glo "_law_tie") rfl)
  have b19 : L2.Binds K fd19 N_l_tie_ps [] := F19.bindsN fun _ _ _ _ _ _ us hl => match us, hl with | [_, _, _, _, _], _ => rfl
  obtain ⟨fd20, F20⟩ := c.def_ 20 rfl
  have m20 := He.glo_ok X G (c.fact 51 (f := .glo "_law_add_knot") rfl)
  have b20 : L2.Binds K fd20 N_l_add_knot_ps [] := F20.bindsN fun _ _ _ _ _ _ us hl => match us, hl with | [_, _, _], _ => rfl
  obtain ⟨fd21, F21⟩ := c.def_ 21 rfl
  have m21 := He.glo_ok X G (c.fact 50 (f := .glo "_law_add_splice") rfl)
  have b21 : L2.Binds K fd21 N_l_add_splice_ps [] := F21.bindsN fun _ _ _ _ _ _ us hl => match us, hl with | [_, _, _], _ => rfl
  obtain ⟨fd22, F22⟩ := c.def_ 22 rfl
  have m22 := He.glo_ok X G (c.fact 52 (f := .glo "_law_close") rfl)
  have b22 : L2.Binds K fd22 N_l_close_ps [] := F22.bindsN fun _ _ _ _ _ _ us hl => match us, hl with | [_, _], _ => rfl
  obtain ⟨fd23, F23⟩ := c.def_ 23 rfl
  have m23 := He.glo_ok X G (c.fact 56 (f := .glo "_law_loft") rfl)
  have b23 : L2.Binds K fd23 N_l_loft_ps [] := F23.bindsN fun _ _ _ _ _ _ us hl => match us, hl with | [_, _, _, _], _ => rfl
  obtain ⟨fd24, F24⟩ := c.def_ 24 rfl
  have m24 := He.glo_ok X G (c.fact 53 (f := .glo "_law_many_knots") rfl)
  have b24 : L2.Binds K fd24 N_l_many_knots_ps [] := F24.bindsN fun _ _ _ _ _ _ us hl => match us, hl with | [_], _ => rfl
  obtain ⟨fd25, F25⟩ := c.def_ 25 rfl
  have m25 := He.glo_ok X G (c.fact 54 (f := .glo "_law_turned") rfl)
  have b25 : L2.Binds K fd25 N_l_turned_ps [] := F25.bindsN fun _ _ _ _ _ _ us hl => match us, hl with | [_, _], _ => rfl
  obtain ⟨fd26, F26⟩ := c.def_ 26 rfl
  have m26 := He.glo_ok X G (c.fact 55 (f := .glo "_law_words") rfl)
  have b26 : L2.Binds K fd26 N_l_words_ps [] := F26.bindsN fun _ _ _ _ _ _ us hl => match us, hl with | [_], _ => rfl
  obtain ⟨fd27, F27⟩ := c.def_ 27 rfl
  have m27 := He.glo_ok X G (c.fact 57 (f := .glo "_law_two_turned") rfl)
  have b27 : L2.Binds K fd27 N_l_two_turned_ps [] := F27.bindsN fun _ _ _ _ _ _ us hl => match us, hl with | [_, _], _ => rfl
  obtain ⟨fd28, F28⟩ := c.def_ 28 rfl
  have m28 := He.glo_ok X G (c.fact 63 (f := .glo "_law_three_ways") rfl)
  have b28 : L2.Binds K fd28 N_l_three_ways_ps [] := F28.bindsN fun _ _ _ _ _ _ us hl => match us, hl with | [_, _, _], _ => rfl
  obtain ⟨fd29, F29⟩ := c.def_ 29 rfl
  have m29 := He.glo_ok X G (c.fact 59 (f := .glo "_law_whole") rfl)
  have b29 : L2.Binds K fd29 N_l_whole_ps [] := F29.bindsN fun _ _ _ _ _ _ us hl => match us, hl with | [_], _ => rfl
  obtain ⟨fd30, F30⟩ := c.def_ 30 rfl
  have m30 := He.glo_ok X G (c.fact 58 (f := .glo "_law_hang") rfl)
  have b30 : L2.Binds K fd30 N_l_hang_ps [] := F30.bindsN fun _ _ _ _ _ _ us hl => match us, hl with | [_], _ => rfl
  obtain ⟨fd31, F31⟩ := c.def_ 31 rfl
  have m31 := He.glo_ok X G (c.fact 60 (f := .glo "_law_hangs") rfl)
  have b31 : L2.Binds K fd31 N_l_hangs_ps [] := F31.bindsN fun _ _ _ _ _ _ us hl => match us, hl with | [_, _], _ => rfl
  obtain ⟨fd32, F32⟩ := c.def_ 32 rfl
  have m32 := He.glo_ok X G (c.fact 61 (f := .glo "_law_pairs") rfl)
  have b32 : L2.Binds K fd32 N_l_pairs_ps [] := F32.bindsN fun _ _ _ _ _ _ us hl => match us, hl with | [_, _], _ => rfl
  obtain ⟨fd33, F33⟩ := c.def_ 33 rfl
  have m33 := He.glo_ok X G (c.fact 70 (f := .glo "_law_net") rfl)
  have b33 : L2.Binds K fd33 N_l_net_ps [] := F33.bindsN fun _ _ _ _ _ _ us hl => match us, hl with | [_, _, _, _], _ => rfl
  obtain ⟨fd34, F34⟩ := c.def_ 34 rfl
  have m34 := He.glo_ok X G (c.fact 62 (f := .glo "_law_bare") rfl)
  have b34 : L2.Binds K fd34 N_l_bare_ps [] := F34.bindsN fun _ _ _ _ _ _ us hl => match us, hl with | [_], _ => rfl
  obtain ⟨fd35, F35⟩ := c.def_ 35 rfl
  have m35 := He.glo_ok X G (c.fact 67 (f := .glo "_law_far_loft") rfl)
  have b35 : L2.Binds K fd35 N_l_far_loft_ps [] := F35.bindsN fun _ _ _ _ _ _ us hl => match us, hl with | [_, _, _, _], _ => rfl
  obtain ⟨fd36, F36⟩ := c.def_ 36 rfl
  have m36 := He.glo_ok X G (c.fact 64 (f := .glo "_law_up") rfl)
  have b36 : L2.Binds K fd36 N_l_up_ps [] := F36.bindsN fun _ _ _ _ _ _ us hl => match us, hl with | [_, _], _ => rfl
  obtain ⟨fd37, F37⟩ := c.def_ 37 rfl
  have m37 := He.glo_ok X G (c.fact 66 (f := .glo "_law_cords") rfl)
  have b37 : L2.Binds K fd37 N_l_cords_k16_ps [] := F37.bindsN fun _ _ _ _ _ _ us hl => match us, hl with | [_], _ => rfl
  obtain ⟨fd38, F38⟩ := c.def_ 38 rfl
  have m38 := He.glo_ok X G (c.fact 72 (f := .glo "_law_alone") rfl)
  have b38 : L2.Binds K fd38 N_l_alone_k16_ps [] := F38.bindsN fun _ _ _ _ _ _ us hl => match us, hl with | [_, _], _ => rfl
  obtain ⟨fd39, F39⟩ := c.def_ 39 rfl
  have m39 := He.glo_ok X G (c.fact 69 (f := .glo "_law_joined") rfl)
  have b39 : L2.Binds K fd39 N_l_joined_k16_ps [] := F39.bindsN fun _ _ _ _ _ _ us hl => match us, hl with | [_, _, _, _], _ => rfl
  obtain ⟨fd40, F40⟩ := c.def_ 40 rfl
  have m40 := He.glo_ok X G (c.fact 68 (f := .glo "_law_due") rfl)
  have b40 : L2.Binds K fd40 N_l_due_k16x_ps [] := F40.bindsN fun _ _ _ _ _ _ us hl => match us, hl with | [_, _, _, _], _ => rfl
  obtain ⟨fd41, F41⟩ := c.def_ 41 rfl
  have m41 := He.glo_ok X G (c.fact 71 (f := .glo "law") rfl)
  have b41 : L2.Binds K fd41 N_law_k16_ps [] := F41.bindsN fun _ _ _ _ _ _ us hl => match us, hl with | [_], _ => rfl
  have mc0 := He.glo_ok X G (c.fact 20 (f := .glo "Net") rfl)
  obtain ⟨ds0, dv0, bb0⟩ := F4.binds1 (ps := N_p_Net_init_ps) 4 2 (fun z => nomatch z) rfl fun T kV doc pm an cdv ct us its hu hi => match us, its, hu, hi with | [_, _, _, _], [_, _], _, _ => ⟨_, rfl, rfl⟩
  have fct : ∀ (j : Nat) f, fa[j]? = some f → f.ok K = true := fun j f h => c.fact j h
  intro n
  induction n with
  | zero =>
    have h1 : ∀ q ∈ sg, FnAt P w K mg base (caK K) 1 q.2.1 q.2.2 (ev T 1 q.1) := fa_cons (at_one m0 F0.kp b0) (fa_cons (at_one m1 F1.kp b1) (fa_cons (at_one m2 F2.kp b2) (fa_cons (at_one m5 F5.kp b5) (fa_cons (at_one m6 F6.kp b6) (fa_cons (at_one m3 F3.kp b3) (fa_cons (at_one m8 F8.kp b8) (fa_cons (at_one m14 F14.kp b14) (fa_cons (at_one m15 F15.kp b15) (fa_cons (at_one m16 F16.kp b16) (fa_cons (at_one m13 F13.kp b13) (fa_cons (at_one m17 F17.kp b17) (fa_cons (at_one m11 F11.kp b11) (fa_cons (at_one m19 F19.kp b19) (fa_cons (at_one m18 F18.kp b18) (fa_cons (at_one m9 F9.kp b9) (fa_cons (at_one m12 F12.kp b12) (fa_cons (at_one m10 F10.kp b10) (fa_cons (at_one m21 F21.kp b21) (fa_cons (at_one m20 F20.kp b20) (fa_cons (at_one m22 F22.kp b22) (fa_cons (at_one m24 F24.kp b24) (fa_cons (at_one m25 F25.kp b25) (fa_cons (at_one m26 F26.kp b26) (fa_cons (at_one m23 F23.kp b23) (fa_cons (at_one m27 F27.kp b27) (fa_cons (at_one m30 F30.kp b30) (fa_cons (at_one m29 F29.kp b29) (fa_cons (at_one m31 F31.kp b31) (fa_cons (at_one m32 F32.kp b32) (fa_cons (at_one m34 F34.kp b34) (fa_cons (at_one m28 F28.kp b28) (fa_cons (at_one m36 F36.kp b36) (fa_cons (at_one m7 F7.kp b7) (fa_cons (at_one m37 F37.kp b37) (fa_cons (at_one m35 F35.kp b35) (fa_cons (at_one m40 F40.kp b40) (fa_cons (at_one m39 F39.kp b39) (fa_cons (at_one m33 F33.kp b33) (fa_cons (at_one m41 F41.kp b41) (fa_cons (at_one m38 F38.kp b38) (fa_nil)))))))))))))))))))))))))))))))))))))))))
    have h2 : ∀ q ∈ mts, MtAt P w K mg base (caK K) 1 q.2.1 q.2.2.1 q.2.2.2 (ev T 1 q.1) := fa_nil
    have h3 : ∀ q ∈ mks, MkAt P w K mg base (caK K) 0 q.2.1 q.2.2.1 q.2.2.2.1 q.2.2.2.2 (ev T 0 q.1) := fa_cons (⟨_, fd4, ds0, _, fn_none, He.mkr_ok (c.fact 73 rfl), mc0, bb0, dv0, fun _ _ => trivial⟩) (fa_nil)
    have h4 : ∀ q ∈ mks, MkAt P w K mg base (caK K) 1 q.2.1 q.2.2.1 q.2.2.2.1 q.2.2.2.2 (ev T 1 q.1) := fa_cons (⟨_, fd4, ds0, _, fn_none, He.mkr_ok (c.fact 73 rfl), mc0, bb0, dv0, fun _ _ => trivial⟩) (fa_nil)
    exact ⟨⟨fun j i x ps h => h1 _ (List.mem_of_getElem? h), fun j i c m ps h => h2 _ (List.mem_of_getElem? h), fun j i x c ps dds h => h3 _ (List.mem_of_getElem? h), fct, X, G, y⟩, h4⟩
  | succ n ZE =>
    obtain ⟨Z, E⟩ := ZE
    have ea2 : EAt P w K mg base (caK K) (n + 1) "_law_alone" N_l_alone_k16_ps 2 (some) := ⟨_, fd38, fn_simE (n := n) (cut := false) F38 sc_l_alone_k16 rfl (fun cdv A outer s H E p hz hf hot hr => da2 Z _ cdv A outer s H E p hz hf hot hr) (fun kind out S e => by cases e; rfl), m38, F38.kp, b38⟩
    have ea3 : EAt P w K mg base (caK K) (n + 1) "_law_alone" N_l_alone_k16_ps 3 (some) := ⟨_, fd38, fn_simE (n := n) (cut := false) F38 sc_l_alone_k16 rfl (fun cdv A outer s H E p hz hf hot hr => da3 Z _ cdv A outer s H E p hz hf hot hr) (fun kind out S e => by cases e; rfl), m38, F38.kp, b38⟩
    have ea4 : EAt P w K mg base (caK K) (n + 1) "_law_alone" N_l_alone_k16_ps 4 (some) := ⟨_, fd38, fn_simE (n := n) (cut := false) F38 sc_l_alone_k16 rfl (fun cdv A outer s H E p hz hf hot hr => da4 Z _ cdv A outer s H E p hz hf hot hr) (fun kind out S e => by cases e; rfl), m38, F38.kp, b38⟩
    have h1 : ∀ q ∈ sg, FnAt P w K mg base (caK K) (n + 2) q.2.1 q.2.2 (ev T (n + 2) q.1) := fa_cons (at_fn (sim_ok (b := b_p_is_tip) rfl F0 sc_p_is_tip rfl rfl (d_p_is_tip Z _)) m0 F0.kp b0) (fa_cons (at_fn (sim_ok (b := b_p_mirrors) rfl F1 sc_p_mirrors rfl rfl (d_p_mirrors Z _)) m1 F1.kp b1) (fa_cons (at_fn (sim_ok (b := b_p_tips) rfl F2 sc_p_tips rfl rfl (d_p_tips Z _)) m2 F2.kp b2) (fa_cons (at_fn (sim_ok (b := b_p_net_tips) rfl F5 sc_p_net_tips rfl rfl (d_p_net_tips Z _)) m5 F5.kp b5) (fa_cons (at_fn (sim_ok (b := b_p_check_cords) rfl F6 sc_p_check_cords rfl rfl (d_p_check_cords Z _)) m6 F6.kp b6) (fa_cons (at_fn (sim_ok (b := b_p_all_tips) rfl F3 sc_p_all_tips rfl rfl (d_p_all_tips Z _)) m3 F3.kp b3) (fa_cons (at_fn (sim_ok (b := b_l_stir) rfl F8 sc_l_stir rfl rfl (d_l_stir Z _)) m8 F8.kp b8) (fa_cons (at_fn (sim_ok (b := b_l_is_tip) rfl F14 sc_l_is_tip rfl rfl (d_l_is_tip Z _)) m14 F14.kp b14) (fa_cons (at_fn (sim_ok (b := b_l_tips) rfl F15 sc_l_tips rfl rfl (d_l_tips Z _)) m15 F15.kp b15) (fa_cons (at_fn (sim_ok (b := b_l_mirror) rfl F16 sc_l_mirror rfl rfl (d_l_mirror Z _)) m16 F16.kp b16) (fa_cons (at_fn (sim_ok (b := b_l_number) rfl F13 sc_l_number rfl rfl (d_l_number Z _)) m13 F13.kp b13) (fa_cons (at_fn (sim_ok (b := b_l_anew) rfl F17 sc_l_anew rfl rfl (d_l_anew Z _)) m17 F17.kp b17) (fa_cons (at_fn (sim_ok (b := b_l_dye) rfl F11 sc_l_dye rfl rfl (d_l_dye Z _)) m11 F11.kp b11) (fa_cons (at_fn (sim_ok (b := b_l_tie) rfl F19 sc_l_tie rfl rfl (d_l_tie Z _)) m19 F19.kp b19) (fa_cons (at_fn (sim_ok (b := b_l_add_cord) rfl F18 sc_l_add_cord rfl rfl (d_l_add_cord Z _)) m18 F18.kp b18) (fa_cons (at_fn (sim_ok (b := b_l_cell) rfl F9 sc_l_cell rfl rfl (d_l_cell Z _)) m9 F9.kp b9) (fa_cons (at_fn (sim_ok (b := b_l_book) rfl F12 sc_l_book rfl rfl (d_l_book Z _)) m12 F12.kp b12) (fa_cons (at_fn (sim_ok (b := b_l_cells) rfl F10 sc_l_cells rfl rfl (d_l_cells Z _)) m10 F10.kp b10) (fa_cons (at_fn (sim_ok (b := b_l_add_splice) rfl F21 sc_l_add_splice rfl rfl (d_l_add_splice Z _)) m21 F21.kp b21) (fa_cons (at_fn (sim_ok (b := b_l_add_knot) rfl F20 sc_l_add_knot rfl rfl (d_l_add_knot Z _)) m20 F20.kp b20) (fa_cons (at_fn (sim_ok (b := b_l_close) rfl F22 sc_l_close rfl rfl (d_l_close Z _)) m22 F22.kp b22) (fa_cons (at_fn (sim_ok (b := b_l_many_knots) rfl F24 sc_l_many_knots rfl rfl (d_l_many_knots Z _)) m24 F24.kp b24) (fa_cons (at_fn (sim_ok (b := b_l_turned) rfl F25 sc_l_turned rfl rfl (d_l_turned Z _)) m25 F25.kp b25) (fa_cons (at_fn (sim_ok (b := b_l_words) rfl F26 sc_l_words rfl rfl (d_l_words Z _)) m26 F26.kp b26) (fa_cons (at_fn (sim_ok (b := b_l_loft) rfl F23 sc_l_loft rfl rfl (d_l_loft Z _)) m23 F23.kp b23) (fa_cons (at_fn (sim_ok (b := b_l_two_turned) rfl F27 sc_l_two_turned rfl rfl (d_l_two_turned Z _)) m27 F27.kp b27) (fa_cons (at_fn (sim_ok (b := b_l_hang) rfl F30 sc_l_hang rfl rfl (d_l_hang Z _)) m30 F30.kp b30) (fa_cons (at_fn (sim_ok (b := b_l_whole) rfl F29 sc_l_whole rfl rfl (d_l_whole Z _)) m29 F29.kp b29) (fa_cons (at_fn (sim_ok (b := b_l_hangs) rfl F31 sc_l_hangs rfl rfl (d_l_hangs Z _)) m31 F31.kp b31) (fa_cons (at_fn (sim_ok (b := b_l_pairs) rfl F32 sc_l_pairs rfl rfl (d_l_pairs Z _)) m32 F32.kp b32) (fa_cons (at_fn (sim_ok (b := b_l_bare) rfl F34 sc_l_bare rfl rfl (d_l_bare Z _)) m34 F34.kp b34) (fa_cons (at_fn (sim_ok (b := b_l_three_ways) rfl F28 sc_l_three_ways rfl rfl (d_l_three_ways Z _)) m28 F28.kp b28) (fa_cons (at_fn (sim_ok (b := b_l_up) rfl F36 sc_l_up rfl rfl (d_l_up Z _)) m36 F36.kp b36) (fa_cons (at_fn (sim_ok (b := b_p_joined) rfl F7 sc_p_joined rfl rfl (d_p_joined Z _)) m7 F7.kp b7) (fa_cons (at_fn (sim_ok (b := b_l_cords_k16) rfl F37 sc_l_cords_k16 rfl rfl (d_l_cords_k16 Z _)) m37 F37.kp b37) (fa_cons (at_fn (sim_ok (b := b_l_far_loft) rfl F35 sc_l_far_loft rfl rfl (d_l_far_loft Z _)) m35 F35.kp b35) (fa_cons (at_fn (sim_ok (b := b_l_due_k16x) rfl F40 sc_l_due_k16x rfl rfl (d_l_due_k16x Z _)) m40 F40.kp b40) (fa_cons (at_fn (sim_ok (b := b_l_joined_k16) rfl F39 sc_l_joined_k16 rfl rfl (d_l_joined_k16 Z ea2 ea3 ea4 _)) m39 F39.kp b39) (fa_cons (at_fn (sim_ok (b := b_l_net) rfl F33 sc_l_net rfl rfl (d_l_net Z _)) m33 F33.kp b33) (fa_cons (at_fn (sim_ok (b := b_law_k16) rfl F41 sc_law_k16 rfl rfl (d_law_k16 Z _)) m41 F41.kp b41) (fa_cons (at_fn (sim_ok (b := b_l_alone_k16) rfl F38 sc_l_alone_k16 rfl rfl (d_l_alone_k16 Z _)) m38 F38.kp b38) (fa_nil)))))))))))))))))))))))))))))))))))))))))
    have h2 : ∀ q ∈ mts, MtAt P w K mg base (caK K) (n + 2) q.2.1 q.2.2.1 q.2.2.2 (ev T (n + 2) q.1) := fa_nil
    have h3 : ∀ q ∈ mks, MkAt P w K mg base (caK K) (n + 1) q.2.1 q.2.2.1 q.2.2.2.1 q.2.2.2.2 (ev T (n + 1) q.1) := E
    have h4 : ∀ q ∈ mks, MkAt P w K mg base (caK K) (n + 2) q.2.1 q.2.2.1 q.2.2.2.1 q.2.2.2.2 (ev T (n + 2) q.1) := fa_cons (⟨_, fd4, ds0, _, sim_ok (b := b_p_Net_init) rfl F4 sc_p_Net_init rfl rfl (d_p_Net_init Z _), He.mkr_ok (c.fact 73 rfl), mc0, bb0, dv0, fun _ _ => trivial⟩) (fa_nil)
    exact ⟨⟨fun j i x ps h => h1 _ (List.mem_of_getElem? h), fun j i c m ps h => h2 _ (List.mem_of_getElem? h), fun j i x c ps dds h => h3 _ (List.mem_of_getElem? h), fct, X, G, y⟩, h4⟩
theorem all (c : He.SaysD fa fns K) (y : gxOf ga K = true) (X : K.In base) (G : base.Ns mainGlobals mg) (n : Nat) : Lk P w K mg base sg mts mks fa (gxOf ga) n (ev T (n + 1)) (ev T n) := (allZ c y X G n).1
end
end Nl
/-! P2: hangs; the defs about them -/
namespace Nl
open PySem Sm
inductive Hg where
  | tip (dark : Bool) (dye : Str) (num : Int)
  | knot (loose : Bool) (l r : Hg)
  deriving DecidableEq
def tw (d : Bool) : Str := if d then "dark" else "light"
def kw (d : Bool) : Str := if d then "loose" else "fast"
@[simp] theorem tw_t : tw true = Str.ofString "dark" := rfl
@[simp] theorem tw_f : tw false = Str.ofString "light" := rfl
@[simp] theorem kw_t : kw true = Str.ofString "loose" := rfl
@[simp] theorem kw_f : kw false = Str.ofString "fast" := rfl
def ofH : Hg → D
  | .tip d y n => .tup [.str (tw d), .str y, .int n]
  | .knot k l r => .tup [.str (kw k), ofH l, ofH r]
@[simp] theorem ofH_t (d : Bool) (y : Str) (n : Int) : ofH (.tip d y n) = .tup [.str (tw d), .str y, .int n] := rfl
@[simp] theorem ofH_k (d : Bool) (l r : Hg) : ofH (.knot d l r) = .tup [.str (kw d), ofH l, ofH r] := rfl
def ofL (hs : List Hg) : D := .lst (hs.map ofH)
namespace Hg
def isTip : Hg → Bool
  | tip _ _ _ => true
  | knot _ _ _ => false
def depth : Hg → Nat
  | tip _ _ _ => 0
  | knot _ l r => max l.depth r.depth + 1
def size : Hg → Nat
  | tip _ _ _ => 1
  | knot _ l r => l.size + r.size + 1
def tips : Hg → List Hg
  | tip d y n => [tip d y n]
  | knot _ l r => l.tips ++ r.tips
def mir : Hg → Hg
  | tip d y n => tip (!d) y n
  | knot k l r => knot (!k) l.mir r.mir
def bare : Hg → Hg
  | tip d y _ => tip d y 0
  | knot k l r => knot k l.bare r.bare
/-- number of tips -/
def nt (h : Hg) : Nat := h.tips.length
theorem nt_pos (h : Hg) : 0 < h.nt := by
  induction h with
  | tip _ _ _ => exact Nat.one_pos
  | knot _ l r a b => simp only [nt, tips, List.length_append] at *; omega
@[simp] theorem nt_tip (d : Bool) (y : Str) (n : Int) : (tip d y n).nt = 1 := rfl
@[simp] theorem nt_knot (k : Bool) (l r : Hg) : (knot k l r).nt = l.nt + r.nt := by simp [nt, tips]
/-- no hang is another's mirror with the numbers left out: one mirrors the other -/
def mirs : Hg → Hg → Bool
  | tip d y _, tip d' y' _ => (d != d') && decide (y = y')
  | knot k l r, knot k' l' r' => (k != k') && (l.mirs l' && r.mirs r')
  | _, _ => false
theorem mirs_bare : ∀ h g : Hg, h.mirs g = decide (h.mir.bare = g.bare)
  | tip d y _, tip d' y' _ => by
    simp only [mirs, mir, bare, tip.injEq]
    cases d <;> cases d' <;> simp
  | knot k l r, knot k' l' r' => by
    simp only [mirs, mir, bare, knot.injEq, mirs_bare l l', mirs_bare r r']
    cases k <;> cases k' <;> simp
  | tip _ _ _, knot _ _ _ => by simp [mirs, mir, bare]
  | knot _ _ _, tip _ _ _ => by simp [mirs, mir, bare]
end Hg
variable {T : Nat → Option Body}
theorem two_up {N : Nat} (k : Nat) (h : k + 2 ≤ N) : ∃ m, N = m + 2 ∧ k ≤ m := ⟨N - 2, by omega, by omega⟩
theorem dl {k : Bool} {l r : Hg} {N : Nat} (c : Nat) (h : (Hg.knot k l r).depth + (c + 1) ≤ N) (hc : 1 ≤ c) : ∃ m, N = m + 2 ∧ l.depth + (c + 1) ≤ m + 1 ∧ r.depth + (c + 1) ≤ m + 1 ∧ c ≤ m + 1 := by
  simp only [Hg.depth] at h
  exact ⟨N - 2, by omega, by omega, by omega, by omega⟩
theorem e_p_is_tip (c : T f_p_is_tip = some b_p_is_tip) (h : Hg) {N : Nat} (hN : 2 ≤ N) (S : Store) : ev T N f_p_is_tip [ofH h] S = .ok (.bl h.isTip) S := by
  obtain ⟨n, rfl, _⟩ := two_up 0 hN
  rw [ev_s c]
  cases h with
  | tip d y k => cases d <;> simp [step1, b_p_is_tip, Hg.isTip]
  | knot k l r => cases k <;> simp [step1, b_p_is_tip, Hg.isTip]
theorem e_p_mirrors (c0 : T f_p_is_tip = some b_p_is_tip) (c : T f_p_mirrors = some b_p_mirrors) : ∀ (h g : Hg) {N : Nat} (_ : h.depth + 3 ≤ N) (S : Store), ev T N f_p_mirrors [ofH h, ofH g] S = .ok (.bl (h.mirs g)) S
  | .tip d y k, g, N, hN, S => by
    obtain ⟨n, rfl, _⟩ := two_up 1 (N := N) (by omega)
    have t1 := e_p_is_tip c0 (.tip d y k) (N := n + 1) (by omega) S
    have t2 := e_p_is_tip c0 g (N := n + 1) (by omega) S
    rw [ev_s c]
    cases g with
    | tip d' y' k' => cases d <;> cases d' <;> simp at t1 t2 <;> simp [step1, b_p_mirrors, t1, t2, Hg.isTip, Hg.mirs]
    | knot k' l r => simp [step1, b_p_mirrors, ← ofH_t, ← ofH_k, t1, t2, Hg.isTip, Hg.mirs, -ofH_t, -ofH_k]
  | .knot k l r, g, N, hN, S => by
    obtain ⟨n, rfl, hl, hr, _⟩ := dl 2 hN (by omega)
    have t1 := e_p_is_tip c0 (.knot k l r) (N := n + 1) (by omega) S
    have t2 := e_p_is_tip c0 g (N := n + 1) (by omega) S
    rw [ev_s c]
    cases g with
    | tip d' y' k' => simp [step1, b_p_mirrors, ← ofH_t, ← ofH_k, t1, t2, Hg.isTip, Hg.mirs, -ofH_t, -ofH_k]
    | knot k' l' r' =>
      have h1 := e_p_mirrors c0 c l l' (N := n + 1) (by omega) S
      have h2 := e_p_mirrors c0 c r r' (N := n + 1) (by omega) S
      cases q : l.mirs l' <;> cases k <;> cases k' <;> simp at t1 t2 <;> simp [step1, b_p_mirrors, t1, t2, Hg.isTip, Hg.mirs, h1, h2, q]
/-! ### the law's own -/
theorem e_l_is_tip (c : T f_l_is_tip = some b_l_is_tip) (h : Hg) {N : Nat} (hN : 2 ≤ N) (S : Store) : ev T N f_l_is_tip [ofH h] S = .ok (.bl h.isTip) S := by
  obtain ⟨n, rfl, _⟩ := two_up 0 hN
  rw [ev_s c]
  cases h with
  | tip d y k => cases d <;> simp [step1, b_l_is_tip, Hg.isTip]
  | knot k l r => cases k <;> simp [step1, b_l_is_tip, Hg.isTip]
theorem e_l_tips (c0 : T f_l_is_tip = some b_l_is_tip) (c : T f_l_tips = some b_l_tips) : ∀ (h : Hg) {N : Nat} (_ : h.depth + 3 ≤ N) (_ : h.nt ≤ sizeLine) (S : Store), ev T N f_l_tips [ofH h] S = .ok (ofL h.tips) S
  | .tip d y k, N, hN, _, S => by
    obtain ⟨n, rfl, _⟩ := two_up 1 (N := N) (by omega)
    have t1 := e_l_is_tip c0 (.tip d y k) (N := n + 1) (by omega) S
    rw [ev_s c]
    simp at t1
    simp [step1, b_l_tips, t1, Hg.isTip, Hg.tips, ofL]
  | .knot k l r, N, hN, hz, S => by
    obtain ⟨n, rfl, hl, hr, _⟩ := dl 2 hN (by omega)
    have t1 := e_l_is_tip c0 (.knot k l r) (N := n + 1) (by omega) S
    rw [Hg.nt_knot] at hz
    have h1 := e_l_tips c0 c l (N := n + 1) (by omega) (by omega) S
    have h2 := e_l_tips c0 c r (N := n + 1) (by omega) (by omega) S
    have z : l.tips.length + r.tips.length ≤ sizeLine := hz
    rw [ev_s c]
    simp at t1
    simp [step1, b_l_tips, t1, h1, h2, Hg.isTip, Hg.tips, ofL, z]
theorem mk1 : L2.valV (L2.mergeK [] [(.inr "light", .str "dark"), (.inr "dark", .str "light"), (.inr "fast", .str "loose"), (.inr "loose", .str "fast")]) (.inr "light") = some (.str "dark") := by decide +kernel
theorem mk2 : L2.valV (L2.mergeK [] [(.inr "light", .str "dark"), (.inr "dark", .str "light"), (.inr "fast", .str "loose"), (.inr "loose", .str "fast")]) (.inr "dark") = some (.str "light") := by decide +kernel
theorem mk3 : L2.valV (L2.mergeK [] [(.inr "light", .str "dark"), (.inr "dark", .str "light"), (.inr "fast", .str "loose"), (.inr "loose", .str "fast")]) (.inr "fast") = some (.str "loose") := by decide +kernel
theorem mk4 : L2.valV (L2.mergeK [] [(.inr "light", .str "dark"), (.inr "dark", .str "light"), (.inr "fast", .str "loose"), (.inr "loose", .str "fast")]) (.inr "loose") = some (.str "fast") := by decide +kernel
theorem e_l_mirror (c0 : T f_l_is_tip = some b_l_is_tip) (c : T f_l_mirror = some b_l_mirror) : ∀ (h : Hg) {N : Nat} (_ : h.depth + 3 ≤ N) (S : Store), ev T N f_l_mirror [ofH h] S = .ok (ofH h.mir) S
  | .tip d y k, N, hN, S => by
    obtain ⟨n, rfl, _⟩ := two_up 1 (N := N) (by omega)
    have t1 := e_l_is_tip c0 (.tip d y k) (N := n + 1) (by omega) S
    rw [ev_s c]
    cases d <;> simp at t1 <;> simp [step1, b_l_mirror, t1, Hg.isTip, Hg.mir, oDisp, keyOf, mk1, mk2]
  | .knot k l r, N, hN, S => by
    obtain ⟨n, rfl, hl, hr, _⟩ := dl 2 hN (by omega)
    have t1 := e_l_is_tip c0 (.knot k l r) (N := n + 1) (by omega) S
    have h1 := e_l_mirror c0 c l (N := n + 1) (by omega) S
    have h2 := e_l_mirror c0 c r (N := n + 1) (by omega) S
    rw [ev_s c]
    cases k <;> simp at t1 <;> simp [step1, b_l_mirror, t1, h1, h2, Hg.isTip, Hg.mir, oDisp, keyOf, mk3, mk4]
end Nl
/-! P3: the law's numbers, cells, dyes, books -/
namespace Nl
open PySem Sm
variable {T : Nat → Option Body}
def stir1 (c found factor : Int) : Int := found * 1000000000 + (c * factor + 7919) % 2147483647 * 40692 % 2147483399 / 7
def stirI (c : Int) : Int := stir1 c (stir1 c (stir1 c (stir1 c 0 48271) 69621) 39373) 44488
theorem stirI_nn (c : Int) : 0 ≤ stirI c := by
  have h : ∀ f k, 0 ≤ f → 0 ≤ stir1 c f k := fun f k hf => by
    unfold stir1
    have : 0 ≤ (c * k + 7919) % 2147483647 * 40692 % 2147483399 := Int.emod_nonneg _ (by decide)
    omega
  exact h _ _ (h _ _ (h _ _ (h _ _ (by decide))))
theorem e_stir (c : T f_l_stir = some b_l_stir) (x : Int) {N : Nat} (hN : 2 ≤ N) (S : Store) : ev T N f_l_stir [.int x] S = .ok (.int (stirI x)) S := by
  obtain ⟨n, rfl, _⟩ := two_up 0 (N := N) hN
  rw [ev_s c]
  simp [step1, b_l_stir]
  rw [for_src (src := [.lst [.int 48271, .int 69621, .int 39373, .int 44488]]) (S1 := S) (by rfl) (fun S => itA_lst _ S)]
  simp [ones, forV, setAll, stirI, stir1]
/-- the k-th cell of a script -/
def cellI (ns : List Int) (k : Nat) : Int := stirI (ns.getD k 0)
theorem cellI_nn (ns : List Int) (k : Nat) : 0 ≤ cellI ns k := stirI_nn _
theorem e_cell (c0 : T f_l_stir = some b_l_stir) (c : T f_l_cell = some b_l_cell) (ns : List Int) (k : Nat) {N : Nat} (hN : 3 ≤ N) (S : Store) : ev T N f_l_cell [.scr ns, .int k] S = .ok (.int (cellI ns k)) S := by
  obtain ⟨n, rfl, _⟩ := two_up 1 (N := N) hN
  rw [ev_s c]
  have st : ∀ x S, ev T (n + 1) f_l_stir [.int x] S = .ok (.int (stirI x)) S := fun x S => e_stir c0 x (by omega) S
  by_cases h : k < ns.length
  · simp [step1, b_l_cell, h, st, cellI]
  · have g : ns.getD k 0 = 0 := by simp [List.getD, List.getElem?_eq_none (by omega : ns.length ≤ k)]
    simp [step1, b_l_cell, h, st, cellI, g]
theorem six {n d : Nat} {i : Int} (h : 0 ≤ i) : HT.sIx n d (some i) = min i.toNat n := by
  obtain ⟨k, rfl⟩ := Int.eq_ofNat_of_zero_le h
  show HT.sIx n d (some ((k : Nat) : Int)) = _
  rw [HT.sIx_nat]; rfl
theorem six0 {n d : Nat} : HT.sIx n d none = d := rfl
/-- a slice with both ends -/
theorem cutD_nat {A : Type} (l : List A) (i j : Nat) : cutD l (some (i : Int)) (some (j : Int)) = (l.take j).drop i := by
  unfold cutD
  rw [six (i := (i : Int)) (by omega), six (i := (j : Int)) (by omega), Int.toNat_natCast, Int.toNat_natCast]
  by_cases h : l.length ≤ i
  · rw [List.drop_eq_nil_of_le (by omega), List.take_nil, List.drop_eq_nil_of_le (by rw [List.length_take]; omega)]
  · rw [show min i l.length = i by omega, List.drop_take]
    by_cases h2 : j ≤ l.length
    · rw [show min j l.length = j by omega]
    · rw [show min j l.length = l.length by omega, List.take_of_length_le (by rw [List.length_drop]; omega), List.take_of_length_le (by rw [List.length_drop]; omega)]
theorem cutD_to {A : Type} (l : List A) (j : Nat) : cutD l none (some (j : Int)) = l.take j := by
  unfold cutD
  rw [six0, six (i := (j : Int)) (by omega), Int.toNat_natCast]
  by_cases h2 : j ≤ l.length
  · simp [Nat.min_eq_left h2]
  · simp [show min j l.length = l.length by omega, List.take_of_length_le (by omega : l.length ≤ j)]
theorem cutD_from {A : Type} (l : List A) (i : Nat) : cutD l (some (i : Int)) none = l.drop i := by
  unfold cutD
  rw [six0, six (i := (i : Int)) (by omega), Int.toNat_natCast]
  by_cases h2 : i ≤ l.length
  · rw [Nat.min_eq_left h2]; exact List.take_of_length_le (by rw [List.length_drop]; omega)
  · rw [show min i l.length = l.length by omega, List.drop_eq_nil_of_le (by omega), List.drop_eq_nil_of_le (by omega), List.take_nil]
@[simp] theorem sl_lst (c : Bool) (S : Store) (ds : List D) (lo hi : Option Int) : oSl c S (.lst ds) lo hi = finL c (cutD ds lo hi) S := rfl
@[simp] theorem sl_scr (c : Bool) (S : Store) (ns : List Int) (lo hi : Option Int) : oSl c S (.scr ns) lo hi = finL c (cutD (ns.map D.int) lo hi) S := rfl
@[simp] theorem sl_str (c : Bool) (S : Store) (x : Str) (lo hi : Option Int) : oSl c S (.str x) lo hi = if x.length ≤ sizeLine then .ok (.str (L2.cutS x lo hi)) S else .err := rfl
theorem e_cells (c0 : T f_l_stir = some b_l_stir) (c : T f_l_cells = some b_l_cells) (ns : List Int) (i j : Nat) {N : Nat} (hN : 3 ≤ N) (S : Store) : ev T N f_l_cells [.scr ns, .int i, .int j] S = .ok (.lst ((((ns.take j).drop i).map stirI).map D.int)) S := by
  obtain ⟨n, rfl, _⟩ := two_up 1 (N := N) hN
  rw [ev_s c]
  simp [step1, b_l_cells]
  rw [comp_ones ((ns.take j).drop i) D.int (S1 := S) (src := [.lst (((ns.take j).drop i).map D.int)]) (by simp [cutD_nat]) (by rw [itA_lst, ones_map]) (fun _ => true) (fun v => .int (stirI v)) (fun d _ => rfl) ?_]
  · simp [filter_yes, Function.comp_def]
  · intro x _ _
    simp [setAll, wipeE, e_stir c0 x (N := n + 1) (by omega) S]
/-! ### dyes -/
def abc : Str := Str.ofString "abcdefghijklmnopqrstuvwxyz"
theorem abc_cps : abc.cps.toList = (List.range 26).map (97 + ·) := by decide +kernel
theorem abc_len : abc.length = 26 := by decide +kernel
theorem abc_at {j : Int} (h0 : 0 ≤ j) (h1 : j < 26) (S : Store) : oIx S (.str abc) (.int j) = .ok (.str ⟨#[97 + j.toNat]⟩) S := by
  have e : L2.atI abc.cps.toList j = some (97 + j.toNat) := by
    rw [atI_pos h0, abc_cps, List.getElem?_map, List.getElem?_range (by omega)]; rfl
  unfold oIx
  simp [abc_len, e]
  decide
theorem strsOf_map {A : Type} (f : A → Str) (l : List A) : strsOf (l.map fun x => .str (f x)) = some (l.map f) := by
  induction l with
  | nil => rfl
  | cons a l ih => simp only [List.map_cons, strsOf, ih]; rfl
theorem join0 (l : List Str) : Str.join (Str.ofString "") l = ⟨(l.flatMap fun x => x.cps.toList).toArray⟩ := by
  have e0 : Str.ofString "" = ⟨#[]⟩ := by decide +kernel
  rw [e0]
  induction l with
  | nil => rfl
  | cons x l ih =>
    cases l with
    | nil => simp [Str.join]
    | cons y l =>
      rw [Str.join, ih]
      · show (Str.mk ((x.cps ++ #[]) ++ _) : Str) = _
        simp
      · simp
def dyeSize (c : Int) : Nat := if c % 11 = 5 then 20 else (1 + c % 3).toNat
def dyeCps (c : Int) : List Nat := (List.range (dyeSize c)).map fun (k : Nat) => 97 + ((c / 3 + 7 * (c / 5 % 4) * k) % 26).toNat
def dyeS (c : Int) : Str := ⟨(dyeCps c).toArray⟩
theorem dyeSize_le (c : Int) : 1 ≤ dyeSize c ∧ dyeSize c ≤ 20 := by unfold dyeSize; split <;> omega
/-- a dye: one to twenty letters -/
def IsDye (y : Str) : Prop := 1 ≤ y.length ∧ y.length ≤ 20 ∧ ∀ x ∈ y.cps.toList, 97 ≤ x ∧ x < 123
theorem dyeS_ok (c : Int) : IsDye (dyeS c) := by
  have l : (dyeS c).length = dyeSize c := by simp [dyeS, Str.length, dyeCps]
  have := dyeSize_le c
  refine ⟨by omega, by omega, fun x hx => ?_⟩
  have hx : x ∈ (dyeCps c).toArray.toList := hx
  rw [List.toList_toArray] at hx
  obtain ⟨k, _, rfl⟩ := List.mem_map.mp hx
  omega
theorem e_dye (c : T f_l_dye = some b_l_dye) (x : Int) {N : Nat} (hN : 2 ≤ N) (S : Store) : ev T N f_l_dye [.int x] S = .ok (.str (dyeS x)) S := by
  obtain ⟨n, rfl, _⟩ := two_up 0 (N := N) hN
  rw [ev_s c]
  have hz := dyeSize_le x
  have hs : (20 : Nat) ≤ sizeLine := by decide
  have comp : ∀ (ρ : Sm.Env) (m : Int) (hm : m = (dyeSize x : Int)) (ha : ρ = [some (.int x), some (.int m), some (.int (7 * (x / 5 % 4))), none]), mComp false (mCons (mV 1) mNil) itemsR [3] [3] (mC (.bl true)) (m2 oIx (mC (.str "abcdefghijklmnopqrstuvwxyz")) (m2 oMod (m2 (oAdd false) (m2 oDiv (mV 0) (mC (.int 3))) (m2 (oMul false) (mV 2) (mV 3))) (mC (.int 26)))) ρ S
      = .ok (.lst ((List.range (dyeSize x)).map fun (k : Nat) => D.str ⟨#[97 + ((x / 3 + 7 * (x / 5 % 4) * k) % 26).toNat]⟩)) S := by
    intro ρ m hm ha
    subst ha hm
    rw [comp_ones (List.range (dyeSize x)) (fun k : Nat => D.int k) (S1 := S) (src := [.int (dyeSize x)]) (by simp) (it_r1 (by omega) S) (fun _ => true) (fun k => D.str ⟨#[97 + ((x / 3 + 7 * (x / 5 % 4) * k) % 26).toNat]⟩) (fun d _ => rfl) ?_]
    · simp [filter_yes]
    · intro k hk _
      have hk : k < dyeSize x := List.mem_range.mp hk
      have := abc_at (j := (x / 3 + 7 * (x / 5 % 4) * k) % 26) (by omega) (by omega) S
      unfold abc at this
      simp [setAll, wipeE]
      rw [if_pos (mulOk_l _ ⟨by omega, by omega⟩)]
      simp [this]
  have join : ∀ S, oJoin S (.str (Str.ofString "")) [.lst ((List.range (dyeSize x)).map fun (k : Nat) => D.str ⟨#[97 + ((x / 3 + 7 * (x / 5 % 4) * k) % 26).toNat]⟩)] = .ok (.str (dyeS x)) S := by
    intro S
    unfold oJoin
    simp [strsOf_map, TL.join_eq, join0]
    have e0 : (Str.ofString "").length = 0 := by decide +kernel
    have e1 : ∀ z : Nat, (Str.mk #[z]).length = 1 := fun z => rfl
    rw [if_pos (by simp [Function.comp_def, e0, e1, List.map_const', List.sum_replicate_nat]; omega)]
    simp [dyeS, dyeCps, List.flatMap_map]
    rw [List.map_eq_flatMap]
  by_cases h : x % 11 = 5
  · have hm : dyeSize x = 20 := by unfold dyeSize; rw [if_pos h]
    simp [step1, b_l_dye, h, comp _ 20 (by rw [hm]; rfl) rfl, join]
  · have hm : 1 + x % 3 = (dyeSize x : Int) := by unfold dyeSize; rw [if_neg h]; omega
    simp [step1, b_l_dye, h, comp _ (1 + x % 3) hm rfl, join]
end Nl
/-! P4: the law's loft: books, numbers, cords, knots, splices -/
namespace Nl
open PySem Sm
variable {T : Nat → Option Body}
structure Bk where
  b0 : Int
  b1 : Int
  n : Nat
def Bk.num (b : Bk) (k : Nat) : Int := b.b0 + b.b1 * ((k : Int) * 21 % 64 + 64 * ((k : Int) / 64))
def Bk.mo (b : Bk) : MO := .lst [.int b.b0, .int b.b1, .int b.n]
def Bk.up (b : Bk) (k : Nat) : Bk := { b with n := b.n + k }
theorem Bk.up_up (b : Bk) (i j : Nat) : (b.up i).up j = b.up (i + j) := by simp [Bk.up, Nat.add_assoc]
structure Bk.Ok (b : Bk) : Prop where
  lo : 0 ≤ b.b0 ∧ b.b0 < 10 ^ 29
  step : 0 < b.b1 ∧ b.b1 ≤ 1000000007
theorem gset {A : Type} (S : List A) (i j : Nat) (x : A) : (S.set i x)[j]? = if i = j then (S[i]?).map (fun _ => x) else S[j]? := by
  rw [List.getElem?_set]
  by_cases h : i = j
  · subst h
    by_cases h2 : i < S.length
    · simp [h2]
    · simp [h2]
  · simp [h]
theorem lt_of_get {A : Type} {l : List A} {i : Nat} {a : A} (h : l[i]? = some a) : i < l.length := (List.getElem?_eq_some_iff.mp h).1
theorem e_number (c : T f_l_number = some b_l_number) {b : Bk} (hb : b.Ok) {e : Nat} {S : Store} (he : S[e]? = some b.mo) {N : Nat} (hN : 2 ≤ N) : ev T N f_l_number [.cell e] S = .ok (.int (b.num b.n)) (S.set e (b.up 1).mo) := by
  obtain ⟨n, rfl, _⟩ := two_up 0 (N := N) hN
  rw [ev_s c]
  have hs := hb.step
  have key : ∀ m : Int, S[e]? = some (.lst [.int b.b0, .int b.b1, .int m]) → step1 b_l_number (ev T (n + 1)) (ev T n) [.cell e] S = .ok (.int (b.b0 + b.b1 * (m * 21 % 64 + 64 * (m / 64)))) (S.set e (.lst [.int b.b0, .int b.b1, .int (m + 1)])) := by
    intro m hm
    simp [step1, b_l_number, hm, L2.ixN, gset]
    rw [if_pos (mulOk_l _ ⟨by omega, by omega⟩)]
    simp
  exact key _ he
def bookOf (c : Int) : Bk := ⟨c / 16 % (if c % 4 = 0 then 10 else if c % 4 = 1 then 1000 else if c % 4 = 2 then 10 ^ 12 else 10 ^ 29), (if c / 4 % 4 = 0 then 1 else if c / 4 % 4 = 1 then 2 else if c / 4 % 4 = 2 then 97 else 1000000007), 0⟩
theorem bookOf_ok (c : Int) : (bookOf c).Ok := by
  have p : ∀ m : Int, 0 < m → m ≤ 10 ^ 29 → 0 ≤ c / 16 % m ∧ c / 16 % m < 10 ^ 29 := fun m h1 h2 => ⟨Int.emod_nonneg _ (by omega), Int.lt_of_lt_of_le (Int.emod_lt_of_pos _ h1) h2⟩
  unfold bookOf
  refine ⟨?_, ?_⟩
  · dsimp only
    split
    · exact p _ (by decide) (by decide)
    split
    · exact p _ (by decide) (by decide)
    split
    · exact p _ (by decide) (by decide)
    · exact p _ (by decide) (by decide)
  · dsimp only
    split
    · omega
    split
    · omega
    split <;> omega
theorem e_book (c : T f_l_book = some b_l_book) (x : Int) {N : Nat} (hN : 2 ≤ N) (S : Store) : ev T N f_l_book [.int x] S = .ok (.cell S.length) (S ++ [(bookOf x).mo]) := by
  obtain ⟨n, rfl, _⟩ := two_up 0 (N := N) hN
  rw [ev_s c]
  have h1 : x % 4 = 0 ∨ x % 4 = 1 ∨ x % 4 = 2 ∨ x % 4 = 3 := by omega
  have h2 : x / 4 % 4 = 0 ∨ x / 4 % 4 = 1 ∨ x / 4 % 4 = 2 ∨ x / 4 % 4 = 3 := by omega
  rcases h1 with h1 | h1 | h1 | h1 <;> rcases h2 with h2 | h2 | h2 | h2 <;> simp [step1, b_l_book, h1, h2, Bk.mo, bookOf]
namespace Hg
/-- other numbers, from a book's place on -/
def anew (b : Bk) : Hg → Nat → Hg
  | tip d y _, k => tip d y (b.num k)
  | knot w l r, k => knot w (l.anew b k) (r.anew b (k + l.nt))
theorem nt_anew (b : Bk) : ∀ (h : Hg) (k : Nat), (h.anew b k).nt = h.nt
  | tip _ _ _, _ => rfl
  | knot _ l r, k => by simp [anew, nt_anew b l, nt_anew b r]
theorem depth_anew (b : Bk) : ∀ (h : Hg) (k : Nat), (h.anew b k).depth = h.depth
  | tip _ _ _, _ => rfl
  | knot _ l r, k => by simp [anew, depth, depth_anew b l, depth_anew b r]
theorem nt_mir : ∀ (h : Hg), h.mir.nt = h.nt
  | tip _ _ _ => rfl
  | knot _ l r => by simp [mir, nt_mir l, nt_mir r]
theorem depth_mir : ∀ (h : Hg), h.mir.depth = h.depth
  | tip _ _ _ => rfl
  | knot _ l r => by simp [mir, depth, depth_mir l, depth_mir r]
theorem mir_mir : ∀ (h : Hg), h.mir.mir = h
  | tip d _ _ => by simp [mir]
  | knot k l r => by simp [mir, mir_mir l, mir_mir r]
end Hg
theorem e_anew (c0 : T f_l_is_tip = some b_l_is_tip) (c1 : T f_l_number = some b_l_number) (c : T f_l_anew = some b_l_anew) : ∀ (h : Hg) {b : Bk} (_ : b.Ok) {e : Nat} {S : Store} (_ : S[e]? = some b.mo) {N : Nat} (_ : h.depth + 3 ≤ N),
    ev T N f_l_anew [ofH h, .cell e] S = .ok (ofH (h.anew b b.n)) (S.set e (b.up h.nt).mo)
  | .tip d y k, b, hb, e, S, he, N, hN => by
    obtain ⟨n, rfl, _⟩ := two_up 1 (N := N) (by omega)
    have t1 := e_l_is_tip c0 (.tip d y k) (N := n + 1) (by omega) S
    have t2 := e_number c1 hb he (N := n + 1) (by omega)
    rw [ev_s c]
    simp at t1
    simp [step1, b_l_anew, t1, t2, Hg.isTip, Hg.anew]
  | .knot k l r, b, hb, e, S, he, N, hN => by
    obtain ⟨n, rfl, hl, hr, _⟩ := dl 2 hN (by omega)
    have t1 := e_l_is_tip c0 (.knot k l r) (N := n + 1) (by omega) S
    have h1 := e_anew c0 c1 c l hb he (N := n + 1) (by omega)
    have he2 : (S.set e (b.up l.nt).mo)[e]? = some (b.up l.nt).mo := by simp [lt_of_get he]
    have h2 := e_anew c0 c1 c r (b := b.up l.nt) ⟨hb.lo, hb.step⟩ he2 (N := n + 1) (by omega)
    have e1 : r.anew (b.up l.nt) (b.up l.nt).n = r.anew b (b.n + l.nt) := by
      have : ∀ (h : Hg) (k : Nat), h.anew (b.up l.nt) k = h.anew b k := by
        intro h; induction h with
        | tip _ _ _ => intro k; rfl
        | knot w x y hx hy => intro k; simp [Hg.anew, hx, hy]
      exact this _ _
    rw [ev_s c]
    simp at t1
    simp [e1, Bk.up_up] at h2
    simp [step1, b_l_anew, t1, h1, h2, Hg.isTip, Hg.anew]
/-! ### lofts -/
def ofP (p : Hg × Hg) : D := .tup [ofH p.1, ofH p.2]
structure Lo where
  hs : List Hg
  ms : List Int
  sp : List (Hg × Hg)
  bk : Bk
structure LAt (S : Store) (k a b c e : Nat) (L : Lo) : Prop where
  hk : S[k]? = some (.lst [.cell a, .cell b, .cell c, .cell e])
  ha : S[a]? = some (.lst (L.hs.map ofH))
  hb : S[b]? = some (.lst (L.ms.map D.int))
  hc : S[c]? = some (.lst (L.sp.map ofP))
  he : S[e]? = some L.bk.mo
  nd : [k, a, b, c, e].Nodup
/-- what may have changed: the loft's own cells; what is new -/
structure Grow (S : Store) (F : List Nat) (S' : Store) (F' : List Nat) : Prop where
  len : S.length ≤ S'.length
  old : ∀ j, j < S.length → j ∉ F → S'[j]? = S[j]?
  own : ∀ j, j ∈ F' → j ∈ F ∨ S.length ≤ j
theorem Grow.refl (S : Store) (F : List Nat) : Grow S F S F := ⟨Nat.le_refl _, fun _ _ _ => rfl, fun _ h => .inl h⟩
theorem Grow.trans {S S1 S2 : Store} {F F1 F2 : List Nat} (g : Grow S F S1 F1) (h : Grow S1 F1 S2 F2) : Grow S F S2 F2 := by
  refine ⟨Nat.le_trans g.len h.len, fun j hj hn => ?_, fun j hj => ?_⟩
  · rw [h.old j (Nat.lt_of_lt_of_le hj g.len) fun q => ?_]
    · exact g.old j hj hn
    · rcases g.own j q with z | z
      · exact hn z
      · omega
  · rcases h.own j hj with z | z
    · exact g.own j z
    · exact .inr (Nat.le_trans g.len z)
theorem Grow.set (S : Store) (F : List Nat) (j : Nat) (o : MO) (h : j ∈ F) : Grow S F (S.set j o) F := by
  refine ⟨by simp, fun i hi hn => ?_, fun _ h => .inl h⟩
  rw [List.getElem?_set_ne fun e => hn (by rw [← e]; exact h)]
theorem Grow.app (S X : Store) (F : List Nat) : Grow S F (S ++ X) F :=
  ⟨by simp, fun i hi hn => List.getElem?_append_left hi, fun _ h => .inl h⟩
theorem ne5 {k a b c e : Nat} (h : [k, a, b, c, e].Nodup) : (k ≠ a ∧ k ≠ b ∧ k ≠ c ∧ k ≠ e ∧ a ≠ b ∧ a ≠ c ∧ a ≠ e ∧ b ≠ c ∧ b ≠ e ∧ c ≠ e) ∧ (a ≠ k ∧ b ≠ k ∧ c ≠ k ∧ e ≠ k ∧ b ≠ a ∧ c ≠ a ∧ e ≠ a ∧ c ≠ b ∧ e ≠ b ∧ e ≠ c) := by
  simp at h; omega
structure LoftFns (T : Nat → Option Body) : Prop where
  is_tip : T f_l_is_tip = some b_l_is_tip
  tips : T f_l_tips = some b_l_tips
  mirror : T f_l_mirror = some b_l_mirror
  number : T f_l_number = some b_l_number
  anew : T f_l_anew = some b_l_anew
  dye : T f_l_dye = some b_l_dye
  stir : T f_l_stir = some b_l_stir
  cell : T f_l_cell = some b_l_cell
  cells : T f_l_cells = some b_l_cells
  book : T f_l_book = some b_l_book
  add_cord : T f_l_add_cord = some b_l_add_cord
  tie : T f_l_tie = some b_l_tie
  add_knot : T f_l_add_knot = some b_l_add_knot
  add_splice : T f_l_add_splice = some b_l_add_splice
  close : T f_l_close = some b_l_close
  loft : T f_l_loft = some b_l_loft
def Lo.cord (L : Lo) (x : Int) : Lo :=
  { hs := L.hs ++ [.tip (decide (x / 7 % 2 = 1)) (dyeS (x / 7)) (L.bk.num L.bk.n), .tip (!decide (x / 7 % 2 = 1)) (dyeS (x / 7)) (L.bk.num L.bk.n)], ms := L.ms ++ [L.bk.num L.bk.n, L.bk.num L.bk.n], sp := L.sp, bk := L.bk.up 1 }
theorem sz {n : Nat} (h : n ≤ 4000) : n ≤ sizeLine := Nat.le_trans h (by decide)
theorem sz' {n : Nat} (h : n < 4000) : n < sizeLine := Nat.lt_of_lt_of_le h (by decide)
theorem e_add_cord (c : LoftFns T) {S : Store} {k a b d e : Nat} {L : Lo} (l : LAt S k a b d e L) (hb : L.bk.Ok) (z1 : L.hs.length + 2 ≤ 4000) (z2 : L.ms.length + 2 ≤ 4000) (x : Int) {N : Nat} (hN : 4 ≤ N) :
    ∃ S', ev T N f_l_add_cord [.cell k, .int x] S = .ok .non S' ∧ LAt S' k a b d e (L.cord x) ∧ Grow S [k, a, b, d, e] S' [k, a, b, d, e] := by
  obtain ⟨n, rfl, _⟩ := two_up 2 (N := N) hN
  rw [ev_s c.add_cord]
  obtain ⟨hk, ha, hb', hc, he, nd⟩ := l
  obtain ⟨⟨n1, n2, n3, n4, n5, n6, n7, n8, n9, n10⟩, m1, m2, m3, m4, m5, m6, m7, m8, m9, m10⟩ := ne5 nd
  have t1 := e_number c.number hb he (N := n + 1) (by omega)
  have t2 : ∀ S, ev T (n + 1) f_l_dye [.int (x / 7)] S = .ok (.str (dyeS (x / 7))) S := fun S => e_dye c.dye (x / 7) (by omega) S
  by_cases h : x / 7 % 2 = 1
  · refine ⟨_, by simp [step1, b_l_add_cord, hk, ha, hb', hc, he, t1, t2, h, n1, n2, n3, n4, n5, n6, n7, n8, n9, n10, m1, m2, m3, m4, m5, m6, m7, m8, m9, m10, sz z1, sz z2, gset]; rfl, ?_, ?_⟩
    · refine ⟨?_, ?_, ?_, ?_, ?_, nd⟩ <;> simp [gset, hk, ha, hb', hc, he, n1, n2, n3, n4, n5, n6, n7, n8, n9, n10, m1, m2, m3, m4, m5, m6, m7, m8, m9, m10, Lo.cord, h]
    · exact ((Grow.set _ _ e _ (by simp)).trans (Grow.set _ _ a _ (by simp))).trans (Grow.set _ _ b _ (by simp))
  · refine ⟨_, by simp [step1, b_l_add_cord, hk, ha, hb', hc, he, t1, t2, h, n1, n2, n3, n4, n5, n6, n7, n8, n9, n10, m1, m2, m3, m4, m5, m6, m7, m8, m9, m10, sz z1, sz z2, gset]; rfl, ?_, ?_⟩
    · refine ⟨?_, ?_, ?_, ?_, ?_, nd⟩ <;> simp [gset, hk, ha, hb', hc, he, n1, n2, n3, n4, n5, n6, n7, n8, n9, n10, m1, m2, m3, m4, m5, m6, m7, m8, m9, m10, Lo.cord, h]
    · exact ((Grow.set _ _ e _ (by simp)).trans (Grow.set _ _ a _ (by simp))).trans (Grow.set _ _ b _ (by simp))
end Nl
/-! P5: the law's loft: knots, splices, the whole -/
namespace Nl
open PySem Sm
variable {T : Nat → Option Body}
/-- the items at some places -/
def sel {A : Type} (l : List A) (ks : List Nat) : List A := ks.filterMap fun k => l[k]?
def keep (n i j : Nat) : List Nat := (List.range n).filter fun q => decide (q ≠ i) && decide (q ≠ j)
theorem keep_lt {n i j q : Nat} (h : q ∈ keep n i j) : q < n := List.mem_range.mp (List.mem_filter.mp h).1
theorem keep_len (n i j : Nat) : (keep n i j).length ≤ n := by
  have := List.length_filter_le (fun q => decide (q ≠ i) && decide (q ≠ j)) (List.range n)
  rw [List.length_range] at this; exact this
def ins {A : Type} (l : List A) (p : Nat) (a : A) : List A := l.take p ++ [a] ++ l.drop p
def Lo.spot (L : Lo) (i j : Nat) (spot : Int) : Nat := (spot % (((keep L.hs.length i j).length : Int) + 1)).toNat
def Lo.tie (L : Lo) (i j : Nat) (h : Hg) (mi mj : Int) (spot : Int) : Lo :=
  { hs := ins (sel L.hs (keep L.hs.length i j)) (L.spot i j spot) h, ms := (ins (sel L.ms (keep L.hs.length i j)) (L.spot i j spot) mi).map fun m => if m = mj then mi else m, sp := L.sp, bk := L.bk }
theorem sel_map {A B : Type} {l : List A} {f : A → B} {ks : List Nat} (g : Nat → B) (h : ∀ k ∈ ks, ∃ a, l[k]? = some a ∧ g k = f a) : ks.map g = (sel l ks).map f := by
  unfold sel
  induction ks with
  | nil => rfl
  | cons k ks ih =>
    obtain ⟨a, h1, h2⟩ := h k List.mem_cons_self
    rw [List.map_cons, List.filterMap_cons, h1, ih fun q hq => h q (List.mem_cons_of_mem _ hq), h2]; rfl
theorem ins_map {A B : Type} (f : A → B) (l : List A) (p : Nat) (a : A) : (ins l p a).map f = ins (l.map f) p (f a) := by
  unfold ins; simp [List.map_take, List.map_drop]
theorem ins_len {A : Type} (l : List A) (p : Nat) (a : A) : (ins l p a).length = l.length + 1 := by
  unfold ins
  rw [List.length_append, List.length_append, List.length_take, List.length_drop, List.length_singleton]
  omega
theorem sel_len {A : Type} {l : List A} {ks : List Nat} (h : ∀ k ∈ ks, k < l.length) : (sel l ks).length = ks.length := by
  unfold sel
  induction ks with
  | nil => rfl
  | cons k ks ih =>
    have := h k List.mem_cons_self
    rw [List.filterMap_cons, List.getElem?_eq_getElem this]
    simp [ih fun q hq => h q (List.mem_cons_of_mem _ hq)]
/-- [x[k] for k in ks], x a cell's list -/
theorem comp_sel {A : Type} {c : Bool} {args : ML} {tg own : List Nat} {elt : ME} {ρ : Sm.Env} {S : Store} (l : List A) (f : A → D) (ks : List Nat) (h : args ρ S = .ok [.lst (ks.map fun q : Nat => D.int q)] S) (hk : ∀ q ∈ ks, q < l.length)
    (he : ∀ (q : Nat) x, l[q]? = some x → elt (setAll tg [D.int q] (wipeE ρ own)) S = .ok (f x) S) : mComp c args itemsA tg own (mC (.bl true)) elt ρ S = finL c ((sel l ks).map f) S := by
  have hsel : ks.map (fun q => match l[q]? with
      | some x => f x
      | none => .non) = (sel l ks).map f := sel_map _ fun q hq => ⟨_, List.getElem?_eq_getElem (hk q hq), by rw [List.getElem?_eq_getElem (hk q hq)]⟩
  rw [comp_ones ks (fun q : Nat => D.int q) h (by rw [itA_lst, ones_map]) (fun _ => true) (fun q => match l[q]? with
      | some x => f x
      | none => .non) (fun q _ => rfl) (fun q hq _ => by
        rw [List.getElem?_eq_getElem (hk q hq)]
        exact he q _ (List.getElem?_eq_getElem (hk q hq))), filter_yes, hsel]
theorem comp_map {A : Type} {c : Bool} {args : ML} {tg own : List Nat} {elt : ME} {ρ : Sm.Env} {S : Store} {d : D} (xs : List A) (inj f : A → D) (h : args ρ S = .ok [d] S) (hi : itemsA [d] S = some (xs.map fun x => [inj x]))
    (he : ∀ x ∈ xs, elt (setAll tg [inj x] (wipeE ρ own)) S = .ok (f x) S) : mComp c args itemsA tg own (mC (.bl true)) elt ρ S = finL c (xs.map f) S := by
  rw [comp_ones xs inj h hi (fun _ => true) f (fun q _ => rfl) (fun q hq _ => he q hq), filter_yes]
theorem gapp {A : Type} {S : List A} {j : Nat} {o : A} (h : S[j]? = some o) (X : List A) : (S ++ X)[j]? = some o := by
  rw [List.getElem?_append_left (lt_of_get h)]; exact h
theorem e_tie (c : LoftFns T) {S : Store} {k a b d e : Nat} {L : Lo} (l : LAt S k a b d e L) (hz : L.hs.length < 4000) (hm : L.ms.length = L.hs.length) {i j : Nat} {hi hj : Hg} {mi mj : Int}
    (gi : L.hs[i]? = some hi) (gj : L.hs[j]? = some hj) (ei : L.ms[i]? = some mi) (ej : L.ms[j]? = some mj) (w : Bool) (spot : Int) {N : Nat} (hN : 2 ≤ N) :
    ∃ S', ev T N f_l_tie [.cell k, .int i, .int j, .str (kw w), .int spot] S = .ok .non S' ∧ ∃ a' b', LAt S' k a' b' d e (L.tie i j (.knot w hi hj) mi mj spot) ∧ Grow S [k, a, b, d, e] S' [k, a', b', d, e] := by
  obtain ⟨n, rfl, _⟩ := two_up 0 (N := N) hN
  rw [ev_s c.tie]
  obtain ⟨hk, ha, hb', hc, he, nd⟩ := l
  obtain ⟨⟨n1, n2, n3, n4, n5, n6, n7, n8, n9, n10⟩, m1, m2, m3, m4, m5, m6, m7, m8, m9, m10⟩ := ne5 nd
  have lk := lt_of_get hk; have la := lt_of_get ha; have lb := lt_of_get hb'; have ld := lt_of_get hc; have le := lt_of_get he
  have kl := keep_len L.hs.length i j
  simp [step1, b_l_tie]
  rw [comp_ones (List.range L.hs.length) (fun q : Nat => D.int q) (S1 := S) (src := [.int L.hs.length]) (by simp [hk, ha]) (it_r1 (sz (Nat.le_of_lt hz)) S) (fun q => decide (q ≠ i) && decide (q ≠ j)) (fun q => .int q)
    (fun q _ => by
      by_cases h1 : q = i
      · subst h1; simp [setAll, wipeE]
      · by_cases h2 : q = j
        · subst h2; simp [setAll, wipeE, h1, Int.ofNat_inj]
        · simp [setAll, wipeE, h1, h2, Int.ofNat_inj]) (fun q _ _ => by simp [setAll, wipeE])]
  rw [show (List.range L.hs.length).filter (fun q => decide (q ≠ i) && decide (q ≠ j)) = keep L.hs.length i j from rfl]
  simp [hk, hb', ei, ej]
  rw [comp_sel L.hs ofH (keep L.hs.length i j) (S := S) (by simp) (fun q hq => keep_lt hq) (fun q x hx => by simp [setAll, wipeE, hk, ha, hx])]
  have s1 : (sel L.hs (keep L.hs.length i j)).length = (keep L.hs.length i j).length := sel_len fun q hq => keep_lt hq
  have s2 : (sel L.ms (keep L.hs.length i j)).length = (keep L.hs.length i j).length := sel_len fun q hq => by rw [hm]; exact keep_lt hq
  have q0 : (0 : Int) < ((keep L.hs.length i j).length : Int) + 1 := by omega
  have q1 : 0 ≤ spot % (((keep L.hs.length i j).length : Int) + 1) := Int.emod_nonneg _ (by omega)
  have q2 : spot % (((keep L.hs.length i j).length : Int) + 1) < 9223372036854775808 := by
    have := Int.emod_lt_of_pos spot q0
    omega
  have q3 : (keep L.hs.length i j).length < sizeLine := sz' (by omega)
  have ak := gapp hk; have aa := gapp ha; have ab := gapp hb'
  have kS : k ≠ S.length := by omega
  have aS : a ≠ S.length := by omega
  have bS : b ≠ S.length := by omega
  simp [s1, q0, q1, q2, q3, ak, aa, gi, gj]
  rw [comp_sel L.ms D.int (keep L.hs.length i j) (by simp) (fun q hq => by rw [hm]; exact keep_lt hq) (fun q x hx => by simp [setAll, wipeE, ak, ab, hx])]
  simp [s2, q0, q1, q2, q3, ak, aa, ab, gset, kS, aS, bS, L2.ixN]
  have q4 : k ≠ S.length + 1 := by omega
  have q5 : k ≠ S.length + 2 := by omega
  have ad := gapp hc; have ae := gapp he
  generalize hS2 : (S ++ [_, _]).set k _ = S2
  have g1 : S2[k]? = some (.lst [.cell S.length, .cell b, .cell d, .cell e]) := by rw [← hS2]; simp [gset, ak]
  have g2 : S2[S.length]? = some (.lst ((L.tie i j (.knot w hi hj) mi mj spot).hs.map ofH)) := by rw [← hS2]; simp [gset, kS, Lo.tie, ins_map, Lo.spot, ins, List.map_take, List.map_drop]
  have g3 : S2[S.length + 1]? = some (.lst ((ins (sel L.ms (keep L.hs.length i j)) (L.spot i j spot) mi).map D.int)) := by rw [← hS2]; simp [gset, q4, ins_map, Lo.spot, ins, List.map_take, List.map_drop]
  have g4 : S2.length = S.length + 2 := by rw [← hS2]; simp
  have g5 : ∀ q, q < S.length → q ≠ k → S2[q]? = S[q]? := fun q hq hn => by rw [← hS2, gset, if_neg (fun h => hn h.symm), List.getElem?_append_left hq]
  rw [comp_map (d := .cell (S.length + 1)) (ins (sel L.ms (keep L.hs.length i j)) (L.spot i j spot) mi) D.int (fun m => .int (if m = mj then mi else m)) (by simp) (by simp [g3]) (fun m _ => by by_cases h : m = mj <;> simp [setAll, wipeE, h])]
  have a1 := gapp g1
  refine ⟨_, by simp [a1, L2.ixN]; rfl, S.length, S2.length, ⟨?_, ?_, ?_, ?_, ?_, ?_⟩, ?_⟩
  · simp [gset, a1]
  · simp [gset, kS, gapp g2]
  · have : k ≠ S2.length := by omega
    simp [gset, this, Lo.tie]
  · simp [gset, n3, gapp ((g5 d ld m3).trans hc), Lo.tie]
  · simp [gset, n4, gapp ((g5 e le m4).trans he), Lo.tie]
  · simp at nd ⊢; omega
  · refine ⟨by simp; omega, fun q hq hn => ?_, fun q hq => ?_⟩
    · have h : q ≠ k := fun h => hn (by simp [h])
      rw [gset, if_neg (fun z => h z.symm), List.getElem?_append_left (by omega)]
      exact g5 q hq h
    · simp at hq ⊢; omega
end Nl
/-! P6: the law's loft: knots, splices, the whole -/
namespace Nl
open PySem Sm
variable {T : Nat → Option Body}
instance : Inhabited Hg := ⟨.tip false ⟨#[]⟩ 0⟩
def Lo.at (L : Lo) (x : Int) : Nat := (x % (L.hs.length : Int)).toNat
def Lo.at2 (L : Lo) (x : Int) : Nat := if L.at (x / 7) = L.at (x / 448) then L.at ((L.at (x / 7) : Int) + 1) else L.at (x / 448)
theorem Lo.at_lt {L : Lo} (h : 0 < L.hs.length) (x : Int) : L.at x < L.hs.length ∧ x % (L.hs.length : Int) = (L.at x : Int) := by
  unfold Lo.at
  have h1 : 0 ≤ x % (L.hs.length : Int) := Int.emod_nonneg _ (by omega)
  have h2 : x % (L.hs.length : Int) < L.hs.length := Int.emod_lt_of_pos _ (by omega)
  omega
theorem Lo.at2_lt {L : Lo} (h : 0 < L.hs.length) (x : Int) : L.at2 x < L.hs.length := by
  unfold Lo.at2
  split
  · exact (Lo.at_lt h _).1
  · exact (Lo.at_lt h _).1
theorem Lo.at2_ne {L : Lo} (h : 2 ≤ L.hs.length) (x : Int) : L.at (x / 7) ≠ L.at2 x := by
  unfold Lo.at2
  split
  · next q =>
    have h1 := Lo.at_lt (L := L) (by omega) (x / 7)
    have h3 := Lo.at_lt (L := L) (by omega) ((L.at (x / 7) : Int) + 1)
    generalize L.at ((L.at (x / 7) : Int) + 1) = w at *
    intro e
    by_cases z : (L.at (x / 7) : Int) + 1 < L.hs.length
    · rw [Int.emod_eq_of_lt (by omega) z] at h3; omega
    · have : (L.at (x / 7) : Int) + 1 = L.hs.length := by omega
      rw [this, Int.emod_self] at h3; omega
  · next q => exact q
def Lo.word (L : Lo) (x : Int) (good : Bool) : Bool := (good && decide (L.ms.getD (L.at (x / 7)) 0 = L.ms.getD (L.at2 x) 0)) || (!good && decide (3 < x % 7))
def Lo.knot (L : Lo) (x : Int) (good : Bool) : Lo :=
  L.tie (L.at (x / 7)) (L.at2 x) (.knot (L.word x good) (L.hs.getD (L.at (x / 7)) default) (L.hs.getD (L.at2 x) default)) (L.ms.getD (L.at (x / 7)) 0) (L.ms.getD (L.at2 x) 0) (x / 28672)
theorem getD_get {A : Type} {l : List A} {i : Nat} (h : i < l.length) (d : A) : l[i]? = some (l.getD i d) := by
  rw [List.getElem?_eq_getElem h, List.getD_eq_getElem?_getD, List.getElem?_eq_getElem h]; rfl
theorem e_add_knot (c : LoftFns T) {S : Store} {k a b d e : Nat} {L : Lo} (l : LAt S k a b d e L) (hz : L.hs.length < 4000) (hm : L.ms.length = L.hs.length) (h2 : 2 ≤ L.hs.length) (x : Int) (good : Bool) {N : Nat} (hN : 3 ≤ N) :
    ∃ S', ev T N f_l_add_knot [.cell k, .int x, .bl good] S = .ok .non S' ∧ ∃ a' b', LAt S' k a' b' d e (L.knot x good) ∧ Grow S [k, a, b, d, e] S' [k, a', b', d, e] := by
  obtain ⟨n, rfl, _⟩ := two_up 1 (N := N) hN
  have pi := Lo.at_lt (L := L) (by omega) (x / 7)
  have pj := Lo.at_lt (L := L) (by omega) (x / 448)
  have pk := Lo.at_lt (L := L) (by omega) ((L.at (x / 7) : Int) + 1)
  have p2 := Lo.at2_lt (L := L) (by omega) x
  obtain ⟨S', h1, h3⟩ := e_tie c l hz hm (i := L.at (x / 7)) (j := L.at2 x) (getD_get pi.1 default) (getD_get p2 default) (getD_get (by omega) 0) (getD_get (by omega) 0) (L.word x good) (x / 28672) (N := n + 1) (by omega)
  refine ⟨S', ?_, h3⟩
  obtain ⟨hk, ha, hb', hc, he, nd⟩ := l
  rw [ev_s c.add_knot]
  have z0 : 0 < L.hs.length := by omega
  obtain ⟨mi, gi, emi⟩ : ∃ m, L.ms[L.at (x / 7)]? = some m ∧ L.ms.getD (L.at (x / 7)) 0 = m := ⟨_, getD_get (by omega) 0, rfl⟩
  obtain ⟨mj, gj, emj⟩ : ∃ m, L.ms[L.at2 x]? = some m ∧ L.ms.getD (L.at2 x) 0 = m := ⟨_, getD_get (by omega) 0, rfl⟩
  have ej : (if (L.at (x / 7) : Int) = (L.at (x / 448) : Int) then (L.at ((L.at (x / 7) : Int) + 1) : Int) else (L.at (x / 448) : Int)) = (L.at2 x : Int) := by
    unfold Lo.at2
    by_cases q : L.at (x / 7) = L.at (x / 448)
    · rw [if_pos q, if_pos (by rw [q])]
    · rw [if_neg q, if_neg (fun z => q (by omega))]
  have e3 : ∀ w : Bool, L.word x good = w → D.str (kw (L.word x good)) = D.str (kw w) := fun w h => by rw [h]
  by_cases q : L.at (x / 7) = L.at (x / 448)
  · have ej : (L.at ((L.at (x / 7) : Int) + 1) : Int) = (L.at2 x : Int) := by rw [← ej, if_pos (by rw [q])]
    cases good with
    | true =>
      by_cases q2 : mi = mj
      · have w : L.word x true = true := by unfold Lo.word; rw [emi, emj]; simp [q2]
        rw [w] at h1; simp at h1
        simp [step1, b_l_add_knot, hk, ha, hb', z0, pi.2, pj.2, pk.2, ← q, ej, gi, gj, q2, h1]
      · have w : L.word x true = false := by unfold Lo.word; rw [emi, emj]; simp [q2]
        rw [w] at h1; simp at h1
        simp [step1, b_l_add_knot, hk, ha, hb', z0, pi.2, pj.2, pk.2, ← q, ej, gi, gj, q2, h1]
    | false =>
      by_cases q2 : 3 < x % 7
      · have w : L.word x false = true := by unfold Lo.word; simp [q2]
        rw [w] at h1; simp at h1
        simp [step1, b_l_add_knot, hk, ha, hb', z0, pi.2, pj.2, pk.2, ← q, ej, gi, gj, q2, h1]
      · have w : L.word x false = false := by unfold Lo.word; simp [q2]
        rw [w] at h1; simp at h1
        simp [step1, b_l_add_knot, hk, ha, hb', z0, pi.2, pj.2, pk.2, ← q, ej, gi, gj, q2, h1]
  · have ej : (L.at (x / 448) : Int) = (L.at2 x : Int) := by rw [← ej, if_neg (fun z => q (by omega))]
    have q' : ¬ (L.at (x / 7) : Int) = (L.at2 x : Int) := by rw [← ej]; omega
    have q'' : ¬ L.at (x / 7) = L.at2 x := by omega
    cases good with
    | true =>
      by_cases q2 : mi = mj
      · have w : L.word x true = true := by unfold Lo.word; rw [emi, emj]; simp [q2]
        rw [w] at h1; simp at h1
        simp [step1, b_l_add_knot, hk, ha, hb', z0, pi.2, pj.2, pk.2, ej, q', q'', gi, gj, q2, h1]
      · have w : L.word x true = false := by unfold Lo.word; rw [emi, emj]; simp [q2]
        rw [w] at h1; simp at h1
        simp [step1, b_l_add_knot, hk, ha, hb', z0, pi.2, pj.2, pk.2, ej, q', q'', gi, gj, q2, h1]
    | false =>
      by_cases q2 : 3 < x % 7
      · have w : L.word x false = true := by unfold Lo.word; simp [q2]
        rw [w] at h1; simp at h1
        simp [step1, b_l_add_knot, hk, ha, hb', z0, pi.2, pj.2, pk.2, ej, q', q'', gi, gj, q2, h1]
      · have w : L.word x false = false := by unfold Lo.word; simp [q2]
        rw [w] at h1; simp at h1
        simp [step1, b_l_add_knot, hk, ha, hb', z0, pi.2, pj.2, pk.2, ej, q', q'', gi, gj, q2, h1]
end Nl
/-! P7: the law's loft: splices, the whole -/
namespace Nl
open PySem Sm
variable {T : Nat → Option Body}
theorem Grow.set' {S S1 : Store} {F : List Nat} (g : Grow S F S1 F) {j : Nat} {o : MO} (h : j ∈ F) : Grow S F (S1.set j o) F := g.trans (Grow.set _ _ _ _ h)
local macro_rules | `(tactic| walk_at "grow") => `(tactic| (repeat (first | exact Grow.refl _ _ | refine Grow.set' ?_ (by simp))))
def Lo.spl (L : Lo) (x : Int) (far h : Hg) : List (Hg × Hg) := ins L.sp (x / 1792 % ((L.sp.length : Int) + 1)).toNat (if x / 448 % 2 = 1 then (far.mir, h) else (h, far.mir))
def Lo.splice (L : Lo) (x : Int) (good : Bool) : Lo :=
  let i := L.at (x / 7)
  let h := L.hs.getD i default
  match h.anew L.bk L.bk.n with
  | .tip d y n => { hs := L.hs.set i (.tip d y n), ms := L.ms, sp := L.spl x (.tip d y n) h, bk := L.bk.up h.nt }
  | .knot w l r => if x / 896 % 2 = 1 ∧ (w = true ∨ good = false) then { hs := ins (L.hs.set i l) (i + 1) r, ms := ins L.ms (i + 1) (L.ms.getD i 0), sp := L.spl x (.knot w l r) h, bk := L.bk.up h.nt }
    else { hs := L.hs.set i (.knot w l r), ms := L.ms, sp := L.spl x (.knot w l r) h, bk := L.bk.up h.nt }
theorem e_add_splice (c : LoftFns T) {S : Store} {k a b d e : Nat} {L : Lo} (l : LAt S k a b d e L) (hb : L.bk.Ok) (hz : L.hs.length < 4000) (hz2 : L.sp.length < 4000) (hm : L.ms.length = L.hs.length) (h1 : 1 ≤ L.hs.length) (x : Int) (good : Bool)
    {D0 : Nat} (hd : ∀ h ∈ L.hs, h.depth ≤ D0) {N : Nat} (hN : D0 + 4 ≤ N) :
    ∃ S', ev T N f_l_add_splice [.cell k, .int x, .bl good] S = .ok .non S' ∧ LAt S' k a b d e (L.splice x good) ∧ Grow S [k, a, b, d, e] S' [k, a, b, d, e] := by
  obtain ⟨n, rfl, _⟩ := two_up (D0 + 2) (N := N) (by omega)
  have pi := Lo.at_lt (L := L) (by omega) (x / 7)
  obtain ⟨h, gh, eh⟩ : ∃ h, L.hs[L.at (x / 7)]? = some h ∧ L.hs.getD (L.at (x / 7)) default = h := ⟨_, getD_get pi.1 default, rfl⟩
  obtain ⟨mi, gi, emi⟩ : ∃ m, L.ms[L.at (x / 7)]? = some m ∧ L.ms.getD (L.at (x / 7)) 0 = m := ⟨_, getD_get (by omega) 0, rfl⟩
  have dh : h.depth ≤ D0 := hd h (List.mem_of_getElem? gh)
  obtain ⟨hk, ha, hb', hc, he, nd⟩ := l
  obtain ⟨⟨n1, n2, n3, n4, n5, n6, n7, n8, n9, n10⟩, m1, m2, m3, m4, m5, m6, m7, m8, m9, m10⟩ := ne5 nd
  rw [ev_s c.add_splice]
  have z0 : 0 < L.hs.length := by omega
  have t1 := e_anew c.is_tip c.number c.anew h hb he (N := n + 1) (by omega)
  have t2 : ∀ S, ev T (n + 1) f_l_mirror [ofH (h.anew L.bk L.bk.n)] S = .ok (ofH (h.anew L.bk L.bk.n).mir) S := fun S => e_l_mirror c.is_tip c.mirror _ (by rw [Hg.depth_anew]; omega) S
  have q0 : (0 : Int) < (L.sp.length : Int) + 1 := by omega
  have q1 : 0 ≤ x / 1792 % ((L.sp.length : Int) + 1) := Int.emod_nonneg _ (by omega)
  have q2 : x / 1792 % ((L.sp.length : Int) + 1) < 9223372036854775808 := by
    have := Int.emod_lt_of_pos (x / 1792) q0
    omega
  have q3 : L.sp.length < sizeLine := sz' hz2
  have q4 : L.hs.length < sizeLine := sz' hz
  have q6 : (L.at (x / 7) : Int) + 1 < 9223372036854775808 := by omega
  have q7 : (0 : Int) ≤ (L.at (x / 7) : Int) + 1 := by omega
  have q8 : ((L.at (x / 7) : Int) + 1).toNat = L.at (x / 7) + 1 := by omega
  have q9 : L2.ixN L.hs.length (L.at (x / 7) : Int) = some (L.at (x / 7)) := ixN_nat pi.1
  unfold Lo.splice
  simp only [eh, emi]
  generalize hf : h.anew L.bk L.bk.n = far at *
  have key : ∀ (p : Hg × Hg), p = (if x / 448 % 2 = 1 then (far.mir, h) else (h, far.mir)) → List.map ofP (L.spl x far h) = (L.sp.map ofP).take (x / 1792 % ((L.sp.length : Int) + 1)).toNat ++ D.tup [ofH p.1, ofH p.2] :: (L.sp.map ofP).drop (x / 1792 % ((L.sp.length : Int) + 1)).toNat := by
    intro p hp
    unfold Lo.spl
    rw [← hp, ins_map]; simp [ins, ofP]
  have key := key _ rfl
  cases far with
  | tip fd fy fn =>
    simp at t1 t2
    cases fd <;> by_cases p1 : x / 448 % 2 = 1 <;> by_cases p2 : x / 896 % 2 = 1 <;> simp [p1] at key <;> simp at t1 t2 <;>
      refine ⟨_, by simp [step1, b_l_add_splice, hk, ha, hb', hc, he, z0, pi.2, gh, t1, t2, p1, p2, q0, q1, q2, q3, q4, q9, gset, n1, n2, n3, n4, n5, n6, n7, n8, n9, n10, m1, m2, m3, m4, m5, m6, m7, m8, m9, m10]; rfl, ⟨?_, ?_, ?_, ?_, ?_, nd⟩, by walk_at "grow"⟩ <;>
      simp [hk, ha, hb', hc, he, gset, key, n1, n2, n3, n4, n5, n6, n7, n8, n9, n10, m1, m2, m3, m4, m5, m6, m7, m8, m9, m10]
  | knot w l r =>
    simp at t1 t2
    cases w <;> cases good <;> by_cases p1 : x / 448 % 2 = 1 <;> by_cases p2 : x / 896 % 2 = 1 <;> simp [p1] at key <;> simp at t1 t2 <;>
      refine ⟨_, by simp [step1, b_l_add_splice, hk, ha, hb', hc, he, z0, pi.2, gh, t1, t2, p1, p2, q0, q1, q2, q3, q4, q6, q7, q8, q9, gi, hm, gset, n1, n2, n3, n4, n5, n6, n7, n8, n9, n10, m1, m2, m3, m4, m5, m6, m7, m8, m9, m10]; rfl, ⟨?_, ?_, ?_, ?_, ?_, nd⟩, by walk_at "grow"⟩ <;>
      simp [hk, ha, hb', hc, he, gset, key, p2, ins_map, ins, List.map_take, List.map_drop, n1, n2, n3, n4, n5, n6, n7, n8, n9, n10, m1, m2, m3, m4, m5, m6, m7, m8, m9, m10]
end Nl
/-! Q1: plain data: when == may be asked, what it says -/
namespace Nl
open PySem Sm
/-- plain data of at most this depth -/
structure Lay (d : D) (n : Nat) : Prop where
  ok : okD d = true
  lay : (pyD d).canLay0 = true
  dep : (pyD d).depth ≤ n
theorem Lay.fit {d : D} {n : Nat} (h : Lay d n) (hn : n ≤ 64) : fit d = true := by
  show (okD d && SeqAt.shaped (pyD d)) = true
  simp [h.ok, SeqAt.shaped, h.lay, Nat.le_trans h.dep hn]
theorem Lay.mono {d : D} {n m : Nat} (h : Lay d n) (hn : n ≤ m) : Lay d m := ⟨h.ok, h.lay, Nat.le_trans h.dep hn⟩
theorem lay_int (i : Int) (n : Nat) : Lay (.int i) n := ⟨by simp [okD], by simp [pyD, PyData.canLay0], by simp [pyD, PyData.depth]⟩
theorem lay_str {x : Str} (h : PyData.strOk x = true) (n : Nat) : Lay (.str x) n := ⟨by simp [okD], by simp [pyD, PyData.canLay0, h], by simp [pyD, PyData.depth]⟩
theorem lay_all : ∀ {ds : List D} {n : Nat}, (∀ d ∈ ds, Lay d n) → okL ds = true ∧ PyData.canLayAll0 (pyL ds) = true ∧ PyData.depthAll (pyL ds) ≤ n
  | [], n, _ => ⟨by simp [okL], by simp [pyL, PyData.canLayAll0], by simp [pyL, PyData.depthAll]⟩
  | d :: ds, n, h => by
    have h1 := h d List.mem_cons_self
    have h2 := lay_all fun e he => h e (List.mem_cons_of_mem _ he)
    refine ⟨by simp [okL, h1.ok, h2.1], by simp [pyL, PyData.canLayAll0, h1.lay, h2.2.1], ?_⟩
    have := h1.dep
    have := h2.2.2
    simp [pyL, PyData.depthAll]; omega
theorem lay_tup {ds : List D} {n : Nat} (h : ∀ d ∈ ds, Lay d n) : Lay (.tup ds) (n + 1) := by
  obtain ⟨h1, h2, h3⟩ := lay_all h
  exact ⟨by simp [okD, h1], by simp [pyD, PyData.canLay0, h2], by simp [pyD, PyData.depth]; exact h3⟩
theorem lay_lst {ds : List D} {n : Nat} (h : ∀ d ∈ ds, Lay d n) : Lay (.lst ds) (n + 1) := by
  obtain ⟨h1, h2, h3⟩ := lay_all h
  exact ⟨by simp [okD, h1], by simp [pyD, PyData.canLay0, h2], by simp [pyD, PyData.depth]; exact h3⟩
theorem eqD_tup (xs ys : List D) : eqD (.tup xs) (.tup ys) = PyData.eqvAll (pyL xs) (pyL ys) := by
  show PyData.eqv (pyD (.tup xs)) (pyD (.tup ys)) = _
  simp [pyD, PyData.eqv]
theorem eqD_lst (xs ys : List D) : eqD (.lst xs) (.lst ys) = PyData.eqvAll (pyL xs) (pyL ys) := by
  show PyData.eqv (pyD (.lst xs)) (pyD (.lst ys)) = _
  simp [pyD, PyData.eqv]
theorem eqA_nil : PyData.eqvAll (pyL []) (pyL []) = true := by simp [pyL, PyData.eqvAll]
theorem eqA_cons (x y : D) (xs ys : List D) : PyData.eqvAll (pyL (x :: xs)) (pyL (y :: ys)) = (eqD x y && PyData.eqvAll (pyL xs) (pyL ys)) := by
  show PyData.eqvAll (pyL (x :: xs)) (pyL (y :: ys)) = (PyData.eqv (pyD x) (pyD y) && _)
  simp [pyL, PyData.eqvAll]
theorem eqA_nc (y : D) (ys : List D) : PyData.eqvAll (pyL []) (pyL (y :: ys)) = false := by simp [pyL, PyData.eqvAll]
theorem eqA_cn (y : D) (ys : List D) : PyData.eqvAll (pyL (y :: ys)) (pyL []) = false := by simp [pyL, PyData.eqvAll]
/-- an injection whose == is = -/
def EqF {A : Type} [DecidableEq A] (f : A → D) : Prop := ∀ a b, eqD (f a) (f b) = decide (a = b)
theorem eqA_map {A : Type} [DecidableEq A] {f : A → D} (h : EqF f) : ∀ xs ys : List A, PyData.eqvAll (pyL (xs.map f)) (pyL (ys.map f)) = decide (xs = ys)
  | [], [] => by simp [eqA_nil]
  | [], y :: ys => by simp [eqA_nc]
  | x :: xs, [] => by simp [eqA_cn]
  | x :: xs, y :: ys => by
    rw [List.map_cons, List.map_cons, eqA_cons, h x y, eqA_map h xs ys]
    by_cases h1 : x = y <;> by_cases h2 : xs = ys <;> simp [h1, h2]
theorem eq_lstF {A : Type} [DecidableEq A] {f : A → D} (h : EqF f) (xs ys : List A) : eqD (.lst (xs.map f)) (.lst (ys.map f)) = decide (xs = ys) := by rw [eqD_lst, eqA_map h]
theorem tw_inj {a b : Bool} (h : tw a = tw b) : a = b := by cases a <;> cases b <;> simp at h <;> rfl
theorem kw_inj {a b : Bool} (h : kw a = kw b) : a = b := by cases a <;> cases b <;> simp at h <;> rfl
theorem tw_kw (a b : Bool) : tw a ≠ kw b := by cases a <;> cases b <;> simp
theorem eqF_H : EqF ofH := by
  intro a
  induction a with
  | tip d y n =>
    intro b
    cases b with
    | tip d' y' n' =>
      simp only [ofH, eqD_tup, eqA_cons, eqA_nil, eqD_str, eqD_int, Hg.tip.injEq]
      by_cases h1 : d = d'
      · by_cases h2 : y = y' <;> by_cases h3 : n = n' <;> simp [h1, h2, h3]
      · have : ¬ tw d = tw d' := fun h => h1 (tw_inj h)
        simp [h1, this]
    | knot k l r =>
      simp only [ofH, eqD_tup, eqA_cons, eqD_str]
      simp [tw_kw]
  | knot k l r hl hr =>
    intro b
    cases b with
    | tip d' y' n' =>
      simp only [ofH, eqD_tup, eqA_cons, eqD_str]
      simp [(tw_kw _ _).symm]
    | knot k' l' r' =>
      simp only [ofH, eqD_tup, eqA_cons, eqA_nil, eqD_str, hl l', hr r', Hg.knot.injEq]
      by_cases h1 : k = k'
      · by_cases h2 : l = l' <;> by_cases h3 : r = r' <;> simp [h1, h2, h3]
      · have : ¬ kw k = kw k' := fun h => h1 (kw_inj h)
        simp [h1, this]
namespace Hg
/-- something holds of each tip -/
def All (P : Bool → Str → Int → Prop) : Hg → Prop
  | tip d y n => P d y n
  | knot _ l r => l.All P ∧ r.All P
theorem All.mono {P Q : Bool → Str → Int → Prop} (h : ∀ d y n, P d y n → Q d y n) : ∀ {g : Hg}, g.All P → g.All Q
  | tip _ _ _, p => h _ _ _ p
  | knot _ _ _, p => ⟨p.1.mono h, p.2.mono h⟩
end Hg
/-- dyes and numbers within the document's bounds -/
abbrev Hg.Fine (h : Hg) : Prop := h.All fun _ y n => IsDye y ∧ 0 ≤ n ∧ n < 10 ^ 30
theorem dye_ok {y : Str} (h : IsDye y) : PyData.strOk y = true := by
  unfold PyData.strOk
  rw [Array.all_eq_true']
  intro x hx
  have := h.2.2 x (by simpa using hx)
  simp; omega
theorem tw_ok (b : Bool) : PyData.strOk (tw b) = true := by cases b <;> decide +kernel
theorem kw_ok (b : Bool) : PyData.strOk (kw b) = true := by cases b <;> decide +kernel
theorem lay_H : ∀ {h : Hg}, h.Fine → Lay (ofH h) (h.depth + 1)
  | .tip d y n, p => lay_tup fun z hz => by
    simp at hz
    rcases hz with rfl | rfl | rfl
    · exact lay_str (tw_ok d) _
    · exact lay_str (dye_ok p.1) _
    · exact lay_int _ _
  | .knot k l r, p => lay_tup fun z hz => by
    simp at hz
    rcases hz with rfl | rfl | rfl
    · exact lay_str (kw_ok k) _
    · exact (lay_H p.1).mono (by simp only [Hg.depth]; omega)
    · exact (lay_H p.2).mono (by simp only [Hg.depth]; omega)
theorem lay_map {A : Type} {f : A → D} {l : List A} {n : Nat} (h : ∀ a ∈ l, Lay (f a) n) : Lay (.lst (l.map f)) (n + 1) := lay_lst fun z hz => by
  obtain ⟨a, ha, rfl⟩ := List.mem_map.mp hz
  exact h a ha
/-- == of data laid out by an injection -/
theorem oEq_lay {A : Type} [DecidableEq A] {f : A → D} (he : EqF f) {a b : A} {n m : Nat} (h1 : Lay (f a) n) (h2 : Lay (f b) m) (hn : n ≤ 64) (hm : m ≤ 64) {S : Store} {d e : D} (hd : deref S d = f a) (hf : deref S e = f b) : oEq S d e = .ok (.bl (decide (a = b))) S := by
  rw [oEq_fit (by rw [hd]; exact h1.fit hn) (by rw [hf]; exact h2.fit hm), hd, hf, he]
theorem oNe_lay {A : Type} [DecidableEq A] {f : A → D} (he : EqF f) {a b : A} {n m : Nat} (h1 : Lay (f a) n) (h2 : Lay (f b) m) (hn : n ≤ 64) (hm : m ≤ 64) {S : Store} {d e : D} (hd : deref S d = f a) (hf : deref S e = f b) : oNe S d e = .ok (.bl (!decide (a = b))) S := by
  rw [oNe_fit (by rw [hd]; exact h1.fit hn) (by rw [hf]; exact h2.fit hm), hd, hf, he]
@[simp] theorem dr_cell (S : Store) (n : Nat) : deref S (.cell n) = match kSeqL (S[n]?) with
    | some ds => .lst ds
    | none => .cell n := by
  show (match seqL S (.cell n) with
    | some ds => D.lst ds
    | none => .cell n) = _
  rw [seqL_cell]
end Nl
/-! Q2: places and permutations -/
namespace Nl
open PySem Sm
theorem sel_range {A : Type} (l : List A) : sel l (List.range l.length) = l := by
  induction l with
  | nil => rfl
  | cons a l ih =>
    unfold sel at *
    rw [List.length_cons, List.range_succ_eq_map, List.filterMap_cons, List.filterMap_map]
    have : ((fun k => (a :: l)[k]?) ∘ Nat.succ) = fun k => l[k]? := by funext k; simp
    rw [this, ih]; rfl
theorem keep_perm {n i j : Nat} (h : i ≠ j) (hi : i < n) (hj : j < n) : (List.range n).Perm (i :: j :: keep n i j) := by
  have nd : (List.range n).Nodup := List.nodup_range
  have h1 := List.perm_cons_erase (List.mem_range.mpr hi)
  rw [nd.erase_eq_filter] at h1
  have nd2 : ((List.range n).filter (· != i)).Nodup := nd.filter (· != i)
  have h2 := List.perm_cons_erase (show j ∈ (List.range n).filter (· != i) by simp [hj]; exact fun e => h e.symm)
  rw [nd2.erase_eq_filter, List.filter_filter] at h2
  have e : (List.range n).filter (fun a => a != j && a != i) = keep n i j := by
    unfold keep
    congr 1
    funext q
    by_cases h1 : q = i <;> by_cases h2 : q = j <;> simp [h1, h2]
  rw [e] at h2
  exact h1.trans (h2.cons i)
theorem sel_perm {A : Type} {l : List A} {i j : Nat} {a b : A} (h : i ≠ j) (ha : l[i]? = some a) (hb : l[j]? = some b) : l.Perm (a :: b :: sel l (keep l.length i j)) := by
  have h1 := (keep_perm h (lt_of_get ha) (lt_of_get hb)).filterMap (fun k => l[k]?)
  have h2 : (List.range l.length).filterMap (fun k => l[k]?) = l := sel_range l
  rw [h2, List.filterMap_cons, ha, List.filterMap_cons, hb] at h1
  exact h1
theorem ins_perm {A : Type} (l : List A) (p : Nat) (a : A) : (ins l p a).Perm (a :: l) := by
  unfold ins
  rw [List.append_assoc]
  have : (l.take p ++ ([a] ++ l.drop p)).Perm (a :: (l.take p ++ l.drop p)) := List.perm_middle
  rwa [List.take_append_drop] at this
theorem set_perm {A : Type} {l : List A} {i : Nat} {a b : A} (h : l[i]? = some a) : (a :: l.set i b).Perm (b :: l) := by
  induction l generalizing i with
  | nil => simp at h
  | cons x l ih =>
    cases i with
    | zero => simp at h; subst h; exact List.Perm.swap _ _ _
    | succ i =>
      simp at h
      have := ih h
      exact ((List.Perm.swap _ _ _).trans (this.cons x)).trans (List.Perm.swap _ _ _)
/-- all of a loft's tips' number -/
def nts (l : List Hg) : Nat := (l.map Hg.nt).sum
theorem nts_perm {l m : List Hg} (h : l.Perm m) : nts l = nts m := (h.map Hg.nt).sum_nat
theorem nts_cons (h : Hg) (l : List Hg) : nts (h :: l) = h.nt + nts l := by simp [nts]
theorem nts_app (l m : List Hg) : nts (l ++ m) = nts l + nts m := by simp [nts]
theorem nts_mem {l : List Hg} {h : Hg} (m : h ∈ l) : h.nt ≤ nts l := by
  induction l with
  | nil => cases m
  | cons x l ih =>
    rw [nts_cons]
    rcases List.mem_cons.mp m with rfl | m
    · omega
    · have := ih m; omega
theorem nts_len (l : List Hg) : l.length ≤ nts l := by
  induction l with
  | nil => exact Nat.le_refl _
  | cons x l ih => rw [nts_cons, List.length_cons]; have := x.nt_pos; omega
theorem depth_nt (h : Hg) : h.depth < h.nt := by
  induction h with
  | tip _ _ _ => exact Nat.one_pos
  | knot k l r a b => simp only [Hg.nt_knot, Hg.depth]; have := l.nt_pos; have := r.nt_pos; omega
theorem nts_set {l : List Hg} {i : Nat} {a b : Hg} (h : l[i]? = some a) (e : a.nt = b.nt) : nts (l.set i b) = nts l := by
  have := nts_perm (set_perm (b := b) h)
  rw [nts_cons, nts_cons] at this; omega
end Nl
/-! P8: the law's loft, whole -/
namespace Nl
open PySem Sm
variable {T : Nat → Option Body}
theorem forV_cons {tg : List Nat} {body : MS} {d : List D} {ds : List (List D)} {ρ r : Sm.Env} {S S' : Store} (h : body (setAll tg d ρ) S = .ok (.nx r) S') : forV tg body (d :: ds) ρ S = forV tg body ds r S' := by
  show (match body (setAll tg d ρ) S with
    | .ok (.nx r) S2 => forV tg body ds r S2
    | .ok (.ct r) S2 => forV tg body ds r S2
    | .ok (.bk r) S2 => .ok (.nx r) S2
    | r => r) = _
  rw [h]
/-- a loop over a list, each turn goes on; the turn's number is known -/
theorem forV_idx {A St : Type} {tg : List Nat} {body : MS} (inj : A → D) (step : St → A → St) (xs : List A) (I : Nat → St → Sm.Env → Store → Prop)
    (h : ∀ i st x ρ S, xs[i]? = some x → I i st ρ S → ∃ r S', body (setAll tg [inj x] ρ) S = .ok (.nx r) S' ∧ I (i + 1) (step st x) r S') {st : St} {ρ : Sm.Env} {S : Store} (h0 : I 0 st ρ S) :
    ∃ r S', forV tg body (xs.map fun x => [inj x]) ρ S = .ok (.nx r) S' ∧ I xs.length (xs.foldl step st) r S' := by
  have key : ∀ (ys : List A) (i : Nat) (st : St) (ρ : Sm.Env) (S : Store), xs.drop i = ys → I i st ρ S → ∃ r S', forV tg body (ys.map fun x => [inj x]) ρ S = .ok (.nx r) S' ∧ I (i + ys.length) (ys.foldl step st) r S' := by
    intro ys
    induction ys with
    | nil => intro i st ρ S _ h0; exact ⟨ρ, S, rfl, h0⟩
    | cons y ys ih =>
      intro i st ρ S hd h0
      have e : xs[i]? = some y := by
        have := List.getElem?_drop (xs := xs) (i := i) (j := 0)
        rw [hd] at this; simpa using this.symm
      obtain ⟨r, S1, h1, h2⟩ := h i st y ρ S e h0
      have hd2 : xs.drop (i + 1) = ys := by rw [← List.drop_drop, hd]; rfl
      obtain ⟨r2, S2, h3, h4⟩ := ih (i + 1) (step st y) r S1 hd2 h2
      refine ⟨r2, S2, ?_, ?_⟩
      · rw [List.map_cons, forV_cons h1, h3]
      · rw [List.length_cons, List.foldl_cons, show i + (ys.length + 1) = i + 1 + ys.length by omega]; exact h4
  simpa using key xs 0 st ρ S rfl h0
theorem forV_z {A St : Type} {tg : List Nat} {body : MS} {inj : A → D} {xs : List A} {ρ : Sm.Env} {S : Store} {z : R Fl} (hz : forV tg body (xs.map fun x => [inj x]) ρ S = z) (step : St → A → St) (I : Nat → St → Sm.Env → Store → Prop) {st : St} (h0 : I 0 st ρ S)
    (h : ∀ i st x ρ S, xs[i]? = some x → I i st ρ S → ∃ r S', body (setAll tg [inj x] ρ) S = .ok (.nx r) S' ∧ I (i + 1) (step st x) r S') :
    ∃ r S', z = .ok (.nx r) S' ∧ I xs.length (xs.foldl step st) r S' := by
  obtain ⟨r, S', h1, h2⟩ := forV_idx inj step xs I h h0
  exact ⟨r, S', hz.symm.trans h1, h2⟩
/-! ### the steps -/
def Lo.step (good : Bool) (L : Lo) (x : Int) : Lo :=
  if x % 7 < 2 ∨ L.hs.length < 2 then L.cord x else if x % 7 = 6 ∧ (L.hs.getD (L.at (x / 7)) default).nt < 5 then L.splice x good else L.knot x good
structure Lo.Inv (n : Nat) (L : Lo) : Prop where
  m : L.ms.length = L.hs.length
  tot : nts L.hs ≤ 2 * n
  zs : L.sp.length ≤ n
  dsp : ∀ p ∈ L.sp, p.1.nt ≤ 4 ∧ p.2.nt ≤ 4
  fine : ∀ h ∈ L.hs, h.Fine
  fsp : ∀ p ∈ L.sp, p.1.Fine ∧ p.2.Fine
  bk : L.bk.Ok
  bn : L.bk.n ≤ 5 * n
theorem Lo.Inv.z {n : Nat} {L : Lo} (h : L.Inv n) : L.hs.length ≤ 2 * n := Nat.le_trans (nts_len _) h.tot
theorem Lo.Inv.nt {n : Nat} {L : Lo} (h : L.Inv n) : ∀ g ∈ L.hs, g.nt ≤ 2 * n := fun g hg => Nat.le_trans (nts_mem hg) h.tot
theorem Lo.Inv.dep {n : Nat} {L : Lo} (h : L.Inv n) : ∀ g ∈ L.hs, g.depth ≤ 2 * n := fun g hg => by have := h.nt g hg; have := depth_nt g; omega
theorem mem_ins {A : Type} {l : List A} {p : Nat} {a x : A} (h : x ∈ ins l p a) : x ∈ l ∨ x = a := by
  unfold ins at h
  simp at h
  rcases h with h | h | h
  · exact .inl (List.mem_of_mem_take h)
  · exact .inr h
  · exact .inl (List.mem_of_mem_drop h)
theorem mem_sel {A : Type} {l : List A} {ks : List Nat} {x : A} (h : x ∈ sel l ks) : x ∈ l := by
  unfold sel at h
  obtain ⟨k, _, hk⟩ := List.mem_filterMap.mp h
  exact List.mem_of_getElem? hk
theorem num_ok {b : Bk} (h : b.Ok) {k : Nat} (hk : k ≤ 1000) : 0 ≤ b.num k ∧ b.num k < 10 ^ 30 := by
  obtain ⟨⟨l1, l2⟩, s1, s2⟩ := h
  unfold Bk.num
  have f0 : 0 ≤ (k : Int) * 21 % 64 + 64 * ((k : Int) / 64) := by omega
  have f1 : (k : Int) * 21 % 64 + 64 * ((k : Int) / 64) ≤ 1063 := by omega
  generalize (k : Int) * 21 % 64 + 64 * ((k : Int) / 64) = f at *
  have m1 : 0 ≤ b.b1 * f := Int.mul_nonneg (Int.le_of_lt s1) f0
  have m2 : b.b1 * f ≤ 1000000007 * 1063 := Int.mul_le_mul s2 f1 f0 (by decide)
  generalize b.b1 * f = g at *
  constructor
  · omega
  · have : (10 : Int) ^ 30 = 10 * 10 ^ 29 := by decide
    omega
theorem fine_anew {b : Bk} (hb : b.Ok) : ∀ {h : Hg} {k : Nat}, h.Fine → k + h.nt ≤ 1000 → (h.anew b k).Fine
  | .tip d y n, k, p, hk => ⟨p.1, num_ok hb (by simp at hk; omega)⟩
  | .knot w l r, k, p, hk => by
    rw [Hg.nt_knot] at hk
    exact ⟨fine_anew hb p.1 (by omega), fine_anew hb p.2 (by omega)⟩
theorem fine_mir : ∀ {h : Hg}, h.Fine → h.mir.Fine
  | .tip d y n, p => p
  | .knot w l r, p => ⟨fine_mir p.1, fine_mir p.2⟩
theorem Lo.Inv.cord {n : Nat} {L : Lo} (h : L.Inv n) (hn : n ≤ 100) (x : Int) : (L.cord x).Inv (n + 1) := by
  have nk := num_ok h.bk (k := L.bk.n) (by have := h.bn; omega)
  obtain ⟨m, tot, zs, dsp, fine, fsp, bk, bn⟩ := h
  refine ⟨by simp [Lo.cord, m], ?_, Nat.le_succ_of_le zs, dsp, fun h hh => ?_, fsp, ⟨bk.lo, bk.step⟩, by simp [Lo.cord, Bk.up]; omega⟩
  · simp only [Lo.cord, nts_app, nts_cons, Hg.nt_tip]
    simp [nts] at *; omega
  · simp [Lo.cord] at hh
    rcases hh with hh | rfl | rfl
    · exact fine h hh
    · exact ⟨dyeS_ok _, nk⟩
    · exact ⟨dyeS_ok _, nk⟩
theorem Lo.Inv.tie {n : Nat} {L : Lo} (h : L.Inv n) {i j : Nat} {w : Bool} {a b : Hg} (hij : i ≠ j) (ha : L.hs[i]? = some a) (hb : L.hs[j]? = some b) {mi mj spot : Int} : (L.tie i j (.knot w a b) mi mj spot).Inv n := by
  obtain ⟨m, tot, zs, dsp, fine, fsp, bk, bn⟩ := h
  have s1 : (sel L.hs (keep L.hs.length i j)).length = (keep L.hs.length i j).length := sel_len fun q hq => keep_lt hq
  have s2 : (sel L.ms (keep L.hs.length i j)).length = (keep L.hs.length i j).length := sel_len fun q hq => by rw [m]; exact keep_lt hq
  refine ⟨by simp [Lo.tie, ins_len, s1, s2], ?_, zs, dsp, fun h hh => ?_, fsp, bk, bn⟩
  · have h1 := nts_perm (sel_perm hij ha hb)
    have h2 := nts_perm (ins_perm (sel L.hs (keep L.hs.length i j)) (L.spot i j spot) (.knot w a b))
    simp only [nts_cons, Hg.nt_knot] at h1 h2
    simp only [Lo.tie]; omega
  · rcases mem_ins hh with q | rfl
    · exact fine h (mem_sel q)
    · exact ⟨fine _ (List.mem_of_getElem? ha), fine _ (List.mem_of_getElem? hb)⟩
theorem Lo.Inv.mono {n m : Nat} {L : Lo} (h : L.Inv n) (hm : n ≤ m) : L.Inv m :=
  ⟨h.m, Nat.le_trans h.tot (by omega), Nat.le_trans h.zs hm, h.dsp, h.fine, h.fsp, h.bk, Nat.le_trans h.bn (by omega)⟩
theorem Lo.Inv.knot {n : Nat} {L : Lo} (h : L.Inv n) (x : Int) (good : Bool) (h2 : 2 ≤ L.hs.length) : (L.knot x good).Inv n :=
  h.tie (Lo.at2_ne h2 x) (getD_get (Lo.at_lt (by omega) _).1 _) (getD_get (Lo.at2_lt (by omega) _) _)
theorem Lo.Inv.splice {n : Nat} {L : Lo} (h : L.Inv n) (hn : n ≤ 100) (x : Int) (good : Bool) (h2 : 1 ≤ L.hs.length) (h5 : (L.hs.getD (L.at (x / 7)) default).nt < 5) : (L.splice x good).Inv (n + 1) := by
  obtain ⟨m, tot, zs, dsp, fine, fsp, bk, bn⟩ := h
  have hi := (Lo.at_lt (L := L) (by omega) (x / 7)).1
  have gh := getD_get hi default
  unfold Lo.splice
  simp only
  generalize hh0 : L.hs.getD (L.at (x / 7)) default = h0 at *
  have fh := fine h0 (List.mem_of_getElem? gh)
  have ff : (h0.anew L.bk L.bk.n).Fine := fine_anew bk fh (by omega)
  have nf : (h0.anew L.bk L.bk.n).nt = h0.nt := Hg.nt_anew _ _ _
  generalize h0.anew L.bk L.bk.n = far at *
  have sl : (L.spl x far h0).length ≤ n + 1 ∧ (∀ p ∈ L.spl x far h0, p.1.nt ≤ 4 ∧ p.2.nt ≤ 4) ∧ ∀ p ∈ L.spl x far h0, p.1.Fine ∧ p.2.Fine := by
    unfold Lo.spl
    refine ⟨by rw [ins_len]; omega, fun p hp => ?_, fun p hp => ?_⟩
    · rcases mem_ins hp with q | rfl
      · exact dsp p q
      · split <;> simp only [Hg.nt_mir] <;> omega
    · rcases mem_ins hp with q | rfl
      · exact fsp p q
      · split
        · exact ⟨fine_mir ff, fh⟩
        · exact ⟨fh, fine_mir ff⟩
  have bn2 : (L.bk.up h0.nt).n ≤ 5 * (n + 1) := by simp only [Bk.up]; omega
  cases far with
  | tip d y k =>
    refine ⟨by simp [m], by rw [nts_set gh nf.symm]; omega, sl.1, sl.2.1, fun h hh => ?_, sl.2.2, ⟨bk.lo, bk.step⟩, bn2⟩
    rcases List.mem_or_eq_of_mem_set hh with q | rfl
    · exact fine h q
    · exact ff
  | knot w l r =>
    simp only
    split
    · refine ⟨by simp [ins_len, m], ?_, sl.1, sl.2.1, fun h hh => ?_, sl.2.2, ⟨bk.lo, bk.step⟩, bn2⟩
      · have h1 := nts_perm (ins_perm (L.hs.set (L.at (x / 7)) l) (L.at (x / 7) + 1) r)
        have h3 := nts_perm (set_perm (b := l) gh)
        simp only [nts_cons, Hg.nt_knot] at h1 h3 nf
        simp only; omega
      · rcases mem_ins hh with q | rfl
        · rcases List.mem_or_eq_of_mem_set q with q | rfl
          · exact fine h q
          · exact ff.1
        · exact ff.2
    · refine ⟨by simp [m], by rw [nts_set gh nf.symm]; omega, sl.1, sl.2.1, fun h hh => ?_, sl.2.2, ⟨bk.lo, bk.step⟩, bn2⟩
      rcases List.mem_or_eq_of_mem_set hh with q | rfl
      · exact fine h q
      · exact ff
theorem Lo.Inv.step {n : Nat} {L : Lo} (h : L.Inv n) (hn : n ≤ 100) (x : Int) (good : Bool) : (L.step good x).Inv (n + 1) := by
  unfold Lo.step
  split
  · exact h.cord hn x
  next q =>
    split
    · next z => exact h.splice hn x good (by omega) z.2
    · exact (h.knot x good (by omega)).mono (by omega)
theorem nt_size {h : Hg} (hd : h.nt ≤ 1000) : h.nt ≤ sizeLine := Nat.le_trans hd (by decide)
def cellsI (ns : List Int) (i j : Nat) : List Int := ((ns.take j).drop i).map stirI
def loft0 (ns : List Int) (first : Nat) : Lo := ⟨[], [], [], bookOf (cellI ns first)⟩
def loftL (ns : List Int) (first most : Nat) (good : Bool) : Lo := (cellsI ns (first + 1) (first + 1 + most)).foldl (Lo.step good) (loft0 ns first)
theorem fold_inv (good : Bool) : ∀ (xs : List Int) (n : Nat) (L : Lo), n + xs.length ≤ 100 → L.Inv n → (xs.foldl (Lo.step good) L).Inv (n + xs.length)
  | [], _, _, _, h => h
  | x :: xs, n, L, hl, h => by
    rw [List.length_cons] at hl
    rw [List.foldl_cons, List.length_cons, show n + (xs.length + 1) = n + 1 + xs.length by omega]
    exact fold_inv good xs (n + 1) _ (by omega) (h.step (by omega) x good)
theorem cellsI_len (ns : List Int) (i j : Nat) : (cellsI ns i j).length ≤ j - i := by
  unfold cellsI
  rw [List.length_map, List.length_drop, List.length_take]; omega
theorem loft0_inv (ns : List Int) (first : Nat) : (loft0 ns first).Inv 0 := ⟨rfl, by simp [loft0, nts], by simp [loft0], fun h hh => by simp [loft0] at hh, fun h hh => by simp [loft0] at hh, fun h hh => by simp [loft0] at hh, bookOf_ok _, by simp [loft0, bookOf]⟩
theorem loftL_inv (ns : List Int) (first most : Nat) (hm : most ≤ 60) (good : Bool) : (loftL ns first most good).Inv most := by
  have := cellsI_len ns (first + 1) (first + 1 + most)
  exact (fold_inv good _ 0 _ (by omega) (loft0_inv ns first)).mono (by omega)
/-! ### the loft -/
theorem e_loft (c : LoftFns T) (ns : List Int) (first most : Nat) (good : Bool) (hm : most ≤ 20) {N : Nat} (hN : 60 ≤ N) (S : Store) : ∃ S1 k a b d e, LAt S1 k a b d e (loftL ns first most good) ∧ Grow S [] S1 [k, a, b, d, e] ∧
    (good = false → ev T N f_l_loft [.scr ns, .int first, .int most, .bl good] S = .ok (.cell k) S1) ∧
    (∀ S2, ev T (N - 1) f_l_close [.cell k, .int (cellI ns first)] S1 = .ok .non S2 → good = true → ev T N f_l_loft [.scr ns, .int first, .int most, .bl good] S = .ok (.cell k) S2) := by
  obtain ⟨n, rfl, _⟩ := two_up 58 (N := N) hN
  rw [ev_s c.loft]
  have t1 : ∀ S, ev T (n + 1) f_l_cell [.scr ns, .int first] S = .ok (.int (cellI ns first)) S := fun S => e_cell c.stir c.cell ns first (by omega) S
  have t2 := fun S => e_book c.book (cellI ns first) (N := n + 1) (by omega) S
  have t3 : ∀ S, ev T (n + 1) f_l_cells [.scr ns, .int (first + 1), .int (first + 1 + most)] S = .ok (.lst ((cellsI ns (first + 1) (first + 1 + most)).map D.int)) S := fun S => e_cells c.stir c.cells ns (first + 1) (first + 1 + most) (N := n + 1) (by omega) S
  simp [step1, b_l_loft, t1, t2]
  rw [for_src (src := [.lst ((cellsI ns (first + 1) (first + 1 + most)).map D.int)]) (by simp [t3]; rfl) (fun S => itA_lst _ S), ones_map]
  have cl := cellsI_len ns (first + 1) (first + 1 + most)
  generalize hS0 : S ++ [_, _, _, _, _] = S0
  have l0 : LAt S0 (S.length + 4) S.length (S.length + 1) (S.length + 2) (S.length + 3) (loft0 ns first) := by
    subst hS0
    refine ⟨?_, ?_, ?_, ?_, ?_, by simp⟩ <;> simp [loft0]
  have g0 : Grow S [] S0 [S.length + 4, S.length, S.length + 1, S.length + 2, S.length + 3] := by
    subst hS0
    refine ⟨by simp, fun j hj _ => List.getElem?_append_left hj, fun j hj => ?_⟩
    simp at hj; omega
  generalize hxs : cellsI ns (first + 1) (first + 1 + most) = xs at *
  generalize hz : forV [5] _ _ _ _ = z
  obtain ⟨r, S1, h1, iv, ⟨o, rfl⟩, a, b, l1, g1⟩ := forV_z hz (Lo.step good) (fun i L ρ S1 => L.Inv i ∧ (∃ o, ρ = [some (.scr ns), some (.int first), some (.int most), some (.bl good), some (.cell (S.length + 4)), o]) ∧
      ∃ a b, LAt S1 (S.length + 4) a b (S.length + 2) (S.length + 3) L ∧ Grow S [] S1 [S.length + 4, a, b, S.length + 2, S.length + 3]) (st := loft0 ns first) ⟨loft0_inv ns first, ⟨none, rfl⟩, _, _, l0, g0⟩
    (by
      rintro i L x ρ S1 hx ⟨iv, ⟨o, rfl⟩, a, b, l, g⟩
      have hi := lt_of_get hx
      have z := iv.z
      have mm := iv.m
      have sp := iv.zs
      have iv2 := iv.step (by omega) x good
      by_cases q1 : x % 7 < 2 ∨ L.hs.length < 2
      · obtain ⟨S', e1, l', g'⟩ := e_add_cord c l iv.bk (by omega) (by omega) x (N := n + 1) (by omega)
        refine ⟨[some (.scr ns), some (.int first), some (.int most), some (.bl good), some (.cell (S.length + 4)), some (.int x)], S', ?_, iv2, ⟨_, rfl⟩, a, b, by unfold Lo.step; rw [if_pos q1]; exact l', g.trans g'⟩
        by_cases q2 : x % 7 < 2
        · simp [setAll, q2, e1]
        · have q3 : (L.hs.length : Int) < 2 := by omega
          simp [setAll, q2, q3, e1, l.hk, l.ha]
      · have q2 : ¬ x % 7 < 2 := by omega
        have q3 : ¬ (L.hs.length : Int) < 2 := by omega
        have q4 : 0 < L.hs.length := by omega
        have pi := Lo.at_lt (L := L) q4 (x / 7)
        obtain ⟨h, gh, eh⟩ : ∃ h, L.hs[L.at (x / 7)]? = some h ∧ L.hs.getD (L.at (x / 7)) default = h := ⟨_, getD_get pi.1 default, rfl⟩
        have hh := List.mem_of_getElem? gh
        have dh := iv.dep h hh
        have nh := iv.nt h hh
        have t4 := e_l_tips c.is_tip c.tips h (N := n + 1) (by omega) (nt_size (by omega)) S1
        by_cases q5 : x % 7 = 6
        · by_cases q6 : h.nt < 5
          · obtain ⟨S', e1, l', g'⟩ := e_add_splice c l iv.bk (by omega) (by omega) iv.m (by omega) x good (D0 := 2 * i) iv.dep (N := n + 1) (by omega)
            refine ⟨[some (.scr ns), some (.int first), some (.int most), some (.bl good), some (.cell (S.length + 4)), some (.int x)], S', ?_, iv2, ⟨_, rfl⟩, a, b, by unfold Lo.step; rw [if_neg q1, eh, if_pos ⟨q5, q6⟩]; exact l', g.trans g'⟩
            have q6 : (h.tips.length : Int) < 5 := by unfold Hg.nt at q6; omega
            simp [setAll, q2, q3, q4, q5, q6, e1, l.hk, l.ha, pi.2, gh, t4, ofL]
          · obtain ⟨S', e1, a', b', l', g'⟩ := e_add_knot c l (by omega) iv.m (by omega) x good (N := n + 1) (by omega)
            refine ⟨[some (.scr ns), some (.int first), some (.int most), some (.bl good), some (.cell (S.length + 4)), some (.int x)], S', ?_, iv2, ⟨_, rfl⟩, a', b', by unfold Lo.step; rw [if_neg q1, eh, if_neg (fun z => q6 z.2)]; exact l', g.trans g'⟩
            have q6 : ¬ (h.tips.length : Int) < 5 := by unfold Hg.nt at q6; omega
            simp [setAll, q2, q3, q4, q5, q6, e1, l.hk, l.ha, pi.2, gh, t4, ofL]
        · obtain ⟨S', e1, a', b', l', g'⟩ := e_add_knot c l (by omega) iv.m (by omega) x good (N := n + 1) (by omega)
          refine ⟨[some (.scr ns), some (.int first), some (.int most), some (.bl good), some (.cell (S.length + 4)), some (.int x)], S', ?_, iv2, ⟨_, rfl⟩, a', b', by unfold Lo.step; rw [if_neg q1, eh, if_neg (fun z => q5 z.1)]; exact l', g.trans g'⟩
          simp [setAll, q2, q3, q4, q5, e1, l.hk, l.ha, pi.2, gh, t4, ofL])
  subst h1
  refine ⟨S1, S.length + 4, a, b, _, _, ?_, g1, fun hg => ?_, fun S2 h2 hg => ?_⟩
  · have e : xs.foldl (Lo.step good) (loft0 ns first) = loftL ns first most good := by unfold loftL; rw [hxs]
    rw [← e]; exact l1
  · subst hg; simp
  · subst hg; simp [t1, h2]
end Nl
/-! R1: the laws' defs about hangs -/
namespace Nl
open PySem Sm
variable {T : Nat → Option Body}
theorem e_l_whole (c : T f_l_whole = some b_l_whole) (i : Int) {N : Nat} (hN : 2 ≤ N) (S : Store) : ev T N f_l_whole [.int i] S = .ok (.bl true) S := by
  obtain ⟨n, rfl, _⟩ := two_up 0 (N := N) hN
  rw [ev_s c]
  simp [step1, b_l_whole]
theorem e_l_hang (c0 : T f_l_whole = some b_l_whole) (c : T f_l_hang = some b_l_hang) : ∀ (h : Hg) {N : Nat} (_ : h.depth + 3 ≤ N) (S : Store), ev T N f_l_hang [ofH h] S = .ok (.bl true) S
  | .tip d y k, N, hN, S => by
    obtain ⟨n, rfl, _⟩ := two_up 1 (N := N) (by omega)
    have t1 := e_l_whole c0 k (N := n + 1) (by omega) S
    rw [ev_s c]
    cases d <;> simp [step1, b_l_hang, t1]
  | .knot k l r, N, hN, S => by
    obtain ⟨n, rfl, hl, hr, _⟩ := dl 2 hN (by omega)
    have h1 := e_l_hang c0 c l (N := n + 1) (by omega) S
    have h2 := e_l_hang c0 c r (N := n + 1) (by omega) S
    rw [ev_s c]
    cases k <;> simp [step1, b_l_hang, h1, h2]
theorem e_l_bare (c0 : T f_l_is_tip = some b_l_is_tip) (c : T f_l_bare = some b_l_bare) : ∀ (h : Hg) {N : Nat} (_ : h.depth + 3 ≤ N) (S : Store), ev T N f_l_bare [ofH h] S = .ok (ofH h.bare) S
  | .tip d y k, N, hN, S => by
    obtain ⟨n, rfl, _⟩ := two_up 1 (N := N) (by omega)
    have t1 := e_l_is_tip c0 (.tip d y k) (N := n + 1) (by omega) S
    rw [ev_s c]
    simp at t1
    simp [step1, b_l_bare, t1, Hg.isTip, Hg.bare]
  | .knot k l r, N, hN, S => by
    obtain ⟨n, rfl, hl, hr, _⟩ := dl 2 hN (by omega)
    have t1 := e_l_is_tip c0 (.knot k l r) (N := n + 1) (by omega) S
    have h1 := e_l_bare c0 c l (N := n + 1) (by omega) S
    have h2 := e_l_bare c0 c r (N := n + 1) (by omega) S
    rw [ev_s c]
    simp at t1
    simp [step1, b_l_bare, t1, h1, h2, Hg.isTip, Hg.bare]
def Hg.mk : Hg → Nat
  | .tip _ _ _ => 0
  | .knot _ l r => 1 + l.mk + r.mk
theorem e_l_many_knots (c0 : T f_l_is_tip = some b_l_is_tip) (c : T f_l_many_knots = some b_l_many_knots) : ∀ (h : Hg) {N : Nat} (_ : h.depth + 3 ≤ N) (S : Store), ev T N f_l_many_knots [ofH h] S = .ok (.int h.mk) S
  | .tip d y k, N, hN, S => by
    obtain ⟨n, rfl, _⟩ := two_up 1 (N := N) (by omega)
    have t1 := e_l_is_tip c0 (.tip d y k) (N := n + 1) (by omega) S
    rw [ev_s c]
    simp at t1
    simp [step1, b_l_many_knots, t1, Hg.isTip, Hg.mk]
  | .knot k l r, N, hN, S => by
    obtain ⟨n, rfl, hl, hr, _⟩ := dl 2 hN (by omega)
    have t1 := e_l_is_tip c0 (.knot k l r) (N := n + 1) (by omega) S
    have h1 := e_l_many_knots c0 c l (N := n + 1) (by omega) S
    have h2 := e_l_many_knots c0 c r (N := n + 1) (by omega) S
    rw [ev_s c]
    simp at t1
    simp [step1, b_l_many_knots, t1, h1, h2, Hg.isTip, Hg.mk]
def Hg.turn : Hg → Int → Hg
  | .tip d y n, _ => .tip d y n
  | .knot k l r, i => if i < 0 ∨ ((Hg.knot k l r).mk : Int) ≤ i then .knot k l r else if i = 0 then .knot (!k) l r else .knot k (l.turn (i - 1)) (r.turn (i - 1 - l.mk))
theorem mk5 : L2.valV (L2.mergeK [] [(.inr "fast", .str "loose"), (.inr "loose", .str "fast")]) (.inr "fast") = some (.str "loose") := by decide +kernel
theorem mk6 : L2.valV (L2.mergeK [] [(.inr "fast", .str "loose"), (.inr "loose", .str "fast")]) (.inr "loose") = some (.str "fast") := by decide +kernel
theorem e_l_turned (c0 : T f_l_is_tip = some b_l_is_tip) (c1 : T f_l_many_knots = some b_l_many_knots) (c : T f_l_turned = some b_l_turned) : ∀ (h : Hg) (i : Int) {N : Nat} (_ : h.depth + 4 ≤ N) (S : Store), ev T N f_l_turned [ofH h, .int i] S = .ok (ofH (h.turn i)) S
  | .tip d y k, i, N, hN, S => by
    obtain ⟨n, rfl, _⟩ := two_up 2 (N := N) (by omega)
    have t1 := e_l_many_knots c0 c1 (.tip d y k) (N := n + 1) (by simp [Hg.depth]; omega) S
    rw [ev_s c]
    simp [Hg.mk] at t1
    by_cases q1 : i < 0
    · simp [step1, b_l_turned, q1, Hg.turn]
    · have q2 : 0 ≤ i := by omega
      simp [step1, b_l_turned, q1, q2, t1, Hg.turn]
  | .knot k l r, i, N, hN, S => by
    obtain ⟨n, rfl, hl, hr, _⟩ := dl 3 hN (by omega)
    have t1 := e_l_many_knots c0 c1 (.knot k l r) (N := n + 1) (by simp only [Hg.depth] at *; omega) S
    have t2 := e_l_many_knots c0 c1 l (N := n + 1) (by omega) S
    have h1 := e_l_turned c0 c1 c l (i - 1) (N := n + 1) (by omega) S
    have h2 := e_l_turned c0 c1 c r (i - 1 - l.mk) (N := n + 1) (by omega) S
    rw [ev_s c]
    rw [ofH_k] at t1
    by_cases q1 : i < 0
    · simp [step1, b_l_turned, q1, Hg.turn]
    · by_cases q2 : ((Hg.knot k l r).mk : Int) ≤ i
      · simp [step1, b_l_turned, q1, q2, t1, Hg.turn]
      · by_cases q3 : i = 0
        · have q4 : ∀ k, ¬ (Hg.knot k l r).mk = 0 := fun k => by simp only [Hg.mk]; omega
          subst q3; cases k <;> simp at t1 <;> simp [step1, b_l_turned, q4, t1, Hg.turn, oDisp, keyOf, mk5, mk6]
        · simp [step1, b_l_turned, q1, q2, q3, t1, t2, h1, h2, Hg.turn]
theorem tips_tip : ∀ {h g : Hg}, g ∈ h.tips → ∃ d y n, g = .tip d y n
  | .tip d y n, g, m => by simp [Hg.tips] at m; exact ⟨d, y, n, m⟩
  | .knot k l r, g, m => by
    simp [Hg.tips] at m
    rcases m with m | m
    · exact tips_tip m
    · exact tips_tip m
theorem fine_tips : ∀ {h g : Hg}, h.Fine → g ∈ h.tips → g.Fine
  | .tip d y n, g, p, m => by simp [Hg.tips] at m; subst m; exact p
  | .knot k l r, g, p, m => by
    simp [Hg.tips] at m
    rcases m with m | m
    · exact fine_tips p.1 m
    · exact fine_tips p.2 m
theorem fine_turn : ∀ {h : Hg} {i : Int}, h.Fine → (h.turn i).Fine
  | .tip d y n, i, p => p
  | .knot k l r, i, p => by
    unfold Hg.turn
    split
    · exact p
    split
    · exact p
    · exact ⟨fine_turn p.1, fine_turn p.2⟩
theorem deref_H (S : Store) (h : Hg) : deref S (ofH h) = ofH h := by cases h <;> rfl
theorem fine_bare : ∀ {h : Hg}, h.Fine → h.bare.Fine
  | .tip d y n, p => ⟨p.1, by decide, by decide⟩
  | .knot k l r, p => ⟨fine_bare p.1, fine_bare p.2⟩
theorem depth_bare : ∀ {h : Hg}, h.bare.depth = h.depth
  | .tip d y n => rfl
  | .knot k l r => by simp [Hg.bare, Hg.depth, depth_bare (h := l), depth_bare (h := r)]
theorem bare_mir : ∀ (h : Hg), h.mir.bare = h.bare.mir
  | .tip d y n => rfl
  | .knot k l r => by simp [Hg.bare, Hg.mir, bare_mir l, bare_mir r]
theorem mirs_symm (h g : Hg) : h.mirs g = g.mirs h := by
  rw [Hg.mirs_bare, Hg.mirs_bare]
  have : (h.mir.bare = g.bare) ↔ (g.mir.bare = h.bare) := by
    constructor
    · intro e; rw [bare_mir, ← e, bare_mir, Hg.mir_mir]
    · intro e; rw [bare_mir, ← e, bare_mir, Hg.mir_mir]
  simp [this]
end Nl
/-! R2: loops; the loft closed; two knots turned; three ways to a loft -/
namespace Nl
open PySem Sm
variable {T : Nat → Option Body}
/-! ### loops -/
theorem for_srcL {args : ML} {items : List D → Store → Option (List (List D))} {tg : List Nat} {body : MS} {ρ : Sm.Env} {S S1 : Store} {src : List D} {its : List (List D)} (h : args ρ S = .ok src S1) (hi : items src S1 = some its) :
    sFor args items tg body ρ S = forL (items src) its tg body its ρ S1 := by
  unfold sFor
  rw [h, bind_ok]
  simp only [hi]
open Classical in
theorem forL_z {A : Type} {items : Store → Option (List (List D))} {its : List (List D)} {tg : List Nat} {body : MS} {ρ : Sm.Env} {S : Store} {z : R Fl} (hz : forL items its tg body its ρ S = z) (inj : A → List D) (xs : List A) (hx : its = xs.map inj) (I : Nat → Sm.Env → Store → Prop)
    (h0 : I 0 ρ S) (hi : ∀ i ρ S, I i ρ S → items S = some its) (h : ∀ i x ρ S, xs[i]? = some x → I i ρ S → ∃ r S', body (setAll tg (inj x) ρ) S = .ok (.nx r) S' ∧ I (i + 1) r S') : ∃ r S', z = .ok (.nx r) S' ∧ I xs.length r S' := by
  have key : ∀ (ys : List A) (i : Nat) (ρ : Sm.Env) (S : Store), xs.drop i = ys → I i ρ S → ∃ r S', forL items its tg body (ys.map inj) ρ S = .ok (.nx r) S' ∧ I (i + ys.length) r S' := by
    intro ys
    induction ys with
    | nil =>
      intro i ρ S _ h0
      refine ⟨ρ, S, ?_, h0⟩
      rw [List.map_nil]; unfold forL; rw [if_pos (hi _ _ _ h0)]
    | cons y ys ih =>
      intro i ρ S hd h0
      have e : xs[i]? = some y := by
        have := List.getElem?_drop (xs := xs) (i := i) (j := 0)
        rw [hd] at this; simpa using this.symm
      obtain ⟨r, S1, h1, h2⟩ := h i y ρ S e h0
      have hd2 : xs.drop (i + 1) = ys := by rw [← List.drop_drop, hd]; rfl
      obtain ⟨r2, S2, h3, h4⟩ := ih (i + 1) r S1 hd2 h2
      refine ⟨r2, S2, ?_, ?_⟩
      · rw [List.map_cons]; unfold forL
        rw [if_pos (hi _ _ _ h0), h1]
        exact h3
      · rw [List.length_cons, show i + (ys.length + 1) = i + 1 + ys.length by omega]; exact h4
  obtain ⟨r, S', h1, h2⟩ := key xs 0 ρ S rfl h0
  refine ⟨r, S', ?_, by simpa using h2⟩
  rw [← hz]
  rw [← hx] at h1
  exact h1
theorem while_z {c : ME} {b : MS} {fuel : Nat} {ρ : Sm.Env} {S : Store} {z : R Fl} (hz : whileN c b fuel ρ S = z) (I : Nat → Sm.Env → Store → Prop) (P : Sm.Env → Store → Prop) {m : Nat} (hm : m < fuel) (h0 : I m ρ S)
    (h : ∀ m ρ S, I m ρ S → (∃ S1, c ρ S = .ok (.bl false) S1 ∧ P ρ S1) ∨ (∃ S1 r S2 m', c ρ S = .ok (.bl true) S1 ∧ b ρ S1 = .ok (.nx r) S2 ∧ m' < m ∧ I m' r S2)) : ∃ r S', z = .ok (.nx r) S' ∧ P r S' := by
  subst hz
  induction fuel generalizing m ρ S with
  | zero => omega
  | succ k ih =>
    rcases h m ρ S h0 with ⟨S1, h1, h2⟩ | ⟨S1, r, S2, m', h1, h2, h3, h4⟩
    · refine ⟨ρ, S1, ?_, h2⟩
      unfold whileN
      rw [h1]; rfl
    · obtain ⟨r2, S3, h5, h6⟩ := ih (by omega) h4
      refine ⟨r2, S3, ?_, h6⟩
      unfold whileN
      rw [h1]
      simp only [bind_ok, h2]
      exact h5
theorem enum_map {A : Type} (f : A → D) : ∀ (l : List A) (k : Nat), enumFrom k (l.map f) = (l.zipIdx k).map fun p => [D.int p.2, f p.1]
  | [], _ => rfl
  | a :: l, k => by rw [List.map_cons, List.zipIdx_cons, List.map_cons, ← enum_map f l (k + 1)]; rfl
theorem zip_at {A : Type} {l : List A} {i : Nat} {p : A × Nat} (h : l.zipIdx[i]? = some p) : l[i]? = some p.1 ∧ p.2 = i := by
  rw [List.getElem?_zipIdx] at h
  cases q : l[i]? with
  | none => rw [q] at h; cases h
  | some a => rw [q] at h; cases h; simp
@[simp] theorem itE_lst (ds : List D) (S : Store) : itemsE [.lst ds] S = some (enumFrom 0 ds) := rfl
@[simp] theorem itE_cell (n : Nat) (S : Store) : itemsE [.cell n] S = (kSeqL (S[n]?)).map (enumFrom 0) := by rw [← seqL_cell]; rfl
/-! ### the loft closed -/
structure Kept (Pr : Lo → Prop) : Prop where
  cord : ∀ L x, Pr L → Pr (L.cord x)
  tie : ∀ L i j a b mi mj spot, Pr L → i ≠ j → L.hs[i]? = some a → L.hs[j]? = some b → L.ms[i]? = some mi → L.ms[j]? = some mj → Pr (L.tie i j (.knot false a b) mi mj spot)
def Lo.spare (L : Lo) : List Nat := (List.range L.hs.length).filter fun k => decide (L.ms[k]? ≠ L.ms[0]?)
theorem tie_len {L : Lo} {i j : Nat} (hij : i ≠ j) {a b h : Hg} (ha : L.hs[i]? = some a) (hb : L.hs[j]? = some b) {mi mj spot : Int} : (L.tie i j h mi mj spot).hs.length + 1 = L.hs.length := by
  have h1 := (sel_perm hij ha hb).length_eq
  simp only [Lo.tie, ins_len]
  simp at h1; omega
theorem LAt.emp {S : Store} {k a b d e : Nat} {L : Lo} (l : LAt S k a b d e L) {n : Nat} (iv : L.Inv n) (hn : n ≤ 25) : oEq S (.cell a) (.lst []) = .ok (.bl (decide (L.hs = []))) S := by
  have lay := lay_map (f := ofH) (l := L.hs) (n := 60) fun h hh => (lay_H (iv.fine h hh)).mono (by have := iv.dep h hh; omega)
  have ll : Lay (.lst (([] : List Hg).map ofH)) 1 := lay_lst (n := 0) fun z hz => by simp at hz
  exact oEq_lay (A := List Hg) (f := fun l => .lst (l.map ofH)) (fun x y => eq_lstF eqF_H x y) lay ll (by decide) (by decide) (S := S) (d := .cell a) (e := .lst []) (by simp [l.ha]) (by simp)
theorem ne_ints (S : Store) (ks : List Nat) : oNe S (.lst (ks.map fun q : Nat => D.int q)) (.lst []) = .ok (.bl (!decide (ks = []))) S := by
  have lay := lay_map (f := fun q : Nat => D.int q) (l := ks) (n := 1) fun h hh => lay_int _ _
  have ll : Lay (.lst (([] : List Nat).map fun q : Nat => D.int q)) 1 := lay_lst (n := 0) fun z hz => by simp at hz
  have ef : EqF (fun q : Nat => D.int q) := fun a b => by rw [eqD_int]; simp [Int.ofNat_inj]
  exact oNe_lay (A := List Nat) (f := fun l => .lst (l.map fun q : Nat => D.int q)) (fun x y => eq_lstF ef x y) lay ll (by decide) (by decide) (S := S) (d := .lst (ks.map fun q : Nat => D.int q)) (e := .lst []) rfl rfl
theorem e_close (c : LoftFns T) {Pr : Lo → Prop} (kp : Kept Pr) {S : Store} {k a b d e : Nat} {L : Lo} (l : LAt S k a b d e L) {n : Nat} (iv : L.Inv n) (hn : n ≤ 20) (hp : Pr L) (x : Int) {N : Nat} (hN : 10 ≤ N) :
    ∃ S', ev T N f_l_close [.cell k, .int x] S = .ok .non S' ∧ ∃ a' b' L', LAt S' k a' b' d e L' ∧ Grow S [k, a, b, d, e] S' [k, a', b', d, e] ∧ L'.Inv (n + 1) ∧ Pr L' ∧ L'.spare = [] ∧ L'.hs ≠ [] := by
  obtain ⟨N, rfl, _⟩ := two_up 8 (N := N) (by omega)
  rw [ev_s c.close]
  have z := iv.z
  have mm := iv.m
  -- the first statement
  obtain ⟨S1, L1, l1, g1, iv1, hp1, hne, h1⟩ : ∃ S1 L1, LAt S1 k a b d e L1 ∧ Grow S [k, a, b, d, e] S1 [k, a, b, d, e] ∧ L1.Inv (n + 1) ∧ Pr L1 ∧ L1.hs ≠ [] ∧
      (sIf (m2 (oEq) (m2 oIx (mV 0) (mC (.int 0))) (mN (oLst false) (mNil))) (sDrop (mN (fun S ds => ev T (N + 1) f_l_add_cord ds S) (mCons (mV 0) (mCons (mV 1) (mNil))))) (sNil)) [some (.cell k), some (.int x), none, none] S = .ok (.nx [some (.cell k), some (.int x), none, none]) S1 := by
    have q := l.emp iv (by omega)
    by_cases he : L.hs = []
    · have z : L.hs.length = 0 := by rw [he]; rfl
      obtain ⟨S2, e2, l2, g2⟩ := e_add_cord c l iv.bk (by omega) (by omega) x (N := N + 1) (by omega)
      exact ⟨S2, _, l2, g2, iv.cord (by omega) x, kp.cord _ _ hp, by simp [Lo.cord], by simp [l.hk, q, he, e2]⟩
    · exact ⟨S, L, l, Grow.refl _ _, iv.mono (by omega), hp, he, by simp [l.hk, q, he]⟩
  simp [step1, b_l_close, -x_if]
  rw [h1]
  simp
  -- which are spare
  have sp : ∀ (ρ : Sm.Env) (S : Store) (a b : Nat) (L : Lo), LAt S k a b d e L → L.Inv (n + 1) → L.hs ≠ [] → ρ[0]? = some (some (.cell k)) → ρ.length = 4 →
      mComp false (mCons (mN oLen (mCons (m2 oIx (mV 0) (mC (.int 0))) mNil)) mNil) itemsR [3] [3] (m2 oNe (m2 oIx (m2 oIx (mV 0) (mC (.int 1))) (mV 3)) (m2 oIx (m2 oIx (mV 0) (mC (.int 1))) (mC (.int 0)))) (mV 3) ρ S = .ok (.lst (L.spare.map fun q : Nat => D.int q)) S := by
    intro ρ S a b L l iv hne h0 hl
    have z := iv.z
    have mm := iv.m
    match ρ, h0, hl with
    | [r0, r1, r2, r3], h0, _ =>
      have h0 : r0 = some (.cell k) := by simpa using h0
      subst h0
      have hm0 : 0 < L.ms.length := by rw [mm]; exact List.length_pos_iff.mpr hne
      rw [comp_ones (List.range L.hs.length) (fun q : Nat => D.int q) (S1 := S) (src := [.int L.hs.length]) (by simp [l.hk, l.ha]) (it_r1 (sz (by omega)) S) (fun q => decide (L.ms[q]? ≠ L.ms[0]?)) (fun q => .int q)
        (fun q hq => by
          have hq : q < L.ms.length := by rw [mm]; exact List.mem_range.mp hq
          have e1 := List.getElem?_eq_getElem hq
          have e2 := List.getElem?_eq_getElem hm0
          have e3 : L2.atI (L.ms.map D.int) 0 = some (D.int L.ms[0]) := by
            have := atI_nat (L.ms.map D.int) 0
            simp at this; simp [this, hm0]
          generalize L.ms[q] = x1 at *
          generalize L.ms[0] = x2 at *
          by_cases h1 : x1 = x2 <;> simp [setAll, wipeE, l.hk, l.hb, e1, e2, e3, h1]) (fun q _ _ => by simp [setAll, wipeE])]
      simp [Lo.spare]
  rw [sp _ S1 a b L1 l1 iv1 hne (by simp) (by simp)]
  simp
  generalize hz : whileN _ _ _ _ _ = zz
  obtain ⟨r, S2, h2, a2, b2, L2, l2, g2, iv2, hp2, hs2, hne2⟩ := while_z hz
    (fun m ρ S' => ∃ a' b' L' o, ρ = [some (.cell k), some (.int x), some (.lst (L'.spare.map fun q : Nat => D.int q)), o] ∧ LAt S' k a' b' d e L' ∧ Grow S [k, a, b, d, e] S' [k, a', b', d, e] ∧ L'.Inv (n + 1) ∧ Pr L' ∧ L'.hs.length = m ∧ L'.hs ≠ [])
    (fun ρ S' => ∃ a' b' L', LAt S' k a' b' d e L' ∧ Grow S [k, a, b, d, e] S' [k, a', b', d, e] ∧ L'.Inv (n + 1) ∧ Pr L' ∧ L'.spare = [] ∧ L'.hs ≠ [])
    (m := L1.hs.length) (by have := iv1.z; omega) ⟨a, b, L1, none, rfl, l1, g1, iv1, hp1, rfl, hne⟩
    (by
      rintro m ρ S' ⟨a', b', L', o, rfl, l', g', iv', hp', rfl, hne'⟩
      have z' := iv'.z
      have mm' := iv'.m
      have t1 := ne_ints S' L'.spare
      by_cases hs : L'.spare = []
      · left
        exact ⟨S', by simp [hs] at t1 ⊢; exact t1, a', b', L', l', g', iv', hp', hs, hne'⟩
      · right
        obtain ⟨j, js, hj⟩ : ∃ j js, L'.spare = j :: js := List.exists_cons_of_ne_nil hs
        have hjm : j ∈ L'.spare := by rw [hj]; exact List.mem_cons_self
        obtain ⟨hj1, hj2⟩ := List.mem_filter.mp hjm
        have hj1 := List.mem_range.mp hj1
        have hj2 : L'.ms[j]? ≠ L'.ms[0]? := of_decide_eq_true hj2
        have h0 : 0 < L'.hs.length := List.length_pos_iff.mpr hne'
        have hj0 : 0 ≠ j := fun h => hj2 (by rw [← h])
        obtain ⟨S3, e3, a3, b3, l3, g3⟩ := e_tie c l' (by omega) mm' (i := 0) (j := j) (List.getElem?_eq_getElem h0) (List.getElem?_eq_getElem hj1) (List.getElem?_eq_getElem (by omega)) (List.getElem?_eq_getElem (by omega)) false x (N := N + 1) (by omega)
        have e3 : ev T (N + 1) f_l_tie [.cell k, .int 0, .int j, .str (Str.ofString "fast"), .int x] S' = .ok .non S3 := e3
        have iv3 := iv'.tie hj0 (List.getElem?_eq_getElem h0) (List.getElem?_eq_getElem hj1) (w := false) (mi := L'.ms[0]) (mj := L'.ms[j]) (spot := x)
        have hp3 := kp.tie L' 0 j _ _ _ _ x hp' hj0 (List.getElem?_eq_getElem h0) (List.getElem?_eq_getElem hj1) (List.getElem?_eq_getElem (by omega)) (List.getElem?_eq_getElem (by omega))
        have hl3 := tie_len (L := L') hj0 (List.getElem?_eq_getElem h0) (List.getElem?_eq_getElem hj1) (h := .knot false L'.hs[0] L'.hs[j]) (mi := L'.ms[0]) (mj := L'.ms[j]) (spot := x)
        have hne3 : (L'.tie 0 j (.knot false L'.hs[0] L'.hs[j]) L'.ms[0] L'.ms[j] x).hs ≠ [] := List.ne_nil_of_length_pos (by simp only [Lo.tie, ins_len]; omega)
        have sp3 := sp [some (.cell k), some (.int x), some (.lst (L'.spare.map fun q : Nat => D.int q)), o] S3 a3 b3 _ l3 iv3 hne3 (by simp) (by simp)
        rw [hj] at sp3 t1
        refine ⟨S', [some (.cell k), some (.int x), some (.lst ((L'.tie 0 j (.knot false L'.hs[0] L'.hs[j]) L'.ms[0] L'.ms[j] x).spare.map fun q : Nat => D.int q)), o], S3, (L'.tie 0 j (.knot false L'.hs[0] L'.hs[j]) L'.ms[0] L'.ms[j] x).hs.length, ?_, ?_, by omega, a3, b3, _, o, rfl, l3, g'.trans g3, iv3, hp3, rfl, hne3⟩
        · simp at t1; simp [hj, t1]
        · simp at sp3; simp [hj, e3, sp3])
  subst h2
  exact ⟨S2, by simp, a2, b2, L2, l2, g2, iv2, hp2, hs2, hne2⟩
end Nl
/-! R3: words; two knots turned; three ways to a loft -/
namespace Nl
open PySem Sm
variable {T : Nat → Option Body}
def Hg.words : Hg → List Bool
  | .tip _ _ _ => []
  | .knot k l r => k :: (l.words ++ r.words)
theorem words_len (h : Hg) : h.words.length + 1 = h.nt := by
  induction h with
  | tip _ _ _ => rfl
  | knot k l r a b => simp only [Hg.words, List.length_cons, List.length_append, Hg.nt_knot]; omega
theorem e_l_words (c0 : T f_l_is_tip = some b_l_is_tip) (c : T f_l_words = some b_l_words) : ∀ (h : Hg) {N : Nat} (_ : h.depth + 3 ≤ N) (_ : h.nt ≤ 4000) (S : Store), ev T N f_l_words [ofH h] S = .ok (.lst (h.words.map fun k => .str (kw k))) S
  | .tip d y k, N, hN, _, S => by
    obtain ⟨n, rfl, _⟩ := two_up 1 (N := N) (by omega)
    have t1 := e_l_is_tip c0 (.tip d y k) (N := n + 1) (by omega) S
    rw [ev_s c]
    simp at t1
    simp [step1, b_l_words, t1, Hg.isTip, Hg.words]
  | .knot k l r, N, hN, hz, S => by
    obtain ⟨n, rfl, hl, hr, _⟩ := dl 2 hN (by omega)
    have t1 := e_l_is_tip c0 (.knot k l r) (N := n + 1) (by omega) S
    rw [Hg.nt_knot] at hz
    have h1 := e_l_words c0 c l (N := n + 1) (by omega) (by omega) S
    have h2 := e_l_words c0 c r (N := n + 1) (by omega) (by omega) S
    have w1 := words_len l
    have w2 := words_len r
    have z1 : l.words.length + 1 ≤ sizeLine := sz (by omega)
    have z2 : l.words.length + 1 + r.words.length ≤ sizeLine := sz (by omega)
    have z3 : 1 + l.words.length ≤ sizeLine := sz (by omega)
    rw [ev_s c]
    simp at t1
    simp [step1, b_l_words, t1, h1, h2, Hg.isTip, Hg.words, z1, z2, z3]
def Lo.put (L : Lo) (i : Nat) (h : Hg) : Lo := { L with hs := L.hs.set i h }
structure Kept2 (Pr : Lo → Prop) : Prop extends Kept Pr where
  turn : ∀ L i h t, Pr L → L.hs[i]? = some h → Pr (L.put i (h.turn t))
theorem nt_turn : ∀ (h : Hg) (i : Int), (h.turn i).nt = h.nt
  | .tip _ _ _, _ => rfl
  | .knot k l r, i => by
    unfold Hg.turn
    split
    · rfl
    split
    · rfl
    · simp [nt_turn l, nt_turn r]
theorem Lo.Inv.put {n : Nat} {L : Lo} (h : L.Inv n) {i : Nat} {a b : Hg} (ha : L.hs[i]? = some a) (hb : b.nt = a.nt) (fb : b.Fine) : (L.put i b).Inv n := by
  obtain ⟨m, tot, zs, dsp, fine, fsp, bk, bn⟩ := h
  refine ⟨by simp [Lo.put, m], by simp only [Lo.put]; rw [nts_set ha hb.symm]; exact tot, zs, dsp, fun h hh => ?_, fsp, bk, bn⟩
  rcases List.mem_or_eq_of_mem_set hh with q | rfl
  · exact fine h q
  · exact fb
theorem LAt.put {S : Store} {k a b d e : Nat} {L : Lo} (l : LAt S k a b d e L) (i : Nat) (h : Hg) : LAt (S.set a (.lst ((L.hs.set i h).map ofH))) k a b d e (L.put i h) := by
  obtain ⟨hk, ha, hb', hc, he, nd⟩ := l
  obtain ⟨⟨n1, n2, n3, n4, n5, n6, n7, n8, n9, n10⟩, m1, m2, m3, m4, m5, m6, m7, m8, m9, m10⟩ := ne5 nd
  refine ⟨?_, ?_, ?_, ?_, ?_, nd⟩ <;> simp [gset, hk, ha, hb', hc, he, n1, n2, n3, n4, n5, n6, n7, n8, n9, n10, m1, m2, m3, m4, m5, m6, m7, m8, m9, m10, Lo.put]
/-- cells that stand apart from a loft's -/
theorem LAt.frame {S S' : Store} {k a b d e : Nat} {L : Lo} (l : LAt S k a b d e L) (h : ∀ j, j ∈ [k, a, b, d, e] → S'[j]? = S[j]?) : LAt S' k a b d e L :=
  ⟨(h k (by simp)).trans l.hk, (h a (by simp)).trans l.ha, (h b (by simp)).trans l.hb, (h d (by simp)).trans l.hc, (h e (by simp)).trans l.he, l.nd⟩
def ofS (p : Nat × Nat) : D := .tup [.int p.1, .int p.2]
/-- the lists of the loose and of the fast knots' places, in a dict's cells -/
structure FAt (S : Store) (f u v : Nat) (us vs : List (Nat × Nat)) : Prop where
  hf : S[f]? = some (.dk [(.inr "loose", .cell u), (.inr "fast", .cell v)])
  hu : S[u]? = some (.lst (us.map ofS))
  hv : S[v]? = some (.lst (vs.map ofS))
  ne : f ≠ u ∧ f ≠ v ∧ u ≠ v
structure TurnFns (T : Nat → Option Body) : Prop extends LoftFns T where
  words : T f_l_words = some b_l_words
  many_knots : T f_l_many_knots = some b_l_many_knots
  turned : T f_l_turned = some b_l_turned
  two_turned : T f_l_two_turned = some b_l_two_turned
  three_ways : T f_l_three_ways = some b_l_three_ways
theorem ix_dk_str (S : Store) (f : Nat) (kvs : List (L2.Key × D)) (x : Str) (r : D) (h : S[f]? = some (.dk kvs)) (hr : valK kvs (.inr x) = some r) : oIx S (.cell f) (.str x) = .ok r S := by
  show (match dGet S (.cell f) (.str x) with
    | some (some r) => R.ok r S
    | _ => .err) = _
  have : dGet S (.cell f) (.str x) = some (some r) := by simp [dGet, dLook, h, keyOf, hr]
  rw [this]
theorem vk1 (u v : D) : valK [((.inr "loose" : L2.Key), u), (.inr "fast", v)] (.inr "loose") = some u := by simp [valK]
theorem vk2 (u v : D) : valK [((.inr "loose" : L2.Key), u), (.inr "fast", v)] (.inr "fast") = some v := by
  have : ¬ ((Sum.inr (Str.ofString "loose") : L2.Key) = Sum.inr (Str.ofString "fast")) := by simp
  simp [valK, this]
theorem FAt.ixl {S : Store} {f u v : Nat} {us vs : List (Nat × Nat)} (h : FAt S f u v us vs) : oIx S (.cell f) (.str (Str.ofString "loose")) = .ok (.cell u) S := ix_dk_str S f _ _ _ h.hf (vk1 _ _)
theorem FAt.ixf {S : Store} {f u v : Nat} {us vs : List (Nat × Nat)} (h : FAt S f u v us vs) : oIx S (.cell f) (.str (Str.ofString "fast")) = .ok (.cell v) S := ix_dk_str S f _ _ _ h.hf (vk2 _ _)
theorem neE (S : Store) (n : Nat) (us : List (Nat × Nat)) (h : S[n]? = some (.lst (us.map ofS))) : oNe S (.cell n) (.lst []) = .ok (.bl (!decide (us = []))) S := by
  have ef : EqF ofS := fun a b => by
    show eqD (.tup [.int a.1, .int a.2]) (.tup [.int b.1, .int b.2]) = _
    simp only [eqD_tup, eqA_cons, eqA_nil, eqD_int]
    cases a; cases b
    simp only [Prod.mk.injEq, Int.ofNat_inj]
    by_cases h1 : ‹Nat› = ‹Nat› <;> simp
  have lay := lay_map (f := ofS) (l := us) (n := 3) fun p hp => lay_tup (n := 2) fun z hz => by
    simp at hz
    rcases hz with rfl | rfl <;> exact lay_int _ _
  have ll : Lay (.lst (([] : List (Nat × Nat)).map ofS)) 1 := lay_lst (n := 0) fun z hz => by simp at hz
  exact oNe_lay (A := List (Nat × Nat)) (f := fun l => .lst (l.map ofS)) (fun x y => eq_lstF ef x y) lay ll (by decide) (by decide) (S := S) (d := .cell n) (e := .lst []) (by simp [h]) (by simp)
theorem FAt.appU {S : Store} {f u v : Nat} {us vs : List (Nat × Nat)} (h : FAt S f u v us vs) (p : Nat × Nat) : FAt (S.set u (.lst (us.map ofS ++ [ofS p]))) f u v (us ++ [p]) vs := by
  obtain ⟨h1, h2, h3, n1, n2, n3⟩ := h
  refine ⟨?_, ?_, ?_, n1, n2, n3⟩ <;> simp [gset, h1, h2, h3, n1, n2, n3, n1.symm, n2.symm, n3.symm]
theorem FAt.appV {S : Store} {f u v : Nat} {us vs : List (Nat × Nat)} (h : FAt S f u v us vs) (p : Nat × Nat) : FAt (S.set v (.lst (vs.map ofS ++ [ofS p]))) f u v us (vs ++ [p]) := by
  obtain ⟨h1, h2, h3, n1, n2, n3⟩ := h
  refine ⟨?_, ?_, ?_, n1, n2, n3⟩ <;> simp [gset, h1, h2, h3, n1, n2, n3, n1.symm, n2.symm, n3.symm]
theorem FAt.frame {S S' : Store} {f u v : Nat} {us vs : List (Nat × Nat)} (h : FAt S f u v us vs) (g : ∀ j, j ∈ [f, u, v] → S'[j]? = S[j]?) : FAt S' f u v us vs :=
  ⟨(g f (by simp)).trans h.hf, (g u (by simp)).trans h.hu, (g v (by simp)).trans h.hv, h.ne⟩
/-- what stood stands as it stood -/
structure Same (S S' : Store) : Prop where
  len : S.length ≤ S'.length
  get : ∀ j, j < S.length → S'[j]? = S[j]?
theorem Same.refl (S : Store) : Same S S := ⟨Nat.le_refl _, fun _ _ => rfl⟩
theorem Same.set {S S' : Store} (h : Same S S') {j : Nat} (hj : S.length ≤ j) (o : MO) : Same S (S'.set j o) :=
  ⟨by simp [h.len], fun i hi => by rw [gset, if_neg (by omega)]; exact h.get i hi⟩
theorem Same.lat {S S' : Store} (h : Same S S') {k a b d e : Nat} {L : Lo} (l : LAt S k a b d e L) : LAt S' k a b d e L := by
  have lk := lt_of_get l.hk; have la := lt_of_get l.ha; have lb := lt_of_get l.hb; have ld := lt_of_get l.hc; have le := lt_of_get l.he
  refine l.frame fun j hj => h.get j ?_
  simp at hj
  rcases hj with rfl | rfl | rfl | rfl | rfl <;> assumption
theorem Same.grow {S S' : Store} (h : Same S S') (F : List Nat) : Grow S F S' F := ⟨h.len, fun j hj _ => h.get j hj, fun _ h => .inl h⟩
theorem e_two_turned (c : TurnFns T) {Pr : Lo → Prop} (kp : Kept2 Pr) {S : Store} {k a b d e : Nat} {L : Lo} (l : LAt S k a b d e L) {n : Nat} (iv : L.Inv n) (hn : n ≤ 21) (hp : Pr L) (x : Int) {N : Nat} (hN : 60 ≤ N) :
    ∃ S', ev T N f_l_two_turned [.cell k, .int x] S = .ok .non S' ∧ ∃ L', LAt S' k a b d e L' ∧ Grow S [k, a, b, d, e] S' [k, a, b, d, e] ∧ L'.Inv n ∧ Pr L' ∧ L'.hs.length = L.hs.length := by
  obtain ⟨N, rfl, _⟩ := two_up 58 (N := N) (by omega)
  rw [ev_s c.two_turned]
  have z := iv.z
  simp [step1, b_l_two_turned, mDisp, mPairs, keyPairs, keyOf, mergeG, putG]
  generalize hS0 : S ++ [_, _, _] = S0
  have f0 : FAt S0 (S.length + 2) S.length (S.length + 1) [] [] := by
    subst hS0
    refine ⟨by simp, by simp, by simp, by omega, by omega, by omega⟩
  have s0 : Same S S0 := by
    subst hS0
    exact ⟨by simp, fun j hj => List.getElem?_append_left hj⟩
  have l0 := s0.lat l
  have lk := lt_of_get l.hk; have la := lt_of_get l.ha; have lb := lt_of_get l.hb; have ld := lt_of_get l.hc; have le := lt_of_get l.he
  rw [for_srcL (src := [.cell a]) (its := enumFrom 0 (L.hs.map ofH)) (by simp [l0.hk]; rfl) (by simp [l0.ha])]
  generalize hz : forL _ _ _ _ _ _ _ = zz
  obtain ⟨r, S1, h1, s1, ⟨o3, o4, o5, o6, rfl⟩, us, vs, f1, hl1, hp1⟩ := forL_z hz (fun p : Hg × Nat => [D.int p.2, ofH p.1]) L.hs.zipIdx (enum_map ofH L.hs 0)
    (fun i ρ S1 => Same S S1 ∧ (∃ o3 o4 o5 o6, ρ = [some (.cell k), some (.int x), some (.cell (S.length + 2)), o3, o4, o5, o6]) ∧ ∃ us vs, FAt S1 (S.length + 2) S.length (S.length + 1) us vs ∧ us.length + vs.length ≤ i * 50 ∧ ∀ p ∈ us ++ vs, p.1 < L.hs.length)
    ⟨s0, ⟨none, none, none, none, rfl⟩, [], [], f0, by simp, fun p hp => by simp at hp⟩
    (by
      rintro i ρ S1 ⟨s1, _, us, vs, f1, _⟩
      have := (s1.lat l).ha
      simp [this])
    (by
      rintro i ⟨h, j⟩ ρ S1 hx ⟨s1, ⟨o3, o4, o5, o6, rfl⟩, us, vs, f1, hl1, hp1⟩
      obtain ⟨gh, ej⟩ := zip_at hx
      have gh : L.hs[i]? = some h := gh
      have ej : i = j := ej.symm
      subst ej
      have hi := lt_of_get gh
      have mh := List.mem_of_getElem? gh
      have dh := iv.dep h mh
      have nh := iv.nt h mh
      have wl := words_len h
      have t1 := e_l_words c.is_tip c.words h (N := N + 1) (by omega) (by omega) S1
      simp only [setAll]
      rw [for_srcL (src := [.lst (h.words.map fun k => .str (kw k))]) (its := enumFrom 0 (h.words.map fun k => .str (kw k))) (by simp [t1]; rfl) (by simp)]
      generalize hz2 : forL _ _ _ _ _ _ _ = zz2
      obtain ⟨r2, S2, h2, s2, ⟨p5, p6, rfl⟩, us2, vs2, f2, hl2, hp2⟩ := forL_z hz2 (fun p : Bool × Nat => [D.int p.2, .str (kw p.1)]) h.words.zipIdx (enum_map _ h.words 0)
        (fun m ρ S2 => Same S S2 ∧ (∃ o5 o6, ρ = [some (.cell k), some (.int x), some (.cell (S.length + 2)), some (.int i), some (ofH h), o5, o6]) ∧ ∃ us vs, FAt S2 (S.length + 2) S.length (S.length + 1) us vs ∧ us.length + vs.length ≤ i * 50 + m ∧ ∀ p ∈ us ++ vs, p.1 < L.hs.length)
        ⟨s1, ⟨o5, o6, rfl⟩, us, vs, f1, by omega, hp1⟩ (fun _ _ _ _ => by simp)
        (by
          rintro m ⟨w, m'⟩ ρ S2 hm ⟨s2, ⟨p5, p6, rfl⟩, us2, vs2, f2, hl2, hp2⟩
          obtain ⟨gw, ej⟩ := zip_at hm
          have ej : m = m' := ej.symm
          subst ej
          have hm' := lt_of_get gw
          have big : us2.length + vs2.length < 4000 := by
            have : i * 50 ≤ 42 * 50 := Nat.mul_le_mul_right _ (by omega)
            omega
          cases w with
          | true =>
            have zu : us2.length < sizeLine := sz' (by omega)
            refine ⟨[some (.cell k), some (.int x), some (.cell (S.length + 2)), some (.int i), some (ofH h), some (.int m), some (.str (Str.ofString "loose"))], _, by simp [setAll, f2.ixl, f2.hu, zu]; rfl, s2.set (Nat.le_refl _) _, ⟨_, _, rfl⟩, _, _, f2.appU (i, m), by simp; omega, fun p hp => ?_⟩
            simp at hp
            rcases hp with hp | rfl | hp
            · exact hp2 p (by simp [hp])
            · exact hi
            · exact hp2 p (by simp [hp])
          | false =>
            have zu : vs2.length < sizeLine := sz' (by omega)
            refine ⟨[some (.cell k), some (.int x), some (.cell (S.length + 2)), some (.int i), some (ofH h), some (.int m), some (.str (Str.ofString "fast"))], _, by simp [setAll, f2.ixf, f2.hv, zu]; rfl, s2.set (Nat.le_succ _) _, ⟨_, _, rfl⟩, _, _, f2.appV (i, m), by simp; omega, fun p hp => ?_⟩
            simp at hp
            rcases hp with hp | hp | rfl
            · exact hp2 p (by simp [hp])
            · exact hp2 p (by simp [hp])
            · exact hi)
      subst h2
      rw [List.length_zipIdx] at hl2
      exact ⟨_, S2, rfl, s2, ⟨_, _, _, _, rfl⟩, us2, vs2, f2, by
        have : (i + 1) * 50 = i * 50 + 50 := by omega
        omega, hp2⟩)
  subst h1
  simp
  have l1 := s1.lat l
  rw [for_src (src := [.lst [.str (Str.ofString "loose"), .str (Str.ofString "fast")]]) (by simp; rfl) (fun S => itA_lst _ S)]
  have e2 : ones [D.str (Str.ofString "loose"), D.str (Str.ofString "fast")] = [true, false].map fun w => [D.str (kw w)] := rfl
  rw [e2]
  generalize hz3 : forV _ _ _ _ _ = zz3
  obtain ⟨r3, S3, h3, ⟨x3, q3, q4, q5, q6, rfl⟩, L3, l3, f3, g3, iv3, hp3, hl3⟩ := forV_z hz3 (fun (u : Unit) (_ : Bool) => u)
    (fun i _ ρ S3 => (∃ x3 o3 o4 o5 o6, ρ = [some (.cell k), some (.int x3), some (.cell (S.length + 2)), o3, o4, o5, o6]) ∧ ∃ L3, LAt S3 k a b d e L3 ∧ FAt S3 (S.length + 2) S.length (S.length + 1) us vs ∧ Grow S [k, a, b, d, e] S3 [k, a, b, d, e] ∧ L3.Inv n ∧ Pr L3 ∧ L3.hs.length = L.hs.length)
    (st := ()) ⟨⟨x, _, _, _, _, rfl⟩, L, l1, f1, s1.grow _, iv, hp, rfl⟩
    (by
      rintro i _ w ρ S3 hx ⟨⟨x3, q3, q4, q5, q6, rfl⟩, L3, l3, f3, g3, iv3, hp3, hl3⟩
      have n1 := neE S3 _ us f3.hu
      have n2 := neE S3 _ vs f3.hv
      by_cases hu : us = []
      · refine ⟨[some (.cell k), some (.int x3), some (.cell (S.length + 2)), q3, q4, q5, some (.str (kw w))], S3, ?_, ⟨x3, _, _, _, _, rfl⟩, L3, l3, f3, g3, iv3, hp3, hl3⟩
        simp [setAll, f3.ixl, n1, hu]
      by_cases hv : vs = []
      · refine ⟨[some (.cell k), some (.int x3), some (.cell (S.length + 2)), q3, q4, q5, some (.str (kw w))], S3, ?_, ⟨x3, _, _, _, _, rfl⟩, L3, l3, f3, g3, iv3, hp3, hl3⟩
        simp [setAll, f3.ixl, f3.ixf, n1, n2, hu, hv]
      -- the place
      have go : ∀ (ws : List (Nat × Nat)) (w : Bool) (nw : Nat), ws ≠ [] → (∀ p ∈ ws, p ∈ us ++ vs) → S3[nw]? = some (.lst (ws.map ofS)) → oIx S3 (.cell (S.length + 2)) (.str (kw w)) = .ok (.cell nw) S3 → ∃ r S', (sIf
                (mAnd (m2 oNe (m2 oIx (mV 2) (mC (D.str (Str.ofString "loose")))) (mN (oLst false) mNil))
                  (m2 oNe (m2 oIx (mV 2) (mC (D.str (Str.ofString "fast")))) (mN (oLst false) mNil)))
                (sSeq
                  (sAsgs [3, 5]
                    (m2 oIx (m2 oIx (mV 2) (mV 6)) (m2 oMod (mV 1) (mN oLen (mCons (m2 oIx (mV 2) (mV 6)) mNil)))))
                  (sSeq
                    (sSub
                      (mN (fun S ds => ev T (N + 1) f_l_turned ds S)
                        (mCons (m2 oIx (m2 oIx (mV 0) (mC (D.int 0))) (mV 3)) (mCons (mV 5) mNil)))
                      (m2 oIx (mV 0) (mC (D.int 0))) (mV 3))
                    (sAsg 1 (m2 oDiv (mV 1) (mC (D.int 64))))))
                sNil) [some (.cell k), some (.int x3), some (.cell (S.length + 2)), q3, q4, q5, some (.str (kw w))] S3 = .ok (.nx r) S' ∧ (∃ x3 o3 o4 o5 o6, r = [some (.cell k), some (.int x3), some (.cell (S.length + 2)), o3, o4, o5, o6]) ∧ ∃ L3, LAt S' k a b d e L3 ∧ FAt S' (S.length + 2) S.length (S.length + 1) us vs ∧ Grow S [k, a, b, d, e] S' [k, a, b, d, e] ∧ L3.Inv n ∧ Pr L3 ∧ L3.hs.length = L.hs.length := by
        intro ws w nw hne hsub hnw hix
        have hw0 : 0 < ws.length := List.length_pos_iff.mpr hne
        have m0 : 0 ≤ x3 % (ws.length : Int) := Int.emod_nonneg _ (by omega)
        have m1 : x3 % (ws.length : Int) < ws.length := Int.emod_lt_of_pos _ (by omega)
        obtain ⟨i3, hi3, ei3⟩ : ∃ i3 : Nat, i3 < ws.length ∧ x3 % (ws.length : Int) = (i3 : Int) := ⟨(x3 % (ws.length : Int)).toNat, by omega, by omega⟩
        have gp := List.getElem?_eq_getElem hi3
        have hp : ws[i3] ∈ ws := List.getElem_mem hi3
        generalize ws[i3] = p at *
        obtain ⟨ps, pt⟩ := p
        have hps : ps < L3.hs.length := by rw [hl3]; exact hp1 _ (hsub _ hp)
        have gh := List.getElem?_eq_getElem hps
        have mh := List.mem_of_getElem? gh
        generalize L3.hs[ps] = h at *
        have dh := iv3.dep h mh
        have tt := e_l_turned c.is_tip c.many_knots c.turned h pt (N := N + 1) (by omega) S3
        have ixn := ixN_nat hps
        refine ⟨[some (.cell k), some (.int (x3 / 64)), some (.cell (S.length + 2)), some (.int ps), q4, some (.int pt), some (.str (kw w))], S3.set a (.lst ((L3.hs.set ps (h.turn pt)).map ofH)), ?_, ⟨_, _, _, _, _, rfl⟩, L3.put ps (h.turn pt), l3.put _ _, f3.frame ?_, g3.trans (Grow.set _ _ a _ (by simp)), iv3.put gh (nt_turn _ _) (fine_turn (iv3.fine h mh)), kp.turn _ _ _ _ hp3 gh, by simp [Lo.put, hl3]⟩
        · simp [setAll, f3.ixl, f3.ixf, n1, n2, hu, hv, hix, hnw, hw0, ei3, gp, ofS, l3.hk, l3.ha, gh, tt, ixn]
        · intro j hj
          have : a ≠ j := by simp at hj; omega
          rw [gset, if_neg this]
      cases w with
      | true => exact go us true _ hu (fun p hp => by simp [hp]) f3.hu f3.ixl
      | false => exact go vs false _ hv (fun p hp => by simp [hp]) f3.hv f3.ixf)
  subst h3
  exact ⟨S3, by simp, L3, l3, g3, iv3, hp3, hl3⟩
end Nl
/-! R4: three ways to a loft -/
namespace Nl
open PySem Sm
variable {T : Nat → Option Body}
theorem e_three_ways (c : TurnFns T) {Pr : Lo → Prop} (kp : Kept2 Pr) (ns : List Int) (first most : Nat) (hm : most ≤ 20) (hpl : ∀ good, Pr (loftL ns (first + 1) most good)) {N : Nat} (hN : 70 ≤ N) (S : Store) :
    ∃ S' k, ev T N f_l_three_ways [.scr ns, .int first, .int most] S = .ok (.cell k) S' ∧ ∃ a b d e L, LAt S' k a b d e L ∧ Grow S [] S' [k, a, b, d, e] ∧ L.Inv (most + 1) ∧ Pr L := by
  obtain ⟨n, rfl, _⟩ := two_up 68 (N := N) hN
  rw [ev_s c.three_ways]
  have t1 : ∀ S, ev T (n + 1) f_l_cell [.scr ns, .int first] S = .ok (.int (cellI ns first)) S := fun S => e_cell c.stir c.cell ns first (by omega) S
  have t0 : 0 ≤ cellI ns first := cellI_nn _ _
  have fst : ((first + 1 : Nat) : Int) = (first : Int) + 1 := by omega
  by_cases q1 : cellI ns first % 3 = 0
  · obtain ⟨S1, k, a, b, d, e, l1, g1, h1, _⟩ := e_loft c.toLoftFns ns (first + 1) most false hm (N := n + 1) (by omega) S
    have h1 := h1 rfl
    rw [fst] at h1
    exact ⟨S1, k, by simp [step1, b_l_three_ways, t1, q1, h1], a, b, d, e, _, l1, g1, (loftL_inv ns (first + 1) most (by omega) false).mono (by omega), hpl false⟩
  · have q0 : 0 < cellI ns first % 3 := by omega
    obtain ⟨S1, k, a, b, d, e, l1, g1, _, h1⟩ := e_loft c.toLoftFns ns (first + 1) most true hm (N := n + 1) (by omega) S
    obtain ⟨S2, h2, a2, b2, L2, l2, g2, iv2, p2, _, hne⟩ := e_close c.toLoftFns kp.toKept l1 (loftL_inv ns (first + 1) most (by omega) true) hm (hpl true) (cellI ns (first + 1)) (N := n) (by omega)
    have h1 := h1 S2 h2 rfl
    rw [fst] at h1
    by_cases q2 : cellI ns first % 3 = 2
    · have hl : 0 < L2.hs.length := List.length_pos_iff.mpr hne
      by_cases q3 : cellI ns first / 3 % 2 = 1
      · obtain ⟨S3, h3, L3, l3, g3, iv3, p3, _⟩ := e_two_turned c kp l2 iv2 (by omega) p2 (cellI ns first / 6) (N := n + 1) (by omega)
        exact ⟨S3, k, by simp [step1, b_l_three_ways, t1, q2, q3, h1, h3], a2, b2, d, e, L3, l3, (g1.trans g2).trans g3, iv3, p3⟩
      · obtain ⟨i, hi, ei⟩ : ∃ i : Nat, i < L2.hs.length ∧ cellI ns first / 6 % (L2.hs.length : Int) = (i : Int) := ⟨_, Lo.at_lt hl _⟩
        have gh := List.getElem?_eq_getElem hi
        have mh := List.mem_of_getElem? gh
        generalize L2.hs[i] = h at *
        have dh := iv2.dep h mh
        have tk := e_l_many_knots c.is_tip c.many_knots h (N := n + 1) (by omega) S2
        have tt := e_l_turned c.is_tip c.many_knots c.turned h (cellI ns first / 6 / 64 % ((h.mk : Int) + 1)) (N := n + 1) (by omega) S2
        have ixn := ixN_nat hi
        have m0 : (0 : Int) < (h.mk : Int) + 1 := by omega
        refine ⟨S2.set a2 (.lst ((L2.hs.set i (h.turn (cellI ns first / 6 / 64 % ((h.mk : Int) + 1)))).map ofH)), k, ?_, a2, b2, d, e, _, l2.put i (h.turn (cellI ns first / 6 / 64 % ((h.mk : Int) + 1))), (g1.trans g2).trans (Grow.set _ _ a2 _ (by simp)), iv2.put gh (nt_turn _ _) (fine_turn (iv2.fine h mh)), kp.turn _ _ _ _ p2 gh⟩
        simp [step1, b_l_three_ways, t1, q2, q3, h1, l2.hk, l2.ha, hl, ei, gh, tk, tt, m0, ixn]
    · exact ⟨S2, k, by simp [step1, b_l_three_ways, t1, q0, q2, h1], a2, b2, d, e, L2, l2, g1.trans g2, iv2, p2⟩
end Nl
/-! Q3: nets that fit: each cord's two tips stand once -/
namespace Nl
open PySem Sm
def tipsL (hs : List Hg) : List Hg := hs.flatMap Hg.tips
def tipsP (p : Hg × Hg) : List Hg := p.1.tips ++ p.2.tips
def tipsS (sp : List (Hg × Hg)) : List Hg := sp.flatMap tipsP
def allT (hs : List Hg) (sp : List (Hg × Hg)) : List Hg := tipsL hs ++ tipsS sp
def lightsOf : List Hg → List (Int × Str)
  | [] => []
  | .tip false y n :: r => (n, y) :: lightsOf r
  | _ :: r => lightsOf r
def darksOf : List Hg → List (Int × Str)
  | [] => []
  | .tip true y n :: r => (n, y) :: darksOf r
  | _ :: r => darksOf r
theorem lights_app (l m : List Hg) : lightsOf (l ++ m) = lightsOf l ++ lightsOf m := by
  induction l with
  | nil => rfl
  | cons a l ih =>
    cases a with
    | tip d y n => cases d <;> simp [lightsOf, ih]
    | knot k x y => simp [lightsOf, ih]
theorem darks_app (l m : List Hg) : darksOf (l ++ m) = darksOf l ++ darksOf m := by
  induction l with
  | nil => rfl
  | cons a l ih =>
    cases a with
    | tip d y n => cases d <;> simp [darksOf, ih]
    | knot k x y => simp [darksOf, ih]
theorem mem_lights {l : List Hg} {n : Int} {y : Str} : (n, y) ∈ lightsOf l ↔ .tip false y n ∈ l := by
  induction l with
  | nil => simp [lightsOf]
  | cons a l ih =>
    cases a with
    | tip d y' n' =>
      cases d
      · simp only [lightsOf, List.mem_cons, ih, Prod.mk.injEq, Hg.tip.injEq]
        constructor
        · rintro (⟨rfl, rfl⟩ | h)
          · exact .inl (by simp)
          · exact .inr h
        · rintro (⟨_, rfl, rfl⟩ | h)
          · exact .inl ⟨rfl, rfl⟩
          · exact .inr h
      · simp [lightsOf, ih]
    | knot k x y => simp [lightsOf, ih]
theorem mem_darks {l : List Hg} {n : Int} {y : Str} : (n, y) ∈ darksOf l ↔ .tip true y n ∈ l := by
  induction l with
  | nil => simp [darksOf]
  | cons a l ih =>
    cases a with
    | tip d y' n' =>
      cases d
      · simp [darksOf, ih]
      · simp only [darksOf, List.mem_cons, ih, Prod.mk.injEq, Hg.tip.injEq]
        constructor
        · rintro (⟨rfl, rfl⟩ | h)
          · exact .inl (by simp)
          · exact .inr h
        · rintro (⟨_, rfl, rfl⟩ | h)
          · exact .inl ⟨rfl, rfl⟩
          · exact .inr h
    | knot k x y => simp [darksOf, ih]
/-- each cord that stands has a light and a dark tip of one dye, each once -/
structure Fits (ts : List Hg) : Prop where
  tip : ∀ t ∈ ts, t.isTip = true
  ln : ((lightsOf ts).map (·.1)).Nodup
  dn : ((darksOf ts).map (·.1)).Nodup
  mate : ∀ p, p ∈ lightsOf ts ↔ p ∈ darksOf ts
theorem lights_perm {l m : List Hg} (h : l.Perm m) : (lightsOf l).Perm (lightsOf m) := by
  induction h with
  | nil => exact .nil
  | cons a _ ih =>
    cases a with
    | tip d y n => cases d <;> simp only [lightsOf] <;> first | exact ih | exact ih.cons _
    | knot k x y => exact ih
  | swap a b l =>
    cases a with
    | tip d y n =>
      cases b with
      | tip d' y' n' => cases d <;> cases d' <;> simp only [lightsOf] <;> first | exact .refl _ | exact .swap _ _ _
      | knot _ _ _ => cases d <;> exact .refl _
    | knot _ _ _ =>
      cases b with
      | tip d' y' n' => cases d' <;> exact .refl _
      | knot _ _ _ => exact .refl _
  | trans _ _ a b => exact a.trans b
theorem darks_perm {l m : List Hg} (h : l.Perm m) : (darksOf l).Perm (darksOf m) := by
  induction h with
  | nil => exact .nil
  | cons a _ ih =>
    cases a with
    | tip d y n => cases d <;> simp only [darksOf] <;> first | exact ih | exact ih.cons _
    | knot k x y => exact ih
  | swap a b l =>
    cases a with
    | tip d y n =>
      cases b with
      | tip d' y' n' => cases d <;> cases d' <;> simp only [darksOf] <;> first | exact .refl _ | exact .swap _ _ _
      | knot _ _ _ => cases d <;> exact .refl _
    | knot _ _ _ =>
      cases b with
      | tip d' y' n' => cases d' <;> exact .refl _
      | knot _ _ _ => exact .refl _
  | trans _ _ a b => exact a.trans b
theorem Fits.perm {l m : List Hg} (h : Fits l) (p : l.Perm m) : Fits m := by
  have p1 := lights_perm p
  have p2 := darks_perm p
  exact ⟨fun t ht => h.tip t (p.mem_iff.mpr ht), (p1.map _).nodup_iff.mp h.ln, (p2.map _).nodup_iff.mp h.dn, fun q => by rw [← p1.mem_iff, ← p2.mem_iff]; exact h.mate q⟩
/-- the tips of the cords of a book, by their dyes -/
def cordTips (b : Bk) (k : Nat) : List Str → List Hg
  | [] => []
  | y :: ys => .tip false y (b.num k) :: .tip true y (b.num k) :: cordTips b (k + 1) ys
theorem cordTips_app (b : Bk) : ∀ (ys zs : List Str) (k : Nat), cordTips b k (ys ++ zs) = cordTips b k ys ++ cordTips b (k + ys.length) zs
  | [], zs, k => rfl
  | y :: ys, zs, k => by
    simp only [List.cons_append, cordTips, cordTips_app b ys zs (k + 1), List.length_cons]
    rw [show k + 1 + ys.length = k + (ys.length + 1) by omega]
theorem num_inj {b : Bk} (h : b.Ok) {i j : Nat} (e : b.num i = b.num j) : i = j := by
  unfold Bk.num at e
  have e2 : b.b1 * ((i : Int) * 21 % 64 + 64 * ((i : Int) / 64)) = b.b1 * ((j : Int) * 21 % 64 + 64 * ((j : Int) / 64)) := by omega
  have e3 := Int.eq_of_mul_eq_mul_left (by have := h.step.1; omega) e2
  have inv : ∀ r : Nat, r < 64 → r * 21 % 64 * 61 % 64 = r := by decide
  have e4 : i * 21 % 64 + 64 * (i / 64) = j * 21 % 64 + 64 * (j / 64) := by omega
  have m1 : i * 21 % 64 = i % 64 * 21 % 64 := by omega
  have m2 : j * 21 % 64 = j % 64 * 21 % 64 := by omega
  have i1 := inv (i % 64) (by omega)
  have i2 := inv (j % 64) (by omega)
  have q1 : i * 21 % 64 = j * 21 % 64 := by omega
  rw [← m1] at i1
  rw [← m2, ← q1] at i2
  omega
theorem lights_cords (b : Bk) : ∀ (ys : List Str) (k : Nat), lightsOf (cordTips b k ys) = (ys.zipIdx k).map fun p => (b.num p.2, p.1)
  | [], k => rfl
  | y :: ys, k => by simp [cordTips, lightsOf, lights_cords b ys (k + 1)]
theorem darks_cords (b : Bk) : ∀ (ys : List Str) (k : Nat), darksOf (cordTips b k ys) = (ys.zipIdx k).map fun p => (b.num p.2, p.1)
  | [], k => rfl
  | y :: ys, k => by simp [cordTips, darksOf, darks_cords b ys (k + 1)]
theorem cords_nodup {b : Bk} (h : b.Ok) : ∀ (ys : List Str) (k : Nat), (((ys.zipIdx k).map fun p => (b.num p.2, p.1)).map (·.1)).Nodup := by
  intro ys k
  rw [List.map_map]
  have e : ((fun p : Int × Str => p.1) ∘ fun p : Str × Nat => (b.num p.2, p.1)) = fun p : Str × Nat => b.num p.2 := rfl
  rw [e]
  induction ys generalizing k with
  | nil => simp
  | cons y ys ih =>
    rw [List.zipIdx_cons, List.map_cons, List.nodup_cons]
    refine ⟨fun hm => ?_, ih (k + 1)⟩
    obtain ⟨⟨z, j⟩, hz, e⟩ := List.mem_map.mp hm
    have := num_inj h e
    have hj := List.le_snd_of_mem_zipIdx hz
    simp at this hj; omega
theorem fits_cords {b : Bk} (h : b.Ok) (ys : List Str) (k : Nat) : Fits (cordTips b k ys) := by
  refine ⟨fun t ht => ?_, by rw [lights_cords]; exact cords_nodup h ys k, by rw [darks_cords]; exact cords_nodup h ys k, fun p => by rw [lights_cords, darks_cords]⟩
  induction ys generalizing k with
  | nil => simp [cordTips] at ht
  | cons y ys ih =>
    simp [cordTips] at ht
    rcases ht with rfl | rfl | ht
    · rfl
    · rfl
    · exact ih _ ht
/-! ### the law's loft -/
structure Lo.Net (L : Lo) : Prop where
  ok : L.bk.Ok
  fit : ∃ ys : List Str, ys.length = L.bk.n ∧ (allT L.hs L.sp).Perm (cordTips L.bk 0 ys)
  mir : ∀ p ∈ L.sp, p.1.mirs p.2 = true
theorem Lo.Net.fits {L : Lo} (h : L.Net) : Fits (allT L.hs L.sp) := by
  obtain ⟨ys, _, p⟩ := h.fit
  exact (fits_cords h.ok ys 0).perm p.symm
theorem tipsL_perm {l m : List Hg} (h : l.Perm m) : (tipsL l).Perm (tipsL m) := h.flatMap_right _
theorem tipsS_perm {l m : List (Hg × Hg)} (h : l.Perm m) : (tipsS l).Perm (tipsS m) := h.flatMap_right _
theorem tips_anew (b : Bk) : ∀ (h : Hg) (k : Nat), ((h.anew b k).tips ++ (h.anew b k).mir.tips).Perm (cordTips b k (h.tips.map fun t => match t with
    | .tip _ y _ => y
    | _ => ⟨#[]⟩))
  | .tip d y n, k => by
    cases d
    · exact .refl _
    · exact .swap _ _ _
  | .knot w l r, k => by
    have hl := tips_anew b l k
    have hr := tips_anew b r (k + l.nt)
    simp only [Hg.anew, Hg.mir, Hg.tips, List.map_append, cordTips_app, List.length_map]
    have e : l.tips.length = l.nt := rfl
    rw [e]
    refine List.Perm.trans ?_ (hl.append hr)
    simp only [List.append_assoc]
    refine List.Perm.append_left _ ?_
    rw [← List.append_assoc, ← List.append_assoc]
    exact List.Perm.append_right _ List.perm_append_comm
theorem bare_anew (b : Bk) : ∀ (h : Hg) (k : Nat), (h.anew b k).bare = h.bare
  | .tip d y n, k => rfl
  | .knot w l r, k => by simp [Hg.anew, Hg.bare, bare_anew b l, bare_anew b r]
theorem tips_turn : ∀ (h : Hg) (i : Int), (h.turn i).tips = h.tips
  | .tip _ _ _, _ => rfl
  | .knot k l r, i => by
    unfold Hg.turn
    split
    · rfl
    split
    · rfl
    · simp [Hg.tips, tips_turn l, tips_turn r]
end Nl
/-! Q4: the law's loft is a net at each step -/
namespace Nl
open PySem Sm
theorem tipsL_cons (h : Hg) (l : List Hg) : tipsL (h :: l) = h.tips ++ tipsL l := rfl
theorem tipsL_app (l m : List Hg) : tipsL (l ++ m) = tipsL l ++ tipsL m := List.flatMap_append
theorem tipsS_cons (p : Hg × Hg) (l : List (Hg × Hg)) : tipsS (p :: l) = tipsP p ++ tipsS l := rfl
theorem tie_tips {L : Lo} {i j : Nat} (hij : i ≠ j) {a b : Hg} (ha : L.hs[i]? = some a) (hb : L.hs[j]? = some b) {w : Bool} {mi mj spot : Int} : (tipsL (L.tie i j (.knot w a b) mi mj spot).hs).Perm (tipsL L.hs) := by
  have h1 := tipsL_perm (sel_perm hij ha hb)
  have h2 := tipsL_perm (ins_perm (sel L.hs (keep L.hs.length i j)) (L.spot i j spot) (.knot w a b))
  rw [tipsL_cons] at h2
  rw [tipsL_cons, tipsL_cons] at h1
  refine h2.trans (List.Perm.trans ?_ h1.symm)
  simp only [Hg.tips, List.append_assoc]
  exact .refl _
theorem Lo.Net.cord {L : Lo} (h : L.Net) (x : Int) : (L.cord x).Net := by
  obtain ⟨ok, ⟨ys, hy, p⟩, mir⟩ := h
  refine ⟨⟨ok.lo, ok.step⟩, ⟨ys ++ [dyeS (x / 7)], by simp [Lo.cord, Bk.up, hy], ?_⟩, mir⟩
  have e : cordTips (L.cord x).bk 0 (ys ++ [dyeS (x / 7)]) = cordTips L.bk 0 ys ++ [.tip false (dyeS (x / 7)) (L.bk.num L.bk.n), .tip true (dyeS (x / 7)) (L.bk.num L.bk.n)] := by
    have e0 : ∀ (zs : List Str) (k : Nat), cordTips (L.cord x).bk k zs = cordTips L.bk k zs := by
      intro zs
      induction zs with
      | nil => intro k; rfl
      | cons z zs ih => intro k; simp only [cordTips, ih]; rfl
    rw [e0, cordTips_app]
    simp [cordTips, hy]
  rw [e]
  simp only [allT, Lo.cord, tipsL_app, List.append_assoc]
  have p2 := p
  simp only [allT] at p2
  have sw : (tipsL [Hg.tip (decide (x / 7 % 2 = 1)) (dyeS (x / 7)) (L.bk.num L.bk.n), .tip (!decide (x / 7 % 2 = 1)) (dyeS (x / 7)) (L.bk.num L.bk.n)]).Perm [.tip false (dyeS (x / 7)) (L.bk.num L.bk.n), .tip true (dyeS (x / 7)) (L.bk.num L.bk.n)] := by
    by_cases q : x / 7 % 2 = 1
    · simp only [q, decide_true, Bool.not_true]; exact .swap _ _ _
    · simp only [q, decide_false, Bool.not_false]; exact .refl _
  refine List.Perm.trans (List.Perm.append_left _ List.perm_append_comm) ?_
  rw [← List.append_assoc]
  exact p2.append sw
theorem Lo.Net.tie {L : Lo} (h : L.Net) {i j : Nat} (hij : i ≠ j) {a b : Hg} (ha : L.hs[i]? = some a) (hb : L.hs[j]? = some b) {w : Bool} {mi mj spot : Int} : (L.tie i j (.knot w a b) mi mj spot).Net := by
  obtain ⟨ok, ⟨ys, hy, p⟩, mir⟩ := h
  exact ⟨ok, ⟨ys, hy, ((tie_tips hij ha hb).append_right _).trans p⟩, mir⟩
theorem tipsL_set {l : List Hg} {i : Nat} {a b : Hg} (h : l[i]? = some a) : (a.tips ++ tipsL (l.set i b)).Perm (b.tips ++ tipsL l) := by
  have := tipsL_perm (set_perm (b := b) h)
  rwa [tipsL_cons, tipsL_cons] at this
theorem Lo.Net.turn {L : Lo} (h : L.Net) {i : Nat} {a : Hg} (ha : L.hs[i]? = some a) (t : Int) : (L.put i (a.turn t)).Net := by
  obtain ⟨ok, ⟨ys, hy, p⟩, mir⟩ := h
  refine ⟨ok, ⟨ys, hy, List.Perm.trans (List.Perm.append_right _ ?_) p⟩, mir⟩
  have := tipsL_set (b := a.turn t) ha
  rw [tips_turn] at this
  exact (List.perm_append_left_iff _).mp this
theorem Lo.Net.splice {L : Lo} (h : L.Net) (h1 : 1 ≤ L.hs.length) (x : Int) (good : Bool) : (L.splice x good).Net := by
  obtain ⟨ok, ⟨ys, hy, p⟩, mir⟩ := h
  have hi := (Lo.at_lt (L := L) (by omega) (x / 7)).1
  have gh := getD_get hi default
  unfold Lo.splice
  simp only
  generalize hh0 : L.hs.getD (L.at (x / 7)) default = h0 at *
  have ta := tips_anew L.bk h0 L.bk.n
  have ba := bare_anew L.bk h0 L.bk.n
  have nf : (h0.anew L.bk L.bk.n).nt = h0.nt := Hg.nt_anew _ _ _
  generalize hds : (h0.tips.map fun t => match t with
    | .tip _ y _ => y
    | _ => ⟨#[]⟩) = ds at *
  have hdl : ds.length = h0.nt := by rw [← hds, List.length_map]; rfl
  generalize h0.anew L.bk L.bk.n = far at *
  -- the splices
  have ts : (tipsS (L.spl x far h0)).Perm ((h0.tips ++ far.mir.tips) ++ tipsS L.sp) := by
    unfold Lo.spl
    refine (tipsS_perm (ins_perm _ _ _)).trans ?_
    rw [tipsS_cons]
    refine List.Perm.append_right _ ?_
    split
    · exact List.perm_append_comm
    · exact .refl _
  have ms : ∀ p ∈ L.spl x far h0, p.1.mirs p.2 = true := by
    intro p hp
    unfold Lo.spl at hp
    rcases mem_ins hp with q | rfl
    · exact mir p q
    · have e1 : h0.mirs far.mir = true := by
        rw [Hg.mirs_bare, bare_mir, bare_mir, ba]; simp
      split
      · rw [mirs_symm]; exact e1
      · exact e1
  have all : ∀ hs : List Hg, (h0.tips ++ tipsL hs).Perm (far.tips ++ tipsL L.hs) → (allT hs (L.spl x far h0)).Perm (cordTips (L.bk.up h0.nt) 0 (ys ++ ds)) := by
    intro hs hp
    have e0 : ∀ (zs : List Str) (k : Nat), cordTips (L.bk.up h0.nt) k zs = cordTips L.bk k zs := by
      intro zs
      induction zs with
      | nil => intro k; rfl
      | cons z zs ih => intro k; simp only [cordTips, ih]; rfl
    rw [e0, cordTips_app, hy, Nat.zero_add]
    refine List.Perm.trans ?_ (p.append ta)
    -- hs ++ (h0 ++ far.mir ++ sp)  ~  (L.hs ++ sp) ++ (far ++ far.mir)
    unfold allT
    refine (List.Perm.append_left _ ts).trans ?_
    have s1 : (tipsL hs ++ ((h0.tips ++ far.mir.tips) ++ tipsS L.sp)).Perm ((h0.tips ++ tipsL hs) ++ (far.mir.tips ++ tipsS L.sp)) := by
      rw [List.append_assoc h0.tips, ← List.append_assoc (tipsL hs), List.append_assoc h0.tips (tipsL hs), ← List.append_assoc h0.tips (tipsL hs)]
      exact List.Perm.append_right _ List.perm_append_comm
    refine s1.trans ((hp.append_right _).trans ?_)
    have s2 : ((far.tips ++ tipsL L.hs) ++ (far.mir.tips ++ tipsS L.sp)).Perm ((tipsL L.hs ++ far.tips) ++ (tipsS L.sp ++ far.mir.tips)) := List.perm_append_comm.append List.perm_append_comm
    refine s2.trans ?_
    rw [List.append_assoc, List.append_assoc]
    refine List.Perm.append_left _ ?_
    rw [← List.append_assoc, ← List.append_assoc]
    exact List.Perm.append_right _ List.perm_append_comm
  have len : (ys ++ ds).length = (L.bk.up h0.nt).n := by simp [Bk.up, hy, hdl]
  have set := tipsL_set (b := far) gh
  cases far with
  | tip d y k => exact ⟨⟨ok.lo, ok.step⟩, ⟨ys ++ ds, len, all _ set⟩, ms⟩
  | knot w l r =>
    simp only
    split
    · refine ⟨⟨ok.lo, ok.step⟩, ⟨ys ++ ds, len, all _ ?_⟩, ms⟩
      have q1 := tipsL_perm (ins_perm (L.hs.set (L.at (x / 7)) l) (L.at (x / 7) + 1) r)
      rw [tipsL_cons] at q1
      have q2 := tipsL_set (b := l) gh
      refine (List.Perm.append_left _ q1).trans ?_
      have q3 : (h0.tips ++ (r.tips ++ tipsL (L.hs.set (L.at (x / 7)) l))).Perm (r.tips ++ (h0.tips ++ tipsL (L.hs.set (L.at (x / 7)) l))) := by
        rw [← List.append_assoc, ← List.append_assoc]
        exact List.Perm.append_right _ List.perm_append_comm
      refine q3.trans ((List.Perm.append_left _ q2).trans ?_)
      simp only [Hg.tips]
      rw [← List.append_assoc]
      exact List.Perm.append_right _ List.perm_append_comm
    · exact ⟨⟨ok.lo, ok.step⟩, ⟨ys ++ ds, len, all _ set⟩, ms⟩
theorem Lo.Net.step {L : Lo} (h : L.Net) (good : Bool) (x : Int) : (L.step good x).Net := by
  unfold Lo.step
  split
  · exact h.cord x
  next q =>
    split
    · exact h.splice (by omega) x good
    · exact h.tie (Lo.at2_ne (by omega) x) (getD_get (Lo.at_lt (by omega) _).1 _) (getD_get (Lo.at2_lt (by omega) _) _)
theorem fold_net (good : Bool) : ∀ (xs : List Int) (L : Lo), L.Net → (xs.foldl (Lo.step good) L).Net
  | [], _, h => h
  | x :: xs, L, h => fold_net good xs _ (h.step good x)
theorem loftL_net (ns : List Int) (first most : Nat) (good : Bool) : (loftL ns first most good).Net :=
  fold_net good _ _ ⟨bookOf_ok _, ⟨[], rfl, .refl _⟩, fun p hp => by simp [loft0] at hp⟩
theorem kept_net : Kept2 Lo.Net where
  cord := fun L x h => h.cord x
  tie := fun L i j a b mi mj spot h hij ha hb _ _ => h.tie hij ha hb
  turn := fun L i h t hn hi => hn.turn hi t
end Nl
/-! R5: nets made -/
namespace Nl
open PySem Sm
variable {T : Nat → Option Body}
@[simp] theorem w13 : (Str.ofString "rack" = Str.ofString "splices") = False := eq_false (by decide +kernel)
@[simp] theorem w14 : (Str.ofString "rack" = Str.ofString "rings") = False := eq_false (by decide +kernel)
@[simp] theorem w15 : (Str.ofString "splices" = Str.ofString "rings") = False := eq_false (by decide +kernel)
@[simp] theorem w16 : (Str.ofString "splices" = Str.ofString "rack") = False := eq_false (by decide +kernel)
@[simp] theorem w17 : (Str.ofString "rings" = Str.ofString "rack") = False := eq_false (by decide +kernel)
@[simp] theorem w18 : (Str.ofString "rings" = Str.ofString "splices") = False := eq_false (by decide +kernel)
def netF : List Str := ["rack", "splices", "rings"]
def netD (hs : List Hg) (sp : List (Hg × Hg)) (rings : Int) : D := .obj 7 netF [.lst (hs.map ofH), .lst (sp.map ofP), .int rings]
theorem fld_obj {S : Store} {c : Nat} {f : Str} {ns : List Str} {ds : List D} {r : D} (h : (ns.zip ds).lookup f = some r) : oFld c f S (.obj c ns ds) = .ok r S := by
  unfold oFld
  simp [h]
theorem fld_cell {S : Store} {n c : Nat} {f : Str} {ns : List Str} {ds : List D} {r : D} (hS : S[n]? = some (.ins c ns ds)) (h : (ns.zip ds).lookup f = some r) : oFld c f S (.cell n) = .ok r S := by
  unfold oFld
  have : objOf S (.cell n) = some (c, ns, ds) := by
    show (match S[n]? with
    | some (.ins c ns ds) => some (c, ns, ds)
    | _ => none) = _
    rw [hS]
  simp [this, h]
theorem lk_rack (a b c : D) : (netF.zip [a, b, c]).lookup (Str.ofString "rack") = some a := by simp [netF, List.lookup]
theorem lk_spl (a b c : D) : (netF.zip [a, b, c]).lookup (Str.ofString "splices") = some b := by
  have : (Str.ofString "splices" == Str.ofString "rack") = false := beq_eq_false_iff_ne.mpr (by simp)
  simp [netF, List.lookup, this]
theorem lk_rings (a b c : D) : (netF.zip [a, b, c]).lookup (Str.ofString "rings") = some c := by
  have h1 : (Str.ofString "rings" == Str.ofString "rack") = false := beq_eq_false_iff_ne.mpr (by simp)
  have h2 : (Str.ofString "rings" == Str.ofString "splices") = false := beq_eq_false_iff_ne.mpr (by simp)
  simp [netF, List.lookup, h1, h2]
@[simp] theorem net_rack (S : Store) (hs : List Hg) (sp : List (Hg × Hg)) (r : Int) : oFld 7 "rack" S (netD hs sp r) = .ok (.lst (hs.map ofH)) S := fld_obj (lk_rack _ _ _)
@[simp] theorem net_spl (S : Store) (hs : List Hg) (sp : List (Hg × Hg)) (r : Int) : oFld 7 "splices" S (netD hs sp r) = .ok (.lst (sp.map ofP)) S := fld_obj (lk_spl _ _ _)
@[simp] theorem net_rings (S : Store) (hs : List Hg) (sp : List (Hg × Hg)) (r : Int) : oFld 7 "rings" S (netD hs sp r) = .ok (.int r) S := fld_obj (lk_rings _ _ _)
@[simp] theorem net_is (S : Store) (hs : List Hg) (sp : List (Hg × Hg)) (r : Int) : oIsC 7 S (netD hs sp r) = .ok (.bl true) S := by
  unfold oIsC netD
  simp
/-! ### the program's tips -/
theorem e_p_tips (c0 : T f_p_is_tip = some b_p_is_tip) (c : T f_p_tips = some b_p_tips) : ∀ (h : Hg) {N : Nat} (_ : h.depth + 3 ≤ N) (_ : h.nt ≤ sizeLine) (S : Store), ev T N f_p_tips [ofH h] S = .ok (ofL h.tips) S
  | .tip d y k, N, hN, _, S => by
    obtain ⟨n, rfl, _⟩ := two_up 1 (N := N) (by omega)
    have t1 := e_p_is_tip c0 (.tip d y k) (N := n + 1) (by omega) S
    rw [ev_s c]
    simp at t1
    simp [step1, b_p_tips, t1, Hg.isTip, Hg.tips, ofL]
  | .knot k l r, N, hN, hz, S => by
    obtain ⟨n, rfl, hl, hr, _⟩ := dl 2 hN (by omega)
    have t1 := e_p_is_tip c0 (.knot k l r) (N := n + 1) (by omega) S
    rw [Hg.nt_knot] at hz
    have h1 := e_p_tips c0 c l (N := n + 1) (by omega) (by omega) S
    have h2 := e_p_tips c0 c r (N := n + 1) (by omega) (by omega) S
    have z : l.tips.length + r.tips.length ≤ sizeLine := hz
    rw [ev_s c]
    simp at t1
    simp [step1, b_p_tips, t1, h1, h2, Hg.isTip, Hg.tips, ofL, z]
theorem cl_H (n : Nat) : ∀ h : Hg, Cl n (ofH h)
  | .tip d y k => by simp [ofH, Cl, ClL]
  | .knot k l r => by simp [ofH, Cl, ClL, cl_H n l, cl_H n r]
theorem cl_map {A : Type} {f : A → D} {n : Nat} (h : ∀ a, Cl n (f a)) : ∀ l : List A, ClL n (l.map f)
  | [] => trivial
  | a :: l => ⟨h a, cl_map h l⟩
theorem cl_P (n : Nat) (p : Hg × Hg) : Cl n (ofP p) := by simp [ofP, Cl, ClL, cl_H]
theorem tipsL_len (l : List Hg) : (tipsL l).length = nts l := by
  induction l with
  | nil => rfl
  | cons h l ih => rw [tipsL_cons, nts_cons, List.length_append, ih]; rfl
theorem take_app {A : Type} (S X : List A) : (S ++ X).take S.length = S := List.take_left'  rfl
/-- the tips of some hangs -/
theorem e_p_all_tips (c0 : T f_p_is_tip = some b_p_is_tip) (c1 : T f_p_tips = some b_p_tips) (c : T f_p_all_tips = some b_p_all_tips) (hs : List Hg) {d : D} (hi : ∀ S, itemsA [d] S = some (hs.map fun h => [ofH h])) (hd : ∀ h ∈ hs, h.depth ≤ 100) (hz : nts hs ≤ 1000000) {N : Nat} (hN : 110 ≤ N) (S : Store) :
    ev T N f_p_all_tips [d] S = .ok (.cell S.length) (S ++ [.lst ((tipsL hs).map ofH)]) := by
  obtain ⟨n, rfl, _⟩ := two_up 108 (N := N) hN
  rw [ev_s c]
  simp [step1, b_p_all_tips]
  rw [for_src (src := [d]) (by simp; rfl) hi]
  generalize hz0 : forV _ _ _ _ _ = zz
  obtain ⟨r, S1, h1, ⟨o, rfl⟩, rfl, hl⟩ := forV_z hz0 (fun (u : List Hg) (h : Hg) => u ++ h.tips)
    (fun i u ρ S1 => (∃ o, ρ = [some d, some (.cell S.length), o]) ∧ S1 = S ++ [.lst (u.map ofH)] ∧ u = tipsL (hs.take i)) (st := []) ⟨⟨none, rfl⟩, rfl, rfl⟩
    (by
      rintro i u h ρ S1 hx ⟨⟨o, rfl⟩, rfl, hu⟩
      have mh := List.mem_of_getElem? hx
      have dh := hd h mh
      have nh := nts_mem mh
      have t1 := e_p_tips c0 c1 h (N := n + 1) (by omega) (Nat.le_trans (by omega : h.nt ≤ 1000000) (by decide)) (S ++ [.lst (u.map ofH)])
      have hu2 : u ++ h.tips = tipsL (hs.take (i + 1)) := by rw [List.take_add_one, hx, tipsL_app, hu]; simp [tipsL]
      have ln : (u ++ h.tips).length ≤ sizeLine := by
        rw [hu2, tipsL_len]
        have : nts (hs.take (i + 1)) ≤ nts hs := by
          have e := nts_app (hs.take (i + 1)) (hs.drop (i + 1))
          rw [List.take_append_drop] at e; omega
        exact Nat.le_trans this (Nat.le_trans hz (by decide))
      rw [List.length_append] at ln
      exact ⟨_, S ++ [.lst ((u ++ h.tips).map ofH)], by simp [setAll, t1, ofL, ln]; rfl, ⟨_, rfl⟩, rfl, hu2⟩)
  subst h1
  have e : hs.foldl (fun (u : List Hg) (h : Hg) => u ++ h.tips) [] = tipsL hs := by
    rw [hl]; simp
  rw [e]
  simp
structure NetFns (T : Nat → Option Body) : Prop where
  is_tip : T f_p_is_tip = some b_p_is_tip
  tips : T f_p_tips = some b_p_tips
  all_tips : T f_p_all_tips = some b_p_all_tips
  mirrors : T f_p_mirrors = some b_p_mirrors
  net_tips : T f_p_net_tips = some b_p_net_tips
  check_cords : T f_p_check_cords = some b_p_check_cords
  init : T f_p_Net_init = some b_p_Net_init
/-- what of a net's hangs the program must be able to bear -/
structure Small (hs : List Hg) (sp : List (Hg × Hg)) : Prop where
  dh : ∀ h ∈ hs, h.depth ≤ 100
  dp : ∀ p ∈ sp, p.1.depth ≤ 100 ∧ p.2.depth ≤ 100
  z : (allT hs sp).length ≤ 1000000
  zs : hs.length ≤ 1000000 ∧ sp.length ≤ 1000000
/-- the tips of a net; d: the net, as an object or a cell -/
theorem e_p_net_tips (c : NetFns T) (hs : List Hg) (sp : List (Hg × Hg)) (sm : Small hs sp) {d : D} {S : Store} (h1 : ∀ X, oFld 7 "rack" (S ++ X) d = .ok (.lst (hs.map ofH)) (S ++ X)) (h2 : ∀ X, oFld 7 "splices" (S ++ X) d = .ok (.lst (sp.map ofP)) (S ++ X)) {N : Nat} (hN : 112 ≤ N) :
    ev T N f_p_net_tips [d] S = .ok (ofL (allT hs sp)) S := by
  obtain ⟨n, rfl, _⟩ := two_up 110 (N := N) hN
  rw [ev_s c.net_tips]
  have h10 := h1 []
  rw [List.append_nil] at h10
  have zl : nts hs ≤ 1000000 := by
    have := sm.z
    unfold allT at this
    rw [List.length_append, tipsL_len] at this; omega
  have t1 := e_p_all_tips c.is_tip c.tips c.all_tips hs (d := .lst (hs.map ofH)) (fun S => by rw [itA_lst, ones_map]) sm.dh zl (N := n + 1) (by omega) S
  simp [step1, b_p_net_tips, h10, t1]
  have h2' := h2 [.lst ((tipsL hs).map ofH)]
  rw [for_src (src := [.lst (sp.map ofP)]) (by simp [h2']; rfl) (fun S => itA_lst _ S), ones_map]
  generalize hz0 : forV _ _ _ _ _ = zz
  obtain ⟨r, S1, e1, ⟨o, rfl⟩, ⟨X, rfl⟩, hl⟩ := forV_z hz0 (fun (u : List Hg) (p : Hg × Hg) => u ++ tipsP p)
    (fun i u ρ S1 => (∃ o, ρ = [some d, some (.cell S.length), o]) ∧ (∃ X, S1 = S ++ .lst (u.map ofH) :: X) ∧ u = tipsL hs ++ tipsS (sp.take i)) (st := tipsL hs) ⟨⟨none, rfl⟩, ⟨[], rfl⟩, by simp [tipsS]⟩
    (by
      rintro i u p ρ S1 hx ⟨⟨o, rfl⟩, ⟨X, rfl⟩, hu⟩
      have mp := List.mem_of_getElem? hx
      have dp := sm.dp p mp
      have hu2 : u ++ tipsP p = tipsL hs ++ tipsS (sp.take (i + 1)) := by rw [List.take_add_one, hx, hu]; simp [tipsS]
      have ln : (u ++ tipsP p).length ≤ 1000000 := by
        rw [hu2]
        refine Nat.le_trans ?_ sm.z
        unfold allT
        rw [List.length_append, List.length_append]
        have e := congrArg List.length (show tipsS (sp.take (i + 1)) ++ tipsS (sp.drop (i + 1)) = tipsS sp by unfold tipsS; rw [← List.flatMap_append, List.take_append_drop])
        rw [List.length_append] at e; omega
      have ln2 : (u ++ tipsP p).length ≤ sizeLine := Nat.le_trans ln (by decide)
      have lp : nts [p.1, p.2] ≤ 1000000 := by
        rw [List.length_append] at ln
        have : (tipsP p).length = nts [p.1, p.2] := by simp [tipsP, nts, Hg.nt]
        omega
      have t2 := e_p_all_tips c.is_tip c.tips c.all_tips [p.1, p.2] (d := ofP p) (fun S => itA_tup (ds := [ofH p.1, ofH p.2]) (show 2 ≤ sizeLine by decide) S) (fun h hh => by
          simp at hh
          rcases hh with rfl | rfl
          · exact dp.1
          · exact dp.2) lp (N := n + 1) (by omega) (S ++ .lst (u.map ofH) :: X)
      have e2 : tipsL [p.1, p.2] = tipsP p := by simp [tipsL, tipsP]
      rw [e2] at t2
      rw [List.length_append] at ln2
      refine ⟨[some d, some (.cell S.length), some (ofP p)], S ++ .lst ((u ++ tipsP p).map ofH) :: (X ++ [.lst ((tipsP p).map ofH)]), ?_, ⟨_, rfl⟩, ⟨_, rfl⟩, hu2⟩
      simp at t2
      simp [setAll, t2, ln2])
  subst e1
  have e : sp.foldl (fun (u : List Hg) (p : Hg × Hg) => u ++ tipsP p) (tipsL hs) = allT hs sp := by
    rw [hl]; simp [allT]
  rw [e]
  simp
  exact fin_frz (by simp) (take_app _ _) (Nat.le_refl _) (cl_map (cl_H _) _)
/-! ### cords checked -/
def dictOf (l : List (Int × Str)) : List (L2.Key × D) := l.map fun p => (.inl p.1, .str p.2)
theorem val_none {l : List (Int × Str)} {n : Int} (h : n ∉ l.map (·.1)) : valK (dictOf l) (.inl n) = none := by
  induction l with
  | nil => rfl
  | cons p l ih =>
    simp at h
    have h1 : ¬ ((Sum.inl p.1 : L2.Key) = Sum.inl n) := by simp; exact fun z => h.1 z.symm
    have : valK (dictOf (p :: l)) (.inl n) = valK (dictOf l) (.inl n) := by simp [valK, dictOf, h1]
    rw [this]
    exact ih (by simpa using h.2)
theorem val_some {l : List (Int × Str)} {n : Int} {y : Str} (nd : (l.map (·.1)).Nodup) (h : (n, y) ∈ l) : valK (dictOf l) (.inl n) = some (.str y) := by
  induction l with
  | nil => cases h
  | cons p l ih =>
    rw [List.map_cons, List.nodup_cons] at nd
    rcases List.mem_cons.mp h with e | e
    · subst e; simp [valK, dictOf]
    · have : p.1 ≠ n := fun z => nd.1 (by rw [z]; exact List.mem_map.mpr ⟨_, e, rfl⟩)
      have h1 : ¬ ((Sum.inl p.1 : L2.Key) = Sum.inl n) := by simpa using this
      have e2 : valK (dictOf (p :: l)) (.inl n) = valK (dictOf l) (.inl n) := by simp [valK, dictOf, h1]
      rw [e2]
      exact ih nd.2 e
theorem put_new {l : List (Int × Str)} {n : Int} (y : Str) (h : n ∉ l.map (·.1)) : putG (dictOf l) (.inl n) (.str y) = dictOf (l ++ [(n, y)]) := by
  have : (dictOf l).any (fun kv => decide (kv.1 = .inl n)) = false := by
    rw [List.any_eq_false]
    intro kv hkv
    obtain ⟨p, hp, rfl⟩ := List.mem_map.mp hkv
    simp
    exact fun z => h (by rw [← z]; exact List.mem_map.mpr ⟨p, hp, rfl⟩)
  unfold putG
  rw [this]
  simp [dictOf]
theorem in_dk {S : Store} {m : Nat} {kvs : List (L2.Key × D)} (h : S[m]? = some (.dk kvs)) (n : Int) : oIn S (.int n) (.cell m) = .ok (.bl (valK kvs (.inl n)).isSome) S := by
  unfold oIn oInB
  have h1 : inStr (.int n) (.cell m) = none := rfl
  have h2 : dGet S (.cell m) (.int n) = some (valK kvs (.inl n)) := by simp [dGet, dLook, h, keyOf]
  rw [h1, h2]
theorem hits_all {ls : List (Int × Str)} (nd : (ls.map (·.1)).Nodup) : ∀ ks : List (Int × Str), (∀ p ∈ ks, p ∈ ls) → hitsD (dictOf ls) (dictOf ks) = some true
  | [], _ => rfl
  | (n, y) :: ks, h => by
    have e := val_some nd (h (n, y) List.mem_cons_self)
    have ih := hits_all nd ks fun p hp => h p (List.mem_cons_of_mem _ hp)
    show (match valK (dictOf ls) (.inl n) with
    | none => some false
    | some v => match eqScD (.str y) v, hitsD (dictOf ls) (dictOf ks) with
      | some e, some b => some (e && b)
      | _, _ => none) = _
    rw [e, ih]
    simp [eqScD]
theorem nodup_len {A : Type} [DecidableEq A] : ∀ {l m : List A}, l.Nodup → (∀ a ∈ l, a ∈ m) → l.length ≤ m.length
  | [], _, _, _ => Nat.zero_le _
  | a :: l, m, nd, h => by
    rw [List.nodup_cons] at nd
    have hm := h a List.mem_cons_self
    have p := List.perm_cons_erase hm
    have : ∀ b ∈ l, b ∈ m.erase a := fun b hb => by
      have := p.mem_iff.mp (h b (List.mem_cons_of_mem _ hb))
      rcases List.mem_cons.mp this with e | e
      · subst e; exact absurd hb nd.1
      · exact e
    have := nodup_len nd.2 this
    have e := p.length_eq
    simp at e ⊢; omega
theorem nodup_of_map {A B : Type} {f : A → B} : ∀ {l : List A}, (l.map f).Nodup → l.Nodup
  | [], _ => List.nodup_nil
  | a :: l, h => by
    rw [List.map_cons, List.nodup_cons] at h
    exact List.nodup_cons.mpr ⟨fun z => h.1 (List.mem_map.mpr ⟨a, z, rfl⟩), nodup_of_map h.2⟩
theorem Fits.len {ts : List Hg} (h : Fits ts) : (lightsOf ts).length = (darksOf ts).length :=
  Nat.le_antisymm (nodup_len (nodup_of_map h.ln) fun a ha => (h.mate a).mp ha) (nodup_len (nodup_of_map h.dn) fun a ha => (h.mate a).mpr ha)
theorem lights_len (l : List Hg) : (lightsOf l).length ≤ l.length := by
  induction l with
  | nil => exact Nat.le_refl _
  | cons a l ih =>
    cases a with
    | tip d y n => cases d <;> simp [lightsOf] <;> omega
    | knot k x y => simp [lightsOf]; omega
theorem darks_len (l : List Hg) : (darksOf l).length ≤ l.length := by
  induction l with
  | nil => exact Nat.le_refl _
  | cons a l ih =>
    cases a with
    | tip d y n => cases d <;> simp [darksOf] <;> omega
    | knot k x y => simp [darksOf]; omega
theorem dict_len (l : List (Int × Str)) : (dictOf l).length = l.length := by simp [dictOf]
theorem e_p_check_cords (c : T f_p_check_cords = some b_p_check_cords) {ts : List Hg} (ft : Fits ts) (hz : ts.length ≤ 1000000) {N : Nat} (hN : 2 ≤ N) (S : Store) : ev T N f_p_check_cords [.lst (ts.map ofH)] S = .ok .non S := by
  obtain ⟨n, rfl, _⟩ := two_up 0 (N := N) hN
  rw [ev_s c]
  simp [step1, b_p_check_cords]
  rw [for_src (src := [.lst (ts.map ofH)]) (by simp; rfl) (fun S => itA_lst _ S), ones_map]
  generalize hz0 : forV _ _ _ _ _ = zz
  obtain ⟨r, S1, e1, ⟨o3, o4, rfl⟩, rfl⟩ := forV_z hz0 (fun (u : Unit) (_ : Hg) => u)
    (fun i _ ρ S1 => (∃ o3 o4, ρ = [some (.lst (ts.map ofH)), some (.cell S.length), some (.cell (S.length + 1)), o3, o4]) ∧ S1 = S ++ [.dk (dictOf (lightsOf (ts.take i))), .dk (dictOf (darksOf (ts.take i)))]) (st := ()) ⟨⟨none, none, rfl⟩, by simp [lightsOf, darksOf, dictOf]⟩
    (by
      rintro i _ t ρ S1 hx ⟨⟨o3, o4, rfl⟩, rfl⟩
      have ht := ft.tip t (List.mem_of_getElem? hx)
      have hi := lt_of_get hx
      have tk : ts.take (i + 1) = ts.take i ++ [t] := by rw [List.take_add_one, hx]; rfl
      have full : ts.take i ++ (t :: ts.drop (i + 1)) = ts := by
        have := List.take_append_drop i ts
        rw [List.drop_eq_getElem_cons hi] at this
        rw [List.getElem?_eq_getElem hi] at hx
        cases hx
        exact this
      have l1 := lights_len (ts.take i)
      have l2 := darks_len (ts.take i)
      have l3 : (ts.take i).length ≤ ts.length := by rw [List.length_take]; omega
      have z1 : (dictOf (lightsOf (ts.take i))).length < sizeLine := by rw [dict_len]; exact Nat.lt_of_le_of_lt (by omega : _ ≤ 1000000) (by decide)
      have z2 : (dictOf (darksOf (ts.take i))).length < sizeLine := by rw [dict_len]; exact Nat.lt_of_le_of_lt (by omega : _ ≤ 1000000) (by decide)
      cases t with
      | knot _ _ _ => cases ht
      | tip d y m =>
        cases d with
        | false =>
          have nn : m ∉ (lightsOf (ts.take i)).map (·.1) := by
            have := ft.ln
            rw [← full, lights_app, List.map_append, List.nodup_append] at this
            intro hm
            exact this.2.2 m hm m (by simp [lightsOf]) rfl
          have vn := val_none nn
          have pn := put_new y nn
          have ik := in_dk (S := S ++ [.dk (dictOf (lightsOf (ts.take i))), .dk (dictOf (darksOf (ts.take i)))]) (m := S.length) (kvs := dictOf (lightsOf (ts.take i))) (by simp) m
          rw [vn] at ik
          refine ⟨[some (.lst (ts.map ofH)), some (.cell S.length), some (.cell (S.length + 1)), some (ofH (.tip false y m)), some (.cell S.length)], _, by simp [setAll, ik, keyOf, z1, pn]; rfl, ⟨_, _, rfl⟩, ?_⟩
          rw [tk, lights_app, darks_app]
          simp [lightsOf, darksOf]
        | true =>
          have nn : m ∉ (darksOf (ts.take i)).map (·.1) := by
            have := ft.dn
            rw [← full, darks_app, List.map_append, List.nodup_append] at this
            intro hm
            exact this.2.2 m hm m (by simp [darksOf]) rfl
          have vn := val_none nn
          have pn := put_new y nn
          have ik := in_dk (S := S ++ [.dk (dictOf (lightsOf (ts.take i))), .dk (dictOf (darksOf (ts.take i)))]) (m := S.length + 1) (kvs := dictOf (darksOf (ts.take i))) (by simp) m
          rw [vn] at ik
          refine ⟨[some (.lst (ts.map ofH)), some (.cell S.length), some (.cell (S.length + 1)), some (ofH (.tip true y m)), some (.cell (S.length + 1))], _, by simp [setAll, ik, keyOf, z2, pn]; rfl, ⟨_, _, rfl⟩, ?_⟩
          rw [tk, lights_app, darks_app]
          simp [lightsOf, darksOf])
  subst e1
  have q : oNeX (S ++ [.dk (dictOf (lightsOf (ts.take ts.length))), .dk (dictOf (darksOf (ts.take ts.length)))]) (.cell S.length) (.cell (S.length + 1)) = .ok (.bl false) (S ++ [.dk (dictOf (lightsOf (ts.take ts.length))), .dk (dictOf (darksOf (ts.take ts.length)))]) := by
    unfold oNeX
    have : dEq (S ++ [.dk (dictOf (lightsOf (ts.take ts.length))), .dk (dictOf (darksOf (ts.take ts.length)))]) (.cell S.length) (.cell (S.length + 1)) = some true := by
      simp only [List.take_length]
      unfold dEq
      simp [dkOf, dict_len, ft.len, hits_all ft.dn (lightsOf ts) fun p hp => (ft.mate p).mp hp]
    rw [this]; rfl
  simp at q
  simp [q]
  exact fin_nxT (take_app _ _)
end Nl
/-! R6: nets made and compared -/
namespace Nl
open PySem Sm
variable {T : Nat → Option Body}
def kCI (o : Option MO) (n : Nat) : Option (Nat × Nat × List Str × List D) := match o with
  | some (.ins c ns ds) => some (n, c, ns, ds)
  | _ => none
@[simp] theorem kCI_ins (n c : Nat) (ns : List Str) (ds : List D) : kCI (some (.ins c ns ds)) n = some (n, c, ns, ds) := rfl
@[simp] theorem cellI_c (S : Store) (n : Nat) : Sm.cellI S (.cell n) = kCI (S[n]?) n := by unfold Sm.cellI kCI; rfl
theorem put1 : putN (Str.ofString "rack") [] = [Str.ofString "rack"] := rfl
theorem put2 : putN (Str.ofString "splices") [Str.ofString "rack"] = [Str.ofString "rack", Str.ofString "splices"] := by simp [putN]
theorem put3 : putN (Str.ofString "splices") [Str.ofString "rack", Str.ofString "splices"] = [Str.ofString "rack", Str.ofString "splices"] := by simp [putN]
theorem put4 : putN (Str.ofString "rings") [Str.ofString "rack", Str.ofString "splices"] = netF := by simp [putN, netF]
theorem pud1 (a : D) : putD (Str.ofString "rack") a [] [] = [a] := rfl
theorem pud2 (a b : D) : putD (Str.ofString "splices") b [Str.ofString "rack"] [a] = [a, b] := by simp [putD]
theorem pud3 (a b c : D) : putD (Str.ofString "splices") c [Str.ofString "rack", Str.ofString "splices"] [a, b] = [a, c] := by simp [putD]
theorem pud4 (a b c : D) : putD (Str.ofString "rings") c [Str.ofString "rack", Str.ofString "splices"] [a, b] = [a, b, c] := by simp [putD]
theorem notN_lst (S : Store) (ds : List D) : oNotN S (.lst ds) .non = .ok (.bl true) S := rfl
@[simp] theorem notN_non (S : Store) : oNotN S .non .non = .ok (.bl false) S := rfl
theorem made_ok {S : Store} {ns : List Str} {ds : List D} (h : ClL S.length ds) : made true S (.ok .non (S ++ [.ins 7 ns ds])) = .ok (.obj 7 ns ds) S := by
  unfold made
  simp [h]
/-- the end of Net.__init__: cords and mirrors -/
theorem net_end (c : NetFns T) {hs : List Hg} {sp : List (Hg × Hg)} {rings : Int} (sm : Small hs sp) (ft : Fits (allT hs sp)) (mr : ∀ p ∈ sp, p.1.mirs p.2 = true) {n : Nat} (hN : 111 ≤ n) (S : Store) (o4 o2 : Option D) (o1 o3 : Option D) :
    ∃ r, (sSeq (sDrop (mN (fun S ds => ev T (n + 1) f_p_check_cords ds S) (mCons (mN (fun S ds => ev T (n + 1) f_p_net_tips ds S) (mCons (mV 0) (mNil))) (mNil)))) (sFor (mCons (m1 (oFld 7 "splices") (mV 0)) mNil) itemsA [4] (sIf (mNot (mN (fun S ds => ev T (n + 1) f_p_mirrors ds S) (mCons (m2 oIx (mV 4) (mC (.int 0))) (mCons (m2 oIx (mV 4) (mC (.int 1))) (mNil))))) (sRaise 3) (sNil))))
      [some (.cell S.length), o1, o2, o3, o4] (S ++ [.ins 7 netF [.lst (hs.map ofH), .lst (sp.map ofP), .int rings]]) = .ok (.nx r) (S ++ [.ins 7 netF [.lst (hs.map ofH), .lst (sp.map ofP), .int rings]]) := by
  have g1 : ∀ X, oFld 7 "rack" ((S ++ [.ins 7 netF [.lst (hs.map ofH), .lst (sp.map ofP), .int rings]]) ++ X) (.cell S.length) = .ok (.lst (hs.map ofH)) ((S ++ [.ins 7 netF [.lst (hs.map ofH), .lst (sp.map ofP), .int rings]]) ++ X) := fun X =>
    fld_cell (ns := netF) (ds := [.lst (hs.map ofH), .lst (sp.map ofP), .int rings]) (gapp (by simp) X) (lk_rack _ _ _)
  have g2 : ∀ X, oFld 7 "splices" ((S ++ [.ins 7 netF [.lst (hs.map ofH), .lst (sp.map ofP), .int rings]]) ++ X) (.cell S.length) = .ok (.lst (sp.map ofP)) ((S ++ [.ins 7 netF [.lst (hs.map ofH), .lst (sp.map ofP), .int rings]]) ++ X) := fun X =>
    fld_cell (ns := netF) (ds := [.lst (hs.map ofH), .lst (sp.map ofP), .int rings]) (gapp (by simp) X) (lk_spl _ _ _)
  have t1 := e_p_net_tips c hs sp sm g1 g2 (N := n + 1) (by omega)
  have t2 := e_p_check_cords c.check_cords ft sm.z (N := n + 1) (by omega) (S ++ [.ins 7 netF [.lst (hs.map ofH), .lst (sp.map ofP), .int rings]])
  have g2' := g2 []
  rw [List.append_nil] at g2'
  generalize S ++ [.ins 7 netF [.lst (hs.map ofH), .lst (sp.map ofP), .int rings]] = S1 at *
  simp [t1, ofL, t2]
  rw [for_src (src := [.lst (sp.map ofP)]) (by simp [g2']; rfl) (fun S => itA_lst _ S), ones_map]
  generalize hz0 : forV _ _ _ _ _ = zz
  obtain ⟨r, S2, e1, ⟨o, rfl⟩, rfl⟩ := forV_z hz0 (fun (u : Unit) (_ : Hg × Hg) => u) (fun i _ ρ S2 => (∃ o, ρ = [some (.cell S.length), o1, o2, o3, o]) ∧ S2 = S1) (st := ()) ⟨⟨_, rfl⟩, rfl⟩
    (by
      rintro i _ p ρ S2 hx ⟨⟨o, rfl⟩, rfl⟩
      have mp := List.mem_of_getElem? hx
      have t3 := e_p_mirrors c.is_tip c.mirrors p.1 p.2 (N := n + 1) (by have := (sm.dp p mp).1; omega) S2
      rw [mr p mp] at t3
      exact ⟨[some (.cell S.length), o1, o2, o3, some (ofP p)], S2, by simp [setAll, ofP, t3], ⟨_, rfl⟩, rfl⟩)
  exact ⟨_, e1⟩
/-- a net is made of a rack and splices, handed in as lists or tuples -/
theorem e_net (c : NetFns T) {hs : List Hg} {sp : List (Hg × Hg)} {rings : Int} (sm : Small hs sp) (ft : Fits (allT hs sp)) (mr : ∀ p ∈ sp, p.1.mirs p.2 = true) {rd sd : D} (hr : ∀ S, seqA S rd = some (hs.map ofH)) (hn : ∀ S, oNotN S sd .non = .ok (.bl true) S)
    (hi : ∀ S, itemsA [sd] S = some (sp.map fun p => [ofP p])) {N : Nat} (hN : 113 ≤ N) (S : Store) : made true S (ev T N f_p_Net_init [.cell S.length, rd, sd, .int rings] (S ++ [.ins 7 [] []])) = .ok (netD hs sp rings) S := by
  obtain ⟨n, rfl, _⟩ := two_up 111 (N := N) hN
  rw [ev_s c.init]
  have z1 : hs.length ≤ sizeLine := Nat.le_trans sm.zs.1 (by decide)
  obtain ⟨r, e1⟩ := net_end c (rings := rings) sm ft mr (n := n) (by omega) S none (some sd) (some rd) (some (.int rings))
  have key : step1 b_p_Net_init (ev T (n + 1)) (ev T n) [.cell S.length, rd, sd, .int rings] (S ++ [.ins 7 [] []]) = .ok .non (S ++ [.ins 7 netF [.lst (hs.map ofH), .lst (sp.map ofP), .int rings]]) := by
    simp [step1, b_p_Net_init, oList, hr, hn, z1, put1, put2, pud1, pud2]
    rw [comp_map (d := sd) sp ofP ofP (by simp) (hi _) (fun p _ => by simp [setAll, wipeE, ofP, oTuple])]
    simp [put3, put4, pud3, pud4]
    simp at e1
    rw [e1]
    rfl
  rw [key]
  exact made_ok ⟨cl_map (cl_H _) _, cl_map (cl_P _) _, trivial, trivial⟩
end Nl
/-! R7: nets compared by the laws -/
namespace Nl
open PySem Sm
variable {T : Nat → Option Body}
structure EqFns (T : Nat → Option Body) : Prop where
  whole : T f_l_whole = some b_l_whole
  hang : T f_l_hang = some b_l_hang
  hangs : T f_l_hangs = some b_l_hangs
  pairs : T f_l_pairs = some b_l_pairs
  net : T f_l_net = some b_l_net
theorem itZ {S : Store} {d e : D} {ds es : List D} (h1 : seqL S d = some ds) (h2 : seqL S e = some es) : itemsZ [d, e] S = some (zipD ds es) := by
  show (match seqL S d, seqL S e with
    | some ds, some es => some (zipD ds es)
    | _, _ => none) = _
  rw [h1, h2]
theorem zip_same {A : Type} (f : A → D) : ∀ l : List A, zipD (l.map f) (l.map f) = l.map fun a => [f a, f a]
  | [] => rfl
  | a :: l => by simp only [List.map_cons, zipD, zip_same f l]
def FineL (hs : List Hg) : Prop := ∀ h ∈ hs, h.Fine ∧ h.depth ≤ 60
def FineS (sp : List (Hg × Hg)) : Prop := ∀ p ∈ sp, (p.1.Fine ∧ p.1.depth ≤ 60) ∧ (p.2.Fine ∧ p.2.depth ≤ 60)
theorem len_seq {S : Store} {d : D} {ds : List D} (h : seqL S d = some ds) : oLen S [d] = .ok (.int ds.length) S := by
  cases d with
  | str x => cases h
  | lst es => cases h; rfl
  | scr ns => cases h; simp
  | cell n =>
    rw [seqL_cell] at h
    rw [len_cell]
    cases q : S[n]? with
    | none => rw [q] at h; cases h
    | some mo => cases mo <;> rw [q] at h <;> cases h; rfl
  | _ => cases h
theorem e_l_hangs (c : EqFns T) {hs : List Hg} (hf : FineL hs) {S : Store} {due : D} (hd : seqL S due = some (hs.map ofH)) {N : Nat} (hN : 70 ≤ N) : ev T N f_l_hangs [.lst (hs.map ofH), due] S = .ok (.bl true) S := by
  obtain ⟨n, rfl, _⟩ := two_up 68 (N := N) hN
  rw [ev_s c.hangs]
  have hl := len_seq hd
  rw [List.length_map] at hl
  simp [step1, b_l_hangs, hl]
  rw [for_srcL (src := [.lst (hs.map ofH), due]) (by simp) (itZ rfl hd)]
  generalize hz0 : forL _ _ _ _ _ _ _ = zz
  obtain ⟨r, S2, e1, rfl, o2, o3, rfl⟩ := forL_z hz0 (fun h => [ofH h, ofH h]) hs (zip_same ofH hs) (fun i ρ S2 => S2 = S ∧ ∃ o2 o3, ρ = [some (.lst (hs.map ofH)), some due, o2, o3]) ⟨rfl, _, _, rfl⟩
    (by rintro i ρ S2 ⟨rfl, _⟩; exact itZ rfl hd)
    (by
      rintro i h ρ S2 hx ⟨rfl, o2, o3, rfl⟩
      obtain ⟨fh, dh⟩ := hf h (List.mem_of_getElem? hx)
      have t1 := e_l_hang c.whole c.hang h (N := n + 1) (by omega) S2
      have q := oNe_lay eqF_H (lay_H fh) (lay_H fh) (by omega) (by omega) (S := S2) (deref_H _ _) (deref_H _ _)
      exact ⟨[some (.lst (hs.map ofH)), some due, some (ofH h), some (ofH h)], S2, by simp [setAll, t1, q], rfl, _, _, rfl⟩)
  subst e1
  simp
theorem e_l_pairs (c : EqFns T) {sp : List (Hg × Hg)} (hf : FineS sp) {S : Store} {due : D} (hd : seqL S due = some (sp.map ofP)) {N : Nat} (hN : 72 ≤ N) : ev T N f_l_pairs [.lst (sp.map ofP), due] S = .ok (.bl true) S := by
  obtain ⟨n, rfl, _⟩ := two_up 70 (N := N) hN
  rw [ev_s c.pairs]
  have hl := len_seq hd
  rw [List.length_map] at hl
  simp [step1, b_l_pairs, hl]
  rw [for_srcL (src := [.lst (sp.map ofP), due]) (by simp) (itZ rfl hd)]
  generalize hz0 : forL _ _ _ _ _ _ _ = zz
  obtain ⟨r, S2, e1, rfl, o2, o3, rfl⟩ := forL_z hz0 (fun h => [ofP h, ofP h]) sp (zip_same ofP sp) (fun i ρ S2 => S2 = S ∧ ∃ o2 o3, ρ = [some (.lst (sp.map ofP)), some due, o2, o3]) ⟨rfl, _, _, rfl⟩
    (by rintro i ρ S2 ⟨rfl, _⟩; exact itZ rfl hd)
    (by
      rintro i p ρ S2 hx ⟨rfl, o2, o3, rfl⟩
      obtain ⟨f1, f2⟩ := hf p (List.mem_of_getElem? hx)
      have t1 := e_l_hangs c (hs := [p.1, p.2]) (fun h hh => by
        simp at hh
        rcases hh with rfl | rfl
        · exact f1
        · exact f2) (S := S2) (due := .lst [ofH p.1, ofH p.2]) rfl (N := n + 1) (by omega)
      have t1 : ev T (n + 1) f_l_hangs [.lst [ofH p.1, ofH p.2], .lst [ofH p.1, ofH p.2]] S2 = .ok (.bl true) S2 := t1
      have q2 : 2 ≤ sizeLine := by decide
      exact ⟨[some (.lst (sp.map ofP)), some due, some (ofP p), some (ofP p)], S2, by simp [setAll, ofP, oList, q2, t1], rfl, _, _, rfl⟩)
  subst e1
  simp
theorem e_l_net (c : EqFns T) {hs : List Hg} {sp : List (Hg × Hg)} (hf : FineL hs) (sf : FineS sp) (r : Int) {S : Store} {rd sd : D} (hr : seqL S rd = some (hs.map ofH)) (hd : seqL S sd = some (sp.map ofP)) {N : Nat} (hN : 74 ≤ N) :
    ev T N f_l_net [netD hs sp r, rd, sd, .int r] S = .ok (.bl true) S := by
  obtain ⟨n, rfl, _⟩ := two_up 72 (N := N) hN
  rw [ev_s c.net]
  have t1 := e_l_hangs c hf hr (N := n + 1) (by omega)
  have t2 := e_l_pairs c sf hd (N := n + 1) (by omega)
  have t3 := e_l_whole c.whole r (N := n + 1) (by omega) S
  simp [step1, b_l_net, t1, t2, t3]
/-! ### a loft's net -/
theorem Lo.Inv.fineL {n : Nat} {L : Lo} (h : L.Inv n) (hn : n ≤ 25) : FineL L.hs := fun g hg => ⟨h.fine g hg, by have := h.dep g hg; omega⟩
theorem Lo.Inv.fineS {n : Nat} {L : Lo} (h : L.Inv n) : FineS L.sp := fun p hp => ⟨⟨(h.fsp p hp).1, by have := (h.dsp p hp).1; have := depth_nt p.1; omega⟩, ⟨(h.fsp p hp).2, by have := (h.dsp p hp).2; have := depth_nt p.2; omega⟩⟩
theorem tipsS_len : ∀ {sp : List (Hg × Hg)} {m : Nat}, (∀ p ∈ sp, p.1.nt ≤ m ∧ p.2.nt ≤ m) → (tipsS sp).length ≤ 2 * m * sp.length
  | [], m, _ => Nat.zero_le _
  | p :: sp, m, h => by
    have h1 := h p List.mem_cons_self
    have h2 := tipsS_len (sp := sp) (m := m) fun q hq => h q (List.mem_cons_of_mem _ hq)
    rw [tipsS_cons, List.length_append, List.length_cons]
    have : (tipsP p).length = p.1.nt + p.2.nt := by simp [tipsP, Hg.nt]
    rw [this, Nat.mul_succ]; omega
theorem Lo.Inv.small {n : Nat} {L : Lo} (h : L.Inv n) (hn : n ≤ 25) : Small L.hs L.sp := by
  have z := h.z
  have zs := h.zs
  have t := h.tot
  have ts := tipsS_len (sp := L.sp) (m := 4) h.dsp
  refine ⟨fun g hg => by have := h.dep g hg; omega, fun p hp => by
    have := (h.fineS p hp)
    exact ⟨by omega, by omega⟩, ?_, by omega, by omega⟩
  unfold allT
  rw [List.length_append, tipsL_len]
  have : 2 * 4 * L.sp.length ≤ 8 * 25 := Nat.mul_le_mul (by decide) (by omega)
  omega
end Nl
/-! Q5: drawing a splice -/
namespace Nl
open PySem Sm
structure NetA where
  hs : List Hg
  sp : List (Hg × Hg)
  rings : Int
namespace Hg
def ren (f : Int → Int) : Hg → Hg
  | tip d y n => tip d y (f n)
  | knot k l r => knot k (l.ren f) (r.ren f)
theorem tips_ren (f : Int → Int) : ∀ h : Hg, (h.ren f).tips = h.tips.map (Hg.ren f)
  | tip _ _ _ => rfl
  | knot k l r => by simp [ren, tips, tips_ren f l, tips_ren f r]
theorem bare_ren (f : Int → Int) : ∀ h : Hg, (h.ren f).bare = h.bare
  | tip _ _ _ => rfl
  | knot k l r => by simp [ren, bare, bare_ren f l, bare_ren f r]
theorem mir_ren (f : Int → Int) : ∀ h : Hg, (h.ren f).mir = h.mir.ren f
  | tip _ _ _ => rfl
  | knot k l r => by simp [ren, mir, mir_ren f l, mir_ren f r]
theorem mirs_ren (f g : Int → Int) (h k : Hg) : (h.ren f).mirs (k.ren g) = h.mirs k := by
  rw [mirs_bare, mirs_bare, mir_ren, bare_ren, bare_ren]
theorem depth_ren (f : Int → Int) : ∀ h : Hg, (h.ren f).depth = h.depth
  | tip _ _ _ => rfl
  | knot k l r => by simp [ren, depth, depth_ren f l, depth_ren f r]
end Hg
def renP (f : Int → Int) (p : Hg × Hg) : Hg × Hg := (p.1.ren f, p.2.ren f)
theorem tipsL_ren (f : Int → Int) : ∀ l : List Hg, tipsL (l.map (Hg.ren f)) = (tipsL l).map (Hg.ren f)
  | [] => rfl
  | h :: l => by rw [List.map_cons, tipsL_cons, tipsL_cons, Hg.tips_ren, tipsL_ren f l, List.map_append]
theorem tipsS_ren (f : Int → Int) : ∀ l : List (Hg × Hg), tipsS (l.map (renP f)) = (tipsS l).map (Hg.ren f)
  | [] => rfl
  | p :: l => by rw [List.map_cons, tipsS_cons, tipsS_cons, tipsS_ren f l, List.map_append]; simp [tipsP, renP, Hg.tips_ren]
theorem allT_ren (f : Int → Int) (hs : List Hg) (sp : List (Hg × Hg)) : allT (hs.map (Hg.ren f)) (sp.map (renP f)) = (allT hs sp).map (Hg.ren f) := by
  simp [allT, tipsL_ren, tipsS_ren]
/-- both numbers become the lesser one -/
def both (a b n : Int) : Int := if n = a ∨ n = b then min a b else n
structure NetA.Ok (N : NetA) : Prop where
  fit : Fits (allT N.hs N.sp)
  mir : ∀ p ∈ N.sp, p.1.mirs p.2 = true
theorem lights_ren (f : Int → Int) : ∀ l : List Hg, (∀ t ∈ l, t.isTip = true) → lightsOf (l.map (Hg.ren f)) = (lightsOf l).map fun p => (f p.1, p.2)
  | [], _ => rfl
  | t :: l, h => by
    have ih := lights_ren f l fun x hx => h x (List.mem_cons_of_mem _ hx)
    have ht := h t List.mem_cons_self
    cases t with
    | knot _ _ _ => cases ht
    | tip d y n => cases d <;> simp [Hg.ren, lightsOf, ih]
theorem darks_ren (f : Int → Int) : ∀ l : List Hg, (∀ t ∈ l, t.isTip = true) → darksOf (l.map (Hg.ren f)) = (darksOf l).map fun p => (f p.1, p.2)
  | [], _ => rfl
  | t :: l, h => by
    have ih := darks_ren f l fun x hx => h x (List.mem_cons_of_mem _ hx)
    have ht := h t List.mem_cons_self
    cases t with
    | knot _ _ _ => cases ht
    | tip d y n => cases d <;> simp [Hg.ren, darksOf, ih]
theorem nodup_map_on {A B : Type} {f : A → B} : ∀ {l : List A}, l.Nodup → (∀ a ∈ l, ∀ b ∈ l, f a = f b → a = b) → (l.map f).Nodup
  | [], _, _ => List.nodup_nil
  | a :: l, nd, h => by
    rw [List.nodup_cons] at nd
    rw [List.map_cons, List.nodup_cons]
    refine ⟨fun hm => ?_, nodup_map_on nd.2 fun x hx y hy => h x (List.mem_cons_of_mem _ hx) y (List.mem_cons_of_mem _ hy)⟩
    obtain ⟨b, hb, e⟩ := List.mem_map.mp hm
    have := h b (List.mem_cons_of_mem _ hb) a List.mem_cons_self e
    subst this
    exact nd.1 hb
theorem fst_inj {l : List (Int × Str)} (nd : (l.map (·.1)).Nodup) {n : Int} {y z : Str} (h1 : (n, y) ∈ l) (h2 : (n, z) ∈ l) : y = z := by
  have e1 := val_some nd h1
  rw [val_some nd h2] at e1
  cases e1; rfl
/-- a cord that goes -/
theorem Fits.drop {d : Bool} {y : Str} {n : Int} {ts : List Hg} (h : Fits (.tip d y n :: .tip (!d) y n :: ts)) : Fits ts := by
  obtain ⟨tp, ln, dn, mate⟩ := h
  cases d
  · simp only [Bool.not_false, lightsOf, darksOf, List.map_cons, List.nodup_cons] at ln dn mate
    refine ⟨fun t ht => tp t (by simp [ht]), ln.2, dn.2, fun p => ?_⟩
    have m := mate p
    simp only [List.mem_cons] at m
    constructor
    · intro hp
      rcases m.mp (.inr hp) with e | e
      · exact absurd (List.mem_map.mpr ⟨p, hp, by rw [e]⟩) ln.1
      · exact e
    · intro hp
      rcases m.mpr (.inr hp) with e | e
      · exact absurd (List.mem_map.mpr ⟨p, hp, by rw [e]⟩) dn.1
      · exact e
  · simp only [Bool.not_true, lightsOf, darksOf, List.map_cons, List.nodup_cons] at ln dn mate
    refine ⟨fun t ht => tp t (by simp [ht]), ln.2, dn.2, fun p => ?_⟩
    have m := mate p
    simp only [List.mem_cons] at m
    constructor
    · intro hp
      rcases m.mp (.inr hp) with e | e
      · exact absurd (List.mem_map.mpr ⟨p, hp, by rw [e]⟩) ln.1
      · exact e
    · intro hp
      rcases m.mpr (.inr hp) with e | e
      · exact absurd (List.mem_map.mpr ⟨p, hp, by rw [e]⟩) dn.1
      · exact e
theorem both_l (a b : Int) : both a b a = min a b := by simp [both]
theorem both_r (a b : Int) : both a b b = min a b := by simp [both]
end Nl
/-! R8: hangs renamed, splices drawn -/
namespace Nl
open PySem Sm
variable {T : Nat → Option Body}
/-! ### sizes -/
theorem sp_le_tips : ∀ sp : List (Hg × Hg), sp.length ≤ (tipsS sp).length
  | [] => Nat.le_refl _
  | p :: sp => by
    have := sp_le_tips sp
    rw [tipsS_cons, List.length_append, List.length_cons]
    have e : (tipsP p).length = p.1.nt + p.2.nt := by simp [tipsP, Hg.nt]
    have := p.1.nt_pos
    omega
theorem Small.of {hs : List Hg} {sp : List (Hg × Hg)} (dh : ∀ h ∈ hs, h.depth ≤ 100) (dp : ∀ p ∈ sp, p.1.depth ≤ 100 ∧ p.2.depth ≤ 100) (z : (allT hs sp).length ≤ 1000000) : Small hs sp := by
  refine ⟨dh, dp, z, ?_, ?_⟩
  · have := nts_len hs
    unfold allT at z
    rw [List.length_append, tipsL_len] at z; omega
  · have := sp_le_tips sp
    unfold allT at z
    rw [List.length_append] at z; omega
structure NetA.Fine (N : NetA) : Prop where
  hs : FineL N.hs
  sp : FineS N.sp
theorem NetA.Fine.small {N : NetA} (h : N.Fine) (z : (allT N.hs N.sp).length ≤ 1000000) : Small N.hs N.sp :=
  Small.of (fun g hg => by have := (h.hs g hg).2; omega) (fun p hp => ⟨by have := (h.sp p hp).1.2; omega, by have := (h.sp p hp).2.2; omega⟩) z
/-! ### drawn -/
def NetA.d (N : NetA) : D := netD N.hs N.sp N.rings
theorem e_net' (c : NetFns T) {N : NetA} (ok : N.Ok) (fn : N.Fine) (z : (allT N.hs N.sp).length ≤ 1000000) {n : Nat} (hn : 113 ≤ n) (S : Store) :
    made true S (ev T n f_p_Net_init [.cell S.length, .lst (N.hs.map ofH), .lst (N.sp.map ofP), .int N.rings] (S ++ [.ins 7 [] []])) = .ok N.d S :=
  e_net c (fn.small z) ok.fit ok.mir (fun _ => rfl) (fun _ => rfl) (fun S => by rw [itA_lst, ones_map]) hn S
end Nl
/-! R9: a splice drawn -/
namespace Nl
open PySem Sm
variable {T : Nat → Option Body}
theorem cutD_from1 {A : Type} (l : List A) (i : Nat) : cutD l (some ((i : Int) + 1)) none = l.drop (i + 1) := by
  have := cutD_from l (i + 1)
  rwa [Int.natCast_add] at this
@[simp] theorem list_cell (c : Bool) (S : Store) (n : Nat) (ds : List D) (h : S[n]? = some (.lst ds)) (hz : ds.length ≤ sizeLine) : oList c S [.cell n] = finL c ds S := by
  show (match seqA S (.cell n) with
    | some es => if es.length ≤ sizeLine then finL c es S else .err
    | none => .err) = _
  rw [seqA_cell, h]
  simp [hz]
/-! ### try -/
def kTry (ret : Bool) (cls : List Nat) (h i : Nat) (suite : MS) (ρ : Sm.Env) : R D → R Fl
  | .ok d S => if ret then .ok (.rt d) S else .ok (.nx ρ) S
  | .ex c S => if c ∈ cls then (if c = h then (if i < ρ.length then gone i (suite (ρ.set i none) S) else .err) else .ex c S) else .err
  | .err => .err
@[simp] theorem kTry_ok (ret : Bool) (cls : List Nat) (h i : Nat) (suite : MS) (ρ : Sm.Env) (d : D) (S : Store) : kTry ret cls h i suite ρ (.ok d S) = if ret then .ok (.rt d) S else .ok (.nx ρ) S := rfl
@[simp] theorem kTry_ex (ret : Bool) (cls : List Nat) (h i : Nat) (suite : MS) (ρ : Sm.Env) (c : Nat) (S : Store) : kTry ret cls h i suite ρ (.ex c S) = if c ∈ cls then (if c = h then (if i < ρ.length then gone i (suite (ρ.set i none) S) else .err) else .ex c S) else .err := rfl
@[simp ↓] theorem x_try (ret : Bool) (e : ME) (cls : List Nat) (h i : Nat) (suite : MS) (ρ : Sm.Env) (S : Store) : sTry ret e cls h i suite ρ S = kTry ret cls h i suite ρ (e ρ S) := by
  unfold sTry kTry; cases e ρ S <;> rfl
@[simp] theorem gone_nx (i : Nat) (r : Sm.Env) (S : Store) : gone i (.ok (.nx r) S) = .ok (.nx (r.set i none)) S := rfl
@[simp] theorem gone_rt (i : Nat) (d : D) (S : Store) : gone i (.ok (.rt d) S) = .ok (.rt d) S := rfl
/-! ### cords of a book -/
def Cords (b : Bk) (n : Nat) (ts : List Hg) : Prop := ∃ ys : List Str, ys.length = n ∧ ts.Perm (cordTips b 0 ys)
theorem Cords.perm {b : Bk} {n : Nat} {ts us : List Hg} (h : Cords b n ts) (p : us.Perm ts) : Cords b n us := by
  obtain ⟨ys, h1, h2⟩ := h
  exact ⟨ys, h1, p.trans h2⟩
theorem Cords.fits {b : Bk} {n : Nat} {ts : List Hg} (h : Cords b n ts) (ok : b.Ok) : Fits ts := by
  obtain ⟨ys, _, p⟩ := h
  exact (fits_cords ok ys 0).perm p.symm
theorem cordTips_len (b : Bk) : ∀ (ys : List Str) (k : Nat), (cordTips b k ys).length = 2 * ys.length
  | [], _ => rfl
  | y :: ys, k => by simp only [cordTips, List.length_cons, cordTips_len b ys]; omega
theorem Cords.len {b : Bk} {n : Nat} {ts : List Hg} (h : Cords b n ts) : ts.length = 2 * n := by
  obtain ⟨ys, h1, p⟩ := h
  rw [p.length_eq, cordTips_len, h1]
theorem Lo.Net.cords {L : Lo} (h : L.Net) : Cords L.bk L.bk.n (allT L.hs L.sp) := h.fit
/-- a net that the program can bear -/
structure NetA.Good (N : NetA) : Prop where
  ok : N.Ok
  fn : N.Fine
  z : (allT N.hs N.sp).length ≤ 1000000
theorem Lo.Inv.good {n : Nat} {L : Lo} (h : L.Inv n) (hn : n ≤ 25) (nt : L.Net) (r : Int) : NetA.Good ⟨L.hs, L.sp, r⟩ := ⟨⟨nt.fits, nt.mir⟩, ⟨h.fineL hn, h.fineS⟩, (h.small hn).z⟩
theorem NetA.Good.zs {N : NetA} (h : N.Good) : N.hs.length ≤ 1000000 ∧ N.sp.length ≤ 1000000 := (h.fn.small h.z).zs
@[simp] theorem isC_str (c : Nat) (S : Store) (x : Str) : oIsC c S (.str x) = .ok (.bl false) S := by unfold oIsC; rfl
theorem sl_cell {S : Store} {n : Nat} {ds : List D} (h : S[n]? = some (.lst ds)) (lo hi : Option Int) : oSl false S (.cell n) lo hi = .ok (.lst (cutD ds lo hi)) S := by
  unfold oSl; simp [h]
@[simp] theorem max2 (S : Store) (a b : Int) : oMax2 S [.int a, .int b] = .ok (.int (max a b)) S := by
  show R.ok (D.int _) S = _
  congr 2
  first | rfl | (rw [Int.max_def]; split <;> split <;> omega)
def tnum : Hg → Int
  | .tip _ _ n => n
  | .knot _ _ _ => 0
def numsT (ts : List Hg) : List Int := ts.map tnum
theorem cordTips_num {b : Bk} : ∀ {ys : List Str} {k : Nat} {t : Hg}, t ∈ cordTips b k ys → ∃ j, k ≤ j ∧ j < k + ys.length ∧ tnum t = b.num j
  | [], _, _, h => by cases h
  | y :: ys, k, t, h => by
    simp only [cordTips, List.mem_cons] at h
    rcases h with rfl | rfl | h
    · exact ⟨k, Nat.le_refl _, by simp, rfl⟩
    · exact ⟨k, Nat.le_refl _, by simp, rfl⟩
    · obtain ⟨j, h1, h2, h3⟩ := cordTips_num h
      exact ⟨j, by omega, by simp only [List.length_cons]; omega, h3⟩
theorem Cords.num {b : Bk} {n : Nat} {ts : List Hg} (h : Cords b n ts) {m : Int} (hm : m ∈ numsT ts) : ∃ j < n, m = b.num j := by
  obtain ⟨ys, h1, p⟩ := h
  obtain ⟨t, ht, rfl⟩ := List.mem_map.mp hm
  obtain ⟨j, _, h2, h3⟩ := cordTips_num (p.mem_iff.mp ht)
  exact ⟨j, by omega, h3⟩
end Nl
/-! G1: graphs: which points hang together, how many lines draw clumps together -/
namespace Gr
variable {V : Type} [DecidableEq V]
def merge (h : V → V) (a b : V) : V → V := fun v => if h v = h a then h b else h v
def labF : List (V × V) → (V → V) → V → V
  | [], h => h
  | e :: E, h => labF E (merge h e.1 e.2)
def rkF : List (V × V) → (V → V) → Nat
  | [], _ => 0
  | e :: E, h => (if h e.1 = h e.2 then 0 else 1) + rkF E (merge h e.1 e.2)
abbrev lab (E : List (V × V)) : V → V := labF E id
abbrev rk (E : List (V × V)) : Nat := rkF E id
omit [DecidableEq V] in
inductive Conn (E : List (V × V)) : V → V → Prop
  | refl (a : V) : Conn E a a
  | edge (a b : V) : (a, b) ∈ E → Conn E a b
  | symm (a b : V) : Conn E a b → Conn E b a
  | trans (a b c : V) : Conn E a b → Conn E b c → Conn E a c
theorem merge_same {h : V → V} {a b : V} (e : h a = h b) : merge h a b = h := by
  funext v
  unfold merge
  split
  · next q => rw [q, e]
  · rfl
theorem rk_le : ∀ (E : List (V × V)) (h : V → V), rkF E h ≤ E.length
  | [], _ => Nat.le_refl _
  | e :: E, h => by
    have := rk_le E (merge h e.1 e.2)
    simp only [rkF, List.length_cons]
    split <;> omega
theorem rk_app : ∀ (E F : List (V × V)) (h : V → V), rkF (E ++ F) h = rkF E h + rkF F (labF E h)
  | [], _, _ => by simp [rkF, labF]
  | e :: E, F, h => by
    simp only [List.cons_append, rkF, labF, rk_app E F]; omega
def mp {W : Type} (f : V → W) (e : V × V) : W × W := (f e.1, f e.2)
theorem rk_comp {W : Type} [DecidableEq W] (f : V → W) : ∀ (E : List (V × V)) (g : W → W) (h : V → V), (∀ u v, h u = h v ↔ g (f u) = g (f v)) → rkF E h = rkF (E.map (mp f)) g
  | [], _, _, _ => rfl
  | e :: E, g, h, k => by
    simp only [List.map_cons, rkF, mp]
    rw [rk_comp f E (merge g (f e.1) (f e.2)) (merge h e.1 e.2)]
    · by_cases q : h e.1 = h e.2
      · rw [if_pos q, if_pos ((k _ _).mp q)]
      · rw [if_neg q, if_neg (fun z => q ((k _ _).mpr z))]
    · intro u v
      unfold merge
      by_cases q1 : h u = h e.1 <;> by_cases q2 : h v = h e.1
      · rw [if_pos q1, if_pos q2, if_pos ((k _ _).mp q1), if_pos ((k _ _).mp q2)]; simp
      · rw [if_pos q1, if_neg q2, if_pos ((k _ _).mp q1), if_neg (fun z => q2 ((k _ _).mpr z))]; exact k _ _
      · rw [if_neg q1, if_pos q2, if_neg (fun z => q1 ((k _ _).mpr z)), if_pos ((k _ _).mp q2)]; exact k _ _
      · rw [if_neg q1, if_neg q2, if_neg (fun z => q1 ((k _ _).mpr z)), if_neg (fun z => q2 ((k _ _).mpr z))]; exact k _ _
/-- lines behind others: their clumps' own -/
theorem rk_app' (E F : List (V × V)) : rk (E ++ F) = rk E + rk (F.map (mp (lab E))) := by
  show rkF (E ++ F) id = _
  rw [rk_app]
  congr 1
  exact rk_comp (lab E) F id (lab E) fun u v => Iff.rfl
/-! ### what hangs together -/
theorem Conn.mono {E F : List (V × V)} (h : ∀ e ∈ E, e ∈ F) {a b : V} (c : Conn E a b) : Conn F a b := by
  induction c with
  | refl a => exact .refl _
  | edge a b m => exact .edge _ _ (h _ m)
  | symm a b _ ih => exact .symm _ _ ih
  | trans a b c _ _ i j => exact .trans _ _ _ i j
theorem lab_conn : ∀ (F E : List (V × V)) (h : V → V), (∀ a b, h a = h b ↔ Conn E a b) → ∀ a b, labF F h a = labF F h b ↔ Conn (E ++ F) a b
  | [], E, h, k, a, b => by rw [List.append_nil]; exact k a b
  | e :: F, E, h, k, a, b => by
    have key := lab_conn F (E ++ [e]) (merge h e.1 e.2) (fun u v => by
      constructor
      · intro q
        have up : ∀ x y, h x = h y → Conn (E ++ [e]) x y := fun x y z => ((k x y).mp z).mono fun e he => by simp [he]
        have ed : Conn (E ++ [e]) e.1 e.2 := .edge _ _ (by simp)
        unfold merge at q
        by_cases q1 : h u = h e.1 <;> by_cases q2 : h v = h e.1
        · exact up _ _ (q1.trans q2.symm)
        · rw [if_pos q1, if_neg q2] at q
          exact (up _ _ q1).trans _ _ _ (ed.trans _ _ _ (up _ _ q))
        · rw [if_neg q1, if_pos q2] at q
          exact (up _ _ q).trans _ _ _ ((ed.symm _ _).trans _ _ _ ((up _ _ q2).symm _ _))
        · rw [if_neg q1, if_neg q2] at q
          exact up _ _ q
      · intro c
        induction c with
        | refl a => rfl
        | symm a b _ ih => exact ih.symm
        | trans a b c _ _ i j => exact i.trans j
        | edge a b m =>
          simp at m
          rcases m with m | m
          · have : h a = h b := (k a b).mpr (.edge _ _ m)
            unfold merge; rw [this]
          · subst m
            show (if h a = h a then h b else h a) = if h b = h a then h b else h b
            rw [if_pos rfl]
            split <;> rfl) a b
    rw [List.append_assoc] at key
    exact key
theorem lab_iff (E : List (V × V)) (a b : V) : lab E a = lab E b ↔ Conn E a b := by
  have := lab_conn E [] id (fun a b => by
    constructor
    · rintro (rfl : a = b); exact .refl _
    · intro c
      induction c with
      | refl a => rfl
      | symm a b _ ih => exact ih.symm
      | trans a b c _ _ i j => exact i.trans j
      | edge a b m => cases m) a b
  simpa using this
/-! ### counting clumps -/
def Idem (h : V → V) : Prop := ∀ v, h (h v) = h v
theorem merge_idem {h : V → V} (i : Idem h) (a b : V) : Idem (merge h a b) := by
  intro v
  unfold merge
  by_cases q : h v = h a
  · rw [if_pos q, i b]
    split <;> rfl
  · rw [if_neg q, i v, if_neg q]
theorem lab_idem : ∀ (E : List (V × V)) {h : V → V}, Idem h → Idem (labF E h)
  | [], _, i => i
  | e :: E, _, i => lab_idem E (merge_idem i _ _)
def fixed (U : List V) (h : V → V) : List V := U.filter fun v => decide (h v = v)
def Stay (U : List V) (h : V → V) : Prop := ∀ v ∈ U, h v ∈ U
theorem merge_stay {U : List V} {h : V → V} (s : Stay U h) {a b : V} (hb : b ∈ U) : Stay U (merge h a b) := by
  intro v hv
  unfold merge
  split
  · exact s b hb
  · exact s v hv
theorem filter_drop : ∀ {l : List V} {x : V}, l.Nodup → x ∈ l → (l.filter fun v => decide (v ≠ x)).length + 1 = l.length
  | [], _, _, m => by cases m
  | a :: l, x, nd, m => by
    rw [List.nodup_cons] at nd
    by_cases q : a = x
    · subst q
      have e : l.filter (fun v => decide (v ≠ a)) = l := List.filter_eq_self.mpr fun v hv => by
        simp
        rintro rfl
        exact nd.1 hv
      rw [List.filter_cons, if_neg (by simp), e, List.length_cons]
    · have : x ∈ l := by
        rcases List.mem_cons.mp m with z | z
        · exact absurd z.symm q
        · exact z
      rw [List.filter_cons, if_pos (by simp [q]), List.length_cons, List.length_cons, filter_drop nd.2 this]
theorem fixed_merge {U : List V} (nd : U.Nodup) {h : V → V} (i : Idem h) (s : Stay U h) {a b : V} (ha : a ∈ U) (q : h a ≠ h b) : (fixed U (merge h a b)).length + 1 = (fixed U h).length := by
  have e : fixed U (merge h a b) = (fixed U h).filter fun v => decide (v ≠ h a) := by
    unfold fixed
    rw [List.filter_filter]
    congr 1
    funext v
    unfold merge
    by_cases z : h v = h a
    · rw [if_pos z]
      by_cases y : h v = v
      · have : ¬ h b = v := fun w => q (by rw [← z, ← w, i b])
        simp [this, y, ← z]
      · have : ¬ h b = v := fun w => q (by rw [← z, ← w, i b])
        simp [this, y]
    · rw [if_neg z]
      by_cases y : h v = v
      · have : v ≠ h a := fun w => z (y.trans w)
        simp [y, this]
      · simp [y]
  rw [e]
  exact filter_drop (nd.filter _) (List.mem_filter.mpr ⟨s a ha, by simp [i a]⟩)
theorem rk_fixed {U : List V} (nd : U.Nodup) : ∀ (E : List (V × V)) {h : V → V}, Idem h → Stay U h → (∀ e ∈ E, e.1 ∈ U ∧ e.2 ∈ U) → rkF E h + (fixed U (labF E h)).length = (fixed U h).length
  | [], _, _, _, _ => by simp [rkF, labF]
  | e :: E, h, i, s, m => by
    have he := m e List.mem_cons_self
    have ih := rk_fixed nd E (merge_idem i e.1 e.2) (merge_stay s he.2) fun f hf => m f (List.mem_cons_of_mem _ hf)
    simp only [rkF, labF]
    by_cases q : h e.1 = h e.2
    · rw [if_pos q, Nat.zero_add, ih, merge_same q]
    · rw [if_neg q]
      have := fixed_merge nd i s he.1 q
      omega
theorem nodup_len {A : Type} [DecidableEq A] : ∀ {l m : List A}, l.Nodup → (∀ a ∈ l, a ∈ m) → l.length ≤ m.length
  | [], _, _, _ => Nat.zero_le _
  | a :: l, m, nd, h => by
    rw [List.nodup_cons] at nd
    have hm := h a List.mem_cons_self
    have p := List.perm_cons_erase hm
    have : ∀ b ∈ l, b ∈ m.erase a := fun b hb => by
      have := p.mem_iff.mp (h b (List.mem_cons_of_mem _ hb))
      rcases List.mem_cons.mp this with e | e
      · subst e; exact absurd hb nd.1
      · exact e
    have := nodup_len nd.2 this
    have e := p.length_eq
    simp at e ⊢; omega
theorem nodup_map {A B : Type} {f : A → B} : ∀ {l : List A}, l.Nodup → (∀ a ∈ l, ∀ b ∈ l, f a = f b → a = b) → (l.map f).Nodup
  | [], _, _ => List.nodup_nil
  | a :: l, nd, h => by
    rw [List.nodup_cons] at nd
    rw [List.map_cons, List.nodup_cons]
    refine ⟨fun hm => ?_, nodup_map nd.2 fun x hx y hy => h x (List.mem_cons_of_mem _ hx) y (List.mem_cons_of_mem _ hy)⟩
    obtain ⟨b, hb, e⟩ := List.mem_map.mp hm
    have := h b (List.mem_cons_of_mem _ hb) a List.mem_cons_self e
    subst this
    exact nd.1 hb
theorem fixed_le {U : List V} (nd : U.Nodup) {h g : V → V} (ih : Idem h) (ig : Idem g) (sg : Stay U g) (k : ∀ a b, g a = g b → h a = h b) : (fixed U h).length ≤ (fixed U g).length := by
  have n1 : ((fixed U h).map g).Nodup := nodup_map (nd.filter _) fun a ha b hb e => by
    have h1 := (List.mem_filter.mp ha).2
    have h2 := (List.mem_filter.mp hb).2
    simp at h1 h2
    rw [← h1, ← h2]; exact k a b e
  have := nodup_len n1 (m := fixed U g) fun x hx => by
    obtain ⟨v, hv, rfl⟩ := List.mem_map.mp hx
    exact List.mem_filter.mpr ⟨sg v (List.mem_filter.mp hv).1, by simp [ig v]⟩
  rwa [List.length_map] at this
theorem lab_stay {U : List V} : ∀ (E : List (V × V)) {h : V → V}, Stay U h → (∀ e ∈ E, e.1 ∈ U ∧ e.2 ∈ U) → Stay U (labF E h)
  | [], _, s, _ => s
  | e :: E, h, s, m => lab_stay E (merge_stay s (m e List.mem_cons_self).2) fun f hf => m f (List.mem_cons_of_mem _ hf)
theorem fixed_id (U : List V) : fixed U (id : V → V) = U := List.filter_eq_self.mpr fun v _ => by simp
/-- points and lines and clumps -/
theorem rk_count {U : List V} (nd : U.Nodup) {E : List (V × V)} (m : ∀ e ∈ E, e.1 ∈ U ∧ e.2 ∈ U) : rk E + (fixed U (lab E)).length = U.length := by
  have := rk_fixed nd E (h := id) (fun _ => rfl) (fun _ h => h) m
  rwa [fixed_id] at this
def ends (E : List (V × V)) : List V := E.flatMap fun e => [e.1, e.2]
theorem mem_ends {E : List (V × V)} {e : V × V} (h : e ∈ E) : e.1 ∈ ends E ∧ e.2 ∈ ends E := ⟨List.mem_flatMap.mpr ⟨e, h, by simp⟩, List.mem_flatMap.mpr ⟨e, h, by simp⟩⟩
theorem nodup_of : ∀ l : List V, ∃ U : List V, U.Nodup ∧ ∀ v, v ∈ l → v ∈ U
  | [] => ⟨[], List.nodup_nil, fun _ h => h⟩
  | a :: l => by
    obtain ⟨U, nd, h⟩ := nodup_of l
    by_cases q : a ∈ U
    · exact ⟨U, nd, fun v hv => by
        rcases List.mem_cons.mp hv with rfl | z
        · exact q
        · exact h v z⟩
    · exact ⟨a :: U, List.nodup_cons.mpr ⟨q, nd⟩, fun v hv => by
        rcases List.mem_cons.mp hv with rfl | z
        · exact List.mem_cons_self
        · exact List.mem_cons_of_mem _ (h v z)⟩
theorem rk_conn {E F : List (V × V)} (k : ∀ a b, Conn E a b ↔ Conn F a b) : rk E = rk F := by
  obtain ⟨U, nd, hu⟩ : ∃ U : List V, U.Nodup ∧ ∀ v, v ∈ ends E ++ ends F → v ∈ U := nodup_of _
  have mE : ∀ e ∈ E, e.1 ∈ U ∧ e.2 ∈ U := fun e he => ⟨hu _ (by simp [mem_ends he]), hu _ (by simp [mem_ends he])⟩
  have mF : ∀ e ∈ F, e.1 ∈ U ∧ e.2 ∈ U := fun e he => ⟨hu _ (by simp [mem_ends he]), hu _ (by simp [mem_ends he])⟩
  have h1 : rk E + (fixed U (lab E)).length = U.length := rk_count nd mE
  have h2 : rk F + (fixed U (lab F)).length = U.length := rk_count nd mF
  have iE := lab_idem E (h := id) fun _ => rfl
  have iF := lab_idem F (h := id) fun _ => rfl
  have sE := lab_stay E (h := id) (fun _ h => h) mE
  have sF := lab_stay F (h := id) (fun _ h => h) mF
  have k1 : ∀ a b, lab F a = lab F b → lab E a = lab E b := fun a b e => (lab_iff E a b).mpr ((k a b).mpr ((lab_iff F a b).mp e))
  have k2 : ∀ a b, lab E a = lab E b → lab F a = lab F b := fun a b e => (lab_iff F a b).mpr ((k a b).mp ((lab_iff E a b).mp e))
  have l1 : (fixed U (lab E)).length ≤ (fixed U (lab F)).length := fixed_le nd iE iF sF k1
  have l2 : (fixed U (lab F)).length ≤ (fixed U (lab E)).length := fixed_le nd iF iE sE k2
  omega
theorem conn_perm {E F : List (V × V)} (p : E.Perm F) (a b : V) : Conn E a b ↔ Conn F a b := ⟨Conn.mono fun _ h => p.mem_iff.mp h, Conn.mono fun _ h => p.mem_iff.mpr h⟩
theorem rk_perm {E F : List (V × V)} (p : E.Perm F) : rk E = rk F := rk_conn (conn_perm p)
theorem rk_cut {a b : V} (h : a ≠ b) (E : List (V × V)) : rk ((a, b) :: E) = 1 + rk (E.map (mp fun v => if v = a then b else v)) := by
  show (if (a : V) = b then 0 else 1) + rkF E (merge id a b) = _
  rw [if_neg h]
  congr 1
  exact rk_comp (fun v => if v = a then b else v) E id (merge id a b) fun u v => Iff.rfl
end Gr
/-! Q6: whichever splice is drawn first, the same net is left -/
namespace Nl
open PySem Sm Gr
/-! ### the least number of what hangs together -/
def mlF : List (Int × Int) → (Int → Int) → Int → Int
  | [], h => h
  | e :: E, h => mlF E (fun v => both (h e.1) (h e.2) (h v))
abbrev ml (E : List (Int × Int)) : Int → Int := mlF E id
theorem ml_conn : ∀ (E E0 : List (Int × Int)) (h : Int → Int), (∀ v, Conn E0 v (h v)) → ∀ v, Conn (E0 ++ E) v (mlF E h v)
  | [], E0, h, k, v => by rw [List.append_nil]; exact k v
  | e :: E, E0, h, k, v => by
    have up : ∀ x y, Conn E0 x y → Conn (E0 ++ [e]) x y := fun x y c => c.mono fun e he => by simp [he]
    have ed : Conn (E0 ++ [e]) e.1 e.2 := .edge _ _ (by simp)
    have := ml_conn E (E0 ++ [e]) (fun v => both (h e.1) (h e.2) (h v)) (fun v => by
      show Conn _ v (both (h e.1) (h e.2) (h v))
      have c1 : Conn (E0 ++ [e]) (h e.1) (h e.2) := ((up _ _ (k e.1)).symm _ _).trans _ _ _ (ed.trans _ _ _ (up _ _ (k e.2)))
      have c0 := up _ _ (k v)
      unfold both
      split
      · next q =>
        have : min (h e.1) (h e.2) = h e.1 ∨ min (h e.1) (h e.2) = h e.2 := by omega
        rcases q with q | q <;> rcases this with z | z <;> rw [z]
        · rw [q] at c0; exact c0
        · rw [q] at c0; exact c0.trans _ _ _ c1
        · rw [q] at c0; exact c0.trans _ _ _ (c1.symm _ _)
        · rw [q] at c0; exact c0
      · exact c0) v
    rw [List.append_assoc] at this
    exact this
theorem ml_eq : ∀ (E E0 : List (Int × Int)) (h : Int → Int), (∀ u v, Conn E0 u v → h u = h v) → ∀ u v, Conn (E0 ++ E) u v → mlF E h u = mlF E h v
  | [], E0, h, k, u, v, c => by rw [List.append_nil] at c; exact k u v c
  | e :: E, E0, h, k, u, v, c => by
    refine ml_eq E (E0 ++ [e]) (fun v => both (h e.1) (h e.2) (h v)) (fun u v c => ?_) u v (by rw [List.append_assoc]; exact c)
    induction c with
    | refl a => rfl
    | symm a b _ ih => exact ih.symm
    | trans a b c _ _ i j => exact i.trans j
    | edge a b m =>
      rcases List.mem_append.mp m with m | m
      · have := k a b (.edge _ _ m)
        show both _ _ (h a) = both _ _ (h b)
        rw [this]
      · simp at m
        subst m
        show both _ _ (h a) = both _ _ (h b)
        rw [both_l, both_r]
theorem conn_nil {u v : Int} (c : Conn [] u v) : u = v := by
  induction c with
  | refl a => rfl
  | symm a b _ ih => exact ih.symm
  | trans a b c _ _ i j => exact i.trans j
  | edge a b m => cases m
theorem ml_self (E : List (Int × Int)) (v : Int) : Conn E v (ml E v) := by
  have := ml_conn E [] id (fun v => .refl v) v
  simpa using this
theorem ml_same {E : List (Int × Int)} {u v : Int} (c : Conn E u v) : ml E u = ml E v := ml_eq E [] id (fun u v c => conn_nil c) u v (by simpa using c)
/-! ### the lines of splices, between cords -/
def nums : Hg → List Int
  | .tip _ _ n => [n]
  | .knot _ l r => nums l ++ nums r
theorem nums_len : ∀ h : Hg, (nums h).length = h.nt
  | .tip _ _ _ => rfl
  | .knot _ l r => by simp [nums, nums_len l, nums_len r]
def edP (p : Hg × Hg) : List (Int × Int) := (nums p.1).zip (nums p.2)
def ed (sp : List (Hg × Hg)) : List (Int × Int) := sp.flatMap edP
theorem mirs_nt : ∀ {h g : Hg}, h.mirs g = true → h.nt = g.nt
  | .tip _ _ _, .tip _ _ _, _ => rfl
  | .knot _ l r, .knot _ l2 r2, m => by
    simp only [Hg.mirs, Bool.and_eq_true] at m
    rw [Hg.nt_knot, Hg.nt_knot, mirs_nt m.2.1, mirs_nt m.2.2]
  | .tip _ _ _, .knot _ _ _, m => by cases m
  | .knot _ _ _, .tip _ _ _, m => by cases m
theorem edP_len {p : Hg × Hg} (m : p.1.mirs p.2 = true) : (edP p).length = p.1.nt := by
  simp [edP, nums_len, mirs_nt m]
theorem split_at {A : Type} {sp : List A} {i : Nat} {p : A} (h : sp[i]? = some p) : sp = sp.take i ++ p :: sp.drop (i + 1) := by
  have hi := lt_of_get h
  have := List.take_append_drop i sp
  rw [List.drop_eq_getElem_cons hi] at this
  rw [List.getElem?_eq_getElem hi] at h
  cases h; exact this.symm
/-! ### what is left -/
def finR (N : NetA) : Int := N.rings + (ed N.sp).length - rk (ed N.sp)
end Nl
/-! R10: all splices drawn -/
/-! R11: dicts of numbers; nets told, lifted, compared -/
namespace Nl
open PySem Sm
variable {T : Nat → Option Body}
/-! ### dicts -/
theorem val_put {k B : Type} [DecidableEq k] (kvs : List (k × B)) (x y : k) (v : B) : valK (putG kvs x v) y = if y = x then some v else valK kvs y := by
  unfold putG
  by_cases h : (kvs.any fun kv => decide (kv.1 = x)) = true
  · rw [if_pos h]
    by_cases q : y = x
    · subst q
      rw [if_pos rfl]
      induction kvs with
      | nil => simp at h
      | cons p kvs ih =>
        by_cases e : p.1 = y
        · simp [valK, e]
        · have : (kvs.any fun kv => decide (kv.1 = y)) = true := by simpa [e] using h
          have ih := ih this
          simp [valK, e] at ih ⊢
          exact ih
    · rw [if_neg q]
      clear h
      induction kvs with
      | nil => rfl
      | cons p kvs ih =>
        have q' : ¬ x = y := fun z => q z.symm
        by_cases e : p.1 = x
        · have : ¬ p.1 = y := fun z => q' (e.symm.trans z)
          simp [valK, e, q'] at ih ⊢
          exact ih
        · by_cases e2 : p.1 = y
          · subst e2
            simp [valK, q]
          · simp [valK, e, e2] at ih ⊢
            exact ih
  · rw [if_neg h]
    by_cases q : y = x
    · subst q
      rw [if_pos rfl]
      have : kvs.find? (fun kv => decide (kv.1 = y)) = none := by
        rw [List.find?_eq_none]
        intro p hp z
        exact h (List.any_eq_true.mpr ⟨p, hp, z⟩)
      simp [valK, List.find?_append, this]
    · rw [if_neg q]
      have q' : ¬ x = y := fun z => q z.symm
      simp [valK, List.find?_append, q']
theorem len_put {k B : Type} [DecidableEq k] (kvs : List (k × B)) (x : k) (v : B) : (putG kvs x v).length = if (valK kvs x).isSome then kvs.length else kvs.length + 1 := by
  unfold putG valK
  by_cases h : (kvs.any fun kv => decide (kv.1 = x)) = true
  · rw [if_pos h]
    have : ((kvs.find? fun kv => decide (kv.1 = x)).map (·.2)).isSome = true := by
      obtain ⟨p, hp, z⟩ := List.any_eq_true.mp h
      rw [Option.isSome_map, List.find?_isSome]
      exact ⟨p, hp, z⟩
    rw [if_pos this, List.length_map]
  · rw [if_neg h]
    have : ¬ ((kvs.find? fun kv => decide (kv.1 = x)).map (·.2)).isSome = true := by
      rw [Option.isSome_map, List.find?_isSome]
      rintro ⟨p, hp, z⟩
      exact h (List.any_eq_true.mpr ⟨p, hp, z⟩)
    rw [if_neg this, List.length_append]; rfl
/-! ### numbered by where they first stand -/
def firsts (acc l : List Int) : List Int := l.foldl (fun acc n => if n ∈ acc then acc else acc ++ [n]) acc
theorem firsts_cons (acc l : List Int) (n : Int) : firsts acc (n :: l) = firsts (if n ∈ acc then acc else acc ++ [n]) l := rfl
theorem firsts_nodup : ∀ (l : List Int) {acc : List Int}, acc.Nodup → (firsts acc l).Nodup
  | [], _, h => h
  | n :: l, acc, h => by
    rw [firsts_cons]
    refine firsts_nodup l ?_
    split
    · exact h
    · next q => exact List.nodup_append.mpr ⟨h, by simp, fun a ha b hb => by simp at hb; subst hb; exact fun e => q (by rw [← e]; exact ha)⟩
theorem mem_firsts : ∀ (l : List Int) {acc : List Int} {m : Int}, m ∈ firsts acc l ↔ m ∈ acc ∨ m ∈ l
  | [], _, _ => by simp [firsts]
  | n :: l, acc, m => by
    rw [firsts_cons, mem_firsts l]
    split
    · next q =>
      constructor
      · rintro (h | h)
        · exact .inl h
        · exact .inr (by simp [h])
      · rintro (h | h)
        · exact .inl h
        · rcases List.mem_cons.mp h with rfl | h
          · exact .inl q
          · exact .inr h
    · simp; constructor
      · rintro ((h | h) | h) <;> simp [h]
      · rintro (h | h | h) <;> simp [h]
/-- a dict that tells places -/
structure IsNames (kvs : List (L2.Key × D)) (acc : List Int) : Prop where
  nd : acc.Nodup
  len : kvs.length = acc.length
  val : ∀ n : Int, valK kvs (.inl n) = if n ∈ acc then some (.int (acc.idxOf n : Nat)) else none
theorem IsNames.nil : IsNames [] [] := ⟨List.nodup_nil, rfl, fun n => by simp [valK]⟩
theorem IsNames.put {kvs : List (L2.Key × D)} {acc : List Int} (h : IsNames kvs acc) {n : Int} (hn : n ∉ acc) : IsNames (putG kvs (.inl n) (.int (acc.length : Nat))) (acc ++ [n]) := by
  refine ⟨List.nodup_append.mpr ⟨h.nd, by simp, fun a ha b hb => by simp at hb; subst hb; exact fun e => hn (by rw [← e]; exact ha)⟩, ?_, fun m => ?_⟩
  · have : valK kvs (.inl n) = none := by rw [h.val, if_neg hn]
    rw [len_put, this]
    simp [h.len]
  · rw [val_put, h.val]
    by_cases q : m = n
    · subst q
      rw [if_pos rfl, if_pos (by simp), List.idxOf_append, if_neg hn]
      simp
    · have : ¬ ((Sum.inl m : L2.Key) = Sum.inl n) := by simp; exact q
      rw [if_neg this]
      by_cases z : m ∈ acc
      · rw [if_pos z, if_pos (by simp [z]), List.idxOf_append, if_pos z]
      · rw [if_neg z, if_neg (by simp [z, q])]
theorem numsT_tips : ∀ h : Hg, numsT h.tips = nums h
  | .tip _ _ _ => rfl
  | .knot _ l r => by
    have h1 := numsT_tips l
    have h2 := numsT_tips r
    unfold numsT at *
    simp only [Hg.tips, List.map_append, nums, h1, h2]
/-- the cord's number of each tip of a net -/
def numsA (N : NetA) : List Int := numsT (allT N.hs N.sp)
def renA (f : Int → Int) (N : NetA) : NetA := ⟨N.hs.map (Hg.ren f), N.sp.map (renP f), N.rings⟩
end Nl
/-! R12: nets told, lifted, compared; the laws' told forms -/
namespace Nl
open PySem Sm
variable {T : Nat → Option Body}
theorem ren_fine' {f : Int → Int} : ∀ {h : Hg}, h.Fine → (∀ m ∈ nums h, 0 ≤ f m ∧ f m < 10 ^ 30) → (h.ren f).Fine
  | .tip d y n, p, k => ⟨p.1, k n (by simp [nums])⟩
  | .knot w l r, p, k => ⟨ren_fine' p.1 fun m hm => k m (by simp [nums, hm]), ren_fine' p.2 fun m hm => k m (by simp [nums, hm])⟩
def numsL (hs : List Hg) : List Int := hs.flatMap nums
def numsP (p : Hg × Hg) : List Int := nums p.1 ++ nums p.2
def numsS (sp : List (Hg × Hg)) : List Int := sp.flatMap numsP
theorem numsT_app (l m : List Hg) : numsT (l ++ m) = numsT l ++ numsT m := List.map_append
theorem numsT_L : ∀ hs : List Hg, numsT (tipsL hs) = numsL hs
  | [] => rfl
  | h :: hs => by rw [tipsL_cons, numsT_app, numsT_tips, numsT_L hs]; rfl
theorem numsT_P (p : Hg × Hg) : numsT (tipsP p) = numsP p := by unfold tipsP numsP; rw [numsT_app, numsT_tips, numsT_tips]
theorem numsT_S : ∀ sp : List (Hg × Hg), numsT (tipsS sp) = numsS sp
  | [] => rfl
  | p :: sp => by rw [tipsS_cons, numsT_app, numsT_P, numsT_S sp]; rfl
theorem numsA_eq (N : NetA) : numsA N = numsL N.hs ++ numsS N.sp := by unfold numsA allT; rw [numsT_app, numsT_L, numsT_S]
theorem mem_numsL {hs : List Hg} {h : Hg} {m : Int} (hh : h ∈ hs) (hm : m ∈ nums h) : m ∈ numsL hs := List.mem_flatMap.mpr ⟨h, hh, hm⟩
theorem mem_numsS {sp : List (Hg × Hg)} {p : Hg × Hg} {m : Int} (hp : p ∈ sp) (hm : m ∈ numsP p) : m ∈ numsS sp := List.mem_flatMap.mpr ⟨p, hp, hm⟩
/-- a net whose cords are numbered anew, unlike numbers unlike -/
theorem fits_ren {f : Int → Int} {ts : List Hg} (h : Fits ts) (inj : ∀ a ∈ numsT ts, ∀ b ∈ numsT ts, f a = f b → a = b) : Fits (ts.map (Hg.ren f)) := by
  obtain ⟨tp, ln, dn, mate⟩ := h
  have ml : ∀ p ∈ lightsOf ts, p.1 ∈ numsT ts := fun p hp => List.mem_map.mpr ⟨_, mem_lights.mp hp, rfl⟩
  have md : ∀ p ∈ darksOf ts, p.1 ∈ numsT ts := fun p hp => List.mem_map.mpr ⟨_, mem_darks.mp hp, rfl⟩
  refine ⟨fun t ht => ?_, ?_, ?_, fun p => ?_⟩
  · obtain ⟨t0, h0, rfl⟩ := List.mem_map.mp ht
    have := tp t0 h0
    cases t0 with
    | tip _ _ _ => rfl
    | knot _ _ _ => cases this
  · rw [lights_ren _ _ tp, List.map_map]
    have e : (lightsOf ts).map ((fun p : Int × Str => p.1) ∘ fun p : Int × Str => (f p.1, p.2)) = ((lightsOf ts).map (·.1)).map f := by rw [List.map_map]; rfl
    rw [e]
    refine nodup_map_on ln fun a ha b hb q => ?_
    obtain ⟨p, hp, rfl⟩ := List.mem_map.mp ha
    obtain ⟨p2, hp2, rfl⟩ := List.mem_map.mp hb
    exact inj _ (ml p hp) _ (ml p2 hp2) q
  · rw [darks_ren _ _ tp, List.map_map]
    have e : (darksOf ts).map ((fun p : Int × Str => p.1) ∘ fun p : Int × Str => (f p.1, p.2)) = ((darksOf ts).map (·.1)).map f := by rw [List.map_map]; rfl
    rw [e]
    refine nodup_map_on dn fun a ha b hb q => ?_
    obtain ⟨p, hp, rfl⟩ := List.mem_map.mp ha
    obtain ⟨p2, hp2, rfl⟩ := List.mem_map.mp hb
    exact inj _ (md p hp) _ (md p2 hp2) q
  · rw [lights_ren _ _ tp, darks_ren _ _ tp, List.mem_map, List.mem_map]
    constructor
    · rintro ⟨q, hq, rfl⟩; exact ⟨q, (mate q).mp hq, rfl⟩
    · rintro ⟨q, hq, rfl⟩; exact ⟨q, (mate q).mpr hq, rfl⟩
theorem NetA.Good.ren {N : NetA} (gd : N.Good) {f : Int → Int} (inj : ∀ a ∈ numsA N, ∀ b ∈ numsA N, f a = f b → a = b) (bd : ∀ a ∈ numsA N, 0 ≤ f a ∧ f a < 10 ^ 30) : (renA f N).Good := by
  have h1 : ∀ h ∈ N.hs, ∀ m ∈ nums h, m ∈ numsA N := fun h hh m hm => by rw [numsA_eq]; exact List.mem_append_left _ (mem_numsL hh hm)
  have h2 : ∀ p ∈ N.sp, ∀ m ∈ numsP p, m ∈ numsA N := fun p hp m hm => by rw [numsA_eq]; exact List.mem_append_right _ (mem_numsS hp hm)
  refine ⟨⟨?_, fun p hp => ?_⟩, ⟨fun h hh => ?_, fun p hp => ?_⟩, ?_⟩
  · show Fits (allT (N.hs.map (Hg.ren f)) (N.sp.map (renP f)))
    rw [allT_ren]
    exact fits_ren gd.ok.fit inj
  · obtain ⟨q, hq, rfl⟩ := List.mem_map.mp hp
    show (q.1.ren f).mirs (q.2.ren f) = true
    rw [Hg.mirs_ren]; exact gd.ok.mir q hq
  · obtain ⟨h0, m0, rfl⟩ := List.mem_map.mp hh
    obtain ⟨f0, d0⟩ := gd.fn.hs h0 m0
    exact ⟨ren_fine' f0 fun m hm => bd m (h1 h0 m0 m hm), by rw [Hg.depth_ren]; exact d0⟩
  · obtain ⟨q, hq, rfl⟩ := List.mem_map.mp hp
    obtain ⟨⟨f1, d1⟩, f2, d2⟩ := gd.fn.sp q hq
    exact ⟨⟨ren_fine' f1 fun m hm => bd m (h2 q hq m (by simp [numsP, hm])), by show (q.1.ren f).depth ≤ 60; rw [Hg.depth_ren]; exact d1⟩, ⟨ren_fine' f2 fun m hm => bd m (h2 q hq m (by simp [numsP, hm])), by show (q.2.ren f).depth ≤ 60; rw [Hg.depth_ren]; exact d2⟩⟩
  · show (allT (N.hs.map (Hg.ren f)) (N.sp.map (renP f))).length ≤ _
    rw [allT_ren, List.length_map]; exact gd.z
/-! ### lifted -/
/-! ### alike -/
end Nl
/-! R13: the laws' told forms -/
namespace Nl
open PySem Sm
variable {T : Nat → Option Body}
theorem set_self {A : Type} {S : List A} {m : Nat} {x : A} (h : S[m]? = some x) : S.set m x = S := by
  apply List.ext_getElem?
  intro i
  rw [gset]
  by_cases q : m = i
  · subst q; rw [if_pos rfl, h]; rfl
  · rw [if_neg q]
theorem e_l_up (c0 : T f_l_is_tip = some b_l_is_tip) (c : T f_l_up = some b_l_up) (step : Int) : ∀ (h : Hg) {N : Nat} (_ : h.depth + 3 ≤ N) (S : Store), ev T N f_l_up [ofH h, .int step] S = .ok (ofH (h.ren fun n => n + step)) S
  | .tip d y k, N, hN, S => by
    obtain ⟨N, rfl, _⟩ := two_up 1 (N := N) (by omega)
    have t1 := e_l_is_tip c0 (.tip d y k) (N := N + 1) (by omega) S
    simp at t1
    rw [ev_s c]
    simp [step1, b_l_up, t1, Hg.isTip, Hg.ren]
  | .knot w l r, N, hN, S => by
    obtain ⟨N, rfl, hl, hr, _⟩ := dl 2 hN (by omega)
    have t1 := e_l_is_tip c0 (.knot w l r) (N := N + 1) (by omega) S
    have h1 := e_l_up c0 c step l (N := N + 1) (by omega) S
    have h2 := e_l_up c0 c step r (N := N + 1) (by omega) S
    simp at t1
    rw [ev_s c]
    simp [step1, b_l_up, t1, Hg.isTip, h1, h2, Hg.ren]
end Nl
/-! R14: nets joined -/
namespace Nl
open PySem Sm Gr
variable {T : Nat → Option Body}
def cut {A : Type} (l : List A) (i : Nat) : List A := l.take i ++ l.drop (i + 1)
theorem cut_perm {A : Type} {l : List A} {i : Nat} {a : A} (h : l[i]? = some a) : l.Perm (a :: cut l i) := by
  conv => lhs; rw [split_at h]
  exact List.perm_middle
theorem mem_cut' {A : Type} {l : List A} {i : Nat} {a : A} (h : a ∈ cut l i) : a ∈ l := by
  rcases List.mem_append.mp h with z | z
  · exact List.mem_of_mem_take z
  · exact List.mem_of_mem_drop z
def joinA (N : NetA) (i : Nat) (M : NetA) (j : Nat) : NetA := ⟨cut N.hs i ++ cut M.hs j, N.sp ++ M.sp ++ [(N.hs.getD i default, M.hs.getD j default)], N.rings + M.rings⟩
theorem tipsS_app (s t : List (Hg × Hg)) : tipsS (s ++ t) = tipsS s ++ tipsS t := List.flatMap_append
theorem join_tips {N M : NetA} {i j : Nat} {a b : Hg} (ha : N.hs[i]? = some a) (hb : M.hs[j]? = some b) : (allT (joinA N i M j).hs (joinA N i M j).sp).Perm (allT N.hs N.sp ++ allT M.hs M.sp) := by
  have ea : N.hs.getD i default = a := by rw [List.getD_eq_getElem?_getD, ha]; rfl
  have eb : M.hs.getD j default = b := by rw [List.getD_eq_getElem?_getD, hb]; rfl
  have p1 := tipsL_perm (cut_perm ha)
  have p2 := tipsL_perm (cut_perm hb)
  rw [tipsL_cons] at p1 p2
  unfold joinA allT
  simp only [ea, eb, tipsL_app, tipsS_app]
  have e : tipsS [(a, b)] = a.tips ++ b.tips := by simp [tipsS, tipsP]
  rw [e]
  refine List.Perm.trans ?_ (List.Perm.append (p1.symm.append_right _) (p2.symm.append_right _))
  generalize tipsL (cut N.hs i) = x
  generalize tipsL (cut M.hs j) = y
  generalize tipsS N.sp = s
  generalize tipsS M.sp = t
  generalize a.tips = u
  generalize b.tips = v
  refine List.perm_iff_count.mpr fun z => ?_
  simp only [List.count_append]; omega
theorem fits_app {ts us : List Hg} (h : Fits ts) (k : Fits us) (dis : ∀ m ∈ numsT ts, m ∉ numsT us) : Fits (ts ++ us) := by
  have l1 : ∀ {xs : List Hg} {n : Int}, n ∈ (lightsOf xs).map (·.1) → n ∈ numsT xs := fun {xs n} hm => by
    obtain ⟨p, hp, rfl⟩ := List.mem_map.mp hm
    exact List.mem_map.mpr ⟨_, mem_lights.mp hp, rfl⟩
  have d1 : ∀ {xs : List Hg} {n : Int}, n ∈ (darksOf xs).map (·.1) → n ∈ numsT xs := fun {xs n} hm => by
    obtain ⟨p, hp, rfl⟩ := List.mem_map.mp hm
    exact List.mem_map.mpr ⟨_, mem_darks.mp hp, rfl⟩
  refine ⟨fun t ht => ?_, ?_, ?_, fun p => ?_⟩
  · rcases List.mem_append.mp ht with z | z
    · exact h.tip t z
    · exact k.tip t z
  · rw [lights_app, List.map_append]
    exact List.nodup_append.mpr ⟨h.ln, k.ln, fun a ha b hb e => dis a (l1 ha) (by rw [e]; exact l1 hb)⟩
  · rw [darks_app, List.map_append]
    exact List.nodup_append.mpr ⟨h.dn, k.dn, fun a ha b hb e => dis a (d1 ha) (by rw [e]; exact d1 hb)⟩
  · rw [lights_app, darks_app, List.mem_append, List.mem_append, h.mate p, k.mate p]
theorem NetA.Good.join {N M : NetA} (gn : N.Good) (gm : M.Good) {i j : Nat} {a b : Hg} (ha : N.hs[i]? = some a) (hb : M.hs[j]? = some b) (mr : a.mirs b = true) (dis : ∀ m ∈ numsA N, m ∉ numsA M) (z : (allT N.hs N.sp).length + (allT M.hs M.sp).length ≤ 1000000) : (joinA N i M j).Good := by
  have p := join_tips ha hb
  have ea : N.hs.getD i default = a := by rw [List.getD_eq_getElem?_getD, ha]; rfl
  have eb : M.hs.getD j default = b := by rw [List.getD_eq_getElem?_getD, hb]; rfl
  refine ⟨⟨(fits_app gn.ok.fit gm.ok.fit dis).perm p.symm, fun q hq => ?_⟩, ⟨fun h hh => ?_, fun q hq => ?_⟩, ?_⟩
  · unfold joinA at hq
    simp only [ea, eb, List.mem_append, List.mem_singleton] at hq
    rcases hq with (hq | hq) | rfl
    · exact gn.ok.mir q hq
    · exact gm.ok.mir q hq
    · exact mr
  · rcases List.mem_append.mp hh with w | w
    · exact gn.fn.hs h (mem_cut' w)
    · exact gm.fn.hs h (mem_cut' w)
  · unfold joinA at hq
    simp only [ea, eb, List.mem_append, List.mem_singleton] at hq
    rcases hq with (hq | hq) | rfl
    · exact gn.fn.sp q hq
    · exact gm.fn.sp q hq
    · exact ⟨gn.fn.hs a (List.mem_of_getElem? ha), gm.fn.hs b (List.mem_of_getElem? hb)⟩
  · rw [p.length_eq, List.length_append]; exact z
structure JoinFns (T : Nat → Option Body) : Prop extends NetFns T where
  joined : T f_p_joined = some b_p_joined
theorem e_p_joined_ex (c : JoinFns T) {N M : NetA} {i j : Int} (h : i < 0 ∨ (N.hs.length : Int) ≤ i ∨ j < 0 ∨ (M.hs.length : Int) ≤ j) {n : Nat} (hn : 115 ≤ n) (S : Store) : ev T n f_p_joined [N.d, .int i, M.d, .int j] S = .ex 4 S := by
  obtain ⟨n, rfl, _⟩ := two_up 113 (N := n) hn
  rw [ev_s c.joined]
  by_cases h1 : 0 ≤ i
  · by_cases h2 : i < (N.hs.length : Int)
    · by_cases h3 : 0 ≤ j
      · have h4 : ¬ j < (M.hs.length : Int) := by omega
        simp [step1, b_p_joined, NetA.d, h1, h2, h3, h4]
      · simp [step1, b_p_joined, NetA.d, h1, h2, h3]
    · simp [step1, b_p_joined, NetA.d, h1, h2]
  · simp [step1, b_p_joined, NetA.d, h1]
theorem e_p_joined_mir (c : JoinFns T) {N M : NetA} (gn : N.Good) {i j : Nat} {a b : Hg} (ha : N.hs[i]? = some a) (hb : M.hs[j]? = some b) (mr : a.mirs b = false) {n : Nat} (hn : 115 ≤ n) (S : Store) : ev T n f_p_joined [N.d, .int i, M.d, .int j] S = .ex 3 S := by
  obtain ⟨n, rfl, _⟩ := two_up 113 (N := n) hn
  rw [ev_s c.joined]
  have h1 : (i : Int) < (N.hs.length : Int) := by have := lt_of_get ha; omega
  have h2 : (j : Int) < (M.hs.length : Int) := by have := lt_of_get hb; omega
  have t1 := e_p_mirrors c.is_tip c.mirrors a b (N := n + 1) (by have := (gn.fn.hs a (List.mem_of_getElem? ha)).2; omega) S
  rw [mr] at t1
  simp [step1, b_p_joined, NetA.d, h1, h2, ha, hb, t1]
/-- as far as the net is made -/
theorem joined_run (c : JoinFns T) {N M : NetA} (gn : N.Good) (gm : M.Good) {i j : Nat} {a b : Hg} (ha : N.hs[i]? = some a) (hb : M.hs[j]? = some b) (mr : a.mirs b = true) {n : Nat} (hn : 115 ≤ n + 2) (S : Store) {z : R D}
    (hz : made true S (ev T n f_p_Net_init [.cell S.length, .lst ((joinA N i M j).hs.map ofH), .lst ((joinA N i M j).sp.map ofP), .int (joinA N i M j).rings] (S ++ [.ins 7 [] []])) = z) :
    ev T (n + 2) f_p_joined [N.d, .int i, M.d, .int j] S = fin false S (kRet z) := by
  rw [ev_s c.joined]
  have ea : N.hs.getD i default = a := by rw [List.getD_eq_getElem?_getD, ha]; rfl
  have eb : M.hs.getD j default = b := by rw [List.getD_eq_getElem?_getD, hb]; rfl
  have l1 := lt_of_get ha
  have l2 := lt_of_get hb
  have h1 : (i : Int) < (N.hs.length : Int) := by omega
  have h2 : (j : Int) < (M.hs.length : Int) := by omega
  have t1 := e_p_mirrors c.is_tip c.mirrors a b (N := n + 1) (by have := (gn.fn.hs a (List.mem_of_getElem? ha)).2; omega) S
  rw [mr] at t1
  have z1 := gn.zs
  have z2 := gm.zs
  have y1 : min i N.hs.length + (N.hs.length - (i + 1)) ≤ sizeLine := Nat.le_trans (m := 4000000) (by omega) (by decide)
  have y2 : min i N.hs.length + (N.hs.length - (i + 1)) + min j M.hs.length ≤ sizeLine := Nat.le_trans (m := 4000000) (by omega) (by decide)
  have y3 : min i N.hs.length + (N.hs.length - (i + 1)) + min j M.hs.length + (M.hs.length - (j + 1)) ≤ sizeLine := Nat.le_trans (m := 4000000) (by omega) (by decide)
  have y6 : min i N.hs.length + (N.hs.length - (i + 1) + min j M.hs.length) ≤ sizeLine := Nat.le_trans (m := 4000000) (by omega) (by decide)
  have y7 : min i N.hs.length + (N.hs.length - (i + 1) + min j M.hs.length) + (M.hs.length - (j + 1)) ≤ sizeLine := Nat.le_trans (m := 4000000) (by omega) (by decide)
  have y8 : min i N.hs.length + (N.hs.length - (i + 1) + (min j M.hs.length + (M.hs.length - (j + 1)))) ≤ sizeLine := Nat.le_trans (m := 4000000) (by omega) (by decide)
  have y9 : N.sp.length + (M.sp.length + 1) ≤ sizeLine := Nat.le_trans (m := 4000000) (by omega) (by decide)
  have y4 : N.sp.length + M.sp.length ≤ sizeLine := Nat.le_trans (m := 4000000) (by omega) (by decide)
  have y5 : N.sp.length + M.sp.length + 1 ≤ sizeLine := Nat.le_trans (m := 4000000) (by omega) (by decide)
  simp only [joinA, ea, eb, cut] at hz
  simp [ofP, List.map_take, List.map_drop, List.append_assoc] at hz
  simp [step1, b_p_joined, NetA.d, h1, h2, ha, hb, t1, cutD_to, cutD_from1, y1, y2, y3, y4, y5, y6, y7, y8, y9, List.map_take, List.map_drop, List.append_assoc, hz]
theorem e_p_joined (c : JoinFns T) {N M : NetA} (gn : N.Good) (gm : M.Good) {i j : Nat} {a b : Hg} (ha : N.hs[i]? = some a) (hb : M.hs[j]? = some b) (mr : a.mirs b = true) (gj : (joinA N i M j).Good) {n : Nat} (hn : 115 ≤ n) (S : Store) : ev T n f_p_joined [N.d, .int i, M.d, .int j] S = .ok (joinA N i M j).d S := by
  obtain ⟨n, rfl, _⟩ := two_up 113 (N := n) hn
  rw [joined_run c gn gm ha hb mr (by omega) S (e_net' c.toNetFns gj.ok gj.fn gj.z (n := n) (by omega) S)]
  rfl
end Nl
/-! R15: lofts beside one another; nets of a rack alone -/
namespace Nl
open PySem Sm Gr
variable {T : Nat → Option Body}
/-! ### books of any start -/
abbrev Bk.St (b : Bk) : Prop := 0 < b.b1 ∧ b.b1 ≤ 1000000007
theorem e_number' (c : T f_l_number = some b_l_number) {b : Bk} (hs : b.St) {e : Nat} {S : Store} (he : S[e]? = some b.mo) {N : Nat} (hN : 2 ≤ N) : ev T N f_l_number [.cell e] S = .ok (.int (b.num b.n)) (S.set e (b.up 1).mo) := by
  obtain ⟨n, rfl, _⟩ := two_up 0 (N := N) hN
  rw [ev_s c]
  have key : ∀ m : Int, S[e]? = some (.lst [.int b.b0, .int b.b1, .int m]) → step1 b_l_number (ev T (n + 1)) (ev T n) [.cell e] S = .ok (.int (b.b0 + b.b1 * (m * 21 % 64 + 64 * (m / 64)))) (S.set e (.lst [.int b.b0, .int b.b1, .int (m + 1)])) := by
    intro m hm
    simp [step1, b_l_number, hm, L2.ixN, gset]
    rw [if_pos (mulOk_l _ ⟨by omega, by omega⟩)]
    simp
  exact key _ he
theorem anew_up (b : Bk) (k : Nat) : ∀ (h : Hg) (j : Nat), h.anew (b.up k) j = h.anew b j
  | .tip _ _ _, _ => rfl
  | .knot w x y, j => by simp [Hg.anew, anew_up b k x, anew_up b k y]
theorem e_anew' (c0 : T f_l_is_tip = some b_l_is_tip) (c1 : T f_l_number = some b_l_number) (c : T f_l_anew = some b_l_anew) : ∀ (h : Hg) {b : Bk} (_ : b.St) {e : Nat} {S : Store} (_ : S[e]? = some b.mo) {N : Nat} (_ : h.depth + 3 ≤ N),
    ev T N f_l_anew [ofH h, .cell e] S = .ok (ofH (h.anew b b.n)) (S.set e (b.up h.nt).mo)
  | .tip d y k, b, hb, e, S, he, N, hN => by
    obtain ⟨n, rfl, _⟩ := two_up 1 (N := N) (by omega)
    have t1 := e_l_is_tip c0 (.tip d y k) (N := n + 1) (by omega) S
    have t2 := e_number' c1 hb he (N := n + 1) (by omega)
    rw [ev_s c]
    simp at t1
    simp [step1, b_l_anew, t1, t2, Hg.isTip, Hg.anew]
  | .knot k l r, b, hb, e, S, he, N, hN => by
    obtain ⟨n, rfl, hl, hr, _⟩ := dl 2 hN (by omega)
    have t1 := e_l_is_tip c0 (.knot k l r) (N := n + 1) (by omega) S
    have h1 := e_anew' c0 c1 c l hb he (N := n + 1) (by omega)
    have he2 : (S.set e (b.up l.nt).mo)[e]? = some (b.up l.nt).mo := by simp [lt_of_get he]
    have h2 := e_anew' c0 c1 c r (b := b.up l.nt) hb he2 (N := n + 1) (by omega)
    have e1 : r.anew (b.up l.nt) (b.up l.nt).n = r.anew b (b.n + l.nt) := anew_up _ _ _ _
    rw [ev_s c]
    simp at t1
    simp [e1, Bk.up_up] at h2
    simp [step1, b_l_anew, t1, h1, h2, Hg.isTip, Hg.anew]
theorem num_inj' {b : Bk} (h : b.St) {i j : Nat} (e : b.num i = b.num j) : i = j := by
  unfold Bk.num at e
  have e2 : b.b1 * ((i : Int) * 21 % 64 + 64 * ((i : Int) / 64)) = b.b1 * ((j : Int) * 21 % 64 + 64 * ((j : Int) / 64)) := by omega
  have e3 := Int.eq_of_mul_eq_mul_left (by have := h.1; omega) e2
  have inv : ∀ r : Nat, r < 64 → r * 21 % 64 * 61 % 64 = r := by decide
  have e4 : i * 21 % 64 + 64 * (i / 64) = j * 21 % 64 + 64 * (j / 64) := by omega
  have m1 : i * 21 % 64 = i % 64 * 21 % 64 := by omega
  have m2 : j * 21 % 64 = j % 64 * 21 % 64 := by omega
  have i1 := inv (i % 64) (by omega)
  have i2 := inv (j % 64) (by omega)
  have q1 : i * 21 % 64 = j * 21 % 64 := by omega
  rw [← m1] at i1
  rw [← m2, ← q1] at i2
  omega
theorem cords_nodup' {b : Bk} (h : b.St) : ∀ (ys : List Str) (k : Nat), (((ys.zipIdx k).map fun p => (b.num p.2, p.1)).map (·.1)).Nodup := by
  intro ys k
  rw [List.map_map]
  have e : ((fun p : Int × Str => p.1) ∘ fun p : Str × Nat => (b.num p.2, p.1)) = fun p : Str × Nat => b.num p.2 := rfl
  rw [e]
  induction ys generalizing k with
  | nil => simp
  | cons y ys ih =>
    rw [List.zipIdx_cons, List.map_cons, List.nodup_cons]
    refine ⟨fun hm => ?_, ih (k + 1)⟩
    obtain ⟨⟨z, j⟩, hz, e⟩ := List.mem_map.mp hm
    have := num_inj' h e
    have hj := List.le_snd_of_mem_zipIdx hz
    simp at this hj; omega
theorem fits_cords' {b : Bk} (h : b.St) (ys : List Str) (k : Nat) : Fits (cordTips b k ys) := by
  refine ⟨fun t ht => ?_, by rw [lights_cords]; exact cords_nodup' h ys k, by rw [darks_cords]; exact cords_nodup' h ys k, fun p => by rw [lights_cords, darks_cords]⟩
  induction ys generalizing k with
  | nil => simp [cordTips] at ht
  | cons y ys ih =>
    simp [cordTips] at ht
    rcases ht with rfl | rfl | ht
    · rfl
    · rfl
    · exact ih _ ht
theorem fits_anew {b : Bk} (h : b.St) (g : Hg) (k : Nat) : Fits ((g.anew b k).tips ++ (g.anew b k).mir.tips) := (fits_cords' h _ k).perm (tips_anew b g k).symm
theorem nums_anew (b : Bk) : ∀ (g : Hg) (k : Nat) {m : Int}, m ∈ nums (g.anew b k) → ∃ j, k ≤ j ∧ j < k + g.nt ∧ m = b.num j
  | .tip d y n, k, m, h => by
    simp [Hg.anew, nums] at h
    exact ⟨k, Nat.le_refl _, by simp, h⟩
  | .knot w l r, k, m, h => by
    rw [Hg.nt_knot]
    simp only [Hg.anew, nums, List.mem_append] at h
    rcases h with h | h
    · obtain ⟨j, h1, h2, h3⟩ := nums_anew b l k h
      exact ⟨j, h1, by omega, h3⟩
    · obtain ⟨j, h1, h2, h3⟩ := nums_anew b r _ h
      exact ⟨j, by omega, by omega, h3⟩
theorem nums_mir : ∀ h : Hg, nums h.mir = nums h
  | .tip _ _ _ => rfl
  | .knot _ l r => by simp [Hg.mir, nums, nums_mir l, nums_mir r]
def Bk.above (b : Bk) : Int := b.b0 + b.b1 * 300 + 1000000
/-- where a book's first numbers lie -/
theorem num_in {b : Bk} (h : b.St) {k : Nat} (hk : k < 256) : b.b0 ≤ b.num k ∧ b.num k < b.above := by
  unfold Bk.num Bk.above
  have f0 : 0 ≤ (k : Int) * 21 % 64 + 64 * ((k : Int) / 64) := by omega
  have f1 : (k : Int) * 21 % 64 + 64 * ((k : Int) / 64) ≤ 299 := by omega
  generalize (k : Int) * 21 % 64 + 64 * ((k : Int) / 64) = f at *
  have m1 : 0 ≤ b.b1 * f := Int.mul_nonneg (Int.le_of_lt h.1) f0
  have m2 : b.b1 * f ≤ b.b1 * 299 := Int.mul_le_mul_of_nonneg_left f1 (Int.le_of_lt h.1)
  have := h.1
  omega
theorem above_le {b : Bk} (h : b.Ok) : 0 ≤ b.b0 ∧ b.above ≤ 2 * 10 ^ 29 ∧ 0 < b.above := by
  obtain ⟨⟨l1, l2⟩, s1, s2⟩ := h
  unfold Bk.above
  have e : (10 : Int) ^ 29 = 100000000000000000000000000000 := by decide
  rw [e] at l2 ⊢
  omega
/-! ### nets of a rack alone -/
/-! ### a loft that is not empty -/
theorem emp_hs {S : Store} {d : Nat} {hs : List Hg} (h : S[d]? = some (.lst (hs.map ofH))) (f : FineL hs) : oEq S (.cell d) (.lst []) = .ok (.bl (decide (hs = []))) S := by
  have lay := lay_map (f := ofH) (l := hs) (n := 61) fun h hh => (lay_H (f h hh).1).mono (by have := (f h hh).2; omega)
  have ll : Lay (.lst (([] : List Hg).map ofH)) 1 := lay_lst (n := 0) fun z hz => by simp at hz
  exact oEq_lay (A := List Hg) (f := fun l => .lst (l.map ofH)) (fun x y => eq_lstF eqF_H x y) lay ll (by decide) (by decide) (S := S) (d := .cell d) (e := .lst []) (by simp [h]) (by simp)
end Nl
/-! Q7: ways through splices -/
namespace Nl
open PySem Sm Gr
/-! ### each tip stands once -/
theorem fits_nodup : ∀ {ts : List Hg}, (∀ t ∈ ts, t.isTip = true) → ((lightsOf ts).map (·.1)).Nodup → ((darksOf ts).map (·.1)).Nodup → ts.Nodup
  | [], _, _, _ => List.nodup_nil
  | t :: ts, tp, ln, dn => by
    have ht := tp t List.mem_cons_self
    have tp' : ∀ x ∈ ts, x.isTip = true := fun x hx => tp x (List.mem_cons_of_mem _ hx)
    cases t with
    | knot _ _ _ => cases ht
    | tip d y n =>
      cases d with
      | false =>
        simp only [lightsOf, darksOf, List.map_cons, List.nodup_cons] at ln dn
        exact List.nodup_cons.mpr ⟨fun h => ln.1 (List.mem_map.mpr ⟨_, mem_lights.mpr h, rfl⟩), fits_nodup tp' ln.2 dn⟩
      | true =>
        simp only [lightsOf, darksOf, List.map_cons, List.nodup_cons] at ln dn
        exact List.nodup_cons.mpr ⟨fun h => dn.1 (List.mem_map.mpr ⟨_, mem_darks.mpr h, rfl⟩), fits_nodup tp' ln dn.2⟩
theorem Fits.nodup {ts : List Hg} (h : Fits ts) : ts.Nodup := fits_nodup h.tip h.ln h.dn
/-- the other tip of a cord stands there too -/
theorem Fits.far {ts : List Hg} (h : Fits ts) {t : Hg} (ht : t ∈ ts) : t.mir ∈ ts := by
  have tt := h.tip t ht
  cases t with
  | knot _ _ _ => cases tt
  | tip d y n =>
    cases d with
    | false => exact mem_darks.mp ((h.mate (n, y)).mp (mem_lights.mpr ht))
    | true => exact mem_lights.mp ((h.mate (n, y)).mpr (mem_darks.mpr ht))
/-- tips of one number are one tip or one cord's two -/
theorem Fits.same {ts : List Hg} (h : Fits ts) {t u : Hg} (ht : t ∈ ts) (hu : u ∈ ts) (e : tnum t = tnum u) : u = t ∨ u = t.mir := by
  have tt := h.tip t ht
  have tu := h.tip u hu
  cases t with
  | knot _ _ _ => cases tt
  | tip d y n =>
    cases u with
    | knot _ _ _ => cases tu
    | tip d2 y2 n2 =>
      have e : n = n2 := e
      subst e
      have fl : ∀ {z w}, Hg.tip false z n ∈ ts → Hg.tip false w n ∈ ts → z = w := fun h1 h2 => fst_inj h.ln (mem_lights.mpr h1) (mem_lights.mpr h2)
      have fd : ∀ {z w}, Hg.tip true z n ∈ ts → Hg.tip true w n ∈ ts → z = w := fun h1 h2 => fst_inj h.dn (mem_darks.mpr h1) (mem_darks.mpr h2)
      have far := h.far hu
      cases d <;> cases d2 <;> simp only [Hg.mir, Bool.not_true, Bool.not_false] at far ⊢
      · left; rw [fl ht hu]
      · right; rw [fl ht far]
      · right; rw [fd ht far]
      · left; rw [fd ht hu]
/-! ### what stands over against a tip -/
def facesP (p : Hg × Hg) : List (Hg × Hg) := (p.1.tips.zip p.2.tips).flatMap fun q => [(q.1, q.2), (q.2, q.1)]
def faces (sp : List (Hg × Hg)) : List (Hg × Hg) := sp.flatMap facesP
/-- as a dict that is written in this order tells it -/
def faceL (P : List (Hg × Hg)) (t : Hg) : Option Hg := P.foldl (fun acc p => if p.1 = t then some p.2 else acc) none
theorem faceL_snoc (P : List (Hg × Hg)) (p : Hg × Hg) (t : Hg) : faceL (P ++ [p]) t = if p.1 = t then some p.2 else faceL P t := by
  unfold faceL; rw [List.foldl_append]; rfl
theorem snoc_ind {A : Type} {C : List A → Prop} (h0 : C []) (h1 : ∀ l a, C l → C (l ++ [a])) (l : List A) : C l := by
  have key : ∀ (r : List A), C r.reverse := by
    intro r
    induction r with
    | nil => exact h0
    | cons a r ih => rw [List.reverse_cons]; exact h1 _ _ ih
  have := key l.reverse
  rwa [List.reverse_reverse] at this
theorem faceL_mem {P : List (Hg × Hg)} {t u : Hg} (h : faceL P t = some u) : (t, u) ∈ P := by
  induction P using snoc_ind with
  | h0 => cases h
  | h1 P p ih =>
    rw [faceL_snoc] at h
    split at h
    · next e => cases h; subst e; simp
    · exact List.mem_append_left _ (ih h)
theorem faceL_some {P : List (Hg × Hg)} (nd : (P.map (·.1)).Nodup) {t u : Hg} (h : (t, u) ∈ P) : faceL P t = some u := by
  induction P using snoc_ind with
  | h0 => cases h
  | h1 P p ih =>
    rw [List.map_append, List.nodup_append] at nd
    rw [faceL_snoc]
    rcases List.mem_append.mp h with z | z
    · have : p.1 ≠ t := fun e => nd.2.2 t (List.mem_map.mpr ⟨_, z, rfl⟩) p.1 (by simp) e.symm
      rw [if_neg this]; exact ih nd.1 z
    · simp at z; subst z; rw [if_pos rfl]
theorem faces_swap {sp : List (Hg × Hg)} {t u : Hg} (h : (t, u) ∈ faces sp) : (u, t) ∈ faces sp := by
  obtain ⟨p, hp, h⟩ := List.mem_flatMap.mp h
  obtain ⟨q, hq, h⟩ := List.mem_flatMap.mp h
  refine List.mem_flatMap.mpr ⟨p, hp, List.mem_flatMap.mpr ⟨q, hq, ?_⟩⟩
  simp at h ⊢
  rcases h with ⟨rfl, rfl⟩ | ⟨rfl, rfl⟩ <;> simp
theorem zip_fst {A : Type} : ∀ (l m : List A), l.length = m.length → ((l.zip m).flatMap fun q => [(q.1, q.2), (q.2, q.1)]).map (·.1) = ((l.zip m).flatMap fun q => [q.1, q.2])
  | [], _, _ => rfl
  | _ :: _, [], h => by cases h
  | a :: l, b :: m, h => by simp at h; simp [zip_fst l m h]
theorem zip_perm {A : Type} : ∀ (l m : List A), l.length = m.length → ((l.zip m).flatMap fun q => [q.1, q.2]).Perm (l ++ m)
  | [], [], _ => .refl _
  | [], _ :: _, h => by cases h
  | _ :: _, [], h => by cases h
  | a :: l, b :: m, h => by
    simp at h
    simp only [List.zip_cons_cons, List.flatMap_cons, List.cons_append, List.nil_append]
    refine List.Perm.cons a ?_
    exact ((zip_perm l m h).cons b).trans List.perm_middle.symm
theorem facesP_fst {p : Hg × Hg} (m : p.1.mirs p.2 = true) : ((facesP p).map (·.1)).Perm (tipsP p) := by
  have hl : p.1.tips.length = p.2.tips.length := mirs_nt m
  unfold facesP
  rw [zip_fst _ _ hl]
  exact zip_perm _ _ hl
theorem faces_fst : ∀ {sp : List (Hg × Hg)}, (∀ p ∈ sp, p.1.mirs p.2 = true) → ((faces sp).map (·.1)).Perm (tipsS sp)
  | [], _ => .refl _
  | p :: sp, m => by
    show ((facesP p ++ faces sp).map (·.1)).Perm _
    rw [List.map_append, tipsS_cons]
    exact (facesP_fst (m p List.mem_cons_self)).append (faces_fst fun q hq => m q (List.mem_cons_of_mem _ hq))
theorem NetA.Ok.nd {N : NetA} (ok : N.Ok) : (allT N.hs N.sp).Nodup := ok.fit.nodup
theorem NetA.Ok.ndS {N : NetA} (ok : N.Ok) : (tipsS N.sp).Nodup := (List.nodup_append.mp ok.nd).2.1
theorem NetA.Ok.ndF {N : NetA} (ok : N.Ok) : ((faces N.sp).map (·.1)).Nodup := (faces_fst ok.mir).nodup_iff.mpr ok.ndS
abbrev face (N : NetA) (t : Hg) : Option Hg := faceL (faces N.sp) t
theorem face_iff {N : NetA} (ok : N.Ok) {t u : Hg} : face N t = some u ↔ (t, u) ∈ faces N.sp := ⟨faceL_mem, faceL_some ok.ndF⟩
theorem face_symm {N : NetA} (ok : N.Ok) {t u : Hg} (h : face N t = some u) : face N u = some t := (face_iff ok).mpr (faces_swap ((face_iff ok).mp h))
theorem face_inj {N : NetA} (ok : N.Ok) {t u v : Hg} (h : face N t = some v) (k : face N u = some v) : t = u := by
  have h1 := face_symm ok h
  rw [face_symm ok k] at h1
  cases h1; rfl
theorem face_mem {N : NetA} (ok : N.Ok) {t u : Hg} (h : face N t = some u) : t ∈ tipsS N.sp ∧ u ∈ tipsS N.sp :=
  ⟨(faces_fst ok.mir).mem_iff.mp (List.mem_map.mpr ⟨_, (face_iff ok).mp h, rfl⟩), (faces_fst ok.mir).mem_iff.mp (List.mem_map.mpr ⟨_, faces_swap ((face_iff ok).mp h), rfl⟩)⟩
theorem face_some {N : NetA} (ok : N.Ok) {t : Hg} (h : t ∈ tipsS N.sp) : ∃ u, face N t = some u := by
  obtain ⟨⟨a, u⟩, hp, e⟩ := List.mem_map.mp ((faces_fst ok.mir).mem_iff.mpr h)
  have e : a = t := e
  subst e
  exact ⟨u, (face_iff ok).mpr hp⟩
/-! ### roads -/
def meet (ss : List Hg) : List Hg := ss.flatMap fun s => [s, s.mir]
structure Road (f : Hg → Option Hg) (t : Hg) (ss : List Hg) : Prop where
  head : ss[0]? = some t
  step : ∀ i a b, ss[i]? = some a → ss[i + 1]? = some b → f a.mir = some b
  nd : ss.Nodup
theorem Road.one (f : Hg → Option Hg) (t : Hg) : Road f t [t] := ⟨rfl, fun i a b h1 h2 => by simp at h2, by simp⟩
theorem mir_inj {t u : Hg} (h : t.mir = u.mir) : t = u := by
  have := congrArg Hg.mir h
  rwa [Hg.mir_mir, Hg.mir_mir] at this
theorem Road.more {N : NetA} (ok : N.Ok) {t s u : Hg} {ss : List Hg} (h : Road (face N) t (ss ++ [s])) (hu : face N s.mir = some u) (ne : u ≠ t) : Road (face N) t (ss ++ [s] ++ [u]) := by
  refine ⟨?_, fun i a b h1 h2 => ?_, ?_⟩
  · rw [List.getElem?_append_left (by simp)]; exact h.head
  · by_cases q : i + 1 < (ss ++ [s]).length
    · rw [List.getElem?_append_left (by omega)] at h1
      rw [List.getElem?_append_left q] at h2
      exact h.step i a b h1 h2
    · have l2 := lt_of_get h2
      simp at l2 q
      have e : i = ss.length := by omega
      subst e
      have e1 : (ss ++ [s] ++ [u])[ss.length]? = some s := by simp
      have e2 : (ss ++ [s] ++ [u])[ss.length + 1]? = some u := by simp
      rw [e1] at h1; rw [e2] at h2
      cases h1; cases h2; exact hu
  · refine List.nodup_append.mpr ⟨h.nd, by simp, fun a ha b hb e => ?_⟩
    simp at hb
    subst hb e
    obtain ⟨j, hj⟩ := List.getElem?_of_mem ha
    cases j with
    | zero =>
      rw [h.head] at hj
      cases hj; exact ne rfl
    | succ j =>
      have hl := lt_of_get hj
      have hjj : j < (ss ++ [s]).length := by omega
      have e1 := List.getElem?_eq_getElem hjj
      have hs := h.step j _ _ e1 hj
      have e2 := mir_inj (face_inj ok hs hu)
      have e3 : (ss ++ [s])[ss.length]? = some s := by simp
      have e4 : (ss ++ [s])[j]? = some s := by rw [e1, e2]
      have := (List.getElem?_inj hjj h.nd).mp (e4.trans e3.symm)
      simp at hl
      omega
theorem road_mem {N : NetA} (ok : N.Ok) {t : Hg} {ss : List Hg} (h : Road (face N) t ss) {s : Hg} (hs : s ∈ ss) : s = t ∨ s ∈ tipsS N.sp := by
  obtain ⟨j, hj⟩ := List.getElem?_of_mem hs
  cases j with
  | zero => rw [h.head] at hj; cases hj; exact .inl rfl
  | succ j =>
    have hl := lt_of_get hj
    have e1 := List.getElem?_eq_getElem (show j < ss.length by omega)
    exact .inr (face_mem ok (h.step j _ _ e1 hj)).2
theorem road_len {N : NetA} (ok : N.Ok) {t : Hg} {ss : List Hg} (h : Road (face N) t ss) : ss.length ≤ (tipsS N.sp).length + 1 := by
  have := Gr.nodup_len h.nd (m := t :: tipsS N.sp) fun s hs => by
    rcases road_mem ok h hs with rfl | z
    · exact List.mem_cons_self
    · exact List.mem_cons_of_mem _ z
  simpa using this
end Nl
/-! R16: ways walked -/
namespace Nl
open PySem Sm Gr
variable {T : Nat → Option Body}
def keyT : Hg → List L2.Key
  | .tip d y n => [.inr (tw d), .inr y, .inl n]
  | .knot _ _ _ => []
theorem keyT_inj {t u : Hg} (ht : t.isTip = true) (hu : u.isTip = true) (h : keyT t = keyT u) : t = u := by
  cases t with
  | knot _ _ _ => cases ht
  | tip d y n =>
    cases u with
    | knot _ _ _ => cases hu
    | tip d2 y2 n2 =>
      simp [keyT] at h
      obtain ⟨h1, h2, h3⟩ := h
      rw [tw_inj h1, h2, h3]
/-- a dict that tells the tips over against -/
def IsFace (kvs : List (List L2.Key × D)) (f : Hg → Option Hg) : Prop := ∀ t : Hg, t.isTip = true → valK kvs (keyT t) = (f t).map ofH
theorem IsFace.put {kvs : List (List L2.Key × D)} {P : List (Hg × Hg)} (h : IsFace kvs (faceL P)) {t u : Hg} (ht : t.isTip = true) : IsFace (putG kvs (keyT t) (ofH u)) (faceL (P ++ [(t, u)])) := by
  intro v hv
  rw [val_put, faceL_snoc, h v hv]
  by_cases q : t = v
  · subst q; simp
  · have : ¬ keyT v = keyT t := fun e => q (keyT_inj ht hv e.symm)
    rw [if_neg this, if_neg q]
end Nl
/-! R17: roads walked -/
namespace Nl
open PySem Sm Gr
variable {T : Nat → Option Body}
theorem mir_tip {t : Hg} (h : t.isTip = true) : t.mir.isTip = true := by
  cases t with
  | knot _ _ _ => cases h
  | tip d y n => rfl
end Nl
/-! R18: loops that may end early; places in lists of tips -/
namespace Nl
open PySem Sm Gr
variable {T : Nat → Option Body}
/-- what a turn that ends the loop leaves -/
def stopF : R Fl → R Fl
  | .ok (.bk r) S => .ok (.nx r) S
  | x => x
def Stops : R Fl → Prop
  | .ok (.nx _) _ => False
  | .ok (.ct _) _ => False
  | _ => True
open Classical in
theorem forL_end {A : Type} {items : Store → Option (List (List D))} {its : List (List D)} {tg : List Nat} {body : MS} {ρ : Sm.Env} {S : Store} {z : R Fl} (hz : forL items its tg body its ρ S = z) (inj : A → List D) (xs : List A) (hx : its = xs.map inj) (I : Nat → Sm.Env → Store → Prop) (P : R Fl → Prop)
    (h0 : I 0 ρ S) (hi : ∀ i ρ S, I i ρ S → items S = some its)
    (h : ∀ i x ρ S, xs[i]? = some x → I i ρ S → (∃ r S', body (setAll tg (inj x) ρ) S = .ok (.nx r) S' ∧ I (i + 1) r S') ∨ (∃ w, body (setAll tg (inj x) ρ) S = w ∧ Stops w ∧ P (stopF w))) : (∃ r S', z = .ok (.nx r) S' ∧ I xs.length r S') ∨ P z := by
  have key : ∀ (ys : List A) (i : Nat) (ρ : Sm.Env) (S : Store), xs.drop i = ys → I i ρ S → (∃ r S', forL items its tg body (ys.map inj) ρ S = .ok (.nx r) S' ∧ I (i + ys.length) r S') ∨ P (forL items its tg body (ys.map inj) ρ S) := by
    intro ys
    induction ys with
    | nil =>
      intro i ρ S _ h0
      refine .inl ⟨ρ, S, ?_, h0⟩
      rw [List.map_nil]; unfold forL; rw [if_pos (hi _ _ _ h0)]
    | cons y ys ih =>
      intro i ρ S hd h0
      have e : xs[i]? = some y := by
        have := List.getElem?_drop (xs := xs) (i := i) (j := 0)
        rw [hd] at this; simpa using this.symm
      have hd2 : xs.drop (i + 1) = ys := by rw [← List.drop_drop, hd]; rfl
      rcases h i y ρ S e h0 with ⟨r, S1, h1, h2⟩ | ⟨w, h1, h2, h3⟩
      · have e2 : forL items its tg body ((y :: ys).map inj) ρ S = forL items its tg body (ys.map inj) r S1 := by
          rw [List.map_cons]
          conv => lhs; unfold forL
          rw [if_pos (hi _ _ _ h0), h1]
        rw [e2, List.length_cons, show i + (ys.length + 1) = i + 1 + ys.length by omega]
        exact ih (i + 1) r S1 hd2 h2
      · refine .inr ?_
        have e2 : forL items its tg body ((y :: ys).map inj) ρ S = stopF w := by
          rw [List.map_cons]
          conv => lhs; unfold forL
          rw [if_pos (hi _ _ _ h0), h1]
          cases w with
          | err => rfl
          | ex c S1 => rfl
          | ok f S1 =>
            cases f with
            | nx r => exact h2.elim
            | ct r => exact h2.elim
            | rt d => rfl
            | bk r => rfl
        rw [e2]; exact h3
  have := key xs 0 ρ S rfl h0
  rw [← hx, hz, Nat.zero_add] at this
  exact this
theorem forV_end {A : Type} {tg : List Nat} {body : MS} {inj : A → List D} {xs : List A} {ρ : Sm.Env} {S : Store} {z : R Fl} (hz : forV tg body (xs.map inj) ρ S = z) (I : Nat → Sm.Env → Store → Prop) (P : R Fl → Prop) (h0 : I 0 ρ S)
    (h : ∀ i x ρ S, xs[i]? = some x → I i ρ S → (∃ r S', body (setAll tg (inj x) ρ) S = .ok (.nx r) S' ∧ I (i + 1) r S') ∨ (∃ w, body (setAll tg (inj x) ρ) S = w ∧ Stops w ∧ P (stopF w))) : (∃ r S', z = .ok (.nx r) S' ∧ I xs.length r S') ∨ P z :=
  forL_end (items := fun _ => some (xs.map inj)) ((forL_V (fun _ => rfl) _ _ _).trans hz) inj xs rfl I P h0 (fun _ _ _ _ => rfl) h
/-! ### the place of a tip -/
end Nl
/-! R19: clumps: who speaks for a point -/
namespace Nl
open PySem Sm Gr
variable {T : Nat → Option Body}
def ofN (p : Nat) : D := .int (p : Int)
def ofE (e : Nat × Nat) : D := .tup [.int (e.1 : Int), .int (e.2 : Int)]
def ofT (e : Nat × Nat × Nat) : D := .tup [.int (e.1 : Int), .int (e.2.1 : Int), .int (e.2.2 : Int)]
/-! ### lines that join what was apart -/
theorem rk_snoc {V : Type} [DecidableEq V] (E : List (V × V)) (e : V × V) : rk (E ++ [e]) = rk E + if lab E e.1 = lab E e.2 then 0 else 1 := by
  show rkF (E ++ [e]) id = _
  rw [rk_app]
  show rkF E id + ((if labF E id e.1 = labF E id e.2 then 0 else 1) + 0) = _
  rfl
theorem full_perm {V : Type} [DecidableEq V] {E F : List (V × V)} (p : E.Perm F) : rk E = E.length ↔ rk F = F.length := by
  rw [rk_perm p, p.length_eq]
/-! ### heads -/
structure UF (hs : List Nat) (n : Nat) (h : Nat → Nat) (m : Nat) : Prop where
  len : hs.length = n
  idem : ∀ v, h (h v) = h v
  stay : ∀ v, v < n → h v < n
  dep : ∃ d : Nat → Nat, (∀ v, d v ≤ m) ∧ ∀ v, v < n → ∃ p, hs[v]? = some p ∧ p < n ∧ h p = h v ∧ (p = v ∨ d p < d v) ∧ (h v = v → d v = 0) ∧ (p = v → h v = v)
theorem UF.init (n : Nat) : UF (List.range n) n id 0 :=
  ⟨by simp, fun _ => rfl, fun _ h => h, fun _ => 0, fun _ => Nat.le_refl _, fun v hv => ⟨v, by simp [hv], hv, rfl, .inl rfl, fun _ => rfl, fun _ => rfl⟩⟩
end Nl
/-! G2: lines by a choice; clumps drawn together at loose knots -/
namespace Nl
open PySem Sm Gr
abbrev Ln := Nat × Nat
abbrev Ls3 := Nat × Nat × Nat
def pick (t : Ls3) (b : Bool) : Ln := (t.1, if b then t.2.2 else t.2.1)
def ln (L : List Ls3) (c : Nat → Bool) (i : Nat) : Ln := pick (L.getD i (0, 0, 0)) (c i)
/-- one piece without a way round -/
def Tree (E : List Ln) (n : Nat) : Prop := rk E = E.length ∧ E.length + 1 = n
instance (E : List Ln) (n : Nat) : Decidable (Tree E n) := by unfold Tree; infer_instance
theorem Tree.perm {E F : List Ln} {n : Nat} (p : E.Perm F) : Tree E n ↔ Tree F n := by
  unfold Tree
  rw [full_perm p, p.length_eq]
/-- clumps drawn together at the loose knots D; rest are left -/
structure Contr (E : List Ln) (L : List Ls3) (h : Nat → Nat) (D rest : List Nat) : Prop where
  perm : (D ++ rest).Perm (List.range L.length)
  full : ∀ c, rk (E ++ D.map (ln L c)) = (E ++ D.map (ln L c)).length
  lab : ∀ c u v, h u = h v ↔ Conn (E ++ D.map (ln L c)) u v
variable {E : List Ln} {L : List Ls3} {h : Nat → Nat} {D rest : List Nat} {n : Nat}
theorem Contr.init (f : rk E = E.length) : Contr E L (Gr.lab E) [] (List.range L.length) :=
  ⟨List.Perm.refl _, fun c => by simpa using f, fun c u v => by simpa using lab_iff E u v⟩
theorem Contr.lt (k : Contr E L h D rest) {i : Nat} (hi : i ∈ rest) : i < L.length := List.mem_range.mp (k.perm.mem_iff.mp (List.mem_append_right _ hi))
end Nl
/-! R20: a net's points and lines -/
namespace Nl
open PySem Sm Gr
variable {T : Nat → Option Body}
/-- lines of fast knots -/
def kl : Hg → Nat → List Ln
  | .tip _ _ _, _ => []
  | .knot k l r, p => kl l (p + 1) ++ kl r (p + 1 + l.size) ++ (if k then [] else [(p, p + 1), (p, p + 1 + l.size)])
/-- loose knots -/
def lk : Hg → Nat → List Ls3
  | .tip _ _ _, _ => []
  | .knot k l r, p => (if k then [(p, p + 1, p + 1 + l.size)] else []) ++ (lk l (p + 1) ++ lk r (p + 1 + l.size))
/-- points of tips -/
def tpt : Hg → Nat → List (Nat × Int)
  | .tip _ _ n, p => [(p, n)]
  | .knot _ l r, p => tpt l (p + 1) ++ tpt r (p + 1 + l.size)
/-- who stood last at a cord -/
def putE (en : Int → Option Nat) (q : Nat × Int) : Int → Option Nat := fun m => if m = q.2 then some q.1 else en m
/-- the cords' lines -/
def cordL (en : Int → Option Nat) : List (Nat × Int) → List Ln
  | [] => []
  | q :: qs => (match en q.2 with
    | some p => [(p, q.1)]
    | none => []) ++ cordL (putE en q) qs
def IsEnds (kvs : List (L2.Key × D)) (en : Int → Option Nat) : Prop := ∀ m : Int, valK kvs (.inl m) = (en m).map ofN
theorem IsEnds.nil : IsEnds [] (fun _ => none) := fun _ => rfl
theorem IsEnds.put {kvs : List (L2.Key × D)} {en : Int → Option Nat} (h : IsEnds kvs en) (q : Nat × Int) : IsEnds (putG kvs (.inl q.2) (.int (q.1 : Nat))) (putE en q) := fun m => by
  rw [val_put, h m]
  unfold putE
  by_cases e : m = q.2
  · subst e; simp; rfl
  · rw [if_neg e, if_neg (by simpa using e)]
/-! ### the program's plan -/
def planF : List Str := ["many", "lines", "looses", "ends"]
def planM (p a b d : D) : MO := .ins 8 planF [p, a, b, d]
structure Keep (S : Store) (F : List Nat) (S' : Store) : Prop where
  len : S'.length = S.length
  old : ∀ j, j ∉ F → S'[j]? = S[j]?
theorem Keep.refl (S : Store) (F : List Nat) : Keep S F S := ⟨rfl, fun _ _ => rfl⟩
theorem Keep.trans {S S1 S2 : Store} {F : List Nat} (a : Keep S F S1) (b : Keep S1 F S2) : Keep S F S2 := ⟨b.len.trans a.len, fun j h => (b.old j h).trans (a.old j h)⟩
theorem Keep.set (S : Store) {F : List Nat} {k : Nat} (h : k ∈ F) (o : MO) : Keep S F (S.set k o) := ⟨List.length_set, fun j hj => List.getElem?_set_ne fun e => hj (by rw [← e]; exact h)⟩
structure PlAt (S : Store) (k a b d : Nat) (p : Nat) (X : List Ln) (B : List D) (en : Int → Option Nat) (m : Nat) : Prop where
  hk : S[k]? = some (planM (.int p) (.cell a) (.cell b) (.cell d))
  ha : S[a]? = some (.lst (X.map ofE))
  hb : S[b]? = some (.lst B)
  hd : ∃ kvs, S[d]? = some (.dk kvs) ∧ IsEnds kvs en ∧ kvs.length ≤ m
  nd : [k, a, b, d].Nodup
section
variable {S : Store} {k a b d p m : Nat} {X : List Ln} {B : List D} {en : Int → Option Nat}
theorem PlAt.obj (l : PlAt S k a b d p X B en m) : objOf S (.cell k) = some (8, planF, [.int p, .cell a, .cell b, .cell d]) := by
  simp [objOf, l.hk, planM]
theorem PlAt.frame {S' : Store} (l : PlAt S k a b d p X B en m) (h : ∀ j, j ∈ [k, a, b, d] → S'[j]? = S[j]?) : PlAt S' k a b d p X B en m := by
  obtain ⟨hk, ha, hb, ⟨kvs, hd, e, z⟩, nd⟩ := l
  exact ⟨(h k (by simp)).trans hk, (h a (by simp)).trans ha, (h b (by simp)).trans hb, ⟨kvs, (h d (by simp)).trans hd, e, z⟩, nd⟩
end
end Nl
/-! R21: a net's plan, the program's and the law's -/
namespace Nl
open PySem Sm Gr
variable {T : Nat → Option Body}
def szL : List Hg → Nat
  | [] => 0
  | h :: hs => h.size + szL hs
def szS : List (Hg × Hg) → Nat
  | [] => 0
  | q :: sp => q.1.size + q.2.size + szS sp
def klL : List Hg → Nat → List Ln
  | [], _ => []
  | h :: hs, p => kl h p ++ klL hs (p + h.size)
def klS : List (Hg × Hg) → Nat → List Ln
  | [], _ => []
  | q :: sp, p => kl q.1 p ++ kl q.2 (p + q.1.size) ++ [(p, p + q.1.size)] ++ klS sp (p + q.1.size + q.2.size)
def lkL : List Hg → Nat → List Ls3
  | [], _ => []
  | h :: hs, p => lk h p ++ lkL hs (p + h.size)
def lkS : List (Hg × Hg) → Nat → List Ls3
  | [], _ => []
  | q :: sp, p => lk q.1 p ++ lk q.2 (p + q.1.size) ++ lkS sp (p + q.1.size + q.2.size)
def tptL : List Hg → Nat → List (Nat × Int)
  | [], _ => []
  | h :: hs, p => tpt h p ++ tptL hs (p + h.size)
def tptS : List (Hg × Hg) → Nat → List (Nat × Int)
  | [], _ => []
  | q :: sp, p => tpt q.1 p ++ tpt q.2 (p + q.1.size) ++ tptS sp (p + q.1.size + q.2.size)
def manyA (N : NetA) : Nat := szL N.hs + szS N.sp
def tptA (N : NetA) : List (Nat × Int) := tptL N.hs 0 ++ tptS N.sp (szL N.hs)
def linesA (N : NetA) : List Ln := klL N.hs 0 ++ klS N.sp (szL N.hs) ++ cordL (fun _ => none) (tptA N)
def loosesA (N : NetA) : List Ls3 := lkL N.hs 0 ++ lkS N.sp (szL N.hs)
end Nl
/-! R22: the law's plan -/
namespace Nl
open PySem Sm Gr
variable {T : Nat → Option Body}
def ofQ (q : Nat × Int) : D := .tup [.int (q.1 : Int), .int q.2]
structure LpAt (S : Store) (k a b d : Nat) (p : Nat) (Q : List (Nat × Int)) (X : List Ln) (B : List D) : Prop where
  hk : S[k]? = some (.lst [.int p, .cell a, .cell b, .cell d])
  ha : S[a]? = some (.lst (Q.map ofQ))
  hb : S[b]? = some (.lst (X.map ofE))
  hd : S[d]? = some (.lst B)
  nd : [k, a, b, d].Nodup
section
variable {S : Store} {k a b d p : Nat} {Q : List (Nat × Int)} {X : List Ln} {B : List D}
theorem LpAt.frame {S' : Store} (l : LpAt S k a b d p Q X B) (h : ∀ j, j ∈ [k, a, b, d] → S'[j]? = S[j]?) : LpAt S' k a b d p Q X B := by
  obtain ⟨hk, ha, hb, hd, nd⟩ := l
  exact ⟨(h k (by simp)).trans hk, (h a (by simp)).trans ha, (h b (by simp)).trans hb, (h d (by simp)).trans hd, nd⟩
end
end Nl
/-! R23: the law's plan, whole -/
namespace Nl
open PySem Sm Gr
variable {T : Nat → Option Body}
/-- the same as far as s0 -/
def Upto (s0 : Nat) (S S' : Store) : Prop := ∀ j, j < s0 → S'[j]? = S[j]?
theorem Upto.trans {s0 : Nat} {S S1 S2 : Store} (a : Upto s0 S S1) (b : Upto s0 S1 S2) : Upto s0 S S2 := fun j h => (b j h).trans (a j h)
def planD (N : NetA) : D := .lst [.int (manyA N), .lst ((tptA N).map ofQ), .lst ((linesA N).map ofE), .lst ((loosesA N).map ofT)]
theorem LpAt.ext {S : Store} {k a b d p p' : Nat} {Q Q' : List (Nat × Int)} {X X' : List Ln} {B B' : List D} (l : LpAt S k a b d p Q X B) (e1 : p = p') (e2 : Q = Q') (e3 : X = X') (e4 : B = B') : LpAt S k a b d p' Q' X' B' := by
  subst e1 e2 e3 e4; exact l
end Nl
/-! R24: whether a net holds by a choice, the program's and the law's -/
namespace Nl
open PySem Sm Gr
variable {T : Nat → Option Body}
/-! ### lines lie between points -/
/-! ### all ties -/
/-- the clumps of the lines so far; each line so far drew two together -/
structure Tied (S : Store) (q : Nat) (X : List Ln) (n i : Nat) : Prop where
  hs : ∃ hs, S[q]? = some (.lst (hs.map ofN)) ∧ UF hs n (lab (X.take i)) i
  full : rk (X.take i) = i
theorem Tied.init {S : Store} {q n : Nat} {X : List Ln} (h : S[q]? = some (.lst ((List.range n).map fun (k : Nat) => D.int k))) : Tied S q X n 0 :=
  ⟨⟨List.range n, h, by rw [List.take_zero]; exact UF.init n⟩, by simp [rkF]⟩
theorem Tied.frame {S S' : Store} {q n i : Nat} {X : List Ln} (t : Tied S q X n i) (h : S'[q]? = S[q]?) : Tied S' q X n i := by
  obtain ⟨⟨hs, hq, u⟩, full⟩ := t
  exact ⟨⟨hs, h.trans hq, u⟩, full⟩
theorem Tied.end_ {S : Store} {q n : Nat} {X : List Ln} (t : Tied S q X n X.length) : rk X = X.length := by
  have := t.full
  rwa [List.take_length] at this
/-! ### the law's own -/
@[simp] theorem pl0 (S : Store) (N : NetA) : oIx S (planD N) (.int 0) = .ok (.int (manyA N)) S := by simp [planD]
@[simp] theorem pl2 (S : Store) (N : NetA) : oIx S (planD N) (.int 2) = .ok (.lst ((linesA N).map ofE)) S := by simp [planD]
@[simp] theorem pl3 (S : Store) (N : NetA) : oIx S (planD N) (.int 3) = .ok (.lst ((loosesA N).map ofT)) S := by simp [planD]
end Nl
/-! R25: choices -/
/-! R26: clumps drawn together at loose knots -/
namespace Nl
open PySem Sm Gr
variable {T : Nat → Option Body}
/-- all but one cell stands as it stood -/
structure But (q : Nat) (S S' : Store) : Prop where
  len : S.length ≤ S'.length
  old : ∀ j, j < S.length → j ≠ q → S'[j]? = S[j]?
theorem But.refl (q : Nat) (S : Store) : But q S S := ⟨Nat.le_refl _, fun _ _ _ => rfl⟩
theorem But.trans {q : Nat} {S S1 S2 : Store} (a : But q S S1) (b : But q S1 S2) : But q S S2 := ⟨Nat.le_trans a.len b.len, fun j h n => (b.old j (Nat.lt_of_lt_of_le h a.len) n).trans (a.old j h n)⟩
theorem Keep.but {q : Nat} {S S' : Store} (k : Keep S [q] S') : But q S S' := ⟨Nat.le_of_eq k.len.symm, fun j _ n => k.old j (by simpa using n)⟩
theorem But.app (q : Nat) (S X : Store) : But q S (S ++ X) := ⟨by simp, fun j h _ => List.getElem?_append_left h⟩
def HAt (S : Store) (q n : Nat) (h : Nat → Nat) (m : Nat) : Prop := ∃ hs, S[q]? = some (.lst (hs.map ofN)) ∧ UF hs n h m
theorem HAt.same {S S' : Store} {q n m : Nat} {h : Nat → Nat} (a : HAt S q n h m) (e : S'[q]? = S[q]?) : HAt S' q n h m := by
  obtain ⟨hs, h1, u⟩ := a
  exact ⟨hs, e.trans h1, u⟩
def big : Nat := 100000
@[irreducible] def oRep (c : Bool) (z : Int) (S : Store) : R D := oMul c S (.lst [.int 0]) (.int z)
theorem oRep_is (c : Bool) (z : Int) (S : Store) : oRep c z S = oMul c S (.lst [.int 0]) (.int z) := by rw [oRep]
def kRep (c : Bool) : R D → R D
  | .ok (.int z) S => oRep c z S
  | .ok d S => oMul c S (.lst [.int 0]) d
  | .ex c S => .ex c S
  | .err => .err
@[simp] theorem kRep_0 (c : Bool) (z : Int) (S : Store) : kRep c (.ok (.int z) S) = oRep c z S := rfl
theorem kRep_any (c : Bool) (d : D) (S : Store) : kRep c (.ok d S) = oMul c S (.lst [.int 0]) d := by
  cases d with
  | int z => exact oRep_is c z S
  | _ => rfl
@[simp ↓ high] theorem x_rep (c : Bool) (b : ME) (ρ : Sm.Env) (S : Store) : m2 (oMul c) (mN (oLst false) (mCons (mC (.int 0)) (mNil))) b ρ S = kRep c (b ρ S) := by
  have e : mN (oLst false) (mCons (mC (.int 0)) (mNil)) ρ S = .ok (.lst [.int 0]) S := by simp
  unfold m2
  rw [e, bind_ok]
  cases b ρ S with
  | ok d S1 => rw [bind_ok, kRep_any]
  | ex c S1 => rfl
  | err => rfl
end Nl
/-! R27: a fault is told -/
namespace Nl
open PySem Sm Gr
variable {T : Nat → Option Body}
/-- a list of places, in a cell or not -/
def RdAt (S : Store) (q : Nat) (rd : D) (rest : List Nat) : Prop := rd = .lst (rest.map ofN) ∨ ∃ c, rd = .cell c ∧ c ≠ q ∧ S[c]? = some (.lst (rest.map ofN))
theorem RdAt.but {S S' : Store} {q : Nat} {rd : D} {rest : List Nat} (h : RdAt S q rd rest) (b : But q S S') : RdAt S' q rd rest := by
  rcases h with h | ⟨c, h1, h2, h3⟩
  · exact .inl h
  · exact .inr ⟨c, h1, h2, (b.old c (lt_of_get h3) h2).trans h3⟩
theorem RdAt.seq {S : Store} {q : Nat} {rd : D} {rest : List Nat} (h : RdAt S q rd rest) : seqL S rd = some (rest.map ofN) := by
  rcases h with rfl | ⟨c, rfl, _, h3⟩
  · rfl
  · rw [seqL_cell, h3]; rfl
theorem RdAt.len {S : Store} {q : Nat} {rd : D} {rest : List Nat} (h : RdAt S q rd rest) : oLen S [rd] = .ok (.int rest.length) S := by
  rcases h with rfl | ⟨c, rfl, _, h3⟩
  · simp
  · simp [h3]
theorem eqF_N : EqF ofN := fun a b => by
  unfold ofN
  rw [eqD_int]
  exact decide_eq_decide.mpr ⟨fun h => by omega, fun h => by omega⟩
theorem lay_N (cs : List Nat) : Lay (.lst (cs.map ofN)) 1 := lay_map (n := 0) fun b _ => lay_int _ _
theorem RdAt.emp {S : Store} {q : Nat} {rd : D} {rest : List Nat} (h : RdAt S q rd rest) : oEq S rd (.lst []) = .ok (.bl (decide (rest = []))) S := by
  have hd : deref S rd = .lst (rest.map ofN) := by
    rcases h with rfl | ⟨c, rfl, _, h3⟩
    · simp
    · simp [h3]
  exact oEq_lay (A := List Nat) (f := fun l => .lst (l.map ofN)) (fun x y => eq_lstF eqF_N x y) (a := rest) (b := []) (lay_N _) (lay_N []) (by decide) (by decide) hd (by simp)
theorem PlAt.but {S S' : Store} {k a b d q p m : Nat} {X : List Ln} {B : List D} {en : Int → Option Nat} (l : PlAt S k a b d p X B en m) (hq : q ∉ [k, a, b, d]) (bt : But q S S') : PlAt S' k a b d p X B en m :=
  l.frame fun j hj => bt.old j (by
    have h1 := lt_of_get l.hk; have h2 := lt_of_get l.ha; have h3 := lt_of_get l.hb; obtain ⟨_, h4, _⟩ := l.hd; have h4 := lt_of_get h4
    simp at hj
    rcases hj with rfl | rfl | rfl | rfl <;> assumption) (fun e => hq (by rw [← e]; exact hj))
end Nl
/-! R28: a fault is told, or none -/
/-! G3: trees on points -/
namespace Gr
variable {V : Type} [DecidableEq V]
abbrev In (U : List V) (E : List (V × V)) : Prop := ∀ e ∈ E, e.1 ∈ U ∧ e.2 ∈ U
structure TreeOn (U : List V) (E : List (V × V)) : Prop where
  in_ : In U E
  full : rk E = E.length
  len : E.length + 1 = U.length
theorem full_perm' {E F : List (V × V)} (p : E.Perm F) : rk E = E.length ↔ rk F = F.length := by rw [rk_perm p, p.length_eq]
theorem TreeOn.perm {U W : List V} {E F : List (V × V)} (pu : U.Perm W) (pe : E.Perm F) : TreeOn U E ↔ TreeOn W F := by
  constructor
  · rintro ⟨h1, h2, h3⟩
    exact ⟨fun e he => by have := h1 e (pe.mem_iff.mpr he); exact ⟨pu.mem_iff.mp this.1, pu.mem_iff.mp this.2⟩, (full_perm' pe).mp h2, by rw [← pe.length_eq, ← pu.length_eq]; exact h3⟩
  · rintro ⟨h1, h2, h3⟩
    exact ⟨fun e he => by have := h1 e (pe.mem_iff.mp he); exact ⟨pu.mem_iff.mpr this.1, pu.mem_iff.mpr this.2⟩, (full_perm' pe).mpr h2, by rw [pe.length_eq, pu.length_eq]; exact h3⟩
theorem full_sub {E F : List (V × V)} (h : rk (E ++ F) = (E ++ F).length) : rk E = E.length := by
  have h1 : rk (E ++ F) = rk E + rkF F (labF E id) := rk_app E F id
  have h2 := rk_le F (labF E id)
  have h3 : rk E ≤ E.length := rk_le E id
  rw [List.length_append] at h
  omega
theorem full_sub' {E F : List (V × V)} (h : rk (E ++ F) = (E ++ F).length) : rk F = F.length := full_sub (E := F) (F := E) ((full_perm' List.perm_append_comm).mp h)
/-- lines without a way round are fewer than points -/
theorem full_lt {U : List V} (nd : U.Nodup) (ne : U ≠ []) {E : List (V × V)} (h : In U E) (f : rk E = E.length) : E.length + 1 ≤ U.length := by
  have rc := rk_count nd h
  rw [f] at rc
  have st := lab_stay (U := U) E (h := id) (fun _ h => h) h
  have id := lab_idem E (h := id) fun _ => rfl
  obtain ⟨u, hu⟩ := List.exists_mem_of_ne_nil U ne
  have : lab E u ∈ fixed U (lab E) := List.mem_filter.mpr ⟨st u hu, by simp; exact id u⟩
  have := List.length_pos_of_mem this
  omega
theorem conn_in {U : List V} {E F : List (V × V)} (h1 : In U E) (h2 : ∀ e ∈ F, e.1 ∉ U ∧ e.2 ∉ U) {a b : V} (c : Conn (E ++ F) a b) : a ∈ U ↔ b ∈ U := by
  induction c with
  | refl a => rfl
  | symm a b _ ih => exact ih.symm
  | trans a b c _ _ i j => exact i.trans j
  | edge a b m =>
    rcases List.mem_append.mp m with z | z
    · exact ⟨fun _ => (h1 _ z).2, fun _ => (h1 _ z).1⟩
    · exact ⟨fun q => absurd q (h2 _ z).1, fun q => absurd q (h2 _ z).2⟩
theorem conn_of_in {U : List V} {E : List (V × V)} (h1 : In U E) {a b : V} (c : Conn E a b) : a = b ∨ (a ∈ U ∧ b ∈ U) := by
  induction c with
  | refl a => exact .inl rfl
  | symm a b _ ih =>
    rcases ih with h | h
    · exact .inl h.symm
    · exact .inr h.symm
  | trans a b c _ _ i j =>
    rcases i with rfl | i
    · exact j
    · rcases j with rfl | j
      · exact .inr i
      · exact .inr ⟨i.1, j.2⟩
  | edge a b m => exact .inr (h1 _ m)
theorem map_same {U : List V} {E : List (V × V)} (h : In U E) {f : V → V} (hf : ∀ v ∈ U, f v = v) : E.map (mp f) = E := by
  conv => rhs; rw [← List.map_id E]
  refine List.map_congr_left fun e he => ?_
  have := h e he
  unfold mp
  rw [hf _ this.1, hf _ this.2]; rfl
/-- a point that hangs at one line -/
theorem rk_leaf {U : List V} {E : List (V × V)} (h : In U E) {p a : V} (hp : p ∉ U) (ha : p ≠ a) : rk ((p, a) :: E) = 1 + rk E := by
  rw [rk_cut ha, map_same h fun v hv => if_neg fun e => hp (by rw [← e]; exact hv)]
theorem tree_leaf {U : List V} {E : List (V × V)} {p a : V} (hp : p ∉ U) (ha : a ∈ U) (h : In U E) : TreeOn (p :: U) ((p, a) :: E) ↔ TreeOn U E := by
  have ne : p ≠ a := fun e => hp (by rw [e]; exact ha)
  have r := rk_leaf h hp ne
  constructor
  · rintro ⟨h1, h2, h3⟩
    rw [r] at h2
    simp only [List.length_cons] at h2 h3
    exact ⟨h, by omega, by omega⟩
  · rintro ⟨h1, h2, h3⟩
    refine ⟨fun e he => ?_, by rw [r, h2, List.length_cons]; omega, by simp only [List.length_cons]; omega⟩
    rcases List.mem_cons.mp he with rfl | he
    · exact ⟨List.mem_cons_self, List.mem_cons_of_mem _ ha⟩
    · exact ⟨List.mem_cons_of_mem _ (h e he).1, List.mem_cons_of_mem _ (h e he).2⟩
/-- lines on points apart -/
theorem rk_apart {U W : List V} {E F : List (V × V)} (h1 : In U E) (h2 : In W F) (dis : ∀ v ∈ U, v ∉ W) : rk (E ++ F) = rk E + rk F := by
  rw [rk_app', map_same h2 fun v hv => ?_]
  have c : Conn E v (lab E v) := (lab_iff E v (lab E v)).mp (lab_idem E (h := id) (fun _ => rfl) v).symm
  rcases conn_of_in h1 c with e | e
  · exact e.symm
  · exact absurd hv (dis v e.1)
theorem tree_bridge {U W : List V} (nu : U.Nodup) (nw : W.Nodup) {E F : List (V × V)} (h1 : In U E) (h2 : In W F) (dis : ∀ v ∈ U, v ∉ W) {a b : V} (ha : a ∈ U) (hb : b ∈ W) : TreeOn (U ++ W) ((a, b) :: (E ++ F)) ↔ TreeOn U E ∧ TreeOn W F := by
  have r := rk_apart h1 h2 dis
  constructor
  · rintro ⟨_, t2, t3⟩
    have f : rk (E ++ F) = (E ++ F).length := full_sub' (E := [(a, b)]) t2
    have f1 := full_sub f
    have f2 := full_sub' f
    have l1 := full_lt nu (List.ne_nil_of_mem ha) h1 f1
    have l2 := full_lt nw (List.ne_nil_of_mem hb) h2 f2
    simp only [List.length_cons, List.length_append] at t3
    exact ⟨⟨h1, f1, by omega⟩, ⟨h2, f2, by omega⟩⟩
  · rintro ⟨t1, t2⟩
    have inn : In (U ++ W) (E ++ F) := fun e he => by
      rcases List.mem_append.mp he with z | z
      · exact ⟨List.mem_append_left _ (h1 e z).1, List.mem_append_left _ (h1 e z).2⟩
      · exact ⟨List.mem_append_right _ (h2 e z).1, List.mem_append_right _ (h2 e z).2⟩
    refine ⟨fun e he => ?_, ?_, by have := t1.len; have := t2.len; simp only [List.length_cons, List.length_append]; omega⟩
    · rcases List.mem_cons.mp he with rfl | he
      · exact ⟨List.mem_append_left _ ha, List.mem_append_right _ hb⟩
      · exact inn e he
    · have p : ((a, b) :: (E ++ F)).Perm ((E ++ F) ++ [(a, b)]) := List.perm_append_comm (l₁ := [(a, b)])
      refine (full_perm' p).mpr ?_
      rw [Nl.rk_snoc, r, t1.full, t2.full, if_neg fun z => ?_]
      · simp only [List.length_append, List.length_singleton]
      · have c := (lab_iff _ _ _).mp z
        have := (conn_in h1 (fun e he => ⟨fun q => dis _ q (h2 e he).1, fun q => dis _ q (h2 e he).2⟩) c).mp ha
        exact dis b this hb
end Gr
/-! R29: points as hangs: whether a net is sound, without numbers for points -/
namespace Nl
open PySem Sm Gr
def sub : Hg → List Hg
  | .tip d y n => [.tip d y n]
  | .knot k l r => .knot k l r :: (sub l ++ sub r)
def klv : Hg → List (Hg × Hg)
  | .tip _ _ _ => []
  | .knot k l r => klv l ++ klv r ++ (if k then [] else [(.knot k l r, l), (.knot k l r, r)])
def lkv : Hg → List (Hg × Hg × Hg)
  | .tip _ _ _ => []
  | .knot k l r => (if k then [(.knot k l r, l, r)] else []) ++ (lkv l ++ lkv r)
def pv (c : Hg → Bool) (t : Hg × Hg × Hg) : Hg × Hg := (t.1, if c t.1 then t.2.2 else t.2.1)
def hln (c : Hg → Bool) (h : Hg) : List (Hg × Hg) := klv h ++ (lkv h).map (pv c)
def isLight : Hg → Bool
  | .tip false _ _ => true
  | _ => false
/-- the cords' lines -/
def cdl (ts : List Hg) : List (Hg × Hg) := (ts.filter isLight).map fun t => (t, t.mir)
def ptsL (hs : List Hg) : List Hg := hs.flatMap sub
def ptsS (sp : List (Hg × Hg)) : List Hg := sp.flatMap fun p => sub p.1 ++ sub p.2
def hlnL (c : Hg → Bool) (hs : List Hg) : List (Hg × Hg) := hs.flatMap (hln c)
def hlnS (c : Hg → Bool) (sp : List (Hg × Hg)) : List (Hg × Hg) := sp.flatMap fun p => hln c p.1 ++ hln c p.2
def ptsA (hs : List Hg) (sp : List (Hg × Hg)) : List Hg := ptsL hs ++ ptsS sp
def slnA (c : Hg → Bool) (hs : List Hg) (sp : List (Hg × Hg)) : List (Hg × Hg) := hlnL c hs ++ hlnS c sp ++ sp ++ cdl (allT hs sp)
def TreeV (hs : List Hg) (sp : List (Hg × Hg)) (c : Hg → Bool) : Prop := TreeOn (ptsA hs sp) (slnA c hs sp)
def SoundV (hs : List Hg) (sp : List (Hg × Hg)) : Prop := ∀ c, TreeV hs sp c
/-! ### each point stands once -/
theorem sub_self : ∀ h : Hg, h ∈ sub h
  | .tip _ _ _ => by simp [sub]
  | .knot _ _ _ => by simp [sub]
theorem sub_len : ∀ h : Hg, (sub h).length = h.size
  | .tip _ _ _ => rfl
  | .knot k l r => by simp [sub, sub_len l, sub_len r, Hg.size]
theorem tips_sub : ∀ {h g : Hg}, g ∈ sub h → ∀ t ∈ g.tips, t ∈ h.tips
  | .tip _ _ _, g, hg, t, ht => by
    simp [sub] at hg
    subst hg; exact ht
  | .knot k l r, g, hg, t, ht => by
    simp only [sub, List.mem_cons, List.mem_append] at hg
    rcases hg with rfl | hg | hg
    · exact ht
    · exact List.mem_append_left _ (tips_sub hg t ht)
    · exact List.mem_append_right _ (tips_sub hg t ht)
theorem tips_ne (h : Hg) : h.tips ≠ [] := fun e => by
  have := h.nt_pos
  unfold Hg.nt at this
  rw [e] at this; simp at this
theorem sub_size : ∀ {h g : Hg}, g ∈ sub h → g = h ∨ g.size < h.size
  | .tip _ _ _, g, hg => by simp [sub] at hg; exact .inl hg
  | .knot k l r, g, hg => by
    have e : (Hg.knot k l r).size = l.size + r.size + 1 := rfl
    simp only [sub, List.mem_cons, List.mem_append] at hg
    rcases hg with rfl | hg | hg
    · exact .inl rfl
    · rcases sub_size hg with rfl | z
      · right; omega
      · right; omega
    · rcases sub_size hg with rfl | z
      · right; omega
      · right; omega
theorem sub_nodup : ∀ {h : Hg}, h.tips.Nodup → (sub h).Nodup
  | .tip _ _ _, _ => by simp [sub]
  | .knot k l r, nd => by
    have nd : (l.tips ++ r.tips).Nodup := nd
    obtain ⟨n1, n2, n3⟩ := List.nodup_append.mp nd
    have e : (Hg.knot k l r).size = l.size + r.size + 1 := rfl
    show (_ :: (sub l ++ sub r)).Nodup
    rw [List.nodup_cons]
    refine ⟨fun m => ?_, List.nodup_append.mpr ⟨sub_nodup n1, sub_nodup n2, fun a ha b hb eab => ?_⟩⟩
    · rcases List.mem_append.mp m with z | z
      · rcases sub_size z with w | w
        · rw [w] at e; omega
        · omega
      · rcases sub_size z with w | w
        · rw [w] at e; omega
        · omega
    · subst eab
      obtain ⟨t, ht⟩ := List.exists_mem_of_ne_nil _ (tips_ne a)
      exact n3 t (tips_sub ha t ht) t (tips_sub hb t ht) rfl
theorem ptsL_tips : ∀ {hs : List Hg} {g : Hg}, g ∈ ptsL hs → ∀ t ∈ g.tips, t ∈ tipsL hs := fun {hs g} hg t ht => by
  obtain ⟨h, hh, m⟩ := List.mem_flatMap.mp hg
  exact List.mem_flatMap.mpr ⟨h, hh, tips_sub m t ht⟩
theorem ptsL_nodup : ∀ {hs : List Hg}, (tipsL hs).Nodup → (ptsL hs).Nodup
  | [], _ => List.nodup_nil
  | h :: hs, nd => by
    rw [tipsL_cons] at nd
    obtain ⟨n1, n2, n3⟩ := List.nodup_append.mp nd
    show (sub h ++ ptsL hs).Nodup
    refine List.nodup_append.mpr ⟨sub_nodup n1, ptsL_nodup n2, fun a ha b hb eab => ?_⟩
    subst eab
    obtain ⟨t, ht⟩ := List.exists_mem_of_ne_nil _ (tips_ne a)
    exact n3 t (tips_sub ha t ht) t (ptsL_tips hb t ht) rfl
theorem ptsS_eq (sp : List (Hg × Hg)) : ptsS sp = ptsL (sp.flatMap fun p => [p.1, p.2]) := by
  unfold ptsS ptsL
  induction sp with
  | nil => rfl
  | cons p sp ih => simp only [List.flatMap_cons, ih, List.flatMap_append]; simp
theorem tipsS_eq (sp : List (Hg × Hg)) : tipsS sp = tipsL (sp.flatMap fun p => [p.1, p.2]) := by
  unfold tipsS tipsL tipsP
  induction sp with
  | nil => rfl
  | cons p sp ih => simp only [List.flatMap_cons, ih, List.flatMap_append]; simp
theorem ptsA_eq (hs : List Hg) (sp : List (Hg × Hg)) : ptsA hs sp = ptsL (hs ++ sp.flatMap fun p => [p.1, p.2]) := by
  unfold ptsA
  rw [ptsS_eq]
  unfold ptsL
  rw [List.flatMap_append]
theorem allT_eq (hs : List Hg) (sp : List (Hg × Hg)) : allT hs sp = tipsL (hs ++ sp.flatMap fun p => [p.1, p.2]) := by
  unfold allT
  rw [tipsS_eq, tipsL_app]
theorem ptsA_nodup {hs : List Hg} {sp : List (Hg × Hg)} (f : Fits (allT hs sp)) : (ptsA hs sp).Nodup := by
  rw [ptsA_eq]
  have := f.nodup
  rw [allT_eq] at this
  exact ptsL_nodup this
/-! ### lines lie between points -/
theorem klv_in : ∀ (h : Hg), In (sub h) (klv h)
  | .tip _ _ _, e, he => by simp [klv] at he
  | .knot k l r, e, he => by
    simp only [klv, List.mem_append] at he
    have m1 : ∀ x ∈ sub l, x ∈ sub (.knot k l r) := fun x hx => List.mem_cons_of_mem _ (List.mem_append_left _ hx)
    have m2 : ∀ x ∈ sub r, x ∈ sub (.knot k l r) := fun x hx => List.mem_cons_of_mem _ (List.mem_append_right _ hx)
    rcases he with (he | he) | he
    · exact ⟨m1 _ (klv_in l e he).1, m1 _ (klv_in l e he).2⟩
    · exact ⟨m2 _ (klv_in r e he).1, m2 _ (klv_in r e he).2⟩
    · cases k <;> simp at he
      rcases he with rfl | rfl
      · exact ⟨List.mem_cons_self, m1 _ (sub_self l)⟩
      · exact ⟨List.mem_cons_self, m2 _ (sub_self r)⟩
theorem lkv_in : ∀ (h : Hg) {t : Hg × Hg × Hg}, t ∈ lkv h → t.1 ∈ sub h ∧ t.2.1 ∈ sub h ∧ t.2.2 ∈ sub h
  | .tip _ _ _, t, ht => by simp [lkv] at ht
  | .knot k l r, t, ht => by
    have m1 : ∀ x ∈ sub l, x ∈ sub (.knot k l r) := fun x hx => List.mem_cons_of_mem _ (List.mem_append_left _ hx)
    have m2 : ∀ x ∈ sub r, x ∈ sub (.knot k l r) := fun x hx => List.mem_cons_of_mem _ (List.mem_append_right _ hx)
    simp only [lkv, List.mem_append] at ht
    rcases ht with ht | ht | ht
    · cases k <;> simp at ht
      subst ht
      exact ⟨List.mem_cons_self, m1 _ (sub_self l), m2 _ (sub_self r)⟩
    · have := lkv_in l ht
      exact ⟨m1 _ this.1, m1 _ this.2.1, m1 _ this.2.2⟩
    · have := lkv_in r ht
      exact ⟨m2 _ this.1, m2 _ this.2.1, m2 _ this.2.2⟩
theorem hln_in (c : Hg → Bool) (h : Hg) : In (sub h) (hln c h) := fun e he => by
  rcases List.mem_append.mp he with z | z
  · exact klv_in h e z
  · obtain ⟨t, ht, rfl⟩ := List.mem_map.mp z
    have := lkv_in h ht
    refine ⟨this.1, ?_⟩
    show (if c t.1 then t.2.2 else t.2.1) ∈ _
    split
    · exact this.2.2
    · exact this.2.1
theorem tip_sub : ∀ {h t : Hg}, t ∈ h.tips → t ∈ sub h
  | .tip _ _ _, t, ht => by simpa [sub, Hg.tips] using ht
  | .knot _ l r, t, ht => by
    rcases List.mem_append.mp ht with z | z
    · exact List.mem_cons_of_mem _ (List.mem_append_left _ (tip_sub z))
    · exact List.mem_cons_of_mem _ (List.mem_append_right _ (tip_sub z))
theorem tipL_pts {hs : List Hg} {t : Hg} (h : t ∈ tipsL hs) : t ∈ ptsL hs := by
  obtain ⟨g, hg, m⟩ := List.mem_flatMap.mp h
  exact List.mem_flatMap.mpr ⟨g, hg, tip_sub m⟩
theorem tipA_pts {hs : List Hg} {sp : List (Hg × Hg)} {t : Hg} (h : t ∈ allT hs sp) : t ∈ ptsA hs sp := by
  rw [allT_eq] at h
  rw [ptsA_eq]
  exact tipL_pts h
theorem cdl_in {ts : List Hg} (f : Fits ts) : In ts (cdl ts) := fun e he => by
  obtain ⟨t, ht, rfl⟩ := List.mem_map.mp he
  have := (List.mem_filter.mp ht).1
  exact ⟨this, f.far this⟩
theorem slnA_in {hs : List Hg} {sp : List (Hg × Hg)} (f : Fits (allT hs sp)) (c : Hg → Bool) : In (ptsA hs sp) (slnA c hs sp) := fun e he => by
  unfold slnA at he
  simp only [List.mem_append] at he
  rcases he with ((he | he) | he) | he
  · obtain ⟨h, hh, m⟩ := List.mem_flatMap.mp he
    have := hln_in c h e m
    exact ⟨List.mem_append_left _ (List.mem_flatMap.mpr ⟨h, hh, this.1⟩), List.mem_append_left _ (List.mem_flatMap.mpr ⟨h, hh, this.2⟩)⟩
  · obtain ⟨p, hp, m⟩ := List.mem_flatMap.mp he
    have key : e.1 ∈ sub p.1 ++ sub p.2 ∧ e.2 ∈ sub p.1 ++ sub p.2 := by
      rcases List.mem_append.mp m with z | z
      · have := hln_in c p.1 e z
        exact ⟨List.mem_append_left _ this.1, List.mem_append_left _ this.2⟩
      · have := hln_in c p.2 e z
        exact ⟨List.mem_append_right _ this.1, List.mem_append_right _ this.2⟩
    exact ⟨List.mem_append_right _ (List.mem_flatMap.mpr ⟨p, hp, key.1⟩), List.mem_append_right _ (List.mem_flatMap.mpr ⟨p, hp, key.2⟩)⟩
  · exact ⟨List.mem_append_right _ (List.mem_flatMap.mpr ⟨e, he, List.mem_append_left _ (sub_self _)⟩), List.mem_append_right _ (List.mem_flatMap.mpr ⟨e, he, List.mem_append_right _ (sub_self _)⟩)⟩
  · have := cdl_in f e he
    exact ⟨tipA_pts this.1, tipA_pts this.2⟩
end Nl
/-! R30: points as hangs and points as numbers -/
namespace Nl
open PySem Sm Gr
def At (P : List Hg) (p : Nat) (h : Hg) : Prop := ∃ post, P.drop p = sub h ++ post
def pf (P : List Hg) (i : Nat) : Hg := P.getD i default
theorem pf_of {P : List Hg} {p : Nat} {x : Hg} {r : List Hg} (h : P.drop p = x :: r) : pf P p = x := by
  unfold pf
  rw [List.getD_eq_getElem?_getD]
  have := List.getElem?_drop (xs := P) (i := p) (j := 0)
  rw [h] at this
  simp at this
  rw [← this]; rfl
theorem At.here {P : List Hg} {p : Nat} {h : Hg} (a : At P p h) : pf P p = h := by
  obtain ⟨post, e⟩ := a
  cases h with
  | tip d y n => exact pf_of e
  | knot k l r => exact pf_of e
def m3 (f : Nat → Hg) (t : Ls3) : Hg × Hg × Hg := (f t.1, f t.2.1, f t.2.2)
def tn (t : Hg) : Hg × Int := (t, tnum t)
def AtL (P : List Hg) (p : Nat) (hs : List Hg) : Prop := ∃ post, P.drop p = ptsL hs ++ post
theorem AtL.head {P : List Hg} {p : Nat} {h : Hg} {hs : List Hg} (a : AtL P p (h :: hs)) : At P p h ∧ AtL P (p + h.size) hs := by
  obtain ⟨post, e⟩ := a
  have e : P.drop p = sub h ++ (ptsL hs ++ post) := by rw [e]; show (sub h ++ ptsL hs) ++ post = _; rw [List.append_assoc]
  exact ⟨⟨_, e⟩, post, by rw [← List.drop_drop, e, ← sub_len h, List.drop_left]⟩
def AtS (P : List Hg) (p : Nat) (sp : List (Hg × Hg)) : Prop := ∃ post, P.drop p = ptsS sp ++ post
theorem AtS.head {P : List Hg} {p : Nat} {q : Hg × Hg} {sp : List (Hg × Hg)} (a : AtS P p (q :: sp)) : At P p q.1 ∧ At P (p + q.1.size) q.2 ∧ AtS P (p + q.1.size + q.2.size) sp := by
  obtain ⟨post, e⟩ := a
  have e : P.drop p = sub q.1 ++ (sub q.2 ++ (ptsS sp ++ post)) := by
    rw [e]; show (sub q.1 ++ sub q.2 ++ ptsS sp) ++ post = _; simp only [List.append_assoc]
  have e2 : P.drop (p + q.1.size) = sub q.2 ++ (ptsS sp ++ post) := by rw [← List.drop_drop, e, ← sub_len q.1, List.drop_left]
  exact ⟨⟨_, e⟩, ⟨_, e2⟩, post, by rw [← List.drop_drop, e2, ← sub_len q.2, List.drop_left]⟩
/-! ### the cords' lines, by the order of tips -/
theorem tnum_mir {t : Hg} : tnum t.mir = tnum t := by cases t <;> rfl
theorem light_mir {t : Hg} (h : t.isTip = true) : isLight t.mir = !isLight t := by
  cases t with
  | knot _ _ _ => cases h
  | tip d y n => cases d <;> rfl
theorem mir_ne {t : Hg} (h : t.isTip = true) : t.mir ≠ t := fun e => by
  have := light_mir h
  rw [e] at this
  cases isLight t <;> simp at this
end Nl
/-! R31: sound, both ways -/
/-! R32: how a net's being sound goes with its parts -/
namespace Nl
open PySem Sm Gr
/-! ### lists of hangs, splices as lines between them -/
theorem sub_knot (k : Bool) (l r : Hg) : sub (.knot k l r) = .knot k l r :: (sub l ++ sub r) := rfl
theorem hln_fast (c : Hg → Bool) (l r : Hg) : (hln c (.knot false l r)).Perm ((.knot false l r, l) :: (.knot false l r, r) :: (hln c l ++ hln c r)) := by
  refine List.perm_iff_count.mpr fun z => ?_
  simp only [hln, klv, lkv, Bool.false_eq_true, if_false, List.nil_append, List.map_append, List.count_append, List.count_cons, List.count_nil]; omega
theorem hln_loose (c : Hg → Bool) (l r : Hg) : (hln c (.knot true l r)).Perm ((.knot true l r, if c (.knot true l r) then r else l) :: (hln c l ++ hln c r)) := by
  refine List.perm_iff_count.mpr fun z => ?_
  simp only [hln, klv, lkv, if_true, List.append_nil, List.map_append, List.map_cons, List.map_nil, pv, List.count_append, List.count_cons, List.count_nil]; omega
theorem cdl_app (ts us : List Hg) : cdl (ts ++ us) = cdl ts ++ cdl us := by simp [cdl]
theorem cdl_perm {ts us : List Hg} (p : ts.Perm us) : (cdl ts).Perm (cdl us) := (p.filter _).map _
theorem hlnL_app (c : Hg → Bool) (a b : List Hg) : hlnL c (a ++ b) = hlnL c a ++ hlnL c b := List.flatMap_append
theorem hlnS_app (c : Hg → Bool) (a b : List (Hg × Hg)) : hlnS c (a ++ b) = hlnS c a ++ hlnS c b := List.flatMap_append
theorem ptsL_app (a b : List Hg) : ptsL (a ++ b) = ptsL a ++ ptsL b := List.flatMap_append
theorem ptsS_app (a b : List (Hg × Hg)) : ptsS (a ++ b) = ptsS a ++ ptsS b := List.flatMap_append
theorem flatMap_perm {A B : Type} {l m : List A} (f : A → List B) (p : l.Perm m) : (l.flatMap f).Perm (m.flatMap f) := p.flatMap_right _
/-- the order of the rack and of the splices tells nothing -/
theorem TreeV.perm {hs hs' : List Hg} {sp sp' : List (Hg × Hg)} (p : hs.Perm hs') (q : sp.Perm sp') (c : Hg → Bool) : TreeV hs sp c ↔ TreeV hs' sp' c := by
  unfold TreeV
  refine TreeOn.perm ?_ ?_
  · exact List.Perm.append (flatMap_perm _ p) (flatMap_perm _ q)
  · exact List.Perm.append (List.Perm.append (List.Perm.append (flatMap_perm _ p) (flatMap_perm _ q)) q) (cdl_perm (List.Perm.append (tipsL_perm p) (tipsS_perm q)))
theorem SoundV.perm {hs hs' : List Hg} {sp sp' : List (Hg × Hg)} (p : hs.Perm hs') (q : sp.Perm sp') : SoundV hs sp ↔ SoundV hs' sp' := by
  unfold SoundV
  exact ⟨fun h c => (TreeV.perm p q c).mp (h c), fun h c => (TreeV.perm p q c).mpr (h c)⟩
/-- a loose knot in the rack is a point at one line -/
theorem tree_loose {l r : Hg} {hs : List Hg} {sp : List (Hg × Hg)} (f : Fits (allT (.knot true l r :: hs) sp)) (c : Hg → Bool) : TreeV (.knot true l r :: hs) sp c ↔ TreeV (l :: r :: hs) sp c := by
  have f' : Fits (allT (l :: r :: hs) sp) := by
    have e : allT (.knot true l r :: hs) sp = allT (l :: r :: hs) sp := by
      unfold allT; simp only [tipsL_cons, Hg.tips, List.append_assoc]
    rw [← e]; exact f
  have nd := ptsA_nodup f
  have e1 : ptsA (.knot true l r :: hs) sp = .knot true l r :: ptsA (l :: r :: hs) sp := by
    unfold ptsA ptsL
    simp only [List.flatMap_cons, sub_knot, List.cons_append, List.append_assoc]
  rw [e1, List.nodup_cons] at nd
  have ha : (if c (.knot true l r) then r else l) ∈ ptsA (l :: r :: hs) sp := by
    unfold ptsA ptsL
    simp only [List.flatMap_cons]
    split
    · exact List.mem_append_left _ (List.mem_append_right _ (List.mem_append_left _ (sub_self r)))
    · exact List.mem_append_left _ (List.mem_append_left _ (sub_self l))
  have pe : (slnA c (.knot true l r :: hs) sp).Perm ((.knot true l r, if c (.knot true l r) then r else l) :: slnA c (l :: r :: hs) sp) := by
    have e : allT (.knot true l r :: hs) sp = allT (l :: r :: hs) sp := by
      unfold allT; simp only [tipsL_cons, Hg.tips, List.append_assoc]
    unfold slnA hlnL
    rw [e]
    refine List.perm_iff_count.mpr fun z => ?_
    have := List.perm_iff_count.mp (hln_loose c l r) z
    simp only [List.flatMap_cons, List.count_append, List.count_cons] at this ⊢
    omega
  unfold TreeV
  rw [TreeOn.perm (List.Perm.refl _) pe, e1]
  exact tree_leaf nd.1 ha (slnA_in f' c)
/-- two nets bridged by a splice -/
theorem tree_splice {hs gs : List Hg} {sp tp : List (Hg × Hg)} {a b : Hg} (f : Fits (allT (a :: hs) sp)) (g : Fits (allT (b :: gs) tp)) (dis : ∀ t ∈ allT (a :: hs) sp, t ∉ allT (b :: gs) tp) (c : Hg → Bool) :
    TreeV (hs ++ gs) ((a, b) :: (sp ++ tp)) c ↔ TreeV (a :: hs) sp c ∧ TreeV (b :: gs) tp c := by
  have d2 : ∀ v ∈ ptsA (a :: hs) sp, v ∉ ptsA (b :: gs) tp := fun v hv hw => by
    rw [ptsA_eq] at hv hw
    rw [allT_eq, allT_eq] at dis
    obtain ⟨t, ht⟩ := List.exists_mem_of_ne_nil _ (tips_ne v)
    exact dis t (ptsL_tips hv t ht) (ptsL_tips hw t ht)
  have pu : (ptsA (hs ++ gs) ((a, b) :: (sp ++ tp))).Perm (ptsA (a :: hs) sp ++ ptsA (b :: gs) tp) := by
    unfold ptsA
    rw [ptsL_app, show ptsS ((a, b) :: (sp ++ tp)) = sub a ++ sub b ++ ptsS (sp ++ tp) from rfl, ptsS_app, show ptsL (a :: hs) = sub a ++ ptsL hs from rfl, show ptsL (b :: gs) = sub b ++ ptsL gs from rfl]
    refine List.perm_iff_count.mpr fun z => ?_
    simp only [List.count_append]; omega
  have pe : (slnA c (hs ++ gs) ((a, b) :: (sp ++ tp))).Perm ((a, b) :: (slnA c (a :: hs) sp ++ slnA c (b :: gs) tp)) := by
    have pt : (allT (hs ++ gs) ((a, b) :: (sp ++ tp))).Perm (allT (a :: hs) sp ++ allT (b :: gs) tp) := by
      unfold allT
      rw [tipsL_app, tipsS_cons, tipsS_app, tipsL_cons, tipsL_cons]
      unfold tipsP
      refine List.perm_iff_count.mpr fun z => ?_
      simp only [List.count_append]; omega
    have pc := cdl_perm pt
    rw [cdl_app] at pc
    unfold slnA
    rw [hlnL_app, show hlnS c ((a, b) :: (sp ++ tp)) = hln c a ++ hln c b ++ hlnS c (sp ++ tp) from rfl, hlnS_app, show hlnL c (a :: hs) = hln c a ++ hlnL c hs from rfl, show hlnL c (b :: gs) = hln c b ++ hlnL c gs from rfl]
    refine List.perm_iff_count.mpr fun z => ?_
    have := List.perm_iff_count.mp pc z
    simp only [List.count_append, List.count_cons] at this ⊢
    omega
  unfold TreeV
  rw [TreeOn.perm pu pe]
  exact tree_bridge (ptsA_nodup f) (ptsA_nodup g) (slnA_in f c) (slnA_in g c) d2 (by unfold ptsA ptsL; simp only [List.flatMap_cons]; exact List.mem_append_left _ (List.mem_append_left _ (sub_self a))) (by unfold ptsA ptsL; simp only [List.flatMap_cons]; exact List.mem_append_left _ (List.mem_append_left _ (sub_self b)))
/-- a fast knot is a splice with a point in its midst -/
theorem tree_fast {hs : List Hg} {sp : List (Hg × Hg)} {a b : Hg} (f : Fits (allT (.knot false a b :: hs) sp)) (c : Hg → Bool) : TreeV (.knot false a b :: hs) sp c ↔ TreeV hs ((a, b) :: sp) c := by
  have pt : (allT (.knot false a b :: hs) sp).Perm (allT hs ((a, b) :: sp)) := by
    unfold allT
    rw [tipsS_cons, tipsL_cons]
    unfold tipsP
    show ((a.tips ++ b.tips) ++ tipsL hs ++ tipsS sp).Perm _
    refine List.perm_iff_count.mpr fun z => ?_
    simp only [List.count_append]; omega
  have f' : Fits (allT hs ((a, b) :: sp)) := f.perm pt
  have nd := ptsA_nodup f
  have pu : (ptsA (.knot false a b :: hs) sp).Perm (.knot false a b :: ptsA hs ((a, b) :: sp)) := by
    unfold ptsA
    rw [show ptsL (.knot false a b :: hs) = (.knot false a b :: (sub a ++ sub b)) ++ ptsL hs from rfl, show ptsS ((a, b) :: sp) = sub a ++ sub b ++ ptsS sp from rfl]
    refine List.perm_iff_count.mpr fun z => ?_
    simp only [List.count_append, List.count_cons]; omega
  have nd2 := (pu.nodup_iff).mp nd
  rw [List.nodup_cons] at nd2
  have ma : a ∈ ptsA hs ((a, b) :: sp) := List.mem_append_right _ (List.mem_append_left _ (List.mem_append_left _ (sub_self a)))
  have mb : b ∈ ptsA hs ((a, b) :: sp) := List.mem_append_right _ (List.mem_append_left _ (List.mem_append_right _ (sub_self b)))
  -- without the splice
  have inn := slnA_in f' c
  obtain ⟨E, hE, hE2⟩ : ∃ E, (slnA c hs ((a, b) :: sp)).Perm ((a, b) :: E) ∧ (slnA c (.knot false a b :: hs) sp).Perm ((.knot false a b, a) :: (.knot false a b, b) :: E) := by
    refine ⟨hlnL c hs ++ (hln c a ++ hln c b ++ hlnS c sp) ++ sp ++ cdl (allT hs ((a, b) :: sp)), ?_, ?_⟩
    · unfold slnA
      rw [show hlnS c ((a, b) :: sp) = hln c a ++ hln c b ++ hlnS c sp from rfl]
      refine List.perm_iff_count.mpr fun z => ?_
      simp only [List.count_append, List.count_cons]; omega
    · have pc := cdl_perm pt
      unfold slnA
      rw [show hlnL c (.knot false a b :: hs) = hln c (.knot false a b) ++ hlnL c hs from rfl]
      refine List.perm_iff_count.mpr fun z => ?_
      have h1 := List.perm_iff_count.mp pc z
      have h2 := List.perm_iff_count.mp (hln_fast c a b) z
      simp only [List.count_append, List.count_cons] at h1 h2 ⊢
      omega
  have iE : In (ptsA hs ((a, b) :: sp)) E := fun e he => inn e (hE.mem_iff.mpr (List.mem_cons_of_mem _ he))
  unfold TreeV
  rw [TreeOn.perm pu hE2, TreeOn.perm (List.Perm.refl _) hE]
  generalize ptsA hs ((a, b) :: sp) = U at *
  generalize hp : Hg.knot false a b = p at *
  have pa : p ≠ a := fun e => nd2.1 (by rw [e]; exact ma)
  have r1 : rk ((p, a) :: (p, b) :: E) = 1 + rk ((a, b) :: E) := by
    have em : mp (fun v => if v = p then a else v) (p, b) = (a, b) := by
      unfold mp
      show (if p = p then a else p, if b = p then a else b) = _
      rw [if_pos rfl, if_neg fun e => nd2.1 (by rw [← e]; exact mb)]
    rw [rk_cut pa, List.map_cons, em, map_same iE fun v hv => if_neg fun e => nd2.1 (by rw [← e]; exact hv)]
  constructor
  · rintro ⟨_, t2, t3⟩
    rw [r1] at t2
    simp only [List.length_cons] at t2 t3
    refine ⟨fun e he => ?_, by simp only [List.length_cons]; omega, by simp only [List.length_cons]; omega⟩
    rcases List.mem_cons.mp he with rfl | he
    · exact ⟨ma, mb⟩
    · exact iE e he
  · rintro ⟨_, t2, t3⟩
    simp only [List.length_cons] at t2 t3
    refine ⟨fun e he => ?_, by rw [r1]; simp only [List.length_cons]; omega, by simp only [List.length_cons]; omega⟩
    rcases List.mem_cons.mp he with rfl | he
    · exact ⟨List.mem_cons_self, List.mem_cons_of_mem _ ma⟩
    · rcases List.mem_cons.mp he with rfl | he
      · exact ⟨List.mem_cons_self, List.mem_cons_of_mem _ mb⟩
      · exact ⟨List.mem_cons_of_mem _ (iE e he).1, List.mem_cons_of_mem _ (iE e he).2⟩
/-- a cord by itself -/
theorem tree_cord (d : Bool) (y : Str) (n : Int) (c : Hg → Bool) : TreeV [.tip d y n, .tip (!d) y n] [] c := by
  have ne : (Hg.tip false y n) ≠ .tip true y n := fun e => by cases e
  have base : TreeV [.tip false y n, .tip true y n] [] c := by
    have e2 : slnA c [.tip false y n, .tip true y n] [] = [(.tip false y n, .tip true y n)] := by
      rfl
    have e1 : ptsA [.tip false y n, .tip true y n] [] = [.tip false y n, .tip true y n] := rfl
    unfold TreeV
    rw [e1, e2]
    refine ⟨fun e he => ?_, ?_, rfl⟩
    · simp at he
      subst he
      simp
    · show (if (Hg.tip false y n) = .tip true y n then 0 else 1) + 0 = 1
      rw [if_neg ne]
  cases d with
  | false => exact base
  | true => exact (TreeV.perm (List.Perm.swap _ _ _) (List.Perm.refl _) c).mpr base
end Nl
/-! R33: hangs bound together -/
namespace Nl
open PySem Sm Gr
theorem fits_pair (d : Bool) (y : Str) (n : Int) : Fits [.tip d y n, .tip (!d) y n] := by
  cases d
  · exact ⟨by simp [Hg.isTip], by simp [lightsOf], by simp [darksOf], by simp [lightsOf, darksOf]⟩
  · exact ⟨by simp [Hg.isTip], by simp [lightsOf], by simp [darksOf], by simp [lightsOf, darksOf]⟩
/-! ### bound together -/
end Nl
/-! R34: fault and sound at one depth; straight nets -/
namespace Nl
open PySem Sm Gr
variable {T : Nat → Option Body}
/-! ### straight nets -/
def Hg.num : Hg → Int → Hg
  | .tip d y _, k => .tip d y k
  | .knot w l r, k => .knot w (l.num k) (r.num (k + l.nt))
end Nl
/-! R35: joined with a straight net and drawn out -/
/-! G4: nets by the numbers of their cords; a fast knot that parts -/
namespace Nl
open Gr
/-! ### switchings on numbers -/
def hrt (c : Hg → Bool) : Hg → Int
  | .tip _ _ n => n
  | .knot false l _ => hrt c l
  | .knot true l r => if c (.knot true l r) then hrt c r else hrt c l
def hed (c : Hg → Bool) : Hg → List (Int × Int)
  | .tip _ _ _ => []
  | .knot false l r => (hrt c l, hrt c r) :: (hed c l ++ hed c r)
  | .knot true l r => hed c l ++ hed c r
def hedL (c : Hg → Bool) (H : List Hg) : List (Int × Int) := H.flatMap (hed c)
def fsts : Hg → Nat
  | .tip _ _ _ => 0
  | .knot k l r => (if k then 0 else 1) + fsts l + fsts r
def fstsL (H : List Hg) : Nat := (H.map fsts).sum
/-- sound, on numbers -/
structure SoundL (H : List Hg) : Prop where
  cnt : ∃ U : List Int, U.Nodup ∧ (∀ m, m ∈ U ↔ m ∈ numsL H) ∧ U.length = fstsL H + 1
  con : ∀ c, ∀ m ∈ numsL H, ∀ k ∈ numsL H, Conn (hedL c H) m k
theorem mem_numsL' {H : List Hg} {m : Int} : m ∈ numsL H ↔ ∃ h ∈ H, m ∈ nums h := by unfold numsL; exact List.mem_flatMap
/-! ### a number that can be left alone -/
end Nl
/-! G5: knots drawn together; a fast root that parts -/
namespace Nl
open Gr
/-- knots of two tips drawn together to a tip, where p tells; numbers renamed -/
def con (p : Hg → Option Int) (f : Int → Int) : Hg → Hg
  | .tip d y n => .tip d y (f n)
  | .knot k l r => match p (.knot k l r) with
    | some a => .tip false (PySem.Str.ofString "") a
    | none => .knot k (con p f l) (con p f r)
/-! ### the two ways to draw -/
end Nl
/-! G6: a sound net without a loose root has a fast root that parts it -/
/-! Q8: ways and clumps of cords -/
namespace Nl
open PySem Sm Gr
theorem nums_tips (h : Hg) : nums h = h.tips.map tnum := (numsT_tips h).symm
theorem face_edge {N : NetA} (ok : N.Ok) {x y : Hg} (h : face N x = some y) : (tnum x, tnum y) ∈ ed N.sp ∨ (tnum y, tnum x) ∈ ed N.sp := by
  have m := (face_iff ok).mp h
  obtain ⟨p, hp, m⟩ := List.mem_flatMap.mp m
  obtain ⟨q, hq, m⟩ := List.mem_flatMap.mp m
  have e : (tnum q.1, tnum q.2) ∈ ed N.sp := by
    refine List.mem_flatMap.mpr ⟨p, hp, ?_⟩
    unfold edP
    rw [nums_tips, nums_tips, List.zip_map]
    exact List.mem_map.mpr ⟨q, hq, rfl⟩
  simp at m
  rcases m with ⟨rfl, rfl⟩ | ⟨rfl, rfl⟩
  · exact .inl e
  · exact .inr e
theorem edge_face {N : NetA} (ok : N.Ok) {a b : Int} (h : (a, b) ∈ ed N.sp) : ∃ x y, face N x = some y ∧ tnum x = a ∧ tnum y = b := by
  obtain ⟨p, hp, m⟩ := List.mem_flatMap.mp h
  unfold edP at m
  rw [nums_tips, nums_tips, List.zip_map] at m
  obtain ⟨q, hq, e⟩ := List.mem_map.mp m
  cases e
  refine ⟨q.1, q.2, (face_iff ok).mpr (List.mem_flatMap.mpr ⟨p, hp, List.mem_flatMap.mpr ⟨q, hq, by simp⟩⟩), rfl, rfl⟩
theorem face_conn {N : NetA} (ok : N.Ok) {x y : Hg} (h : face N x = some y) : Conn (ed N.sp) (tnum x) (tnum y) := by
  rcases face_edge ok h with e | e
  · exact .edge _ _ e
  · exact .symm _ _ (.edge _ _ e)
/-- a road to its end -/
structure Full (N : NetA) (t : Hg) (l : List Hg) (s : Hg) : Prop where
  road : Road (face N) t l
  last : l[l.length - 1]? = some s
  end_ : face N s.mir = none ∨ face N s.mir = some t
  mem : t ∈ allT N.hs N.sp
theorem Full.of {N : NetA} {t s : Hg} {ss : List Hg} (r : Road (face N) t (ss ++ [s])) (e : face N s.mir = none ∨ face N s.mir = some t) (m : t ∈ allT N.hs N.sp) : Full N t (ss ++ [s]) s :=
  ⟨r, by simp, e, m⟩
theorem Full.in_ {N : NetA} (ok : N.Ok) {t s : Hg} {l : List Hg} (f : Full N t l s) {x : Hg} (h : x ∈ l) : x ∈ allT N.hs N.sp := by
  rcases road_mem ok f.road h with rfl | z
  · exact f.mem
  · exact List.mem_append_right _ z
theorem Full.reach {N : NetA} (ok : N.Ok) {t s : Hg} {l : List Hg} (f : Full N t l s) : ∀ (i : Nat) x, l[i]? = some x → Conn (ed N.sp) (tnum t) (tnum x)
  | 0, x, h => by
    rw [f.road.head] at h
    cases h; exact .refl _
  | i + 1, x, h => by
    have hl := lt_of_get h
    have g : l[i]? = some l[i] := List.getElem?_eq_getElem (by omega)
    have ih := f.reach ok i l[i] g
    have st := f.road.step i _ _ g h
    have := face_conn ok st
    rw [tnum_mir] at this
    exact .trans _ _ _ ih this
/-- closed at its beginning: in the rack, or round -/
def Shut (N : NetA) (t s : Hg) : Prop := face N t = none ∨ face N s.mir = some t
theorem Full.next {N : NetA} (ok : N.Ok) {t s : Hg} {l : List Hg} (f : Full N t l s) (sh : Shut N t s) {x y : Hg} (h : face N x = some y) (hx : tnum x ∈ l.map tnum) : tnum y ∈ l.map tnum := by
  obtain ⟨z, hz, e⟩ := List.mem_map.mp hx
  obtain ⟨i, gi⟩ := List.getElem?_of_mem hz
  have xin : x ∈ allT N.hs N.sp := List.mem_append_right _ (face_mem ok h).1
  rcases ok.fit.same (f.in_ ok hz) xin e with rfl | rfl
  · -- backwards
    cases i with
    | zero =>
      rw [f.road.head] at gi
      cases gi
      rcases sh with w | w
      · rw [w] at h; cases h
      · have := face_symm ok w
        rw [this] at h
        cases h
        rw [tnum_mir]
        exact List.mem_map.mpr ⟨s, List.mem_of_getElem? f.last, rfl⟩
    | succ i =>
      have hl := lt_of_get gi
      have g : l[i]? = some l[i] := List.getElem?_eq_getElem (by omega)
      have st := face_symm ok (f.road.step i _ _ g gi)
      rw [st] at h
      cases h
      rw [tnum_mir]
      exact List.mem_map.mpr ⟨l[i], List.getElem_mem _, rfl⟩
  · -- forwards
    by_cases w : i + 1 < l.length
    · have g : l[i + 1]? = some l[i + 1] := List.getElem?_eq_getElem w
      have st := f.road.step i _ _ gi g
      rw [st] at h
      cases h
      exact List.mem_map.mpr ⟨_, List.getElem_mem _, rfl⟩
    · have hl := lt_of_get gi
      have e2 : i = l.length - 1 := by omega
      rw [e2, f.last] at gi
      cases gi
      rcases f.end_ with w2 | w2
      · rw [w2] at h; cases h
      · rw [w2] at h
        cases h
        exact List.mem_map.mpr ⟨t, List.mem_of_getElem? f.road.head, rfl⟩
/-- its cords are just those that hang together with the first one -/
theorem Full.clump {N : NetA} (ok : N.Ok) {t s : Hg} {l : List Hg} (f : Full N t l s) (sh : Shut N t s) (m : Int) : m ∈ l.map tnum ↔ Conn (ed N.sp) (tnum t) m := by
  have key : ∀ a b, Conn (ed N.sp) a b → (a ∈ l.map tnum ↔ b ∈ l.map tnum) := fun a b c => by
    induction c with
    | refl a => rfl
    | symm a b _ ih => exact ih.symm
    | trans a b c _ _ i j => exact i.trans j
    | edge a b m =>
      obtain ⟨x, y, h, e1, e2⟩ := edge_face ok m
      rw [← e1, ← e2]
      exact ⟨f.next ok sh h, f.next ok sh (face_symm ok h)⟩
  constructor
  · intro h
    obtain ⟨z, hz, rfl⟩ := List.mem_map.mp h
    obtain ⟨i, gi⟩ := List.getElem?_of_mem hz
    exact f.reach ok i z gi
  · intro c
    exact (key _ _ c).mp (List.mem_map.mpr ⟨t, List.mem_of_getElem? f.road.head, rfl⟩)
/-- no number twice -/
theorem Full.once {N : NetA} (ok : N.Ok) {t s : Hg} {l : List Hg} (f : Full N t l s) : ∀ (k i : Nat) (x y : Hg), l[i]? = some x → l[i + k]? = some y → tnum x = tnum y → k = 0
  | 0, _, _, _, _, _, _ => rfl
  | k + 1, i, x, y, hx, hy, e => by
    exfalso
    have tx := ok.fit.tip _ (f.in_ ok (List.mem_of_getElem? hx))
    have hl := lt_of_get hy
    rcases ok.fit.same (f.in_ ok (List.mem_of_getElem? hx)) (f.in_ ok (List.mem_of_getElem? hy)) e with w | w
    · -- the same tip twice
      rw [w] at hy
      have h1 := lt_of_get hx
      rw [List.getElem?_eq_getElem h1] at hx
      rw [List.getElem?_eq_getElem hl] at hy
      have e2 : l[i] = l[i + (k + 1)] := by
        injection hx with hx; injection hy with hy
        rw [hx, hy]
      have a1 := List.Nodup.idxOf_getElem f.road.nd i h1
      have a2 := List.Nodup.idxOf_getElem f.road.nd (i + (k + 1)) hl
      rw [e2, a2] at a1
      omega
    · -- the other tip: the road comes back
      have g1 : l[i + 1]? = some l[i + 1] := List.getElem?_eq_getElem (by omega)
      have g2 : l[i + k]? = some l[i + k] := List.getElem?_eq_getElem (by omega)
      have s1 := f.road.step i _ _ hx g1
      have s2 := f.road.step (i + k) _ _ g2 (by rw [Nat.add_assoc]; exact hy)
      have s3 := face_symm ok s2
      rw [w, s1] at s3
      have s4 : l[i + 1] = l[i + k].mir := by injection s3
      cases k with
      | zero =>
        -- face to itself
        have e5 : l[i + 1] = y := by
          have : l[i + 1]? = some y := hy
          rw [List.getElem?_eq_getElem (by omega)] at this
          injection this
        rw [e5, w] at s1
        -- x.mir faces itself
        have m := (face_iff ok).mp s1
        have nd := ok.ndF
        obtain ⟨p, hp, m⟩ := List.mem_flatMap.mp m
        obtain ⟨q, hq, m⟩ := List.mem_flatMap.mp m
        simp at m
        have e6 : q.1 = q.2 := by rcases m with ⟨a, b⟩ | ⟨a, b⟩ <;> rw [← a, ← b]
        have nT : (tipsP p).Nodup := by
          have := ok.ndS
          unfold tipsS at this
          obtain ⟨a, b, e⟩ := List.append_of_mem hp
          rw [e, List.flatMap_append, List.flatMap_cons] at this
          exact (List.nodup_append.mp (List.nodup_append.mp this).2.1).1
        have h7 := List.of_mem_zip hq
        exact (List.nodup_append.mp nT).2.2 q.1 h7.1 q.2 h7.2 e6
      | succ k =>
        have := f.once ok k (i + 1) _ (l[i + (k + 1)]) g1 (by rw [show i + 1 + k = i + (k + 1) by omega]; exact g2) (by rw [s4, tnum_mir])
        subst this
        -- two that follow one another
        have e8 : l[i + 1] = l[i + 1].mir := s4
        exact mir_ne (ok.fit.tip _ (f.in_ ok (List.getElem_mem (by omega)))) e8.symm
theorem rack_no_face {N : NetA} (ok : N.Ok) {t : Hg} (h : t ∈ tipsL N.hs) : face N t = none := by
  cases q : face N t with
  | none => rfl
  | some u => exact absurd rfl ((List.nodup_append.mp ok.nd).2.2 t h t (face_mem ok q).1)
theorem no_face_rack {N : NetA} (ok : N.Ok) {t : Hg} (h : t ∈ allT N.hs N.sp) (q : face N t = none) : t ∈ tipsL N.hs := by
  rcases List.mem_append.mp h with z | z
  · exact z
  · obtain ⟨u, hu⟩ := face_some ok z
    rw [q] at hu; cases hu
/-- from the rack to the rack -/
theorem Full.rack {N : NetA} (ok : N.Ok) {t s : Hg} {l : List Hg} (f : Full N t l s) (ht : t ∈ tipsL N.hs) :
    Shut N t s ∧ s.mir ∈ tipsL N.hs ∧ s.mir ≠ t ∧ ∀ u ∈ tipsL N.hs, Conn (ed N.sp) (tnum t) (tnum u) ↔ u = t ∨ u = s.mir := by
  have ft := rack_no_face ok ht
  have sh : Shut N t s := .inl ft
  have sin := f.in_ ok (List.mem_of_getElem? f.last)
  have fe : face N s.mir = none := by
    rcases f.end_ with w | w
    · exact w
    · have := face_symm ok w
      rw [ft] at this; cases this
  have smr : s.mir ∈ tipsL N.hs := no_face_rack ok (ok.fit.far sin) fe
  have l0 : 0 < l.length := lt_of_get f.road.head
  refine ⟨sh, smr, fun e => ?_, fun u hu => ?_⟩
  · have hn : tnum t = tnum s := by rw [← e, tnum_mir]
    have := f.once ok (l.length - 1) 0 t s f.road.head (by rw [Nat.zero_add]; exact f.last) hn
    have e1 : l.length - 1 = 0 := this
    have g := f.last
    rw [e1, f.road.head] at g
    cases g
    exact mir_ne (ok.fit.tip _ f.mem) e
  · rw [← f.clump ok sh]
    constructor
    · intro h
      obtain ⟨z, hz, e⟩ := List.mem_map.mp h
      obtain ⟨i, gi⟩ := List.getElem?_of_mem hz
      have fu := rack_no_face ok hu
      rcases ok.fit.same (f.in_ ok hz) (List.mem_append_left _ hu) e with rfl | rfl
      · cases i with
        | zero =>
          rw [f.road.head] at gi
          cases gi; exact .inl rfl
        | succ i =>
          have hl := lt_of_get gi
          have g : l[i]? = some l[i] := List.getElem?_eq_getElem (by omega)
          have st := face_symm ok (f.road.step i _ _ g gi)
          rw [fu] at st; cases st
      · by_cases w : i + 1 < l.length
        · have g : l[i + 1]? = some l[i + 1] := List.getElem?_eq_getElem w
          have st := f.road.step i _ _ gi g
          rw [fu] at st; cases st
        · have hl := lt_of_get gi
          have e2 : i = l.length - 1 := by omega
          rw [e2, f.last] at gi
          cases gi; exact .inr rfl
    · rintro (rfl | rfl)
      · exact List.mem_map.mpr ⟨u, List.mem_of_getElem? f.road.head, rfl⟩
      · rw [tnum_mir]
        exact List.mem_map.mpr ⟨s, List.mem_of_getElem? f.last, rfl⟩
end Nl
/-! Q9: counting clumps -/
namespace Nl
open PySem Sm Gr
theorem fib2 {A B : Type} [DecidableEq A] [DecidableEq B] (f : A → B) : ∀ (R : List B) (L : List A), R.Nodup → L.Nodup → (∀ m, m ∈ R ↔ ∃ t ∈ L, f t = m) → (∀ t ∈ L, ∃ u ∈ L, u ≠ t ∧ ∀ v ∈ L, f v = f t ↔ v = t ∨ v = u) → L.length = 2 * R.length
  | [], L, _, _, h, _ => by
    cases L with
    | nil => rfl
    | cons a L => exact absurd ((h (f a)).mpr ⟨a, by simp, rfl⟩) (by simp)
  | m :: R, L, nr, nl, h, k => by
    obtain ⟨t, ht, e⟩ := (h m).mp (by simp)
    obtain ⟨u, hu, ne, q⟩ := k t ht
    have nr' := List.nodup_cons.mp nr
    have h1 : ((L.filter fun v => decide (f v = m)).Perm [t, u]) := by
      refine (List.perm_ext_iff_of_nodup (nl.filter _) (by simp [ne.symm])).mpr fun v => ?_
      simp only [List.mem_filter, decide_eq_true_eq, List.mem_cons, List.not_mem_nil, or_false]
      constructor
      · rintro ⟨hv, ev⟩
        exact (q v hv).mp (by rw [ev, e])
      · rintro (rfl | rfl)
        · exact ⟨ht, e⟩
        · exact ⟨hu, by rw [(q _ hu).mpr (.inr rfl), e]⟩
    have h2 := fib2 f R (L.filter fun v => !decide (f v = m)) nr'.2 (nl.filter _) (fun b => by
      constructor
      · intro hb
        obtain ⟨v, hv, ev⟩ := (h b).mp (List.mem_cons_of_mem _ hb)
        refine ⟨v, List.mem_filter.mpr ⟨hv, ?_⟩, ev⟩
        have : f v ≠ m := fun e2 => nr'.1 (by rw [← e2, ev]; exact hb)
        simp [this]
      · rintro ⟨v, hv, ev⟩
        have hv := List.mem_filter.mp hv
        have n1 : f v ≠ m := by simpa using hv.2
        rcases List.mem_cons.mp ((h b).mpr ⟨v, hv.1, ev⟩) with z | z
        · exact absurd (by rw [ev, z]) n1
        · exact z) (fun v hv => by
      have hv := List.mem_filter.mp hv
      obtain ⟨w, hw, nw, qw⟩ := k v hv.1
      have ew : f w = f v := (qw w hw).mpr (.inr rfl)
      refine ⟨w, List.mem_filter.mpr ⟨hw, by rw [ew]; exact hv.2⟩, nw, fun x hx => qw x (List.mem_filter.mp hx).1⟩)
    have h3 := List.length_eq_countP_add_countP (p := fun v => decide (f v = m)) (l := L)
    rw [List.countP_eq_length_filter, List.countP_eq_length_filter] at h3
    rw [h3, h1.length_eq]
    have : (fun a => decide ¬decide (f a = m) = true) = fun v => !decide (f v = m) := by funext a; by_cases z : f a = m <;> simp [z]
    rw [this, h2]
    simp
    omega
/-- a road to the end from every tip -/
theorem full_ex {N : NetA} (ok : N.Ok) {t : Hg} (ht : t ∈ allT N.hs N.sp) : ∃ l s, Full N t l s := by
  have key : ∀ (k : Nat) (ss : List Hg) (s : Hg), (tipsS N.sp).length + 2 ≤ ss.length + 1 + k → Road (face N) t (ss ++ [s]) → ∃ l s, Full N t l s := fun k => by
    induction k with
    | zero =>
      intro ss s hk r
      have := road_len ok r
      simp at this
      omega
    | succ k ih =>
      intro ss s hk r
      cases q : face N s.mir with
      | none => exact ⟨_, _, Full.of r (.inl q) ht⟩
      | some u =>
        by_cases z : u = t
        · exact ⟨_, _, Full.of r (.inr (by rw [q, z])) ht⟩
        · exact ih (ss ++ [s]) u (by simp; omega) (Road.more ok r q z)
  exact key ((tipsS N.sp).length + 1) [] t (by simp; omega) (Road.one _ _)
/-- the numbers of a set of tips that fit -/
def numU (ts : List Hg) : List Int := (lightsOf ts).map (·.1)
theorem mem_numU {ts : List Hg} (h : Fits ts) {m : Int} : m ∈ numU ts ↔ ∃ t ∈ ts, tnum t = m := by
  constructor
  · intro hm
    obtain ⟨p, hp, rfl⟩ := List.mem_map.mp hm
    exact ⟨_, mem_lights.mp hp, rfl⟩
  · rintro ⟨t, ht, rfl⟩
    have tt := h.tip t ht
    cases t with
    | knot _ _ _ => simp [Hg.isTip] at tt
    | tip d y n =>
      cases d with
      | false => exact List.mem_map.mpr ⟨(n, y), mem_lights.mpr ht, rfl⟩
      | true => exact List.mem_map.mpr ⟨(n, y), (h.mate _).mpr (mem_darks.mpr ht), rfl⟩
theorem numU_len {ts : List Hg} (h : Fits ts) : ts.length = 2 * (numU ts).length := by
  refine fib2 tnum (numU ts) ts h.ln h.nodup (fun m => mem_numU h) fun t ht => ⟨t.mir, h.far ht, fun e => mir_ne (h.tip t ht) e, fun v hv => ⟨fun e => ?_, ?_⟩⟩
  · exact h.same ht hv e.symm
  · rintro (rfl | rfl)
    · rfl
    · exact tnum_mir
theorem ml_idem (E : List (Int × Int)) : Idem (ml E) := fun v => (ml_same (ml_self E v)).symm
theorem conn_stay {U : List Int} {E : List (Int × Int)} (h : ∀ e ∈ E, e.1 ∈ U ∧ e.2 ∈ U) {a b : Int} (c : Conn E a b) : a ∈ U ↔ b ∈ U := by
  induction c with
  | refl a => rfl
  | symm a b _ ih => exact ih.symm
  | trans a b c _ _ i j => exact i.trans j
  | edge a b m => exact ⟨fun _ => (h _ m).2, fun _ => (h _ m).1⟩
theorem ml_iff (E : List (Int × Int)) (a b : Int) : ml E a = ml E b ↔ Conn E a b :=
  ⟨fun e => .trans _ _ _ (ml_self E a) (e ▸ .symm _ _ (ml_self E b)), ml_same⟩
theorem ed_mem {N : NetA} (ok : N.Ok) {e : Int × Int} (h : e ∈ ed N.sp) : (∃ x ∈ tipsS N.sp, tnum x = e.1) ∧ ∃ y ∈ tipsS N.sp, tnum y = e.2 := by
  obtain ⟨x, y, hf, h1, h2⟩ := edge_face ok (a := e.1) (b := e.2) h
  have := face_mem ok hf
  exact ⟨⟨x, this.1, h1⟩, ⟨y, this.2, h2⟩⟩
theorem tipsS_ed {N : NetA} (ok : N.Ok) : (tipsS N.sp).length = 2 * (ed N.sp).length := by
  have : ∀ sp : List (Hg × Hg), (∀ p ∈ sp, p.1.mirs p.2 = true) → (tipsS sp).length = 2 * (ed sp).length := fun sp => by
    induction sp with
    | nil => intro _; rfl
    | cons p sp ih =>
      intro h
      have h1 := edP_len (h p (by simp))
      have h2 := ih fun q hq => h q (by simp [hq])
      have h3 := mirs_nt (h p (by simp))
      have h4 : (tipsP p).length = p.1.nt + p.2.nt := by unfold tipsP; rw [List.length_append]; rfl
      rw [tipsS_cons, List.length_append, h2, h4]
      show _ = 2 * (edP p ++ ed sp).length
      rw [List.length_append, h1]
      omega
  exact this _ ok.mir
/-- the least numbers of the rack's ways are half as many as its tips -/
theorem rack_count {N : NetA} (ok : N.Ok) {R : List Int} (nr : R.Nodup) (hr : ∀ m, m ∈ R ↔ ∃ t ∈ tipsL N.hs, ml (ed N.sp) (tnum t) = m) : (tipsL N.hs).length = 2 * R.length := by
  refine fib2 (fun t => ml (ed N.sp) (tnum t)) R (tipsL N.hs) nr (List.nodup_append.mp ok.nd).1 hr fun t ht => ?_
  obtain ⟨l, s, f⟩ := full_ex ok (List.mem_append_left _ ht)
  obtain ⟨_, h2, h3, h4⟩ := f.rack ok ht
  refine ⟨s.mir, h2, h3, fun v hv => ?_⟩
  rw [← h4 v hv, ml_iff]
  exact ⟨fun c => .symm _ _ c, fun c => .symm _ _ c⟩
/-- rings behind drawing: one for each clump that does not come to the rack -/
theorem rounds_count {N : NetA} (ok : N.Ok) {R F : List Int} (nr : R.Nodup) (hr : ∀ m, m ∈ R ↔ ∃ t ∈ tipsL N.hs, ml (ed N.sp) (tnum t) = m)
    (nf : F.Nodup) (hf : ∀ m, m ∈ F ↔ (∃ t ∈ tipsS N.sp, ml (ed N.sp) (tnum t) = m) ∧ m ∉ R) : F.length + rk (ed N.sp) = (ed N.sp).length := by
  have ndU : (numU (allT N.hs N.sp)).Nodup := ok.fit.ln
  have hE : ∀ e ∈ ed N.sp, e.1 ∈ numU (allT N.hs N.sp) ∧ e.2 ∈ numU (allT N.hs N.sp) := fun e he => by
    obtain ⟨⟨x, hx, e1⟩, ⟨y, hy, e2⟩⟩ := ed_mem ok he
    exact ⟨(mem_numU ok.fit).mpr ⟨x, List.mem_append_right _ hx, e1⟩, (mem_numU ok.fit).mpr ⟨y, List.mem_append_right _ hy, e2⟩⟩
  have c1 := rk_count ndU hE
  have sl : Stay (numU (allT N.hs N.sp)) (lab (ed N.sp)) := lab_stay (h := id) _ (fun v hv => hv) hE
  have sm : Stay (numU (allT N.hs N.sp)) (ml (ed N.sp)) := fun v hv => (conn_stay hE (ml_self _ v)).mp hv
  have a1 := fixed_le ndU (h := lab (ed N.sp)) (g := ml (ed N.sp)) (lab_idem _ (fun _ => rfl)) (ml_idem _) sm fun a b e => (lab_iff _ a b).mpr ((ml_iff _ a b).mp e)
  have a2 := fixed_le ndU (h := ml (ed N.sp)) (g := lab (ed N.sp)) (ml_idem _) (lab_idem _ (fun _ => rfl)) sl fun a b e => (ml_iff _ a b).mpr ((lab_iff _ a b).mp e)
  have p : (fixed (numU (allT N.hs N.sp)) (ml (ed N.sp))).Perm (R ++ F) := by
    refine (List.perm_ext_iff_of_nodup (ndU.filter _) (List.nodup_append.mpr ⟨nr, nf, fun a ha b hb e => ((hf b).mp hb).2 (e ▸ ha)⟩)).mpr fun m => ?_
    rw [List.mem_filter, mem_numU ok.fit, List.mem_append, hr, hf, hr]
    simp only [decide_eq_true_eq]
    constructor
    · rintro ⟨⟨t, ht, rfl⟩, e⟩
      rcases List.mem_append.mp ht with z | z
      · exact .inl ⟨t, z, e⟩
      · by_cases q : ∃ u ∈ tipsL N.hs, ml (ed N.sp) (tnum u) = tnum t
        · exact .inl q
        · exact .inr ⟨⟨t, z, e⟩, q⟩
    · have key : ∀ t ∈ allT N.hs N.sp, ∀ m, ml (ed N.sp) (tnum t) = m → (∃ u ∈ allT N.hs N.sp, tnum u = m) ∧ ml (ed N.sp) m = m := fun t ht m e => by
        refine ⟨(mem_numU ok.fit).mp ?_, by rw [← e]; exact ml_idem _ _⟩
        rw [← e]
        exact sm _ ((mem_numU ok.fit).mpr ⟨t, ht, rfl⟩)
      rintro (⟨t, ht, e⟩ | ⟨⟨t, ht, e⟩, _⟩)
      · exact key t (List.mem_append_left _ ht) m e
      · exact key t (List.mem_append_right _ ht) m e
  have p2 := p.length_eq
  rw [List.length_append] at p2
  have n1 := numU_len ok.fit
  have n2 := tipsS_ed ok
  have n3 := rack_count ok nr hr
  have n4 : (allT N.hs N.sp).length = (tipsL N.hs).length + (tipsS N.sp).length := List.length_append
  omega
end Nl
/-! G7: sound nets, by their numbers -/
/-! G8: two halves -/
namespace Nl
open Gr
theorem numsL_perm {H G : List Hg} (p : H.Perm G) (m : Int) : m ∈ numsL H ↔ m ∈ numsL G := by
  rw [mem_numsL', mem_numsL']
  exact ⟨fun ⟨h, hh, hm⟩ => ⟨h, p.mem_iff.mp hh, hm⟩, fun ⟨h, hh, hm⟩ => ⟨h, p.mem_iff.mpr hh, hm⟩⟩
theorem SoundL.perm {H G : List Hg} (p : H.Perm G) (s : SoundL H) : SoundL G := by
  constructor
  · obtain ⟨U, nd, mem, len⟩ := s.cnt
    refine ⟨U, nd, fun m => by rw [mem, numsL_perm p], ?_⟩
    have : fstsL H = fstsL G := (p.map fsts).sum_nat
    omega
  · intro c m hm k hk
    exact (conn_perm (p.flatMap_right _) m k).mp (s.con c m ((numsL_perm p m).mpr hm) k ((numsL_perm p k).mpr hk))
end Nl
/-! G9: both halves are sound -/
namespace Nl
open Gr
/-! ### things picked by their places -/
def pickP {A : Type} [Inhabited A] (L : List A) (q : List Nat) : List A := q.map fun i => L.getD i default
end Nl
/-! G10: the labels of groups, by lines -/
/-! G11: turns -/
namespace Nl
open Gr
inductive Tn where
  | cord (y : PySem.Str) (n : Int)
  | loose (i j : Nat)
  | fast (i j : Nat)
  | splice (i j : Nat)
  | order (l : List Nat)
abbrev Nt := List Hg × List (Hg × Hg)
def ApartN (a b : Nt) : Prop := ∀ m ∈ numsT (allT a.1 a.2), m ∉ numsT (allT b.1 b.2)
/-- a turn done on a pile, its top first -/
inductive Does : Tn → List Nt → List Nt → Prop
  | cord (y : PySem.Str) (n : Int) (P : List Nt) : Does (.cord y n) P (([.tip false y n, .tip true y n], []) :: P)
  | loose (i j : Nat) (h : List Hg) (s : List (Hg × Hg)) (P : List Nt) (a b : Hg) : h[i]? = some a → h[j]? = some b → i ≠ j → Does (.loose i j) ((h, s) :: P) ((sel h (keep h.length i j) ++ [.knot true a b], s) :: P)
  | fast (i j : Nat) (h1 h2 : List Hg) (s1 s2 : List (Hg × Hg)) (P : List Nt) (a b : Hg) : h1[i]? = some a → h2[j]? = some b → ApartN (h1, s1) (h2, s2) → Does (.fast i j) ((h2, s2) :: (h1, s1) :: P) ((cut h1 i ++ cut h2 j ++ [.knot false a b], s1 ++ s2) :: P)
  | splice (i j : Nat) (h1 h2 : List Hg) (s1 s2 : List (Hg × Hg)) (P : List Nt) (a b : Hg) : h1[i]? = some a → h2[j]? = some b → ApartN (h1, s1) (h2, s2) → a.mirs b = true → Does (.splice i j) ((h2, s2) :: (h1, s1) :: P) ((cut h1 i ++ cut h2 j, s1 ++ s2 ++ [(a, b)]) :: P)
  | order (l : List Nat) (h : List Hg) (s : List (Hg × Hg)) (P : List Nt) : l.Perm (List.range h.length) → Does (.order l) ((h, s) :: P) ((pickP h l, s) :: P)
inductive Runs : List Tn → List Nt → List Nt → Prop
  | nil (P : List Nt) : Runs [] P P
  | cons {t : Tn} {ts : List Tn} {P Q R : List Nt} : Does t P Q → Runs ts Q R → Runs (t :: ts) P R
theorem Runs.app {ts us : List Tn} {P Q R : List Nt} (h : Runs ts P Q) (k : Runs us Q R) : Runs (ts ++ us) P R := by
  induction h with
  | nil => exact k
  | cons d _ ih => exact .cons d (ih k)
theorem Runs.one {t : Tn} {P Q : List Nt} (d : Does t P Q) : Runs [t] P Q := .cons d (.nil _)
/-! ### back in order -/
/-- the places with one left out -/
def skip (at_ : Nat) (i : Nat) : Nat := if at_ ≤ i then i + 1 else i
end Nl
/-! G12: tasks -/
/-! G13: each sound net can be taken apart -/
/-! R43: clumps of groups -/
/-! R44: clumps, the walk -/
/-! R45: halves, the walk -/
/-! R46: tasks, the walk -/
/-! R47: the roots that part, the walk -/
namespace Nl
open PySem Sm Gr
variable {T : Nat → Option Body}
/-- what the walk must know of a net to be taken apart -/
structure Tame (hs : List Hg) (sp : List (Hg × Hg)) : Prop where
  dh : ∀ h ∈ hs, h.depth ≤ 60
  ds : ∀ p ∈ sp, p.1.depth ≤ 60 ∧ p.2.depth ≤ 60
  z : (allT hs sp).length ≤ 3000
  fh : ∀ h ∈ hs, h.Fine
  fs : ∀ p ∈ sp, p.1.Fine ∧ p.2.Fine
end Nl
/-! R48: the splices that part, the walk -/
/-! R49: tasks stay sound and become smaller -/
namespace Nl
open PySem Sm Gr
structure NetOk (hs : List Hg) (sp : List (Hg × Hg)) : Prop where
  fit : Fits (allT hs sp)
  snd : SoundV hs sp
  tame : Tame hs sp
  mir : ∀ p ∈ sp, p.1.mirs p.2 = true
theorem NetOk.perm {hs gs : List Hg} {sp tp : List (Hg × Hg)} (n : NetOk hs sp) (p : hs.Perm gs) (q : sp.Perm tp) : NetOk gs tp := by
  have pt : (allT hs sp).Perm (allT gs tp) := (tipsL_perm p).append (tipsS_perm q)
  exact ⟨n.fit.perm pt, (SoundV.perm p q).mp n.snd, ⟨fun h hh => n.tame.dh h (p.mem_iff.mpr hh), fun h hh => n.tame.ds h (q.mem_iff.mpr hh), by rw [← pt.length_eq]; exact n.tame.z, fun h hh => n.tame.fh h (p.mem_iff.mpr hh), fun h hh => n.tame.fs h (q.mem_iff.mpr hh)⟩, fun x hx => n.mir x (q.mem_iff.mpr hx)⟩
end Nl
/-! R50: the tasks of a root that parts -/
namespace Nl
open PySem Sm Gr
variable {T : Nat → Option Body}
theorem NetOk.fast {hs : List Hg} {sp : List (Hg × Hg)} {p : Nat} {l r : Hg} (n : NetOk hs sp) (h : hs[p]? = some (.knot false l r)) (mr : True) : Fits (allT (cut hs p) ((l, r) :: sp)) ∧ SoundV (cut hs p) ((l, r) :: sp) := by
  have n1 := n.perm (cut_perm h) (.refl _)
  have pt : (allT (.knot false l r :: cut hs p) sp).Perm (allT (cut hs p) ((l, r) :: sp)) := by
    unfold allT
    rw [tipsL_cons, tipsS_cons]
    unfold tipsP
    refine List.perm_iff_count.mpr fun z => ?_
    simp only [Hg.tips, List.count_append]; omega
  exact ⟨n1.fit.perm pt, fun c => (tree_fast n1.fit c).mp (n1.snd c)⟩
end Nl
/-! R51: tasks_for, the walk -/
/-! R52: turns_of, the walk -/
/-! R36: the net that ways tell -/
namespace Nl
open PySem Sm Gr
variable {T : Nat → Option Body}
/-! ### dicts of tips, read only or not -/
theorem flat_ints {A : Type} (f : A → Int) : ∀ l : List A, flatI (l.map fun x => D.int (f x)) = some (l.map f)
  | [] => rfl
  | a :: l => by
    rw [List.map_cons]
    unfold flatI
    rw [flat_ints f l]; rfl
/-- each cord of a list gets the same answer -/
def putAll (kvs : List (L2.Key × D)) (ms : List Int) (v : D) : List (L2.Key × D) := ms.foldl (fun k m => putG k (.inl m) v) kvs
theorem val_putAll (v : D) : ∀ (ms : List Int) (kvs : List (L2.Key × D)) (m : Int), valK (putAll kvs ms v) (.inl m) = if m ∈ ms then some v else valK kvs (.inl m)
  | [], kvs, m => by simp [putAll]
  | a :: ms, kvs, m => by
    show valK (putAll (putG kvs (.inl a) v) ms v) (.inl m) = _
    rw [val_putAll v ms, val_put]
    by_cases h : m ∈ ms
    · simp [h]
    · by_cases h2 : m = a
      · simp [h, h2]
      · have : ¬ ((Sum.inl m : L2.Key) = Sum.inl a) := by simp; exact h2
        simp [h, h2, this]
theorem Full.len {N : NetA} (ok : N.Ok) {t s : Hg} {l : List Hg} (f : Full N t l s) : l.length ≤ (tipsS N.sp).length + 1 := road_len ok f.road
end Nl
/-! R53: piles in the store; the cords of a net on the pile -/
namespace Nl
open PySem Sm Gr
variable {T : Nat → Option Body}
theorem in_ints (S : Store) (m : Int) (l : List Int) : oIn S (.int m) (.lst (l.map D.int)) = .ok (.bl (decide (m ∈ l))) S := by
  unfold oIn oInB
  have h1 : inStr (.int m) (.lst (l.map D.int)) = none := rfl
  have h2 : dGet S (.lst (l.map D.int)) (.int m) = none := rfl
  have h3 : inInts S (.int m) (.lst (l.map D.int)) = some (decide (m ∈ l)) := by
    have f := flat_ints (fun x : Int => x) l
    rw [List.map_id'] at f
    simp [inInts, f]
    done
  rw [h1, h2, h3]
/-! ### lists in the store -/
theorem ad_sq {S : Store} {c : Bool} {r q : D} {ds es : List D} (h : seqP S r = some ds) (k : seqP S q = some es) (z : ds.length + es.length ≤ sizeLine) : oAdd c S r q = finL c (ds ++ es) S := by
  have e : oAdd c S r q = (match seqP S r, seqP S q with
    | some ds, some es => if ds.length + es.length ≤ sizeLine then finL c (ds ++ es) S else .err
    | _, _ => .err) := by
    cases r with
    | int _ => cases h
    | str _ => cases h
    | _ => rfl
  rw [e, h, k]
  exact if_pos z
/-- a list that does not stand in one cell -/
def Off (p : Nat) : D → Prop
  | .cell k => k ≠ p
  | _ => True
theorem sq_but {p : Nat} {S S' : Store} {r : D} {ds : List D} (h : seqP S r = some ds) (o : Off p r) (b : But p S S') : seqP S' r = some ds := by
  cases r with
  | lst es => exact h
  | cell k =>
    have o : k ≠ p := o
    rw [seqP_cell] at h ⊢
    cases q : S[k]? with
    | none => rw [q] at h; cases h
    | some mo => rw [b.old k (lt_of_get q) o]; exact h
  | _ => cases h
theorem But.set {p : Nat} {S S' : Store} (b : But p S S') (mo : MO) : But p S (S'.set p mo) := ⟨by simp; exact b.len, fun j h n => by rw [List.getElem?_set_ne (fun e => n e.symm)]; exact b.old j h n⟩
/-! ### piles -/
def NtAt (S : Store) (p : Nat) (d : D) (a : Nt) : Prop := ∃ r q, d = .tup [r, q] ∧ (seqP S r = some (a.1.map ofH) ∧ Off p r) ∧ seqP S q = some (a.2.map ofP) ∧ Off p q
theorem NtAt.but {p : Nat} {S S' : Store} {d : D} {a : Nt} (h : NtAt S p d a) (b : But p S S') : NtAt S' p d a := by
  obtain ⟨r, q, rfl, ⟨h1, h2⟩, h3, h4⟩ := h
  exact ⟨r, q, rfl, ⟨sq_but h1 h2 b, h2⟩, sq_but h3 h4 b, h4⟩
/-- tops first -/
def PilesD (S : Store) (p : Nat) : List D → List Nt → Prop
  | [], [] => True
  | d :: ds, a :: P => NtAt S p d a ∧ PilesD S p ds P
  | _, _ => False
theorem PilesD.but {p : Nat} {S S' : Store} : ∀ {ds : List D} {P : List Nt}, PilesD S p ds P → But p S S' → PilesD S' p ds P
  | [], [], _, _ => trivial
  | d :: ds, a :: P, h, b => ⟨h.1.but b, PilesD.but h.2 b⟩
  | [], _ :: _, h, _ => h.elim
  | _ :: _, [], h, _ => h.elim
theorem PilesD.len {p : Nat} {S : Store} : ∀ {ds : List D} {P : List Nt}, PilesD S p ds P → ds.length = P.length
  | [], [], _ => rfl
  | d :: ds, a :: P, h => congrArg Nat.succ (PilesD.len h.2)
  | [], _ :: _, h => h.elim
  | _ :: _, [], h => h.elim
def PileAt (S : Store) (p : Nat) (P : List Nt) : Prop := ∃ ds, S[p]? = some (.lst ds.reverse) ∧ PilesD S p ds P
theorem PileAt.push {S S' : Store} {p : Nat} {ds : List D} {P : List Nt} (h : PilesD S p ds P) (b : But p S S') (hp : p < S.length) {d : D} {a : Nt} (ha : NtAt (S'.set p (.lst (ds.reverse ++ [d]))) p d a) : PileAt (S'.set p (.lst (ds.reverse ++ [d]))) p (a :: P) := by
  have hl := b.len
  exact ⟨d :: ds, by rw [List.reverse_cons, List.getElem?_set_self (by omega)], ha, h.but (b.set _)⟩
/-! ### the cords of a net -/
def CL (a : Nt) : List Int := numsT (allT a.1 a.2)
/-- what of the nets of a pile the laws must be able to bear -/
structure NtOk (a : Nt) : Prop where
  fh : FineL a.1
  fs : FineS a.2
  z : (allT a.1 a.2).length ≤ 20000
theorem tip_num {t : Hg} (h : t.isTip = true) (S : Store) : oIx S (ofH t) (.int 2) = .ok (.int (tnum t)) S := by
  cases t with
  | tip d y n => simp [ofH, tnum]
  | knot _ _ _ => cases h
end Nl
/-! G14: turns with places that may not be there, what they answer -/
namespace Nl
open Gr
inductive Tz where
  | cord (y : PySem.Str) (n : Int)
  | loose (i j : Int)
  | two (w : Bool) (i j : Int)
  | order (l : List Int)
def Tn.z : Tn → Tz
  | .cord y n => .cord y n
  | .loose i j => .loose i j
  | .fast i j => .two false i j
  | .splice i j => .two true i j
  | .order l => .order (l.map fun k : Nat => (k : Int))
end Nl
/-! R54: the law's two nets made one -/
namespace Nl
open PySem Sm Gr
variable {T : Nat → Option Body}
/-- what of a pile the laws must be able to bear -/
def szP (P : List Nt) : Nat := (P.map fun a => (allT a.1 a.2).length).sum
structure PileOk (P : List Nt) : Prop where
  fh : ∀ a ∈ P, FineL a.1
  fs : ∀ a ∈ P, FineS a.2
  z : szP P ≤ 20000
  len : P.length ≤ 20000
theorem szP_mem : ∀ {P : List Nt} {a : Nt}, a ∈ P → (allT a.1 a.2).length ≤ szP P
  | b :: P, a, h => by
    have e : szP (b :: P) = (allT b.1 b.2).length + szP P := by simp [szP]
    rcases List.mem_cons.mp h with rfl | h
    · omega
    · have := szP_mem h; omega
theorem PileOk.at {P : List Nt} (k : PileOk P) {a : Nt} (h : a ∈ P) : NtOk a := ⟨k.fh a h, k.fs a h, Nat.le_trans (szP_mem h) k.z⟩
theorem PileAt.lt {S : Store} {p : Nat} {P : List Nt} (h : PileAt S p P) : p < S.length := by
  obtain ⟨ds, h1, _⟩ := h
  exact lt_of_get h1
theorem bare_ne {a b : Hg} (fa : a.Fine ∧ a.depth ≤ 60) (fb : b.Fine ∧ b.depth ≤ 60) (S : Store) : oNe S (ofH a.mir.bare) (ofH b.bare) = .ok (.bl (!(a.mirs b))) S := by
  rw [Hg.mirs_bare]
  exact oNe_lay eqF_H (lay_H (fine_bare (fine_mir fa.1))) (lay_H (fine_bare fb.1)) (by rw [depth_bare, Hg.depth_mir]; omega) (by rw [depth_bare]; omega) (deref_H _ _) (deref_H _ _)
-- BEGIN two
-- END two
end Nl
/-! R55: the law's turns -/
/-! R56: rows of turns, done by the law -/
namespace Nl
open PySem Sm Gr
variable {T : Nat → Option Body}
/-! ### what a turn leaves of the sizes -/
def NE (P : List Nt) : Prop := ∀ a ∈ P, 1 ≤ (allT a.1 a.2).length
theorem szP_cons (a : Nt) (P : List Nt) : szP (a :: P) = (allT a.1 a.2).length + szP P := by simp [szP]
theorem NE.len : ∀ {P : List Nt}, NE P → P.length ≤ szP P
  | [], _ => Nat.zero_le _
  | a :: P, h => by
    have h1 := h a (by simp)
    have h2 := NE.len (P := P) fun b hb => h b (List.mem_cons_of_mem _ hb)
    rw [szP_cons, List.length_cons]; omega
theorem FineL.perm {A B : List Hg} (p : A.Perm B) (f : FineL A) : FineL B := fun h hh => f h (p.mem_iff.mpr hh)
end Nl
/-! R57: turns_of, any net -/
/-! R59: the cords of nets on the program's pile -/
namespace Nl
open PySem Sm Gr
variable {T : Nat → Option Body}
theorem extT_cell {S : Store} {n : Nat} {ds us : List D} (h : S[n]? = some (.lst ds)) (z : ds.length + us.length ≤ sizeLine) : oExtendT S (.cell n) [.tup us] = .ok .non (S.set n (.lst (ds ++ us))) := by
  unfold oExtendT
  rw [cellL_c, h]
  simp [kSeqL, z]
/-! ### two nets apart -/
end Nl
/-! R60: the program's two nets made one -/
namespace Nl
open PySem Sm Gr
variable {T : Nat → Option Body}
-- BEGIN bec
-- END bec
theorem PileAt.but {S S' : Store} {p : Nat} {P : List Nt} (h : PileAt S p P) (b : But p S S') (g : S'[p]? = S[p]?) : PileAt S' p P := by
  obtain ⟨ds, h1, h2⟩ := h
  exact ⟨ds, by rw [g, h1], h2.but b⟩
end Nl
/-! R61: the program's turns -/
/-! R62: rows of turns, done by the program -/
/-! R58: a joined net is sound just where both are -/
namespace Nl
open PySem Sm Gr
theorem nums_dis {ts us : List Hg} (h : ∀ m ∈ numsT ts, m ∉ numsT us) : ∀ t ∈ ts, t ∉ us := fun t h1 h2 => h (tnum t) (List.mem_map.mpr ⟨t, h1, rfl⟩) (List.mem_map.mpr ⟨t, h2, rfl⟩)
theorem cut_allT {hs : List Hg} {i : Nat} {a : Hg} (sp : List (Hg × Hg)) (ha : hs[i]? = some a) : (allT (a :: cut hs i) sp).Perm (allT hs sp) := (tipsL_perm (cut_perm ha).symm).append (.refl _)
end Nl
/-! R63: what turns that are done keep -/
namespace Nl
open Gr
theorem two_fits {h1 h2 : List Hg} {s1 s2 : List (Hg × Hg)} {i j : Nat} {a b : Hg} (ga : h1[i]? = some a) (gb : h2[j]? = some b) (f1 : Fits (allT h1 s1)) (f2 : Fits (allT h2 s2)) (ap : ApartN (h1, s1) (h2, s2)) :
    Fits (allT (cut h1 i ++ cut h2 j) (s1 ++ s2 ++ [(a, b)])) ∧ (SoundV h1 s1 → SoundV h2 s2 → SoundV (cut h1 i ++ cut h2 j) ((a, b) :: (s1 ++ s2))) := by
  have f := fits_app f1 f2 ap
  have p1 := cut_allT s1 ga
  have p2 := cut_allT s2 gb
  refine ⟨f.perm ?_, fun v1 v2 c => ?_⟩
  · have q1 := tipsL_perm (cut_perm ga)
    have q2 := tipsL_perm (cut_perm gb)
    refine List.perm_iff_count.mpr fun z => ?_
    have e1 := List.perm_iff_count.mp q1 z
    have e2 := List.perm_iff_count.mp q2 z
    simp only [allT, tipsS_app, tipsL_app, tipsL_cons, List.count_append] at e1 e2 ⊢
    have e3 : List.count z (tipsS [(a, b)]) = List.count z a.tips + List.count z b.tips := by simp [tipsS, tipsP]
    omega
  · refine (tree_splice (f1.perm p1.symm) (f2.perm p2.symm) (fun t h1 h2 => nums_dis ap t (p1.mem_iff.mp h1) (p2.mem_iff.mp h2)) c).mpr ⟨?_, ?_⟩
    · exact (TreeV.perm (cut_perm ga) (.refl s1) c).mp (v1 c)
    · exact (TreeV.perm (cut_perm gb) (.refl s2) c).mp (v2 c)
/-- hangs that are fine, of a depth -/
def DpP (m : Nat) (P : List Nt) : Prop := ∀ a ∈ P, (∀ h ∈ a.1, h.Fine ∧ h.depth ≤ m) ∧ ∀ p ∈ a.2, (p.1.Fine ∧ p.1.depth ≤ m) ∧ p.2.Fine ∧ p.2.depth ≤ m
theorem DpP.mono {m n : Nat} {P : List Nt} (h : DpP m P) (k : m ≤ n) : DpP n P := fun a ha => ⟨fun g hg => ⟨((h a ha).1 g hg).1, Nat.le_trans ((h a ha).1 g hg).2 k⟩, fun p hp => ⟨⟨((h a ha).2 p hp).1.1, Nat.le_trans ((h a ha).2 p hp).1.2 k⟩, ((h a ha).2 p hp).2.1, Nat.le_trans ((h a ha).2 p hp).2.2 k⟩⟩
/-- a pile behind some turns -/
structure Grown (m : Nat) (P : List Nt) : Prop where
  dp : DpP m P
  z : szP P ≤ 2 * m
  len : P.length ≤ m
theorem Grown.nil : Grown 0 [] := ⟨fun a ha => (by cases ha), by simp [szP], Nat.le_refl _⟩
theorem Grown.ok {m : Nat} {P : List Nt} (g : Grown m P) (h : m ≤ 60) : PileOk P :=
  ⟨fun a ha x hx => ⟨((g.dp a ha).1 x hx).1, by have := ((g.dp a ha).1 x hx).2; omega⟩, fun a ha x hx => ⟨⟨((g.dp a ha).2 x hx).1.1, by have := ((g.dp a ha).2 x hx).1.2; omega⟩, ((g.dp a ha).2 x hx).2.1, by have := ((g.dp a ha).2 x hx).2.2; omega⟩, by have := g.z; omega, by have := g.len; omega⟩
theorem Grown.mono {m n : Nat} {P : List Nt} (g : Grown m P) (h : m ≤ n) : Grown n P := ⟨g.dp.mono h, by have := g.z; omega, by have := g.len; omega⟩
end Nl
/-! R64: a sound net has a hang in its rack; cords of unlike numbers -/
namespace Nl
open PySem Sm Gr
/-! ### cords of unlike numbers -/
structure NumP (b : Int) (m : Nat) (P : List Nt) : Prop where
  bd : ∀ a ∈ P, ∀ x ∈ CL a, b ≤ x ∧ x < b + m
  ap : P.Pairwise fun a c => ∀ x ∈ CL a, x ∉ CL c
theorem NumP.nil (b : Int) : NumP b 0 [] := ⟨fun a h => (by cases h), .nil⟩
theorem NumP.mono {b : Int} {m n : Nat} {P : List Nt} (h : NumP b m P) (k : m ≤ n) : NumP b n P := ⟨fun a ha x hx => by have := h.bd a ha x hx; omega, h.ap⟩
theorem cl_same {hs gs : List Hg} {s t : List (Hg × Hg)} (p : (allT hs s).Perm (allT gs t)) (x : Int) : x ∈ CL (hs, s) ↔ x ∈ CL (gs, t) := (p.map tnum).mem_iff
theorem NumP.cons {b : Int} {m : Nat} {a : Nt} {P : List Nt} (h : NumP b m (a :: P)) : NumP b m P := ⟨fun c hc => h.bd c (List.mem_cons_of_mem _ hc), (List.pairwise_cons.mp h.ap).2⟩
theorem NumP.two {b : Int} {m : Nat} {a1 a2 c : Nt} {P : List Nt} (h : NumP b m (a2 :: a1 :: P)) (e : ∀ x, x ∈ CL c → x ∈ CL a1 ∨ x ∈ CL a2) : NumP b m (c :: P) := by
  have h1 := List.pairwise_cons.mp h.ap
  have h2 := List.pairwise_cons.mp h1.2
  exact ⟨fun d hd x hx => by
    rcases List.mem_cons.mp hd with rfl | hd
    · rcases e x hx with q | q
      · exact h.bd a1 (by simp) x q
      · exact h.bd a2 (by simp) x q
    · exact h.bd d (by simp [hd]) x hx, List.pairwise_cons.mpr ⟨fun d hd x hx => by
      rcases e x hx with q | q
      · exact h2.1 d hd x q
      · exact h1.1 d (by simp [hd]) x q, h2.2⟩⟩
end Nl
/-! G15: lofts of sound parts -/
namespace Nl
open PySem Sm Gr
/-! ### sound parts -/
def PartOk (hs : List Hg) (sp : List (Hg × Hg)) : Prop := Fits (allT hs sp) ∧ SoundV hs sp
theorem PartOk.perm {hs gs : List Hg} {sp tp : List (Hg × Hg)} (h : PartOk hs sp) (p : hs.Perm gs) (q : sp.Perm tp) : PartOk gs tp :=
  ⟨h.1.perm ((tipsL_perm p).append (tipsS_perm q)), (SoundV.perm p q).mp h.2⟩
theorem part_cord (d : Bool) (y : Str) (n : Int) : PartOk [.tip d y n, .tip (!d) y n] [] :=
  ⟨by have := fits_pair d y n; simpa [allT, tipsL, tipsS, Hg.tips] using this, fun c => tree_cord d y n c⟩
theorem loose_tips (a b : Hg) (H : List Hg) (S : List (Hg × Hg)) : allT (.knot true a b :: H) S = allT (a :: b :: H) S := by
  unfold allT; rw [tipsL_cons, tipsL_cons, tipsL_cons]; simp [Hg.tips]
theorem part_loose {a b : Hg} {H : List Hg} {S : List (Hg × Hg)} : PartOk (.knot true a b :: H) S ↔ PartOk (a :: b :: H) S := by
  unfold PartOk
  rw [loose_tips]
  constructor
  · rintro ⟨f, v⟩
    exact ⟨f, fun c => (tree_loose (by rw [loose_tips]; exact f) c).mp (v c)⟩
  · rintro ⟨f, v⟩
    exact ⟨f, fun c => (tree_loose (by rw [loose_tips]; exact f) c).mpr (v c)⟩
theorem part_fast {a b : Hg} {H G : List Hg} {S R : List (Hg × Hg)} (h : PartOk (a :: H) S) (k : PartOk (b :: G) R) (ap : ApartN (a :: H, S) (b :: G, R)) : PartOk (.knot false a b :: (H ++ G)) (S ++ R) := by
  obtain ⟨f1, v1⟩ := h
  obtain ⟨f2, v2⟩ := k
  obtain ⟨ff, vv⟩ := two_fits (h1 := a :: H) (h2 := b :: G) (i := 0) (j := 0) rfl rfl f1 f2 ap
  have e : (allT (H ++ G) (S ++ R ++ [(a, b)])).Perm (allT (.knot false a b :: (H ++ G)) (S ++ R)) := by
    refine List.perm_iff_count.mpr fun z => ?_
    have e4 : tipsS [(a, b)] = a.tips ++ b.tips := by simp [tipsS, tipsP]
    simp only [allT, tipsL_app, tipsL_cons, tipsS_app, e4, Hg.tips, List.count_append]
    omega
  have fe := ff.perm e
  exact ⟨fe, fun c => (tree_fast fe c).mpr (vv v1 v2 c)⟩
/-- a hang and its mirror -/
theorem straight_anew {b : Bk} (st : b.St) : ∀ (h : Hg) (k : Nat) (c : Hg → Bool), TreeV [h.anew b k, (h.anew b k).mir] [] c
  | .tip d y n, k, c => tree_cord d y (b.num k) c
  | .knot w l r, k, c => by
    have i1 := straight_anew st l k c
    have i2 := straight_anew st r (k + l.nt) c
    have f1 := fits_anew st l k
    have f2 := fits_anew st r (k + l.nt)
    show TreeV [.knot w (l.anew b k) (r.anew b (k + l.nt)), .knot (!w) (l.anew b k).mir (r.anew b (k + l.nt)).mir] [] c
    have f : Fits (((l.anew b k).tips ++ (r.anew b (k + l.nt)).tips) ++ ((l.anew b k).mir.tips ++ (r.anew b (k + l.nt)).mir.tips)) := fits_anew st (.knot w l r) k
    have dis : ∀ t ∈ (l.anew b k).tips ++ (l.anew b k).mir.tips, t ∉ (r.anew b (k + l.nt)).tips ++ (r.anew b (k + l.nt)).mir.tips := fun t h1 h2 => by
      have m1 : tnum t ∈ numsT ((l.anew b k).tips ++ (l.anew b k).mir.tips) := List.mem_map.mpr ⟨t, h1, rfl⟩
      have m2 : tnum t ∈ numsT ((r.anew b (k + l.nt)).tips ++ (r.anew b (k + l.nt)).mir.tips) := List.mem_map.mpr ⟨t, h2, rfl⟩
      rw [numsT_app, List.mem_append, numsT_tips, numsT_tips, nums_mir, or_self] at m1 m2
      obtain ⟨j1, a1, a2, a3⟩ := nums_anew b l k m1
      obtain ⟨j2, b1, b2, b3⟩ := nums_anew b r _ m2
      rw [a3] at b3
      have := num_inj' st b3
      omega
    have al : ∀ (a b : Hg), allT [a, b] [] = a.tips ++ b.tips := fun a b => by simp [allT, tipsL, tipsS]
    generalize l.anew b k = L at *
    generalize r.anew b (k + l.nt) = R at *
    have key : ∀ A B A' B' : Hg, Fits (A.tips ++ A'.tips) → Fits (B.tips ++ B'.tips) → (∀ t ∈ A.tips ++ A'.tips, t ∉ B.tips ++ B'.tips) → Fits ((A.tips ++ B.tips) ++ (A'.tips ++ B'.tips)) → TreeV [A, A'] [] c → TreeV [B, B'] [] c → TreeV [.knot true A' B', .knot false A B] [] c := fun A B A' B' fa fb dd ff ta tb => by
      have p1 : Fits (allT [.knot true A' B', .knot false A B] []) := by
        rw [al]
        exact ff.perm List.perm_append_comm
      rw [tree_loose p1]
      have p2 : Fits (allT [.knot false A B, A', B'] []) := by
        have : allT [.knot false A B, A', B'] [] = (A.tips ++ B.tips) ++ (A'.tips ++ B'.tips) := by simp [allT, tipsL, tipsS, Hg.tips]
        rw [this]; exact ff
      rw [TreeV.perm (hs' := [.knot false A B, A', B']) (by
        refine List.perm_iff_count.mpr fun z => ?_
        simp only [List.count_cons, List.count_nil]; omega) (List.Perm.refl _) c, tree_fast p2]
      exact (tree_splice (hs := [A']) (gs := [B']) (sp := []) (tp := []) (by rw [al]; exact fa) (by rw [al]; exact fb) (by rw [al, al]; exact dd) c).mpr ⟨ta, tb⟩
    cases w with
    | false =>
      rw [TreeV.perm (List.Perm.swap _ _ _) (List.Perm.refl _) c]
      exact key L R L.mir R.mir f1 f2 dis f i1 i2
    | true =>
      refine key L.mir R.mir L R (f1.perm List.perm_append_comm) (f2.perm List.perm_append_comm) (fun t h1 h2 => dis t (by simp at h1 ⊢; exact h1.symm) (by simp at h2 ⊢; exact h2.symm)) (f.perm List.perm_append_comm) ?_ ?_
      · rw [TreeV.perm (List.Perm.swap _ _ _) (List.Perm.refl _) c]; exact i1
      · rw [TreeV.perm (List.Perm.swap _ _ _) (List.Perm.refl _) c]; exact i2
theorem part_straight {b : Bk} (st : b.St) (h : Hg) (k : Nat) : PartOk [(h.anew b k).mir, h.anew b k] [] := by
  have f := fits_anew st h k
  refine ⟨?_, fun c => ?_⟩
  · have e : allT [(h.anew b k).mir, h.anew b k] [] = (h.anew b k).mir.tips ++ (h.anew b k).tips := by simp [allT, tipsL, tipsS]
    rw [e]; exact f.perm List.perm_append_comm
  · exact (TreeV.perm (List.Perm.swap _ _ _) (.refl _) c).mp (straight_anew st h k c)
/-- a hang put through a splice -/
theorem part_splice {h far : Hg} {H : List Hg} {S : List (Hg × Hg)} (p : PartOk (h :: H) S) (q : PartOk [far.mir, far] []) (ap : ApartN (h :: H, S) ([far.mir, far], [])) : PartOk (far :: H) ((h, far.mir) :: S) ∧ PartOk (far :: H) ((far.mir, h) :: S) := by
  have dd := nums_dis ap
  have e : allT [far.mir, far] [] = far.mir.tips ++ far.tips := by simp [allT, tipsL, tipsS]
  have ff := fits_app p.1 q.1 ap
  refine ⟨⟨ff.perm ?_, fun c => ?_⟩, ⟨ff.perm ?_, fun c => ?_⟩⟩
  · refine List.perm_iff_count.mpr fun z => ?_
    have e4 : tipsS ((h, far.mir) :: S) = (h.tips ++ far.mir.tips) ++ tipsS S := by simp [tipsS, tipsP]
    rw [e]
    simp only [allT, tipsL_cons, e4, List.count_append]; omega
  · have t := (tree_splice (hs := H) (gs := [far]) (sp := S) (tp := []) p.1 q.1 dd c).mpr ⟨p.2 c, q.2 c⟩
    rw [List.append_nil] at t
    exact (TreeV.perm (List.perm_append_singleton _ _) (.refl _) c).mp t
  · refine List.perm_iff_count.mpr fun z => ?_
    have e4 : tipsS ((far.mir, h) :: S) = (far.mir.tips ++ h.tips) ++ tipsS S := by simp [tipsS, tipsP]
    rw [e]
    simp only [allT, tipsL_cons, e4, List.count_append]; omega
  · exact (tree_splice (hs := [far]) (gs := H) (sp := []) (tp := S) q.1 p.1 (fun t h1 h2 => dd t h2 h1) c).mpr ⟨q.2 c, p.2 c⟩
/-! ### parts by marks -/
def pk {B : Type} (m : Int) (l : List (Int × B)) : List B := (l.filter fun q => decide (q.1 = m)).map (·.2)
theorem pk_perm {B : Type} (m : Int) {l l' : List (Int × B)} (p : l.Perm l') : (pk m l).Perm (pk m l') := (p.filter _).map _
theorem pk_eq {B : Type} (m : Int) (b : B) (l : List (Int × B)) : pk m ((m, b) :: l) = b :: pk m l := by simp [pk, List.filter_cons]
theorem pk_ne {B : Type} {m m' : Int} (h : m' ≠ m) (b : B) (l : List (Int × B)) : pk m ((m', b) :: l) = pk m l := by simp [pk, List.filter_cons, h]
theorem pk_nil {B : Type} {m : Int} {l : List (Int × B)} (h : ∀ q ∈ l, q.1 ≠ m) : pk m l = [] := by
  unfold pk
  rw [List.filter_eq_nil_iff.mpr fun q hq => by simpa using h q hq]; rfl
def rnm (mi mj : Int) {B : Type} (q : Int × B) : Int × B := (if q.1 = mj then mi else q.1, q.2)
theorem pk_rn {B : Type} {mi mj : Int} (h : mi ≠ mj) : ∀ l : List (Int × B), (pk mi (l.map (rnm mi mj))).Perm (pk mi l ++ pk mj l)
  | [] => .refl _
  | (m, b) :: l => by
    have ih := pk_rn h l
    rw [List.map_cons]
    by_cases q : m = mj
    · subst q
      have e : rnm mi m (m, b) = (mi, b) := by simp [rnm]
      rw [e, pk_eq, pk_eq, pk_ne (fun e => h e.symm)]
      exact (ih.cons b).trans List.perm_middle.symm
    · have e : rnm mi mj (m, b) = (m, b) := by simp [rnm, q]
      rw [e]
      by_cases q2 : m = mi
      · subst q2
        rw [pk_eq, pk_eq, pk_ne q]
        exact ih.cons b
      · rw [pk_ne q2, pk_ne q2, pk_ne q]; exact ih
theorem pk_rn_o {B : Type} {mi mj m : Int} (h : m ≠ mi) (k : m ≠ mj) : ∀ l : List (Int × B), pk m (l.map (rnm mi mj)) = pk m l
  | [] => rfl
  | (x, b) :: l => by
    have ih := pk_rn_o h k l
    rw [List.map_cons]
    by_cases q : x = mj
    · subst q
      have e : rnm mi x (x, b) = (mi, b) := by simp [rnm]
      rw [e, pk_ne (fun e => h e.symm), pk_ne (fun e => k e.symm), ih]
    · have e : rnm mi mj (x, b) = (x, b) := by simp [rnm, q]
      rw [e]
      by_cases q2 : x = m
      · subst q2; rw [pk_eq, pk_eq, ih]
      · rw [pk_ne q2, pk_ne q2, ih]
/-- each mark's hangs and splices are a sound net of its own cords -/
structure Good (b : Bk) (Z : List (Int × Hg)) (W : List (Int × (Hg × Hg))) : Prop where
  ok : ∀ m ∈ Z.map (·.1), PartOk (pk m Z) (pk m W)
  wm : ∀ m ∈ W.map (·.1), m ∈ Z.map (·.1)
  ap : ∀ m1 m2, m1 ≠ m2 → ApartN (pk m1 Z, pk m1 W) (pk m2 Z, pk m2 W)
  nb : ∀ m, ∀ x ∈ CL (pk m Z, pk m W), ∃ j < b.n, x = b.num j
  mb : ∀ m ∈ Z.map (·.1), ∃ j < b.n, m = b.num j
theorem apart_sub {a a' c c' : Nt} (h : ApartN a c) (h1 : ∀ x ∈ CL a', x ∈ CL a) (h2 : ∀ x ∈ CL c', x ∈ CL c) : ApartN a' c' := fun x x1 x2 => h x (h1 x x1) (h2 x x2)
theorem cl_perm {hs gs : List Hg} {s t : List (Hg × Hg)} (p : hs.Perm gs) (q : s.Perm t) (x : Int) : x ∈ CL (hs, s) ↔ x ∈ CL (gs, t) := cl_same ((tipsL_perm p).append (tipsS_perm q)) x
theorem Good.perm {b : Bk} {Z Z' : List (Int × Hg)} {W W' : List (Int × (Hg × Hg))} (g : Good b Z W) (p : Z.Perm Z') (q : W.Perm W') : Good b Z' W' := by
  have mz : ∀ m, m ∈ Z'.map (·.1) ↔ m ∈ Z.map (·.1) := fun m => (p.map _).mem_iff.symm
  have mw : ∀ m, m ∈ W'.map (·.1) ↔ m ∈ W.map (·.1) := fun m => (q.map _).mem_iff.symm
  have cl : ∀ m x, x ∈ CL (pk m Z', pk m W') ↔ x ∈ CL (pk m Z, pk m W) := fun m x => (cl_perm (pk_perm m p) (pk_perm m q) x).symm
  exact ⟨fun m hm => (g.ok m ((mz m).mp hm)).perm (pk_perm m p) (pk_perm m q), fun m hm => (mz m).mpr (g.wm m ((mw m).mp hm)), fun m1 m2 h => apart_sub (g.ap m1 m2 h) (fun x => (cl m1 x).mp) (fun x => (cl m2 x).mp), fun m x hx => g.nb m x ((cl m x).mp hx), fun m hm => g.mb m ((mz m).mp hm)⟩
theorem Good.nil (b : Bk) : Good b [] [] := ⟨fun m h => (by cases h), fun m h => (by cases h), fun m1 m2 _ x h => (by cases h), fun m x h => (by cases h), fun m h => (by cases h)⟩
theorem cl_cons {h : Hg} {H : List Hg} {S : List (Hg × Hg)} {x : Int} : x ∈ CL (h :: H, S) ↔ x ∈ nums h ∨ x ∈ CL (H, S) := by
  unfold CL allT
  simp only [tipsL_cons, numsT_app, numsT_tips, List.mem_append, or_assoc]
theorem cl_consS {p : Hg × Hg} {H : List Hg} {S : List (Hg × Hg)} {x : Int} : x ∈ CL (H, p :: S) ↔ x ∈ nums p.1 ∨ x ∈ nums p.2 ∨ x ∈ CL (H, S) := by
  have e : tipsS (p :: S) = (p.1.tips ++ p.2.tips) ++ tipsS S := by simp [tipsS, tipsP]
  unfold CL allT
  simp only [e, numsT_app, numsT_tips, List.mem_append]
  constructor
  · rintro (h | (h | h) | h)
    · exact .inr (.inr (.inl h))
    · exact .inl h
    · exact .inr (.inl h)
    · exact .inr (.inr (.inr h))
  · rintro (h | h | h | h)
    · exact .inr (.inl (.inl h))
    · exact .inr (.inl (.inr h))
    · exact .inl h
    · exact .inr (.inr h)
end Nl
/-! G16: drawing keeps a net sound -/
namespace Gr
variable {V : Type} [DecidableEq V]
theorem rk_snoc (X : List (V × V)) (a b : V) : rk (X ++ [(a, b)]) = rk X + if lab X a = lab X b then 0 else 1 := by
  exact rk_app X [(a, b)] id
theorem Conn.up {E F : List (V × V)} (h : ∀ e ∈ E, e ∈ F) {a b : V} (c : Conn E a b) : Conn F a b := Conn.mono h c
end Gr
/-! G17: lofts of sound parts: the steps -/
namespace Nl
open PySem Sm Gr
theorem Good.part {b b' : Bk} {Z Z' : List (Int × Hg)} {W W' : List (Int × (Hg × Hg))} (m : Int) (g : Good b Z W) (st : b.St) (eb : ∀ j, b'.num j = b.num j) (le : b.n ≤ b'.n)
    (oz : ∀ m', m' ≠ m → pk m' Z' = pk m' Z) (ow : ∀ m', m' ≠ m → pk m' W' = pk m' W) (k : PartOk (pk m Z') (pk m W'))
    (cl : ∀ x ∈ CL (pk m Z', pk m W'), x ∈ CL (pk m Z, pk m W) ∨ ∃ j, b.n ≤ j ∧ j < b'.n ∧ x = b.num j)
    (mz : ∀ m', m' ∈ Z'.map (·.1) ↔ m' = m ∨ m' ∈ Z.map (·.1)) (mw : ∀ m' ∈ W'.map (·.1), m' = m ∨ m' ∈ W.map (·.1)) (mb : ∃ j < b'.n, m = b.num j) : Good b' Z' W' := by
  have one : ∀ m', m' ≠ m → ApartN (pk m Z', pk m W') (pk m' Z', pk m' W') := fun m' h x x1 x2 => by
    rw [oz m' h, ow m' h] at x2
    rcases cl x x1 with z | ⟨j, j1, j2, j3⟩
    · exact g.ap m m' (fun e => h e.symm) x z x2
    · obtain ⟨i, i1, i2⟩ := g.nb m' x x2
      have := num_inj' st (i2.symm.trans j3)
      omega
  refine ⟨fun m' h => ?_, fun m' h => ?_, fun m1 m2 h => ?_, fun m' x hx => ?_, fun m' h => ?_⟩
  · by_cases q : m' = m
    · rw [q]; exact k
    · rw [oz m' q, ow m' q]
      rcases (mz m').mp h with z | z
      · exact absurd z q
      · exact g.ok m' z
  · rw [mz]
    rcases mw m' h with z | z
    · exact .inl z
    · exact .inr (g.wm m' z)
  · by_cases q : m1 = m
    · rw [q]; exact one m2 fun e => h (q.trans e.symm)
    · by_cases q2 : m2 = m
      · rw [q2]; exact fun x x1 x2 => one m1 q x x2 x1
      · rw [oz m1 q, ow m1 q, oz m2 q2, ow m2 q2]; exact g.ap m1 m2 h
  · by_cases q : m' = m
    · rw [q] at hx
      rcases cl x hx with z | ⟨j, j1, j2, j3⟩
      · obtain ⟨i, i1, i2⟩ := g.nb m x z
        exact ⟨i, Nat.lt_of_lt_of_le i1 le, by rw [eb]; exact i2⟩
      · exact ⟨j, j2, by rw [eb]; exact j3⟩
    · rw [oz m' q, ow m' q] at hx
      obtain ⟨i, i1, i2⟩ := g.nb m' x hx
      exact ⟨i, Nat.lt_of_lt_of_le i1 le, by rw [eb]; exact i2⟩
  · rcases (mz m').mp h with z | z
    · rw [z]; obtain ⟨j, j1, j2⟩ := mb; exact ⟨j, j1, by rw [eb]; exact j2⟩
    · obtain ⟨i, i1, i2⟩ := g.mb m' z
      exact ⟨i, Nat.lt_of_lt_of_le i1 le, by rw [eb]; exact i2⟩
theorem up_num (b : Bk) (k j : Nat) : (b.up k).num j = b.num j := rfl
/-- a new cord -/
theorem Good.cord {b : Bk} {Z : List (Int × Hg)} {W : List (Int × (Hg × Hg))} (g : Good b Z W) (st : b.St) (d : Bool) (y : Str) :
    Good (b.up 1) ((b.num b.n, .tip d y (b.num b.n)) :: (b.num b.n, .tip (!d) y (b.num b.n)) :: Z) W := by
  have nm : ∀ m ∈ Z.map (·.1), m ≠ b.num b.n := fun m h e => by
    obtain ⟨j, j1, j2⟩ := g.mb m h
    have := num_inj' st (j2.symm.trans e)
    omega
  have pz : pk (b.num b.n) Z = [] := pk_nil fun q hq => nm _ (List.mem_map.mpr ⟨q, hq, rfl⟩)
  have pw : pk (b.num b.n) W = [] := pk_nil fun q hq => nm _ (g.wm _ (List.mem_map.mpr ⟨q, hq, rfl⟩))
  have e1 : pk (b.num b.n) ((b.num b.n, .tip d y (b.num b.n)) :: (b.num b.n, .tip (!d) y (b.num b.n)) :: Z) = [.tip d y (b.num b.n), .tip (!d) y (b.num b.n)] := by rw [pk_eq, pk_eq, pz]
  refine g.part (b.num b.n) st (up_num b 1) (Nat.le_succ _) (fun m' h => ?_) (fun m' h => rfl) ?_ (fun x hx => .inr ⟨b.n, Nat.le_refl _, Nat.lt_succ_self _, ?_⟩) (fun m' => by simp) (fun m' h => .inr h) ⟨b.n, Nat.lt_succ_self _, rfl⟩
  · rw [pk_ne (fun e => h e.symm), pk_ne (fun e => h e.symm)]
  · rw [e1, pw]; exact part_cord _ _ _
  · rw [e1, pw] at hx
    rw [cl_cons, cl_cons] at hx
    rcases hx with z | z | z
    · simpa [nums] using z
    · simpa [nums] using z
    · simp [CL, allT, tipsL, tipsS, numsT] at z
theorem cl_loose {l r : Hg} {H : List Hg} {S : List (Hg × Hg)} {w : Bool} {x : Int} : x ∈ CL (.knot w l r :: H, S) ↔ x ∈ CL (l :: r :: H, S) := by
  rw [cl_cons, cl_cons, cl_cons]
  show x ∈ nums l ++ nums r ∨ _ ↔ _
  rw [List.mem_append, or_assoc]
/-- a loose knot, tied or untied -/
theorem Good.loose {b : Bk} {m : Int} {l r : Hg} {Z : List (Int × Hg)} {W : List (Int × (Hg × Hg))} (st : b.St) (g : Good b ((m, l) :: (m, r) :: Z) W) : Good b ((m, .knot true l r) :: Z) W := by
  have k := g.ok m (by simp)
  rw [pk_eq, pk_eq] at k
  refine g.part m st (fun _ => rfl) (Nat.le_refl _) (fun m' h => ?_) (fun m' h => rfl) ?_ (fun x hx => .inl ?_) (fun m' => by simp) (fun m' h => .inr h) (g.mb m (by simp))
  · rw [pk_ne (fun e => h e.symm), pk_ne (fun e => h e.symm), pk_ne (fun e => h e.symm)]
  · rw [pk_eq]; exact part_loose.mpr k
  · rw [pk_eq] at hx; rw [pk_eq, pk_eq]; exact cl_loose.mp hx
theorem Good.untie {b : Bk} {m : Int} {l r : Hg} {Z : List (Int × Hg)} {W : List (Int × (Hg × Hg))} (st : b.St) (g : Good b ((m, .knot true l r) :: Z) W) : Good b ((m, l) :: (m, r) :: Z) W := by
  have k := g.ok m (by simp)
  rw [pk_eq] at k
  refine g.part m st (fun _ => rfl) (Nat.le_refl _) (fun m' h => ?_) (fun m' h => rfl) ?_ (fun x hx => .inl ?_) (fun m' => by simp) (fun m' h => .inr h) (g.mb m (by simp))
  · rw [pk_ne (fun e => h e.symm), pk_ne (fun e => h e.symm), pk_ne (fun e => h e.symm)]
  · rw [pk_eq, pk_eq]; exact part_loose.mp k
  · rw [pk_eq, pk_eq] at hx; rw [pk_eq]; exact cl_loose.mpr hx
/-- a hang put through a splice -/
theorem Good.splice {b : Bk} {m : Int} {h : Hg} {Z : List (Int × Hg)} {W : List (Int × (Hg × Hg))} (st : b.St) (g : Good b ((m, h) :: Z) W) :
    Good (b.up h.nt) ((m, h.anew b b.n) :: Z) ((m, (h, (h.anew b b.n).mir)) :: W) ∧ Good (b.up h.nt) ((m, h.anew b b.n) :: Z) ((m, ((h.anew b b.n).mir, h)) :: W) := by
  have k := g.ok m (by simp)
  rw [pk_eq] at k
  have fresh : ∀ x ∈ nums (h.anew b b.n), ∃ j, b.n ≤ j ∧ j < b.n + h.nt ∧ x = b.num j := fun x hx => nums_anew b h b.n hx
  have ap : ApartN (h :: pk m Z, pk m W) ([(h.anew b b.n).mir, h.anew b b.n], []) := fun x x1 x2 => by
    obtain ⟨i, i1, i2⟩ := g.nb m x (by rw [pk_eq]; exact x1)
    have : x ∈ nums (h.anew b b.n) := by
      change x ∈ CL (_, _) at x2
      rw [cl_cons, cl_cons, nums_mir] at x2
      rcases x2 with z | z | z
      · exact z
      · exact z
      · simp [CL, allT, tipsL, tipsS, numsT] at z
    obtain ⟨j, j1, j2, j3⟩ := fresh x this
    have := num_inj' st (i2.symm.trans j3)
    omega
  have q := part_splice k (part_straight st h b.n) ap
  obtain ⟨j, j1, j2⟩ := g.mb m (by simp)
  refine ⟨?_, ?_⟩
  · refine g.part m st (up_num b _) (Nat.le_add_right _ _) (fun m' h => ?_) (fun m' h => ?_) ?_ (fun x hx => ?_) (fun m' => by simp) (fun m' h => by simpa using h) ⟨j, Nat.lt_of_lt_of_le j1 (Nat.le_add_right _ _), j2⟩
    · rw [pk_ne (fun e => h e.symm), pk_ne (fun e => h e.symm)]
    · rw [pk_ne (fun e => h e.symm)]
    · rw [pk_eq, pk_eq]; exact q.1
    · rw [pk_eq, pk_eq, cl_cons, cl_consS, nums_mir] at hx
      rw [pk_eq, cl_cons]
      rcases hx with z | z | z | z
      · exact .inr (fresh x z)
      · exact .inl (.inl z)
      · exact .inr (fresh x z)
      · exact .inl (.inr z)
  · refine g.part m st (up_num b _) (Nat.le_add_right _ _) (fun m' h => ?_) (fun m' h => ?_) ?_ (fun x hx => ?_) (fun m' => by simp) (fun m' h => by simpa using h) ⟨j, Nat.lt_of_lt_of_le j1 (Nat.le_add_right _ _), j2⟩
    · rw [pk_ne (fun e => h e.symm), pk_ne (fun e => h e.symm)]
    · rw [pk_ne (fun e => h e.symm)]
    · rw [pk_eq, pk_eq]; exact q.2
    · rw [pk_eq, pk_eq, cl_cons, cl_consS, nums_mir] at hx
      rw [pk_eq, cl_cons]
      rcases hx with z | z | z | z
      · exact .inr (fresh x z)
      · exact .inr (fresh x z)
      · exact .inl (.inl z)
      · exact .inl (.inr z)
/-- a fast knot of two parts -/
theorem Good.fast {b : Bk} {m1 m2 : Int} {l r : Hg} {Z : List (Int × Hg)} {W : List (Int × (Hg × Hg))} (ne : m1 ≠ m2) (g : Good b ((m1, l) :: (m2, r) :: Z) W) :
    Good b (((m1, .knot false l r) :: Z).map (rnm m1 m2)) (W.map (rnm m1 m2)) := by
  have k1 := g.ok m1 (by simp)
  have k2 := g.ok m2 (by simp)
  have ap := g.ap m1 m2 ne
  have e1 : pk m1 ((m1, l) :: (m2, r) :: Z) = l :: pk m1 Z := by rw [pk_eq, pk_ne (fun e => ne e.symm)]
  have e2 : pk m2 ((m1, l) :: (m2, r) :: Z) = r :: pk m2 Z := by rw [pk_ne ne, pk_eq]
  rw [e1] at k1; rw [e2] at k2; rw [e1, e2] at ap
  have kk := part_fast k1 k2 ap
  have hd : rnm m1 m2 (m1, Hg.knot false l r) = (m1, .knot false l r) := by simp [rnm, ne]
  have pz : (pk m1 (((m1, .knot false l r) :: Z).map (rnm m1 m2))).Perm (.knot false l r :: (pk m1 Z ++ pk m2 Z)) := by
    rw [List.map_cons, hd, pk_eq]; exact (pk_rn ne Z).cons _
  have pw := pk_rn ne W
  have gone : ∀ {B : Type} (l : List (Int × B)), pk m2 (l.map (rnm m1 m2)) = [] := fun l => pk_nil fun q hq => by
    obtain ⟨p, _, rfl⟩ := List.mem_map.mp hq
    show (if p.1 = m2 then m1 else p.1) ≠ m2
    split
    · exact ne
    · assumption
  have oz : ∀ m, m ≠ m1 → m ≠ m2 → pk m (((m1, .knot false l r) :: Z).map (rnm m1 m2)) = pk m ((m1, l) :: (m2, r) :: Z) := fun m h h2 => by
    rw [List.map_cons, hd, pk_ne (fun e => h e.symm), pk_rn_o h h2, pk_ne (fun e => h e.symm), pk_ne (fun e => h2 e.symm)]
  have ow : ∀ m, m ≠ m1 → m ≠ m2 → pk m (W.map (rnm m1 m2)) = pk m W := fun m h h2 => pk_rn_o h h2 W
  have cl1 : ∀ x, x ∈ CL (pk m1 (((m1, .knot false l r) :: Z).map (rnm m1 m2)), pk m1 (W.map (rnm m1 m2))) → x ∈ CL (pk m1 ((m1, l) :: (m2, r) :: Z), pk m1 W) ∨ x ∈ CL (pk m2 ((m1, l) :: (m2, r) :: Z), pk m2 W) := fun x hx => by
    rw [cl_perm pz pw, cl_loose] at hx
    rw [e1, e2]
    have ee : (allT (l :: r :: (pk m1 Z ++ pk m2 Z)) (pk m1 W ++ pk m2 W)).Perm (allT (l :: pk m1 Z) (pk m1 W) ++ allT (r :: pk m2 Z) (pk m2 W)) := by
      refine List.perm_iff_count.mpr fun z => ?_
      simp only [allT, tipsL_app, tipsL_cons, tipsS_app, List.count_append]; omega
    have := (ee.map tnum).mem_iff.mp hx
    change x ∈ numsT _ at this
    rw [numsT_app, List.mem_append] at this
    exact this
  have mkz : ∀ m, m ∈ (((m1, .knot false l r) :: Z).map (rnm m1 m2)).map (·.1) → m = m1 ∨ (m ≠ m1 ∧ m ≠ m2 ∧ m ∈ ((m1, l) :: (m2, r) :: Z).map (·.1)) := fun m h => by
    obtain ⟨q, hq, rfl⟩ := List.mem_map.mp h
    obtain ⟨p, hp, rfl⟩ := List.mem_map.mp hq
    show (if p.1 = m2 then m1 else p.1) = m1 ∨ _
    by_cases z : p.1 = m2
    · rw [if_pos z]; exact .inl rfl
    · rw [if_neg z]
      by_cases z1 : p.1 = m1
      · exact .inl z1
      · right
        have ep : (rnm m1 m2 p).1 = p.1 := if_neg z
        refine ⟨by rw [ep]; exact z1, by rw [ep]; exact z, ?_⟩
        rw [ep]
        rcases List.mem_cons.mp hp with rfl | hp
        · exact absurd rfl z1
        · simp only [List.map_cons, List.mem_cons]
          exact .inr (.inr (List.mem_map.mpr ⟨p, hp, rfl⟩))
  refine ⟨fun m h => ?_, fun m h => ?_, fun a c h => ?_, fun m x hx => ?_, fun m h => ?_⟩
  · rcases mkz m h with rfl | ⟨z1, z2, z3⟩
    · exact kk.perm pz.symm pw.symm
    · rw [oz m z1 z2, ow m z1 z2]; exact g.ok m z3
  · obtain ⟨q, hq, rfl⟩ := List.mem_map.mp h
    obtain ⟨p, hp, rfl⟩ := List.mem_map.mp hq
    have mp := g.wm p.1 (List.mem_map.mpr ⟨p, hp, rfl⟩)
    rw [List.map_cons, hd, List.map_cons, List.mem_cons]
    show (if p.1 = m2 then m1 else p.1) = m1 ∨ (if p.1 = m2 then m1 else p.1) ∈ _
    by_cases z : p.1 = m2
    · rw [if_pos z]; exact .inl rfl
    · rw [if_neg z]
      simp only [List.map_cons, List.mem_cons] at mp
      rcases mp with q1 | q1 | q1
      · exact .inl q1
      · exact absurd q1 z
      · right
        obtain ⟨p', hp', e'⟩ := List.mem_map.mp q1
        refine List.mem_map.mpr ⟨rnm m1 m2 p', List.mem_map.mpr ⟨p', hp', rfl⟩, ?_⟩
        show (if p'.1 = m2 then m1 else p'.1) = p.1
        rw [e', if_neg z]
  · have empty : ∀ {H : List Hg} {S : List (Hg × Hg)} {c : Nt}, H = [] → S = [] → ApartN (H, S) c ∧ ApartN c (H, S) := fun e1 e2 => by
      subst e1; subst e2
      exact ⟨fun x x1 _ => by simp [CL, allT, tipsL, tipsS, numsT] at x1, fun x _ x1 => by simp [CL, allT, tipsL, tipsS, numsT] at x1⟩
    by_cases a2 : a = m2
    · rw [a2]; exact (empty (gone _) (gone _)).1
    by_cases c2 : c = m2
    · rw [c2]; exact (empty (gone _) (gone _)).2
    by_cases a1 : a = m1
    · have c1 : c ≠ m1 := fun e => h (a1.trans e.symm)
      rw [oz c c1 c2, ow c c1 c2, a1]
      intro x x1 x2
      rcases cl1 x x1 with z | z
      · exact g.ap m1 c (fun e => c1 e.symm) x z x2
      · exact g.ap m2 c (fun e => c2 e.symm) x z x2
    · rw [oz a a1 a2, ow a a1 a2]
      by_cases c1 : c = m1
      · rw [c1]
        intro x x1 x2
        rcases cl1 x x2 with z | z
        · exact g.ap a m1 a1 x x1 z
        · exact g.ap a m2 a2 x x1 z
      · rw [oz c c1 c2, ow c c1 c2]; exact g.ap a c h
  · by_cases a2 : m = m2
    · rw [a2, gone, gone] at hx; simp [CL, allT, tipsL, tipsS, numsT] at hx
    by_cases a1 : m = m1
    · rw [a1] at hx
      rcases cl1 x hx with z | z
      · exact g.nb _ x z
      · exact g.nb _ x z
    · rw [oz m a1 a2, ow m a1 a2] at hx; exact g.nb m x hx
  · rcases mkz m h with rfl | ⟨z1, z2, z3⟩
    · exact g.mb m (by simp)
    · exact g.mb m z3
end Nl
/-! G18: good lofts -/
namespace Nl
open PySem Sm Gr
def Lo.Gd (L : Lo) : Prop := ∃ (Z : List (Int × Hg)) (W : List (Int × (Hg × Hg))), Z.map (·.1) = L.ms ∧ Z.map (·.2) = L.hs ∧ W.map (·.2) = L.sp ∧ Good L.bk Z W ∧ L.bk.St
theorem sel_mapf {A B : Type} (f : A → B) (l : List A) (ks : List Nat) : (sel l ks).map f = sel (l.map f) ks := by
  unfold sel
  rw [List.map_filterMap]
  congr 1
  funext k
  rw [List.getElem?_map]
theorem snd_rnm {B : Type} (mi mj : Int) (l : List (Int × B)) : (l.map (rnm mi mj)).map (·.2) = l.map (·.2) := by rw [List.map_map]; rfl
theorem fst_rnm {B : Type} (mi mj : Int) (l : List (Int × B)) : (l.map (rnm mi mj)).map (·.1) = (l.map (·.1)).map fun m => if m = mj then mi else m := by rw [List.map_map, List.map_map]; rfl
theorem rnm_id {B : Type} (m : Int) (l : List (Int × B)) : l.map (rnm m m) = l := by
  have : (rnm m m : Int × B → Int × B) = id := by
    funext q
    unfold rnm
    split
    · next e => rw [← e]; rfl
    · rfl
  rw [this, List.map_id]
theorem Lo.Gd.cord {L : Lo} (g : L.Gd) (x : Int) : (L.cord x).Gd := by
  obtain ⟨Z, W, e1, e2, e3, gd, st⟩ := g
  let n := L.bk.num L.bk.n
  refine ⟨Z ++ [(n, .tip (decide (x / 7 % 2 = 1)) (dyeS (x / 7)) n), (n, .tip (!decide (x / 7 % 2 = 1)) (dyeS (x / 7)) n)], W, by simp [Lo.cord, e1, n], by simp [Lo.cord, e2, n], e3, ?_, st⟩
  exact (gd.cord st (decide (x / 7 % 2 = 1)) (dyeS (x / 7))).perm (List.perm_append_comm (l₁ := [_, _])) (.refl _)
theorem Lo.Gd.tie {L : Lo} (g : L.Gd) {i j : Nat} (ij : i ≠ j) {a b : Hg} {mi mj : Int} (ga : L.hs[i]? = some a) (gb : L.hs[j]? = some b) (gi : L.ms[i]? = some mi) (gj : L.ms[j]? = some mj) (w : Bool) (hw : w = decide (mi = mj)) (spot : Int) : (L.tie i j (.knot w a b) mi mj spot).Gd := by
  obtain ⟨Z, W, e1, e2, e3, gd, st⟩ := g
  have zi : Z[i]? = some (mi, a) := by
    rw [← e1, List.getElem?_map] at gi
    rw [← e2, List.getElem?_map] at ga
    cases h : Z[i]? with
    | none => rw [h] at gi; cases gi
    | some q => rw [h] at gi ga; simp at gi ga; rw [← gi, ← ga]
  have zj : Z[j]? = some (mj, b) := by
    rw [← e1, List.getElem?_map] at gj
    rw [← e2, List.getElem?_map] at gb
    cases h : Z[j]? with
    | none => rw [h] at gj; cases gj
    | some q => rw [h] at gj gb; simp at gj gb; rw [← gj, ← gb]
  have pz := sel_perm ij zi zj
  have lz : Z.length = L.hs.length := by rw [← e2, List.length_map]
  have gd2 := gd.perm pz (.refl _)
  rw [lz] at gd2
  refine ⟨(ins (sel Z (keep L.hs.length i j)) (L.spot i j spot) (mi, .knot w a b)).map (rnm mi mj), W.map (rnm mi mj), ?_, ?_, ?_, ?_, st⟩
  · rw [fst_rnm, ins_map, sel_mapf, e1]; rfl
  · rw [snd_rnm, ins_map, sel_mapf, e2]; rfl
  · rw [snd_rnm, e3]; rfl
  · by_cases e : mi = mj
    · subst e
      rw [decide_eq_true rfl] at hw
      subst hw
      rw [rnm_id, rnm_id]
      exact (gd2.loose st).perm (ins_perm _ _ _).symm (.refl _)
    · rw [decide_eq_false e] at hw
      subst hw
      exact (gd2.fast e).perm ((ins_perm _ _ _).symm.map _) (.refl _)
theorem Lo.Gd.knot {L : Lo} (g : L.Gd) (hm : L.ms.length = L.hs.length) (h2 : 2 ≤ L.hs.length) (x : Int) : (L.knot x true).Gd := by
  have z1 := (Lo.at_lt (L := L) (by omega) (x / 7)).1
  have z2 := Lo.at2_lt (L := L) (by omega) x
  unfold Lo.knot
  refine g.tie (Lo.at2_ne h2 x) (getD_get z1 _) (getD_get z2 _) (getD_get (by omega) _) (getD_get (by omega) _) _ ?_ _
  simp [Lo.word]
theorem Lo.Gd.splice {L : Lo} (g : L.Gd) (hm : L.ms.length = L.hs.length) (h1 : 1 ≤ L.hs.length) (x : Int) : (L.splice x true).Gd := by
  obtain ⟨Z, W, e1, e2, e3, gd, st⟩ := g
  have hi := (Lo.at_lt (L := L) (by omega) (x / 7)).1
  have gh := getD_get hi default
  have gm := getD_get (l := L.ms) (i := L.at (x / 7)) (by omega) 0
  unfold Lo.splice
  simp only
  generalize L.hs.getD (L.at (x / 7)) default = h at *
  generalize L.ms.getD (L.at (x / 7)) 0 = m at *
  generalize L.at (x / 7) = i at *
  have zi : Z[i]? = some (m, h) := by
    rw [← e1, List.getElem?_map] at gm
    rw [← e2, List.getElem?_map] at gh
    cases q : Z[i]? with
    | none => rw [q] at gm; cases gm
    | some q' => rw [q] at gm gh; simp at gm gh; rw [← gm, ← gh]
  have pz : ∀ y, (Z.set i y).Perm (y :: (Z.take i ++ Z.drop (i + 1))) := fun y => by
    have := set_perm (b := y) zi
    have p2 : Z.Perm ((m, h) :: (Z.take i ++ Z.drop (i + 1))) := (List.Perm.of_eq (split_at zi)).trans List.perm_middle
    exact List.Perm.cons_inv (a := (m, h)) (this.trans ((p2.cons _).trans (.swap _ _ _)))
  have p0 : Z.Perm ((m, h) :: (Z.take i ++ Z.drop (i + 1))) := by
    have := pz (m, h)
    rwa [set_self zi] at this
  have gd2 := gd.perm p0 (.refl _)
  have gs := gd2.splice st
  have mset : ∀ y, (Z.set i (m, y)).map (·.1) = L.ms := fun y => by
    rw [List.map_set, e1]; exact set_self gm
  have hset : ∀ y, (Z.set i (m, y)).map (·.2) = L.hs.set i y := fun y => by rw [List.map_set, e2]
  -- the splices
  obtain ⟨W', w1, w2⟩ : ∃ W' : List (Int × (Hg × Hg)), W'.map (·.2) = L.spl x (h.anew L.bk L.bk.n) h ∧ Good (L.bk.up h.nt) ((m, h.anew L.bk L.bk.n) :: (Z.take i ++ Z.drop (i + 1))) W' := by
    unfold Lo.spl
    split
    · refine ⟨ins W (x / 1792 % ((L.sp.length : Int) + 1)).toNat (m, ((h.anew L.bk L.bk.n).mir, h)), by rw [ins_map, e3], gs.2.perm (.refl _) (ins_perm _ _ _).symm⟩
    · refine ⟨ins W (x / 1792 % ((L.sp.length : Int) + 1)).toNat (m, (h, (h.anew L.bk L.bk.n).mir)), by rw [ins_map, e3], gs.1.perm (.refl _) (ins_perm _ _ _).symm⟩
  generalize h.anew L.bk L.bk.n = far at *
  have st2 : (L.bk.up h.nt).St := st
  cases far with
  | tip d y k => exact ⟨Z.set i (m, .tip d y k), W', mset _, hset _, w1, w2.perm (pz _).symm (.refl _), st2⟩
  | knot w l r =>
    simp only
    split
    · next q =>
      have hw : w = true := by simpa using q.2
      subst hw
      refine ⟨ins (Z.set i (m, l)) (i + 1) (m, r), W', ?_, ?_, w1, ?_, st2⟩
      · rw [ins_map, mset]
      · rw [ins_map, hset]
      · refine (w2.untie st2).perm ?_ (.refl _)
        exact (List.Perm.swap _ _ _).trans (((pz _).symm.cons _).trans (ins_perm _ _ _).symm)
    · exact ⟨Z.set i (m, .knot w l r), W', mset _, hset _, w1, w2.perm (pz _).symm (.refl _), st2⟩
theorem Lo.Gd.step {L : Lo} (g : L.Gd) (hm : L.ms.length = L.hs.length) (x : Int) : (L.step true x).Gd := by
  unfold Lo.step
  split
  · exact g.cord x
  next q =>
    split
    · exact g.splice hm (by omega) x
    · exact g.knot hm (by omega) x
/-- with no spare hang the loft is one sound net -/
theorem Lo.Gd.one {L : Lo} (g : L.Gd) (hm : L.ms.length = L.hs.length) (sp : L.spare = []) (ne : L.hs ≠ []) : PartOk L.hs L.sp := by
  obtain ⟨Z, W, e1, e2, e3, gd, st⟩ := g
  have h0 : 0 < L.hs.length := List.length_pos_iff.mpr ne
  have all : ∀ k, k < L.hs.length → L.ms[k]? = L.ms[0]? := fun k hk => by
    have := (List.filter_eq_nil_iff.mp sp) k (List.mem_range.mpr hk)
    simpa using this
  obtain ⟨m, em⟩ : ∃ m, L.ms[0]? = some m := ⟨_, List.getElem?_eq_getElem (by omega)⟩
  have zm : ∀ q ∈ Z, q.1 = m := fun q hq => by
    obtain ⟨k, hk⟩ := List.mem_iff_getElem?.mp hq
    have kl := lt_of_get hk
    have : L.ms[k]? = some q.1 := by rw [← e1, List.getElem?_map, hk]; rfl
    have lz : Z.length = L.hs.length := by rw [← e2, List.length_map]
    rw [all k (by omega), em] at this
    exact (Option.some.inj this).symm
  have wm : ∀ q ∈ W, q.1 = m := fun q hq => by
    obtain ⟨p, hp, e⟩ := List.mem_map.mp (gd.wm q.1 (List.mem_map.mpr ⟨q, hq, rfl⟩))
    rw [← e]; exact zm p hp
  have full : ∀ {B : Type} (l : List (Int × B)), (∀ q ∈ l, q.1 = m) → pk m l = l.map (·.2) := fun l h => by
    unfold pk
    rw [List.filter_eq_self.mpr fun q hq => by simpa using h q hq]
  have mem : m ∈ Z.map (·.1) := by rw [e1]; exact List.mem_of_getElem? em
  have k := gd.ok m mem
  rw [full Z zm, full W wm, e2, e3] at k
  exact k
end Nl
/-! R70: a good loft, closed; a splice more -/
namespace Nl
open PySem Sm Gr
variable {T : Nat → Option Body}
/-- all hangs of one mark -/
def Lo.One (L : Lo) : Prop := ∀ a ∈ L.ms, ∀ b ∈ L.ms, a = b
theorem Lo.One.spare {L : Lo} (o : L.One) (hm : L.ms.length = L.hs.length) : L.spare = [] := by
  unfold Lo.spare
  rw [List.filter_eq_nil_iff]
  intro k hk
  have hk := List.mem_range.mp hk
  have h1 : k < L.ms.length := by omega
  have h2 : 0 < L.ms.length := by omega
  rw [List.getElem?_eq_getElem h1, List.getElem?_eq_getElem h2, o _ (List.getElem_mem h1) _ (List.getElem_mem h2)]
  simp
theorem Lo.One.splice {L : Lo} (o : L.One) (hm : L.ms.length = L.hs.length) (h1 : 1 ≤ L.hs.length) (x : Int) (good : Bool) : (L.splice x good).One ∧ (L.splice x good).ms.length = (L.splice x good).hs.length ∧ (L.splice x good).hs ≠ [] := by
  have hi := (Lo.at_lt (L := L) (by omega) (x / 7)).1
  have gm := getD_get (l := L.ms) (i := L.at (x / 7)) (by omega) 0
  unfold Lo.splice
  simp only
  generalize Hg.anew _ _ _ = far
  cases far with
  | tip d y k => exact ⟨o, by simp [hm], fun e => by have := congrArg List.length e; simp at this; rw [this] at h1; simp at h1⟩
  | knot w l r =>
    simp only
    split
    · refine ⟨fun a ha b hb => ?_, by simp [ins_len, hm], fun e => by have := congrArg List.length e; simp [ins_len] at this⟩
      have key : ∀ a, a ∈ ins L.ms (L.at (x / 7) + 1) (L.ms.getD (L.at (x / 7)) 0) → a ∈ L.ms := fun a ha => by
        rcases mem_ins ha with z | z
        · exact z
        · rw [z]; exact List.mem_of_getElem? gm
      exact o a (key a ha) b (key b hb)
    · exact ⟨o, by simp [hm], fun e => by have := congrArg List.length e; simp at this; rw [this] at h1; simp at h1⟩
end Nl
/-! R71: nets that are refused -/
namespace Nl
open PySem Sm
variable {T : Nat → Option Body}
theorem hits_some {ls : List (Int × Str)} (nd : (ls.map (·.1)).Nodup) : ∀ ks : List (Int × Str), ∃ b, hitsD (dictOf ls) (dictOf ks) = some b ∧ (b = true ↔ ∀ p ∈ ks, p ∈ ls)
  | [] => ⟨true, rfl, by simp⟩
  | (n, y) :: ks => by
    obtain ⟨b, e, hb⟩ := hits_some nd ks
    by_cases hn : n ∈ ls.map (·.1)
    · obtain ⟨⟨m, z⟩, hm, rfl⟩ := List.mem_map.mp hn
      have v := val_some nd hm
      refine ⟨decide (y = z) && b, ?_, ?_⟩
      · show (match valK (dictOf ls) (.inl m) with
          | none => some false
          | some v => match eqScD (.str y) v, hitsD (dictOf ls) (dictOf ks) with
            | some e, some b => some (e && b)
            | _, _ => none) = _
        rw [v, e]
        rfl
      · rw [Bool.and_eq_true, decide_eq_true_eq, hb, List.forall_mem_cons]
        refine and_congr ⟨fun q => by rw [q]; exact hm, fun q => ?_⟩ Iff.rfl
        exact fst_inj nd q hm
    · have v := val_none hn
      refine ⟨false, ?_, ?_⟩
      · show (match valK (dictOf ls) (.inl n) with
          | none => some false
          | some v => match eqScD (.str y) v, hitsD (dictOf ls) (dictOf ks) with
            | some e, some b => some (e && b)
            | _, _ => none) = _
        rw [v]
      · simp only [Bool.false_eq_true, false_iff]
        intro q
        exact hn (List.mem_map.mpr ⟨(n, y), q _ List.mem_cons_self, rfl⟩)
theorem sub_same {A : Type} [DecidableEq A] {l m : List A} (nl : l.Nodup) (h : ∀ a ∈ l, a ∈ m) (e : l.length = m.length) : ∀ a ∈ m, a ∈ l := fun b hb => by
  by_cases q : b ∈ l
  · exact q
  · have : ∀ a ∈ l, a ∈ m.erase b := fun a ha => (List.mem_erase_of_ne fun e => q (by rw [← e]; exact ha)).mpr (h a ha)
    have h1 := nodup_len nl this
    have h2 := (List.perm_cons_erase hb).length_eq
    simp at h2; omega
theorem e_p_check_cords_no (c : T f_p_check_cords = some b_p_check_cords) {ts : List Hg} (tp : ∀ t ∈ ts, t.isTip = true) (nf : ¬ Fits ts) (hz : ts.length ≤ 1000000) {N : Nat} (hN : 2 ≤ N) (S : Store) : ev T N f_p_check_cords [.lst (ts.map ofH)] S = .ex 2 S := by
  obtain ⟨n, rfl, _⟩ := two_up 0 (N := N) hN
  rw [ev_s c]
  simp [step1, b_p_check_cords]
  rw [for_src (src := [.lst (ts.map ofH)]) (by simp; rfl) (fun S => itA_lst _ S), ones_map]
  generalize hz0 : forV _ _ _ _ _ = zz
  rcases forV_end hz0
    (fun i ρ S1 => ((lightsOf (ts.take i)).map (·.1)).Nodup ∧ ((darksOf (ts.take i)).map (·.1)).Nodup ∧ (∃ o3 o4, ρ = [some (.lst (ts.map ofH)), some (.cell S.length), some (.cell (S.length + 1)), o3, o4]) ∧ S1 = S ++ [.dk (dictOf (lightsOf (ts.take i))), .dk (dictOf (darksOf (ts.take i)))])
    (fun w => ∃ X, w = .ex 2 (S ++ X)) ⟨by simp [lightsOf], by simp [darksOf], ⟨none, none, rfl⟩, by simp [lightsOf, darksOf, dictOf]⟩
    (by
      rintro i t ρ S1 hx ⟨nl, nd, ⟨o3, o4, rfl⟩, rfl⟩
      have ht := tp t (List.mem_of_getElem? hx)
      have hi := lt_of_get hx
      have tk : ts.take (i + 1) = ts.take i ++ [t] := by rw [List.take_add_one, hx]; rfl
      have l1 := lights_len (ts.take i)
      have l2 := darks_len (ts.take i)
      have l3 : (ts.take i).length ≤ ts.length := by rw [List.length_take]; omega
      have z1 : (dictOf (lightsOf (ts.take i))).length < sizeLine := by rw [dict_len]; exact Nat.lt_of_le_of_lt (by omega : _ ≤ 1000000) (by decide)
      have z2 : (dictOf (darksOf (ts.take i))).length < sizeLine := by rw [dict_len]; exact Nat.lt_of_le_of_lt (by omega : _ ≤ 1000000) (by decide)
      cases t with
      | knot _ _ _ => cases ht
      | tip d y m =>
        cases d with
        | false =>
          have ik := in_dk (S := S ++ [.dk (dictOf (lightsOf (ts.take i))), .dk (dictOf (darksOf (ts.take i)))]) (m := S.length) (kvs := dictOf (lightsOf (ts.take i))) (by simp) m
          by_cases nn : m ∈ (lightsOf (ts.take i)).map (·.1)
          · right
            obtain ⟨⟨m', z⟩, hm, rfl⟩ := List.mem_map.mp nn
            rw [val_some nl hm] at ik
            refine ⟨(.ex 2 (S ++ [.dk (dictOf (lightsOf (ts.take i))), .dk (dictOf (darksOf (ts.take i)))])), by simp [setAll, ik, keyOf], trivial, ⟨_, rfl⟩⟩
          · left
            have vn := val_none nn
            have pn := put_new y nn
            rw [vn] at ik
            refine ⟨[some (.lst (ts.map ofH)), some (.cell S.length), some (.cell (S.length + 1)), some (ofH (.tip false y m)), some (.cell S.length)], _, by simp [setAll, ik, keyOf, z1, pn]; rfl, ?_, ?_, ⟨_, _, rfl⟩, ?_⟩
            · rw [tk, lights_app, List.map_append, List.nodup_append]
              refine ⟨nl, by simp [lightsOf], fun a ha b hb => ?_⟩
              simp [lightsOf] at hb
              rw [hb]; exact fun e => nn (by rw [← e]; exact ha)
            · rw [tk, darks_app]; simpa [darksOf] using nd
            · rw [tk, lights_app, darks_app]
              simp [lightsOf, darksOf]
        | true =>
          have ik := in_dk (S := S ++ [.dk (dictOf (lightsOf (ts.take i))), .dk (dictOf (darksOf (ts.take i)))]) (m := S.length + 1) (kvs := dictOf (darksOf (ts.take i))) (by simp) m
          by_cases nn : m ∈ (darksOf (ts.take i)).map (·.1)
          · right
            obtain ⟨⟨m', z⟩, hm, rfl⟩ := List.mem_map.mp nn
            rw [val_some nd hm] at ik
            refine ⟨(.ex 2 (S ++ [.dk (dictOf (lightsOf (ts.take i))), .dk (dictOf (darksOf (ts.take i)))])), by simp [setAll, ik, keyOf], trivial, ⟨_, rfl⟩⟩
          · left
            have vn := val_none nn
            have pn := put_new y nn
            rw [vn] at ik
            refine ⟨[some (.lst (ts.map ofH)), some (.cell S.length), some (.cell (S.length + 1)), some (ofH (.tip true y m)), some (.cell (S.length + 1))], _, by simp [setAll, ik, keyOf, z2, pn]; rfl, ?_, ?_, ⟨_, _, rfl⟩, ?_⟩
            · rw [tk, lights_app]; simpa [lightsOf] using nl
            · rw [tk, darks_app, List.map_append, List.nodup_append]
              refine ⟨nd, by simp [darksOf], fun a ha b hb => ?_⟩
              simp [darksOf] at hb
              rw [hb]; exact fun e => nn (by rw [← e]; exact ha)
            · rw [tk, lights_app, darks_app]
              simp [lightsOf, darksOf]) with ⟨r, S1, e1, nl, nd, ⟨o3, o4, rfl⟩, rfl⟩ | ⟨X, e1⟩
  · subst e1
    simp only [List.take_length] at nl nd ⊢
    have nm : ¬ ∀ p, p ∈ lightsOf ts ↔ p ∈ darksOf ts := fun q => nf ⟨tp, nl, nd, q⟩
    have q : oNeX (S ++ [.dk (dictOf (lightsOf ts)), .dk (dictOf (darksOf ts))]) (.cell S.length) (.cell (S.length + 1)) = .ok (.bl true) (S ++ [.dk (dictOf (lightsOf ts)), .dk (dictOf (darksOf ts))]) := by
      unfold oNeX
      have : dEq (S ++ [.dk (dictOf (lightsOf ts)), .dk (dictOf (darksOf ts))]) (.cell S.length) (.cell (S.length + 1)) = some false := by
        unfold dEq
        simp only [dkOf]
        obtain ⟨b, hb, hb2⟩ := hits_some nd (lightsOf ts)
        simp [dict_len, hb]
        intro hl
        cases b with
        | false => rfl
        | true =>
          exfalso
          have s1 := hb2.mp rfl
          exact nm fun p => ⟨s1 p, sub_same (nodup_of_map nl) s1 hl p⟩
      rw [this]; rfl
    simp [q]
    exact fin_exT (take_app _ _)
  · subst e1
    exact fin_exT (take_app _ _)
end Nl
/-! R72: Net(..) refused -/
namespace Nl
open PySem Sm
variable {T : Nat → Option Body}
/-- why a net is refused: 2 Unfit, 3 NoMirror -/
def Bad (hs : List Hg) (sp : List (Hg × Hg)) (k : Nat) : Prop := (¬ Fits (allT hs sp) ∧ k = 2) ∨ (Fits (allT hs sp) ∧ (∃ p ∈ sp, p.1.mirs p.2 = false) ∧ k = 3)
theorem tips_areTip : ∀ (h : Hg), ∀ t ∈ h.tips, t.isTip = true
  | .tip d y n, t, ht => by simp [Hg.tips] at ht; rw [ht]; rfl
  | .knot k l r, t, ht => by
    simp only [Hg.tips, List.mem_append] at ht
    rcases ht with z | z
    · exact tips_areTip l t z
    · exact tips_areTip r t z
theorem allT_isTip (hs : List Hg) (sp : List (Hg × Hg)) : ∀ t ∈ allT hs sp, t.isTip = true := fun t ht => by
  rcases List.mem_append.mp ht with z | z
  · obtain ⟨h, _, m⟩ := List.mem_flatMap.mp z; exact tips_areTip h t m
  · obtain ⟨p, _, m⟩ := List.mem_flatMap.mp z
    rcases List.mem_append.mp m with w | w
    · exact tips_areTip _ t w
    · exact tips_areTip _ t w
theorem net_end_no (c : NetFns T) {hs : List Hg} {sp : List (Hg × Hg)} {rings : Int} {k : Nat} (sm : Small hs sp) (bad : Bad hs sp k) {n : Nat} (hN : 111 ≤ n) (S : Store) (o4 o2 : Option D) (o1 o3 : Option D) :
    (sSeq (sDrop (mN (fun S ds => ev T (n + 1) f_p_check_cords ds S) (mCons (mN (fun S ds => ev T (n + 1) f_p_net_tips ds S) (mCons (mV 0) (mNil))) (mNil)))) (sFor (mCons (m1 (oFld 7 "splices") (mV 0)) mNil) itemsA [4] (sIf (mNot (mN (fun S ds => ev T (n + 1) f_p_mirrors ds S) (mCons (m2 oIx (mV 4) (mC (.int 0))) (mCons (m2 oIx (mV 4) (mC (.int 1))) (mNil))))) (sRaise 3) (sNil))))
      [some (.cell S.length), o1, o2, o3, o4] (S ++ [.ins 7 netF [.lst (hs.map ofH), .lst (sp.map ofP), .int rings]]) = .ex k (S ++ [.ins 7 netF [.lst (hs.map ofH), .lst (sp.map ofP), .int rings]]) := by
  have g1 : ∀ X, oFld 7 "rack" ((S ++ [.ins 7 netF [.lst (hs.map ofH), .lst (sp.map ofP), .int rings]]) ++ X) (.cell S.length) = .ok (.lst (hs.map ofH)) ((S ++ [.ins 7 netF [.lst (hs.map ofH), .lst (sp.map ofP), .int rings]]) ++ X) := fun X =>
    fld_cell (ns := netF) (ds := [.lst (hs.map ofH), .lst (sp.map ofP), .int rings]) (gapp (by simp) X) (lk_rack _ _ _)
  have g2 : ∀ X, oFld 7 "splices" ((S ++ [.ins 7 netF [.lst (hs.map ofH), .lst (sp.map ofP), .int rings]]) ++ X) (.cell S.length) = .ok (.lst (sp.map ofP)) ((S ++ [.ins 7 netF [.lst (hs.map ofH), .lst (sp.map ofP), .int rings]]) ++ X) := fun X =>
    fld_cell (ns := netF) (ds := [.lst (hs.map ofH), .lst (sp.map ofP), .int rings]) (gapp (by simp) X) (lk_spl _ _ _)
  have t1 := e_p_net_tips c hs sp sm g1 g2 (N := n + 1) (by omega)
  rcases bad with ⟨nf, rfl⟩ | ⟨ft, ⟨p0, hp0, m0⟩, rfl⟩
  · have t2 := e_p_check_cords_no c.check_cords (allT_isTip hs sp) nf sm.z (N := n + 1) (by omega) (S ++ [.ins 7 netF [.lst (hs.map ofH), .lst (sp.map ofP), .int rings]])
    generalize S ++ [.ins 7 netF [.lst (hs.map ofH), .lst (sp.map ofP), .int rings]] = S1 at *
    simp [t1, ofL, t2]
  · have t2 := e_p_check_cords c.check_cords ft sm.z (N := n + 1) (by omega) (S ++ [.ins 7 netF [.lst (hs.map ofH), .lst (sp.map ofP), .int rings]])
    have g2' := g2 []
    rw [List.append_nil] at g2'
    generalize S ++ [.ins 7 netF [.lst (hs.map ofH), .lst (sp.map ofP), .int rings]] = S1 at *
    simp [t1, ofL, t2]
    rw [for_src (src := [.lst (sp.map ofP)]) (by simp [g2']; rfl) (fun S => itA_lst _ S), ones_map]
    generalize hz0 : forV _ _ _ _ _ = zz
    rcases forV_end hz0 (fun i ρ S2 => (∀ p ∈ sp.take i, p.1.mirs p.2 = true) ∧ (∃ o, ρ = [some (.cell S.length), o1, o2, o3, o]) ∧ S2 = S1) (fun w => w = .ex 3 S1) ⟨by simp, ⟨_, rfl⟩, rfl⟩
      (by
        rintro i p ρ S2 hx ⟨hb, ⟨o, rfl⟩, rfl⟩
        have mp := List.mem_of_getElem? hx
        have t3 := e_p_mirrors c.is_tip c.mirrors p.1 p.2 (N := n + 1) (by have := (sm.dp p mp).1; omega) S2
        have tk : sp.take (i + 1) = sp.take i ++ [p] := by rw [List.take_add_one, hx]; rfl
        cases q : p.1.mirs p.2 with
        | true =>
          left
          rw [q] at t3
          refine ⟨[some (.cell S.length), o1, o2, o3, some (ofP p)], S2, by simp [setAll, ofP, t3], fun p' hp' => ?_, ⟨_, rfl⟩, rfl⟩
          rw [tk] at hp'
          rcases List.mem_append.mp hp' with z | z
          · exact hb p' z
          · simp at z; rw [z]; exact q
        | false =>
          right
          rw [q] at t3
          exact ⟨.ex 3 S2, by simp [setAll, ofP, t3], trivial, rfl⟩) with ⟨r, S2, e1, hall, _, _⟩ | e1
    · exfalso
      rw [List.take_length] at hall
      rw [hall p0 hp0] at m0; cases m0
    · exact e1
theorem made_ex {S : Store} {k : Nat} {X : Store} : made true S (.ex k (S ++ X)) = .ex k S := by
  unfold made
  simp
/-- a net that is refused -/
theorem e_net_no (c : NetFns T) {hs : List Hg} {sp : List (Hg × Hg)} {rings : Int} {k : Nat} (sm : Small hs sp) (bad : Bad hs sp k) {rd sd : D} (hr : ∀ S, seqA S rd = some (hs.map ofH)) (hn : ∀ S, oNotN S sd .non = .ok (.bl true) S)
    (hi : ∀ S, itemsA [sd] S = some (sp.map fun p => [ofP p])) {N : Nat} (hN : 113 ≤ N) (S : Store) : made true S (ev T N f_p_Net_init [.cell S.length, rd, sd, .int rings] (S ++ [.ins 7 [] []])) = .ex k S := by
  obtain ⟨n, rfl, _⟩ := two_up 111 (N := N) hN
  rw [ev_s c.init]
  have z1 : hs.length ≤ sizeLine := Nat.le_trans sm.zs.1 (by decide)
  have e1 := net_end_no c (rings := rings) sm bad (n := n) (by omega) S none (some sd) (some rd) (some (.int rings))
  have key : step1 b_p_Net_init (ev T (n + 1)) (ev T n) [.cell S.length, rd, sd, .int rings] (S ++ [.ins 7 [] []]) = .ex k (S ++ [.ins 7 netF [.lst (hs.map ofH), .lst (sp.map ofP), .int rings]]) := by
    simp [step1, b_p_Net_init, oList, hr, hn, z1, put1, put2, pud1, pud2]
    rw [comp_map (d := sd) sp ofP ofP (by simp) (hi _) (fun p _ => by simp [setAll, wipeE, ofP, oTuple])]
    simp [put3, put4, pud3, pud4]
    simp at e1
    rw [e1]
    rfl
  rw [key]
  exact made_ex
end Nl
/-! k13: ways -/
/-! R73: k23's refusals -/
namespace Nl
open PySem Sm Gr
variable {T : Nat → Option Body}
abbrev redS : Str := Str.ofString "red"
abbrev lt (a : Int) : Hg := .tip false redS a
abbrev dk (a : Int) : Hg := .tip true redS a
end Nl
/-! R74: k23's texts -/
namespace Nl
open PySem Sm Gr
variable {T : Nat → Option Body}
/-! ### the whole -/
/-! ### facts that the kernel looks up -/
abbrev x1 : Str := "x"
abbrev x2 : Str := "red."
abbrev x3 : Str := "(red.1 * red'1"
end Nl
/-! Q10: rows and rounds of cords -/
namespace Nl
open PySem Sm Gr
/-- a row of M cords and a round of R -/
structure Row where
  M : Nat
  R : Nat
  y : Str
  nm : Nat → Int
  fl : Nat → Bool
  gl : Nat → Bool
namespace Row
variable (w : Row)
def lt (k : Nat) : Hg := .tip false w.y (w.nm k)
def dk (k : Nat) : Hg := .tip true w.y (w.nm k)
def turn (b : Bool) (p : Hg × Hg) : Hg × Hg := if b then (p.2, p.1) else p
def rowP (k : Nat) : Hg × Hg := turn (w.fl k) (w.dk k, w.lt (k + 1))
def rndP (k : Nat) : Hg × Hg := turn (w.gl k) (w.dk (w.M + k), w.lt (w.M + (k + 1) % w.R))
def pairs : List (Hg × Hg) := (List.range (w.M - 1)).map w.rowP ++ (List.range w.R).map w.rndP
def Inj : Prop := ∀ i < w.M + w.R, ∀ j < w.M + w.R, w.nm i = w.nm j → i = j
variable {w}
theorem turn_tips (b : Bool) (p : Hg × Hg) : (tipsP (turn b p)).Perm (tipsP p) := by
  cases b with
  | false => exact .refl _
  | true => exact List.perm_append_comm
theorem lights_tips (l : List Nat) (f g : Nat → Nat) : lightsOf (l.flatMap fun k => [w.dk (f k), w.lt (g k)]) = l.map fun k => (w.nm (g k), w.y) := by
  induction l with
  | nil => rfl
  | cons a l ih => simp only [List.flatMap_cons, List.map_cons, List.cons_append, List.nil_append, dk, lt, lightsOf, ← ih]
theorem darks_tips (l : List Nat) (f g : Nat → Nat) : darksOf (l.flatMap fun k => [w.dk (f k), w.lt (g k)]) = l.map fun k => (w.nm (f k), w.y) := by
  induction l with
  | nil => rfl
  | cons a l ih => simp only [List.flatMap_cons, List.map_cons, List.cons_append, List.nil_append, dk, lt, darksOf, ← ih]
theorem tips_of (l : List Nat) (f g : Nat → Nat) (b : Nat → Bool) : (tipsS (l.map fun k => turn (b k) (w.dk (f k), w.lt (g k)))).Perm (l.flatMap fun k => [w.dk (f k), w.lt (g k)]) := by
  induction l with
  | nil => exact .refl _
  | cons a l ih =>
    rw [List.map_cons, tipsS_cons, List.flatMap_cons]
    exact (turn_tips _ _).append ih
theorem rot (R : Nat) : ((List.range R).map fun k => (k + 1) % R).Perm (List.range R) := by
  cases R with
  | zero => exact .refl _
  | succ R =>
    rw [List.range_succ, List.map_append]
    have h1 : (List.range R).map (fun k => (k + 1) % (R + 1)) = (List.range R).map Nat.succ := by
      refine List.map_congr_left fun k hk => ?_
      have := List.mem_range.mp hk
      exact Nat.mod_eq_of_lt (by omega)
    rw [h1]
    have h2 : [R].map (fun k => (k + 1) % (R + 1)) = [0] := by simp
    rw [h2, ← List.range_succ]
    rw [List.range_succ_eq_map]
    exact List.perm_append_singleton _ _
/-- the net of a row -/
def net (w : Row) (sp : List (Hg × Hg)) (r : Int) : NetA := ⟨[w.lt 0, w.dk (w.M - 1)], sp, r⟩
theorem tips_perm {sp : List (Hg × Hg)} (h : sp.Perm w.pairs) (r : Int) : (allT (w.net sp r).hs (w.net sp r).sp).Perm ([w.lt 0, w.dk (w.M - 1)] ++ (((List.range (w.M - 1)).flatMap fun k => [w.dk k, w.lt (k + 1)]) ++ (List.range w.R).flatMap fun k => [w.dk (w.M + k), w.lt (w.M + (k + 1) % w.R)])) := by
  refine List.Perm.append_left [w.lt 0, w.dk (w.M - 1)] ?_
  refine (tipsS_perm h).trans ?_
  unfold pairs
  rw [tipsS_app]
  exact (tips_of _ (fun k => k) (fun k => k + 1) w.fl).append (tips_of _ (fun k => w.M + k) (fun k => w.M + (k + 1) % w.R) w.gl)
theorem lights {sp : List (Hg × Hg)} (h : sp.Perm w.pairs) (hM : 0 < w.M) (r : Int) : (lightsOf (allT (w.net sp r).hs (w.net sp r).sp)).Perm ((List.range (w.M + w.R)).map fun k => (w.nm k, w.y)) := by
  refine (lights_perm (tips_perm h r)).trans ?_
  rw [lights_app, lights_app, lights_tips _ (fun k => k) (fun k => k + 1), lights_tips _ (fun k => w.M + k) (fun k => w.M + (k + 1) % w.R)]
  have e : lightsOf [w.lt 0, w.dk (w.M - 1)] = [(w.nm 0, w.y)] := rfl
  rw [e, List.range_add, List.map_append, ← List.append_assoc]
  refine List.Perm.append ?_ ?_
  · have : List.range w.M = 0 :: (List.range (w.M - 1)).map Nat.succ := by
      rw [← List.range_succ_eq_map]; congr 1; omega
    rw [this, List.map_cons, List.map_map]
    exact .refl _
  · have := ((rot w.R).map fun k => w.M + k).map fun k => (w.nm k, w.y)
    rw [List.map_map, List.map_map] at this
    exact this
theorem darks {sp : List (Hg × Hg)} (h : sp.Perm w.pairs) (hM : 0 < w.M) (r : Int) : (darksOf (allT (w.net sp r).hs (w.net sp r).sp)).Perm ((List.range (w.M + w.R)).map fun k => (w.nm k, w.y)) := by
  refine (darks_perm (tips_perm h r)).trans ?_
  rw [darks_app, darks_app, darks_tips _ (fun k => k) (fun k => k + 1), darks_tips _ (fun k => w.M + k) (fun k => w.M + (k + 1) % w.R)]
  have e : darksOf [w.lt 0, w.dk (w.M - 1)] = [(w.nm (w.M - 1), w.y)] := rfl
  rw [e, List.range_add, List.map_append, ← List.append_assoc]
  refine List.Perm.append ?_ (by rw [List.map_map]; exact .refl _)
  have : List.range w.M = List.range (w.M - 1) ++ [w.M - 1] := by
    rw [← List.range_succ]; congr 1; omega
  rw [this, List.map_append]
  exact List.perm_append_comm
theorem fits {sp : List (Hg × Hg)} (h : sp.Perm w.pairs) (inj : w.Inj) (hM : 0 < w.M) (r : Int) : Fits (allT (w.net sp r).hs (w.net sp r).sp) := by
  have nd : ((List.range (w.M + w.R)).map fun k => w.nm k).Nodup := nodup_map List.nodup_range fun a ha b hb e => inj a (List.mem_range.mp ha) b (List.mem_range.mp hb) e
  have pl := lights h hM r
  have pd := darks h hM r
  refine ⟨fun t ht => ?_, ?_, ?_, fun p => by rw [pl.mem_iff, pd.mem_iff]⟩
  · have := (tips_perm h r).mem_iff.mp ht
    simp only [List.mem_append, List.mem_cons, List.not_mem_nil, or_false, List.mem_flatMap] at this
    rcases this with (rfl | rfl) | ⟨k, _, rfl | rfl⟩ | ⟨k, _, rfl | rfl⟩ <;> rfl
  · have := (pl.map (·.1)).nodup_iff
    rw [List.map_map] at this
    exact this.mpr nd
  · have := (pd.map (·.1)).nodup_iff
    rw [List.map_map] at this
    exact this.mpr nd
theorem mirs {sp : List (Hg × Hg)} (h : sp.Perm w.pairs) : ∀ p ∈ sp, p.1.mirs p.2 = true := fun p hp => by
  have key : ∀ (b : Bool) (i j : Nat), (turn b (w.dk i, w.lt j)).1.mirs (turn b (w.dk i, w.lt j)).2 = true := fun b i j => by
    cases b <;> simp [turn, dk, lt, Hg.mirs]
  have := h.mem_iff.mp hp
  unfold pairs at this
  simp only [List.mem_append, List.mem_map] at this
  rcases this with ⟨k, _, rfl⟩ | ⟨k, _, rfl⟩
  · exact key _ _ _
  · exact key _ _ _
theorem ok {sp : List (Hg × Hg)} (h : sp.Perm w.pairs) (inj : w.Inj) (hM : 0 < w.M) (r : Int) : (w.net sp r).Ok := ⟨fits h inj hM r, mirs h⟩
theorem face_of {sp : List (Hg × Hg)} (h : sp.Perm w.pairs) (inj : w.Inj) (hM : 0 < w.M) (r : Int) {b : Bool} {i j : Nat} (m : turn b (w.dk i, w.lt j) ∈ w.pairs) : face (w.net sp r) (w.dk i) = some (w.lt j) ∧ face (w.net sp r) (w.lt j) = some (w.dk i) := by
  have o := ok h inj hM r
  have f1 : face (w.net sp r) (w.dk i) = some (w.lt j) := by
    refine (face_iff o).mpr (List.mem_flatMap.mpr ⟨_, h.mem_iff.mpr m, ?_⟩)
    cases b <;> simp [facesP, turn, dk, lt, Hg.tips]
  exact ⟨f1, face_symm o f1⟩
theorem face_row {sp : List (Hg × Hg)} (h : sp.Perm w.pairs) (inj : w.Inj) (hM : 0 < w.M) (r : Int) {k : Nat} (hk : k + 1 < w.M) : face (w.net sp r) (w.dk k) = some (w.lt (k + 1)) ∧ face (w.net sp r) (w.lt (k + 1)) = some (w.dk k) :=
  face_of h inj hM r (b := w.fl k) (List.mem_append_left _ (List.mem_map.mpr ⟨k, List.mem_range.mpr (by omega), rfl⟩))
theorem on {sp : List (Hg × Hg)} (h : sp.Perm w.pairs) (inj : w.Inj) (hM : 0 < w.M) (r : Int) : Full (w.net sp r) (w.lt 0) ((List.range w.M).map w.lt) (w.lt (w.M - 1)) := by
  have o := ok h inj hM r
  refine ⟨⟨by simp [hM], fun i a b ha hb => ?_, ?_⟩, by rw [List.length_map, List.length_range, List.getElem?_map, List.getElem?_range (by omega)]; simp, .inl (rack_no_face o (by simp [net, tipsL, dk, lt, Hg.tips, Hg.mir])), List.mem_append_left _ (by simp [net, tipsL, dk, lt, Hg.tips])⟩
  · have hb2 := lt_of_get hb
    simp at hb2
    rw [List.getElem?_map, List.getElem?_range (by omega)] at ha hb
    cases ha; cases hb
    exact (face_row h inj hM r (by omega)).1
  · refine nodup_map List.nodup_range fun a ha b hb e => ?_
    have ha := List.mem_range.mp ha
    have hb := List.mem_range.mp hb
    unfold lt at e
    injection e with _ _ e
    exact inj a (by omega) b (by omega) e
end Row
end Nl
/-! R37: by_ways -/
namespace Nl
open PySem Sm Gr
variable {T : Nat → Option Body}
open Classical in
/-- what the names tell behind some tips -/
def NamesAt (N : NetA) (kvs : List (L2.Key × D)) (ts : List Hg) : Prop := ∀ m : Int, valK kvs (.inl m) = if ∃ t ∈ ts, Conn (ed N.sp) (tnum t) m then some (.int (ml (ed N.sp) m)) else none
theorem NamesAt.nil (N : NetA) : NamesAt N [] [] := fun m => by simp [valK]
theorem NamesAt.put {N : NetA} {kvs : List (L2.Key × D)} {ts : List Hg} (h : NamesAt N kvs ts) {t : Hg} {ms : List Int} (hm : ∀ m, m ∈ ms ↔ Conn (ed N.sp) (tnum t) m) : NamesAt N (putAll kvs ms (.int (ml (ed N.sp) (tnum t)))) (ts ++ [t]) := fun m => by
  rw [val_putAll, h m]
  by_cases q : m ∈ ms
  · have c := (hm m).mp q
    rw [if_pos q, if_pos ⟨t, by simp, c⟩, ml_same c]
  · rw [if_neg q]
    by_cases z : ∃ u ∈ ts, Conn (ed N.sp) (tnum u) m
    · obtain ⟨u, hu, cu⟩ := z
      rw [if_pos ⟨u, hu, cu⟩, if_pos ⟨u, by simp [hu], cu⟩]
    · rw [if_neg z, if_neg]
      rintro ⟨u, hu, cu⟩
      simp at hu
      rcases hu with hu | rfl
      · exact z ⟨u, hu, cu⟩
      · exact q ((hm m).mpr cu)
/-- the least numbers of the rack's ways -/
def rackR (N : NetA) : List Int := firsts [] ((tipsL N.hs).map fun t => ml (ed N.sp) (tnum t))
theorem rackR_nd (N : NetA) : (rackR N).Nodup := firsts_nodup _ List.nodup_nil
theorem mem_rackR {N : NetA} {m : Int} : m ∈ rackR N ↔ ∃ t ∈ tipsL N.hs, ml (ed N.sp) (tnum t) = m := by
  unfold rackR
  rw [mem_firsts]
  simp
/-- rounds found behind some tips of splices -/
structure Rounds (N : NetA) (F : List Int) (ts : List Hg) : Prop where
  nd : F.Nodup
  mem : ∀ m, m ∈ F ↔ (∃ t ∈ ts, ml (ed N.sp) (tnum t) = m) ∧ m ∉ rackR N
theorem Rounds.nil (N : NetA) : Rounds N [] [] := ⟨List.nodup_nil, fun m => by simp⟩
theorem Rounds.new {N : NetA} {F : List Int} {ts : List Hg} (h : Rounds N F ts) {t : Hg} (q : ml (ed N.sp) (tnum t) ∉ rackR N) (q2 : ml (ed N.sp) (tnum t) ∉ F) : Rounds N (F ++ [ml (ed N.sp) (tnum t)]) (ts ++ [t]) := ⟨by
  refine List.nodup_append.mpr ⟨h.nd, by simp, fun a ha b hb e => q2 ?_⟩
  simp at hb; rw [← hb, ← e]; exact ha, fun m => by
  simp only [List.mem_append, List.mem_singleton, h.mem]
  constructor
  · rintro (⟨⟨u, hu, e⟩, k⟩ | rfl)
    · exact ⟨⟨u, .inl hu, e⟩, k⟩
    · exact ⟨⟨t, .inr rfl, rfl⟩, q⟩
  · rintro ⟨⟨u, hu | rfl, e⟩, k⟩
    · exact .inl ⟨⟨u, hu, e⟩, k⟩
    · exact .inr e.symm⟩
theorem Rounds.count {N : NetA} (ok : N.Ok) {F : List Int} (h : Rounds N F ((faces N.sp).map (·.1))) : N.rings + (F.length : Int) = finR N := by
  have := rounds_count ok (rackR_nd N) (fun m => mem_rackR) h.nd (fun m => by
    rw [h.mem]
    have p := faces_fst ok.mir
    constructor
    · rintro ⟨⟨t, ht, e⟩, k⟩; exact ⟨⟨t, p.mem_iff.mp ht, e⟩, k⟩
    · rintro ⟨⟨t, ht, e⟩, k⟩; exact ⟨⟨t, p.mem_iff.mpr ht, e⟩, k⟩)
  unfold finR
  omega
/-- the seen cords -/
def SeenAt (N : NetA) (kvs : List (L2.Key × D)) (F : List Int) : Prop := ∀ m : Int, (valK kvs (.inl m)).isSome = true ↔ ml (ed N.sp) m ∈ F
theorem SeenAt.put {N : NetA} {kvs : List (L2.Key × D)} {F : List Int} (h : SeenAt N kvs F) {t : Hg} {ms : List Int} {v : D} (hm : ∀ m, m ∈ ms ↔ Conn (ed N.sp) (tnum t) m) : SeenAt N (putAll kvs ms v) (F ++ [ml (ed N.sp) (tnum t)]) := fun m => by
  rw [val_putAll]
  by_cases q : m ∈ ms
  · rw [if_pos q]
    simp [ml_same ((hm m).mp q)]
  · rw [if_neg q, h m]
    have : ¬ ml (ed N.sp) m = ml (ed N.sp) (tnum t) := fun e => q ((hm m).mpr ((ml_iff _ _ _).mp e.symm))
    simp [this]
end Nl
/-! Q11: what ways tell of a row and a round -/
/-! R38: by_ways, the walk -/
namespace Nl
open PySem Sm Gr
variable {T : Nat → Option Body}
theorem Full.tips {N : NetA} (ok : N.Ok) {t s : Hg} {l : List Hg} (f : Full N t l s) {x : Hg} (hx : x ∈ meet l) : x.isTip = true := by
  obtain ⟨y, hy, hx⟩ := List.mem_flatMap.mp hx
  have := ok.fit.tip _ (f.in_ ok hy)
  simp at hx
  rcases hx with rfl | rfl
  · exact this
  · exact mir_tip this
end Nl
/-! R42: mixed places -/
/-! R76: k03's spoiled nets -/
/-! R77: which tips fit, by cords -/
namespace Nl
open PySem Sm Gr
abbrev lightS : Str := Str.ofString "light"
abbrev darkS : Str := Str.ofString "dark"
end Nl
/-! R78: the law's count of tips by cords -/
namespace Nl
open PySem Sm Gr
variable {T : Nat → Option Body}
def kSlT2 (u : D) (l : Option Int) : R (Option Int) → R D
  | .ok h S => oSlT S u l h
  | .ex c S => .ex c S
  | .err => .err
@[simp] theorem kSlT2_0 (u : D) (l : Option Int) (h : Option Int) (S : Store) : kSlT2 u l (.ok h S) = oSlT S u l h := rfl
def kSlT1 (q : Sm.Env → Store → R (Option Int)) (ρ : Sm.Env) (u : D) : R (Option Int) → R D
  | .ok l S => kSlT2 u l (q ρ S)
  | .ex c S => .ex c S
  | .err => .err
@[simp] theorem kSlT1_0 (q : Sm.Env → Store → R (Option Int)) (ρ : Sm.Env) (u : D) (l : Option Int) (S : Store) : kSlT1 q ρ u (.ok l S) = kSlT2 u l (q ρ S) := rfl
def kSlT (p : Sm.Env → Store → R (Option Int)) (q : Sm.Env → Store → R (Option Int)) (ρ : Sm.Env) : R D → R D
  | .ok d S => kSlT1 q ρ d (p ρ S)
  | .ex c S => .ex c S
  | .err => .err
@[simp] theorem kSlT_0 (p : Sm.Env → Store → R (Option Int)) (q : Sm.Env → Store → R (Option Int)) (ρ : Sm.Env) (d : D) (S : Store) : kSlT p q ρ (.ok d S) = kSlT1 q ρ d (p ρ S) := rfl
@[simp ↓] theorem x_slT (a : ME) (p q : Sm.Env → Store → R (Option Int)) (ρ : Sm.Env) (S : Store) : mSlT a p q ρ S = kSlT p q ρ (a ρ S) := by
  unfold mSlT; cases h : a ρ S with
  | ex c S1 => rfl
  | err => rfl
  | ok d S1 =>
    simp only [bind_ok, kSlT_0]
    cases h2 : p ρ S1 with
    | ex c S1 => rfl
    | err => rfl
    | ok d S1 =>
      simp only [bind_ok, kSlT1_0]
      cases q ρ S1 <;> rfl
end Nl
/-! R79: which refusal is due -/
namespace Nl
open PySem Sm Gr
variable {T : Nat → Option Body}
def hangsOf (hs : List Hg) (sp : List (Hg × Hg)) : List Hg := hs ++ sp.flatMap fun p => [p.1, p.2]
theorem hangsOf_snoc (hs : List Hg) (sp : List (Hg × Hg)) (p : Hg × Hg) : hangsOf hs (sp ++ [p]) = hangsOf hs sp ++ [p.1, p.2] := by
  unfold hangsOf; simp
theorem take_snoc {A : Type} {l : List A} {i : Nat} {a : A} (h : l[i]? = some a) : l.take (i + 1) = l.take i ++ [a] := by rw [List.take_add_one, h]; rfl
def okL : List (Str × Str) → Bool
  | [a, b] => decide (a.1 = darkS) && decide (b.1 = lightS) && decide (a.2 = b.2)
  | _ => false
end Nl
/-! R80: _law_due -/
/-! R81: k16: a net's cords, what joining answers -/
namespace Nl
open PySem Sm Gr
variable {T : Nat → Option Body}
theorem e_l_cords16 (c0 : T f_l_is_tip = some b_l_is_tip) (c1 : T f_l_tips = some b_l_tips) (c : T f_l_cords_k16 = some b_l_cords_k16) {N : NetA} (gd : N.Good) (hz : (allT N.hs N.sp).length ≤ 20000) {n : Nat} (hn : 70 ≤ n) (S : Store) :
    ev T n f_l_cords_k16 [N.d] S = .ok (.lst ((numsT (allT N.hs N.sp)).map D.int)) S := by
  obtain ⟨n, rfl, _⟩ := two_up 68 (N := n) hn
  rw [ev_s c]
  have zs := gd.zs
  have za : (tipsL N.hs).length + (tipsS N.sp).length ≤ 20000 := by
    have := hz; unfold allT at this; rw [List.length_append] at this; exact this
  have lh : N.hs.length ≤ 20000 := Nat.le_trans (by
    have : ∀ l : List Hg, l.length ≤ (tipsL l).length := fun l => by
      induction l with
      | nil => simp
      | cons a l ih => rw [tipsL_cons, List.length_append, List.length_cons]; have := Hg.nt_pos a; unfold Hg.nt at this; omega
    exact this _) (show (tipsL N.hs).length ≤ 20000 by omega)
  have lp : N.sp.length ≤ 20000 := Nat.le_trans (sp_le_tips N.sp) (by omega)
  have yh : N.hs.length ≤ sizeLine := Nat.le_trans lh (by decide)
  have l0 : ∀ S, oList true S [.lst (N.hs.map ofH)] = finL true (N.hs.map ofH) S := fun S => by
    show (if (N.hs.map ofH).length ≤ sizeLine then finL true (N.hs.map ofH) S else .err) = _
    rw [if_pos (by rw [List.length_map]; exact yh)]
  simp [step1, b_l_cords_k16, NetA.d, l0]
  rw [for_src (src := [.lst (N.sp.map ofP)]) (S1 := S ++ [.lst (N.hs.map ofH)]) (by simp) (fun S => itA_lst _ S), ones_map]
  generalize hz0 : forV _ _ _ _ _ = zz0
  obtain ⟨r1, S1, e1, ⟨o2, rfl⟩, rfl⟩ := forV_z hz0 (fun (u : Unit) (_ : Hg × Hg) => u) (fun i _ ρ S' => (∃ o2, ρ = [some (netD N.hs N.sp N.rings), some (.cell S.length), o2, none, none, none]) ∧ S' = S ++ [.lst ((hangsOf N.hs (N.sp.take i)).map ofH)]) (st := ())
    ⟨⟨none, rfl⟩, by simp [hangsOf]⟩
    (by
      rintro i _ p ρ S' hx ⟨⟨o2, rfl⟩, rfl⟩
      have il := lt_of_get hx
      have hl : (hangsOf N.hs (N.sp.take i)).length + 2 ≤ 100000 := by
        unfold hangsOf
        rw [List.length_append, List.length_flatMap]
        have : ∀ l : List (Hg × Hg), (l.map fun p => [p.1, p.2].length).sum = 2 * l.length := fun l => by
          induction l with
          | nil => rfl
          | cons a l ih => simp at ih ⊢; omega
        rw [this, List.length_take]; omega
      have ex := extT_cell (S := S ++ [.lst ((hangsOf N.hs (N.sp.take i)).map ofH)]) (n := S.length) (ds := (hangsOf N.hs (N.sp.take i)).map ofH) (us := [ofH p.1, ofH p.2]) (by simp) (by rw [List.length_map]; exact Nat.le_trans hl (by decide))
      refine ⟨[some (netD N.hs N.sp N.rings), some (.cell S.length), some (ofP p), none, none, none], _, by simp [setAll, ofP, ex]; rfl, ⟨_, rfl⟩, ?_⟩
      rw [take_snoc hx, hangsOf_snoc]
      simp)
  subst e1
  rw [List.take_length]
  simp
  obtain ⟨H, hH⟩ : ∃ H, hangsOf N.hs N.sp = H := ⟨_, rfl⟩
  have tH : tipsL H = allT N.hs N.sp := by rw [← hH, allT_eq]; rfl
  have fH : ∀ g ∈ H, g.depth ≤ 60 := fun g hg => by
    rw [← hH] at hg
    unfold hangsOf at hg
    rcases List.mem_append.mp hg with z | z
    · exact (gd.fn.hs g z).2
    · obtain ⟨p, hp, z⟩ := List.mem_flatMap.mp z
      simp at z
      rcases z with rfl | rfl
      · exact (gd.fn.sp p hp).1.2
      · exact (gd.fn.sp p hp).2.2
  rw [hH]
  have itH : ∀ X, itemsA [.cell S.length] (S ++ .lst (H.map ofH) :: X) = some (H.map fun h => [ofH h]) := fun X => by rw [itA_cell]; simp
  rw [for_srcL (src := [.cell S.length]) (S1 := S ++ [.lst (H.map ofH), .lst []]) (by simp) (itH _)]
  generalize hz1 : forL _ _ _ _ _ _ _ = zz1
  obtain ⟨r1, S3, e1, ⟨o4, rfl⟩, rfl⟩ := forL_z hz1 (fun h => [ofH h]) H rfl
    (fun i ρ S' => (∃ o4, ρ = [some (netD N.hs N.sp N.rings), some (.cell S.length), o2, some (.cell (S.length + 1)), o4, none]) ∧ S' = S ++ [.lst (H.map ofH), .lst ((numsT (tipsL (H.take i))).map D.int)])
    ⟨⟨none, rfl⟩, by simp [tipsL, numsT]⟩ (by rintro i ρ S' ⟨_, rfl⟩; exact itH _)
    (by
      rintro i h ρ S' hx ⟨⟨o4, rfl⟩, rfl⟩
      have mh := List.mem_of_getElem? hx
      have dh := fH h mh
      have e2 : tipsL (H.take (i + 1)) = tipsL (H.take i) ++ h.tips := by rw [take_snoc hx, tipsL_app]; simp [tipsL]
      have ll : (tipsL (H.take i)).length + h.tips.length ≤ 20000 := by
        have l1 : (tipsL (H.take (i + 1))).length ≤ (tipsL H).length := by
          conv => rhs; rw [← List.take_append_drop (i + 1) H, tipsL_app, List.length_append]
          omega
        rw [e2, List.length_append, tH] at l1; omega
      have t1 := fun S' => e_l_tips c0 c1 h (N := n + 1) (by omega) (Nat.le_trans (m := 20000) (show h.tips.length ≤ 20000 by omega) (by decide)) S'
      have cm : ∀ S', mComp false (mCons (mN (fun S ds => ev T (n + 1) f_l_tips ds S) (mCons (mV 4) (mNil))) mNil) itemsA [5] [5] (mC (.bl true)) (m2 oIx (mV 5) (mC (.int 2))) [some (netD N.hs N.sp N.rings), some (.cell S.length), o2, some (.cell (S.length + 1)), some (ofH h), none] S' = finL false (h.tips.map fun t => D.int (tnum t)) S' := fun S' =>
        comp_map (d := ofL h.tips) h.tips ofH (fun t => .int (tnum t)) (by simp [t1]) (by unfold ofL; rw [itA_lst, ones_map]) (fun t ht => by simp [setAll, wipeE, tip_num (tips_areTip h t ht)])
      have z2 : (numsT (tipsL (H.take i))).length + h.tips.length ≤ sizeLine := Nat.le_trans (m := 20000) (by unfold numsT; rw [List.length_map]; exact ll) (by decide)
      refine ⟨[some (netD N.hs N.sp N.rings), some (.cell S.length), o2, some (.cell (S.length + 1)), some (ofH h), none], S ++ [.lst (H.map ofH), .lst ((numsT (tipsL (H.take (i + 1)))).map D.int)], ?_, ⟨_, rfl⟩, rfl⟩
      simp [setAll, cm, finL, z2]
      rw [e2]
      simp [numsT, Function.comp_def])
  subst e1
  rw [List.take_length, tH]
  simp
  exact fin_frz (by simp) (take_app _ _) (by omega) (cl_map (f := D.int) (fun _ => trivial) _)
end Nl
/-! R82: k16: joining answered -/
namespace Nl
open PySem Sm Gr
variable {T : Nat → Option Body}
def kTrysJ (ret : Bool) (cls : List Nat) (i : Nat) (cs : List (Nat × MS)) (ρ : Sm.Env) : R D → R Fl
  | .ok d S => if ret then .ok (.rt d) S else .ok (.nx ρ) S
  | .ex c S => if c ∈ cls then pickX i c ρ S cs else .err
  | .err => .err
@[simp] theorem kTrysJ_ok (ret : Bool) (cls : List Nat) (i : Nat) (cs : List (Nat × MS)) (ρ : Sm.Env) (d : D) (S : Store) : kTrysJ ret cls i cs ρ (.ok d S) = if ret then .ok (.rt d) S else .ok (.nx ρ) S := rfl
@[simp] theorem kTrysJ_ex (ret : Bool) (cls : List Nat) (i : Nat) (cs : List (Nat × MS)) (ρ : Sm.Env) (c : Nat) (S : Store) : kTrysJ ret cls i cs ρ (.ex c S) = if c ∈ cls then pickX i c ρ S cs else .err := rfl
@[simp] theorem pickXJ_cons (i c k : Nat) (ρ : Sm.Env) (S : Store) (m : MS) (r : List (Nat × MS)) : pickX i c ρ S ((k, m) :: r) = if c = k then (if i < ρ.length then gone i (m (ρ.set i none) S) else .err) else pickX i c ρ S r := rfl
@[simp ↓] theorem x_trysJ (ret : Bool) (e : ME) (cls : List Nat) (i : Nat) (cs : List (Nat × MS)) (ρ : Sm.Env) (S : Store) : sTrys ret e cls i cs ρ S = kTrysJ ret cls i cs ρ (e ρ S) := by
  unfold sTrys kTrysJ; cases e ρ S <;> rfl
open Classical in
/-- what the law says is due -/
noncomputable def dueJ (N : NetA) (i : Int) (M : NetA) (j : Int) : Str :=
  if i < 0 ∨ (N.hs.length : Int) ≤ i ∨ j < 0 ∨ (M.hs.length : Int) ≤ j then Str.ofString "no place"
  else if (N.hs.getD i.toNat default).mirs (M.hs.getD j.toNat default) = false then Str.ofString "no mirror"
  else if ∃ m ∈ numsT (allT M.hs M.sp), m ∈ numsT (allT N.hs N.sp) then Str.ofString "unfit" else Str.ofString "net"
structure K16J (T : Nat → Option Body) : Prop where
  join : JoinFns T
  joined : T f_l_joined_k16 = some b_l_joined_k16
  is_tip : T f_l_is_tip = some b_l_is_tip
  tips : T f_l_tips = some b_l_tips
  mirror : T f_l_mirror = some b_l_mirror
  bare : T f_l_bare = some b_l_bare
  cords : T f_l_cords_k16 = some b_l_cords_k16
  due : T f_l_due_k16x = some b_l_due_k16x
theorem joined_ex (c : K16J T) {N M : NetA} {i j : Int} {n k : Nat} {S : Store} (h : ev T (n + 1) f_p_joined [N.d, .int i, M.d, .int j] S = .ex k S) {x : Str} (hk : (k = 4 ∧ x = Str.ofString "no place") ∨ (k = 3 ∧ x = Str.ofString "no mirror") ∨ (k = 2 ∧ x = Str.ofString "unfit")) :
    ev T (n + 2) f_l_joined_k16 [N.d, .int i, M.d, .int j] S = .ok (.str x) S := by
  rw [ev_s c.joined]
  rcases hk with ⟨rfl, rfl⟩ | ⟨rfl, rfl⟩ | ⟨rfl, rfl⟩ <;> simp [step1, b_l_joined_k16, h]
theorem joined_ok (c : K16J T) {N M : NetA} {i j : Int} {n : Nat} {S : Store} {d : D} (h : ev T (n + 1) f_p_joined [N.d, .int i, M.d, .int j] S = .ok d S) : ev T (n + 2) f_l_joined_k16 [N.d, .int i, M.d, .int j] S = .ok d S := by
  rw [ev_s c.joined]
  simp [step1, b_l_joined_k16, h]
theorem share_unfit {N M : NetA} (gn : N.Good) (gm : M.Good) {i j : Nat} {a b : Hg} (ha : N.hs[i]? = some a) (hb : M.hs[j]? = some b) {m : Int} (h1 : m ∈ numsT (allT M.hs M.sp)) (h2 : m ∈ numsT (allT N.hs N.sp)) : ¬ Fits (allT (joinA N i M j).hs (joinA N i M j).sp) := fun f => by
  have f2 := f.perm (join_tips ha hb)
  have one : ∀ {ts : List Hg}, Fits ts → m ∈ numsT ts → m ∈ (lightsOf ts).map (·.1) := fun {ts} ft hm => by
    obtain ⟨t, ht, rfl⟩ := List.mem_map.mp hm
    have far := ft.far ht
    have it := ft.tip t ht
    cases t with
    | knot _ _ _ => cases it
    | tip d y n =>
      cases d with
      | false => exact List.mem_map.mpr ⟨(n, y), mem_lights.mpr ht, rfl⟩
      | true => exact List.mem_map.mpr ⟨(n, y), mem_lights.mpr far, rfl⟩
  have nd := f2.ln
  rw [lights_app, List.map_append] at nd
  exact (List.nodup_append.mp nd).2.2 m (one gn.ok.fit h2) m (one gm.ok.fit h1) rfl
theorem e_l_joined16 (c : K16J T) {N M : NetA} (gn : N.Good) (gm : M.Good) (i j : Int) (z : (allT N.hs N.sp).length + (allT M.hs M.sp).length ≤ 1000000) {n : Nat} (hn : 116 ≤ n) (S : Store) :
    (dueJ N i M j = Str.ofString "net" ∧ (joinA N i.toNat M j.toNat).Good ∧ ev T (n + 2) f_l_joined_k16 [N.d, .int i, M.d, .int j] S = .ok (joinA N i.toNat M j.toNat).d S) ∨
    (dueJ N i M j ≠ Str.ofString "net" ∧ ev T (n + 2) f_l_joined_k16 [N.d, .int i, M.d, .int j] S = .ok (.str (dueJ N i M j)) S) := by
  obtain ⟨w, rfl⟩ : ∃ w, n = w + 1 := ⟨n - 1, by omega⟩
  by_cases h0 : i < 0 ∨ (N.hs.length : Int) ≤ i ∨ j < 0 ∨ (M.hs.length : Int) ≤ j
  · right
    have ed : dueJ N i M j = Str.ofString "no place" := by unfold dueJ; rw [if_pos h0]
    rw [ed]
    exact ⟨by decide +kernel, joined_ex c (e_p_joined_ex c.join h0 (n := w + 1 + 1) (by omega) S) (.inl ⟨rfl, rfl⟩)⟩
  · obtain ⟨i', rfl⟩ := Int.eq_ofNat_of_zero_le (show 0 ≤ i by omega)
    obtain ⟨j', rfl⟩ := Int.eq_ofNat_of_zero_le (show 0 ≤ j by omega)
    have li : i' < N.hs.length := by omega
    have lj : j' < M.hs.length := by omega
    obtain ⟨a, ha⟩ : ∃ a, N.hs[i']? = some a := ⟨_, List.getElem?_eq_getElem li⟩
    obtain ⟨b, hb⟩ : ∃ b, M.hs[j']? = some b := ⟨_, List.getElem?_eq_getElem lj⟩
    have ea : N.hs.getD i' default = a := by rw [List.getD_eq_getElem?_getD, ha]; rfl
    have eb : M.hs.getD j' default = b := by rw [List.getD_eq_getElem?_getD, hb]; rfl
    cases mr : a.mirs b with
    | false =>
      right
      have ed : dueJ N i' M j' = Str.ofString "no mirror" := by unfold dueJ; rw [if_neg h0, if_pos (by simp only [Int.toNat_natCast, ea, eb]; exact mr)]
      rw [ed]
      exact ⟨by decide +kernel, joined_ex c (e_p_joined_mir c.join gn ha hb mr (n := w + 1 + 1) (by omega) S) (.inr (.inl ⟨rfl, rfl⟩))⟩
    | true =>
      have nm : ¬ (N.hs.getD (i' : Int).toNat default).mirs (M.hs.getD (j' : Int).toNat default) = false := by simp only [Int.toNat_natCast, ea, eb, mr]; decide
      by_cases sh : ∃ m ∈ numsT (allT M.hs M.sp), m ∈ numsT (allT N.hs N.sp)
      · right
        have ed : dueJ N i' M j' = Str.ofString "unfit" := by unfold dueJ; rw [if_neg h0, if_neg nm, if_pos sh]
        rw [ed]
        obtain ⟨m, h1, h2⟩ := sh
        have nf := share_unfit gn gm ha hb h1 h2
        have fineJ : (joinA N i' M j').Fine ∧ (allT (joinA N i' M j').hs (joinA N i' M j').sp).length ≤ 1000000 := by
          refine ⟨⟨fun h hh => ?_, fun q hq => ?_⟩, ?_⟩
          · unfold joinA at hh
            rcases List.mem_append.mp hh with w | w
            · exact gn.fn.hs h (mem_cut' w)
            · exact gm.fn.hs h (mem_cut' w)
          · unfold joinA at hq
            simp only [ea, eb, List.mem_append, List.mem_singleton] at hq
            rcases hq with (hq | hq) | rfl
            · exact gn.fn.sp q hq
            · exact gm.fn.sp q hq
            · exact ⟨gn.fn.hs a (List.mem_of_getElem? ha), gm.fn.hs b (List.mem_of_getElem? hb)⟩
          · rw [(join_tips ha hb).length_eq, List.length_append]; exact z
        have sm := fineJ.1.small fineJ.2
        have ws : ((joinA N i' M j').sp.map ofP).length ≤ sizeLine := by rw [List.length_map]; exact Nat.le_trans sm.zs.2 (by decide)
        have mk := e_net_no c.join.toNetFns (rings := (joinA N i' M j').rings) sm (.inl ⟨nf, rfl⟩) (rd := .lst ((joinA N i' M j').hs.map ofH)) (sd := .lst ((joinA N i' M j').sp.map ofP)) (fun _ => rfl) (fun S => notN_lst S _) (fun _ => by rw [itA_lst, ones_map]) (N := w) (by omega) S
        have jr := joined_run c.join gn gm ha hb mr (n := w) (by omega) S mk
        exact ⟨by decide +kernel, joined_ex c (n := w + 1) (by rw [jr]; rfl) (.inr (.inr ⟨rfl, rfl⟩))⟩
      · left
        have ed : dueJ N i' M j' = Str.ofString "net" := by unfold dueJ; rw [if_neg h0, if_neg nm, if_neg sh]
        have gj := gn.join gm ha hb mr (fun m h1 h2 => sh ⟨m, h2, h1⟩) z
        exact ⟨ed, gj, joined_ok c (e_p_joined c.join gn gm ha hb mr gj (n := w + 1 + 1) (by omega) S)⟩
end Nl
/-! R83: k16: what the law says is due -/
namespace Nl
open PySem Sm Gr
variable {T : Nat → Option Body}
theorem cords_loop16 (xs ys : List Int) {ρ : Sm.Env} {S : Store} {z : R Fl} (h4 : ρ[4]? = some (some (.lst (ys.map D.int)))) (h5 : 5 < ρ.length)
    (hz : forV [5] (sIf (m2 (oIn) (mV 5) (mV 4)) (sRet (mC (.str (Str.ofString "unfit")))) (sNil)) (xs.map fun x => [D.int x]) ρ S = z) :
    ((∀ m ∈ xs, m ∉ ys) ∧ ∃ o, z = .ok (.nx (ρ.set 5 o)) S) ∨ (¬ (∀ m ∈ xs, m ∉ ys) ∧ z = .ok (.rt (.str (Str.ofString "unfit"))) S) := by
  rcases forV_end (inj := fun x : Int => [D.int x]) hz (fun i r S1 => (∃ o, r = ρ.set 5 o) ∧ S1 = S ∧ ∀ k, k < i → ∀ m, xs[k]? = some m → m ∉ ys)
    (fun z => ¬ (∀ m ∈ xs, m ∉ ys) ∧ z = .ok (.rt (.str (Str.ofString "unfit"))) S) ⟨⟨ρ[5], (List.set_getElem_self h5).symm⟩, rfl, fun k h => absurd h (by omega)⟩
    (by
      rintro i x r S1 hx ⟨⟨o, rfl⟩, rfl, no⟩
      have g4 : ((ρ.set 5 o).set 5 (some (.int x)))[4]? = some (some (.lst (ys.map D.int))) := by
        rw [List.getElem?_set_ne (by omega), List.getElem?_set_ne (by omega), h4]
      have g5 : ((ρ.set 5 o).set 5 (some (.int x)))[5]? = some (some (.int x)) := by
        rw [List.getElem?_set_self (by simp; exact h5)]
      have ii := in_ints S1 x ys
      have es : (ρ.set 5 o).set 5 (some (.int x)) = ρ.set 5 (some (.int x)) := List.set_set ..
      rw [es] at g4 g5
      have esa : setAll [5] [.int x] (ρ.set 5 o) = ρ.set 5 (some (.int x)) := es
      rw [esa]
      have gl : ∃ r, r = ρ.set 5 (some (.int x)) := ⟨_, rfl⟩
      obtain ⟨r, er⟩ := gl
      rw [← er] at g4 g5 ⊢
      by_cases q : x ∈ ys
      · right
        refine ⟨.ok (.rt (.str (Str.ofString "unfit"))) S1, ?_, trivial, fun h => h x (List.mem_of_getElem? hx) q, rfl⟩
        simp only [q, decide_true] at ii
        simp [setAll, g4, g5, ii]
      · left
        refine ⟨_, S1, ?_, ⟨some (.int x), er⟩, rfl, fun k hk m hm => ?_⟩
        · simp only [q, decide_false] at ii
          simp [setAll, g4, g5, ii]
        · by_cases e : k = i
          · subst e; rw [hx] at hm; cases hm; exact q
          · exact no k (by omega) m hm) with ⟨r, S1, rfl, ⟨o, rfl⟩, rfl, h⟩ | h
  · refine .inl ⟨fun m hm => ?_, o, rfl⟩
    obtain ⟨k, hk⟩ := List.getElem?_of_mem hm
    exact h k (lt_of_get hk) m hk
  · exact .inr h
theorem e_l_due16 (c : K16J T) {N M : NetA} (gn : N.Good) (gm : M.Good) (i j : Int) (zn : (allT N.hs N.sp).length ≤ 20000) (zm : (allT M.hs M.sp).length ≤ 20000) {n : Nat} (hn : 72 ≤ n) (S : Store) :
    ev T n f_l_due_k16x [N.d, .int i, M.d, .int j] S = .ok (.str (dueJ N i M j)) S := by
  obtain ⟨n, rfl, _⟩ := two_up 70 (N := n) hn
  rw [ev_s c.due]
  by_cases h0 : i < 0 ∨ (N.hs.length : Int) ≤ i ∨ j < 0 ∨ (M.hs.length : Int) ≤ j
  · have ed : dueJ N i M j = Str.ofString "no place" := by unfold dueJ; rw [if_pos h0]
    rw [ed]
    by_cases a1 : i < 0
    · simp [step1, b_l_due_k16x, NetA.d, a1]
    · by_cases a2 : (N.hs.length : Int) ≤ i
      · simp [step1, b_l_due_k16x, NetA.d, a1, a2]
      · by_cases a3 : j < 0
        · simp [step1, b_l_due_k16x, NetA.d, a1, a2, a3]
        · have a4 : (M.hs.length : Int) ≤ j := by omega
          simp [step1, b_l_due_k16x, NetA.d, a1, a2, a3, a4]
  · obtain ⟨i', rfl⟩ := Int.eq_ofNat_of_zero_le (show 0 ≤ i by omega)
    obtain ⟨j', rfl⟩ := Int.eq_ofNat_of_zero_le (show 0 ≤ j by omega)
    have li : i' < N.hs.length := by omega
    have lj : j' < M.hs.length := by omega
    obtain ⟨a, ha⟩ : ∃ a, N.hs[i']? = some a := ⟨_, List.getElem?_eq_getElem li⟩
    obtain ⟨b, hb⟩ : ∃ b, M.hs[j']? = some b := ⟨_, List.getElem?_eq_getElem lj⟩
    have ea : N.hs.getD i' default = a := by rw [List.getD_eq_getElem?_getD, ha]; rfl
    have eb : M.hs.getD j' default = b := by rw [List.getD_eq_getElem?_getD, hb]; rfl
    have fa := gn.fn.hs a (List.mem_of_getElem? ha)
    have fb := gm.fn.hs b (List.mem_of_getElem? hb)
    have tm := fun S => e_l_mirror c.is_tip c.mirror a (N := n + 1) (by omega) S
    have tb1 := fun S => e_l_bare c.is_tip c.bare a.mir (N := n + 1) (by rw [Hg.depth_mir]; omega) S
    have tb2 := fun S => e_l_bare c.is_tip c.bare b (N := n + 1) (by omega) S
    have bn := fun S => bare_ne fa fb S
    have c1 := fun S => e_l_cords16 c.is_tip c.tips c.cords gn zn (n := n + 1) (by omega) S
    have c2 := fun S => e_l_cords16 c.is_tip c.tips c.cords gm zm (n := n + 1) (by omega) S
    have b1 : ¬ ((i' : Int) < 0) := by omega
    have b3 : ¬ ((j' : Int) < 0) := by omega
    have b2 : ¬ ((N.hs.length : Int) ≤ (i' : Int)) := by omega
    have b4 : ¬ ((M.hs.length : Int) ≤ (j' : Int)) := by omega
    have b2' : ¬ (N.hs.length ≤ i') := by omega
    have b4' : ¬ (M.hs.length ≤ j') := by omega
    simp [NetA.d] at c1 c2
    cases mr : a.mirs b with
    | false =>
      have ed : dueJ N i' M j' = Str.ofString "no mirror" := by unfold dueJ; rw [if_neg h0, if_pos (by simp only [Int.toNat_natCast, ea, eb]; exact mr)]
      rw [ed]
      simp [mr] at bn
      simp [step1, b_l_due_k16x, NetA.d, b1, b2, b3, b4, b2', b4', ha, hb, tm, tb1, tb2, bn]
    | true =>
      have nm : ¬ (N.hs.getD (i' : Int).toNat default).mirs (M.hs.getD (j' : Int).toNat default) = false := by simp only [Int.toNat_natCast, ea, eb, mr]; decide
      simp [mr] at bn
      simp [step1, b_l_due_k16x, NetA.d, b1, b2, b3, b4, b2', b4', ha, hb, tm, tb1, tb2, bn, c1]
      rw [for_src (src := [.lst ((numsT (allT M.hs M.sp)).map D.int)]) (S1 := S) (by simp [c2]) (fun S => itA_lst _ S), ones_map]
      generalize hz : forV _ _ _ _ _ = z
      rcases cords_loop16 (numsT (allT M.hs M.sp)) (numsT (allT N.hs N.sp)) rfl (by simp) hz with ⟨h1, o, rfl⟩ | ⟨h1, rfl⟩
      · have ed : dueJ N i' M j' = Str.ofString "net" := by unfold dueJ; rw [if_neg h0, if_neg nm, if_neg (fun ⟨m, x, y⟩ => h1 m x y)]
        rw [ed]
        simp
      · have ed : dueJ N i' M j' = Str.ofString "unfit" := by unfold dueJ; rw [if_neg h0, if_neg nm, if_pos (Classical.byContradiction fun h => h1 fun m x y => h ⟨m, x, y⟩)]
        rw [ed]
        simp
end Nl
/-! R84: k16: the second loft -/
namespace Nl
open PySem Sm Gr
variable {T : Nat → Option Body}
structure K16Fns (T : Nat → Option Body) : Prop where
  turn : TurnFns T
  eq : EqFns T
  j : K16J T
  up : T f_l_up = some b_l_up
  far : T f_l_far_loft = some b_l_far_loft
  law : T f_law_k16 = some b_law_k16
theorem LAt.same {S S' : Store} {k a b d e : Nat} {L : Lo} (l : LAt S k a b d e L) (h : ∀ j, j < S.length → S'[j]? = S[j]?) : LAt S' k a b d e L := by
  refine l.frame fun j hj => h j ?_
  have lk := lt_of_get l.hk; have la := lt_of_get l.ha; have lb := lt_of_get l.hb; have ld := lt_of_get l.hc; have le := lt_of_get l.he
  simp at hj
  rcases hj with rfl | rfl | rfl | rfl | rfl <;> assumption
theorem e_l_far (c : K16Fns T) (ns : List Int) (first : Nat) {S : Store} {k a b d e : Nat} {L : Lo} (l : LAt S k a b d e L) (st : L.bk.St) (h : Hg) (hd : h.depth ≤ 60) (hz : h.nt ≤ 1000) {N : Nat} (hN : 80 ≤ N) :
    ∃ (S' : Store) (L2 : Lo) (p : Nat), ev T N f_l_far_loft [.scr ns, .int first, .cell k, ofH h] S = .ok (.tup [.lst ((((L2.hs.map (Hg.ren fun n => n + L.bk.above)).take p ++ [(h.anew L.bk L.bk.n).mir] ++ (L2.hs.map (Hg.ren fun n => n + L.bk.above)).drop p) ++ (h.anew L.bk L.bk.n).tips).map ofH), .lst ((L2.sp.map (renP fun n => n + L.bk.above)).map ofP), .int (p : Int)]) S' ∧
      p ≤ L2.hs.length ∧ LAt S' k a b d e { L with bk := L.bk.up h.nt } ∧ L2.Inv 10 ∧ L2.Net := by
  obtain ⟨n, rfl, _⟩ := two_up 78 (N := N) hN
  rw [ev_s c.far]
  obtain ⟨S1, k2, h1, a2, b2, d2, e2, L2, l2, g2, iv, nt⟩ := e_three_ways c.turn kept_net ns first 9 (by decide) (fun good => loftL_net ns (first + 1) 9 good) (N := n + 1) (by omega) S
  have h1 : ev T (n + 1) f_l_three_ways [.scr ns, .int first, .int 9] S = .ok (.cell k2) S1 := h1
  have lS : LAt S1 k a b d e L := l.same fun j hj => g2.old j hj (by simp)
  have z := iv.z
  have up := fun (h : Hg) (hd : h.depth ≤ 60) S => e_l_up c.j.is_tip c.up L.bk.above h (N := n + 1) (by omega) S
  have st1 := st.1
  have st2 := st.2
  have fh := iv.fineL (by omega)
  have fs := iv.fineS
  have t1 : ∀ S, ev T (n + 1) f_l_cell [.scr ns, .int first] S = .ok (.int (cellI ns first)) S := fun S => e_cell c.turn.stir c.turn.cell ns first (by omega) S
  have an := e_anew' c.turn.is_tip c.turn.number c.turn.anew h st lS.he (N := n + 1) (by omega)
  generalize hfar : h.anew L.bk L.bk.n = far at *
  have dfar : far.depth = h.depth := by rw [← hfar]; exact Hg.depth_anew _ _ _
  have nfar : far.nt = h.nt := by rw [← hfar]; exact Hg.nt_anew _ _ _
  have lE : LAt (S1.set e (L.bk.up h.nt).mo) k a b d e { L with bk := L.bk.up h.nt } := by
    obtain ⟨hk, ha, hb', hc, he, nd⟩ := lS
    obtain ⟨⟨n1, n2, n3, n4, n5, n6, n7, n8, n9, n10⟩, m1, m2, m3, m4, m5, m6, m7, m8, m9, m10⟩ := ne5 nd
    refine ⟨?_, ?_, ?_, ?_, ?_, nd⟩ <;> simp [gset, hk, ha, hb', hc, he, n1, n2, n3, n4, n5, n6, n7, n8, n9, n10, m1, m2, m3, m4, m5, m6, m7, m8, m9, m10]
  generalize hS2 : S1.set e (L.bk.up h.nt).mo = S2 at *
  have tt := fun S => e_l_tips c.j.is_tip c.j.tips far (N := n + 1) (by omega) (sz (by omega)) S
  have mf := fun S => e_l_mirror c.j.is_tip c.j.mirror far (N := n + 1) (by omega) S
  obtain ⟨p, hp, ep⟩ : ∃ p : Nat, p ≤ L2.hs.length ∧ cellI ns first / 3 % ((L2.hs.length : Int) + 1) = (p : Int) := by
    have q1 : 0 ≤ cellI ns first / 3 % ((L2.hs.length : Int) + 1) := Int.emod_nonneg _ (by omega)
    have q2 : cellI ns first / 3 % ((L2.hs.length : Int) + 1) < (L2.hs.length : Int) + 1 := Int.emod_lt_of_pos _ (by omega)
    exact ⟨(cellI ns first / 3 % ((L2.hs.length : Int) + 1)).toNat, by omega, by omega⟩
  have tl : far.tips.length = far.nt := rfl
  have yy : ∀ k, k ≤ 4000 → k ≤ sizeLine := fun k h => sz (by omega)
  have z1 : L2.hs.length ≤ 1000 := by omega
  refine ⟨S2, L2, p, ?_, hp, lE, iv, nt⟩
  have ab : L.bk.b0 + L.bk.b1 * 300 + 1000000 = L.bk.above := rfl
  simp [step1, b_l_far_loft, h1, lS.hk, lS.he, Bk.mo, ab, st1, st2]
  rw [comp_map (d := .cell a2) L2.hs ofH (fun h => ofH (h.ren fun n => n + L.bk.above)) (by simp [l2.hk]) (by rw [itA_cell, l2.ha]; simp) (fun h hh => by simp [setAll, wipeE, up h (fh h hh).2])]
  simp
  rw [comp_map (d := .cell d2) L2.sp ofP (fun p => ofP (renP (fun n => n + L.bk.above) p)) (by simp [l2.hk]) (by rw [itA_cell, l2.hc]; simp) (fun p hp => by
    have fp := fs p hp
    simp [setAll, wipeE, ofP, renP, up p.1 fp.1.2, up p.2 fp.2.2])]
  have mn : min p L2.hs.length = p := Nat.min_eq_left hp
  have y1 : p + 1 ≤ sizeLine := yy _ (by omega)
  have y2 : p + 1 + (L2.hs.length - p) ≤ sizeLine := yy _ (by omega)
  have y3 : p + 1 + (L2.hs.length - p) + far.tips.length ≤ sizeLine := yy _ (by omega)
  have y4 : p + (1 + (L2.hs.length - p)) ≤ sizeLine := yy _ (by omega)
  have y5 : p + (L2.hs.length - p + 1) ≤ sizeLine := yy _ (by omega)
  have y6 : p + (L2.hs.length - p + 1 + far.tips.length) ≤ sizeLine := yy _ (by omega)
  have y7 : p + (L2.hs.length - p + far.tips.length + 1) ≤ sizeLine := yy _ (by omega)
  simp [lS.hk, an, hS2, t1, ep, tt, mf, cutD_to, cutD_from, ofL, List.map_take, List.map_drop, mn, y1, y2, y3, y4, y5, y6, y7]
  have y8 : p + (L2.hs.length - p + 1) + far.tips.length ≤ sizeLine := yy _ (by omega)
  simp [Function.comp_def, List.append_assoc, y8, y1, y2, y3, y4, y5, y6, y7, mn]
  done
end Nl
/-! R85: a net with more tips on its rack -/
namespace Nl
open PySem Sm Gr
theorem good_mix {M : NetA} (g : M.Good) {hs' : List Hg} {E : List Hg} (p : (tipsL hs').Perm (tipsL M.hs ++ E)) (fE : Fits E) (dis : ∀ m ∈ numsA M, m ∉ numsT E) (f : FineL hs') (z : (allT M.hs M.sp).length + E.length ≤ 1000000) (r : Int) : NetA.Good ⟨hs', M.sp, r⟩ := by
  have q : (allT M.hs M.sp ++ E).Perm (allT hs' M.sp) := by
    refine List.perm_iff_count.mpr fun z => ?_
    have := List.perm_iff_count.mp p z
    unfold allT
    simp only [List.count_append] at this ⊢
    omega
  refine ⟨⟨(fits_app g.ok.fit fE dis).perm q, g.ok.mir⟩, ⟨f, g.fn.sp⟩, ?_⟩
  show (allT hs' M.sp).length ≤ _
  rw [← q.length_eq, List.length_append]; exact z
end Nl
/-! R86: k16: the second net -/
namespace Nl
open PySem Sm Gr
theorem ash_ok16 : IsDye (Str.ofString "ash") := by
  have e : (Str.ofString "ash").cps.toList = [97, 115, 104] := by decide +kernel
  refine ⟨by decide +kernel, by decide +kernel, fun x hx => ?_⟩
  rw [e] at hx
  simp at hx
  omega
def rackF (L L2 : Lo) (h : Hg) (p : Nat) : List Hg := ((L2.hs.map (Hg.ren fun n => n + L.bk.above)).take p ++ [(h.anew L.bk L.bk.n).mir] ++ (L2.hs.map (Hg.ren fun n => n + L.bk.above)).drop p) ++ (h.anew L.bk L.bk.n).tips
def splF (L L2 : Lo) : List (Hg × Hg) := L2.sp.map (renP fun n => n + L.bk.above)
def AshOk (L : Lo) (X : List Hg) : Prop := X = [] ∨ ∃ c, (∃ j < L.bk.n, c = L.bk.num j) ∧ X = [.tip false (Str.ofString "ash") c, .tip true (Str.ofString "ash") c]
theorem tips_self {ts : List Hg} (h : ∀ t ∈ ts, t.isTip = true) : tipsL ts = ts := by
  induction ts with
  | nil => rfl
  | cons t ts ih =>
    rw [tipsL_cons, ih fun x hx => h x (List.mem_cons_of_mem _ hx)]
    have := h t List.mem_cons_self
    cases t with
    | tip _ _ _ => rfl
    | knot _ _ _ => cases this
theorem far_good {L L2 : Lo} (iv : L.Inv 11) (nt : L.Net) (iv2 : L2.Inv 10) (nt2 : L2.Net) {h : Hg} (mh : h ∈ L.hs) (p : Nat) {X : List Hg} (hX : AshOk L X) (r : Int) :
    NetA.Good ⟨rackF L L2 h p ++ X, splF L L2, r⟩ ∧ (allT (rackF L L2 h p ++ X) (splF L L2)).length ≤ 1000 := by
  have z := iv.z
  have bn := iv.bn
  have nh := iv.nt h mh
  have dh := iv.dep h mh
  have fh := iv.fine h mh
  have st : L.bk.St := iv.bk.step
  have st2 : L2.bk.St := iv2.bk.step
  have z2 := iv2.z
  have bn2 := iv2.bn
  have le1 := above_le iv.bk
  have le2 := above_le iv2.bk
  have lo1 := iv.bk.lo
  have lo2 := iv2.bk.lo
  have e29 : (10 : Int) ^ 29 = 100000000000000000000000000000 := by decide
  have e30 : (10 : Int) ^ 30 = 1000000000000000000000000000000 := by decide
  have g0 := iv2.good (by decide) nt2 r
  have num2 : ∀ m ∈ numsA ⟨L2.hs, L2.sp, r⟩, ∃ j < L2.bk.n, m = L2.bk.num j := fun m hm => nt2.cords.num hm
  have gl : (renA (fun n => n + L.bk.above) ⟨L2.hs, L2.sp, r⟩).Good := g0.ren (fun a _ b _ e => by omega) fun m hm => by
    obtain ⟨j, hj, rfl⟩ := num2 m hm
    have := num_in st2 (k := j) (by omega)
    omega
  have numl : ∀ m ∈ numsA (renA (fun n => n + L.bk.above) ⟨L2.hs, L2.sp, r⟩), L.bk.above ≤ m := fun m hm => by
    have e : numsA (renA (fun n => n + L.bk.above) ⟨L2.hs, L2.sp, r⟩) = (numsA ⟨L2.hs, L2.sp, r⟩).map fun n => n + L.bk.above := by
      unfold numsA renA
      simp only [allT_ren, numsT, List.map_map]
      refine List.map_congr_left fun t ht => ?_
      have := g0.ok.fit.tip t ht
      cases t with
      | tip _ _ _ => rfl
      | knot _ _ _ => cases this
    rw [e] at hm
    obtain ⟨m0, h0, rfl⟩ := List.mem_map.mp hm
    obtain ⟨j, hj, rfl⟩ := num2 m0 h0
    have := num_in st2 (k := j) (by omega)
    omega
  obtain ⟨far, hfar⟩ : ∃ far, h.anew L.bk L.bk.n = far := ⟨_, rfl⟩
  have far_n : ∀ m ∈ nums far, ∃ j, L.bk.n ≤ j ∧ j < L.bk.n + h.nt ∧ m = L.bk.num j := fun m hm => nums_anew _ _ _ (by rw [hfar]; exact hm)
  have ffar : far.Fine := by rw [← hfar]; exact fine_anew iv.bk fh (by omega)
  have dfar : far.depth = h.depth := by rw [← hfar]; exact Hg.depth_anew _ _ _
  have nfar : far.nt = h.nt := by rw [← hfar]; exact Hg.nt_anew _ _ _
  have tl : far.tips.length = far.nt := rfl
  have tm : far.mir.tips.length = far.mir.nt := rfl
  have tn := far.nt_mir
  have f1 : Fits (far.tips ++ far.mir.tips) := by rw [← hfar]; exact fits_anew st h _
  have fX : Fits X := by
    rcases hX with rfl | ⟨c, _, rfl⟩
    · exact ⟨by simp, by simp [lightsOf], by simp [darksOf], by simp [lightsOf, darksOf]⟩
    · exact fits_pair false _ c
  have nX : ∀ m ∈ numsT X, ∃ j < L.bk.n, m = L.bk.num j := fun m hm => by
    rcases hX with rfl | ⟨c, hc, rfl⟩
    · cases hm
    · have : m = c ∨ m = c := by simpa [numsT, tnum] using hm
      rcases this with rfl | rfl <;> exact hc
  have lX : X.length ≤ 2 := by rcases hX with rfl | ⟨c, _, rfl⟩ <;> simp
  have tX : tipsL X = X := by rcases hX with rfl | ⟨c, _, rfl⟩ <;> rfl
  have mf : ∀ m, m ∈ numsT (far.tips ++ far.mir.tips) → m ∈ nums far := fun m hm => by
    rw [numsT_app, numsT_tips, numsT_tips, nums_mir, List.mem_append, or_self] at hm; exact hm
  have fE := fits_app f1 fX (fun m h1 h2 => by
    obtain ⟨j, j1, j2, rfl⟩ := far_n m (mf m h1)
    obtain ⟨j', k1, k2⟩ := nX _ h2
    have := num_inj' st k2
    omega)
  have zl : (allT (renA (fun n => n + L.bk.above) ⟨L2.hs, L2.sp, r⟩).hs (renA (fun n => n + L.bk.above) ⟨L2.hs, L2.sp, r⟩).sp).length ≤ 600 := by
    show (allT (L2.hs.map _) (L2.sp.map _)).length ≤ 600
    rw [allT_ren, List.length_map, nt2.cords.len]; omega
  have perm : (tipsL (rackF L L2 h p ++ X)).Perm (tipsL (renA (fun n => n + L.bk.above) ⟨L2.hs, L2.sp, r⟩).hs ++ (far.tips ++ far.mir.tips ++ X)) := by
    have ts : tipsL far.tips = far.tips := tips_self fun t ht => by obtain ⟨d, y, m, rfl⟩ := tips_tip ht; rfl
    show (tipsL (((L2.hs.map _).take p ++ [(h.anew L.bk L.bk.n).mir] ++ (L2.hs.map _).drop p) ++ (h.anew L.bk L.bk.n).tips ++ X)).Perm _
    rw [hfar]
    have es : tipsL (renA (fun n => n + L.bk.above) ⟨L2.hs, L2.sp, r⟩).hs = tipsL ((L2.hs.map (Hg.ren fun n => n + L.bk.above)).take p) ++ tipsL ((L2.hs.map (Hg.ren fun n => n + L.bk.above)).drop p) := by
      rw [← tipsL_app, List.take_append_drop]; rfl
    rw [es, tipsL_app, tipsL_app, tipsL_app, tipsL_app, ts, tX]
    have e1 : tipsL [far.mir] = far.mir.tips := by rw [tipsL_cons]; simp [tipsL]
    rw [e1]
    refine List.perm_iff_count.mpr fun z => ?_
    simp only [List.count_append]
    omega
  have fr : FineL (rackF L L2 h p ++ X) := fun g hg => by
    have fl := gl.fn.hs
    rcases List.mem_append.mp hg with hg | hg
    · unfold rackF at hg
      rw [hfar] at hg
      rcases List.mem_append.mp hg with hg | hg
      · rcases List.mem_append.mp hg with hg | hg
        · rcases List.mem_append.mp hg with hg | hg
          · exact fl g (List.mem_of_mem_take hg)
          · rw [List.mem_singleton] at hg
            subst hg
            exact ⟨fine_mir ffar, by rw [Hg.depth_mir]; omega⟩
        · exact fl g (List.mem_of_mem_drop hg)
      · obtain ⟨d, y, m, rfl⟩ := tips_tip hg
        exact ⟨fine_tips ffar hg, Nat.zero_le _⟩
    · rcases hX with rfl | ⟨c, ⟨j, hj, rfl⟩, rfl⟩
      · cases hg
      · have := num_in st (k := j) (by omega)
        have q : IsDye (Str.ofString "ash") ∧ 0 ≤ L.bk.num j ∧ L.bk.num j < 10 ^ 30 := ⟨ash_ok16, by omega, by omega⟩
        simp at hg
        rcases hg with rfl | rfl <;> exact ⟨q, Nat.zero_le _⟩
  have lE : (far.tips ++ far.mir.tips ++ X).length ≤ 400 := by simp only [List.length_append]; omega
  have G := good_mix gl perm fE (fun m h1 h2 => by
    have := numl m h1
    rw [numsT_app, List.mem_append] at h2
    rcases h2 with h2 | h2
    · obtain ⟨j, j1, j2, rfl⟩ := far_n m (mf m h2)
      have := num_in st (k := j) (by omega)
      omega
    · obtain ⟨j, j1, rfl⟩ := nX m h2
      have := num_in st (k := j) (by omega)
      omega) fr (by omega) r
  refine ⟨G, ?_⟩
  have := perm.length_eq
  unfold allT at zl ⊢
  rw [List.length_append] at zl this ⊢
  show _ + (tipsS (L2.sp.map _)).length ≤ _
  have : (tipsS (renA (fun n => n + L.bk.above) ⟨L2.hs, L2.sp, r⟩).sp).length = (tipsS (L2.sp.map (renP fun n => n + L.bk.above))).length := rfl
  omega
end Nl
/-! k16: two nets joined, or refused -/
namespace Nl
open PySem Sm Gr
variable {T : Nat → Option Body}
theorem dueJ_net {N M : NetA} {i j : Int} (h : dueJ N i M j = Str.ofString "net") : 0 ≤ i ∧ i < N.hs.length ∧ 0 ≤ j ∧ j < M.hs.length := by
  unfold dueJ at h
  split at h
  · exact absurd h (by decide +kernel)
  · omega
theorem law_k16 (c : K16Fns T) (ns : List Int) {N : Nat} (hN : 150 ≤ N) : ∃ S, ev T N f_law_k16 [.scr ns] [] = .ok (.bl true) S := by
  obtain ⟨n, rfl, _⟩ := two_up 148 (N := N) hN
  rw [ev_s c.law]
  have ct := c.turn
  have t0 : ∀ S (j : Nat), ev T (n + 1) f_l_cell [.scr ns, .int j] S = .ok (.int (cellI ns j)) S := fun S j => e_cell ct.stir ct.cell ns j (by omega) S
  have t00 : ∀ S, ev T (n + 1) f_l_cell [.scr ns, .int 0] S = .ok (.int (cellI ns 0)) S := fun S => t0 S 0
  have t01 : ∀ S, ev T (n + 1) f_l_cell [.scr ns, .int 1] S = .ok (.int (cellI ns 1)) S := fun S => t0 S 1
  have t02 : ∀ S, ev T (n + 1) f_l_cell [.scr ns, .int 2] S = .ok (.int (cellI ns 2)) S := fun S => t0 S 2
  have t03 : ∀ S, ev T (n + 1) f_l_cell [.scr ns, .int 3] S = .ok (.int (cellI ns 3)) S := fun S => t0 S 3
  have t04 : ∀ S, ev T (n + 1) f_l_cell [.scr ns, .int 4] S = .ok (.int (cellI ns 4)) S := fun S => t0 S 4
  -- the first net
  obtain ⟨S0, k, h0, a, b, d, e, L0, l0, g0, iv0, nt0⟩ := e_three_ways ct kept_net ns 4 9 (by decide) (fun good => loftL_net ns 5 9 good) (N := n + 1) (by omega) []
  have h0 : ev T (n + 1) f_l_three_ways [.scr ns, .int 4, .int 9] [] = .ok (.cell k) S0 := h0
  have em := emp_hs l0.ha (iv0.fineL (by omega))
  obtain ⟨S1, L, hif, l, iv, nt, ne⟩ : ∃ S1 L, (sIf (m2 (oEq) (m2 oIx (mV 1) (mC (.int 0))) (mN (oLst false) (mNil))) (sDrop (mN (fun S ds => ev T (n + 1) f_l_add_cord ds S) (mCons (mV 1) (mCons (mN (fun S ds => ev T (n + 1) f_l_cell ds S) (mCons (mV 0) (mCons (mC (.int 4)) (mNil)))) (mNil))))) (sNil)) [some (.scr ns), some (.cell k), none, none, none, none, none, none, none, none, none, none, none, none] S0 = .ok (.nx [some (.scr ns), some (.cell k), none, none, none, none, none, none, none, none, none, none, none, none]) S1 ∧ LAt S1 k a b d e L ∧ L.Inv 11 ∧ L.Net ∧ L.hs ≠ [] := by
    have z := iv0.z
    have mm := iv0.m
    by_cases he : L0.hs = []
    · obtain ⟨S2, e2, l2, g2⟩ := e_add_cord ct.toLoftFns l0 iv0.bk (by omega) (by omega) (cellI ns 4) (N := n + 1) (by omega)
      exact ⟨S2, _, by simp [l0.hk, em, he, t04, e2], l2, iv0.cord (by omega) _, nt0.cord _, by simp [Lo.cord]⟩
    · exact ⟨S0, L0, by simp [l0.hk, em, he], l0, iv0.mono (by omega), nt0, he⟩
  have z := iv.z
  have bn := iv.bn
  have Lp : 0 < L.hs.length := List.length_pos_iff.mpr ne
  have st : L.bk.St := iv.bk.step
  obtain ⟨pi1, pi2⟩ := Lo.at_lt Lp (cellI ns 0)
  generalize L.at (cellI ns 0) = i0 at *
  have gh := List.getElem?_eq_getElem pi1
  generalize hhi : L.hs[i0] = h at *
  have mh := List.mem_of_getElem? gh
  have dh := iv.dep h mh
  have nh := iv.nt h mh
  obtain ⟨S2, L2, p, hfar, hp, l2, iv2, nt2⟩ := e_l_far c ns 16 l st h (by omega) (by omega) (N := n + 1) (by omega)
  have hfar : ev T (n + 1) f_l_far_loft [.scr ns, .int 16, .cell k, ofH h] S1 = .ok (.tup [.lst ((rackF L L2 h p).map ofH), .lst ((splF L L2).map ofP), .int (p : Int)]) S2 := hfar
  generalize hr2 : cellI ns 2 % 3 = r2 at *
  generalize hr3 : cellI ns 3 % 3 = r3 at *
  have gN := iv.good (by decide) nt r2
  have zN : (allT L.hs L.sp).length ≤ 600 := by rw [nt.cords.len]; omega
  have fg := fun X (hX : AshOk L X) => far_good iv nt iv2 nt2 mh p hX r3
  -- the numbers
  have rl : 0 < (rackF L L2 h p).length := by unfold rackF; simp; omega
  generalize hR : rackF L L2 h p = R at *
  generalize hSP : splF L L2 = SP at *
  have gR := fg [] (.inl rfl)
  rw [List.append_nil] at gR
  have mR := gR.1.zs.1
  generalize hmd : cellI ns 1 % 7 = md at *
  have w3 : cellI ns 1 / 7 % 3 = 0 ∨ cellI ns 1 / 7 % 3 = 1 ∨ cellI ns 1 / 7 % 3 = 2 := by omega
  obtain ⟨i, hi1⟩ : ∃ i : Int, (sIf (m2 (oEq) (mV 5) (mC (.int 1))) (sAsg 2 (m2 oIx (mN (oLst false) (mCons (m1 oNeg (mC (.int 1))) (mCons (mN oLen (mCons (m2 oIx (mV 1) (mC (.int 0))) (mNil))) (mCons (m2 (oAdd false) (mN oLen (mCons (m2 oIx (mV 1) (mC (.int 0))) (mNil))) (mC (.int 5))) (mNil))))) (m2 (oMod) (m2 (oDiv) (mN (fun S ds => ev T (n + 1) f_l_cell ds S) (mCons (mV 0) (mCons (mC (.int 1)) (mNil)))) (mC (.int 7))) (mC (.int 3))))) (sNil)) [some (.scr ns), some (.cell k), some (.int (i0 : Int)), some (.tup [.lst (R.map ofH), .lst (SP.map ofP), .int (p : Int)]), some (.int (p : Int)), some (.int md), none, none, none, none, none, none, none, none] S2 = .ok (.nx [some (.scr ns), some (.cell k), some (.int i), some (.tup [.lst (R.map ofH), .lst (SP.map ofP), .int (p : Int)]), some (.int (p : Int)), some (.int md), none, none, none, none, none, none, none, none]) S2 := by
    by_cases q : md = 1
    · rcases w3 with w | w | w
      · exact ⟨-1, by simp [q, t01, w, l2.hk, l2.ha]⟩
      · exact ⟨L.hs.length, by simp [q, t01, w, l2.hk, l2.ha]⟩
      · exact ⟨L.hs.length + 5, by simp [q, t01, w, l2.hk, l2.ha]⟩
    · exact ⟨i0, by simp [q]⟩
  obtain ⟨j1, hi2⟩ : ∃ j : Int, (sIf (m2 (oEq) (mV 5) (mC (.int 2))) (sAsg 4 (m2 oIx (mN (oLst false) (mCons (m1 oNeg (mC (.int 1))) (mCons (mN oLen (mCons (m2 oIx (mV 3) (mC (.int 0))) (mNil))) (mCons (m2 (oAdd false) (mN oLen (mCons (m2 oIx (mV 3) (mC (.int 0))) (mNil))) (mC (.int 5))) (mNil))))) (m2 (oMod) (m2 (oDiv) (mN (fun S ds => ev T (n + 1) f_l_cell ds S) (mCons (mV 0) (mCons (mC (.int 1)) (mNil)))) (mC (.int 7))) (mC (.int 3))))) (sNil)) [some (.scr ns), some (.cell k), some (.int i), some (.tup [.lst (R.map ofH), .lst (SP.map ofP), .int (p : Int)]), some (.int (p : Int)), some (.int md), none, none, none, none, none, none, none, none] S2 = .ok (.nx [some (.scr ns), some (.cell k), some (.int i), some (.tup [.lst (R.map ofH), .lst (SP.map ofP), .int (p : Int)]), some (.int j), some (.int md), none, none, none, none, none, none, none, none]) S2 := by
    by_cases q : md = 2
    · rcases w3 with w | w | w
      · exact ⟨-1, by simp [q, t01, w]⟩
      · exact ⟨R.length, by simp [q, t01, w]⟩
      · exact ⟨R.length + 5, by simp [q, t01, w]⟩
    · exact ⟨p, by simp [q]⟩
  obtain ⟨j, hi3⟩ : ∃ j : Int, (sIf (m2 (oEq) (mV 5) (mC (.int 3))) (sAsg 4 (m2 (oMod) (m2 (oDiv) (mN (fun S ds => ev T (n + 1) f_l_cell ds S) (mCons (mV 0) (mCons (mC (.int 1)) (mNil)))) (mC (.int 7))) (mN oLen (mCons (m2 oIx (mV 3) (mC (.int 0))) (mNil))))) (sNil)) [some (.scr ns), some (.cell k), some (.int i), some (.tup [.lst (R.map ofH), .lst (SP.map ofP), .int (p : Int)]), some (.int j1), some (.int md), none, none, none, none, none, none, none, none] S2 = .ok (.nx [some (.scr ns), some (.cell k), some (.int i), some (.tup [.lst (R.map ofH), .lst (SP.map ofP), .int (p : Int)]), some (.int j), some (.int md), none, none, none, none, none, none, none, none]) S2 := by
    by_cases q : md = 3
    · have : ¬ R.length = 0 := by omega
      exact ⟨cellI ns 1 / 7 % (R.length : Int), by simp [q, t01, rl, List.length_pos_iff.mp rl]⟩
    · exact ⟨j1, by simp [q]⟩
  obtain ⟨X, o7, hX, hi4⟩ : ∃ X o7, AshOk L X ∧ (sIf (mOr (m2 (oEq) (mV 5) (mC (.int 4))) (mAnd (m2 (oIn) (mV 5) (mN oTup (mCons (mC (.int 1)) (mCons (mC (.int 3)) (mNil))))) (m2 (oEq) (m2 (oMod) (m2 (oDiv) (mN (fun S ds => ev T (n + 1) f_l_cell ds S) (mCons (mV 0) (mCons (mC (.int 1)) (mNil)))) (mC (.int 21))) (mC (.int 2))) (mC (.int 1))))) (sSeq (sAsg 7 (m2 oIx (m2 oIx (mN (fun S ds => ev T (n + 1) f_l_tips ds S) (mCons (m2 oIx (m2 oIx (mV 1) (mC (.int 0))) (mC (.int 0))) (mNil))) (mC (.int 0))) (mC (.int 2)))) (sAsg 6 (m2 (oAdd false) (mV 6) (mN (oLst false) (mCons (mN oTup (mCons (mC (.str "light")) (mCons (mC (.str "ash")) (mCons (mV 7) (mNil))))) (mCons (mN oTup (mCons (mC (.str "dark")) (mCons (mC (.str "ash")) (mCons (mV 7) (mNil))))) (mNil))))))) (sNil)) [some (.scr ns), some (.cell k), some (.int i), some (.tup [.lst (R.map ofH), .lst (SP.map ofP), .int (p : Int)]), some (.int j), some (.int md), some (.lst (R.map ofH)), none, none, none, none, none, none, none] S2 = .ok (.nx [some (.scr ns), some (.cell k), some (.int i), some (.tup [.lst (R.map ofH), .lst (SP.map ofP), .int (p : Int)]), some (.int j), some (.int md), some (.lst ((R ++ X).map ofH)), o7, none, none, none, none, none, none]) S2 := by
    have no : (sIf (mOr (m2 (oEq) (mV 5) (mC (.int 4))) (mAnd (m2 (oIn) (mV 5) (mN oTup (mCons (mC (.int 1)) (mCons (mC (.int 3)) (mNil))))) (m2 (oEq) (m2 (oMod) (m2 (oDiv) (mN (fun S ds => ev T (n + 1) f_l_cell ds S) (mCons (mV 0) (mCons (mC (.int 1)) (mNil)))) (mC (.int 21))) (mC (.int 2))) (mC (.int 1))))) (sSeq (sAsg 7 (m2 oIx (m2 oIx (mN (fun S ds => ev T (n + 1) f_l_tips ds S) (mCons (m2 oIx (m2 oIx (mV 1) (mC (.int 0))) (mC (.int 0))) (mNil))) (mC (.int 0))) (mC (.int 2)))) (sAsg 6 (m2 (oAdd false) (mV 6) (mN (oLst false) (mCons (mN oTup (mCons (mC (.str "light")) (mCons (mC (.str "ash")) (mCons (mV 7) (mNil))))) (mCons (mN oTup (mCons (mC (.str "dark")) (mCons (mC (.str "ash")) (mCons (mV 7) (mNil))))) (mNil))))))) (sNil)) [some (.scr ns), some (.cell k), some (.int i), some (.tup [.lst (R.map ofH), .lst (SP.map ofP), .int (p : Int)]), some (.int j), some (.int md), some (.lst (R.map ofH)), none, none, none, none, none, none, none] S2 = .ok (.nx [some (.scr ns), some (.cell k), some (.int i), some (.tup [.lst (R.map ofH), .lst (SP.map ofP), .int (p : Int)]), some (.int j), some (.int md), some (.lst (R.map ofH)), none, none, none, none, none, none, none]) S2 ∨ ∃ m, (sIf (mOr (m2 (oEq) (mV 5) (mC (.int 4))) (mAnd (m2 (oIn) (mV 5) (mN oTup (mCons (mC (.int 1)) (mCons (mC (.int 3)) (mNil))))) (m2 (oEq) (m2 (oMod) (m2 (oDiv) (mN (fun S ds => ev T (n + 1) f_l_cell ds S) (mCons (mV 0) (mCons (mC (.int 1)) (mNil)))) (mC (.int 21))) (mC (.int 2))) (mC (.int 1))))) (sSeq (sAsg 7 (m2 oIx (m2 oIx (mN (fun S ds => ev T (n + 1) f_l_tips ds S) (mCons (m2 oIx (m2 oIx (mV 1) (mC (.int 0))) (mC (.int 0))) (mNil))) (mC (.int 0))) (mC (.int 2)))) (sAsg 6 (m2 (oAdd false) (mV 6) (mN (oLst false) (mCons (mN oTup (mCons (mC (.str "light")) (mCons (mC (.str "ash")) (mCons (mV 7) (mNil))))) (mCons (mN oTup (mCons (mC (.str "dark")) (mCons (mC (.str "ash")) (mCons (mV 7) (mNil))))) (mNil))))))) (sNil)) [some (.scr ns), some (.cell k), some (.int i), some (.tup [.lst (R.map ofH), .lst (SP.map ofP), .int (p : Int)]), some (.int j), some (.int md), some (.lst (R.map ofH)), none, none, none, none, none, none, none] S2 = .ok (.nx [some (.scr ns), some (.cell k), some (.int i), some (.tup [.lst (R.map ofH), .lst (SP.map ofP), .int (p : Int)]), some (.int j), some (.int md), some (.lst (R.map ofH ++ [.tup [.str (Str.ofString "light"), .str (Str.ofString "ash"), .int m], .tup [.str (Str.ofString "dark"), .str (Str.ofString "ash"), .int m]])), some (.int m), none, none, none, none, none, none]) S2 ∧ ∃ j < L.bk.n, m = L.bk.num j := by
      obtain ⟨x0, h00⟩ : ∃ x0, L.hs[0]? = some x0 := ⟨_, List.getElem?_eq_getElem Lp⟩
      have mx := List.mem_of_getElem? h00
      have dx := iv.dep x0 mx
      have nx := iv.nt x0 mx
      have tl : x0.tips.length = x0.nt := rfl
      have tx := fun S => e_l_tips c.j.is_tip c.j.tips x0 (N := n + 1) (by omega) (sz (by omega)) S
      obtain ⟨t, ts, et⟩ : ∃ t ts, x0.tips = t :: ts := by
        cases q : x0.tips with
        | nil => have := x0.nt_pos; rw [q] at tl; simp at tl; omega
        | cons t ts => exact ⟨t, ts, rfl⟩
      obtain ⟨td, ty, m, rfl⟩ := tips_tip (show t ∈ x0.tips by rw [et]; exact List.mem_cons_self)
      have hm : ∃ j < L.bk.n, m = L.bk.num j := nt.cords.num (show m ∈ numsA ⟨L.hs, L.sp, 0⟩ by
        rw [numsA_eq]
        refine List.mem_append_left _ (mem_numsL mx ?_)
        rw [← numsT_tips, et]
        simp [numsT, tnum])
      have yR : R.length + 2 ≤ sizeLine := Nat.le_trans (Nat.add_le_add_right mR 2) (by decide)
      have yR2 : R.length + 1 + 1 ≤ sizeLine := yR
      have w2 : cellI ns 1 / 21 % 2 = 0 ∨ cellI ns 1 / 21 % 2 = 1 := by omega
      have at0 : _root_.L2.atI (L.hs.map ofH) 0 = some (ofH x0) := by
        unfold _root_.L2.atI _root_.L2.ixN; simp [h00, Lp]
        have e := h00
        rw [List.getElem?_eq_getElem Lp] at e
        rw [Option.some.inj e]
      have i13 : ∀ S, oIn S (.int md) (.tup [.int 1, .int 3]) = .ok (.bl (decide (md = 1 ∨ md = 3))) S := fun S => by
        have := in_ints S md [1, 3]
        have e : oIn S (.int md) (.tup [.int 1, .int 3]) = oIn S (.int md) (.lst [.int 1, .int 3]) := rfl
        rw [e]
        simpa using this
      by_cases q : md = 4
      · exact .inr ⟨m, by simp [q, tx, et, ofL, l2.hk, l2.ha, at0, yR, yR2], hm⟩
      · by_cases q2 : md = 1 ∨ md = 3
        · rcases w2 with w | w
          · exact .inl (by simp [q, i13, q2, t01, w])
          · exact .inr ⟨m, by simp [q, i13, q2, t01, w, tx, et, ofL, l2.hk, l2.ha, at0, yR, yR2], hm⟩
        · exact .inl (by simp [q, i13, q2])
    rcases no with h | ⟨m, h, hm⟩
    · exact ⟨[], none, .inl rfl, by rw [h]; simp⟩
    · exact ⟨_, some (.int m), .inr ⟨m, hm, rfl⟩, by rw [h]; simp [ofH_t, tw]⟩
  have gX := fg X hX
  have gM := gX.1
  have zM := gX.2
  have mkN := e_net' c.j.join.toNetFns gN.ok gN.fn gN.z (n := n) (by omega) S2
  have mkM := e_net' c.j.join.toNetFns gM.ok gM.fn gM.z (n := n) (by omega) S2
  have due := e_l_due16 c.j gN gM i j (Nat.le_trans zN (by decide)) (Nat.le_trans zM (by decide)) (n := n + 1) (by omega) S2
  have jd := e_l_joined16 c.j gN gM i j (show (allT L.hs L.sp).length + (allT (R ++ X) SP).length ≤ 1000000 by omega) (n := n - 1) (by omega) S2
  rw [show n - 1 + 2 = n + 1 by omega] at jd
  have eN := e_l_net c.eq gN.fn.hs gN.fn.sp r2 (S := S2) (rd := .cell a) (sd := .cell d) (by simp [l2.ha]) (by simp [l2.hc]) (N := n + 1) (by omega)
  have eM := e_l_net c.eq gM.fn.hs gM.fn.sp r3 (S := S2) (rd := .lst ((R ++ X).map ofH)) (sd := .lst (SP.map ofP)) rfl rfl (N := n + 1) (by omega)
  have y1 : (L.hs.map ofH).length ≤ sizeLine := by rw [List.length_map]; exact sz (by omega)
  have y2 : (L.sp.map ofP).length ≤ sizeLine := by rw [List.length_map]; exact Nat.le_trans gN.zs.2 (by decide)
  have q1 := list_cell false S2 a _ l2.ha y1
  have q2 := list_cell false S2 d _ l2.hc y2
  have y3 : ((R ++ X).map ofH).length ≤ sizeLine := by rw [List.length_map]; exact Nat.le_trans gM.zs.1 (by decide)
  have y4 : (SP.map ofP).length ≤ sizeLine := by rw [List.length_map]; exact Nat.le_trans gM.zs.2 (by decide)
  have qd : ∀ (S : Store) (ds : List D), ds.length ≤ sizeLine → oList false S [.lst ds] = .ok (.lst ds) S := fun S ds h => by
    show (if ds.length ≤ sizeLine then finL false ds S else .err) = _
    rw [if_pos h]; rfl
  have q3 := qd S2 _ y3
  have q4 := qd S2 _ y4
  generalize hRX : R ++ X = RX at *
  have fin0 : ∀ S, fin true [] (.ok (.rt (.bl true)) S) = .ok (.bl true) [] := fun S => fin_rtT (by simp) trivial
  have go : ∀ v, step1 b_law_k16 (ev T (n + 1)) (ev T n) [.scr ns] [] = v → v = .ok (.bl true) [] := by
    intro v hv
    rw [← hv]
    have jd0 := jd
    simp [NetA.d] at mkN mkM due jd
    rcases jd with ⟨j1, j2, j3⟩ | ⟨j1, j2⟩
    · have jn : dueJ ⟨L.hs, L.sp, r2⟩ i ⟨RX, SP, r3⟩ j = Str.ofString "net" := j1
      simp [step1, b_law_k16, h0, -x_if]
      rw [hif]
      simp [l.hk, l.ha, t00, pi2, Lp, gh, hfar, t01, hmd, -x_if]
      rw [hi1]
      simp [-x_if]
      rw [hi2]
      simp [-x_if]
      rw [hi3]
      simp [-x_if]
      rw [hi4]
      simp [l2.hk, q1, q2, q3, q4, t02, t03, hr2, hr3, mkN, mkM, due, j3, eN, eM, j1, -x_if]
      obtain ⟨ia, ib, ja, jb⟩ := dueJ_net jn
      obtain ⟨i', rfl⟩ := Int.eq_ofNat_of_zero_le ia
      obtain ⟨j', rfl⟩ := Int.eq_ofNat_of_zero_le ja
      have li : i' < L.hs.length := by
        have : (i' : Int) < (L.hs.length : Int) := ib
        omega
      have lj : j' < RX.length := by
        have : (j' : Int) < (RX.length : Int) := jb
        omega
      have lR : RX.length ≤ 1000 := by
        have : RX.length ≤ (tipsL RX).length := by rw [tipsL_len]; exact nts_len RX
        have z9 := zM
        unfold allT at z9
        rw [List.length_append] at z9; omega
      have lS : SP.length ≤ 1000 := by
        have := sp_le_tips SP
        have z9 := zM
        unfold allT at z9
        rw [List.length_append] at z9; omega
      have lP : L.sp.length ≤ 1000 := by
        have := sp_le_tips L.sp
        have z9 := zN
        unfold allT at z9
        rw [List.length_append] at z9; omega
      have yy : ∀ k, k ≤ 4000 → k ≤ sizeLine := fun k h => sz (by omega)
      have gi := List.getElem?_eq_getElem li
      have gj := List.getElem?_eq_getElem lj
      have gJ := j2
      have eJ := fun (S : Store) => e_l_net c.eq gJ.fn.hs gJ.fn.sp (r2 + r3) (S := S2 ++ .lst ((cut L.hs i' ++ cut RX j').map ofH) :: S) (rd := .cell S2.length) (sd := .lst ((L.sp ++ SP ++ [(L.hs.getD i' default, RX.getD j' default)]).map ofP)) (by simp [joinA]) (by rfl) (N := n + 1) (by omega)
      have m1 : min i' L.hs.length = i' := Nat.min_eq_left (by omega)
      have m2 : min j' RX.length = j' := Nat.min_eq_left (by omega)
      have v1 : i' + (L.hs.length - (i' + 1)) ≤ sizeLine := yy _ (by omega)
      have v2 : j' + (RX.length - (j' + 1)) ≤ sizeLine := yy _ (by omega)
      have v3 : i' + (L.hs.length - (i' + 1)) + (j' + (RX.length - (j' + 1))) ≤ sizeLine := yy _ (by omega)
      have v4 : L.sp.length + SP.length ≤ sizeLine := yy _ (by omega)
      have v5 : L.sp.length + (SP.length + 1) ≤ sizeLine := yy _ (by omega)
      have v6 : L.sp.length + SP.length + 1 ≤ sizeLine := yy _ (by omega)
      have v7 : i' + (L.hs.length - (i' + 1) + (j' + (RX.length - (j' + 1)))) ≤ sizeLine := yy _ (by omega)
      have k2 := fun X => gapp l2.hk X
      have k3 := fun X => gapp l2.ha X
      have k4 := fun X => gapp l2.hc X
      have ad : ∀ X, oAdd false (S2 ++ X) (.cell d) (.lst (SP.map ofP)) = finL false (L.sp.map ofP ++ SP.map ofP) (S2 ++ X) := fun X => ad_sq (by simp [k4]) rfl (by simp [v4])
      simp [ad, finL, k2, k3, k4, m1, m2, v1, v2, v3, v4, v5, v6, v7, l2.hk, l2.ha, l2.hc, t02, t03, hr2, hr3, eN, eM, j1, fin0, sl_cell l2.ha, cutD_to, cutD_from1, List.map_take, List.map_drop, gi, gj]
      simp [joinA, cut, List.map_take, List.map_drop, gi, gj, ofP] at eJ
      simp [joinA, cut, List.map_take, List.map_drop, gi, gj, ofP, eJ, fin0]
      done
    · simp [step1, b_law_k16, h0, -x_if]
      rw [hif]
      simp [l.hk, l.ha, t00, pi2, Lp, gh, hfar, t01, hmd, -x_if]
      rw [hi1]
      simp [-x_if]
      rw [hi2]
      simp [-x_if]
      rw [hi3]
      simp [-x_if]
      rw [hi4]
      simp [l2.hk, q1, q2, q3, q4, t02, t03, hr2, hr3, mkN, mkM, due, j2, eN, eM, -x_if]
      simp [l2.hk, t02, t03, hr2, hr3, eN, eM, j1, fin0]
      done
  exact ⟨_, go _ rfl⟩
end Nl
namespace Nl
open PySem PySem.Spec PyProof.Rows L2 Sm
theorem law_true : ∀ ns : List Int, ns.length ≤ 63 → ∃ S, ev T 200 f_law_k16 [.scr ns] [] = .ok (.bl true) S := fun ns _ =>
  law_k16 ⟨⟨⟨rfl, rfl, rfl, rfl, rfl, rfl, rfl, rfl, rfl, rfl, rfl, rfl, rfl, rfl, rfl, rfl⟩, rfl, rfl, rfl, rfl, rfl⟩, ⟨rfl, rfl, rfl, rfl, rfl⟩, ⟨⟨⟨rfl, rfl, rfl, rfl, rfl, rfl, rfl⟩, rfl⟩, rfl, rfl, rfl, rfl, rfl, rfl, rfl⟩, rfl, rfl, rfl⟩ ns (by decide)
end Nl
open PySem PySem.W PySem.Calls PyProof.Rows
set_option maxHeartbeats 8000000 in
theorem PySem.Challenge.cw_netloft_k16_joined_holds : PySem.Challenge.rw_netloft_k16_joined.Holds := by
  w_on; o_law
  refine HandSHeadRun.head_any (r := OpenLaw.row PySem.Challenge.rw_netloft_k16_joined) (q := view (OpenLaw.row PySem.Challenge.rw_netloft_k16_joined).prog [50]) (H := Nl.hk) (ob := Nl.ob) (M := 4000) (loose := Nl.loose) (d := HandSHeadRun.topDef (OpenLaw.row PySem.Challenge.rw_netloft_k16_joined).prog 50) (kwd := []) Nl.ob_eq
    (by kernel_rfl) (fun s => by kernel_rfl) Nl.run (by kernel_rfl) (by kernel_rfl) (by kernel_rfl) (by rfl) (by first | assumption | decide +kernel) (by decide +kernel) ⟨rfl, rfl, rfl, rfl, rfl, by decide +kernel⟩ ?hw ?hc
  case hw => w_witness2
  case hc =>
    refine Sm.walk_ofW (l := PySem.Challenge.rw_netloft_k16_joined) (n := 63) (k := 200) (x := "script") (CX := fun w => L2N.CX (PySem.Challenge.rw_netloft_k16_joined).prog w) rfl (by decide) (by kernel_rfl) ⟨rfl, by decide, by decide⟩ ?F Sm.cx_no
    intro w mg fa h Y G hmg0
    obtain ⟨K, KX, c, y⟩ := Y
    have hmg : mg ("law" : PySem.Str) = some (.ref fa) := by
      have e : (HandSHeadRun.topDef (OpenLaw.row PySem.Challenge.rw_netloft_k16_joined).prog 50).name = ("law" : PySem.Str) := by kernel_rfl
      rw [← e]
      exact hmg0
    have e := hmg.symm.trans (He.glo_ok KX G (c.fact 71 (f := .glo "law") rfl))
    cases e
    obtain ⟨fd, F⟩ := c.def_ 41 rfl
    have b := L2.FunD.bindsA (ps := ["script"]) F fun _ _ _ _ _ _ us hl => match us, hl with | [_], _ => rfl
    exact ⟨K, fd, Sm.spOf K (Sm.caK K) (Sm.ev Nl.T 200 Nl.f_law_k16), KX, fun s v => b s [v] rfl, Sm.law_sp (Nl.law_true), fun base X G => Sm.sim_ok (b := Nl.b_law_k16) rfl F Nl.sc_law_k16 rfl rfl (Nl.d_law_k16 (Nl.all c y X G 198) _)⟩
