import PyProof.Rows.All
import Wide.All
import OpenK.AllK
import Wide.FinOn
import HandS.ForMost
import HandS.AnyAll
import HandS.Exc
import HandS.TryOnly
import HandS.WordsExc
import HandS.Wide
import HandS.WideMore
import HandS.Style
import HandS.TupAny
import HandS.IsInst
import HandS.TupLe
import HandS.Codes
import HandS.Zip
import HandS.Rev
import HandS.EndTab
import HandS.More
import HandS.SortOrd
import HandS.Keys
import KE.GoesZip
import KE.GoesMore
import HandS.GenList
import HandS.Text
import HandS.List
import KE.SortData
import HandS.Call
import HandS.RaiseMore
import PyProof.SumAny
import HandS.Deep
import HandS.Set
import HandS.TupSets
import HandS.Strs
import HandS.ExcOwn
import KE.KSuper
import HandS.ExcInit
import HandS.FStr
import KE.KExcSuper
import HandS.ExcField
import HandS.ExcIs
import KE.KExcIs
import PyProof.JoinWalk
import HandS.JoinGen
import KE.GoesEnum
import HandS.HeadHook3
import HandS.Spec
import PySem.Challenge.RW_rightrows_k34_written_wishes_refused
set_option Elab.async false
set_option linter.all false
set_option maxRecDepth 100000
set_option autoImplicit false
namespace DL
open PySem PySem.Spec PyProof.Rows L2

inductive Ty where
  | non | bool | int | str | tuple | list | dict
def Ty.name : Ty → String
  | .non => "NoneType"
  | .bool => "bool"
  | .int => "int"
  | .str => "str"
  | .tuple => "tuple"
  | .list => "list"
  | .dict => "dict"
inductive D where
  | non | bl (b : Bool) | int (i : Int) | str (x : Str) | tup (ds : List D) | lst (ds : List D) | obj (C : Addr) (fs : List (Str × D)) | scr (ns : List Int) | ty (n : Ty)
inductive W where
  | fz (d : D) | hd (n : Nat) | tp (ws : List W) | xo (a d : Addr) (fs : List (Str × D))
inductive OD where
  | lst (ws : List W) | dic (kvs : List (Key × W)) | ins (C : Addr) (fs : List (Str × W)) | gone

abbrev En := List (Option W)
abbrev Sto := List OD

mutual
inductive Rp (K : PySem.W.Frag) (B : Hp) : D → V → Prop
  | non : Rp K B .non .non
  | bl {b : Bool} : Rp K B (.bl b) (.bl b)
  | int {i : Int} : Rp K B (.int i) (.int i)
  | str {x : Str} : Rp K B (.str x) (.str x)
  | tup {a : Addr} {vs : List V} {ds : List D} : SqT K B a vs → RpL K B ds vs → Rp K B (.tup ds) (.ref a)
  | lst {a : Addr} {vs : List V} {ds : List D} : B a = some (.lst vs) → RpL K B ds vs → Rp K B (.lst ds) (.ref a)
  | scr {a : Addr} {ns : List Int} : SqL K B a (ns.map V.int) → Rp K B (.scr ns) (.ref a)
  | ty {n : Ty} : Rp K B (.ty n) (.ty n.name)
  | obj {a C dx : Addr} {fvs : List (Str × V)} {fs : List (Str × D)} : B a = some (.ins C dx fvs) → RpF K B fs fvs → Rp K B (.obj C fs) (.ref a)
inductive RpL (K : PySem.W.Frag) (B : Hp) : List D → List V → Prop
  | nil : RpL K B [] []
  | cons {d : D} {v : V} {ds : List D} {vs : List V} : Rp K B d v → RpL K B ds vs → RpL K B (d :: ds) (v :: vs)
inductive RpF (K : PySem.W.Frag) (B : Hp) : List (Str × D) → List (Str × V) → Prop
  | nil : RpF K B [] []
  | cons {f : Str} {d : D} {v : V} {ds : List (Str × D)} {vs : List (Str × V)} : Rp K B d v → RpF K B ds vs → RpF K B ((f, d) :: ds) ((f, v) :: vs)
end
def exw (a C d : Addr) : HO := .ext fun h => ∃ (oe : Obj) (vs : Array Value), h.get? a = some oe ∧ oe.cls = .ref C ∧ oe.dict = some d ∧ oe.data = .fields vs
mutual
inductive RW (K : PySem.W.Frag) (B : Hp) (m : List Addr) : W → V → Prop
  | fz {d : D} {v : V} : Rp K B d v → RW K B m (.fz d) v
  | hd {n : Nat} {a : Addr} : m[n]? = some a → RW K B m (.hd n) (.ref a)
  | tp {a : Addr} {vs : List V} {ws : List W} : SqT K B a vs → RWL K B m ws vs → RW K B m (.tp ws) (.ref a)
  | xo {a C u d : Addr} {fs : List (Str × D)} {fvs : List (Str × V)} : B a = some (exw a C d) → B d = some (.xd fvs) → RpF K B fs fvs → RW K B m (.xo C u fs) (.ref a)
inductive RWL (K : PySem.W.Frag) (B : Hp) (m : List Addr) : List W → List V → Prop
  | nil : RWL K B m [] []
  | cons {w : W} {v : V} {ws : List W} {vs : List V} : RW K B m w v → RWL K B m ws vs → RWL K B m (w :: ws) (v :: vs)
end

def Sub (B B' : Hp) : Prop := ∀ (a : Addr) (o : HO), B a = some o → B' a = some o
theorem Sub.refl {B : Hp} : Sub B B := fun _ _ h => h
theorem Sub.trans {A B C : Hp} (h : Sub A B) (g : Sub B C) : Sub A C := fun a o e => g a o (h a o e)
theorem Sub.rd {B B' : Hp} (h : Sub B B') {a : Addr} {u : HO} (r : Rd B a u) : Rd B' a u := by
  rcases r with r | ⟨o, r⟩
  · exact .inl (h _ _ r)
  · exact .inr ⟨o, h _ _ r⟩
theorem Sub.seqL {K : PySem.W.Frag} {B B' : Hp} (h : Sub B B') {a : Addr} {xs : List V} (r : SqL K B a xs) : SqL K B' a xs := by
  rcases r with r | r
  · exact .inl (h.rd r)
  · exact .inr r
theorem Sub.seqT {K : PySem.W.Frag} {B B' : Hp} (h : Sub B B') {a : Addr} {xs : List V} (r : SqT K B a xs) : SqT K B' a xs := by
  rcases r with r | r
  · exact .inl (h.rd r)
  · exact .inr r

section
variable {K : PySem.W.Frag} {B B' : Hp} {m m' : List Addr}
mutual
theorem Rp.mono (h : Sub B B') : ∀ {d : D} {v : V}, Rp K B d v → Rp K B' d v
  | _, _, .non => .non
  | _, _, .bl => .bl
  | _, _, .int => .int
  | _, _, .str => .str
  | _, _, .tup s r => .tup (h.seqT s) (RpL.mono h r)
  | _, _, .lst s r => .lst (h _ _ s) (RpL.mono h r)
  | _, _, .scr s => .scr (h.seqL s)
  | _, _, .ty => .ty
  | _, _, .obj s r => .obj (h _ _ s) (RpF.mono h r)
theorem RpL.mono (h : Sub B B') : ∀ {ds : List D} {vs : List V}, RpL K B ds vs → RpL K B' ds vs
  | _, _, .nil => .nil
  | _, _, .cons r t => .cons (Rp.mono h r) (RpL.mono h t)
theorem RpF.mono (h : Sub B B') : ∀ {ds : List (Str × D)} {vs : List (Str × V)}, RpF K B ds vs → RpF K B' ds vs
  | _, _, .nil => .nil
  | _, _, .cons r t => .cons (Rp.mono h r) (RpF.mono h t)
end
def Pre (m m' : List Addr) : Prop := ∀ (n : Nat) (a : Addr), m[n]? = some a → m'[n]? = some a
theorem Pre.refl : Pre m m := fun _ _ h => h
theorem Pre.trans {a b c : List Addr} (h : Pre a b) (g : Pre b c) : Pre a c := fun n x e => g n x (h n x e)
theorem Pre.app {xs : List Addr} : Pre m (m ++ xs) := fun n a e => by
  rw [List.getElem?_append_left (List.getElem?_eq_some_iff.mp e).1]
  exact e
mutual
theorem RW.mono (h : Sub B B') (p : Pre m m') : ∀ {w : W} {v : V}, RW K B m w v → RW K B' m' w v
  | _, _, .fz r => .fz (r.mono h)
  | _, _, .hd e => .hd (p _ _ e)
  | _, _, .tp s r => .tp (h.seqT s) (RWL.mono h p r)
  | _, _, .xo e0 e r => .xo (h _ _ e0) (h _ _ e) (r.mono h)
theorem RWL.mono (h : Sub B B') (p : Pre m m') : ∀ {ws : List W} {vs : List V}, RWL K B m ws vs → RWL K B' m' ws vs
  | _, _, .nil => .nil
  | _, _, .cons r t => .cons (RW.mono h p r) (RWL.mono h p t)
end
theorem RWL.length : ∀ {ws : List W} {vs : List V}, RWL K B m ws vs → ws.length = vs.length
  | _, _, .nil => rfl
  | _, _, .cons _ t => congrArg (· + 1) (RWL.length t)
theorem RWL.get : ∀ {ws : List W} {vs : List V} {i : Nat} {w : W}, RWL K B m ws vs → ws[i]? = some w → ∃ v, vs[i]? = some v ∧ RW K B m w v
  | _, _, _, _, .nil, e => by simp at e
  | _, _, 0, _, .cons r _, e => by simp at e; subst e; exact ⟨_, rfl, r⟩
  | _, _, i + 1, _, .cons _ t, e => by
    obtain ⟨v, h1, h2⟩ := RWL.get (i := i) t (by simpa using e)
    exact ⟨v, by simpa using h1, h2⟩
theorem RWL.set : ∀ {ws : List W} {vs : List V} {i : Nat} {w : W} {v : V}, RWL K B m ws vs → RW K B m w v → RWL K B m (ws.set i w) (vs.set i v)
  | _, _, _, _, _, .nil, _ => .nil
  | _, _, 0, _, _, .cons _ t, q => .cons q t
  | _, _, i + 1, _, _, .cons r t, q => .cons r (RWL.set t q)
theorem RWL.append : ∀ {ws ws' : List W} {vs vs' : List V}, RWL K B m ws vs → RWL K B m ws' vs' → RWL K B m (ws ++ ws') (vs ++ vs')
  | _, _, _, _, .nil, q => q
  | _, _, _, _, .cons r t, q => .cons r (RWL.append t q)
theorem RWL.take : ∀ {ws : List W} {vs : List V} (n : Nat), RWL K B m ws vs → RWL K B m (ws.take n) (vs.take n)
  | _, _, 0, _ => by simp; exact .nil
  | _, _, n + 1, .nil => .nil
  | _, _, n + 1, .cons r t => .cons r (RWL.take n t)
theorem RWL.drop : ∀ {ws : List W} {vs : List V} (n : Nat), RWL K B m ws vs → RWL K B m (ws.drop n) (vs.drop n)
  | _, _, 0, r => r
  | _, _, n + 1, .nil => .nil
  | _, _, n + 1, .cons r t => RWL.drop n t
theorem RWL.reverse {ws : List W} {vs : List V} (r : RWL K B m ws vs) : RWL K B m ws.reverse vs.reverse := by
  induction ws generalizing vs with
  | nil => cases r; exact .nil
  | cons w ws ih =>
    cases r with
    | cons r t =>
      rw [List.reverse_cons, List.reverse_cons]
      exact (ih t).append (.cons r .nil)
theorem RpL.fz : ∀ {ds : List D} {vs : List V}, RpL K B ds vs → RWL K B m (ds.map W.fz) vs
  | _, _, .nil => .nil
  | _, _, .cons r t => .cons (.fz r) (RpL.fz t)
theorem RWL.fz : ∀ {ds : List D} {vs : List V}, RWL K B m (ds.map W.fz) vs → RpL K B ds vs
  | [], _, .nil => .nil
  | _ :: _, _, .cons r t => by
    cases r with
    | fz r => exact .cons r (RWL.fz t)
theorem RpL.get {ds : List D} {vs : List V} {i : Nat} {d : D} (r : RpL K B ds vs) (e : ds[i]? = some d) : ∃ v, vs[i]? = some v ∧ Rp K B d v := by
  obtain ⟨v, h1, h2⟩ := (r.fz (m := [])).get (i := i) (w := .fz d) (by rw [List.getElem?_map, e]; rfl)
  cases h2 with
  | fz h2 => exact ⟨v, h1, h2⟩
theorem RpL.length {ds : List D} {vs : List V} (r : RpL K B ds vs) : ds.length = vs.length := by
  have := (r.fz (m := [])).length
  simpa using this
end

structure Fx where
  B : Hp
  H : Hp
  L : List Addr
  /-- the tables of code objects -/
  T : Addr → Prop
def FF (K : PySem.W.Frag) (B : Hp) (m : List Addr) (fs : List (Str × W)) (fvs : List (Str × V)) : Prop := Paired (fun (p : Str × W) (q : Str × V) => p.1 = q.1 ∧ RW K B m p.2 q.2) fs fvs
def FK (K : PySem.W.Frag) (B : Hp) (m : List Addr) (fs : List (Key × W)) (fvs : List (Key × V)) : Prop := Paired (fun (p : Key × W) (q : Key × V) => p.1 = q.1 ∧ RW K B m p.2 q.2) fs fvs
def RO (K : PySem.W.Frag) (B : Hp) (m : List Addr) : OD → HO → Prop
  | .lst ws, o => ∃ vs, o = .lst vs ∧ RWL K B m ws vs
  | .dic kvs, o => ∃ vs, o = .dK vs ∧ FK K B m kvs vs
  | .ins C fs, o => ∃ dx vs, o = .ins C dx vs ∧ FF K B m fs vs
  | .gone, _ => True
structure Cf (K : PySem.W.Frag) (F : Fx) (B : Hp) (m : List Addr) (S : Sto) (H : Hp) : Prop where
  b0 : Sub F.B B
  sub : Sub B H
  bnew : ∀ (a : Addr) (o : HO), B a = some o → F.B a = some o ∨ F.H a = none
  fr : ∀ (a : Addr) (o : HO), F.H a = some o → a ∉ F.L → ¬ F.T a → H a = some o
  dom : ∀ a : Addr, H a = none → F.H a = none
  len : m.length = S.length
  pre : ∀ (n : Nat) (a : Addr), F.L[n]? = some a → m[n]? = some a
  new : ∀ (n : Nat) (a : Addr), m[n]? = some a → F.L[n]? = some a ∨ F.H a = none
  nd : ∀ (i j : Nat) (a : Addr), m[i]? = some a → m[j]? = some a → i = j
  own : ∀ (n : Nat) (a : Addr) (od : OD), m[n]? = some a → S[n]? = some od → ∃ o, H a = some o ∧ RO K B m od o ∧ (od ≠ .gone → B a = none)
  tab : ∀ p : Addr, F.T p → GxR.TabG H p ∧ B p = none ∧ ∀ n : Nat, m[n]? ≠ some p
structure Nx (K : PySem.W.Frag) (F : Fx) (B : Hp) (m : List Addr) (H : Hp) (B' : Hp) (m' : List Addr) (S' : Sto) (H' : Hp) : Prop where
  cf : Cf K F B' m' S' H'
  sb : Sub B B'
  pr : Pre m m'
  kp : ∀ (a : Addr) (o : HO), H a = some o → (∀ n : Nat, m[n]? ≠ some a) → ¬ F.T a → H' a = some o
  nw : ∀ (n : Nat) (a : Addr), m'[n]? = some a → m[n]? = some a ∨ H a = none
  dm : ∀ a : Addr, H' a = none → H a = none
  bn : ∀ (a : Addr) (o : HO), B' a = some o → B a = some o ∨ H a = none ∨ ∃ n : Nat, m[n]? = some a
theorem Paired.len {α β : Type} {R : α → β → Prop} : ∀ {xs : List α} {ys : List β}, Paired R xs ys → xs.length = ys.length := fun r => Paired.length r

theorem tabG_keep {H H' : Hp} {p : Addr} (g : GxR.TabG H p) (k : ∀ o : HO, H p = some o → H' p = some o) : GxR.TabG H' p := let ⟨ps, e, t⟩ := g; ⟨ps, k _ e, t⟩
theorem tab_ne {H : Hp} {p q : Addr} (g : GxR.TabG H p) (h : H q = none) : p ≠ q := fun z => by
  obtain ⟨ps, e, _⟩ := g
  rw [z, h] at e; cases e
theorem tabG_upd {H : Hp} {p q : Addr} {o : HO} (g : GxR.TabG H p) (h : p ≠ q) : GxR.TabG (upd H q o) p := tabG_keep g fun u e => by rw [upd_ne h]; exact e
section
variable {K : PySem.W.Frag} {F : Fx} {B B' B'' : Hp} {m m' m'' : List Addr} {S S' S'' : Sto} {H H' H'' : Hp}
theorem FF.mono (h : Sub B B') (p : Pre m m') {fs : List (Str × W)} {vs : List (Str × V)} (r : FF K B m fs vs) : FF K B' m' fs vs := Paired.mapP r fun _ _ q => ⟨q.1, q.2.mono h p⟩
theorem FK.mono (h : Sub B B') (p : Pre m m') {fs : List (Key × W)} {vs : List (Key × V)} (r : FK K B m fs vs) : FK K B' m' fs vs := Paired.mapP r fun _ _ q => ⟨q.1, q.2.mono h p⟩
theorem RO.mono (h : Sub B B') (p : Pre m m') : ∀ {od : OD} {o : HO}, RO K B m od o → RO K B' m' od o
  | .lst _, _, ⟨vs, e, r⟩ => ⟨vs, e, r.mono h p⟩
  | .dic _, _, ⟨vs, e, r⟩ => ⟨vs, e, r.mono h p⟩
  | .ins _ _, _, ⟨dx, vs, e, r⟩ => ⟨dx, vs, e, r.mono h p⟩
  | .gone, _, _ => trivial
theorem Cf.nx (c : Cf K F B m S H) : Nx K F B m H B m S H := ⟨c, .refl, .refl, fun _ _ h _ _ => h, fun _ _ h => .inl h, fun _ h => h, fun _ _ h => .inl h⟩
theorem Nx.trans (a : Nx K F B m H B' m' S' H') (b : Nx K F B' m' H' B'' m'' S'' H'') : Nx K F B m H B'' m'' S'' H'' := by
  refine ⟨b.cf, a.sb.trans b.sb, a.pr.trans b.pr, fun x o h n nt => b.kp x o (a.kp x o h n nt) (fun k e => ?_) nt, fun n x e => ?_, fun x h => a.dm x (b.dm x h), fun x o e => ?_⟩
  · rcases a.nw k x e with z | z
    · exact n k z
    · rw [h] at z; cases z
  · rcases b.nw n x e with z | z
    · exact a.nw n x z
    · exact .inr (a.dm x z)
  · rcases b.bn x o e with z | z | ⟨n, z⟩
    · exact a.bn x o z
    · exact .inr (.inl (a.dm x z))
    · rcases a.nw n x z with z | z
      · exact .inr (.inr ⟨n, z⟩)
      · exact .inr (.inl z)
theorem Cf.lt (c : Cf K F B m S H) {n : Nat} {od : OD} (e : S[n]? = some od) : ∃ a, m[n]? = some a := by
  have h1 := (List.getElem?_eq_some_iff.mp e).1
  rw [← c.len] at h1
  exact ⟨_, List.getElem?_eq_getElem h1⟩
theorem Cf.there (c : Cf K F B m S H) {n : Nat} {a : Addr} (e : m[n]? = some a) : ∃ o, H a = some o := by
  have h1 := (List.getElem?_eq_some_iff.mp e).1
  rw [c.len] at h1
  obtain ⟨o, h, _⟩ := c.own n a _ e (List.getElem?_eq_getElem h1)
  exact ⟨o, h⟩
theorem Cf.notIn (c : Cf K F B m S H) {p : Addr} (hp : H p = none) (n : Nat) : m[n]? ≠ some p := fun e => by
  obtain ⟨o, h⟩ := c.there e
  rw [hp] at h
  cases h
theorem Cf.alloc (c : Cf K F B m S H) {p : Addr} {o : HO} (hp : H p = none) : Nx K F B m H (upd B p o) m S (upd H p o) := by
  have nB : B p = none := by
    cases q : B p with
    | none => rfl
    | some u => rw [c.sub _ _ q] at hp; cases hp
  have sb : Sub B (upd B p o) := fun a u e => by rw [upd_ne (ne_of_none e nB)]; exact e
  have sh : Sub H (upd H p o) := fun a u e => by rw [upd_ne (ne_of_none e hp)]; exact e
  refine ⟨⟨c.b0.trans sb, fun a u e => ?_, fun a u e => ?_, fun a u e n nt => sh _ _ (c.fr a u e n nt), fun a e => ?_, c.len, c.pre, c.new, c.nd, fun n a od h1 h2 => ?_, fun q tq => let ⟨g1, g2, g3⟩ := c.tab q tq; ⟨tabG_keep g1 fun o e => sh _ _ e, by rw [upd_ne (tab_ne g1 hp)]; exact g2, g3⟩⟩, sb, .refl, fun _ _ e _ _ => sh _ _ e, fun _ _ h => .inl h, fun a e => by
    by_cases h : a = p
    · subst h; exact hp
    · rw [upd_ne h] at e; exact e, fun a u e => by
    by_cases h : a = p
    · subst h; exact .inr (.inl hp)
    · rw [upd_ne h] at e; exact .inl e⟩
  · by_cases h : a = p
    · subst h; rw [upd_same] at e ⊢; exact e
    · rw [upd_ne h] at e ⊢; exact c.sub _ _ e
  · by_cases h : a = p
    · subst h; exact .inr (c.dom _ hp)
    · rw [upd_ne h] at e; exact c.bnew _ _ e
  · by_cases h : a = p
    · subst h; exact c.dom _ hp
    · rw [upd_ne h] at e; exact c.dom _ e
  · obtain ⟨u, e, r, g⟩ := c.own n a od h1 h2
    have ne : a ≠ p := fun z => c.notIn hp n (z ▸ h1)
    exact ⟨u, sh _ _ e, r.mono sb .refl, fun z => by rw [upd_ne ne]; exact g z⟩
theorem Cf.allocO (c : Cf K F B m S H) {p : Addr} {o : HO} {od : OD} (hp : H p = none) (r : RO K B m od o) : Nx K F B m H B (m ++ [p]) (S ++ [od]) (upd H p o) := by
  have sh : Sub H (upd H p o) := fun a u e => by rw [upd_ne (ne_of_none e hp)]; exact e
  have nB : B p = none := by
    cases q : B p with
    | none => rfl
    | some u => rw [c.sub _ _ q] at hp; cases hp
  have cases_ : ∀ (n : Nat) (a : Addr), (m ++ [p])[n]? = some a → m[n]? = some a ∨ (n = m.length ∧ a = p) := fun n a e => by
    by_cases h : n < m.length
    · rw [List.getElem?_append_left h] at e; exact .inl e
    · rw [List.getElem?_append_right (by omega)] at e
      have h2 : n - m.length = 0 := by
        cases q : n - m.length with
        | zero => rfl
        | succ k => rw [q] at e; simp at e
      rw [h2] at e
      simp at e
      exact .inr ⟨by omega, e.symm⟩
  refine ⟨⟨c.b0, c.sub.trans sh, c.bnew, fun a u e n nt => sh _ _ (c.fr a u e n nt), fun a e => ?_, by simp [c.len], fun n a e => Pre.app _ _ (c.pre n a e), fun n a e => ?_, fun i j a h1 h2 => ?_, fun n a od' h1 h2 => ?_, fun q tq => let ⟨g1, g2, g3⟩ := c.tab q tq; ⟨tabG_keep g1 fun o e => sh _ _ e, g2, fun n e => (cases_ n q e).elim (g3 n) fun z => tab_ne g1 hp z.2⟩⟩, .refl, .app, fun _ _ e _ _ => sh _ _ e, fun n a e => (cases_ n a e).imp_right fun z => by rw [z.2]; exact hp, fun a e => by
    by_cases h : a = p
    · subst h; exact hp
    · rw [upd_ne h] at e; exact e, fun _ _ h => .inl h⟩
  · by_cases h : a = p
    · subst h; exact c.dom _ hp
    · rw [upd_ne h] at e; exact c.dom _ e
  · rcases cases_ n a e with e | ⟨_, e⟩
    · exact c.new n a e
    · subst e; exact .inr (c.dom _ hp)
  · rcases cases_ i a h1 with e1 | ⟨e1, f1⟩ <;> rcases cases_ j a h2 with e2 | ⟨e2, f2⟩
    · exact c.nd i j a e1 e2
    · subst f2; exact absurd e1 (c.notIn hp i)
    · subst f1; exact absurd e2 (c.notIn hp j)
    · omega
  · rcases cases_ n a h1 with e | ⟨e, f⟩
    · rw [List.getElem?_append_left (by have := (List.getElem?_eq_some_iff.mp e).1; rw [← c.len]; exact this)] at h2
      obtain ⟨u, e', r', g⟩ := c.own n a od' e h2
      exact ⟨u, sh _ _ e', r'.mono .refl .app, g⟩
    · subst f
      rw [List.getElem?_append_right (by rw [← c.len, e]; exact Nat.le_refl _), e, c.len, Nat.sub_self] at h2
      simp at h2
      subst h2
      exact ⟨o, upd_same, r.mono .refl .app, fun _ => nB⟩
theorem Cf.write (c : Cf K F B m S H) {n : Nat} {a : Addr} {o : HO} {od od0 : OD} (e : m[n]? = some a) (e0 : S[n]? = some od0) (ng : od0 ≠ .gone) (r : RO K B m od o) : Nx K F B m H B m (S.set n od) (upd H a o) := by
  obtain ⟨u, hu, _, g⟩ := c.own n a od0 e e0
  have nB := g ng
  refine ⟨⟨c.b0, fun b v q => ?_, c.bnew, fun b v q nl nt => ?_, fun b q => ?_, by simp [c.len], c.pre, c.new, c.nd, fun k b od' h1 h2 => ?_, fun q tq => let ⟨g1, g2, g3⟩ := c.tab q tq; ⟨tabG_upd g1 fun z => g3 n (by rw [z]; exact e), g2, g3⟩⟩, .refl, .refl, fun b v q h _ => ?_, fun _ _ h => .inl h, fun b q => ?_, fun _ _ h => .inl h⟩
  · rw [upd_ne (ne_of_none q nB)]; exact c.sub _ _ q
  · have ne : b ≠ a := fun z => by
      subst z
      rcases c.new n b e with h | h
      · exact nl (List.mem_of_getElem? h)
      · rw [h] at q; cases q
    rw [upd_ne ne]; exact c.fr b v q nl nt
  · by_cases h : b = a
    · subst h; rw [upd_same] at q; cases q
    · rw [upd_ne h] at q; exact c.dom _ q
  · by_cases hk : k = n
    · subst hk
      rw [e] at h1
      cases h1
      rw [List.getElem?_set_self (List.getElem?_eq_some_iff.mp e0).1] at h2
      cases h2
      exact ⟨o, upd_same, r, fun _ => nB⟩
    · rw [List.getElem?_set_ne (Ne.symm hk)] at h2
      obtain ⟨v, h3, h4, h5⟩ := c.own k b od' h1 h2
      have ne : b ≠ a := fun z => hk (c.nd k n b h1 (z ▸ e))
      exact ⟨v, by rw [upd_ne ne]; exact h3, h4, h5⟩
  · have ne : b ≠ a := fun z => h n (by rw [z]; exact e)
    rw [upd_ne ne]; exact q
  · by_cases h : b = a
    · subst h; rw [upd_same] at q; cases q
    · rw [upd_ne h] at q; exact q
theorem Cf.tabbed (c : Cf K F B m S H) {p : Addr} (tp : F.T p) {H' : Hp} (h : GxR.Tabbed p H H') : Nx K F B m H B m S H' := by
  obtain ⟨g, e⟩ := h
  obtain ⟨t1, t2, t3⟩ := c.tab p tp
  have same : ∀ a : Addr, H' a = none → H a = none := fun a q => by
    by_cases z : a = p
    · subst z
      obtain ⟨ps, h, _⟩ := g
      rw [h] at q; cases q
    · rw [e a z] at q; exact q
  refine ⟨⟨c.b0, fun a o q => ?_, c.bnew, fun a o q nl nt => ?_, fun a q => c.dom a (same a q), c.len, c.pre, c.new, c.nd, fun n a od h1 h2 => ?_, fun q tq => ?_⟩, .refl, .refl, fun a o q _ nt => ?_, fun _ _ h => .inl h, same, fun _ _ h => .inl h⟩
  · rw [e a fun z => by rw [z, t2] at q; cases q]; exact c.sub a o q
  · rw [e a fun z => nt (z ▸ tp)]; exact c.fr a o q nl nt
  · obtain ⟨o, h3, h4⟩ := c.own n a od h1 h2
    exact ⟨o, by rw [e a fun z => t3 n (z ▸ h1)]; exact h3, h4⟩
  · obtain ⟨g1, g2, g3⟩ := c.tab q tq
    refine ⟨?_, g2, g3⟩
    by_cases z : q = p
    · rw [z]; exact g
    · exact tabG_keep g1 fun o w => by rw [e q z]; exact w
  · rw [e a fun z => nt (z ▸ tp)]; exact q
theorem Cf.entry (c : Cf K F B m S H) : Nx K F F.B F.L F.H B m S H :=
  ⟨c, c.b0, c.pre, fun a o q nm nt => c.fr a o q (fun z => by
    obtain ⟨n, hn⟩ := List.getElem?_of_mem z
    exact nm n hn) nt, c.new, c.dom, fun a o q => (c.bnew a o q).imp id .inl⟩
end
end DL
namespace DL
open PySem PySem.Spec PyProof.Rows L2

def onO {α : Type} : Option α → (α → Prop) → Prop
  | some a, k => k a
  | none, _ => False
def onB : W → (Bool → Prop) → Prop
  | .fz (.bl b), k => k b
  | _, _ => False
def ifB (b : Bool) (A B : Prop) : Prop := match b with
  | true => A
  | false => B
theorem onO_ex {α : Type} {o : Option α} {k : α → Prop} (h : onO o k) : ∃ a, o = some a ∧ k a := by
  cases o with
  | none => exact h.elim
  | some a => exact ⟨a, rfl, h⟩
theorem onB_ex {w : W} {k : Bool → Prop} (h : onB w k) : ∃ b, w = .fz (.bl b) ∧ k b := by
  unfold onB at h
  split at h
  · exact ⟨_, rfl, h⟩
  · exact h.elim
theorem ifB_if {b : Bool} {A B : Prop} (h : ifB b A B) : if b = true then A else B := by
  cases b with
  | true => rw [if_pos rfl]; exact h
  | false => rw [if_neg Bool.false_ne_true]; exact h
theorem ifB_of {b : Bool} {A B : Prop} (h1 : b = true → A) (h2 : b = false → B) : ifB b A B := by
  cases b with
  | true => exact h1 rfl
  | false => exact h2 rfl
theorem ifB_d {p A B : Prop} [Decidable p] (h1 : p → A) (h2 : ¬ p → B) : ifB (decide p) A B := ifB_of (fun h => h1 (of_decide_eq_true h)) fun h => h2 (of_decide_eq_false h)
def onV (env : List (Option W)) (i : Nat) (k : W → Prop) : Prop := match env[i]? with
  | some (some w) => k w
  | _ => False
theorem onV_ex {env : List (Option W)} {i : Nat} {k : W → Prop} (h : onV env i k) : ∃ w, env[i]? = some (some w) ∧ k w := by
  unfold onV at h
  split at h
  · exact ⟨_, by assumption, h⟩
  · exact h.elim
abbrev WK := W → Sto → Prop
abbrev DE := En → Sto → WK → Prop
abbrev DA := En → Sto → (List W → Sto → Prop) → Prop
abbrev DT := En → Sto → (Bool → Sto → Prop) → Prop
structure DEnds where
  nx : En → Sto → Prop
  rt : WK
  bk : En → Sto → Prop := fun _ _ => False
  ct : En → Sto → Prop := fun _ _ => False
abbrev DS := DEnds → En → Sto → Prop
abbrev DG := W → En → Sto → (En → Sto → Prop) → Prop
abbrev DGs := List W → En → Sto → (En → Sto → Prop) → Prop

section
variable (K : PySem.W.Frag) (F : Fx)
def ER (B : Hp) (m : List Addr) (env : En) (σ : L2.St) : Prop := env.length = σ.length ∧ ∀ (i : Nat) (w : W), env[i]? = some (some w) → ∃ v, σ[i]? = some (some v) ∧ RW K B m w v
def KW (Kp : WK) (B : Hp) (m : List Addr) (H : Hp) (Q : VK) : Prop := ∀ (w : W) (S' : Sto), Kp w S' → ∀ (v : V) (H' B' : Hp) (m' : List Addr), Nx K F B m H B' m' S' H' → RW K B' m' w v → Q v H'
def lE (dt : DE) : TE := fun σ H Q => ∃ (B : Hp) (m : List Addr) (S : Sto) (env : En) (Kp : WK), Cf K F B m S H ∧ ER K B m env σ ∧ dt env S Kp ∧ KW K F Kp B m H Q
def lA (dt : DA) : TA := fun σ H Q => ∃ (B : Hp) (m : List Addr) (S : Sto) (env : En) (Kp : List W → Sto → Prop), Cf K F B m S H ∧ ER K B m env σ ∧ dt env S Kp ∧
  ∀ (ws : List W) (S' : Sto), Kp ws S' → ∀ (vs : List V) (H' B' : Hp) (m' : List Addr), Nx K F B m H B' m' S' H' → RWL K B' m' ws vs → Q vs H'
def lT (dt : DT) : TT := fun σ H Q => ∃ (B : Hp) (m : List Addr) (S : Sto) (env : En) (Kp : Bool → Sto → Prop), Cf K F B m S H ∧ ER K B m env σ ∧ dt env S Kp ∧
  ∀ (b : Bool) (S' : Sto), Kp b S' → ∀ (H' B' : Hp) (m' : List Addr), Nx K F B m H B' m' S' H' → Q b H'
def KE (Kp : En → Sto → Prop) (B : Hp) (m : List Addr) (H : Hp) (Q : L2.St → Hp → Prop) : Prop := ∀ (env : En) (S' : Sto), Kp env S' → ∀ (σ' : L2.St) (H' B' : Hp) (m' : List Addr), Nx K F B m H B' m' S' H' → ER K B' m' env σ' → Q σ' H'
def lS (ds : DS) : TS := fun D σ H => ∃ (B : Hp) (m : List Addr) (S : Sto) (env : En) (E : DEnds), Cf K F B m S H ∧ ER K B m env σ ∧ ds E env S ∧
  KE K F E.nx B m H D.nx ∧ KW K F E.rt B m H D.rt ∧ KE K F E.bk B m H D.bk ∧ KE K F E.ct B m H D.ct
def lG (dg : DG) : TG := fun v σ H Q => ∃ (B : Hp) (m : List Addr) (S : Sto) (env : En) (w : W) (Kp : En → Sto → Prop), Cf K F B m S H ∧ ER K B m env σ ∧ RW K B m w v ∧ dg w env S Kp ∧ KE K F Kp B m H Q
def lGs (dg : DGs) : TGs := fun vs σ H Q => ∃ (B : Hp) (m : List Addr) (S : Sto) (env : En) (ws : List W) (Kp : En → Sto → Prop), Cf K F B m S H ∧ ER K B m env σ ∧ RWL K B m ws vs ∧ dg ws env S Kp ∧ KE K F Kp B m H Q
abbrev DR2 := W → W → Sto → WK → Prop
abbrev DRL := List W → Sto → WK → Prop
def lR2 (dr : DR2) : R2 := fun x y H Q => ∃ (B : Hp) (m : List Addr) (S : Sto) (wx wy : W) (Kp : WK), Cf K F B m S H ∧ RW K B m wx x ∧ RW K B m wy y ∧ dr wx wy S Kp ∧ KW K F Kp B m H Q
def lRL (dr : DRL) : List V → Hp → VK → Prop := fun xs H Q => ∃ (B : Hp) (m : List Addr) (S : Sto) (ws : List W) (Kp : WK), Cf K F B m S H ∧ RWL K B m ws xs ∧ dr ws S Kp ∧ KW K F Kp B m H Q
end

structure XD where
  cls : Value
  fs : List (Str × D)
inductive RX (K : PySem.W.Frag) (B : Hp) (fs : List (Str × D)) : Option Addr → Prop
  | none : fs = [] → RX K B fs none
  | some {d : Addr} {fvs : List (Str × V)} : B d = some (.xd fvs) → RpF K B fs fvs → RX K B fs (some d)
abbrev XWK := XD → Sto → Prop
structure Xt where
  T : Addr → Prop
  xw : XWK
  lo : Option Nat
abbrev Xt.of (T : Addr → Prop) : Xt := ⟨T, fun _ _ => False, some 1⟩
abbrev Xt.any (T : Addr → Prop) : Xt := ⟨T, fun _ _ => False, none⟩
abbrev Xt.nox (Ξ : Xt) : Xt := ⟨Ξ.T, fun _ _ => False, Ξ.lo⟩
def TakesD (X : Cx) (F : Fx) (xw : XWK) : Prop := ∃ W : WX, Takes X W ∧ ∀ (x : XD) (S' : Sto), xw x S' → ∀ (σ' : L2.St) (H' B' : Hp) (m' : List Addr) (d : Option Addr), Cf X.K F B' m' S' H' → RX X.K B' x.fs d → W x.cls d σ' H'
theorem takes_none {X : Cx} : Takes X (fun _ _ _ _ => False) := fun _ _ ⟨_, _, _, _, _, _, _, _, _, _, _, _, _, _, _, _, z⟩ => z.elim
structure Okf (X : Cx) (Ξ : Xt) (F : Fx) : Prop where
  t : F.T = Ξ.T
  x : TakesD X F Ξ.xw
  l : ∀ n : Nat, Ξ.lo = some n → F.L.length ≤ n
theorem Okf.of {X : Cx} {T : Addr → Prop} {F : Fx} (h : F.T = T) (hl : F.L.length ≤ 1 := by exact Nat.zero_le _) : Okf X (Xt.of T) F := ⟨h, ⟨_, takes_none, fun _ _ z => z.elim⟩, fun n e => by cases e; exact hl⟩
theorem Okf.any {X : Cx} {T : Addr → Prop} {F : Fx} (h : F.T = T) : Okf X (Xt.any T) F := ⟨h, ⟨_, takes_none, fun _ _ z => z.elim⟩, fun n e => by cases e⟩
theorem Okf.nox {X X' : Cx} {Ξ : Xt} {F : Fx} (ok : Okf X Ξ F) : Okf X' Ξ.nox F := ⟨ok.t, ⟨_, takes_none, fun _ _ z => z.elim⟩, ok.l⟩
structure DPE (X : Cx) (Ξ : Xt) (e : Expr) (dt : DE) : Prop where
  run : ∀ F : Fx, Okf X Ξ F → PE X e (lE X.K F dt)
structure DPA (X : Cx) (Ξ : Xt) (es : List Expr) (dt : DA) : Prop where
  run : ∀ F : Fx, Okf X Ξ F → PA X es (lA X.K F dt)
structure DPT (X : Cx) (Ξ : Xt) (e : Expr) (dt : DT) : Prop where
  run : ∀ F : Fx, Okf X Ξ F → PT X e (lT X.K F dt)
structure DPW (X : Cx) (Ξ : Xt) (e : Expr) (dt : DT) : Prop where
  run : ∀ F : Fx, Okf X Ξ F → PW X e (lT X.K F dt)
structure DPS (X : Cx) (Ξ : Xt) (st : Stmt) (ds : DS) : Prop where
  run : ∀ F : Fx, Okf X Ξ F → PS X st (lS X.K F ds)
structure DPSs (X : Cx) (Ξ : Xt) (st : List Stmt) (ds : DS) : Prop where
  run : ∀ F : Fx, Okf X Ξ F → PSs X st (lS X.K F ds)
structure DPG (X : Cx) (Ξ : Xt) (tg : Expr) (dg : DG) : Prop where
  run : ∀ F : Fx, Okf X Ξ F → PG X tg (lG X.K F dg)
structure DPGs (X : Cx) (Ξ : Xt) (tg : List Expr) (dg : DGs) : Prop where
  run : ∀ F : Fx, Okf X Ξ F → PGs X tg (lGs X.K F dg)
def OpD (X : Cx) (f : Value → Value → Sem Value) (dr : DR2) : Prop := ∀ F : Fx, OpR X f (lR2 X.K F dr)
def CallD (X : Cx) (f : Value) (dr : DRL) : Prop := ∀ F : Fx, CallR X f (lRL X.K F dr)
def IxD (X : Cx) (dr : DR2) : Prop := ∀ F : Fx, IxR X (lR2 X.K F dr)

theorem PE.imp {X : Cx} {e : Expr} {t t' : TE} (h : PE X e t) (g : ∀ σ H Q, t' σ H Q → t σ H Q) : PE X e t' := ⟨fun pins s σ H Q I q => h.run pins s σ H Q I (g _ _ _ q)⟩
theorem PA.imp {X : Cx} {e : List Expr} {t t' : TA} (h : PA X e t) (g : ∀ σ H Q, t' σ H Q → t σ H Q) : PA X e t' := ⟨fun p pins s σ H Q I q => h.run p pins s σ H Q I (g _ _ _ q)⟩
theorem PT.imp {X : Cx} {e : Expr} {t t' : TT} (h : PT X e t) (g : ∀ σ H Q, t' σ H Q → t σ H Q) : PT X e t' := ⟨fun pins s σ H Q I q => h.run pins s σ H Q I (g _ _ _ q)⟩
theorem PW.imp {X : Cx} {e : Expr} {t t' : TT} (h : PW X e t) (g : ∀ σ H Q, t' σ H Q → t σ H Q) : PW X e t' := ⟨fun w pins s σ H Q I q => h.run w pins s σ H Q I (g _ _ _ q)⟩
theorem PS.imp {X : Cx} {e : Stmt} {t t' : TS} (h : PS X e t) (g : ∀ D σ H, t' D σ H → t D σ H) : PS X e t' := ⟨fun pins s σ H D I q => h.run pins s σ H D I (g _ _ _ q)⟩
theorem PSs.imp {X : Cx} {e : List Stmt} {t t' : TS} (h : PSs X e t) (g : ∀ D σ H, t' D σ H → t D σ H) : PSs X e t' := ⟨fun pins s σ H D I q => h.run pins s σ H D I (g _ _ _ q)⟩
theorem PG.imp {X : Cx} {e : Expr} {t t' : TG} (h : PG X e t) (g : ∀ v σ H Q, t' v σ H Q → t v σ H Q) : PG X e t' := ⟨fun pins s σ H v u Q I r q => h.run pins s σ H v u Q I r (g _ _ _ _ q)⟩
theorem PGs.imp {X : Cx} {e : List Expr} {t t' : TGs} (h : PGs X e t) (g : ∀ v σ H Q, t' v σ H Q → t v σ H Q) : PGs X e t' := ⟨fun pins s σ H v u Q I r q => h.run pins s σ H v u Q I r (g _ _ _ _ q)⟩
theorem OpR.imp {X : Cx} {f : Value → Value → Sem Value} {r r' : R2} (h : OpR X f r) (g : ∀ x y H Q, r' x y H Q → r x y H Q) : OpR X f r' := fun pins s σ H x y v u Q I rx ry q => h pins s σ H x y v u Q I rx ry (g _ _ _ _ q)
theorem CallR.imp {X : Cx} {f : Value} {r r' : List V → Hp → VK → Prop} (h : CallR X f r) (g : ∀ xs H Q, r' xs H Q → r xs H Q) : CallR X f r' := fun pins s σ H xs us Q I rx q => h pins s σ H xs us Q I rx (g _ _ _ q)
theorem MtR.imp {X : Cx} {id : String} {r r' : V → List V → Hp → VK → Prop} (h : MtR X id r) (g : ∀ x xs H Q, r' x xs H Q → r x xs H Q) : MtR X id r' := fun pins s σ H x xs v us Q I rx rs q => h pins s σ H x xs v us Q I rx rs (g _ _ _ _ q)
theorem IxR.imp {X : Cx} {r r' : R2} (h : IxR X r) (g : ∀ x y H Q, r' x y H Q → r x y H Q) : IxR X r' := fun a b pins s σ H x y v u Q I rx ry q hs => h a b pins s σ H x y v u Q I rx ry (g _ _ _ _ q) hs

section
variable {K : PySem.W.Frag} {F : Fx} {B B' : Hp} {m m' : List Addr} {S S' : Sto} {H H' : Hp} {env : En} {σ : L2.St}
theorem ER.mono (e : ER K B m env σ) (h : Sub B B') (p : Pre m m') : ER K B' m' env σ := ⟨e.1, fun i w q => let ⟨v, a, b⟩ := e.2 i w q; ⟨v, a, b.mono h p⟩⟩
theorem ER.nx (e : ER K B m env σ) (n : Nx K F B m H B' m' S' H') : ER K B' m' env σ := e.mono n.sb n.pr
theorem ER.set {w : W} {v : V} (e : ER K B m env σ) (i : Nat) (r : RW K B m w v) : ER K B m (env.set i (some w)) (σ.set i (some v)) := by
  refine ⟨by simp [e.1], fun j u q => ?_⟩
  by_cases h : j = i
  · subst h
    have hl := (List.getElem?_eq_some_iff.mp q).1
    rw [List.length_set] at hl
    rw [List.getElem?_set_self hl] at q
    cases q
    exact ⟨v, List.getElem?_set_self (by rw [← e.1]; exact hl), r⟩
  · rw [List.getElem?_set_ne (Ne.symm h)] at q ⊢
    exact e.2 j u q
theorem RW.nx {w : W} {v : V} (r : RW K B m w v) (n : Nx K F B m H B' m' S' H') : RW K B' m' w v := r.mono n.sb n.pr
theorem RWL.nx {w : List W} {v : List V} (r : RWL K B m w v) (n : Nx K F B m H B' m' S' H') : RWL K B' m' w v := r.mono n.sb n.pr
theorem KW.nx {Kp : WK} {Q : VK} (k : KW K F Kp B m H Q) (n : Nx K F B m H B' m' S' H') : KW K F Kp B' m' H' Q := fun w S2 h v H2 B2 m2 n2 r => k w S2 h v H2 B2 m2 (n.trans n2) r
theorem KE.nx {Kp : En → Sto → Prop} {Q : L2.St → Hp → Prop} (k : KE K F Kp B m H Q) (n : Nx K F B m H B' m' S' H') : KE K F Kp B' m' H' Q := fun w S2 h v H2 B2 m2 n2 r => k w S2 h v H2 B2 m2 (n.trans n2) r
end

section
variable {X : Cx} {Ξ : Xt} {a b c e : Expr} {es : List Expr} {da db dc de : DE} {das : DA} {pos : Pos}
def dVar (i : Nat) : DE := fun env S Kp => onV env i fun w => Kp w S
def dC (d : D) : DE := fun _ S Kp => Kp (.fz d) S
theorem dpe_of_tVar {i : Nat} (h : PE X e (tVar i)) : DPE X Ξ e (dVar i) := ⟨fun F ok => PE.imp h fun σ H Q ⟨B, m, S, env, Kp, cf, er, h, k⟩ => by
  obtain ⟨w, h1, h2⟩ := onV_ex h
  obtain ⟨v, hv, r⟩ := er.2 i w h1
  exact ⟨v, hv, k w S h2 v H B m cf.nx r⟩⟩
theorem dpe_of_tC {d : D} {v : V} (h : PE X e (tC v)) (r : ∀ K B, Rp K B d v) : DPE X Ξ e (dC d) := ⟨fun F ok => PE.imp h fun σ H Q ⟨B, m, S, env, Kp, cf, er, h2, k⟩ =>
  k _ S h2 v H B m cf.nx (.fz (r _ _))⟩
theorem dpv (i : Nat) {x : Str} {pos : Pos} (hN : X.N[i]? = some x := by rfl) (hv : Vis X.env.scope x := by first | exact Or.inl rfl | exact Or.inr (Or.inl rfl) | exact Or.inr (Or.inr rfl)) (hd : (x == ("__debug__" : Str)) = false := by decide)
    (hcd : (x == ("__classdict__" : Str)) = false := by decide) : DPE X Ξ (.Name x pos) (dVar i) := dpe_of_tVar (pe_var hN hv hd hcd)
theorem dpe_int {i : Int} {j : Nat} : DPE X Ξ (.Constant (.int i) j pos) (dC (.int i)) := dpe_of_tC pe_int fun _ _ => .int
theorem dpe_bl {i : Bool} {j : Nat} : DPE X Ξ (.Constant (.bool i) j pos) (dC (.bl i)) := dpe_of_tC pe_bl fun _ _ => .bl
theorem dpe_non {j : Nat} : DPE X Ξ (.Constant .none j pos) (dC .non) := dpe_of_tC pe_non fun _ _ => .non
theorem dpe_str {x : Str} {j : Nat} : DPE X Ξ (.Constant (.str x) j pos) (dC (.str x)) := dpe_of_tC pe_str fun _ _ => .str

def dOp (dr : DR2) (da db : DE) : DE := fun env S Kp => da env S fun x S1 => db env S1 fun y S2 => dr x y S2 Kp
theorem imp_op {K : PySem.W.Frag} {F : Fx} {dr : DR2} {da db : DE} (σ : L2.St) (H : Hp) (Q : VK) (h : lE K F (dOp dr da db) σ H Q) : tOp (lR2 K F dr) (lE K F da) (lE K F db) σ H Q := by
  obtain ⟨B, m, S, env, Kp, cf, er, h, k⟩ := h
  refine ⟨B, m, S, env, _, cf, er, h, fun x S1 h1 vx H1 B1 m1 n1 rx => ?_⟩
  refine ⟨B1, m1, S1, env, _, n1.cf, er.nx n1, h1, fun y S2 h2 vy H2 B2 m2 n2 ry => ?_⟩
  exact ⟨B2, m2, S2, x, y, Kp, n2.cf, rx.nx n2, ry, h2, k.nx (n1.trans n2)⟩
theorem dpe_op {op : Operator} {dr : DR2} (ho : OpD X (binaryOp op) dr) (ha : DPE X Ξ a da) (hb : DPE X Ξ b db) : DPE X Ξ (.BinOp a op b pos) (dOp dr da db) := ⟨fun F ok => PE.imp (pe_op (ho F) (ha.run F ok) (hb.run F ok)) imp_op⟩
theorem dpe_cmp {op : CmpOp} {dr : DR2} (ho : OpD X (compareOp op) dr) (ha : DPE X Ξ a da) (hb : DPE X Ξ b db) (hm : behindInMarks op b = false) : DPE X Ξ (.Compare a [op] [b] pos) (dOp dr da db) := ⟨fun F ok => PE.imp (pe_cmpR (ho F) (ha.run F ok) (hb.run F ok) hm) imp_op⟩
theorem dpe_ix {dr : DR2} (hr : IxD X dr) (ha : DPE X Ξ a da) (hb : DPE X Ξ b db) (hs : PlainIx b) : DPE X Ξ (.Subscript a b pos) (dOp dr da db) := ⟨fun F ok => PE.imp (pe_ix (hr F) (ha.run F ok) (hb.run F ok) hs) imp_op⟩

def dTst (de : DE) : DT := fun env S Kp => de env S fun w S1 => onB w fun b => Kp b S1
theorem RW.bl_of {K : PySem.W.Frag} {B : Hp} {m : List Addr} {k : Bool} {v : V} (r : RW K B m (.fz (.bl k)) v) : v = .bl k := by
  cases r with
  | fz r => cases r; rfl
theorem RW.int_of {K : PySem.W.Frag} {B : Hp} {m : List Addr} {k : Int} {v : V} (r : RW K B m (.fz (.int k)) v) : v = .int k := by
  cases r with
  | fz r => cases r; rfl
theorem RW.str_of {K : PySem.W.Frag} {B : Hp} {m : List Addr} {k : Str} {v : V} (r : RW K B m (.fz (.str k)) v) : v = .str k := by
  cases r with
  | fz r => cases r; rfl
theorem dpt_cmp {op : CmpOp} {dr : DR2} (ho : OpD X (compareOp op) dr) (ha : DPE X Ξ a da) (hb : DPE X Ξ b db) (hm : behindInMarks op b = false) : DPT X Ξ (.Compare a [op] [b] pos) (dTst (dOp dr da db)) := ⟨fun F ok => PT.imp (pt_cmpR (ho F) (ha.run F ok) (hb.run F ok) hm) fun σ H Q ⟨B, m, S, env, Kp, cf, er, h, k⟩ => by
  refine imp_op σ H _ ⟨B, m, S, env, _, cf, er, h, fun w S1 h0 v H1 B1 m1 n1 r => ?_⟩
  obtain ⟨b, e1, h1⟩ := onB_ex h0
  subst e1
  exact ⟨b, r.bl_of, k b S1 h1 H1 B1 m1 n1⟩⟩
def dChain (r r' : DR2) (da db dc : DE) : DE := fun env S Kp => da env S fun x S1 => db env S1 fun y S2 => r x y S2 fun z S3 => onB z fun k => ifB k (dc env S3 fun w S4 => r' y w S4 Kp) (Kp (.fz (.bl false)) S3)
end
end DL
namespace DL
open PySem PySem.Spec PyProof.Rows L2

def fzL : List W → Option (List D)
  | [] => some []
  | .fz d :: r => (fzL r).map (d :: ·)
  | .hd _ :: _ => none
  | .tp _ :: _ => none
  | .xo _ _ _ :: _ => none
theorem fzL_map (ds : List D) : fzL (ds.map W.fz) = some ds := by
  induction ds with
  | nil => rfl
  | cons d ds ih => show (fzL (ds.map W.fz)).map (d :: ·) = _; rw [ih]; rfl
theorem fzL_eq : ∀ {ws : List W} {ds : List D}, fzL ws = some ds → ws = ds.map W.fz
  | [], ds, h => by cases h; rfl
  | .fz d :: r, ds, h => by
    unfold fzL at h
    cases e : fzL r with
    | none => rw [e] at h; cases h
    | some ds' =>
      rw [e] at h
      cases h
      rw [List.map_cons, ← fzL_eq e]
  | .hd _ :: _, _, h => by cases h
  | .tp _ :: _, _, h => by cases h
  | .xo _ _ _ :: _, _, h => by cases h
def mkT (ws : List W) : W := match fzL ws with
  | some ds => .fz (.tup ds)
  | none => .tp ws
theorem mkT_fz (ds : List D) : mkT (ds.map W.fz) = .fz (.tup ds) := by unfold mkT; rw [fzL_map]
def vT : W → Option (List W)
  | .fz (.tup ds) => some (ds.map .fz)
  | .tp ws => some ws
  | _ => none
def vL (S : Sto) : W → Option (List W)
  | .fz (.lst ds) => some (ds.map .fz)
  | .hd n => match S[n]? with
    | some (.lst ws) => some ws
    | _ => none
  | _ => none
def vS (S : Sto) (w : W) : Option (List W) := match vT w with
  | some ws => some ws
  | none => vL S w
def truW (S : Sto) : W → Option Bool
  | .fz .non => some false
  | .fz (.bl b) => some b
  | .fz (.int i) => some (i != 0)
  | .fz (.str y) => if y.length ≤ sizeLine then some ((y.length : Int) != 0) else none
  | .fz (.tup ds) => some (!ds.isEmpty)
  | .fz (.lst ds) => some (!ds.isEmpty)
  | .fz (.obj _ _) => none
  | .fz (.scr _) => none
  | .fz (.ty _) => none
  | .tp ws => some (!ws.isEmpty)
  | .xo _ _ _ => none
  | .hd n => match S[n]? with
    | some (.lst ws) => some (!ws.isEmpty)
    | some (.dic ws) => some (!ws.isEmpty)
    | _ => none
section
variable {K : PySem.W.Frag} {F : Fx} {B B' : Hp} {m m' : List Addr} {S S' : Sto} {H H' : Hp} {env : En} {σ : L2.St}
theorem mkT_ok {ws : List W} {vs : List V} {p : Addr} (r : RWL K B m ws vs) (h : SqT K B p vs) : RW K B m (mkT ws) (.ref p) := by
  unfold mkT
  split
  · rename_i ds e
    rw [fzL_eq e] at r
    exact .fz (.tup h r.fz)
  · exact .tp h r
theorem vT_ok {w : W} {x : V} {ws : List W} (r : RW K B m w x) (h : vT w = some ws) : ∃ a vs, x = .ref a ∧ SqT K B a vs ∧ RWL K B m ws vs := by
  unfold vT at h
  split at h
  · cases h
    cases r with
    | fz r => cases r with
      | tup s t => exact ⟨_, _, rfl, s, t.fz⟩
  · cases h
    cases r with
    | tp s t => exact ⟨_, _, rfl, s, t⟩
  · cases h
theorem vL_ok (c : Cf K F B m S H) {w : W} {x : V} {ws : List W} (r : RW K B m w x) (h : vL S w = some ws) : ∃ a vs, x = .ref a ∧ H a = some (.lst vs) ∧ RWL K B m ws vs := by
  unfold vL at h
  split at h
  · cases h
    cases r with
    | fz r => cases r with
      | lst s t => exact ⟨_, _, rfl, c.sub _ _ s, t.fz⟩
  · rename_i n
    cases r with
    | hd e =>
      split at h
      · rename_i ws' e2
        cases h
        obtain ⟨o, h1, ⟨vs, h2, h3⟩, _⟩ := c.own _ _ _ e e2
        subst h2
        exact ⟨_, _, rfl, h1, h3⟩
      · cases h
  · cases h
theorem vS_ok (c : Cf K F B m S H) {w : W} {x : V} {ws : List W} (r : RW K B m w x) (h : vS S w = some ws) : ∃ a vs, x = .ref a ∧ (SqL K H a vs ∨ SqT K H a vs) ∧ RWL K B m ws vs := by
  unfold vS at h
  split at h
  · rename_i ws' e
    cases h
    obtain ⟨a, vs, h1, h2, h3⟩ := vT_ok r e
    exact ⟨a, vs, h1, .inr (c.sub.seqT h2), h3⟩
  · obtain ⟨a, vs, h1, h2, h3⟩ := vL_ok c r h
    exact ⟨a, vs, h1, .inl (.of h2), h3⟩
theorem Cf.lst (c : Cf K F B m S H) {n : Nat} {ws : List W} {x : V} (r : RW K B m (.hd n) x) (h : S[n]? = some (.lst ws)) : ∃ a vs, x = .ref a ∧ m[n]? = some a ∧ H a = some (.lst vs) ∧ RWL K B m ws vs := by
  cases r with
  | hd e =>
    obtain ⟨o, h1, ⟨vs, h2, h3⟩, _⟩ := c.own _ _ _ e h
    subst h2
    exact ⟨_, _, rfl, e, h1, h3⟩
theorem truW_ok (c : Cf K F B m S H) {w : W} {x : V} {k : Bool} (r : RW K B m w x) (h : truW S w = some k) : TruV K x H k := by
  unfold truW at h
  split at h
  · cases h; cases r with | fz r => cases r; rfl
  · cases h; cases r with | fz r => cases r; rfl
  · cases h; cases r with | fz r => cases r; rfl
  · split at h
    · cases h; cases r with | fz r => cases r; exact ⟨by assumption, rfl⟩
    · cases h
  · cases h
    cases r with | fz r => cases r with | tup s t =>
      refine .inr (.inl ⟨_, c.sub.seqT s, ?_⟩)
      have e := t.length
      rename_i ds _ vs
      cases ds <;> cases vs <;> first | rfl | (simp at e)
  · cases h
    cases r with | fz r => cases r with | lst s t =>
      refine .inl ⟨_, .of (c.sub _ _ s), ?_⟩
      have e := t.length
      rename_i ds _ vs
      cases ds <;> cases vs <;> first | rfl | (simp at e)
  · cases h
  · cases h
  · cases h
  · cases h
    cases r with | tp s t =>
      refine .inr (.inl ⟨_, c.sub.seqT s, ?_⟩)
      have e := t.length
      rename_i ds _ vs
      cases ds <;> cases vs <;> first | rfl | (simp at e)
  · cases h
  · split at h
    · rename_i ws e
      cases h
      obtain ⟨a, vs, e1, _, h1, h2⟩ := c.lst r e
      subst e1
      refine .inl ⟨_, .of h1, ?_⟩
      have e := h2.length
      cases ws <;> cases vs <;> first | rfl | (simp at e)
    · rename_i ws e
      cases h
      cases r with
      | hd e1 =>
        obtain ⟨o, h1, ⟨vs, h2, h3⟩, _⟩ := c.own _ _ _ e1 e
        subst h2
        refine .inr (.inr ⟨_, h1, ?_⟩)
        have e := Paired.length h3
        cases ws <;> cases vs <;> first | rfl | (simp at e)
    · cases h
end

section
variable {X : Cx} {Ξ : Xt} {a b c e : Expr} {es rest : List Expr} {da db dc de : DE} {ta tb tc : DT} {das : DA} {pos : Pos}
theorem imp_chain {K : PySem.W.Frag} {F : Fx} {r r' : DR2} {da db dc : DE} (σ : L2.St) (H : Hp) (Q : VK) (h : lE K F (dChain r r' da db dc) σ H Q) : tChain (lR2 K F r) (lR2 K F r') (lE K F da) (lE K F db) (lE K F dc) σ H Q := by
  obtain ⟨B, m, S, env, Kp, cf, er, h, k⟩ := h
  refine ⟨B, m, S, env, _, cf, er, h, fun x S1 h1 vx H1 B1 m1 n1 rx => ?_⟩
  refine ⟨B1, m1, S1, env, _, n1.cf, er.nx n1, h1, fun y S2 h2 vy H2 B2 m2 n2 ry => ?_⟩
  refine ⟨B2, m2, S2, x, y, _, n2.cf, rx.nx n2, ry, h2, fun z S3 h0 vz H3 B3 m3 n3 rz => ?_⟩
  obtain ⟨q, e3, h3⟩ := onB_ex h0
  subst e3
  replace h3 := ifB_if h3
  refine ⟨q, rz.bl_of, ?_⟩
  cases q with
  | false =>
    rw [if_neg Bool.false_ne_true] at h3 ⊢
    exact k _ _ h3 _ _ _ _ (n1.trans (n2.trans n3)) (.fz .bl)
  | true =>
    rw [if_pos rfl] at h3 ⊢
    refine ⟨B3, m3, S3, env, _, n3.cf, er.nx (n1.trans (n2.trans n3)), h3, fun w S4 h4 vw H4 B4 m4 n4 rw' => ?_⟩
    exact ⟨B4, m4, S4, y, w, Kp, n4.cf, (ry.nx n3).nx n4, rw', h4, k.nx (n1.trans (n2.trans (n3.trans n4)))⟩
theorem dpe_chain {op op' : CmpOp} {r r' : DR2} (ho : OpD X (compareOp op) r) (ho' : OpD X (compareOp op') r') (ha : DPE X Ξ a da) (hb : DPE X Ξ b db) (hc : DPE X Ξ c dc)
    (hm : lastMarks [op, op'] [b, c] = false := by with_unfolding_all rfl) : DPE X Ξ (.Compare a [op, op'] [b, c] pos) (dChain r r' da db dc) := ⟨fun F ok => PE.imp (pe_chain (ho F) (ho' F) (ha.run F ok) (hb.run F ok) (hc.run F ok) hm) imp_chain⟩
theorem imp_tst {K : PySem.W.Frag} {F : Fx} {de : DE} {te : TE} (g : ∀ σ H Q, lE K F de σ H Q → te σ H Q) (σ : L2.St) (H : Hp) (Q : Bool → Hp → Prop) (h : lT K F (dTst de) σ H Q) : tTest te σ H Q := by
  obtain ⟨B, m, S, env, Kp, cf, er, h, k⟩ := h
  refine g σ H _ ⟨B, m, S, env, _, cf, er, h, fun w S1 h0 v H1 B1 m1 n1 r => ?_⟩
  obtain ⟨b, e1, h1⟩ := onB_ex h0
  subst e1
  exact ⟨b, r.bl_of, k b S1 h1 H1 B1 m1 n1⟩
theorem dpt_chain {op op' : CmpOp} {r r' : DR2} (ho : OpD X (compareOp op) r) (ho' : OpD X (compareOp op') r') (ha : DPE X Ξ a da) (hb : DPE X Ξ b db) (hc : DPE X Ξ c dc)
    (hm : lastMarks [op, op'] [b, c] = false := by with_unfolding_all rfl) : DPT X Ξ (.Compare a [op, op'] [b, c] pos) (dTst (dChain r r' da db dc)) := ⟨fun F ok => PT.imp (pt_chain (ho F) (ho' F) (ha.run F ok) (hb.run F ok) (hc.run F ok) hm) (imp_tst imp_chain)⟩
def dTru (de : DE) : DT := fun env S Kp => de env S fun w S1 => onO (truW S1 w) fun k => Kp k S1
theorem dpt_tru (ha : DPE X Ξ a da) (he : ∀ whole, isTrue a X.env whole = (do let v ← whole; standAt a.pos; holding [v] (truthy v)) := by intro _; rfl) : DPT X Ξ a (dTru da) := ⟨fun F ok => PT.imp (pt_truth (ha.run F ok) he) fun σ H Q ⟨B, m, S, env, Kp, cf, er, h, k⟩ => by
  refine ⟨B, m, S, env, _, cf, er, h, fun w S1 h0 v H1 B1 m1 n1 r => ?_⟩
  obtain ⟨b, e1, h1⟩ := onO_ex h0
  exact ⟨b, truW_ok n1.cf r e1, k b S1 h1 H1 B1 m1 n1⟩⟩
def dAnd (t u : DT) : DT := fun env S Kp => t env S fun c S1 => ifB c (u env S1 Kp) (Kp false S1)
def dOr (t u : DT) : DT := fun env S Kp => t env S fun c S1 => ifB c (Kp true S1) (u env S1 Kp)
def dNot (t : DT) : DT := fun env S Kp => t env S fun c S1 => Kp (!c) S1
theorem DPW.pt (h : DPW X Ξ e ta) : DPT X Ξ e ta := ⟨fun F ok => (h.run F ok).pt⟩
theorem dpw_and1 (ha : DPT X Ξ a ta) : DPW X Ξ (.BoolOp .And [a] pos) ta := ⟨fun F ok => pw_and1 (ha.run F ok)⟩
theorem dpw_or1 (ha : DPT X Ξ a ta) : DPW X Ξ (.BoolOp .Or [a] pos) ta := ⟨fun F ok => pw_or1 (ha.run F ok)⟩
theorem dpw_and (ha : DPT X Ξ a ta) (hb : DPW X Ξ (.BoolOp .And (b :: rest) pos) tb) : DPW X Ξ (.BoolOp .And (a :: b :: rest) pos) (dAnd ta tb) := ⟨fun F ok => PW.imp (pw_and (ha.run F ok) (hb.run F ok)) fun σ H Q ⟨B, m, S, env, Kp, cf, er, h, k⟩ => by
  refine ⟨B, m, S, env, _, cf, er, h, fun c S1 h1 H1 B1 m1 n1 => ?_⟩
  cases c with
  | false => replace h1 := ifB_if h1; rw [if_neg Bool.false_ne_true] at h1 ⊢; exact k _ _ h1 _ _ _ n1
  | true =>
    replace h1 := ifB_if h1
    rw [if_pos rfl] at h1 ⊢
    exact ⟨B1, m1, S1, env, Kp, n1.cf, er.nx n1, h1, fun c S2 h2 H2 B2 m2 n2 => k c S2 h2 H2 B2 m2 (n1.trans n2)⟩⟩
theorem dpw_or (ha : DPT X Ξ a ta) (hb : DPW X Ξ (.BoolOp .Or (b :: rest) pos) tb) : DPW X Ξ (.BoolOp .Or (a :: b :: rest) pos) (dOr ta tb) := ⟨fun F ok => PW.imp (pw_or (ha.run F ok) (hb.run F ok)) fun σ H Q ⟨B, m, S, env, Kp, cf, er, h, k⟩ => by
  refine ⟨B, m, S, env, _, cf, er, h, fun c S1 h1 H1 B1 m1 n1 => ?_⟩
  cases c with
  | true => replace h1 := ifB_if h1; rw [if_pos rfl] at h1 ⊢; exact k _ _ h1 _ _ _ n1
  | false =>
    replace h1 := ifB_if h1
    rw [if_neg Bool.false_ne_true] at h1 ⊢
    exact ⟨B1, m1, S1, env, Kp, n1.cf, er.nx n1, h1, fun c S2 h2 H2 B2 m2 n2 => k c S2 h2 H2 B2 m2 (n1.trans n2)⟩⟩
theorem dpt_not (ha : DPT X Ξ a ta) : DPT X Ξ (.UnaryOp .Not a pos) (dNot ta) := ⟨fun F ok => PT.imp (pt_not (ha.run F ok)) fun σ H Q ⟨B, m, S, env, Kp, cf, er, h, k⟩ =>
  ⟨B, m, S, env, _, cf, er, h, fun c S1 h1 H1 B1 m1 n1 => k _ _ h1 _ _ _ n1⟩⟩
def dAndV (ta tb : DE) : DE := fun env S Kp => ta env S fun x S1 => onB x fun c => ifB c (tb env S1 Kp) (Kp (.fz (.bl false)) S1)
theorem dpe_one {op : BoolOp} (h : DPE X Ξ a da) : DPE X Ξ (.BoolOp op [a] pos) da := ⟨fun F ok => pe_one (h.run F ok)⟩
theorem dpe_and (ha : DPE X Ξ a da) (hb : DPE X Ξ (.BoolOp .And (b :: rest) pos) db) : DPE X Ξ (.BoolOp .And (a :: b :: rest) pos) (dAndV da db) := ⟨fun F ok => PE.imp (pe_and (ha.run F ok) (hb.run F ok)) fun σ H Q ⟨B, m, S, env, Kp, cf, er, h, k⟩ => by
  refine ⟨B, m, S, env, _, cf, er, h, fun x S1 h0 v H1 B1 m1 n1 r => ?_⟩
  obtain ⟨c, e1, h1⟩ := onB_ex h0
  subst e1
  refine ⟨c, r.bl_of, ?_⟩
  cases c with
  | false => replace h1 := ifB_if h1; rw [if_neg Bool.false_ne_true] at h1 ⊢; exact k _ _ h1 _ _ _ _ n1 (.fz .bl)
  | true =>
    replace h1 := ifB_if h1
    rw [if_pos rfl] at h1 ⊢
    exact ⟨B1, m1, S1, env, Kp, n1.cf, er.nx n1, h1, k.nx n1⟩⟩
def dIf (t : DT) (ta tb : DE) : DE := fun env S Kp => t env S fun c S1 => ifB c (ta env S1 Kp) (tb env S1 Kp)
theorem dpe_if (hc : DPT X Ξ c tc) (ha : DPE X Ξ a da) (hb : DPE X Ξ b db) : DPE X Ξ (.IfExp c a b pos) (dIf tc da db) := ⟨fun F ok => PE.imp (pe_ifExp (hc.run F ok) (ha.run F ok) (hb.run F ok)) fun σ H Q ⟨B, m, S, env, Kp, cf, er, h, k⟩ => by
  refine ⟨B, m, S, env, _, cf, er, h, fun c S1 h1 H1 B1 m1 n1 => ?_⟩
  cases c with
  | true => replace h1 := ifB_if h1; rw [if_pos rfl] at h1 ⊢; exact ⟨B1, m1, S1, env, Kp, n1.cf, er.nx n1, h1, k.nx n1⟩
  | false => replace h1 := ifB_if h1; rw [if_neg Bool.false_ne_true] at h1 ⊢; exact ⟨B1, m1, S1, env, Kp, n1.cf, er.nx n1, h1, k.nx n1⟩⟩

def dNil : DA := fun _ S Kp => Kp [] S
def dCons (ta : DE) (tr : DA) : DA := fun env S Kp => ta env S fun x S1 => tr env S1 fun xs S2 => Kp (x :: xs) S2
theorem dpa_nil : DPA X Ξ [] dNil := ⟨fun F ok => PA.imp pa_nil fun σ H Q ⟨B, m, S, env, Kp, cf, er, h, k⟩ => k _ _ h _ _ _ _ cf.nx .nil⟩
theorem dpa_cons (ha : DPE X Ξ e de) (hr : DPA X Ξ es das) (hs : starEach (e :: es) X.env = (false, eval e X.env) :: starEach es X.env := by rfl) : DPA X Ξ (e :: es) (dCons de das) := ⟨fun F ok => PA.imp (pa_cons (ha.run F ok) (hr.run F ok) hs) fun σ H Q ⟨B, m, S, env, Kp, cf, er, h, k⟩ =>
  ⟨B, m, S, env, _, cf, er, h, fun x S1 h1 v H1 B1 m1 n1 r => ⟨B1, m1, S1, env, _, n1.cf, er.nx n1, h1, fun xs S2 h2 vs H2 B2 m2 n2 r2 => k _ _ h2 _ _ _ _ (n1.trans n2) (.cons (r.nx n2) r2)⟩⟩⟩
def dTup (t : DA) : DE := fun env S Kp => t env S fun ws S1 => ws.length ≤ sizeLine ∧ Kp (mkT ws) S1
theorem dpe_tup {x1 : Nat} (h : DPA X Ξ es das) : DPE X Ξ (.Tuple es x1 pos) (dTup das) := ⟨fun F ok => PE.imp (pe_tup (h.run F ok)) fun σ H Q ⟨B, m, S, env, Kp, cf, er, h, k⟩ =>
  ⟨B, m, S, env, _, cf, er, h, fun ws S1 ⟨hz, h1⟩ vs H1 B1 m1 n1 r => ⟨by rw [← r.length]; exact hz, fun p hp => by
    have n2 := n1.cf.alloc (o := .tup vs) hp
    exact k _ _ h1 _ _ _ _ (n1.trans n2) (mkT_ok (r.nx n2) (.of upd_same))⟩⟩⟩
def newL (own : Bool) (ws : List W) (S : Sto) (Kp : WK) : Prop := match own with
  | true => Kp (.hd S.length) (S ++ [.lst ws])
  | false => onO (fzL ws) fun ds => Kp (.fz (.lst ds)) S
theorem newL_ok {K : PySem.W.Frag} {F : Fx} {B : Hp} {m : List Addr} {S : Sto} {H : Hp} {own : Bool} {ws : List W} {vs : List V} {Kp : WK} {Q : VK} {p : Addr} (cf : Cf K F B m S H) (r : RWL K B m ws vs) (h : newL own ws S Kp) (k : KW K F Kp B m H Q) (hp : H p = none) :
    Q (.ref p) (upd H p (.lst vs)) := by
  unfold newL at h
  split at h
  · have n2 := cf.allocO (od := .lst ws) (o := .lst vs) hp ⟨vs, rfl, r⟩
    refine k _ _ h _ _ _ _ n2 (.hd ?_)
    rw [← cf.len, List.getElem?_append_right (Nat.le_refl _), Nat.sub_self]
    rfl
  · obtain ⟨ds, e, h⟩ := onO_ex h
    have n2 := cf.alloc (o := .lst vs) hp
    have r2 := r.nx n2
    rw [fzL_eq e] at r2
    exact k _ _ h _ _ _ _ n2 (.fz (.lst upd_same r2.fz))
def dLst (own : Bool) (t : DA) : DE := fun env S Kp => t env S fun ws S1 => ws.length ≤ sizeLine ∧ newL own ws S1 Kp
theorem dpe_lst (own : Bool) (h : DPA X Ξ es das) : DPE X Ξ (.List es pos) (dLst own das) := ⟨fun F ok => PE.imp (pe_lst (h.run F ok)) fun σ H Q ⟨B, m, S, env, Kp, cf, er, h, k⟩ =>
  ⟨B, m, S, env, _, cf, er, h, fun ws S1 ⟨hz, h1⟩ vs H1 B1 m1 n1 r => ⟨by rw [← r.length]; exact hz, fun p hp => newL_ok n1.cf r h1 (k.nx n1) hp⟩⟩⟩
end

section
variable {X : Cx} {Ξ : Xt} {st : Stmt} {rest : List Stmt} {t u : DS} {e c : Expr} {de : DE} {pos : Pos} {a b : List Stmt} {tc : DT}
def dNext : DS := fun D env S => D.nx env S
def dSeq (t u : DS) : DS := fun D env S => t { D with nx := u D } env S
theorem dpss_nil : DPSs X Ξ [] dNext := ⟨fun F ok => PSs.imp pss_nil fun D σ H ⟨B, m, S, env, E, cf, er, h, k1, k2, k3, k4⟩ => k1 _ _ h _ _ _ _ cf.nx er⟩
theorem dpss_cons (h1 : DPS X Ξ st t) (h2 : DPSs X Ξ rest u) : DPSs X Ξ (st :: rest) (dSeq t u) := ⟨fun F ok => PSs.imp (pss_cons (h1.run F ok) (h2.run F ok)) fun D σ H ⟨B, m, S, env, E, cf, er, h, k1, k2, k3, k4⟩ =>
  ⟨B, m, S, env, _, cf, er, h, fun env' S1 q σ1 H1 B1 m1 n1 er1 => ⟨B1, m1, S1, env', E, n1.cf, er1, q, k1.nx n1, k2.nx n1, k3.nx n1, k4.nx n1⟩, k2, k3, k4⟩⟩
def dCut (t u : DS) : DS := fun D env S => ∃ Mid : En → Sto → Prop, t { D with nx := Mid } env S ∧ ∀ env' S', Mid env' S' → u D env' S'
theorem dpss_cut (h1 : DPS X Ξ st t) (h2 : DPSs X Ξ rest u) : DPSs X Ξ (st :: rest) (dCut t u) := ⟨fun F ok => PSs.imp (pss_cons (h1.run F ok) (h2.run F ok)) fun D σ H ⟨B, m, S, env, E, cf, er, ⟨Mid, h, hu⟩, k1, k2, k3, k4⟩ =>
  ⟨B, m, S, env, _, cf, er, h, fun env' S1 q σ1 H1 B1 m1 n1 er1 => ⟨B1, m1, S1, env', E, n1.cf, er1, hu _ _ q, k1.nx n1, k2.nx n1, k3.nx n1, k4.nx n1⟩, k2, k3, k4⟩⟩
theorem dpss_one (h1 : DPS X Ξ st t) : DPSs X Ξ [st] t := ⟨fun F ok => pss_one (h1.run F ok)⟩
def dDrop (de : DE) : DS := fun D env S => de env S fun _ S1 => D.nx env S1
theorem dps_expr (he : DPE X Ξ e de) (hs : swapsWith e none pos.line X.env = pure false := by rfl) : DPS X Ξ (.Expr e pos) (dDrop de) := ⟨fun F ok => PS.imp (ps_expr (he.run F ok) hs) fun D σ H ⟨B, m, S, env, E, cf, er, h, k1, k2, k3, k4⟩ =>
  ⟨B, m, S, env, _, cf, er, h, fun w S1 h1 v H1 B1 m1 n1 r => k1 _ _ h1 _ _ _ _ n1 (er.nx n1)⟩⟩
def dRet (de : DE) : DS := fun D env S => de env S D.rt
theorem dps_ret (he : DPE X Ξ e de) : DPS X Ξ (.Return (some e) pos) (dRet de) := ⟨fun F ok => PS.imp (ps_ret (he.run F ok)) fun D σ H ⟨B, m, S, env, E, cf, er, h, k1, k2, k3, k4⟩ =>
  ⟨B, m, S, env, _, cf, er, h, k2⟩⟩
def dIfS (c : DT) (t u : DS) : DS := fun D env S => c env S fun b S1 => ifB b (t D env S1) (u D env S1)
theorem dps_if (hc : DPT X Ξ c tc) (ha : DPSs X Ξ a t) (hb : DPSs X Ξ b u) : DPS X Ξ (.If c a b pos) (dIfS tc t u) := ⟨fun F ok => PS.imp (ps_if (hc.run F ok) (ha.run F ok) (hb.run F ok)) fun D σ H ⟨B, m, S, env, E, cf, er, h, k1, k2, k3, k4⟩ =>
  ⟨B, m, S, env, _, cf, er, h, fun c S1 h1 H1 B1 m1 n1 => by
    cases c with
    | true => replace h1 := ifB_if h1; rw [if_pos rfl] at h1 ⊢; exact ⟨B1, m1, S1, env, E, n1.cf, er.nx n1, h1, k1.nx n1, k2.nx n1, k3.nx n1, k4.nx n1⟩
    | false => replace h1 := ifB_if h1; rw [if_neg Bool.false_ne_true] at h1 ⊢; exact ⟨B1, m1, S1, env, E, n1.cf, er.nx n1, h1, k1.nx n1, k2.nx n1, k3.nx n1, k4.nx n1⟩⟩⟩
def dgName (i : Nat) : DG := fun w env S Kp => Kp (env.set i (some w)) S
theorem dpg_name {i : Nat} {x : Str} (hN : X.N.Nodup) (hi : X.N[i]? = some x) (hx : Loc X.env.scope x) (hf : X.fn x = true ∨ X.env.scope.names.lookup x = some .local := by first | exact .inl rfl | exact .inr rfl | assumption) : DPG X Ξ (.Name x pos) (dgName i) :=
  ⟨fun F ok => PG.imp (pg_name hN hi hx hf) fun v σ H Q ⟨B, m, S, env, w, Kp, cf, er, r, h, k⟩ => k _ _ h _ _ _ _ cf.nx (er.set i r)⟩
def dgNil : DGs := fun ws env S Kp => match ws with
  | [] => Kp env S
  | _ :: _ => False
def dgCons (t : DG) (u : DGs) : DGs := fun ws env S Kp => match ws with
  | w :: r => t w env S fun env' S' => u r env' S' Kp
  | [] => False
theorem dpgs_nil : DPGs X Ξ [] dgNil := ⟨fun F ok => PGs.imp pgs_nil fun v σ H Q ⟨B, m, S, env, w, Kp, cf, er, r, h, k⟩ => by
  cases w with
  | cons _ _ => exact h.elim
  | nil =>
  cases r
  exact ⟨rfl, k _ _ h _ _ _ _ cf.nx er⟩⟩
theorem dpgs_cons {es : List Expr} {t : DG} {u : DGs} (h1 : DPG X Ξ e t) (h2 : DPGs X Ξ es u)
    (hs : (assignEach (e :: es) X.env).map (·.2) = assign e X.env :: (assignEach es X.env).map (·.2) := by rfl) : DPGs X Ξ (e :: es) (dgCons t u) := ⟨fun F ok => PGs.imp (pgs_cons (h1.run F ok) (h2.run F ok) hs) fun v σ H Q ⟨B, m, S, env, w, Kp, cf, er, r, h, k⟩ => by
  cases w with
  | nil => exact h.elim
  | cons w1 wr =>
  cases r with
  | cons r rr =>
    exact ⟨_, _, rfl, B, m, S, env, w1, _, cf, er, r, h, fun env' S1 h1 σ1 H1 B1 m1 n1 er1 => ⟨B1, m1, S1, env', wr, Kp, n1.cf, er1, rr.nx n1, h1, k.nx n1⟩⟩⟩
def dgTup (n : Nat) (t : DGs) : DG := fun w env S Kp => onO (vT w) fun ws => ws.length = n ∧ t ws env S Kp
theorem dpg_tup {es : List Expr} {k : Nat} {t : DGs} {n : Nat} (hc : X.calm = true) (h : DPGs X Ξ es t)
    (hn : (assignEach es X.env).length = n := by rfl) (hst : (assignEach es X.env).findIdx? (·.1) = none := by rfl) : DPG X Ξ (.Tuple es k pos) (dgTup n t) := ⟨fun F ok => PG.imp (pg_tup hc (h.run F ok) hn hst) fun v σ H Q ⟨B, m, S, env, w, Kp, cf, er, r, h, k⟩ => by
  obtain ⟨ws, h0, hl, h⟩ := onO_ex h
  obtain ⟨a, vs, e1, h2, h3⟩ := vT_ok r h0
  exact ⟨a, vs, e1, cf.sub.seqT h2, by rw [← h3.length, hl], B, m, S, env, ws, Kp, cf, er, h3, h, k⟩⟩
def dAsg (de : DE) (g : DG) : DS := fun D env S => de env S fun w S1 => g w env S1 D.nx
theorem imp_asg {K : PySem.W.Frag} {F : Fx} {de : DE} {g : DG} (D : Ends) (σ : L2.St) (H : Hp) (h : lS K F (dAsg de g) D σ H) : tAsg (lE K F de) (lG K F g) D σ H := by
  obtain ⟨B, m, S, env, E, cf, er, h, k1, k2, k3, k4⟩ := h
  exact ⟨B, m, S, env, _, cf, er, h, fun w S1 h1 v H1 B1 m1 n1 r => ⟨B1, m1, S1, env, w, E.nx, n1.cf, er.nx n1, r, h1, k1.nx n1⟩⟩
theorem dps_asg {tg : Expr} {g : DG} (he : DPE X Ξ e de) (hg : DPG X Ξ tg g) (hs : swapsWithSole [tg] e pos.line X.env = pure false := by rfl) (hw : swappedStores [tg] e X.env = pure none := by rfl)
    (h1 : (assignEach [tg] X.env).map (·.2) = [assign tg X.env] := by rfl) : DPS X Ξ (.Assign [tg] e pos) (dAsg de g) := ⟨fun F ok => PS.imp (ps_asg (he.run F ok) (hg.run F ok) hs hw h1) imp_asg⟩
theorem dps_set {i : Nat} {x : Str} {pos' : Pos} (hN : X.N.Nodup) (hi : X.N[i]? = some x) (hx : Loc X.env.scope x) (he : DPE X Ξ e de) (hs : swapsWith e (some (.Name x pos')) pos.line X.env = pure false := by rfl) (hf : X.fn x = true ∨ X.env.scope.names.lookup x = some .local := by first | exact .inl rfl | exact .inr rfl | assumption) :
    DPS X Ξ (.Assign [.Name x pos'] e pos) (dAsg de (dgName i)) := ⟨fun F ok => PS.imp (ps_set hN hi hx (he.run F ok) hs hf) fun D σ H ⟨B, m, S, env, E, cf, er, h, k1, k2, k3, k4⟩ =>
  ⟨B, m, S, env, _, cf, er, h, fun w S1 h1 v H1 B1 m1 n1 r => k1.nx n1 _ _ h1 _ _ _ _ n1.cf.nx ((er.nx n1).set i r)⟩⟩
end
end DL
namespace DL
open PySem PySem.Spec PyProof.Rows L2

mutual
def toPy : D → PyData
  | .non => .none
  | .bl b => .bool b
  | .int i => .int i
  | .str x => .str x
  | .tup ds => .tuple (toPyL ds)
  | .lst ds => .list (toPyL ds)
  | .obj _ _ => .none
  | .scr _ => .none
  | .ty _ => .none
def toPyL : List D → List PyData
  | [] => []
  | d :: ds => toPy d :: toPyL ds
end
mutual
def okD : Nat → D → Bool
  | _, .non => true
  | _, .bl _ => true
  | _, .int _ => true
  | _, .str x => PyData.strOk x
  | 0, .tup _ => false
  | 0, .lst _ => false
  | n + 1, .tup ds => okDL n ds
  | n + 1, .lst ds => okDL n ds
  | _, .obj _ _ => false
  | _, .scr _ => false
  | _, .ty _ => false
def okDL : Nat → List D → Bool
  | _, [] => true
  | n, d :: ds => okD n d && okDL n ds
end
mutual
theorem okD_lay : ∀ (d : D) (n : Nat), okD n d = true → (toPy d).canLay0 = true ∧ (toPy d).depth ≤ n
  | .non, n, _ => ⟨rfl, Nat.zero_le _⟩
  | .bl _, n, _ => ⟨rfl, Nat.zero_le _⟩
  | .int _, n, _ => ⟨rfl, Nat.zero_le _⟩
  | .str x, n, h => ⟨by cases n <;> exact h, Nat.zero_le _⟩
  | .tup ds, 0, h => by cases h
  | .lst ds, 0, h => by cases h
  | .tup ds, n + 1, h => by
    obtain ⟨h1, h2⟩ := okDL_lay ds n h
    exact ⟨h1, Nat.succ_le_succ h2⟩
  | .lst ds, n + 1, h => by
    obtain ⟨h1, h2⟩ := okDL_lay ds n h
    exact ⟨h1, Nat.succ_le_succ h2⟩
  | .obj _ _, n, h => by cases n <;> cases h
  | .scr _, n, h => by cases n <;> cases h
  | .ty _, n, h => by cases n <;> cases h
theorem okDL_lay : ∀ (ds : List D) (n : Nat), okDL n ds = true → PyData.canLayAll0 (toPyL ds) = true ∧ PyData.depthAll (toPyL ds) ≤ n
  | [], n, _ => ⟨rfl, Nat.zero_le _⟩
  | d :: ds, n, h => by
    unfold okDL at h
    rw [Bool.and_eq_true] at h
    obtain ⟨h1, h2⟩ := okD_lay d n h.1
    obtain ⟨h3, h4⟩ := okDL_lay ds n h.2
    refine ⟨?_, ?_⟩
    · show ((toPy d).canLay0 && PyData.canLayAll0 (toPyL ds)) = true
      rw [h1, h3]
      rfl
    · show max (toPy d).depth (PyData.depthAll (toPyL ds)) ≤ n
      exact Nat.max_le.mpr ⟨h2, h4⟩
end
mutual
theorem okD_mono : ∀ (d : D) (n k : Nat), n ≤ k → okD n d = true → okD k d = true
  | .non, n, k, _, _ => by cases k <;> rfl
  | .bl _, n, k, _, _ => by cases k <;> rfl
  | .int _, n, k, _, _ => by cases k <;> rfl
  | .str x, n, k, _, h => by cases n <;> cases k <;> exact h
  | .tup ds, 0, k, _, h => by cases h
  | .lst ds, 0, k, _, h => by cases h
  | .tup ds, n + 1, 0, hk, h => by omega
  | .lst ds, n + 1, 0, hk, h => by omega
  | .tup ds, n + 1, k + 1, hk, h => okDL_mono ds n k (by omega) h
  | .lst ds, n + 1, k + 1, hk, h => okDL_mono ds n k (by omega) h
  | .obj _ _, n, k, _, h => by cases n <;> cases h
  | .scr _, n, k, _, h => by cases n <;> cases h
  | .ty _, n, k, _, h => by cases n <;> cases h
theorem okDL_mono : ∀ (ds : List D) (n k : Nat), n ≤ k → okDL n ds = true → okDL k ds = true
  | [], _, _, _, _ => rfl
  | d :: ds, n, k, hk, h => by
    unfold okDL at h ⊢
    rw [Bool.and_eq_true] at h ⊢
    exact ⟨okD_mono d n k hk h.1, okDL_mono ds n k hk h.2⟩
end
theorem okD_shaped {d : D} {n : Nat} (h : okD n d = true) (hn : n ≤ 64) : SeqAt.shaped (toPy d) = true := by
  obtain ⟨h1, h2⟩ := okD_lay d n h
  unfold SeqAt.shaped
  rw [h1, decide_eq_true (Nat.le_trans h2 hn)]
  rfl
mutual
theorem Rp.dp {K : PySem.W.Frag} {B : Hp} : ∀ {d : D} {v : V} (n : Nat), okD n d = true → Rp K B d v → Dp K B v (toPy d)
  | _, _, _, _, .non => .non
  | _, _, _, _, .bl => .bl _
  | _, _, _, _, .int => .int _
  | _, _, _, _, .str => .str _
  | _, _, n + 1, h, .tup s r => .tup s (RpL.dp n h r)
  | _, _, n + 1, h, .lst s r => .lst (.of s) (RpL.dp n h r)
  | _, _, 0, h, .tup s r => by cases h
  | _, _, 0, h, .lst s r => by cases h
  | _, _, n, h, .obj _ _ => by cases n <;> cases h
  | _, _, n, h, .scr _ => by cases n <;> cases h
  | _, _, n, h, .ty => by cases n <;> cases h
theorem RpL.dp {K : PySem.W.Frag} {B : Hp} : ∀ {ds : List D} {vs : List V} (n : Nat), okDL n ds = true → RpL K B ds vs → DpAll K B vs (toPyL ds)
  | _, _, _, _, .nil => .nil
  | d :: ds, _, n, h, .cons r t => by
    unfold okDL at h
    rw [Bool.and_eq_true] at h
    exact .cons (Rp.dp n h.1 r) (RpL.dp n h.2 t)
end
def eqD (a b : D) : Bool := PyData.eqv (toPy a) (toPy b)
def dW (S : Sto) : W → Option D
  | .fz d => some d
  | .hd n => match S[n]? with
    | some (.lst ws) => (fzL ws).map D.lst
    | _ => none
  | .tp _ => none
  | .xo _ _ _ => none
theorem Dp.mono {K : PySem.W.Frag} {H H' : Hp} (s : Sub H H') : ∀ {v : V} {d : PyData}, Dp K H v d → Dp K H' v d := by
  intro v d h
  refine Dp.rec (motive_1 := fun v d _ => Dp K H' v d) (motive_2 := fun v d _ => DpAll K H' v d) .non .bl .int .str (fun h _ ih => .lst (s.seqL h) ih) (fun h _ ih => .tup (s.seqT h) ih) .nil (fun _ _ a b => .cons a b) h
section
variable {K : PySem.W.Frag} {F : Fx} {B B' : Hp} {m m' : List Addr} {S S' : Sto} {H H' : Hp} {env : En} {σ : L2.St}
theorem dW_ok (c : Cf K F B m S H) {w : W} {x : V} {d : D} (r : RW K B m w x) (h : dW S w = some d) : Rp K H d x := by
  unfold dW at h
  split at h
  · cases h
    cases r with
    | fz r => exact r.mono c.sub
  · split at h
    · rename_i ws e
      cases q : fzL ws with
      | none => rw [q] at h; cases h
      | some ds =>
        rw [q] at h
        cases h
        obtain ⟨a, vs, e1, _, h1, h2⟩ := c.lst r e
        subst e1
        rw [fzL_eq q] at h2
        exact .lst h1 (h2.fz.mono c.sub)
    · cases h
  · cases h
  · cases h
end

def strLt (a b : Str) : Bool := decide (a.cps.toList < b.cps.toList)
def addW (own : Bool) : DR2 := fun x y S Kp => match x, y with
  | .fz (.int i), .fz (.int j) => Kp (.fz (.int (i + j))) S
  | .fz (.str a), .fz (.str b) => a.length + b.length ≤ sizeLine ∧ Kp (.fz (.str (a ++ b))) S
  | x, y => match vT x with
    | some xs => onO (vT y) fun ys => xs.length + ys.length ≤ sizeLine ∧ Kp (mkT (xs ++ ys)) S
    | none => onO (vL S x) fun xs => onO (vL S y) fun ys => xs.length + ys.length ≤ sizeLine ∧ newL own (xs ++ ys) S Kp
def intW (C : Int → Int → Prop) (f : Int → Int → Int) : DR2 := fun x y S Kp => match x, y with
  | .fz (.int i), .fz (.int j) => C i j ∧ Kp (.fz (.int (f i j))) S
  | _, _ => False
theorem intW_ex {C : Int → Int → Prop} {f : Int → Int → Int} {x y : W} {S : Sto} {Kp : WK} (h : intW C f x y S Kp) : ∃ i j, x = .fz (.int i) ∧ y = .fz (.int j) ∧ C i j ∧ Kp (.fz (.int (f i j))) S := by
  unfold intW at h
  split at h
  · exact ⟨_, _, rfl, rfl, h⟩
  · exact h.elim
abbrev subW : DR2 := intW (fun _ _ => True) (fun i j => i - j)
def CMulX (i j : Int) : Prop := CMul i j ∨ CMulW i j
abbrev mulW : DR2 := intW CMulX (fun i j => i * j)
abbrev modW : DR2 := intW (fun _ j => 0 < j) (fun i j => i % j)
abbrev fdivW : DR2 := intW CDivW (fun i j => i / j)
abbrev powW : DR2 := intW CPow (fun i j => i ^ j.toNat)
def cmpW (pi : Int → Int → Bool) (ps : Str → Str → Bool) : DR2 := fun x y S Kp => match x, y with
  | .fz (.int i), .fz (.int j) => Kp (.fz (.bl (pi i j))) S
  | .fz (.str a), .fz (.str b) => Kp (.fz (.bl (ps a b))) S
  | _, _ => False
abbrev ltW : DR2 := cmpW (fun i j => decide (i < j)) strLt
abbrev leW : DR2 := cmpW (fun i j => decide (i ≤ j)) (fun a b => !strLt b a)
abbrev gtW : DR2 := cmpW (fun i j => decide (j < i)) (fun a b => strLt b a)
abbrev geW : DR2 := cmpW (fun i j => decide (j ≤ i)) (fun a b => !strLt a b)
def eqW : DR2 := fun x y S Kp => onO (dW S x) fun a => onO (dW S y) fun b => (okD 64 a = true ∧ okD 64 b = true) ∧ Kp (.fz (.bl (eqD a b))) S
def neW : DR2 := fun x y S Kp => onO (dW S x) fun a => onO (dW S y) fun b => (okD 64 a = true ∧ okD 64 b = true) ∧ Kp (.fz (.bl (!eqD a b))) S
def isNoneW : W → Bool
  | .fz .non => true
  | _ => false
def isNW : DR2 := fun x y S Kp => match y with
  | .fz .non => Kp (.fz (.bl (isNoneW x))) S
  | _ => False
def ixW : DR2 := fun x y S Kp => match y with
  | .fz (.int i) => match x with
    | .fz (.str z) => z.length ≤ sizeLine ∧ onO (atI z.cps.toList i) fun c => Kp (.fz (.str ⟨#[c]⟩)) S
    | x => onO (vS S x) fun ws => onO (atI ws i) fun w => Kp w S
  | _ => False
section
variable {X : Cx} {Ξ : Xt}
theorem KW.here {K : PySem.W.Frag} {F : Fx} {B : Hp} {m : List Addr} {S : Sto} {H : Hp} {Kp : WK} {Q : VK} {w : W} {v : V} (k : KW K F Kp B m H Q) (c : Cf K F B m S H) (h : Kp w S) (r : RW K B m w v) : Q v H := k _ _ h _ _ _ _ c.nx r
theorem od_int {f : Value → Value → Sem Value} {C : Int → Int → Prop} {g : Int → Int → Int} (h : OpR X f (rI C fun i j => .int (g i j))) : OpD X f (intW C g) := fun F => OpR.imp h fun x y H Q ⟨B, m, S, wx, wy, Kp, cf, rx, ry, h0, k⟩ => by
  obtain ⟨i, j, e1, e2, hc, hk⟩ := intW_ex h0
  subst e1; subst e2
  exact ⟨i, j, rx.int_of, ry.int_of, hc, k.here cf hk (.fz .int)⟩
theorem OpR.t {f : Value → Value → Sem Value} {g : Int → Int → V} (h : OpR X f (rI0 g)) : OpR X f (rI (fun _ _ => True) g) := OpR.imp h fun x y H Q ⟨i, j, a, b, _, q⟩ => ⟨i, j, a, b, q⟩
theorem od_sub : OpD X (binaryOp .Sub) subW := od_int (OpR.t op_sub)
theorem od_mul : OpD X (binaryOp .Mult) mulW := od_int (OpR.imp (OpR.or op_mul op_mulW) fun x y H Q ⟨i, j, a, b, h, q⟩ => h.elim (fun h => .inl ⟨i, j, a, b, h, q⟩) fun h => .inr ⟨i, j, a, b, h, q⟩)
theorem od_mod : OpD X (binaryOp .Mod) modW := od_int op_mod
theorem od_fdiv : OpD X (binaryOp .FloorDiv) fdivW := od_int op_fdivW
theorem od_pow : OpD X (binaryOp .Pow) powW := od_int op_pow
theorem imp_add {F : Fx} {own : Bool} (x y : V) (H : Hp) (Q : VK) (h : lR2 X.K F (addW own) x y H Q) : (rI0 (fun i j => .int (i + j)) x y H Q) ∨ ((∃ i j, x = .str i ∧ y = .str j ∧ i.length + j.length ≤ sizeLine ∧ Q (.str (i ++ j)) H) ∨ (rCatA X.K x y H Q ∨ rCat x y H Q)) := by
  obtain ⟨B, m, S, wx, wy, Kp, cf, rx, ry, h, k⟩ := h
  unfold addW at h
  split at h
  · exact .inl ⟨_, _, rx.int_of, ry.int_of, k.here cf h (.fz .int)⟩
  · exact .inr (.inl ⟨_, _, rx.str_of, ry.str_of, h.1, k.here cf h.2 (.fz .str)⟩)
  · split at h
    · rename_i xs e
      obtain ⟨ys, e2, hz, h⟩ := onO_ex h
      obtain ⟨a, vs, ea, sa, ra⟩ := vT_ok rx e
      obtain ⟨b, us, eb, sb, rb⟩ := vT_ok ry e2
      have sa' := cf.sub.seqT sa
      have sb' := cf.sub.seqT sb
      refine .inr (.inr (.inl ⟨a, b, vs, us, ea, eb, sa', sb', by rw [← ra.length, ← rb.length]; exact hz, fun e0 => ?_, fun _ e0 => ?_, fun _ _ p hp => ?_⟩))
      · subst e0
        cases ra
        exact k.here cf h (mkT_ok rb sb)
      · subst e0
        cases rb
        rw [List.append_nil] at h
        exact k.here cf h (mkT_ok ra sa)
      · have n2 := cf.alloc (o := .tup (vs ++ us)) hp
        exact k _ _ h _ _ _ _ n2 (mkT_ok ((ra.nx n2).append (rb.nx n2)) (.of upd_same))
    · obtain ⟨xs, e1, h⟩ := onO_ex h
      obtain ⟨ys, e2, hz, h⟩ := onO_ex h
      obtain ⟨a, vs, ea, sa, ra⟩ := vL_ok cf rx e1
      obtain ⟨b, us, eb, sb, rb⟩ := vL_ok cf ry e2
      exact .inr (.inr (.inr ⟨a, b, vs, us, ea, eb, sa, sb, by rw [← ra.length, ← rb.length]; exact hz, fun p hp => newL_ok cf (ra.append rb) h k hp⟩))
theorem od_add (own : Bool) : OpD X (binaryOp .Add) (addW own) := fun F => OpR.imp (OpR.or op_add (OpR.or op_add_str (OpR.or op_catA op_cat))) imp_add
theorem op_le_str : OpR X (compareOp .LtE) (fun x y H Q => ∃ i j, x = .str i ∧ y = .str j ∧ Q (.bl (!strLt j i)) H) := by
  intro pins s σ H x y v u Q I rx ry ⟨i, j, e1, e2, q⟩
  subst e1; subst e2
  obtain ⟨t, rfl⟩ := rx
  obtain ⟨t', rfl⟩ := ry
  exact PySem.P.le_str ⟨_, H, I, by unfold strLt; first | rfl | simp, q⟩
theorem op_gt_str : OpR X (compareOp .Gt) (fun x y H Q => ∃ i j, x = .str i ∧ y = .str j ∧ Q (.bl (strLt j i)) H) := by
  intro pins s σ H x y v u Q I rx ry ⟨i, j, e1, e2, q⟩
  subst e1; subst e2
  obtain ⟨t, rfl⟩ := rx
  obtain ⟨t', rfl⟩ := ry
  exact PySem.P.gt_str ⟨_, H, I, by unfold strLt; first | rfl | simp, q⟩
theorem op_ge_str : OpR X (compareOp .GtE) (fun x y H Q => ∃ i j, x = .str i ∧ y = .str j ∧ Q (.bl (!strLt i j)) H) := by
  intro pins s σ H x y v u Q I rx ry ⟨i, j, e1, e2, q⟩
  subst e1; subst e2
  obtain ⟨t, rfl⟩ := rx
  obtain ⟨t', rfl⟩ := ry
  exact PySem.P.ge_str ⟨_, H, I, by unfold strLt; first | rfl | simp, q⟩
theorem od_cmp {op : CmpOp} {pi : Int → Int → Bool} {ps : Str → Str → Bool} (h1 : OpR X (compareOp op) (rI0 fun i j => .bl (pi i j))) (h2 : OpR X (compareOp op) (fun x y H Q => ∃ i j, x = .str i ∧ y = .str j ∧ Q (.bl (ps i j)) H)) :
    OpD X (compareOp op) (cmpW pi ps) := fun F => OpR.imp (OpR.or h1 h2) fun x y H Q ⟨B, m, S, wx, wy, Kp, cf, rx, ry, h, k⟩ => by
  unfold cmpW at h
  split at h
  · exact .inl ⟨_, _, rx.int_of, ry.int_of, k.here cf h (.fz .bl)⟩
  · exact .inr ⟨_, _, rx.str_of, ry.str_of, k.here cf h (.fz .bl)⟩
  · cases h
theorem od_lt : OpD X (compareOp .Lt) ltW := od_cmp op_lt op_lt_str
theorem od_le : OpD X (compareOp .LtE) leW := od_cmp op_le op_le_str
theorem od_gt : OpD X (compareOp .Gt) gtW := od_cmp op_gt op_gt_str
theorem od_ge : OpD X (compareOp .GtE) geW := od_cmp op_ge op_ge_str
theorem od_eq (hu : X.A.units + 64 < cLine) : OpD X (compareOp .Eq) eqW := fun F => OpR.imp (op_eqD hu) fun x y H Q ⟨B, m, S, wx, wy, Kp, cf, rx, ry, h0, k⟩ => by
  obtain ⟨a, h1, h0⟩ := onO_ex h0
  obtain ⟨b, h2, ⟨h3, h4⟩, h⟩ := onO_ex h0
  exact ⟨toPy a, toPy b, (dW_ok cf rx h1).dp _ h3, (dW_ok cf ry h2).dp _ h4, okD_shaped h3 (Nat.le_refl _), okD_shaped h4 (Nat.le_refl _), k.here cf h (.fz .bl)⟩
theorem od_ne (hu : X.A.units + 64 < cLine) : OpD X (compareOp .NotEq) neW := fun F => OpR.imp (op_neD hu) fun x y H Q ⟨B, m, S, wx, wy, Kp, cf, rx, ry, h0, k⟩ => by
  obtain ⟨a, h1, h0⟩ := onO_ex h0
  obtain ⟨b, h2, ⟨h3, h4⟩, h⟩ := onO_ex h0
  exact ⟨toPy a, toPy b, (dW_ok cf rx h1).dp _ h3, (dW_ok cf ry h2).dp _ h4, okD_shaped h3 (Nat.le_refl _), okD_shaped h4 (Nat.le_refl _), k.here cf h (.fz .bl)⟩
theorem isNone_ok {K : PySem.W.Frag} {B : Hp} {m : List Addr} {w : W} {x : V} (r : RW K B m w x) : decide (x = .non) = isNoneW w := by
  cases r with
  | fz r => cases r <;> rfl
  | hd e => rfl
  | tp _ _ => rfl
  | xo _ _ _ => rfl
theorem od_isN : OpD X (compareOp .Is) isNW := fun F => OpR.imp op_isN fun x y H Q ⟨B, m, S, wx, wy, Kp, cf, rx, ry, h, k⟩ => by
  unfold isNW at h
  split at h
  rotate_left
  · exact h.elim
  cases ry with | fz ry => cases ry; exact ⟨rfl, by rw [isNone_ok rx]; exact k.here cf h (.fz .bl)⟩
theorem RWL.at {K : PySem.W.Frag} {B : Hp} {m : List Addr} {ws : List W} {vs : List V} (r : RWL K B m ws vs) {i : Int} {w : W} (h : atI ws i = some w) : ∃ v, atI vs i = some v ∧ RW K B m w v := by
  unfold atI at h ⊢
  rw [← r.length]
  cases e : ixN ws.length i with
  | none => rw [e] at h; cases h
  | some j =>
    rw [e] at h
    exact r.get h
theorem ixd : IxD X ixW := fun F => IxR.imp ix_seq fun x y H Q ⟨B, m, S, wx, wy, Kp, cf, rx, ry, h, k⟩ => by
  unfold ixW at h
  split at h
  rotate_left
  · exact h.elim
  split at h
  · obtain ⟨hz, h⟩ := h
    obtain ⟨c, ha, h⟩ := onO_ex h
    exact .inr (.inr ⟨_, _, c, rx.str_of, ry.int_of, hz, ha, k.here cf h (.fz .str)⟩)
  · obtain ⟨ws, hv, h⟩ := onO_ex h
    obtain ⟨w, ha, h⟩ := onO_ex h
    obtain ⟨a, vs, ea, hs, rr⟩ := vS_ok cf rx hv
    obtain ⟨v, hv', rv⟩ := rr.at ha
    rcases hs with hs | hs
    · exact .inl ⟨a, vs, _, v, ea, ry.int_of, hs, hv', k.here cf h rv⟩
    · exact .inr (.inl ⟨a, vs, _, v, ea, ry.int_of, hs, hv', k.here cf h rv⟩)
end
end DL
namespace DL
open PySem PySem.Spec PyProof.Rows L2

mutual
def ren (k n : Nat) : W → W
  | .fz d => .fz d
  | .hd j => .hd (if j < k then j else n + (j - k))
  | .tp ws => .tp (renL k n ws)
  | .xo a d fs => .xo a d fs
def renL (k n : Nat) : List W → List W
  | [] => []
  | w :: ws => ren k n w :: renL k n ws
end
def renOD (k n : Nat) : OD → OD
  | .lst ws => .lst (renL k n ws)
  | .dic kvs => .dic (kvs.map fun p => (p.1, ren k n p.2))
  | .ins C fs => .ins C (fs.map fun p => (p.1, ren k n p.2))
  | .gone => .gone
def mrg (k : Nat) (S S' : Sto) : Sto := (S'.take k).map (renOD k S.length) ++ S.drop k ++ (S'.drop k).map (renOD k S.length)

section
variable {K : PySem.W.Frag} {F : Fx} {B B' : Hp} {m m' : List Addr} {S S' : Sto} {H H' : Hp} {k : Nat}
mutual
theorem RW.unren (hn : m.length = S.length) : ∀ {w : W} {v : V}, RW K B m (ren k S.length w) v → RW K B (m.take k) w v
  | .fz d, _, .fz r => .fz r
  | .hd j, _, h => by
    unfold ren at h
    cases h with
    | hd e =>
      by_cases hj : j < k
      · rw [if_pos hj] at e
        exact .hd (by rw [List.getElem?_take_of_lt hj]; exact e)
      · rw [if_neg hj] at e
        have h1 := (List.getElem?_eq_some_iff.mp e).1
        omega
  | .tp ws, _, .tp s r => .tp s (RWL.unren hn r)
  | .xo _ _ _, _, .xo e0 e r => .xo e0 e r
theorem RWL.unren (hn : m.length = S.length) : ∀ {ws : List W} {vs : List V}, RWL K B m (renL k S.length ws) vs → RWL K B (m.take k) ws vs
  | [], _, .nil => .nil
  | _ :: _, _, .cons r t => .cons (RW.unren hn r) (RWL.unren hn t)
end
mutual
theorem RW.ren (hk : k ≤ m.length) (hn : m.length = S.length) (pr : ∀ (n : Nat) (a : Addr), (m.take k)[n]? = some a → m'[n]? = some a) : ∀ {w : W} {v : V}, RW K B m' w v → RW K B (m ++ m'.drop k) (DL.ren k S.length w) v
  | .fz d, _, .fz r => .fz r
  | .hd j, _, .hd e => by
    unfold DL.ren
    refine .hd ?_
    by_cases hj : j < k
    · rw [if_pos hj, List.getElem?_append_left (by omega)]
      have h1 : m[j]? = some m[j] := List.getElem?_eq_getElem (by omega)
      have h2 := pr j _ (by rw [List.getElem?_take_of_lt hj]; exact h1)
      rw [e] at h2
      rw [h1, h2]
    · rw [if_neg hj, List.getElem?_append_right (by omega), List.getElem?_drop]
      have h3 : k + (S.length + (j - k) - m.length) = j := by omega
      rw [h3]
      exact e
  | .tp ws, _, .tp s r => .tp s (RWL.ren hk hn pr r)
  | .xo _ _ _, _, .xo e0 e r => .xo e0 e r
theorem RWL.ren (hk : k ≤ m.length) (hn : m.length = S.length) (pr : ∀ (n : Nat) (a : Addr), (m.take k)[n]? = some a → m'[n]? = some a) : ∀ {ws : List W} {vs : List V}, RWL K B m' ws vs → RWL K B (m ++ m'.drop k) (renL k S.length ws) vs
  | [], _, .nil => .nil
  | _ :: _, _, .cons r t => .cons (RW.ren hk hn pr r) (RWL.ren hk hn pr t)
end
theorem Paired.mapL {α α' β : Type} {f : α' → α} {R : α → β → Prop} {R' : α' → β → Prop} (h : ∀ a b, R (f a) b → R' a b) : ∀ {xs : List α'} {ys : List β}, Paired R (xs.map f) ys → Paired R' xs ys
  | [], _, .nil => .nil
  | _ :: _, _, .cons r t => .cons (h _ _ r) (Paired.mapL h t)
theorem Paired.mapR {α α' β : Type} {f : α' → α} {R : α → β → Prop} {R' : α' → β → Prop} (h : ∀ a b, R' a b → R (f a) b) : ∀ {xs : List α'} {ys : List β}, Paired R' xs ys → Paired R (xs.map f) ys
  | [], _, .nil => .nil
  | _ :: _, _, .cons r t => .cons (h _ _ r) (Paired.mapR h t)
theorem RO.unren (hn : m.length = S.length) : ∀ {od : OD} {o : HO}, RO K B m (renOD k S.length od) o → RO K B (m.take k) od o
  | .lst _, _, ⟨vs, e, r⟩ => ⟨vs, e, r.unren hn⟩
  | .dic _, _, ⟨vs, e, r⟩ => ⟨vs, e, Paired.mapL (fun _ _ q => ⟨q.1, q.2.unren hn⟩) r⟩
  | .ins _ _, _, ⟨dx, vs, e, r⟩ => ⟨dx, vs, e, Paired.mapL (fun _ _ q => ⟨q.1, q.2.unren hn⟩) r⟩
  | .gone, _, _ => trivial
theorem RO.ren (hk : k ≤ m.length) (hn : m.length = S.length) (pr : ∀ (n : Nat) (a : Addr), (m.take k)[n]? = some a → m'[n]? = some a) : ∀ {od : OD} {o : HO}, RO K B m' od o → RO K B (m ++ m'.drop k) (renOD k S.length od) o
  | .lst _, _, ⟨vs, e, r⟩ => ⟨vs, e, r.ren hk hn pr⟩
  | .dic _, _, ⟨vs, e, r⟩ => ⟨vs, e, Paired.mapR (fun _ _ q => ⟨q.1, q.2.ren hk hn pr⟩) r⟩
  | .ins _ _, _, ⟨dx, vs, e, r⟩ => ⟨dx, vs, e, Paired.mapR (fun _ _ q => ⟨q.1, q.2.ren hk hn pr⟩) r⟩
  | .gone, _, _ => trivial
theorem renOD_gone {n : Nat} {od : OD} (h : od ≠ .gone) : renOD k n od ≠ .gone := by cases od <;> first | exact absurd rfl h | (intro z; cases z)
theorem Cf.lend (c : Cf K F B m S H) {lent : Sto} (hk : k ≤ S.length) (e : S.take k = lent.map (renOD k S.length)) : Cf K ⟨B, H, m.take k, F.T⟩ B (m.take k) lent H := by
  have hl : lent.length = k := by
    have := congrArg List.length e
    rw [List.length_take, List.length_map] at this
    omega
  refine ⟨.refl, c.sub, fun _ _ h => .inl h, fun _ _ h _ _ => h, fun _ h => h, by rw [List.length_take, c.len, hl]; omega, fun _ _ h => h, fun _ _ h => .inl h, fun i j a h1 h2 => ?_, fun n a od h1 h2 => ?_, fun q tq => let ⟨g1, g2, g3⟩ := c.tab q tq; ⟨g1, g2, fun n e => g3 n (by
    have := (List.getElem?_eq_some_iff.mp e).1
    rw [List.length_take] at this
    rw [List.getElem?_take_of_lt (by omega)] at e
    exact e)⟩⟩
  · have g : ∀ i : Nat, (m.take k)[i]? = some a → m[i]? = some a := fun i h => by
      have := (List.getElem?_eq_some_iff.mp h).1
      rw [List.length_take] at this
      rw [List.getElem?_take_of_lt (by omega)] at h
      exact h
    exact c.nd i j a (g i h1) (g j h2)
  · have hn := (List.getElem?_eq_some_iff.mp h2).1
    rw [List.getElem?_take_of_lt (by omega)] at h1
    have h3 : S[n]? = some (renOD k S.length od) := by
      have h4 : (S.take k)[n]? = some (renOD k S.length od) := by rw [e, List.getElem?_map, h2]; rfl
      rw [List.getElem?_take_of_lt (by omega)] at h4
      exact h4
    obtain ⟨o, a1, a2, a3⟩ := c.own n a _ h1 h3
    exact ⟨o, a1, a2.unren c.len, fun z => a3 (renOD_gone z)⟩
theorem Cf.back (c : Cf K F B m S H) (hk : k ≤ S.length) (x : Nx K ⟨B, H, m.take k, F.T⟩ B (m.take k) H B' m' S' H') : Nx K F B m H B' (m ++ m'.drop k) (mrg k S S') H' := by
  obtain ⟨c', sb, pr⟩ := x
  have hkm : k ≤ m.length := by rw [c.len]; exact hk
  have tk : ∀ (n : Nat) (a : Addr), n < k → (m[n]? = some a ↔ (m.take k)[n]? = some a) := fun n a h => by rw [List.getElem?_take_of_lt h]
  have hkm' : k ≤ m'.length := by
    cases k with
    | zero => exact Nat.zero_le _
    | succ j =>
      have h1 : m[j]? = some m[j] := List.getElem?_eq_getElem (by omega)
      have := (List.getElem?_eq_some_iff.mp (pr j _ ((tk j _ (Nat.lt_succ_self _)).mp h1))).1
      omega
  have l1 : (m ++ m'.drop k).length = (mrg k S S').length := by
    unfold mrg
    simp only [List.length_append, List.length_map, List.length_drop, List.length_take]
    have := c.len
    have := c'.len
    omega
  -- the addresses, by place
  have low : ∀ (n : Nat) (a : Addr), n < m.length → (m ++ m'.drop k)[n]? = some a → m[n]? = some a := fun n a h e => by rw [List.getElem?_append_left h] at e; exact e
  have high : ∀ (n : Nat) (a : Addr), ¬ n < m.length → (m ++ m'.drop k)[n]? = some a → m'[k + (n - m.length)]? = some a := fun n a h e => by
    rw [List.getElem?_append_right (by omega), List.getElem?_drop] at e
    exact e
  have newH : ∀ (j : Nat) (a : Addr), k ≤ j → m'[j]? = some a → H a = none := fun j a h e => by
    rcases c'.new j a e with z | z
    · have := (List.getElem?_eq_some_iff.mp z).1
      rw [List.length_take] at this
      omega
    · exact z
  refine ⟨⟨c.b0.trans sb, c'.sub, fun a o e => ?_, fun a o e nl nt => ?_, fun a e => c.dom a (c'.dom a e), l1, fun n a e => Pre.app n a (c.pre n a e), fun n a e => ?_, fun i j a e1 e2 => ?_, fun n a od e1 e2 => ?_, fun q tq => let ⟨g1, g2, g3⟩ := c'.tab q tq; ⟨g1, g2, fun n e => (by
    by_cases h : n < m.length
    · exact (c.tab q tq).2.2 n (low n q h e)
    · exact g3 _ (high n q h e))⟩⟩, sb, .app, fun a o e nm nt => c'.fr a o e (by
    intro z
    obtain ⟨n, hn⟩ := List.getElem?_of_mem z
    exact nm n (by
      have hlt := (List.getElem?_eq_some_iff.mp hn).1
      rw [List.length_take] at hlt
      exact (tk n a (by omega)).mpr hn)) nt, fun n a e => (by
    by_cases h : n < m.length
    · exact .inl (low n a h e)
    · exact .inr (newH _ a (by omega) (high n a h e))), c'.dom, fun a o e => (c'.bnew a o e).imp id .inl⟩
  · rcases c'.bnew a o e with z | z
    · exact c.bnew a o z
    · exact .inr (c.dom a z)
  · have h1 := c.fr a o e nl nt
    refine c'.fr a o h1 (fun z => ?_) nt
    obtain ⟨n, hn⟩ := List.getElem?_of_mem z
    have hlt := (List.getElem?_eq_some_iff.mp hn).1
    rw [List.length_take] at hlt
    have hn' := (tk n a (by omega)).mpr hn
    rcases c.new n a hn' with q | q
    · exact nl (List.mem_of_getElem? q)
    · rw [q] at e; cases e
  · by_cases h : n < m.length
    · exact c.new n a (low n a h e)
    · exact .inr (c.dom a (newH _ a (by omega) (high n a h e)))
  · by_cases h1 : i < m.length <;> by_cases h2 : j < m.length
    · exact c.nd i j a (low i a h1 e1) (low j a h2 e2)
    · have z := newH _ a (by omega) (high j a h2 e2)
      obtain ⟨o, q⟩ := c.there (low i a h1 e1)
      rw [z] at q; cases q
    · have z := newH _ a (by omega) (high i a h1 e1)
      obtain ⟨o, q⟩ := c.there (low j a h2 e2)
      rw [z] at q; cases q
    · have z := c'.nd _ _ a (high i a h1 e1) (high j a h2 e2)
      omega
  · have hSl := c.len
    have hSl' := c'.len
    have t1 : ((S'.take k).map (renOD k S.length)).length = k := by rw [List.length_map, List.length_take]; omega
    have t2 : ((S'.take k).map (renOD k S.length) ++ S.drop k).length = S.length := by rw [List.length_append, t1, List.length_drop]; omega
    by_cases h : n < m.length
    · have e1' := low n a h e1
      by_cases hnk : n < k
      · unfold mrg at e2
        rw [List.getElem?_append_left (by omega), List.getElem?_append_left (by omega), List.getElem?_map, List.getElem?_take_of_lt hnk] at e2
        cases q : S'[n]? with
        | none => rw [q] at e2; cases e2
        | some od' =>
          rw [q] at e2
          cases e2
          obtain ⟨o, a1, a2, a3⟩ := c'.own n a od' (pr n a ((tk n a hnk).mp e1')) q
          exact ⟨o, a1, a2.ren hkm hSl pr, fun z => a3 fun y => z (by rw [y]; rfl)⟩
      · unfold mrg at e2
        rw [List.getElem?_append_left (by omega), List.getElem?_append_right (by omega), t1, List.getElem?_drop] at e2
        have h3 : k + (n - k) = n := by omega
        rw [h3] at e2
        obtain ⟨o, a1, a2, a3⟩ := c.own n a od e1' e2
        refine ⟨o, c'.fr a o a1 (fun z => ?_) (fun tq => (c.tab a tq).2.2 n e1'), a2.mono sb .app, fun z => ?_⟩
        · obtain ⟨i, hi⟩ := List.getElem?_of_mem z
          have hlt := (List.getElem?_eq_some_iff.mp hi).1
          rw [List.length_take] at hlt
          have := c.nd i n a ((tk i a (by omega)).mpr hi) e1'
          omega
        · have nB := a3 z
          cases q : B' a with
          | none => rfl
          | some u =>
            rcases c'.bnew a u q with y | y
            · have y' : B a = some u := y
              rw [nB] at y'; cases y'
            · have y' : H a = none := y
              rw [a1] at y'; cases y'
    · have e1' := high n a h e1
      unfold mrg at e2
      rw [List.getElem?_append_right (by omega), t2, List.getElem?_map, List.getElem?_drop] at e2
      have h3 : k + (n - S.length) = k + (n - m.length) := by omega
      rw [h3] at e2
      cases q : S'[k + (n - m.length)]? with
      | none => rw [q] at e2; cases e2
      | some od' =>
        rw [q] at e2
        cases e2
        obtain ⟨o, a1, a2, a3⟩ := c'.own _ a od' e1' q
        exact ⟨o, a1, a2.ren hkm hSl pr, fun z => a3 fun y => z (by rw [y]; rfl)⟩
end

abbrev DSp := List W → Sto → WK → Prop
def spD (K : PySem.W.Frag) (T : Addr → Prop) (dsp : DSp) : Sp := fun vs H Q _ => ∃ (B : Hp) (L : List Addr) (ws : List W) (lent : Sto) (Kp : WK), Cf K ⟨B, H, L, T⟩ B L lent H ∧ RWL K B L ws vs ∧ dsp ws lent Kp ∧ KW K ⟨B, H, L, T⟩ Kp B L H Q
abbrev PSp := List D → (D → Prop) → Prop
def psp (P : PSp) : DSp := fun ws S Kp => ∃ ds, ws = ds.map W.fz ∧ S = [] ∧ P ds fun d => Kp (.fz d) []
theorem renL_fz (k n : Nat) (ds : List D) : renL k n (ds.map W.fz) = ds.map W.fz := by
  induction ds with
  | nil => rfl
  | cons d ds ih => show ren k n (.fz d) :: renL k n (ds.map W.fz) = _; rw [ih]; rfl
def dCallP (P : PSp) (da : DA) : DE := fun env S Kp => da env S fun ws S1 => onO (fzL ws) fun ds => P ds fun d => Kp (.fz d) S1
def PK (Kp : WK) (S : Sto) : WK := fun w S2 => match w, S2 with
  | .fz d, [] => Kp (.fz d) S
  | _, _ => False
theorem PK_ok {Kp : WK} {S : Sto} {w : W} {S2 : Sto} (h : PK Kp S w S2) : ∃ d, w = .fz d ∧ S2 = [] ∧ Kp (.fz d) S := by
  unfold PK at h
  split at h
  · exact ⟨_, rfl, rfl, h⟩
  · cases h
theorem lE.weak {K : PySem.W.Frag} {F : Fx} {d d' : DE} {σ : L2.St} {H : Hp} {Q : VK} (h : lE K F d' σ H Q) (g : ∀ env S Kp, d' env S Kp → ∃ Kp', d env S Kp' ∧ ∀ w S', Kp' w S' → Kp w S') : lE K F d σ H Q := by
  obtain ⟨B, m, S, env, Kp, cf, er, h, kw⟩ := h
  obtain ⟨Kp', h', i⟩ := g env S Kp h
  exact ⟨B, m, S, env, Kp', cf, er, h', fun w S' hk => kw w S' (i w S' hk)⟩
section
variable {X : Cx} {Ξ : Xt} {k j : Nat} {x : Str} {dsp : DSp} {P : PSp} {p pos : Pos} {e : Expr} {es : List Expr} {da : DA}
abbrev CalD (P : Program) (w : World) (K : PySem.W.Frag) (T : Addr → Prop) (mg : Str → Option Value) (base : Heap) (k : Nat) (x : Str) (dsp : DSp) : Prop := C8.Cal P w K mg base k x (spD K T dsp) []
abbrev CalP (P : Program) (w : World) (K : PySem.W.Frag) (T : Addr → Prop) (mg : Str → Option Value) (base : Heap) (k : Nat) (x : Str) (ps : PSp) : Prop := CalD P w K T mg base k x (psp ps)
theorem dpe_callP (c : CalP X.prog X.w X.K Ξ.T X.mg X.base k x P) (hr : Room j X.A) (hk : k ≤ j) (hg : Gl X x) (ha : DPA X Ξ (e :: es) da)
    (hdb : (x == ("__debug__" : Str)) = false := by decide) (he : starEach (e :: es) X.env = (false, eval e X.env) :: starEach es X.env := by rfl) (hpl : (backTo pos (starEach es X.env)).any (·.1) = false := by rfl) :
    DPE X Ξ (.Call (.Name x p) (e :: es) [] pos) (dCallP P da) := ⟨fun F ok => PE.imp (C8.pe_c c hr hk hg (ha.run F ok) hdb he hpl) fun σ H Q h => by
  obtain ⟨B, m, S, env, Kp, cf, er, h, kw⟩ := h
  refine ⟨B, m, S, env, _, cf, er, h, fun ws S1 h0 vs H1 B1 m1 n1 r => ?_⟩
  obtain ⟨ds, e1, h1⟩ := onO_ex h0
  replace e1 := fzL_eq e1
  show spD X.K Ξ.T (psp P) (vs ++ []) H1 Q E0
  rw [← ok.t]
  rw [List.append_nil]
  subst e1
  have c0 := n1.cf.lend (k := 0) (lent := []) (Nat.zero_le _) rfl
  refine ⟨B1, m1.take 0, ds.map W.fz, [], PK Kp S1, c0, (r.fz).fz, ⟨ds, rfl, rfl, h1⟩, fun w S2 h2 v H2 B2 m2 n2 r2 => ?_⟩
  · obtain ⟨d, ew, eS, h2⟩ := PK_ok h2
    subst eS; subst ew
    have n3 := n1.cf.back (Nat.zero_le _) n2
    have e3 : mrg 0 S1 [] = S1 := by unfold mrg; simp
    rw [e3] at n3
    cases r2 with
    | fz r2 => exact kw _ _ h2 _ _ _ _ (n1.trans n3) (.fz r2)⟩
end
end DL
namespace DL
open PySem PySem.Spec PyProof.Rows L2

def startD (N : List Str) (ws : List W) : En := ws.map some ++ List.replicate (N.length - ws.length) none
section
variable {K : PySem.W.Frag} {F : Fx} {B B' : Hp} {m m' : List Addr} {S S' : Sto} {H H' : Hp}
theorem ER.start {N : List Str} {ws : List W} {vs : List V} (r : RWL K B m ws vs) : ER K B m (startD N ws) (L2.start N vs) := by
  have hl := r.length
  refine ⟨by simp [startD, L2.start, hl], fun i w e => ?_⟩
  unfold startD at e
  by_cases h : i < ws.length
  · rw [List.getElem?_append_left (by simpa using h), List.getElem?_map] at e
    cases q : ws[i]? with
    | none => rw [q] at e; cases e
    | some w' =>
      rw [q] at e
      cases e
      obtain ⟨v, h1, h2⟩ := r.get q
      refine ⟨v, ?_, h2⟩
      unfold L2.start
      rw [List.getElem?_append_left (by rw [List.length_map, ← hl]; exact h), List.getElem?_map, h1]
      rfl
  · rw [List.getElem?_append_right (by simpa using h), List.getElem?_replicate] at e
    split at e <;> cases e
mutual
def bdW (n : Nat) : W → Bool
  | .fz _ => true
  | .hd j => decide (j < n)
  | .tp ws => bdL n ws
  | .xo _ _ _ => true
def bdL (n : Nat) : List W → Bool
  | [] => true
  | w :: ws => bdW n w && bdL n ws
end
def bdO (n : Nat) : OD → Bool
  | .lst ws => bdL n ws
  | .dic kvs => kvs.all fun p => bdW n p.2
  | .ins _ fs => fs.all fun p => bdW n p.2
  | .gone => true
mutual
theorem RW.cut {n : Nat} : ∀ {w : W} {v : V}, bdW n w = true → RW K B m w v → RW K B (m.take n) w v
  | .fz d, _, _, .fz r => .fz r
  | .hd j, _, h, .hd e => .hd (by rw [List.getElem?_take_of_lt (of_decide_eq_true h)]; exact e)
  | .tp ws, _, h, .tp s r => .tp s (RWL.cut h r)
  | .xo _ _ _, _, _, .xo e0 e r => .xo e0 e r
theorem RWL.cut {n : Nat} : ∀ {ws : List W} {vs : List V}, bdL n ws = true → RWL K B m ws vs → RWL K B (m.take n) ws vs
  | [], _, _, .nil => .nil
  | w :: ws, _, h, .cons r t => by
    unfold bdL at h
    rw [Bool.and_eq_true] at h
    exact .cons (RW.cut h.1 r) (RWL.cut h.2 t)
end
theorem Paired.mapA {α β : Type} {R R' : α → β → Prop} : ∀ {xs : List α} {ys : List β}, (∀ a ∈ xs, ∀ b, R a b → R' a b) → Paired R xs ys → Paired R' xs ys
  | _, _, _, .nil => .nil
  | _, _, h, .cons r t => .cons (h _ List.mem_cons_self _ r) (Paired.mapA (fun a ha => h a (List.mem_cons_of_mem _ ha)) t)
theorem RO.cut {n : Nat} : ∀ {od : OD} {o : HO}, bdO n od = true → RO K B m od o → RO K B (m.take n) od o
  | .lst _, _, h, ⟨vs, e, r⟩ => ⟨vs, e, r.cut h⟩
  | .dic _, _, h, ⟨vs, e, r⟩ => ⟨vs, e, Paired.mapA (fun a ha _ q => ⟨q.1, q.2.cut (List.all_eq_true.mp h a ha)⟩) r⟩
  | .ins _ _, _, h, ⟨dx, vs, e, r⟩ => ⟨dx, vs, e, Paired.mapA (fun a ha _ q => ⟨q.1, q.2.cut (List.all_eq_true.mp h a ha)⟩) r⟩
  | .gone, _, _, _ => trivial
theorem take_sub {n i : Nat} {a : Addr} (h : (m.take n)[i]? = some a) : m[i]? = some a ∧ i < n := by
  have := (List.getElem?_eq_some_iff.mp h).1
  rw [List.length_take] at this
  rw [List.getElem?_take_of_lt (by omega)] at h
  exact ⟨h, by omega⟩
theorem Cf.cut {S1 S2 : Sto} (c : Cf K F B m (S1 ++ S2) H) (hl : F.L.length ≤ S1.length) (hb : S1.all (bdO S1.length) = true) : Cf K F B (m.take S1.length) S1 H := by
  have hm := c.len
  rw [List.length_append] at hm
  refine ⟨c.b0, c.sub, c.bnew, c.fr, c.dom, by rw [List.length_take]; omega, fun n a e => ?_, fun n a e => c.new n a (take_sub e).1, fun i j a e1 e2 => c.nd i j a (take_sub e1).1 (take_sub e2).1, fun n a od e1 e2 => ?_, fun q tq => let ⟨g1, g2, g3⟩ := c.tab q tq; ⟨g1, g2, fun n e => g3 n (take_sub e).1⟩⟩
  · have := (List.getElem?_eq_some_iff.mp e).1
    rw [List.getElem?_take_of_lt (by omega)]
    exact c.pre n a e
  · obtain ⟨e1, hn⟩ := take_sub e1
    obtain ⟨o, h1, h2, h3⟩ := c.own n a od e1 (by rw [List.getElem?_append_left hn]; exact e2)
    exact ⟨o, h1, h2.cut (List.all_eq_true.mp hb od (List.mem_of_getElem? e2)), h3⟩
end
theorem Nx.cut {K : PySem.W.Frag} {F : Fx} {B B' : Hp} {m m' : List Addr} {H H' : Hp} {S1 S2 : Sto} (n : Nx K F B m H B' m' (S1 ++ S2) H') (hl : F.L.length ≤ S1.length) (hb : S1.all (bdO S1.length) = true) (hm : m.length ≤ S1.length) :
    Nx K F B m H B' (m'.take S1.length) S1 H' :=
  ⟨n.cf.cut hl hb, n.sb, fun i a q => by
    rw [List.getElem?_take_of_lt (by have := (List.getElem?_eq_some_iff.mp q).1; omega)]; exact n.pr i a q, n.kp, fun i a q => n.nw i a (take_sub q).1, n.dm, n.bn⟩
def fin (l : Nat) (Kp : WK) : WK := fun w S' => ∃ S1 S2, S' = S1 ++ S2 ∧ l ≤ S1.length ∧ bdW S1.length w = true ∧ S1.all (bdO S1.length) = true ∧ Kp w S1
section
variable {P : Program} {w : World} {K : PySem.W.Frag} {T : Addr → Prop} {mg : Str → Option Value} {base : Heap}
theorem Cf.freeze {F : Fx} {B : Hp} {m : List Addr} {S : Sto} {H : Hp} (c : Cf K F B m S H) (hL : F.L = []) {w : W} {v : V} {d : D} (r : RW K B m w v) (h : dW S w = some d) : ∃ B', Cf K F B' [] [] H ∧ Sub B B' ∧ Rp K B' d v := by
  have c0 : Cf K F B (m.take 0) [] H := Cf.cut (S1 := []) (S2 := S) c (by rw [hL]; exact Nat.le_refl _) rfl
  rw [List.take_zero] at c0
  unfold dW at h
  split at h
  · cases h
    cases r with
    | fz r => exact ⟨B, c0, .refl, r⟩
  · split at h
    · rename_i n _ ws e
      cases q : fzL ws with
      | none => rw [q] at h; cases h
      | some ds =>
        rw [q] at h
        cases h
        obtain ⟨a, vs, e1, em, h1, h2⟩ := c.lst r e
        subst e1
        have nB : B a = none := by
          obtain ⟨_, _, _, g⟩ := c.own n a _ em e
          exact g fun z => nomatch z
        have sb : Sub B (upd B a (.lst vs)) := fun x u y => by rw [upd_ne (ne_of_none y nB)]; exact y
        have nH : F.H a = none := by
          rcases c.new n a em with z | z
          · rw [hL] at z; simp at z
          · exact z
        refine ⟨upd B a (.lst vs), ⟨c.b0.trans sb, fun x u y => ?_, fun x u y => ?_, c.fr, c.dom, rfl, c0.pre, c0.new, c0.nd, c0_own, fun q tq => let ⟨g1, g2, g3⟩ := c.tab q tq; ⟨g1, by rw [upd_ne (fun z => g3 n (by rw [z]; exact em))]; exact g2, fun i e => by simp at e⟩⟩, sb, ?_⟩
        · by_cases z : x = a
          · subst z; rw [upd_same] at y; cases y; exact h1
          · rw [upd_ne z] at y; exact c.sub _ _ y
        · by_cases z : x = a
          · subst z; exact .inr nH
          · rw [upd_ne z] at y; exact c.bnew _ _ y
        · rw [fzL_eq q] at h2
          exact .lst upd_same ((h2.mono sb .refl).fz)
    · cases h
  · cases h
  · cases h
where c0_own {B : Hp} {H : Hp} : ∀ (n : Nat) (a : Addr) (od : OD), ([] : List Addr)[n]? = some a → ([] : Sto)[n]? = some od → ∃ o, H a = some o ∧ RO K B [] od o ∧ (od ≠ .gone → B a = none) := fun n a od h => by simp at h
theorem calp {x : Str} {st : Stmt} {f : Addr} {fd : FuncData} {N ps : List Str} {k : Nat} {Q : PSp} {ds : DS} (F : C8.Def K mg x st f fd) (b : Binds K fd ps []) (S : FnScope N ps (C8.fnScope st))
    (len : ∀ xs Kp, Q xs Kp → xs.length = ps.length)
    (hbody : ∀ (cdv : Value) (A : Around) (outer : List Env) (s : Shared) (H : Hp) (E : XK), Room k (A.deeper (envOfC x (C8.fnScope st) s.heap.objs.size f cdv)) → DPSs (cxOf CX0 P w K mg base N x (C8.fnScope st) f cdv A outer s H E).nox (Xt.of T) (C8.fnBody st) ds)
    (hread : ∀ xs Kp, Q xs Kp → ds ⟨fun _ _ => Kp .non, fun u S' => onO (dW S' u) fun d => Kp d, fun _ _ => False, fun _ _ => False⟩ (startD N (xs.map W.fz)) []) : CalP P w K T mg base (k + 1) x Q := by
  refine C8.cal0 F b .nil S (fun vs H Q' E ⟨B, L, ws, lent, Kp, _, r, ⟨xs, e, _, h⟩, _⟩ => by rw [← r.length, e, List.length_map]; exact len _ _ h) fun cdv A outer s H vs Q' E hr ⟨B, L, ws, lent, Kp, c, r, ⟨xs, e, e2, h⟩, kw⟩ => ?_
  subst e; subst e2
  have hL : L = [] := List.eq_nil_of_length_eq_zero c.len
  subst hL
  refine ⟨_, (hbody cdv A outer s H E hr).run ⟨B, H, [], T⟩ (.of rfl), B, [], [], _, _, c, ER.start r, hread xs _ h, ?_, ?_, fun _ _ z => z.elim, fun _ _ z => z.elim⟩
  · rintro env S' hk σ' H' B' m' n er
    have n2 := Nx.cut (S1 := []) (S2 := S') n (Nat.le_refl _) rfl (Nat.le_refl _)
    rw [List.length_nil, List.take_zero] at n2
    exact kw _ _ hk _ _ _ _ n2 (.fz .non)
  · rintro u S' hk v H' B' m' n r'
    obtain ⟨d, hd, hk⟩ := onO_ex hk
    obtain ⟨B2, c2, sb2, r2⟩ := n.cf.freeze rfl r' hd
    exact kw _ _ hk _ _ _ _ ⟨c2, n.sb.trans sb2, .refl, n.kp, fun _ _ h => .inl h, n.dm, fun a o e => (c2.bnew a o e).imp id .inl⟩ (.fz r2)
theorem CalP.imp {k : Nat} {x : Str} {Q Q' : PSp} (c : CalP P w K T mg base k x Q) (h : ∀ xs Kp, Q' xs Kp → Q xs Kp) : CalP P w K T mg base k x Q' := by
  obtain ⟨f, fd, ps, ds, F, r⟩ := c.ex
  exact ⟨f, fd, ps, ds, F.imp fun vs H Q E ⟨B, L, ws, lent, Kp, c, rr, ⟨xs, e, e2, hq⟩, kw⟩ => ⟨B, L, ws, lent, Kp, c, rr, ⟨xs, e, e2, h _ _ hq⟩, kw⟩, r⟩
theorem CalP.mono {j k : Nat} {x : Str} {Q : PSp} (c : CalP P w K T mg base k x Q) (h : k ≤ j) : CalP P w K T mg base j x Q := by
  obtain ⟨f, fd, ps, ds, F, r⟩ := c.ex
  exact ⟨f, fd, ps, ds, F.mono h, r⟩
theorem CalD.imp {k : Nat} {x : Str} {Q Q' : DSp} (c : CalD P w K T mg base k x Q) (h : ∀ xs S Kp, Q' xs S Kp → Q xs S Kp) : CalD P w K T mg base k x Q' := by
  obtain ⟨f, fd, ps, ds, F, r⟩ := c.ex
  exact ⟨f, fd, ps, ds, F.imp fun vs H Q E ⟨B, L, ws, lent, Kp, c, rr, hq, kw⟩ => ⟨B, L, ws, lent, Kp, c, rr, h _ _ _ hq, kw⟩, r⟩
theorem CalD.mono {j k : Nat} {x : Str} {Q : DSp} (c : CalD P w K T mg base k x Q) (h : k ≤ j) : CalD P w K T mg base j x Q := by
  obtain ⟨f, fd, ps, ds, F, r⟩ := c.ex
  exact ⟨f, fd, ps, ds, F.mono h, r⟩
end

def dCB (dr : DRL) (da : DA) : DE := fun env S Kp => da env S fun ws S1 => dr ws S1 Kp
def lenW : DRL := fun ws S Kp => match ws with
  | [.fz (.str z)] => z.length ≤ sizeLine ∧ Kp (.fz (.int (z.length : Int))) S
  | [x] => onO (vS S x) fun ws => Kp (.fz (.int (ws.length : Int))) S
  | _ => False
def intW1 : DRL := fun ws S Kp => match ws with
  | [.fz (.int i)] => Kp (.fz (.int i)) S
  | [.fz (.bl b)] => Kp (.fz (.int (if b then 1 else 0))) S
  | _ => False
def vSq (S : Sto) (w : W) : Option (List W) := match w with
  | .fz (.scr ns) => some (ns.map fun n => .fz (.int n))
  | w => vS S w
def listW (own : Bool) : DRL := fun ws S Kp => match ws with
  | [x] => onO (vSq S x) fun xs => newL own xs S Kp
  | _ => False
def tupleW : DRL := fun ws S Kp => match ws with
  | [x] => onO (vS S x) fun xs => Kp (mkT xs) S
  | _ => False
def tyW (S : Sto) : W → Option Ty
  | .fz .non => some .non
  | .fz (.bl _) => some .bool
  | .fz (.int _) => some .int
  | .fz (.str _) => some .str
  | .fz (.tup _) => some .tuple
  | .fz (.lst _) => some .list
  | .fz (.obj _ _) => none
  | .fz (.scr _) => none
  | .fz (.ty _) => none
  | .tp _ => some .tuple
  | .xo _ _ _ => none
  | .hd n => match S[n]? with
    | some (.lst _) => some .list
    | some (.dic _) => some .dict
    | _ => none
def isTy : Ty → Ty → Bool
  | .non, .non => true
  | .bool, .bool => true
  | .bool, .int => true
  | .int, .int => true
  | .str, .str => true
  | .tuple, .tuple => true
  | .list, .list => true
  | .dict, .dict => true
  | _, _ => false
theorem kitB_isTy (t T : Ty) (h : T ≠ .non) : kitB t.name T.name = some (isTy t T) := by
  cases T with
  | non => exact absurd rfl h
  | bool => cases t <;> decide +kernel
  | int => cases t <;> decide +kernel
  | str => cases t <;> decide +kernel
  | tuple => cases t <;> decide +kernel
  | list => cases t <;> decide +kernel
  | dict => cases t <;> decide +kernel
def isiW : DRL := fun ws S Kp => match ws with
  | [_, .fz (.ty .non)] => False
  | [x, .fz (.ty T)] => onO (tyW S x) fun t => Kp (.fz (.bl (isTy t T))) S
  | _ => False
section
variable {X : Cx} {Ξ : Xt} {x : Str} {p pos : Pos} {e : Expr} {es : List Expr} {da : DA} {id T : String} {dr : DRL}
theorem imp_CB {K : PySem.W.Frag} {F : Fx} (σ : L2.St) (H : Hp) (Q : VK) (h : lE K F (dCB dr da) σ H Q) : tCB (lRL K F dr) (lA K F da) σ H Q := by
  obtain ⟨B, m, S, env, Kp, cf, er, h, kw⟩ := h
  exact ⟨B, m, S, env, _, cf, er, h, fun ws S1 h1 vs H1 B1 m1 n1 r => ⟨B1, m1, S1, ws, Kp, n1.cf, r, h1, kw.nx n1⟩⟩
theorem dpe_callB (hc : CallD X (.builtin id) dr) (hg : Gl X x) (hm : X.mg x = none) (hv : bootBuiltins x = some (.builtin id)) (ha : DPA X Ξ (e :: es) da) (hn : x ≠ "__name__" := by decide) (hdb : (x == ("__debug__" : Str)) = false := by decide)
    (he : starEach (e :: es) X.env = (false, eval e X.env) :: starEach es X.env := by rfl) (hpl : (backTo pos (starEach es X.env)).any (·.1) = false := by rfl) : DPE X Ξ (.Call (.Name x p) (e :: es) [] pos) (dCB dr da) :=
  ⟨fun F ok => PE.imp (pe_callB (hc F) hg hm hv (ha.run F ok) hn hdb he hpl) imp_CB⟩
theorem dpe_callTy (hc : CallD X (.type T) dr) (hg : Gl X x) (hm : X.mg x = none) (hv : bootBuiltins x = some (.type T)) (ha : DPA X Ξ (e :: es) da) (hn : x ≠ "__name__" := by decide) (hdb : (x == ("__debug__" : Str)) = false := by decide)
    (he : starEach (e :: es) X.env = (false, eval e X.env) :: starEach es X.env := by rfl) (hpl : (backTo pos (starEach es X.env)).any (·.1) = false := by rfl) : DPE X Ξ (.Call (.Name x p) (e :: es) [] pos) (dCB dr da) :=
  ⟨fun F ok => PE.imp (pe_callTy (hc F) hg hm hv (ha.run F ok) hn hdb he hpl) imp_CB⟩
theorem RWL.one {K : PySem.W.Frag} {B : Hp} {m : List Addr} {w : W} {vs : List V} (r : RWL K B m [w] vs) : ∃ v, vs = [v] ∧ RW K B m w v := by
  cases r with
  | cons r t => cases t; exact ⟨_, rfl, r⟩
theorem RWL.two {K : PySem.W.Frag} {B : Hp} {m : List Addr} {w u : W} {vs : List V} (r : RWL K B m [w, u] vs) : ∃ v y, vs = [v, y] ∧ RW K B m w v ∧ RW K B m u y := by
  cases r with
  | cons r t => cases t with | cons r2 t => cases t; exact ⟨_, _, rfl, r, r2⟩
theorem cd_len : CallD X (.builtin "len") lenW := fun F => CallR.imp call_len fun xs H Q ⟨B, m, S, ws, Kp, cf, r, h, k⟩ => by
  unfold lenW at h
  split at h
  · obtain ⟨v, e, rv⟩ := r.one
    subst e
    rw [rv.str_of]
    exact ⟨_, _, rfl, ⟨h.1, rfl⟩, k.here cf h.2 (.fz .int)⟩
  · obtain ⟨v, e, rv⟩ := r.one
    subst e
    obtain ⟨ws, q, h⟩ := onO_ex h
    obtain ⟨a, vs, ea, hs, rr⟩ := vS_ok cf rv q
    subst ea
    refine ⟨.ref a, ws.length, rfl, ?_, k.here cf h (.fz .int)⟩
    rcases hs with hs | hs
    · exact .inl ⟨vs, hs, rr.length⟩
    · exact .inr ⟨vs, hs, rr.length⟩
  · exact h.elim
theorem cd_int : CallD X (.type "int") intW1 := fun F => CallR.imp call_int1 fun xs H Q ⟨B, m, S, ws, Kp, cf, r, h, k⟩ => by
  unfold intW1 at h
  split at h
  · obtain ⟨v, e, rv⟩ := r.one
    subst e
    rw [rv.int_of]
    exact .inl ⟨_, rfl, k.here cf h (.fz .int)⟩
  · obtain ⟨v, e, rv⟩ := r.one
    subst e
    rw [rv.bl_of]
    exact .inr ⟨_, rfl, k.here cf h (.fz .int)⟩
  · exact h.elim
theorem rwl_ints {K : PySem.W.Frag} {B : Hp} {m : List Addr} : ∀ ns : List Int, RWL K B m (ns.map fun n => .fz (.int n)) (ns.map V.int)
  | [] => .nil
  | _ :: ns => .cons (.fz .int) (rwl_ints ns)
theorem cd_list (own : Bool) : CallD X (.type "list") (listW own) := fun F => CallR.imp call_list_of fun xs H Q ⟨B, m, S, ws, Kp, cf, r, h, k⟩ => by
  unfold listW at h
  split at h
  rotate_left
  · exact h.elim
  obtain ⟨zs, hv, h⟩ := onO_ex h
  obtain ⟨v, e, rv⟩ := r.one
  subst e
  unfold vSq at hv
  split at hv
  · rename_i ns
    cases hv
    cases rv with | fz rv => cases rv with | scr hs =>
      exact ⟨_, _, rfl, .inl (cf.sub.seqL hs), fun l hl => newL_ok cf (rwl_ints ns) h k hl⟩
  · obtain ⟨a, vs, ea, hs, rr⟩ := vS_ok cf rv hv
    subst ea
    exact ⟨a, vs, rfl, hs, fun l hl => newL_ok cf rr h k hl⟩
theorem cd_tuple : CallD X (.type "tuple") tupleW := fun F => CallR.imp call_tuple_of fun xs H Q ⟨B, m, S, ws, Kp, cf, r, h, k⟩ => by
  unfold tupleW at h
  split at h
  rotate_left
  · exact h.elim
  obtain ⟨zs, hv, h⟩ := onO_ex h
  obtain ⟨v, e, rv⟩ := r.one
  subst e
  unfold vS at hv
  split at hv
  · rename_i ws' e2
    cases hv
    obtain ⟨a, vs, ea, hs, rr⟩ := vT_ok rv e2
    subst ea
    exact ⟨a, vs, rfl, .inr ⟨cf.sub.seqT hs, k.here cf h (mkT_ok rr hs)⟩⟩
  · obtain ⟨a, vs, ea, hs, rr⟩ := vL_ok cf rv hv
    subst ea
    refine ⟨a, vs, rfl, .inl ⟨.of hs, fun l hl => ?_⟩⟩
    have n2 := cf.alloc (o := .tup vs) hl
    exact k _ _ h _ _ _ _ n2 (mkT_ok (rr.nx n2) (.of upd_same))
theorem Rd.tyT {K : PySem.W.Frag} {H : Hp} {a : Addr} {vs : List V} (h : SqT K H a vs) : TyX K H (.ref a) (.type "tuple") := by
  rcases h with (h | ⟨o, h⟩) | ⟨o, its, n, h, c, _⟩
  · exact .base (.tup h)
  · exact .fTuple h
  · exact .kTuple h c
theorem tyW_ok {K : PySem.W.Frag} {F : Fx} {B : Hp} {m : List Addr} {S : Sto} {H : Hp} (c : Cf K F B m S H) {w : W} {v : V} {t : Ty} (r : RW K B m w v) (h : tyW S w = some t) : TyX K H v (.type t.name) := by
  unfold tyW at h
  split at h
  · cases h; cases r with | fz r => cases r; exact .base .non
  · cases h; cases r with | fz r => cases r; exact .base (.bl _)
  · cases h; cases r with | fz r => cases r; exact .base (.int _)
  · cases h; cases r with | fz r => cases r; exact .base (.str _)
  · cases h; cases r with | fz r => cases r with | tup s _ => exact Rd.tyT (c.sub.seqT s)
  · cases h; cases r with | fz r => cases r with | lst s _ => exact .base (.lst (c.sub _ _ s))
  · cases h
  · cases h
  · cases h
  · cases h; cases r with | tp s _ => exact Rd.tyT (c.sub.seqT s)
  · cases h
  · split at h
    · rename_i e
      cases h
      obtain ⟨a, vs, ea, _, hs, _⟩ := c.lst r e
      subst ea
      exact .base (.lst hs)
    · rename_i e
      cases h
      cases r with
      | hd e1 =>
        obtain ⟨o, h1, ⟨vs, h2, h3⟩, _⟩ := c.own _ _ _ e1 e
        subst h2
        exact .base (.dK h1)
    · cases h
theorem cd_isi : CallD X (.builtin "isinstance") isiW := fun F => CallR.imp call_isi fun xs H Q ⟨B, m, S, ws, Kp, cf, r, h, k⟩ => by
  unfold isiW at h
  split at h
  · exact h.elim
  · rename_i x T hn
    obtain ⟨t, ht, h⟩ := onO_ex h
    obtain ⟨v, c, e, rv, rc⟩ := r.two
    subst e
    cases rc with | fz rc => cases rc with | ty =>
      exact ⟨v, _, _, _, _, rfl, .ty T.name, tyW_ok cf rv ht, kit_ty (kitB_isTy t T fun z => hn z), k.here cf h (.fz .bl)⟩
  · exact h.elim
theorem dpe_ty {n : Ty} (hg : Gl X x) (hm : X.mg x = none) (hv : bootBuiltins x = some (.type n.name)) (hn : x ≠ "__name__" := by decide) (hd : (x == ("__debug__" : Str)) = false := by decide) : DPE X Ξ (.Name x pos) (dC (.ty n)) :=
  dpe_of_tC (v := .ty n.name) (pe_bltn hg hm hv rfl hn hd) fun _ _ => .ty
theorem dpe_gint {i : Int} (hg : Gl X x) (h : ∃ t, X.mg x = some (.int i t)) (hd : (x == ("__debug__" : Str)) = false := by decide) : DPE X Ξ (.Name x pos) (dC (.int i)) := by
  obtain ⟨t, hm⟩ := h
  exact dpe_of_tC (v := .int i) (pe_glob hg hm ⟨_, rfl⟩ hd) fun _ _ => .int
theorem dpe_gstr {i : Str} (hg : Gl X x) (h : ∃ t, X.mg x = some (.str i t)) (hd : (x == ("__debug__" : Str)) = false := by decide) : DPE X Ξ (.Name x pos) (dC (.str i)) := by
  obtain ⟨t, hm⟩ := h
  exact dpe_of_tC (v := .str i) (pe_glob hg hm ⟨_, rfl⟩ hd) fun _ _ => .str
end
end DL
namespace DL
open PySem PySem.Spec PyProof.Rows L2

def lstAt (S : Sto) (n : Nat) : Option (List W) := match S[n]? with
  | some (.lst xs) => some xs
  | _ => none
theorem lstAt_eq {S : Sto} {n : Nat} {xs : List W} (h : lstAt S n = some xs) : S[n]? = some (.lst xs) := by
  unfold lstAt at h
  split at h
  · cases h; assumption
  · cases h
def dApp (de : DE) (da : DA) : DE := fun env S Kp => de env S fun x S1 => match x with
  | .hd n => onO (lstAt S1 n) fun _ => da env S1 fun ws S2 => match ws with
    | [w] => onO (lstAt S2 n) fun ys => ys.length < sizeLine ∧ Kp (.fz .non) (S2.set n (.lst (ys ++ [w])))
    | _ => False
  | _ => False
section
variable {X : Cx} {Ξ : Xt} {o e : Expr} {es : List Expr} {de dl dh : DE} {da : DA} {pos apos p2 : Pos}
theorem dpe_append {name : Str} (hname : name = "append") (ho : DPE X Ξ o de) (ha : DPA X Ξ [e] da)
    (hbase : attributeBase o name X.env (eval o X.env) = eval o X.env := by rfl)
    (hfew : ((backTo pos (starEach [e] X.env)).all (fun x => !x.1) && (backToKw pos (keywordEach [] X.env)).all (fun x => x.1.isSome)
      && decide (([e] : List Expr).length + ([] : List Keyword).length + (if ([] : List Keyword).isEmpty then 0 else 1) < 30)) = true := by rfl)
    (hline : (apos.endLine == pos.line) = true := by rfl) (hs : starEach [e] X.env = (false, eval e X.env) :: starEach [] X.env := by rfl) (hplain : (backTo pos (starEach [] X.env)).any (·.1) = false := by rfl) :
    DPE X Ξ (.Call (.Attribute o name apos) [e] [] pos) (dApp de da) := by
  subst hname
  refine ⟨fun F ok => PE.imp (pe_bm PySem.F.plainAttrs_list PySem.F.slot_list_append PySem.F.type_list_append mt_append (ho.run F ok) (ha.run F ok) hbase hfew hline hs hplain) fun σ H Q ⟨B, m, S, env, Kp, cf, er, h, k⟩ => ?_⟩
  refine ⟨B, m, S, env, _, cf, er, h, fun x S1 h1 v H1 B1 m1 n1 r => ?_⟩
  split at h1
  rotate_left
  · exact h1.elim
  obtain ⟨xs, e2, h1⟩ := onO_ex h1
  replace e2 := lstAt_eq e2
  obtain ⟨a, vs, ea, em, hs1, _⟩ := n1.cf.lst r e2
  subst ea
  refine ⟨.inl ⟨rfl, vs, .of hs1⟩, B1, m1, S1, env, _, n1.cf, er.nx n1, h1, fun ws S2 h2 us H2 B2 m2 n2 r2 => ?_⟩
  split at h2
  rotate_left
  · exact h2.elim
  rename_i w
  obtain ⟨ys, e4, hz, h2⟩ := onO_ex h2
  replace e4 := lstAt_eq e4
  obtain ⟨u, eu, ru⟩ := r2.one
  subst eu
  obtain ⟨a', vs2, ea2, em2, hs2, rr⟩ := n2.cf.lst (r.nx n2) e4
  cases ea2
  have n3 := n2.cf.write (o := .lst (vs2 ++ [u])) (od := .lst (ys ++ [w])) em2 e4 (fun z => nomatch z) ⟨_, rfl, rr.append (.cons ru .nil)⟩
  exact ⟨a, vs2, u, rfl, rfl, hs2, by rw [← rr.length]; exact hz, k _ _ h2 _ _ _ _ (n1.trans (n2.trans n3)) (.fz .non)⟩
structure DPO (X : Cx) (Ξ : Xt) (e : Option Expr) (dt : En → Sto → (Option Int → Sto → Prop) → Prop) : Prop where
  run : ∀ F : Fx, Okf X Ξ F → PO X e fun σ H Q => ∃ (B : Hp) (m : List Addr) (S : Sto) (env : En) (Kp : Option Int → Sto → Prop), Cf X.K F B m S H ∧ ER X.K B m env σ ∧ dt env S Kp ∧
    ∀ (i : Option Int) (S' : Sto), Kp i S' → ∀ (H' B' : Hp) (m' : List Addr), Nx X.K F B m H B' m' S' H' → Q i H'
abbrev DO := En → Sto → (Option Int → Sto → Prop) → Prop
def dNoP : DO := fun _ S Kp => Kp none S
def dPrt (de : DE) : DO := fun env S Kp => de env S fun w S1 => match w with
  | .fz (.int i) => Kp (some i) S1
  | _ => False
theorem PO.imp {e : Option Expr} {t t' : TO} (h : PO X e t) (g : ∀ σ H Q, t' σ H Q → t σ H Q) : PO X e t' := ⟨fun pins s σ H Q I q => h.run pins s σ H Q I (g _ _ _ q)⟩
theorem dpo_none : DPO X Ξ none dNoP := ⟨fun F ok => PO.imp po_none fun σ H Q ⟨B, m, S, env, Kp, cf, er, h, k⟩ => k _ _ h _ _ _ cf.nx⟩
theorem dpo_some (h : DPE X Ξ e de) : DPO X Ξ (some e) (dPrt de) := ⟨fun F ok => PO.imp (po_some (h.run F ok)) fun σ H Q ⟨B, m, S, env, Kp, cf, er, h, k⟩ =>
  ⟨B, m, S, env, _, cf, er, h, fun w S1 h1 v H1 B1 m1 n1 r => by
    split at h1
    · exact ⟨_, r.int_of, k _ _ h1 _ _ _ n1⟩
    · exact h1.elim⟩⟩
def cutL {α : Type} (xs : List α) (lo hi : Option Int) : List α := (xs.drop (HT.sIx xs.length 0 lo)).take (HT.sIx xs.length xs.length hi - HT.sIx xs.length 0 lo)
theorem RWL.cutL {K : PySem.W.Frag} {B : Hp} {m : List Addr} {ws : List W} {vs : List V} (r : RWL K B m ws vs) (lo hi : Option Int) : RWL K B m (DL.cutL ws lo hi) (cutV vs lo hi) := by
  unfold DL.cutL cutV
  rw [← r.length]
  exact (r.drop _).take _
def slW (own : Bool) (x : W) (lo hi : Option Int) (S : Sto) (Kp : WK) : Prop := match x with
  | .fz (.str z) => z.length ≤ sizeLine ∧ Kp (.fz (.str (Txt.slice z lo hi))) S
  | x => match vT x with
    | some ws => Kp (mkT (cutL ws lo hi)) S
    | none => onO (vL S x) fun ws => newL own (cutL ws lo hi) S Kp
def dSl (own : Bool) (de : DE) (dl dh : DO) : DE := fun env S Kp => de env S fun x S1 => dl env S1 fun lo S2 => dh env S2 fun hi S3 => slW own x lo hi S3 Kp
theorem cut_whole {α : Type} {xs : List α} {lo hi : Option Int} (h : HT.sIx xs.length 0 lo = 0 ∧ HT.sIx xs.length xs.length hi = xs.length) : cutL xs lo hi = xs := by
  unfold cutL
  rw [h.1, h.2]
  simp
theorem dpe_slice (own : Bool) {lo hi : Option Expr} {tl th : DO} (he : DPE X Ξ e de) (hl : DPO X Ξ lo tl) (hu : DPO X Ξ hi th) : DPE X Ξ (.Subscript e (.Slice lo hi none p2) pos) (dSl own de tl th) := ⟨fun F ok => PE.imp (pe_slice (SlR.or C8.sl_txt (SlR.or sl_tupA sl_list)) (he.run F ok) (hl.run F ok) (hu.run F ok)) fun σ H Q ⟨B, m, S, env, Kp, cf, er, h, k⟩ => by
  refine ⟨B, m, S, env, _, cf, er, h, fun x S1 h1 v H1 B1 m1 n1 r => ⟨B1, m1, S1, env, _, n1.cf, er.nx n1, h1, fun i S2 h2 H2 B2 m2 n2 => ⟨B2, m2, S2, env, _, n2.cf, er.nx (n1.trans n2), h2, fun j S3 h3 H3 B3 m3 n3 => ?_⟩⟩⟩
  have nn := n1.trans (n2.trans n3)
  have r3 := (r.nx n2).nx n3
  unfold slW at h3
  split at h3
  · exact .inl ⟨_, r3.str_of, h3.1, k _ _ h3.2 _ _ _ _ nn (.fz .str)⟩
  · split at h3
    · rename_i ws e1
      obtain ⟨a, vs, ea, ha, rr⟩ := vT_ok r3 e1
      have hl := rr.length
      refine .inr (.inl ⟨a, vs, ea, nn.cf.sub.seqT ha, fun hw => ?_, fun hw p hp => ?_⟩)
      · rw [cut_whole (by rw [hl]; exact hw)] at h3
        exact k _ _ h3 _ _ _ _ nn (mkT_ok rr ha)
      · have n4 := nn.cf.alloc (o := .tup (cutV vs i j)) hp
        exact k _ _ h3 _ _ _ _ (nn.trans n4) (mkT_ok ((rr.nx n4).cutL i j) (.of upd_same))
    · obtain ⟨ws, e1, h3⟩ := onO_ex h3
      obtain ⟨a, vs, ea, ha, rr⟩ := vL_ok nn.cf r3 e1
      exact .inr (.inr ⟨a, vs, ea, .of ha, fun p hp => newL_ok nn.cf (rr.cutL i j) h3 (k.nx nn) hp⟩)⟩
end

abbrev DI := En → Sto → (List W → Sto → Prop) → Prop
structure DIt (K : PySem.W.Frag) (F : Fx) (J : It) (ws : List W) (B : Hp) (m : List Addr) : Prop where
  stop : ∀ (B1 : Hp) (m1 : List Addr) (S1 : Sto) (H1 : Hp), Cf K F B1 m1 S1 H1 → Sub B B1 → Pre m m1 → J.stop ws.length H1
  go : ∀ (B1 : Hp) (m1 : List Addr) (S1 : Sto) (H1 : Hp), Cf K F B1 m1 S1 H1 → Sub B B1 → Pre m m1 → ∀ (i : Nat) (w : W), ws[i]? = some w → J.go i H1 ∧ ∀ x H', J.yld i H1 x H' → ∃ B', Nx K F B1 m1 H1 B' m1 S1 H' ∧ RW K B' m1 w x
def lI (K : PySem.W.Frag) (F : Fx) (di : DI) : TI := fun σ H R => ∃ (B : Hp) (m : List Addr) (S : Sto) (env : En) (Kp : List W → Sto → Prop), Cf K F B m S H ∧ ER K B m env σ ∧ di env S Kp ∧
  ∀ (ws : List W) (S' : Sto), Kp ws S' → ∀ (J : It) (H' B' : Hp) (m' : List Addr), Nx K F B m H B' m' S' H' → DIt K F J ws B' m' → R J H'
structure DPI (X : Cx) (Ξ : Xt) (tg e : Expr) (di : DI) : Prop where
  run : ∀ F : Fx, Okf X Ξ F → PI X tg e (lI X.K F di)
theorem PI.imp {X : Cx} {tg e : Expr} {t t' : TI} (h : PI X tg e t) (g : ∀ σ H Q, t' σ H Q → t σ H Q) : PI X tg e t' := ⟨fun pins s σ H Q I q => h.run pins s σ H Q I (g _ _ _ q)⟩
def iAny (K : PySem.W.Frag) (tl : TE) : TI := fun σ H R => tl σ H fun x H1 => (∃ a, x = .ref a ∧ (∃ xs, SqL K H1 a xs) ∧ R (Itl K a) H1) ∨ (∃ a, x = .ref a ∧ (∃ xs, SqT K H1 a xs) ∧ R (Itt K a) H1) ∨ ∃ z, x = .str z ∧ R (Its z) H1
theorem pi_any {X : Cx} {tg l : Expr} {tl : TE} (hl : PE X l tl) : PI X tg l (iAny X.K tl) := by
  refine ⟨fun pins s σ H R I h => ?_⟩
  refine thn (hl.run pins s σ H _ I h) fun v s1 ⟨x, H1, I1, r1, q1⟩ => ?_
  rcases q1 with ⟨a, e, ⟨xs, hq⟩, q⟩ | ⟨a, e, ⟨xs, hq⟩, q⟩ | ⟨z, e, q⟩
  · subst e
    cases r1
    obtain ⟨its, rv, p, hz⟩ := I1.list hq
    refine wpAny_pyIter_list p.isList ?_
    refine ⟨s1.heap.objs.size, [s1.heap.objs.size], _, _, H1, rfl, I1.kept (t' := s1.toks) fun b o e => Heap.get?_push_of_some _ e, turn_list a _, ⟨_, Heap.get?_push_size _ rfl, rfl, rfl⟩, fun b hb => ?_, q⟩
    have e : b = s1.heap.objs.size := by simpa using hb
    subst e
    exact I1.fpOk (Nat.le_refl _) (I1.hok.fresh (Nat.le_refl _))
  · subst e
    cases r1
    obtain ⟨its, rv, p, hz⟩ := I1.tuple hq
    refine wpAny_pyIter_tuple (show s1.heap.IsTuple a its.toArray from p) ?_
    refine ⟨s1.heap.objs.size, [s1.heap.objs.size], _, _, H1, rfl, I1.kept (t' := s1.toks) fun b o e => Heap.get?_push_of_some _ e, turn_tuple a _, ⟨_, Heap.get?_push_size _ rfl, rfl, rfl⟩, fun b hb => ?_, q⟩
    have e : b = s1.heap.objs.size := by simpa using hb
    subst e
    exact I1.fpOk (Nat.le_refl _) (I1.hok.fresh (Nat.le_refl _))
  · subst e
    obtain ⟨t, rfl⟩ := r1
    cases ha : z.cps.all (· < 128)
    · exact wpAny_pyIter_wide ha (pi_one (tk := s1.toks) I1 _ (turn_str _ z t "str_iterator" (.inr rfl)) ⟨_, Heap.get?_push_size _ rfl, rfl, rfl⟩ q)
    · exact wpAny_pyIter_ascii ha (pi_one (tk := s1.toks) I1 _ (turn_str _ z t "str_ascii_iterator" (.inl rfl)) ⟨_, Heap.get?_push_size _ rfl, rfl, rfl⟩ q)
def itW : W → Option (List W)
  | .fz (.lst ds) => some (ds.map .fz)
  | .fz (.tup ds) => some (ds.map .fz)
  | .fz (.str z) => some (z.cps.toList.map fun c => .fz (.str ⟨#[c]⟩))
  | .tp ws => some ws
  | _ => none
section
variable {K : PySem.W.Frag} {F : Fx} {B : Hp} {m : List Addr} {S : Sto} {H : Hp}
theorem dit_lst {a : Addr} {vs : List V} {ws : List W} (h : B a = some (.lst vs)) (r : RWL K B m ws vs) : DIt K F (Itl K a) ws B m := by
  refine ⟨fun B1 m1 S1 H1 c sb pr => ⟨vs, .of (c.sub _ _ (sb _ _ h)), by rw [r.length]; exact Nat.le_refl _⟩, fun B1 m1 S1 H1 c sb pr i w e => ?_⟩
  have h1 : SqL K H1 a vs := .of (c.sub _ _ (sb _ _ h))
  obtain ⟨v, e1, r1⟩ := r.get e
  refine ⟨⟨vs, v, h1, e1⟩, fun x H' ⟨e2, y⟩ => ?_⟩
  subst e2
  have e3 := y vs h1
  rw [e1] at e3
  cases e3
  exact ⟨B1, c.nx, r1.mono sb pr⟩
theorem dit_tup {a : Addr} {vs : List V} {ws : List W} (h : SqT K B a vs) (r : RWL K B m ws vs) : DIt K F (Itt K a) ws B m := by
  refine ⟨fun B1 m1 S1 H1 c sb pr => ⟨vs, c.sub.seqT (sb.seqT h), by rw [r.length]; exact Nat.le_refl _⟩, fun B1 m1 S1 H1 c sb pr i w e => ?_⟩
  have h1 : SqT K H1 a vs := c.sub.seqT (sb.seqT h)
  obtain ⟨v, e1, r1⟩ := r.get e
  refine ⟨⟨vs, v, h1, e1⟩, fun x H' ⟨e2, y⟩ => ?_⟩
  subst e2
  have e3 := y vs h1
  rw [e1] at e3
  cases e3
  exact ⟨B1, c.nx, r1.mono sb pr⟩
theorem dit_str {z : Str} : DIt K F (Its z) (z.cps.toList.map fun c => .fz (.str ⟨#[c]⟩)) B m := by
  refine ⟨fun B1 m1 S1 H1 c sb pr => ?_, fun B1 m1 S1 H1 c sb pr i w e => ?_⟩
  · show z.cps.size ≤ _
    rw [List.length_map, Array.length_toList]
    exact Nat.le_refl _
  · rw [List.getElem?_map] at e
    cases q : z.cps.toList[i]? with
    | none => rw [q] at e; cases e
    | some c =>
      rw [q] at e
      cases e
      rw [Array.getElem?_toList] at q
      refine ⟨(Array.getElem?_eq_some_iff.mp q).1, fun x H' ⟨e2, c', e3, e4⟩ => ?_⟩
      subst e2; subst e4
      rw [q] at e3
      cases e3
      exact ⟨B1, by assumption |> fun (h : Cf K F B1 m1 S1 _) => h.nx, .fz .str⟩
theorem dit_rng {lo : Int} {n : Nat} : DIt K F (Itr lo n) ((List.range n).map fun i => .fz (.int (lo + (i : Nat)))) B m := by
  refine ⟨fun B1 m1 S1 H1 c sb pr => ?_, fun B1 m1 S1 H1 c sb pr i w e => ?_⟩
  · show n ≤ _
    rw [List.length_map, List.length_range]
    exact Nat.le_refl _
  · rw [List.getElem?_map] at e
    cases q : (List.range n)[i]? with
    | none => rw [q] at e; cases e
    | some j =>
      rw [q] at e
      cases e
      obtain ⟨h1, h2⟩ := List.getElem?_eq_some_iff.mp q
      rw [List.length_range] at h1
      rw [List.getElem_range] at h2
      subst h2
      refine ⟨h1, fun x H' ⟨e2, e3⟩ => ?_⟩
      subst e2; subst e3
      exact ⟨B1, c.nx, .fz .int⟩
end
def dIter (de : DE) : DI := fun env S Kp => de env S fun w S1 => onO (itW w) fun ws => Kp ws S1
def dRng1 (da : DA) : DI := fun env S Kp => da env S fun ws S1 => match ws with
  | [.fz (.int j)] => (-(2 ^ 62) ≤ j ∧ j < 2 ^ 62) ∧ Kp ((List.range j.toNat).map fun i => .fz (.int (0 + (i : Nat)))) S1
  | _ => False
def dRng2 (da : DA) : DI := fun env S Kp => da env S fun ws S1 => match ws with
  | [.fz (.int i), .fz (.int j)] => (-(2 ^ 62) ≤ i ∧ i < 2 ^ 62 ∧ -(2 ^ 62) ≤ j ∧ j < 2 ^ 62) ∧ Kp ((List.range (j - i).toNat).map fun k => .fz (.int (i + (k : Nat)))) S1
  | _ => False
section
variable {X : Cx} {Ξ : Xt} {tg e a b : Expr} {de : DE} {da : DA} {p pos : Pos}
theorem dpi_any (he : DPE X Ξ e de) : DPI X Ξ tg e (dIter de) := ⟨fun F ok => PI.imp (pi_any (he.run F ok)) fun σ H R ⟨B, m, S, env, Kp, cf, er, h, k⟩ => by
  refine ⟨B, m, S, env, _, cf, er, h, fun w S1 h0 v H1 B1 m1 n1 r => ?_⟩
  obtain ⟨ws, e1, h1⟩ := onO_ex h0
  unfold itW at e1
  split at e1
  · cases e1
    cases r with | fz r => cases r with | lst s t => exact .inl ⟨_, rfl, ⟨_, .of (n1.cf.sub _ _ s)⟩, k _ _ h1 _ _ _ _ n1 (dit_lst s t.fz)⟩
  · cases e1
    cases r with | fz r => cases r with | tup s t => exact .inr (.inl ⟨_, rfl, ⟨_, n1.cf.sub.seqT s⟩, k _ _ h1 _ _ _ _ n1 (dit_tup s t.fz)⟩)
  · cases e1
    exact .inr (.inr ⟨_, r.str_of, k _ _ h1 _ _ _ _ n1 dit_str⟩)
  · cases e1
    cases r with | tp s t => exact .inr (.inl ⟨_, rfl, ⟨_, n1.cf.sub.seqT s⟩, k _ _ h1 _ _ _ _ n1 (dit_tup s t)⟩)
  · cases e1⟩
theorem dpi_range1 (hg : Gl X "range") (hm : X.mg "range" = none) (ha : DPA X Ξ [a] da) (hs : starEach [a] X.env = [(false, eval a X.env)] := by rfl) : DPI X Ξ tg (.Call (.Name "range" p) [a] [] pos) (dRng1 da) := ⟨fun F ok => PI.imp (pi_range1 hg hm (ha.run F ok) hs) fun σ H R ⟨B, m, S, env, Kp, cf, er, h, k⟩ => by
  refine ⟨B, m, S, env, _, cf, er, h, fun ws S1 h1 vs H1 B1 m1 n1 r => ?_⟩
  split at h1
  rotate_left
  · exact h1.elim
  obtain ⟨⟨l1, l2⟩, h1⟩ := h1
  obtain ⟨v, ev, rv⟩ := r.one
  subst ev
  exact ⟨_, by rw [rv.int_of], l1, l2, k _ _ h1 _ _ _ _ n1 dit_rng⟩⟩
theorem dpi_range2 (hg : Gl X "range") (hm : X.mg "range" = none) (ha : DPA X Ξ [a, b] da) (hs : starEach [a, b] X.env = [(false, eval a X.env), (false, eval b X.env)] := by rfl) (hs2 : starEach [b] X.env = [(false, eval b X.env)] := by rfl) :
    DPI X Ξ tg (.Call (.Name "range" p) [a, b] [] pos) (dRng2 da) := ⟨fun F ok => PI.imp (pi_range2 hg hm (ha.run F ok) hs hs2) fun σ H R ⟨B, m, S, env, Kp, cf, er, h, k⟩ => by
  refine ⟨B, m, S, env, _, cf, er, h, fun ws S1 h1 vs H1 B1 m1 n1 r => ?_⟩
  split at h1
  rotate_left
  · exact h1.elim
  obtain ⟨l1, h1⟩ := h1
  obtain ⟨v, u, ev, rv, ru⟩ := r.two
  subst ev
  exact ⟨_, _, by rw [rv.int_of, ru.int_of], l1, k _ _ h1 _ _ _ _ n1 dit_rng⟩⟩
end
def loop (g : DG) (tb : DS) (D : DEnds) : List W → En → Sto → Prop
  | [] => fun env S => D.nx env S
  | w :: ws => fun env S => g w env S fun env1 S1 => tb { D with nx := loop g tb D ws, ct := loop g tb D ws, bk := D.nx } env1 S1
def dFor (di : DI) (g : DG) (tb : DS) : DS := fun D env S => di env S fun ws S1 => loop g tb D ws env S1
theorem dps_for {X : Cx} {Ξ : Xt} {tg iter : Expr} {body : List Stmt} {di : DI} {g : DG} {tb : DS} {pos : Pos} (hp : PassesOwn (model X.prog X.w) X.A X.env X.xe) (hc : X.calm = true) (hi : DPI X Ξ tg iter di) (hg : DPG X Ξ tg g) (hb : DPSs X Ξ body tb)
    (hs : ∀ x, foldedSetIterable iter X.env x = pure x := by intro _; rfl) : DPS X Ξ (.For tg iter body [] pos) (dFor di g tb) := ⟨fun F ok => PS.imp (ps_for hp hc (hi.run F ok) (hg.run F ok) (hb.run F ok) hs) fun D σ H ⟨B, m, S, env, E, cf, er, h, k1, k2, k3, k4⟩ => by
  refine ⟨B, m, S, env, _, cf, er, h, fun ws S1 h1 J H1 B1 m1 n1 J1 => ?_⟩
  refine ⟨fun i n σ G => n = ws.length - i ∧ i ≤ ws.length ∧ ∃ B2 m2 S2 env2, Nx X.K F B m H B2 m2 S2 G ∧ Sub B1 B2 ∧ Pre m1 m2 ∧ ER X.K B2 m2 env2 σ ∧ loop g tb E (ws.drop i) env2 S2, ⟨_, rfl, Nat.zero_le _, B1, m1, S1, env, n1, .refl, .refl, er.nx n1, by rw [List.drop_zero]; exact h1⟩, ?_⟩
  rintro i n σ2 H2 ⟨en, hi2, B2, m2, S2, env2, n2, sb, pr, er2, h2⟩
  by_cases hlt : i < ws.length
  · obtain ⟨hgo, hy⟩ := J1.go B2 m2 S2 H2 n2.cf sb pr i ws[i] (List.getElem?_eq_getElem hlt)
    rw [List.drop_eq_getElem_cons hlt] at h2
    refine .inr ⟨hgo, fun σ' G => ∃ B3 m3 S3 env3, Nx X.K F B m H B3 m3 S3 G ∧ Sub B1 B3 ∧ Pre m1 m3 ∧ ER X.K B3 m3 env3 σ' ∧ loop g tb E (ws.drop (i + 1)) env3 S3, fun σ' H' q => ⟨_, ?_, rfl, hlt, q⟩, fun x H3 y => ?_⟩
    · omega
    · obtain ⟨B3, n3, r3⟩ := hy x H3 y
      have nn := n2.trans n3
      refine ⟨B3, m2, S2, env2, ws[i], _, n3.cf, er2.nx n3, r3, h2, fun env4 S4 h4 σ4 H4 B4 m4 n4 er4 => ?_⟩
      have ag : KE X.K F (loop g tb E (ws.drop (i + 1))) B4 m4 H4 fun σ' G => ∃ B3 m3 S3 env3, Nx X.K F B m H B3 m3 S3 G ∧ Sub B1 B3 ∧ Pre m1 m3 ∧ ER X.K B3 m3 env3 σ' ∧ loop g tb E (ws.drop (i + 1)) env3 S3 :=
        fun env5 S5 h5 σ5 H5 B5 m5 n5 er5 => ⟨B5, m5, S5, env5, nn.trans (n4.trans n5), sb.trans (n3.sb.trans (n4.sb.trans n5.sb)), pr.trans (n3.pr.trans (n4.pr.trans n5.pr)), er5, h5⟩
      exact ⟨B4, m4, S4, env4, { E with nx := loop g tb E (ws.drop (i + 1)), ct := loop g tb E (ws.drop (i + 1)), bk := E.nx }, n4.cf, er4, h4, ag, k2.nx (nn.trans n4), k1.nx (nn.trans n4), ag⟩
  · have e : i = ws.length := by omega
    subst e
    rw [List.drop_length] at h2
    exact .inl ⟨J1.stop B2 m2 S2 H2 n2.cf sb pr, k1 _ _ h2 _ _ _ _ n2 er2⟩⟩
structure DPTs (X : Cx) (Ξ : Xt) (ifs : List Expr) (dt : DT) : Prop where
  run : ∀ F : Fx, Okf X Ξ F → PTs X ifs (lT X.K F dt)
def dYes : DT := fun _ S Kp => Kp true S
theorem PTs.imp {X : Cx} {e : List Expr} {t t' : TT} (h : PTs X e t) (g : ∀ σ H Q, t' σ H Q → t σ H Q) : PTs X e t' := ⟨fun pins s σ H Q I q => h.run pins s σ H Q I (g _ _ _ q)⟩
theorem dpts_nil {X : Cx} {Ξ : Xt} : DPTs X Ξ [] dYes := ⟨fun F ok => PTs.imp pts_nil fun σ H Q ⟨B, m, S, env, Kp, cf, er, h, k⟩ => k _ _ h _ _ _ cf.nx⟩
def lcW (g : DG) (tt : DT) (te : DE) (env0 : En) : List W → Sto → (List W → Sto → Prop) → Prop
  | [], S, Kp => Kp [] S
  | w :: ws, S, Kp => g w env0 S fun env1 S1 => tt env1 S1 fun b S2 => ifB b (te env1 S2 fun y S3 => lcW g tt te env0 ws S3 fun ys S4 => Kp (y :: ys) S4) (lcW g tt te env0 ws S2 Kp)
def wipeD (env : En) : List Nat → En
  | [] => env
  | v :: vs => (wipeD env vs).set v none
def own (vs : List Nat) (g : DG) : Prop := ∀ (w : W) (env : En) (S : Sto) (Kp : En → Sto → Prop), g w (wipeD env vs) S Kp → g w (wipeD env vs) S fun env' S' => wipeD env' vs = wipeD env vs ∧ Kp env' S'
def dLc (o : Bool) (di : DI) (g : DG) (tt : DT) (te : DE) (vs : List Nat) : DE := fun env S Kp => di env S fun ws S1 => ws.length ≤ sizeLine ∧ lcW g tt te (wipeD env vs) ws S1 fun ys S2 => newL o ys S2 Kp
section
variable {K : PySem.W.Frag} {F : Fx} {B : Hp} {m : List Addr} {S : Sto} {H : Hp}
theorem ER.unset {env : En} {σ : L2.St} (e : ER K B m env σ) (i : Nat) : ER K B m (env.set i none) (σ.set i none) := by
  refine ⟨by simp [e.1], fun j u q => ?_⟩
  by_cases h : j = i
  · subst h
    have hl := (List.getElem?_eq_some_iff.mp q).1
    rw [List.length_set] at hl
    rw [List.getElem?_set_self hl] at q
    cases q
  · rw [List.getElem?_set_ne (Ne.symm h)] at q ⊢
    exact e.2 j u q
theorem ER.wipe {env : En} {σ : L2.St} (e : ER K B m env σ) : ∀ vs : List Nat, ER K B m (wipeD env vs) (L2.wipe σ vs)
  | [] => e
  | v :: vs => (ER.wipe e vs).unset v
theorem Nx.side {B' : Hp} {m' : List Addr} {S' : Sto} {H' : Hp} {D : Addr} {o : HO} (n : Nx K F B m H B' m' S' H') (f0 : F.H D = none) (nT : ¬ F.T D) (h0 : H D = none) (hb : B' D = none) (hm : ∀ i : Nat, m'[i]? ≠ some D) : Nx K F B m H B' m' S' (upd H' D o) := by
  have ne : ∀ (a : Addr) (u : HO), H a = some u → a ≠ D := fun a u e z => by rw [z, h0] at e; cases e
  have dm : ∀ a : Addr, upd H' D o a = none → H' a = none := fun a e => by
    by_cases h : a = D
    · subst h; rw [upd_same] at e; cases e
    · rw [upd_ne h] at e; exact e
  refine ⟨⟨n.cf.b0, fun a u e => ?_, n.cf.bnew, fun a u e nl nt => ?_, fun a e => n.cf.dom a (dm a e), n.cf.len, n.cf.pre, n.cf.new, n.cf.nd, fun i a od e1 e2 => ?_, fun q tq => let ⟨g1, g2, g3⟩ := n.cf.tab q tq; ⟨tabG_upd g1 fun z => nT (z ▸ tq), g2, g3⟩⟩, n.sb, n.pr, fun a u e nm nt => ?_, n.nw, fun a e => n.dm a (dm a e), n.bn⟩
  · rw [upd_ne (ne_of_none e hb)]; exact n.cf.sub a u e
  · rw [upd_ne (ne_of_none e f0)]; exact n.cf.fr a u e nl nt
  · obtain ⟨u, h1, h2, h3⟩ := n.cf.own i a od e1 e2
    have na : a ≠ D := fun z => hm i (by rw [← z]; exact e1)
    exact ⟨u, by rw [upd_ne na]; exact h1, h2, h3⟩
  · rw [upd_ne (ne a u e)]; exact n.kp a u e nm nt
theorem Nx.adopt {B' : Hp} {m' : List Addr} {S' : Sto} {H' : Hp} {D : Addr} {o : HO} {od : OD} (n : Nx K F B m H B' m' S' H') (f0 : F.H D = none) (nT : ¬ F.T D) (h0 : H D = none) (hb : B' D = none) (hm : ∀ i : Nat, m'[i]? ≠ some D) (e : H' D = some o) (r : RO K B' m' od o) :
    Nx K F B m H B' (m' ++ [D]) (S' ++ [od]) H' := by
  have c := n.cf
  have cases_ : ∀ (k : Nat) (a : Addr), (m' ++ [D])[k]? = some a → m'[k]? = some a ∨ (k = m'.length ∧ a = D) := fun n a e => by
    by_cases h : n < m'.length
    · rw [List.getElem?_append_left h] at e; exact .inl e
    · rw [List.getElem?_append_right (by omega)] at e
      have h2 : n - m'.length = 0 := by
        cases q : n - m'.length with
        | zero => rfl
        | succ k => rw [q] at e; simp at e
      rw [h2] at e
      simp at e
      exact .inr ⟨by omega, e.symm⟩
  refine ⟨⟨c.b0, c.sub, c.bnew, c.fr, c.dom, by simp [c.len], fun k a e => Pre.app _ _ (c.pre k a e), fun k a e => ?_, fun i j a h1 h2 => ?_, fun k a od' h1 h2 => ?_, fun q tq => let ⟨g1, g2, g3⟩ := c.tab q tq; ⟨g1, g2, fun i e => (cases_ i q e).elim (g3 i) fun z => nT (z.2 ▸ tq)⟩⟩, n.sb, n.pr.trans .app, n.kp, fun k a e => ?_, n.dm, n.bn⟩
  · rcases cases_ k a e with e | ⟨_, e⟩
    · exact c.new k a e
    · subst e; exact .inr f0
  · rcases cases_ i a h1 with e1 | ⟨e1, f1⟩ <;> rcases cases_ j a h2 with e2 | ⟨e2, f2⟩
    · exact c.nd i j a e1 e2
    · subst f2; exact absurd e1 (hm i)
    · subst f1; exact absurd e2 (hm j)
    · omega
  · rcases cases_ k a h1 with e1 | ⟨e1, f1⟩
    · rw [List.getElem?_append_left (by have := (List.getElem?_eq_some_iff.mp e1).1; rw [← c.len]; exact this)] at h2
      obtain ⟨u, e', r', g⟩ := c.own k a od' e1 h2
      exact ⟨u, e', r'.mono .refl .app, g⟩
    · subst f1
      rw [List.getElem?_append_right (by rw [← c.len, e1]; exact Nat.le_refl _), e1, c.len, Nat.sub_self] at h2
      simp at h2
      subst h2
      exact ⟨o, e, r.mono .refl .app, fun _ => hb⟩
  · rcases cases_ k a e with e | ⟨_, e⟩
    · exact n.nw k a e
    · subst e; exact .inr h0
theorem Nx.adoptF {B' : Hp} {m' : List Addr} {S' : Sto} {H' : Hp} {D : Addr} {o : HO} (n : Nx K F B m H B' m' S' H') (f0 : F.H D = none) (nT : ¬ F.T D) (h0 : H D = none) (hb : B' D = none) (hm : ∀ i : Nat, m'[i]? ≠ some D) (e : H' D = some o) :
    Nx K F B m H (upd B' D o) m' S' H' := by
  have c := n.cf
  have sb : Sub B' (upd B' D o) := fun a u e => by rw [upd_ne (ne_of_none e hb)]; exact e
  refine ⟨⟨c.b0.trans sb, fun a u q => ?_, fun a u q => ?_, c.fr, c.dom, c.len, c.pre, c.new, c.nd, fun k a od' h1 h2 => ?_, fun q tq => let ⟨g1, g2, g3⟩ := c.tab q tq; ⟨g1, by rw [upd_ne (fun z : q = D => nT (z ▸ tq))]; exact g2, g3⟩⟩, n.sb.trans sb, n.pr, n.kp, n.nw, n.dm, fun a u q => ?_⟩
  · by_cases h : a = D
    · subst h; rw [upd_same] at q; cases q; exact e
    · rw [upd_ne h] at q; exact c.sub a u q
  · by_cases h : a = D
    · subst h; exact .inr f0
    · rw [upd_ne h] at q; exact c.bnew a u q
  · obtain ⟨u, e', r', g⟩ := c.own k a od' h1 h2
    exact ⟨u, e', r'.mono sb .refl, fun z => by
      have na : a ≠ D := fun y => hm k (by rw [← y]; exact h1)
      rw [upd_ne na]; exact g z⟩
  · by_cases h : a = D
    · subst h; exact .inr (.inl h0)
    · rw [upd_ne h] at q; exact n.bn a u q
theorem newL_adopt {B' : Hp} {m' : List Addr} {S' : Sto} {H' : Hp} {D : Addr} {o : Bool} {ws : List W} {vs : List V} {Kp : WK} {Q : VK} (n : Nx K F B m H B' m' S' H') (f0 : F.H D = none) (nT : ¬ F.T D) (h0 : H D = none) (hb : B' D = none) (hm : ∀ i : Nat, m'[i]? ≠ some D)
    (e : H' D = some (.lst vs)) (r : RWL K B' m' ws vs) (h : newL o ws S' Kp) (k : KW K F Kp B m H Q) : Q (.ref D) H' := by
  unfold newL at h
  split at h
  · have n2 := n.adopt (od := .lst ws) f0 nT h0 hb hm e ⟨vs, rfl, r⟩
    refine k _ _ h _ _ _ _ n2 (.hd ?_)
    rw [← n.cf.len, List.getElem?_append_right (Nat.le_refl _), Nat.sub_self]
    rfl
  · obtain ⟨ds, e1, h⟩ := onO_ex h
    have n2 := n.adoptF f0 nT h0 hb hm e
    have sb : Sub B' (upd B' D (.lst vs)) := fun a u e => by rw [upd_ne (ne_of_none e hb)]; exact e
    rw [fzL_eq e1] at r
    exact k _ _ h _ _ _ _ n2 (.fz (.lst upd_same ((r.mono sb .refl).fz)))
end
def Lk (K : PySem.W.Frag) (g : TG) (dg : DG) (vs : List Nat) : Prop := ∀ (F : Fx) (B : Hp) (m : List Addr) (S : Sto) (H : Hp) (env : En) (σ : L2.St) (w : W) (v : V) (Kp : En → Sto → Prop) (Q : L2.St → Hp → Prop), Cf K F B m S H → ER K B m env (wipe σ vs) → RW K B m w v → dg w env S Kp →
  (∀ env' S', Kp env' S' → ∀ σ' : L2.St, wipe σ' vs = wipe σ vs → ∀ (H' B' : Hp) (m' : List Addr), Nx K F B m H B' m' S' H' → ER K B' m' env' σ' → Q σ' H') → g v (wipe σ vs) H Q
theorem wipe_wipe (σ : L2.St) : ∀ vs : List Nat, wipe (wipe σ vs) vs = wipe σ vs := by
  intro vs
  apply List.ext_getElem?
  intro j
  by_cases h : j ∈ vs
  · have z : ∀ (τ : L2.St) (us : List Nat), j ∈ us → (wipe τ us)[j]? = if j < τ.length then some none else none := fun τ us => by
      induction us with
      | nil => intro h; cases h
      | cons u us ih =>
        intro h
        unfold wipe
        by_cases hu : u = j
        · subst hu
          by_cases hl : u < τ.length
          · rw [if_pos hl, List.getElem?_set_self (by rw [wipe_length]; exact hl)]
          · rw [if_neg hl, List.getElem?_eq_none_iff, List.length_set, wipe_length]; omega
        · rw [List.getElem?_set_ne hu]
          exact ih ((List.mem_cons.mp h).resolve_left fun q => hu q.symm)
    rw [z _ _ h, z _ _ h, wipe_length]
  · rw [wipe_out h]
theorem wipe_set (σ : L2.St) (i : Nat) (x : Option V) : ∀ vs : List Nat, i ∈ vs → wipe ((wipe σ vs).set i x) vs = wipe σ vs := by
  intro vs h
  have z : ∀ (τ : L2.St) (us : List Nat), i ∈ us → wipe (τ.set i x) us = wipe τ us := fun τ us => by
    induction us with
    | nil => intro h; cases h
    | cons u us ih =>
      intro h
      unfold wipe
      by_cases hu : u ∈ us ∧ i ∈ us
      · rw [ih hu.2]
      · by_cases hi : i ∈ us
        · rw [ih hi]
        · have e : u = i := ((List.mem_cons.mp h).resolve_right hi).symm
          subst e
          have q : ∀ (ws : List Nat), u ∉ ws → wipe (τ.set u x) ws = (wipe τ ws).set u x := fun ws => by
            induction ws with
            | nil => intro _; rfl
            | cons w ws ih2 =>
              intro hn
              unfold wipe
              rw [ih2 fun z => hn (List.mem_cons_of_mem _ z), List.set_comm]
              intro z; exact hn (by rw [z]; exact List.mem_cons_self)
          rw [q us hi, List.set_set]
  rw [z _ _ h, wipe_wipe]
theorem lk_name {K : PySem.W.Frag} {i : Nat} {vs : List Nat} (h : i ∈ vs) : Lk K (gName i) (dgName i) vs := fun F B m S H env σ w v Kp Q c er r hg k =>
  k _ _ hg _ (wipe_set σ i _ vs h) _ _ _ c.nx (er.set i r)
section
variable {X : Cx} {Ξ : Xt} {elt tg iter : Expr} {ifs : List Expr} {scope : Scope} {ow : List (Str × Nat)} {pos : Pos} {di : DI} {g : TG} {dg : DG} {tt : DT} {te : DE}
theorem imp_lc (o : Bool) (vs : List Nat) (lk : Lk X.K g dg vs) {F : Fx} (σ : L2.St) (H : Hp) (Q : VK) (h : lE X.K F (dLc o di dg tt te vs) σ H Q) : tLc (lI X.K F di) g (lT X.K F tt) (lE X.K F te) vs σ H Q := by
  obtain ⟨B, m, S, env, Kp, cf, er, h, k⟩ := h
  refine ⟨B, m, S, env, _, cf, er, h, fun ws S1 ⟨hz, h1⟩ J H1 B1 m1 n1 J1 D hD => ?_⟩
  have fD : F.H D = none := n1.cf.dom D hD
  have bD : B1 D = none := by
    cases q : B1 D with
    | none => rfl
    | some u => rw [n1.cf.sub _ _ q] at hD; cases hD
  have mD : ∀ i : Nat, m1[i]? ≠ some D := n1.cf.notIn hD
  have nT : ¬ F.T D := fun tq => tab_ne (n1.cf.tab D tq).1 hD rfl
  have er0 : ER X.K B1 m1 (wipeD env vs) (wipe σ vs) := (er.nx n1).wipe vs
  refine ⟨fun i n G => n = ws.length - i ∧ i ≤ ws.length ∧ ∃ (B2 : Hp) (m2 : List Addr) (S2 : Sto) (aw : List W) (av : List V), Nx X.K F B1 m1 H1 B2 m2 S2 G ∧ B2 D = none ∧ (∀ j : Nat, m2[j]? ≠ some D) ∧ G D = some (.lst av) ∧ RWL X.K B2 m2 aw av ∧ aw.length ≤ i ∧
      lcW dg tt te (wipeD env vs) (ws.drop i) S2 fun ys S3 => newL o (aw ++ ys) S3 Kp, ⟨_, rfl, Nat.zero_le _, B1, m1, S1, [], [], n1.cf.nx.side fD nT hD bD mD, bD, mD, upd_same, .nil, Nat.le_refl _, by rw [List.drop_zero]; exact h1⟩, ?_⟩
  rintro i n G ⟨en, hi, B2, m2, S2, aw, av, n2, b2, mm2, eD, ra, la, h2⟩
  by_cases hlt : i < ws.length
  · obtain ⟨hgo, hy⟩ := J1.go B2 m2 S2 G n2.cf n2.sb n2.pr i ws[i] (List.getElem?_eq_getElem hlt)
    rw [List.drop_eq_getElem_cons hlt] at h2
    refine .inr ⟨hgo, fun G' => ∃ (B2 : Hp) (m2 : List Addr) (S2 : Sto) (aw : List W) (av : List V), Nx X.K F B1 m1 H1 B2 m2 S2 G' ∧ B2 D = none ∧ (∀ j : Nat, m2[j]? ≠ some D) ∧ G' D = some (.lst av) ∧ RWL X.K B2 m2 aw av ∧ aw.length ≤ i + 1 ∧
      lcW dg tt te (wipeD env vs) (ws.drop (i + 1)) S2 fun ys S3 => newL o (aw ++ ys) S3 Kp, fun G' q => ⟨_, ?_, rfl, hlt, q⟩, fun x G3 y => ?_⟩
    · omega
    · obtain ⟨B3, n3, r3⟩ := hy x G3 y
      -- a step keeps the list that grows
      have keep : ∀ {Ba Bb : Hp} {ma mb : List Addr} {Sb : Sto} {Ga Gb : Hp} {u : HO}, Nx X.K F Ba ma Ga Bb mb Sb Gb → Ga D = some u → Ba D = none → (∀ j : Nat, ma[j]? ≠ some D) → Gb D = some u ∧ Bb D = none ∧ ∀ j : Nat, mb[j]? ≠ some D := fun {Ba Bb ma mb Sb Ga Gb u} n hu hb hm => by
        refine ⟨n.kp D u hu hm nT, ?_, fun j z => ?_⟩
        · cases q : Bb D with
          | none => rfl
          | some w =>
            rcases n.bn D w q with y | y | ⟨j, y⟩
            · rw [hb] at y; cases y
            · rw [hu] at y; cases y
            · exact (hm j y).elim
        · rcases n.nw j D z with y | y
          · exact hm j y
          · rw [hu] at y; cases y
      obtain ⟨k1, k2, k3⟩ := keep n3 eD b2 mm2
      refine lk F B3 m2 S2 G3 (wipeD env vs) σ ws[i] x _ _ n3.cf ((er0.nx n2).nx n3) r3 h2 fun env4 S4 h4 σ4 hw4 G4 B4 m4 n4 er4 => ⟨hw4, ?_⟩
      obtain ⟨k4, k5, k6⟩ := keep n4 k1 k2 k3
      refine ⟨B4, m4, S4, env4, _, n4.cf, er4, h4, fun b S5 h5 G5 B5 m5 n5 => ?_⟩
      obtain ⟨k7, k8, k9⟩ := keep n5 k4 k5 k6
      have nn := n2.trans (n3.trans (n4.trans n5))
      replace h5 := ifB_if h5
      cases b with
      | false =>
        rw [if_neg Bool.false_ne_true] at h5 ⊢
        exact ⟨B5, m5, S5, aw, av, nn, k8, k9, k7, ((ra.nx n3).nx n4).nx n5, by omega, h5⟩
      | true =>
        rw [if_pos rfl] at h5 ⊢
        refine ⟨B5, m5, S5, env4, _, n5.cf, er4.nx n5, h5, fun w S6 h6 v G6 B6 m6 n6 r6 => ?_⟩
        obtain ⟨k10, k11, k12⟩ := keep n6 k7 k8 k9
        have ra6 := (((ra.nx n3).nx n4).nx n5).nx n6
        refine ⟨av, k10, by rw [← ra6.length]; omega, B6, m6, S6, aw ++ [w], av ++ [v], (nn.trans n6).side fD nT hD k11 k12, k11, k12, upd_same, ra6.append (.cons r6 .nil), by rw [List.length_append]; exact Nat.succ_le_succ la, ?_⟩
        refine cast (congrArg (lcW dg tt te (wipeD env vs) (List.drop (i + 1) ws) S6) (funext fun ys => funext fun S => ?_)) h6
        rw [List.append_assoc]
        rfl
  · have e : i = ws.length := by omega
    subst e
    rw [List.drop_length] at h2
    have h3 : newL o (aw ++ []) S2 Kp := h2
    rw [List.append_nil] at h3
    refine .inl ⟨J1.stop B2 m2 S2 G n2.cf n2.sb n2.pr, ?_⟩
    have hD0 : H D = none := n1.dm D hD
    exact newL_adopt (n1.trans n2) fD nT hD0 b2 mm2 eD ra h3 k
theorem dpe_lc (o : Bool) (lk : Lk X.K g dg (ow.map (·.2))) (hc : X.calm = true) (hN : X.N.Nodup) (hi : DPI X Ξ tg iter di) (bk : BlkOk X.N X.env.scope scope ow)
    (hg : ∀ (s : Shared) (H : Hp) (C : Addr) (cl : List (Str × Addr)) (fp : List Addr), PG (X.blk s H scope (compEnvC scope cl C X.env) fp) tg g) (ht : ∀ (s : Shared) (H : Hp) (C : Addr) (cl : List (Str × Addr)) (fp : List Addr), DPTs (X.blk s H scope (compEnvC scope cl C X.env) fp) Ξ.nox ifs tt)
    (he : ∀ (s : Shared) (H : Hp) (C : Addr) (cl : List (Str × Addr)) (fp : List Addr), DPE (X.blk s H scope (compEnvC scope cl C X.env) fp) Ξ.nox elt te) (hs : ∀ x, foldedSetIterable iter X.env x = pure x := by intro _; rfl) :
    DPE X Ξ (.ListComp elt [⟨tg, iter, ifs, 0⟩] scope pos) (dLc o di dg tt te (ow.map (·.2))) := ⟨fun F ok => PE.imp (pe_lc hc hN (hi.run F ok) bk hg (fun s H C cl fp => (ht s H C cl fp).run F ok.nox) (fun s H C cl fp => (he s H C cl fp).run F ok.nox) hs) (imp_lc o _ lk)⟩
theorem dps_setLc (o : Bool) {i : Nat} {y : Str} {py spos : Pos} (lk : Lk X.K g dg (ow.map (·.2))) (hc : X.calm = true) (hN : X.N.Nodup) (hy : X.N[i]? = some y) (hyl : X.env.scope.names.lookup y = some .local)
    (hsw : swapsWith (.ListComp elt [⟨tg, iter, ifs, 0⟩] scope pos) (some (.Name y py)) spos.line X.env = pure true) (hi : DPI X Ξ tg iter di) (bk : BlkOk X.N X.env.scope scope ow)
    (hg : ∀ (s : Shared) (H : Hp) (C : Addr) (cl : List (Str × Addr)) (fp : List Addr), PG (X.blk s H scope (compEnvC scope cl C X.env) fp) tg g) (ht : ∀ (s : Shared) (H : Hp) (C : Addr) (cl : List (Str × Addr)) (fp : List Addr), DPTs (X.blk s H scope (compEnvC scope cl C X.env) fp) Ξ.nox ifs tt)
    (he : ∀ (s : Shared) (H : Hp) (C : Addr) (cl : List (Str × Addr)) (fp : List Addr), DPE (X.blk s H scope (compEnvC scope cl C X.env) fp) Ξ.nox elt te) (hs : ∀ x, foldedSetIterable iter X.env x = pure x := by intro _; rfl) :
    DPS X Ξ (.Assign [.Name y py] (.ListComp elt [⟨tg, iter, ifs, 0⟩] scope pos) spos) (dAsg (dLc o di dg tt te (ow.map (·.2))) (dgName i)) := ⟨fun F ok => PS.imp (ps_setLc hc hN hy hyl hsw (hi.run F ok) bk hg (fun s H C cl fp => (ht s H C cl fp).run F ok.nox) (fun s H C cl fp => (he s H C cl fp).run F ok.nox) hs) fun D σ H ⟨B, m, S, env, E, cf, er, h, k1, k2, k3, k4⟩ => by
  refine imp_lc o _ lk σ H _ ⟨B, m, S, env, _, cf, er, h, fun w S1 h1 v H1 B1 m1 n1 r => ?_⟩
  exact k1 _ _ h1 _ _ _ _ n1 ((er.nx n1).set i r)⟩
end
end DL
namespace DL
open PySem PySem.Spec PyProof.Rows L2

structure Bi (mg : Str → Option Value) : Prop where
  len : mg "len" = none
  ord : mg "ord" = none
  isi : mg "isinstance" = none
  list : mg "list" = none
  tuple : mg "tuple" = none
  range : mg "range" = none
  int : mg "int" = none
  str : mg "str" = none
  bool : mg "bool" = none
  zip : mg "zip" = none
  sum : mg "sum" = none
  sorted : mg "sorted" = none
  all : mg "all" = none
  dict : mg "dict" = none
  set : mg "set" = none
  enum : mg "enumerate" = none
  rev : mg "reversed" = none
  repr : mg "repr" = none
  max : mg "max" = none
  min : mg "min" = none

section
variable {X : Cx} {Ξ : Xt} {a b c e o : Expr} {es : List Expr} {de da db dl dh : DE} {das : DA} {pos p apos p2 : Pos}
theorem e_len (bi : Bi X.mg) (ha : DPA X Ξ (e :: es) das) (hg : Gl X "len" := by rfl) (he : starEach (e :: es) X.env = (false, eval e X.env) :: starEach es X.env := by rfl) (hpl : (backTo pos (starEach es X.env)).any (·.1) = false := by rfl) : DPE X Ξ (.Call (.Name "len" p) (e :: es) [] pos) (dCB lenW das) := dpe_callB cd_len hg bi.len PySem.boot_len ha (by decide) (by decide) he hpl
theorem e_isi (bi : Bi X.mg) (ha : DPA X Ξ (e :: es) das) (hg : Gl X "isinstance" := by rfl) (he : starEach (e :: es) X.env = (false, eval e X.env) :: starEach es X.env := by rfl) (hpl : (backTo pos (starEach es X.env)).any (·.1) = false := by rfl) : DPE X Ξ (.Call (.Name "isinstance" p) (e :: es) [] pos) (dCB isiW das) := dpe_callB cd_isi hg bi.isi PyProof.Rows.boot_isinstance ha (by decide) (by decide) he hpl
theorem e_int (bi : Bi X.mg) (ha : DPA X Ξ (e :: es) das) (hg : Gl X "int" := by rfl) (he : starEach (e :: es) X.env = (false, eval e X.env) :: starEach es X.env := by rfl) (hpl : (backTo pos (starEach es X.env)).any (·.1) = false := by rfl) : DPE X Ξ (.Call (.Name "int" p) (e :: es) [] pos) (dCB intW1 das) := dpe_callTy cd_int hg bi.int PyProof.Rows.boot_int ha (by decide) (by decide) he hpl
theorem e_list (own : Bool) (bi : Bi X.mg) (ha : DPA X Ξ (e :: es) das) (hg : Gl X "list" := by rfl) (he : starEach (e :: es) X.env = (false, eval e X.env) :: starEach es X.env := by rfl) (hpl : (backTo pos (starEach es X.env)).any (·.1) = false := by rfl) : DPE X Ξ (.Call (.Name "list" p) (e :: es) [] pos) (dCB (listW own) das) := dpe_callTy (cd_list own) hg bi.list PyProof.Rows.boot_list ha (by decide) (by decide) he hpl
theorem e_tuple (bi : Bi X.mg) (ha : DPA X Ξ (e :: es) das) (hg : Gl X "tuple" := by rfl) (he : starEach (e :: es) X.env = (false, eval e X.env) :: starEach es X.env := by rfl) (hpl : (backTo pos (starEach es X.env)).any (·.1) = false := by rfl) : DPE X Ξ (.Call (.Name "tuple" p) (e :: es) [] pos) (dCB tupleW das) := dpe_callTy cd_tuple hg bi.tuple PyProof.Rows.boot_tuple ha (by decide) (by decide) he hpl
theorem t_tuple (bi : Bi X.mg) (hg : Gl X "tuple" := by rfl) : DPE X Ξ (.Name "tuple" p) (dC (.ty .tuple)) := dpe_ty (n := .tuple) hg bi.tuple PyProof.Rows.boot_tuple
theorem i_rng1 {tg : Expr} (bi : Bi X.mg) (ha : DPA X Ξ [a] das) (hg : Gl X "range" := by rfl) (hs : starEach [a] X.env = [(false, eval a X.env)] := by rfl) : DPI X Ξ tg (.Call (.Name "range" p) [a] [] pos) (dRng1 das) := dpi_range1 hg bi.range ha hs
theorem i_rng2 {tg : Expr} (bi : Bi X.mg) (ha : DPA X Ξ [a, b] das) (hg : Gl X "range" := by rfl) (hs : starEach [a, b] X.env = [(false, eval a X.env), (false, eval b X.env)] := by rfl) (hs2 : starEach [b] X.env = [(false, eval b X.env)] := by rfl) : DPI X Ξ tg (.Call (.Name "range" p) [a, b] [] pos) (dRng2 das) := dpi_range2 hg bi.range ha hs hs2
theorem a1 (ha : DPE X Ξ a da) (hs : starEach [a] X.env = (false, eval a X.env) :: starEach [] X.env := by rfl) : DPA X Ξ [a] (dCons da dNil) := dpa_cons ha dpa_nil hs
theorem sset (i : Nat) {x : Str} {pos' : Pos} (hN : X.N.Nodup) (he : DPE X Ξ e de) (hi : X.N[i]? = some x := by rfl) (hx : Loc X.env.scope x := by first | exact Or.inl rfl | exact Or.inr rfl) (hs : swapsWith e (some (.Name x pos')) pos.line X.env = pure false := by rfl) (hf : X.fn x = true ∨ X.env.scope.names.lookup x = some .local := by first | exact .inl rfl | exact .inr rfl) :
    DPS X Ξ (.Assign [.Name x pos'] e pos) (dAsg de (dgName i)) := dps_set hN hi hx he hs hf
theorem gname (i : Nat) {x : Str} (hN : X.N.Nodup) (hi : X.N[i]? = some x := by rfl) (hx : Loc X.env.scope x := by first | exact Or.inl rfl | exact Or.inr rfl) (hf : X.fn x = true ∨ X.env.scope.names.lookup x = some .local := by first | exact .inl rfl | exact .inr rfl) : DPG X Ξ (.Name x pos) (dgName i) := dpg_name hN hi hx hf
theorem c_lt (ha : DPE X Ξ a da) (hb : DPE X Ξ b db) : DPT X Ξ (.Compare a [.Lt] [b] pos) (dTst (dOp ltW da db)) := dpt_cmp od_lt ha hb (nomark _)
theorem c_gt (ha : DPE X Ξ a da) (hb : DPE X Ξ b db) : DPT X Ξ (.Compare a [.Gt] [b] pos) (dTst (dOp gtW da db)) := dpt_cmp od_gt ha hb (nomark _)
theorem c_ge (ha : DPE X Ξ a da) (hb : DPE X Ξ b db) : DPT X Ξ (.Compare a [.GtE] [b] pos) (dTst (dOp geW da db)) := dpt_cmp od_ge ha hb (nomark _)
theorem c_eq {k : Nat} (hr : Room k X.A) (ha : DPE X Ξ a da) (hb : DPE X Ξ b db) : DPT X Ξ (.Compare a [.Eq] [b] pos) (dTst (dOp eqW da db)) := dpt_cmp (od_eq hr.units) ha hb (nomark _)
theorem c_ne {k : Nat} (hr : Room k X.A) (ha : DPE X Ξ a da) (hb : DPE X Ξ b db) : DPT X Ξ (.Compare a [.NotEq] [b] pos) (dTst (dOp neW da db)) := dpt_cmp (od_ne hr.units) ha hb (nomark _)
theorem c_isN (ha : DPE X Ξ a da) (hb : DPE X Ξ b db) : DPT X Ξ (.Compare a [.Is] [b] pos) (dTst (dOp isNW da db)) := dpt_cmp od_isN ha hb (nomark _)
theorem e_add (own : Bool) (ha : DPE X Ξ a da) (hb : DPE X Ξ b db) : DPE X Ξ (.BinOp a .Add b pos) (dOp (addW own) da db) := dpe_op (od_add own) ha hb
theorem e_sub (ha : DPE X Ξ a da) (hb : DPE X Ξ b db) : DPE X Ξ (.BinOp a .Sub b pos) (dOp subW da db) := dpe_op od_sub ha hb
theorem e_mul (ha : DPE X Ξ a da) (hb : DPE X Ξ b db) : DPE X Ξ (.BinOp a .Mult b pos) (dOp mulW da db) := dpe_op od_mul ha hb
theorem e_mod (ha : DPE X Ξ a da) (hb : DPE X Ξ b db) : DPE X Ξ (.BinOp a .Mod b pos) (dOp modW da db) := dpe_op od_mod ha hb
theorem e_fdiv (ha : DPE X Ξ a da) (hb : DPE X Ξ b db) : DPE X Ξ (.BinOp a .FloorDiv b pos) (dOp fdivW da db) := dpe_op od_fdiv ha hb
theorem e_pow (ha : DPE X Ξ a da) (hb : DPE X Ξ b db) : DPE X Ξ (.BinOp a .Pow b pos) (dOp powW da db) := dpe_op od_pow ha hb
theorem e_ix (ha : DPE X Ξ a da) (hb : DPE X Ξ b db) (hs : PlainIx b := by exact fun _ _ => rfl) : DPE X Ξ (.Subscript a b pos) (dOp ixW da db) := dpe_ix ixd ha hb hs
def setW : W → W → W → Sto → (Sto → Prop) → Prop := fun o i w S Kp => match o, i with
  | .hd n, .fz (.int k) => onO (lstAt S n) fun ws => onO (ixN ws.length k) fun j => Kp (S.set n (.lst (ws.set j w)))
  | _, _ => False
def dgSub (dO di : DE) : DG := fun w env S Kp => dO env S fun o S1 => di env S1 fun i S2 => setW o i w S2 fun S3 => Kp env S3
theorem dpg_sub {i : Expr} {dO di : DE} (ho : DPE X Ξ o dO) (hi : DPE X Ξ i di)
    (ha : ∀ v, assign (.Subscript o i pos) X.env v = (do
      let ov ← holding [v] (eval o X.env)
      let iv ← holding [v, ov] (eval i X.env)
      standAt pos
      holding [v, ov, iv] (setItem ov iv v)
      release [v, ov, iv] []) := by intro _; rfl) : DPG X Ξ (.Subscript o i pos) (dgSub dO di) := ⟨fun F ok => PG.imp (pg_sub (ho.run F ok) (hi.run F ok) set_list ha) fun v σ H Q ⟨B, m, S, env, w, Kp, cf, er, r, h, k⟩ => by
  refine ⟨B, m, S, env, _, cf, er, h, fun x S1 h1 vx H1 B1 m1 n1 rx => ⟨B1, m1, S1, env, _, n1.cf, er.nx n1, h1, fun y S2 h2 vy H2 B2 m2 n2 ry => ?_⟩⟩
  unfold setW at h2
  split at h2
  rotate_left
  · exact h2.elim
  obtain ⟨ws, e3, h2⟩ := onO_ex h2
  obtain ⟨jj, e4, h2⟩ := onO_ex h2
  replace e3 := lstAt_eq e3
  have nn := n1.trans n2
  obtain ⟨a, vs, ea, em, hs, rr⟩ := nn.cf.lst (rx.nx n2) e3
  have n3 := nn.cf.write (o := .lst (vs.set jj v)) (od := .lst (ws.set jj w)) em e3 (fun z => nomatch z) ⟨_, rfl, rr.set (r.nx nn)⟩
  exact ⟨a, vs, _, jj, ea, ry.int_of, hs, by rw [← rr.length]; exact e4, k _ _ h2 _ _ _ _ (nn.trans n3) ((er.nx nn).nx n3)⟩⟩
theorem ssub {i : Expr} {dO di : DE} {p1 : Pos} (ho : DPE X Ξ o dO) (hi : DPE X Ξ i di) (he : DPE X Ξ e de) (ha : ∀ v, assign (.Subscript o i p1) X.env v = (do
      let ov ← holding [v] (eval o X.env)
      let iv ← holding [v, ov] (eval i X.env)
      standAt p1
      holding [v, ov, iv] (setItem ov iv v)
      release [v, ov, iv] []) := by intro _; rfl) (hs : swapsWithSole [.Subscript o i p1] e pos.line X.env = pure false := by rfl) (hw : swappedStores [.Subscript o i p1] e X.env = pure none := by rfl)
    (h1 : (assignEach [.Subscript o i p1] X.env).map (·.2) = [assign (.Subscript o i p1) X.env] := by rfl) : DPS X Ξ (.Assign [.Subscript o i p1] e pos) (dAsg de (dgSub dO di)) := dps_asg he (dpg_sub ho hi ha) hs hw h1
end
end DL
namespace DL
open PySem PySem.Spec PyProof.Rows L2

structure Df (K : PySem.W.Frag) (mg : Str → Option Value) (x : Str) (st : Stmt) : Prop where
  ex : ∃ f fd, C8.Def K mg x st f fd ∧ fd.defaults = .none
section
variable {P : Program} {w : World} {K : PySem.W.Frag} {T : Addr → Prop} {mg : Str → Option Value} {base : Heap}
theorem Df.calp {x : Str} {st : Stmt} {N ps : List Str} {k : Nat} {Q : PSp} {ds : DS} (D : Df K mg x st) (hb : ∀ (kV doc pm : Value) (an : Option Addr) (cdv ct : Value) (us : List Value), us.length = ps.length → bindArgs (PySem.W.fnOf x x (C8.fnArgs st) (C8.fnBody st) (C8.fnScope st) .none kV doc pm an cdv ct) ⟨us, []⟩ = pure (ps.zip us))
    (S : FnScope N ps (C8.fnScope st)) (len : ∀ xs Kp, Q xs Kp → xs.length = ps.length)
    (hbody : ∀ (f : Addr) (cdv : Value) (A : Around) (outer : List Env) (s : Shared) (H : Hp) (E : XK), Room k (A.deeper (envOfC x (C8.fnScope st) s.heap.objs.size f cdv)) → DPSs (cxOf CX0 P w K mg base N x (C8.fnScope st) f cdv A outer s H E).nox (Xt.of T) (C8.fnBody st) ds)
    (hread : ∀ xs Kp, Q xs Kp → ds ⟨fun _ _ => Kp .non, fun u S' => onO (dW S' u) fun d => Kp d, fun _ _ => False, fun _ _ => False⟩ (startD N (xs.map W.fz)) []) : CalP P w K T mg base (k + 1) x Q := by
  obtain ⟨f, fd, F, df⟩ := D.ex
  exact DL.calp F (F.fn.binds df hb) S len (hbody f) hread
end

def StOk (o : OD) : Prop := ∃ (a p : Int) (ns : List Int) (c : Int), o = .lst [.fz (.int a), .fz (.int p), .fz (.lst (ns.map D.int)), .fz (.int c)] ∧ 0 ≤ p ∧ ns.length ≤ 63
theorem StOk.ren {o : OD} (h : StOk o) (k n : Nat) : renOD k n o = o := by
  obtain ⟨a, p, ns, c, rfl, _⟩ := h
  rfl
def psS (P : PSp) : DSp := fun ws S Kp => ∃ o ds, S = [o] ∧ StOk o ∧ ws = .hd 0 :: ds.map W.fz ∧ P ds fun d => ∀ o', StOk o' → Kp (.fz d) [o']
abbrev CalS (P : Program) (w : World) (K : PySem.W.Frag) (T : Addr → Prop) (mg : Str → Option Value) (base : Heap) (k : Nat) (x : Str) (ps : PSp) : Prop := CalD P w K T mg base k x (psS ps)
def dCallS (P : PSp) (da : DA) : DE := fun env S Kp => da env S fun ws S1 => match S1, ws with
  | o :: rest, .hd n :: ws' => (n = 0 ∧ StOk o) ∧ onO (fzL ws') fun ds => P ds fun d => ∀ o', StOk o' → StOk o' ∧ Kp (.fz d) (o' :: rest)
  | _, _ => False
def SK (Kp : WK) (rest : Sto) : WK := fun w S2 => match w, S2 with
  | .fz d, [o'] => StOk o' ∧ Kp (.fz d) (o' :: rest)
  | _, _ => False
theorem SK_ok {Kp : WK} {rest : Sto} {w : W} {S2 : Sto} (h : SK Kp rest w S2) : ∃ d o', w = .fz d ∧ S2 = [o'] ∧ StOk o' ∧ Kp (.fz d) (o' :: rest) := by
  unfold SK at h
  split at h
  · exact ⟨_, _, rfl, rfl, h⟩
  · cases h
theorem imp_callS {K : PySem.W.Frag} {F : Fx} {T : Addr → Prop} {P : PSp} {da : DA} {E : XK} (hT : F.T = T) (σ : L2.St) (H : Hp) (Q : VK) (h : lE K F (dCallS P da) σ H Q) : tCall (spD K T (psS P)) [] E (lA K F da) σ H Q := by
  subst hT
  obtain ⟨B, m, S, env, Kp, cf, er, h, kw⟩ := h
  refine ⟨B, m, S, env, _, cf, er, h, fun ws S1 h0 vs H1 B1 m1 n1 r => ?_⟩
  show spD K F.T (psS P) (vs ++ []) H1 Q E
  rw [List.append_nil]
  split at h0
  rotate_left
  · exact h0.elim
  rename_i o rest n ws'
  obtain ⟨⟨e0, so⟩, h0⟩ := h0
  obtain ⟨ds, e2, h1⟩ := onO_ex h0
  replace e2 := fzL_eq e2
  subst e0; subst e2
  have c0 := n1.cf.lend (k := 1) (lent := [o]) (Nat.succ_le_succ (Nat.zero_le _)) (by show [o] = [renOD 1 _ o]; rw [so.ren])
  have r' : RWL K B1 m1 (renL 1 (o :: rest).length (.hd 0 :: ds.map W.fz)) vs := by
    show RWL K B1 m1 (.hd 0 :: renL 1 (o :: rest).length (ds.map W.fz)) vs
    rw [renL_fz]
    exact r
  refine ⟨B1, m1.take 1, .hd 0 :: ds.map W.fz, [o], SK Kp rest, c0, r'.unren n1.cf.len, ⟨o, ds, rfl, so, rfl, h1⟩, fun w S2 h2 v H2 B2 m2 n2 r2 => ?_⟩
  obtain ⟨d, o', ew, eS, h2⟩ := SK_ok h2
  subst eS; subst ew
  have n3 := n1.cf.back (Nat.succ_le_succ (Nat.zero_le _)) n2
  obtain ⟨so', h2⟩ := h2
  have e3 : mrg 1 (o :: rest) [o'] = o' :: rest := by
    show (renOD 1 _ o' :: []) ++ rest ++ [] = _
    rw [so'.ren]
    simp
  rw [e3] at n3
  cases r2 with
  | fz r2 => exact kw _ _ h2 _ _ _ _ (n1.trans n3) (.fz r2)
section
variable {X : Cx} {Ξ : Xt} {k j : Nat} {x : Str} {P : PSp} {p pos : Pos} {e : Expr} {es : List Expr} {da : DA}
theorem dpe_callS (c : CalS X.prog X.w X.K Ξ.T X.mg X.base k x P) (hr : Room j X.A) (hk : k ≤ j) (hg : Gl X x) (ha : DPA X Ξ (e :: es) da)
    (hdb : (x == ("__debug__" : Str)) = false := by decide) (he : starEach (e :: es) X.env = (false, eval e X.env) :: starEach es X.env := by rfl) (hpl : (backTo pos (starEach es X.env)).any (·.1) = false := by rfl) :
    DPE X Ξ (.Call (.Name x p) (e :: es) [] pos) (dCallS P da) := ⟨fun F ok => PE.imp (C8.pe_c c hr hk hg (ha.run F ok) hdb he hpl) (imp_callS ok.t)⟩
end
section
variable {P : Program} {w : World} {K : PySem.W.Frag} {T : Addr → Prop} {mg : Str → Option Value} {base : Heap}
def retS (Kp : D → OD → Prop) (u : W) (S' : Sto) : Prop := match S', u with
  | o' :: _, .fz d => StOk o' ∧ Kp d o'
  | o' :: r, .hd (n + 1) => StOk o' ∧ onO (dW (o' :: r) (.hd (n + 1))) fun d => Kp d o'
  | _, _ => False
theorem retS_ex {Kp : D → OD → Prop} {u : W} {S' : Sto} (h : retS Kp u S') : ∃ o' r d, S' = o' :: r ∧ dW S' u = some d ∧ (∀ n : Nat, u = .hd n → 1 ≤ n) ∧ StOk o' ∧ Kp d o' := by
  unfold retS at h
  split at h
  · exact ⟨_, _, _, rfl, rfl, (fun _ z => nomatch z), h⟩
  · obtain ⟨so, h⟩ := h
    obtain ⟨d, e, h⟩ := onO_ex h
    exact ⟨_, _, d, rfl, e, (fun m z => by cases z; omega), so, h⟩
  · exact h.elim
theorem Cf.freezeAt {F : Fx} {B : Hp} {m : List Addr} {S1 S2 : Sto} {H : Hp} (c : Cf K F B m (S1 ++ S2) H) (hl : F.L.length ≤ S1.length) (hb : S1.all (bdO S1.length) = true) {w : W} {v : V} {d : D} (r : RW K B m w v) (h : dW (S1 ++ S2) w = some d) (hn : ∀ n : Nat, w = .hd n → S1.length ≤ n) :
    ∃ B', Cf K F B' (m.take S1.length) S1 H ∧ Sub B B' ∧ Rp K B' d v ∧ ∀ (a : Addr) (o : HO), B' a = some o → B a = some o ∨ ∃ n : Nat, m[n]? = some a ∧ S1.length ≤ n := by
  have c0 : Cf K F B (m.take S1.length) S1 H := c.cut hl hb
  unfold dW at h
  split at h
  · cases h
    cases r with
    | fz r => exact ⟨B, c0, .refl, r, fun _ _ e => .inl e⟩
  · split at h
    · rename_i n _ ws e
      have hn := hn n rfl
      cases q : fzL ws with
      | none => rw [q] at h; cases h
      | some ds =>
        rw [q] at h
        cases h
        obtain ⟨a, vs, e1, em, h1, h2⟩ := c.lst r e
        subst e1
        have nB : B a = none := by
          obtain ⟨_, _, _, g⟩ := c.own n a _ em e
          exact g fun z => nomatch z
        have sb : Sub B (upd B a (.lst vs)) := fun x u y => by rw [upd_ne (ne_of_none y nB)]; exact y
        have nt : ∀ (i : Nat) (x : Addr), (m.take S1.length)[i]? = some x → x ≠ a := fun i x z e2 => by
          have hi : i < S1.length := by
            have := (List.getElem?_eq_some_iff.mp z).1
            rw [List.length_take] at this
            omega
          rw [List.getElem?_take_of_lt hi] at z
          have := c.nd i n a (by rw [← e2]; exact z) em
          omega
        have nH : F.H a = none := by
          rcases c.new n a em with z | z
          · have := (List.getElem?_eq_some_iff.mp z).1
            omega
          · exact z
        refine ⟨upd B a (.lst vs), ⟨c.b0.trans sb, fun x u y => ?_, fun x u y => ?_, c.fr, c.dom, c0.len, c0.pre, c0.new, c0.nd, fun i x od z1 z2 => ?_, fun q tq => let ⟨g1, g2, g3⟩ := c0.tab q tq; ⟨g1, by rw [upd_ne (fun z => (c.tab q tq).2.2 n (by rw [z]; exact em))]; exact g2, g3⟩⟩, sb, ?_, fun x u y => ?_⟩
        · by_cases z : x = a
          · subst z; rw [upd_same] at y; cases y; exact h1
          · rw [upd_ne z] at y; exact c.sub _ _ y
        · by_cases z : x = a
          · subst z; exact .inr nH
          · rw [upd_ne z] at y; exact c.bnew _ _ y
        · obtain ⟨o, q1, q2, q3⟩ := c0.own i x od z1 z2
          exact ⟨o, q1, q2.mono sb .refl, fun g => by rw [upd_ne (nt i x z1)]; exact q3 g⟩
        · rw [fzL_eq q] at h2
          exact .lst upd_same ((h2.mono sb .refl).fz)
        · by_cases z : x = a
          · subst z; exact .inr ⟨n, em, hn⟩
          · rw [upd_ne z] at y; exact .inl y
    · cases h
  · cases h
  · cases h
theorem Df.cals {x : Str} {st : Stmt} {N ps : List Str} {k : Nat} {Q : PSp} {ds : DS} (D : Df K mg x st) (hb : ∀ (kV doc pm : Value) (an : Option Addr) (cdv ct : Value) (us : List Value), us.length = ps.length → bindArgs (PySem.W.fnOf x x (C8.fnArgs st) (C8.fnBody st) (C8.fnScope st) .none kV doc pm an cdv ct) ⟨us, []⟩ = pure (ps.zip us))
    (S : FnScope N ps (C8.fnScope st)) (len : ∀ xs Kp, Q xs Kp → xs.length + 1 = ps.length)
    (hbody : ∀ (f : Addr) (cdv : Value) (A : Around) (outer : List Env) (s : Shared) (H : Hp) (E : XK), Room k (A.deeper (envOfC x (C8.fnScope st) s.heap.objs.size f cdv)) → DPSs (cxOf CX0 P w K mg base N x (C8.fnScope st) f cdv A outer s H E).nox (Xt.of T) (C8.fnBody st) ds)
    (hread : ∀ (o : OD) (xs : List DL.D) (Kp : DL.D → OD → Prop), StOk o → Q xs (fun d => ∀ o', StOk o' → Kp d o') → ds ⟨fun _ S' => retS Kp (.fz .non) S', fun u S' => retS Kp u S', fun _ _ => False, fun _ _ => False⟩ (startD N (.hd 0 :: xs.map W.fz)) [o]) : CalS P w K T mg base (k + 1) x Q := by
  have fl : ∀ o', StOk o' → ([o'] : Sto).all (bdO 1) = true := fun o' ⟨a, p, ns, c, e, _⟩ => by subst e; rfl
  obtain ⟨f, fd, F, df⟩ := D.ex
  refine C8.cal0 F (F.fn.binds df hb) .nil S (fun vs H Q' E ⟨B, L, ws, lent, Kp, _, r, ⟨o, xs, _, _, e, h⟩, _⟩ => by rw [← r.length, e, List.length_cons, List.length_map]; exact len _ _ h) fun cdv A outer s H vs Q' E hr ⟨B, L, ws, lent, Kp, c, r, ⟨o, xs, e1, so, e2, h⟩, kw⟩ => ?_
  subst e1; subst e2
  have hL : L.length = 1 := c.len
  refine ⟨_, (hbody f cdv A outer s H E hr).run ⟨B, H, L, T⟩ (.of rfl (by show L.length ≤ 1; omega)), B, L, [o], _, _, c, ER.start r, hread o xs (fun d o' => Kp (.fz d) [o']) so h, ?_, ?_, fun _ _ z => z.elim, fun _ _ z => z.elim⟩
  · rintro env S' hk0 σ' H' B' m' n er
    obtain ⟨o', r, d, eS, ed, _, so', hk⟩ := retS_ex hk0
    cases ed
    subst eS
    exact kw _ _ hk _ _ _ _ (Nx.cut (S1 := [o']) (S2 := r) n (by show L.length ≤ 1; omega) (fl o' so') (by show L.length ≤ 1; omega)) (.fz .non)
  · rintro u S' hk0 v H' B' m' n r'
    obtain ⟨o', r, d, eS, eu, hn, so', hk⟩ := retS_ex hk0
    subst eS
    have n2 := Nx.cut (S1 := [o']) (S2 := r) n (by show L.length ≤ 1; omega) (fl o' so') (by show L.length ≤ 1; omega)
    obtain ⟨B2, c2, sb2, r2, bn2⟩ := Cf.freezeAt (S1 := [o']) (S2 := r) n.cf (by show L.length ≤ 1; omega) (fl o' so') r' eu hn
    refine kw _ _ hk _ _ _ _ ⟨c2, n2.sb.trans sb2, n2.pr, n2.kp, n2.nw, n2.dm, fun a o e => ?_⟩ (.fz r2)
    rcases bn2 a o e with q | ⟨i, q, hi⟩
    · exact n.bn a o q
    · rcases n.nw i a q with z | z
      · have := (List.getElem?_eq_some_iff.mp z).1
        have hi : 1 ≤ i := hi
        omega
      · exact .inr (.inl z)
end
end DL
namespace DL
open PySem PySem.Spec PyProof.Rows L2

theorem sz {n : Nat} (h : Nat.ble n 1000 = true) : n ≤ sizeLine := Nat.le_trans (Nat.le_of_ble_eq_true h) (by decide)
theorem onO_at {α : Type} {l : List α} {i : Int} {k : α → Prop} (h0 : 0 ≤ i) (h1 : i < l.length) (h : ∀ x, l[i.toNat]? = some x → k x) : onO (atI l i) k := by
  have hl : i.toNat < l.length := by omega
  have e : l[i.toNat]? = some l[i.toNat] := List.getElem?_eq_getElem hl
  have q := atI_nat e
  rw [Int.toNat_of_nonneg h0] at q
  rw [q]
  exact h _ e
theorem posL {j : Int} (h : decide (0 < j) = true) : 0 < j := of_decide_eq_true h
theorem powL {i j : Int} (h : decide (0 ≤ j ∧ j ≤ 1000000 ∧ i.natAbs < 2 ^ 64) = true) : CPow i j := of_decide_eq_true (p := 0 ≤ j ∧ j ≤ 1000000 ∧ i.natAbs < 2 ^ 64) h
theorem mulR {i j : Int} (h : decide (-(2 ^ 64) < j ∧ j < 2 ^ 64) = true) : CMulX i j := .inl (.inr (of_decide_eq_true h))
theorem divW {i j : Int} (h0 : 0 < j) (h : j ≤ 10 ^ 40) : CDivW i j := by
  have e : (10 : Int) ^ 40 < 2 ^ 200 := by decide
  have h2 : j.natAbs < 2 ^ 200 := by
    have e2 : ((2 ^ 200 : Nat) : Int) = 2 ^ 200 := by decide
    omega
  exact ⟨h0, PySem.Flt.log2_lt_of (by decide) (Nat.lt_of_lt_of_le h2 (Nat.pow_le_pow_right (by decide) (by decide)))⟩
section
variable {g : DG} {tt : DT} {te : DE} {env0 : En} {S : Sto}
theorem lcW_filter (f : W → W) (p : W → Bool) {ws : List W} {Kp : List W → Sto → Prop}
    (h : ∀ w ∈ ws, ∀ (A : WK) (Bf : Sto → Prop), (if p w = true then A (f w) S else Bf S) → g w env0 S fun env1 S1 => tt env1 S1 fun b S2 => ifB b (te env1 S2 A) (Bf S2)) (hk : Kp ((ws.filter p).map f) S) : lcW g tt te env0 ws S Kp := by
  induction ws generalizing Kp with
  | nil => exact hk
  | cons w ws ih =>
    have ih' := fun (K2 : List W → Sto → Prop) (k2 : K2 ((ws.filter p).map f) S) => ih (Kp := K2) (fun u hu => h u (List.mem_cons_of_mem _ hu)) k2
    refine h w List.mem_cons_self (fun y S3 => lcW g tt te env0 ws S3 fun ys S4 => Kp (y :: ys) S4) (fun S2 => lcW g tt te env0 ws S2 Kp) ?_
    by_cases hp : p w = true
    · rw [if_pos hp]
      refine ih' _ ?_
      rw [List.filter_cons_of_pos hp] at hk
      exact hk
    · rw [if_neg hp]
      refine ih' _ ?_
      rw [List.filter_cons_of_neg hp] at hk
      exact hk
theorem lcW_map (f : W → W) {ws : List W} {Kp : List W → Sto → Prop}
    (h : ∀ w ∈ ws, ∀ (A : WK) (Bf : Sto → Prop), A (f w) S → g w env0 S fun env1 S1 => tt env1 S1 fun b S2 => ifB b (te env1 S2 A) (Bf S2)) (hk : Kp (ws.map f) S) : lcW g tt te env0 ws S Kp := by
  refine lcW_filter f (fun _ => true) (fun w hw A Bf q => h w hw A Bf (by simpa using q)) ?_
  rw [List.filter_eq_self.mpr fun _ _ => rfl]
  exact hk
theorem lcW_draw (R : W → D → Prop) {ws : List W} {o : OD} {rest : Sto} {Kp : List W → Sto → Prop} (so : StOk o)
    (h : ∀ w ∈ ws, ∀ (o : OD) (A : WK) (Bf : Sto → Prop), StOk o → (∀ d o', R w d → StOk o' → A (.fz d) (o' :: rest)) → g w env0 (o :: rest) fun env1 S1 => tt env1 S1 fun b S2 => ifB b (te env1 S2 A) (Bf S2))
    (hk : ∀ (ds : List D) (o' : OD), ds.length = ws.length → (∀ d ∈ ds, ∃ w ∈ ws, R w d) → StOk o' → Kp (ds.map .fz) (o' :: rest)) : lcW g tt te env0 ws (o :: rest) Kp := by
  induction ws generalizing o Kp with
  | nil => exact hk [] o rfl (by simp) so
  | cons w ws ih =>
    refine h w List.mem_cons_self o (fun y S3 => lcW g tt te env0 ws S3 fun ys S4 => Kp (y :: ys) S4) (fun S2 => lcW g tt te env0 ws S2 Kp) so fun d o' r so' => ?_
    refine ih so' (fun u hu => h u (List.mem_cons_of_mem _ hu)) fun ds o'' hl hr so'' => ?_
    refine hk (d :: ds) o'' (by simp [hl]) (fun x hx => ?_) so''
    rcases List.mem_cons.mp hx with e | e
    · subst e; exact ⟨w, List.mem_cons_self, r⟩
    · obtain ⟨u, hu, q⟩ := hr x e
      exact ⟨u, List.mem_cons_of_mem _ hu, q⟩
end
theorem loop_inv {g : DG} {tb : DS} {E : DEnds} (I : List W → En → Sto → Prop) {ws : List W} {env : En} {S : Sto} (h0 : I ws env S) (hn : ∀ env S, I [] env S → E.nx env S)
    (hs : ∀ (w : W) (ws : List W) (env : En) (S : Sto) (N : En → Sto → Prop), I (w :: ws) env S → (∀ env' S', I ws env' S' → N env' S') → g w env S fun env1 S1 => tb { E with nx := N, ct := N, bk := E.nx } env1 S1) : loop g tb E ws env S := by
  induction ws generalizing env S with
  | nil => exact hn env S h0
  | cons w ws ih => exact hs w ws env S _ h0 fun env' S' h => ih h
section
variable {own : Bool} {S : Sto} {Kp : WK}
theorem newL_F {ds : List D} (h : Kp (.fz (.lst ds)) S) : newL false (ds.map .fz) S Kp := by
  show onO (fzL (ds.map .fz)) _
  rw [fzL_map]
  exact h
theorem addW_lst {i j : List D} (h1 : i.length + j.length ≤ sizeLine) (h2 : Kp (.fz (.lst (i ++ j))) S) : addW false (.fz (.lst i)) (.fz (.lst j)) S Kp := by
  refine ⟨by simpa using h1, ?_⟩
  rw [← List.map_append]
  exact newL_F h2
end
end DL
namespace DL
open PySem PySem.Spec PyProof.Rows L2

section
variable {P : Program} {w : World} {K : PySem.W.Frag} {T : Addr → Prop} {mg : Str → Option Value} {base : Heap}
theorem fnp {x : Str} {st : Stmt} {f : Addr} {fd : FuncData} {N ps : List Str} {k : Nat} {Q : PSp} {ds : DS} (F : C8.Fun K x x st f fd) (S : FnScope N ps (C8.fnScope st))
    (len : ∀ xs Kp, Q xs Kp → xs.length = ps.length)
    (hbody : ∀ (cdv : Value) (A : Around) (outer : List Env) (s : Shared) (H : Hp) (E : XK), Room k (A.deeper (envOfC x (C8.fnScope st) s.heap.objs.size f cdv)) → DPSs (cxOf CX0 P w K mg base N x (C8.fnScope st) f cdv A outer s H E).nox (Xt.of T) (C8.fnBody st) ds)
    (hread : ∀ xs Kp, Q xs Kp → ds ⟨fun _ _ => Kp .non, fun u S' => onO (dW S' u) fun d => Kp d, fun _ _ => False, fun _ _ => False⟩ (startD N (xs.map W.fz)) []) : FnOk P w K mg base CX0 (k + 1) f fd ps (spD K T (psp Q)) := by
  refine C8.fn0 F S (fun vs H Q' E ⟨B, L, ws, lent, Kp, _, r, ⟨xs, e, _, h⟩, _⟩ => by rw [← r.length, e, List.length_map]; exact len _ _ h) fun cdv A outer s H vs Q' E hr ⟨B, L, ws, lent, Kp, c, r, ⟨xs, e, e2, h⟩, kw⟩ => ?_
  subst e; subst e2
  have hL : L = [] := List.eq_nil_of_length_eq_zero c.len
  subst hL
  refine ⟨_, (hbody cdv A outer s H E hr).run ⟨B, H, [], T⟩ (.of rfl), B, [], [], _, _, c, ER.start r, hread xs _ h, ?_, ?_, fun _ _ z => z.elim, fun _ _ z => z.elim⟩
  · rintro env S' hk σ' H' B' m' n er
    have n2 := Nx.cut (S1 := []) (S2 := S') n (Nat.le_refl _) rfl (Nat.le_refl _)
    rw [List.length_nil, List.take_zero] at n2
    exact kw _ _ hk _ _ _ _ n2 (.fz .non)
  · rintro u S' hk v H' B' m' n r'
    obtain ⟨d, hd, hk⟩ := onO_ex hk
    obtain ⟨B2, c2, sb2, r2⟩ := n.cf.freeze rfl r' hd
    exact kw _ _ hk _ _ _ _ ⟨c2, n.sb.trans sb2, .refl, n.kp, fun _ _ h => .inl h, n.dm, fun a o e => (c2.bnew a o e).imp id .inl⟩ (.fz r2)
end
structure DfIn (K : PySem.W.Frag) (x : Str) (st : Stmt) : Prop where
  ex : ∃ (f : Addr) (od an : Option Addr) (sl : Array (Option Value)) (oc kV dc pm cd ct : Value), PySem.W.nsIn K mainGlobals x = some (some (.ref f)) ∧
    K.lookup f = some ⟨oc, od, .func (PySem.W.fnOf x x (C8.fnArgs st) (C8.fnBody st) (C8.fnScope st) .none kV dc pm an cd ct), sl⟩ ∧ PySem.W.codeIn K cd x = true ∧ PySem.W.keepIn K (.ref f) = true
theorem dfin {K : PySem.W.Frag} {x : Str} {st : Stmt} {f : Addr} {od an : Option Addr} {sl : Array (Option Value)} {oc kV dc pm cd ct : Value} (a : PySem.W.nsIn K mainGlobals x = some (some (.ref f)))
    (l : K.lookup f = some ⟨oc, od, .func (PySem.W.fnOf x x (C8.fnArgs st) (C8.fnBody st) (C8.fnScope st) .none kV dc pm an cd ct), sl⟩) (c : PySem.W.codeIn K cd x = true) (k : PySem.W.keepIn K (.ref f) = true) : DfIn K x st :=
  ⟨f, od, an, sl, oc, kV, dc, pm, cd, ct, a, l, c, k⟩
theorem DfIn.df {K : PySem.W.Frag} {x : Str} {st : Stmt} {h : Heap} {mg : Str → Option Value} (D : DfIn K x st) (X : K.In h) (G : h.Ns mainGlobals mg) : Df K mg x st := by
  obtain ⟨f, od, an, sl, oc, kV, dc, pm, cd, ct, a, l, c, k⟩ := D.ex
  exact ⟨f, _, ⟨⟨oc, od, .none, kV, dc, pm, an, cd, ct, sl, rfl, l, c⟩, PySem.W.mg_of X G a, k⟩, rfl⟩
structure BiIn (K : PySem.W.Frag) : Prop where
  len : PySem.W.nsIn K mainGlobals "len" = some none
  ord : PySem.W.nsIn K mainGlobals "ord" = some none
  isi : PySem.W.nsIn K mainGlobals "isinstance" = some none
  list : PySem.W.nsIn K mainGlobals "list" = some none
  tuple : PySem.W.nsIn K mainGlobals "tuple" = some none
  range : PySem.W.nsIn K mainGlobals "range" = some none
  int : PySem.W.nsIn K mainGlobals "int" = some none
  str : PySem.W.nsIn K mainGlobals "str" = some none
  bool : PySem.W.nsIn K mainGlobals "bool" = some none
  zip : PySem.W.nsIn K mainGlobals "zip" = some none
  sum : PySem.W.nsIn K mainGlobals "sum" = some none
  sorted : PySem.W.nsIn K mainGlobals "sorted" = some none
  all : PySem.W.nsIn K mainGlobals "all" = some none
  dict : PySem.W.nsIn K mainGlobals "dict" = some none
  set : PySem.W.nsIn K mainGlobals "set" = some none
  enum : PySem.W.nsIn K mainGlobals "enumerate" = some none
  rev : PySem.W.nsIn K mainGlobals "reversed" = some none
  repr : PySem.W.nsIn K mainGlobals "repr" = some none
  max : PySem.W.nsIn K mainGlobals "max" = some none
  min : PySem.W.nsIn K mainGlobals "min" = some none
theorem BiIn.bi {K : PySem.W.Frag} {h : Heap} {mg : Str → Option Value} (b : BiIn K) (X : K.In h) (G : h.Ns mainGlobals mg) : Bi mg :=
  ⟨PySem.W.mg_none_of X G b.len, PySem.W.mg_none_of X G b.ord, PySem.W.mg_none_of X G b.isi, PySem.W.mg_none_of X G b.list, PySem.W.mg_none_of X G b.tuple, PySem.W.mg_none_of X G b.range, PySem.W.mg_none_of X G b.int, PySem.W.mg_none_of X G b.str, PySem.W.mg_none_of X G b.bool,
   PySem.W.mg_none_of X G b.zip, PySem.W.mg_none_of X G b.sum, PySem.W.mg_none_of X G b.sorted, PySem.W.mg_none_of X G b.all, PySem.W.mg_none_of X G b.dict, PySem.W.mg_none_of X G b.set, PySem.W.mg_none_of X G b.enum, PySem.W.mg_none_of X G b.rev, PySem.W.mg_none_of X G b.repr,
   PySem.W.mg_none_of X G b.max, PySem.W.mg_none_of X G b.min⟩
def spLaw : PSp := fun ds Q => ∃ ns : List Int, ds = [.scr ns] ∧ ns.length ≤ 63 ∧ Q (.bl true)
def GnC (base : Heap) (mg : Str → Option Value) (T : Addr → Prop) (cdv : Value) : Prop := ∃ c p : Addr, cdv = .ref c ∧ GxR.TabB base mg c p ∧ T p
structure Gn (K : PySem.W.Frag) (T : Addr → Prop) (mg : Str → Option Value) (base : Heap) (x : Str) : Prop where
  ex : ∃ c p : Addr, GxR.TabB base mg c p ∧ T p ∧ ∀ (f : Addr) (oc : Value) (od : Option Addr) (fd : FuncData) (sl : Array (Option Value)), mg x = some (.ref f) → K.lookup f = some ⟨oc, od, .func fd, sl⟩ → fd.code = .ref c
section
variable {P : Program} {w : World} {K : PySem.W.Frag} {T : Addr → Prop} {mg : Str → Option Value} {base : Heap}
theorem Df.calpG {x : Str} {st : Stmt} {N ps : List Str} {k : Nat} {Q : PSp} {ds : DS} (D : Df K mg x st) (G : Gn K T mg base x) (hb : ∀ (kV doc pm : Value) (an : Option Addr) (cdv ct : Value) (us : List Value), us.length = ps.length → bindArgs (PySem.W.fnOf x x (C8.fnArgs st) (C8.fnBody st) (C8.fnScope st) .none kV doc pm an cdv ct) ⟨us, []⟩ = pure (ps.zip us))
    (S : FnScope N ps (C8.fnScope st)) (len : ∀ xs Kp, Q xs Kp → xs.length = ps.length)
    (hbody : ∀ (f : Addr) (cdv : Value) (A : Around) (outer : List Env) (s : Shared) (H : Hp) (E : XK), GnC base mg T cdv → Room k (A.deeper (envOfC x (C8.fnScope st) s.heap.objs.size f cdv)) → DPSs (cxOf CX0 P w K mg base N x (C8.fnScope st) f cdv A outer s H E).nox (Xt.of T) (C8.fnBody st) ds)
    (hread : ∀ xs Kp, Q xs Kp → ds ⟨fun _ _ => Kp .non, fun u S' => onO (dW S' u) fun d => Kp d, fun _ _ => False, fun _ _ => False⟩ (startD N (xs.map W.fz)) []) : CalP P w K T mg base (k + 1) x Q := by
  obtain ⟨f, fd, F, df⟩ := D.ex
  obtain ⟨c, p, tb, tp, hc⟩ := G.ex
  have b := F.fn.binds df hb
  obtain ⟨oc, od, dV, kV, doc, pm, an, cdv, ct, osl, rfl, lk, hcd⟩ := F.fn.ex
  have e : cdv = .ref c := hc f oc od _ osl F.mgf lk
  refine ⟨f, _, ps, [], ?_, F.mgf, F.kp, b, .nil⟩
  refine fn_of lk hcd S (fun vs H Q' E ⟨B, L, ws, lent, Kp, _, r, ⟨xs, e, _, h⟩, _⟩ => by rw [← r.length, e, List.length_map]; exact len _ _ h) fun A outer s H vs Q' E hr ⟨B, L, ws, lent, Kp, c0, r, ⟨xs, e1, e2, h⟩, kw⟩ => ?_
  subst e1; subst e2
  have hL : L = [] := List.eq_nil_of_length_eq_zero c0.len
  subst hL
  refine ⟨_, ((hbody f cdv A outer s H E ⟨c, p, e, tb, tp⟩ hr).run ⟨B, H, [], T⟩ (.of rfl)).nox, B, [], [], _, _, c0, ER.start r, hread xs _ h, ?_, ?_, fun _ _ z => z.elim, fun _ _ z => z.elim⟩
  · rintro env S' hk σ' H' B' m' n er
    have n2 := Nx.cut (S1 := []) (S2 := S') n (Nat.le_refl _) rfl (Nat.le_refl _)
    rw [List.length_nil, List.take_zero] at n2
    exact kw _ _ hk _ _ _ _ n2 (.fz .non)
  · rintro u S' hk v H' B' m' n r'
    obtain ⟨d, hd, hk⟩ := onO_ex hk
    obtain ⟨B2, c2, sb2, r2⟩ := n.cf.freeze rfl r' hd
    exact kw _ _ hk _ _ _ _ ⟨c2, n.sb.trans sb2, .refl, n.kp, fun _ _ h => .inl h, n.dm, fun a o e => (c2.bnew a o e).imp id .inl⟩ (.fz r2)
end
theorem law_of {P : Program} {w : World} {K : PySem.W.Frag} {h : Heap} {mg : Str → Option Value} {fa : Addr} {x : Str} {st : Stmt} {p : Str} {k : Nat} {names : List Str} (X : K.In h) (G : h.Ns mainGlobals mg) (hfa : mg x = some (.ref fa)) (D : DfIn K x st)
    (hb : ∀ (kV doc pm : Value) (an : Option Addr) (cdv ct : Value) (u : Value), bindArgs (PySem.W.fnOf x x (C8.fnArgs st) (C8.fnBody st) (C8.fnScope st) .none kV doc pm an cdv ct) ⟨[u], []⟩ = pure [(p, u)])
    (ok : ∀ (f : Addr) (fd : FuncData), C8.Fun K x x st f fd → ∀ (base : Heap) (T : Addr → Prop), (∀ x ∈ names, Gn K T mg base x) → FnOk P w K mg base CX0 k f fd [p] (spD K T (psp spLaw))) :
    ∃ fd : FuncData, (∀ (s : Shared) (u : Value), BindsTo s fd ⟨[u], []⟩ [(p, u)]) ∧ ∀ (base : Heap) (T : Addr → Prop), K.In base → base.Ns mainGlobals mg → (∀ x ∈ names, Gn K T mg base x) → FnOk P w K mg base CX0 k fa fd [p] (spD K T (psp spLaw)) := by
  obtain ⟨f, od, an, sl, oc, kV, dc, pm, cd, ct, a, l, c, kp⟩ := D.ex
  have e := hfa.symm.trans (PySem.W.mg_of X G a)
  cases e
  exact ⟨_, fun s u => .of_eq (hb kV dc pm an cd ct u), fun base T _ _ g => ok _ _ ⟨oc, od, .none, kV, dc, pm, an, cd, ct, sl, rfl, l, c⟩ base T g⟩
theorem law_sp {K : PySem.W.Frag} {H : Hp} {a : Addr} {ns : List Int} {ts : List Addr} (hn : ns.length ≤ 63) (hT : ∀ p ∈ ts, H p = some (.tbl #[])) (hS : SqL K H a (ns.map V.int)) : spD K (fun p => p ∈ ts) (psp spLaw) [.ref a] H (fun v _ => v = .bl true) (fun _ _ _ => False) := by
  have sub : Sub (fun b => if b ∈ ts then none else H b) H := fun b o e => by
    have e : (if b ∈ ts then none else H b) = some o := e
    by_cases h : b ∈ ts
    · rw [if_pos h] at e; cases e
    · rw [if_neg h] at e; exact e
  have hS' : SqL K (fun b => if b ∈ ts then none else H b) a (ns.map V.int) := by
    rcases hS with (h | ⟨o, h⟩) | h
    · refine .inl (.inl ?_)
      show (if a ∈ ts then none else H a) = _
      rw [if_neg fun z => by rw [hT a z] at h; cases h]; exact h
    · refine .inl (.inr ⟨o, ?_⟩)
      show (if a ∈ ts then none else H a) = _
      rw [if_neg fun z => by rw [hT a z] at h; cases h]; exact h
    · exact .inr h
  refine ⟨fun b => if b ∈ ts then none else H b, [], [.fz (.scr ns)], [], fun w _ => w = .fz (.bl true), ⟨.refl, sub, fun _ _ h => .inl h, fun _ _ h _ _ => h, fun _ h => h, rfl, fun _ _ h => h, fun _ _ h => .inl h, fun i j a h _ => by simp at h, fun n a od h _ => by simp at h, fun q tq => ⟨⟨#[], hT q tq, trivial⟩, if_pos tq, fun n e => by simp at e⟩⟩, .cons (.fz (.scr hS')) .nil, ⟨[.scr ns], rfl, rfl, ns, rfl, hn, rfl⟩, fun w S' h v H' B' m' _ r => ?_⟩
  subst h
  exact r.bl_of
def noTab (K : PySem.W.Frag) : Bool := K.all fun p => match p.2.cls with
  | .none => match p.2.data with
    | .fields _ => false
    | _ => true
  | _ => true
theorem lookup_mem {α β : Type} [BEq α] [LawfulBEq α] {a : α} {b : β} : ∀ {l : List (α × β)}, l.lookup a = some b → (a, b) ∈ l
  | [], h => by cases h
  | (c, d) :: r, h => by
    rw [List.lookup_cons] at h
    cases q : (a == c) with
    | true =>
      rw [q] at h
      cases h
      rw [eq_of_beq q]
      exact List.mem_cons_self
    | false =>
      rw [q] at h
      exact List.mem_cons_of_mem _ (lookup_mem h)
theorem noTab_ok {K : PySem.W.Frag} {h : Heap} {p : Addr} {vs : Array Value} (n : noTab K = true) (X : K.In h) (e : h.get? p = some { cls := .none, data := .fields vs }) : K.lookup p = none := by
  cases q : K.lookup p with
  | none => rfl
  | some o =>
    have e2 := X p o q
    rw [e] at e2
    cases e2
    have := List.all_eq_true.mp n _ (lookup_mem q)
    cases this
theorem walk_G {l : PySem.W.OpenLaw} {k : Nat} {q : Program} {loose : List Str} {XP : (Str → Option Value) → Heap → Prop} {YP : World → Heap → Prop} {d : DefRec} {K : Params → PySem.W.Frag} {x : Str} (names : List Str)
    (hn : l.most = some 63) (hdf : d.params.defaults = []) (hr : Room k callerA) (hrec : (names.all fun y => (recsOf q).any fun e => e.name == y) = true) (hY : ∀ (w : World) (h : Heap), YP w h → (K w.params).In h) (hK : ∀ w : World, noTab (K w.params) = true)
    (F : ∀ (w : World) (mg : Str → Option Value) (fa : Addr) (h : Heap), (K w.params).In h → h.Ns mainGlobals mg → mg d.name = some (.ref fa) →
      ∃ fd : FuncData, (∀ (s : Shared) (u : Value), BindsTo s fd ⟨[u], []⟩ [(x, u)]) ∧ ∀ (base : Heap) (T : Addr → Prop), (K w.params).In base → base.Ns mainGlobals mg → (∀ x ∈ names, Gn (K w.params) T mg base x) → FnOk l.prog w (K w.params) mg base CX0 k fa fd [x] (spD (K w.params) T (psp spLaw))) :
    PySem.W.WalkO q loose XP YP l.row.toRowW d [] (fun f vs => PySem.call f vs) := by
  refine Att.attach_callB hn hdf fun w s₀ s₁ mg mb fa o pm cd doc a vs ns G Y ho hd hcd hmg hobj hints hlen hbits hg => ?_
  have KX := hY w _ Y
  obtain ⟨fd, hb, hF⟩ := F w mg fa _ KX G.T.g hmg
  -- the tables of the defs that are named
  have each : ∀ ns : List Str, (∀ y ∈ ns, ((recsOf q).any fun e => e.name == y) = true) → ∃ cs : List (Addr × Addr), (∀ p ∈ cs, s₁.heap.get? p.2 = some { cls := .none, data := .fields #[] }) ∧ (∀ p ∈ cs, PySem.W.CodeHd s₁.heap p.1 p.2) ∧
      ∀ y ∈ ns, ∃ p ∈ cs, ∀ (f : Addr) (oc : Value) (od : Option Addr) (fd : FuncData) (sl : Array (Option Value)), mg y = some (.ref f) → (K w.params).lookup f = some ⟨oc, od, .func fd, sl⟩ → fd.code = .ref p.1 := by
    intro ns
    induction ns with
    | nil => exact fun _ => ⟨[], fun _ h => (nomatch h), fun _ h => (nomatch h), fun _ h => (nomatch h)⟩
    | cons y ns ih =>
      intro hy
      obtain ⟨cs, h1, h2, h3⟩ := ih fun z hz => hy z (List.mem_cons_of_mem _ hz)
      obtain ⟨dL, hm, hn1⟩ := List.any_eq_true.mp (hy y List.mem_cons_self)
      have hn2 : dL.name = y := beq_iff_eq.mp hn1
      obtain ⟨a', o', fd', c', P', g1, g2, g3, g4, g5, g6⟩ := G.T.tab dL hm
      refine ⟨(c', P') :: cs, fun p hp => ?_, fun p hp => ?_, fun z hz => ?_⟩
      · rcases List.mem_cons.mp hp with e | e
        · subst e; exact g6.2
        · exact h1 p e
      · rcases List.mem_cons.mp hp with e | e
        · subst e; exact PySem.W.CodeHd.of g5 g6
        · exact h2 p e
      · rcases List.mem_cons.mp hz with e | e
        · subst e
          refine ⟨_, List.mem_cons_self, fun f oc od fd sl k1 k2 => ?_⟩
          rw [hn2] at g1
          rw [k1] at g1
          cases g1
          have k3 := KX _ _ k2
          rw [g2] at k3
          cases k3
          cases g3
          exact g4
        · obtain ⟨p, hp, q⟩ := h3 z e
          exact ⟨p, List.mem_cons_of_mem _ hp, q⟩
  obtain ⟨cs, hT, C, hcs⟩ := each names (List.all_eq_true.mp hrec)
  have hn2 : (63 : Nat) ≤ sizeLine := by decide
  refine LamX.law_callTs (cs := cs) (sp := spD (K w.params) (fun p => p ∈ cs.map (·.2)) (psp spLaw)) KX G.T.g G.T.b G.T.builtins G.T.nolimit hg hT (fun p hp => noTab_ok (hK w) KX (hT p hp)) C G.T.bmain hobj hints (Nat.le_trans hlen hn2) hr (fun base KB NB TB => hF base _ KB NB fun y hy => ?_) hb (fun H hH hS => law_sp hlen (fun p hp => ?_) hS) fun _ _ _ z => z.elim
  · obtain ⟨p, hp, hq⟩ := hcs y hy
    obtain ⟨t1, t2, t3⟩ := TB p hp
    exact ⟨p.1, p.2, ⟨t1, t2, t3⟩, List.mem_map.mpr ⟨p, hp, rfl⟩, hq⟩
  · obtain ⟨c, hc, e⟩ := List.mem_map.mp hp
    rw [← e]
    exact hH c hc
end DL
namespace DL
open PySem PySem.Spec PyProof.Rows L2

def dicAt (S : Sto) : W → Option (Nat × List (Key × W))
  | .hd n => match S[n]? with
    | some (.dic kvs) => some (n, kvs)
    | _ => none
  | _ => none
theorem dicAt_eq {S : Sto} {x : W} {n : Nat} {kvs : List (Key × W)} (h : dicAt S x = some (n, kvs)) : x = .hd n ∧ S[n]? = some (.dic kvs) := by
  unfold dicAt at h
  split at h
  · split at h
    · cases h; exact ⟨rfl, by assumption⟩
    · cases h
  · cases h
def keyW : W → Option Key
  | .fz (.int i) => some (.inl i)
  | .fz (.str x) => some (.inr x)
  | _ => none
def valW (kvs : List (Key × W)) (k : Key) : Option W := (kvs.find? fun kv => decide (kv.1 = k)).map (·.2)
def putW (kvs : List (Key × W)) (k : Key) (v : W) : List (Key × W) :=
  if (kvs.any fun kv => decide (kv.1 = k)) = true then kvs.map (fun kv => if kv.1 = k then (kv.1, v) else kv) else kvs ++ [(k, v)]
section
variable {K : PySem.W.Frag} {F : Fx} {B : Hp} {m : List Addr} {S : Sto} {H : Hp}
theorem keyW_ok {w : W} {v : V} {k : Key} (r : RW K B m w v) (h : keyW w = some k) : v = kV k := by
  unfold keyW at h
  split at h
  · cases h; exact r.int_of
  · cases h; exact r.str_of
  · cases h
theorem Cf.dic (c : Cf K F B m S H) {n : Nat} {kvs : List (Key × W)} {x : V} (r : RW K B m (.hd n) x) (h : S[n]? = some (.dic kvs)) : ∃ a vs, x = .ref a ∧ m[n]? = some a ∧ H a = some (.dK vs) ∧ FK K B m kvs vs := by
  cases r with
  | hd e =>
    obtain ⟨o, h1, ⟨vs, h2, h3⟩, _⟩ := c.own _ _ _ e h
    subst h2
    exact ⟨_, _, rfl, e, h1, h3⟩
theorem FK.val : ∀ {kvs : List (Key × W)} {vs : List (Key × V)} {k : Key}, FK K B m kvs vs → match valW kvs k with
    | some w => ∃ v, valV vs k = some v ∧ RW K B m w v
    | none => valV vs k = none
  | _, _, k, .nil => rfl
  | p :: kvs, q :: vs, k, .cons r t => by
    have ih := FK.val (k := k) t
    obtain ⟨e, r⟩ := r
    by_cases h : p.1 = k
    · have h1 : valW (p :: kvs) k = some p.2 := by simp [valW, List.find?_cons, h]
      rw [h1]
      exact ⟨q.2, valV_pos (e ▸ h), r⟩
    · have h1 : valW (p :: kvs) k = valW kvs k := by simp [valW, List.find?_cons, h]
      rw [h1, valV_neg (show ¬ q.1 = k by rw [← e]; exact h)]
      exact ih
theorem FK.any {k : Key} : ∀ {kvs : List (Key × W)} {vs : List (Key × V)}, FK K B m kvs vs → (kvs.any fun kv => decide (kv.1 = k)) = vs.any fun kv => decide (kv.1 = k)
  | _, _, .nil => rfl
  | p :: kvs, q :: vs, .cons r t => by
    rw [List.any_cons, List.any_cons, FK.any t, r.1]
theorem FK.map {k : Key} {w : W} {v : V} (rv : RW K B m w v) : ∀ {kvs : List (Key × W)} {vs : List (Key × V)}, FK K B m kvs vs → FK K B m (kvs.map fun kv => if kv.1 = k then (kv.1, w) else kv) (vs.map fun kv => if kv.1 = k then (kv.1, v) else kv)
  | _, _, .nil => .nil
  | p :: kvs, q :: vs, .cons r t => by
    refine .cons ?_ (FK.map rv t)
    by_cases h : p.1 = k
    · dsimp only
      rw [if_pos h, if_pos (show q.1 = k by rw [← r.1]; exact h)]
      exact ⟨r.1, rv⟩
    · dsimp only
      rw [if_neg h, if_neg (show ¬ q.1 = k by rw [← r.1]; exact h)]
      exact r
theorem FK.append : ∀ {kvs kvs' : List (Key × W)} {vs vs' : List (Key × V)}, FK K B m kvs vs → FK K B m kvs' vs' → FK K B m (kvs ++ kvs') (vs ++ vs')
  | _, _, _, _, .nil, q => q
  | _, _, _, _, .cons r t, q => .cons r (FK.append t q)
theorem FK.put {kvs : List (Key × W)} {vs : List (Key × V)} {k : Key} {w : W} {v : V} (r : FK K B m kvs vs) (rv : RW K B m w v) : FK K B m (putW kvs k w) (putK vs k v) := by
  unfold putW putK
  rw [r.any]
  split
  · exact r.map rv
  · exact r.append (.cons ⟨rfl, rv⟩ .nil)
theorem FK.len {kvs : List (Key × W)} {vs : List (Key × V)} (r : FK K B m kvs vs) : kvs.length = vs.length := Paired.length r
theorem FK.keys : ∀ {kvs : List (Key × W)} {vs : List (Key × V)}, FK K B m kvs vs → kvs.map (·.1) = vs.map (·.1)
  | _, _, .nil => rfl
  | _, _, .cons r t => by rw [List.map_cons, List.map_cons, FK.keys t, r.1]
end
def dDNew : DE := fun _ S Kp => Kp (.hd S.length) (S ++ [.dic []])
def atDW (S : Sto) (x y : W) (Kp : WK) : Prop := onO (dicAt S x) fun p => onO (keyW y) fun k => onO (valW p.2 k) fun w => Kp w S
structure getDW (S : Sto) (x y z : W) (Kp : WK) : Prop where
  get : onO (dicAt S x) fun p => onO (keyW y) fun k => Kp ((valW p.2 k).getD z) S
def dDGet (dd dk : DE) : DE := fun env S Kp => dd env S fun x S1 => dk env S1 fun y S2 => atDW S2 x y Kp
def dDPut (dd dk dv : DE) : DS := fun D env S => dv env S fun w S1 => dd env S1 fun x S2 => dk env S2 fun y S3 => onO (dicAt S3 x) fun p => onO (keyW y) fun k => p.2.length < sizeLine ∧ D.nx env (S3.set p.1 (.dic (putW p.2 k w)))
section
variable {X : Cx} {Ξ : Xt} {o i e value : Expr} {pos pos' apos cpos : Pos} {dd dk dv : DE} {k : Nat}
theorem dpe_dnew : DPE X Ξ (.Dict [] [] pos) dDNew := ⟨fun F ok => PE.imp pe_dnewK fun σ H Q ⟨B, m, S, env, Kp, cf, er, h, kw⟩ p hp => by
  have n2 := cf.allocO (od := .dic []) (o := .dK []) hp ⟨[], rfl, .nil⟩
  refine kw _ _ h _ _ _ _ n2 (.hd ?_)
  rw [← cf.len, List.getElem?_append_right (Nat.le_refl _), Nat.sub_self]
  rfl⟩
theorem e_dget (hr : Room k X.A) (ho : DPE X Ξ o dd) (hi : DPE X Ξ i dk) (hs : NoSl i) : DPE X Ξ (.Subscript o i pos) (dDGet dd dk) := ⟨fun F ok => PE.imp (pe_dget (hu_of hr) (ho.run F ok) (hi.run F ok) hs) fun σ H Q ⟨B, m, S, env, Kp, cf, er, h, kw⟩ => by
  refine ⟨B, m, S, env, _, cf, er, h, fun x S1 h1 v H1 B1 m1 n1 r => ⟨B1, m1, S1, env, _, n1.cf, er.nx n1, h1, fun y S2 h0 u H2 B2 m2 n2 r2 => ?_⟩⟩
  obtain ⟨⟨n, kvs⟩, e1, h2⟩ := onO_ex h0
  obtain ⟨kk, e2, h2⟩ := onO_ex h2
  obtain ⟨w, e3, h2⟩ := onO_ex h2
  obtain ⟨ex, es⟩ := dicAt_eq e1
  subst ex
  obtain ⟨a, vs, ea, _, hd, fk⟩ := n2.cf.dic (r.nx n2) es
  have q := fk.val (k := kk)
  rw [show valW kvs kk = some w from e3] at q
  obtain ⟨v', hv, rv⟩ := q
  refine ⟨a, v', ea, ?_, kw _ _ h2 _ _ _ _ (n1.trans n2) rv⟩
  rw [keyW_ok r2 e2, ← hv]
  exact DGet.k hd⟩
theorem s_dput (hr : Room k X.A) (ho : DPE X Ξ o dd) (hi : DPE X Ξ i dk) (hv : DPE X Ξ value dv) (hs : swapsWith value (some (.Subscript o i pos')) pos.line X.env = pure false := by rfl) : DPS X Ξ (.Assign [.Subscript o i pos'] value pos) (dDPut dd dk dv) := ⟨fun F ok => PS.imp (ps_dput (hu_of hr) (ho.run F ok) (hi.run F ok) (hv.run F ok) hs) fun D σ H ⟨B, m, S, env, E, cf, er, h, k1, k2, k3, k4⟩ => by
  refine ⟨B, m, S, env, _, cf, er, h, fun w S1 h1 v H1 B1 m1 n1 rv => ⟨B1, m1, S1, env, _, n1.cf, er.nx n1, h1, fun x S2 h2 u H2 B2 m2 n2 rx => ⟨B2, m2, S2, env, _, n2.cf, er.nx (n1.trans n2), h2, fun y S3 h0 t H3 B3 m3 n3 ry => ?_⟩⟩⟩
  obtain ⟨⟨n, kvs⟩, e1, h3⟩ := onO_ex h0
  obtain ⟨kk, e2, hz, h3⟩ := onO_ex h3
  obtain ⟨ex, es⟩ := dicAt_eq e1
  subst ex
  have nn := n1.trans (n2.trans n3)
  obtain ⟨a, vs, ea, em, hd, fk⟩ := nn.cf.dic (rx.nx n3) es
  have n4 := nn.cf.write (o := .dK (putK vs kk v)) (od := .dic (putW kvs kk w)) em es (fun z => nomatch z) ⟨_, rfl, fk.put ((rv.nx n2).nx n3)⟩
  refine ⟨a, _, ea, ?_, k1 _ _ h3 _ _ _ _ (nn.trans n4) ((er.nx nn).nx n4)⟩
  rw [keyW_ok ry e2]
  exact DPut.k hd (by rw [← fk.len]; exact hz)⟩
end
def strsOf : List W → Option (List Str)
  | [] => some []
  | .fz (.str x) :: r => (strsOf r).map (x :: ·)
  | _ :: _ => none
theorem strsOf_eq : ∀ {ws : List W} {xs : List Str}, strsOf ws = some xs → ws = xs.map fun x => .fz (.str x)
  | [], xs, h => by cases h; rfl
  | .fz (.str x) :: r, xs, h => by
    unfold strsOf at h
    cases e : strsOf r with
    | none => rw [e] at h; cases h
    | some ys =>
      rw [e] at h
      cases h
      rw [List.map_cons, ← strsOf_eq e]
  | .hd _ :: _, _, h => by cases h
  | .tp _ :: _, _, h => by cases h
  | .xo _ _ _ :: _, _, h => by cases h
  | .fz .non :: _, _, h => by cases h
  | .fz (.bl _) :: _, _, h => by cases h
  | .fz (.int _) :: _, _, h => by cases h
  | .fz (.tup _) :: _, _, h => by cases h
  | .fz (.lst _) :: _, _, h => by cases h
  | .fz (.obj _ _) :: _, _, h => by cases h
  | .fz (.scr _) :: _, _, h => by cases h
  | .fz (.ty _) :: _, _, h => by cases h
def keysS : List (Key × W) → Option (List Str)
  | [] => some []
  | (.inr x, _) :: r => (keysS r).map (x :: ·)
  | (.inl _, _) :: _ => none
theorem keysS_eq : ∀ {kvs : List (Key × W)} {xs : List Str}, keysS kvs = some xs → kvs.map (·.1) = xs.map Sum.inr
  | [], xs, h => by cases h; rfl
  | (.inr x, _) :: r, xs, h => by
    unfold keysS at h
    cases e : keysS r with
    | none => rw [e] at h; cases h
    | some ys =>
      rw [e] at h
      cases h
      rw [List.map_cons, List.map_cons, keysS_eq e]
  | (.inl _, _) :: _, _, h => by cases h
def textsOf (S : Sto) (x : W) : Option (List Str) := match dicAt S x with
  | some p => keysS p.2
  | none => (vL S x).bind strsOf
def sortedW (own : Bool) : DRL := fun ws S Kp => match ws with
  | [x] => onO (textsOf S x) fun xs => xs.length < 64 ∧ ∀ ys : List Str, ys.Perm xs → sortedS ys = true → newL own (ys.map fun y => .fz (.str y)) S Kp
  | _ => False
section
variable {X : Cx} {Ξ : Xt}
theorem rwl_strs_of {K : PySem.W.Frag} {B : Hp} {m : List Addr} : ∀ {xs : List Str} {vs : List V}, RWL K B m (xs.map fun x => .fz (.str x)) vs → vs = xs.map V.str
  | [], _, .nil => rfl
  | _ :: xs, _, .cons r t => by rw [r.str_of, rwl_strs_of t]; rfl
theorem rwl_strs {K : PySem.W.Frag} {B : Hp} {m : List Addr} : ∀ xs : List Str, RWL K B m (xs.map fun x => .fz (.str x)) (xs.map V.str)
  | [] => .nil
  | _ :: xs => .cons (.fz .str) (rwl_strs xs)
theorem cd_sorted (own : Bool) (hc : X.calm = true) : CallD X (.builtin "sorted") (sortedW own) := fun F => CallR.imp (CallR.or cr_sortedS (call_sortedD hc)) fun xs H Q ⟨B, m, S, ws, Kp, cf, r, h0, k⟩ => by
  unfold sortedW at h0
  split at h0
  rotate_left
  · exact h0.elim
  obtain ⟨zs, e1, hz, h⟩ := onO_ex h0
  obtain ⟨v, e, rv⟩ := r.one
  subst e
  unfold textsOf at e1
  split at e1
  · rename_i p e2
    obtain ⟨ex, es⟩ := dicAt_eq (n := p.1) (kvs := p.2) e2
    subst ex
    obtain ⟨a, vs, ea, _, hd, fk⟩ := cf.dic rv es
    subst ea
    exact .inr ⟨a, vs, zs, rfl, .inl hd, by rw [← fk.keys]; exact keysS_eq e1, hz, fun ys p pm hs hp => newL_ok cf (rwl_strs ys) (h ys pm hs) k hp⟩
  · cases q : vL S _ with
    | none => rw [q] at e1; cases e1
    | some us =>
      rw [q] at e1
      obtain ⟨a, vs, ea, hs, rr⟩ := vL_ok cf rv q
      subst ea
      rw [strsOf_eq e1] at rr
      rw [rwl_strs_of rr] at hs
      exact .inl ⟨a, zs, rfl, .of hs, hz, fun ys p pm hs hp => newL_ok cf (rwl_strs ys) (h ys pm hs) k hp⟩
theorem e_sorted {e : Expr} {es : List Expr} {p pos : Pos} {das : DA} (own : Bool) (bi : Bi X.mg) (hc : X.calm = true) (ha : DPA X Ξ (e :: es) das) (hg : Gl X "sorted" := by rfl) (he : starEach (e :: es) X.env = (false, eval e X.env) :: starEach es X.env := by rfl) (hpl : (backTo pos (starEach es X.env)).any (·.1) = false := by rfl) : DPE X Ξ (.Call (.Name "sorted" p) (e :: es) [] pos) (dCB (sortedW own) das) := dpe_callB (cd_sorted own hc) hg bi.sorted PyProof.Rows.boot_sorted ha (by decide) (by decide) he hpl
end
end DL
namespace DL
open PySem PySem.Spec PyProof.Rows L2

theorem ltC_irrefl : ∀ a : List Nat, ltCps a a = false
  | [] => rfl
  | a :: r => by simp [ltCps, ltC_irrefl r]
theorem ltC_asym : ∀ a b : List Nat, ltCps a b = true → ltCps b a = false
  | [], [], h => by cases h
  | [], _ :: _, _ => rfl
  | _ :: _, [], h => by cases h
  | a :: r, b :: t, h => by
    simp only [ltCps, Bool.or_eq_true, Bool.and_eq_true, decide_eq_true_eq, beq_iff_eq] at h
    simp only [ltCps, Bool.or_eq_false_iff, Bool.and_eq_false_iff, decide_eq_false_iff_not, beq_eq_false_iff_ne]
    rcases h with h | ⟨h, g⟩
    · exact ⟨by omega, .inl (by omega)⟩
    · exact ⟨by omega, .inr (ltC_asym r t g)⟩
theorem ltC_trans : ∀ a b c : List Nat, ltCps a b = true → ltCps b c = true → ltCps a c = true
  | [], [], _, h, _ => by cases h
  | [], _ :: _, [], _, g => by cases g
  | [], _ :: _, _ :: _, _, _ => rfl
  | _ :: _, [], _, h, _ => by cases h
  | _ :: _, _ :: _, [], _, g => by cases g
  | a :: r, b :: t, c :: u, h, g => by
    simp only [ltCps, Bool.or_eq_true, Bool.and_eq_true, decide_eq_true_eq, beq_iff_eq] at h g ⊢
    rcases h with h | ⟨h, h2⟩ <;> rcases g with g | ⟨g, g2⟩
    · exact .inl (by omega)
    · exact .inl (by omega)
    · exact .inl (by omega)
    · exact .inr ⟨by omega, ltC_trans r t u h2 g2⟩
theorem ltC_conn : ∀ a b : List Nat, ltCps a b = false → ltCps b a = false → a = b
  | [], [], _, _ => rfl
  | [], _ :: _, h, _ => by cases h
  | _ :: _, [], _, g => by cases g
  | a :: r, b :: t, h, g => by
    simp only [ltCps, Bool.or_eq_false_iff, Bool.and_eq_false_iff, decide_eq_false_iff_not, beq_eq_false_iff_ne] at h g
    have e : a = b := by omega
    subst e
    rw [ltC_conn r t (h.2.resolve_left fun z => z rfl) (g.2.resolve_left fun z => z rfl)]
theorem strLt_eq (a b : Str) : strLt a b = ltCps a.cps.toList b.cps.toList := by
  unfold strLt
  rw [PyProof.Rows.ltCps_eq]
theorem str_of_list {a b : Str} (h : a.cps.toList = b.cps.toList) : a = b := by
  cases a; cases b
  congr 1
  exact Array.toList_inj.mp h
theorem strLt_irrefl (a : Str) : strLt a a = false := by rw [strLt_eq]; exact ltC_irrefl _
theorem strLt_asym {a b : Str} (h : strLt a b = true) : strLt b a = false := by rw [strLt_eq] at *; exact ltC_asym _ _ h
theorem strLt_trans {a b c : Str} (h : strLt a b = true) (g : strLt b c = true) : strLt a c = true := by rw [strLt_eq] at *; exact ltC_trans _ _ _ h g
theorem strLt_conn {a b : Str} (h : strLt a b = false) (g : strLt b a = false) : a = b := by rw [strLt_eq] at *; exact str_of_list (ltC_conn _ _ h g)
theorem strLt_ne {a b : Str} (h : strLt a b = true) : a ≠ b := fun e => by subst e; rw [strLt_irrefl] at h; cases h
theorem strLt_or {a b : Str} (h : a ≠ b) : strLt a b = true ∨ strLt b a = true := by
  cases q : strLt a b with
  | true => exact .inl rfl
  | false =>
    cases q2 : strLt b a with
    | true => exact .inr rfl
    | false => exact absurd (strLt_conn q q2) h
theorem strLt_neg_trans {x y z : Str} (h1 : strLt y x = false) (h2 : strLt z y = false) : strLt z x = false := by
  cases q : strLt z x with
  | false => rfl
  | true =>
    by_cases e : x = y
    · subst e; rw [h2] at q; cases q
    · rcases strLt_or e with r | r
      · have := strLt_trans q r; rw [h2] at this; cases this
      · rw [h1] at r; cases r
def KTup (h : Heap) (v : Value) (k : Str) : Prop := ∃ a o t us n, v = .ref a ∧ h.get? a = some o ∧ o.cls = .type "tuple" ∧ o.data = .seq us n ∧ us[0]? = some (.str k t)
theorem KTup.keeps {h h' : Heap} {v : Value} {k : Str} (p : KTup h v k) (kp : ∀ b o, h.get? b = some o → o.cls = .type "tuple" → h'.get? b = some o) : KTup h' v k := by
  obtain ⟨a, o, t, us, n, e, ho, hc, hd, hf⟩ := p
  exact ⟨a, o, t, us, n, e, kp _ _ ho hc, hc, hd, hf⟩
section
variable {prog : Program} {w : World} {A : Around} {E : Value → Shared → Prop} {s : Shared}
end
section
variable {X : Cx} {Ξ : Xt}
end
end DL
namespace DL
open PySem PySem.Spec PyProof.Rows L2

section
variable {X : Cx} {Ξ : Xt} {k j : Nat} {x : Str} {P : PSp} {p pos : Pos} {e : Expr} {es : List Expr} {da : DA}
end
section
variable {P : Program} {w : World} {K : PySem.W.Frag} {T : Addr → Prop} {mg : Str → Option Value} {base : Heap}
end
theorem set_last {S : Sto} {o o' : OD} : (S ++ [o]).set S.length o' = S ++ [o'] := by
  rw [List.set_append_right _ _ (Nat.le_refl _), Nat.sub_self]
  rfl
end DL
namespace DL
open PySem PySem.Spec PyProof.Rows L2

section
variable {K : PySem.W.Frag} {F : Fx} {B : Hp} {m : List Addr}
end
section
variable {X : Cx} {Ξ : Xt} {e e2 e3 : Expr} {da : DA} {p pos tpos : Pos} {elts : List Expr} {kk : Nat}
end
section
variable {X : Cx} {Ξ : Xt} {elt tg iter tg1 iter1 : Expr} {ifs ifs1 : List Expr} {scope : Scope} {ow : List (Str × Nat)} {vs1 : List Nat} {pos : Pos} {di di1 : DI} {g g1 : TG} {dg dg1 : DG} {tt tt1 : DT} {te : DE}
end
structure CIn (K : PySem.W.Frag) (x : Str) (i : Int) : Prop where
  ex : ∃ t, PySem.W.nsIn K mainGlobals x = some (some (.int i t))
theorem cin {K : PySem.W.Frag} {x : Str} {i : Int} {t : Tok} (h : PySem.W.nsIn K mainGlobals x = some (some (.int i t))) : CIn K x i := ⟨t, h⟩
theorem CIn.mg {K : PySem.W.Frag} {x : Str} {i : Int} {h : Heap} {mg : Str → Option Value} (c : CIn K x i) (X : K.In h) (G : h.Ns mainGlobals mg) : ∃ t, mg x = some (.int i t) := by
  obtain ⟨t, e⟩ := c.ex
  exact ⟨t, PySem.W.mg_of X G e⟩
structure CIS (K : PySem.W.Frag) (x : Str) (i : Str) : Prop where
  ex : ∃ t : Tok, PySem.W.nsIn K mainGlobals x = some (some (.str i t))
theorem cis {K : PySem.W.Frag} {x : Str} {i : Str} {t : Tok} (h : PySem.W.nsIn K mainGlobals x = some (some (.str i t))) : CIS K x i := ⟨t, h⟩
theorem CIS.mg {K : PySem.W.Frag} {x : Str} {i : Str} {h : Heap} {mg : Str → Option Value} (c : CIS K x i) (X : K.In h) (G : h.Ns mainGlobals mg) : ∃ t, mg x = some (.str i t) := by
  obtain ⟨t, e⟩ := c.ex
  exact ⟨t, PySem.W.mg_of X G e⟩
end DL
set_option maxHeartbeats 2000000
namespace GX
open PySem PySem.Spec PyProof.Rows L2

section
variable {prog : Program} {w : World} {A : Around}
theorem all_turns {R : Result → Shared → Prop} {a : Addr} (J : Nat → Shared → Prop)
    (turn : ∀ n s, J n s → wpAny (model prog w) A.in1 (pyNext (.ref a)) (fun r s' => match r with
      | none => R (.ok (.ret (.bool true))) s'
      | some v => ∃ b, v = .bool b ∧ (b = true → ∃ m, m < n ∧ J m s') ∧ (b = false → R (.ok (.ret (.bool false))) s')) (fun _ _ => False) s) :
    ∀ n s, J n s → codeAny (model prog w) A (.builtin "all.loop" ⟨[.ref a], []⟩) R s := by
  intro n
  induction n using Nat.strongRecOn with
  | ind n ih =>
    intro s hJ
    refine codeAny_builtin F.entry_all_loop ?_
    rw [Around.under_plainId F.plain_all_loop _]
    show wpAny _ A.in1 (pyNext (.ref a) >>= _) _ _ s
    refine wpAny_bind (wpAny_mono (turn n s hJ) (fun r s' h => ?_) fun _ _ z => False.elim z)
    cases r with
    | none => exact wpAny_bind (wpAny_rule (wpAny_pure h))
    | some v =>
      obtain ⟨b, rfl, h1, h2⟩ := h
      refine wpAny_bind (wpAny_holding (wpAny_truthy_bool ?_))
      refine wpAny_bind (wpAny_letGo ?_)
      cases b with
      | true =>
        obtain ⟨m, hm, hJ'⟩ := h1 rfl
        exact wpAny_pure ⟨plainId_quiet F.plain_all_loop _, ih m hm s' hJ'⟩
      | false => exact wpAny_bind (wpAny_rule (wpAny_pure (h2 rfl)))
theorem call_all_turns {x : Value} {Q : Value → Shared → Prop} {E : Value → Shared → Prop} {s : Shared}
    (h : wpAny (model prog w) A.in1 (pyIter x) (fun it s₂ => ∃ (a : Addr) (J : Nat → Shared → Prop) (n : Nat), it = .ref a ∧ J n s₂ ∧ ∀ n s, J n s → wpAny (model prog w) A.in1 (pyNext (.ref a)) (fun r s' => match r with
      | none => Q (.bool true) s'
      | some v => ∃ b, v = .bool b ∧ (b = true → ∃ m, m < n ∧ J m s') ∧ (b = false → Q (.bool false) s')) (fun _ _ => False) s) E s) :
    wpAny (model prog w) A (call (.builtin "all") [x]) Q E s := by
  refine call_function_tree F.kind_all F.plain_all F.entry_all (F.args_all1 _) ?_
  unfold Builtin.«all»
  refine wpAny_bind (m := oneArg "all" _) (wpAny_pure ?_)
  refine wpAny_bind (wpAny_mono h (fun it s₂ h₂ => ?_) fun _ _ e => e)
  obtain ⟨a, J, n, rfl, hJ, turn⟩ := h₂
  refine wpAny_pure ⟨plainId_quiet F.plain_all_loop _, all_turns J (fun n s hn => wpAny_mono (turn n s hn) (fun r s' q => ?_) fun _ _ z => z) n s₂ hJ⟩
  cases r with
  | none => exact q
  | some v => exact q
end
abbrev gex (X : Cx) (s : Shared) (H : Hp) (env : Env) (fp : List Addr) (pn : List (Addr × Obj)) : Cx :=
  { X with A := X.A.in1.in1.deeper env, s_0 := s, H_0 := H, env := env, outer := X.stack, stack := env :: X.stack, ex := fp, fn := fun _ => false, pn := pn, xe := fun _ _ => False }
section
variable {X : Cx} {pins : List (Addr × Obj)} {σ : L2.St} {H : Hp} {s : Shared}
theorem gex_start {scope : Scope} {own : List (Str × Nat)} {fp : List Addr} {code : Value} {it : Value} {h' : Heap} {go : Obj} {gs : GenState} {tk : Nat} (I : Inv X pins σ H s) (ok : BlkOk X.N X.env.scope scope own) (hN : X.N.Nodup) (hfp : ∀ b ∈ fp, FpOk X pins H b ∧ b < s.heap.objs.size)
    (hcell : ∀ y ∈ scope.names, y.2 ≠ .cell) (hns : h'.Ns s.heap.objs.size (fun y => if y = ".0" then some it else none)) (hsb : Heap.SameBut s.heap.objs.size (s.heap.push { cls := .type "frame", data := .dict #[] }) h') (hgo : ∀ v, go.data ≠ .cell v) (hgp : (h'.push go).get? h'.objs.size = some go) (hb : gs.bare = true) :
    Inv (gex X s H (genEnv scope (cloFrom X.env.cells scope.names []) s.heap.objs.size code builtinsNs X.env) fp [(h'.objs.size, go)]) [] (wipe σ (own.map (·.2))) H { s with gens := s.gens.push gs, toks := tk, heap := h'.push go } := by
  have free : ∀ y ∈ scope.names, y.2 = .free → ∃ c, X.env.cells.lookup y.1 = some c := fun y hy e => by
    rcases ok.free y hy e with k | k
    · exact I.ok.has _ (.inl k)
    · exact I.ok.has _ (.inr k)
  have kp : ∀ b o, s.heap.get? b = some o → (h'.push go).get? b = some o := fun b o e => by
    refine Heap.get?_push_of_some _ ?_
    rw [hsb.2 b (Nat.ne_of_lt (Heap.lt_size e))]
    exact Heap.get?_push_of_some _ e
  have hsz : h'.objs.size = s.heap.objs.size + 1 := by rw [hsb.1, Heap.size_push]
  have mem : ∀ {y c}, (cloFrom X.env.cells scope.names []).lookup y = some c → X.env.cells.lookup y = some c ∧ c < s.heap.objs.size := fun {y c} e => by
    rcases cloFrom_mem (PySem.mem_of_lookup e) with z | ⟨h1, rfl⟩
    · cases z
    · obtain ⟨c, hc⟩ := free _ h1 rfl
      rw [hc]
      obtain ⟨u, z⟩ := I.cell _ _ hc
      exact ⟨rfl, z.lt⟩
  have look : ∀ {y}, scope.names.lookup y = some .free → ∃ c, (cloFrom X.env.cells scope.names []).lookup y = some c ∧ X.env.cells.lookup y = some c := fun {y} hl => by
    obtain ⟨c, e⟩ := L2.mem_lookup (cloFrom_has (cells := X.env.cells) (acc := []) (PySem.mem_of_lookup hl))
    exact ⟨c, e, (mem e).1⟩
  have nocell : ∀ {y k}, scope.names.lookup y = some k → k ≠ .cell := fun {y k} e => hcell _ (PySem.mem_of_lookup e)
  have okG : (gex X s H (genEnv scope (cloFrom X.env.cells scope.names []) s.heap.objs.size code builtinsNs X.env) fp [(h'.objs.size, go)]).Ok := by
    refine ⟨I.ok.mod, ok.kind, I.ok.glob, rfl, Nat.le_refl _, fun y z c e1 e2 => I.ok.inj y z c (mem e1).1 (mem e2).1, fun y hy => ?_, (fun y c z _ => absurd z Bool.false_ne_true), I.ok.hd, Around.frames_deeper I.ok.frames, .inr ⟨rfl, rfl⟩,
      fun b hb => ⟨Nat.ne_of_lt (hfp b hb).2, fun y c e z => (hfp b hb).1.2.2.2.2.1 y c (mem e).1 z⟩, I.bs, Nat.le_trans I.ok.bsz I.sz, fun b o e hb => ?_, fun b hb z => ?_, I.stack, I.stkFree⟩
    · rcases hy with hy | hy
      · exact absurd rfl (nocell (show scope.names.lookup y = some .cell from hy))
      · obtain ⟨c, h1, _⟩ := look (show scope.names.lookup y = some .free from hy)
        exact ⟨c, h1⟩
    · rcases (hfp b hb).1.2.2.2.1 with z | z
      · exact I.ok.noex b o e z
      · exact absurd (Nat.lt_of_lt_of_le (Heap.lt_size e) (Nat.le_trans I.ok.bsz z)) (Nat.lt_irrefl _)
    · rcases List.mem_cons.mp (I.stkSub b z) with z | z
      · exact (hfp b hb).1.2.1 z
      · exact (hfp b hb).1.2.2.1 z
  refine ⟨okG, rfl, AllBare.push I.bare hb, Un.kept kp, ⟨_, hns.push _, fun i y av e1 e2 e3 => ?_⟩, fun y c e => ?_, I.hok.fresh (Nat.le_refl _), fun y c e => I.freeC y c (mem e).1, fun p hp => ?_, I.hok.kept kp, by rw [wipe_length]; exact I.len⟩
  · obtain ⟨e2, hne⟩ := wipe_some e2
    have e3 : Vis scope y := e3
    have no : ¬ scope.names.lookup y = some .local := fun z => by
      rcases ok.own _ (PySem.mem_of_lookup z) (.inl rfl) with e' | e'
      · obtain ⟨p, hp, hpy⟩ := List.mem_map.mp e'
        have q := ok.ix p hp
        rw [show p.1 = y from hpy] at q
        exact hne (List.mem_map.mpr ⟨p, hp, nodup_ix hN q e1⟩)
      · exact e' (List.mem_of_getElem? e1)
    have fr : scope.names.lookup y = some .free := by
      rcases e3 with z | z | z
      · exact absurd z no
      · exact absurd rfl (nocell z)
      · exact z
    obtain ⟨m, hn, hl⟩ := I.loc
    have cap := ok.free _ (PySem.mem_of_lookup fr) rfl
    obtain ⟨u, r, q⟩ := hl i y av e1 e2 (cap.elim (fun k => .inr (.inl k)) fun k => .inr (.inr k))
    refine ⟨u, r, .inr ⟨.inr fr, ?_⟩⟩
    obtain ⟨c, h1, h2⟩ := look fr
    rcases q with ⟨k, _⟩ | ⟨_, c', e', z⟩
    · have k : X.env.scope.names.lookup y = some .local := k
      rcases cap with k' | k' <;> rw [show X.env.scope.names.lookup y = _ from k'] at k <;> cases k
    · rw [h2] at e'; cases e'
      exact ⟨c, h1, z.keeps kp⟩
  · obtain ⟨u, z⟩ := I.cell y c (mem e).1
    exact ⟨u, z.keeps kp⟩
  · have hp : p = (h'.objs.size, go) := by simpa using hp
    subst hp
    have hle : s.heap.objs.size ≤ h'.objs.size := by omega
    refine ⟨hgp, I.hok.fresh hle, by show h'.objs.size ≠ s.heap.objs.size; omega, fun z => ?_, hgo⟩
    rcases List.mem_cons.mp (I.stkSub _ z) with y | y
    · have := I.lt
      rw [← y] at this
      exact absurd (Nat.lt_of_lt_of_le this hle) (Nat.lt_irrefl _)
    · exact I.nofs hle y
end

structure Slept0 (s s' : Shared) : Prop where
  os : s'.os = s.os
  bare : AllBare s'.gens
  keep : ∀ b o, s.heap.get? b = some o → s'.heap.get? b = some o
section
variable {X : Cx} {s3 : Shared} {H3 : Hp} {genv : Env} {fp : List Addr} {pn : List (Addr × Obj)} {σ : L2.St} {vs : List Nat} {elt tg iter : Expr} {ifs : List Expr} {scope : Scope} {pos : Pos} {it : Addr} {tn : Nat → Heap → Prop} {J : It} {g : TG} {tt : TT} {te : TE}
theorem slept_inv {Xg : Cx} {pins : List (Addr × Obj)} {σ' : L2.St} {H : Hp} {s s' : Shared} (I : Inv Xg pins σ' H s) (z : Slept0 s s') : Inv Xg pins σ' H s' :=
  I.call' (ch := []) z.os (Un.kept z.keep) (I.hok.kept z.keep) z.bare fun b hb => by simp at hb
def endG (Xg : Cx) (Qt : Hp → Prop) : GenEnd := fun _ _ r s => r = .ok .next ∧ ∃ σ' H', Inv Xg [] σ' H' s ∧ Qt H'
def outG (Xg : Cx) (Qf : Hp → Prop) : Protocol := fun _ _ v s kap => ∃ b pins σ' H', v = .bool b ∧ Inv Xg pins σ' H' s ∧ (b = false → Qf H') ∧ (b = true → ∀ s', Slept0 s s' → kap (.send .none) s')
def turnsG (J : It) (g : TG) (tt : TT) (te : TE) (σ0 : L2.St) (vs : List Nat) (Qt Qf : Hp → Prop) (W : Nat → Nat → Hp → Prop) : Prop := ∀ i m H, W i m H → (J.stop i H ∧ Qt H) ∨ (J.go i H ∧ ∃ Nx : Hp → Prop, (∀ H', Nx H' → ∃ m', m' < m ∧ W (i + 1) m' H') ∧
  ∀ x H', J.yld i H x H' → g x σ0 H' fun σ2 H2 => wipe σ2 vs = σ0 ∧ tt σ2 H2 fun b H3 => if b = true then te σ2 H3 fun y H4 => ∃ k, y = .bl k ∧ (k = true → Nx H4) ∧ (k = false → Qf H4) else Nx H3)
theorem seg_turns {Qt Qf : Hp → Prop} {W : Nat → Nat → Hp → Prop} (hc : X.calm = true) (T : Turn X.prog X.w X.K tg J fp it tn) (pg : PG (gex X s3 H3 genv fp pn) tg g) (pt : PTs (gex X s3 H3 genv fp pn) ifs tt) (pe : PE (gex X s3 H3 genv fp pn) elt te)
    (hco : genv.scope.isCoroutine = false) (hpn : ∀ p ∈ pn, p.1 ∉ fp) (turn : turnsG J g tt te (wipe σ vs) vs Qt Qf W) :
    ∀ (m n i : Nat) (s₀ s : Shared) (H : Hp), m < n → Inv (gex X s3 H3 genv fp pn) [] (wipe σ vs) H s → tn i s.heap → (∀ b ∈ fp, H b = none) → W i m H →
      Seg (model X.prog X.w) X.A.in1.in1 (endG (gex X s3 H3 genv fp pn) Qt) (outG (gex X s3 H3 genv fp pn) Qf) n s₀ (.compLoop (.GeneratorExp elt [⟨tg, iter, ifs, 0⟩] scope pos) 0 (.ref it) .none genv)
        ((model X.prog X.w).den (.compLoop (.GeneratorExp elt [⟨tg, iter, ifs, 0⟩] scope pos) 0 (.ref it) .none genv)) [] s := by
  have stat : ∀ {σ' : L2.St} {H' : Hp} {s' : Shared}, Inv (gex X s3 H3 genv fp pn) [] σ' H' s' → (∀ b ∈ fp, H' b = none) → ∀ b ∈ fp, FpOk (gex X s3 H3 genv fp pn) [] H' b := fun {σ' H' s'} I' hn b hb =>
    ⟨hn b hb, (I'.ok.exf b hb).1, I'.ok.exfs b hb, .inl hb, fun x c e => (I'.ok.exf b hb).2 x c e, fun p hp z => hpn p (by simpa using hp) (z ▸ hb)⟩
  intro m
  induction m using Nat.strongRecOn with
  | ind m ih =>
    intro n i s₀ s H hmn I st hn w
    show Seg _ _ _ _ _ s₀ _ ((compTurn (.GeneratorExp elt [⟨tg, iter, ifs, 0⟩] scope pos) 0 (.ref it) .none genv).onRaise (leaving genv)) [] s
    rw [compTurn_gen, Sem.onRaise_eq_wrap]
    refine seg_bind_wrap (wpAny_standAt ?_)
    rcases turn i m H w with ⟨stop, q⟩ | ⟨go, Nx, hNx, step⟩
    · refine seg_bind_wrap (thnF (T.done (gex X s3 H3 genv fp pn) rfl rfl rfl hc i [] s _ H (fun _ _ => False) I (stat I hn) st stop) fun r s6 ⟨hr, I6⟩ => ?_)
      subst hr
      exact seg_end (.ok .next) ⟨rfl, _, _, I6, q⟩
    · refine seg_bind_wrap (thnF (T.item (gex X s3 H3 genv fp pn) rfl rfl rfl hc i [] s _ H (fun _ _ => False) I (stat I hn) st go) fun r s6 ⟨u, hr, h6⟩ => ?_)
      subst hr
      refine seg_bind_wrap (thnF h6 fun _ s7 ⟨x, H7, I7, r7, y7, st7, n7⟩ => ?_)
      have I7' := I7.pinned (stat I7 n7) (T.obj _ _ st7)
      refine seg_bind_wrap (thnF (pg.run _ s7 _ H7 x u _ I7' r7 (step x H7 y7)) fun _ s8 ⟨σ8, H8, I8, hw8, q8⟩ => ?_)
      refine seg_bind_wrap (thnF (pt.run _ s8 σ8 H8 _ I8 q8) fun b s9 ⟨H9, I9, q9⟩ => ?_)
      -- the next turn
      have fin : ∀ {s' s'' : Shared} {H' : Hp} {n' : Nat}, Inv (gex X s3 H3 genv fp pn) ([] ++ pinsAt fp s7.heap) σ8 H' s' → Nx H' → (∀ m', m' < m → m' < n') → ∀ sa,
          Seg (model X.prog X.w) X.A.in1.in1 (endG (gex X s3 H3 genv fp pn) Qt) (outG (gex X s3 H3 genv fp pn) Qf) n' sa (.compLoop (.GeneratorExp elt [⟨tg, iter, ifs, 0⟩] scope pos) 0 (.ref it) .none genv)
            ((model X.prog X.w).den (.compLoop (.GeneratorExp elt [⟨tg, iter, ifs, 0⟩] scope pos) 0 (.ref it) .none genv)) [] s' := fun {s' s'' H' n'} I' nx hn' sa => by
        obtain ⟨m', hm, w'⟩ := hNx H' nx
        have pin' : ∀ b ∈ fp, ∀ o, s7.heap.get? b = some o → s'.heap.get? b = some o ∧ H' b = none := fun b hb o e =>
          let z := I'.pin (b, o) (List.mem_append_right _ (List.mem_append_right _ (mem_pinsAt hb e)))
          ⟨z.1, z.2.1⟩
        have hl : (wipe σ vs).length = σ8.length := by rw [← hw8, wipe_length]
        refine ih m' hm n' (i + 1) sa s' H' (hn' m' hm) ((I'.unpinned (pins := [])).weak hl fun j v e => ?_) (T.keep _ _ _ st7 fun b hb o e => (pin' b hb o e).1) (fun b hb => ?_) w'
        · rw [← hw8] at e
          exact (wipe_some e).1
        · obtain ⟨o, e, _⟩ := T.obj _ _ st7 b hb
          exact (pin' b hb o e).2
      cases b with
      | false =>
        simp only [Bool.false_eq_true, if_false] at q9 ⊢
        exact seg_again rfl (fin (s'' := s9) I9 q9 (fun m' h => by omega) s₀)
      | true =>
        simp only [if_true] at q9 ⊢
        have hy : ∀ v, yieldOut genv v = yieldValue v := fun v => by simp only [yieldOut, hco, Bool.false_eq_true, if_false]
        simp only [hy]
        rw [Sem.bind_eq_wrap', Sem.bind_eq_wrap', Sem.wrap_wrap, Sem.wrap_wrap]
        refine seg_wrap (thnF (pe.run _ s9 σ8 H9 _ I9 q9) fun z s10 ⟨yv, H10, I10, r10, k, ek, hk1, hk2⟩ => ?_)
        subst ek
        obtain rfl : z = Value.bool k := r10
        obtain ⟨n', rfl⟩ : ∃ n', n = n' + 1 := ⟨n - 1, by omega⟩
        refine seg_at (seg_yield rfl rfl rfl ⟨k, _, _, _, rfl, I10, hk2, fun hk s'' hz => ?_⟩)
        exact seg_again rfl (fin (s'' := s'') (slept_inv I10 hz) (hk1 hk) (fun m' h => by omega) s'')
theorem seg_start {Qt Qf : Hp → Prop} {W : Nat → Nat → Hp → Prop} (hc : X.calm = true) (T : Turn X.prog X.w X.K tg J fp it tn) (pg : PG (gex X s3 H3 genv fp pn) tg g) (pt : PTs (gex X s3 H3 genv fp pn) ifs tt) (pe : PE (gex X s3 H3 genv fp pn) elt te)
    (hco : genv.scope.isCoroutine = false) (hpn : ∀ p ∈ pn, p.1 ∉ fp) (turn : turnsG J g tt te (wipe σ vs) vs Qt Qf W) (m n : Nat) (s₀ s : Shared) (H : Hp) (hmn : m < n) (I : Inv (gex X s3 H3 genv fp pn) [] (wipe σ vs) H s) (st : tn 0 s.heap) (hn : ∀ b ∈ fp, H b = none) (w : W 0 m H) :
    Seg (model X.prog X.w) X.A.in1.in1 (endG (gex X s3 H3 genv fp pn) Qt) (outG (gex X s3 H3 genv fp pn) Qf) n s₀ (.compStart (.GeneratorExp elt [⟨tg, iter, ifs, 0⟩] scope pos) 0 (.ref it) .none genv)
      ((model X.prog X.w).den (.compStart (.GeneratorExp elt [⟨tg, iter, ifs, 0⟩] scope pos) 0 (.ref it) .none genv)) [] s := by
  have loop := seg_turns (iter := iter) (scope := scope) (pos := pos) hc T pg pt pe hco hpn turn m n 0 s₀ s H hmn I st hn w
  show Seg _ _ _ _ _ s₀ _ ((compStart (.GeneratorExp elt [⟨tg, iter, ifs, 0⟩] scope pos) 0 (.ref it) .none genv).onRaise (leaving genv)) [] s
  unfold compStart
  rw [Sem.onRaise_eq_wrap]
  show Seg _ _ _ _ _ s₀ _ ((ask >>= _).wrap _ _ _ _) [] s
  refine seg_bind_wrap (wpAny_askSetting ?_)
  split
  · exact seg_again rfl loop
  · refine seg_bind_wrap (wpAny_rule ?_)
    show Seg _ _ _ _ _ s₀ _ ((standAt iter.pos >>= _).wrap _ _ _ _) [] s
    exact seg_bind_wrap (wpAny_standAt (seg_bind_wrap (T.self _ 0 s _ _ st (seg_again rfl loop))))
end

section
variable {X : Cx} {pins : List (Addr × Obj)} {σ : L2.St} {H3 : Hp} {s3 : Shared} {genv : Env} {fp : List Addr} {a : Addr} {g : Nat} {go : Obj} {nm qn : Value}
theorem back {pins' : List (Addr × Obj)} {σ' : L2.St} {H' : Hp} {s' s'' : Shared} (I3 : Inv X pins σ H3 s3) (hfp : ∀ b ∈ fp, FpOk X pins H3 b) {pn : List (Addr × Obj)} (I' : Inv (gex X s3 H3 genv fp pn) pins' σ' H' s') (os : s''.os = s'.os) (bare : AllBare s''.gens) (k : ∀ b o, s'.heap.get? b = some o → s''.heap.get? b = some o) : Inv X pins σ H' s'' := by
  have J := slept_inv I' ⟨os, bare, k⟩
  exact I3.call' (ch := fp) J.os J.base J.hok J.bare fun b hb => ⟨(hfp b hb).2.2.2.1, (hfp b hb).2.1, (hfp b hb).2.2.2.2.1, (hfp b hb).2.2.2.2.2⟩
def Asleep (X : Cx) (s3 : Shared) (H3 : Hp) (genv : Env) (fp : List Addr) (pn : List (Addr × Obj)) (a : Addr) (g : Nat) (Qt Qf : Hp → Prop) (n : Nat) (s : Shared) : Prop :=
  s.heap.IsGen a g ∧ s.heap.NoLimit ∧ AllBare s.gens ∧ ∃ gs, s.gens[g]? = some gs ∧ ∀ s'', Slept0 s s'' → gs.Goes (model X.prog X.w) X.A.in1.in1 (endG (gex X s3 H3 genv fp pn) Qt) (outG (gex X s3 H3 genv fp pn) Qf) n (.send .none) s''
theorem next_gen {Qt Qf : Hp → Prop} {n : Nat} {s : Shared} {Q : Option Value → Shared → Prop} {k : Nat} (hr : Room k X.A) (hgo : go.cls = .type "generator" ∧ go.data = .fields #[.int g 0, nm, qn] ∧ go.slots = #[]) (h : Asleep X s3 H3 genv fp [(a, go)] a g Qt Qf n s)
    (hT : ∀ σ' H' s1 s2, Inv (gex X s3 H3 genv fp [(a, go)]) [] σ' H' s1 → Qt H' → s2.os = s1.os → AllBare s2.gens → (∀ b o, s1.heap.get? b = some o → s2.heap.get? b = some o) → Q none s2)
    (hF : ∀ b pins' σ' H' s1 s2, Inv (gex X s3 H3 genv fp [(a, go)]) pins' σ' H' s1 → (b = false → Qf H') → s2.os = s1.os → AllBare s2.gens → (∀ b o, s1.heap.get? b = some o → s2.heap.get? b = some o) → (b = true → ∃ m, m < n ∧ Asleep X s3 H3 genv fp [(a, go)] a g Qt Qf m s2) → Q (some (.bool b)) s2) :
    wpAny (model X.prog X.w) X.A.in1 (pyNext (.ref a)) Q (fun _ _ => False) s := by
  obtain ⟨hg, hl, hb, gs, hgs, hgoes⟩ := h
  have hlt : g + 1 ≤ s.gens.size := (Array.getElem?_eq_some_iff.mp hgs).1
  refine GenW.wpAny_gsz hlt ?_
  refine wpAny_pyNext_genexpQ (P := fun _ _ s => ∃ σ' H', Inv (gex X s3 H3 genv fp [(a, go)]) [] σ' H' s ∧ Qt H') hr.hd hl hr.depth hg hgs (hgoes _ ⟨rfl, allBare_setGen hb rfl, fun _ _ e => e⟩) (fun v s1 gs' hb' hv hsz => ?_) (fun s1 ⟨σ', H', I', q⟩ h' hk _ => ?_)
  · obtain ⟨b, pins', σ', H', rfl, I', hf, ht⟩ := hv
    refine hF b pins' σ' H' s1 _ I' hf rfl (allBare_setGen I'.bare hb') (fun _ _ e => e) fun eb => ?_
    have hsz' : g < s1.gens.size := by
      have : g + 1 ≤ (s1.setGen g gs').gens.size := hsz
      rw [GenW.setGen_size] at this
      exact this
    cases n with
    | zero => exact False.elim (ht eb s1 ⟨rfl, I'.bare, fun _ _ e => e⟩)
    | succ m =>
      have hp := (I'.pin (a, go) (List.mem_append_left _ (List.mem_singleton.mpr rfl))).1
      exact ⟨m, Nat.lt_succ_self _, ⟨go, nm, qn, hp, hgo⟩, I'.nolimit, allBare_setGen I'.bare hb', gs', setGen_at hsz', fun s'' z => ht eb s'' ⟨z.os, z.bare, z.keep⟩⟩
  · exact hT σ' H' s1 _ I' q rfl (allBare_setGen I'.bare rfl) hk
end

section
variable {X : Cx} {pins : List (Addr × Obj)} {σ : L2.St} {H : Hp} {s : Shared}
theorem gx_code {c p : Addr} {gpos : Pos} {scope : Scope} {Q : Value → Addr → Shared → Prop} (TB : GxR.TabB X.base X.mg c p) (hcode : X.env.code = .ref c) (I : Inv X pins σ H s) (hT : GxR.TabG H p)
    (h : ∀ code s' H', GxR.Tabbed p H H' → Inv X pins σ H' s' → (∀ b o, b ≠ p → s.heap.get? b = some o → s'.heap.get? b = some o) → Q code builtinsNs s') :
    wpAny (model X.prog X.w) X.A (genexprCode X.env gpos (X.env.qual ++ "<genexpr>") scope) (fun code s1 => wpAny (model X.prog X.w) X.A (builtinsFor X.env.globals X.env.builtins) (fun bi s2 => Q code bi s2) X.xe s1) X.xe s := by
  obtain ⟨ps, hP, ht⟩ := hT
  have hp : s.heap.get? p = some { cls := .none, data := .fields ps } := I.hok p _ hP
  have cd : PySem.W.CodeHd s.heap c p := TB.code.keeps fun b u e => I.bk b u e
  obtain ⟨bm, ob, e1, e2, e3, e4, e5, e6, e7, e8⟩ := TB.bm
  have bi : ∀ (code : Value) (s' : Shared) (H' : Hp), GxR.Tabbed p H H' → Inv X pins σ H' s' → (∀ b o, b ≠ p → s.heap.get? b = some o → s'.heap.get? b = some o) →
      wpAny (model X.prog X.w) X.A (builtinsFor X.env.globals X.env.builtins) (fun bi s2 => Q code bi s2) X.xe s' := fun code s' H' tb I' k => by
    refine wpAny_builtinsFor (m := X.mg) (by rw [I'.ok.glob]; exact I'.mod.glob.keeps I'.bk) e1 e2 (I'.bk _ _ e5) e6 e7 e8 (h code s' H' tb I' k)
  cases hf : codeAmong gpos ps.toList with
  | some cv => exact wpAny_genexprCode_hit hcode (cd.code hp ht) hf (bi cv s H ⟨⟨ps, hP, ht⟩, fun _ _ => rfl⟩ I fun _ _ _ e => e)
  | none =>
    refine wpAny_genexprCodeX hcode (cd.code hp ht) (cd.tab hp) hf fun c' h' tk hx _ _ hco' _ htab' _ => ?_
    obtain ⟨o1, us, f1, tf, fl, tg, inF, tx, tt, op, _, _, _, _, _, _, _, _, _, htr, _⟩ := hco'
    have J := GxR.inv_tab (more := #[rawInt gpos.line, rawInt gpos.col, .ref c']) (h' := h') (g' := s.gens) (d' := s.drawn) (t' := tk) I hP hx htab'.2 I.bare
    exact bi _ _ _ ⟨⟨_, upd_same, htr⟩, fun b hb => upd_ne hb⟩ J hx
end
def tAllX (p : Addr) (wi : TI) (g : TG) (tt : TT) (te : TE) (vs : List Nat) : TE := fun σ H Q => wi σ H fun J H1 => GxR.TabG H1 p ∧ ∀ H2, GxR.Tabbed p H1 H2 → ∃ W : Nat → Nat → Hp → Prop, (∃ m, W 0 m H2) ∧ turnsG J g tt te (wipe σ vs) vs (Q (.bl true)) (Q (.bl false)) W
theorem pe_allX {X : Cx} {c p : Addr} {elt tg iter : Expr} {ifs : List Expr} {pp pos gpos : Pos} {scope : Scope} {own : List (Str × Nat)} {wi : TI} {g : TG} {tt : TT} {te : TE} {k : Nat}
    (hr : Room k X.A) (hc : X.calm = true) (hN : X.N.Nodup) (hg : Gl X "all") (hm : X.mg "all" = none) (TB : GxR.TabB X.base X.mg c p) (hcode : X.env.code = .ref c) (hi : PI X tg iter wi) (ok : BlkOk X.N X.env.scope scope own)
    (hcell : ∀ y ∈ scope.names, y.2 ≠ .cell) (h0 : scope.names.lookup (".0" : Str) = some NameKind.local) (hco : scope.isCoroutine = false)
    (pg : ∀ (s : Shared) (H : Hp) (cl : List (Str × Addr)) (C : Addr) (code : Value) (fp : List Addr) (pn : List (Addr × Obj)), PG (gex X s H (genEnv scope cl C code builtinsNs X.env) fp pn) tg g)
    (pt : ∀ (s : Shared) (H : Hp) (cl : List (Str × Addr)) (C : Addr) (code : Value) (fp : List Addr) (pn : List (Addr × Obj)), PTs (gex X s H (genEnv scope cl C code builtinsNs X.env) fp pn) ifs tt)
    (pe : ∀ (s : Shared) (H : Hp) (cl : List (Str × Addr)) (C : Addr) (code : Value) (fp : List Addr) (pn : List (Addr × Obj)), PE (gex X s H (genEnv scope cl C code builtinsNs X.env) fp pn) elt te)
    (hs : ∀ v, genFold iter X.env v = pure v := by intro _; rfl)
    (he : starEach [.GeneratorExp elt [⟨tg, iter, ifs, 0⟩] scope gpos] X.env = (false, eval (.GeneratorExp elt [⟨tg, iter, ifs, 0⟩] scope gpos) X.env) :: starEach [] X.env := by rfl) :
    PE X (.Call (.Name "all" pp) [.GeneratorExp elt [⟨tg, iter, ifs, 0⟩] scope gpos] [] pos) (tAllX p wi g tt te (own.map (·.2))) := by
  refine ⟨fun pins s σ H Q I h => ?_⟩
  refine wpAny_Call_Name_kw (ld_blt I hg hm (PyProof.Rows.boot_all) ?_)
  refine PyProof.Rows.callWith_builtin1 ?_ he (by rfl)
  rw [he]
  show wpAny _ _ (spliced ((false, eval (.GeneratorExp elt [⟨tg, iter, ifs, 0⟩] scope gpos) X.env) :: backTo pos (starEach [] X.env))) _ _ s
  have free : ∀ y ∈ scope.names, y.2 = .free → ∃ c, X.env.cells.lookup y.1 = some c := fun y hy e => by
    rcases ok.free y hy e with k | k
    · exact I.ok.has _ (.inl k)
    · exact I.ok.has _ (.inr k)
  refine Calls.spliced_cons (wpAny_GeneratorExp_make hco (closure_ok free) hcell h0 ok.kind hr.depth (thn (hi.run pins s σ H _ I h) fun xv s1 hx => thn hx fun itv s2 h2 => ?_) hs)
  obtain ⟨it, fp, tn, J, H2, e, I2, T, st2, f2, tb2, q2⟩ := h2
  subst e
  refine ⟨I2.nolimit, gx_code TB hcode I2 tb2 fun code s3 H3 tb I3 k3 => ?_⟩
  obtain ⟨W, ⟨m0, w0⟩, turn⟩ := q2 H3 tb
  intro h' hns hsb
  have hp2 : ∀ b ∈ fp, b ≠ p := fun b hb z => by
    obtain ⟨ps, e, _⟩ := tb2
    have := (f2 b hb).1
    rw [z, e] at this; cases this
  have st3 : tn 0 s3.heap := T.keep _ _ _ st2 fun b hb o e => k3 b o (hp2 b hb) e
  have f3 : ∀ b ∈ fp, FpOk X pins H3 b ∧ b < s3.heap.objs.size := fun b hb => by
    obtain ⟨o, e, _⟩ := T.obj _ _ st3 b hb
    obtain ⟨x0, x1⟩ := f2 b hb
    exact ⟨⟨by rw [tb.2 b (hp2 b hb)]; exact x0, x1⟩, Heap.lt_size e⟩
  have hsz : h'.objs.size = s3.heap.objs.size + 1 := by rw [hsb.1, Heap.size_push]
  generalize hgo : ({ cls := .type "generator", data := .fields #[.int s3.gens.size 0, .str "<genexpr>" (s3.toks + 1), .str (X.env.qual ++ "<genexpr>") (s3.toks + 1 + 1)] } : Obj) = go
  have go1 : go.cls = .type "generator" ∧ go.data = .fields #[.int s3.gens.size 0, .str "<genexpr>" (s3.toks + 1), .str (X.env.qual ++ "<genexpr>") (s3.toks + 1 + 1)] ∧ go.slots = #[] := by subst hgo; exact ⟨rfl, rfl, rfl⟩
  have go2 : (h'.push go).get? h'.objs.size = some go := by subst hgo; exact Heap.get?_push_size _ rfl
  have I4 := gex_start (code := code) (it := .ref it) (gs := .fresh (.compStart (.GeneratorExp elt [⟨tg, iter, ifs, 0⟩] scope gpos) 0 (.ref it) .none (genEnv scope (cloFrom X.env.cells scope.names []) s3.heap.objs.size code builtinsNs X.env))) (tk := s3.toks + 1 + 1 + 1) I3 ok hN f3 hcell hns hsb (fun v z => by rw [go1.2.1] at z; cases z) go2 rfl
  have hpn : ∀ q ∈ [(h'.objs.size, go)], q.1 ∉ fp := fun q hq z => by
    have hq : q = (h'.objs.size, go) := by simpa using hq
    subst hq
    have := (f3 _ z).2
    have this : (h'.objs.size : Nat) < s3.heap.objs.size := this
    omega
  have st4 : tn 0 (h'.push go) := T.keep _ _ _ st3 fun b hb o e => Heap.get?_push_of_some _ (by
    rw [hsb.2 b (Nat.ne_of_lt (Heap.lt_size e))]
    exact Heap.get?_push_of_some _ e)
  refine Calls.spliced_nil (call_all_turns (wpAny_pyIter_gen (a := h'.objs.size) (g := s3.gens.size) ⟨go, _, _, go2, go1⟩ ?_))
  refine ⟨h'.objs.size, Asleep X s3 H3 (genEnv scope (cloFrom X.env.cells scope.names []) s3.heap.objs.size code builtinsNs X.env) fp [(h'.objs.size, go)] h'.objs.size s3.gens.size (Q (.bl true)) (Q (.bl false)), m0 + 1, rfl, ⟨⟨go, _, _, go2, go1⟩, I4.nolimit, I4.bare, _, Array.getElem?_push_size .., fun s'' z => ⟨rfl, ?_⟩⟩, fun n s5 h5 => ?_⟩
  · exact seg_start hc T (pg _ _ _ _ _ _ _) (pt _ _ _ _ _ _ _) (pe _ _ _ _ _ _ _) hco hpn turn m0 (m0 + 1) s'' s'' H3 (Nat.lt_succ_self _) (slept_inv I4 z) (T.keep _ _ _ st4 fun b _ o e => z.keep b o e) (fun b hb => (f3 b hb).1.1) w0
  · refine next_gen hr go1 h5 (fun σ' H' s6 s7 I' q os ba k => ?_) fun b pins' σ' H' s6 s7 I' hf os ba k hn => ?_
    · exact ⟨.bl true, H', back I3 (fun b hb => (f3 b hb).1) I' os ba k, rfl, q⟩
    · exact ⟨b, rfl, hn, fun eb => ⟨.bl false, H', back I3 (fun b hb => (f3 b hb).1) I' os ba k, rfl, hf eb⟩⟩
end GX
namespace DL
open PySem PySem.Spec PyProof.Rows L2 GX

def allG (g : DG) (tt : DT) (te : DE) (env0 : En) : List W → Sto → (Bool → Sto → Prop) → Prop
  | [], S, Kp => Kp true S
  | w :: ws, S, Kp => g w env0 S fun env1 S1 => tt env1 S1 fun b S2 => ifB b (te env1 S2 fun y S3 => onB y fun k => ifB k (allG g tt te env0 ws S3 Kp) (Kp false S3)) (allG g tt te env0 ws S2 Kp)
def dAllG (di : DI) (g : DG) (tt : DT) (te : DE) (vs : List Nat) : DE := fun env S Kp => di env S fun ws S1 => allG g tt te (wipeD env vs) ws S1 fun k S2 => Kp (.fz (.bl k)) S2
section
variable {X : Cx} {Ξ : Xt} {elt tg iter : Expr} {ifs : List Expr} {scope : Scope} {ow : List (Str × Nat)} {pos pp gpos : Pos} {di : DI} {g : TG} {dg : DG} {tt : DT} {te : DE} {cdv : Value} {k : Nat}
theorem imp_all {p : Addr} (vs : List Nat) (lk : Lk X.K g dg vs) {F : Fx} (tp : F.T p) (σ : L2.St) (H : Hp) (Q : VK) (h : lE X.K F (dAllG di dg tt te vs) σ H Q) : tAllX p (lI X.K F di) g (lT X.K F tt) (lE X.K F te) vs σ H Q := by
  obtain ⟨B, m, S, env, Kp, cf, er, h, k⟩ := h
  refine ⟨B, m, S, env, _, cf, er, h, fun ws S1 h1 J H1 B1 m1 n1 J1 => ⟨(n1.cf.tab p tp).1, fun H2 tb => ?_⟩⟩
  have n2 := n1.trans (n1.cf.tabbed tp tb)
  have er0 : ER X.K B1 m1 (wipeD env vs) (wipe σ vs) := (er.nx n1).wipe vs
  refine ⟨fun i n G => n = ws.length - i ∧ i ≤ ws.length ∧ ∃ (B2 : Hp) (m2 : List Addr) (S2 : Sto), Nx X.K F B m H B2 m2 S2 G ∧ Sub B1 B2 ∧ Pre m1 m2 ∧ allG dg tt te (wipeD env vs) (ws.drop i) S2 fun k S2 => Kp (.fz (.bl k)) S2, ⟨_, rfl, Nat.zero_le _, B1, m1, S1, n2, .refl, .refl, by rw [List.drop_zero]; exact h1⟩, ?_⟩
  rintro i n G ⟨en, hi, B2, m2, S2, n3, sb, pr, h2⟩
  by_cases hlt : i < ws.length
  · obtain ⟨hgo, hy⟩ := J1.go B2 m2 S2 G n3.cf sb pr i ws[i] (List.getElem?_eq_getElem hlt)
    rw [List.drop_eq_getElem_cons hlt] at h2
    refine .inr ⟨hgo, fun G' => ∃ (B2 : Hp) (m2 : List Addr) (S2 : Sto), Nx X.K F B m H B2 m2 S2 G' ∧ Sub B1 B2 ∧ Pre m1 m2 ∧ allG dg tt te (wipeD env vs) (ws.drop (i + 1)) S2 fun k S2 => Kp (.fz (.bl k)) S2, fun G' q => ⟨_, ?_, rfl, hlt, q⟩, fun x G3 y => ?_⟩
    · omega
    · obtain ⟨B3, n4, r3⟩ := hy x G3 y
      refine lk F B3 m2 S2 G3 (wipeD env vs) σ ws[i] x _ _ n4.cf (er0.mono (sb.trans n4.sb) (pr.trans n4.pr)) r3 h2 fun env4 S4 h4 σ4 hw4 G4 B4 m4 n5 er4 => ⟨hw4, ?_⟩
      refine ⟨B4, m4, S4, env4, _, n5.cf, er4, h4, fun b S5 h5 G5 B5 m5 n6 => ?_⟩
      have nn := n3.trans (n4.trans (n5.trans n6))
      have sb' := sb.trans (n4.sb.trans (n5.sb.trans n6.sb))
      have pr' := pr.trans (n4.pr.trans (n5.pr.trans n6.pr))
      replace h5 := ifB_if h5
      cases b with
      | false =>
        rw [if_neg Bool.false_ne_true] at h5
        show if false = true then _ else _
        rw [if_neg Bool.false_ne_true]
        exact ⟨B5, m5, S5, nn, sb', pr', h5⟩
      | true =>
        rw [if_pos rfl] at h5
        show if true = true then _ else _
        rw [if_pos rfl]
        refine ⟨B5, m5, S5, env4, _, n6.cf, er4.nx n6, h5, fun u S6 h6 v G6 B6 m6 n7 r6 => ?_⟩
        obtain ⟨q, eq, h7⟩ := onB_ex h6
        subst eq
        replace h7 := ifB_if h7
        refine ⟨q, r6.bl_of, fun eq => ?_, fun eq => ?_⟩
        · subst eq
          rw [if_pos rfl] at h7
          exact ⟨B6, m6, S6, nn.trans n7, sb'.trans n7.sb, pr'.trans n7.pr, h7⟩
        · subst eq
          rw [if_neg Bool.false_ne_true] at h7
          exact k _ _ h7 _ _ _ _ (nn.trans n7) (.fz .bl)
  · have e : i = ws.length := by omega
    subst e
    rw [List.drop_length] at h2
    exact .inl ⟨J1.stop B2 m2 S2 G n3.cf sb pr, k _ _ h2 _ _ _ _ n3 (.fz .bl)⟩
theorem dpe_all (gn : GnC X.base X.mg Ξ.T X.env.code) (hr : Room k X.A) (bi : Bi X.mg) (lk : Lk X.K g dg (ow.map (·.2))) (hc : X.calm = true) (hN : X.N.Nodup) (hi : DPI X Ξ tg iter di) (bk : BlkOk X.N X.env.scope scope ow) (hcell : (scope.names.all fun y => y.2 != .cell) = true)
    (pg : ∀ (s : Shared) (H : Hp) (cl : List (Str × Addr)) (C : Addr) (code : Value) (fp : List Addr) (pn : List (Addr × Obj)), PG (gex X s H (genEnv scope cl C code builtinsNs X.env) fp pn) tg g)
    (pt : ∀ (s : Shared) (H : Hp) (cl : List (Str × Addr)) (C : Addr) (code : Value) (fp : List Addr) (pn : List (Addr × Obj)), DPTs (gex X s H (genEnv scope cl C code builtinsNs X.env) fp pn) Ξ.nox ifs tt)
    (pe : ∀ (s : Shared) (H : Hp) (cl : List (Str × Addr)) (C : Addr) (code : Value) (fp : List Addr) (pn : List (Addr × Obj)), DPE (gex X s H (genEnv scope cl C code builtinsNs X.env) fp pn) Ξ.nox elt te)
    (hg : Gl X "all" := by rfl) (h0 : scope.names.lookup (".0" : Str) = some NameKind.local := by rfl) (hco : scope.isCoroutine = false := by rfl) (hs : ∀ v, genFold iter X.env v = pure v := by intro _; rfl)
    (he : starEach [.GeneratorExp elt [⟨tg, iter, ifs, 0⟩] scope gpos] X.env = (false, eval (.GeneratorExp elt [⟨tg, iter, ifs, 0⟩] scope gpos) X.env) :: starEach [] X.env := by rfl) :
    DPE X Ξ (.Call (.Name "all" pp) [.GeneratorExp elt [⟨tg, iter, ifs, 0⟩] scope gpos] [] pos) (dAllG di dg tt te (ow.map (·.2))) := by
  obtain ⟨c, p, hcode, tb, tp⟩ := gn
  refine ⟨fun F okf => PE.imp (pe_allX hr hc hN hg bi.all tb hcode (hi.run F okf) bk (fun y hy z => ?_) h0 hco pg (fun s H cl C code fp pn => (pt s H cl C code fp pn).run F okf.nox) (fun s H cl C code fp pn => (pe s H cl C code fp pn).run F okf.nox) hs he) (imp_all _ lk (by rw [okf.t]; exact tp))⟩
  have := List.all_eq_true.mp hcell y hy
  rw [z] at this
  cases this
end
section
variable {X : Cx} {x y z : Str} {p1 p2 p3 pos : Pos} {k : Nat}
end
def inS : DR2 := fun x y S Kp => match x, y with
  | .fz (.str i), .fz (.str z) => match i.cps.toList with
    | [c] => Kp (.fz (.bl (decide (c ∈ z.cps.toList)))) S
    | _ => False
  | _, _ => False
section
variable {X : Cx} {Ξ : Xt} {a b : Expr} {da db : DE} {pos : Pos}
theorem od_inS : OpD X (compareOp .In) inS := fun F => OpR.imp op_in_sign fun x y H Q ⟨B, m, S, wx, wy, Kp, cf, rx, ry, h, k⟩ => by
  unfold inS at h
  split at h
  · rename_i i z
    split at h
    · rename_i c e
      have ei : i = ⟨#[c]⟩ := str_of_list e
      subst ei
      exact ⟨c, z, rx.str_of, ry.str_of, k.here cf h (.fz .bl)⟩
    · exact h.elim
  · exact h.elim
theorem e_inS (ha : DPE X Ξ a da) (hb : DPE X Ξ b db) (hm : behindInMarks .In b = false := by with_unfolding_all rfl) : DPE X Ξ (.Compare a [.In] [b] pos) (dOp inS da db) := dpe_cmp od_inS ha hb hm
end
end DL
namespace DL
open PySem PySem.Spec PyProof.Rows L2

section
variable {X : Cx} {Ξ : Xt}
end
section
variable {X : Cx} {Ξ : Xt} {o i e f : Expr} {pos apos : Pos} {dd dk dv : DE} {k : Nat}
end
section
variable {X : Cx} {Ξ : Xt} {a : Expr} {da : DE} {pos : Pos}
end
end DL
namespace DL
open PySem PySem.Spec PyProof.Rows L2
def maxW : DRL := fun ws S Kp => match ws with
  | [.fz (.int i), .fz (.int j)] => Kp (.fz (.int (if j > i then j else i))) S
  | _ => False
def minW : DRL := fun ws S Kp => match ws with
  | [.fz (.int i), .fz (.int j)] => Kp (.fz (.int (if j < i then j else i))) S
  | _ => False
def strW1 : DRL := fun ws S Kp => match ws with
  | [.fz (.int i)] => i.natAbs.log2 < 1920 ∧ Kp (.fz (.str (toString i))) S
  | [.fz (.str x)] => Kp (.fz (.str x)) S
  | _ => False
section
variable {X : Cx} {Ξ : Xt} {e : Expr} {es : List Expr} {das : DA} {p pos : Pos}
theorem cd_max (hc : X.calm = true) : CallD X (.builtin "max") maxW := fun F => CallR.imp (call_max2 hc) fun xs H Q ⟨B, m, S, ws, Kp, cf, r, h, k⟩ => by
  unfold maxW at h
  split at h
  · obtain ⟨v, y, e, rv, ry⟩ := r.two
    subst e
    rw [rv.int_of, ry.int_of]
    exact ⟨_, _, rfl, k.here cf h (.fz .int)⟩
  · exact h.elim
theorem cd_min (hc : X.calm = true) : CallD X (.builtin "min") minW := fun F => CallR.imp (call_min2 hc) fun xs H Q ⟨B, m, S, ws, Kp, cf, r, h, k⟩ => by
  unfold minW at h
  split at h
  · obtain ⟨v, y, e, rv, ry⟩ := r.two
    subst e
    rw [rv.int_of, ry.int_of]
    exact ⟨_, _, rfl, k.here cf h (.fz .int)⟩
  · exact h.elim
theorem cd_str1 : CallD X (.type "str") strW1 := fun F => CallR.imp (CallR.or call_str_int SkE.call_str_str) fun xs H Q ⟨B, m, S, ws, Kp, cf, r, h, k⟩ => by
  unfold strW1 at h
  split at h
  · obtain ⟨v, e, rv⟩ := r.one
    subst e
    rw [rv.int_of]
    exact .inl ⟨_, rfl, h.1, k.here cf h.2 (.fz .str)⟩
  · obtain ⟨v, e, rv⟩ := r.one
    subst e
    rw [rv.str_of]
    exact .inr ⟨_, rfl, k.here cf h (.fz .str)⟩
  · exact h.elim
theorem e_max (bi : Bi X.mg) (hc : X.calm = true) (ha : DPA X Ξ (e :: es) das) (hg : Gl X "max" := by rfl) (he : starEach (e :: es) X.env = (false, eval e X.env) :: starEach es X.env := by rfl) (hpl : (backTo pos (starEach es X.env)).any (·.1) = false := by rfl) : DPE X Ξ (.Call (.Name "max" p) (e :: es) [] pos) (dCB maxW das) := dpe_callB (cd_max hc) hg bi.max PyProof.Rows.boot_max ha (by decide) (by decide) he hpl
theorem e_min (bi : Bi X.mg) (hc : X.calm = true) (ha : DPA X Ξ (e :: es) das) (hg : Gl X "min" := by rfl) (he : starEach (e :: es) X.env = (false, eval e X.env) :: starEach es X.env := by rfl) (hpl : (backTo pos (starEach es X.env)).any (·.1) = false := by rfl) : DPE X Ξ (.Call (.Name "min" p) (e :: es) [] pos) (dCB minW das) := dpe_callB (cd_min hc) hg bi.min PyProof.Rows.boot_min ha (by decide) (by decide) he hpl
theorem e_str (bi : Bi X.mg) (ha : DPA X Ξ (e :: es) das) (hg : Gl X "str" := by rfl) (he : starEach (e :: es) X.env = (false, eval e X.env) :: starEach es X.env := by rfl) (hpl : (backTo pos (starEach es X.env)).any (·.1) = false := by rfl) : DPE X Ξ (.Call (.Name "str" p) (e :: es) [] pos) (dCB strW1 das) := dpe_callTy cd_str1 hg bi.str PyProof.Rows.boot_str ha (by decide) (by decide) he hpl
end
end DL
namespace DL
open PySem PySem.Spec PyProof.Rows L2

def spInit (C : Addr) (names : List Str) : Sp := fun vs H Q _ => ∃ (a dx : Addr) (vals : List V), vs = .ref a :: vals ∧ vals.length = names.length ∧ H a = some (.ins C dx []) ∧ Q .non (upd H a (.ins C dx (names.zip vals)))
structure MIn (K : PySem.W.Frag) (x qual : Str) (st : Stmt) (names : List Str) : Prop where
  ex : ∃ (C f : Addr) (od an : Option Addr) (sl : Array (Option Value)) (oc kV dc pm cd ct : Value), PySem.W.nsIn K mainGlobals x = some (some (.ref C)) ∧ Mk K C f ∧
    K.lookup f = some ⟨oc, od, .func (PySem.W.fnOf "__init__" qual (C8.fnArgs st) (C8.fnBody st) (C8.fnScope st) .none kV dc pm an cd ct), sl⟩ ∧ PySem.W.codeIn K cd qual = true ∧ Cls K C ∧ ∀ n ∈ names, NoAttr K C n
structure MDf (K : PySem.W.Frag) (mg : Str → Option Value) (x qual : Str) (st : Stmt) (names : List Str) (C : Addr) : Prop where
  ex : ∃ (f : Addr) (fd : FuncData), Mk K C f ∧ C8.Fun K "__init__" qual st f fd ∧ fd.defaults = .none
  mgC : mg x = some (.ref C)
  cls : Cls K C
  na : ∀ n ∈ names, NoAttr K C n
theorem MIn.df {K : PySem.W.Frag} {x qual : Str} {st : Stmt} {names : List Str} {h : Heap} {mg : Str → Option Value} (D : MIn K x qual st names) (X : K.In h) (G : h.Ns mainGlobals mg) : ∃ C, MDf K mg x qual st names C := by
  obtain ⟨C, f, od, an, sl, oc, kV, dc, pm, cd, ct, a, M, l, k, c, na⟩ := D.ex
  exact ⟨C, ⟨f, _, M, ⟨oc, od, .none, kV, dc, pm, an, cd, ct, sl, rfl, l, k⟩, rfl⟩, PySem.W.mg_of X G a, c, na⟩
structure RecC (P : Program) (w : World) (K : PySem.W.Frag) (mg : Str → Option Value) (base : Heap) (x : Str) (names : List Str) (C : Addr) : Prop where
  mak : C8.Mak P w K mg base 1 x C (spInit C names) []
  cls : Cls K C
  na : ∀ n ∈ names, NoAttr K C n
section
variable {K : PySem.W.Frag} {F : Fx} {B : Hp} {m : List Addr} {S : Sto} {H : Hp}
theorem Cf.fresh (c : Cf K F B m S H) {p : Addr} (h : H p = none) : B p = none ∧ (∀ i : Nat, m[i]? ≠ some p) ∧ ¬ F.T p ∧ F.H p = none := by
  refine ⟨?_, fun i z => ?_, fun tq => tab_ne (c.tab p tq).1 h rfl, c.dom p h⟩
  · cases q : B p with
    | none => rfl
    | some o => have := c.sub _ _ q; rw [h] at this; cases this
  · have hi := (List.getElem?_eq_some_iff.mp z).1
    rw [c.len] at hi
    obtain ⟨o, q1, _⟩ := c.own i p _ z (List.getElem?_eq_getElem hi)
    rw [h] at q1
    cases q1
theorem rpf_look {f : Str} : ∀ {ds : List (Str × D)} {vs : List (Str × V)} {d : D}, RpF K B ds vs → ds.lookup f = some d → ∃ v, vs.lookup f = some v ∧ Rp K B d v
  | (g, d0) :: ds, (_, v0) :: vs, d, .cons r t, h => by
    rw [List.lookup_cons] at h ⊢
    by_cases e : f = g
    · subst e
      rw [beq_self_eq_true] at h ⊢
      cases h
      exact ⟨_, rfl, r⟩
    · have e' : (f == g) = false := by simpa using e
      rw [e'] at h ⊢
      exact rpf_look t h
end
section
variable {X : Cx} {Ξ : Xt} {C : Addr} {names : List Str} {j : Nat} {x f : Str} {e : Expr} {es : List Expr} {da : DA} {de : DE} {p pos : Pos}
end
theorem pv {X : Cx} (i : Nat) {x : Str} {pos : Pos} (hN : X.N[i]? = some x := by rfl) (hv : Vis X.env.scope x := by first | exact Or.inl rfl | exact Or.inr (Or.inl rfl) | exact Or.inr (Or.inr rfl)) (hd : (x == ("__debug__" : Str)) = false := by decide)
    (hcd : (x == ("__classdict__" : Str)) = false := by decide) : PE X (.Name x pos) (tVar i) := pe_var hN hv hd hcd
end DL
set_option maxHeartbeats 2000000
namespace GX
open PySem PySem.Spec PyProof.Rows L2

abbrev sumO (z : Int) (t : Tok) (c : Nat) : Obj := { cls := .type "list", dict := none, data := .seq #[.int z t] c, slots := #[] }
def SumAt (S : Addr) (z : Int) (h : Heap) : Prop := ∃ t c, h.get? S = some (sumO z t c)
structure SlS (S : Addr) (z : Int) (s s' : Shared) : Prop where
  os : s'.os = s.os
  bare : AllBare s'.gens
  keep : ∀ b o, b ≠ S → s.heap.get? b = some o → s'.heap.get? b = some o
  sum : SumAt S z s'.heap
section
variable {prog : Program} {w : World} {A : Around}
end
section
variable {X : Cx} {pins : List (Addr × Obj)} {σ : L2.St} {H : Hp} {s : Shared}
end

section
variable {X : Cx} {s3 : Shared} {H3 : Hp} {genv : Env} {fp : List Addr} {pn : List (Addr × Obj)} {σ : L2.St} {vs : List Nat} {elt tg iter : Expr} {ifs : List Expr} {scope : Scope} {pos : Pos} {it S : Addr} {tn : Nat → Heap → Prop} {J : It} {g : TG} {tt : TT} {te : TE}
end

section
variable {X : Cx} {s3 : Shared} {H3 : Hp} {genv : Env} {fp : List Addr} {a S : Addr} {g : Nat} {go : Obj} {nm qn : Value}
end
end GX
namespace DL
open PySem PySem.Spec PyProof.Rows L2 GX
section
variable {X : Cx} {Ξ : Xt} {elt tg iter : Expr} {ifs : List Expr} {scope : Scope} {ow : List (Str × Nat)} {pos pp gpos : Pos} {di : DI} {g : TG} {dg : DG} {tt : DT} {te : DE} {cdv : Value} {k : Nat}
end
end DL
namespace DL
open PySem PySem.Spec PyProof.Rows L2
section
variable {X : Cx} {Ξ : Xt} {k j : Nat} {x : Str} {P : PSp} {p pos : Pos} {e : Expr} {es : List Expr} {da : DA}
end
section
variable {P : Program} {w : World} {K : PySem.W.Frag} {T : Addr → Prop} {mg : Str → Option Value} {base : Heap}
end
end DL
namespace DL
open PySem PySem.Spec PyProof.Rows L2
theorem any_toPyL (a : D) : ∀ ds : List D, ((toPyL ds).any fun z => PyData.eqv z (toPy a)) = ds.any fun z => eqD z a
  | [] => by rw [toPyL]; rfl
  | d :: ds => by
    rw [toPyL, List.any_cons, List.any_cons, any_toPyL a ds]
    rfl
def inLW : DR2 := fun x y S Kp => onO (dW S x) fun a => onO (dW S y) fun b => match b with
  | .lst ds => (okD 60 a = true ∧ okD 60 (.lst ds) = true ∧ SeqAt.shaped (toPy a) = true ∧ SeqAt.shaped (toPy (.lst ds)) = true) ∧ Kp (.fz (.bl (ds.any fun z => eqD z a))) S
  | _ => False
section
variable {X : Cx} {Ξ : Xt} {a b : Expr} {da db : DE} {pos : Pos} {k : Nat}
theorem od_inL (hu : X.A.units + 65 < cLine) : OpD X (compareOp .In) inLW := fun F => OpR.imp (op_inD hu) fun x y H Q ⟨B, m, S, wx, wy, Kp, cf, rx, ry, h0, k⟩ => by
  obtain ⟨a, h1, h0⟩ := onO_ex h0
  obtain ⟨b, h2, h⟩ := onO_ex h0
  split at h
  · rename_i ds
    obtain ⟨⟨h3, h4, h5, h6⟩, h⟩ := h
    have e : toPy (.lst ds) = .list (toPyL ds) := by rw [toPy]
    have hb := (dW_ok cf ry h2).dp _ h4
    rw [e] at hb h6
    refine ⟨toPy a, toPyL ds, (dW_ok cf rx h1).dp _ h3, hb, h5, h6, ?_⟩
    rw [any_toPyL]
    exact k.here cf h (.fz .bl)
  · exact h.elim
theorem c_inL (hr : Room k X.A) (ha : DPE X Ξ a da) (hb : DPE X Ξ b db) (hm : behindInMarks .In b = false := by with_unfolding_all rfl) : DPT X Ξ (.Compare a [.In] [b] pos) (dTst (dOp inLW da db)) := dpt_cmp (od_inL (by have := hr.un; omega)) ha hb hm
end
end DL
namespace DL
open PySem PySem.Spec PyProof.Rows L2

def codes (x : Str) : List Int := x.cps.toList.map fun c => ((c : Nat) : Int)
mutual
def enc : D → List Int
  | .str x => 1 :: (x.length : Int) :: codes x
  | .tup ds => 2 :: (ds.length : Int) :: encL ds
  | .int i => [0, i]
  | _ => []
def encL : List D → List Int
  | [] => []
  | d :: ds => enc d ++ encL ds
end
mutual
def isVal : Nat → D → Bool
  | _ + 1, .int _ => true
  | _ + 1, .str x => decide (x.length ≤ 1000)
  | n + 1, .tup ds => decide (ds.length ≤ 1000) && isValL n ds
  | _, _ => false
def isValL : Nat → List D → Bool
  | _, [] => true
  | n, d :: ds => isVal n d && isValL n ds
end
def digI (b m : Int) (ns : List Int) : Int := ((ns.foldl (fun f n => (f * b + n + 1) % m) (1 % m)) * b + (ns.length : Int)) % m
def dig (b m : Int) (v : D) : Int := digI b m (enc v)
def isRule (b m : Int) : Prop := 1 ≤ b ∧ b ≤ 10 ^ 18 ∧ 2 ≤ m ∧ m ≤ 10 ^ 18
def ruleD (b m : Int) : D := .tup [.int b, .int m]
def sign (c : Nat) : Bool := (decide (97 ≤ c) && decide (c ≤ 122)) || (decide (48 ≤ c) && decide (c ≤ 57))
def isKey (x : Str) : Prop := 1 ≤ x.cps.toList.length ∧ x.cps.toList.length ≤ 8 ∧ x.cps.toList.all sign = true
theorem app_l (x y : Str) : (x ++ y).cps.toList = x.cps.toList ++ y.cps.toList := by
  show (x.cps ++ y.cps).toList = _
  simp
theorem all_sign {x : Str} {i : Nat} {c : Nat} (h : x.cps.toList.all sign = true) (e : x.cps.toList[i]? = some c) : ([c] : List Nat).all sign = true := by
  have := List.all_eq_true.mp h c (List.mem_of_getElem? e)
  simp [this]
theorem isKey1 {c : Nat} (h : ([c] : List Nat).all sign = true) : isKey ⟨#[c]⟩ := ⟨by simp, by simp, h⟩
theorem isKey2 {c d : Nat} (h : ([c] : List Nat).all sign = true) (g : ([d] : List Nat).all sign = true) : isKey ((⟨#[c]⟩ : Str) ++ ⟨#[d]⟩) := by
  have e : ((⟨#[c]⟩ : Str) ++ ⟨#[d]⟩).cps.toList = [c] ++ [d] := app_l _ _
  exact ⟨by rw [e]; simp, by rw [e]; simp, by rw [e, List.all_append, h, g]; rfl⟩
def isRow (r : List Int) : Prop := 1 ≤ r.length ∧ r.length ≤ 3 ∧ ∀ i ∈ r, 0 ≤ i ∧ i ≤ 65535
def rowD (r : List Int) : D := .tup (r.map .int)
theorem row_of : ∀ ds : List D, (∀ d ∈ ds, ∃ i : Int, 0 ≤ i ∧ i ≤ 65535 ∧ d = .int i) → ∃ r : List Int, ds = r.map D.int ∧ ∀ i ∈ r, 0 ≤ i ∧ i ≤ 65535
  | [], _ => ⟨[], rfl, by simp⟩
  | d :: ds, h => by
    obtain ⟨i, h0, h1, rfl⟩ := h d List.mem_cons_self
    obtain ⟨r, e, hr⟩ := row_of ds fun x hx => h x (List.mem_cons_of_mem _ hx)
    subst e
    refine ⟨i :: r, rfl, fun j hj => ?_⟩
    rcases List.mem_cons.mp hj with q | q
    · subst q; exact ⟨h0, h1⟩
    · exact hr j q
theorem onO_scr {ns : List Int} {k : List D → Prop} (h : k (ns.map .int)) : onO (fzL (ns.map fun n => W.fz (.int n))) k := by
  have e : (ns.map fun n => W.fz (D.int n)) = (ns.map D.int).map W.fz := by simp
  rw [e, fzL_map]
  exact h
theorem ifB_ne {a b : D} {A B : Prop} (h : eqD a b = true) (k : B) : ifB (!eqD a b) A B := by rw [h]; exact k
theorem dig_range {b m : Int} (h : isRule b m) (v : D) : 0 ≤ dig b m v ∧ dig b m v < m := by
  have hm : 0 < m := by have := h.2.2.1; omega
  exact ⟨Int.emod_nonneg _ (by omega), Int.emod_lt_of_pos _ hm⟩
theorem isRule.pos {b m : Int} (h : isRule b m) : 0 < m := by have := h.2.2.1; omega
end DL
namespace DL
open PySem PySem.Spec PyProof.Rows L2

mutual
theorem eqv_refl : ∀ d : D, PyData.eqv (toPy d) (toPy d) = true
  | .non => rfl
  | .bl b => by show (b == b) = true; simp
  | .int i => by show (i == i) = true; simp
  | .str x => by show (x == x) = true; simp
  | .tup ds => eqvL_refl ds
  | .lst ds => eqvL_refl ds
  | .obj _ _ => rfl
  | .scr _ => rfl
  | .ty _ => rfl
theorem eqvL_refl : ∀ ds : List D, PyData.eqvAll (toPyL ds) (toPyL ds) = true
  | [] => rfl
  | d :: ds => by
    show (PyData.eqv (toPy d) (toPy d) && PyData.eqvAll (toPyL ds) (toPyL ds)) = true
    rw [eqv_refl d, eqvL_refl ds]
    rfl
end
theorem eqD_refl (d : D) : eqD d d = true := eqv_refl d
theorem eqD_str (a b : Str) : eqD (.str a) (.str b) = decide (a = b) := by
  show (a == b) = _
  by_cases h : a = b
  · subst h; simp
  · simp [h]
abbrev Tab := List (Str × List Int)
def tabR (r : Str × List Int) : D := .tup [.str r.1, rowD r.2]
def tabD (rows : Tab) : D := .lst (rows.map tabR)
def isTab (rows : Tab) : Prop := rows.Pairwise (fun a b => strLt a.1 b.1 = true) ∧ ∀ r ∈ rows, isKey r.1 ∧ isRow r.2
def kvF (r : Str × List Int) : Key × W := (.inr r.1, .fz (rowD r.2))
theorem put_tab (rows : Tab) (k : Str) (r : List Int) (h : (rows.map (·.1)).Nodup) : ∃ rows' : Tab, putW (rows.map kvF) (.inr k) (.fz (rowD r)) = rows'.map kvF ∧ (rows'.map (·.1)).Nodup ∧ (∀ x ∈ rows', x ∈ rows ∨ x = (k, r)) ∧ rows'.length ≤ rows.length + 1 := by
  by_cases hk : k ∈ rows.map (·.1)
  · refine ⟨rows.map fun p => if p.1 = k then (p.1, r) else p, ?_, ?_, fun x hx => ?_, by rw [List.length_map]; exact Nat.le_succ _⟩
    · unfold putW
      rw [if_pos]
      · rw [List.map_map, List.map_map]
        refine List.map_congr_left fun p _ => ?_
        show (if (kvF p).1 = Sum.inr k then ((kvF p).1, W.fz (rowD r)) else kvF p) = kvF (if p.1 = k then (p.1, r) else p)
        by_cases e : p.1 = k
        · have e2 : (kvF p).1 = Sum.inr k := by show Sum.inr p.1 = _; rw [e]
          rw [if_pos e, if_pos e2]; rfl
        · have e2 : ¬ (kvF p).1 = Sum.inr k := fun z => e (Sum.inr.inj z)
          rw [if_neg e, if_neg e2]
      · obtain ⟨p, hp, e⟩ := List.mem_map.mp hk
        exact List.any_eq_true.mpr ⟨kvF p, List.mem_map_of_mem hp, decide_eq_true (by show Sum.inr p.1 = _; rw [e])⟩
    · rw [List.map_map]
      have : ((fun x : Str × List Int => x.1) ∘ fun p : Str × List Int => if p.1 = k then (p.1, r) else p) = fun x => x.1 := by
        funext p
        show (if p.1 = k then (p.1, r) else p).1 = p.1
        split <;> rfl
      rw [this]
      exact h
    · obtain ⟨p, hp, e⟩ := List.mem_map.mp hx
      split at e
      · rename_i ek
        exact .inr (by rw [← e, ek])
      · exact .inl (e ▸ hp)
  · refine ⟨rows ++ [(k, r)], ?_, ?_, fun x hx => ?_, by rw [List.length_append]; exact Nat.le_refl _⟩
    · unfold putW
      rw [if_neg, List.map_append]
      · rfl
      · intro z
        obtain ⟨p, hp, e⟩ := List.any_eq_true.mp z
        obtain ⟨q, hq, rfl⟩ := List.mem_map.mp hp
        have e2 : Sum.inr q.1 = (Sum.inr k : Key) := of_decide_eq_true e
        exact hk (List.mem_map.mpr ⟨q, hq, Sum.inr.inj e2⟩)
    · rw [List.map_append, List.nodup_append]
      refine ⟨h, by simp, fun a ha b hb => ?_⟩
      simp at hb
      subst hb
      intro e
      exact hk (e ▸ ha)
    · rcases List.mem_append.mp hx with hx | hx
      · exact .inl hx
      · exact .inr (List.mem_singleton.mp hx)
theorem keysS_tab : ∀ rows : Tab, keysS (rows.map kvF) = some (rows.map (·.1))
  | [] => rfl
  | r :: rows => by show (keysS (rows.map kvF)).map (r.1 :: ·) = _; rw [keysS_tab rows]; rfl
def getT (rows : Tab) (k : Str) : List Int := ((rows.find? fun r => decide (r.1 = k)).map (·.2)).getD []
theorem valW_tab {k : Str} : ∀ {rows : Tab}, k ∈ rows.map (·.1) → valW (rows.map kvF) (.inr k) = some (.fz (rowD (getT rows k)))
  | [], h => by simp at h
  | r :: rows, h => by
    by_cases e : r.1 = k
    · have : getT (r :: rows) k = r.2 := by unfold getT; rw [List.find?_cons_of_pos (by simpa using e)]; rfl
      rw [this]
      unfold valW
      rw [List.map_cons, List.find?_cons_of_pos (by exact decide_eq_true (show Sum.inr r.1 = (Sum.inr k : Key) by rw [e]))]
      rfl
    · have e1 : getT (r :: rows) k = getT rows k := by unfold getT; rw [List.find?_cons_of_neg (by simpa using e)]
      rw [e1, ← valW_tab (rows := rows) ((List.mem_cons.mp h).resolve_left fun z => e z.symm)]
      unfold valW
      rw [List.map_cons, List.find?_cons_of_neg]
      intro z
      have e2 : Sum.inr r.1 = (Sum.inr k : Key) := of_decide_eq_true z
      exact e (Sum.inr.inj e2)
theorem getT_mem {k : Str} {rows : Tab} (h : k ∈ rows.map (·.1)) : (k, getT rows k) ∈ rows := by
  obtain ⟨r, hr, e⟩ := List.mem_map.mp h
  unfold getT
  cases q : rows.find? fun r => decide (r.1 = k) with
  | none =>
    have := List.find?_eq_none.mp q r hr
    simp [e] at this
  | some s =>
    have h1 := List.mem_of_find?_eq_some q
    have h3 := List.find?_some q
    have h2 : s.1 = k := of_decide_eq_true h3
    show (k, s.2) ∈ rows
    rw [← h2]
    exact h1
theorem risingS_le : ∀ (p : Str) (l : List Str), risingS p l = true → (p :: l).Pairwise fun a b => strLt b a = false
  | p, [], _ => List.pairwise_singleton _ _
  | p, x :: r, h => by
    simp only [risingS, Bool.and_eq_true, Bool.not_eq_true'] at h
    have ih := risingS_le x r h.2
    have h1 : strLt x p = false := by rw [strLt_eq]; exact h.1
    refine List.pairwise_cons.mpr ⟨fun y hy => ?_, ih⟩
    rcases List.mem_cons.mp hy with rfl | hy
    · exact h1
    · exact strLt_neg_trans h1 ((List.pairwise_cons.mp ih).1 y hy)
theorem sortedS_lt {l : List Str} (h : sortedS l = true) (hn : l.Nodup) : l.Pairwise fun a b => strLt a b = true := by
  have h1 : l.Pairwise fun a b => strLt b a = false := by
    cases l with
    | nil => exact .nil
    | cons x r => exact risingS_le x r h
  refine (h1.and hn).imp fun {a b} h => ?_
  rcases strLt_or h.2 with q | q
  · exact q
  · rw [h.1] at q; cases q
theorem tab_of {rows : Tab} {ys : List Str} (hr : ∀ r ∈ rows, isKey r.1 ∧ isRow r.2) (hn : (rows.map (·.1)).Nodup) (pm : ys.Perm (rows.map (·.1))) (hs : sortedS ys = true) : isTab (ys.map fun y => (y, getT rows y)) := by
  refine ⟨List.pairwise_map.mpr (sortedS_lt hs (pm.nodup_iff.mpr hn)), fun r h => ?_⟩
  obtain ⟨y, hy, rfl⟩ := List.mem_map.mp h
  exact hr _ (getT_mem (pm.mem_iff.mp hy))
theorem strict_eq {α : Type} {lt : α → α → Prop} (as : ∀ x y, lt x y → ¬ lt y x) : ∀ {a b : List α}, a.Pairwise lt → b.Pairwise lt → a.Perm b → a = b
  | [], b, _, _, p => (List.nil_perm.mp p).symm
  | x :: a, [], _, _, p => by have := p.length_eq; simp at this
  | x :: a, y :: b, ha, hb, p => by
    obtain ⟨ha1, ha2⟩ := List.pairwise_cons.mp ha
    obtain ⟨hb1, hb2⟩ := List.pairwise_cons.mp hb
    have hx : x ∈ y :: b := p.mem_iff.mp List.mem_cons_self
    have hy : y ∈ x :: a := p.mem_iff.mpr List.mem_cons_self
    have e : x = y := by
      rcases List.mem_cons.mp hx with e | h1
      · exact e
      · rcases List.mem_cons.mp hy with e | h2
        · exact e.symm
        · exact absurd (ha1 y h2) (as _ _ (hb1 x h1))
    subst e
    rw [strict_eq as ha2 hb2 ((List.perm_cons x).mp p)]
inductive Ch where
  | put (k : Str) (r : List Int) | rem (k : Str)
def Ch.key : Ch → Str
  | .put k _ => k
  | .rem k => k
def chD : Ch → D
  | .put k r => .tup [.str "put", .str k, rowD r]
  | .rem k => .tup [.str "remove", .str k]
def isCh : Ch → Prop
  | .put k r => isKey k ∧ isRow r
  | .rem k => isKey k
def chMid : Ch → Tab
  | .put k r => [(k, r)]
  | .rem _ => []
def chg (rows : Tab) (c : Ch) : Tab := (rows.filter fun p => strLt p.1 c.key) ++ chMid c ++ rows.filter fun p => strLt c.key p.1
theorem sign_ok {l : List Nat} (h : l.all sign = true) : ∀ c ∈ l, c < 128 := fun c hc => by
  have := List.all_eq_true.mp h c hc
  simp [sign] at this
  omega
theorem key_ok {k : Str} (h : isKey k) : PyData.strOk k = true := by
  show (k.cps.all fun c => decide (c < 1114112)) = true
  rw [← Array.all_toList]
  exact List.all_eq_true.mpr fun c hc => decide_eq_true (by have := sign_ok h.2.2 c hc; omega)
theorem okDL_ints (n : Nat) : ∀ r : List Int, okDL n (r.map D.int) = true
  | [] => rfl
  | i :: r => by
    show (okD n (.int i) && okDL n (r.map D.int)) = true
    rw [okDL_ints n r]
    cases n <;> rfl
theorem ok_row (n : Nat) (r : List Int) : okD (n + 1) (rowD r) = true := okDL_ints n r
theorem ok_str {n : Nat} {x : Str} (h : PyData.strOk x = true) : okD n (.str x) = true := by cases n <;> exact h
theorem okDL_of {n : Nat} : ∀ {ds : List D}, (∀ d ∈ ds, okD n d = true) → okDL n ds = true
  | [], _ => rfl
  | d :: ds, h => by
    show (okD n d && okDL n ds) = true
    rw [h d List.mem_cons_self, okDL_of fun e he => h e (List.mem_cons_of_mem _ he)]
    rfl
theorem onO_texts {o : OD} {rows : Tab} {k : List Str → Prop} (h : k (rows.map (·.1))) : onO (textsOf [o, .dic (rows.map kvF)] (.hd 1)) k := by
  show onO (keysS (rows.map kvF)) k
  rw [keysS_tab]
  exact h
theorem newL_strs {ys : List Str} {S : Sto} {Kp : WK} (h : Kp (.fz (.lst (ys.map D.str))) S) : newL false (ys.map fun y => W.fz (.str y)) S Kp := by
  have e : (ys.map fun y => W.fz (.str y)) = (ys.map D.str).map W.fz := by simp
  rw [e]
  exact newL_F h
theorem onO_val {rows : Tab} {y : Str} {k : W → Prop} (hy : y ∈ rows.map (·.1)) (h : k (.fz (rowD (getT rows y)))) : onO (valW (rows.map kvF) (.inr y)) k := by
  rw [valW_tab hy]
  exact h
def spTable : PSp := fun ds Q => ∃ n : Int, ds = [.int n] ∧ 0 ≤ n ∧ n ≤ 20 ∧ ∀ rows : Tab, isTab rows → (rows.length : Int) ≤ n → Q (tabD rows)
def spSomeKey : PSp := fun ds Q => ∃ rows, ds = [tabD rows] ∧ isTab rows ∧ rows.length ≤ 100 ∧ ∀ k, isKey k → Q (.str k)
def spChange : PSp := fun ds Q => ∃ rows, ds = [tabD rows] ∧ isTab rows ∧ rows.length ≤ 100 ∧ ∀ c, isCh c → Q (chD c)
end DL
namespace DL
open PySem PySem.Spec PyProof.Rows L2

def cellI (r : List Int) (k : Nat) : Int := r.getD k 0
def rankI (k : Str) : Int := (codes k).foldl (fun f c => (f * 131 + c) % 1000003) 7
def rowAt (rows : Tab) (i : Nat) : Str × List Int := rows.getD i ("", [])
def topN (rows : Tab) : Nat := (List.range rows.length).foldl (fun b k => if rankI (rowAt rows b).1 < rankI (rowAt rows k).1 then k else b) 0
theorem top_aux (rows : Tab) : ∀ (l : List Nat) (b : Nat), (∀ k ∈ l, k < rows.length) → b < rows.length → l.foldl (fun b k => if rankI (rowAt rows b).1 < rankI (rowAt rows k).1 then k else b) b < rows.length
  | [], b, _, h => h
  | k :: l, b, hl, h => by
    rw [List.foldl_cons]
    refine top_aux rows l _ (fun j hj => hl j (List.mem_cons_of_mem _ hj)) ?_
    split
    · exact hl k List.mem_cons_self
    · exact h
theorem top_lt {rows : Tab} (h : rows ≠ []) : topN rows < rows.length :=
  top_aux rows _ 0 (fun k hk => List.mem_range.mp hk) (by cases rows with | nil => exact absurd rfl h | cons _ _ => exact Nat.succ_pos _)
theorem rowAt_get {rows : Tab} {i : Nat} (h : i < rows.length) : rows[i]? = some (rowAt rows i) := by
  unfold rowAt
  rw [List.getD_eq_getElem?_getD, List.getElem?_eq_getElem h]
  rfl
structure Link where
  d : Int
  n : Int
  a : Int
  b : Int
  c : Int
def linkD (l : Link) : D := .tup [.int l.d, .int l.n, .tup [.int l.a, .int l.b, .int l.c]]
def entD (k : Str) (r : List Int) (x y : Link) : D := .tup [.str k, rowD r, linkD x, linkD y]
def nodeD (k : Str) (r : List Int) (x y : Link) : D := .tup [.str "node", .str k, rowD r, linkD x, linkD y]
def linkOf (b m : Int) (k : Str) (r : List Int) (x y : Link) : Link := ⟨dig b m (nodeD k r x y), 1 + x.n + y.n, cellI r 0 + x.a + y.a, cellI r 1 + x.b + y.b, cellI r 2 + x.c + y.c⟩
def emptyD : D := .tup [.str "empty"]
def link0 (b m : Int) : Link := ⟨dig b m emptyD, 0, 0, 0, 0⟩
inductive Tr where
  | nil | node (k : Str) (r : List Int) (x y : Tr)
def linkT (b m : Int) : Tr → Link
  | .nil => link0 b m
  | .node k r x y => linkOf b m k r (linkT b m x) (linkT b m y)
def treeF : Nat → Tab → Tr
  | 0, _ => .nil
  | n + 1, rows => if rows.isEmpty then .nil else .node (rowAt rows (topN rows)).1 (rowAt rows (topN rows)).2 (treeF n (rows.take (topN rows))) (treeF n (rows.drop (topN rows + 1)))
theorem treeF_fuel : ∀ (n k : Nat) (rows : Tab), rows.length ≤ n → rows.length ≤ k → treeF n rows = treeF k rows
  | 0, 0, _, _, _ => rfl
  | 0, k + 1, rows, h, _ => by
    have : rows = [] := List.eq_nil_of_length_eq_zero (by omega)
    subst this
    rfl
  | n + 1, 0, rows, _, h => by
    have : rows = [] := List.eq_nil_of_length_eq_zero (by omega)
    subst this
    rfl
  | n + 1, k + 1, rows, h1, h2 => by
    unfold treeF
    cases e : rows.isEmpty with
    | true => rfl
    | false =>
      have ht := top_lt (rows := rows) (by intro z; subst z; cases e)
      rw [if_neg Bool.false_ne_true, if_neg Bool.false_ne_true]
      rw [treeF_fuel n k (rows.take (topN rows)) (by rw [List.length_take]; omega) (by rw [List.length_take]; omega), treeF_fuel n k (rows.drop (topN rows + 1)) (by rw [List.length_drop]; omega) (by rw [List.length_drop]; omega)]
def treeT (rows : Tab) : Tr := treeF rows.length rows
theorem treeT_node {rows : Tab} (h : rows ≠ []) : treeT rows = .node (rowAt rows (topN rows)).1 (rowAt rows (topN rows)).2 (treeT (rows.take (topN rows))) (treeT (rows.drop (topN rows + 1))) := by
  have ht := top_lt h
  have e : treeT rows = treeF (rows.length + 1) rows := treeF_fuel _ _ _ (Nat.le_refl _) (Nat.le_succ _)
  rw [e, treeF, if_neg (by cases rows with | nil => exact absurd rfl h | cons _ _ => exact Bool.false_ne_true)]
  unfold treeT
  rw [treeF_fuel rows.length (rows.take (topN rows)).length (rows.take (topN rows)) (by rw [List.length_take]; omega) (Nat.le_refl _), treeF_fuel rows.length (rows.drop (topN rows + 1)).length (rows.drop (topN rows + 1)) (by rw [List.length_drop]; omega) (Nat.le_refl _)]
theorem isTab.take {rows : Tab} (h : isTab rows) (n : Nat) : isTab (rows.take n) := ⟨h.1.sublist (List.take_sublist _ _), fun r hr => h.2 r (List.mem_of_mem_take hr)⟩
theorem isTab.drop {rows : Tab} (h : isTab rows) (n : Nat) : isTab (rows.drop n) := ⟨h.1.sublist (List.drop_sublist _ _), fun r hr => h.2 r (List.mem_of_mem_drop hr)⟩
theorem isTab.at {rows : Tab} (h : isTab rows) {i : Nat} (hi : i < rows.length) : isKey (rowAt rows i).1 ∧ isRow (rowAt rows i).2 := h.2 _ (List.mem_of_getElem? (rowAt_get hi))
end DL
namespace DL
open PySem PySem.Spec PyProof.Rows L2

structure Wh where
  n : Int
  d : Int
  w : Int
theorem mem2 {a b x : W} {i : Nat} (h : [a, b][i]? = some x) : x = a ∨ x = b := by
  have h := List.mem_of_getElem? h
  simpa using h
theorem mem3 {a b c x : W} {i : Nat} (h : [a, b, c][i]? = some x) : x = a ∨ x = b ∨ x = c := by
  have h := List.mem_of_getElem? h
  simpa using h
structure Ver where
  n : Int
  l : Link
  k : Int
def verD (v : Ver) : D := .tup [.int v.n, linkD v.l, .int v.k]
def sealedD (v : Ver) (g : List Int) : D := .tup [verD v, rowD g]
end DL
namespace DL
open PySem PySem.Spec PyProof.Rows L2

abbrev SV := Ver × List Int
def sx (x : SV) : D := sealedD x.1 x.2
def at_ (l : List SV) (n : Int) : Option SV := l.find? fun x => decide (x.1.n = n)
structure OkL (l : List SV) : Prop where
  lo : ∀ x ∈ l, 0 ≤ x.1.n ∧ x.1.n < 5
  nd : (l.map (·.1.n)).Nodup
  le : l.length ≤ 5
end DL
namespace DL
open PySem PySem.Spec PyProof.Rows L2

theorem allG_map {α : Type} (F : α → W) (p : α → Bool) {g : DG} {tt : DT} {te : DE} {env0 : En} {S : Sto} {Kp : Bool → Sto → Prop} : ∀ {l : List α},
    (∀ a ∈ l, ∀ (X Y : Sto → Prop), ifB (p a) (X S) (Y S) → g (F a) env0 S fun env1 S1 => tt env1 S1 fun b S2 => ifB b (te env1 S2 fun y S3 => onB y fun k => ifB k (X S3) (Y S3)) (X S2)) →
    Kp (l.all p) S → allG g tt te env0 (l.map F) S Kp
  | [], _, hk => hk
  | a :: l, h, hk => by
    refine h a List.mem_cons_self (fun S3 => allG g tt te env0 (l.map F) S3 Kp) (fun S3 => Kp false S3) ?_
    rw [List.all_cons] at hk
    cases e : p a with
    | true =>
      rw [e] at hk
      exact allG_map F p (fun b hb => h b (List.mem_cons_of_mem _ hb)) hk
    | false =>
      rw [e] at hk
      exact hk
def adj {α : Type} (f : α → α → Bool) : List α → Bool
  | x :: y :: r => f x y && adj f (y :: r)
  | _ => true
def verV (v : Ver) : D := .tup [.str "version", .int v.n, linkD v.l, .int v.k]
def vdig (b m : Int) (v : Ver) : Int := dig b m (verV v)
def leadsB (b m : Int) (u v : Ver) : Bool := decide (v.n = u.n + 1) && decide (v.k = vdig b m u)
def histG (b m : Int) : Ver → List Link → List Ver
  | _, [] => []
  | u, l :: r => ⟨u.n + 1, l, vdig b m u⟩ :: histG b m ⟨u.n + 1, l, vdig b m u⟩ r
def histL (b m : Int) (l : Link) (r : List Link) : List Ver := ⟨0, l, 0⟩ :: histG b m ⟨0, l, 0⟩ r
theorem histG_len (b m : Int) : ∀ (r : List Link) (u : Ver), (histG b m u r).length = r.length
  | [], _ => rfl
  | _ :: r, u => by show (histG b m _ r).length + 1 = _; rw [histG_len b m r]; rfl
theorem cut_len {α : Type} (l : List α) (lo hi : Option Int) : (cutL l lo hi).length ≤ l.length := by
  unfold cutL
  rw [List.length_take, List.length_drop]
  omega
end DL
namespace DL
open PySem PySem.Spec PyProof.Rows L2
def lettersS : Str := "abcdefghijklmnopqrstuvwxyz0123456789"
def keyB (k : Str) : Bool := (decide (1 ≤ ((k.length : Nat) : Int)) && decide (((k.length : Nat) : Int) ≤ 8)) && k.cps.toList.all fun c => decide (c ∈ lettersS.cps.toList)
def spKeyB : PSp := fun ds Q => ∃ k : Str, ds = [.str k] ∧ k.length ≤ 1000 ∧ Q (.bl (keyB k))
theorem len_l (k : Str) : k.length = k.cps.toList.length := by simp [Str.length]
theorem sign_letters : ∀ c : Nat, sign c = true → c ∈ lettersS.cps.toList := fun c h => by
  have h2 : c < 128 := by simp [sign] at h; omega
  have h3 : ∀ c : Fin 128, sign c.val = true → c.val ∈ lettersS.cps.toList := by decide +kernel
  exact h3 ⟨c, h2⟩ h
theorem keyB_of {k : Str} (h : isKey k) : keyB k = true := by
  obtain ⟨h1, h2, h3⟩ := h
  unfold keyB
  rw [len_l, decide_eq_true (by omega), decide_eq_true (by omega), Bool.true_and, Bool.true_and]
  exact List.all_eq_true.mpr fun c hc => decide_eq_true (sign_letters c (List.all_eq_true.mp h3 c hc))
def okT (rows : Tab) : Prop := rows.length ≤ 200 ∧ ∀ r ∈ rows, r.1.length ≤ 100 ∧ r.2.length ≤ 100 ∧ PyData.strOk r.1 = true
theorem okT.okD {rows : Tab} (h : okT rows) : DL.okD 64 (tabD rows) = true := by
  show okDL 63 (rows.map tabR) = true
  refine okDL_of fun d hd => ?_
  obtain ⟨r, hr, rfl⟩ := List.mem_map.mp hd
  show (DL.okD 62 (.str r.1) && (DL.okD 62 (rowD r.2) && true)) = true
  rw [ok_str (h.2 r hr).2.2, ok_row]
  rfl
theorem okT.app {a b : Tab} (h : okT a) (g : okT b) (hl : a.length + b.length ≤ 200) : okT (a ++ b) := ⟨by rw [List.length_append]; exact hl, fun r hr => by
  rcases List.mem_append.mp hr with hr | hr
  · exact h.2 r hr
  · exact g.2 r hr⟩
theorem okT.sub {a b : Tab} (h : okT b) (s : ∀ r ∈ a, r ∈ b) (hl : a.length ≤ b.length) : okT a := ⟨Nat.le_trans hl h.1, fun r hr => h.2 r (s r hr)⟩
theorem cut_mem {α : Type} {l : List α} {lo hi : Option Int} {x : α} (h : x ∈ cutL l lo hi) : x ∈ l := List.mem_of_mem_drop (List.mem_of_mem_take h)
theorem okT.cut {b : Tab} (h : okT b) (lo hi : Option Int) : okT (cutL b lo hi) := h.sub (fun _ hr => cut_mem hr) (cut_len _ _ _)
theorem lcW_mapF {α : Type} (F G : α → W) {g : DG} {tt : DT} {te : DE} {env0 : En} {S : Sto} : ∀ {l : List α} {Kp : List W → Sto → Prop},
    (∀ a ∈ l, ∀ (A : WK) (Bf : Sto → Prop), A (G a) S → g (F a) env0 S fun env1 S1 => tt env1 S1 fun b S2 => ifB b (te env1 S2 A) (Bf S2)) →
    Kp (l.map G) S → lcW g tt te env0 (l.map F) S Kp
  | [], _, _, hk => hk
  | x :: l, Kp, h, hk => by
    refine h x List.mem_cons_self (fun y S3 => lcW g tt te env0 (l.map F) S3 fun ys S4 => Kp (y :: ys) S4) (fun S2 => lcW g tt te env0 (l.map F) S2 Kp) ?_
    exact lcW_mapF F G (fun u hu => h u (List.mem_cons_of_mem _ hu)) hk
theorem newL_E {ws : List W} (ds : List D) {S : Sto} {Kp : WK} (e : ws = ds.map W.fz) (h : Kp (.fz (.lst ds)) S) : newL false ws S Kp := by
  rw [e]
  exact newL_F h
end DL
namespace DL
open PySem PySem.Spec PyProof.Rows L2
def back (b m : Int) : List Ver → Bool := adj fun x y => leadsB b m y x
end DL
namespace DL
open PySem PySem.Spec PyProof.Rows L2
def treeO (C : Addr) (b m : Int) : Tr → D
  | .nil => .obj C [("link", linkD (link0 b m)), ("entry", .non), ("left", .non), ("right", .non)]
  | .node k r x y => .obj C [("link", linkD (linkOf b m k r (linkT b m x) (linkT b m y))), ("entry", entD k r (linkT b m x) (linkT b m y)), ("left", treeO C b m x), ("right", treeO C b m y)]
theorem onO_some {α : Type} {o : Option α} {x : α} {k : α → Prop} (e : o = some x) (h : k x) : onO o k := by
  rw [e]
  exact h
def outB (one two : Str) : Bool := PySem.W.dataLt (toPy (.tup [.int (rankI two), .str one])) (toPy (.tup [.int (rankI one), .str two]))
end DL
namespace DL
open PySem PySem.Spec PyProof.Rows L2
def inB (lo hi : Str) (r : Str × List Int) : Bool := !strLt r.1 lo && strLt r.1 hi
inductive Qy where
  | get (k : Str) | rng (lo hi : Str) | nxt (b : Str) (n : Int) | cnt (lo hi : Str) | sm (c : Int) (lo hi : Str) | plc (b : Str) | at (i : Int)
def qD : Qy → D
  | .get k => .tup [.str "get", .str k]
  | .rng lo hi => .tup [.str "range", .str lo, .str hi]
  | .nxt b n => .tup [.str "next", .str b, .int n]
  | .cnt lo hi => .tup [.str "count", .str lo, .str hi]
  | .sm c lo hi => .tup [.str "sum", .int c, .str lo, .str hi]
  | .plc b => .tup [.str "place", .str b]
  | .at i => .tup [.str "at", .int i]
def getD (rows : Tab) (k : Str) : D := match rows.find? fun r => decide (r.1 = k) with
  | some r => rowD r.2
  | none => .non
theorem mapR (l : Tab) : (l.map tabR).map W.fz = l.map fun r => W.fz (tabR r) := by
  rw [List.map_map]
  rfl
theorem isTab.filter {rows : Tab} (h : isTab rows) (p : Str × List Int → Bool) : ∀ r ∈ rows.filter p, isKey r.1 ∧ isRow r.2 := fun r hr => h.2 r ((List.mem_filter.mp hr).1)
end DL
namespace DL
open PySem PySem.Spec PyProof.Rows L2

def keySt (e : Int × Value) : Str := match e.2 with | .str k _ => k | _ => Str.empty
def GoodSt (w : World) (e : Int × Value) : Prop := ∃ (k : Str) (tk : Tok), e.2 = Value.str k tk ∧ e.1 = hashStr w k
def SetSR (w : World) (h : Heap) (a : Addr) (L : List Str) : Prop :=
  ∃ o es ep t, h.get? a = some o ∧ o.ExactSet ∧ o.data = .set es ep t ∧ (∀ e ∈ es.toList, GoodSt w e) ∧ (es.toList.map keySt).Perm L ∧ L.Nodup ∧
    es.size < scanBound ∧ t.fits es.size = true ∧ Ris t.place.toList ∧ (w.params.followText "set-order" = true ∨ t.led = true)
section
variable {P : Program} {w : World} {A : Around} {E : Value → Shared → Prop} {s : Shared} {a : Addr} {L : List Str} {h h' : Heap}
theorem SetSR.at (R : SetSR w h a L) (k : ∀ o, h.get? a = some o → h'.get? a = some o) : SetSR w h' a L := by
  obtain ⟨o, es, ep, t, ho, r⟩ := R
  exact ⟨o, es, ep, t, k o ho, r⟩
def GotS (xs : List Str) (i : Nat) (L : List Str) : Prop := (∀ x : Str, x ∈ L ↔ x ∈ xs.take i) ∧ L.length ≤ i
theorem GotS.next {xs L L' : List Str} {i : Nat} {x : Str} (g : GotS xs i L) (h : xs[i]? = some x) (h1 : x ∈ L → L' = L) (h2 : x ∉ L → L' = x :: L) : GotS xs (i + 1) L' := by
  have et : xs.take (i + 1) = xs.take i ++ [x] := by rw [List.take_succ, h]; rfl
  by_cases hm : x ∈ L
  · rw [h1 hm]
    refine ⟨fun y => ?_, Nat.le_succ_of_le g.2⟩
    rw [et, List.mem_append, List.mem_singleton, ← g.1 y]
    exact ⟨.inl, fun z => z.elim id fun e => e ▸ hm⟩
  · rw [h2 hm]
    refine ⟨fun y => ?_, Nat.succ_le_succ g.2⟩
    rw [et, List.mem_append, List.mem_singleton, List.mem_cons, ← g.1 y]
    exact Or.comm
end
end DL
namespace DL
open PySem PySem.Spec PyProof.Rows L2
section
variable {X : Cx}
end
section
variable {X : Cx} {Ξ : Xt} {e : Expr} {es : List Expr} {p p' pos pos' : Pos} {de : DE} {das : DA}
end
end DL
namespace DL
open PySem PySem.Spec PyProof.Rows L2
abbrev keysT (t : Tab) : List Str := t.map (·.1)
def isKeys (t u : Tab) (zs : List Str) : Prop := zs.Pairwise (fun a b => strLt a b = true) ∧ ∀ y : Str, y ∈ zs ↔ y ∈ keysT t ++ keysT u
theorem isKeys.eq {t u : Tab} {zs ys : List Str} (h : isKeys t u zs) (g : isKeys t u ys) : zs = ys := by
  refine strict_eq (fun x y h => by intro g; rw [strLt_asym h] at g; cases g) h.1 g.1 ?_
  refine (List.perm_ext_iff_of_nodup (h.1.imp fun {a b} q => strLt_ne q) (g.1.imp fun {a b} q => strLt_ne q)).mpr fun y => (h.2 y).trans (g.2 y).symm
theorem isKeys.of {t u : Tab} {zs : List Str} (nd : zs.Nodup) (hm : ∀ y : Str, y ∈ zs ↔ y ∈ keysT t ++ keysT u) (hs : sortedS zs = true) : isKeys t u zs := ⟨sortedS_lt hs nd, hm⟩
def difB (t u : Tab) (k : Str) : Bool := !eqD (getD t k) (getD u k)
def difR (t u : Tab) (k : Str) : D := .tup [.str k, getD t k, getD u k]
def jnB (u : Tab) (lo hi : Str) (r : Str × List Int) : Bool := inB lo hi r && (keysT u).contains r.1
def jnR (u : Tab) (r : Str × List Int) : D := .tup [.str r.1, rowD r.2, getD u r.1]
end DL
namespace DL
open PySem PySem.Spec PyProof.Rows L2

section
variable {K : PySem.W.Frag} {F : Fx} {B B' : Hp} {m m' : List Addr} {S S' : Sto} {H H' : Hp} {T : Addr → Prop}
theorem Cf.self (c : Cf K F B m S H) : Cf K ⟨B, H, m, F.T⟩ B m S H :=
  ⟨.refl, c.sub, fun _ _ h => .inl h, fun _ _ h _ _ => h, fun _ h => h, c.len, fun _ _ h => h, fun _ _ h => .inl h, c.nd, c.own, c.tab⟩
theorem Cf.backG (c : Cf K F B m S H) (x : Nx K ⟨B, H, m, F.T⟩ B m H B' m' S' H') : Nx K F B m H B' m' S' H' := by
  obtain ⟨c', sb, pr, kp, nw, dm, bn⟩ := x
  refine ⟨⟨c.b0.trans sb, c'.sub, fun a o e => ?_, fun a o e nl nt => ?_, fun a e => c.dom a (c'.dom a e), c'.len, fun n a e => pr n a (c.pre n a e), fun n a e => ?_, c'.nd, c'.own, c'.tab⟩, sb, pr, kp, nw, dm, bn⟩
  · rcases c'.bnew a o e with z | z
    · exact c.bnew a o z
    · exact .inr (c.dom a z)
  · have h1 := c.fr a o e nl nt
    refine c'.fr a o h1 (fun z => ?_) nt
    obtain ⟨n, hn⟩ := List.getElem?_of_mem z
    rcases c.new n a hn with q | q
    · exact nl (List.mem_of_getElem? q)
    · rw [q] at e; cases e
  · rcases c'.new n a e with z | z
    · exact c.new n a z
    · exact .inr (c.dom a z)
theorem Cf.nxE (c : Cf K ⟨B, H, m, T⟩ B' m' S' H') : Nx K ⟨B, H, m, T⟩ B m H B' m' S' H' :=
  ⟨c, c.b0, c.pre, fun a o e n nt => c.fr a o e (fun z => by
    obtain ⟨i, hi⟩ := List.getElem?_of_mem z
    exact n i hi) nt, c.new, c.dom, fun a o e => (c.bnew a o e).imp id .inl⟩
end
abbrev GSp := List W → Sto → WK → XWK → Prop
def spG (K : PySem.W.Frag) (T : Addr → Prop) (g : GSp) : Sp := fun vs H Q E => ∃ (B : Hp) (m : List Addr) (ws : List W) (S : Sto) (Kp : WK) (Xp : XWK), Cf K ⟨B, H, m, T⟩ B m S H ∧ RWL K B m ws vs ∧ g ws S Kp Xp ∧ KW K ⟨B, H, m, T⟩ Kp B m H Q ∧
  ∀ (x : XD) (S' : Sto), Xp x S' → ∀ (H' B' : Hp) (m' : List Addr) (d : Option Addr), Nx K ⟨B, H, m, T⟩ B m H B' m' S' H' → RX K B' x.fs d → E x.cls d H'
structure CalX (P : Program) (w : World) (K : PySem.W.Frag) (T : Addr → Prop) (mg : Str → Option Value) (base : Heap) (k : Nat) (x : Str) (g : GSp) : Prop where
  ex : ∃ (f : Addr) (fd : FuncData) (ps : List Str), FnOk P w K mg base (L2.CX P w) k f fd ps (spG K T g) ∧ mg x = some (.ref f) ∧ PySem.W.keepIn K (.ref f) = true ∧ Binds K fd ps []
structure MetX (P : Program) (w : World) (K : PySem.W.Frag) (T : Addr → Prop) (mg : Str → Option Value) (base : Heap) (k : Nat) (C : Addr) (m : Str) (g : GSp) : Prop where
  ex : ∃ (f : Addr) (fd : FuncData) (ps : List Str), Cls K C ∧ Meth K C m f ∧ FnOk P w K mg base (L2.CX P w) k f fd ps (spG K T g) ∧ Binds K fd ps []
theorem CalX.mono {P : Program} {w : World} {K : PySem.W.Frag} {T : Addr → Prop} {mg : Str → Option Value} {base : Heap} {j k : Nat} {x : Str} {g : GSp} (c : CalX P w K T mg base j x g) (h : j ≤ k) : CalX P w K T mg base k x g := by
  obtain ⟨f, fd, ps, F, r⟩ := c.ex
  exact ⟨f, fd, ps, F.mono h, r⟩
theorem MetX.mono {P : Program} {w : World} {K : PySem.W.Frag} {T : Addr → Prop} {mg : Str → Option Value} {base : Heap} {j k : Nat} {C : Addr} {m : Str} {g : GSp} (c : MetX P w K T mg base j C m g) (h : j ≤ k) : MetX P w K T mg base k C m g := by
  obtain ⟨f, fd, ps, a, b, F, r⟩ := c.ex
  exact ⟨f, fd, ps, a, b, F.mono h, r⟩
theorem CalX.imp {P : Program} {w : World} {K : PySem.W.Frag} {T : Addr → Prop} {mg : Str → Option Value} {base : Heap} {k : Nat} {x : Str} {g g' : GSp} (c : CalX P w K T mg base k x g) (h : ∀ ws S Kp Xp, g' ws S Kp Xp → g ws S Kp Xp) : CalX P w K T mg base k x g' := by
  obtain ⟨f, fd, ps, F, r⟩ := c.ex
  exact ⟨f, fd, ps, F.imp fun vs H Q E ⟨B, m, ws, S, Kp, Xp, a, b, c, d⟩ => ⟨B, m, ws, S, Kp, Xp, a, b, h _ _ _ _ c, d⟩, r⟩
def dCallG (g : GSp) (xw : XWK) (da : DA) : DE := fun env S Kp => da env S fun ws S1 => g ws S1 Kp xw
structure FldOk (K : PySem.W.Frag) (C : Addr) (f : Str) : Prop where
  cls : Cls K C
  na : NoAttr K C f
def putFW (f : Str) (v : W) : List (Str × W) → List (Str × W)
  | [] => [(f, v)]
  | (g, x) :: r => if g = f then (g, v) :: r else (g, x) :: putFW f v r
section
variable {K : PySem.W.Frag} {F : Fx} {B : Hp} {m : List Addr} {S : Sto} {H : Hp}
theorem FF.look {f : Str} : ∀ {fs : List (Str × W)} {vs : List (Str × V)}, FF K B m fs vs → match fs.lookup f with
    | some w => ∃ v, vs.lookup f = some v ∧ RW K B m w v
    | none => vs.lookup f = none
  | _, _, .nil => rfl
  | (g, w0) :: fs, (_, v0) :: vs, .cons ⟨e0, r⟩ t => by
    cases e0
    rw [List.lookup_cons, List.lookup_cons]
    by_cases e : f = g
    · subst e
      rw [beq_self_eq_true]
      exact ⟨_, rfl, r⟩
    · have e' : (f == g) = false := by simpa using e
      rw [e']
      exact FF.look t
theorem FF.put {f : Str} {w : W} {v : V} (rv : RW K B m w v) : ∀ {fs : List (Str × W)} {vs : List (Str × V)}, FF K B m fs vs → FF K B m (putFW f w fs) (putF f v vs)
  | _, _, .nil => .cons ⟨rfl, rv⟩ .nil
  | (g, w0) :: fs, (_, v0) :: vs, .cons ⟨e0, r⟩ t => by
    cases e0
    unfold putFW putF
    split
    · exact .cons ⟨rfl, rv⟩ t
    · exact .cons ⟨rfl, r⟩ (FF.put rv t)
theorem FF.length {fs : List (Str × W)} {vs : List (Str × V)} (r : FF K B m fs vs) : fs.length = vs.length := Paired.length r
theorem FF.zip : ∀ {ns : List Str} {ws : List W} {vs : List V}, RWL K B m ws vs → FF K B m (ns.zip ws) (ns.zip vs)
  | [], _, _, _ => .nil
  | _ :: _, _, _, .nil => .nil
  | _ :: _, _, _, .cons r t => .cons ⟨rfl, r⟩ (FF.zip t)
end
section
variable {X : Cx} {Ξ : Xt} {g : GSp} {C : Addr} {names : List Str} {j k : Nat} {x f mt : Str} {e o value : Expr} {es : List Expr} {da : DA} {de dv : DE} {p pos pos' apos : Pos}
theorem TakesD.passes {F : Fx} {xw : XWK} (tk : TakesD X F xw) : ∃ W : WX, (∀ σ, PassesAt (L2.CX X.prog X.w) X σ (WE W σ)) ∧ ∀ (x : XD) (S' : Sto), xw x S' → ∀ (σ' : L2.St) (H' B' : Hp) (m' : List Addr) (d : Option Addr), Cf X.K F B' m' S' H' → RX X.K B' x.fs d → W x.cls d σ' H' := by
  obtain ⟨W, t, h⟩ := tk
  exact ⟨W, fun σ => passAt t σ, h⟩
theorem e_callG (c : CalX X.prog X.w X.K Ξ.T X.mg X.base k x g) (hr : Room j X.A) (hk : k ≤ j) (hg : Gl X x) (ha : DPA X Ξ (e :: es) da)
    (hdb : (x == ("__debug__" : Str)) = false := by decide) (he : starEach (e :: es) X.env = (false, eval e X.env) :: starEach es X.env := by rfl) (hpl : (backTo pos (starEach es X.env)).any (·.1) = false := by rfl) :
    DPE X Ξ (.Call (.Name x p) (e :: es) [] pos) (dCallG g Ξ.xw da) := ⟨fun F ok => by
  obtain ⟨W, hp, hw⟩ := ok.x.passes
  obtain ⟨f, fd, ps, Fn, hm, kp, b⟩ := c.ex
  refine PE.imp (pe_callS Fn (hr.mono hk) hg hm kp b hp (ha.run F ok) hdb he hpl) fun σ H Q ⟨B, m, S, env, Kp, cf, er, h, kw⟩ => ?_
  refine ⟨B, m, S, env, _, cf, er, h, fun ws S1 h1 vs H1 B1 m1 n1 r => ?_⟩
  rw [← ok.t]
  refine ⟨B1, m1, ws, S1, Kp, Ξ.xw, n1.cf.self, r, h1, fun w S2 h2 v H2 B2 m2 n2 r2 => ?_, fun y S2 h2 H2 B2 m2 d n2 rx => ?_⟩
  · exact kw _ _ h2 _ _ _ _ (n1.trans (n1.cf.backG n2)) r2
  · exact hw _ _ h2 _ _ _ _ _ (n1.cf.backG n2).cf rx⟩
end
section
variable {P : Program} {w : World} {K : PySem.W.Frag} {T : Addr → Prop} {mg : Str → Option Value} {base : Heap}
theorem fnX {x qual : Str} {st : Stmt} {f : Addr} {fd : FuncData} {N ps : List Str} {k : Nat} {g : GSp} {ds : XWK → DS} (Fn : C8.Fun K x qual st f fd) (S : FnScope N ps (C8.fnScope st)) (len : ∀ ws S Kp Xp, g ws S Kp Xp → ws.length = ps.length)
    (hbody : ∀ (xw : XWK) (cdv : Value) (A : Around) (outer : List Env) (s : Shared) (H : Hp) (E : XK), Room k (A.deeper (envOfC qual (C8.fnScope st) s.heap.objs.size f cdv)) →
      PassesOwn (model P w) (cxOf (L2.CX P w) P w K mg base N qual (C8.fnScope st) f cdv A outer s H E).A (cxOf (L2.CX P w) P w K mg base N qual (C8.fnScope st) f cdv A outer s H E).env (cxOf (L2.CX P w) P w K mg base N qual (C8.fnScope st) f cdv A outer s H E).xe →
      DPSs (cxOf (L2.CX P w) P w K mg base N qual (C8.fnScope st) f cdv A outer s H E) ⟨T, xw, none⟩ (C8.fnBody st) (ds xw))
    (hread : ∀ ws S Kp Xp, g ws S Kp Xp → ds Xp ⟨fun _ S' => Kp (.fz .non) S', Kp, fun _ _ => False, fun _ _ => False⟩ (startD N ws) S) : FnOk P w K mg base (L2.CX P w) (k + 1) f fd ps (spG K T g) := by
  obtain ⟨oc, od, dV, kV, doc, pm, an, cdv, ct, osl, rfl, lk, hcd⟩ := Fn.ex
  refine fn_of lk hcd S (fun vs H Q E ⟨B, m, ws, S, Kp, Xp, _, r, h, _⟩ => by rw [← r.length]; exact len _ _ _ _ h) fun A outer s H vs Q E hr ⟨B, m, ws, S0, Kp, Xp, c, r, h, kw, kx⟩ => ?_
  have hb := hbody Xp cdv A outer s H E hr (passes_of rfl)
  have tk : Takes (cxOf (L2.CX P w) P w K mg base N qual (C8.fnScope st) f cdv A outer s H E) (fun cls d _ H => E cls d H) := takes_of rfl rfl rfl rfl
  refine ⟨_, hb.run ⟨B, H, m, T⟩ ⟨rfl, ⟨_, tk, fun x S' hx σ' H' B' m' d cf rx => kx x S' hx H' B' m' d cf.nxE rx⟩, fun _ z => nomatch z⟩, B, m, S0, _, _, c, ER.start r, hread ws S0 Kp Xp h, ?_, ?_, fun _ _ z => z.elim, fun _ _ z => z.elim⟩
  · rintro env S' hk σ' H' B' m' n er
    exact kw _ _ hk _ _ _ _ n (.fz .non)
  · rintro u S' hk v H' B' m' n r'
    exact kw _ _ hk _ _ _ _ n r'
end
end DL
namespace DL
open PySem PySem.Spec PyProof.Rows L2

structure ScopeS (N ps : List Str) (sc : Scope) : Prop where
  kind : sc.kind = .function
  co : sc.isCoroutine = false
  gen : sc.isGenerator = false
  nd : N.Nodup
  pre : N.take ps.length = ps
  par : ∀ x ∈ ps, sc.names.lookup x = some .local
  nocell : ∀ x ∈ sc.names, x.2 ≠ .cell
  fr : ∀ x ∈ sc.names, x.2 = .free → x.1 = "__class__"
  sup : sc.names.lookup ("super" : Str) = some .globalImplicit
  cls : sc.names.lookup ("__class__" : Str) = some .free
def scS (N P : List Str) (sc : Scope) : Bool :=
  decide (sc.kind = .function) && !sc.isCoroutine && !sc.isGenerator && decide N.Nodup && decide (N.take P.length = P) && P.all (fun x => decide (sc.names.lookup x = some .local)) && sc.names.all (fun y => !decide (y.2 = .cell)) && sc.names.all (fun y => !decide (y.2 = .free) || decide (y.1 = "__class__")) &&
    decide (sc.names.lookup ("super" : Str) = some .globalImplicit) && decide (sc.names.lookup ("__class__" : Str) = some .free)
theorem scopeS_by {N P : List Str} {sc : Scope} (h : scS N P sc = true) : ScopeS N P sc := by
  unfold scS at h
  simp only [Bool.and_eq_true, Bool.not_eq_true', Bool.or_eq_true, decide_eq_true_eq, List.all_eq_true, decide_eq_false_iff_not] at h
  obtain ⟨⟨⟨⟨⟨⟨⟨⟨⟨h1, h2⟩, h3⟩, h4⟩, h5⟩, h6⟩, h7⟩, h8⟩, h9⟩, h10⟩ := h
  exact ⟨h1, h2, h3, h4, h5, h6, h7, fun x hx e => (h8 x hx).resolve_left fun z => z e, h9, h10⟩
def cxS (CX : CXT) (P : Program) (w : World) (K : PySem.W.Frag) (mg : Str → Option Value) (base : Heap) (N : List Str) (qual : Str) (scope : Scope) (f : Addr) (cd : Value) (cc : Addr) (A : Around) (outer : List Env) (s : Shared) (H : Hp) (E : XK) : Cx where
  prog := P
  w := w
  K := K
  mg := mg
  base := base
  A := A.deeper (PySem.W.ksEnv qual scope s.heap.objs.size f cd cc)
  N := N
  s_0 := s
  H_0 := H
  env := PySem.W.ksEnv qual scope s.heap.objs.size f cd cc
  outer := outer
  stack := PySem.W.ksEnv qual scope s.heap.objs.size f cd cc :: outer
  ex := []
  calm := true
  fn := fun y => !(y == "__class__")
  pn := []
  xe := fun e s' => wpAny (model P w) (A.deeper (PySem.W.ksEnv qual scope s.heap.objs.size f cd cc)) (leaving (PySem.W.ksEnv qual scope s.heap.objs.size f cd cc) e) (fun _ s'' => CX outer H s E e s'') (fun e' s'' => CX outer H s E e' s'') s'
theorem look1 {cc c : Addr} {y : Str} (h : ([("__class__", cc)] : List (Str × Addr)).lookup y = some c) : y = "__class__" ∧ c = cc := by
  rw [List.lookup_cons] at h
  by_cases e : y = "__class__"
  · subst e
    rw [beq_self_eq_true] at h
    exact ⟨rfl, (Option.some.inj h).symm⟩
  · have e' : (y == ("__class__" : Str)) = false := by simpa using e
    rw [e'] at h
    cases h
theorem lookup_of_nodup {α β : Type} [DecidableEq α] [BEq α] [LawfulBEq α] : ∀ {l : List (α × β)} {x : α} {u : β}, (l.map (·.1)).Nodup → (x, u) ∈ l → l.lookup x = some u
  | [], _, _, _, h => by cases h
  | (y, v) :: l, x, u, nd, h => by
    rw [List.map_cons, List.nodup_cons] at nd
    rw [List.lookup_cons]
    rcases List.mem_cons.mp h with e | h
    · cases e
      rw [beq_self_eq_true]
    · have ne : x ≠ y := fun e => nd.1 (by rw [← e]; exact List.mem_map_of_mem (f := (·.1)) h)
      have e' : (x == y) = false := by simpa using ne
      rw [e']
      exact lookup_of_nodup nd.2 h
theorem zip_fst {α β : Type} : ∀ {l : List α} {m : List β}, l.length = m.length → (l.zip m).map (·.1) = l
  | [], [], _ => rfl
  | a :: l, b :: m, h => by
    rw [List.zip_cons_cons, List.map_cons, zip_fst (by simpa using h)]
  | [], _ :: _, h => by simp at h
  | _ :: _, [], h => by simp at h
theorem zip_get {α β : Type} : ∀ {l : List α} {m : List β} {i : Nat} {a : α} {b : β}, l[i]? = some a → m[i]? = some b → (a, b) ∈ l.zip m
  | [], _, i, _, _, h, _ => by simp at h
  | _ :: _, [], i, _, _, _, h => by simp at h
  | x :: l, y :: m, 0, a, b, h1, h2 => by
    simp at h1 h2
    subst h1; subst h2
    exact List.mem_cons_self
  | x :: l, y :: m, i + 1, a, b, h1, h2 => List.mem_cons_of_mem _ (zip_get (i := i) (by simpa using h1) (by simpa using h2))
theorem inv_startS {CX : CXT} {P : Program} {w : World} {K : PySem.W.Frag} {mg : Str → Option Value} {base : Heap} {N ps : List Str} {qual : Str} {scope : Scope} {f cc : Addr} {cd : Value} {A : Around} {outer : List Env} {s : Shared} {H : Hp} {E : XK} {us : List Value} {vs : List V} {h1 : Heap} {tk : Nat} {cl : Value} {cld : Option Addr} {cv : Option Value} {csl : Array (Option Value)}
    (S : ScopeS N ps scope) (hd : A.handled = none) (e0 : Env0 P w K mg base A outer s H) (hl : vs.length = ps.length) (r : Vals vs us) (hcc : K.lookup cc = some ⟨cl, cld, .cell cv, csl⟩)
    (hns : h1.Ns s.heap.objs.size (fun x => (ps.zip us).reverse.lookup x)) (hk : ∀ b o, s.heap.get? b = some o → h1.get? b = some o) :
    Inv (cxS CX P w K mg base N qual scope f cd cc A outer s H E) [] (L2.start N vs) H { s with heap := h1, toks := tk } := by
  have hpl : ps.length ≤ N.length := by have := congrArg List.length S.pre; rw [List.length_take] at this; omega
  have noA : ∀ b : Addr, b ∉ (cxS CX P w K mg base N qual scope f cd cc A outer s H E).ex := fun b z => absurd (show b ∈ ([] : List Addr) from z) (by simp)
  have hlu : us.length = ps.length := by rw [← r.length, hl]
  have ndP : ps.Nodup := by rw [← S.pre]; exact S.nd.sublist (List.take_sublist _ _)
  refine ⟨⟨e0.mod, S.kind, rfl, rfl, Nat.le_refl _, fun y z c h1 h2 => ?_, fun y hy => ?_, fun y c hf h => ?_, fun _ => hd, Around.frames_deeper e0.frames, .inr ⟨rfl, rfl⟩, fun b z => absurd z (noA b), e0.bs, e0.bsz, fun b _ _ => noA b, fun b z => absurd z (noA b), e0.funs, e0.frf⟩,
    rfl, e0.bare, Un.kept hk, ⟨_, hns, fun i y v h1 h2 h3 => ?_⟩, fun y c h => ?_, e0.hok.fresh (Nat.le_refl _), fun y c h => ?_, fun p hp => absurd (show p ∈ ([] : List (Addr × Obj)) from hp) (by simp), e0.hok.kept hk, ?_⟩
  · rw [(look1 h1).1, (look1 h2).1]
  · have hy : scope.names.lookup y = some .cell ∨ scope.names.lookup y = some .free := hy
    rcases hy with hy | hy
    · exact absurd rfl (S.nocell _ (PySem.mem_of_lookup hy))
    · have e := S.fr _ (PySem.mem_of_lookup hy) rfl
      have e : y = "__class__" := e
      subst e
      exact ⟨cc, rfl⟩
  · rw [(look1 h).1] at hf
    have hf : (!(("__class__" : Str) == "__class__")) = true := hf
    rw [beq_self_eq_true] at hf
    cases hf
  · have hi : i < vs.length := by
      unfold L2.start at h2
      by_cases hi : i < vs.length
      · exact hi
      · rw [List.getElem?_append_right (by simpa using hi)] at h2
        rw [List.getElem?_replicate] at h2
        split at h2 <;> cases h2
    have ha : vs[i]? = some v := by
      unfold L2.start at h2
      rw [List.getElem?_append_left (by simpa using hi), List.getElem?_map] at h2
      cases e : vs[i]? with
      | none => rw [e] at h2; cases h2
      | some a => rw [e] at h2; cases h2; rfl
    obtain ⟨u, hu, rv⟩ := r.get ha
    have hp : ps[i]? = some y := by
      rw [← S.pre, List.getElem?_take_of_lt (by omega)]; exact h1
    refine ⟨u, rv, .inl ⟨S.par y (List.mem_of_getElem? hp), ?_⟩⟩
    refine lookup_of_nodup ?_ (List.mem_reverse.mpr (zip_get hp hu))
    rw [List.map_reverse, zip_fst hlu.symm]
    exact (List.reverse_perm _).nodup_iff.mpr ndP
  · rw [(look1 h).2]
    have := e0.mod.kin _ _ hcc
    exact ⟨cv, _, hk _ _ (e0.bs _ _ this).1, rfl⟩
  · rw [(look1 h).2]
    exact (e0.bs _ _ (e0.mod.kin _ _ hcc)).2
  · unfold L2.start
    show _ = N.length
    rw [List.length_append, List.length_map, List.length_replicate]
    omega
structure SupF (P : Program) (K : PySem.W.Frag) (qual : Str) (st : Stmt) (C f f2 : Addr) : Prop where
  ex : ∃ (oc : Value) (od : Option Addr) (kV doc pm : Value) (an : Option Addr) (cda : Addr) (ct : Value) (cc : Addr) (osl : Array (Option Value)) (ccl : Value) (cdd : Option Addr) (vs : Array Value) (ccs : Array (Option Value)) (file : Str) (tf : Tok) (cl : Value) (cld : Option Addr) (csl : Array (Option Value)),
    K.lookup f = some ⟨oc, od, .func (PySem.W.ksFn "__init__" qual (C8.fnArgs st) (C8.fnBody st) (C8.fnScope st) .none kV doc pm an (.ref cda) ct cc), osl⟩ ∧ PySem.W.codeIn K (.ref cda) qual = true ∧
    K.lookup cda = some ⟨ccl, cdd, .fields vs, ccs⟩ ∧ vs[2]? = some (.str file tf) ∧ ((P.main.file : Str) == file) = true ∧ K.lookup cc = some ⟨cl, cld, .cell (some (.ref C)), csl⟩
  cls : ∃ cd, PySem.W.clsIn K C = some cd
  sub : PySem.W.mroIn K C (.ref C) = some true
  top : (P.main.scope.names.lookup ("super" : Str)).isSome = false
  any : PySem.W.nsIn K cStatics "thirdparty.any" = some none
  nxt : PySem.W.ks_superIn K C C "__init__" = some (some (.ref f2))
  ty : PySem.W.typeIn K (.ref f2) = some (.type "function")
  fi : PySem.W.fnIn K f2 = true
end DL
namespace DL
open PySem PySem.Spec PyProof.Rows L2

structure MakX (P : Program) (w : World) (K : PySem.W.Frag) (T : Addr → Prop) (mg : Str → Option Value) (base : Heap) (k : Nat) (x : Str) (C : Addr) (g : GSp) : Prop where
  ex : ∃ (f : Addr) (fd : FuncData) (ps : List Str), Mk K C f ∧ FnOk P w K mg base (L2.CX P w) k f fd ps (spG K T g) ∧ mg x = some (.ref C) ∧ Binds K fd ps []
section
variable {X : Cx} {Ξ : Xt} {g : GSp} {C : Addr} {j k : Nat} {x : Str} {e : Expr} {es : List Expr} {da : DA} {p pos : Pos}
end
section
variable {P : Program} {w : World} {K : PySem.W.Frag} {T : Addr → Prop} {mg : Str → Option Value} {base : Heap}
end
section
variable {K : PySem.W.Frag} {F : Fx} {B : Hp} {m : List Addr} {S : Sto} {H : Hp}
end
section
variable {P : Program} {w : World} {K : PySem.W.Frag} {T : Addr → Prop} {mg : Str → Option Value} {base : Heap}
theorem Df.calX {x : Str} {st : Stmt} {N ps : List Str} {k : Nat} {g : GSp} {ds : XWK → DS} (D : Df K mg x st) (hb : ∀ (kV doc pm : Value) (an : Option Addr) (cdv ct : Value) (us : List Value), us.length = ps.length → bindArgs (PySem.W.fnOf x x (C8.fnArgs st) (C8.fnBody st) (C8.fnScope st) .none kV doc pm an cdv ct) ⟨us, []⟩ = pure (ps.zip us))
    (S : FnScope N ps (C8.fnScope st)) (len : ∀ ws S Kp Xp, g ws S Kp Xp → ws.length = ps.length)
    (hbody : ∀ (xw : XWK) (f : Addr) (cdv : Value) (A : Around) (outer : List Env) (s : Shared) (H : Hp) (E : XK), Room k (A.deeper (envOfC x (C8.fnScope st) s.heap.objs.size f cdv)) →
      PassesOwn (model P w) (cxOf (L2.CX P w) P w K mg base N x (C8.fnScope st) f cdv A outer s H E).A (cxOf (L2.CX P w) P w K mg base N x (C8.fnScope st) f cdv A outer s H E).env (cxOf (L2.CX P w) P w K mg base N x (C8.fnScope st) f cdv A outer s H E).xe →
      DPSs (cxOf (L2.CX P w) P w K mg base N x (C8.fnScope st) f cdv A outer s H E) ⟨T, xw, none⟩ (C8.fnBody st) (ds xw))
    (hread : ∀ ws S Kp Xp, g ws S Kp Xp → ds Xp ⟨fun _ S' => Kp (.fz .non) S', Kp, fun _ _ => False, fun _ _ => False⟩ (startD N ws) S) : CalX P w K T mg base (k + 1) x g := by
  obtain ⟨f, fd, F, df⟩ := D.ex
  exact ⟨f, fd, ps, fnX F.fn S len (fun xw => hbody xw f) hread, F.mgf, F.kp, F.fn.binds df hb⟩
end
structure MtIn (K : PySem.W.Frag) (x m qual : Str) (st : Stmt) : Prop where
  ex : ∃ (C f : Addr) (od an : Option Addr) (sl : Array (Option Value)) (oc kV dc pm cd ct : Value), PySem.W.nsIn K mainGlobals x = some (some (.ref C)) ∧ Cls K C ∧ Meth K C m f ∧
    K.lookup f = some ⟨oc, od, .func (PySem.W.fnOf m qual (C8.fnArgs st) (C8.fnBody st) (C8.fnScope st) .none kV dc pm an cd ct), sl⟩ ∧ PySem.W.codeIn K cd qual = true
structure MtDf (K : PySem.W.Frag) (C : Addr) (m qual : Str) (st : Stmt) : Prop where
  ex : ∃ (f : Addr) (fd : FuncData), Cls K C ∧ Meth K C m f ∧ C8.Fun K m qual st f fd ∧ fd.defaults = .none
theorem MtIn.df {K : PySem.W.Frag} {x m qual : Str} {st : Stmt} {h : Heap} {mg : Str → Option Value} {C : Addr} (D : MtIn K x m qual st) (X : K.In h) (G : h.Ns mainGlobals mg) (hC : mg x = some (.ref C)) : MtDf K C m qual st := by
  obtain ⟨C', f, od, an, sl, oc, kV, dc, pm, cd, ct, a, c, me, l, k⟩ := D.ex
  have e := PySem.W.mg_of X G a
  rw [hC] at e
  cases e
  exact ⟨f, _, c, me, ⟨oc, od, .none, kV, dc, pm, an, cd, ct, sl, rfl, l, k⟩, rfl⟩
structure SbIn (P : Program) (K : PySem.W.Frag) (x qual : Str) (st : Stmt) (qual2 : Str) (st2 : Stmt) (names : List Str) : Prop where
  ex : ∃ (C f f2 : Addr) (od2 an2 : Option Addr) (sl2 : Array (Option Value)) (oc2 kV2 dc2 pm2 cd2 ct2 : Value), PySem.W.nsIn K mainGlobals x = some (some (.ref C)) ∧ Mk K C f ∧ Cls K C ∧ (∀ n ∈ names, NoAttr K C n) ∧ SupF P K qual st C f f2 ∧
    K.lookup f2 = some ⟨oc2, od2, .func (PySem.W.fnOf "__init__" qual2 (C8.fnArgs st2) (C8.fnBody st2) (C8.fnScope st2) .none kV2 dc2 pm2 an2 cd2 ct2), sl2⟩ ∧ PySem.W.codeIn K cd2 qual2 = true ∧ PySem.W.nsIn K mainGlobals "super" = some none
structure SbDf (P : Program) (K : PySem.W.Frag) (mg : Str → Option Value) (x qual : Str) (st : Stmt) (qual2 : Str) (st2 : Stmt) (names : List Str) (C : Addr) : Prop where
  ex : ∃ (f f2 : Addr) (fd2 : FuncData), Mk K C f ∧ SupF P K qual st C f f2 ∧ C8.Fun K "__init__" qual2 st2 f2 fd2 ∧ fd2.defaults = .none
  mgC : mg x = some (.ref C)
  cls : Cls K C
  na : ∀ n ∈ names, NoAttr K C n
  sup : mg "super" = none
theorem SbIn.df {P : Program} {K : PySem.W.Frag} {x qual qual2 : Str} {st st2 : Stmt} {names : List Str} {h : Heap} {mg : Str → Option Value} (D : SbIn P K x qual st qual2 st2 names) (X : K.In h) (G : h.Ns mainGlobals mg) : ∃ C, SbDf P K mg x qual st qual2 st2 names C := by
  obtain ⟨C, f, f2, od2, an2, sl2, oc2, kV2, dc2, pm2, cd2, ct2, a, M, c, na, sf, l2, k2, ns⟩ := D.ex
  exact ⟨C, ⟨f, f2, _, M, sf, ⟨oc2, od2, .none, kV2, dc2, pm2, an2, cd2, ct2, sl2, rfl, l2, k2⟩, rfl⟩, PySem.W.mg_of X G a, c, na, PySem.W.mg_none_of X G ns⟩
section
variable {P : Program} {w : World} {K : PySem.W.Frag} {T : Addr → Prop} {mg : Str → Option Value} {base : Heap}
end
end DL
namespace DL
open PySem PySem.Spec PyProof.Rows L2

structure Ext (ex : List Nat) (S S' : Sto) : Prop where
  len : S.length ≤ S'.length
  keep : ∀ i, i < S.length → i ∉ ex → S'[i]? = S[i]?
theorem Ext.refl {ex : List Nat} {S : Sto} : Ext ex S S := ⟨Nat.le_refl _, fun _ _ _ => rfl⟩
theorem Ext.trans {a b c : List Nat} {S S' S'' : Sto} (h : Ext a S S') (g : Ext b S' S'') (s1 : ∀ i ∈ a, i ∈ c) (s2 : ∀ i ∈ b, i < S.length → i ∈ c) : Ext c S S'' :=
  ⟨Nat.le_trans h.len g.len, fun i hi hn => by
    rw [g.keep i (Nat.lt_of_lt_of_le hi h.len) fun z => hn (s2 i z hi), h.keep i hi fun z => hn (s1 i z)]⟩
theorem Ext.app {ex : List Nat} {S T : Sto} : Ext ex S (S ++ T) := ⟨by rw [List.length_append]; omega, fun i hi _ => List.getElem?_append_left hi⟩
theorem Ext.get {ex : List Nat} {S S' : Sto} {i : Nat} {o : OD} (h : Ext ex S S') (e : S[i]? = some o) (n : i ∉ ex) : S'[i]? = some o := by
  rw [h.keep i (List.getElem?_eq_some_iff.mp e).1 n, e]
theorem Ext.set {ex : List Nat} {S : Sto} {i : Nat} {o : OD} (h : i ∈ ex) : Ext ex S (S.set i o) := ⟨by rw [List.length_set]; exact Nat.le_refl _, fun j hj hn => by
  rw [List.getElem?_set_ne (fun z : i = j => hn (by rw [← z]; exact h))]⟩
theorem Ext.mono {a b : List Nat} {S S' : Sto} (h : Ext a S S') (s : ∀ i ∈ a, i < S.length → i ∈ b) : Ext b S S' := ⟨h.len, fun i hi hn => h.keep i hi fun z => hn (s i z hi)⟩
mutual
def plB : D → Bool
  | .non => true
  | .bl _ => true
  | .int _ => true
  | .str x => PyData.strOk x && decide (x.length ≤ 1000)
  | .tup ds => decide (ds.length ≤ 1000) && plBL ds
  | .lst ds => decide (ds.length ≤ 1000) && plBL ds
  | .obj _ _ => false
  | .scr _ => false
  | .ty _ => false
def plBL : List D → Bool
  | [] => true
  | d :: ds => plB d && plBL ds
end
theorem plBL_iff : ∀ {ds : List D}, plBL ds = true ↔ ∀ d ∈ ds, plB d = true
  | [] => ⟨(fun _ _ h => by cases h), fun _ => rfl⟩
  | d :: ds => by
    rw [plBL, Bool.and_eq_true, plBL_iff]
    refine ⟨fun h x hx => ?_, fun h => ⟨h d List.mem_cons_self, fun x hx => h x (List.mem_cons_of_mem _ hx)⟩⟩
    rcases List.mem_cons.mp hx with e | e
    · rw [e]; exact h.1
    · exact h.2 x e
structure PI where
  l : Link
  t : Option Tr
inductive SrcS where
  | kn (es : List D) | gv (cs : List D) (n : Nat)
structure Rf where
  word : Str
  num : Int
def Tr.size : Tr → Nat
  | .nil => 0
  | .node _ _ x y => x.size + y.size + 1
def okTr : Tr → Prop
  | .nil => True
  | .node k r x y => isKey k ∧ isRow r ∧ okTr x ∧ okTr y
def linkOfD : D → Option Link
  | .tup [.int d, .int n, .tup [.int a, .int b, .int c]] => if 0 ≤ d ∧ 0 ≤ n ∧ 0 ≤ a ∧ 0 ≤ b ∧ 0 ≤ c then some ⟨d, n, a, b, c⟩ else none
  | _ => none
def intsOfD : List D → Option (List Int)
  | [] => some []
  | .int i :: ds => (intsOfD ds).map (i :: ·)
  | _ :: _ => none
def rowOfD : D → Option (List Int)
  | .tup ds => (intsOfD ds).bind fun r => if 1 ≤ r.length ∧ r.length ≤ 3 ∧ r.all (fun i => decide (0 ≤ i) && decide (i ≤ 65535)) then some r else none
  | _ => none
def keyOfD : D → Option Str
  | .str k => if 1 ≤ k.cps.toList.length ∧ k.cps.toList.length ≤ 8 ∧ k.cps.toList.all sign = true then some k else none
  | _ => none
def entOfD : D → Option (Str × List Int × Link × Link)
  | .tup [k, r, x, y] => (keyOfD k).bind fun k => (rowOfD r).bind fun r => (linkOfD x).bind fun x => (linkOfD y).bind fun y => some (k, r, x, y)
  | _ => none
abbrev Op := Str × List Int × PI × PI
def opn (b m : Int) : SrcS → PI → Except Rf (Op × SrcS)
  | .kn es, pi => match pi.t with
    | some (.node k r x y) => .ok ((k, r, ⟨linkT b m x, some x⟩, ⟨linkT b m y, some y⟩), .kn (es ++ [entD k r (linkT b m x) (linkT b m y)]))
    | _ => .error ⟨"", 0⟩
  | .gv cs n, pi => match cs[n]? with
    | none => .error ⟨"short", n⟩
    | some d => match entOfD d with
      | none => .error ⟨"form", n⟩
      | some (k, r, x, y) =>
        if (linkOf b m k r x y).d = pi.l.d then (if eqD (linkD (linkOf b m k r x y)) (linkD pi.l) then .ok ((k, r, ⟨x, none⟩, ⟨y, none⟩), .gv cs (n + 1)) else .error ⟨"sums", n⟩) else .error ⟨"digest", n⟩
def SrcS.isKn : SrcS → Bool
  | .kn _ => true
  | .gv _ _ => false
def meas : SrcS → PI → Nat
  | .kn _, pi => match pi.t with
    | some t => t.size
    | none => 0
  | .gv cs n, _ => cs.length - n
def okS (b m : Int) : SrcS → PI → Prop
  | .kn es, pi => es.length ≤ 900 ∧ ∃ t, pi.t = some t ∧ pi.l = linkT b m t ∧ okTr t ∧ es.length + t.size ≤ 900
  | .gv cs n, pi => (cs.length ≤ 900 ∧ n ≤ cs.length ∧ plBL cs = true) ∧ pi.t = none ∧ 0 ≤ pi.l.n
def SrcS.len : SrcS → Nat
  | .kn es => es.length
  | .gv _ n => n
def PI.tsz (pi : PI) : Nat := match pi.t with
  | some t => t.size
  | none => 0
def After : SrcS → SrcS → PI → Prop
  | .kn es, .kn fs, pi => es.length ≤ fs.length ∧ fs.length ≤ es.length + pi.tsz
  | .gv cs n, .gv ds k, _ => ds = cs ∧ n ≤ k ∧ k ≤ cs.length
  | _, _, _ => False
def SrcAt (C : Addr) (S : Sto) (s e : Nat) (b m : Int) : SrcS → Prop
  | .kn es => S[s]? = some (.ins C [("rule", .fz (ruleD b m)), ("entries", .hd e)]) ∧ S[e]? = some (.lst (es.map .fz)) ∧ s ≠ e
  | .gv cs n => S[s]? = some (.ins C [("rule", .fz (ruleD b m)), ("certificate", .fz (.lst cs)), ("position", .fz (.int n))]) ∧ s = e
theorem SrcAt.ext {C : Addr} {S S' : Sto} {s e : Nat} {b m : Int} {st : SrcS} {ex : List Nat} (h : SrcAt C S s e b m st) (x : Ext ex S S') (h1 : s ∉ ex) (h2 : e ∉ ex) : SrcAt C S' s e b m st := by
  cases st with
  | kn es => exact ⟨x.get h.1 h1, x.get h.2.1 h2, h.2.2⟩
  | gv cs n => exact ⟨x.get h.1 h1, h.2⟩
theorem SrcAt.lt {C : Addr} {S : Sto} {s e : Nat} {b m : Int} {st : SrcS} (h : SrcAt C S s e b m st) : s < S.length ∧ e < S.length := by
  cases st with
  | kn es => exact ⟨(List.getElem?_eq_some_iff.mp h.1).1, (List.getElem?_eq_some_iff.mp h.2.1).1⟩
  | gv cs n => exact ⟨(List.getElem?_eq_some_iff.mp h.1).1, h.2 ▸ (List.getElem?_eq_some_iff.mp h.1).1⟩
def trD (CT : Addr) (b m : Int) : Option Tr → D
  | none => .non
  | some t => treeO CT b m t
def PartAt (CP CT : Addr) (b m : Int) (S : Sto) (p : Nat) (pi : PI) : Prop := S[p]? = some (.ins CP [("link", .fz (linkD pi.l)), ("tree", .fz (trD CT b m pi.t)), ("node", .fz .non)])
theorem PartAt.lt {CP CT : Addr} {b m : Int} {S : Sto} {p : Nat} {pi : PI} (h : PartAt CP CT b m S p pi) : p < S.length := (List.getElem?_eq_some_iff.mp h).1
structure Cs where
  P : Addr
  N : Addr
  T : Addr
  R : Addr
def xdOf (R : Addr) (rf : Rf) : XD := ⟨.ref R, [("number", .int rf.num), ("word", .str rf.word)]⟩
structure Wk (c : Cs) (C : Addr) (q : Bool) (S : Sto) (s e p : Nat) (b m : Int) (st : SrcS) (pi : PI) : Prop where
  src : SrcAt C S s e b m st
  part : PartAt c.P c.T b m S p pi
  rule : isRule b m
  ok : okS b m st pi
  kind : st.isKn = q
  ps : p ≠ s
  pe : p ≠ e
structure Opd (c : Cs) (C : Addr) (S S' : Sto) (s e p : Nat) (b m : Int) (nd px py : Nat) (o : Op) (st' : SrcS) : Prop where
  src : SrcAt C S' s e b m st'
  ext : Ext [s, e, p] S S'
  node : S'[nd]? = some (.ins c.N [("key", .fz (.str o.1)), ("row", .fz (rowD o.2.1)), ("left", .hd px), ("right", .hd py)])
  xl : PartAt c.P c.T b m S' px o.2.2.1
  yl : PartAt c.P c.T b m S' py o.2.2.2
  hx : S.length ≤ px
  hy : S.length ≤ py
  hn : S.length ≤ nd
  ne : px ≠ py
  nn : px < nd ∧ py < nd
theorem keyOfD_ok {d : D} {k : Str} (h : keyOfD d = some k) : isKey k ∧ d = .str k := by
  unfold keyOfD at h
  split at h
  · split at h
    · cases h; exact ⟨by assumption, rfl⟩
    · cases h
  · cases h
theorem intsOfD_ok : ∀ {ds : List D} {r : List Int}, intsOfD ds = some r → ds = r.map D.int
  | [], r, h => by cases h; rfl
  | .int i :: ds, r, h => by
    unfold intsOfD at h
    cases q : intsOfD ds with
    | none => rw [q] at h; cases h
    | some r' => rw [q] at h; cases h; rw [intsOfD_ok q]; rfl
  | .non :: _, _, h => by cases h
  | .bl _ :: _, _, h => by cases h
  | .str _ :: _, _, h => by cases h
  | .tup _ :: _, _, h => by cases h
  | .lst _ :: _, _, h => by cases h
  | .obj _ _ :: _, _, h => by cases h
  | .scr _ :: _, _, h => by cases h
  | .ty _ :: _, _, h => by cases h
theorem rowOfD_ok {d : D} {r : List Int} (h : rowOfD d = some r) : isRow r ∧ d = rowD r := by
  unfold rowOfD at h
  split at h
  · rename_i ds
    cases q : intsOfD ds with
    | none => rw [q] at h; cases h
    | some r' =>
      rw [q] at h
      have h' : (if 1 ≤ r'.length ∧ r'.length ≤ 3 ∧ r'.all (fun i => decide (0 ≤ i) && decide (i ≤ 65535)) then some r' else none) = some r := h
      split at h'
      · cases h'
        rename_i z
        refine ⟨⟨z.1, z.2.1, fun i hi => ?_⟩, by rw [intsOfD_ok q]; rfl⟩
        have := List.all_eq_true.mp z.2.2 i hi
        rw [Bool.and_eq_true, decide_eq_true_eq, decide_eq_true_eq] at this
        exact this
      · cases h'
  · cases h
theorem linkOfD_ok {d : D} {l : Link} (h : linkOfD d = some l) : d = linkD l ∧ 0 ≤ l.d ∧ 0 ≤ l.n ∧ 0 ≤ l.a ∧ 0 ≤ l.b ∧ 0 ≤ l.c := by
  unfold linkOfD at h
  split at h
  · split at h
    · cases h; exact ⟨rfl, by assumption⟩
    · cases h
  · cases h
theorem entOfD_ok {d : D} {k : Str} {r : List Int} {x y : Link} (h : entOfD d = some (k, r, x, y)) : d = entD k r x y ∧ isKey k ∧ isRow r ∧ 0 ≤ x.n ∧ 0 ≤ y.n := by
  unfold entOfD at h
  split at h
  · rename_i k' r' x' y'
    cases q1 : keyOfD k' with
    | none => rw [q1] at h; cases h
    | some k1 =>
    cases q2 : rowOfD r' with
    | none => rw [q1, q2] at h; cases h
    | some r1 =>
    cases q3 : linkOfD x' with
    | none => rw [q1, q2, q3] at h; cases h
    | some x1 =>
    cases q4 : linkOfD y' with
    | none => rw [q1, q2, q3, q4] at h; cases h
    | some y1 =>
      rw [q1, q2, q3, q4] at h
      cases h
      obtain ⟨a1, a2⟩ := keyOfD_ok q1
      obtain ⟨b1, b2⟩ := rowOfD_ok q2
      obtain ⟨c1, c2⟩ := linkOfD_ok q3
      obtain ⟨d1, d2⟩ := linkOfD_ok q4
      exact ⟨by rw [a2, b2, c1, d1]; rfl, a1, b1, c2.2.1, d2.2.1⟩
  · cases h
theorem opn_ok {b m : Int} {st st' : SrcS} {pi : PI} {o : Op} (h : opn b m st pi = .ok (o, st')) (hs : okS b m st pi) :
    isKey o.1 ∧ isRow o.2.1 ∧ okS b m st' o.2.2.1 ∧ okS b m st' o.2.2.2 ∧ meas st' o.2.2.1 < meas st pi ∧ meas st' o.2.2.2 < meas st pi ∧ st'.isKn = st.isKn := by
  cases st with
  | kn es =>
    obtain ⟨h0, t, ht, hl, okt, hz⟩ := hs
    unfold opn at h
    dsimp only at h
    rw [ht] at h
    cases t with
    | nil => cases h
    | node k r x y =>
      cases h
      obtain ⟨a1, a2, a3, a4⟩ := okt
      have e1 : (es ++ [entD k r (linkT b m x) (linkT b m y)]).length = es.length + 1 := by rw [List.length_append]; rfl
      have e2 : (Tr.node k r x y).size = x.size + y.size + 1 := rfl
      rw [e2] at hz
      refine ⟨a1, a2, ⟨by omega, x, rfl, rfl, a3, by omega⟩, ⟨by omega, y, rfl, rfl, a4, by omega⟩, ?_, ?_, rfl⟩
      · show x.size < meas (.kn es) pi
        unfold meas
        dsimp only
        rw [ht]
        show x.size < x.size + y.size + 1
        omega
      · show y.size < meas (.kn es) pi
        unfold meas
        dsimp only
        rw [ht]
        show y.size < x.size + y.size + 1
        omega
  | gv cs n =>
    obtain ⟨h0, ht, hn⟩ := hs
    unfold opn at h
    dsimp only at h
    split at h
    · cases h
    · rename_i d hd
      split at h
      · cases h
      · rename_i k r x y he
        obtain ⟨ed, a1, a2, a3, a4⟩ := entOfD_ok he
        split at h
        · split at h
          · cases h
            have hlt := (List.getElem?_eq_some_iff.mp hd).1
            exact ⟨a1, a2, ⟨⟨h0.1, hlt, h0.2.2⟩, rfl, a3⟩, ⟨⟨h0.1, hlt, h0.2.2⟩, rfl, a4⟩, by show cs.length - (n + 1) < cs.length - n; omega, by show cs.length - (n + 1) < cs.length - n; omega, rfl⟩
          · cases h
        · cases h
theorem okS.len {b m : Int} {st : SrcS} {pi : PI} (h : okS b m st pi) : st.len ≤ 900 := by
  cases st with
  | kn es => exact h.1
  | gv cs n => exact Nat.le_trans h.1.2.1 h.1.1
theorem okS.refl {b m : Int} {st : SrcS} {pi : PI} (h : okS b m st pi) : After st st pi := by
  cases st with
  | kn es => exact ⟨Nat.le_refl _, Nat.le_add_right _ _⟩
  | gv cs n => exact ⟨rfl, Nat.le_refl _, h.1.2.1⟩
theorem After.len {st st' : SrcS} {pi : PI} (h : After st st' pi) : st.len ≤ st'.len := by
  cases st <;> cases st' <;> first | exact h.elim | exact h.1 | exact h.2.1
theorem After.kind {st st' : SrcS} {pi : PI} (h : After st st' pi) : st'.isKn = st.isKn := by
  cases st <;> cases st' <;> first | exact h.elim | rfl
theorem Opd.left {c : Cs} {C : Addr} {q : Bool} {S S' : Sto} {s e p : Nat} {b m : Int} {nd px py : Nat} {o : Op} {st st' : SrcS} {pi : PI} (h : Opd c C S S' s e p b m nd px py o st') (w : Wk c C q S s e p b m st pi) (eo : opn b m st pi = .ok (o, st')) : Wk c C q S' s e px b m st' o.2.2.1 := by
  obtain ⟨_, _, k1, k2, _, _, k3⟩ := opn_ok eo w.ok
  have := w.src.lt
  have := h.hx
  exact ⟨h.src, h.xl, w.rule, k1, k3.trans w.kind, by omega, by omega⟩
theorem Opd.right {c : Cs} {C : Addr} {q : Bool} {S S' : Sto} {s e p : Nat} {b m : Int} {nd px py : Nat} {o : Op} {st st' : SrcS} {pi : PI} (h : Opd c C S S' s e p b m nd px py o st') (w : Wk c C q S s e p b m st pi) (eo : opn b m st pi = .ok (o, st')) : Wk c C q S' s e py b m st' o.2.2.2 := by
  obtain ⟨_, _, k1, k2, _, _, k3⟩ := opn_ok eo w.ok
  have := w.src.lt
  have := h.hy
  exact ⟨h.src, h.yl, w.rule, k2, k3.trans w.kind, by omega, by omega⟩
end DL
namespace DL
open PySem PySem.Spec PyProof.Rows L2
structure Ent (c : Cs) (C : Addr) (S S' : Sto) (s e : Nat) (b m : Int) (st' : SrcS) : Prop where
  src : SrcAt C S' s e b m st'
  ext : Ext [s, e] S S'
  len : S'.length = S.length
end DL
namespace DL
open PySem PySem.Spec PyProof.Rows L2
theorem onO_lst {S : Sto} {n : Nat} {ws : List W} {k : List W → Prop} (h : S[n]? = some (.lst ws)) (hk : k ws) : onO (lstAt S n) k := by
  have e : lstAt S n = some ws := by unfold lstAt; rw [h]
  rw [e]
  exact hk
theorem set_app1 {S : Sto} {o : OD} {n : Nat} (h : n = S.length) : (S ++ [o])[n]? = some o := by
  subst h
  rw [List.getElem?_append_right (Nat.le_refl _), Nat.sub_self]
  rfl
theorem app_get {S : Sto} {i : Nat} {o : OD} {T : Sto} (h : S[i]? = some o) : (S ++ T)[i]? = some o := by
  rw [List.getElem?_append_left (List.getElem?_eq_some_iff.mp h).1]
  exact h
end DL
namespace DL
open PySem PySem.Spec PyProof.Rows L2
theorem SrcAt.ins {C : Addr} {S : Sto} {s e : Nat} {b m : Int} {st : SrcS} (h : SrcAt C S s e b m st) : ∃ fs, S[s]? = some (.ins C fs) ∧ fs.lookup ("rule" : Str) = some (.fz (ruleD b m)) ∧ ∀ n ∈ (["opened", "entry_of", "empty", "made", "root", "finish"] : List Str), fs.lookup n = none := by
  cases st with
  | kn es => exact ⟨_, h.1, rfl, fun n hn => by
    simp only [List.mem_cons, List.not_mem_nil, or_false] at hn
    rcases hn with rfl | rfl | rfl | rfl | rfl | rfl <;> rfl⟩
  | gv cs n => exact ⟨_, h.1, rfl, fun n hn => by
    simp only [List.mem_cons, List.not_mem_nil, or_false] at hn
    rcases hn with rfl | rfl | rfl | rfl | rfl | rfl <;> rfl⟩
theorem Ent.part {c : Cs} {C : Addr} {S S' : Sto} {s e p : Nat} {b m : Int} {st st' : SrcS} {pi : PI} {q : Bool} (h : Ent c C S S' s e b m st') (w : Wk c C q S s e p b m st pi) : PartAt c.P c.T b m S' p pi :=
  h.ext.get w.part (by simp only [List.mem_cons, List.not_mem_nil, or_false, not_or]; exact ⟨w.ps, w.pe⟩)
end DL
namespace DL
open PySem PySem.Spec PyProof.Rows L2
def Ends {α : Type} (c : Cs) (C : Addr) (S : Sto) (s e : Nat) (b m : Int) (ex : List Nat) (r : Except Rf (α × SrcS)) (Kp : α → Sto → Prop) (Xp : XWK) : Prop := match r with
  | .ok (a, st') => ∀ S', SrcAt C S' s e b m st' → Ext ex S S' → Kp a S'
  | .error rf => ∀ S', Ext ex S S' → Xp (xdOf c.R rf) S'
theorem Ends.step {α : Type} {c : Cs} {C : Addr} {S S2 : Sto} {s e : Nat} {b m : Int} {ex ex1 ex2 : List Nat} {r : Except Rf (α × SrcS)} {Kp : α → Sto → Prop} {Xp : XWK} (h : Ends c C S s e b m ex r Kp Xp) (x : Ext ex1 S S2) (h1 : ∀ i ∈ ex1, i ∈ ex) (h2 : ∀ i ∈ ex2, i < S.length → i ∈ ex) : Ends c C S2 s e b m ex2 r Kp Xp := by
  unfold Ends at h ⊢
  split
  · exact fun S' a1 a2 => h S' a1 (x.trans a2 h1 h2)
  · exact fun S' a2 => h S' (x.trans a2 h1 h2)
theorem Ends.imp {α : Type} {c : Cs} {C : Addr} {S : Sto} {s e : Nat} {b m : Int} {ex : List Nat} {r : Except Rf (α × SrcS)} {Kp Kq : α → Sto → Prop} {Xp : XWK} (h : Ends c C S s e b m ex r Kp Xp) (g : ∀ a S', Kp a S' → Kq a S') : Ends c C S s e b m ex r Kq Xp := by
  unfold Ends at h ⊢
  split
  · exact fun S' a1 a2 => g _ _ (h S' a1 a2)
  · exact h
def bnd {α β : Type} (r : Except Rf (α × SrcS)) (k : α → SrcS → Except Rf (β × SrcS)) : Except Rf (β × SrcS) := match r with
  | .error e => .error e
  | .ok (a, st) => k a st
theorem Ends.bnd {α β : Type} {c : Cs} {C : Addr} {S : Sto} {s e : Nat} {b m : Int} {ex : List Nat} {r : Except Rf (α × SrcS)} {k : α → SrcS → Except Rf (β × SrcS)} {Kp : β → Sto → Prop} {Kq : α → Sto → Prop} {Xp : XWK} (h : Ends c C S s e b m ex (bnd r k) Kp Xp)
    (g : ∀ a st' S', Ends c C S s e b m ex (k a st') Kp Xp → SrcAt C S' s e b m st' → Ext ex S S' → r = .ok (a, st') → Kq a S') : Ends c C S s e b m ex r Kq Xp := by
  cases r with
  | error rf => exact h
  | ok x => obtain ⟨a, st'⟩ := x; exact fun S' a1 a2 => g a st' S' h a1 a2 rfl
abbrev I4 := Int × Int × Int × Int
def d4 (x : Int × Int × Int × Int) : D := .lst [.int x.1, .int x.2.1, .int x.2.2.1, .int x.2.2.2]
end DL
namespace DL
open PySem PySem.Spec PyProof.Rows L2
theorem onO_vS {S : Sto} {n : Nat} {ws : List W} {k : List W → Prop} (h : S[n]? = some (.lst ws)) (hk : k ws) : onO (vS S (.hd n)) k := by
  have e : vS S (.hd n) = some ws := by
    unfold vS vT vL
    dsimp only
    rw [h]
  rw [e]
  exact hk
end DL
namespace DL
open PySem PySem.Spec PyProof.Rows L2
end DL
namespace DL
open PySem PySem.Spec PyProof.Rows L2
def Tr.rows : Tr → Tab
  | .nil => []
  | .node k r x y => x.rows ++ (k, r) :: y.rows
def entT (b m : Int) (k : Str) (r : List Int) (x y : Tr) : D := entD k r (linkT b m x) (linkT b m y)
def kn (b m : Int) (t : Tr) : PI := ⟨linkT b m t, some t⟩
inductive Rs where
  | d (x : D) | l (t : Tab)
def Rs.D : Rs → D
  | .d x => x
  | .l t => tabD t
end DL
namespace DL
open PySem PySem.Spec PyProof.Rows L2
def LwE (S : Sto) (f : Nat) (es new : List D) (Kp : WK) (d : D) : Prop := Kp (.fz d) (S.set f (.lst ((es ++ new).map W.fz)))
theorem LwE.nil {S : Sto} {f : Nat} {es : List D} {Kp : WK} {d : D} (h : LwE S f es [] Kp d) (e : S[f]? = some (.lst (es.map W.fz))) : Kp (.fz d) S := by
  unfold LwE at h
  rw [List.append_nil] at h
  have hl := (List.getElem?_eq_some_iff.mp e).1
  have : S.set f (.lst (es.map W.fz)) = S := by
    refine List.ext_getElem? fun i => ?_
    by_cases z : f = i
    · subst z; rw [List.getElem?_set_self hl, e]
    · rw [List.getElem?_set_ne z]
  rw [this] at h
  exact h
theorem LwE.done {S : Sto} {f : Nat} {es : List D} {d0 : D} {Kp : WK} {d : D} (h : LwE S f es [d0] Kp d) : Kp (.fz d) (S.set f (.lst (es.map W.fz ++ [W.fz d0]))) := by
  unfold LwE at h
  rw [List.map_append] at h
  exact h
end DL
namespace DL
open PySem PySem.Spec PyProof.Rows L2
end DL
namespace DL
open PySem PySem.Spec PyProof.Rows L2
def isEnt (e : D) : Prop := ∃ (k : Str) (r : List Int) (x y : Link), e = entD k r x y ∧ isKey k ∧ isRow r
def isEntL (ds : List D) : Prop := ∀ e ∈ ds, isEnt e
theorem isEntL.nil : isEntL [] := fun e h => nomatch h
theorem isEntL.cons {d : D} {ds : List D} (h : isEnt d) (g : isEntL ds) : isEntL (d :: ds) := fun e he => by
  rcases List.mem_cons.mp he with z | z
  · rw [z]; exact h
  · exact g e z
theorem isEntL.app {a b : List D} (h : isEntL a) (g : isEntL b) : isEntL (a ++ b) := fun e he => by
  rcases List.mem_append.mp he with z | z
  · exact h e z
  · exact g e z
end DL
namespace DL
open PySem PySem.Spec PyProof.Rows L2
def mwo (q x : Addr) : HO := .ext fun h => h.get? q = some (PySem.W.kxs_mw "ValueError.__init__" x)
theorem mwo_ok {P : Program} {w : World} {H : Hp} {h : Heap} {q x : Addr} (he : h.get? q = some (PySem.W.kxs_mw "ValueError.__init__" x)) : ObjOk P w H h q (mwo q x) := ⟨he, ⟨_, he⟩, fun h1 h2 z k => k _ z⟩
theorem mwo_at {P : Program} {w : World} {H : Hp} {h : Heap} {q x : Addr} (hok : HOk P w H h) (he : H q = some (mwo q x)) : h.get? q = some (PySem.W.kxs_mw "ValueError.__init__" x) := by
  have z : ObjOk P w H h q (.ext fun h => h.get? q = some (PySem.W.kxs_mw "ValueError.__init__" x)) := hok q _ he
  exact z.1
structure SupE (P : Program) (K : PySem.W.Frag) (qual : Str) (st : Stmt) (C f : Addr) : Prop where
  ex : ∃ (oc : Value) (od : Option Addr) (kV doc pm : Value) (an : Option Addr) (cda : Addr) (ct : Value) (cc : Addr) (osl : Array (Option Value)) (ccl : Value) (cdd : Option Addr) (vs : Array Value) (ccs : Array (Option Value)) (file : Str) (tf : Tok) (cl : Value) (cld : Option Addr) (csl : Array (Option Value)),
    K.lookup f = some ⟨oc, od, .func (PySem.W.ksFn "__init__" qual (C8.fnArgs st) (C8.fnBody st) (C8.fnScope st) .none kV doc pm an (.ref cda) ct cc), osl⟩ ∧ PySem.W.codeIn K (.ref cda) qual = true ∧
    K.lookup cda = some ⟨ccl, cdd, .fields vs, ccs⟩ ∧ vs[2]? = some (.str file tf) ∧ ((P.main.file : Str) == file) = true ∧ K.lookup cc = some ⟨cl, cld, .cell (some (.ref C)), csl⟩
  cls : ∃ cd, PySem.W.clsIn K C = some cd
  sub : PySem.W.mroIn K C (.ref C) = some true
  top : (P.main.scope.names.lookup ("super" : Str)).isSome = false
  any : PySem.W.nsIn K cStatics "thirdparty.any" = some none
  nxt : PySem.W.ks_superIn K C C "__init__" = some (some (.builtin "ValueError.__init__"))
  sb : PySem.W.subIn K (.ref C) (.type "ValueError") = some true
  oex : OexC K C
theorem sup_exc {X : Cx} {pins : List (Addr × Obj)} {σ : L2.St} {H : Hp} {s : Shared} {a C f cc cda : Addr} {qual : Str} {scope : Scope} {L : Addr} {body : List Stmt} {p0 p1 apos pos : Pos} {e : Expr} {es : List Expr} {t : TA} {Q : VK} {ar : Arg} {fd : FuncData}
    {oc : Value} {od : Option Addr} {osl : Array (Option Value)} {ccl : Value} {cdd : Option Addr} {vs : Array Value} {ccs : Array (Option Value)} {file : Str} {tf : Tok} {cl : Value} {cld : Option Addr} {csl : Array (Option Value)} {cdD : ClassData}
    (he : X.env = PySem.W.ksEnv qual scope L f (.ref cda) cc) (I : Inv X pins σ H s) (hN : X.N[0]? = some ar.arg) (h0 : σ[0]? = some (some (.ref a))) (ha : H a = some (exo a C none))
    (lk : X.K.lookup f = some ⟨oc, od, .func fd, osl⟩) (hp : (fd.params.posonlyargs ++ fd.params.args).head? = some ar) (hcode : X.K.lookup cda = some ⟨ccl, cdd, .fields vs, ccs⟩) (hvs : vs[2]? = some (.str file tf)) (hfile : ((X.prog.main.file : Str) == file) = true)
    (hcell : X.K.lookup cc = some ⟨cl, cld, .cell (some (.ref C)), csl⟩) (hD : PySem.W.clsIn X.K C = some cdD) (hsub : PySem.W.mroIn X.K C (.ref C) = some true) (hm : X.mg "super" = none) (htop : (X.prog.main.scope.names.lookup ("super" : Str)).isSome = false)
    (hany : PySem.W.nsIn X.K cStatics "thirdparty.any" = some none) (hnx : PySem.W.ks_superIn X.K C C "__init__" = some (some (.builtin "ValueError.__init__"))) (hB : PySem.W.subIn X.K (.ref C) (.type "ValueError") = some true) (T : OexC X.K C)
    (hks : scope.names.lookup ("super" : Str) = some .globalImplicit) (hkc : scope.names.lookup ("__class__" : Str) = some .free) (hka : scope.names.lookup ar.arg = some .local) (hk : scope.kind = .function) (hPA : PA X (e :: es) t)
    (hq : ∀ q, H q = none → t σ (upd H q (mwo q a)) fun ws H2 => ws.length ≤ 1000 ∧ H2 q = some (mwo q a) ∧ H2 a = some (exo a C none) ∧ Q .non H2)
    (hs1 : starEach (e :: es) X.env = (false, eval e X.env) :: starEach es X.env) (hpl : (backTo pos (starEach es X.env)).any (·.1) = false)
    (hev : eval (.Call (.Attribute (.Call (.Name "super" p0) [] [] p1) "__init__" apos) (e :: es) [] pos) X.env = (do
      let ov ← attributeBase (.Call (.Name "super" p0) [] [] p1) "__init__" X.env (eval (.Call (.Name "super" p0) [] [] p1) X.env)
      standAt apos.atName
      let (f, first) ← holding [ov] (getMethod ov "__init__" (pure false))
      callWith pos f first (backTo pos (starEach (e :: es) X.env)) [])) :
    PySem.wpAt (model X.prog X.w) X.A (.func body X.env) (eval (.Call (.Attribute (.Call (.Name "super" p0) [] [] p1) "__init__" apos) (e :: es) [] pos) X.env) (EP X pins σ Q) X.xe s := by
  refine PySem.ks_wpAt_MethodCall (pl := pure false) ?_ hev
  have KX := I.kIn
  obtain ⟨oD, hD1, hD2⟩ : ∃ oD, s.heap.get? C = some oD ∧ oD.data = .cls cdD := by
    unfold PySem.W.clsIn at hD
    split at hD
    · rename_i c d cd' sl ho
      cases hD
      exact ⟨_, KX _ _ ho, rfl⟩
    · cases hD
  obtain ⟨t1, ho⟩ := exo_at I.hok ha
  have J : PySem.W.InstAt s.heap a ({ cls := .ref C, dict := none, data := .fields #[.ref t1, .none, .none, .none, .bool false, .none] } : Obj) C none := ⟨ho, rfl, rfl, trivial⟩
  have hks' : X.env.kindOf "super" = some .globalImplicit := by rw [he]; exact hks
  have hkc' : X.env.kindOf "__class__" = some .free := by rw [he]; exact hkc
  have hka' : X.env.kindOf ar.arg = some .local := by rw [he]; exact hka
  have hk' : X.env.scope.kind = .function := by rw [he]; exact hk
  refine PySem.ks_wpAt_super_base hks' hkc' rfl (show X.env.func = some f by rw [he]) (KX _ _ lk) rfl hp (show X.env.code = .ref cda by rw [he]) (KX _ _ hcode) rfl hvs hfile htop ?_
  obtain ⟨mb, b1, b2⟩ := I.mod.blt
  refine PySem.W.ks_loadName_global hk' hks' (Calls.loadGlobal_builtin (by rw [I.ok.glob]; exact I.mod.glob.keeps I.bk) hm (by rw [I.ok.blt]; exact b1.keeps I.bk) ((b2 "super" (by decide)).trans (by first | exact PyProof.Rows.boot_super | exact PySem.boot_super | decide +kernel)) ⟨rfl, ?_⟩)
  have hcl : X.env.cells.lookup ("__class__" : Str) = some cc := by rw [he]; rfl
  refine wpAny_loadName_free hk' hkc' hcl ⟨_, KX _ _ hcell, rfl⟩ ?_
  obtain ⟨m, hn, hlk⟩ := id I.loc
  obtain ⟨u, ru, hlook⟩ := hlk 0 ar.arg (.ref a) hN h0 (by rw [he]; exact .inl hka)
  have hmv : m ar.arg = some u := by
    rcases hlook with ⟨_, h⟩ | ⟨h | h, _⟩
    · exact h
    · rw [hka'] at h; cases h
    · rw [hka'] at h; cases h
  obtain rfl : u = Value.ref a := ru
  refine wpAny_loadName_local hk' hka' hn hmv ?_
  obtain ⟨hh, g, d, tk, os⟩ := s
  refine PySem.ks_wpAny_isType_cls hD1 hD2 ⟨rfl, ?_⟩
  refine PySem.ks_wpAny_call_super hD1 hD2 J.at_ J.cls (fun c e => ?_) (PySem.W.looks_mroIn KX hsub) (fun h' e1 k1 => ?_)
  · have := J.no
    unfold PySem.W.notCls at this
    rw [e] at this
    exact Bool.noConfusion this
  have I1 : Inv X pins σ H ⟨h', g, d, tk, os⟩ := I.kept (t' := tk) k1
  have KX1 := I1.kIn
  have hnx2 := hnx
  unfold PySem.W.ks_superIn at hnx2
  rw [hD] at hnx2
  have J1 : PySem.W.InstAt h' a ({ cls := .ref C, dict := none, data := .fields #[.ref t1, .none, .none, .none, .bool false, .none] } : Obj) C none := ⟨k1 _ _ ho, rfl, rfl, trivial⟩
  refine PySem.W.kxs_getMethod PySem.W.kxs_ValueError e1 (PySem.W.looks_opaque KX1 hany) (l₀ := cdD.mro) ?_ rfl KX1 hnx2 (J1.type.andThen (PySem.W.looks_subIn KX1 hB)) (PySem.W.ks_ne KX1 J1 hD) rfl ?_
  · exact fun A Q E s k q => wpAny_bind ((PySem.W.looks_clsIn KX1 hD) A _ E s k (wpAny_pure q))
  have hnq : H h'.objs.size = none := I1.hok.fresh (Nat.le_refl _)
  have I2 : Inv X pins σ (upd H h'.objs.size (mwo h'.objs.size a)) ⟨h'.push (PySem.W.kxs_mw "ValueError.__init__" a), g, d, tk + 1, os⟩ :=
    I1.laid (t' := tk + 1) (a := h'.objs.size) (o := mwo h'.objs.size a) (fun b u z => Heap.get?_push_of_some _ z) (Nat.le_refl _) (mwo_ok (Heap.get?_push_size h' rfl))
  show wpAny _ _ (callWith pos (.ref h'.objs.size) [] (backTo pos (starEach (e :: es) X.env)) []) _ _ _
  rw [hs1]
  refine PySem.W.kxs_callWith (i := "ValueError.__init__") (x := a) (by show (false || (backTo pos (starEach es X.env)).any (·.1)) = false; rw [hpl]; rfl) ?_
  refine Calls.evalArgs_plain ?_
  have hA := hPA.run pos pins _ σ _ _ I2 (hq _ hnq)
  rw [hs1] at hA
  refine thn hA fun us s3 ⟨ws, H3, I3, r, hwl, hmet, hex, hQ⟩ => ⟨mwo_at I3.hok hmet, ?_⟩
  obtain ⟨nm, q, N, bs, bm, sn, sub, ab, col, dd, k0, k1', k2, k3, k5, hC, hbm⟩ := T.cls
  have hu := mwo_at I3.hok hmet
  obtain ⟨t3, hoe⟩ := exo_at I3.hok hex
  have hlen : us.length ≤ sizeLine := by
    rw [← Paired.length r, sizeLine_eq]
    omega
  have hC3 := I3.kIn _ _ hC
  obtain ⟨hh3, g3, d3, tk3, os3⟩ := s3
  refine wpAny_call (codeAny_of_tree ?_)
  show wpAny _ _ (callAny (.ref h'.objs.size) ⟨us, []⟩) _ _ _
  simp only [callAny]
  refine wpAny_bind (wpAny_load hu ?_)
  simp only [PySem.W.kxs_mw, show (Value.type "method-wrapper" == Value.type "method" || Value.type "method-wrapper" == Value.type "builtin_function_or_method" || Value.type "method-wrapper" == Value.type "method-wrapper") = true by decide, if_true]
  refine PySem.W.KFB.if_so (by decide) ?_
  refine wpAny_bind (PySem.W.check_bound_init F.excBase_ValueError.toExcCallFacts hC3 hoe rfl ?_)
  refine wpAny_bind (wpAny_pure (wpAny_pure ?_))
  refine ⟨plainId_quiet F.excBase_ValueError.init.plain _, codeAny_builtin F.excBase_ValueError.initEntry ?_⟩
  refine PySem.W.exc_init_tree (cls := .ref C) (t0 := t3) (dv := none) (c2 := .none) (c3 := .none) (b4 := .bool false) hoe hlen fun h4 kk hx _ => ?_
  have J4 := I3.write (t' := tk3) (x := a) (e := a) (o := exo a C none) (by rw [hex]; exact True.intro) (.inl rfl) kk ⟨_, hx⟩ (exo_ok hx)
  have eu : upd H3 a (exo a C none) = H3 := by
    funext b
    by_cases hb : b = a
    · rw [hb, upd_same, hex]
    · rw [upd_ne hb]
  rw [eu] at J4
  exact ⟨.non, H3, J4, rfl, hQ⟩
theorem fnSupE {CX : CXT} {P : Program} {w : World} {K : PySem.W.Frag} {mg : Str → Option Value} {base : Heap} {N ps : List Str} {qual : Str} {st : Stmt} {C f : Addr} {k : Nat} {sp : Sp} {p0 p1 apos pos pos2 : Pos} {e : Expr} {es : List Expr} {rest : List Stmt} {ar : Arg}
    (SF : SupE P K qual st C f) (hmsup : mg "super" = none) (hst : C8.fnBody st = .Expr (.Call (.Attribute (.Call (.Name "super" p0) [] [] p1) "__init__" apos) (e :: es) [] pos) pos2 :: rest) (S : ScopeS N ps (C8.fnScope st))
    (har : ((C8.fnArgs st).posonlyargs ++ (C8.fnArgs st).args).head? = some ar) (hN0 : N[0]? = some ar.arg) (hpar : (C8.fnScope st).names.lookup ar.arg = some .local)
    (hb : ∀ (kV doc pm : Value) (an : Option Addr) (cdv ct : Value) (cc : Addr) (us : List Value), us.length = ps.length → bindArgs (PySem.W.ksFn "__init__" qual (C8.fnArgs st) (C8.fnBody st) (C8.fnScope st) .none kV doc pm an cdv ct cc) ⟨us, []⟩ = pure (ps.zip us))
    (len : ∀ vs H Q E, sp vs H Q E → vs.length = ps.length)
    (hs1 : ∀ (L f : Addr) (cd : Value) (cc : Addr), starEach (e :: es) (PySem.W.ksEnv qual (C8.fnScope st) L f cd cc) = (false, eval e (PySem.W.ksEnv qual (C8.fnScope st) L f cd cc)) :: starEach es (PySem.W.ksEnv qual (C8.fnScope st) L f cd cc))
    (hpl : ∀ (L f : Addr) (cd : Value) (cc : Addr), (backTo pos (starEach es (PySem.W.ksEnv qual (C8.fnScope st) L f cd cc))).any (·.1) = false)
    (hev : ∀ (L f : Addr) (cd : Value) (cc : Addr), eval (.Call (.Attribute (.Call (.Name "super" p0) [] [] p1) "__init__" apos) (e :: es) [] pos) (PySem.W.ksEnv qual (C8.fnScope st) L f cd cc) = (do
      let ov ← attributeBase (.Call (.Name "super" p0) [] [] p1) "__init__" (PySem.W.ksEnv qual (C8.fnScope st) L f cd cc) (eval (.Call (.Name "super" p0) [] [] p1) (PySem.W.ksEnv qual (C8.fnScope st) L f cd cc))
      standAt apos.atName
      let (g, first) ← holding [ov] (getMethod ov "__init__" (pure false))
      callWith pos g first (backTo pos (starEach (e :: es) (PySem.W.ksEnv qual (C8.fnScope st) L f cd cc))) []))
    (hsw : ∀ (L f : Addr) (cd : Value) (cc : Addr), swapsWith (.Call (.Attribute (.Call (.Name "super" p0) [] [] p1) "__init__" apos) (e :: es) [] pos) none pos2.line (PySem.W.ksEnv qual (C8.fnScope st) L f cd cc) = pure false)
    (hbody : ∀ (cdv : Value) (cc : Addr) (A : Around) (outer : List Env) (s : Shared) (H : Hp) (vs : List V) (Q : VK) (E : XK), Room k (A.deeper (PySem.W.ksEnv qual (C8.fnScope st) s.heap.objs.size f cdv cc)) → sp vs H Q E →
      ∃ (t : TA) (u : TS) (a : Addr) (vs' : List V), PA (cxS CX P w K mg base N qual (C8.fnScope st) f cdv cc A outer s H E) (e :: es) t ∧ PSs (cxS CX P w K mg base N qual (C8.fnScope st) f cdv cc A outer s H E) rest u ∧ vs = .ref a :: vs' ∧ H a = some (exo a C none) ∧
        ∀ q, H q = none → t (L2.start N vs) (upd H q (mwo q a)) fun ws H2 => ws.length ≤ 1000 ∧ H2 q = some (mwo q a) ∧ H2 a = some (exo a C none) ∧ u { nx := fun _ H' => Q .non H', rt := Q } (L2.start N vs) H2) :
    ∃ fd : FuncData, FnOk P w K mg base CX (k + 1) f fd ps sp ∧ Binds K fd ps [] := by
  obtain ⟨oc, od, kV, doc, pm, an, cda, ct, cc, osl, ccl, cdd, vs0, ccs, file, tf, cl, cld, csl, lk, hcd, hcode, hvs, hfile, hcell⟩ := SF.ex
  obtain ⟨cdD, hD⟩ := SF.cls
  refine ⟨_, ⟨len, fun A outer s H args us vs Q E hr e0 hb' r hsp => ?_⟩, Binds.all fun us hl => hb kV doc pm an (.ref cda) ct cc us hl⟩
  have hl := len _ _ _ _ hsp
  have hlu : us.length = ps.length := by rw [← r.length, hl]
  have KX : K.In s.heap := e0.mod.kin.keeps fun b o e => (e0.bs b o e).1
  have lim : s.heap.NoLimit := e0.mod.nolimit.keeps fun b o e => (e0.bs b o e).1
  refine PySem.ks_codeAny_call_defAt (fd := PySem.W.ksFn "__init__" qual (C8.fnArgs st) (C8.fnBody st) (C8.fnScope st) .none kV doc pm an (.ref cda) ct cc) (body := C8.fnBody st) (binds := ps.zip us) hr.depth (KX _ _ lk) rfl lim (PySem.W.codeRec_of KX hcd) rfl hb' S.nocell (fun y hy => S.par y.1 (List.of_mem_zip hy).1) (fun h₁ hns hk₁ => ?_) S.co S.gen S.kind
  obtain ⟨t, u, a, vs', hPA, hPS, hvs1, ha, hq⟩ := hbody (.ref cda) cc A outer s H vs Q E (hr.deeper _) hsp
  have I : Inv (cxS CX P w K mg base N qual (C8.fnScope st) f (.ref cda) cc A outer s H E) [] (L2.start N vs) H { s with heap := h₁, toks := s.toks + (ps.zip us).length } := inv_startS S hr.hd e0 hl r hcell hns hk₁
  have fin : ∀ {σ' : L2.St} {H' : Hp} {v : V} {u : Value} {s' : Shared}, Inv (cxS CX P w K mg base N qual (C8.fnScope st) f (.ref cda) cc A outer s H E) [] σ' H' s' → RelV v u → Q v H' → CE outer P w H s Q u s' :=
    fun {σ' H' v u s'} J rv q => ⟨v, H', J.os, J.bare, J.base, J.hok, rv, q⟩
  rw [hst]
  refine PySem.ks_wpAt_execs_cons ?_
  refine PySem.ks_wpAt_Expr_any ?_ (by show interactive _ = false; exact I.quiet) (hsw _ _ _ _)
  refine PySem.wpAt_mono (sup_exc (X := cxS CX P w K mg base N qual (C8.fnScope st) f (.ref cda) cc A outer s H E) (p0 := p0) (p1 := p1) (apos := apos) (pos := pos) (e := e) (es := es) (t := t) (Q := fun _ H3 => u { nx := fun _ H' => Q .non H', rt := Q } (L2.start N vs) H3) rfl I (ar := ar) hN0 (by rw [hvs1]; rfl) ha lk har hcode hvs hfile hcell hD SF.sub hmsup SF.top SF.any SF.nxt SF.sb SF.oex S.sup S.cls hpar S.kind hPA hq (hs1 _ _ _ _) (hpl _ _ _ _) (hev _ _ _ _)) (fun v s2 hv => ?_) fun _ _ x => x
  obtain ⟨v', H3, I3, _, q3⟩ := hv
  refine PySem.wpAt_of_wpAny (wpAny_mono (hPS.run [] s2 _ H3 _ I3 q3) (fun fl s' hs => ?_) fun _ _ x => x)
  cases fl with
  | ret u =>
    obtain ⟨v, σ', H', J, rv, q⟩ := hs
    exact fin J rv q
  | next =>
    obtain ⟨σ', H', J, q⟩ := hs
    exact fin (v := V.non) (u := Value.none) J rfl q
  | brk =>
    obtain ⟨_, _, _, q⟩ := hs
    exact False.elim q
  | cont =>
    obtain ⟨_, _, _, q⟩ := hs
    exact False.elim q
theorem digs : ∀ n : Nat, n < 1001 → ((toString (n : Int) : String) : Str).length ≤ 10 := by decide +kernel
def spRef (C : Addr) : Sp := fun vs H Q _ => ∃ (a : Addr) (wd : Str) (n : Nat), vs = [.ref a, .str wd, .int n] ∧ wd.length ≤ 100 ∧ n ≤ 1000 ∧ H a = some (exo a C none) ∧
  ∀ q dx, H q = none → H dx = none → dx ≠ q → Q .non (upd (upd (upd (upd H q (mwo q a)) dx (exd dx [("word", .str wd)])) a (exo a C (some dx))) dx (exd dx [("number", .int n), ("word", .str wd)]))
structure RefC (P : Program) (w : World) (K : PySem.W.Frag) (mg : Str → Option Value) (base : Heap) (x : Str) (C : Addr) : Prop where
  oex : OexC K C
  ex : ∃ (fI : Addr) (fd : FuncData) (ps : List Str), PySem.W.findIn K (.ref C) "__init__" = some (some (.ref fI)) ∧ PySem.W.typeIn K (.ref fI) = some (.type "function") ∧ FnOk P w K mg base C8.CX0 1 fI fd ps (spRef C) ∧ Binds K fd ps []
  mgC : mg x = some (.ref C)
end DL
namespace DL
open PySem PySem.Spec PyProof.Rows L2
structure CatC (K : PySem.W.Frag) (C : Addr) (fs : List Str) : Prop where
  xf : XfC K C
  one : PySem.W.exmOne K (.ref C) (.ref C) = some true
  no : ∀ f ∈ fs, PySem.W.findIn K (.ref C) f = some none
end DL
namespace DL
open PySem PySem.Spec PyProof.Rows L2
structure ReIn (P : Program) (K : PySem.W.Frag) (x qual : Str) (st : Stmt) (names : List Str) : Prop where
  ex : ∃ (C f : Addr), PySem.W.nsIn K mainGlobals x = some (some (.ref C)) ∧ SupE P K qual st C f ∧ PySem.W.findIn K (.ref C) "__init__" = some (some (.ref f)) ∧ PySem.W.typeIn K (.ref f) = some (.type "function") ∧ CatC K C names ∧ PySem.W.nsIn K mainGlobals "super" = some none
structure ReDf (P : Program) (K : PySem.W.Frag) (mg : Str → Option Value) (x qual : Str) (st : Stmt) (names : List Str) (C : Addr) : Prop where
  ex : ∃ (f : Addr), SupE P K qual st C f ∧ PySem.W.findIn K (.ref C) "__init__" = some (some (.ref f)) ∧ PySem.W.typeIn K (.ref f) = some (.type "function")
  cat : CatC K C names
  mgC : mg x = some (.ref C)
  sup : mg "super" = none
theorem ReIn.df {P : Program} {K : PySem.W.Frag} {x qual : Str} {st : Stmt} {names : List Str} {h : Heap} {mg : Str → Option Value} (D : ReIn P K x qual st names) (X : K.In h) (G : h.Ns mainGlobals mg) : ∃ C, ReDf P K mg x qual st names C := by
  obtain ⟨C, f, a, s, i, t, c, ns⟩ := D.ex
  exact ⟨C, ⟨f, s, i, t⟩, c, PySem.W.mg_of X G a, PySem.W.mg_none_of X G ns⟩
theorem no_nil {K : PySem.W.Frag} {C : Addr} : ∀ f ∈ ([] : List Str), PySem.W.findIn K (.ref C) f = some none := fun _ h => nomatch h
theorem no_cons {K : PySem.W.Frag} {C : Addr} {n : Str} {ns : List Str} (h : PySem.W.findIn K (.ref C) n = some none) (g : ∀ f ∈ ns, PySem.W.findIn K (.ref C) f = some none) : ∀ f ∈ n :: ns, PySem.W.findIn K (.ref C) f = some none := fun f hf => by
  rcases List.mem_cons.mp hf with e | e
  · rw [e]; exact h
  · exact g f e
theorem exm_self {K : PySem.W.Frag} {C : Addr} {cd : ClassData} (hD : PySem.W.clsIn K C = some cd) (tyC : PySem.W.typeIn K (.ref C) = some (.type "type")) (exC : PySem.W.subIn K (.ref C) (.type "BaseException") = some true) (sC : PySem.W.subIn K (.ref C) (.ref C) = some true) : PySem.W.exmOne K (.ref C) (.ref C) = some true := by
  unfold PySem.W.exmOne
  rw [exC]
  show (if (some true == some true) = true then PySem.W.kitCls K (.ref C) (.ref C) else none) = _
  rw [if_pos (show ((some true : Option Bool) == some true) = true by decide)]
  unfold PySem.W.kitCls
  dsimp only
  rw [hD, tyC, sC]
  simp
theorem reI {P : Program} {K : PySem.W.Frag} {x qual : Str} {st : Stmt} {names : List Str} {C f : Addr} {nm q : Str} {N : Addr} {bs bm : List Value} {sn : List Str} {sub : List Value} {ab : Bool} {col : Option Bool} {dd : Option Addr} {k0 k1 k2 k3 k5 : Option Value}
    {oc : Value} {od : Option Addr} {kV doc pm : Value} {an : Option Addr} {cda : Addr} {ct : Value} {cc : Addr} {osl : Array (Option Value)} {ccl : Value} {cdd : Option Addr} {vs : Array Value} {ccs : Array (Option Value)} {file : Str} {tf : Tok} {cl : Value} {cld : Option Addr} {csl : Array (Option Value)} {cdD : ClassData}
    (a : PySem.W.nsIn K mainGlobals x = some (some (.ref C))) (lkC : K.lookup C = some (excClassObj nm q C N bs bm true sn sub ab col dd k0 k1 k2 k3 k5 "ValueError.__new__")) (rf : PySem.HandSPX.refsVE bm = true) (sa : PySem.W.findIn K (.ref C) "__setattr__" = some (some (.builtin "object.__setattr__")))
    (exC : PySem.W.subIn K (.ref C) (.type "BaseException") = some true) (tyC : PySem.W.typeIn K (.ref C) = some (.type "type")) (kC : PySem.W.keepIn K (.ref C) = true) (iC : PySem.W.findIn K (.ref C) "__init__" = some (some (.ref f))) (tI : PySem.W.typeIn K (.ref f) = some (.type "function"))
    (ga : PySem.W.findIn K (.ref C) "__getattribute__" = some (some (.builtin "BaseException.__getattribute__"))) (gg : PySem.W.findIn K (.ref C) "__getattr__" = some none) (hdC : PySem.W.hasDictIn K C = true) (sC : PySem.W.subIn K (.ref C) (.ref C) = some true) (no : ∀ f ∈ names, PySem.W.findIn K (.ref C) f = some none)
    (lk : K.lookup f = some ⟨oc, od, .func (PySem.W.ksFn "__init__" qual (C8.fnArgs st) (C8.fnBody st) (C8.fnScope st) .none kV doc pm an (.ref cda) ct cc), osl⟩) (hcd : PySem.W.codeIn K (.ref cda) qual = true) (hcode : K.lookup cda = some ⟨ccl, cdd, .fields vs, ccs⟩) (hvs : vs[2]? = some (.str file tf))
    (hfile : ((P.main.file : Str) == file) = true) (hcell : K.lookup cc = some ⟨cl, cld, .cell (some (.ref C)), csl⟩) (hD : PySem.W.clsIn K C = some cdD) (hsub : PySem.W.mroIn K C (.ref C) = some true) (htop : (P.main.scope.names.lookup ("super" : Str)).isSome = false) (hany : PySem.W.nsIn K cStatics "thirdparty.any" = some none)
    (hnx : PySem.W.ks_superIn K C C "__init__" = some (some (.builtin "ValueError.__init__"))) (sb : PySem.W.subIn K (.ref C) (.type "ValueError") = some true) (ns : PySem.W.nsIn K mainGlobals "super" = some none) : ReIn P K x qual st names :=
  ⟨C, f, a, ⟨⟨oc, od, kV, doc, pm, an, cda, ct, cc, osl, ccl, cdd, vs, ccs, file, tf, cl, cld, csl, lk, hcd, hcode, hvs, hfile, hcell⟩, ⟨cdD, hD⟩, hsub, htop, hany, hnx, sb, ⟨⟨nm, q, N, bs, bm, sn, sub, ab, col, dd, k0, k1, k2, k3, k5, lkC, rf⟩, sa, exC, tyC, kC⟩⟩, iC, tI, ⟨⟨ga, gg, exC, hdC⟩, exm_self hD tyC exC sC, no⟩, ns⟩
end DL
namespace DL
open PySem PySem.Spec PyProof.Rows L2
end DL
namespace DL
open PySem PySem.Spec PyProof.Rows L2
def refD (rf : Rf) : D := .tup [.str "refused", .str rf.word, .int rf.num]
end DL
namespace DL
open PySem PySem.Spec PyProof.Rows L2
end DL
namespace DL
open PySem PySem.Spec PyProof.Rows L2
def refuW (b m : Int) (e : D) (tail : List D) : Option Str := match tail with
  | [] => some "short"
  | e' :: _ => match entOfD e' with
    | none => some "form"
    | some (k, r, x, y) => match entOfD e with
      | none => none
      | some (k0, r0, x0, y0) => if (linkOf b m k r x y).d = (linkOf b m k0 r0 x0 y0).d then (if eqD (linkD (linkOf b m k r x y)) (linkD (linkOf b m k0 r0 x0 y0)) then none else some "sums") else some "digest"
structure Sim {α : Type} (b m : Int) (fk fg : SrcS → Except Rf (α × SrcS)) (a : α) (w : List D) : Prop where
  kn : ∀ es, fk (.kn es) = .ok (a, .kn (es ++ w))
  gv : ∀ (cs : List D) (k : Nat) (post : List D), cs.drop k = w ++ post → fg (.gv cs k) = .ok (a, .gv cs (k + w.length))
  bad : ∀ (cs : List D) (k : Nat) (p : List D) (e : D) (w' tail : List D) (wd : Str), w = p ++ e :: w' → cs.drop k = p ++ tail → refuW b m e tail = some wd → fg (.gv cs k) = .error ⟨wd, ((k + p.length : Nat) : Int)⟩
theorem Sim.pure {α : Type} {b m : Int} (a : α) : Sim b m (fun st => .ok (a, st)) (fun st => .ok (a, st)) a [] :=
  ⟨fun es => by rw [List.append_nil], fun cs k post _ => rfl, fun cs k p e w' tail wd h => by cases p <;> cases h⟩
theorem drop_more {α : Type} {cs w post : List α} {k : Nat} (h : cs.drop k = w ++ post) : cs.drop (k + w.length) = post := by
  rw [← List.drop_drop, h, List.drop_left]
theorem Sim.bnd {α β : Type} {b m : Int} {fk fg : SrcS → Except Rf (α × SrcS)} {gk gg : α → SrcS → Except Rf (β × SrcS)} {a : α} {c : β} {w v : List D} (h : Sim b m fk fg a w) (g : Sim b m (gk a) (gg a) c v) : Sim b m (fun st => DL.bnd (fk st) gk) (fun st => DL.bnd (fg st) gg) c (w ++ v) := by
  refine ⟨fun es => ?_, fun cs k post hd => ?_, fun cs k p e w' tail wd hw hd hr => ?_⟩
  · show DL.bnd (fk (.kn es)) gk = _
    rw [h.kn]
    show gk a (.kn (es ++ w)) = _
    rw [g.kn, List.append_assoc]
  · show DL.bnd (fg (.gv cs k)) gg = _
    rw [List.append_assoc] at hd
    rw [h.gv cs k _ hd]
    show gg a (.gv cs (k + w.length)) = _
    rw [g.gv cs _ post (drop_more hd), List.length_append, Nat.add_assoc]
  · show DL.bnd (fg (.gv cs k)) gg = _
    rcases List.append_eq_append_iff.mp hw with ⟨p2, e1, e2⟩ | ⟨w2, e1, e2⟩
    · subst e1
      rw [List.append_assoc] at hd
      rw [h.gv cs k _ hd]
      show gg a (.gv cs (k + w.length)) = _
      rw [g.bad cs _ p2 e w' tail wd e2 (drop_more hd) hr, List.length_append, Nat.add_assoc]
    · cases w2 with
      | nil =>
        rw [List.append_nil] at e1
        subst e1
        rw [h.gv cs k _ hd]
        show gg a (.gv cs (k + w.length)) = _
        rw [g.bad cs _ [] e w' tail wd e2.symm (drop_more hd) hr]
        rfl
      | cons z w2 =>
        rw [List.cons_append] at e2
        injection e2 with e3 e4
        subst e3
        rw [h.bad cs k p e w2 tail wd e1 hd hr]
        rfl
structure nnL (l : Link) : Prop where
  d : 0 ≤ l.d
  n : 0 ≤ l.n
  a : 0 ≤ l.a
  b : 0 ≤ l.b
  c : 0 ≤ l.c
end DL
namespace DL
open PySem PySem.Spec PyProof.Rows L2
theorem cellI_nn {r : List Int} (h : isRow r) (k : Nat) : 0 ≤ cellI r k := by
  unfold cellI
  rw [List.getD_eq_getElem?_getD]
  cases e : r[k]? with
  | none => exact Int.le_refl 0
  | some i => exact (h.2.2 i (List.mem_of_getElem? e)).1
theorem linkT_nn {b m : Int} (hr : isRule b m) : ∀ {t : Tr}, okTr t → nnL (linkT b m t)
  | .nil, _ => ⟨(dig_range hr _).1, Int.le_refl 0, Int.le_refl 0, Int.le_refl 0, Int.le_refl 0⟩
  | .node k r x y, h => by
    have hx := linkT_nn hr h.2.2.1
    have hy := linkT_nn hr h.2.2.2
    have c0 := cellI_nn h.2.1 0
    have c1 := cellI_nn h.2.1 1
    have c2 := cellI_nn h.2.1 2
    refine ⟨(dig_range hr _).1, ?_, ?_, ?_, ?_⟩
    · show 0 ≤ 1 + (linkT b m x).n + (linkT b m y).n
      have := hx.n; have := hy.n; omega
    · show 0 ≤ cellI r 0 + (linkT b m x).a + (linkT b m y).a
      have := hx.a; have := hy.a; omega
    · show 0 ≤ cellI r 1 + (linkT b m x).b + (linkT b m y).b
      have := hx.b; have := hy.b; omega
    · show 0 ≤ cellI r 2 + (linkT b m x).c + (linkT b m y).c
      have := hx.c; have := hy.c; omega
section
variable {b m : Int} (hr : isRule b m)
include hr
theorem Sim.seq {α β : Type} {fk fg : SrcS → Except Rf (α × SrcS)} {gk gg : α → SrcS → Except Rf (β × SrcS)} (h : ∃ a w, Sim b m fk fg a w) (g : ∀ a, ∃ c v, Sim b m (gk a) (gg a) c v) : ∃ c v, Sim b m (fun st => DL.bnd (fk st) gk) (fun st => DL.bnd (fg st) gg) c v := by
  obtain ⟨a, w, h⟩ := h
  obtain ⟨c, v, g⟩ := g a
  exact ⟨_, _, h.bnd g⟩
end
end DL
namespace DL
open PySem PySem.Spec PyProof.Rows L2
end DL
namespace DL
open PySem PySem.Spec PyProof.Rows L2
end DL
namespace DL
open PySem PySem.Spec PyProof.Rows L2
def isEn (e : D) : Prop := ∃ (k : Str) (r : List Int) (x y : Link), e = entD k r x y ∧ isKey k ∧ isRow r ∧ nnL x ∧ nnL y
def isEnL (ds : List D) : Prop := ∀ e ∈ ds, isEn e
end DL
namespace DL
open PySem PySem.Spec PyProof.Rows L2
theorem isEnL.cut {ds : List D} (h : isEnL ds) (lo hi : Option Int) : isEnL (cutL ds lo hi) := fun e he => h e (cut_mem he)
theorem isEnL.app {a b : List D} (h : isEnL a) (g : isEnL b) : isEnL (a ++ b) := fun e he => (List.mem_append.mp he).elim (h e) (g e)
theorem isEnL.one {e : D} (h : isEn e) : isEnL [e] := fun x hx => by rw [List.mem_singleton.mp hx]; exact h
structure TurnI (S : Sto) (n : Nat) (ms : List D) (most : Nat) : Prop where
  at_ : S[n]? = some (.lst (ms.map W.fz))
  en : isEnL ms
  len : ms.length ≤ most
end DL
namespace DL
open PySem PySem.Spec PyProof.Rows L2
def vdV (n : Nat) (d : D) : Prop := plB d = true ∧ okD n d = true
def vdL (n : Nat) (ds : List D) : Prop := ds.length ≤ 1000 ∧ ∀ d ∈ ds, vdV n d
theorem okDL_iff {n : Nat} : ∀ {ds : List D}, okDL n ds = true ↔ ∀ d ∈ ds, okD n d = true
  | [] => ⟨(fun _ _ h => by cases h), fun _ => rfl⟩
  | d :: ds => by
    have e : okDL n (d :: ds) = (okD n d && okDL n ds) := rfl
    rw [e, Bool.and_eq_true, okDL_iff]
    refine ⟨fun h x hx => ?_, fun h => ⟨h d List.mem_cons_self, fun x hx => h x (List.mem_cons_of_mem _ hx)⟩⟩
    rcases List.mem_cons.mp hx with e | e
    · rw [e]; exact h.1
    · exact h.2 x e
theorem vdV.tup {n : Nat} {ds : List D} (h : vdL n ds) : vdV (n + 1) (.tup ds) := by
  refine ⟨?_, okDL_iff.mpr fun d hd => (h.2 d hd).2⟩
  show (decide (ds.length ≤ 1000) && plBL ds) = true
  rw [decide_eq_true h.1, plBL_iff.mpr fun d hd => (h.2 d hd).1]
  rfl
mutual
theorem okD_mn : ∀ (d : D) (n : Nat), okD n d = true → okD (n + 1) d = true
  | .non, n, _ => by cases n <;> rfl
  | .bl _, n, _ => by cases n <;> rfl
  | .int _, n, _ => by cases n <;> rfl
  | .str x, n, h => by cases n <;> exact h
  | .tup ds, 0, h => by cases h
  | .tup ds, n + 1, h => okDL_mn ds n h
  | .lst ds, 0, h => by cases h
  | .lst ds, n + 1, h => okDL_mn ds n h
  | .obj _ _, n, h => by cases n <;> cases h
  | .scr _, n, h => by cases n <;> cases h
  | .ty _, n, h => by cases n <;> cases h
theorem okDL_mn : ∀ (ds : List D) (n : Nat), okDL n ds = true → okDL (n + 1) ds = true
  | [], _, _ => rfl
  | d :: ds, n, h => by
    have h : (okD n d && okDL n ds) = true := h
    rw [Bool.and_eq_true] at h
    show (okD (n + 1) d && okDL (n + 1) ds) = true
    rw [okD_mn d n h.1, okDL_mn ds n h.2]
    rfl
end
theorem okD_le {d : D} {n k : Nat} (h : okD n d = true) (hk : n ≤ k) : okD k d = true := by
  obtain ⟨j, rfl⟩ := Nat.exists_eq_add_of_le hk
  clear hk
  induction j with
  | zero => exact h
  | succ j ih => exact okD_mn d _ ih
theorem vdV.le {d : D} {n k : Nat} (h : vdV n d) (hk : n ≤ k) : vdV k d := ⟨h.1, okD_le h.2 hk⟩
theorem vdV.int (n : Nat) (i : Int) : vdV n (.int i) := ⟨rfl, by cases n <;> rfl⟩
theorem vdV.non (n : Nat) : vdV n .non := ⟨rfl, by cases n <;> rfl⟩
theorem vdV.bl (n : Nat) (b : Bool) : vdV n (.bl b) := ⟨rfl, by cases n <;> rfl⟩
theorem vdV.str (n : Nat) {x : Str} (h : PyData.strOk x = true) (hl : x.length ≤ 1000) : vdV n (.str x) := ⟨by show (PyData.strOk x && decide (x.length ≤ 1000)) = true; rw [h, decide_eq_true hl]; rfl, ok_str h⟩
theorem vdL.nil (n : Nat) : vdL n [] := ⟨Nat.zero_le _, fun _ h => nomatch h⟩
theorem vdL.of {n : Nat} {ds : List D} (h : ∀ d ∈ ds, vdV n d) (hl : ds.length ≤ 1000) : vdL n ds := ⟨hl, h⟩
end DL
namespace DL
open PySem PySem.Spec PyProof.Rows L2
section
variable {b m : Int} (hr : isRule b m)
include hr
end
end DL
namespace DL
open PySem PySem.Spec PyProof.Rows L2
end DL
namespace DL
open PySem PySem.Spec PyProof.Rows L2
def clashE (b m : Int) (x g : D) : D := match entOfD x, entOfD g with
  | some (k, r, u, v), some (k', r', u', v') => if dig b m (nodeD k r u v) = dig b m (nodeD k' r' u' v') then .tup [x, g] else .non
  | _, _ => .non
def clashL (b m : Int) : List D → List D → D
  | x :: hs, g :: gs => if eqD x g then clashL b m hs gs else clashE b m x g
  | [], _ => .non
  | _ :: _, [] => .non
def lcOk : List D → List D → Prop
  | x :: hs, g :: gs => if eqD x g then lcOk hs gs else (entOfD g).isSome = true
  | [], _ => True
  | _ :: _, [] => True
end DL
namespace DL
open PySem PySem.Spec PyProof.Rows L2
structure Pre2 (b m : Int) (p p2 : List D) : Prop where
  len : p.length = p2.length
  cl : ∀ a c, clashL b m (p ++ a) (p2 ++ c) = clashL b m a c
  lc : ∀ a c, lcOk a c → lcOk (p ++ a) (p2 ++ c)
theorem Pre2.nil (b m : Int) : Pre2 b m [] [] := ⟨rfl, fun _ _ => rfl, fun _ _ h => h⟩
end DL
namespace DL
open PySem PySem.Spec PyProof.Rows L2
end DL
namespace DL
open PySem PySem.Spec PyProof.Rows L2
end DL
namespace DL
open PySem PySem.Spec PyProof.Rows L2
inductive PA where
  | un (l : Link) (t : Option Tr)
  | op (l : Link) (t : Option Tr) (k : Str) (r : List Int) (x y : PA)
def PA.l : PA → Link
  | .un l _ => l
  | .op l _ _ _ _ _ => l
def PA.t : PA → Option Tr
  | .un _ t => t
  | .op _ t _ _ _ _ => t
def szO : Option Tr → Nat
  | none => 0
  | some t => t.size
def PA.sz : PA → Nat
  | .un _ t => szO t
  | .op _ _ _ _ x y => x.sz + y.sz + 1
def PA.unz : PA → Nat
  | .un _ t => szO t
  | .op _ _ _ _ x y => x.unz + y.unz
def okU (b m : Int) : Bool → Link → Option Tr → Prop
  | true, l, some t => l = linkT b m t ∧ okTr t
  | true, l, none => l.n = 0
  | false, l, none => 0 ≤ l.n
  | false, _, some _ => False
def okA (b m : Int) (q : Bool) : PA → Prop
  | .un l t => okU b m q l t
  | .op _ _ k r x y => isKey k ∧ isRow r ∧ okA b m q x ∧ okA b m q y
def rem : SrcS → Nat
  | .kn _ => 0
  | .gv cs n => cs.length - n
def okP : SrcS → Nat → Prop
  | .kn es, U => es.length + U ≤ 900
  | .gv cs n, _ => cs.length ≤ 900 ∧ n ≤ cs.length ∧ plBL cs = true
def Aft : SrcS → SrcS → Nat → Nat → Prop
  | .kn es, .kn fs, U, V => es.length ≤ fs.length ∧ fs.length + V ≤ es.length + U
  | .gv cs n, .gv ds k, _, _ => ds = cs ∧ n ≤ k ∧ k ≤ cs.length
  | _, _, _, _ => False
theorem okP.le {st : SrcS} {U V : Nat} (h : okP st U) (l : V ≤ U) : okP st V := by
  cases st with
  | kn es => exact Nat.le_trans (Nat.add_le_add_left l _) h
  | gv cs n => exact h
theorem Aft.okP {st st' : SrcS} {U V : Nat} (a : Aft st st' U V) (h : DL.okP st U) : DL.okP st' V := by
  cases st <;> cases st'
  · exact Nat.le_trans a.2 h
  · exact a.elim
  · exact a.elim
  · obtain ⟨rfl, _, a⟩ := a
    exact ⟨h.1, a, h.2.2⟩
theorem Aft.refl {st : SrcS} {U V : Nat} (h : DL.okP st U) (l : V ≤ U) : Aft st st U V := by
  cases st with
  | kn es => exact ⟨Nat.le_refl _, Nat.add_le_add_left l _⟩
  | gv cs n => exact ⟨rfl, Nat.le_refl _, h.2.1⟩
theorem Aft.trans {st st1 st2 : SrcS} {U V Y : Nat} (a : Aft st st1 U V) (c : Aft st1 st2 V Y) : Aft st st2 U Y := by
  cases st <;> cases st1 <;> cases st2 <;> first | exact a.elim | exact c.elim | skip
  · exact ⟨Nat.le_trans a.1 c.1, Nat.le_trans c.2 a.2⟩
  · obtain ⟨rfl, a1, a2⟩ := a
    obtain ⟨rfl, c1, c2⟩ := c
    exact ⟨rfl, Nat.le_trans a1 c1, c2⟩
theorem Aft.le {st st1 : SrcS} {U V U' V' : Nat} (a : Aft st st1 U V) (h1 : U ≤ U') (h2 : V' ≤ V) : Aft st st1 U' V' := by
  cases st <;> cases st1 <;> first | exact a.elim | skip
  · exact ⟨a.1, by have := a.2; omega⟩
  · exact a
theorem Aft.kind {st st1 : SrcS} {U V : Nat} (a : Aft st st1 U V) : st1.isKn = st.isKn := by
  cases st <;> cases st1 <;> first | exact a.elim | rfl
theorem Aft.rem {st st1 : SrcS} {U V : Nat} (a : Aft st st1 U V) : DL.rem st1 ≤ DL.rem st := by
  cases st <;> cases st1 <;> first | exact a.elim | skip
  · exact Nat.le_refl _
  · obtain ⟨rfl, a1, a2⟩ := a
    show _ - _ ≤ _ - _
    omega
abbrev OpA := Str × List Int × PA × PA
def opA (b m : Int) (st : SrcS) : PA → Except Rf (OpA × SrcS)
  | .op _ _ k r x y => .ok ((k, r, x, y), st)
  | .un l t => bnd (opn b m st ⟨l, t⟩) fun o st' => .ok ((o.1, o.2.1, .un o.2.2.1.l o.2.2.1.t, .un o.2.2.2.l o.2.2.2.t), st')
def opd (pa : PA) (o : OpA) : PA := .op pa.l pa.t o.1 o.2.1 o.2.2.1 o.2.2.2
theorem okU.okS {b m : Int} {st : SrcS} {l : Link} {t : Option Tr} (h : okU b m st.isKn l t) (p : okP st (szO t)) (n : l.n ≠ 0) : okS b m st ⟨l, t⟩ := by
  cases st with
  | kn es =>
    cases t with
    | none => exact absurd h n
    | some t => exact ⟨by have : es.length + t.size ≤ 900 := p; omega, t, rfl, h.1, h.2, p⟩
  | gv cs k =>
    cases t with
    | none => exact ⟨p, rfl, h⟩
    | some t => exact h.elim
structure OpOk (b m : Int) (st st' : SrcS) (pa : PA) (o : OpA) : Prop where
  key : isKey o.1
  row : isRow o.2.1
  x : okA b m st'.isKn o.2.2.1
  y : okA b m st'.isKn o.2.2.2
  aft : Aft st st' pa.unz (o.2.2.1.unz + o.2.2.2.unz)
  sz : rem st' + (o.2.2.1.sz + o.2.2.2.sz + 1) ≤ rem st + pa.sz
theorem OpOk.opd {b m : Int} {st st' : SrcS} {pa : PA} {o : OpA} (h : OpOk b m st st' pa o) : okA b m st'.isKn (DL.opd pa o) := ⟨h.key, h.row, h.x, h.y⟩
def emp (b m : Int) : PA := .un (link0 b m) none
def mkA (b m : Int) (k : Str) (r : List Int) (x y : PA) : PA := .op (linkOf b m k r x.l y.l) none k r x y
abbrev SplR := PA × Option (List Int) × PA
def mSplit (b m : Int) : Nat → SrcS → PA → Str → Except Rf (SplR × SrcS)
  | 0, st, _, _ => .ok ((emp b m, none, emp b m), st)
  | f + 1, st, pa, key => if pa.l.n = 0 then .ok ((emp b m, none, emp b m), st) else bnd (opA b m st pa) fun o st1 =>
    if key = o.1 then .ok ((o.2.2.1, some o.2.1, o.2.2.2), st1)
    else if strLt key o.1 then bnd (mSplit b m f st1 o.2.2.1 key) fun q st2 => .ok ((q.1, q.2.1, mkA b m o.1 o.2.1 q.2.2 o.2.2.2), st2)
    else bnd (mSplit b m f st1 o.2.2.2 key) fun q st2 => .ok ((mkA b m o.1 o.2.1 o.2.2.1 q.1, q.2.1, q.2.2), st2)
def mMerge (b m : Int) : Nat → SrcS → PA → PA → Except Rf (PA × SrcS)
  | 0, st, one, _ => .ok (one, st)
  | f + 1, st, one, two => if one.l.n = 0 then .ok (two, st) else if two.l.n = 0 then .ok (one, st) else bnd (opA b m st one) fun o st1 => bnd (opA b m st1 two) fun u st2 =>
    if outB o.1 u.1 then bnd (mMerge b m f st2 o.2.2.2 (opd two u)) fun r st3 => .ok (mkA b m o.1 o.2.1 o.2.2.1 r, st3)
    else bnd (mMerge b m f st2 (opd one o) u.2.2.1) fun r st3 => .ok (mkA b m u.1 u.2.1 r u.2.2.2, st3)
def mPut (b m : Int) : Nat → SrcS → PA → Str → List Int → Except Rf (PA × SrcS)
  | 0, st, pa, _, _ => .ok (pa, st)
  | f + 1, st, pa, key, row => if pa.l.n = 0 then .ok (mkA b m key row (emp b m) (emp b m), st) else bnd (opA b m st pa) fun o st1 =>
    if key = o.1 then .ok (mkA b m key row o.2.2.1 o.2.2.2, st1)
    else if outB key o.1 then bnd (mSplit b m (f + 1) st1 (opd pa o) key) fun q st2 => .ok (mkA b m key row q.1 q.2.2, st2)
    else if strLt key o.1 then bnd (mPut b m f st1 o.2.2.1 key row) fun r st2 => .ok (mkA b m o.1 o.2.1 r o.2.2.2, st2)
    else bnd (mPut b m f st1 o.2.2.2 key row) fun r st2 => .ok (mkA b m o.1 o.2.1 o.2.2.1 r, st2)
def mRem (b m : Int) : Nat → SrcS → PA → Str → Except Rf (PA × SrcS)
  | 0, st, pa, _ => .ok (pa, st)
  | f + 1, st, pa, key => if pa.l.n = 0 then .ok (pa, st) else bnd (opA b m st pa) fun o st1 =>
    if key = o.1 then mMerge b m (f + 1) st1 o.2.2.1 o.2.2.2
    else if strLt key o.1 then bnd (mRem b m f st1 o.2.2.1 key) fun r st2 => .ok (mkA b m o.1 o.2.1 r o.2.2.2, st2)
    else bnd (mRem b m f st1 o.2.2.2 key) fun r st2 => .ok (mkA b m o.1 o.2.1 o.2.2.1 r, st2)
def mChg (b m : Int) (f : Nat) (st : SrcS) (pa : PA) : Ch → Except Rf (PA × SrcS)
  | .put k r => mPut b m f st pa k r
  | .rem k => mRem b m f st pa k
def At (c : Cs) (b m : Int) (S : Sto) : PA → Nat → List Nat → Prop
  | .un l t, p, fp => fp = [p] ∧ S[p]? = some (.ins c.P [("link", .fz (linkD l)), ("tree", .fz (trD c.T b m t)), ("node", .fz .non)])
  | .op l t k r x y, p, fp => ∃ nd px py fx fy, fp = p :: nd :: (fx ++ fy) ∧ S[p]? = some (.ins c.P [("link", .fz (linkD l)), ("tree", .fz (trD c.T b m t)), ("node", .hd nd)]) ∧
    S[nd]? = some (.ins c.N [("key", .fz (.str k)), ("row", .fz (rowD r)), ("left", .hd px), ("right", .hd py)]) ∧ At c b m S x px fx ∧ At c b m S y py fy
theorem At.mem {c : Cs} {b m : Int} {S : Sto} {pa : PA} {p : Nat} {fp : List Nat} (h : At c b m S pa p fp) : p ∈ fp := by
  cases pa with
  | un l t => rw [h.1]; exact List.mem_cons_self
  | op l t k r x y => obtain ⟨nd, px, py, fx, fy, e, _⟩ := h; rw [e]; exact List.mem_cons_self
theorem At.lt {c : Cs} {b m : Int} {S : Sto} : ∀ {pa : PA} {p : Nat} {fp : List Nat}, At c b m S pa p fp → ∀ i ∈ fp, i < S.length
  | .un l t, p, fp, h, i, hi => by
    rw [h.1, List.mem_singleton] at hi
    rw [hi]
    exact (List.getElem?_eq_some_iff.mp h.2).1
  | .op l t k r x y, p, fp, h, i, hi => by
    obtain ⟨nd, px, py, fx, fy, e, h1, h2, h3, h4⟩ := h
    rw [e] at hi
    rcases List.mem_cons.mp hi with z | hi
    · rw [z]; exact (List.getElem?_eq_some_iff.mp h1).1
    rcases List.mem_cons.mp hi with z | hi
    · rw [z]; exact (List.getElem?_eq_some_iff.mp h2).1
    rcases List.mem_append.mp hi with z | z
    · exact h3.lt i z
    · exact h4.lt i z
theorem At.ext {c : Cs} {b m : Int} {S S' : Sto} {ex : List Nat} (x : Ext ex S S') : ∀ {pa : PA} {p : Nat} {fp : List Nat}, At c b m S pa p fp → (∀ i ∈ fp, i ∉ ex) → At c b m S' pa p fp
  | .un l t, p, fp, h, n => ⟨h.1, x.get h.2 (n p (by rw [h.1]; exact List.mem_cons_self))⟩
  | .op l t k r u v, p, fp, h, n => by
    obtain ⟨nd, px, py, fx, fy, e, h1, h2, h3, h4⟩ := h
    subst e
    exact ⟨nd, px, py, fx, fy, rfl, x.get h1 (n p (by simp)), x.get h2 (n nd (by simp)), h3.ext x fun i hi => n i (by simp [hi]), h4.ext x fun i hi => n i (by simp [hi])⟩
theorem At.part {c : Cs} {b m : Int} {S : Sto} {pa : PA} {p : Nat} {fp : List Nat} (h : At c b m S pa p fp) : ∃ w, S[p]? = some (.ins c.P [("link", .fz (linkD pa.l)), ("tree", .fz (trD c.T b m pa.t)), ("node", w)]) := by
  cases pa with
  | un l t => exact ⟨_, h.2⟩
  | op l t k r x y => obtain ⟨nd, px, py, fx, fy, e, h1, _⟩ := h; exact ⟨_, h1⟩
structure Fresh (S : Sto) (fp gs : List Nat) : Prop where
  nd : gs.Nodup
  sub : ∀ i ∈ gs, i ∈ fp ∨ S.length ≤ i
structure WkA (c : Cs) (C : Addr) (q : Bool) (S : Sto) (s e : Nat) (b m : Int) (st : SrcS) (U : Nat) (fp : List Nat) : Prop where
  src : SrcAt C S s e b m st
  rule : isRule b m
  kind : st.isKn = q
  okp : okP st U
  nd : fp.Nodup
  ns : s ∉ fp
  ne : e ∉ fp
abbrev Rep (α : Type) := Sto → α → W → List Nat → Prop
def rowO : Option (List Int) → D
  | none => .non
  | some r => rowD r
def EndA {α : Type} (c : Cs) (C : Addr) (S : Sto) (s e : Nat) (b m : Int) (fp : List Nat) (R : Rep α) (r : Except Rf (α × SrcS)) (Kp : WK) (Xp : XWK) : Prop := match r with
  | .ok (a, st') => ∀ S' w gs, SrcAt C S' s e b m st' → Ext (s :: e :: fp) S S' → R S' a w gs → Fresh S fp gs → Kp w S'
  | .error rf => ∀ S', Ext (s :: e :: fp) S S' → Xp (xdOf c.R rf) S'
theorem Ext.transF {s e : Nat} {fp fp1 : List Nat} {S S1 S2 : Sto} (a : Ext (s :: e :: fp) S S1) (d : Ext (s :: e :: fp1) S1 S2) (f : ∀ i ∈ fp1, i ∈ fp ∨ S.length ≤ i) : Ext (s :: e :: fp) S S2 := by
  refine a.trans d (fun _ h => h) fun i hi hl => ?_
  rcases List.mem_cons.mp hi with z | hi
  · rw [z]; exact List.mem_cons_self
  rcases List.mem_cons.mp hi with z | hi
  · rw [z]; exact List.mem_cons_of_mem _ List.mem_cons_self
  rcases f i hi with z | z
  · exact List.mem_cons_of_mem _ (List.mem_cons_of_mem _ z)
  · omega
theorem EndA.call {α β : Type} {c : Cs} {C : Addr} {S S1 : Sto} {s e : Nat} {b m : Int} {fp fp1 : List Nat} {R' : Rep β} {R : Rep α} {r : Except Rf (α × SrcS)} {k : α → SrcS → Except Rf (β × SrcS)} {Kp Kq : WK} {Xp : XWK} (h : EndA c C S s e b m fp R' (bnd r k) Kp Xp) (x : Ext (s :: e :: fp) S S1) (f : ∀ i ∈ fp1, i ∈ fp ∨ S.length ≤ i)
    (g : ∀ a st' S' w gs, r = .ok (a, st') → SrcAt C S' s e b m st' → Ext (s :: e :: fp1) S1 S' → Ext (s :: e :: fp) S S' → R S' a w gs → Fresh S1 fp1 gs → EndA c C S s e b m fp R' (k a st') Kp Xp → Kq w S') : EndA c C S1 s e b m fp1 R r Kq Xp := by
  cases r with
  | error rf => exact fun S' y => h S' (x.transF y f)
  | ok v =>
    obtain ⟨a, st'⟩ := v
    exact fun S' w gs h1 h2 h3 h4 => g a st' S' w gs rfl h1 h2 (x.transF h2 f) h3 h4 h
theorem EndA.last {α : Type} {c : Cs} {C : Addr} {S S1 : Sto} {s e : Nat} {b m : Int} {fp fp1 : List Nat} {R : Rep α} {r : Except Rf (α × SrcS)} {Kp : WK} {Xp : XWK} (h : EndA c C S s e b m fp R r Kp Xp) (x : Ext (s :: e :: fp) S S1) (f : ∀ i ∈ fp1, i ∈ fp ∨ S.length ≤ i) : EndA c C S1 s e b m fp1 R r Kp Xp := by
  cases r with
  | error rf => exact fun S' y => h S' (x.transF y f)
  | ok v =>
    obtain ⟨a, st'⟩ := v
    exact fun S' w gs h1 h2 h3 h4 => h S' w gs h1 (x.transF h2 f) h3 ⟨h4.nd, fun i hi => (h4.sub i hi).elim (f i) fun z => .inr (Nat.le_trans x.len z)⟩
structure OpdA (c : Cs) (C : Addr) (S S' : Sto) (s e p : Nat) (fp : List Nat) (b m : Int) (nd px py : Nat) (fx fy : List Nat) (pa : PA) (o : OpA) (st' : SrcS) : Prop where
  src : SrcAt C S' s e b m st'
  ext : Ext (s :: e :: fp) S S'
  part : S'[p]? = some (.ins c.P [("link", .fz (linkD pa.l)), ("tree", .fz (trD c.T b m pa.t)), ("node", .hd nd)])
  node : S'[nd]? = some (.ins c.N [("key", .fz (.str o.1)), ("row", .fz (rowD o.2.1)), ("left", .hd px), ("right", .hd py)])
  x : At c b m S' o.2.2.1 px fx
  y : At c b m S' o.2.2.2 py fy
  fr : Fresh S fp (p :: nd :: (fx ++ fy))
theorem OpdA.at {c : Cs} {C : Addr} {S S' : Sto} {s e p : Nat} {fp : List Nat} {b m : Int} {nd px py : Nat} {fx fy : List Nat} {pa : PA} {o : OpA} {st' : SrcS} (h : OpdA c C S S' s e p fp b m nd px py fx fy pa o st') : At c b m S' (opd pa o) p (p :: nd :: (fx ++ fy)) :=
  ⟨nd, px, py, fx, fy, rfl, h.part, h.node, h.x, h.y⟩
end DL
namespace DL
open PySem PySem.Spec PyProof.Rows L2
theorem Fresh.step {S S1 : Sto} {fp L fx fy as R : List Nat} (h0 : Fresh S fp L) (pl : L.Perm (fx ++ fy)) (hy : ∀ i ∈ fy, i < S1.length) (l1 : S.length ≤ S1.length) (h1 : Fresh S1 fx as) (pr : R.Perm (as ++ fy)) : Fresh S fp R := by
  have nd := pl.nodup_iff.mp h0.nd
  have hd := List.nodup_append.mp nd
  refine ⟨pr.nodup_iff.mpr (List.nodup_append.mpr ⟨h1.nd, hd.2.1, fun a ha b hb z => ?_⟩), fun i hi => ?_⟩
  · subst z
    rcases h1.sub a ha with z | z
    · exact hd.2.2 a z a hb rfl
    · have := hy a hb; omega
  · rcases List.mem_append.mp (pr.mem_iff.mp hi) with z | z
    · rcases h1.sub i z with z | z
      · exact h0.sub i (pl.mem_iff.mpr (List.mem_append_left _ z))
      · exact .inr (by omega)
    · exact h0.sub i (pl.mem_iff.mpr (List.mem_append_right _ z))
theorem Fresh.made {S S2 : Sto} {fp L R : List Nat} (h0 : Fresh S fp L) (hl : ∀ i ∈ L, i < S2.length) (l : S.length ≤ S2.length) (pr : R.Perm ((S2.length + 1) :: S2.length :: L)) : Fresh S fp R := by
  refine ⟨pr.nodup_iff.mpr (List.nodup_cons.mpr ⟨fun z => ?_, List.nodup_cons.mpr ⟨fun z => ?_, h0.nd⟩⟩), fun i hi => ?_⟩
  · rcases List.mem_cons.mp z with z | z
    · omega
    · have := hl _ z; omega
  · have := hl _ z; omega
  · rcases List.mem_cons.mp (pr.mem_iff.mp hi) with z | z
    · exact .inr (by omega)
    · rcases List.mem_cons.mp z with z | z
      · exact .inr (by omega)
      · exact h0.sub i z
theorem Fresh.one {S S2 : Sto} {fp L R : List Nat} (h0 : Fresh S fp L) (hl : ∀ i ∈ L, i < S2.length) (l : S.length ≤ S2.length) (pr : R.Perm (S2.length :: L)) : Fresh S fp R := by
  refine ⟨pr.nodup_iff.mpr (List.nodup_cons.mpr ⟨fun z => ?_, h0.nd⟩), fun i hi => ?_⟩
  · have := hl _ z; omega
  · rcases List.mem_cons.mp (pr.mem_iff.mp hi) with z | z
    · exact .inr (by omega)
    · exact h0.sub i z
theorem Fresh.drop {S : Sto} {fp L R Z : List Nat} (h : Fresh S fp L) (p : L.Perm (R ++ Z)) : Fresh S fp R :=
  ⟨(List.nodup_append.mp (p.nodup_iff.mp h.nd)).1, fun i hi => h.sub i (p.mem_iff.mpr (List.mem_append_left _ hi))⟩
theorem Fresh.self {S : Sto} {fp : List Nat} (h : fp.Nodup) : Fresh S fp fp := ⟨h, fun _ hi => .inl hi⟩
theorem Fresh.trans {S S1 : Sto} {fp L R : List Nat} (h0 : Fresh S fp L) (l : S.length ≤ S1.length) (h1 : Fresh S1 L R) : Fresh S fp R :=
  ⟨h1.nd, fun i hi => (h1.sub i hi).elim (h0.sub i) fun z => .inr (by omega)⟩
theorem WkA.out {c : Cs} {C : Addr} {q : Bool} {S : Sto} {s e : Nat} {b m : Int} {st : SrcS} {U : Nat} {fp gs : List Nat} (w : WkA c C q S s e b m st U fp) (f : ∀ i ∈ gs, i ∈ fp ∨ S.length ≤ i) : s ∉ gs ∧ e ∉ gs := by
  have := w.src.lt
  refine ⟨fun z => ?_, fun z => ?_⟩
  · rcases f _ z with y | y
    · exact w.ns y
    · omega
  · rcases f _ z with y | y
    · exact w.ne y
    · omega
theorem WkA.go {c : Cs} {C : Addr} {q : Bool} {S S1 : Sto} {s e : Nat} {b m : Int} {st st1 : SrcS} {U V Y : Nat} {fp gs : List Nat} (w : WkA c C q S s e b m st U fp) (src : SrcAt C S1 s e b m st1) (a : Aft st st1 U V) (l : Y ≤ V) (n : gs.Nodup) (f : ∀ i ∈ gs, i ∈ fp ∨ S.length ≤ i) : WkA c C q S1 s e b m st1 Y gs :=
  ⟨src, w.rule, a.kind.trans w.kind, (a.okP w.okp).le l, n, (w.out f).1, (w.out f).2⟩
theorem At.app {c : Cs} {b m : Int} {S T : Sto} {pa : PA} {p : Nat} {fp : List Nat} (h : At c b m S pa p fp) : At c b m (S ++ T) pa p fp := h.ext (Ext.app (ex := [])) (fun _ _ z => nomatch z)
theorem SrcAt.app {C : Addr} {S T : Sto} {s e : Nat} {b m : Int} {st : SrcS} (h : SrcAt C S s e b m st) : SrcAt C (S ++ T) s e b m st := h.ext (Ext.app (ex := [])) (fun z => nomatch z) (fun z => nomatch z)
theorem At.emp {c : Cs} {b m : Int} {S : Sto} : At c b m (S ++ [.ins c.P [("link", .fz (linkD (link0 b m))), ("tree", .fz .non), ("node", .fz .non)]]) (emp b m) S.length [S.length] := ⟨rfl, set_app1 rfl⟩
theorem OpdA.sub {c : Cs} {C : Addr} {S S' : Sto} {s e p : Nat} {fp : List Nat} {b m : Int} {nd px py : Nat} {fx fy : List Nat} {pa : PA} {o : OpA} {st' : SrcS} (h : OpdA c C S S' s e p fp b m nd px py fx fy pa o st') : Fresh S fp (fx ++ fy) :=
  ⟨(List.nodup_cons.mp (List.nodup_cons.mp h.fr.nd).2).2, fun i hi => h.fr.sub i (List.mem_cons_of_mem _ (List.mem_cons_of_mem _ hi))⟩
theorem OpdA.keep {c : Cs} {C : Addr} {q : Bool} {S S' S2 : Sto} {s e p : Nat} {fp : List Nat} {b m : Int} {nd px py : Nat} {fx fy gs : List Nat} {pa : PA} {o : OpA} {st st' : SrcS} {U : Nat} (h : OpdA c C S S' s e p fp b m nd px py fx fy pa o st') (w : WkA c C q S s e b m st U fp) (x : Ext (s :: e :: gs) S' S2) (g : ∀ i ∈ gs, i ∈ fx ++ fy) : S2[nd]? = some (.ins c.N [("key", .fz (.str o.1)), ("row", .fz (rowD o.2.1)), ("left", .hd px), ("right", .hd py)]) := by
  have n := w.out h.fr.sub
  refine x.get h.node fun z => ?_
  rcases List.mem_cons.mp z with z | z
  · subst z; exact n.1 (by simp)
  rcases List.mem_cons.mp z with z | z
  · subst z; exact n.2 (by simp)
  · exact (List.nodup_cons.mp (List.nodup_cons.mp h.fr.nd).2).1 (g _ z)
structure SplOk (b m : Int) (st st' : SrcS) (pa : PA) (a : SplR) : Prop where
  x : okA b m st'.isKn a.1
  y : okA b m st'.isKn a.2.2
  r : ∀ r, a.2.1 = some r → isRow r
  aft : Aft st st' pa.unz (a.1.unz + a.2.2.unz)
  sz : rem st' + (a.1.sz + a.2.2.sz) ≤ rem st + pa.sz
structure ParOk (b m : Int) (st st' : SrcS) (U Z : Nat) (a : PA) : Prop where
  ok : okA b m st'.isKn a
  aft : Aft st st' U a.unz
  sz : rem st' + a.sz ≤ Z
end DL
namespace DL
open PySem PySem.Spec PyProof.Rows L2
theorem outB_gen (one two : Str) : outB one two = (decide (rankI two < rankI one) || (decide (rankI two = rankI one) && strLt one two)) := by
  have e : ∀ (i : Int) (s : Str), PySem.W.keyToks (toPy (.tup [.int i, .str s])) = [Sum.inl 1, Sum.inl i, Sum.inl 1, Sum.inr s.cps.toList, Sum.inl 0] := fun _ _ => rfl
  unfold outB PySem.W.dataLt
  rw [e, e, lex_self, lex_cons, lex_self, lex_cons]
  have b1 : itemOrd.blt (Sum.inl (rankI two)) (Sum.inl (rankI one)) = decide (rankI two < rankI one) := rfl
  have b3 : itemOrd.blt (Sum.inl (rankI one)) (Sum.inl (rankI two)) = decide (rankI one < rankI two) := rfl
  have b2 : itemOrd.blt (Sum.inr one.cps.toList) (Sum.inr two.cps.toList) = strLt one two := rfl
  rw [b1, b2, b3, lex_irrefl, Bool.and_false, Bool.or_false]
  by_cases h : rankI two < rankI one
  · rw [decide_eq_true h, Bool.true_or, Bool.true_or]
  · rw [decide_eq_false h, Bool.false_or, Bool.false_or]
    by_cases h2 : rankI two = rankI one
    · rw [decide_eq_true h2, decide_eq_false (by omega)]
      rfl
    · rw [decide_eq_false h2, decide_eq_true (by omega)]
      rfl
theorem outB_iff {one two : Str} : outB one two = true ↔ rankI two < rankI one ∨ (rankI two = rankI one ∧ strLt one two = true) := by
  rw [outB_gen, Bool.or_eq_true, Bool.and_eq_true, decide_eq_true_eq, decide_eq_true_eq]
def isTp : Tr → Prop
  | .nil => True
  | .node k _ x y => isTp x ∧ isTp y ∧ (∀ u ∈ x.rows, strLt u.1 k = true ∧ outB k u.1 = true) ∧ ∀ u ∈ y.rows, strLt k u.1 = true ∧ outB k u.1 = true
theorem top_of {rows : Tab} {i : Nat} (hi : i < rows.length) (h1 : ∀ j, j < i → rankI (rowAt rows j).1 < rankI (rowAt rows i).1) (h2 : ∀ j, i < j → j < rows.length → rankI (rowAt rows j).1 ≤ rankI (rowAt rows i).1) : topN rows = i := by
  have aux : ∀ n, n ≤ rows.length → (0 < n → (List.range n).foldl (fun b k => if rankI (rowAt rows b).1 < rankI (rowAt rows k).1 then k else b) 0 < n) ∧ (i < n → (List.range n).foldl (fun b k => if rankI (rowAt rows b).1 < rankI (rowAt rows k).1 then k else b) 0 = i) := by
    intro n
    induction n with
    | zero => exact fun _ => ⟨fun z => absurd z (Nat.not_lt_zero _), fun z => absurd z (Nat.not_lt_zero _)⟩
    | succ n ih =>
      intro hn
      obtain ⟨a1, a2⟩ := ih (by omega)
      rw [List.range_succ, List.foldl_append, List.foldl_cons, List.foldl_nil]
      refine ⟨fun _ => ?_, fun hin => ?_⟩
      · split
        · omega
        · by_cases z : 0 < n
          · have := a1 z; omega
          · have : n = 0 := by omega
            subst this
            show (0 : Nat) < 1
            omega
      · by_cases z : i < n
        · rw [a2 z, if_neg]
          have := h2 n z (by omega)
          omega
        · have en : n = i := by omega
          subst en
          by_cases z0 : n = 0
          · subst z0
            show (if rankI (rowAt rows 0).1 < rankI (rowAt rows 0).1 then 0 else 0) = 0
            split <;> rfl
          · rw [if_pos]
            exact h1 _ (a1 (by omega))
  exact (aux rows.length (Nat.le_refl _)).2 hi
theorem rowAt_mem {rows : Tab} {i : Nat} (h : i < rows.length) : rowAt rows i ∈ rows := List.mem_of_getElem? (rowAt_get h)
theorem rowAt_app {a c : Tab} {p : Str × List Int} {j : Nat} : rowAt (a ++ p :: c) j = if j < a.length then rowAt a j else if j = a.length then p else rowAt c (j - a.length - 1) := by
  unfold rowAt
  rw [List.getD_eq_getElem?_getD, List.getD_eq_getElem?_getD, List.getD_eq_getElem?_getD]
  split
  · rw [List.getElem?_append_left (by assumption)]
  · rw [List.getElem?_append_right (by omega)]
    split
    · rename_i h; rw [h, Nat.sub_self]; rfl
    · have : j - a.length = (j - a.length - 1) + 1 := by omega
      rw [this]
      rfl
theorem tp_tree : ∀ {t : Tr}, isTp t → treeT t.rows = t
  | .nil, _ => rfl
  | .node k r x y, h => by
    have hx := tp_tree h.1
    have hy := tp_tree h.2.1
    have e : (Tr.node k r x y).rows = x.rows ++ (k, r) :: y.rows := rfl
    have ne : x.rows ++ (k, r) :: y.rows ≠ [] := by simp
    have ht : topN (x.rows ++ (k, r) :: y.rows) = x.rows.length := by
      refine top_of (by rw [List.length_append, List.length_cons]; omega) (fun j hj => ?_) (fun j hj hl => ?_)
      · rw [rowAt_app, if_pos hj, rowAt_app, if_neg (by omega), if_pos rfl]
        obtain ⟨q1, q2⟩ := h.2.2.1 _ (rowAt_mem hj)
        rw [outB_iff] at q2
        rcases q2 with q2 | ⟨_, q2⟩
        · exact q2
        · rw [strLt_asym q1] at q2; cases q2
      · rw [List.length_append, List.length_cons] at hl
        rw [rowAt_app, if_neg (by omega), if_neg (by omega), rowAt_app, if_neg (by omega), if_pos rfl]
        obtain ⟨q1, q2⟩ := h.2.2.2 _ (rowAt_mem (rows := y.rows) (i := j - x.rows.length - 1) (by omega))
        rw [outB_iff] at q2
        rcases q2 with q2 | ⟨q2, _⟩
        · exact Int.le_of_lt q2
        · exact Int.le_of_eq q2
    rw [e, treeT_node ne, ht]
    have er : rowAt (x.rows ++ (k, r) :: y.rows) x.rows.length = (k, r) := by rw [rowAt_app, if_neg (by omega), if_pos rfl]
    rw [er, List.take_left, show x.rows.length + 1 = (x.rows ++ [(k, r)]).length by rw [List.length_append]; rfl, show x.rows ++ (k, r) :: y.rows = (x.rows ++ [(k, r)]) ++ y.rows by rw [List.append_assoc]; rfl, List.drop_left, hx, hy]
end DL
namespace DL
open PySem PySem.Spec PyProof.Rows L2
def PA.tr : PA → Tr
  | .un _ none => .nil
  | .un _ (some t) => t
  | .op _ _ k r x y => .node k r x.tr y.tr
def PA.strip : PA → PA
  | .un l _ => .un l none
  | .op l _ k r x y => .op l none k r x.strip y.strip
def wfA (b m : Int) : PA → Prop
  | .un l none => l = link0 b m
  | .un l (some t) => l = linkT b m t ∧ okTr t
  | .op l t k r x y => l = linkOf b m k r x.l y.l ∧ isKey k ∧ isRow r ∧ wfA b m x ∧ wfA b m y ∧ (t = none ∨ t = some (.node k r x.tr y.tr))
theorem wfA.l {b m : Int} : ∀ {pa : PA}, wfA b m pa → pa.l = linkT b m pa.tr ∧ okTr pa.tr
  | .un l none, h => ⟨h, True.intro⟩
  | .un l (some t), h => h
  | .op l _ k r x y, h => by
    obtain ⟨x1, x2⟩ := h.2.2.2.1.l
    obtain ⟨y1, y2⟩ := h.2.2.2.2.1.l
    refine ⟨?_, h.2.1, h.2.2.1, x2, y2⟩
    show l = linkOf b m k r (linkT b m x.tr) (linkT b m y.tr)
    rw [h.1, x1, y1]
theorem wfA.nn {b m : Int} (hr : isRule b m) {pa : PA} (h : wfA b m pa) : nnL pa.l := by
  obtain ⟨a, c⟩ := h.l
  rw [a]
  exact linkT_nn hr c
theorem wfA.okG {b m : Int} (hr : isRule b m) : ∀ {pa : PA}, wfA b m pa → okA b m false pa.strip
  | .un l none, h => (wfA.nn hr h).n
  | .un l (some t), h => (wfA.nn hr h).n
  | .op l _ k r x y, h => ⟨h.2.1, h.2.2.1, h.2.2.2.1.okG hr, h.2.2.2.2.1.okG hr⟩
structure Sim2 {α : Type} (b m : Int) (fk fg : SrcS → Except Rf (α × SrcS)) (ak ag : α) (w : List D) : Prop where
  kn : ∀ es, fk (.kn es) = .ok (ak, .kn (es ++ w))
  gv : ∀ (cs : List D) (k : Nat) (post : List D), cs.drop k = w ++ post → fg (.gv cs k) = .ok (ag, .gv cs (k + w.length))
  bad : ∀ (cs : List D) (k : Nat) (p : List D) (e : D) (w' tail : List D) (wd : Str), w = p ++ e :: w' → cs.drop k = p ++ tail → refuW b m e tail = some wd → fg (.gv cs k) = .error ⟨wd, ((k + p.length : Nat) : Int)⟩
  en : isEnL w
theorem Sim2.pure {α : Type} {b m : Int} (a a' : α) : Sim2 b m (fun st => .ok (a, st)) (fun st => .ok (a', st)) a a' [] :=
  ⟨fun es => by rw [List.append_nil], fun cs k post _ => rfl, fun cs k p e w' tail wd h => (by cases p <;> cases h), fun _ z => nomatch z⟩
theorem Sim2.bnd {α β : Type} {b m : Int} {fk fg : SrcS → Except Rf (α × SrcS)} {gk gg : α → SrcS → Except Rf (β × SrcS)} {a a' : α} {c c' : β} {w v : List D} (h : Sim2 b m fk fg a a' w) (g : Sim2 b m (gk a) (gg a') c c' v) : Sim2 b m (fun st => DL.bnd (fk st) gk) (fun st => DL.bnd (fg st) gg) c c' (w ++ v) := by
  refine ⟨fun es => ?_, fun cs k post hd => ?_, fun cs k p e w' tail wd hw hd hr => ?_, h.en.app g.en⟩
  · show DL.bnd (fk (.kn es)) gk = _
    rw [h.kn]
    show gk a (.kn (es ++ w)) = _
    rw [g.kn, List.append_assoc]
  · show DL.bnd (fg (.gv cs k)) gg = _
    rw [List.append_assoc] at hd
    rw [h.gv cs k _ hd]
    show gg a' (.gv cs (k + w.length)) = _
    rw [g.gv cs _ post (drop_more hd), List.length_append, Nat.add_assoc]
  · show DL.bnd (fg (.gv cs k)) gg = _
    rcases List.append_eq_append_iff.mp hw with ⟨p2, e1, e2⟩ | ⟨w2, e1, e2⟩
    · subst e1
      rw [List.append_assoc] at hd
      rw [h.gv cs k _ hd]
      show gg a' (.gv cs (k + w.length)) = _
      rw [g.bad cs _ p2 e w' tail wd e2 (drop_more hd) hr, List.length_append, Nat.add_assoc]
    · cases w2 with
      | nil =>
        rw [List.append_nil] at e1
        subst e1
        rw [h.gv cs k _ hd]
        show gg a' (.gv cs (k + w.length)) = _
        rw [g.bad cs _ [] e w' tail wd e2.symm (drop_more hd) hr]
        rfl
      | cons z w2 =>
        rw [List.cons_append] at e2
        injection e2 with e3 e4
        subst e3
        rw [h.bad cs k p e w2 tail wd e1 hd hr]
        rfl
theorem Sim2.skip {α β : Type} {b m : Int} {fk fg : SrcS → Except Rf (α × SrcS)} {a a' : α} {w : List D} (h : Sim2 b m fk fg a a' w) {F : α → β} {F' : α → β} : Sim2 b m (fun st => DL.bnd (fk st) fun x st' => .ok (F x, st')) (fun st => DL.bnd (fg st) fun x st' => .ok (F' x, st')) (F a) (F' a') w := by
  have := h.bnd (gk := fun x st' => .ok (F x, st')) (gg := fun x st' => .ok (F' x, st')) (Sim2.pure (F a) (F' a'))
  rw [List.append_nil] at this
  exact this
def stripO (o : OpA) : OpA := (o.1, o.2.1, o.2.2.1.strip, o.2.2.2.strip)
structure OpK (b m : Int) (pa : PA) (o : OpA) (w : List D) : Prop where
  tr : pa.tr = .node o.1 o.2.1 o.2.2.1.tr o.2.2.2.tr
  key : isKey o.1
  row : isRow o.2.1
  x : wfA b m o.2.2.1
  y : wfA b m o.2.2.2
  opd : wfA b m (opd pa o)
  sz : o.2.2.1.sz + o.2.2.2.sz + 1 ≤ pa.sz
  sim : Sim2 b m (fun st => opA b m st pa) (fun st => opA b m st pa.strip) o (stripO o) w
abbrev getR (rows : Tab) (key : Str) : Option (List Int) := (rows.find? fun r => decide (r.1 = key)).map (·.2)
def ltR (rows : Tab) (key : Str) : Tab := rows.filter fun r => strLt r.1 key
def gtR (rows : Tab) (key : Str) : Tab := rows.filter fun r => strLt key r.1
structure SplK (b m : Int) (key : Str) (pa : PA) (a : SplR) : Prop where
  x : wfA b m a.1
  y : wfA b m a.2.2
  tx : isTp a.1.tr
  ty : isTp a.2.2.tr
  rx : a.1.tr.rows = ltR pa.tr.rows key
  ry : a.2.2.tr.rows = gtR pa.tr.rows key
  r : a.2.1 = getR pa.tr.rows key
section
variable {b m : Int} (hr : isRule b m)
include hr
structure ParK (b m : Int) (rows : Tab) (a : PA) : Prop where
  wf : wfA b m a
  tp : isTp a.tr
  rows : a.tr.rows = rows
end
theorem ParK.link {b m : Int} {rows : Tab} {a : PA} (h : ParK b m rows a) : a.l = linkT b m (treeT rows) := by
  rw [h.wf.l.1, ← h.rows, tp_tree h.tp]
end DL
namespace DL
open PySem PySem.Spec PyProof.Rows L2
def knA (b m : Int) (t : Tr) : PA := .un (linkT b m t) (some t)
def gvA (l : Link) : PA := .un l none
def knW {α : Type} (r : Except Rf (α × SrcS)) : List D := match r with
  | .ok (_, .kn es) => es
  | _ => []
def certC (b m : Int) (n : Nat) (rows : Tab) (c : Ch) : List D := knW (mChg b m n (.kn []) (knA b m (treeT rows)) c)
theorem Sim2.len {α : Type} {b m : Int} {fk fg : SrcS → Except Rf (α × SrcS)} {a a' : α} {w : List D} {U V : Nat} (s : Sim2 b m fk fg a a' w) (h : ∀ st', fk (.kn []) = .ok (a, st') → Aft (.kn []) st' U V) : w.length ≤ U := by
  have := h _ (s.kn [])
  have h2 : ([] ++ w).length + V ≤ ([] : List D).length + U := this.2
  rw [List.nil_append] at h2
  have h3 : ([] : List D).length = 0 := rfl
  omega
theorem Sim2.knW {α : Type} {b m : Int} {fk fg : SrcS → Except Rf (α × SrcS)} {a a' : α} {w : List D} (s : Sim2 b m fk fg a a' w) : DL.knW (fk (.kn [])) = w := by
  rw [s.kn []]
  rfl
structure ChgS (b m : Int) (n : Nat) (rows : Tab) (c : Ch) (a : PA) : Prop where
  sim : Sim2 b m (fun st => mChg b m n st (knA b m (treeT rows)) c) (fun st => mChg b m n st (gvA (linkT b m (treeT rows))) c) a a.strip (certC b m n rows c)
  par : ParK b m (chg rows c) a
  len : (certC b m n rows c).length ≤ rows.length
end DL
namespace DL
open PySem PySem.Spec PyProof.Rows L2
def jnM (lo hi : Str) (o : OpA) : Option (List Int) → List D
  | none => []
  | some r => if inB lo hi (o.1, o.2.1) then [.tup [.str o.1, rowD o.2.1, rowD r]] else []
def mJoin (b m : Int) : Nat → SrcS → PA → PA → Str → Str → Except Rf (List D × SrcS)
  | 0, st, _, _, _, _ => .ok ([], st)
  | f + 1, st, one, two, lo, hi => if one.l.n = 0 ∨ two.l.n = 0 then .ok ([], st) else bnd (opA b m st one) fun o st1 => bnd (mSplit b m (f + 1) st1 two o.1) fun q st2 =>
    bnd (if strLt lo o.1 then mJoin b m f st2 o.2.2.1 q.1 lo hi else .ok ([], st2)) fun a st3 =>
    bnd (if strLt o.1 hi then mJoin b m f st3 o.2.2.2 q.2.2 lo hi else .ok ([], st3)) fun d st4 => .ok (a ++ jnM lo hi o q.2.1 ++ d, st4)
def mAll (b m : Int) : Nat → SrcS → PA → Except Rf (Tab × SrcS)
  | 0, st, _ => .ok ([], st)
  | f + 1, st, pa => if pa.l.n = 0 then .ok ([], st) else bnd (opA b m st pa) fun o st1 => bnd (mAll b m f st1 o.2.2.1) fun a st2 => bnd (mAll b m f st2 o.2.2.2) fun d st3 => .ok (a ++ [(o.1, o.2.1)] ++ d, st3)
def difM (o : OpA) (r : Option (List Int)) : List D := if eqD (rowO r) (rowD o.2.1) then [] else [.tup [.str o.1, rowD o.2.1, rowO r]]
abbrev DifR := List D × List (PA × PA)
def mDiff (b m : Int) : Nat → SrcS → PA → PA → Except Rf (DifR × SrcS)
  | 0, st, _, _ => .ok (([], []), st)
  | f + 1, st, one, two => if eqD (linkD one.l) (linkD two.l) then .ok (([], [(one, two)]), st)
    else if one.l.n = 0 then bnd (mAll b m (f + 1) st two) fun a st1 => .ok ((a.map fun r => .tup [.str r.1, .non, rowD r.2], []), st1)
    else if two.l.n = 0 then bnd (mAll b m (f + 1) st one) fun a st1 => .ok ((a.map fun r => .tup [.str r.1, rowD r.2, .non], []), st1)
    else bnd (opA b m st one) fun o st1 => bnd (mSplit b m (f + 1) st1 two o.1) fun q st2 =>
      bnd (mDiff b m f st2 o.2.2.1 q.1) fun a st3 => bnd (mDiff b m f st3 o.2.2.2 q.2.2) fun d st4 => .ok ((a.1 ++ difM o q.2.1 ++ d.1, a.2 ++ d.2), st4)
structure TwoOk (st st' : SrcS) (U : Nat) (Z : Nat) (n : Nat) : Prop where
  aft : Aft st st' U 0
  len : n + rem st' ≤ Z
def SkAt (c : Cs) (b m : Int) (S : Sto) : List (PA × PA) → List W → List Nat → Prop
  | [], ws, fs => ws = [] ∧ fs = []
  | (a, d) :: sk, ws, fs => ∃ pa fa pd fd ws' fr, ws = .tp [.hd pa, .hd pd] :: ws' ∧ fs = fa ++ (fd ++ fr) ∧ At c b m S a pa fa ∧ At c b m S d pd fd ∧ SkAt c b m S sk ws' fr
theorem SkAt.lt {c : Cs} {b m : Int} {S : Sto} : ∀ {sk : List (PA × PA)} {ws : List W} {fs : List Nat}, SkAt c b m S sk ws fs → ∀ i ∈ fs, i < S.length
  | [], ws, fs, h, i, hi => by rw [h.2] at hi; cases hi
  | (a, d) :: sk, ws, fs, h, i, hi => by
    obtain ⟨pa, fa, pd, fd, ws', fr, rfl, rfl, h1, h2, h3⟩ := h
    rcases List.mem_append.mp hi with z | z
    · exact h1.lt i z
    rcases List.mem_append.mp z with z | z
    · exact h2.lt i z
    · exact h3.lt i z
theorem SkAt.len {c : Cs} {b m : Int} {S : Sto} : ∀ {sk : List (PA × PA)} {ws : List W} {fs : List Nat}, SkAt c b m S sk ws fs → ws.length = sk.length
  | [], ws, fs, h => by rw [h.1]; rfl
  | (a, d) :: sk, ws, fs, h => by
    obtain ⟨pa, fa, pd, fd, ws', fr, rfl, rfl, h1, h2, h3⟩ := h
    rw [List.length_cons, List.length_cons, h3.len]
theorem SkAt.ext {c : Cs} {b m : Int} {S S' : Sto} {ex : List Nat} (x : Ext ex S S') : ∀ {sk : List (PA × PA)} {ws : List W} {fs : List Nat}, SkAt c b m S sk ws fs → (∀ i ∈ fs, i ∉ ex) → SkAt c b m S' sk ws fs
  | [], ws, fs, h, _ => h
  | (a, d) :: sk, ws, fs, h, n => by
    obtain ⟨pa, fa, pd, fd, ws', fr, rfl, rfl, h1, h2, h3⟩ := h
    exact ⟨pa, fa, pd, fd, ws', fr, rfl, rfl, h1.ext x fun i hi => n i (by simp [hi]), h2.ext x fun i hi => n i (by simp [hi]), h3.ext x fun i hi => n i (by simp [hi])⟩
theorem SkAt.app {c : Cs} {b m : Int} {S : Sto} {sk' : List (PA × PA)} {ws' : List W} {fs' : List Nat} (g : SkAt c b m S sk' ws' fs') : ∀ {sk : List (PA × PA)} {ws : List W} {fs : List Nat}, SkAt c b m S sk ws fs → SkAt c b m S (sk ++ sk') (ws ++ ws') (fs ++ fs')
  | [], ws, fs, h => by rw [h.1, h.2]; exact g
  | (a, d) :: sk, ws, fs, h => by
    obtain ⟨pa, fa, pd, fd, ws2, fr, rfl, rfl, h1, h2, h3⟩ := h
    exact ⟨pa, fa, pd, fd, ws2 ++ ws', fr ++ fs', rfl, by simp [List.append_assoc], h1, h2, SkAt.app g h3⟩
end DL
namespace DL
open PySem PySem.Spec PyProof.Rows L2
def jnF (u : Tab) (lo hi : Str) (t : Tab) : List D := (t.filter (jnB u lo hi)).map (jnR u)
section
variable {b m : Int} (hr : isRule b m)
include hr
end
end DL
namespace DL
open PySem PySem.Spec PyProof.Rows L2
def jnC (b m : Int) (n : Nat) (t u : Tab) (lo hi : Str) : List D := knW (mJoin b m n (.kn []) (knA b m (treeT t)) (knA b m (treeT u)) lo hi)
structure JnS (b m : Int) (n : Nat) (t u : Tab) (lo hi : Str) : Prop where
  sim : Sim2 b m (fun st => mJoin b m n st (knA b m (treeT t)) (knA b m (treeT u)) lo hi) (fun st => mJoin b m n st (gvA (linkT b m (treeT t))) (gvA (linkT b m (treeT u))) lo hi) (jnF u lo hi t) (jnF u lo hi t) (jnC b m n t u lo hi)
  len : (jnC b m n t u lo hi).length ≤ t.length + u.length
end DL
namespace DL
open PySem PySem.Spec PyProof.Rows L2
def difF (t u : Tab) (zs : List Str) : List D := (zs.filter (difB t u)).map (difR t u)
def stripD (a : DifR) : DifR := (a.1, a.2.map fun p => (p.1.strip, p.2.strip))
structure DifK (b m : Int) (t u : Tab) (a : DifR) (zs : List Str) : Prop where
  keys : isKeys t u zs
  eq : (∀ p ∈ a.2, p.1.tr.rows = p.2.tr.rows) → a.1 = difF t u zs
  sk : ∀ p ∈ a.2, wfA b m p.1 ∧ wfA b m p.2 ∧ p.1.l = p.2.l
  sz : ∀ p ∈ a.2, p.1.tr.size ≤ t.length
section
variable {b m : Int} (hr : isRule b m)
include hr
end
end DL
namespace DL
open PySem PySem.Spec PyProof.Rows L2
def isCl (b m : Int) (d : D) : Prop := ∃ k r x y k' r' x' y', d = .tup [entD k r x y, entD k' r' x' y'] ∧ isKey k ∧ isRow r ∧ isKey k' ∧ isRow r' ∧ eqD (entD k r x y) (entD k' r' x' y') = false ∧ dig b m (nodeD k r x y) = dig b m (nodeD k' r' x' y')
theorem isCl.tup {b m : Int} {d : D} (h : isCl b m d) : ∃ e f, d = .tup [e, f] := by obtain ⟨_, _, _, _, _, _, _, _, e, _⟩ := h; exact ⟨_, _, e⟩
def difRun (b m : Int) (n : Nat) (t u : Tab) : Except Rf (DifR × SrcS) := mDiff b m n (.kn []) (knA b m (treeT t)) (knA b m (treeT u))
def difC (b m : Int) (n : Nat) (t u : Tab) : List D := knW (difRun b m n t u)
def difA (b m : Int) (n : Nat) (t u : Tab) : DifR := match difRun b m n t u with
  | .ok (a, _) => a
  | .error _ => ([], [])
structure DifS (b m : Int) (n : Nat) (t u : Tab) (zs : List Str) : Prop where
  sim : Sim2 b m (fun st => mDiff b m n st (knA b m (treeT t)) (knA b m (treeT u))) (fun st => mDiff b m n st (gvA (linkT b m (treeT t))) (gvA (linkT b m (treeT u)))) (difA b m n t u) (stripD (difA b m n t u)) (difC b m n t u)
  dif : DifK b m t u (difA b m n t u) zs
  len : (difC b m n t u).length ≤ t.length + u.length
end DL
namespace DL
open PySem PySem.Spec PyProof.Rows L2
section
variable {K : PySem.W.Frag} {F : Fx} {B : Hp} {m : List Addr} {S : Sto} {H : Hp}
end
section
variable {X : Cx} {Ξ : Xt} {a b : Expr} {da db : DE} {pos : Pos} {k : Nat}
end
end DL
namespace DL
open PySem PySem.Spec PyProof.Rows L2
def lnode (l : D) (e : D) (x y : W) (b : Bool) : OD := .lst [.fz l, .fz e, x, y, .fz (.bl b)]
def LAtT (b m : Int) (S : Sto) : Tr → Nat → List Nat → Prop
  | .nil, p, fp => fp = [p] ∧ S[p]? = some (lnode (linkD (link0 b m)) .non (.fz .non) (.fz .non) true)
  | .node k r x y, p, fp => ∃ px py fx fy, fp = p :: (fx ++ fy) ∧ S[p]? = some (lnode (linkD (linkOf b m k r (linkT b m x) (linkT b m y))) (entT b m k r x y) (.hd px) (.hd py) false) ∧ LAtT b m S x px fx ∧ LAtT b m S y py fy
def LAt (b m : Int) (S : Sto) : PA → Nat → List Nat → Prop
  | .un l none, p, fp => fp = [p] ∧ S[p]? = some (lnode (linkD l) .non (.fz .non) (.fz .non) true)
  | .un _ (some t), p, fp => LAtT b m S t p fp
  | .op l _ k r x y, p, fp => ∃ px py fx fy, fp = p :: (fx ++ fy) ∧ S[p]? = some (lnode (linkD l) (entD k r x.l y.l) (.hd px) (.hd py) true) ∧ LAt b m S x px fx ∧ LAt b m S y py fy
theorem LAtT.lt {b m : Int} {S : Sto} : ∀ {t : Tr} {p : Nat} {fp : List Nat}, LAtT b m S t p fp → ∀ i ∈ fp, i < S.length
  | .nil, p, fp, h, i, hi => by
    rw [h.1, List.mem_singleton] at hi
    rw [hi]
    exact (List.getElem?_eq_some_iff.mp h.2).1
  | .node k r x y, p, fp, h, i, hi => by
    obtain ⟨px, py, fx, fy, e, h1, h2, h3⟩ := h
    rw [e] at hi
    rcases List.mem_cons.mp hi with z | hi
    · rw [z]; exact (List.getElem?_eq_some_iff.mp h1).1
    rcases List.mem_append.mp hi with z | z
    · exact h2.lt i z
    · exact h3.lt i z
theorem LAtT.ext {b m : Int} {S S' : Sto} {ex : List Nat} (x : Ext ex S S') : ∀ {t : Tr} {p : Nat} {fp : List Nat}, LAtT b m S t p fp → (∀ i ∈ fp, i ∉ ex) → LAtT b m S' t p fp
  | .nil, p, fp, h, n => ⟨h.1, x.get h.2 (n p (by rw [h.1]; exact List.mem_cons_self))⟩
  | .node k r u v, p, fp, h, n => by
    obtain ⟨px, py, fx, fy, e, h1, h2, h3⟩ := h
    subst e
    exact ⟨px, py, fx, fy, rfl, x.get h1 (n p (by simp)), h2.ext x fun i hi => n i (by simp [hi]), h3.ext x fun i hi => n i (by simp [hi])⟩
theorem LAt.lt {b m : Int} {S : Sto} : ∀ {pa : PA} {p : Nat} {fp : List Nat}, LAt b m S pa p fp → ∀ i ∈ fp, i < S.length
  | .un l none, p, fp, h, i, hi => by
    rw [h.1, List.mem_singleton] at hi
    rw [hi]
    exact (List.getElem?_eq_some_iff.mp h.2).1
  | .un l (some t), p, fp, h, i, hi => LAtT.lt h i hi
  | .op l t k r x y, p, fp, h, i, hi => by
    obtain ⟨px, py, fx, fy, e, h1, h2, h3⟩ := h
    rw [e] at hi
    rcases List.mem_cons.mp hi with z | hi
    · rw [z]; exact (List.getElem?_eq_some_iff.mp h1).1
    rcases List.mem_append.mp hi with z | z
    · exact h2.lt i z
    · exact h3.lt i z
theorem LAt.ext {b m : Int} {S S' : Sto} {ex : List Nat} (x : Ext ex S S') : ∀ {pa : PA} {p : Nat} {fp : List Nat}, LAt b m S pa p fp → (∀ i ∈ fp, i ∉ ex) → LAt b m S' pa p fp
  | .un l none, p, fp, h, n => ⟨h.1, x.get h.2 (n p (by rw [h.1]; exact List.mem_cons_self))⟩
  | .un l (some t), p, fp, h, n => LAtT.ext x h n
  | .op l t k r u v, p, fp, h, n => by
    obtain ⟨px, py, fx, fy, e, h1, h2, h3⟩ := h
    subst e
    exact ⟨px, py, fx, fy, rfl, x.get h1 (n p (by simp)), h2.ext x fun i hi => n i (by simp [hi]), h3.ext x fun i hi => n i (by simp [hi])⟩
theorem LAt.app {b m : Int} {S T : Sto} {pa : PA} {p : Nat} {fp : List Nat} (h : LAt b m S pa p fp) : LAt b m (S ++ T) pa p fp := h.ext (Ext.app (ex := [])) (fun _ _ z => nomatch z)
theorem LAtT.app {b m : Int} {S T : Sto} {t : Tr} {p : Nat} {fp : List Nat} (h : LAtT b m S t p fp) : LAtT b m (S ++ T) t p fp := h.ext (Ext.app (ex := [])) (fun _ _ z => nomatch z)
theorem LAt.top {b m : Int} {S : Sto} {pa : PA} {p : Nat} {fp : List Nat} (wf : wfA b m pa) (h : LAt b m S pa p fp) : (pa.tr = .nil ∧ S[p]? = some (lnode (linkD pa.l) .non (.fz .non) (.fz .non) true)) ∨
    ∃ k r x y px py bl, pa.tr = .node k r x y ∧ S[p]? = some (lnode (linkD pa.l) (entT b m k r x y) (.hd px) (.hd py) bl) := by
  cases pa with
  | un l t =>
    cases t with
    | none => exact .inl ⟨rfl, h.2⟩
    | some t =>
      have e := wf.1
      cases t with
      | nil => exact .inl ⟨rfl, by show _ = some (lnode (linkD l) _ _ _ _); rw [e]; exact h.2⟩
      | node k r x y =>
        obtain ⟨px, py, fx, fy, _, h1, _⟩ := h
        exact .inr ⟨k, r, x, y, px, py, false, rfl, by show _ = some (lnode (linkD l) _ _ _ _); rw [e]; exact h1⟩
  | op l t k r x y =>
    obtain ⟨px, py, fx, fy, _, h1, _⟩ := h
    refine .inr ⟨k, r, x.tr, y.tr, px, py, true, rfl, ?_⟩
    have e1 := wf.2.2.2.1.l.1
    have e2 := wf.2.2.2.2.1.l.1
    show _ = some (lnode (linkD l) (entD k r (linkT b m x.tr) (linkT b m y.tr)) _ _ _)
    rw [← e1, ← e2]
    exact h1
theorem LAt.link {b m : Int} {S : Sto} {pa : PA} {p : Nat} {fp : List Nat} (wf : wfA b m pa) (h : LAt b m S pa p fp) : ∃ tl, S[p]? = some (.lst (.fz (linkD pa.l) :: tl)) := by
  rcases h.top wf with ⟨_, e⟩ | ⟨_, _, _, _, _, _, _, _, e⟩
  · exact ⟨_, e⟩
  · exact ⟨_, e⟩
theorem LAt.mem {b m : Int} {S : Sto} {pa : PA} {p : Nat} {fp : List Nat} (h : LAt b m S pa p fp) : p ∈ fp := by
  cases pa with
  | un l t =>
    cases t with
    | none => rw [h.1]; exact List.mem_cons_self
    | some t =>
      cases t with
      | nil => rw [h.1]; exact List.mem_cons_self
      | node k r x y => obtain ⟨px, py, fx, fy, e, _⟩ := h; rw [e]; exact List.mem_cons_self
  | op l t k r x y => obtain ⟨px, py, fx, fy, e, _⟩ := h; rw [e]; exact List.mem_cons_self
def EndL {α : Type} (S : Sto) (e : Nat) (fp : List Nat) (R : Rep α) (r : Except Rf (α × SrcS)) (Kp : WK) : Prop := match r with
  | .ok (a, .kn es') => ∀ S' w gs, S'[e]? = some (.lst (es'.map W.fz)) → Ext (e :: fp) S S' → R S' a w gs → Fresh S fp gs → Kp w S'
  | _ => True
theorem Ext.transL {e : Nat} {fp fp1 : List Nat} {S S1 S2 : Sto} (a : Ext (e :: fp) S S1) (d : Ext (e :: fp1) S1 S2) (f : ∀ i ∈ fp1, i ∈ fp ∨ S.length ≤ i) : Ext (e :: fp) S S2 := by
  refine a.trans d (fun _ h => h) fun i hi hl => ?_
  rcases List.mem_cons.mp hi with z | hi
  · rw [z]; exact List.mem_cons_self
  rcases f i hi with z | z
  · exact List.mem_cons_of_mem _ z
  · omega
theorem EndL.call {α β : Type} {S S1 : Sto} {e : Nat} {fp fp1 : List Nat} {R' : Rep β} {R : Rep α} {r : Except Rf (α × SrcS)} {k : α → SrcS → Except Rf (β × SrcS)} {Kp Kq : WK} (h : EndL S e fp R' (bnd r k) Kp) (x : Ext (e :: fp) S S1) (f : ∀ i ∈ fp1, i ∈ fp ∨ S.length ≤ i)
    (g : ∀ a es' S' w gs, r = .ok (a, .kn es') → S'[e]? = some (.lst (es'.map W.fz)) → Ext (e :: fp1) S1 S' → Ext (e :: fp) S S' → R S' a w gs → Fresh S1 fp1 gs → EndL S e fp R' (k a (.kn es')) Kp → Kq w S') : EndL S1 e fp1 R r Kq := by
  cases r with
  | error rf => exact True.intro
  | ok v =>
    obtain ⟨a, st'⟩ := v
    cases st' with
    | gv _ _ => exact True.intro
    | kn es' => exact fun S' w gs h1 h2 h3 h4 => g a es' S' w gs rfl h1 h2 (x.transL h2 f) h3 h4 h
theorem EndL.last {α : Type} {S S1 : Sto} {e : Nat} {fp fp1 : List Nat} {R : Rep α} {r : Except Rf (α × SrcS)} {Kp : WK} (h : EndL S e fp R r Kp) (x : Ext (e :: fp) S S1) (f : ∀ i ∈ fp1, i ∈ fp ∨ S.length ≤ i) : EndL S1 e fp1 R r Kp := by
  cases r with
  | error rf => exact True.intro
  | ok v =>
    obtain ⟨a, st'⟩ := v
    cases st' with
    | gv _ _ => exact True.intro
    | kn es' => exact fun S' w gs h1 h2 h3 h4 => h S' w gs h1 (x.transL h2 f) h3 ⟨h4.nd, fun i hi => (h4.sub i hi).elim (f i) fun z => .inr (Nat.le_trans x.len z)⟩
structure WkL (S : Sto) (e : Nat) (b m : Int) (es : List D) (U : Nat) (fp : List Nat) : Prop where
  src : S[e]? = some (.lst (es.map W.fz))
  rule : isRule b m
  okp : es.length + U ≤ 900
  nd : fp.Nodup
  ne : e ∉ fp
theorem WkL.lt {S : Sto} {e : Nat} {b m : Int} {es : List D} {U : Nat} {fp : List Nat} (w : WkL S e b m es U fp) : e < S.length := (List.getElem?_eq_some_iff.mp w.src).1
theorem WkL.out {S : Sto} {e : Nat} {b m : Int} {es : List D} {U : Nat} {fp gs : List Nat} (w : WkL S e b m es U fp) (f : ∀ i ∈ gs, i ∈ fp ∨ S.length ≤ i) : e ∉ gs := fun z => by
  have := w.lt
  rcases f _ z with y | y
  · exact w.ne y
  · omega
theorem WkL.go {S S1 : Sto} {e : Nat} {b m : Int} {es es1 : List D} {U V Y : Nat} {fp gs : List Nat} (w : WkL S e b m es U fp) (src : S1[e]? = some (.lst (es1.map W.fz))) (a : Aft (.kn es) (.kn es1) U V) (l : Y ≤ V) (n : gs.Nodup) (f : ∀ i ∈ gs, i ∈ fp ∨ S.length ≤ i) : WkL S1 e b m es1 Y gs :=
  ⟨src, w.rule, by have := a.2; have := w.okp; omega, n, w.out f⟩
structure OpdL (b m : Int) (S S' : Sto) (e p : Nat) (fp : List Nat) (px py : Nat) (fx fy : List Nat) (pa : PA) (o : OpA) (es' : List D) : Prop where
  src : S'[e]? = some (.lst (es'.map W.fz))
  ext : Ext (e :: fp) S S'
  top : S'[p]? = some (lnode (linkD pa.l) (entD o.1 o.2.1 o.2.2.1.l o.2.2.2.l) (.hd px) (.hd py) true)
  x : LAt b m S' o.2.2.1 px fx
  y : LAt b m S' o.2.2.2 py fy
  fp : fp = p :: (fx ++ fy)
theorem OpdL.at {b m : Int} {S S' : Sto} {e p : Nat} {fp : List Nat} {px py : Nat} {fx fy : List Nat} {pa : PA} {o : OpA} {es' : List D} (h : OpdL b m S S' e p fp px py fx fy pa o es') : LAt b m S' (opd pa o) p fp :=
  ⟨px, py, fx, fy, h.fp, h.top, h.x, h.y⟩
theorem OpdL.sub {b m : Int} {S S' : Sto} {e p : Nat} {fp : List Nat} {px py : Nat} {fx fy : List Nat} {pa : PA} {o : OpA} {es' : List D} (h : OpdL b m S S' e p fp px py fx fy pa o es') (nd : fp.Nodup) : Fresh S fp (fx ++ fy) := by
  have e := h.fp
  rw [e] at nd
  exact ⟨(List.nodup_cons.mp nd).2, fun i hi => .inl (by rw [e]; exact List.mem_cons_of_mem _ hi)⟩
theorem LAt.emp {b m : Int} {S : Sto} : LAt b m (S ++ [lnode (linkD (link0 b m)) .non (.fz .non) (.fz .non) true]) (emp b m) S.length [S.length] := ⟨rfl, set_app1 rfl⟩
end DL
namespace DL
open PySem PySem.Spec PyProof.Rows L2
section
variable {X : Cx} {Ξ : Xt} {rest : List Stmt} {t : DS}
end
end DL
namespace DL
open PySem PySem.Spec PyProof.Rows L2
def mBat (b m : Int) (n : Nat) : SrcS → PA → List Ch → Except Rf (PA × SrcS)
  | st, pa, [] => .ok (pa, st)
  | st, pa, c :: cs => bnd (mChg b m n st pa c) fun p st' => mBat b m n st' p cs
def chgs (rows : Tab) : List Ch → Tab
  | [] => rows
  | c :: cs => chgs (chg rows c) cs
def batC (b m : Int) (n : Nat) (rows : Tab) (cs : List Ch) : List D := knW (mBat b m n (.kn []) (knA b m (treeT rows)) cs)
structure BatS (b m : Int) (n : Nat) (rows : Tab) (cs : List Ch) (a : PA) : Prop where
  sim : Sim2 b m (fun st => mBat b m n st (knA b m (treeT rows)) cs) (fun st => mBat b m n st (gvA (linkT b m (treeT rows))) cs) a a.strip (batC b m n rows cs)
  par : ParK b m (chgs rows cs) a
  len : (batC b m n rows cs).length ≤ rows.length
end DL
namespace DL
open PySem PySem.Spec PyProof.Rows L2
end DL
namespace DL
open PySem PySem.Spec PyProof.Rows L2
end DL
namespace DL
open PySem PySem.Spec PyProof.Rows L2
section
variable {X : Cx} {Ξ : Xt} {rest : List Stmt} {t : DS}
end
end DL
namespace DL
open PySem PySem.Spec PyProof.Rows L2

section
variable {P : Program} {w : World} {K : PySem.W.Frag} {T : Addr → Prop} {mg : Str → Option Value} {base : Heap}
end
section
variable {X : Cx} {Ξ : Xt} {o e value : Expr} {f : Str} {pos tpos : Pos} {de dv : DE} {dr : DR2} {op : Operator}
end
mutual
def noL : D → Bool
  | .lst _ => false
  | .obj _ _ => false
  | .scr _ => false
  | .tup ds => noLL ds
  | _ => true
def noLL : List D → Bool
  | [] => true
  | d :: ds => noL d && noLL ds
end
section
variable {K : PySem.W.Frag} {F : Fx} {B : Hp} {m : List Addr} {S : Sto} {H : Hp}
def OwnL (m : List Addr) (S : Sto) (a : Addr) : Prop := ∃ (n : Nat) (ds : List D), m[n]? = some a ∧ S[n]? = some (.lst (ds.map W.fz))
open Classical in
noncomputable def lessL (B : Hp) (m : List Addr) (S : Sto) : Hp := fun a => if OwnL m S a then none else B a
mutual
theorem Rp.lessL {B2 : Hp} (hB : ∀ a, OwnL m S a → ∃ vs, B2 a = some (.lst vs)) : ∀ {d : D} {v : V}, noL d = true → Rp K B2 d v → Rp K (DL.lessL B2 m S) d v
  | _, _, _, .non => .non
  | _, _, _, .bl => .bl
  | _, _, _, .int => .int
  | _, _, _, .str => .str
  | _, _, _, .ty => .ty
  | .tup ds, .ref a, h, .tup s r => by
    refine .tup ?_ (RpL.lessL hB h r)
    rcases s with s | s
    · left
      have na : ¬ OwnL m S a := fun z => by
        obtain ⟨vs, e⟩ := hB a z
        rcases s with s | ⟨o, s⟩
        · rw [e] at s; cases s
        · rw [e] at s; cases s
      rcases s with s | ⟨o, s⟩
      · exact .inl (by unfold DL.lessL; rw [if_neg na]; exact s)
      · exact .inr ⟨o, by unfold DL.lessL; rw [if_neg na]; exact s⟩
    · exact .inr s
  | .lst _, _, h, .lst _ _ => by cases h
  | .scr _, _, h, .scr _ => by cases h
  | .obj _ _, _, h, .obj _ _ => by cases h
theorem RpL.lessL {B2 : Hp} (hB : ∀ a, OwnL m S a → ∃ vs, B2 a = some (.lst vs)) : ∀ {ds : List D} {vs : List V}, noLL ds = true → RpL K B2 ds vs → RpL K (DL.lessL B2 m S) ds vs
  | [], _, _, .nil => .nil
  | d :: ds, _, h, .cons r t => by
    unfold noLL at h
    rw [Bool.and_eq_true] at h
    exact .cons (Rp.lessL hB h.1 r) (RpL.lessL hB h.2 t)
end
end
section
variable {X : Cx} {Ξ : Xt} {k j : Nat} {x : Str} {P : PSp} {p pos : Pos} {e : Expr} {es : List Expr} {da : DA}
end
structure AlIn (K : PySem.W.Frag) (x y : Str) : Prop where
  ex : ∃ f : Value, PySem.W.nsIn K mainGlobals x = some (some f) ∧ PySem.W.nsIn K mainGlobals y = some (some f)
theorem AlIn.df {K : PySem.W.Frag} {x y : Str} {h : Heap} {mg : Str → Option Value} (D : AlIn K x y) (X : K.In h) (G : h.Ns mainGlobals mg) : mg x = mg y := by
  obtain ⟨f, a, b⟩ := D.ex
  rw [PySem.W.mg_of X G a, PySem.W.mg_of X G b]
end DL
namespace DL
open PySem PySem.Spec PyProof.Rows L2
end DL
namespace DL
open PySem PySem.Spec PyProof.Rows L2
def verT (b m : Int) : List Tab → List Ver
  | [] => []
  | t :: r => histL b m (linkT b m (treeT t)) (r.map fun x => linkT b m (treeT x))
theorem verT_len (b m : Int) : ∀ ts : List Tab, (verT b m ts).length = ts.length
  | [] => rfl
  | t :: r => by
    show (histG b m _ _).length + 1 = r.length + 1
    rw [histG_len, List.length_map]
structure StA (C : Addr) (S : Sto) (s ht hv : Nat) (b m sec : Int) (ts : List Tab) : Prop where
  at_ : S[s]? = some (.ins C [("_rule", .fz (ruleD b m)), ("_secret", .fz (.int sec)), ("_tables", .hd ht), ("_versions", .hd hv)])
  tb : S[ht]? = some (.lst ((ts.map tabD).map W.fz))
  vr : S[hv]? = some (.lst (((verT b m ts).map verD).map W.fz))
  ne : ht ≠ hv
  rule : isRule b m
  tab : ∀ t ∈ ts, isTab t
  few : ts.length ≤ 20
  pos : 1 ≤ s ∧ 1 ≤ ht ∧ 1 ≤ hv
theorem StA.st {C : Addr} {S : Sto} {s ht hv : Nat} {b m sec : Int} {ts : List Tab} (h : StA C S s ht hv b m sec ts) : s ≠ ht ∧ s ≠ hv := by
  constructor
  · intro e
    have h1 := h.at_
    rw [e, h.tb] at h1
    cases h1
  · intro e
    have h1 := h.at_
    rw [e, h.vr] at h1
    cases h1
theorem StA.ext {C : Addr} {S S' : Sto} {s ht hv : Nat} {b m sec : Int} {ts : List Tab} {ex : List Nat} (h : StA C S s ht hv b m sec ts) (x : Ext ex S S') (n : ∀ i ∈ ex, i ≠ s ∧ i ≠ ht ∧ i ≠ hv) : StA C S' s ht hv b m sec ts :=
  ⟨x.get h.at_ fun z => (n s z).1 rfl, x.get h.tb fun z => (n ht z).2.1 rfl, x.get h.vr fun z => (n hv z).2.2 rfl, h.ne, h.rule, h.tab, h.few, h.pos⟩
theorem Ext.st {o o' : OD} {R : Sto} {ex : List Nat} (h : 0 ∈ ex) : Ext ex (o :: R) (o' :: R) := ⟨Nat.le_refl _, fun i hi hn => by
  cases i with
  | zero => exact absurd h hn
  | succ i => rfl⟩
theorem StA.go {C : Addr} {o o' : OD} {R : Sto} {s ht hv : Nat} {b m sec : Int} {ts : List Tab} (h : StA C (o :: R) s ht hv b m sec ts) : StA C (o' :: R) s ht hv b m sec ts := h.ext (Ext.st (ex := [0]) (by simp)) fun i hi => by
  rw [List.mem_singleton.mp hi]
  have := h.pos
  omega
end DL
namespace DL
open PySem PySem.Spec PyProof.Rows L2
structure MbA (C : Addr) (S : Sto) (s hk : Nat) (b m : Int) (cards : List (List Int)) (tk : List SV) : Prop where
  at_ : S[s]? = some (.ins C [("_rule", .fz (ruleD b m)), ("_cards", .fz (.lst (cards.map rowD))), ("_taken", .hd hk)])
  tk_ : S[hk]? = some (.lst ((tk.map sx).map W.fz))
  rule : isRule b m
  few : tk.length ≤ 100
  pos : 1 ≤ s ∧ 1 ≤ hk
theorem MbA.ne {C : Addr} {S : Sto} {s hk : Nat} {b m : Int} {cards : List (List Int)} {tk : List SV} (h : MbA C S s hk b m cards tk) : s ≠ hk := by
  intro e
  have h1 := h.at_
  rw [e, h.tk_] at h1
  cases h1
theorem MbA.ext {C : Addr} {S S' : Sto} {s hk : Nat} {b m : Int} {cards : List (List Int)} {tk : List SV} {ex : List Nat} (h : MbA C S s hk b m cards tk) (x : Ext ex S S') (n : ∀ i ∈ ex, i ≠ s ∧ i ≠ hk) : MbA C S' s hk b m cards tk :=
  ⟨x.get h.at_ fun z => (n s z).1 rfl, x.get h.tk_ fun z => (n hk z).2 rfl, h.rule, h.few, h.pos⟩
theorem MbA.go {C : Addr} {o o' : OD} {R : Sto} {s hk : Nat} {b m : Int} {cards : List (List Int)} {tk : List SV} (h : MbA C (o :: R) s hk b m cards tk) : MbA C (o' :: R) s hk b m cards tk := h.ext (Ext.st (ex := [0]) (by simp)) fun i hi => by
  rw [List.mem_singleton.mp hi]
  have := h.pos
  omega
end DL
namespace DL
open PySem PySem.Spec PyProof.Rows L2
end DL
namespace DL
open PySem PySem.Spec PyProof.Rows L2
structure NdL (l : List SV) : Prop where
  nd : (l.map (·.1.n)).Nodup
  le : l.length ≤ 100
end DL
namespace DL
open PySem PySem.Spec PyProof.Rows L2
def MbN (b m : Int) (v : Ver) (r d : D) : Prop := (∃ rf : Rf, r = refD rf ∧ d = .non) ∨ ∃ l : D, r = .tup [.str "head", l] ∧ d = .tup [.int (v.n + 1), l, .int (vdig b m v)]
theorem MbN.no {b m : Int} {v : Ver} {rf : Rf} : MbN b m v (refD rf) .non := .inl ⟨rf, rfl, rfl⟩
end DL
namespace DL
open PySem PySem.Spec PyProof.Rows L2
structure TwoS (C : Addr) (S : Sto) (hL s1 h1 v1 s2 h2 v2 : Nat) (b m : Int) (ts1 ts2 : List Tab) : Prop where
  a : StA C S s1 h1 v1 b m 77 ts1
  c : StA C S s2 h2 v2 b m 77 ts2
  l : S[hL]? = some (.lst [.hd s1, .hd s2])
  ne : ts1 ≠ [] ∧ ts2 ≠ []
  o : 1 ≤ s1 ∧ 1 ≤ h1 ∧ 1 ≤ v1 ∧ s1 < s2 ∧ h1 < s2 ∧ v1 < s2 ∧ s2 < h2 ∧ s2 < v2 ∧ s2 < hL ∧ h2 < hL ∧ v2 < hL
section
variable {C : Addr} {S S' : Sto} {hL s1 h1 v1 s2 h2 v2 : Nat} {b m : Int} {ts1 ts2 ts : List Tab} {ex : List Nat}
theorem TwoS.ext (T : TwoS C S hL s1 h1 v1 s2 h2 v2 b m ts1 ts2) (x : Ext ex S S') (n : ∀ i ∈ ex, i = 0 ∨ hL < i) : TwoS C S' hL s1 h1 v1 s2 h2 v2 b m ts1 ts2 := by
  have d := T.o
  exact ⟨T.a.ext x fun i hi => by have := n i hi; omega, T.c.ext x fun i hi => by have := n i hi; omega, x.get T.l fun hi => by have := n _ hi; omega, T.ne, d⟩
theorem TwoS.go {o o' : OD} {R : Sto} (T : TwoS C (o :: R) hL s1 h1 v1 s2 h2 v2 b m ts1 ts2) : TwoS C (o' :: R) hL s1 h1 v1 s2 h2 v2 b m ts1 ts2 := T.ext (Ext.st (ex := [0]) (by simp)) fun i hi => .inl (by simpa using hi)
theorem TwoS.le (T : TwoS C S hL s1 h1 v1 s2 h2 v2 b m ts1 ts2) : hL < S.length := (List.getElem?_eq_some_iff.mp T.l).1
theorem StA.last {s h v : Nat} {sec : Int} (st : StA C S s h v b m sec ts) (ne : ts ≠ []) : ∃ (i : Nat) (u : Ver), ((ts.length : Nat) - 1 : Int) = (i : Nat) ∧ (verT b m ts)[i]? = some u := by
  have hp := List.length_pos_iff.mpr ne
  have hl : ts.length - 1 < (verT b m ts).length := by rw [verT_len]; omega
  exact ⟨ts.length - 1, _, by omega, List.getElem?_eq_getElem hl⟩
end
end DL
namespace DL
open PySem PySem.Spec PyProof.Rows L2
structure OkN (l : List SV) : Prop where
  lo : ∀ x ∈ l, 0 ≤ x.1.n ∧ x.1.n < 20
  nd : (l.map (·.1.n)).Nodup
  le : l.length ≤ 20
structure TwoA (C : Addr) (S : Sto) (hB s1 h1 v1 s2 h2 v2 : Nat) (b m sec : Int) (ts1 ts2 : List Tab) : Prop where
  a : StA C S s1 h1 v1 b m sec ts1
  c : StA C S s2 h2 v2 b m sec ts2
  ne : ts1 ≠ [] ∧ ts2 ≠ []
  o : 1 ≤ s1 ∧ 1 ≤ h1 ∧ 1 ≤ v1 ∧ s1 < s2 ∧ h1 < s2 ∧ v1 < s2 ∧ s2 < h2 ∧ s2 < v2 ∧ s2 < hB ∧ h2 < hB ∧ v2 < hB ∧ hB ≤ S.length
section
variable {C : Addr} {S S' : Sto} {hB s1 h1 v1 s2 h2 v2 : Nat} {b m sec : Int} {ts1 ts2 ts : List Tab} {ex : List Nat}
theorem TwoA.ext (T : TwoA C S hB s1 h1 v1 s2 h2 v2 b m sec ts1 ts2) (x : Ext ex S S') (n : ∀ i ∈ ex, i = 0 ∨ hB ≤ i) : TwoA C S' hB s1 h1 v1 s2 h2 v2 b m sec ts1 ts2 := by
  have d := T.o
  have l := x.len
  exact ⟨T.a.ext x fun i hi => by have := n i hi; omega, T.c.ext x fun i hi => by have := n i hi; omega, T.ne, by omega⟩
theorem TwoA.go {o o' : OD} {R : Sto} (T : TwoA C (o :: R) hB s1 h1 v1 s2 h2 v2 b m sec ts1 ts2) : TwoA C (o' :: R) hB s1 h1 v1 s2 h2 v2 b m sec ts1 ts2 := T.ext (Ext.st (ex := [0]) (by simp)) fun i hi => .inl (by simpa using hi)
end
end DL
namespace DL
open PySem PySem.Spec PyProof.Rows L2
theorem digsI (n : Int) (h0 : -20 ≤ n) (h1 : n ≤ 1000) : ((toString n : String) : Str).length ≤ 10 := by
  by_cases h : 0 ≤ n
  · obtain ⟨k, rfl⟩ := Int.eq_ofNat_of_zero_le h
    exact digs k (by omega)
  · have : ∀ k : Nat, k < 21 → ((toString (-(k : Int)) : String) : Str).length ≤ 10 := by decide +kernel
    have e := this (-n).toNat (by omega)
    rw [show (-(((-n).toNat : Nat) : Int)) = n by omega] at e
    exact e
def spRef1 (C : Addr) : Sp := fun vs H Q _ => ∃ (a : Addr) (n : Int), vs = [.ref a, .int n] ∧ -20 ≤ n ∧ n ≤ 1000 ∧ H a = some (exo a C none) ∧
  ∀ q dx, H q = none → H dx = none → dx ≠ q → Q .non (upd (upd (upd H q (mwo q a)) dx (exd dx [("number", .int n)])) a (exo a C (some dx)))
structure RefN (P : Program) (w : World) (K : PySem.W.Frag) (mg : Str → Option Value) (base : Heap) (x : Str) (C : Addr) : Prop where
  oex : OexC K C
  ex : ∃ (fI : Addr) (fd : FuncData) (ps : List Str), PySem.W.findIn K (.ref C) "__init__" = some (some (.ref fI)) ∧ PySem.W.typeIn K (.ref fI) = some (.type "function") ∧ FnOk P w K mg base C8.CX0 1 fI fd ps (spRef1 C) ∧ Binds K fd ps []
  mgC : mg x = some (.ref C)
def dRaise1 (C : Addr) (xw : XWK) (da : DA) : DS := fun _ env S => da env S fun ws S1 => ∃ n : Int, ws = [.fz (.int n)] ∧ -20 ≤ n ∧ n ≤ 1000 ∧ xw ⟨.ref C, [("number", .int n)]⟩ S1
theorem ds_raise1 {X : Cx} {Ξ : Xt} {C : Addr} {x : Str} {j : Nat} {e : Expr} {es : List Expr} {da : DA} {p pos pos2 : Pos} (R : RefN X.prog X.w X.K X.mg X.base x C) (hc : X.calm = true) (hr : Room j X.A) (hj : 2 ≤ j) (hg : Gl X x) (ha : DPA X Ξ (e :: es) da)
    (hdb : (x == ("__debug__" : Str)) = false := by decide) (he : starEach (e :: es) X.env = (false, eval e X.env) :: starEach es X.env := by rfl) (hpl : (backTo pos (starEach es X.env)).any (·.1) = false := by rfl) :
    DPS X Ξ (.Raise (some (.Call (.Name x p) (e :: es) [] pos)) none pos2) (dRaise1 C Ξ.xw da) := ⟨fun F ok => by
  obtain ⟨W, tk, hw⟩ := ok.x
  obtain ⟨fI, fd, ps, iC, tI, Fn, b⟩ := R.ex
  refine PS.imp (ps_raise (W := W) hc tk (pmk_oex (dvs := []) (ds := []) R.oex iC tI Fn (hr.mono hj) b .nil C8.pass0 hg R.mgC (ha.run F ok) hdb he hpl)) fun D σ H ⟨B, m, S, env, E, cf, er, h, k1, k2, k3, k4⟩ => ?_
  refine ⟨B, m, S, env, _, cf, er, h, fun ws S1 h1 vs H1 B1 m1 n1 r => ?_⟩
  obtain ⟨n, ews, hn0, hn, hx⟩ := h1
  subst ews
  obtain ⟨v2, rfl, r2⟩ : ∃ v2, vs = [v2] ∧ RW X.K B1 m1 (.fz (.int n)) v2 := by
    cases r with
    | cons a t => cases t; exact ⟨_, rfl, a⟩
  obtain rfl : v2 = .int n := r2.int_of
  refine ⟨by show 1 ≤ 1000; decide, fun a hna => ⟨a, n, rfl, hn0, hn, upd_same, fun q dx hq hdx ne => ⟨rfl, dx, [("number", .int n)], upd_same, ?_, ?_, ?_⟩⟩⟩
  all_goals have ne2 : dx ≠ a := fun z => by rw [z, upd_same] at hdx; cases hdx
  all_goals have hd1 : H1 dx = none := by rw [upd_ne ne2] at hdx; exact hdx
  · rw [upd_ne ne2, upd_same]
  · exact hd1
  · have ne3 : q ≠ a := fun z => by rw [z, upd_same] at hq; cases hq
    have hq1 : H1 q = none := by rw [upd_ne ne3] at hq; exact hq
    obtain ⟨fb, fm, ft, fh⟩ := n1.cf.fresh hq1
    have n2 := Nx.side (o := mwo q a) n1.cf.nx fh ft hq1 fb fm
    have n3 := n2.cf.alloc (p := dx) (o := .xd [("number", .int n)]) (by rw [upd_ne ne]; exact hd1)
    have eH : upd (del (upd (upd (upd (upd H1 a (exo a C none)) q (mwo q a)) dx (exd dx [("number", .int n)])) a (exo a C (some dx))) a) dx (.xd [("number", .int n)]) = upd (upd H1 q (mwo q a)) dx (.xd [("number", .int n)]) := by
      funext b
      by_cases h1 : b = dx
      · rw [h1, upd_same, upd_same]
      · rw [upd_ne h1, upd_ne h1]
        by_cases h2 : b = a
        · rw [h2, del_same, upd_ne (fun z => ne3 z.symm)]
          exact hna.symm
        · rw [del_ne h2, upd_ne h2, upd_ne h1]
          by_cases h3 : b = q
          · rw [h3, upd_same, upd_same]
          · rw [upd_ne h3, upd_ne h3, upd_ne h2]
    rw [eH]
    exact hw _ _ hx _ _ _ _ _ n3.cf (.some upd_same (.cons .int .nil))⟩
structure RefT (K : PySem.W.Frag) (mg : Str → Option Value) (x : Str) (C : Addr) : Prop where
  ex : PySem.W.excIn K C [Value.type "ValueError", Value.type "Exception", Value.type "BaseException", Value.type "object"] "ValueError.__new__" = true
  kC : PySem.W.keepIn K (.ref C) = true
  exC : PySem.W.subIn K (.ref C) (.type "BaseException") = some true
  tyC : PySem.W.typeIn K (.ref C) = some (.type "type")
  mgC : mg x = some (.ref C)
structure ExcX (K : PySem.W.Frag) (C : Addr) : Prop where
  is : ExcC K C
  cls : (PySem.W.clsIn K C).isSome = true
  xf : XfC K C
  one : PySem.W.exmOne K (.ref C) (.ref C) = some true
structure IsA (K : PySem.W.Frag) (mg : Str → Option Value) (y : Str) (C : Addr) (b : Bool) : Prop where
  ex : ∃ A, mg y = some (.ref A) ∧ PySem.W.kitOne K (.ref C) (.ref A) = some b
structure IsV (K : PySem.W.Frag) (mg : Str → Option Value) (C : Addr) : Prop where
  no : mg "ValueError" = none
  is : PySem.W.kitOne K (.ref C) (.type "ValueError") = some true
def XdAt (H : Hp) (d : Option Addr) : Prop := d = none ∨ ∃ dd fs, d = some dd ∧ H dd = some (.xd fs)
theorem call_isX {X : Cx} {a D : Addr} {oe : Obj} {d : Option Addr} {pn : List (Addr × Obj)} (C : ExcX X.K D) (hz : Zc (.ref D) d oe) (hf : ∃ vs, oe.data = .fields vs) :
    CallR (X.suite a ((a, oe) :: pn)) (.builtin "isinstance") (fun xs H Q => ∃ (c : V) (cv : Value) (b : Bool), xs = [.ref a, c] ∧ (∀ u, RelV c u → u = cv) ∧ PySem.W.kitOne X.K (.ref D) cv = some b ∧ XdAt H d ∧ Q (.bl b) H) := fun pins s σ H xs us Q I r ⟨c, cv, b, exs, hcv, e, hd, q⟩ => by
  subst exs
  cases r with
  | cons rx rr => cases rr with
    | cons rt rr =>
      cases rr
      obtain rfl := rx
      have ec := hcv _ rt
      subst ec
      obtain ⟨hget, _⟩ := I.pin (a, oe) (List.mem_append.mpr (.inl List.mem_cons_self))
      obtain ⟨vs, hv⟩ := hf
      have ho : ∃ od : Option Obj, (match oe.dict, od with | some dx, some o => s.heap.get? dx = some o | none, none => True | _, _ => False) := by
        rw [hz.2]
        rcases hd with e | ⟨dd, fs, e, hH⟩
        · rw [e]; exact ⟨none, trivial⟩
        · rw [e]
          obtain ⟨mA, n1, _⟩ := I.hok dd _ hH
          obtain ⟨o, _, _, g, _⟩ := n1
          exact ⟨some o, g⟩
      obtain ⟨od, ho⟩ := ho
      have J : PySem.W.InstAt s.heap a oe D od := ⟨hget, hz.1, by unfold PySem.W.notCls; rw [hv], ho⟩
      exact PySem.W.kia_one (PySem.W.kitx_exc C.cls C.is.hg C.is.hk C.is.hs C.is.ha C.is.hn C.is.ht C.is.hm) I.kIn J e (fun z => nomatch z) fun tk => ⟨.bl b, H, I.kept fun _ _ z => z, rfl, q⟩
def tIsX (i : Nat) (a : Addr) (cls : Value) (d : Option Addr) (C : Addr) (b : Bool) : TE := fun σ H Q => σ[i]? = some (some (.ref a)) ∧ cls = .ref C ∧ XdAt H d ∧ Q (.bl b) H
section
variable {X : Cx} {a C : Addr} {oe : Obj} {cls : Value} {d : Option Addr} {pn : List (Addr × Obj)} {n y : Str} {p p2 p3 pos : Pos} {b : Bool}
theorem pe_isX (i : Nat) (E : ExcX X.K C) (A : IsA X.K X.mg y C b) (bi : X.mg "isinstance" = none) (hz : Zc cls d oe) (hf : ∃ vs, oe.data = .fields vs) (hi : X.N[i]? = some n) (hln : X.env.kindOf n = some .local) (hg : Gl X "isinstance" := by rfl) (hgy : Gl X y := by rfl)
    (hd2 : (n == ("__debug__" : Str)) = false := by decide) (hd3 : (n == ("__classdict__" : Str)) = false := by decide) (hdy : (y == ("__debug__" : Str)) = false := by decide)
    (he : starEach [.Name n p2, .Name y p3] X.env = (false, eval (.Name n p2) X.env) :: starEach [.Name y p3] X.env := by rfl) (he2 : starEach [.Name y p3] X.env = (false, eval (.Name y p3) X.env) :: starEach [] X.env := by rfl) (hpl : (backTo pos (starEach [.Name y p3] X.env)).any (·.1) = false := by rfl) :
    PE (X.suite a ((a, oe) :: pn)) (.Call (.Name "isinstance" p) [.Name n p2, .Name y p3] [] pos) (tIsX i a cls d C b) := ⟨fun pins s σ H Q I ⟨hs, ec, hd, q⟩ => by
  subst ec
  obtain ⟨A, mA, kA⟩ := A.ex
  refine (pe_callB (X := X.suite a ((a, oe) :: pn)) (call_isX E hz hf) hg bi PyProof.Rows.boot_isinstance (pa_cons (pv i hi (.inl hln) hd2 hd3) (pa_cons (pe_glob (v := .ref A) hgy mA rfl hdy) pa_nil he2) he) (by decide) (by decide) he hpl).run pins s σ H Q I ?_
  exact ⟨_, hs, .ref A, .ref A, b, rfl, fun u z => z, kA, hd, q⟩⟩
theorem pe_isV (i : Nat) (E : ExcX X.K C) (A : IsV X.K X.mg C) (bi : X.mg "isinstance" = none) (hz : Zc cls d oe) (hf : ∃ vs, oe.data = .fields vs) (hi : X.N[i]? = some n) (hln : X.env.kindOf n = some .local) (hg : Gl X "isinstance" := by rfl) (hgy : Gl X "ValueError" := by rfl)
    (hd2 : (n == ("__debug__" : Str)) = false := by decide) (hd3 : (n == ("__classdict__" : Str)) = false := by decide)
    (he : starEach [.Name n p2, .Name "ValueError" p3] X.env = (false, eval (.Name n p2) X.env) :: starEach [.Name "ValueError" p3] X.env := by rfl) (he2 : starEach [.Name "ValueError" p3] X.env = (false, eval (.Name "ValueError" p3) X.env) :: starEach [] X.env := by rfl) (hpl : (backTo pos (starEach [.Name "ValueError" p3] X.env)).any (·.1) = false := by rfl) :
    PE (X.suite a ((a, oe) :: pn)) (.Call (.Name "isinstance" p) [.Name n p2, .Name "ValueError" p3] [] pos) (tIsX i a cls d C true) := ⟨fun pins s σ H Q I ⟨hs, ec, hd, q⟩ => by
  subst ec
  refine (pe_callB (X := X.suite a ((a, oe) :: pn)) (call_isX E hz hf) hg bi PyProof.Rows.boot_isinstance (pa_cons (pv i hi (.inl hln) hd2 hd3) (pa_cons (pe_bltn (v := .ty "ValueError") hgy A.no (u := .type "ValueError") (by decide +kernel) rfl (by decide) (by decide)) pa_nil he2) he) (by decide) (by decide) he hpl).run pins s σ H Q I ?_
  exact ⟨_, hs, .ty "ValueError", .type "ValueError", true, rfl, fun u z => z, A.is, hd, q⟩⟩
end
def dTryV (C : Addr) (val : XD → Option D) (ds : XWK → DS) : DS := fun D env S => ds (fun x S' => x.cls = .ref C ∧ onO (val x) fun v => D.rt (.fz v) S') D env S
theorem ds_tryV {X : Cx} {Ξ : Xt} {C : Addr} {x n : Str} {i : Nat} {body suite : List Stmt} {b0 : Stmt} {ds : XWK → DS} {np pos pos' : Pos} {ts : Addr → Value → Option Addr → TS} {val : XD → Option D} (one : PySem.W.exmOne X.K (.ref C) (.ref C) = some true) (hg : Gl X x) (hm : X.mg x = some (.ref C))
    (hb : ∀ (pn : List (Addr × Obj)) (xe : Value → Shared → Prop) (xw : XWK), PassesOwn (model X.prog X.w) X.A X.env xe → DPSs (X.tr pn xe) ⟨Ξ.T, xw, none⟩ body (ds xw))
    (hh : ∀ (a : Addr) (oe : Obj) (cls : Value) (d : Option Addr) (pn : List (Addr × Obj)), Zc cls d oe → (∃ vs, oe.data = .fields vs) → PSs (X.suite a ((a, oe) :: pn)) (b0 :: suite) (ts a cls d))
    (hv : ∀ (F : Fx) (B : Hp) (m : List Addr) (S : Sto) (H : Hp) (a : Addr) (x : XD) (d : Option Addr) (σ : L2.St) (D : L2.Ends) (v : DL.D), Cf X.K F B m S H → RX X.K B x.fs d → x.cls = .ref C → val x = some v → σ[i]? = some (some (.ref a)) → XdAt H d →
      (∀ u H' B' m', Nx X.K F B m H B' m' S H' → RW X.K B' m' (.fz v) u → D.rt u H') → ts a x.cls d D σ H) (hN : X.N.Nodup)
    (hs : X.stack = X.env :: X.outer := by rfl) (hf : X.env.frame = some X.env.locals := by rfl) (hi : X.N[i]? = some n := by rfl) (hln : X.env.kindOf n = some .local := by rfl)
    (hd1 : (x == ("__debug__" : Str)) = false := by decide) :
    DPS X Ξ (.Try body [.ExceptHandler (some (.Name x np)) (some n) (b0 :: suite) pos'] [] [] pos) (dTryV C val ds) := ⟨fun F ok => by
  refine PS.imp (ps_try_as (X := X) (c := .ref C) (i := i) (Wout := fun _ _ _ _ => False) (ts := ts)
    (tb := fun W D σ H => ∃ (F' : Fx) (xw : XWK), F'.T = Ξ.T ∧ (∀ (x : XD) (S' : Sto), xw x S' → ∀ (σ' : L2.St) (H' B' : Hp) (m' : List Addr) (d : Option Addr), σ'.length = X.N.length → Cf X.K F' B' m' S' H' → RX X.K B' x.fs d → W x.cls d σ' H') ∧ lS X.K F' (ds xw) D σ H)
    hs hf hN hi hln ⟨hg, hd1, .inl hm⟩ takes_none (fun W pn xe tk po => ⟨fun pins s σ H D I ⟨F', xw, ht, hw, h⟩ => ?_⟩) hh) fun D σ H h => ?_
  · have tk2 : Takes (X.tr pn xe) (fun cls d σ H => σ.length = X.N.length → W cls d σ H) := fun u s' ⟨a, B, sI, pins, σ, H, cls, d, e, I, nb, up, sky, na, os, ag, w⟩ => tk u s' ⟨a, B, sI, pins, σ, H, cls, d, e, I, nb, up, sky, na, os, ag, w I.len⟩
    exact ((hb pn xe xw po).run F' ⟨ht, ⟨_, tk2, fun x S' hx σ' H' B' m' d cf rx hl => hw x S' hx σ' H' B' m' d hl cf rx⟩, fun n z => nomatch z⟩).run pins s σ H D I h
  · obtain ⟨B, m, S, env, E, cf, er, h, k1, k2, k3, k4⟩ := h
    refine ⟨⟨B, H, m, F.T⟩, _, ok.t, fun y S' hx σ' H' B' m' d hl cf' rx => ?_, B, m, S, env, E, cf.self, er, h, fun env' S' q σ' H' B' m' n => k1 _ _ q _ _ _ _ (cf.backG n), fun w S' q v H' B' m' n => k2 _ _ q _ _ _ _ (cf.backG n), fun env' S' q σ' H' B' m' n => k3 _ _ q _ _ _ _ (cf.backG n), fun env' S' q σ' H' B' m' n => k4 _ _ q _ _ _ _ (cf.backG n)⟩
    obtain ⟨hc, hrt⟩ := hx
    obtain ⟨v, ev, hrt⟩ := onO_ex hrt
    refine ⟨true, by rw [hc]; exact one, fun _ a hna => ?_, fun z => by cases z⟩
    have nx := cf.backG cf'.nxE
    have hil : i < σ'.length := by
      rw [hl]
      exact (List.getElem?_eq_some_iff.mp hi).1
    have hget : (σ'.set i (some (.ref a)))[i]? = some (some (.ref a)) := List.getElem?_set_self hil
    have hx : XdAt H' d := by
      cases rx with
      | none e => exact .inl rfl
      | @some dd fvs e rf => exact .inr ⟨dd, fvs, rfl, cf'.sub _ _ e⟩
    exact hv _ _ _ _ _ a y d _ _ v nx.cf rx hc ev hget hx fun u H2 B2 m2 n2 r2 => k2 _ _ hrt _ _ _ _ (nx.trans n2) r2⟩
section
variable {X : Cx} {Ξ : Xt} {C : Addr} {x n f y1 y2 word w1 : Str} {i : Nat} {body : List Stmt} {ds : XWK → DS} {np pos pos' : Pos} {p1 p2 p3 p4 p5 p6 p7 p8 p9 a1 a2 a3 a4 b1 b2 b3 b4 c1 c2 c3 c4 d1 d2 d3 d4 : Pos} {j0 j1 x1 x2 : Nat}
theorem ds_tryN (E : ExcX X.K C) (A : IsA X.K X.mg y1 C true) (V : IsV X.K X.mg C) (B : IsA X.K X.mg y2 C false) (bi : X.mg "isinstance" = none) (nf : PySem.W.findIn X.K (.ref C) f = some none) (hm : X.mg x = some (.ref C))
    (hb : ∀ (pn : List (Addr × Obj)) (xe : Value → Shared → Prop) (xw : XWK), PassesOwn (model X.prog X.w) X.A X.env xe → DPSs (X.tr pn xe) ⟨Ξ.T, xw, none⟩ body (ds xw)) (hN : X.N.Nodup)
    (hg : Gl X x := by rfl) (hgi : Gl X "isinstance" := by rfl) (hg1 : Gl X y1 := by rfl) (hg2 : Gl X y2 := by rfl) (hgv : Gl X "ValueError" := by rfl)
    (hs : X.stack = X.env :: X.outer := by rfl) (hf : X.env.frame = some X.env.locals := by rfl) (hi : X.N[i]? = some n := by rfl) (hln : X.env.kindOf n = some .local := by rfl)
    (hd1 : (x == ("__debug__" : Str)) = false := by decide) (hd2 : (n == ("__debug__" : Str)) = false := by decide) (hd3 : (n == ("__classdict__" : Str)) = false := by decide) (he1 : (y1 == ("__debug__" : Str)) = false := by decide) (he2 : (y2 == ("__debug__" : Str)) = false := by decide) :
    DPS X Ξ (.Try body [.ExceptHandler (some (.Name x np)) (some n) [.If (.BoolOp .Or [.UnaryOp .Not (.Call (.Name "isinstance" a1) [.Name n a2, .Name y1 a3] [] a4) p1, .UnaryOp .Not (.Call (.Name "isinstance" b1) [.Name n b2, .Name "ValueError" b3] [] b4) p2, .Call (.Name "isinstance" c1) [.Name n c2, .Name y2 c3] [] c4] p3)
      [.Return (some (.BinOp (.Constant (.int 0) j0 p4) .Sub (.Constant (.int 2) j1 p5) p6)) p7] [] p8, .Return (some (.Attribute (.Name n d1) f d2)) d3] pos'] [] [] pos) (dTryV C (fun x => x.fs.lookup f) ds) := by
  refine ds_tryV (ts := fun a cls d => tSeq (tIfS (tOr (tNot (tB (tIsX i a cls d C true))) (tOr (tNot (tB (tIsX i a cls d C true))) (tB (tIsX i a cls d C false)))) (tRet (tSub (tC (.int 0)) (tC (.int 2)))) fun D σ H => D.nx σ H) (tRet (tXf a cls d C f (tVar i)))) E.one hg hm hb
    (fun a oe cls d pn hz hv => pss_cons (ps_if (PW.pt (pw_or (pt_not (pt_val (pe_isX i E A bi hz hv hi hln hgi hg1 hd2 hd3 he1))) (pw_or (pt_not (pt_val (pe_isV i E V bi hz hv hi hln hgi hgv hd2 hd3))) (pw_or1 (pt_val (pe_isX i E B bi hz hv hi hln hgi hg2 hd2 hd3 he2)))))) (pss_one (ps_ret (pe_sub pe_int pe_int))) pss_nil) (pss_one (ps_ret (pe_xf E.xf nf hz hv (pv i hi (.inl hln) hd2 hd3)))))
    (fun F B m S H a x d σ D v cf rx hc hval hsl hx hk => ?_) hN hs hf hi hln hd1
  refine ⟨hsl, hc, hx, true, rfl, ?_⟩
  refine ⟨hsl, hc, hx, true, rfl, ?_⟩
  refine ⟨hsl, hc, hx, false, rfl, ?_⟩
  refine ⟨_, hsl, rfl, hc, ?_⟩
  cases rx with
  | none e => rw [e] at hval; cases hval
  | @some dd fvs e rf =>
    obtain ⟨u, lu, ru⟩ := rpf_look rf hval
    exact ⟨dd, fvs, u, rfl, cf.sub _ _ e, lu, hk _ _ _ _ cf.nx (.fz ru)⟩
end
end DL
namespace DL
open PySem PySem.Spec PyProof.Rows L2
theorem mg_same {mg : Str → Option Value} {x : Str} {C C' : Addr} (h : mg x = some (.ref C)) (g : mg x = some (.ref C')) : C' = C := by
  rw [h] at g
  cases g
  rfl
structure XcIn (K : PySem.W.Frag) (x : Str) : Prop where
  ex : ∃ C, PySem.W.nsIn K mainGlobals x = some (some (.ref C)) ∧ ExcX K C
theorem XcIn.df {K : PySem.W.Frag} {x : Str} {h : Heap} {mg : Str → Option Value} {C : Addr} (D : XcIn K x) (X : K.In h) (G : h.Ns mainGlobals mg) (m : mg x = some (.ref C)) : ExcX K C := by
  obtain ⟨C', a, e⟩ := D.ex
  obtain rfl := mg_same m (PySem.W.mg_of X G a)
  exact e
theorem xcI {K : PySem.W.Frag} {x : Str} {C : Addr} {cd : ClassData} (a : PySem.W.nsIn K mainGlobals x = some (some (.ref C))) (hD : PySem.W.clsIn K C = some cd) (ga : PySem.W.findIn K (.ref C) "__getattribute__" = some (some (.builtin "BaseException.__getattribute__"))) (gg : PySem.W.findIn K (.ref C) "__getattr__" = some none)
    (exC : PySem.W.subIn K (.ref C) (.type "BaseException") = some true) (hdC : PySem.W.hasDictIn K C = true) (ha : PySem.W.findIn K (.ref C) "__class__" = some (some (.builtin "object.__class__"))) (hn : PySem.W.specialIn K (.builtin "object.__class__") "__get__" = some (some (.builtin "getset_descriptor.__get__")))
    (ht : PySem.W.takesIn K (.builtin "object.__class__") = some true) (hm : PySem.W.mroIn K C (.type "object") = some true) (tyC : PySem.W.typeIn K (.ref C) = some (.type "type")) (sC : PySem.W.subIn K (.ref C) (.ref C) = some true) : XcIn K x :=
  ⟨C, a, ⟨ga, gg, exC, hdC, ha, hn, ht, hm⟩, by rw [hD]; rfl, ⟨ga, gg, exC, hdC⟩, exm_self hD tyC exC sC⟩
structure IaIn (K : PySem.W.Frag) (x y : Str) (b : Bool) : Prop where
  ex : ∃ C A, PySem.W.nsIn K mainGlobals x = some (some (.ref C)) ∧ PySem.W.nsIn K mainGlobals y = some (some (.ref A)) ∧ PySem.W.kitOne K (.ref C) (.ref A) = some b
theorem IaIn.df {K : PySem.W.Frag} {x y : Str} {b : Bool} {h : Heap} {mg : Str → Option Value} {C : Addr} (D : IaIn K x y b) (X : K.In h) (G : h.Ns mainGlobals mg) (m : mg x = some (.ref C)) : IsA K mg y C b := by
  obtain ⟨C', A, a, c, e⟩ := D.ex
  obtain rfl := mg_same m (PySem.W.mg_of X G a)
  exact ⟨A, PySem.W.mg_of X G c, e⟩
theorem kit_cls {K : PySem.W.Frag} {C A : Addr} {cd : ClassData} {b : Bool} (hD : PySem.W.clsIn K A = some cd) (tyA : PySem.W.typeIn K (.ref A) = some (.type "type")) (s : PySem.W.subIn K (.ref C) (.ref A) = some b) : PySem.W.kitCls K (.ref C) (.ref A) = some b := by
  unfold PySem.W.kitCls
  dsimp only
  rw [hD, tyA, s]
  simp
theorem iaT {K : PySem.W.Frag} {x y : Str} {C A : Addr} {cd : ClassData} (a : PySem.W.nsIn K mainGlobals x = some (some (.ref C))) (c : PySem.W.nsIn K mainGlobals y = some (some (.ref A))) (hD : PySem.W.clsIn K A = some cd) (tyA : PySem.W.typeIn K (.ref A) = some (.type "type")) (s : PySem.W.subIn K (.ref C) (.ref A) = some true) : IaIn K x y true :=
  ⟨C, A, a, c, by
    unfold PySem.W.kitOne
    split
    · rfl
    · exact kit_cls hD tyA s⟩
theorem iaF {K : PySem.W.Frag} {x y : Str} {C A : Addr} {cd : ClassData} (a : PySem.W.nsIn K mainGlobals x = some (some (.ref C))) (c : PySem.W.nsIn K mainGlobals y = some (some (.ref A))) (hD : PySem.W.clsIn K A = some cd) (tyA : PySem.W.typeIn K (.ref A) = some (.type "type")) (s : PySem.W.subIn K (.ref C) (.ref A) = some false) (ne : (Value.ref C == Value.ref A) = false) : IaIn K x y false :=
  ⟨C, A, a, c, by
    unfold PySem.W.kitOne
    rw [ne, if_neg Bool.false_ne_true]
    exact kit_cls hD tyA s⟩
structure IvIn (K : PySem.W.Frag) (x : Str) : Prop where
  ex : ∃ C, PySem.W.nsIn K mainGlobals x = some (some (.ref C)) ∧ PySem.W.nsIn K mainGlobals "ValueError" = some none ∧ PySem.W.kitOne K (.ref C) (.type "ValueError") = some true
theorem IvIn.df {K : PySem.W.Frag} {x : Str} {h : Heap} {mg : Str → Option Value} {C : Addr} (D : IvIn K x) (X : K.In h) (G : h.Ns mainGlobals mg) (m : mg x = some (.ref C)) : IsV K mg C := by
  obtain ⟨C', a, c, e⟩ := D.ex
  obtain rfl := mg_same m (PySem.W.mg_of X G a)
  exact ⟨PySem.W.mg_none_of X G c, e⟩
theorem ivI {K : PySem.W.Frag} {x : Str} {C : Addr} (a : PySem.W.nsIn K mainGlobals x = some (some (.ref C))) (c : PySem.W.nsIn K mainGlobals "ValueError" = some none) (s : PySem.W.subIn K (.ref C) (.type "ValueError") = some true) : IvIn K x :=
  ⟨C, a, c, by
    unfold PySem.W.kitOne
    rw [show (Value.ref C == Value.type "ValueError") = false from rfl, if_neg Bool.false_ne_true]
    show (if PySem.W.kitMeta "ValueError" = true then PySem.W.subIn K (.ref C) (.type "ValueError") else none) = some true
    rw [if_pos (by decide +kernel), s]⟩
structure RtIn (K : PySem.W.Frag) (x : Str) : Prop where
  ex : ∃ C, PySem.W.nsIn K mainGlobals x = some (some (.ref C)) ∧ PySem.W.excIn K C [Value.type "ValueError", Value.type "Exception", Value.type "BaseException", Value.type "object"] "ValueError.__new__" = true ∧ PySem.W.keepIn K (.ref C) = true ∧ PySem.W.subIn K (.ref C) (.type "BaseException") = some true ∧ PySem.W.typeIn K (.ref C) = some (.type "type")
theorem RtIn.df {K : PySem.W.Frag} {x : Str} {h : Heap} {mg : Str → Option Value} (D : RtIn K x) (X : K.In h) (G : h.Ns mainGlobals mg) : ∃ C, RefT K mg x C := by
  obtain ⟨C, a, e1, e2, e3, e4⟩ := D.ex
  exact ⟨C, e1, e2, e3, e4, PySem.W.mg_of X G a⟩
end DL
namespace DL
open PySem PySem.Spec PyProof.Rows L2
def inV (ts : List Tab) (i : Int) : Prop := 0 ≤ i ∧ i < (ts.length : Nat)
instance (ts : List Tab) (i : Int) : Decidable (inV ts i) := inferInstanceAs (Decidable (_ ∧ _))
end DL
namespace DL
open PySem PySem.Spec PyProof.Rows L2
def okRows (t : Tab) : Prop := ∀ r ∈ t, isKey r.1 ∧ isRow r.2
theorem okRows.app {t u : Tab} (h : okRows t) (g : okRows u) : okRows (t ++ u) := fun r hr => (List.mem_append.mp hr).elim (h r) (g r)
structure CpA (C : Addr) (S : Sto) (s hr : Nat) (b m : Int) (hd : Link) (sz : Int) (rows : Tab) : Prop where
  at_ : S[s]? = some (.ins C [("_rule", .fz (ruleD b m)), ("_head", .fz (linkD hd)), ("_size", .fz (.int sz)), ("_rows", .hd hr)])
  rws : S[hr]? = some (.lst ((rows.map tabR).map W.fz))
  rule : isRule b m
  pos : 1 ≤ s ∧ 1 ≤ hr
  sz : 0 ≤ sz ∧ sz ≤ 1000
  keys : okRows rows
  few : rows.length ≤ 100
  nn : 0 ≤ hd.n
theorem CpA.ne {C : Addr} {S : Sto} {s hr : Nat} {b m : Int} {hd : Link} {sz : Int} {rows : Tab} (h : CpA C S s hr b m hd sz rows) : s ≠ hr := by
  intro e
  have h1 := h.at_
  rw [e, h.rws] at h1
  cases h1
theorem CpA.ext {C : Addr} {S S' : Sto} {s hr : Nat} {b m : Int} {hd : Link} {sz : Int} {rows : Tab} {ex : List Nat} (h : CpA C S s hr b m hd sz rows) (x : Ext ex S S') (n : ∀ i ∈ ex, i ≠ s ∧ i ≠ hr) : CpA C S' s hr b m hd sz rows :=
  ⟨x.get h.at_ fun z => (n s z).1 rfl, x.get h.rws fun z => (n hr z).2 rfl, h.rule, h.pos, h.sz, h.keys, h.few, h.nn⟩
theorem CpA.go {C : Addr} {o o' : OD} {R : Sto} {s hr : Nat} {b m : Int} {hd : Link} {sz : Int} {rows : Tab} (h : CpA C (o :: R) s hr b m hd sz rows) : CpA C (o' :: R) s hr b m hd sz rows := h.ext (Ext.st (ex := [0]) (by simp)) fun i hi => by
  rw [List.mem_singleton.mp hi]
  have := h.pos
  omega
end DL
namespace DL
open PySem PySem.Spec PyProof.Rows L2
def BxAt (S : Sto) (hb : Nat) (cs : List D) : Except Rf Nat → Prop
  | .ok k => S[hb]? = some (.lst [.fz (.lst cs), .fz (.int ((k : Nat) : Int)), .fz .non])
  | .error rf => ∃ i : Int, S[hb]? = some (.lst [.fz (.lst cs), .fz (.int i), .fz (refD rf)])
theorem BxAt.ext {S S' : Sto} {hb : Nat} {cs : List D} {r : Except Rf Nat} {ex : List Nat} (h : BxAt S hb cs r) (x : Ext ex S S') (n : hb ∉ ex) : BxAt S' hb cs r := by
  cases r with
  | ok k => exact x.get h n
  | error rf => obtain ⟨i, h⟩ := h; exact ⟨i, x.get h n⟩
theorem BxAt.lt {S : Sto} {hb : Nat} {cs : List D} {r : Except Rf Nat} (h : BxAt S hb cs r) : hb < S.length := by
  cases r with
  | ok k => exact (List.getElem?_eq_some_iff.mp h).1
  | error rf => obtain ⟨i, h⟩ := h; exact (List.getElem?_eq_some_iff.mp h).1
def PtA (S : Sto) (p : Nat) (l : Link) : Prop := S[p]? = some (.lst [.fz (linkD l), .fz .non])
theorem PtA.ext {S S' : Sto} {p : Nat} {l : Link} {ex : List Nat} (h : PtA S p l) (x : Ext ex S S') (n : p ∉ ex) : PtA S' p l := x.get h n
theorem PtA.lt {S : Sto} {p : Nat} {l : Link} (h : PtA S p l) : p < S.length := (List.getElem?_eq_some_iff.mp h).1
def EndB {α : Type} (S : Sto) (hb : Nat) (cs : List D) (ex : List Nat) (r : Except Rf (α × SrcS)) (Kp : α → Sto → Prop) (Ke : Sto → Prop) : Prop := match r with
  | .ok (a, st) => ∀ k S', st = .gv cs k → BxAt S' hb cs (.ok k) → Ext ex S S' → Kp a S'
  | .error rf => ∀ S', BxAt S' hb cs (.error rf) → Ext ex S S' → Ke S'
theorem EndB.step {α : Type} {S S2 : Sto} {hb : Nat} {cs : List D} {ex ex1 ex2 : List Nat} {r : Except Rf (α × SrcS)} {Kp : α → Sto → Prop} {Ke : Sto → Prop} (h : EndB S hb cs ex r Kp Ke) (x : Ext ex1 S S2) (h1 : ∀ i ∈ ex1, i < S.length → i ∈ ex) (h2 : ∀ i ∈ ex2, i < S.length → i ∈ ex) : EndB S2 hb cs ex2 r Kp Ke := by
  have xx : ∀ {S'}, Ext ex2 S2 S' → Ext ex S S' := fun a => (x.mono h1).trans a (fun _ h => h) h2
  unfold EndB at h ⊢
  split
  · exact fun k S' e a1 a2 => h k S' e a1 (xx a2)
  · exact fun S' a1 a2 => h S' a1 (xx a2)
theorem EndB.bnd {α β : Type} {S : Sto} {hb : Nat} {cs : List D} {ex : List Nat} {r : Except Rf (α × SrcS)} {k : α → SrcS → Except Rf (β × SrcS)} {Kp : β → Sto → Prop} {Kq : α → Sto → Prop} {Ke Kf : Sto → Prop} (h : EndB S hb cs ex (bnd r k) Kp Ke)
    (g : ∀ a i S', EndB S hb cs ex (k a (.gv cs i)) Kp Ke → BxAt S' hb cs (.ok i) → Ext ex S S' → r = .ok (a, .gv cs i) → Kq a S') (e : ∀ rf S', r = .error rf → (∀ S', BxAt S' hb cs (.error rf) → Ext ex S S' → Ke S') → BxAt S' hb cs (.error rf) → Ext ex S S' → Kf S') : EndB S hb cs ex r Kq Kf := by
  cases r with
  | error rf => exact fun S' a1 a2 => e rf S' rfl h a1 a2
  | ok x =>
    obtain ⟨a, st'⟩ := x
    intro i S' e1 a1 a2
    subst e1
    exact g a i S' h a1 a2 rfl
structure WkB (S : Sto) (hb p : Nat) (b m : Int) (cs : List D) (k : Nat) (l : Link) : Prop where
  box : BxAt S hb cs (.ok k)
  part : PtA S p l
  rule : isRule b m
  ok : okS b m (.gv cs k) ⟨l, none⟩
  ne : p ≠ hb
end DL
namespace DL
open PySem PySem.Spec PyProof.Rows L2
def BAt (S : Sto) : PA → Nat → List Nat → Prop
  | .un l _, p, fp => fp = [p] ∧ S[p]? = some (.lst [.fz (linkD l), .fz .non])
  | .op l _ k r x y, p, fp => ∃ nd px py fx fy, fp = p :: nd :: (fx ++ fy) ∧ S[p]? = some (.lst [.fz (linkD l), .hd nd]) ∧
    S[nd]? = some (.lst [.fz (.str k), .fz (rowD r), .hd px, .hd py]) ∧ BAt S x px fx ∧ BAt S y py fy
theorem BAt.mem {S : Sto} {pa : PA} {p : Nat} {fp : List Nat} (h : BAt S pa p fp) : p ∈ fp := by
  cases pa with
  | un l t => rw [h.1]; exact List.mem_cons_self
  | op l t k r x y => obtain ⟨nd, px, py, fx, fy, e, _⟩ := h; rw [e]; exact List.mem_cons_self
theorem BAt.lt {S : Sto} : ∀ {pa : PA} {p : Nat} {fp : List Nat}, BAt S pa p fp → ∀ i ∈ fp, i < S.length
  | .un l t, p, fp, h, i, hi => by
    rw [h.1, List.mem_singleton] at hi
    rw [hi]
    exact (List.getElem?_eq_some_iff.mp h.2).1
  | .op l t k r x y, p, fp, h, i, hi => by
    obtain ⟨nd, px, py, fx, fy, e, h1, h2, h3, h4⟩ := h
    rw [e] at hi
    rcases List.mem_cons.mp hi with z | hi
    · rw [z]; exact (List.getElem?_eq_some_iff.mp h1).1
    rcases List.mem_cons.mp hi with z | hi
    · rw [z]; exact (List.getElem?_eq_some_iff.mp h2).1
    rcases List.mem_append.mp hi with z | z
    · exact h3.lt i z
    · exact h4.lt i z
theorem BAt.ext {S S' : Sto} {ex : List Nat} (x : Ext ex S S') : ∀ {pa : PA} {p : Nat} {fp : List Nat}, BAt S pa p fp → (∀ i ∈ fp, i ∉ ex) → BAt S' pa p fp
  | .un l t, p, fp, h, n => ⟨h.1, x.get h.2 (n p (by rw [h.1]; exact List.mem_cons_self))⟩
  | .op l t k r u v, p, fp, h, n => by
    obtain ⟨nd, px, py, fx, fy, e, h1, h2, h3, h4⟩ := h
    subst e
    exact ⟨nd, px, py, fx, fy, rfl, x.get h1 (n p (by simp)), x.get h2 (n nd (by simp)), h3.ext x fun i hi => n i (by simp [hi]), h4.ext x fun i hi => n i (by simp [hi])⟩
theorem BAt.app {S T : Sto} {pa : PA} {p : Nat} {fp : List Nat} (h : BAt S pa p fp) : BAt (S ++ T) pa p fp := h.ext (Ext.app (ex := [])) (fun _ _ z => nomatch z)
theorem BAt.part {S : Sto} {pa : PA} {p : Nat} {fp : List Nat} (h : BAt S pa p fp) : ∃ w, S[p]? = some (.lst [.fz (linkD pa.l), w]) := by
  cases pa with
  | un l t => exact ⟨_, h.2⟩
  | op l t k r x y => obtain ⟨nd, px, py, fx, fy, e, h1, _⟩ := h; exact ⟨_, h1⟩
theorem BxAt.app {S T : Sto} {hb : Nat} {cs : List D} {r : Except Rf Nat} (h : BxAt S hb cs r) : BxAt (S ++ T) hb cs r := h.ext (Ext.app (ex := [])) (fun z => nomatch z)
structure WkO (S : Sto) (hb : Nat) (b m : Int) (cs : List D) (k U : Nat) (fp : List Nat) : Prop where
  box : BxAt S hb cs (.ok k)
  rule : isRule b m
  okp : okP (.gv cs k) U
  nd : fp.Nodup
  ne : hb ∉ fp
theorem WkO.out {S : Sto} {hb : Nat} {b m : Int} {cs : List D} {k U : Nat} {fp gs : List Nat} (w : WkO S hb b m cs k U fp) (f : ∀ i ∈ gs, i ∈ fp ∨ S.length ≤ i) : hb ∉ gs := fun z => by
  have := w.box.lt
  rcases f _ z with y | y
  · exact w.ne y
  · omega
theorem WkO.go {S S1 : Sto} {hb : Nat} {b m : Int} {cs : List D} {k k1 U V Y : Nat} {fp gs : List Nat} (w : WkO S hb b m cs k U fp) (box : BxAt S1 hb cs (.ok k1)) (a : Aft (.gv cs k) (.gv cs k1) U V) (n : gs.Nodup) (f : ∀ i ∈ gs, i ∈ fp ∨ S.length ≤ i) : WkO S1 hb b m cs k1 Y gs :=
  ⟨box, w.rule, a.okP w.okp, n, w.out f⟩
theorem Ext.box {hb : Nat} {fp : List Nat} {S S' : Sto} (x : Ext [hb] S S') : Ext (hb :: fp) S S' := x.mono fun i hi _ => by rw [List.mem_singleton.mp hi]; exact List.mem_cons_self
def JP : W → Sto → Prop := fun w S => ∃ p l x, w = .hd p ∧ S[p]? = some (.lst [.fz (linkD l), x])
theorem JP.app {w : W} {S T : Sto} (h : JP w S) : JP w (S ++ T) := by
  obtain ⟨p, l, x, e, h⟩ := h
  exact ⟨p, l, x, e, app_get h⟩
def EndO {α : Type} (S : Sto) (hb : Nat) (cs : List D) (fp : List Nat) (R : Rep α) (J : W → Sto → Prop) (r : Except Rf (α × SrcS)) (Kp : WK) : Prop := match r with
  | .ok (a, st') => ∀ k S' w gs, st' = .gv cs k → BxAt S' hb cs (.ok k) → Ext (hb :: fp) S S' → R S' a w gs → Fresh S fp gs → Kp w S'
  | .error rf => ∀ S' w, BxAt S' hb cs (.error rf) → Ext (hb :: fp) S S' → J w S' → Kp w S'
theorem Ext.transO {hb : Nat} {fp fp1 : List Nat} {S S1 S2 : Sto} (a : Ext (hb :: fp) S S1) (d : Ext (hb :: fp1) S1 S2) (f : ∀ i ∈ fp1, i ∈ fp ∨ S.length ≤ i) : Ext (hb :: fp) S S2 := by
  refine a.trans d (fun _ h => h) fun i hi hl => ?_
  rcases List.mem_cons.mp hi with z | hi
  · rw [z]; exact List.mem_cons_self
  rcases f i hi with z | z
  · exact List.mem_cons_of_mem _ z
  · omega
theorem EndO.call {α β : Type} {S S1 : Sto} {hb : Nat} {cs : List D} {fp fp1 : List Nat} {R' : Rep β} {J' : W → Sto → Prop} {R : Rep α} {J : W → Sto → Prop} {r : Except Rf (α × SrcS)} {k : α → SrcS → Except Rf (β × SrcS)} {Kp Kq : WK} (h : EndO S hb cs fp R' J' (bnd r k) Kp) (x : Ext (hb :: fp) S S1) (f : ∀ i ∈ fp1, i ∈ fp ∨ S.length ≤ i)
    (g : ∀ a i S' w gs, r = .ok (a, .gv cs i) → BxAt S' hb cs (.ok i) → Ext (hb :: fp1) S1 S' → Ext (hb :: fp) S S' → R S' a w gs → Fresh S1 fp1 gs → EndO S hb cs fp R' J' (k a (.gv cs i)) Kp → Kq w S')
    (e : ∀ rf S' w, BxAt S' hb cs (.error rf) → Ext (hb :: fp1) S1 S' → Ext (hb :: fp) S S' → J w S' → (∀ S2 w2, BxAt S2 hb cs (.error rf) → Ext (hb :: fp) S S2 → J' w2 S2 → Kp w2 S2) → Kq w S') : EndO S1 hb cs fp1 R J r Kq := by
  cases r with
  | error rf => exact fun S' w a1 a2 a3 => e rf S' w a1 a2 (x.transO a2 f) a3 h
  | ok v =>
    obtain ⟨a, st'⟩ := v
    intro i S' w gs e1 h1 h2 h3 h4
    subst e1
    exact g a i S' w gs rfl h1 h2 (x.transO h2 f) h3 h4 h
theorem EndO.last {α : Type} {S S1 : Sto} {hb : Nat} {cs : List D} {fp fp1 : List Nat} {R : Rep α} {J : W → Sto → Prop} {r : Except Rf (α × SrcS)} {Kp : WK} (h : EndO S hb cs fp R J r Kp) (x : Ext (hb :: fp) S S1) (f : ∀ i ∈ fp1, i ∈ fp ∨ S.length ≤ i) : EndO S1 hb cs fp1 R J r Kp := by
  cases r with
  | error rf => exact fun S' w a1 a2 a3 => h S' w a1 (x.transO a2 f) a3
  | ok v =>
    obtain ⟨a, st'⟩ := v
    exact fun i S' w gs e1 h1 h2 h3 h4 => h i S' w gs e1 h1 (x.transO h2 f) h3 ⟨h4.nd, fun j hj => (h4.sub j hj).elim (f j) fun z => .inr (Nat.le_trans x.len z)⟩
structure OpdO (S S' : Sto) (hb p : Nat) (fp : List Nat) (nd px py : Nat) (fx fy : List Nat) (cs : List D) (k' : Nat) (pa : PA) (o : OpA) : Prop where
  box : BxAt S' hb cs (.ok k')
  ext : Ext (hb :: fp) S S'
  part : S'[p]? = some (.lst [.fz (linkD pa.l), .hd nd])
  node : S'[nd]? = some (.lst [.fz (.str o.1), .fz (rowD o.2.1), .hd px, .hd py])
  x : BAt S' o.2.2.1 px fx
  y : BAt S' o.2.2.2 py fy
  fr : Fresh S fp (p :: nd :: (fx ++ fy))
theorem OpdO.at {S S' : Sto} {hb p : Nat} {fp : List Nat} {nd px py : Nat} {fx fy : List Nat} {cs : List D} {k' : Nat} {pa : PA} {o : OpA} (h : OpdO S S' hb p fp nd px py fx fy cs k' pa o) : BAt S' (opd pa o) p (p :: nd :: (fx ++ fy)) :=
  ⟨nd, px, py, fx, fy, rfl, h.part, h.node, h.x, h.y⟩
theorem OpdO.sub {S S' : Sto} {hb p : Nat} {fp : List Nat} {nd px py : Nat} {fx fy : List Nat} {cs : List D} {k' : Nat} {pa : PA} {o : OpA} (h : OpdO S S' hb p fp nd px py fx fy cs k' pa o) : Fresh S fp (fx ++ fy) :=
  ⟨(List.nodup_cons.mp (List.nodup_cons.mp h.fr.nd).2).2, fun i hi => h.fr.sub i (List.mem_cons_of_mem _ (List.mem_cons_of_mem _ hi))⟩
theorem OpdO.keep {S S' S2 : Sto} {hb p : Nat} {fp : List Nat} {b m : Int} {nd px py : Nat} {fx fy gs : List Nat} {cs : List D} {k k' U : Nat} {pa : PA} {o : OpA} (h : OpdO S S' hb p fp nd px py fx fy cs k' pa o) (w : WkO S hb b m cs k U fp) (x : Ext (hb :: gs) S' S2) (g : ∀ i ∈ gs, i ∈ fx ++ fy) : S2[nd]? = some (.lst [.fz (.str o.1), .fz (rowD o.2.1), .hd px, .hd py]) := by
  have n := w.out h.fr.sub
  refine x.get h.node fun z => ?_
  rcases List.mem_cons.mp z with z | z
  · subst z; exact n (by simp)
  · exact (List.nodup_cons.mp (List.nodup_cons.mp h.fr.nd).2).1 (g _ z)
theorem BAt.emp {b m : Int} {S : Sto} : BAt (S ++ [.lst [.fz (linkD (link0 b m)), .fz .non]]) (emp b m) S.length [S.length] := ⟨rfl, set_app1 rfl⟩
end DL
namespace DL
open PySem PySem.Spec PyProof.Rows L2
theorem BAt.kind {S : Sto} : ∀ {pa : PA} {p : Nat} {fp : List Nat}, BAt S pa p fp → ∀ i ∈ fp, ∃ l, S[i]? = some (.lst l) ∧ (l.length = 2 ∨ l.length = 4)
  | .un l t, p, fp, h, i, hi => by
    rw [h.1, List.mem_singleton] at hi
    rw [hi]
    exact ⟨_, h.2, .inl rfl⟩
  | .op l t k r x y, p, fp, h, i, hi => by
    obtain ⟨nd, px, py, fx, fy, e, h1, h2, h3, h4⟩ := h
    rw [e] at hi
    rcases List.mem_cons.mp hi with z | hi
    · rw [z]; exact ⟨_, h1, .inl rfl⟩
    rcases List.mem_cons.mp hi with z | hi
    · rw [z]; exact ⟨_, h2, .inr rfl⟩
    rcases List.mem_append.mp hi with z | z
    · exact h3.kind i z
    · exact h4.kind i z
theorem BxAt.no {S : Sto} {hb f q : Nat} {cs : List D} {r : Except Rf Nat} {c d : W} (h : BxAt S hb cs r) (g : S[f]? = some (.lst [.hd q, c, d])) : f ≠ hb := fun z => by
  subst z
  cases r with
  | ok k =>
    have h : S[f]? = _ := h
    rw [g] at h
    injection h with h
    injection h with h
    cases h
  | error rf =>
    obtain ⟨i, h⟩ := h
    rw [g] at h
    injection h with h
    injection h with h
    cases h
def bx0 (cs : List D) : OD := .lst [.fz (.lst cs), .fz (.int ((0 : Nat) : Int)), .fz .non]
def pt0 (l : Link) : OD := .lst [.fz (linkD l), .fz .non]
structure Own2 (o : OD) (R : Sto) (b m : Int) (cs : List D) (l1 l2 : Link) : Prop where
  wk : WkO ((o :: R) ++ [bx0 cs] ++ [pt0 l1] ++ [pt0 l2]) (o :: R).length b m cs 0 ((gvA l1).unz + (gvA l2).unz) ([((o :: R) ++ [bx0 cs]).length] ++ [((o :: R) ++ [bx0 cs] ++ [pt0 l1]).length])
  a1 : BAt ((o :: R) ++ [bx0 cs] ++ [pt0 l1] ++ [pt0 l2]) (gvA l1) ((o :: R) ++ [bx0 cs]).length [((o :: R) ++ [bx0 cs]).length]
  a2 : BAt ((o :: R) ++ [bx0 cs] ++ [pt0 l1] ++ [pt0 l2]) (gvA l2) ((o :: R) ++ [bx0 cs] ++ [pt0 l1]).length [((o :: R) ++ [bx0 cs] ++ [pt0 l1]).length]
  ne : 0 ∉ (o :: R).length :: ([((o :: R) ++ [bx0 cs]).length] ++ [((o :: R) ++ [bx0 cs] ++ [pt0 l1]).length])
end DL
set_option maxHeartbeats 2000000
namespace GX
open PySem PySem.Spec PyProof.Rows L2
abbrev lstO (its : Array Value) (c : Nat) : Obj := { cls := .type "list", dict := none, data := .seq its c, slots := #[] }
def TxAt (S : Addr) (z : List Str) (h : Heap) : Prop := ∃ its c, h.get? S = some (lstO its c) ∧ StrsAre its.toList z
structure SlJ (S : Addr) (z : List Str) (s s' : Shared) : Prop where
  os : s'.os = s.os
  bare : AllBare s'.gens
  keep : ∀ b o, b ≠ S → s.heap.get? b = some o → s'.heap.get? b = some o
  sum : TxAt S z s'.heap
section
variable {X : Cx} {pins : List (Addr × Obj)} {σ : L2.St} {H : Hp} {s : Shared}
end

section
variable {X : Cx} {s3 : Shared} {H3 : Hp} {genv : Env} {fp : List Addr} {pn : List (Addr × Obj)} {σ : L2.St} {vs : List Nat} {elt tg iter : Expr} {ifs : List Expr} {scope : Scope} {pos : Pos} {it S : Addr} {tn : Nat → Heap → Prop} {J : It} {g : TG} {tt : TT} {te : TE}
end

section
variable {X : Cx} {s3 : Shared} {H3 : Hp} {genv : Env} {fp : List Addr} {a S : Addr} {g : Nat} {go : Obj} {nm qn : Value}
end
section
variable {prog : Program} {w : World} {A : Around}
end
end GX
namespace DL
open PySem PySem.Spec PyProof.Rows L2 GX
def onS (y : W) (k : Str → Prop) : Prop := match y with
  | .fz (.str i) => k i
  | _ => False
theorem onS_ex {y : W} {k : Str → Prop} (h : onS y k) : ∃ i, y = .fz (.str i) ∧ k i := by
  unfold onS at h
  split at h
  · exact ⟨_, rfl, h⟩
  · exact h.elim
section
variable {X : Cx} {Ξ : Xt} {o elt tg iter : Expr} {ifs : List Expr} {scope : Scope} {ow : List (Str × Nat)} {pos apos gpos : Pos} {de : DE} {di : DI} {g : TG} {dg : DG} {tt : DT} {te : DE} {cdv : Value} {k : Nat}
end
def txL : List W → Option (List Str)
  | [] => some []
  | .fz (.str y) :: r => (txL r).map (y :: ·)
  | _ :: _ => none
theorem txL_map (ys : List Str) : txL (ys.map fun y => W.fz (.str y)) = some ys := by
  induction ys with
  | nil => rfl
  | cons y ys ih => show (txL (ys.map _)).map (y :: ·) = _; rw [ih]; rfl
theorem txL_eq : ∀ {ws : List W} {ys : List Str}, txL ws = some ys → ws = ys.map fun y => W.fz (.str y)
  | [], ys, h => by cases h; rfl
  | .fz (.str y) :: r, ys, h => by
    unfold txL at h
    cases e : txL r with
    | none => rw [e] at h; cases h
    | some zs =>
      rw [e] at h
      cases h
      rw [List.map_cons, ← txL_eq e]
  | .fz .non :: _, _, h => by cases h
  | .fz (.bl _) :: _, _, h => by cases h
  | .fz (.int _) :: _, _, h => by cases h
  | .fz (.tup _) :: _, _, h => by cases h
  | .fz (.lst _) :: _, _, h => by cases h
  | .fz (.obj _ _) :: _, _, h => by cases h
  | .fz (.scr _) :: _, _, h => by cases h
  | .fz (.ty _) :: _, _, h => by cases h
  | .hd _ :: _, _, h => by cases h
  | .tp _ :: _, _, h => by cases h
  | .xo _ _ _ :: _, _, h => by cases h
theorem RWL.strs {K : PySem.W.Frag} {B : Hp} {m : List Addr} : ∀ {ys : List Str} {vs : List V}, RWL K B m (ys.map fun y => W.fz (.str y)) vs → vs = ys.map V.str
  | [], _, .nil => rfl
  | y :: ys, _, .cons r t => by rw [r.str_of, RWL.strs t]; rfl
theorem RWL.ofStrs {K : PySem.W.Frag} {B : Hp} {m : List Addr} : ∀ (ys : List Str), RWL K B m (ys.map fun y => W.fz (.str y)) (ys.map V.str)
  | [] => .nil
  | y :: ys => .cons (.fz .str) (RWL.ofStrs ys)
def joinFit (a : Str) (ys : List Str) : Prop := (ys.map (·.length)).sum + ys.length * a.length ≤ 16777216
def dJoin (de da : DE) : DE := fun env S Kp => de env S fun x S1 => onS x fun a => da env S1 fun y S2 => onO (vS S2 y) fun ws => onO (txL ws) fun ys => joinFit a ys ∧ Kp (.fz (.str (Txt.join a ys))) S2
def dSplit (own : Bool) (de da : DE) : DE := fun env S Kp => de env S fun x S1 => onS x fun a => da env S1 fun y S2 => onS y fun b => (b.length == 0) = false ∧ a.length + 2 ≤ sizeLine ∧ newL own ((Txt.split a b).map fun y => .fz (.str y)) S2 Kp
def intSW : DRL := fun ws S Kp => match ws with
  | [.fz (.str a)] => ∃ n, PySem.intText? a = some n ∧ a.length ≤ 640 ∧ Kp (.fz (.int n)) S
  | _ => False
section
variable {X : Cx} {Ξ : Xt} {o e : Expr} {es : List Expr} {de da : DE} {das : DA} {pos apos p : Pos}
theorem dpe_join (ho : DPE X Ξ o de) (he : DPE X Ξ e da) (hs : starEach [e] X.env = [(false, eval e X.env)] := by rfl) (hbase : attributeBase o "join" X.env (eval o X.env) = eval o X.env := by rfl) (hline : (apos.endLine == pos.line) = true := by rfl) :
    DPE X Ξ (.Call (.Attribute o "join" apos) [e] [] pos) (dJoin de da) := ⟨fun F ok => PE.imp (pe_join (ho.run F ok) (he.run F ok) hs hbase hline) fun σ H Q ⟨B, m, S, env, Kp, cf, er, h, k⟩ => by
  refine ⟨B, m, S, env, _, cf, er, h, fun x S1 h1 v H1 B1 m1 n1 r => ?_⟩
  obtain ⟨a, ex, h1⟩ := onS_ex h1
  subst ex
  refine ⟨⟨a, r.str_of⟩, B1, m1, S1, env, _, n1.cf, er.nx n1, h1, fun y S2 h2 u H2 B2 m2 n2 r2 => ?_⟩
  obtain ⟨ws, e1, h2⟩ := onO_ex h2
  obtain ⟨ys, e2, hf, h2⟩ := onO_ex h2
  obtain ⟨q, vs, eq, hq, rr⟩ := vS_ok n2.cf r2 e1
  rw [txL_eq e2] at rr
  rw [rr.strs] at hq
  exact ⟨a, q, ys, r.str_of, by rw [eq], hq, hf, k _ _ h2 _ _ _ _ (n1.trans n2) (.fz .str)⟩⟩
theorem dpe_split (own : Bool) (ho : DPE X Ξ o de) (he : DPE X Ξ e da) (hs : starEach [e] X.env = [(false, eval e X.env)] := by rfl) (hbase : attributeBase o "split" X.env (eval o X.env) = eval o X.env := by rfl) (hline : (apos.endLine == pos.line) = true := by rfl) :
    DPE X Ξ (.Call (.Attribute o "split" apos) [e] [] pos) (dSplit own de da) := ⟨fun F ok => PE.imp (pe_split (ho.run F ok) (he.run F ok) hs hbase hline) fun σ H Q ⟨B, m, S, env, Kp, cf, er, h, k⟩ => by
  refine ⟨B, m, S, env, _, cf, er, h, fun x S1 h1 v H1 B1 m1 n1 r => ?_⟩
  obtain ⟨a, ex, h1⟩ := onS_ex h1
  subst ex
  refine ⟨⟨a, r.str_of⟩, B1, m1, S1, env, _, n1.cf, er.nx n1, h1, fun y S2 h2 u H2 B2 m2 n2 r2 => ?_⟩
  obtain ⟨b, ey, hb, hz, h3⟩ := onS_ex h2
  subst ey
  exact ⟨a, b, r.str_of, by rw [r2.str_of], hb, hz, fun q hq => newL_ok n2.cf (RWL.ofStrs _) h3 (k.nx (n1.trans n2)) hq⟩⟩
theorem cd_intS : CallD X (.type "int") intSW := fun F => CallR.imp call_int_str fun xs H Q ⟨B, m, S, ws, Kp, cf, r, h, k⟩ => by
  unfold intSW at h
  split at h
  · obtain ⟨v, e, rv⟩ := r.one
    subst e
    obtain ⟨n, h1, h2, h3⟩ := h
    rw [rv.str_of]
    exact ⟨_, n, rfl, h1, h2, k.here cf h3 (.fz .int)⟩
  · exact h.elim
theorem e_intS (bi : Bi X.mg) (ha : DPA X Ξ (e :: es) das) (hg : Gl X "int" := by rfl) (he : starEach (e :: es) X.env = (false, eval e X.env) :: starEach es X.env := by rfl) (hpl : (backTo pos (starEach es X.env)).any (·.1) = false := by rfl) : DPE X Ξ (.Call (.Name "int" p) (e :: es) [] pos) (dCB intSW das) := dpe_callTy cd_intS hg bi.int PyProof.Rows.boot_int ha (by decide) (by decide) he hpl
end
end DL
namespace DL
open PySem PySem.Spec PyProof.Rows L2
def digitsS : Str := "0123456789"
def digB (w : Str) : Bool := (decide (1 ≤ ((w.length : Nat) : Int)) && decide (((w.length : Nat) : Int) ≤ 5)) && w.cps.toList.all fun c => decide (c ∈ digitsS.cps.toList)
def numV (w : Str) : Int := ((NumText.digitsVal w.cps.toList : Nat) : Int)
def zeroB (w : Str) : Bool := decide (1 < ((w.length : Nat) : Int)) && decide (w.cps.toList[0]? = some 48)
def numO (w : Str) (most : Int) : Option Int := if digB w then (if zeroB w || decide (most < numV w) then none else some (numV w)) else none
def oD : Option Int → D
  | none => .non
  | some i => .int i
def spNumW : PSp := fun ds Q => ∃ w most, ds = [.str w, .int most] ∧ w.length ≤ 1000 ∧ Q (oD (numO w most))
theorem digit_rng : ∀ c : Nat, c ∈ digitsS.cps.toList → 48 ≤ c ∧ c ≤ 57 := by decide +kernel
theorem dig_in {c : Nat} (h : 48 ≤ c ∧ c ≤ 57) : c ∈ digitsS.cps.toList := by
  have g : ∀ c : Fin 58, 48 ≤ c.val → c.val ∈ digitsS.cps.toList := by decide +kernel
  exact g ⟨c, by omega⟩ h.1
theorem digB_ex {w : Str} (h : digB w = true) : 1 ≤ w.cps.toList.length ∧ w.cps.toList.length ≤ 5 ∧ NumText.AllDigits w.cps.toList := by
  unfold digB at h
  rw [Bool.and_eq_true, Bool.and_eq_true, decide_eq_true_eq, decide_eq_true_eq, len_l] at h
  refine ⟨by omega, by omega, fun c hc => ?_⟩
  exact digit_rng c (of_decide_eq_true (List.all_eq_true.mp h.2 c hc))
theorem digB_int {w : Str} (h : digB w = true) : PySem.intText? w = some (numV w) := by
  obtain ⟨h1, h2, h3⟩ := digB_ex h
  exact PySem.intText_digits h3 (fun z => by rw [z] at h1; exact absurd h1 (by decide)) (by rw [len_l]; omega)
def numS (i : Int) : Str := Str.ofString (toString i)
theorem numS_l (n : Nat) : (numS ((n : Nat) : Int)).cps.toList = TL.numL n := TL.tl_num n
theorem numL_head : ∀ n : Nat, 1 ≤ n → (TL.numL n)[0]? ≠ some 48 := by
  intro n
  induction n using Nat.strongRecOn with
  | _ n ih =>
    intro h1 e
    by_cases h : n < 10
    · rw [TL.numL_lt h] at e
      simp at e
      omega
    · rw [TL.numL_step (by omega)] at e
      have hl : 0 < (TL.numL (n / 10)).length := List.length_pos_iff.mpr (TL.numL_ne _)
      rw [List.getElem?_append_left hl] at e
      exact ih (n / 10) (by omega) (by omega) e
theorem numO_num {i most : Int} (h0 : 0 ≤ i) (h1 : i ≤ most) (h5 : i ≤ 99999) : numO (numS i) most = some i := by
  obtain ⟨n, rfl⟩ : ∃ n : Nat, i = ((n : Nat) : Int) := ⟨i.toNat, by omega⟩
  have el := numS_l n
  have hd := TL.numL_digits n
  have hlen : (TL.numL n).length ≤ 5 := TL.numL_len (by decide) (by show n < 100000; omega)
  have hpos : 1 ≤ (TL.numL n).length := List.length_pos_iff.mpr (TL.numL_ne _)
  have e1 : digB (numS ((n : Nat) : Int)) = true := by
    unfold digB
    rw [len_l, el, decide_eq_true (by omega), decide_eq_true (by omega), Bool.true_and, Bool.true_and]
    exact List.all_eq_true.mpr fun c hc => decide_eq_true (dig_in (hd c hc))
  have e2 : zeroB (numS ((n : Nat) : Int)) = false := by
    unfold zeroB
    rw [len_l, el]
    by_cases hn : n < 10
    · rw [TL.numL_lt hn]; rfl
    · rw [decide_eq_false (numL_head n (by omega)), Bool.and_false]
  have e3 : numV (numS ((n : Nat) : Int)) = ((n : Nat) : Int) := by
    unfold numV
    rw [el, TL.numL_val]
  unfold numO
  rw [e1, if_pos rfl, e2, e3, decide_eq_false (by omega)]
  rfl
theorem numS_len {i : Int} (h0 : 0 ≤ i) (h5 : i ≤ 99999) : (numS i).length ≤ 5 := by
  obtain ⟨n, rfl⟩ : ∃ n : Nat, i = ((n : Nat) : Int) := ⟨i.toNat, by omega⟩
  rw [len_l, numS_l]
  exact TL.numL_len (by decide) (by show n < 100000; omega)
theorem numS_free {i : Int} (h0 : 0 ≤ i) {s : Nat} (h : s < 48 ∨ 57 < s) : s ∉ (numS i).cps.toList := by
  obtain ⟨n, rfl⟩ : ∃ n : Nat, i = ((n : Nat) : Int) := ⟨i.toNat, by omega⟩
  rw [numS_l]
  exact TL.numL_free h
def rowOf (ws : List Str) : Option (List Int) := if (decide (1 ≤ ((ws.length : Nat) : Int)) && decide (((ws.length : Nat) : Int) ≤ 3)) && ws.all fun w => (numO w 65535).isSome then some (ws.map fun w => (numO w 65535).getD 0) else none
def spRowOf : PSp := fun ds Q => ∃ ws : List Str, ds = [.lst (ws.map D.str)] ∧ ws.length ≤ 1000 ∧ (∀ w ∈ ws, w.length ≤ 1000) ∧ Q (match rowOf ws with
  | some r => rowD r
  | none => .non)
theorem any_oD : ∀ ws : List Str, ((ws.map fun w => oD (numO w 65535)).any fun z => eqD z .non) = !(ws.all fun w => (numO w 65535).isSome)
  | [] => rfl
  | w :: ws => by
    rw [List.map_cons, List.any_cons, List.all_cons, any_oD ws]
    cases numO w 65535 with
    | none => show (true || _) = _; rw [Bool.true_or]; rfl
    | some i => show (false || _) = _; rw [Bool.false_or, show (some i).isSome = true from rfl, Bool.true_and]
theorem oD_some : ∀ {ws : List Str}, (ws.all fun w => (numO w 65535).isSome) = true → (ws.map fun w => oD (numO w 65535)) = (ws.map fun w => (numO w 65535).getD 0).map D.int
  | [], _ => rfl
  | w :: ws, h => by
    rw [List.all_cons, Bool.and_eq_true] at h
    rw [List.map_cons, List.map_cons, List.map_cons, oD_some h.2]
    cases e : numO w 65535 with
    | none => rw [e] at h; exact absurd h.1 Bool.false_ne_true
    | some i => rfl
theorem words_split {ws : List Str} (hne : ws ≠ []) (h : ∀ w ∈ ws, (32 : Nat) ∉ w.cps.toList) : Txt.split (Txt.join " " ws) " " = ws :=
  TL.split_join (y := " ") (s := 32) (S := []) (by decide +kernel) (by decide +kernel) hne h
theorem join_len (y : Str) (hy : y.length = 1) : ∀ ws : List Str, (Txt.join y ws).length ≤ (ws.map fun w => w.length + 1).sum := by
  intro ws
  rw [len_l, TL.join_eq, show (Str.join y ws).cps.toList = TL.joinL y.cps.toList (ws.map TL.tl) from TL.tl_join y ws]
  rw [len_l] at hy
  induction ws with
  | nil => exact Nat.zero_le _
  | cons a r ih =>
    cases r with
    | nil =>
      show (TL.tl a).length ≤ a.length + 1 + 0
      rw [len_l]; exact Nat.le_succ _
    | cons b r =>
      have e : ((a :: b :: r).map fun w => w.length + 1).sum = a.cps.toList.length + 1 + ((b :: r).map fun w => w.length + 1).sum := by rw [List.map_cons, List.sum_cons, len_l]
      have e2 : (TL.joinL y.cps.toList ((a :: b :: r).map TL.tl)).length = a.cps.toList.length + (1 + (TL.joinL y.cps.toList ((b :: r).map TL.tl)).length) := by
        show (TL.tl a ++ (y.cps.toList ++ TL.joinL y.cps.toList ((b :: r).map TL.tl))).length = _
        rw [List.length_append, List.length_append, hy]
      rw [e, e2]
      omega
theorem sum_le {α : Type} (f : α → Nat) (b : Nat) : ∀ {l : List α}, (∀ a ∈ l, f a ≤ b) → (l.map f).sum ≤ l.length * b
  | [], _ => by simp
  | a :: l, h => by
    rw [List.map_cons, List.sum_cons, List.length_cons, Nat.add_mul, Nat.one_mul]
    have := sum_le f b (l := l) fun x hx => h x (List.mem_cons_of_mem _ hx)
    have := h a List.mem_cons_self
    omega
theorem fit_few {a : Str} (ha : a.length = 1) {ys : List Str} {b : Nat} (hb : b ≤ 1000) (h : ∀ y ∈ ys, y.length ≤ b) (hl : ys.length ≤ 1000) : joinFit a ys := by
  unfold joinFit
  have h1 := sum_le (fun y : Str => y.length) b h
  have h2 : ys.length * b ≤ 1000 * 1000 := Nat.mul_le_mul hl hb
  have h1 : (ys.map fun y => y.length).sum ≤ ys.length * b := h1
  rw [ha]
  omega
end DL
namespace DL
open PySem PySem.Spec PyProof.Rows L2
def badN (C : Addr) (i : Int) (Xp : XWK) (S : Sto) : Prop := (-20 ≤ i ∧ i ≤ 1000) ∧ Xp ⟨.ref C, [("number", .int i)]⟩ S
theorem join_all {P : Nat → Prop} {y : Str} (hy : ∀ c ∈ y.cps.toList, P c) {ws : List Str} (h : ∀ w ∈ ws, ∀ c ∈ w.cps.toList, P c) : ∀ c ∈ (Txt.join y ws).cps.toList, P c := by
  rw [TL.join_eq, show (Str.join y ws).cps.toList = TL.joinL y.cps.toList (ws.map TL.tl) from TL.tl_join y ws]
  induction ws with
  | nil => exact fun _ z => nomatch z
  | cons a r ih =>
    cases r with
    | nil => exact h a List.mem_cons_self
    | cons b r =>
      intro c z
      rcases List.mem_append.mp (show c ∈ TL.tl a ++ (y.cps.toList ++ TL.joinL y.cps.toList ((b :: r).map TL.tl)) from z) with z | z
      · exact h a List.mem_cons_self c z
      rcases List.mem_append.mp z with z | z
      · exact hy c z
      · exact ih (fun w hw => h w (List.mem_cons_of_mem _ hw)) c z
theorem strOk_iff {x : Str} : PyData.strOk x = true ↔ ∀ c ∈ x.cps.toList, c < 0x110000 := by
  unfold PyData.strOk
  rw [Array.all_eq_true_iff_forall_mem]
  simp [Array.mem_toList_iff]
theorem low_ok {x : Str} (h : ∀ c ∈ x.cps.toList, c < 128) : PyData.strOk x = true := strOk_iff.mpr fun c hc => Nat.lt_trans (h c hc) (by decide)
theorem numS_low {i : Int} (h0 : 0 ≤ i) : ∀ c ∈ (numS i).cps.toList, c < 128 := by
  obtain ⟨n, rfl⟩ : ∃ n : Nat, i = ((n : Nat) : Int) := ⟨i.toNat, by omega⟩
  rw [numS_l]
  intro c hc
  have := TL.numL_digits n c hc
  omega
theorem sep_low : (∀ c ∈ (" " : Str).cps.toList, c < 128) ∧ ∀ c ∈ ("\n" : Str).cps.toList, c < 128 := ⟨by decide +kernel, by decide +kernel⟩
theorem cut_tail {α : Type} (a : α) (r : List α) : cutL (a :: r) (some 1) none = r := by
  unfold cutL
  have e1 : HT.sIx (a :: r).length 0 (some 1) = 1 := (HT.sIx_nat _ 0 1).trans (by rw [List.length_cons]; omega)
  rw [e1, HT.sIx_none]
  show List.take (r.length + 1 - 1) r = r
  exact List.take_length
theorem num_log {i : Int} (h0 : 0 ≤ i) (h5 : i ≤ 99999) : i.natAbs.log2 < 1920 := by
  have h : i.natAbs < 2 ^ 17 := by
    have : (2 : Nat) ^ 17 = 131072 := by decide
    omega
  by_cases z : i.natAbs = 0
  · rw [z]; decide
  · exact Nat.lt_trans ((Nat.log2_lt z).mpr h) (by decide)
theorem cutL_map' {α β : Type} (f : α → β) (l : List α) (lo hi : Option Int) : cutL (l.map f) lo hi = (cutL l lo hi).map f := by
  unfold cutL
  rw [List.length_map, List.map_take, List.map_drop]
theorem onO_cutE {ds : List D} {lo hi : Option Int} {k : List D → Prop} (g : k (cutL ds lo hi)) : onO (fzL (cutL (ds.map W.fz) lo hi)) k := by
  rw [cutL_map', fzL_map]
  exact g
theorem onO_hd0 {w : W} {ws : List W} {k : W → Prop} (h : k w) : onO (atI (w :: ws) 0) k :=
  onO_at (Int.le_refl 0) (by rw [List.length_cons]; omega) fun z hz => by cases hz; exact h
theorem onO_joinK {ys : List Str} {S : Sto} {ds : List D} {k : List Str → Prop} (e : ds = ys.map D.str) (hk : k ys) : onO (vS S (.fz (.lst ds))) fun ws => onO (txL ws) k := by
  subst e
  show onO (txL ((ys.map D.str).map W.fz)) _
  rw [List.map_map]
  exact onO_some (txL_map ys) hk
end DL
namespace DL
open PySem PySem.Spec PyProof.Rows L2
def okC (c : Nat) : Prop := c < 128 ∧ c ≠ 10
instance : DecidablePred okC := fun c => inferInstanceAs (Decidable (c < 128 ∧ c ≠ 10))
def wordOk (w : Str) : Prop := (∀ c ∈ w.cps.toList, okC c ∧ c ≠ 32) ∧ w.length ≤ 12
theorem w1 : ∀ w ∈ (["1", "2", "3", "4", ""] : List Str), wordOk w := by
  have h : ∀ w ∈ (["1", "2", "3", "4", ""] : List Str), (w.cps.toList.all fun c => decide (c < 128) && decide (c ≠ 10) && decide (c ≠ 32)) = true ∧ w.length ≤ 12 := by decide +kernel
  intro w hw
  obtain ⟨h2, h3⟩ := h w hw
  refine ⟨fun c hc => ?_, h3⟩
  have := List.all_eq_true.mp h2 c hc
  simp only [Bool.and_eq_true, decide_eq_true_eq] at this
  exact ⟨⟨this.1.1, this.1.2⟩, this.2⟩
theorem strs_at {ls : List Str} {i : Nat} {z : W} (h : ((ls.map D.str).map W.fz)[i]? = some z) : ∃ w ∈ ls, z = W.fz (.str w) := by
  rw [List.map_map] at h
  obtain ⟨w, hw, e⟩ := List.mem_map.mp (List.mem_of_getElem? h)
  exact ⟨w, hw, e.symm⟩
theorem cut_to {α : Type} (l : List α) {n : Nat} (h : n ≤ l.length) : cutL l none (some ((n : Nat) : Int)) = l.take n ∧ cutL l (some ((n : Nat) : Int)) none = l.drop n := by
  unfold cutL
  rw [HT.sIx_nat, HT.sIx_none, HT.sIx_nat, HT.sIx_none, Nat.min_eq_left h]
  refine ⟨by rw [List.drop_zero, Nat.sub_zero], ?_⟩
  exact List.take_of_length_le (by rw [List.length_drop]; exact Nat.le_refl _)
end DL
namespace DL
open PySem PySem.Spec PyProof.Rows L2
def Ites (z : Str) (k : Int) : It :=
  ⟨fun i _ => i < z.cps.size, fun i H v H' => ∃ T c, v = .ref T ∧ H T = none ∧ H' = upd H T (.tup [.int (k + ((i : Nat) : Int)), .str ⟨#[c]⟩]) ∧ z.cps[i]? = some c, fun i _ => z.cps.size ≤ i⟩
theorem turn_enumS {P : Program} {w : World} {K : PySem.W.Frag} {elts : List Expr} {kk : Nat} {tpos : Pos} (z : Str) (t : Tok) (k : Int) (e it : Addr) :
    Turn P w K (.Tuple elts kk tpos) (Ites z k) [e, it] e (fun i h => (∃ old, IsEnum h e it (k + ((i : Nat) : Int)) old) ∧ h.IsStrIter it (strIterType z) z t i ∧ i ≤ z.cps.size ∧ e ≠ it) where
  mem := by simp
  obj := fun i h st b hb => by
    obtain ⟨⟨old, he⟩, hi, _⟩ := st
    have e' : b = e ∨ b = it := by simpa using hb
    rcases e' with q | q
    · rw [q]; exact ⟨_, he, fun v q => nomatch q⟩
    · rw [q]; obtain ⟨o, ho, hc, hd⟩ := hi; exact ⟨o, ho, fun v q => by rw [hd] at q; cases q⟩
  keep := fun i h h' st k' => let ⟨⟨old, he⟩, hi, hz, hne⟩ := st; ⟨⟨old, k' e (by simp) _ he⟩, (let ⟨o, ho, r⟩ := hi; ⟨o, k' it (by simp) _ ho, r⟩), hz, hne⟩
  item := by
    intro X hP hw hK hc i pins s σ H E I hf st hg
    subst hP hw hK
    obtain ⟨⟨old, he⟩, hit, _, hne⟩ := st
    have hg : i < z.cps.size := hg
    have hel : e < s.heap.objs.size := Heap.lt_size he
    have hil : it < s.heap.objs.size := by obtain ⟨_, q, _⟩ := hit; exact Heap.lt_size q
    have D := Draws.text (prog := X.prog) (w := X.w) (A := X.A.in1) (I.ok.hd hc) it z t
    refine wpAny_pyNext_enum_itemC D he hit hg hne (by simpa using hne) fun x h' tk hx ho hit' hT hsz hk => ?_
    obtain ⟨c, u, hcz, rfl⟩ := hx
    refine ⟨_, rfl, wpAny_letOwnedTupleGo_enum (s := { s with heap := h', toks := tk + 1 }) ho fun h'' he' sb => ?_⟩
    have hT2 : h''.get? s.heap.objs.size = some { cls := .type "tuple", data := .seq #[.int (k + ((i : Nat) : Int)) tk, .str ⟨#[c]⟩ u] } := (sb.2 _ (Nat.ne_of_gt hel)).trans hT
    have new : ObjOk X.prog X.w (upd H s.heap.objs.size (.tup [.int (k + ((i : Nat) : Int)), .str ⟨#[c]⟩])) h'' s.heap.objs.size (.tup [.int (k + ((i : Nat) : Int)), .str ⟨#[c]⟩]) :=
      ⟨by show 2 ≤ sizeLine; decide, [.int (k + ((i : Nat) : Int)) tk, .str ⟨#[c]⟩ u], .cons ⟨_, rfl⟩ (.cons ⟨_, rfl⟩ .nil), ⟨_, hT2, rfl, _, rfl⟩⟩
    have I1 : Inv X pins σ (upd H s.heap.objs.size (.tup [.int (k + ((i : Nat) : Int)), .str ⟨#[c]⟩])) { s with heap := h'', toks := tk + 1 } :=
      I.turnedNew (ch := [e, it]) (fun b ob hb q => (sb.2 b (fun z => hb (by simp [z]))).trans (hk b ob (fun z => hb (by simp [z])) (fun z => hb (by simp [z])) q)) hf (Nat.le_refl _) new
    refine ⟨.ref s.heap.objs.size, _, I1, rfl, ⟨_, c, rfl, I.hok.fresh (Nat.le_refl _), rfl, hcz⟩, ⟨⟨.str ⟨#[c]⟩ u, ?_⟩, ?_, hg, hne⟩, fun b hb => ?_⟩
    · have e1 : k + ((i + 1 : Nat) : Int) = k + ((i : Nat) : Int) + 1 := by omega
      rw [e1]; exact he'
    · obtain ⟨o, ho, r⟩ := hit'
      exact ⟨o, (sb.2 it (Ne.symm hne)).trans ho, r⟩
    · have hb' : b < s.heap.objs.size := by
        have e' : b = e ∨ b = it := by simpa using hb
        rcases e' with q | q
        · rw [q]; exact hel
        · rw [q]; exact hil
      rw [upd_ne (Nat.ne_of_lt hb')]
      exact (hf b hb).1
  done := by
    intro X hP hw hK hc i pins s σ H E I hf st hg
    subst hP hw hK
    obtain ⟨⟨old, he⟩, hit, hz, hne⟩ := st
    have hg : z.cps.size ≤ i := hg
    have ei : i = z.cps.size := Nat.le_antisymm hz hg
    subst ei
    obtain ⟨f0, f1, f2, f3, f4, f5⟩ := hf it (by simp)
    have D := Draws.text (prog := X.prog) (w := X.w) (A := X.A.in1) (I.ok.hd hc) it z t
    exact wpAny_pyNext_enum_endD D he hit fun h' eb => ⟨rfl, I.turned (t' := s.toks) (fun b o hb q => eb b o hb q) f0 f1 f3 f4 f5⟩
  self := fun A i s Q E st h => let ⟨⟨_, he⟩, _⟩ := st; wpAny_pyIter_enum he h
def iEnumS (ta : TA) : TI := fun σ H R => ta σ H fun vs H1 => ∃ z k, vs = [.str z, .int k] ∧ -(2 ^ 63) ≤ k ∧ k < 2 ^ 63 ∧ R (Ites z k) H1
theorem pi_enumS {X : Cx} {e e2 : Expr} {ta : TA} {p pos tpos : Pos} {elts : List Expr} {kk : Nat} (hg : Gl X "enumerate") (hm : X.mg "enumerate" = none) (ha : L2.PA X [e, e2] ta)
    (hs : starEach [e, e2] X.env = (false, eval e X.env) :: starEach [e2] X.env := by rfl) (hpl : (backTo pos (starEach [e2] X.env)).any (·.1) = false := by rfl) :
    L2.PI X (.Tuple elts kk tpos) (.Call (.Name "enumerate" p) [e, e2] [] pos) (iEnumS ta) := by
  refine ⟨fun pins s σ H R I h => ?_⟩
  refine Call_ (ld_blt I hg hm boot_enumerate (PyProof.Rows.callWith_type1 (thn (ha.run pos pins s σ H _ I h) fun us s1 ⟨vs, H1, I1, r1, q1⟩ => ?_) hs hpl))
  obtain ⟨z, k, ex, hk0, hk1, q⟩ := q1
  subst ex
  cases r1 with
  | cons r rr =>
    cases rr with
    | cons r' rr =>
    cases rr
    obtain ⟨t, rfl⟩ := r
    obtain ⟨t', rfl⟩ := r'
    refine enum_begins (begins_text z t) trivial hk0 hk1 fun h' he hit hsz hk => wpAny_pyIter_enum he ?_
    have I2 : Inv X pins σ H1 { s1 with heap := h' } := I1.kept (t' := s1.toks) hk
    refine ⟨s1.heap.objs.size + 1, [s1.heap.objs.size + 1, s1.heap.objs.size], _, _, H1, rfl, I2, turn_enumS z t k (s1.heap.objs.size + 1) s1.heap.objs.size, ⟨⟨.none, by rw [show k + (((0 : Nat) : Nat) : Int) = k from Int.add_zero k]; exact he⟩, ⟨_, hit, rfl, rfl⟩, Nat.zero_le _, Nat.succ_ne_self _⟩, fun b hb => ?_, q⟩
    have e' : b = s1.heap.objs.size + 1 ∨ b = s1.heap.objs.size := by simpa using hb
    have hle : s1.heap.objs.size ≤ b := by
      rcases e' with z | z
      · rw [z]; exact Nat.le_add_right _ _
      · rw [z]; exact Nat.le_refl _
    exact I1.fpOk hle (I1.hok.fresh hle)
def enumS (k : Int) (cs : List Nat) : List W := (cs.zipIdx).map fun p => .fz (.tup [.int (k + ((p.2 : Nat) : Int)), .str ⟨#[p.1]⟩])
def dEnumS (da : DA) : DI := fun env S Kp => da env S fun ws S1 => match ws with
  | [.fz (.str z), .fz (.int k)] => (0 ≤ k ∧ k ≤ 1000) ∧ Kp (enumS k z.cps.toList) S1
  | _ => False
section
variable {K : PySem.W.Frag} {F : Fx} {B : Hp} {m : List Addr}
theorem dit_enumS {z : Str} {k : Int} : DIt K F (Ites z k) (enumS k z.cps.toList) B m := by
  have hl : (enumS k z.cps.toList).length = z.cps.size := by unfold enumS; rw [List.length_map, List.length_zipIdx, Array.length_toList]
  refine ⟨fun B1 m1 S1 H1 c sb pr => by rw [hl]; exact Nat.le_refl _, fun B1 m1 S1 H1 c sb pr i w e => ?_⟩
  have hi : i < z.cps.size := by rw [← hl]; exact (List.getElem?_eq_some_iff.mp e).1
  refine ⟨hi, fun x H' ⟨T, c', ex, hT, eH, hc⟩ => ?_⟩
  subst ex; subst eH
  unfold enumS at e
  rw [List.getElem?_map, List.getElem?_zipIdx] at e
  have hc2 : z.cps.toList[i]? = some c' := by rw [Array.getElem?_toList]; exact hc
  rw [hc2] at e
  cases e
  have n := c.alloc (o := .tup [.int (k + ((i : Nat) : Int)), .str ⟨#[c']⟩]) hT
  refine ⟨_, n, .fz (.tup (.of upd_same) (.cons ?_ (.cons .str .nil)))⟩
  rw [show ((0 + i : Nat)) = i from Nat.zero_add i]
  exact .int
end
section
variable {X : Cx} {Ξ : Xt} {e e2 : Expr} {da : DA} {p pos tpos : Pos} {elts : List Expr} {kk : Nat}
theorem i_enumS (bi : Bi X.mg) (ha : DPA X Ξ [e, e2] da) (hg : Gl X "enumerate" := by rfl)
    (hs : starEach [e, e2] X.env = (false, eval e X.env) :: starEach [e2] X.env := by rfl) (hpl : (backTo pos (starEach [e2] X.env)).any (·.1) = false := by rfl) : DPI X Ξ (.Tuple elts kk tpos) (.Call (.Name "enumerate" p) [e, e2] [] pos) (dEnumS da) := ⟨fun F ok => PI.imp (pi_enumS hg bi.enum (ha.run F ok) hs hpl) fun σ H R ⟨B, m, S, env, Kp, cf, er, h, k⟩ => by
  refine ⟨B, m, S, env, _, cf, er, h, fun ws S1 h1 vs H1 B1 m1 n1 r => ?_⟩
  split at h1
  rotate_left
  · exact h1.elim
  obtain ⟨v, u, ev, rv, ru⟩ := r.two
  subst ev
  rw [rv.str_of, ru.int_of]
  obtain ⟨⟨b0, b1⟩, h2⟩ := h1
  exact ⟨_, _, rfl, by omega, by omega, k _ _ h2 _ _ _ _ n1 dit_enumS⟩⟩
end
end DL
namespace DL
open PySem PySem.Spec PyProof.Rows L2
def KdE (K : PySem.W.Frag) (d : Addr) (p : Str × Option Str) : Prop := match p.2 with
  | some v => ∃ t, PySem.W.nsIn K d p.1 = some (some (.str v t))
  | none => PySem.W.nsIn K d p.1 = some none
structure KdG (K : PySem.W.Frag) (w : World) (mg : Str → Option Value) (x : Str) (tb : List (Str × Option Str)) : Prop where
  ex : ∃ d es n, mg x = some (.ref d) ∧ KDict K w d es n ∧ ∀ p ∈ tb, KdE K d p
structure KtG (K : PySem.W.Frag) (mg : Str → Option Value) (x : Str) (ys : List Str) : Prop where
  ex : ∃ a, mg x = some (.ref a) ∧ ∀ H : Hp, SqT K H a (ys.map V.str)
def dInK (tb : List (Str × Option Str)) (neg : Bool) (da : DE) : DE := fun env S Kp => da env S fun x S1 => onS x fun z => ∃ r, (z, r) ∈ tb ∧ Kp (.fz (.bl (r.isSome != neg))) S1
def dIxK (tb : List (Str × Option Str)) (da : DE) : DE := fun env S Kp => da env S fun x S1 => onS x fun z => ∃ v, (z, some v) ∈ tb ∧ Kp (.fz (.str v)) S1
section
variable {X : Cx} {Ξ : Xt} {a : Expr} {da : DE} {x : Str} {tb : List (Str × Option Str)} {ys : List Str} {p pos : Pos}
theorem imp_inK {K : PySem.W.Frag} {F : Fx} {d : Addr} (hE : ∀ p ∈ tb, KdE K d p) (neg : Bool) (σ : L2.St) (H : Hp) (Q : VK) (h : lE K F (dInK tb neg da) σ H Q) :
    tOp (fun x y H Q => ∃ (z : Str) (r : Option Value), x = .str z ∧ y = .ref d ∧ PySem.W.nsIn K d z = some r ∧ Q (.bl (r.isSome != neg)) H) (lE K F da) (tC (.ref d)) σ H Q := by
  obtain ⟨B, m, S, env, Kp, cf, er, h, k⟩ := h
  refine ⟨B, m, S, env, _, cf, er, h, fun u S1 h1 v H1 B1 m1 n1 r1 => ?_⟩
  obtain ⟨z, eu, r, hm, h2⟩ := onS_ex h1
  subst eu
  have e := hE _ hm
  unfold KdE at e
  show ∃ (z : Str) (r : Option Value), _
  cases r with
  | none => exact ⟨z, none, r1.str_of, rfl, e, k _ _ h2 _ _ _ _ n1 (.fz .bl)⟩
  | some w =>
    obtain ⟨t, e⟩ := e
    exact ⟨z, some (.str w t), r1.str_of, rfl, e, k _ _ h2 _ _ _ _ n1 (.fz .bl)⟩
theorem OpR.bangN {f : Value → Value → Sem Value} {K : PySem.W.Frag} {d : Addr} (h : OpR X f (fun x y H Q => ∃ (z : Str) (r : Option Value), x = .str z ∧ y = .ref d ∧ PySem.W.nsIn K d z = some r ∧ Q (.bl (!r.isSome)) H)) :
    OpR X f (fun x y H Q => ∃ (z : Str) (r : Option Value), x = .str z ∧ y = .ref d ∧ PySem.W.nsIn K d z = some r ∧ Q (.bl (r.isSome != true)) H) := OpR.imp h fun x y H Q ⟨z, r, a, b, c, q⟩ => ⟨z, r, a, b, c, by cases r <;> exact q⟩
theorem c_notInK (c : KdG X.K X.w X.mg x tb) (hg : Gl X x) (ha : DPE X Ξ a da) (hd : (x == ("__debug__" : Str)) = false := by decide) (hm : behindInMarks .NotIn (.Name x p) = false := by with_unfolding_all rfl) : DPT X Ξ (.Compare a [.NotIn] [.Name x p] pos) (dTst (dInK tb true da)) := by
  obtain ⟨d, es, n, hmg, kd, hE⟩ := c.ex
  exact ⟨fun F ok => PT.imp (pt_cmpR (OpR.bangN (op_notIn_kd kd)) (ha.run F ok) (pe_glob (v := V.ref d) hg hmg (show RelV (.ref d) (.ref d) from rfl) hd) hm) (imp_tst (imp_inK hE true))⟩
theorem e_ixK (c : KdG X.K X.w X.mg x tb) (hg : Gl X x) (ha : DPE X Ξ a da) (hd : (x == ("__debug__" : Str)) = false := by decide) (hs : PlainIx a := by exact fun _ _ => rfl) : DPE X Ξ (.Subscript (.Name x p) a pos) (dIxK tb da) := by
  obtain ⟨d, es, n, hmg, kd, hE⟩ := c.ex
  refine ⟨fun F ok => PE.imp (pe_ix ix_kdict (pe_glob (v := V.ref d) hg hmg (show RelV (.ref d) (.ref d) from rfl) hd) (ha.run F ok) hs) fun σ H Q ⟨B, m, S, env, Kp, cf, er, h, k⟩ => ?_⟩
  refine ⟨B, m, S, env, _, cf, er, h, fun u S1 h1 v H1 B1 m1 n1 r1 => ?_⟩
  obtain ⟨z, eu, r, hm, h2⟩ := onS_ex h1
  subst eu
  obtain ⟨t, e⟩ := hE _ hm
  exact ⟨d, z, V.str r, rfl, r1.str_of, ⟨es, n, _, kd.at_, kd.lit, e, (show ∃ t', Value.str r t = Value.str r t' from ⟨t, rfl⟩)⟩, k _ _ h2 _ _ _ _ n1 (.fz .str)⟩
end
end DL
namespace DL
open PySem PySem.Spec PyProof.Rows L2
section
variable {X : Cx} {Ξ : Xt} {a : Expr} {da : DE} {x : Str} {ys : List Str} {p pos : Pos}
end
structure KdIn (K : PySem.W.Frag) (w : World) (x : Str) (tb : List (Str × Option Str)) : Prop where
  ex : ∃ d es n, PySem.W.nsIn K mainGlobals x = some (some (.ref d)) ∧ KDict K w d es n ∧ ∀ p ∈ tb, KdE K d p
theorem KdIn.df {K : PySem.W.Frag} {w : World} {x : Str} {tb : List (Str × Option Str)} {h : Heap} {mg : Str → Option Value} (c : KdIn K w x tb) (X : K.In h) (G : h.Ns mainGlobals mg) : KdG K w mg x tb :=
  let ⟨d, es, n, e, r⟩ := c.ex
  ⟨d, es, n, PySem.W.mg_of X G e, r⟩
structure KdEs (K : PySem.W.Frag) (d : Addr) (tb : List (Str × Option Str)) : Prop where
  all : ∀ p ∈ tb, KdE K d p
theorem kd_nil {K : PySem.W.Frag} {d : Addr} : KdEs K d [] := ⟨fun _ h => nomatch h⟩
theorem kd_some {K : PySem.W.Frag} {d : Addr} {k v : Str} {t : Tok} {tb : List (Str × Option Str)} (h : PySem.W.nsIn K d k = some (some (.str v t))) (r : KdEs K d tb) : KdEs K d ((k, some v) :: tb) := ⟨fun p hp => by
  rcases List.mem_cons.mp hp with rfl | hp
  · exact ⟨t, h⟩
  · exact r.all p hp⟩
theorem kd_none {K : PySem.W.Frag} {d : Addr} {k : Str} {tb : List (Str × Option Str)} (h : PySem.W.nsIn K d k = some none) (r : KdEs K d tb) : KdEs K d ((k, none) :: tb) := ⟨fun p hp => by
  rcases List.mem_cons.mp hp with rfl | hp
  · exact h
  · exact r.all p hp⟩
theorem kdI {K : PySem.W.Frag} {w : World} {x : Str} {tb : List (Str × Option Str)} {d : Addr} (ks : List Str) (a : PySem.W.nsIn K mainGlobals x = some (some (.ref d))) (e : KdEs K d tb) (hd : He.dicW K d = some (He.keysIn w.params ks)) : KdIn K w x tb :=
  let ⟨es, n, kd⟩ := He.dicW_ok hd
  ⟨d, es, n, a, kd, e.all⟩
structure KtIn (K : PySem.W.Frag) (x : Str) (ys : List Str) : Prop where
  ex : ∃ a, PySem.W.nsIn K mainGlobals x = some (some (.ref a)) ∧ ∀ H : Hp, SqT K H a (ys.map V.str)
theorem KtIn.df {K : PySem.W.Frag} {x : Str} {ys : List Str} {h : Heap} {mg : Str → Option Value} (c : KtIn K x ys) (X : K.In h) (G : h.Ns mainGlobals mg) : KtG K mg x ys :=
  let ⟨a, e, r⟩ := c.ex
  ⟨a, PySem.W.mg_of X G e, r⟩
end DL
namespace DL
open PySem PySem.Spec PyProof.Rows L2
def shapesT : List (Str × Option Str) := [("get", some "k"), ("range", some "bb"), ("next", some "bc"), ("count", some "bb"), ("sum", some "lbb"), ("place", some "b"), ("at", some "n"), ("put", some "kr"), ("remove", some "k"), ("", none), ("gets", none), ("GET", none), ("-", none), ("select", none)]
def bdB (w : Str) : Bool := (decide (1 ≤ ((w.length : Nat) : Int)) && decide (((w.length : Nat) : Int) ≤ 9)) && w.cps.toList.all fun c => decide (c ∈ lettersS.cps.toList)
def bndO (w : Str) : Option Str := if w = "-" then some "" else if bdB w then some w else none
def sD : Option Str → D
  | none => .non
  | some s => .str s
def opD (c : Nat) (w : Str) : D := if c = 107 then (if keyB w then .str w else .non) else if c = 98 then sD (bndO w) else if c = 99 then oD (numO w 100) else if c = 108 then oD (numO w 2) else if c = 110 then oD (numO w 99999) else oD (numO w 65535)
def badO (c : Nat) (w : Str) : Bool := match opD c w with
  | .non => true
  | _ => false
theorem oD_cases (o : Option Int) : oD o = .non ∨ ∃ i, oD o = .int i := by cases o with | none => exact .inl rfl | some i => exact .inr ⟨i, rfl⟩
theorem opD_cases (c : Nat) (w : Str) : opD c w = .non ∨ (∃ s, opD c w = .str s) ∨ ∃ i, opD c w = .int i := by
  have g : ∀ o : Option Int, oD o = .non ∨ (∃ s, oD o = .str s) ∨ ∃ i, oD o = .int i := fun o => (oD_cases o).imp id .inr
  unfold opD
  split
  · split
    · exact .inr (.inl ⟨_, rfl⟩)
    · exact .inl rfl
  split
  · cases bndO w with
    | none => exact .inl rfl
    | some s => exact .inr (.inl ⟨_, rfl⟩)
  split
  · exact g _
  split
  · exact g _
  split
  · exact g _
  · exact g _
theorem badO_non {c : Nat} {w : Str} : badO c w = true ↔ opD c w = .non := by
  unfold badO
  rcases opD_cases c w with h | ⟨s, h⟩ | ⟨i, h⟩ <;> rw [h] <;> simp
def spBoundOf : PSp := fun ds Q => ∃ w : Str, ds = [.str w] ∧ w.length ≤ 1000 ∧ (∀ c ∈ w.cps.toList, c < 128) ∧ Q (sD (bndO w))
def spOperand : PSp := fun ds Q => ∃ (c : Nat) (w : Str), ds = [.str ⟨#[c]⟩, .str w] ∧ c ∈ [107, 98, 99, 108, 110] ∧ w.length ≤ 1000 ∧ (∀ c ∈ w.cps.toList, c < 128) ∧ Q (opD c w)
def badP : Nat → List (Nat × Bool) → List Str → Option Nat
  | _, [], [] => none
  | n, [], _ :: _ => some n
  | n, (_, o) :: _, [] => if o then none else some n
  | n, (c, _) :: ks, w :: ws => if badO c w then some n else badP (n + 1) ks ws
def putK : List (Nat × Bool) := [(107, false), (114, false), (114, true), (114, true)]
def kindsS (w0 s : Str) : List (Nat × Bool) := if w0 = "put" then putK else s.cps.toList.map fun c => (c, false)
def errW (w0 : Str) (sh : Option Str) (rs : List Str) : Option Nat := match sh with
  | none => some 0
  | some s => badP 1 (kindsS w0 s) rs
def putR (rs : List Str) : D := match rs with
  | k :: ns => .tup [.str "put", .str k, match rowOf ns with
    | some r => rowD r
    | none => .non]
  | [] => .non
def resW (w0 s : Str) (rs : List Str) : D := if w0 = "put" then putR rs else .tup (.str w0 :: List.zipWith opD s.cps.toList rs)
structure FitP (rs : List Str) : Prop where
  len : rs.length ≤ 20
  ok : ∀ w ∈ rs, wordOk w
def spPutW (C : Addr) : GSp := fun ws S Kp Xp => ∃ (rs : List Str), ws = [.fz (.lst ((("put" : Str) :: rs).map DL.D.str))] ∧ FitP rs ∧ (badP 1 putK rs = none → ∀ T, Kp (.fz (putR rs)) (S ++ T)) ∧ ∀ n : Nat, badP 1 putK rs = some n → ∀ T, badN C (n : Nat) Xp (S ++ T)
def spPW (C : Addr) : GSp := fun ws S Kp Xp => ∃ (x w0 : Str) (rs : List Str) (sh : Option Str), ws = [.fz (.str x)] ∧ PyData.strOk x = true ∧ x.length ≤ 1000 ∧ Txt.split x " " = w0 :: rs ∧ FitP rs ∧ (w0, sh) ∈ shapesT ∧
  (∀ s, sh = some s → badP 1 (kindsS w0 s) rs = none → ∀ T, Kp (.fz (resW w0 s rs)) (S ++ T)) ∧ ∀ n : Nat, errW w0 sh rs = some n → ∀ T, badN C (n : Nat) Xp (S ++ T)
inductive Ws where
  | q (q : Qy) | c (c : Ch)
def wsD : Ws → D
  | .q q => qD q
  | .c c => chD c
def isB (s : Str) : Prop := s = "" ∨ (1 ≤ s.cps.toList.length ∧ s.cps.toList.length ≤ 9 ∧ s.cps.toList.all sign = true)
def isQ3 : Qy → Prop
  | .get k => isKey k
  | .rng lo hi => isB lo ∧ isB hi
  | .nxt b n => isB b ∧ 0 ≤ n ∧ n ≤ 100
  | .cnt lo hi => isB lo ∧ isB hi
  | .sm c lo hi => (0 ≤ c ∧ c ≤ 2) ∧ isB lo ∧ isB hi
  | .plc b => isB b
  | .at i => 0 ≤ i ∧ i ≤ 99999
def isW : Ws → Prop
  | .q q => isQ3 q
  | .c c => isCh c
def wrT (s : Str) : Str := if s = "" then "-" else s
def nameW : Ws → Str
  | .q (.get _) => "get"
  | .q (.rng _ _) => "range"
  | .q (.nxt _ _) => "next"
  | .q (.cnt _ _) => "count"
  | .q (.sm _ _ _) => "sum"
  | .q (.plc _) => "place"
  | .q (.at _) => "at"
  | .c (.put _ _) => "put"
  | .c (.rem _) => "remove"
def shapeW : Ws → Str
  | .q (.get _) => "k"
  | .q (.rng _ _) => "bb"
  | .q (.nxt _ _) => "bc"
  | .q (.cnt _ _) => "bb"
  | .q (.sm _ _ _) => "lbb"
  | .q (.plc _) => "b"
  | .q (.at _) => "n"
  | .c (.put _ _) => "kr"
  | .c (.rem _) => "k"
def argsW : Ws → List Str
  | .q (.get k) => [k]
  | .q (.rng lo hi) => [wrT lo, wrT hi]
  | .q (.nxt b n) => [wrT b, numS n]
  | .q (.cnt lo hi) => [wrT lo, wrT hi]
  | .q (.sm c lo hi) => [numS c, wrT lo, wrT hi]
  | .q (.plc b) => [wrT b]
  | .q (.at i) => [numS i]
  | .c (.put k r) => k :: r.map numS
  | .c (.rem k) => [k]
def wordsW (w : Ws) : List Str := nameW w :: argsW w
def partsW : Ws → List D
  | .q (.get k) => [.str k]
  | .q (.rng lo hi) => [.str lo, .str hi]
  | .q (.nxt b n) => [.str b, .int n]
  | .q (.cnt lo hi) => [.str lo, .str hi]
  | .q (.sm c lo hi) => [.int c, .str lo, .str hi]
  | .q (.plc b) => [.str b]
  | .q (.at i) => [.int i]
  | .c (.put k r) => [.str k, rowD r]
  | .c (.rem k) => [.str k]
theorem wsD_eq (w : Ws) : wsD w = .tup (.str (nameW w) :: partsW w) := by
  rcases w with q | c
  · cases q <;> rfl
  · cases c <;> rfl
theorem shape_mem (w : Ws) : (nameW w, some (shapeW w)) ∈ shapesT := by
  rcases w with q | c
  · cases q <;> simp [nameW, shapeW, shapesT]
  · cases c <;> simp [nameW, shapeW, shapesT]
def pw : D → List Str
  | .str s => [wrT s]
  | .int i => [numS i]
  | .tup ds => ds.map fun d => match d with
    | .int i => numS i
    | _ => ""
  | _ => []
def okPt (d : D) : Prop := (∃ s, d = .str s ∧ isB s) ∨ (∃ i, d = .int i ∧ 0 ≤ i ∧ i ≤ 99999) ∨ ∃ r, d = rowD r ∧ isRow r
theorem key_isB {k : Str} (h : isKey k) : isB k := .inr ⟨h.1, Nat.le_trans h.2.1 (by decide), h.2.2⟩
theorem key_wr {k : Str} (h : isKey k) : wrT k = k := by
  unfold wrT
  rw [if_neg]
  intro z
  have := h.1
  rw [z] at this
  exact absurd this (by decide +kernel)
theorem pw_row (r : List Int) : pw (rowD r) = r.map numS := by
  show ((r.map DL.D.int).map fun d => match d with
    | .int i => numS i
    | _ => "") = _
  rw [List.map_map]; rfl
theorem parts_ok {w : Ws} (h : isW w) : (∀ d ∈ partsW w, okPt d) ∧ (partsW w).length ≤ 3 ∧ argsW w = (partsW w).flatMap pw := by
  have ks : ∀ k, isKey k → okPt (.str k) := fun k hk => .inl ⟨k, rfl, key_isB hk⟩
  have bs : ∀ k, isB k → okPt (.str k) := fun k hk => .inl ⟨k, rfl, hk⟩
  have ns : ∀ i : Int, 0 ≤ i → i ≤ 99999 → okPt (.int i) := fun i h0 h1 => .inr (.inl ⟨i, rfl, h0, h1⟩)
  rcases w with q | c
  · cases q with
    | get k => exact ⟨fun d hd => by rw [List.mem_singleton.mp hd]; exact ks _ h, Nat.le_add_left 1 2, by show [k] = [wrT k] ++ []; rw [key_wr h]; rfl⟩
    | rng lo hi => exact ⟨fun d hd => by
        simp only [partsW, List.mem_cons, List.not_mem_nil, or_false] at hd
        rcases hd with z | z <;> rw [z]
        · exact bs _ h.1
        · exact bs _ h.2, Nat.le_add_left 2 1, rfl⟩
    | nxt b n => exact ⟨fun d hd => by
        simp only [partsW, List.mem_cons, List.not_mem_nil, or_false] at hd
        have := h.2.2
        rcases hd with z | z <;> rw [z]
        · exact bs _ h.1
        · exact ns _ h.2.1 (by omega), Nat.le_add_left 2 1, rfl⟩
    | cnt lo hi => exact ⟨fun d hd => by
        simp only [partsW, List.mem_cons, List.not_mem_nil, or_false] at hd
        rcases hd with z | z <;> rw [z]
        · exact bs _ h.1
        · exact bs _ h.2, Nat.le_add_left 2 1, rfl⟩
    | sm c lo hi => exact ⟨fun d hd => by
        simp only [partsW, List.mem_cons, List.not_mem_nil, or_false] at hd
        have := h.1.2
        rcases hd with z | z | z <;> rw [z]
        · exact ns _ h.1.1 (by omega)
        · exact bs _ h.2.1
        · exact bs _ h.2.2, Nat.le_refl 3, rfl⟩
    | plc b => exact ⟨fun d hd => by rw [List.mem_singleton.mp hd]; exact bs _ h, Nat.le_add_left 1 2, rfl⟩
    | «at» i => exact ⟨fun d hd => by rw [List.mem_singleton.mp hd]; exact ns _ h.1 h.2, Nat.le_add_left 1 2, rfl⟩
  · cases c with
    | put k r => exact ⟨fun d hd => by
        simp only [partsW, List.mem_cons, List.not_mem_nil, or_false] at hd
        rcases hd with z | z <;> rw [z]
        · exact ks _ h.1
        · exact .inr (.inr ⟨r, rfl, h.2⟩), Nat.le_add_left 2 1, by
          show k :: r.map numS = [wrT k] ++ (pw (rowD r) ++ [])
          rw [key_wr h.1, pw_row, List.append_nil]; rfl⟩
    | rem k => exact ⟨fun d hd => by rw [List.mem_singleton.mp hd]; exact ks _ h, Nat.le_add_left 1 2, by show [k] = [wrT k] ++ []; rw [key_wr h]; rfl⟩
theorem isB_wr {s : Str} (h : isB s) : bndO (wrT s) = some s ∧ wordOk (wrT s) := by
  rcases h with rfl | ⟨h1, h2, h3⟩
  · refine ⟨by decide +kernel, fun c hc => ?_, by decide +kernel⟩
    have : ∀ c ∈ (wrT "" : Str).cps.toList, (c < 128 ∧ c ≠ 10) ∧ c ≠ 32 := by decide +kernel
    exact this c hc
  · have e : wrT s = s := by
      unfold wrT
      rw [if_neg]
      intro z
      rw [z] at h1
      exact absurd h1 (by decide +kernel)
    rw [e]
    have e1 : ¬ s = "-" := fun z => by
      rw [z] at h3
      exact absurd h3 (by decide +kernel)
    have e2 : bdB s = true := by
      unfold bdB
      rw [len_l, decide_eq_true (by omega), decide_eq_true (by omega), Bool.true_and, Bool.true_and]
      exact List.all_eq_true.mpr fun c hc => decide_eq_true (sign_letters _ (List.all_eq_true.mp h3 c hc))
    refine ⟨by unfold bndO; rw [if_neg e1, e2, if_pos rfl], fun c hc => ?_, by rw [len_l]; omega⟩
    have := List.all_eq_true.mp h3 c hc
    simp [sign] at this
    refine ⟨⟨by omega, by omega⟩, by omega⟩
theorem num_word9 {i : Int} (h0 : 0 ≤ i) (h5 : i ≤ 99999) : wordOk (numS i) := ⟨fun c hc => by
  have h1 : c < 128 := numS_low h0 c hc
  refine ⟨⟨h1, fun z => ?_⟩, fun z => ?_⟩
  · subst z; exact numS_free h0 (.inl (by decide)) hc
  · subst z; exact numS_free h0 (.inl (by decide)) hc, Nat.le_trans (numS_len h0 h5) (by decide)⟩
theorem pw_words {d : D} (h : okPt d) : (∀ w ∈ pw d, wordOk w) ∧ (pw d).length ≤ 3 := by
  rcases h with ⟨s, rfl, hs⟩ | ⟨i, rfl, h0, h1⟩ | ⟨r, rfl, hr⟩
  · exact ⟨fun w hw => by rw [List.mem_singleton.mp hw]; exact (isB_wr hs).2, by show 1 ≤ 3; decide⟩
  · exact ⟨fun w hw => by rw [List.mem_singleton.mp hw]; exact num_word9 h0 h1, by show 1 ≤ 3; decide⟩
  · rw [pw_row]
    refine ⟨fun w hw => ?_, by rw [List.length_map]; exact hr.2.1⟩
    obtain ⟨i, hi, rfl⟩ := List.mem_map.mp hw
    have := hr.2.2 i hi
    exact num_word9 this.1 (by omega)
theorem args_fit {w : Ws} (h : isW w) : (∀ x ∈ argsW w, wordOk x) ∧ (argsW w).length ≤ 9 := by
  obtain ⟨h1, h2, h3⟩ := parts_ok h
  rw [h3]
  refine ⟨fun x hx => ?_, ?_⟩
  · obtain ⟨d, hd, hx⟩ := List.mem_flatMap.mp hx
    exact (pw_words (h1 d hd)).1 x hx
  · rw [List.length_flatMap]
    have : ∀ (l : List D), (∀ d ∈ l, okPt d) → (l.map fun d => (pw d).length).sum ≤ 3 * l.length := fun l => by
      induction l with
      | nil => intro _; exact Nat.le_refl _
      | cons a r ih =>
        intro hl
        have h1 := (pw_words (hl a List.mem_cons_self)).2
        have h2 := ih fun d hd => hl d (List.mem_cons_of_mem _ hd)
        rw [List.map_cons, List.sum_cons, List.length_cons]
        omega
    have := this _ h1
    omega
theorem name_ok (w : Ws) : wordOk (nameW w) := by
  have g : ∀ s ∈ shapesT, (s.1.cps.toList.all fun c => decide (c < 128) && decide (c ≠ 10) && decide (c ≠ 32)) = true ∧ s.1.length ≤ 12 := by decide +kernel
  obtain ⟨h1, h2⟩ := g _ (shape_mem w)
  refine ⟨fun c hc => ?_, h2⟩
  have := List.all_eq_true.mp h1 c hc
  simp only [Bool.and_eq_true, decide_eq_true_eq] at this
  exact ⟨⟨this.1.1, this.1.2⟩, this.2⟩
theorem words_ok {w : Ws} (h : isW w) : (∀ x ∈ wordsW w, wordOk x) ∧ (wordsW w).length ≤ 10 := by
  obtain ⟨h1, h2⟩ := args_fit h
  refine ⟨fun x hx => ?_, by show (argsW w).length + 1 ≤ 10; omega⟩
  rcases List.mem_cons.mp hx with e | hx
  · rw [e]; exact name_ok w
  · exact h1 x hx
theorem text_fit {ws : List Str} (h : ∀ x ∈ ws, wordOk x) (hl : ws.length ≤ 20) : PyData.strOk (Txt.join " " ws) = true ∧ (Txt.join " " ws).length ≤ 1000 := by
  refine ⟨low_ok (join_all sep_low.1 fun w hw c hc => ((h w hw).1 c hc).1.1), ?_⟩
  refine Nat.le_trans (join_len _ (by decide +kernel) _) (Nat.le_trans (sum_le _ 13 fun w hw => ?_) ?_)
  · have := (h w hw).2; omega
  · omega
theorem text_split {ws : List Str} (hne : ws ≠ []) (h : ∀ x ∈ ws, wordOk x) : Txt.split (Txt.join " " ws) " " = ws := words_split hne fun w hw z => ((h w hw).1 _ z).2 rfl
theorem join_fit {ws : List Str} (h : ∀ x ∈ ws, wordOk x) (hl : ws.length ≤ 20) : joinFit " " ws := fit_few (b := 12) (by decide +kernel) (by decide) (fun w hw => (h w hw).2) (by omega)
theorem opD_key {k : Str} (h : isKey k) : opD 107 k = .str k := by unfold opD; rw [if_pos rfl, keyB_of h, if_pos rfl]
theorem opD_bd {s : Str} (h : isB s) : opD 98 (wrT s) = .str s := by
  unfold opD
  rw [if_neg (by decide), if_pos rfl, (isB_wr h).1]; rfl
theorem opD_99 {i : Int} (h0 : 0 ≤ i) (h1 : i ≤ 100) : opD 99 (numS i) = .int i := by
  unfold opD
  rw [if_neg (by decide), if_neg (by decide), if_pos rfl, numO_num h0 h1 (by omega)]; rfl
theorem opD_108 {i : Int} (h0 : 0 ≤ i) (h1 : i ≤ 2) : opD 108 (numS i) = .int i := by
  unfold opD
  rw [if_neg (by decide), if_neg (by decide), if_neg (by decide), if_pos rfl, numO_num h0 h1 (by omega)]; rfl
theorem opD_110 {i : Int} (h0 : 0 ≤ i) (h1 : i ≤ 99999) : opD 110 (numS i) = .int i := by
  unfold opD
  rw [if_neg (by decide), if_neg (by decide), if_neg (by decide), if_neg (by decide), if_pos rfl, numO_num h0 h1 (by omega)]; rfl
theorem opD_114 {i : Int} (h0 : 0 ≤ i) (h1 : i ≤ 65535) : opD 114 (numS i) = .int i := by
  unfold opD
  rw [if_neg (by decide), if_neg (by decide), if_neg (by decide), if_neg (by decide), if_neg (by decide), numO_num h0 h1 (by omega)]; rfl
theorem good_str {c : Nat} {w s : Str} (h : opD c w = .str s) : badO c w = false := by unfold badO; rw [h]
theorem good_int {c : Nat} {w : Str} {i : Int} (h : opD c w = .int i) : badO c w = false := by unfold badO; rw [h]
inductive GoodL : List (Nat × Bool) → List Str → Prop where
  | nil {ks : List (Nat × Bool)} (h : ks.head?.all (·.2) = true) : GoodL ks []
  | cons {c : Nat} {o : Bool} {w : Str} {ks : List (Nat × Bool)} {ws : List Str} (h : badO c w = false) (r : GoodL ks ws) : GoodL ((c, o) :: ks) (w :: ws)
theorem good_none {ks : List (Nat × Bool)} {ws : List Str} (h : GoodL ks ws) : ∀ n, badP n ks ws = none := by
  induction h with
  | @nil ks h =>
    intro n
    cases ks with
    | nil => rfl
    | cons k r =>
      obtain ⟨c, o⟩ := k
      have h : o = true := h
      subst h
      rfl
  | @cons c o w ks ws h r ih =>
    intro n
    show (if badO c w then some n else badP (n + 1) ks ws) = none
    rw [h, if_neg Bool.false_ne_true]
    exact ih _
def kindsW (w : Ws) : List (Nat × Bool) := kindsS (nameW w) (shapeW w)
theorem kinds_of (w : Ws) : kindsW w = match w with
  | .q (.get _) => [(107, false)]
  | .q (.rng _ _) => [(98, false), (98, false)]
  | .q (.nxt _ _) => [(98, false), (99, false)]
  | .q (.cnt _ _) => [(98, false), (98, false)]
  | .q (.sm _ _ _) => [(108, false), (98, false), (98, false)]
  | .q (.plc _) => [(98, false)]
  | .q (.at _) => [(110, false)]
  | .c (.put _ _) => putK
  | .c (.rem _) => [(107, false)] := by
  unfold kindsW
  rcases w with q | c
  · cases q <;> (simp only [nameW, shapeW]; decide +kernel)
  · cases c <;> (simp only [nameW, shapeW]; decide +kernel)
theorem good_row {r : List Int} (h : isRow r) : GoodL [(114, false), (114, true), (114, true)] (r.map numS) := by
  obtain ⟨h1, h2, h3⟩ := h
  have g : ∀ i ∈ r, badO 114 (numS i) = false := fun i hi => good_int (opD_114 (h3 i hi).1 (h3 i hi).2)
  match r, h1, h2, g with
  | [a], _, _, g => exact .cons (g a (by simp)) (.nil rfl)
  | [a, b], _, _, g => exact .cons (g a (by simp)) (.cons (g b (by simp)) (.nil rfl))
  | [a, b, c], _, _, g => exact .cons (g a (by simp)) (.cons (g b (by simp)) (.cons (g c (by simp)) (.nil rfl)))
theorem good_args {w : Ws} (h : isW w) : GoodL (kindsW w) (argsW w) := by
  rw [kinds_of]
  have kk : ∀ {k}, isKey k → badO 107 k = false := fun hk => good_str (opD_key hk)
  have bb : ∀ {s}, isB s → badO 98 (wrT s) = false := fun hk => good_str (opD_bd hk)
  rcases w with q | c
  · cases q with
    | get k => exact .cons (kk h) (.nil rfl)
    | rng lo hi => exact .cons (bb h.1) (.cons (bb h.2) (.nil rfl))
    | nxt b n => exact .cons (bb h.1) (.cons (good_int (opD_99 h.2.1 h.2.2)) (.nil rfl))
    | cnt lo hi => exact .cons (bb h.1) (.cons (bb h.2) (.nil rfl))
    | sm c lo hi => exact .cons (good_int (opD_108 h.1.1 h.1.2)) (.cons (bb h.2.1) (.cons (bb h.2.2) (.nil rfl)))
    | plc b => exact .cons (bb h) (.nil rfl)
    | «at» i => exact .cons (good_int (opD_110 h.1 h.2)) (.nil rfl)
  · cases c with
    | put k r => exact .cons (kk h.1) (good_row h.2)
    | rem k => exact .cons (kk h) (.nil rfl)
theorem isB_okD {s : Str} (h : isB s) {n : Nat} : okD (n + 2) (.str s) = true := by
  refine ok_str (low_ok fun c hc => ?_)
  rcases h with rfl | ⟨_, _, h3⟩
  · rw [show ("" : Str).cps.toList = [] from by decide +kernel] at hc
    cases hc
  · have := List.all_eq_true.mp h3 c hc
    simp [sign] at this
    omega
theorem put_name {w : Ws} (h : nameW w = "put") : ∃ k r, w = .c (.put k r) := by
  rcases w with q | c
  · cases q <;> exact absurd h (by simp only [nameW]; decide +kernel)
  · cases c with
    | put k r => exact ⟨k, r, rfl⟩
    | rem k => exact absurd h (by simp only [nameW]; decide +kernel)
def wd (d : D) : Str := (pw d).headD ""
theorem onO_itT {a : DL.D} {r : List DL.D} {k : List W → Prop} (h : k (r.map W.fz)) : onO (itW (mkT (cutL ((a :: r).map W.fz) (some 1) none))) k := by
  rw [cutL_map', cut_tail, mkT_fz]
  exact onO_some rfl h
theorem onO_ws {ys : List Str} {i : Int} {n : Nat} {w : Str} {k : W → Prop} (e : i = ((n : Nat) : Int)) (h : ys[n]? = some w) (hk : k (.fz (.str w))) : onO (atI ((ys.map DL.D.str).map W.fz) i) k := by
  subst e
  have hl := (List.getElem?_eq_some_iff.mp h).1
  refine onO_at (Int.natCast_nonneg n) (by rw [List.length_map, List.length_map]; omega) fun x hx => ?_
  rw [Int.toNat_natCast, List.getElem?_map, List.getElem?_map, h] at hx
  cases hx
  exact hk
def kinds3 : List (Nat × Bool) := [(114, false), (114, true), (114, true)]
theorem badP_put {k : Str} (ns : List Str) (h : keyB k = true) : badP 1 putK (k :: ns) = badP 2 kinds3 ns := by
  show (if badO 107 k then some 1 else badP 2 kinds3 ns) = _
  rw [show badO 107 k = false from by unfold badO opD; rw [if_pos rfl, if_pos h], if_neg Bool.false_ne_true]
theorem badP_put1 {k : Str} (ns : List Str) (h : keyB k = false) : badP 1 putK (k :: ns) = some 1 := by
  show (if badO 107 k then some 1 else badP 2 kinds3 ns) = _
  rw [show badO 107 k = true from by unfold badO opD; rw [if_pos rfl, h, if_neg Bool.false_ne_true], if_pos rfl]
theorem badO_114 {w : Str} : badO 114 w = (numO w 65535).isNone := by
  unfold badO opD
  rw [if_neg (by decide), if_neg (by decide), if_neg (by decide), if_neg (by decide), if_neg (by decide)]
  cases numO w 65535 <;> rfl
theorem badP_step {ns : List Str} {i : Nat} : (ns.length ≤ i → 1 ≤ i → badP (i + 2) (kinds3.drop i) (ns.drop i) = none) ∧ (∀ w, ns[i]? = some w → (3 ≤ i → badP (i + 2) (kinds3.drop i) (ns.drop i) = some (i + 2)) ∧
    (i < 3 → badP (i + 2) (kinds3.drop i) (ns.drop i) = if (numO w 65535).isNone then some (i + 2) else badP (i + 1 + 2) (kinds3.drop (i + 1)) (ns.drop (i + 1)))) := by
  refine ⟨fun h h1 => ?_, fun w hw => ⟨fun h => ?_, fun h => ?_⟩⟩
  · rw [List.drop_eq_nil_of_le h]
    match i, h1 with
    | 1, _ => rfl
    | 2, _ => rfl
    | i + 3, _ => rw [List.drop_eq_nil_of_le (by show 3 ≤ i + 3; omega)]; rfl
  · obtain ⟨hl, e⟩ := List.getElem?_eq_some_iff.mp hw
    rw [List.drop_eq_nil_of_le (by show 3 ≤ i; omega), List.drop_eq_getElem_cons hl]
    rfl
  · obtain ⟨hl, e⟩ := List.getElem?_eq_some_iff.mp hw
    rw [List.drop_eq_getElem_cons hl, e]
    have : ∃ o, kinds3.drop i = (114, o) :: kinds3.drop (i + 1) := by
      match i, h with
      | 0, _ => exact ⟨false, rfl⟩
      | 1, _ => exact ⟨true, rfl⟩
      | 2, _ => exact ⟨true, rfl⟩
    obtain ⟨o, eo⟩ := this
    rw [eo]
    show (if badO 114 w then some (i + 2) else badP (i + 2 + 1) (kinds3.drop (i + 1)) (ns.drop (i + 1))) = _
    rw [badO_114]
theorem cut2 {α : Type} (a b : α) (r : List α) : cutL (a :: b :: r) (some 2) none = r := by
  have := (cut_to (a :: b :: r) (n := 2) (by rw [List.length_cons, List.length_cons]; omega)).2
  exact this
theorem shape_ok {w0 : Str} {sh : Option Str} (h : (w0, sh) ∈ shapesT) : wordOk w0 ∧ (¬ w0 = "put" → ∀ s, sh = some s → ∀ c ∈ s.cps.toList, c ∈ ([107, 98, 99, 108, 110] : List Nat)) := by
  have g : ∀ p ∈ shapesT, ((p.1.cps.toList.all fun c => decide (c < 128) && decide (c ≠ 10) && decide (c ≠ 32)) = true ∧ p.1.length ≤ 12) ∧ (decide (p.1 = "put") || (p.2.getD "").cps.toList.all fun c => decide (c ∈ ([107, 98, 99, 108, 110] : List Nat))) = true := by decide +kernel
  obtain ⟨⟨h1, h2⟩, h3⟩ := g _ h
  refine ⟨⟨fun c hc => ?_, h2⟩, fun hn s e c hc => ?_⟩
  · have := List.all_eq_true.mp h1 c hc
    simp only [Bool.and_eq_true, decide_eq_true_eq] at this
    exact ⟨⟨this.1.1, this.1.2⟩, this.2⟩
  · subst e
    rw [Bool.or_eq_true, decide_eq_true_eq] at h3
    exact of_decide_eq_true (List.all_eq_true.mp (h3.resolve_left hn) c hc)
theorem flat_len : ∀ l : List D, (∀ d ∈ l, okPt d) → (l.flatMap pw).length ≤ 3 * l.length := fun l => by
  induction l with
  | nil => intro _; exact Nat.le_refl _
  | cons a r ih =>
    intro hl
    have h1 := (pw_words (hl a List.mem_cons_self)).2
    have h2 := ih fun d hd => hl d (List.mem_cons_of_mem _ hd)
    rw [List.flatMap_cons, List.length_append, List.length_cons]
    omega
def spWrit : PSp := fun ds Q => ∃ w, ds = [wsD w] ∧ isW w ∧ Q (.lst ((wordsW w).map DL.D.str))
def spBd3 : PSp := fun ds Q => ∃ rows, ds = [tabD rows] ∧ isTab rows ∧ rows.length ≤ 100 ∧ ∀ b, isB b → Q (.str b)
def spQuery3 : PSp := fun ds Q => ∃ rows, ds = [tabD rows] ∧ isTab rows ∧ rows.length ≤ 100 ∧ ∀ q, isQ3 q → Q (qD q)
theorem isB_app {k s : Str} (h : isKey k) (hs : s = "" ∨ s = "0") : isB (k ++ s) := by
  have e : (k ++ s).cps.toList = k.cps.toList ++ s.cps.toList := app_l k s
  refine .inr ⟨?_, ?_, ?_⟩
  · rw [e, List.length_append]; have := h.1; omega
  · rw [e, List.length_append]
    have : s.cps.toList.length ≤ 1 := by rcases hs with rfl | rfl <;> decide +kernel
    have := h.2.1
    omega
  · rw [e, List.all_append, h.2.2, Bool.true_and]
    rcases hs with rfl | rfl <;> decide +kernel
end DL
namespace DL
open PySem PySem.Spec PyProof.Rows L2
def toldW (w0 : Str) (sh : Option Str) (rs : List Str) : Int := match errW w0 sh rs with
  | none => 0 - 1
  | some n => ((n : Nat) : Int)
def ToldL (l : List Str) (n : Int) : Prop := ∃ (w0 : Str) (rs : List Str) (sh : Option Str), (l = w0 :: rs ∨ (l = [] ∧ w0 = "" ∧ rs = [])) ∧ (∀ x ∈ l, wordOk x) ∧ l.length ≤ 20 ∧ (w0, sh) ∈ shapesT ∧ n = toldW w0 sh rs
def spTold34 : GSp := fun ws S Kp _ => ∃ (l : List Str) (n : Int), ws = [.fz (.str (Txt.join " " l))] ∧ ToldL l n ∧ ∀ T, Kp (.fz (.int n)) (S ++ T)
theorem badP_le : ∀ (ks : List (Nat × Bool)) (n : Nat) (ws : List Str) (m : Nat), badP n ks ws = some m → m ≤ n + ws.length
  | [], n, [], m, h => by cases h
  | [], n, w :: ws, m, h => by
    have h : some n = some m := h
    cases h; exact Nat.le_add_right _ _
  | (c, o) :: ks, n, [], m, h => by
    have h : (if o then none else some n) = some m := h
    cases o with
    | true => cases h
    | false => cases h; exact Nat.le_add_right _ _
  | (c, o) :: ks, n, w :: ws, m, h => by
    have h : (if badO c w then some n else badP (n + 1) ks ws) = some m := h
    split at h
    · cases h; exact Nat.le_add_right _ _
    · have := badP_le ks _ _ _ h
      rw [List.length_cons]
      omega
theorem errW_le {w0 : Str} {sh : Option Str} {rs : List Str} {n : Nat} (h : errW w0 sh rs = some n) : n ≤ 1 + rs.length := by
  cases sh with
  | none => cases h; omega
  | some s => exact badP_le _ _ _ _ h
theorem told_fit {l : List Str} {n : Int} (h : ToldL l n) : ∃ (w0 : Str) (rs : List Str) (sh : Option Str), PyData.strOk (Txt.join " " l) = true ∧ (Txt.join " " l).length ≤ 1000 ∧ Txt.split (Txt.join " " l) " " = w0 :: rs ∧ FitP rs ∧ (w0, sh) ∈ shapesT ∧ n = toldW w0 sh rs := by
  obtain ⟨w0, rs, sh, hl, hw, hz, hs, hn⟩ := h
  obtain ⟨f1, f2⟩ := text_fit hw hz
  refine ⟨w0, rs, sh, f1, f2, ?_, ?_, hs, hn⟩
  · rcases hl with e | ⟨e1, e2, e3⟩
    · rw [← e]
      exact text_split (by rw [e]; simp) hw
    · rw [e1, e2, e3]
      decide +kernel
  · rcases hl with e | ⟨e1, e2, e3⟩
    · refine ⟨?_, fun w h => hw w (by rw [e]; exact List.mem_cons_of_mem _ h)⟩
      rw [e, List.length_cons] at hz
      omega
    · rw [e3]
      exact ⟨Nat.zero_le _, fun _ h => nomatch h⟩
def bad0 : List Str := ["", "gets", "GET", "-", "select"]
def badK (c : Nat) : List Str := if c = 107 then ["", "-", "A", "abcdefghi", "a_b"] else if c = 114 then ["", "-", "65536", "01", "x", "100000"] else if c = 99 then ["", "-", "101", "007", "x"] else if c = 108 then ["", "-", "3", "00", "x"] else if c = 110 then ["", "-", "100000", "012", "x"] else ["", "A", "abcdefghij", "a-b", "--"]
def badL (w : Ws) (n : Nat) : List Str := if n = 0 then bad0 else match (kindsW w)[n - 1]? with
  | some (c, _) => badK c
  | none => []
def spBad : PSp := fun ds Q => ∃ (w : Ws) (n : Nat), ds = [wsD w, .int ((n : Nat) : Int)] ∧ isW w ∧ n < (wordsW w).length ∧ Q (.lst ((badL w n).map DL.D.str))
def wordB (w : Str) : Bool := (w.cps.toList.all fun c => decide (c < 128) && decide (c ≠ 10) && decide (c ≠ 32)) && decide (w.length ≤ 12)
theorem wordB_ok {w : Str} (h : wordB w = true) : wordOk w := by
  unfold wordB at h
  rw [Bool.and_eq_true, decide_eq_true_eq] at h
  refine ⟨fun c hc => ?_, h.2⟩
  have := List.all_eq_true.mp h.1 c hc
  simp only [Bool.and_eq_true, decide_eq_true_eq] at this
  exact ⟨⟨this.1.1, this.1.2⟩, this.2⟩
theorem bad0_ok : ∀ b ∈ bad0, wordOk b ∧ (b, none) ∈ shapesT := by
  have h : ∀ b ∈ bad0, wordB b = true ∧ (shapesT.any fun p => decide (p.1 = b) && p.2.isNone) = true := by decide +kernel
  intro b hb
  obtain ⟨h1, h2⟩ := h b hb
  refine ⟨wordB_ok h1, ?_⟩
  obtain ⟨p, hp, e⟩ := List.any_eq_true.mp h2
  rw [Bool.and_eq_true, decide_eq_true_eq] at e
  obtain ⟨p1, p2⟩ := p
  obtain ⟨e1, e2⟩ := e
  cases p2 with
  | none => exact e1 ▸ hp
  | some v => cases e2
def kindsAll : List Nat := [107, 114, 99, 108, 110, 98]
theorem badK_ok : ∀ c ∈ kindsAll, ∀ b ∈ badK c, wordOk b ∧ badO c b = true := by
  have h : ∀ c ∈ kindsAll, ∀ b ∈ badK c, wordB b = true ∧ badO c b = true := by decide +kernel
  intro c hc b hb
  exact ⟨wordB_ok (h c hc b hb).1, (h c hc b hb).2⟩
theorem kinds_all (w : Ws) : ∀ p ∈ kindsW w, p.1 ∈ kindsAll := by
  rw [kinds_of]
  rcases w with q | c
  · cases q <;> (dsimp only; decide)
  · cases c <;> (dsimp only; decide)
theorem kinds_len {w : Ws} (h : isW w) : (argsW w).length ≤ (kindsW w).length ∧ (nameW w ≠ "put" → (argsW w).length = (kindsW w).length) := by
  rw [kinds_of]
  rcases w with q | c
  · cases q <;> exact ⟨Nat.le_refl _, fun _ => rfl⟩
  · cases c with
    | put k r => exact ⟨by show (r.map numS).length + 1 ≤ 4; rw [List.length_map]; have := h.2.2.1; omega, fun z => absurd rfl z⟩
    | rem k => exact ⟨Nat.le_refl _, fun _ => rfl⟩
theorem badL_ok {w : Ws} {n : Nat} {b : Str} (hb : b ∈ badL w n) : wordOk b ∧ (n = 0 → (b, none) ∈ shapesT) ∧ (∀ i, n = i + 1 → ∃ c o, (kindsW w)[i]? = some (c, o) ∧ badO c b = true) := by
  unfold badL at hb
  by_cases h : n = 0
  · rw [if_pos h] at hb
    have := bad0_ok b hb
    exact ⟨this.1, fun _ => this.2, fun i e => by omega⟩
  · rw [if_neg h] at hb
    cases hk : (kindsW w)[n - 1]? with
    | none => rw [hk] at hb; cases hb
    | some p =>
      obtain ⟨c, o⟩ := p
      rw [hk] at hb
      have hc := kinds_all w _ (List.mem_of_getElem? hk)
      have := badK_ok c hc b hb
      refine ⟨this.1, fun z => absurd z h, fun i e => ⟨c, o, ?_, this.2⟩⟩
      rw [← hk, e]; rfl
theorem badL_len {w : Ws} {n : Nat} (h : isW w) (hn : n < (wordsW w).length) : 1 ≤ (badL w n).length ∧ (badL w n).length ≤ 6 := by
  have g : ∀ c : Nat, 1 ≤ (badK c).length ∧ (badK c).length ≤ 6 := fun c => by
    unfold badK
    repeat' split
    all_goals decide
  unfold badL
  by_cases h0 : n = 0
  · rw [if_pos h0]; decide
  · rw [if_neg h0]
    have hl := (kinds_len h).1
    have hn : n < (argsW w).length + 1 := hn
    rw [List.getElem?_eq_getElem (show n - 1 < (kindsW w).length by omega)]
    exact g _
theorem bad_pre {ks : List (Nat × Bool)} {ws : List Str} (h : GoodL ks ws) : ∀ (n i : Nat) (rest : List Str), i ≤ ws.length → badP n ks (ws.take i ++ rest) = badP (n + i) (ks.drop i) rest := by
  induction h with
  | @nil ks h =>
    intro n i rest hi
    have : i = 0 := Nat.le_zero.mp hi
    subst this
    rfl
  | @cons c o w ks ws h r ih =>
    intro n i rest hi
    cases i with
    | zero => rfl
    | succ i =>
      show (if badO c w then some n else badP (n + 1) ks (ws.take i ++ rest)) = _
      rw [h, if_neg Bool.false_ne_true, ih (n + 1) i rest (Nat.le_of_succ_le_succ hi), show n + 1 + i = n + (i + 1) from by omega]
      rfl
theorem told_ok {w : Ws} (h : isW w) : ToldL (wordsW w) (0 - 1) := by
  obtain ⟨h1, h2⟩ := words_ok h
  refine ⟨nameW w, argsW w, some (shapeW w), .inl rfl, h1, by omega, shape_mem w, ?_⟩
  unfold toldW
  rw [show errW (nameW w) (some (shapeW w)) (argsW w) = none from good_none (good_args h) 1]
theorem told_at {w : Ws} (h : isW w) {i : Nat} (hi : i ≤ (argsW w).length) {rest : List Str} (hw : ∀ x ∈ rest, wordOk x) (hl : rest.length ≤ 9) (hb : badP (i + 1) ((kindsW w).drop i) rest = some (i + 1)) : ToldL ((wordsW w).take (i + 1) ++ rest) ((i + 1 : Nat) : Int) := by
  obtain ⟨h1, h2⟩ := words_ok h
  refine ⟨nameW w, (argsW w).take i ++ rest, some (shapeW w), .inl rfl, fun x hx => ?_, ?_, shape_mem w, ?_⟩
  · rcases List.mem_append.mp hx with hx | hx
    · exact h1 x (List.take_subset _ _ hx)
    · exact hw x hx
  · rw [List.length_append, List.length_take]
    omega
  · unfold toldW
    have e : errW (nameW w) (some (shapeW w)) ((argsW w).take i ++ rest) = some (i + 1) := by
      show badP 1 (kindsW w) ((argsW w).take i ++ rest) = _
      rw [bad_pre (good_args h) 1 i rest hi, Nat.add_comm 1 i]
      exact hb
    rw [e]
theorem told_bad {w : Ws} (h : isW w) {n : Nat} (hn : n < (wordsW w).length) {b : Str} (hb : b ∈ badL w n) {r : List Str} (hr : ∀ x ∈ r, wordOk x) (hl : r.length ≤ 8) : ToldL ((wordsW w).take n ++ b :: r) ((n : Nat) : Int) := by
  obtain ⟨b1, b2, b3⟩ := badL_ok hb
  have hbr : ∀ x ∈ b :: r, wordOk x := fun x hx => by
    rcases List.mem_cons.mp hx with e | hx
    · rw [e]; exact b1
    · exact hr x hx
  cases n with
  | zero =>
    refine ⟨b, r, none, .inl rfl, hbr, by rw [List.take_zero, List.nil_append, List.length_cons]; omega, b2 rfl, ?_⟩
    rfl
  | succ i =>
    have hn : i + 1 < (argsW w).length + 1 := hn
    refine told_at h (by omega) hbr (by rw [List.length_cons]; omega) ?_
    obtain ⟨c, o, hk, hbo⟩ := b3 i rfl
    obtain ⟨hil, e⟩ := List.getElem?_eq_some_iff.mp hk
    rw [List.drop_eq_getElem_cons hil, e]
    show (if badO c b then some (i + 1) else _) = _
    rw [hbo, if_pos rfl]
theorem told_cut {w : Ws} (h : isW w) {n : Nat} (hn : n < (wordsW w).length) (hp : nameW w ≠ "put" ∨ n < 3) : ToldL ((wordsW w).take n) ((n : Nat) : Int) := by
  cases n with
  | zero => exact ⟨"", [], none, .inr ⟨rfl, rfl, rfl⟩, (fun _ h => by rw [List.take_zero] at h; cases h), Nat.zero_le _, (bad0_ok "" (by simp [bad0])).2, rfl⟩
  | succ i =>
    have hn : i + 1 < (argsW w).length + 1 := hn
    have hkl := (kinds_len h).1
    have e := told_at h (i := i) (by omega) (rest := []) (fun _ h => nomatch h) (Nat.zero_le _) ?_
    · rw [List.append_nil] at e
      exact e
    · have hil : i < (kindsW w).length := by omega
      rw [List.drop_eq_getElem_cons hil]
      have : ∃ c, (kindsW w)[i]'hil = (c, false) := by
        have g : ∀ j (hj : j < (kindsW w).length), (nameW w ≠ "put" ∨ j < 2) → ((kindsW w)[j]'hj).2 = false := by
          intro j hj hjp
          rcases hjp with hne | hj2
          · have hk : kindsW w = (shapeW w).cps.toList.map fun c => (c, false) := if_neg hne
            simp only [hk, List.getElem_map]
          · by_cases hne : nameW w = "put"
            · have hk : kindsW w = putK := if_pos hne
              match j, hj2 with
              | 0, _ => simp only [hk]; rfl
              | 1, _ => simp only [hk]; rfl
            · have hk : kindsW w = (shapeW w).cps.toList.map fun c => (c, false) := if_neg hne
              simp only [hk, List.getElem_map]
        have := g i hil (hp.imp id fun z => by omega)
        exact ⟨((kindsW w)[i]'hil).1, by rw [← this]⟩
      obtain ⟨c, e⟩ := this
      rw [e]
      rfl
theorem one_ok : ∀ x ∈ (["1", "2", "3", "4"] : List Str), wordOk x := by
  have h : ∀ x ∈ (["1", "2", "3", "4"] : List Str), wordB x = true := by decide +kernel
  exact fun x hx => wordB_ok (h x hx)
theorem told_more {w : Ws} (h : isW w) (hp : nameW w ≠ "put") : ToldL (wordsW w ++ (["1"] : List Str)) (((wordsW w).length : Nat) : Int) := by
  have hkl := (kinds_len h).2 hp
  have e := told_at h (i := (argsW w).length) (Nat.le_refl _) (rest := ["1"]) (fun x hx => one_ok x (by rw [List.mem_singleton.mp hx]; simp)) (by decide) (by rw [List.drop_eq_nil_of_le (by omega)]; rfl)
  rw [List.take_of_length_le (by show (argsW w).length + 1 ≤ _; exact Nat.le_refl _)] at e
  exact e
theorem told_put {k : Str} (h : isKey k) : ToldL ((["put", k] : List Str) ++ (["1", "2", "3", "4"] : List Str)) 5 := by
  have hw : isW (.c (.put k [1, 2, 3])) := ⟨h, by decide, by decide, by decide⟩
  have e := told_at hw (i := 4) (by show 4 ≤ 4; decide) (rest := ["4"]) (fun x hx => one_ok x (by rw [List.mem_singleton.mp hx]; simp)) (by decide) (by rw [kinds_of]; rfl)
  have ew : (wordsW (.c (.put k [1, 2, 3]))).take (4 + 1) = (["put", k, "1", "2", "3"] : List Str) := by
    show (["put", k, numS 1, numS 2, numS 3] : List Str) = _
    have e1 : numS 1 = "1" := by decide +kernel
    have e2 : numS 2 = "2" := by decide +kernel
    have e3 : numS 3 = "3" := by decide +kernel
    rw [e1, e2, e3]
  rw [ew] at e
  exact e
def rep (ws : List Str) (n : Nat) (b : Str) : List Str := ws.take n ++ b :: ws.drop (n + 1)
theorem rep_mem {ws : List Str} {n : Nat} {b : Str} (hw : ∀ x ∈ ws, wordOk x) (hb : wordOk b) : ∀ x ∈ rep ws n b, wordOk x := fun x hx => by
  rcases List.mem_append.mp hx with hx | hx
  · exact hw x (List.take_subset _ _ hx)
  rcases List.mem_cons.mp hx with e | hx
  · rw [e]; exact hb
  · exact hw x (List.drop_subset _ _ hx)
theorem rep_len {ws : List Str} {n : Nat} {b : Str} (hn : n < ws.length) : (rep ws n b).length = ws.length := by
  unfold rep
  rw [List.length_append, List.length_cons, List.length_take, List.length_drop]
  omega
theorem rep_rep {ws : List Str} {n m : Nat} {b b2 : Str} (hn : n < ws.length) (hm : m < ws.length) : ∃ r, rep (rep ws n b) m b2 = ws.take (min n m) ++ (if m ≤ n then b2 else b) :: r ∧ r.length + (min n m + 1) = ws.length := by
  have len : (rep (rep ws n b) m b2).length = ws.length := by rw [rep_len (by rw [rep_len hn]; exact hm), rep_len hn]
  by_cases h : m ≤ n
  · refine ⟨(rep ws n b).drop (m + 1), ?_, ?_⟩
    · rw [if_pos h, Nat.min_eq_right h]
      show (rep ws n b).take m ++ b2 :: (rep ws n b).drop (m + 1) = _
      congr 1
      unfold rep
      rw [List.take_append_of_le_length (by rw [List.length_take]; omega), List.take_take, Nat.min_eq_left h]
    · rw [List.length_drop, rep_len hn, Nat.min_eq_right h]
      omega
  · have h' : n < m := by omega
    have tl : (ws.take n).length = n := by rw [List.length_take]; omega
    refine ⟨(ws.drop (n + 1)).take (m - n - 1) ++ b2 :: (rep ws n b).drop (m + 1), ?_, ?_⟩
    · rw [if_neg h, Nat.min_eq_left (Nat.le_of_lt h')]
      have e1 : (rep ws n b).take m = ws.take n ++ b :: (ws.drop (n + 1)).take (m - n - 1) := by
        unfold rep
        rw [List.take_append, tl, List.take_of_length_le (by rw [tl]; omega)]
        congr 1
        rw [show m - n = (m - n - 1) + 1 from by omega, List.take_succ_cons]
        rfl
      show (rep ws n b).take m ++ b2 :: (rep ws n b).drop (m + 1) = _
      rw [e1, List.append_assoc]
      rfl
    · rw [List.length_append, List.length_cons, List.length_take, List.length_drop, List.length_drop, rep_len hn, Nat.min_eq_left (Nat.le_of_lt h')]
      omega
theorem words_five {w : Ws} (h : isW w) : (wordsW w).length ≤ 5 := by
  have h1 := (kinds_len h).1
  have h2 : (kindsW w).length ≤ 4 := by
    rw [kinds_of]
    rcases w with q | c
    · cases q <;> (dsimp only; decide)
    · cases c <;> (dsimp only; decide)
  show (argsW w).length + 1 ≤ 5
  omega
theorem told_twice {w : Ws} (h : isW w) {n m : Nat} {b b2 : Str} (hn : n < (wordsW w).length) (hm : m < (wordsW w).length) (hb : b ∈ badL w n) (hb2 : b2 ∈ badL w m) :
    ToldL (rep (rep (wordsW w) n b) m b2) ((min n m : Nat) : Int) ∧ ToldL ((rep (rep (wordsW w) n b) m b2).take (max n m + 1)) ((min n m : Nat) : Int) ∧ ToldL (rep (rep (wordsW w) n b) m b2 ++ (["1"] : List Str)) ((min n m : Nat) : Int) := by
  have h5 := words_five h
  have hw := (words_ok h).1
  have hall := rep_mem (n := m) (rep_mem (n := n) hw (badL_ok hb).1) (badL_ok hb2).1
  obtain ⟨r, e, hr⟩ := rep_rep (b := b) (b2 := b2) hn hm
  rw [e] at hall ⊢
  have hmin : min n m < (wordsW w).length := Nat.lt_of_le_of_lt (Nat.min_le_left _ _) hn
  have hx : (if m ≤ n then b2 else b) ∈ badL w (min n m) := by
    split
    · rename_i z; rw [Nat.min_eq_right z]; exact hb2
    · rename_i z; rw [Nat.min_eq_left (by omega)]; exact hb
  generalize (if m ≤ n then b2 else b) = x at hx hall e
  have hrw : ∀ y ∈ r, wordOk y := fun y hy => hall y (List.mem_append_right _ (List.mem_cons_of_mem _ hy))
  refine ⟨told_bad h hmin hx hrw (by omega), ?_, ?_⟩
  · have tl : ((wordsW w).take (min n m)).length = min n m := by rw [List.length_take]; omega
    have hle : min n m ≤ max n m := by omega
    rw [List.take_append, tl, List.take_of_length_le (by rw [tl]; omega), show max n m + 1 - min n m = (max n m - min n m) + 1 from by omega, List.take_succ_cons]
    exact told_bad h hmin hx (fun y hy => hrw y (List.take_subset _ _ hy)) (by rw [List.length_take]; omega)
  · rw [List.append_assoc, List.cons_append]
    exact told_bad h hmin hx (fun y hy => by
      rcases List.mem_append.mp hy with z | z
      · exact hrw y z
      · exact one_ok y (by rw [List.mem_singleton.mp z]; simp)) (by rw [List.length_append]; show r.length + 1 ≤ 8; omega)
theorem told_one {w : Ws} (h : isW w) {n : Nat} {b : Str} (hn : n < (wordsW w).length) (hb : b ∈ badL w n) : ToldL (rep (wordsW w) n b) ((n : Nat) : Int) := by
  have h5 := words_five h
  exact told_bad h hn hb (fun y hy => (words_ok h).1 y (List.drop_subset _ _ hy)) (by rw [List.length_drop]; omega)
theorem told_join {l : List Str} {n : Int} (h : ToldL l n) : joinFit " " l := by
  obtain ⟨_, _, _, _, hw, hz, _⟩ := h
  exact join_fit hw hz
theorem ifB_or {c d : Bool} {A B : Prop} (h : ifB (c || d) A B) : ifB c (ifB true A B) (ifB d A B) := by
  cases c with
  | true => exact h
  | false => exact h
end DL
namespace DL
open PySem PySem.Spec PyProof.Rows L2
def top (i : Nat) : Stmt := PySem.Challenge.pw_rightrows_k34_written_wishes_refused.main.body.getD i (.Pass ⟨0, 0, 0, 0⟩)
section
variable {P : Program} {w : World} {K : PySem.W.Frag} {T : Addr → Prop} {mg : Str → Option Value} {base : Heap}
abbrev s_is_key : Stmt := top 8
abbrev N_is_key : List Str := ["key", "letter"]
theorem sc_is_key : FnScope N_is_key ["key"] (C8.fnScope s_is_key) := C8.fnScope_by (by decide +kernel)
theorem ok_is_key (D : Df K mg "is_key" s_is_key) (gn : Gn K T mg base "is_key") (bi : Bi mg) (c_LETTERS : ∃ t, mg "LETTERS" = some (.str "abcdefghijklmnopqrstuvwxyz0123456789" t)) : CalP P w K T mg base 2 "is_key" spKeyB := by
  have sc := sc_is_key
  refine D.calpG (k := 1) (Q := spKeyB) gn (fun _ _ _ _ _ _ us hl => match us, hl with | [_], _ => rfl) sc (by rintro _ _ ⟨k, rfl, _⟩; rfl)
      (fun f cdv A outer s H E gn hr =>
      (dpss_one (dps_ret (dpe_and (dpe_chain od_le od_le dpe_int (e_len bi (a1 (dpv 0))) dpe_int) (dpe_one (dpe_all (ow := [("letter", 1)]) gn hr bi (lk_name (by decide)) rfl sc.nd (dpi_any (dpv 0)) (blkOk_by (N := N_is_key) (sc := C8.fnScope s_is_key) (by decide +kernel)) (by decide +kernel) (fun _ _ _ _ _ _ _ => pg_name (i := 1) sc.nd rfl (Or.inl rfl)) (fun _ _ _ _ _ _ _ => dpts_nil) (fun _ _ _ _ _ _ _ => (e_inS (dpv 1) (dpe_gstr (by rfl) c_LETTERS))))))))
      ) ?_
  rintro xs Kp ⟨k, rfl, hl, hk⟩
  have hz : k.length ≤ sizeLine := Nat.le_trans hl (by decide)
  refine ⟨hz, ?_⟩
  have hkb : keyB k = ((decide (1 ≤ ((k.length : Nat) : Int)) && decide (((k.length : Nat) : Int) ≤ 8)) && k.cps.toList.all fun c => decide (c ∈ lettersS.cps.toList)) := rfl
  refine ifB_of (fun h1 => ?_) (fun h1 => ?_)
  · have h1 : decide (1 ≤ ((k.length : Nat) : Int)) = true := h1
    refine ifB_of (fun h2 => ?_) (fun h2 => ?_)
    · have h2 : decide (((k.length : Nat) : Int) ≤ 8) = true := h2
      rw [h1, h2, Bool.true_and, Bool.true_and] at hkb
      rw [hkb] at hk
      exact allG_map (fun c : Nat => W.fz (.str ⟨#[c]⟩)) (fun c => decide (c ∈ lettersS.cps.toList)) (fun c _ X Y q => q) hk
    · have h2 : decide (((k.length : Nat) : Int) ≤ 8) = false := h2
      rw [h2, Bool.and_false, Bool.false_and] at hkb
      rw [hkb] at hk
      exact hk
  · have h1 : decide (1 ≤ ((k.length : Nat) : Int)) = false := h1
    rw [h1, Bool.false_and, Bool.false_and] at hkb
    rw [hkb] at hk
    exact hk
abbrev s_number_of : Stmt := top 12
abbrev N_number_of : List Str := ["word", "most", "letter"]
theorem sc_number_of : FnScope N_number_of ["word", "most"] (C8.fnScope s_number_of) := C8.fnScope_by (by decide +kernel)
theorem ok_number_of (D : Df K mg "number_of" s_number_of) (gn : Gn K T mg base "number_of") (bi : Bi mg) : CalP P w K T mg base 2 "number_of" spNumW := by
  have sc := sc_number_of
  refine D.calpG (k := 1) (Q := spNumW) gn (fun _ _ _ _ _ _ us hl => match us, hl with | [_, _], _ => rfl) sc (by rintro _ _ ⟨w, most, rfl, _⟩; rfl)
      (fun f cdv A outer s H E gn hr =>
      (dpss_cons (dps_if (DPW.pt (dpw_or (dpt_not (dpt_chain od_le od_le dpe_int (e_len bi (a1 (dpv 0))) dpe_int)) (dpw_or1 (dpt_not (dpt_tru (dpe_all (ow := [("letter", 2)]) gn hr bi (lk_name (by decide)) rfl sc.nd (dpi_any (dpv 0)) (blkOk_by (N := N_number_of) (sc := C8.fnScope s_number_of) (by decide +kernel)) (by decide +kernel) (fun _ _ _ _ _ _ _ => pg_name (i := 2) sc.nd rfl (Or.inl rfl)) (fun _ _ _ _ _ _ _ => dpts_nil) (fun _ _ _ _ _ _ _ => (e_inS (dpv 2) dpe_str))))))))
        (dpss_one (dps_ret dpe_non))
        dpss_nil)
        (dpss_cons (dps_if (DPW.pt (dpw_or (DPW.pt (dpw_and (c_gt (e_len bi (a1 (dpv 0))) dpe_int) (dpw_and1 (c_eq hr (e_ix (dpv 0) dpe_int) dpe_str)))) (dpw_or1 (c_gt (e_intS bi (a1 (dpv 0))) (dpv 1)))))
        (dpss_one (dps_ret dpe_non))
        dpss_nil)
        (dpss_one (dps_ret (e_intS bi (a1 (dpv 0)))))))
      ) ?_
  rintro xs Kp ⟨w, most, rfl, hl, hk⟩
  have hz : w.length ≤ sizeLine := Nat.le_trans hl (by decide)
  refine ⟨hz, ?_⟩
  have ed : digB w = ((decide (1 ≤ ((w.length : Nat) : Int)) && decide (((w.length : Nat) : Int) ≤ 5)) && w.cps.toList.all fun c => decide (c ∈ digitsS.cps.toList)) := rfl
  have no : digB w = false → Kp .non := fun h => by
    unfold numO at hk
    rw [h, if_neg Bool.false_ne_true] at hk
    exact hk
  refine ifB_of (fun h1 => ?_) (fun h1 => ?_)
  rotate_left
  · have h1 : decide (1 ≤ ((w.length : Nat) : Int)) = false := h1
    exact no (by rw [ed, h1]; rfl)
  have h1 : decide (1 ≤ ((w.length : Nat) : Int)) = true := h1
  refine ifB_of (fun h2 => ?_) (fun h2 => ?_)
  · have h2 : (!decide (((w.length : Nat) : Int) ≤ 5)) = true := h2
    exact no (by rw [ed]; revert h2; cases decide (((w.length : Nat) : Int) ≤ 5) <;> simp)
  have h2 : (!decide (((w.length : Nat) : Int) ≤ 5)) = false := h2
  have h2 : decide (((w.length : Nat) : Int) ≤ 5) = true := by revert h2; cases decide (((w.length : Nat) : Int) ≤ 5) <;> simp
  refine allG_map (fun c : Nat => W.fz (.str ⟨#[c]⟩)) (fun c => decide (c ∈ digitsS.cps.toList)) (fun c _ X Y q => q) ?_
  rw [h1, h2, Bool.true_and, Bool.true_and] at ed
  rw [← ed]
  cases hd : digB w with
  | false => exact no hd
  | true =>
    have hi := digB_int hd
    obtain ⟨l1, l5, hdig⟩ := digB_ex hd
    have h640 : w.length ≤ 640 := by rw [len_l]; omega
    have ez : zeroB w = (decide (1 < ((w.length : Nat) : Int)) && decide (w.cps.toList[0]? = some 48)) := rfl
    have e : numO w most = if zeroB w || decide (most < numV w) then none else some (numV w) := by
      unfold numO
      rw [hd, if_pos rfl]
    have big : zeroB w = true → Kp .non := fun h => by
      rw [e, h, Bool.true_or, if_pos rfl] at hk
      exact hk
    have small : zeroB w = false → ifB (decide (most < numV w)) (Kp .non) (Kp (.int (numV w))) := fun h => by
      rw [e, h, Bool.false_or] at hk
      refine ifB_of (fun h3 => ?_) (fun h3 => ?_)
      · rw [h3, if_pos rfl] at hk; exact hk
      · rw [h3, if_neg Bool.false_ne_true] at hk; exact hk
    refine ⟨hz, ?_⟩
    have last : zeroB w = false → ∃ n, PySem.intText? w = some n ∧ w.length ≤ 640 ∧ ifB (decide (most < n)) (Kp .non) (∃ n, PySem.intText? w = some n ∧ w.length ≤ 640 ∧ Kp (.int n)) := fun h => by
      refine ⟨numV w, hi, h640, ?_⟩
      have sm := small h
      refine ifB_of (fun h5 => ?_) (fun h5 => ?_)
      · rw [h5] at sm; exact sm
      · rw [h5] at sm; exact ⟨numV w, hi, h640, sm⟩
    refine ifB_of (fun h3 => ?_) (fun h3 => ?_)
    · have h3 : decide (1 < ((w.length : Nat) : Int)) = true := h3
      refine ⟨hz, ?_⟩
      refine onO_at (Int.le_refl 0) (by rw [← len_l]; have := of_decide_eq_true h3; omega) fun c hc => ?_
      have hc : w.cps.toList[0]? = some c := hc
      have hcd := hdig c (List.mem_of_getElem? hc)
      have hs : ([c] : List Nat).all sign = true := by simp [sign]; omega
      refine ⟨⟨ok_str (key_ok (isKey1 hs)), ok_str (by decide +kernel)⟩, ?_⟩
      refine ifB_of (fun h4 => ?_) (fun h4 => ?_)
      · have h4 : eqD (.str ⟨#[c]⟩) (.str "0") = true := h4
        rw [eqD_str, decide_eq_true_eq] at h4
        have e48 : c = 48 := by
          have := congrArg (fun x : Str => x.cps.toList) h4
          have : ([c] : List Nat) = ("0" : Str).cps.toList := this
          rw [show ("0" : Str).cps.toList = [48] from by decide +kernel] at this
          injection this
        exact big (by rw [ez, h3, hc, e48]; rfl)
      · have h4 : eqD (.str ⟨#[c]⟩) (.str "0") = false := h4
        rw [eqD_str, decide_eq_false_iff_not] at h4
        have n48 : c ≠ 48 := fun z => h4 (by rw [z]; decide +kernel)
        exact last (by rw [ez, hc, decide_eq_false (fun z => n48 (Option.some.inj z)), Bool.and_false])
    · have h3 : decide (1 < ((w.length : Nat) : Int)) = false := h3
      exact last (by rw [ez, h3]; rfl)
abbrev s_row_of : Stmt := top 14
abbrev N_row_of : List Str := ["words", "row", "word"]
theorem sc_row_of : FnScope N_row_of ["words"] (C8.fnScope s_row_of) := C8.fnScope_by (by decide +kernel)
theorem ok_row_of (D : Df K mg "row_of" s_row_of) (bi : Bi mg) (c_number_of : CalP P w K T mg base 2 "number_of" spNumW) (c_MOST_NUMBER : ∃ t, mg "MOST_NUMBER" = some (.int 65535 t)) (c_COLUMNS : ∃ t, mg "COLUMNS" = some (.int 3 t)) : CalP P w K T mg base 3 "row_of" spRowOf := by
  have sc := sc_row_of
  refine D.calp (k := 2) (Q := spRowOf) (fun _ _ _ _ _ _ us hl => match us, hl with | [_], _ => rfl) sc (by rintro _ _ ⟨ws, rfl, _⟩; rfl)
      (fun f cdv A outer s H E hr =>
      (dpss_cons (dps_setLc (ow := [("word", 2)]) (i := 1) false (lk_name (by decide)) rfl sc.nd rfl rfl (sw_true rfl rfl rfl (by decide +kernel)) (dpi_any (dpv 0)) (blkOk_by (N := N_row_of) (sc := C8.fnScope s_row_of) (by decide +kernel)) (fun _ _ _ _ _ => pg_name (i := 2) sc.nd rfl (Or.inl rfl)) (fun _ _ _ _ _ => dpts_nil) (fun _ _ _ _ _ => (dpe_callP c_number_of hr (Nat.le_refl _) (by rfl) (dpa_cons (dpv 2) (a1 (dpe_gint (by rfl) c_MOST_NUMBER))))))
        (dpss_cons (dps_if (DPW.pt (dpw_or (dpt_not (dpt_chain od_le od_le dpe_int (e_len bi (a1 (dpv 1))) (dpe_gint (by rfl) c_COLUMNS))) (dpw_or1 (c_inL hr dpe_non (dpv 1)))))
        (dpss_one (dps_ret dpe_non))
        dpss_nil)
        (dpss_one (dps_ret (e_tuple bi (a1 (dpv 1)))))))
      ) ?_
  rintro xs Kp ⟨ws, rfl, hl, hw, hk⟩
  refine ⟨by rw [List.length_map, List.length_map]; exact Nat.le_trans hl (by decide), ?_⟩
  rw [List.map_map]
  refine lcW_mapF (fun w : Str => W.fz (.str w)) (fun w => W.fz (oD (numO w 65535))) (fun w hw' A Bf ha => ⟨w, 65535, rfl, hw w hw', ha⟩) ?_
  refine newL_E (ws.map fun w => oD (numO w 65535)) (by rw [List.map_map]; rfl) ?_
  have el : ((((ws.map fun w => oD (numO w 65535)).map W.fz).length : Nat) : Int) = ((ws.length : Nat) : Int) := by rw [List.length_map, List.length_map]
  have no : ((decide (1 ≤ ((ws.length : Nat) : Int)) && decide (((ws.length : Nat) : Int) ≤ 3)) && ws.all fun w => (numO w 65535).isSome) = false → Kp .non := fun h => by
    unfold rowOf at hk
    rw [h, if_neg Bool.false_ne_true] at hk
    exact hk
  refine ifB_of (fun h1 => ?_) (fun h1 => ?_)
  rotate_left
  · have h1 : decide (1 ≤ ((((ws.map fun w => oD (numO w 65535)).map W.fz).length : Nat) : Int)) = false := h1
    rw [el] at h1
    exact no (by rw [h1]; rfl)
  have h1 : decide (1 ≤ ((((ws.map fun w => oD (numO w 65535)).map W.fz).length : Nat) : Int)) = true := h1
  rw [el] at h1
  refine ifB_of (fun h2 => ?_) (fun h2 => ?_)
  · have h2 : (!decide (((((ws.map fun w => oD (numO w 65535)).map W.fz).length : Nat) : Int) ≤ 3)) = true := h2
    rw [el] at h2
    exact no (by rw [h1]; revert h2; cases decide (((ws.length : Nat) : Int) ≤ 3) <;> simp)
  have h2 : (!decide (((((ws.map fun w => oD (numO w 65535)).map W.fz).length : Nat) : Int) ≤ 3)) = false := h2
  rw [el] at h2
  have h2 : decide (((ws.length : Nat) : Int) ≤ 3) = true := by revert h2; cases decide (((ws.length : Nat) : Int) ≤ 3) <;> simp
  have okL : okD 60 (.lst (ws.map fun w => oD (numO w 65535))) = true := okDL_iff.mpr fun d hd => by
    obtain ⟨w, _, rfl⟩ := List.mem_map.mp hd
    cases numO w 65535 <;> rfl
  refine ⟨⟨rfl, okL, rfl, okD_shaped okL (by decide)⟩, ?_⟩
  rw [any_oD]
  cases ha : (ws.all fun w => (numO w 65535).isSome) with
  | false => exact no (by rw [ha, Bool.and_false])
  | true =>
    have e : rowOf ws = some (ws.map fun w => (numO w 65535).getD 0) := by
      unfold rowOf
      rw [h1, h2, ha]
      rfl
    rw [e] at hk
    have e2 := oD_some ha
    show onO (dW [] (mkT ((ws.map fun w => oD (numO w 65535)).map W.fz))) fun d => Kp d
    rw [mkT_fz, e2]
    exact hk
abbrev s_bound_of : Stmt := top 13
abbrev N_bound_of : List Str := ["word", "letter"]
theorem sc_bound_of : FnScope N_bound_of ["word"] (C8.fnScope s_bound_of) := C8.fnScope_by (by decide +kernel)
theorem ok_bound_of (D : Df K mg "bound_of" s_bound_of) (gn : Gn K T mg base "bound_of") (bi : Bi mg) (c_LETTERS : ∃ t, mg "LETTERS" = some (.str "abcdefghijklmnopqrstuvwxyz0123456789" t)) : CalP P w K T mg base 2 "bound_of" spBoundOf := by
  have sc := sc_bound_of
  refine D.calpG (k := 1) (Q := spBoundOf) gn (fun _ _ _ _ _ _ us hl => match us, hl with | [_], _ => rfl) sc (by rintro _ _ ⟨k, rfl, _⟩; rfl)
      (fun f cdv A outer s H E gn hr =>
      (dpss_cons (dps_if (c_eq hr (dpv 0) dpe_str)
        (dpss_one (dps_ret dpe_str))
        dpss_nil)
        (dpss_cons (dps_if (DPW.pt (dpw_and (dpt_chain od_le od_le dpe_int (e_len bi (a1 (dpv 0))) dpe_int) (dpw_and1 (dpt_tru (dpe_all (ow := [("letter", 1)]) gn hr bi (lk_name (by decide)) rfl sc.nd (dpi_any (dpv 0)) (blkOk_by (N := N_bound_of) (sc := C8.fnScope s_bound_of) (by decide +kernel)) (by decide +kernel) (fun _ _ _ _ _ _ _ => pg_name (i := 1) sc.nd rfl (Or.inl rfl)) (fun _ _ _ _ _ _ _ => dpts_nil) (fun _ _ _ _ _ _ _ => (e_inS (dpv 1) (dpe_gstr (by rfl) c_LETTERS))))))))
        (dpss_one (dps_ret (dpv 0)))
        dpss_nil)
        (dpss_one (dps_ret dpe_non))))
      ) ?_
  rintro xs Kp ⟨k, rfl, hl, hlow, hk⟩
  have hz : k.length ≤ sizeLine := Nat.le_trans hl (by decide)
  refine ⟨⟨ok_str (low_ok hlow), ok_str (by decide +kernel)⟩, ?_⟩
  refine ifB_of (fun h1 => ?_) (fun h1 => ?_)
  · have h1 : eqD (.str k) (.str "-") = true := h1
    rw [eqD_str, decide_eq_true_eq] at h1
    unfold bndO at hk
    rw [if_pos h1] at hk
    exact hk
  have h1 : eqD (.str k) (.str "-") = false := h1
  rw [eqD_str, decide_eq_false_iff_not] at h1
  unfold bndO at hk
  rw [if_neg h1] at hk
  have hkb : bdB k = ((decide (1 ≤ ((k.length : Nat) : Int)) && decide (((k.length : Nat) : Int) ≤ 9)) && k.cps.toList.all fun c => decide (c ∈ lettersS.cps.toList)) := rfl
  have no : bdB k = false → Kp .non := fun h => by rw [h, if_neg Bool.false_ne_true] at hk; exact hk
  refine ⟨hz, ?_⟩
  refine ifB_of (fun h1 => ?_) (fun h1 => ?_)
  rotate_left
  · have h1 : decide (1 ≤ ((k.length : Nat) : Int)) = false := h1
    exact no (by rw [hkb, h1]; rfl)
  have h1 : decide (1 ≤ ((k.length : Nat) : Int)) = true := h1
  refine ifB_of (fun h2 => ?_) (fun h2 => ?_)
  rotate_left
  · have h2 : decide (((k.length : Nat) : Int) ≤ 9) = false := h2
    exact no (by rw [hkb, h2, Bool.and_false]; rfl)
  have h2 : decide (((k.length : Nat) : Int) ≤ 9) = true := h2
  rw [h1, h2, Bool.true_and, Bool.true_and] at hkb
  refine allG_map (fun c : Nat => W.fz (.str ⟨#[c]⟩)) (fun c => decide (c ∈ lettersS.cps.toList)) (fun c _ X Y q => q) ?_
  rw [← hkb]
  cases hb : bdB k with
  | false => exact no hb
  | true => rw [hb, if_pos rfl] at hk; exact hk
abbrev s_operand : Stmt := top 15
abbrev N_operand : List Str := ["kind", "word"]
theorem sc_operand : FnScope N_operand ["kind", "word"] (C8.fnScope s_operand) := C8.fnScope_by (by decide +kernel)
theorem ok_operand (D : Df K mg "operand" s_operand) (bi : Bi mg) (c_is_key : CalP P w K T mg base 2 "is_key" spKeyB) (c_number_of : CalP P w K T mg base 2 "number_of" spNumW) (c_bound_of : CalP P w K T mg base 2 "bound_of" spBoundOf) (c_MOST_COUNT : ∃ t, mg "MOST_COUNT" = some (.int 100 t)) (c_COLUMNS : ∃ t, mg "COLUMNS" = some (.int 3 t)) : CalP P w K T mg base 3 "operand" spOperand := by
  have sc := sc_operand
  refine D.calp (k := 2) (Q := spOperand) (fun _ _ _ _ _ _ us hl => match us, hl with | [_, _], _ => rfl) sc (by rintro _ _ ⟨c, k, rfl, _⟩; rfl)
      (fun f cdv A outer s H E hr =>
      (dpss_cons (dps_if (c_eq hr (dpv 0) dpe_str)
        (dpss_one (dps_ret (dpe_if (dpt_tru (dpe_callP c_is_key hr (Nat.le_refl _) (by rfl) (a1 (dpv 1)))) (dpv 1) dpe_non)))
        dpss_nil)
        (dpss_cons (dps_if (c_eq hr (dpv 0) dpe_str)
        (dpss_one (dps_ret (dpe_callP c_bound_of hr (Nat.le_refl _) (by rfl) (a1 (dpv 1)))))
        dpss_nil)
        (dpss_cons (dps_if (c_eq hr (dpv 0) dpe_str)
        (dpss_one (dps_ret (dpe_callP c_number_of hr (Nat.le_refl _) (by rfl) (dpa_cons (dpv 1) (a1 (dpe_gint (by rfl) c_MOST_COUNT))))))
        dpss_nil)
        (dpss_cons (dps_if (c_eq hr (dpv 0) dpe_str)
        (dpss_one (dps_ret (dpe_callP c_number_of hr (Nat.le_refl _) (by rfl) (dpa_cons (dpv 1) (a1 (e_sub (dpe_gint (by rfl) c_COLUMNS) dpe_int))))))
        dpss_nil)
        (dpss_one (dps_ret (dpe_callP c_number_of hr (Nat.le_refl _) (by rfl) (dpa_cons (dpv 1) (a1 dpe_int)))))))))
      ) ?_
  rintro xs Kp ⟨c, k, rfl, hc, hl, hlow, hk⟩
  have oks : ∀ c ∈ ([107, 98, 99, 108, 110] : List Nat), okD 64 (.str ⟨#[c]⟩) = true := by decide +kernel
  have okc := oks c hc
  simp only [List.mem_cons, List.not_mem_nil, or_false] at hc
  rcases hc with rfl | rfl | rfl | rfl | rfl
  · refine ⟨⟨okc, ok_str (by decide +kernel)⟩, ?_⟩
    refine ⟨k, rfl, hl, ?_⟩
    refine ifB_of (fun h => ?_) (fun h => ?_)
    · have h : keyB k = true := h
      unfold opD at hk
      rw [if_pos rfl, h, if_pos rfl] at hk
      exact hk
    · have h : keyB k = false := h
      unfold opD at hk
      rw [if_pos rfl, h, if_neg Bool.false_ne_true] at hk
      exact hk
  · refine ⟨⟨okc, ok_str (by decide +kernel)⟩, ?_⟩
    refine ⟨⟨okc, ok_str (by decide +kernel)⟩, ?_⟩
    exact ⟨k, rfl, hl, hlow, hk⟩
  · refine ⟨⟨okc, ok_str (by decide +kernel)⟩, ?_⟩
    refine ⟨⟨okc, ok_str (by decide +kernel)⟩, ?_⟩
    refine ⟨⟨okc, ok_str (by decide +kernel)⟩, ?_⟩
    exact ⟨k, 100, rfl, hl, hk⟩
  · refine ⟨⟨okc, ok_str (by decide +kernel)⟩, ?_⟩
    refine ⟨⟨okc, ok_str (by decide +kernel)⟩, ?_⟩
    refine ⟨⟨okc, ok_str (by decide +kernel)⟩, ?_⟩
    refine ⟨⟨okc, ok_str (by decide +kernel)⟩, ?_⟩
    exact ⟨trivial, k, 2, rfl, hl, hk⟩
  · refine ⟨⟨okc, ok_str (by decide +kernel)⟩, ?_⟩
    refine ⟨⟨okc, ok_str (by decide +kernel)⟩, ?_⟩
    refine ⟨⟨okc, ok_str (by decide +kernel)⟩, ?_⟩
    refine ⟨⟨okc, ok_str (by decide +kernel)⟩, ?_⟩
    exact ⟨k, 99999, rfl, hl, hk⟩
abbrev s_InvalidWord : Stmt := (C8.clsBody (top 3)).getD 0 (.Pass ⟨0, 0, 0, 0⟩)
abbrev N_InvalidWord : List Str := ["self", "number"]
theorem ss_InvalidWord : ScopeS N_InvalidWord ["self", "number"] (C8.fnScope s_InvalidWord) := scopeS_by (by decide +kernel)
theorem ok_InvalidWord {C : Addr} (D : ReDf P K mg "InvalidWord" "InvalidWord.__init__" s_InvalidWord ["number"] C) : RefN P w K mg base "InvalidWord" C := by
  obtain ⟨f, SF, iC, tI⟩ := D.ex
  have no1 := D.cat.no "number" (by simp)
  have hB : ∃ fd : FuncData, FnOk P w K mg base C8.CX0 1 f fd ["self", "number"] (spRef1 C) ∧ Binds K fd ["self", "number"] [] := by
    refine fnSupE (CX := C8.CX0) (P := P) (w := w) (K := K) (mg := mg) (base := base) (k := 0) (sp := spRef1 C) SF D.sup rfl ss_InvalidWord rfl rfl rfl (fun _ _ _ _ _ _ _ us hl => match us, hl with | [_, _], _ => rfl) (by rintro _ _ _ _ ⟨a, n, rfl, _⟩; rfl) (fun _ _ _ _ => rfl) (fun _ _ _ _ => rfl) (fun _ _ _ _ => rfl) (fun _ _ _ _ => rfl)
      (fun cdv cc A outer s H vs Q E hr ⟨a, n, e, h0, hn, ha, hq⟩ => ⟨_, _, a, _, pa_cons (pe_joined (.cons pe_str (.cons (pe_fmt (pv 1)) (.cons pe_str .nil)))) pa_nil, pss_one (ps_ost (pv 0) (pv 1)), e, ha, ?_⟩)
    subst e
    intro q hnq
    have hqa : a ≠ q := fun z => by rw [← z, ha] at hnq; cases hnq
    have hd := digsI n h0 hn
    have big : 1000 ≤ sizeLine := by decide
    have z1 : (Str.empty ++ ("word " : Str)).length ≤ 20 := by decide
    have z2 : (Str.empty ++ ("word " : Str) ++ ((toString n : String) : Str)).length ≤ 30 := by rw [Str.length_append]; exact Nat.add_le_add (b := 20) (d := 10) z1 hd
    have z3 : (Str.empty ++ ("word " : Str) ++ ((toString n : String) : Str) ++ (" cannot be read" : Str)).length ≤ 60 := by rw [Str.length_append]; exact Nat.add_le_add (b := 30) (d := 30) z2 (by decide)
    refine ⟨"word ", rfl, by omega, ?_⟩
    refine ⟨.int n, rfl, .inr ⟨n, rfl, ?_, _, rfl, Nat.le_trans z2 (by omega), ?_⟩⟩
    · exact Nat.lt_of_le_of_lt (Nat.log2_le_self _) (by omega)
    refine ⟨" cannot be read", rfl, Nat.le_trans z3 (by omega), ?_⟩
    refine ⟨by show 1 ≤ 1000; decide, upd_same, by rw [upd_ne hqa]; exact ha, ?_⟩
    refine ⟨.int n, rfl, .ref a, rfl, a, C, rfl, SF.oex, no1, .inl ⟨by rw [upd_ne hqa]; exact ha, fun dx hdx ne => ?_⟩⟩
    have nq : dx ≠ q := fun z => by rw [z, upd_same] at hdx; cases hdx
    rw [upd_ne nq] at hdx
    exact hq q dx hnq hdx nq
  obtain ⟨fd, h1, b1⟩ := hB
  exact ⟨SF.oex, ⟨f, fd, _, iC, tI, h1, b1⟩, D.mgC⟩
abbrev s_parse_put : Stmt := top 17
abbrev N_parse_put : List Str := ["words", "number"]
theorem sc_parse_put : FnScope N_parse_put ["words"] (C8.fnScope s_parse_put) := C8.fnScope_by (by decide +kernel)
set_option maxHeartbeats 1000000 in
theorem ok_parse_put {C : Addr} (D : Df K mg "parse_put" s_parse_put) (bi : Bi mg) (c_is_key : CalP P w K T mg base 2 "is_key" spKeyB) (c_number_of : CalP P w K T mg base 2 "number_of" spNumW) (c_row_of : CalP P w K T mg base 3 "row_of" spRowOf) (c_MOST_NUMBER : ∃ t, mg "MOST_NUMBER" = some (.int 65535 t)) (c_COLUMNS : ∃ t, mg "COLUMNS" = some (.int 3 t)) (r_InvalidWord : RefN P w K mg base "InvalidWord" C) : CalX P w K T mg base 4 "parse_put" (spPutW C) := by
  have sc := sc_parse_put
  refine D.calX (k := 3) (g := spPutW C) (fun _ _ _ _ _ _ us hl => match us, hl with | [_], _ => rfl) sc (by rintro _ _ _ _ ⟨x, rfl, _⟩; rfl)
      (fun xw f cdv A outer s H E hr po =>
      (dpss_cons (dps_if (DPW.pt (dpw_or (c_lt (e_len bi (a1 (dpv 0))) dpe_int) (dpw_or1 (dpt_not (dpt_tru (dpe_callP c_is_key hr (by decide) (by rfl) (a1 (e_ix (dpv 0) dpe_int))))))))
        (dpss_one (ds_raise1 r_InvalidWord rfl hr (by first | decide | omega) (by rfl) (a1 dpe_int)))
        dpss_nil)
        (dpss_cons (dps_for po rfl (i_rng2 bi (dpa_cons dpe_int (a1 (e_max bi rfl (dpa_cons dpe_int (a1 (e_len bi (a1 (dpv 0))))))))) (gname 1 sc.nd)
        (dpss_one (dps_if (DPW.pt (dpw_or (c_ge (dpv 1) (e_len bi (a1 (dpv 0)))) (dpw_or (c_ge (dpv 1) (e_add false dpe_int (dpe_gint (by rfl) c_COLUMNS))) (dpw_or1 (c_isN (dpe_callP c_number_of hr (by decide) (by rfl) (dpa_cons (e_ix (dpv 0) (dpv 1)) (a1 (dpe_gint (by rfl) c_MOST_NUMBER)))) dpe_non)))))
        (dpss_one (ds_raise1 r_InvalidWord rfl hr (by first | decide | omega) (by rfl) (a1 (dpv 1))))
        dpss_nil)))
        (dpss_one (dps_ret (dpe_tup (dpa_cons dpe_str (dpa_cons (e_ix (dpv 0) dpe_int) (a1 (dpe_callP c_row_of hr (Nat.le_refl _) (by rfl) (a1 (dpe_slice false (dpv 0) (dpo_some dpe_int) dpo_none)))))))))))
      ) ?_
  rintro ws S Kp Xp ⟨rs, rfl, hf, hk, hx⟩
  have bad : ∀ n : Nat, badP 1 putK rs = some n → ∃ i : Int, [W.fz (.int ((n : Nat) : Int))] = [W.fz (.int i)] ∧ -20 ≤ i ∧ i ≤ 1000 ∧ Xp ⟨.ref C, [("number", .int i)]⟩ S := fun n e => by
    have h := hx n e []
    rw [List.append_nil] at h
    exact ⟨_, rfl, h.1.1, h.1.2, h.2⟩
  rcases rs with _ | ⟨k, ns⟩
  · exact bad 1 rfl
  have hns : ns.length ≤ 19 := by have := hf.len; rw [List.length_cons] at this; omega
  have kok := hf.ok k List.mem_cons_self
  have el : ((((("put" : Str) :: k :: ns).map DL.D.str).map W.fz).length : Int) = ((ns.length : Nat) : Int) + 2 := by rw [List.length_map, List.length_map, List.length_cons, List.length_cons]; omega
  refine onO_ws (ys := "put" :: k :: ns) (n := 1) rfl rfl ?_
  refine ⟨k, rfl, Nat.le_trans kok.2 (by decide), ?_⟩
  refine ifB_of (fun h => ?_) (fun h => ?_)
  · have h : (!keyB k) = true := h
    exact bad 1 (badP_put1 ns (by simpa using h))
  have h : (!keyB k) = false := h
  have e1 := badP_put ns (k := k) (by simpa using h)
  obtain ⟨m, em⟩ : ∃ m : Nat, m = Nat.max 1 ns.length := ⟨_, rfl⟩
  have em' : (1 ≤ m ∧ ns.length ≤ m) ∧ (m = 1 ∨ m = ns.length) := by
    rw [em]
    refine ⟨⟨Nat.le_max_left _ _, Nat.le_max_right _ _⟩, ?_⟩
    rcases Nat.le_total 1 ns.length with z | z
    · exact .inr (Nat.max_eq_right z)
    · exact .inl (Nat.max_eq_left z)
  have e3 : (if ((((((("put" : Str) :: k :: ns).map DL.D.str).map W.fz).length : Nat) : Int)) > 3 then ((((((("put" : Str) :: k :: ns).map DL.D.str).map W.fz).length : Nat) : Int)) else 3) = ((m : Nat) : Int) + 2 := by
    rw [el]
    split <;> omega
  refine ⟨⟨by decide, by decide, by rw [e3]; exact Int.le_trans (show (-(2 ^ 62) : Int) ≤ 0 by decide) (by omega), by rw [e3]; exact Int.lt_of_le_of_lt (show ((m : Nat) : Int) + 2 ≤ 30 by omega) (by decide)⟩, ?_⟩
  rw [e3]
  rw [show (((m : Nat) : Int) + 2 - 2).toNat = m from by omega]
  refine loop_inv (I := fun ws env S' => ∃ (i n : Nat) (w1 : Option W), ws = ((List.range' i n).map fun j => W.fz (.int (2 + ((j : Nat) : Int)))) ∧ i + n = m ∧ env = [some (W.fz (.lst ((("put" : Str) :: k :: ns).map DL.D.str))), w1] ∧ S' = S ∧ badP 1 putK (k :: ns) = badP (i + 2) (kinds3.drop i) (ns.drop i)) ?_ ?_ ?_
  · exact ⟨0, m, _, by rw [List.range_eq_range'], by omega, rfl, rfl, e1⟩
  · rintro env S' ⟨i, n, w1, hw, hn, rfl, rfl, eb⟩
    have n0 : n = 0 := by
      cases n with
      | zero => rfl
      | succ n => cases hw
    subst n0
    have ok : badP 1 putK (k :: ns) = none := by rw [eb]; exact badP_step.1 (by omega) (by omega)
    have h := hk ok []
    rw [List.append_nil] at h
    refine onO_ws (ys := "put" :: k :: ns) (n := 1) rfl rfl ?_
    refine onO_cutE (ds := (("put" : Str) :: k :: ns).map DL.D.str) ?_
    rw [cutL_map', cut2]
    refine ⟨ns, rfl, by omega, fun w hw => Nat.le_trans (hf.ok w (List.mem_cons_of_mem _ hw)).2 (by decide), ?_⟩
    refine ⟨sz rfl, ?_⟩
    have e9 := mkT_fz [.str "put", .str k, match rowOf ns with
      | some r => rowD r
      | none => .non]
    show Kp (mkT (List.map W.fz [.str "put", .str k, match rowOf ns with
      | some r => rowD r
      | none => .non])) S'
    rw [e9]
    exact h
  · rintro w ws env S' N ⟨i, n, w1, hw, hn, rfl, rfl, eb⟩ hN
    cases n with
    | zero => cases hw
    | succ n =>
    cases hw
    have big : ∀ j : Nat, j = i + 2 → badP 1 putK (k :: ns) = some j → ∃ i2 : Int, [W.fz (.int (2 + ((i : Nat) : Int)))] = [W.fz (.int i2)] ∧ -20 ≤ i2 ∧ i2 ≤ 1000 ∧ Xp ⟨.ref C, [("number", .int i2)]⟩ S' := fun j ej h => by
      have := bad j h
      rw [show 2 + ((i : Nat) : Int) = ((j : Nat) : Int) from by omega]
      exact this
    refine ifB_of (fun h => ?_) (fun h => ?_)
    · have h : decide (2 + ((i : Nat) : Int) ≥ ((((("put" : Str) :: k :: ns).map DL.D.str).map W.fz).length : Nat)) = true := h
      have h := of_decide_eq_true h
      rw [el] at h
      have i0 : i = 0 := by omega
      have l0 : ns = [] := List.eq_nil_of_length_eq_zero (by omega)
      subst i0 l0
      exact big 2 rfl (by rw [e1]; rfl)
    have h : decide (2 + ((i : Nat) : Int) ≥ ((((("put" : Str) :: k :: ns).map DL.D.str).map W.fz).length : Nat)) = false := h
    have h := of_decide_eq_false h
    rw [el] at h
    obtain ⟨z, hz⟩ : ∃ z, ns[i]? = some z := ⟨_, List.getElem?_eq_getElem (by omega)⟩
    obtain ⟨s1, s2⟩ := (badP_step (ns := ns) (i := i)).2 z hz
    refine ifB_of (fun h => ?_) (fun h => ?_)
    · have h : decide (2 + ((i : Nat) : Int) ≥ 2 + 3) = true := h
      have h := of_decide_eq_true h
      exact big _ rfl (by rw [eb]; exact s1 (by omega))
    have h : decide (2 + ((i : Nat) : Int) ≥ 2 + 3) = false := h
    have h := of_decide_eq_false h
    have s2 := s2 (by omega)
    refine onO_ws (ys := "put" :: k :: ns) (n := i + 2) (by omega) hz ?_
    refine ⟨z, 65535, rfl, Nat.le_trans (hf.ok z (List.mem_cons_of_mem _ (List.mem_of_getElem? hz))).2 (by decide), ?_⟩
    cases ho : numO z 65535 with
    | none =>
      rw [ho] at s2
      exact big _ rfl (by rw [eb, s2]; rfl)
    | some v =>
      rw [ho] at s2
      exact hN _ _ ⟨i + 1, n, _, rfl, by omega, rfl, rfl, by rw [eb, s2]; rfl⟩
abbrev s_parse_wish : Stmt := top 16
abbrev N_parse_wish : List Str := ["text", "words", "shape", "found", "number", "kind", "value"]
theorem sc_parse_wish : FnScope N_parse_wish ["text"] (C8.fnScope s_parse_wish) := C8.fnScope_by (by decide +kernel)
set_option maxHeartbeats 1000000 in
theorem ok_parse_wish {C : Addr} (D : Df K mg "parse_wish" s_parse_wish) (bi : Bi mg) (c_operand : CalP P w K T mg base 3 "operand" spOperand) (c_parse_put : CalX P w K T mg base 4 "parse_put" (spPutW C)) (c_SHAPES : KdG K w mg "SHAPES" shapesT) (r_InvalidWord : RefN P w K mg base "InvalidWord" C) : CalX P w K T mg base 5 "parse_wish" (spPW C) := by
  have sc := sc_parse_wish
  refine D.calX (k := 4) (g := spPW C) (fun _ _ _ _ _ _ us hl => match us, hl with | [_], _ => rfl) sc (by rintro _ _ _ _ ⟨x, w0, rs, sh, rfl, _⟩; rfl)
      (fun xw f cdv A outer s H E hr po =>
      (dpss_cons (sset 1 sc.nd (dpe_split false (dpv 0) dpe_str))
        (dpss_cons (dps_if (c_notInK c_SHAPES (by rfl) (e_ix (dpv 1) dpe_int))
        (dpss_one (ds_raise1 r_InvalidWord rfl hr (by first | decide | omega) (by rfl) (a1 dpe_int)))
        dpss_nil)
        (dpss_cut (sset 2 sc.nd (e_ixK c_SHAPES (by rfl) (e_ix (dpv 1) dpe_int)))
        (dpss_cons (dps_if (c_eq hr (e_ix (dpv 1) dpe_int) dpe_str)
        (dpss_one (dps_ret (e_callG c_parse_put hr (Nat.le_refl _) (by rfl) (a1 (dpv 1)))))
        dpss_nil)
        (dpss_cons (sset 3 sc.nd (dpe_lst true (a1 (e_ix (dpv 1) dpe_int))))
        (dpss_cons (dps_for po rfl (i_enumS bi (dpa_cons (dpv 2) (a1 dpe_int))) (dpg_tup (n := 2) rfl (dpgs_cons (gname 4 sc.nd) (dpgs_cons (gname 5 sc.nd) dpgs_nil)))
        (dpss_cons (sset 6 sc.nd (dpe_if (c_lt (dpv 4) (e_len bi (a1 (dpv 1)))) (dpe_callP c_operand hr (by decide) (by rfl) (dpa_cons (dpv 5) (a1 (e_ix (dpv 1) (dpv 4))))) dpe_non))
        (dpss_cons (dps_if (c_isN (dpv 6) dpe_non)
        (dpss_one (ds_raise1 r_InvalidWord rfl hr (by first | decide | omega) (by rfl) (a1 (dpv 4))))
        dpss_nil)
        (dpss_one (dps_expr (dpe_append rfl (dpv 3) (a1 (dpv 6))))))))
        (dpss_cons (dps_if (c_gt (e_len bi (a1 (dpv 1))) (e_len bi (a1 (dpv 3))))
        (dpss_one (ds_raise1 r_InvalidWord rfl hr (by first | decide | omega) (by rfl) (a1 (e_len bi (a1 (dpv 3))))))
        dpss_nil)
        (dpss_one (dps_ret (e_tuple bi (a1 (dpv 3))))))))))))
      ) ?_
  rintro ws S Kp Xp ⟨x, w0, rs, sh, rfl, hok, hln, hsp, hf, hsh, hk, hx⟩
  have bad : ∀ n : Nat, errW w0 sh rs = some n → ∀ T : Sto, ∃ i : Int, [W.fz (.int ((n : Nat) : Int))] = [W.fz (.int i)] ∧ -20 ≤ i ∧ i ≤ 1000 ∧ Xp ⟨.ref C, [("number", .int i)]⟩ (S ++ T) := fun n e T => by
    have h := hx n e T
    exact ⟨_, rfl, h.1.1, h.1.2, h.2⟩
  have bad0 : ∀ n : Nat, errW w0 sh rs = some n → ∃ i : Int, [W.fz (.int ((n : Nat) : Int))] = [W.fz (.int i)] ∧ -20 ≤ i ∧ i ≤ 1000 ∧ Xp ⟨.ref C, [("number", .int i)]⟩ S := fun n e => by
    have h := bad n e []
    rw [List.append_nil] at h
    exact h
  refine ⟨by decide +kernel, Nat.le_trans (Nat.add_le_add_right hln 2) (by decide), ?_⟩
  refine newL_E ((Txt.split x " ").map DL.D.str) (by rw [List.map_map]; rfl) ?_
  rw [hsp]
  refine onO_ws (ys := w0 :: rs) (n := 0) rfl rfl ?_
  refine ⟨sh, hsh, ?_⟩
  cases sh with
  | none => exact bad0 0 rfl
  | some s =>
  refine ⟨fun env S1 => env = [some (W.fz (.str x)), some (W.fz (.lst ((w0 :: rs).map DL.D.str))), some (W.fz (.str s)), none, none, none, none] ∧ S1 = S, ?_, ?_⟩
  · refine onO_ws (ys := w0 :: rs) (n := 0) rfl rfl ?_
    exact ⟨s, hsh, rfl, rfl⟩
  rintro env S1 ⟨rfl, rfl⟩
  obtain ⟨ok0, okk⟩ := shape_ok hsh
  refine onO_ws (ys := w0 :: rs) (n := 0) rfl rfl ?_
  refine ⟨⟨ok_str (low_ok fun c hc => (ok0.1 c hc).1.1), ok_str (by decide +kernel)⟩, ?_⟩
  refine ifB_of (fun h => ?_) (fun h => ?_)
  · have h : eqD (.str w0) (.str "put") = true := h
    rw [eqD_str, decide_eq_true_eq] at h
    subst h
    have ek : kindsS "put" s = putK := if_pos rfl
    refine ⟨rs, rfl, hf, fun e T => ?_, fun n e T => ?_⟩
    · have := hk s rfl (by rw [ek]; exact e) T
      unfold resW at this
      rw [if_pos rfl] at this
      exact this
    · exact hx n (by show badP 1 (kindsS "put" s) rs = _; rw [ek]; exact e) T
  have h : eqD (.str w0) (.str "put") = false := h
  rw [eqD_str, decide_eq_false_iff_not] at h
  have ek : kindsS w0 s = s.cps.toList.map fun c => (c, false) := if_neg h
  have okk := okk h s rfl
  have hk := hk s rfl
  have hbad : ∀ n, badP 1 (s.cps.toList.map fun c => (c, false)) rs = some n → errW w0 (some s) rs = some n := fun n e => by rw [← ek] at e; exact e
  rw [ek] at hk
  have er : resW w0 s rs = .tup (.str w0 :: List.zipWith opD s.cps.toList rs) := if_neg h
  rw [er] at hk
  generalize hcs : s.cps.toList = cs at hk hbad okk
  refine onO_ws (ys := w0 :: rs) (n := 0) rfl rfl ?_
  refine ⟨sz rfl, ?_⟩
  refine ⟨⟨by decide, by decide⟩, ?_⟩
  have rl := hf.len
  have el : ((((w0 :: rs).map DL.D.str).map W.fz).length : Int) = ((rs.length : Nat) : Int) + 1 := by rw [List.length_map, List.length_map, List.length_cons]; omega
  refine loop_inv (I := fun ws env S2 => ∃ (i : Nat) (ks : List Nat) (ds : List DL.D) (w4 w5 w6 : Option W), ws = ((ks.zipIdx i).map fun p => W.fz (.tup [.int (1 + ((p.2 : Nat) : Int)), .str ⟨#[p.1]⟩])) ∧ env = [some (W.fz (.str x)), some (W.fz (.lst ((w0 :: rs).map DL.D.str))), some (W.fz (.str s)), some (W.hd S1.length), w4, w5, w6] ∧ S2 = S1 ++ [.lst (ds.map W.fz)] ∧ ds.length = i + 1 ∧ i ≤ rs.length ∧ badP 1 (cs.map fun c => (c, false)) rs = badP (i + 1) (ks.map fun c => (c, false)) (rs.drop i) ∧ DL.D.str w0 :: List.zipWith opD cs rs = ds ++ List.zipWith opD ks (rs.drop i) ∧ ∀ c ∈ ks, c ∈ ([107, 98, 99, 108, 110] : List Nat)) ?_ ?_ ?_
  · exact ⟨0, cs, [.str w0], _, _, _, by rw [← hcs]; rfl, rfl, rfl, rfl, Nat.zero_le _, rfl, rfl, okk⟩
  · rintro env S2 ⟨i, ks, ds, w4, w5, w6, hw, rfl, rfl, hd, hi, eb, er, _⟩
    have n0 : ks = [] := by
      cases ks with
      | nil => rfl
      | cons a r => cases hw
    subst n0
    have hget : (S1 ++ [OD.lst (ds.map W.fz)])[S1.length]? = some (.lst (ds.map W.fz)) := set_app1 rfl
    have ed : (((ds.map W.fz).length : Nat) : Int) = ((i + 1 : Nat) : Int) := by rw [List.length_map, hd]
    refine onO_vS hget ?_
    refine ifB_of (fun h => ?_) (fun h => ?_)
    · have h : decide (((((w0 :: rs).map DL.D.str).map W.fz).length : Int) > (((ds.map W.fz).length : Nat) : Int)) = true := h
      have h := of_decide_eq_true h
      rw [el, ed] at h
      have hb : badP 1 (cs.map fun c => (c, false)) rs = some (i + 1) := by
        rw [eb, List.drop_eq_getElem_cons (show i < rs.length by omega)]
        rfl
      refine onO_vS hget ?_
      rw [ed]
      exact bad _ (hbad _ hb) _
    · have h : decide (((((w0 :: rs).map DL.D.str).map W.fz).length : Int) > (((ds.map W.fz).length : Nat) : Int)) = false := h
      have h := of_decide_eq_false h
      rw [el, ed] at h
      have hb : badP 1 (cs.map fun c => (c, false)) rs = none := by
        rw [eb, List.drop_eq_nil_of_le (by omega)]
        rfl
      have er : DL.D.str w0 :: List.zipWith opD cs rs = ds := by
        rw [er, List.drop_eq_nil_of_le (by omega)]
        simp
      have hk := hk hb [.lst (ds.map W.fz)]
      rw [er] at hk
      refine onO_vS hget ?_
      rw [mkT_fz]
      exact hk
  · rintro w ws env S2 N ⟨i, ks, ds, w4, w5, w6, hw, rfl, rfl, hd, hi, eb, er, hks⟩ hN
    cases ks with
    | nil => cases hw
    | cons c ks =>
    cases hw
    refine ⟨rfl, ?_⟩
    have hget : (S1 ++ [OD.lst (ds.map W.fz)])[S1.length]? = some (.lst (ds.map W.fz)) := set_app1 rfl
    have big : badP 1 (cs.map fun c => (c, false)) rs = some (i + 1) → ∃ i2 : Int, [W.fz (.int (1 + ((i : Nat) : Int)))] = [W.fz (.int i2)] ∧ -20 ≤ i2 ∧ i2 ≤ 1000 ∧ Xp ⟨.ref C, [("number", .int i2)]⟩ (S1 ++ [.lst (ds.map W.fz)]) := fun h => by
      have := bad _ (hbad _ h) [.lst (ds.map W.fz)]
      rw [show 1 + ((i : Nat) : Int) = ((i + 1 : Nat) : Int) from by omega]
      exact this
    refine ifB_of (fun h => ?_) (fun h => ?_)
    rotate_left
    · have h : decide (1 + ((i : Nat) : Int) < ((((w0 :: rs).map DL.D.str).map W.fz).length : Int)) = false := h
      have h := of_decide_eq_false h
      rw [el] at h
      exact big (by rw [eb, List.drop_eq_nil_of_le (by omega)]; rfl)
    have h : decide (1 + ((i : Nat) : Int) < ((((w0 :: rs).map DL.D.str).map W.fz).length : Int)) = true := h
    have h := of_decide_eq_true h
    rw [el] at h
    have hil : i < rs.length := by omega
    obtain ⟨z, hz⟩ : ∃ z, rs[i]? = some z := ⟨_, List.getElem?_eq_getElem hil⟩
    have edr : rs.drop i = z :: rs.drop (i + 1) := by
      rw [List.drop_eq_getElem_cons hil]
      congr 1
      exact (List.getElem?_eq_some_iff.mp hz).2
    rw [edr] at eb er
    have zok := hf.ok z (List.mem_of_getElem? hz)
    refine onO_ws (ys := w0 :: rs) (n := i + 1) (by omega) hz ?_
    refine ⟨c, z, rfl, hks c List.mem_cons_self, Nat.le_trans zok.2 (by decide), fun d hd => (zok.1 d hd).1.1, ?_⟩
    have eb : badP 1 (cs.map fun c => (c, false)) rs = if badO c z then some (i + 1) else badP (i + 1 + 1) (ks.map fun c => (c, false)) (rs.drop (i + 1)) := eb
    have er : DL.D.str w0 :: List.zipWith opD cs rs = ds ++ (opD c z :: List.zipWith opD ks (rs.drop (i + 1))) := er
    have nx : ∀ v, opD c z = v → badO c z = false → N [some (W.fz (.str x)), some (W.fz (.lst ((w0 :: rs).map DL.D.str))), some (W.fz (.str s)), some (W.hd S1.length), some (W.fz (.int (1 + ((i : Nat) : Int)))), some (W.fz (.str ⟨#[c]⟩)), some (W.fz v)] ((S1 ++ [OD.lst (ds.map W.fz)]).set S1.length (.lst (ds.map W.fz ++ [W.fz v]))) := fun v ev hb => by
      rw [hb, if_neg Bool.false_ne_true] at eb
      refine hN _ _ ⟨i + 1, ks, ds ++ [v], _, _, _, rfl, rfl, ?_, by rw [List.length_append, hd]; rfl, hil, eb, ?_, fun c hc => hks c (List.mem_cons_of_mem _ hc)⟩
      · rw [set_last, List.map_append]; rfl
      · rw [er, ev, List.append_assoc]; rfl
    have bd : (ds.map W.fz).length < sizeLine := by rw [List.length_map, hd]; exact Nat.lt_of_le_of_lt (show i + 1 ≤ 30 by omega) (by decide)
    rcases opD_cases c z with e | ⟨v, e⟩ | ⟨v, e⟩
    · rw [e]
      exact big (by rw [eb, badO_non.mpr e, if_pos rfl])
    · rw [e]
      refine onO_lst hget ?_
      refine onO_lst hget ?_
      refine ⟨bd, ?_⟩
      exact nx _ e (good_str e)
    · rw [e]
      refine onO_lst hget ?_
      refine onO_lst hget ?_
      refine ⟨bd, ?_⟩
      exact nx _ e (good_int e)
abbrev s_l_draw : Stmt := top 19
abbrev N_l_draw : List Str := ["_law_state", "_law_limit", "_law_digit", "_law_position", "_law_cell", "_law_mixed"]
theorem sc_l_draw : FnScope N_l_draw ["_law_state", "_law_limit"] (C8.fnScope s_l_draw) := C8.fnScope_by (by decide +kernel)
/-- a draw below n -/
def spDraw : PSp := fun ds Q => ∃ n : Int, ds = [.int n] ∧ 0 < n ∧ n ≤ 10 ^ 40 ∧ ∀ r : Int, 0 ≤ r → r < n → Q (.int r)
theorem ok_l_draw (D : Df K mg "_law_draw" s_l_draw) (bi : Bi mg) : CalS P w K T mg base 1 "_law_draw" spDraw := by
  have sc := sc_l_draw
  refine D.cals (k := 0) (Q := spDraw) (fun _ _ _ _ _ _ us hl => match us, hl with | [_, _], _ => rfl) sc (by rintro _ _ ⟨d, rfl, _⟩; rfl)
      (fun f cdv A outer s H E hr =>
      (dpss_cons (dps_if (c_lt (e_ix (dpv 0) dpe_int) (dpv 1))
        (dpss_cons (sset 3 sc.nd (e_ix (dpv 0) dpe_int))
        (dpss_cons (ssub (dpv 0) dpe_int (e_add false (dpv 3) dpe_int))
        (dpss_cons (sset 4 sc.nd dpe_int)
        (dpss_cons (dps_if (c_lt (dpv 3) (e_len bi (a1 (e_ix (dpv 0) dpe_int))))
        (dpss_one (sset 4 sc.nd (e_ix (e_ix (dpv 0) dpe_int) (dpv 3))))
        dpss_nil)
        (dpss_one (dps_if (c_ge (dpv 4) (e_pow dpe_int dpe_int))
        (dpss_one (ssub (dpv 0) dpe_int (dpv 4)))
        (dpss_cons (ssub (dpv 0) dpe_int (e_mod (e_int bi (a1 (e_mul (e_add false (e_add false (e_add false (e_ix (dpv 0) dpe_int) (e_mod (e_int bi (a1 (dpv 4))) dpe_int)) (dpv 3)) dpe_int) dpe_int))) dpe_int))
        (dpss_cons (sset 5 sc.nd (e_mod (e_int bi (a1 (e_add false (e_mul (e_ix (dpv 0) dpe_int) dpe_int) dpe_int))) dpe_int))
        (dpss_one (ssub (dpv 0) dpe_int (e_add false (e_mul (dpv 5) dpe_int) (e_mod (e_int bi (a1 (e_add false (e_mul (dpv 5) dpe_int) (e_ix (dpv 0) dpe_int)))) dpe_int))))))))))))
        dpss_nil)
        (dpss_cons (sset 2 sc.nd (e_mod (e_int bi (a1 (e_ix (dpv 0) dpe_int))) (dpv 1)))
        (dpss_cons (ssub (dpv 0) dpe_int (e_fdiv (e_ix (dpv 0) dpe_int) (dpv 1)))
        (dpss_one (dps_ret (dpv 2))))))
      ) ?_
  rintro o xs Kp ⟨a, p, ns, c, rfl, hp, hn⟩ ⟨n, rfl, h0, h1, hk⟩
  have fin : ∀ a p c : Int, 0 ≤ p → StOk (.lst [.fz (.int (a / n)), .fz (.int p), .fz (.lst (ns.map DL.D.int)), .fz (.int c)]) ∧ Kp (.int (a % n)) (.lst [.fz (.int (a / n)), .fz (.int p), .fz (.lst (ns.map DL.D.int)), .fz (.int c)]) :=
    fun a p c h => ⟨⟨_, _, _, _, rfl, h, hn⟩, hk _ (Int.emod_nonneg _ (by omega)) (Int.emod_lt_of_pos _ h0) _ ⟨_, _, _, _, rfl, h, hn⟩⟩
  refine ifB_d (fun h => ?_) (fun h => ?_)
  · refine ifB_d (fun h2 => ?_) (fun h2 => ?_)
    · refine onO_at hp h2 fun x hx => ?_
      rw [List.getElem?_map, List.getElem?_map] at hx
      cases e : ns[p.toNat]? with
      | none => rw [e] at hx; cases hx
      | some z =>
        rw [e] at hx
        cases hx
        refine ⟨powL rfl, ?_⟩
        refine ifB_d (fun h3 => ?_) (fun h3 => ?_)
        · exact ⟨h0, divW h0 h1, fin _ _ _ (by omega)⟩
        · exact ⟨posL rfl, mulR rfl, posL rfl, mulR rfl, posL rfl, mulR rfl, mulR rfl, posL rfl, h0, divW h0 h1, fin _ _ _ (by omega)⟩
    · exact ⟨powL rfl, posL rfl, mulR rfl, posL rfl, mulR rfl, posL rfl, mulR rfl, mulR rfl, posL rfl, h0, divW h0 h1, fin _ _ _ (by omega)⟩
  · exact ⟨h0, divW h0 h1, fin _ _ _ hp⟩
abbrev s_l_key : Stmt := top 20
abbrev N_l_key : List Str := ["_law_state", "_law_letters", "_law_choice", "_law_key_here", "_law_k"]
theorem sc_l_key : FnScope N_l_key ["_law_state"] (C8.fnScope s_l_key) := C8.fnScope_by (by decide +kernel)
def spKey : PSp := fun ds Q => ds = [] ∧ ∀ x, isKey x → Q (.str x)
theorem ok_l_key (D : Df K mg "_law_key" s_l_key) (bi : Bi mg) (c_l_draw : CalS P w K T mg base 1 "_law_draw" spDraw) : CalS P w K T mg base 2 "_law_key" spKey := by
  have sc := sc_l_key
  refine D.cals (k := 1) (Q := spKey) (fun _ _ _ _ _ _ us hl => match us, hl with | [_], _ => rfl) sc (by rintro _ _ ⟨rfl, _⟩; rfl)
      (fun f cdv A outer s H E hr =>
      (dpss_cons (sset 1 sc.nd dpe_str)
        (dpss_cons (sset 2 sc.nd (dpe_callS c_l_draw hr (by decide) (by rfl) (dpa_cons (dpv 0) (a1 dpe_int))))
        (dpss_cons (dps_if (c_eq hr (dpv 2) dpe_int)
        (dpss_one (dps_ret (e_ix dpe_str (dpe_callS c_l_draw hr (by decide) (by rfl) (dpa_cons (dpv 0) (a1 dpe_int))))))
        dpss_nil)
        (dpss_cons (dps_if (c_eq hr (dpv 2) dpe_int)
        (dpss_one (dps_ret (e_add false (e_ix dpe_str (dpe_callS c_l_draw hr (by decide) (by rfl) (dpa_cons (dpv 0) (a1 dpe_int)))) (e_ix dpe_str (dpe_callS c_l_draw hr (by decide) (by rfl) (dpa_cons (dpv 0) (a1 dpe_int)))))))
        dpss_nil)
        (dpss_cons (sset 3 sc.nd dpe_str)
        (dpss_cons (dps_for PassesOwn.never rfl (i_rng1 bi (a1 (e_add false dpe_int (dpe_callS c_l_draw hr (by decide) (by rfl) (dpa_cons (dpv 0) (a1 dpe_int)))))) (gname 4 sc.nd)
        (dpss_one (sset 3 sc.nd (e_add false (dpv 3) (e_ix (dpv 1) (dpe_callS c_l_draw hr (by decide) (by rfl) (dpa_cons (dpv 0) (a1 dpe_int))))))))
        (dpss_one (dps_ret (dpv 3)))))))))
      ) ?_
  rintro o xs Kp so ⟨rfl, hk⟩
  refine ⟨⟨rfl, so⟩, 3, rfl, by decide, by decide, fun c c0 c1 o1 so1 => ⟨so1, ?_⟩⟩
  refine ⟨⟨rfl, rfl⟩, ifB_of (fun _ => ?_) (fun _ => ?_)⟩
  · refine ⟨⟨rfl, so1⟩, 10, rfl, by decide, by decide, fun i i0 i1 o2 so2 => ⟨so2, ?_⟩⟩
    refine ⟨by decide, onO_at i0 i1 fun x hx => ⟨so2, hk _ (isKey1 (all_sign (by decide) hx)) _ so2⟩⟩
  · refine ⟨⟨rfl, rfl⟩, ifB_of (fun _ => ?_) (fun _ => ?_)⟩
    · refine ⟨⟨rfl, so1⟩, 4, rfl, by decide, by decide, fun i i0 i1 o2 so2 => ⟨so2, by decide, onO_at i0 i1 fun x hx => ?_⟩⟩
      refine ⟨⟨rfl, so2⟩, 3, rfl, by decide, by decide, fun j j0 j1 o3 so3 => ⟨so3, by decide, onO_at j0 j1 fun y hy => ?_⟩⟩
      exact ⟨sz rfl, so3, hk _ (isKey2 (all_sign (by decide) hx) (all_sign (by decide) hy)) _ so3⟩
    · refine ⟨⟨rfl, so1⟩, 8, rfl, by decide, by decide, fun n n0 n1 o2 so2 => ⟨so2, ⟨by omega, by omega⟩, ?_⟩⟩
      refine loop_inv (I := fun ws env S => ∃ (x : Str) (w4 : Option W) (o : OD), env = [some (W.hd 0), some (W.fz (.str "abcdefghijklmnopqrstuvwxyz0123456789")), some (W.fz (.int c)), some (W.fz (.str x)), w4] ∧ S = [o] ∧ StOk o ∧ x.cps.toList.length + ws.length = (1 + n).toNat ∧ x.cps.toList.all sign = true) ?_ ?_ ?_
      · exact ⟨_, _, _, rfl, rfl, so2, by simp [show (("" : Str).cps.toList) = [] by decide], by decide⟩
      · rintro env S ⟨x, w4, o, rfl, rfl, so, hl, hs⟩
        rw [List.length_nil, Nat.add_zero] at hl
        exact ⟨so, hk _ ⟨by omega, by omega, hs⟩ _ so⟩
      · rintro w ws env S N ⟨x, w4, o, rfl, rfl, so, hl, hs⟩ hN
        rw [List.length_cons] at hl
        refine ⟨⟨rfl, so⟩, 36, rfl, by decide, by decide, fun j j0 j1 o3 so3 => ⟨so3, by decide, onO_at j0 j1 fun y hy => ?_⟩⟩
        have hx : x.length = x.cps.toList.length := by simp [Str.length]
        refine ⟨Nat.le_trans (show x.length + (⟨#[y]⟩ : Str).length ≤ 1000 from ?_) (by decide), hN _ _ ⟨_, _, _, rfl, rfl, so3, ?_, ?_⟩⟩
        · have : (⟨#[y]⟩ : Str).length = 1 := rfl
          omega
        · rw [app_l, List.length_append]
          show _ + 1 + _ = _
          omega
        · rw [app_l, List.all_append, hs, all_sign (by decide) hy]
          rfl
abbrev s_l_row : Stmt := top 21
abbrev N_l_row : List Str := ["_law_state", "_law_k"]
theorem sc_l_row : FnScope N_l_row ["_law_state"] (C8.fnScope s_l_row) := C8.fnScope_by (by decide +kernel)
def spRow : PSp := fun ds Q => ds = [] ∧ ∀ r, isRow r → Q (rowD r)
theorem ok_l_row (D : Df K mg "_law_row" s_l_row) (bi : Bi mg) (c_l_draw : CalS P w K T mg base 1 "_law_draw" spDraw) : CalS P w K T mg base 2 "_law_row" spRow := by
  have sc := sc_l_row
  refine D.cals (k := 1) (Q := spRow) (fun _ _ _ _ _ _ us hl => match us, hl with | [_], _ => rfl) sc (by rintro _ _ ⟨rfl, _⟩; rfl)
      (fun f cdv A outer s H E hr =>
      (dpss_one (dps_ret (e_tuple bi (a1 (dpe_lc (ow := [("_law_k", 1)]) false (lk_name (by decide)) rfl sc.nd (i_rng1 bi (a1 (e_add false dpe_int (dpe_callS c_l_draw hr (by decide) (by rfl) (dpa_cons (dpv 0) (a1 dpe_int)))))) (blkOk_by (N := N_l_row) (sc := C8.fnScope s_l_row) (by decide +kernel)) (fun _ _ _ _ _ => pg_name (i := 1) sc.nd rfl (Or.inl rfl)) (fun _ _ _ _ _ => dpts_nil) (fun _ _ _ _ _ => (dpe_callS c_l_draw hr (by decide) (by rfl) (dpa_cons (dpv 0) (a1 (e_ix (dpe_lst false (dpa_cons dpe_int (a1 dpe_int))) (dpe_callS c_l_draw hr (by decide) (by rfl) (dpa_cons (dpv 0) (a1 dpe_int)))))))))))))
      ) ?_
  rintro o xs Kp so ⟨rfl, hk⟩
  refine ⟨⟨rfl, so⟩, 3, rfl, by decide, by decide, fun c c0 c1 o1 so1 => ⟨so1, ⟨by omega, by omega⟩, ?_, ?_⟩⟩
  · rw [List.length_map, List.length_range]
    exact Nat.le_trans (show (1 + c).toNat ≤ 3 by omega) (by decide)
  · refine lcW_draw (fun _ d => ∃ i : Int, 0 ≤ i ∧ i ≤ 65535 ∧ d = .int i) so1 (fun w hw o A Bf so ha => ?_) fun ds o' hl hd so' => ?_
    · refine ⟨sz rfl, ⟨rfl, so⟩, 2, rfl, by decide, by decide, fun j j0 j1 o3 so3 => ⟨so3, onO_at j0 j1 fun y hy => ?_⟩⟩
      have hj : j.toNat = 0 ∨ j.toNat = 1 := by have : j < 2 := j1; omega
      rcases hj with e | e
      · rw [e] at hy
        cases hy
        exact ⟨⟨rfl, so3⟩, 4, rfl, by decide, by decide, fun i i0 i1 o4 so4 => ⟨so4, ha _ _ ⟨i, i0, by omega, rfl⟩ so4⟩⟩
      · rw [e] at hy
        cases hy
        exact ⟨⟨rfl, so3⟩, 65536, rfl, by decide, by decide, fun i i0 i1 o4 so4 => ⟨so4, ha _ _ ⟨i, i0, by omega, rfl⟩ so4⟩⟩
    · rw [List.length_map, List.length_range] at hl
      obtain ⟨r, e, hr⟩ := row_of ds fun d hd' => by
        obtain ⟨_, _, q⟩ := hd d hd'
        exact q
      subst e
      refine newL_F ?_
      rw [List.length_map] at hl
      show onO (some _) _
      show retS Kp (mkT ((r.map DL.D.int).map W.fz)) [o']
      rw [mkT_fz]
      exact ⟨so', hk r ⟨by omega, by omega, hr⟩ _ so'⟩
abbrev s_l_table : Stmt := top 22
abbrev N_l_table : List Str := ["_law_state", "_law_most", "_law_rows", "_law_k", "_law_key_here"]
theorem sc_l_table : FnScope N_l_table ["_law_state", "_law_most"] (C8.fnScope s_l_table) := C8.fnScope_by (by decide +kernel)
theorem ok_l_table (D : Df K mg "_law_table" s_l_table) (bi : Bi mg) (c_l_draw : CalS P w K T mg base 1 "_law_draw" spDraw) (c_l_key : CalS P w K T mg base 2 "_law_key" spKey) (c_l_row : CalS P w K T mg base 2 "_law_row" spRow) : CalS P w K T mg base 3 "_law_table" spTable := by
  have sc := sc_l_table
  refine D.cals (k := 2) (Q := spTable) (fun _ _ _ _ _ _ us hl => match us, hl with | [_, _], _ => rfl) sc (by rintro _ _ ⟨n, rfl, _⟩; rfl)
      (fun f cdv A outer s H E hr =>
      (dpss_cons (sset 2 sc.nd dpe_dnew)
        (dpss_cons (dps_for PassesOwn.never rfl (i_rng1 bi (a1 (dpe_callS c_l_draw hr (by decide) (by rfl) (dpa_cons (dpv 0) (a1 (e_add false (dpv 1) dpe_int)))))) (gname 3 sc.nd)
        (dpss_cons (sset 4 sc.nd (dpe_callS c_l_key hr (by decide) (by rfl) (a1 (dpv 0))))
        (dpss_one (s_dput hr (dpv 2) (dpv 4) (dpe_callS c_l_row hr (by decide) (by rfl) (a1 (dpv 0)))))))
        (dpss_one (dps_ret (dpe_lc (ow := [("_law_key_here", 4)]) false (lk_name (by decide)) rfl sc.nd (dpi_any (e_sorted false bi rfl (a1 (dpv 2)))) (blkOk_by (N := N_l_table) (sc := C8.fnScope s_l_table) (by decide +kernel)) (fun _ _ _ _ _ => pg_name (i := 4) sc.nd rfl (Or.inl rfl)) (fun _ _ _ _ _ => dpts_nil) (fun _ _ _ _ _ => (dpe_tup (dpa_cons (dpv 4) (a1 (e_dget hr (dpv 2) (dpv 4) (fun _ _ => rfl)))))))))))
      ) ?_
  rintro o xs Kp so ⟨n, rfl, h0, h1, hk⟩
  have e40 : (10 : Int) ^ 40 = 10000000000000000000000000000000000000000 := by decide
  refine ⟨⟨rfl, so⟩, n + 1, rfl, by omega, by omega, fun t t0 t1 o1 so1 => ⟨so1, ⟨by omega, by omega⟩, ?_⟩⟩
  refine loop_inv (I := fun ws env S => ∃ (rows : Tab) (w3 w4 : Option W) (o : OD), env = [some (W.hd 0), some (W.fz (.int n)), some (W.hd 1), w3, w4] ∧ S = [o, .dic (rows.map kvF)] ∧ StOk o ∧ (rows.map (·.1)).Nodup ∧ (∀ r ∈ rows, isKey r.1 ∧ isRow r.2) ∧ rows.length + ws.length ≤ n.toNat) ?_ ?_ ?_
  · exact ⟨[], _, _, _, rfl, rfl, so1, .nil, by simp, by rw [List.length_map, List.length_range, List.length_nil]; omega⟩
  · rintro env S ⟨rows, w3, w4, o, rfl, rfl, so, hn, hr, hl⟩
    rw [List.length_nil] at hl
    refine onO_texts ⟨by rw [List.length_map]; omega, fun ys pm hs => newL_strs ?_⟩
    have hz : ys.length ≤ 20 := by have := pm.length_eq; rw [List.length_map] at this; omega
    refine ⟨by simp only [List.length_map]; exact Nat.le_trans hz (by decide), ?_⟩
    refine lcW_map (fun w => match w with | W.fz (.str y) => W.fz (tabR (y, getT rows y)) | w => w) (fun w hw A Bf ha => ?_) ?_
    · obtain ⟨d, hd, rfl⟩ := List.mem_map.mp hw
      obtain ⟨y, hy, rfl⟩ := List.mem_map.mp hd
      exact onO_val (pm.mem_iff.mp hy) ⟨sz rfl, ha⟩
    · rw [List.map_map, List.map_map]
      have e : (ys.map (((fun w => match w with | W.fz (.str y) => W.fz (tabR (y, getT rows y)) | w => w) ∘ W.fz) ∘ DL.D.str)) = ((ys.map fun y => (y, getT rows y)).map tabR).map W.fz := by
        simp [List.map_map, Function.comp_def]
      rw [e]
      exact newL_F ⟨so, hk _ (tab_of hr hn pm hs) (by rw [List.length_map]; have := pm.length_eq; rw [List.length_map] at this; omega) _ so⟩
  · rintro w ws env S N ⟨rows, w3, w4, o, rfl, rfl, so, hn, hr, hl⟩ hN
    rw [List.length_cons] at hl
    refine ⟨⟨rfl, so⟩, rfl, fun k hkey o3 so3 => ⟨so3, ?_⟩⟩
    refine ⟨⟨rfl, so3⟩, rfl, fun r hrow o4 so4 => ⟨so4, ?_⟩⟩
    refine ⟨by rw [List.length_map]; exact Nat.lt_of_lt_of_le (show rows.length < 21 by omega) (by decide), ?_⟩
    obtain ⟨rows', e, hn', hr', hl'⟩ := put_tab rows k r hn
    refine hN _ _ ⟨rows', _, _, _, rfl, by rw [← e]; rfl, so4, hn', fun x hx => ?_, by omega⟩
    rcases hr' x hx with h | h
    · exact hr x h
    · subst h; exact ⟨hkey, hrow⟩
abbrev s_l_bound : Stmt := top 23
abbrev N_l_bound : List Str := ["_law_state", "_law_table_here", "_law_choice"]
theorem sc_l_bound : FnScope N_l_bound ["_law_state", "_law_table_here"] (C8.fnScope s_l_bound) := C8.fnScope_by (by decide +kernel)
theorem ok_l_bound (D : Df K mg "_law_bound" s_l_bound) (bi : Bi mg) (c_l_draw : CalS P w K T mg base 1 "_law_draw" spDraw) (c_l_key : CalS P w K T mg base 2 "_law_key" spKey) : CalS P w K T mg base 3 "_law_bound" spBd3 := by
  have sc := sc_l_bound
  refine D.cals (k := 2) (Q := spBd3) (fun _ _ _ _ _ _ us hl => match us, hl with | [_, _], _ => rfl) sc (by rintro _ _ ⟨n, rfl, _⟩; rfl)
      (fun f cdv A outer s H E hr =>
      (dpss_cons (sset 2 sc.nd (dpe_callS c_l_draw hr (by decide) (by rfl) (dpa_cons (dpv 0) (a1 dpe_int))))
        (dpss_cons (dps_if (c_eq hr (dpv 2) dpe_int)
        (dpss_one (dps_ret dpe_str))
        dpss_nil)
        (dpss_cons (dps_if (DPW.pt (dpw_and (c_lt (dpv 2) dpe_int) (dpw_and1 (c_gt (e_len bi (a1 (dpv 1))) dpe_int))))
        (dpss_one (dps_ret (e_add false (e_ix (e_ix (dpv 1) (dpe_callS c_l_draw hr (by decide) (by rfl) (dpa_cons (dpv 0) (a1 (e_len bi (a1 (dpv 1))))))) dpe_int) (e_ix (dpe_lst false (dpa_cons dpe_str (dpa_cons dpe_str (a1 dpe_str)))) (dpe_callS c_l_draw hr (by decide) (by rfl) (dpa_cons (dpv 0) (a1 dpe_int)))))))
        dpss_nil)
        (dpss_one (dps_ret (dpe_callS c_l_key hr (by decide) (by rfl) (a1 (dpv 0))))))))
      ) ?_
  rintro o xs Kp so ⟨rows, rfl, ht, hl, hk⟩
  have el : ((rows.map tabR).map W.fz).length = rows.length := by simp
  have kb : ∀ k, isKey k → isB k := fun k h => key_isB h
  have last : ∀ o1 : OD, StOk o1 → Kp (.str "") o1 := fun o1 so1 => hk "" (.inl rfl) o1 so1
  refine ⟨⟨rfl, so⟩, 4, rfl, by decide, by decide, fun t t0 t1 o1 so1 => ⟨so1, ⟨rfl, rfl⟩, ifB_of (fun _ => ?_) (fun _ => ?_)⟩⟩
  · exact ⟨so1, last o1 so1⟩
  refine ifB_of (fun _ => ifB_d (fun h => ?_) (fun _ => ?_)) (fun _ => ?_)
  · refine ⟨⟨rfl, so1⟩, _, rfl, h, by show ((((rows.map tabR).map W.fz).length : Nat) : Int) ≤ _; rw [el]; omega, fun i i0 i1 o2 so2 => ⟨so2, ?_⟩⟩
    refine onO_at i0 i1 fun x hx => ?_
    rw [List.getElem?_map, List.getElem?_map] at hx
    cases e : rows[i.toNat]? with
    | none => rw [e] at hx; cases hx
    | some r =>
      rw [e] at hx
      cases hx
      have hkey := (ht.2 r (List.mem_of_getElem? e)).1
      refine ⟨sz rfl, ⟨rfl, so2⟩, 3, rfl, by decide, by decide, fun j j0 j1 o3 so3 => ⟨so3, onO_at j0 j1 fun y hy => ?_⟩⟩
      have hy2 : ∃ s : Str, y = W.fz (.str s) ∧ (s = "" ∨ s = "0") := by
        rcases mem3 hy with e | e | e
        · exact ⟨_, e, .inl rfl⟩
        · exact ⟨_, e, .inl rfl⟩
        · exact ⟨_, e, .inr rfl⟩
      obtain ⟨s, rfl, hs⟩ := hy2
      have hb := isB_app hkey hs
      refine ⟨?_, so3, hk _ hb _ so3⟩
      have h8 : r.1.length ≤ 8 := by rw [len_l]; exact hkey.2.1
      have hs1 : s.length ≤ 1 := by rcases hs with rfl | rfl <;> decide
      exact Nat.le_trans (show r.1.length + s.length ≤ 9 by omega) (by decide)
  · exact ⟨⟨rfl, so1⟩, rfl, fun k hkey o3 so3 => ⟨so3, so3, hk k (kb k hkey) _ so3⟩⟩
  · exact ⟨⟨rfl, so1⟩, rfl, fun k hkey o3 so3 => ⟨so3, so3, hk k (kb k hkey) _ so3⟩⟩
abbrev s_l_some_key : Stmt := top 24
abbrev N_l_some_key : List Str := ["_law_state", "_law_table_here"]
theorem sc_l_some_key : FnScope N_l_some_key ["_law_state", "_law_table_here"] (C8.fnScope s_l_some_key) := C8.fnScope_by (by decide +kernel)
theorem ok_l_some_key (D : Df K mg "_law_some_key" s_l_some_key) (bi : Bi mg) (c_l_draw : CalS P w K T mg base 1 "_law_draw" spDraw) (c_l_key : CalS P w K T mg base 2 "_law_key" spKey) : CalS P w K T mg base 3 "_law_some_key" spSomeKey := by
  have sc := sc_l_some_key
  refine D.cals (k := 2) (Q := spSomeKey) (fun _ _ _ _ _ _ us hl => match us, hl with | [_, _], _ => rfl) sc (by rintro _ _ ⟨n, rfl, _⟩; rfl)
      (fun f cdv A outer s H E hr =>
      (dpss_cons (dps_if (DPW.pt (dpw_and (c_gt (e_len bi (a1 (dpv 1))) dpe_int) (dpw_and1 (c_gt (dpe_callS c_l_draw hr (by decide) (by rfl) (dpa_cons (dpv 0) (a1 dpe_int))) dpe_int))))
        (dpss_one (dps_ret (e_ix (e_ix (dpv 1) (dpe_callS c_l_draw hr (by decide) (by rfl) (dpa_cons (dpv 0) (a1 (e_len bi (a1 (dpv 1))))))) dpe_int)))
        dpss_nil)
        (dpss_one (dps_ret (dpe_callS c_l_key hr (by decide) (by rfl) (a1 (dpv 0))))))
      ) ?_
  rintro o xs Kp so ⟨rows, rfl, ht, hl, hk⟩
  have e40 : (10 : Int) ^ 40 = 10000000000000000000000000000000000000000 := by decide
  have el : ((rows.map tabR).map W.fz).length = rows.length := by simp
  refine ifB_d (fun h => ?_) (fun h => ?_)
  · refine ⟨⟨rfl, so⟩, 3, rfl, by decide, by decide, fun t t0 t1 o1 so1 => ⟨so1, ?_⟩⟩
    refine ifB_d (fun _ => ?_) (fun _ => ?_)
    · refine ⟨⟨rfl, so1⟩, _, rfl, h, by show ((((rows.map tabR).map W.fz).length : Nat) : Int) ≤ _; rw [el]; omega, fun i i0 i1 o2 so2 => ⟨so2, ?_⟩⟩
      refine onO_at i0 i1 fun x hx => ?_
      rw [List.getElem?_map, List.getElem?_map] at hx
      cases e : rows[i.toNat]? with
      | none => rw [e] at hx; cases hx
      | some r =>
        rw [e] at hx
        cases hx
        exact ⟨so2, hk _ (ht.2 r (List.mem_of_getElem? e)).1 _ so2⟩
    · exact ⟨⟨rfl, so1⟩, rfl, fun k hkey o3 so3 => ⟨so3, so3, hk k hkey _ so3⟩⟩
  · exact ⟨⟨rfl, so⟩, rfl, fun k hkey o3 so3 => ⟨so3, so3, hk k hkey _ so3⟩⟩
abbrev s_l_query : Stmt := top 25
abbrev N_l_query : List Str := ["_law_state", "_law_table_here", "_law_choice"]
theorem sc_l_query : FnScope N_l_query ["_law_state", "_law_table_here"] (C8.fnScope s_l_query) := C8.fnScope_by (by decide +kernel)
theorem ok_l_query (D : Df K mg "_law_query" s_l_query) (bi : Bi mg) (c_l_draw : CalS P w K T mg base 1 "_law_draw" spDraw) (c_l_some_key : CalS P w K T mg base 3 "_law_some_key" spSomeKey) (c_l_bound : CalS P w K T mg base 3 "_law_bound" spBd3) : CalS P w K T mg base 4 "_law_query" spQuery3 := by
  have sc := sc_l_query
  refine D.cals (k := 3) (Q := spQuery3) (fun _ _ _ _ _ _ us hl => match us, hl with | [_, _], _ => rfl) sc (by rintro _ _ ⟨n, rfl, _⟩; rfl)
      (fun f cdv A outer s H E hr =>
      (dpss_cons (sset 2 sc.nd (dpe_callS c_l_draw hr (by decide) (by rfl) (dpa_cons (dpv 0) (a1 dpe_int))))
        (dpss_cons (dps_if (c_eq hr (dpv 2) dpe_int)
        (dpss_one (dps_ret (dpe_tup (dpa_cons dpe_str (a1 (dpe_callS c_l_some_key hr (Nat.le_refl _) (by rfl) (dpa_cons (dpv 0) (a1 (dpv 1)))))))))
        dpss_nil)
        (dpss_cons (dps_if (c_eq hr (dpv 2) dpe_int)
        (dpss_one (dps_ret (dpe_tup (dpa_cons dpe_str (dpa_cons (dpe_callS c_l_bound hr (Nat.le_refl _) (by rfl) (dpa_cons (dpv 0) (a1 (dpv 1)))) (a1 (dpe_callS c_l_bound hr (Nat.le_refl _) (by rfl) (dpa_cons (dpv 0) (a1 (dpv 1))))))))))
        dpss_nil)
        (dpss_cons (dps_if (c_eq hr (dpv 2) dpe_int)
        (dpss_one (dps_ret (dpe_tup (dpa_cons dpe_str (dpa_cons (dpe_callS c_l_bound hr (Nat.le_refl _) (by rfl) (dpa_cons (dpv 0) (a1 (dpv 1)))) (a1 (e_ix (dpe_lst false (dpa_cons (dpe_callS c_l_draw hr (by decide) (by rfl) (dpa_cons (dpv 0) (a1 dpe_int))) (a1 (dpe_callS c_l_draw hr (by decide) (by rfl) (dpa_cons (dpv 0) (a1 dpe_int)))))) (dpe_callS c_l_draw hr (by decide) (by rfl) (dpa_cons (dpv 0) (a1 dpe_int))))))))))
        dpss_nil)
        (dpss_cons (dps_if (c_eq hr (dpv 2) dpe_int)
        (dpss_one (dps_ret (dpe_tup (dpa_cons dpe_str (dpa_cons (dpe_callS c_l_bound hr (Nat.le_refl _) (by rfl) (dpa_cons (dpv 0) (a1 (dpv 1)))) (a1 (dpe_callS c_l_bound hr (Nat.le_refl _) (by rfl) (dpa_cons (dpv 0) (a1 (dpv 1))))))))))
        dpss_nil)
        (dpss_cons (dps_if (c_eq hr (dpv 2) dpe_int)
        (dpss_one (dps_ret (dpe_tup (dpa_cons dpe_str (dpa_cons (dpe_callS c_l_draw hr (by decide) (by rfl) (dpa_cons (dpv 0) (a1 dpe_int))) (dpa_cons (dpe_callS c_l_bound hr (Nat.le_refl _) (by rfl) (dpa_cons (dpv 0) (a1 (dpv 1)))) (a1 (dpe_callS c_l_bound hr (Nat.le_refl _) (by rfl) (dpa_cons (dpv 0) (a1 (dpv 1)))))))))))
        dpss_nil)
        (dpss_cons (dps_if (c_eq hr (dpv 2) dpe_int)
        (dpss_one (dps_ret (dpe_tup (dpa_cons dpe_str (a1 (dpe_callS c_l_bound hr (Nat.le_refl _) (by rfl) (dpa_cons (dpv 0) (a1 (dpv 1)))))))))
        dpss_nil)
        (dpss_one (dps_ret (dpe_tup (dpa_cons dpe_str (a1 (dpe_callS c_l_draw hr (by decide) (by rfl) (dpa_cons (dpv 0) (a1 (e_add false (e_len bi (a1 (dpv 1))) dpe_int))))))))))))))))
      ) ?_
  rintro o xs Kp so ⟨rows, rfl, ht, hl, hk⟩
  have el : ((rows.map tabR).map W.fz).length = rows.length := by simp
  refine ⟨⟨rfl, so⟩, 7, rfl, by decide, by decide, fun t t0 t1 o1 so1 => ⟨so1, ⟨rfl, rfl⟩, ifB_of (fun _ => ?_) (fun _ => ?_)⟩⟩
  · exact ⟨⟨rfl, so1⟩, rows, rfl, ht, hl, fun k hkey o2 so2 => ⟨so2, sz rfl, so2, hk (.get k) hkey _ so2⟩⟩
  refine ⟨⟨rfl, rfl⟩, ifB_of (fun _ => ?_) (fun _ => ?_)⟩
  · exact ⟨⟨rfl, so1⟩, rows, rfl, ht, hl, fun a ha o2 so2 => ⟨so2, ⟨rfl, so2⟩, rows, rfl, ht, hl, fun b hb o3 so3 => ⟨so3, sz rfl, so3, hk (.rng a b) ⟨ha, hb⟩ _ so3⟩⟩⟩
  refine ⟨⟨rfl, rfl⟩, ifB_of (fun _ => ?_) (fun _ => ?_)⟩
  · refine ⟨⟨rfl, so1⟩, rows, rfl, ht, hl, fun a ha o2 so2 => ⟨so2, ⟨rfl, so2⟩, 4, rfl, by decide, by decide, fun u u0 u1 o3 so3 => ⟨so3, ⟨rfl, so3⟩, 101, rfl, by decide, by decide, fun v v0 v1 o4 so4 => ⟨so4, ?_⟩⟩⟩⟩
    refine ⟨sz rfl, ⟨rfl, so4⟩, 2, rfl, by decide, by decide, fun j j0 j1 o5 so5 => ⟨so5, onO_at j0 j1 fun y hy => ?_⟩⟩
    have hy2 : ∃ n : Int, y = W.fz (.int n) ∧ 0 ≤ n ∧ n ≤ 100 := by
      rcases mem2 hy with e | e
      · exact ⟨_, e, u0, by omega⟩
      · exact ⟨_, e, v0, by omega⟩
    obtain ⟨n, rfl, n0, n1⟩ := hy2
    exact ⟨sz rfl, so5, hk (.nxt a n) ⟨ha, n0, n1⟩ _ so5⟩
  refine ⟨⟨rfl, rfl⟩, ifB_of (fun _ => ?_) (fun _ => ?_)⟩
  · exact ⟨⟨rfl, so1⟩, rows, rfl, ht, hl, fun a ha o2 so2 => ⟨so2, ⟨rfl, so2⟩, rows, rfl, ht, hl, fun b hb o3 so3 => ⟨so3, sz rfl, so3, hk (.cnt a b) ⟨ha, hb⟩ _ so3⟩⟩⟩
  refine ⟨⟨rfl, rfl⟩, ifB_of (fun _ => ?_) (fun _ => ?_)⟩
  · exact ⟨⟨rfl, so1⟩, 3, rfl, by decide, by decide, fun c c0 c1 o9 so9 => ⟨so9, ⟨rfl, so9⟩, rows, rfl, ht, hl, fun a ha o2 so2 => ⟨so2, ⟨rfl, so2⟩, rows, rfl, ht, hl, fun b hb o3 so3 => ⟨so3, sz rfl, so3, hk (.sm c a b) ⟨⟨c0, by omega⟩, ha, hb⟩ _ so3⟩⟩⟩⟩
  refine ⟨⟨rfl, rfl⟩, ifB_of (fun _ => ?_) (fun _ => ?_)⟩
  · exact ⟨⟨rfl, so1⟩, rows, rfl, ht, hl, fun a ha o2 so2 => ⟨so2, sz rfl, so2, hk (.plc a) ha _ so2⟩⟩
  have e40 : (10 : Int) ^ 40 = 10000000000000000000000000000000000000000 := by decide
  exact ⟨⟨rfl, so1⟩, _, rfl, by rw [el]; omega, by rw [el]; omega, fun i i0 i1 o2 so2 => ⟨so2, sz rfl, so2, hk (.at i) (show 0 ≤ i ∧ i ≤ 99999 from ⟨i0, by rw [el] at i1; omega⟩) _ so2⟩⟩
abbrev s_l_change : Stmt := top 26
abbrev N_l_change : List Str := ["_law_state", "_law_table_here"]
theorem sc_l_change : FnScope N_l_change ["_law_state", "_law_table_here"] (C8.fnScope s_l_change) := C8.fnScope_by (by decide +kernel)
theorem ok_l_change (D : Df K mg "_law_change" s_l_change) (bi : Bi mg) (c_l_draw : CalS P w K T mg base 1 "_law_draw" spDraw) (c_l_some_key : CalS P w K T mg base 3 "_law_some_key" spSomeKey) (c_l_row : CalS P w K T mg base 2 "_law_row" spRow) : CalS P w K T mg base 4 "_law_change" spChange := by
  have sc := sc_l_change
  refine D.cals (k := 3) (Q := spChange) (fun _ _ _ _ _ _ us hl => match us, hl with | [_, _], _ => rfl) sc (by rintro _ _ ⟨n, rfl, _⟩; rfl)
      (fun f cdv A outer s H E hr =>
      (dpss_cons (dps_if (c_eq hr (dpe_callS c_l_draw hr (by decide) (by rfl) (dpa_cons (dpv 0) (a1 dpe_int))) dpe_int)
        (dpss_one (dps_ret (dpe_tup (dpa_cons dpe_str (a1 (dpe_callS c_l_some_key hr (by decide) (by rfl) (dpa_cons (dpv 0) (a1 (dpv 1)))))))))
        dpss_nil)
        (dpss_one (dps_ret (dpe_tup (dpa_cons dpe_str (dpa_cons (dpe_callS c_l_some_key hr (by decide) (by rfl) (dpa_cons (dpv 0) (a1 (dpv 1)))) (a1 (dpe_callS c_l_row hr (by decide) (by rfl) (a1 (dpv 0))))))))))
      ) ?_
  rintro o xs Kp so ⟨rows, rfl, ht, hl, hk⟩
  refine ⟨⟨rfl, so⟩, 3, rfl, by decide, by decide, fun t t0 t1 o1 so1 => ⟨so1, ⟨rfl, rfl⟩, ifB_of (fun _ => ?_) (fun _ => ?_)⟩⟩
  · exact ⟨⟨rfl, so1⟩, rows, rfl, ht, hl, fun k hkey o2 so2 => ⟨so2, sz rfl, so2, hk (.rem k) hkey _ so2⟩⟩
  · exact ⟨⟨rfl, so1⟩, rows, rfl, ht, hl, fun k hkey o2 so2 => ⟨so2, ⟨rfl, so2⟩, rfl, fun r hrow o3 so3 => ⟨so3, sz rfl, so3, hk (.put k r) ⟨hkey, hrow⟩ _ so3⟩⟩⟩
abbrev s_l_written : Stmt := top 27
abbrev N_l_written : List Str := ["_law_wish", "_law_words", "_law_part", "_law_number"]
theorem sc_l_written : FnScope N_l_written ["_law_wish"] (C8.fnScope s_l_written) := C8.fnScope_by (by decide +kernel)
set_option maxHeartbeats 1000000 in
theorem ok_l_written (D : Df K mg "_law_written" s_l_written) (bi : Bi mg) : CalP P w K T mg base 1 "_law_written" spWrit := by
  have sc := sc_l_written
  refine D.calp (k := 0) (Q := spWrit) (fun _ _ _ _ _ _ us hl => match us, hl with | [_], _ => rfl) sc (by rintro _ _ ⟨d, rfl, _⟩; rfl)
      (fun f cdv A outer s H E hr =>
      (dpss_cons (sset 1 sc.nd (dpe_lst true (a1 (e_ix (dpv 0) dpe_int))))
        (dpss_cons (dps_for PassesOwn.never rfl (dpi_any (dpe_slice false (dpv 0) (dpo_some dpe_int) dpo_none)) (gname 2 sc.nd)
        (dpss_one (dps_if (dpt_tru (e_isi bi (dpa_cons (dpv 2) (a1 (t_tuple bi)))))
        (dpss_one (sset 1 sc.nd (e_add true (dpv 1) (dpe_lc (ow := [("_law_number", 3)]) false (lk_name (by decide)) rfl sc.nd (dpi_any (dpv 2)) (blkOk_by (N := N_l_written) (sc := C8.fnScope s_l_written) (by decide +kernel)) (fun _ _ _ _ _ => pg_name (i := 3) sc.nd rfl (Or.inl rfl)) (fun _ _ _ _ _ => dpts_nil) (fun _ _ _ _ _ => (e_str bi (a1 (dpv 3))))))))
        (dpss_one (dps_if (c_eq hr (dpv 2) dpe_str)
        (dpss_one (dps_expr (dpe_append rfl (dpv 1) (a1 dpe_str))))
        (dpss_one (dps_expr (dpe_append rfl (dpv 1) (a1 (e_str bi (a1 (dpv 2))))))))))))
        (dpss_one (dps_ret (dpv 1)))))
      ) ?_
  rintro xs Kp ⟨wi, rfl, hw, hk⟩
  obtain ⟨p1, p2, p3⟩ := parts_ok hw
  have hk : Kp (.lst ((nameW wi :: argsW wi).map DL.D.str)) := hk
  rw [p3] at hk
  rw [wsD_eq]
  refine onO_hd0 ?_
  refine ⟨sz rfl, ?_⟩
  refine onO_itT (a := .str (nameW wi)) (r := partsW wi) ?_
  have oke : okD 64 (.str "") = true := ok_str (by decide +kernel)
  refine loop_inv (I := fun ws env S => ∃ (ds pr : List DL.D) (n : Nat) (w2 w3 : Option W), ws = ds.map W.fz ∧ partsW wi = pr ++ ds ∧ env = [some (W.fz (.tup (.str (nameW wi) :: partsW wi))), some (W.hd n), w2, w3] ∧ S[n]? = some (.lst (((nameW wi :: pr.flatMap pw).map DL.D.str).map W.fz))) ?_ ?_ ?_
  · exact ⟨partsW wi, [], 0, _, _, rfl, rfl, rfl, rfl⟩
  · rintro env S ⟨ds, pr, n, w2, w3, hws, hp, rfl, hS⟩
    have n0 : ds = [] := by
      cases ds with
      | nil => rfl
      | cons a r => cases hws
    subst n0
    rw [List.append_nil] at hp
    rw [hp] at hk
    refine onO_some (x := DL.D.lst ((nameW wi :: pr.flatMap pw).map DL.D.str)) ?_ hk
    unfold dW
    dsimp only
    rw [hS]
    dsimp only
    rw [fzL_map]
    rfl
  · rintro w ws env S N ⟨ds, pr, n, w2, w3, hws, hp, rfl, hS⟩ hN
    cases ds with
    | nil => cases hws
    | cons d ds =>
    cases hws
    have hd := p1 d (by rw [hp]; exact List.mem_append_right _ List.mem_cons_self)
    have hlen : (nameW wi :: pr.flatMap pw).length ≤ 10 := by
      have h1 := flat_len pr fun d hd => p1 d (by rw [hp]; exact List.mem_append_left _ hd)
      have h2 : pr.length + (ds.length + 1) ≤ 3 := by rw [hp, List.length_append] at p2; exact p2
      rw [List.length_cons]
      omega
    have hz : (((nameW wi :: pr.flatMap pw).map DL.D.str).map W.fz).length < sizeLine := by rw [List.length_map, List.length_map]; exact Nat.lt_of_le_of_lt hlen (by decide)
    have hp' : partsW wi = (pr ++ [d]) ++ ds := by rw [hp, List.append_assoc]; rfl
    have fm : (pr ++ [d]).flatMap pw = pr.flatMap pw ++ pw d := by rw [List.flatMap_append]; simp
    have hnl : n < S.length := (List.getElem?_eq_some_iff.mp hS).1
    have fin : ∀ (x : Str), pw d = [x] → N [some (W.fz (.tup (.str (nameW wi) :: partsW wi))), some (W.hd n), some (W.fz d), w3] (S.set n (.lst (((nameW wi :: pr.flatMap pw).map DL.D.str).map W.fz ++ [W.fz (.str x)]))) := fun x e => by
      refine hN _ _ ⟨ds, pr ++ [d], n, _, _, rfl, hp', rfl, ?_⟩
      rw [List.getElem?_set_self hnl, fm, e]
      simp
    rcases hd with ⟨s, rfl, hs⟩ | ⟨i, rfl, h0, h1⟩ | ⟨r, rfl, hr⟩
    · refine ⟨⟨isB_okD hs, oke⟩, ?_⟩
      refine ifB_of (fun h => ?_) (fun h => ?_)
      · have h : eqD (.str s) (.str "") = true := h
        rw [eqD_str, decide_eq_true_eq] at h
        refine onO_lst hS ?_
        refine onO_lst hS ?_
        refine ⟨hz, ?_⟩
        exact fin "-" (by show [wrT s] = _; unfold wrT; rw [if_pos h])
      · have h : eqD (.str s) (.str "") = false := h
        rw [eqD_str, decide_eq_false_iff_not] at h
        refine onO_lst hS ?_
        refine onO_lst hS ?_
        refine ⟨hz, ?_⟩
        exact fin s (by show [wrT s] = _; unfold wrT; rw [if_neg h])
    · refine ⟨⟨rfl, oke⟩, ?_⟩
      refine onO_lst hS ?_
      refine ⟨num_log h0 h1, ?_⟩
      refine onO_lst hS ?_
      refine ⟨hz, ?_⟩
      exact fin (numS i) rfl
    · refine ⟨by rw [List.length_map, List.length_map]; exact Nat.le_trans hr.2.1 (by decide), ?_⟩
      rw [List.map_map]
      refine lcW_mapF (fun i : Int => W.fz (.int i)) (fun i => W.fz (.str (numS i))) (fun i hi A Bf ha => ⟨num_log (hr.2.2 i hi).1 (by have := (hr.2.2 i hi).2; omega), ha⟩) ?_
      refine newL_E ((r.map numS).map DL.D.str) (by rw [List.map_map, List.map_map]; rfl) ?_
      refine onO_lst hS ?_
      refine ⟨by simp only [List.length_map]; exact Nat.le_trans (Nat.add_le_add hlen hr.2.1) (by decide), ?_⟩
      refine hN _ _ ⟨ds, pr ++ [rowD r], S.length, _, _, rfl, hp', rfl, ?_⟩
      rw [set_app1 rfl, fm, pw_row]
      simp
abbrev s_l_told : Stmt := top 28
abbrev N_l_told : List Str := ["_law_text", "error"]
theorem sc_l_told : FnScope N_l_told ["_law_text"] (C8.fnScope s_l_told) := C8.fnScope_by (by decide +kernel)
theorem ok_l_told {CW : Addr} (D : Df K mg "_law_told" s_l_told) (bi : Bi mg) (c_parse_wish : CalX P w K T mg base 5 "parse_wish" (spPW CW)) (r_InvalidWord : RefN P w K mg base "InvalidWord" CW) (x_InvalidWord : ExcX K CW) (k_InvalidWord : CatC K CW ["number"]) (i_InvalidWord_RightrowsError : IsA K mg "RightrowsError" CW true) (v_InvalidWord : IsV K mg CW) (i_InvalidWord_InvalidLine : IsA K mg "InvalidLine" CW false) : CalX P w K T mg base 6 "_law_told" spTold34 := by
  have sc := sc_l_told
  refine D.calX (k := 5) (g := spTold34) (fun _ _ _ _ _ _ us hl => match us, hl with | [_], _ => rfl) sc (by rintro _ _ _ _ ⟨x, n, rfl, _⟩; rfl)
      (fun xw f cdv A outer s H E hr po =>
      (dpss_cons (ds_tryN (i := 1) x_InvalidWord i_InvalidWord_RightrowsError v_InvalidWord i_InvalidWord_InvalidLine bi.isi (k_InvalidWord.no _ (by simp)) r_InvalidWord.mgC (fun pn xe xw po => (dpss_one (dps_expr (e_callG c_parse_wish hr (Nat.le_refl _) (by rfl) (a1 (dpv 0)))))) sc.nd)
        (dpss_one (dps_ret (e_sub dpe_int dpe_int))))
      ) ?_
  rintro ws S Kp Xp ⟨l, n, rfl, ht, hk⟩
  obtain ⟨w0, rs, sh, f1, f2, sp, fp, hs, rfl⟩ := told_fit ht
  refine ⟨_, w0, rs, sh, rfl, f1, f2, sp, fp, hs, fun s e hb T => ?_, fun n e T => ⟨?_, rfl, ?_⟩⟩
  · have h := hk T
    unfold toldW at h
    subst e
    rw [show errW w0 (some s) rs = none from hb] at h
    exact ⟨trivial, h⟩
  · have h1 := errW_le e
    have h2 := fp.len
    exact ⟨by omega, by omega⟩
  · have h := hk T
    unfold toldW at h
    rw [e] at h
    exact h
abbrev s_l_bad : Stmt := top 29
abbrev N_l_bad : List Str := ["_law_wish", "_law_at", "_law_name"]
theorem sc_l_bad : FnScope N_l_bad ["_law_wish", "_law_at"] (C8.fnScope s_l_bad) := C8.fnScope_by (by decide +kernel)
set_option maxHeartbeats 1000000 in
theorem ok_l_bad (D : Df K mg "_law_bad" s_l_bad) (bi : Bi mg) : CalP P w K T mg base 1 "_law_bad" spBad := by
  have sc := sc_l_bad
  refine D.calp (k := 0) (Q := spBad) (fun _ _ _ _ _ _ us hl => match us, hl with | [_, _], _ => rfl) sc (by rintro _ _ ⟨d, n, rfl, _⟩; rfl)
      (fun f cdv A outer s H E hr =>
      (dpss_cons (sset 2 sc.nd (e_ix (dpv 0) dpe_int))
        (dpss_cons (dps_if (c_eq hr (dpv 1) dpe_int)
        (dpss_one (dps_ret (dpe_lst false (dpa_cons dpe_str (dpa_cons dpe_str (dpa_cons dpe_str (dpa_cons dpe_str (a1 dpe_str))))))))
        dpss_nil)
        (dpss_cons (dps_if (DPW.pt (dpw_or (c_inL hr (dpv 2) (dpe_lst false (dpa_cons dpe_str (a1 dpe_str)))) (dpw_or1 (DPW.pt (dpw_and (c_eq hr (dpv 2) dpe_str) (dpw_and1 (c_eq hr (dpv 1) dpe_int)))))))
        (dpss_one (dps_ret (dpe_lst false (dpa_cons dpe_str (dpa_cons dpe_str (dpa_cons dpe_str (dpa_cons dpe_str (a1 dpe_str))))))))
        dpss_nil)
        (dpss_cons (dps_if (c_eq hr (dpv 2) dpe_str)
        (dpss_one (dps_ret (dpe_lst false (dpa_cons dpe_str (dpa_cons dpe_str (dpa_cons dpe_str (dpa_cons dpe_str (dpa_cons dpe_str (a1 dpe_str)))))))))
        dpss_nil)
        (dpss_cons (dps_if (DPW.pt (dpw_and (c_eq hr (dpv 2) dpe_str) (dpw_and1 (c_eq hr (dpv 1) dpe_int))))
        (dpss_one (dps_ret (dpe_lst false (dpa_cons dpe_str (dpa_cons dpe_str (dpa_cons dpe_str (dpa_cons dpe_str (a1 dpe_str))))))))
        dpss_nil)
        (dpss_cons (dps_if (DPW.pt (dpw_and (c_eq hr (dpv 2) dpe_str) (dpw_and1 (c_eq hr (dpv 1) dpe_int))))
        (dpss_one (dps_ret (dpe_lst false (dpa_cons dpe_str (dpa_cons dpe_str (dpa_cons dpe_str (dpa_cons dpe_str (a1 dpe_str))))))))
        dpss_nil)
        (dpss_cons (dps_if (c_eq hr (dpv 2) dpe_str)
        (dpss_one (dps_ret (dpe_lst false (dpa_cons dpe_str (dpa_cons dpe_str (dpa_cons dpe_str (dpa_cons dpe_str (a1 dpe_str))))))))
        dpss_nil)
        (dpss_one (dps_ret (dpe_lst false (dpa_cons dpe_str (dpa_cons dpe_str (dpa_cons dpe_str (dpa_cons dpe_str (a1 dpe_str)))))))))))))))
      ) ?_
  rintro xs Kp ⟨wi, n, rfl, hw, hn, hk⟩
  rw [wsD_eq]
  refine onO_hd0 ?_
  have okn : okD 64 (.str (nameW wi)) = true := ok_str (low_ok fun c hc => ((name_ok wi).1 c hc).1.1)
  have okn60 : okD 60 (.str (nameW wi)) = true := ok_str (low_ok fun c hc => ((name_ok wi).1 c hc).1.1)
  have shp := okD_shaped okn60 (by decide)
  refine ⟨⟨rfl, rfl⟩, ?_⟩
  refine ifB_of (fun h => ?_) (fun h => ?_)
  · have h : eqD (.int ((n : Nat) : Int)) (.int 0) = true := h
    have n0 : n = 0 := by
      simp [eqD, toPy, PyData.eqv] at h
      omega
    subst n0
    refine ⟨sz rfl, ?_⟩
    exact hk
  have h : eqD (.int ((n : Nat) : Int)) (.int 0) = false := h
  have n0 : n ≠ 0 := fun z => by subst z; cases h
  clear h
  rcases wi with q | c
  · cases q with
    | get k =>
      have hn : n < 2 := hn
      match n, hn, n0, hk with
      | 1, _, _, hk =>
        rw [show badL (.q (.get k)) 1 = badK 107 from by unfold badL; rw [kinds_of]; rfl] at hk
        refine ⟨sz rfl, ?_⟩
        refine newL_E [.str "get", .str "remove"] rfl ?_
        refine ⟨⟨okn60, by decide +kernel, shp, by decide +kernel⟩, ?_⟩
        repeat refine ⟨⟨by first | rfl | assumption, by first | rfl | decide +kernel⟩, ?_⟩
        refine ⟨sz rfl, ?_⟩
        exact hk
      | 0, _, n0, _ => exact absurd rfl n0
      | n + 2, h, _, _ => exact absurd h (by omega)
    | rng lo hi =>
      have hn : n < 3 := hn
      match n, hn, n0, hk with
      | 1, _, _, hk =>
        rw [show badL (.q (.rng lo hi)) 1 = badK 98 from by unfold badL; rw [kinds_of]; rfl] at hk
        refine ⟨sz rfl, ?_⟩
        refine newL_E [.str "get", .str "remove"] rfl ?_
        refine ⟨⟨okn60, by decide +kernel, shp, by decide +kernel⟩, ?_⟩
        repeat refine ⟨⟨by first | rfl | assumption, by first | rfl | decide +kernel⟩, ?_⟩
        refine ⟨sz rfl, ?_⟩
        exact hk
      | 2, _, _, hk =>
        rw [show badL (.q (.rng lo hi)) 2 = badK 98 from by unfold badL; rw [kinds_of]; rfl] at hk
        refine ⟨sz rfl, ?_⟩
        refine newL_E [.str "get", .str "remove"] rfl ?_
        refine ⟨⟨okn60, by decide +kernel, shp, by decide +kernel⟩, ?_⟩
        repeat refine ⟨⟨by first | rfl | assumption, by first | rfl | decide +kernel⟩, ?_⟩
        refine ⟨sz rfl, ?_⟩
        exact hk
      | 0, _, n0, _ => exact absurd rfl n0
      | n + 3, h, _, _ => exact absurd h (by omega)
    | nxt b i =>
      have hn : n < 3 := hn
      match n, hn, n0, hk with
      | 1, _, _, hk =>
        rw [show badL (.q (.nxt b i)) 1 = badK 98 from by unfold badL; rw [kinds_of]; rfl] at hk
        refine ⟨sz rfl, ?_⟩
        refine newL_E [.str "get", .str "remove"] rfl ?_
        refine ⟨⟨okn60, by decide +kernel, shp, by decide +kernel⟩, ?_⟩
        repeat refine ⟨⟨by first | rfl | assumption, by first | rfl | decide +kernel⟩, ?_⟩
        refine ⟨sz rfl, ?_⟩
        exact hk
      | 2, _, _, hk =>
        rw [show badL (.q (.nxt b i)) 2 = badK 99 from by unfold badL; rw [kinds_of]; rfl] at hk
        refine ⟨sz rfl, ?_⟩
        refine newL_E [.str "get", .str "remove"] rfl ?_
        refine ⟨⟨okn60, by decide +kernel, shp, by decide +kernel⟩, ?_⟩
        repeat refine ⟨⟨by first | rfl | assumption, by first | rfl | decide +kernel⟩, ?_⟩
        refine ⟨sz rfl, ?_⟩
        exact hk
      | 0, _, n0, _ => exact absurd rfl n0
      | n + 3, h, _, _ => exact absurd h (by omega)
    | cnt lo hi =>
      have hn : n < 3 := hn
      match n, hn, n0, hk with
      | 1, _, _, hk =>
        rw [show badL (.q (.cnt lo hi)) 1 = badK 98 from by unfold badL; rw [kinds_of]; rfl] at hk
        refine ⟨sz rfl, ?_⟩
        refine newL_E [.str "get", .str "remove"] rfl ?_
        refine ⟨⟨okn60, by decide +kernel, shp, by decide +kernel⟩, ?_⟩
        repeat refine ⟨⟨by first | rfl | assumption, by first | rfl | decide +kernel⟩, ?_⟩
        refine ⟨sz rfl, ?_⟩
        exact hk
      | 2, _, _, hk =>
        rw [show badL (.q (.cnt lo hi)) 2 = badK 98 from by unfold badL; rw [kinds_of]; rfl] at hk
        refine ⟨sz rfl, ?_⟩
        refine newL_E [.str "get", .str "remove"] rfl ?_
        refine ⟨⟨okn60, by decide +kernel, shp, by decide +kernel⟩, ?_⟩
        repeat refine ⟨⟨by first | rfl | assumption, by first | rfl | decide +kernel⟩, ?_⟩
        refine ⟨sz rfl, ?_⟩
        exact hk
      | 0, _, n0, _ => exact absurd rfl n0
      | n + 3, h, _, _ => exact absurd h (by omega)
    | sm c lo hi =>
      have hn : n < 4 := hn
      match n, hn, n0, hk with
      | 1, _, _, hk =>
        rw [show badL (.q (.sm c lo hi)) 1 = badK 108 from by unfold badL; rw [kinds_of]; rfl] at hk
        refine ⟨sz rfl, ?_⟩
        refine newL_E [.str "get", .str "remove"] rfl ?_
        refine ⟨⟨okn60, by decide +kernel, shp, by decide +kernel⟩, ?_⟩
        repeat refine ⟨⟨by first | rfl | assumption, by first | rfl | decide +kernel⟩, ?_⟩
        refine ⟨sz rfl, ?_⟩
        exact hk
      | 2, _, _, hk =>
        rw [show badL (.q (.sm c lo hi)) 2 = badK 98 from by unfold badL; rw [kinds_of]; rfl] at hk
        refine ⟨sz rfl, ?_⟩
        refine newL_E [.str "get", .str "remove"] rfl ?_
        refine ⟨⟨okn60, by decide +kernel, shp, by decide +kernel⟩, ?_⟩
        repeat refine ⟨⟨by first | rfl | assumption, by first | rfl | decide +kernel⟩, ?_⟩
        refine ⟨sz rfl, ?_⟩
        exact hk
      | 3, _, _, hk =>
        rw [show badL (.q (.sm c lo hi)) 3 = badK 98 from by unfold badL; rw [kinds_of]; rfl] at hk
        refine ⟨sz rfl, ?_⟩
        refine newL_E [.str "get", .str "remove"] rfl ?_
        refine ⟨⟨okn60, by decide +kernel, shp, by decide +kernel⟩, ?_⟩
        repeat refine ⟨⟨by first | rfl | assumption, by first | rfl | decide +kernel⟩, ?_⟩
        refine ⟨sz rfl, ?_⟩
        exact hk
      | 0, _, n0, _ => exact absurd rfl n0
      | n + 4, h, _, _ => exact absurd h (by omega)
    | plc b =>
      have hn : n < 2 := hn
      match n, hn, n0, hk with
      | 1, _, _, hk =>
        rw [show badL (.q (.plc b)) 1 = badK 98 from by unfold badL; rw [kinds_of]; rfl] at hk
        refine ⟨sz rfl, ?_⟩
        refine newL_E [.str "get", .str "remove"] rfl ?_
        refine ⟨⟨okn60, by decide +kernel, shp, by decide +kernel⟩, ?_⟩
        repeat refine ⟨⟨by first | rfl | assumption, by first | rfl | decide +kernel⟩, ?_⟩
        refine ⟨sz rfl, ?_⟩
        exact hk
      | 0, _, n0, _ => exact absurd rfl n0
      | n + 2, h, _, _ => exact absurd h (by omega)
    | «at» i =>
      have hn : n < 2 := hn
      match n, hn, n0, hk with
      | 1, _, _, hk =>
        rw [show badL (.q (.«at» i)) 1 = badK 110 from by unfold badL; rw [kinds_of]; rfl] at hk
        refine ⟨sz rfl, ?_⟩
        refine newL_E [.str "get", .str "remove"] rfl ?_
        refine ⟨⟨okn60, by decide +kernel, shp, by decide +kernel⟩, ?_⟩
        repeat refine ⟨⟨by first | rfl | assumption, by first | rfl | decide +kernel⟩, ?_⟩
        refine ⟨sz rfl, ?_⟩
        exact hk
      | 0, _, n0, _ => exact absurd rfl n0
      | n + 2, h, _, _ => exact absurd h (by omega)
  · cases c with
    | put k r =>
      have hn : n < (r.map numS).length + 2 := hn
      have hr := hw.2.2.1
      rw [List.length_map] at hn
      match n, hn, n0, hk with
      | 1, _, _, hk =>
        rw [show badL (.c (.put k r)) 1 = badK 107 from by unfold badL; rw [kinds_of]; rfl] at hk
        refine ⟨sz rfl, ?_⟩
        refine newL_E [.str "get", .str "remove"] rfl ?_
        refine ⟨⟨okn60, by decide +kernel, shp, by decide +kernel⟩, ?_⟩
        repeat refine ⟨⟨by first | rfl | assumption, by first | rfl | decide +kernel⟩, ?_⟩
        refine ⟨sz rfl, ?_⟩
        exact hk
      | 2, _, _, hk =>
        rw [show badL (.c (.put k r)) 2 = badK 114 from by unfold badL; rw [kinds_of]; rfl] at hk
        refine ⟨sz rfl, ?_⟩
        refine newL_E [.str "get", .str "remove"] rfl ?_
        refine ⟨⟨okn60, by decide +kernel, shp, by decide +kernel⟩, ?_⟩
        repeat refine ⟨⟨by first | rfl | assumption, by first | rfl | decide +kernel⟩, ?_⟩
        refine ⟨sz rfl, ?_⟩
        exact hk
      | 3, _, _, hk =>
        rw [show badL (.c (.put k r)) 3 = badK 114 from by unfold badL; rw [kinds_of]; rfl] at hk
        refine ⟨sz rfl, ?_⟩
        refine newL_E [.str "get", .str "remove"] rfl ?_
        refine ⟨⟨okn60, by decide +kernel, shp, by decide +kernel⟩, ?_⟩
        repeat refine ⟨⟨by first | rfl | assumption, by first | rfl | decide +kernel⟩, ?_⟩
        refine ⟨sz rfl, ?_⟩
        exact hk
      | 4, _, _, hk =>
        rw [show badL (.c (.put k r)) 4 = badK 114 from by unfold badL; rw [kinds_of]; rfl] at hk
        refine ⟨sz rfl, ?_⟩
        refine newL_E [.str "get", .str "remove"] rfl ?_
        refine ⟨⟨okn60, by decide +kernel, shp, by decide +kernel⟩, ?_⟩
        repeat refine ⟨⟨by first | rfl | assumption, by first | rfl | decide +kernel⟩, ?_⟩
        refine ⟨sz rfl, ?_⟩
        exact hk
      | 0, _, n0, _ => exact absurd rfl n0
      | n + 5, h, _, _ => exact absurd h (by omega)
    | rem k =>
      have hn : n < 2 := hn
      match n, hn, n0, hk with
      | 1, _, _, hk =>
        rw [show badL (.c (.rem k)) 1 = badK 107 from by unfold badL; rw [kinds_of]; rfl] at hk
        refine ⟨sz rfl, ?_⟩
        refine newL_E [.str "get", .str "remove"] rfl ?_
        refine ⟨⟨okn60, by decide +kernel, shp, by decide +kernel⟩, ?_⟩
        repeat refine ⟨⟨by first | rfl | assumption, by first | rfl | decide +kernel⟩, ?_⟩
        refine ⟨sz rfl, ?_⟩
        exact hk
      | 0, _, n0, _ => exact absurd rfl n0
      | n + 2, h, _, _ => exact absurd h (by omega)
abbrev s_law : Stmt := top 30
abbrev N_law : List Str := ["_law_script", "_law_state", "_law_table_here", "_law_k", "_law_wish", "_law_words", "_law_at", "_law_bad_here", "_law_wrong", "_law_other", "_law_worse", "_law_twice", "_law_more", "_law_due"]
theorem sc_law : FnScope N_law ["_law_script"] (C8.fnScope s_law) := C8.fnScope_by (by decide +kernel)
set_option maxHeartbeats 4000000 in
theorem ok_law {f0 : Addr} {fd0 : FuncData} (D : C8.Fun K "law" "law" s_law f0 fd0) (bi : Bi mg) (c_l_draw : CalS P w K T mg base 1 "_law_draw" spDraw) (c_l_table : CalS P w K T mg base 3 "_law_table" spTable) (c_l_query : CalS P w K T mg base 4 "_law_query" spQuery3) (c_l_change : CalS P w K T mg base 4 "_law_change" spChange) (c_l_written : CalP P w K T mg base 1 "_law_written" spWrit) (c_l_bad : CalP P w K T mg base 1 "_law_bad" spBad) (c_l_told : CalX P w K T mg base 6 "_law_told" spTold34) : FnOk P w K mg base CX0 7 f0 fd0 ["_law_script"] (spD K T (psp spLaw)) := by
  have sc := sc_law
  refine DL.fnp D (k := 6) (Q := spLaw) sc (by rintro _ _ ⟨ns, rfl, _⟩; rfl)
      (fun cdv A outer s H E hr =>
      (dpss_cons (sset 1 sc.nd (dpe_lst true (dpa_cons dpe_int (dpa_cons dpe_int (dpa_cons (e_list false bi (a1 (dpv 0))) (a1 dpe_int))))))
        (dpss_cons (sset 2 sc.nd (dpe_callS c_l_table hr (by decide) (by rfl) (dpa_cons (dpv 1) (a1 dpe_int))))
        (dpss_cons (dps_for PassesOwn.never rfl (i_rng1 bi (a1 dpe_int)) (gname 3 sc.nd)
        (dpss_cons (sset 4 sc.nd (e_ix (dpe_lst false (dpa_cons (dpe_callS c_l_query hr (by decide) (by rfl) (dpa_cons (dpv 1) (a1 (dpv 2)))) (a1 (dpe_callS c_l_change hr (by decide) (by rfl) (dpa_cons (dpv 1) (a1 (dpv 2))))))) (dpe_callS c_l_draw hr (by decide) (by rfl) (dpa_cons (dpv 1) (a1 dpe_int)))))
        (dpss_cons (sset 5 sc.nd (dpe_callP c_l_written hr (by decide) (by rfl) (a1 (dpv 4))))
        (dpss_cons (dps_if (c_ne hr (e_callG c_l_told hr (Nat.le_refl _) (by rfl) (a1 (dpe_join dpe_str (dpv 5)))) (e_sub dpe_int dpe_int))
        (dpss_one (dps_ret dpe_bl))
        dpss_nil)
        (dpss_cons (sset 6 sc.nd (dpe_callS c_l_draw hr (by decide) (by rfl) (dpa_cons (dpv 1) (a1 (e_len bi (a1 (dpv 5)))))))
        (dpss_cons (sset 7 sc.nd (dpe_callP c_l_bad hr (by decide) (by rfl) (dpa_cons (dpv 4) (a1 (dpv 6)))))
        (dpss_cons (sset 8 sc.nd (e_ix (dpv 7) (dpe_callS c_l_draw hr (by decide) (by rfl) (dpa_cons (dpv 1) (a1 (e_len bi (a1 (dpv 7))))))))
        (dpss_cons (dps_if (c_ne hr (e_callG c_l_told hr (Nat.le_refl _) (by rfl) (a1 (dpe_join dpe_str (e_add false (e_add false (dpe_slice false (dpv 5) dpo_none (dpo_some (dpv 6))) (dpe_lst false (a1 (dpv 8)))) (dpe_slice false (dpv 5) (dpo_some (e_add false (dpv 6) dpe_int)) dpo_none))))) (dpv 6))
        (dpss_one (dps_ret dpe_bl))
        dpss_nil)
        (dpss_cons (sset 9 sc.nd (dpe_callS c_l_draw hr (by decide) (by rfl) (dpa_cons (dpv 1) (a1 (e_len bi (a1 (dpv 5)))))))
        (dpss_cons (sset 10 sc.nd (dpe_callP c_l_bad hr (by decide) (by rfl) (dpa_cons (dpv 4) (a1 (dpv 9)))))
        (dpss_cons (sset 11 sc.nd (e_add false (e_add false (dpe_slice false (dpv 5) dpo_none (dpo_some (dpv 6))) (dpe_lst false (a1 (dpv 8)))) (dpe_slice false (dpv 5) (dpo_some (e_add false (dpv 6) dpe_int)) dpo_none)))
        (dpss_cut (dps_if (DPW.pt (dpw_and (c_ne hr (e_ix (dpv 4) dpe_int) dpe_str) (dpw_and1 (DPW.pt (dpw_or (c_gt (dpv 6) dpe_int) (dpw_or1 (c_gt (dpv 9) dpe_int)))))))
        (dpss_cons (sset 11 sc.nd (e_add false (e_add false (dpe_slice false (dpv 11) dpo_none (dpo_some (dpv 9))) (dpe_lst false (a1 (e_ix (dpv 10) (dpe_callS c_l_draw hr (by decide) (by rfl) (dpa_cons (dpv 1) (a1 (e_len bi (a1 (dpv 10)))))))))) (dpe_slice false (dpv 11) (dpo_some (e_add false (dpv 9) dpe_int)) dpo_none)))
        (dpss_cons (sset 11 sc.nd (e_ix (dpe_lst false (dpa_cons (dpv 11) (dpa_cons (dpe_slice false (dpv 11) dpo_none (dpo_some (e_add false (e_max bi rfl (dpa_cons (dpv 6) (a1 (dpv 9)))) dpe_int))) (a1 (e_add false (dpv 11) (dpe_lst false (a1 dpe_str))))))) (dpe_callS c_l_draw hr (by decide) (by rfl) (dpa_cons (dpv 1) (a1 dpe_int)))))
        (dpss_one (dps_if (c_ne hr (e_callG c_l_told hr (Nat.le_refl _) (by rfl) (a1 (dpe_join dpe_str (dpv 11)))) (e_min bi rfl (dpa_cons (dpv 6) (a1 (dpv 9)))))
        (dpss_one (dps_ret dpe_bl))
        dpss_nil))))
        dpss_nil)
        (dpss_cut (dps_if (DPW.pt (dpw_or (c_ne hr (e_ix (dpv 4) dpe_int) dpe_str) (dpw_or1 (c_lt (dpv 6) dpe_int))))
        (dpss_one (dps_if (c_ne hr (e_callG c_l_told hr (Nat.le_refl _) (by rfl) (a1 (dpe_join dpe_str (dpe_slice false (dpv 5) dpo_none (dpo_some (dpv 6)))))) (dpv 6))
        (dpss_one (dps_ret dpe_bl))
        dpss_nil))
        dpss_nil)
        (dpss_cons (sset 12 sc.nd (e_add false (dpv 5) (dpe_lst false (a1 dpe_str))))
        (dpss_cons (sset 13 sc.nd (e_len bi (a1 (dpv 5))))
        (dpss_cut (dps_if (c_eq hr (e_ix (dpv 4) dpe_int) dpe_str)
        (dpss_cons (sset 12 sc.nd (e_add false (dpe_slice false (dpv 5) dpo_none (dpo_some dpe_int)) (dpe_lst false (dpa_cons dpe_str (dpa_cons dpe_str (dpa_cons dpe_str (a1 dpe_str)))))))
        (dpss_one (sset 13 sc.nd dpe_int)))
        dpss_nil)
        (dpss_one (dps_if (c_ne hr (e_callG c_l_told hr (Nat.le_refl _) (by rfl) (a1 (dpe_join dpe_str (dpv 12)))) (dpv 13))
        (dpss_one (dps_ret dpe_bl))
        dpss_nil))))))))))))))))))
        (dpss_one (dps_ret dpe_bl)))))
      ) ?_
  rintro xs Kp ⟨ns, rfl, hn, hk⟩
  refine onO_scr ?_
  refine ⟨sz rfl, ⟨rfl, ⟨0, 0, ns, 1, rfl, by decide, hn⟩⟩, 6, rfl, by decide, by decide, fun t ht hlt o so => ⟨so, ?_⟩⟩
  have hl : t.length ≤ 100 := by omega
  refine ⟨⟨by decide, by decide⟩, ?_⟩
  refine loop_inv (I := fun ws env S => ∃ (w3 w4 w5 w6 w7 w8 w9 w10 w11 w12 w13 : Option W) (o : OD) (R : Sto), env = [some (W.fz (.scr ns)), some (W.hd 0), some (W.fz (tabD t)), w3, w4, w5, w6, w7, w8, w9, w10, w11, w12, w13] ∧ S = o :: R ∧ StOk o) ?_ ?_ ?_
  · exact ⟨_, _, _, _, _, _, _, _, _, _, _, _, _, rfl, rfl, so⟩
  · rintro env S ⟨w3, w4, w5, w6, w7, w8, w9, w10, w11, w12, w13, o, R, rfl, rfl, so⟩
    exact hk
  clear so o
  rintro w ws env S N ⟨w3, w4, w5, w6, w7, w8, w9, w10, w11, w12, w13, o, R, rfl, rfl, so⟩ hN
  refine ⟨⟨rfl, so⟩, t, rfl, ht, hl, fun q hq o so => ⟨so, ?_⟩⟩
  refine ⟨⟨rfl, so⟩, t, rfl, ht, hl, fun c hc o so => ⟨so, ?_⟩⟩
  refine ⟨sz rfl, ⟨rfl, so⟩, 2, rfl, by decide, by decide, fun j j0 j1 o so => ⟨so, onO_at j0 j1 fun y hy => ?_⟩⟩
  have hy2 : ∃ wi, y = W.fz (wsD wi) ∧ isW wi := by
    rcases mem2 hy with e | e
    · exact ⟨.q q, e, hq⟩
    · exact ⟨.c c, e, hc⟩
  obtain ⟨wi, rfl, hw⟩ := hy2
  clear hq hc hy q c
  refine ⟨wi, rfl, hw, ?_⟩
  have h5 := words_five hw
  obtain ⟨v0, ev⟩ : ∃ v : Int, v = 0 - 1 := ⟨_, rfl⟩
  have t0 : ToldL (wordsW wi) v0 := by rw [ev]; exact told_ok hw
  refine onO_joinK (S := o :: R) (ys := wordsW wi) rfl ⟨told_join t0, ?_⟩
  refine ⟨wordsW wi, _, rfl, t0, fun T1 => ?_⟩
  refine ⟨trivial, ?_⟩
  refine ⟨⟨rfl, rfl⟩, ifB_ne (by rw [ev]; exact eqD_refl _) ?_⟩
  have el : ((((wordsW wi).map DL.D.str).map W.fz).length : Int) = (((wordsW wi).length : Nat) : Int) := by rw [List.length_map, List.length_map]
  have h1 : 0 < (wordsW wi).length := by unfold wordsW; exact Nat.succ_pos _
  have p40 : ∀ n : Nat, n ≤ 10 → ((n : Nat) : Int) ≤ 10 ^ 40 := fun n h => Int.le_trans (show ((n : Nat) : Int) ≤ 10 by omega) (by decide)
  refine ⟨⟨rfl, so⟩, _, rfl, by rw [el]; omega, by rw [el]; exact p40 _ (by omega), fun a a0 a1 o so => ⟨so, ?_⟩⟩
  rw [el] at a1
  obtain ⟨n, rfl⟩ : ∃ n : Nat, a = ((n : Nat) : Int) := ⟨a.toNat, by omega⟩
  have hn' : n < (wordsW wi).length := by omega
  refine ⟨wi, n, rfl, hw, hn', ?_⟩
  obtain ⟨bl1, bl6⟩ := badL_len hw hn'
  have eb : ((((badL wi n).map DL.D.str).map W.fz).length : Int) = (((badL wi n).length : Nat) : Int) := by rw [List.length_map, List.length_map]
  refine ⟨⟨rfl, so⟩, _, rfl, by rw [eb]; omega, by rw [eb]; exact p40 _ (by omega), fun j j0 j1 o so => ⟨so, onO_at j0 j1 fun z hz => ?_⟩⟩
  obtain ⟨b, hb, rfl⟩ := strs_at (ls := badL wi n) (i := j.toNat) hz
  clear hz j0 j1 j
  have ct : cutL (wordsW wi) none (some ((n : Nat) : Int)) = (wordsW wi).take n := (cut_to (wordsW wi) (Nat.le_of_lt hn')).1
  have cd : cutL (wordsW wi) (some (((n : Nat) : Int) + 1)) none = (wordsW wi).drop (n + 1) := (cut_to (wordsW wi) (n := n + 1) hn').2
  have eR : ((wordsW wi).take n).map DL.D.str ++ [DL.D.str b] ++ ((wordsW wi).drop (n + 1)).map DL.D.str = (rep (wordsW wi) n b).map DL.D.str := by unfold rep; simp
  have lt1 : ((wordsW wi).take n).length ≤ 5 := by rw [List.length_take]; omega
  have ld1 : ((wordsW wi).drop (n + 1)).length ≤ 5 := by rw [List.length_drop]; omega
  have t1 := told_one hw hn' hb
  refine onO_cutE (ds := (wordsW wi).map DL.D.str) ?_
  rw [cutL_map', ct]
  refine ⟨sz rfl, ?_⟩
  refine addW_lst (i := ((wordsW wi).take n).map DL.D.str) (j := [.str b]) (by rw [List.length_map]; exact Nat.le_trans (show _ + 1 ≤ 6 by omega) (by decide)) ?_
  refine onO_cutE (ds := (wordsW wi).map DL.D.str) ?_
  rw [cutL_map', cd]
  refine addW_lst (i := ((wordsW wi).take n).map DL.D.str ++ [.str b]) (j := ((wordsW wi).drop (n + 1)).map DL.D.str) (by simp only [List.length_append, List.length_map]; exact Nat.le_trans (show _ + 1 + _ ≤ 11 by omega) (by decide)) ?_
  rw [eR]
  refine onO_joinK (ys := rep (wordsW wi) n b) rfl ⟨told_join t1, ?_⟩
  refine ⟨_, _, rfl, t1, fun T2 => ?_⟩
  refine ⟨⟨rfl, rfl⟩, ifB_ne (eqD_refl _) ?_⟩
  refine ⟨⟨rfl, so⟩, _, rfl, by rw [el]; omega, by rw [el]; exact p40 _ (by omega), fun a a0 a1 o so => ⟨so, ?_⟩⟩
  rw [el] at a1
  obtain ⟨m, rfl⟩ : ∃ m : Nat, a = ((m : Nat) : Int) := ⟨a.toNat, by omega⟩
  have hm' : m < (wordsW wi).length := by omega
  refine ⟨wi, m, rfl, hw, hm', ?_⟩
  refine onO_cutE (ds := (wordsW wi).map DL.D.str) ?_
  rw [cutL_map', ct]
  refine ⟨sz rfl, ?_⟩
  refine addW_lst (i := ((wordsW wi).take n).map DL.D.str) (j := [.str b]) (by rw [List.length_map]; exact Nat.le_trans (show _ + 1 ≤ 6 by omega) (by decide)) ?_
  refine onO_cutE (ds := (wordsW wi).map DL.D.str) ?_
  rw [cutL_map', cd]
  refine addW_lst (i := ((wordsW wi).take n).map DL.D.str ++ [.str b]) (j := ((wordsW wi).drop (n + 1)).map DL.D.str) (by simp only [List.length_append, List.length_map]; exact Nat.le_trans (show _ + 1 + _ ≤ 11 by omega) (by decide)) ?_
  rw [eR]
  have okn : okD 64 (.str (nameW wi)) = true := ok_str (low_ok fun c hc => ((name_ok wi).1 c hc).1.1)
  have okp : okD 64 (.str "put") = true := ok_str (by decide +kernel)
  refine ⟨fun env S => ∃ (w3 w7 w8 w9 w10 w11 w12 w13 : Option W) (o : OD) (R : Sto), env = [some (W.fz (.scr ns)), some (W.hd 0), some (W.fz (tabD t)), w3, some (W.fz (.tup (.str (nameW wi) :: partsW wi))), some (W.fz (.lst ((wordsW wi).map DL.D.str))), some (W.fz (.int ((n : Nat) : Int))), w7, w8, w9, w10, w11, w12, w13] ∧ S = o :: R ∧ StOk o, ?_, ?_⟩
  · rw [wsD_eq]
    refine onO_hd0 ?_
    refine ⟨⟨okn, okp⟩, ?_⟩
    refine ifB_of (fun h => ?_) (fun h => ?_)
    rotate_left
    · exact ⟨_, _, _, _, _, _, _, _, _, _, rfl, rfl, so⟩
    refine ifB_or ?_
    refine ifB_of (fun _ => ?_) (fun _ => ?_)
    rotate_left
    · exact ⟨_, _, _, _, _, _, _, _, _, _, rfl, rfl, so⟩
    have hrl : (rep (wordsW wi) n b).length = (wordsW wi).length := rep_len hn'
    have hm2 : m < (rep (wordsW wi) n b).length := by rw [hrl]; exact hm'
    have ct2 : cutL (rep (wordsW wi) n b) none (some ((m : Nat) : Int)) = (rep (wordsW wi) n b).take m := (cut_to (rep (wordsW wi) n b) (Nat.le_of_lt hm2)).1
    have cd2 : cutL (rep (wordsW wi) n b) (some (((m : Nat) : Int) + 1)) none = (rep (wordsW wi) n b).drop (m + 1) := (cut_to (rep (wordsW wi) n b) (n := m + 1) hm2).2
    obtain ⟨bl1, bl6⟩ := badL_len hw hm'
    have eb : ((((badL wi m).map DL.D.str).map W.fz).length : Int) = (((badL wi m).length : Nat) : Int) := by rw [List.length_map, List.length_map]
    refine onO_cutE (ds := (rep (wordsW wi) n b).map DL.D.str) ?_
    rw [cutL_map', ct2]
    refine ⟨⟨rfl, so⟩, _, rfl, by rw [eb]; omega, by rw [eb]; exact p40 _ (by omega), fun j j0 j1 o so => ⟨so, onO_at j0 j1 fun z hz => ?_⟩⟩
    obtain ⟨b2, hb2, rfl⟩ := strs_at (ls := badL wi m) (i := j.toNat) hz
    clear hz j0 j1 j
    obtain ⟨x1, x2, x3⟩ := told_twice hw hn' hm' hb hb2
    have eR2 : ((rep (wordsW wi) n b).take m).map DL.D.str ++ [DL.D.str b2] ++ ((rep (wordsW wi) n b).drop (m + 1)).map DL.D.str = (rep (rep (wordsW wi) n b) m b2).map DL.D.str := by
      show _ = ((rep (wordsW wi) n b).take m ++ b2 :: (rep (wordsW wi) n b).drop (m + 1)).map DL.D.str
      simp
    have hrr : (rep (rep (wordsW wi) n b) m b2).length = (wordsW wi).length := by rw [rep_len hm2, hrl]
    generalize rep (rep (wordsW wi) n b) m b2 = tw at x1 x2 x3 eR2 hrr
    generalize rep (wordsW wi) n b = on_ at ct2 cd2 hm2 hrl eR2 ⊢
    refine ⟨sz rfl, ?_⟩
    refine addW_lst (i := (on_.take m).map DL.D.str) (j := [.str b2]) (by rw [List.length_map, List.length_take]; exact Nat.le_trans (show _ + 1 ≤ 20 by omega) (by decide)) ?_
    refine onO_cutE (ds := on_.map DL.D.str) ?_
    rw [cutL_map', cd2]
    refine addW_lst (i := (on_.take m).map DL.D.str ++ [.str b2]) (j := (on_.drop (m + 1)).map DL.D.str) (by simp only [List.length_append, List.length_map, List.length_take, List.length_drop, List.length_singleton]; exact Nat.le_trans (show _ + 1 + _ ≤ 20 by omega) (by decide)) ?_
    rw [eR2]
    have eM : (if ((m : Nat) : Int) > ((n : Nat) : Int) then ((m : Nat) : Int) else ((n : Nat) : Int)) + 1 = ((max n m + 1 : Nat) : Int) := by split <;> omega
    have eN : (if ((m : Nat) : Int) < ((n : Nat) : Int) then ((m : Nat) : Int) else ((n : Nat) : Int)) = ((min n m : Nat) : Int) := by split <;> omega
    have ct3 : cutL tw none (some ((max n m + 1 : Nat) : Int)) = tw.take (max n m + 1) := (cut_to tw (by rw [hrr]; omega)).1
    refine onO_cutE (ds := tw.map DL.D.str) ?_
    rw [cutL_map', eM, ct3]
    refine ⟨sz rfl, ?_⟩
    refine addW_lst (i := tw.map DL.D.str) (j := [.str "1"]) (by rw [List.length_map, hrr]; exact Nat.le_trans (show _ + 1 ≤ 6 by omega) (by decide)) ?_
    refine ⟨sz rfl, ⟨rfl, so⟩, 3, rfl, by decide, by decide, fun j j0 j1 o so => ⟨so, onO_at j0 j1 fun z hz => ?_⟩⟩
    have hz2 : ∃ l : List Str, z = W.fz (.lst (l.map DL.D.str)) ∧ ToldL l ((min n m : Nat) : Int) := by
      rcases mem3 hz with e | e | e
      · exact ⟨tw, e, x1⟩
      · exact ⟨_, e, x2⟩
      · exact ⟨tw ++ (["1"] : List Str), e.trans (by simp), x3⟩
    obtain ⟨l, rfl, hl2⟩ := hz2
    refine onO_joinK (S := o :: (R ++ T1 ++ T2)) (ys := l) rfl ⟨told_join hl2, ?_⟩
    refine ⟨l, _, rfl, hl2, fun T3 => ?_⟩
    refine ⟨⟨rfl, rfl⟩, ifB_ne (by rw [eN]; exact eqD_refl _) ?_⟩
    exact ⟨_, _, _, _, _, _, _, _, _, _, rfl, rfl, so⟩
  clear so o
  rintro env S ⟨w3, w7, w8, w9, w10, w11, w12, w13, o, R, rfl, rfl, so⟩
  refine ⟨fun env S => ∃ (w3 w7 w8 w9 w10 w11 w12 w13 : Option W) (o : OD) (R : Sto), env = [some (W.fz (.scr ns)), some (W.hd 0), some (W.fz (tabD t)), w3, some (W.fz (.tup (.str (nameW wi) :: partsW wi))), some (W.fz (.lst ((wordsW wi).map DL.D.str))), some (W.fz (.int ((n : Nat) : Int))), w7, w8, w9, w10, w11, w12, w13] ∧ S = o :: R ∧ StOk o, ?_, ?_⟩
  · refine onO_hd0 ?_
    refine ⟨⟨okn, okp⟩, ?_⟩
    refine ifB_or ?_
    refine ifB_of (fun h => ?_) (fun _ => ?_)
    rotate_left
    · exact ⟨_, _, _, _, _, _, _, _, _, _, rfl, rfl, so⟩
    have h : (!eqD (.str (nameW wi)) (.str "put") || decide (((n : Nat) : Int) < 3)) = true := h
    rw [eqD_str] at h
    have hp : nameW wi ≠ "put" ∨ n < 3 := by
      rw [Bool.or_eq_true, Bool.not_eq_true', decide_eq_false_iff_not, decide_eq_true_eq] at h
      exact h.imp id fun z => by omega
    have t2 := told_cut hw hn' hp
    refine onO_cutE (ds := (wordsW wi).map DL.D.str) ?_
    rw [cutL_map', ct]
    refine onO_joinK (S := o :: R) (ys := (wordsW wi).take n) rfl ⟨told_join t2, ?_⟩
    refine ⟨_, _, rfl, t2, fun T3 => ?_⟩
    refine ⟨⟨rfl, rfl⟩, ifB_ne (eqD_refl _) ?_⟩
    exact ⟨_, _, _, _, _, _, _, _, _, _, rfl, rfl, so⟩
  clear so o
  rintro env S ⟨w3, w7, w8, w9, w10, w11, w12, w13, o, R, rfl, rfl, so⟩
  refine ⟨sz rfl, ?_⟩
  refine addW_lst (i := (wordsW wi).map DL.D.str) (j := [.str "1"]) (by rw [List.length_map]; exact Nat.le_trans (show _ + 1 ≤ 6 by omega) (by decide)) ?_
  refine ⟨fun env S => ∃ (w3 w7 w8 w9 w10 w11 : Option W) (more : List Str) (due : Int) (o : OD) (R : Sto), env = [some (W.fz (.scr ns)), some (W.hd 0), some (W.fz (tabD t)), w3, some (W.fz (.tup (.str (nameW wi) :: partsW wi))), some (W.fz (.lst ((wordsW wi).map DL.D.str))), some (W.fz (.int ((n : Nat) : Int))), w7, w8, w9, w10, w11, some (W.fz (.lst (more.map DL.D.str))), some (W.fz (.int due))] ∧ S = o :: R ∧ StOk o ∧ ToldL more due, ?_, ?_⟩
  · refine onO_hd0 ?_
    refine ⟨⟨okn, okp⟩, ?_⟩
    refine ifB_of (fun h => ?_) (fun h => ?_)
    · have h : eqD (.str (nameW wi)) (.str "put") = true := h
      rw [eqD_str, decide_eq_true_eq] at h
      obtain ⟨k, r, ewi⟩ := put_name h
      have hkey : isKey k := by rw [ewi] at hw; exact hw.1
      have c2 : cutL (wordsW wi) none (some 2) = (["put", k] : List Str) := by rw [ewi]; exact (cut_to (wordsW (.c (.put k r))) (n := 2) (Nat.succ_le_succ (Nat.succ_le_succ (Nat.zero_le _)))).1
      refine onO_cutE (ds := (wordsW wi).map DL.D.str) ?_
      rw [cutL_map', c2]
      refine ⟨sz rfl, ?_⟩
      refine addW_lst (i := (["put", k] : List Str).map DL.D.str) (j := (["1", "2", "3", "4"] : List Str).map DL.D.str) (by show 2 + 4 ≤ sizeLine; decide) ?_
      exact ⟨_, _, _, _, _, _, (["put", k] : List Str) ++ (["1", "2", "3", "4"] : List Str), 5, _, _, rfl, rfl, so, told_put hkey⟩
    · have h : eqD (.str (nameW wi)) (.str "put") = false := h
      rw [eqD_str, decide_eq_false_iff_not] at h
      exact ⟨_, _, _, _, _, _, wordsW wi ++ (["1"] : List Str), _, _, _, by rw [List.map_append]; rfl, rfl, so, by rw [el]; exact told_more hw h⟩
  clear so o
  rintro env S ⟨w3, w7, w8, w9, w10, w11, more, due, o, R, rfl, rfl, so, t4⟩
  refine onO_joinK (S := o :: R) (ys := more) rfl ⟨told_join t4, ?_⟩
  refine ⟨_, _, rfl, t4, fun T4 => ?_⟩
  refine ⟨⟨rfl, rfl⟩, ifB_ne (eqD_refl _) ?_⟩
  exact hN _ _ ⟨_, _, _, _, _, _, _, _, _, _, _, _, _, rfl, rfl, so⟩
end
theorem all_mk {l : PySem.W.OpenLaw} {w : World} {K : PySem.W.Frag} {h : Heap} {mg : Str → Option Value} {fa : Addr} (X : K.In h) (G : h.Ns mainGlobals mg) (hfa : mg "law" = some (.ref fa))
    (d_is_key : DfIn K "is_key" s_is_key) (d_number_of : DfIn K "number_of" s_number_of) (d_row_of : DfIn K "row_of" s_row_of) (d_bound_of : DfIn K "bound_of" s_bound_of) (d_operand : DfIn K "operand" s_operand) (d_InvalidWord : ReIn l.prog K "InvalidWord" "InvalidWord.__init__" s_InvalidWord ["number"]) (d_parse_put : DfIn K "parse_put" s_parse_put) (d_parse_wish : DfIn K "parse_wish" s_parse_wish) (d_SHAPES : KdIn K w "SHAPES" shapesT) (d_l_draw : DfIn K "_law_draw" s_l_draw) (d_l_key : DfIn K "_law_key" s_l_key) (d_l_row : DfIn K "_law_row" s_l_row) (d_l_table : DfIn K "_law_table" s_l_table) (d_l_bound : DfIn K "_law_bound" s_l_bound) (d_l_some_key : DfIn K "_law_some_key" s_l_some_key) (d_l_query : DfIn K "_law_query" s_l_query) (d_l_change : DfIn K "_law_change" s_l_change) (d_l_written : DfIn K "_law_written" s_l_written) (d_l_told : DfIn K "_law_told" s_l_told) (d_xc_InvalidWord : XcIn K "InvalidWord") (d_ia_InvalidWord_RightrowsError : IaIn K "InvalidWord" "RightrowsError" true) (d_iv_InvalidWord : IvIn K "InvalidWord") (d_ia_InvalidWord_InvalidLine : IaIn K "InvalidWord" "InvalidLine" false) (d_l_bad : DfIn K "_law_bad" s_l_bad) (d_LETTERS : CIS K "LETTERS" "abcdefghijklmnopqrstuvwxyz0123456789") (d_MOST_NUMBER : CIn K "MOST_NUMBER" 65535) (d_COLUMNS : CIn K "COLUMNS" 3) (d_MOST_COUNT : CIn K "MOST_COUNT" 100) (d_law : DfIn K "law" s_law) (b : BiIn K) :
    ∃ fd : FuncData, (∀ (s : Shared) (u : Value), BindsTo s fd ⟨[u], []⟩ [("_law_script", u)]) ∧ ∀ (base : Heap) (T : Addr → Prop), K.In base → base.Ns mainGlobals mg → (∀ x ∈ (["is_key", "number_of", "bound_of"] : List Str), Gn K T mg base x) → FnOk l.prog w K mg base CX0 7 fa fd ["_law_script"] (spD K T (psp spLaw)) := by
  have bi := b.bi X G
  refine law_of X G hfa d_law (fun _ _ _ _ _ _ _ => rfl) fun f fd F base T gn => ?_
  obtain ⟨C_InvalidWord, m_InvalidWord⟩ := d_InvalidWord.df X G
  have p_is_key := ok_is_key (P := l.prog) (w := w) (K := K) (T := T) (mg := mg) (base := base) (d_is_key.df X G) (gn _ (by decide)) bi (d_LETTERS.mg X G)
  have p_number_of := ok_number_of (P := l.prog) (w := w) (K := K) (T := T) (mg := mg) (base := base) (d_number_of.df X G) (gn _ (by decide)) bi
  have p_row_of := ok_row_of (P := l.prog) (w := w) (K := K) (T := T) (mg := mg) (base := base) (d_row_of.df X G) bi (CalD.mono p_number_of (by decide)) (d_MOST_NUMBER.mg X G) (d_COLUMNS.mg X G)
  have p_bound_of := ok_bound_of (P := l.prog) (w := w) (K := K) (T := T) (mg := mg) (base := base) (d_bound_of.df X G) (gn _ (by decide)) bi (d_LETTERS.mg X G)
  have p_operand := ok_operand (P := l.prog) (w := w) (K := K) (T := T) (mg := mg) (base := base) (d_operand.df X G) bi (CalD.mono p_is_key (by decide)) (CalD.mono p_number_of (by decide)) (CalD.mono p_bound_of (by decide)) (d_MOST_COUNT.mg X G) (d_COLUMNS.mg X G)
  have p_InvalidWord := ok_InvalidWord (P := l.prog) (w := w) (K := K) (mg := mg) (base := base) m_InvalidWord
  have p_parse_put := ok_parse_put (P := l.prog) (w := w) (K := K) (T := T) (mg := mg) (base := base) (d_parse_put.df X G) bi (CalD.mono p_is_key (by decide)) (CalD.mono p_number_of (by decide)) (CalD.mono p_row_of (by decide)) (d_MOST_NUMBER.mg X G) (d_COLUMNS.mg X G) p_InvalidWord
  have p_parse_wish := ok_parse_wish (P := l.prog) (w := w) (K := K) (T := T) (mg := mg) (base := base) (d_parse_wish.df X G) bi (CalD.mono p_operand (by decide)) (CalX.mono p_parse_put (by decide)) (d_SHAPES.df X G) p_InvalidWord
  have p_l_draw := ok_l_draw (P := l.prog) (w := w) (K := K) (T := T) (mg := mg) (base := base) (d_l_draw.df X G) bi
  have p_l_key := ok_l_key (P := l.prog) (w := w) (K := K) (T := T) (mg := mg) (base := base) (d_l_key.df X G) bi (CalD.mono p_l_draw (by decide))
  have p_l_row := ok_l_row (P := l.prog) (w := w) (K := K) (T := T) (mg := mg) (base := base) (d_l_row.df X G) bi (CalD.mono p_l_draw (by decide))
  have p_l_table := ok_l_table (P := l.prog) (w := w) (K := K) (T := T) (mg := mg) (base := base) (d_l_table.df X G) bi (CalD.mono p_l_draw (by decide)) (CalD.mono p_l_key (by decide)) (CalD.mono p_l_row (by decide))
  have p_l_bound := ok_l_bound (P := l.prog) (w := w) (K := K) (T := T) (mg := mg) (base := base) (d_l_bound.df X G) bi (CalD.mono p_l_draw (by decide)) (CalD.mono p_l_key (by decide))
  have p_l_some_key := ok_l_some_key (P := l.prog) (w := w) (K := K) (T := T) (mg := mg) (base := base) (d_l_some_key.df X G) bi (CalD.mono p_l_draw (by decide)) (CalD.mono p_l_key (by decide))
  have p_l_query := ok_l_query (P := l.prog) (w := w) (K := K) (T := T) (mg := mg) (base := base) (d_l_query.df X G) bi (CalD.mono p_l_draw (by decide)) (CalD.mono p_l_some_key (by decide)) (CalD.mono p_l_bound (by decide))
  have p_l_change := ok_l_change (P := l.prog) (w := w) (K := K) (T := T) (mg := mg) (base := base) (d_l_change.df X G) bi (CalD.mono p_l_draw (by decide)) (CalD.mono p_l_some_key (by decide)) (CalD.mono p_l_row (by decide))
  have p_l_written := ok_l_written (P := l.prog) (w := w) (K := K) (T := T) (mg := mg) (base := base) (d_l_written.df X G) bi
  have p_l_told := ok_l_told (P := l.prog) (w := w) (K := K) (T := T) (mg := mg) (base := base) (d_l_told.df X G) bi (CalX.mono p_parse_wish (by decide)) p_InvalidWord (d_xc_InvalidWord.df X G m_InvalidWord.mgC) m_InvalidWord.cat (d_ia_InvalidWord_RightrowsError.df X G m_InvalidWord.mgC) (d_iv_InvalidWord.df X G m_InvalidWord.mgC) (d_ia_InvalidWord_InvalidLine.df X G m_InvalidWord.mgC)
  have p_l_bad := ok_l_bad (P := l.prog) (w := w) (K := K) (T := T) (mg := mg) (base := base) (d_l_bad.df X G) bi
  exact ok_law F bi (CalD.mono p_l_draw (by decide)) (CalD.mono p_l_table (by decide)) (CalD.mono p_l_query (by decide)) (CalD.mono p_l_change (by decide)) (CalD.mono p_l_written (by decide)) (CalD.mono p_l_bad (by decide)) (CalX.mono p_l_told (by decide))
end DL
open PySem PySem.W PyProof.Rows in
set_option maxRecDepth 100000 in
set_option maxHeartbeats 0 in
theorem PySem.Challenge.cw_rightrows_k34_written_wishes_refused_holds : PySem.Challenge.rw_rightrows_k34_written_wishes_refused.Holds := by
  w_on; o_law; k_head; (case hw => w_witness2)
  k_fill
  refine DL.walk_G (l := PySem.Challenge.rw_rightrows_k34_written_wishes_refused) (k := 7) (x := "_law_script") ["is_key", "number_of", "bound_of"] rfl rfl ⟨rfl, by decide, by decide⟩ (by decide +kernel) (fun w h Y => PySem.W.kIn_of Y) (fun w => by kernel_rfl) ?F
  case F =>
    intro w mg fa h KX G hmg
    refine' DL.all_mk KX G hmg ?d0 ?d1 ?d2 ?d3 ?d4 ?d5 ?d6 ?d7 ?d8 ?d9 ?d10 ?d11 ?d12 ?d13 ?d14 ?d15 ?d16 ?d17 ?d18 ?d19 ?d20 ?d21 ?d22 ?d23 ?d24 ?d25 ?d26 ?d27 ?d28 ?bi
    (case d0 => refine' DL.dfin ?a ?l ?c ?k; (case a => k_is); (case l => k_is); (case c => k_is); (case k => k_is))
    (case d1 => refine' DL.dfin ?a ?l ?c ?k; (case a => k_is); (case l => k_is); (case c => k_is); (case k => k_is))
    (case d2 => refine' DL.dfin ?a ?l ?c ?k; (case a => k_is); (case l => k_is); (case c => k_is); (case k => k_is))
    (case d3 => refine' DL.dfin ?a ?l ?c ?k; (case a => k_is); (case l => k_is); (case c => k_is); (case k => k_is))
    (case d4 => refine' DL.dfin ?a ?l ?c ?k; (case a => k_is); (case l => k_is); (case c => k_is); (case k => k_is))
    (case d5 => refine' DL.reI ?a ?lkC ?rf ?sa ?exC ?tyC ?kC ?iC ?tI ?ga ?gg ?hdC ?sC ?no ?lk ?hcd ?hcode ?hvs ?hfile ?hcell ?hD ?hsub ?htop ?hany ?hnx ?sb ?ns; (case a => k_is); (case lkC => k_is); (case sa => k_is); (case exC => k_is); (case tyC => k_is); (case kC => k_is); (case iC => k_is); (case tI => k_is); (case ga => k_is); (case gg => k_is); (case hdC => k_is); (case sC => k_is); (case lk => k_is); (case hcd => k_is); (case hcode => k_is); (case hcell => k_is); (case hD => k_is); (case hsub => k_is); (case hany => k_is); (case hnx => ks_is); (case sb => k_is); (case ns => k_is); (case rf => decide +kernel); (case hvs => rfl); (case hfile => first | rfl | decide +kernel); (case htop => decide +kernel); (case no => refine' DL.no_cons ?n5_0 (DL.no_nil) <;> k_is))
    (case d6 => refine' DL.dfin ?a ?l ?c ?k; (case a => k_is); (case l => k_is); (case c => k_is); (case k => k_is))
    (case d7 => refine' DL.dfin ?a ?l ?c ?k; (case a => k_is); (case l => k_is); (case c => k_is); (case k => k_is))
    (case d8 => refine' DL.kdI ["get", "range", "next", "count", "sum", "place", "at", "put", "remove"] ?a ?es ?hd; (case a => k_is); (case es => refine' DL.kd_some ?n8_0 (DL.kd_some ?n8_1 (DL.kd_some ?n8_2 (DL.kd_some ?n8_3 (DL.kd_some ?n8_4 (DL.kd_some ?n8_5 (DL.kd_some ?n8_6 (DL.kd_some ?n8_7 (DL.kd_some ?n8_8 (DL.kd_none ?n8_9 (DL.kd_none ?n8_10 (DL.kd_none ?n8_11 (DL.kd_none ?n8_12 (DL.kd_none ?n8_13 (DL.kd_nil)))))))))))))); (case n8_0 => k_is); (case n8_1 => k_is); (case n8_2 => k_is); (case n8_3 => k_is); (case n8_4 => k_is); (case n8_5 => k_is); (case n8_6 => k_is); (case n8_7 => k_is); (case n8_8 => k_is); (case n8_9 => k_is); (case n8_10 => k_is); (case n8_11 => k_is); (case n8_12 => k_is); (case n8_13 => k_is)); (case hd => kernel_rfl))
    (case d9 => refine' DL.dfin ?a ?l ?c ?k; (case a => k_is); (case l => k_is); (case c => k_is); (case k => k_is))
    (case d10 => refine' DL.dfin ?a ?l ?c ?k; (case a => k_is); (case l => k_is); (case c => k_is); (case k => k_is))
    (case d11 => refine' DL.dfin ?a ?l ?c ?k; (case a => k_is); (case l => k_is); (case c => k_is); (case k => k_is))
    (case d12 => refine' DL.dfin ?a ?l ?c ?k; (case a => k_is); (case l => k_is); (case c => k_is); (case k => k_is))
    (case d13 => refine' DL.dfin ?a ?l ?c ?k; (case a => k_is); (case l => k_is); (case c => k_is); (case k => k_is))
    (case d14 => refine' DL.dfin ?a ?l ?c ?k; (case a => k_is); (case l => k_is); (case c => k_is); (case k => k_is))
    (case d15 => refine' DL.dfin ?a ?l ?c ?k; (case a => k_is); (case l => k_is); (case c => k_is); (case k => k_is))
    (case d16 => refine' DL.dfin ?a ?l ?c ?k; (case a => k_is); (case l => k_is); (case c => k_is); (case k => k_is))
    (case d17 => refine' DL.dfin ?a ?l ?c ?k; (case a => k_is); (case l => k_is); (case c => k_is); (case k => k_is))
    (case d18 => refine' DL.dfin ?a ?l ?c ?k; (case a => k_is); (case l => k_is); (case c => k_is); (case k => k_is))
    (case d19 => refine' DL.xcI ?a ?hD ?ga ?gg ?exC ?hdC ?ha ?hn ?ht ?hm ?tyC ?sC; (case a => k_is); (case hD => k_is); (case ga => k_is); (case gg => k_is); (case exC => k_is); (case hdC => k_is); (case ha => k_is); (case hn => k_is); (case ht => k_is); (case hm => k_is); (case tyC => k_is); (case sC => k_is))
    (case d20 => refine' DL.iaT ?a ?c ?hD ?tyA ?s; (case a => k_is); (case c => k_is); (case hD => k_is); (case tyA => k_is); (case s => k_is))
    (case d21 => refine' DL.ivI ?a ?c ?s; (case a => k_is); (case c => k_is); (case s => k_is))
    (case d22 => refine' DL.iaF ?a ?c ?hD ?tyA ?s ?ne; (case a => k_is); (case c => k_is); (case hD => k_is); (case tyA => k_is); (case s => k_is); (case ne => rfl))
    (case d23 => refine' DL.dfin ?a ?l ?c ?k; (case a => k_is); (case l => k_is); (case c => k_is); (case k => k_is))
    (case d24 => refine' DL.cis ?h; (case h => k_is))
    (case d25 => refine' DL.cin ?h; (case h => k_is))
    (case d26 => refine' DL.cin ?h; (case h => k_is))
    (case d27 => refine' DL.cin ?h; (case h => k_is))
    (case d28 => refine' DL.dfin ?a ?l ?c ?k; (case a => k_is); (case l => k_is); (case c => k_is); (case k => k_is))
    (case bi => refine' ⟨?b0, ?b1, ?b2, ?b3, ?b4, ?b5, ?b6, ?b7, ?b8, ?b9, ?b10, ?b11, ?b12, ?b13, ?b14, ?b15, ?b16, ?b17, ?b18, ?b19⟩ <;> k_is)
#print axioms PySem.Challenge.cw_rightrows_k34_written_wishes_refused_holds
