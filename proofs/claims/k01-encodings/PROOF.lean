import PyProof.Rows.All
import Wide.All
import OpenK.AllK
import Wide.FinOn
import HandS.ForMost
import HandS.AnyAll
import HandS.Exc
import HandS.TryOnly
import HandS.WordsExc
import HandS.Wide
import HandS.WideMore
import HandS.Style
import HandS.TupAny
import HandS.IsInst
import HandS.TupLe
import HandS.Codes
import HandS.Zip
import HandS.Rev
import HandS.EndTab
import HandS.More
import HandS.SortOrd
import HandS.Keys
import KE.GoesZip
import KE.GoesMore
import HandS.GenList
import HandS.Text
import HandS.List
import KE.SortData
import PyProof.SumAny
import HandS.Set
import HandS.TupSets
import HandS.Strs
import HandS.ExcOwn
import KE.KSuper
import HandS.ExcInit
import HandS.FStr
import KE.KExcSuper
import HandS.ExcField
import HandS.ExcIs
import KE.KExcIs
import PyProof.JoinWalk
import HandS.JoinGen
import HandS.HeadHook3
import HandS.Spec
import PyProof.ReprRoads
import PySem.Challenge.RW_rightrows_k01_encodings
set_option Elab.async false
set_option linter.all false
set_option maxRecDepth 100000
set_option autoImplicit false
namespace DL
open PySem PySem.Spec PyProof.Rows L2

inductive Ty where
  | non | bool | int | str | tuple | list | dict
def Ty.name : Ty → String
  | .non => "NoneType"
  | .bool => "bool"
  | .int => "int"
  | .str => "str"
  | .tuple => "tuple"
  | .list => "list"
  | .dict => "dict"
inductive D where
  | non | bl (b : Bool) | int (i : Int) | str (x : Str) | tup (ds : List D) | lst (ds : List D) | obj (C : Addr) (fs : List (Str × D)) | scr (ns : List Int) | ty (n : Ty)
inductive W where
  | fz (d : D) | hd (n : Nat) | tp (ws : List W) | xo (a d : Addr) (fs : List (Str × D))
inductive OD where
  | lst (ws : List W) | dic (kvs : List (Key × W)) | ins (C : Addr) (fs : List (Str × W)) | gone

abbrev En := List (Option W)
abbrev Sto := List OD

mutual
inductive Rp (K : PySem.W.Frag) (B : Hp) : D → V → Prop
  | non : Rp K B .non .non
  | bl {b : Bool} : Rp K B (.bl b) (.bl b)
  | int {i : Int} : Rp K B (.int i) (.int i)
  | str {x : Str} : Rp K B (.str x) (.str x)
  | tup {a : Addr} {vs : List V} {ds : List D} : SqT K B a vs → RpL K B ds vs → Rp K B (.tup ds) (.ref a)
  | lst {a : Addr} {vs : List V} {ds : List D} : B a = some (.lst vs) → RpL K B ds vs → Rp K B (.lst ds) (.ref a)
  | scr {a : Addr} {ns : List Int} : SqL K B a (ns.map V.int) → Rp K B (.scr ns) (.ref a)
  | ty {n : Ty} : Rp K B (.ty n) (.ty n.name)
  | obj {a C dx : Addr} {fvs : List (Str × V)} {fs : List (Str × D)} : B a = some (.ins C dx fvs) → RpF K B fs fvs → Rp K B (.obj C fs) (.ref a)
inductive RpL (K : PySem.W.Frag) (B : Hp) : List D → List V → Prop
  | nil : RpL K B [] []
  | cons {d : D} {v : V} {ds : List D} {vs : List V} : Rp K B d v → RpL K B ds vs → RpL K B (d :: ds) (v :: vs)
inductive RpF (K : PySem.W.Frag) (B : Hp) : List (Str × D) → List (Str × V) → Prop
  | nil : RpF K B [] []
  | cons {f : Str} {d : D} {v : V} {ds : List (Str × D)} {vs : List (Str × V)} : Rp K B d v → RpF K B ds vs → RpF K B ((f, d) :: ds) ((f, v) :: vs)
end
def exw (a C d : Addr) : HO := .ext fun h => ∃ (oe : Obj) (vs : Array Value), h.get? a = some oe ∧ oe.cls = .ref C ∧ oe.dict = some d ∧ oe.data = .fields vs
mutual
inductive RW (K : PySem.W.Frag) (B : Hp) (m : List Addr) : W → V → Prop
  | fz {d : D} {v : V} : Rp K B d v → RW K B m (.fz d) v
  | hd {n : Nat} {a : Addr} : m[n]? = some a → RW K B m (.hd n) (.ref a)
  | tp {a : Addr} {vs : List V} {ws : List W} : SqT K B a vs → RWL K B m ws vs → RW K B m (.tp ws) (.ref a)
  | xo {a C u d : Addr} {fs : List (Str × D)} {fvs : List (Str × V)} : B a = some (exw a C d) → B d = some (.xd fvs) → RpF K B fs fvs → RW K B m (.xo C u fs) (.ref a)
inductive RWL (K : PySem.W.Frag) (B : Hp) (m : List Addr) : List W → List V → Prop
  | nil : RWL K B m [] []
  | cons {w : W} {v : V} {ws : List W} {vs : List V} : RW K B m w v → RWL K B m ws vs → RWL K B m (w :: ws) (v :: vs)
end

def Sub (B B' : Hp) : Prop := ∀ (a : Addr) (o : HO), B a = some o → B' a = some o
theorem Sub.refl {B : Hp} : Sub B B := fun _ _ h => h
theorem Sub.trans {A B C : Hp} (h : Sub A B) (g : Sub B C) : Sub A C := fun a o e => g a o (h a o e)
theorem Sub.rd {B B' : Hp} (h : Sub B B') {a : Addr} {u : HO} (r : Rd B a u) : Rd B' a u := by
  rcases r with r | ⟨o, r⟩
  · exact .inl (h _ _ r)
  · exact .inr ⟨o, h _ _ r⟩
theorem Sub.seqL {K : PySem.W.Frag} {B B' : Hp} (h : Sub B B') {a : Addr} {xs : List V} (r : SqL K B a xs) : SqL K B' a xs := by
  rcases r with r | r
  · exact .inl (h.rd r)
  · exact .inr r
theorem Sub.seqT {K : PySem.W.Frag} {B B' : Hp} (h : Sub B B') {a : Addr} {xs : List V} (r : SqT K B a xs) : SqT K B' a xs := by
  rcases r with r | r
  · exact .inl (h.rd r)
  · exact .inr r

section
variable {K : PySem.W.Frag} {B B' : Hp} {m m' : List Addr}
mutual
theorem Rp.mono (h : Sub B B') : ∀ {d : D} {v : V}, Rp K B d v → Rp K B' d v
  | _, _, .non => .non
  | _, _, .bl => .bl
  | _, _, .int => .int
  | _, _, .str => .str
  | _, _, .tup s r => .tup (h.seqT s) (RpL.mono h r)
  | _, _, .lst s r => .lst (h _ _ s) (RpL.mono h r)
  | _, _, .scr s => .scr (h.seqL s)
  | _, _, .ty => .ty
  | _, _, .obj s r => .obj (h _ _ s) (RpF.mono h r)
theorem RpL.mono (h : Sub B B') : ∀ {ds : List D} {vs : List V}, RpL K B ds vs → RpL K B' ds vs
  | _, _, .nil => .nil
  | _, _, .cons r t => .cons (Rp.mono h r) (RpL.mono h t)
theorem RpF.mono (h : Sub B B') : ∀ {ds : List (Str × D)} {vs : List (Str × V)}, RpF K B ds vs → RpF K B' ds vs
  | _, _, .nil => .nil
  | _, _, .cons r t => .cons (Rp.mono h r) (RpF.mono h t)
end
def Pre (m m' : List Addr) : Prop := ∀ (n : Nat) (a : Addr), m[n]? = some a → m'[n]? = some a
theorem Pre.refl : Pre m m := fun _ _ h => h
theorem Pre.trans {a b c : List Addr} (h : Pre a b) (g : Pre b c) : Pre a c := fun n x e => g n x (h n x e)
theorem Pre.app {xs : List Addr} : Pre m (m ++ xs) := fun n a e => by
  rw [List.getElem?_append_left (List.getElem?_eq_some_iff.mp e).1]
  exact e
mutual
theorem RW.mono (h : Sub B B') (p : Pre m m') : ∀ {w : W} {v : V}, RW K B m w v → RW K B' m' w v
  | _, _, .fz r => .fz (r.mono h)
  | _, _, .hd e => .hd (p _ _ e)
  | _, _, .tp s r => .tp (h.seqT s) (RWL.mono h p r)
  | _, _, .xo e0 e r => .xo (h _ _ e0) (h _ _ e) (r.mono h)
theorem RWL.mono (h : Sub B B') (p : Pre m m') : ∀ {ws : List W} {vs : List V}, RWL K B m ws vs → RWL K B' m' ws vs
  | _, _, .nil => .nil
  | _, _, .cons r t => .cons (RW.mono h p r) (RWL.mono h p t)
end
theorem RWL.length : ∀ {ws : List W} {vs : List V}, RWL K B m ws vs → ws.length = vs.length
  | _, _, .nil => rfl
  | _, _, .cons _ t => congrArg (· + 1) (RWL.length t)
theorem RWL.get : ∀ {ws : List W} {vs : List V} {i : Nat} {w : W}, RWL K B m ws vs → ws[i]? = some w → ∃ v, vs[i]? = some v ∧ RW K B m w v
  | _, _, _, _, .nil, e => by simp at e
  | _, _, 0, _, .cons r _, e => by simp at e; subst e; exact ⟨_, rfl, r⟩
  | _, _, i + 1, _, .cons _ t, e => by
    obtain ⟨v, h1, h2⟩ := RWL.get (i := i) t (by simpa using e)
    exact ⟨v, by simpa using h1, h2⟩
theorem RWL.set : ∀ {ws : List W} {vs : List V} {i : Nat} {w : W} {v : V}, RWL K B m ws vs → RW K B m w v → RWL K B m (ws.set i w) (vs.set i v)
  | _, _, _, _, _, .nil, _ => .nil
  | _, _, 0, _, _, .cons _ t, q => .cons q t
  | _, _, i + 1, _, _, .cons r t, q => .cons r (RWL.set t q)
theorem RWL.append : ∀ {ws ws' : List W} {vs vs' : List V}, RWL K B m ws vs → RWL K B m ws' vs' → RWL K B m (ws ++ ws') (vs ++ vs')
  | _, _, _, _, .nil, q => q
  | _, _, _, _, .cons r t, q => .cons r (RWL.append t q)
theorem RWL.take : ∀ {ws : List W} {vs : List V} (n : Nat), RWL K B m ws vs → RWL K B m (ws.take n) (vs.take n)
  | _, _, 0, _ => by simp; exact .nil
  | _, _, n + 1, .nil => .nil
  | _, _, n + 1, .cons r t => .cons r (RWL.take n t)
theorem RWL.drop : ∀ {ws : List W} {vs : List V} (n : Nat), RWL K B m ws vs → RWL K B m (ws.drop n) (vs.drop n)
  | _, _, 0, r => r
  | _, _, n + 1, .nil => .nil
  | _, _, n + 1, .cons r t => RWL.drop n t
theorem RpL.fz : ∀ {ds : List D} {vs : List V}, RpL K B ds vs → RWL K B m (ds.map W.fz) vs
  | _, _, .nil => .nil
  | _, _, .cons r t => .cons (.fz r) (RpL.fz t)
theorem RWL.fz : ∀ {ds : List D} {vs : List V}, RWL K B m (ds.map W.fz) vs → RpL K B ds vs
  | [], _, .nil => .nil
  | _ :: _, _, .cons r t => by
    cases r with
    | fz r => exact .cons r (RWL.fz t)
theorem RpL.get {ds : List D} {vs : List V} {i : Nat} {d : D} (r : RpL K B ds vs) (e : ds[i]? = some d) : ∃ v, vs[i]? = some v ∧ Rp K B d v := by
  obtain ⟨v, h1, h2⟩ := (r.fz (m := [])).get (i := i) (w := .fz d) (by rw [List.getElem?_map, e]; rfl)
  cases h2 with
  | fz h2 => exact ⟨v, h1, h2⟩
theorem RpL.length {ds : List D} {vs : List V} (r : RpL K B ds vs) : ds.length = vs.length := by
  have := (r.fz (m := [])).length
  simpa using this
end

structure Fx where
  B : Hp
  H : Hp
  L : List Addr
  /-- the tables of code objects -/
  T : Addr → Prop
def FF (K : PySem.W.Frag) (B : Hp) (m : List Addr) (fs : List (Str × W)) (fvs : List (Str × V)) : Prop := Paired (fun (p : Str × W) (q : Str × V) => p.1 = q.1 ∧ RW K B m p.2 q.2) fs fvs
def FK (K : PySem.W.Frag) (B : Hp) (m : List Addr) (fs : List (Key × W)) (fvs : List (Key × V)) : Prop := Paired (fun (p : Key × W) (q : Key × V) => p.1 = q.1 ∧ RW K B m p.2 q.2) fs fvs
def RO (K : PySem.W.Frag) (B : Hp) (m : List Addr) : OD → HO → Prop
  | .lst ws, o => ∃ vs, o = .lst vs ∧ RWL K B m ws vs
  | .dic kvs, o => ∃ vs, o = .dK vs ∧ FK K B m kvs vs
  | .ins C fs, o => ∃ dx vs, o = .ins C dx vs ∧ FF K B m fs vs
  | .gone, _ => True
structure Cf (K : PySem.W.Frag) (F : Fx) (B : Hp) (m : List Addr) (S : Sto) (H : Hp) : Prop where
  b0 : Sub F.B B
  sub : Sub B H
  bnew : ∀ (a : Addr) (o : HO), B a = some o → F.B a = some o ∨ F.H a = none
  fr : ∀ (a : Addr) (o : HO), F.H a = some o → a ∉ F.L → ¬ F.T a → H a = some o
  dom : ∀ a : Addr, H a = none → F.H a = none
  len : m.length = S.length
  pre : ∀ (n : Nat) (a : Addr), F.L[n]? = some a → m[n]? = some a
  new : ∀ (n : Nat) (a : Addr), m[n]? = some a → F.L[n]? = some a ∨ F.H a = none
  nd : ∀ (i j : Nat) (a : Addr), m[i]? = some a → m[j]? = some a → i = j
  own : ∀ (n : Nat) (a : Addr) (od : OD), m[n]? = some a → S[n]? = some od → ∃ o, H a = some o ∧ RO K B m od o ∧ (od ≠ .gone → B a = none)
  tab : ∀ p : Addr, F.T p → GxR.TabG H p ∧ B p = none ∧ ∀ n : Nat, m[n]? ≠ some p
structure Nx (K : PySem.W.Frag) (F : Fx) (B : Hp) (m : List Addr) (H : Hp) (B' : Hp) (m' : List Addr) (S' : Sto) (H' : Hp) : Prop where
  cf : Cf K F B' m' S' H'
  sb : Sub B B'
  pr : Pre m m'
  kp : ∀ (a : Addr) (o : HO), H a = some o → (∀ n : Nat, m[n]? ≠ some a) → ¬ F.T a → H' a = some o
  nw : ∀ (n : Nat) (a : Addr), m'[n]? = some a → m[n]? = some a ∨ H a = none
  dm : ∀ a : Addr, H' a = none → H a = none
  bn : ∀ (a : Addr) (o : HO), B' a = some o → B a = some o ∨ H a = none ∨ ∃ n : Nat, m[n]? = some a
theorem Paired.len {α β : Type} {R : α → β → Prop} : ∀ {xs : List α} {ys : List β}, Paired R xs ys → xs.length = ys.length := fun r => Paired.length r

theorem tabG_keep {H H' : Hp} {p : Addr} (g : GxR.TabG H p) (k : ∀ o : HO, H p = some o → H' p = some o) : GxR.TabG H' p := let ⟨ps, e, t⟩ := g; ⟨ps, k _ e, t⟩
theorem tab_ne {H : Hp} {p q : Addr} (g : GxR.TabG H p) (h : H q = none) : p ≠ q := fun z => by
  obtain ⟨ps, e, _⟩ := g
  rw [z, h] at e; cases e
theorem tabG_upd {H : Hp} {p q : Addr} {o : HO} (g : GxR.TabG H p) (h : p ≠ q) : GxR.TabG (upd H q o) p := tabG_keep g fun u e => by rw [upd_ne h]; exact e
section
variable {K : PySem.W.Frag} {F : Fx} {B B' B'' : Hp} {m m' m'' : List Addr} {S S' S'' : Sto} {H H' H'' : Hp}
theorem FF.mono (h : Sub B B') (p : Pre m m') {fs : List (Str × W)} {vs : List (Str × V)} (r : FF K B m fs vs) : FF K B' m' fs vs := Paired.mapP r fun _ _ q => ⟨q.1, q.2.mono h p⟩
theorem FK.mono (h : Sub B B') (p : Pre m m') {fs : List (Key × W)} {vs : List (Key × V)} (r : FK K B m fs vs) : FK K B' m' fs vs := Paired.mapP r fun _ _ q => ⟨q.1, q.2.mono h p⟩
theorem RO.mono (h : Sub B B') (p : Pre m m') : ∀ {od : OD} {o : HO}, RO K B m od o → RO K B' m' od o
  | .lst _, _, ⟨vs, e, r⟩ => ⟨vs, e, r.mono h p⟩
  | .dic _, _, ⟨vs, e, r⟩ => ⟨vs, e, r.mono h p⟩
  | .ins _ _, _, ⟨dx, vs, e, r⟩ => ⟨dx, vs, e, r.mono h p⟩
  | .gone, _, _ => trivial
theorem Cf.nx (c : Cf K F B m S H) : Nx K F B m H B m S H := ⟨c, .refl, .refl, fun _ _ h _ _ => h, fun _ _ h => .inl h, fun _ h => h, fun _ _ h => .inl h⟩
theorem Nx.trans (a : Nx K F B m H B' m' S' H') (b : Nx K F B' m' H' B'' m'' S'' H'') : Nx K F B m H B'' m'' S'' H'' := by
  refine ⟨b.cf, a.sb.trans b.sb, a.pr.trans b.pr, fun x o h n nt => b.kp x o (a.kp x o h n nt) (fun k e => ?_) nt, fun n x e => ?_, fun x h => a.dm x (b.dm x h), fun x o e => ?_⟩
  · rcases a.nw k x e with z | z
    · exact n k z
    · rw [h] at z; cases z
  · rcases b.nw n x e with z | z
    · exact a.nw n x z
    · exact .inr (a.dm x z)
  · rcases b.bn x o e with z | z | ⟨n, z⟩
    · exact a.bn x o z
    · exact .inr (.inl (a.dm x z))
    · rcases a.nw n x z with z | z
      · exact .inr (.inr ⟨n, z⟩)
      · exact .inr (.inl z)
theorem Cf.lt (c : Cf K F B m S H) {n : Nat} {od : OD} (e : S[n]? = some od) : ∃ a, m[n]? = some a := by
  have h1 := (List.getElem?_eq_some_iff.mp e).1
  rw [← c.len] at h1
  exact ⟨_, List.getElem?_eq_getElem h1⟩
theorem Cf.there (c : Cf K F B m S H) {n : Nat} {a : Addr} (e : m[n]? = some a) : ∃ o, H a = some o := by
  have h1 := (List.getElem?_eq_some_iff.mp e).1
  rw [c.len] at h1
  obtain ⟨o, h, _⟩ := c.own n a _ e (List.getElem?_eq_getElem h1)
  exact ⟨o, h⟩
theorem Cf.notIn (c : Cf K F B m S H) {p : Addr} (hp : H p = none) (n : Nat) : m[n]? ≠ some p := fun e => by
  obtain ⟨o, h⟩ := c.there e
  rw [hp] at h
  cases h
theorem Cf.alloc (c : Cf K F B m S H) {p : Addr} {o : HO} (hp : H p = none) : Nx K F B m H (upd B p o) m S (upd H p o) := by
  have nB : B p = none := by
    cases q : B p with
    | none => rfl
    | some u => rw [c.sub _ _ q] at hp; cases hp
  have sb : Sub B (upd B p o) := fun a u e => by rw [upd_ne (ne_of_none e nB)]; exact e
  have sh : Sub H (upd H p o) := fun a u e => by rw [upd_ne (ne_of_none e hp)]; exact e
  refine ⟨⟨c.b0.trans sb, fun a u e => ?_, fun a u e => ?_, fun a u e n nt => sh _ _ (c.fr a u e n nt), fun a e => ?_, c.len, c.pre, c.new, c.nd, fun n a od h1 h2 => ?_, fun q tq => let ⟨g1, g2, g3⟩ := c.tab q tq; ⟨tabG_keep g1 fun o e => sh _ _ e, by rw [upd_ne (tab_ne g1 hp)]; exact g2, g3⟩⟩, sb, .refl, fun _ _ e _ _ => sh _ _ e, fun _ _ h => .inl h, fun a e => by
    by_cases h : a = p
    · subst h; exact hp
    · rw [upd_ne h] at e; exact e, fun a u e => by
    by_cases h : a = p
    · subst h; exact .inr (.inl hp)
    · rw [upd_ne h] at e; exact .inl e⟩
  · by_cases h : a = p
    · subst h; rw [upd_same] at e ⊢; exact e
    · rw [upd_ne h] at e ⊢; exact c.sub _ _ e
  · by_cases h : a = p
    · subst h; exact .inr (c.dom _ hp)
    · rw [upd_ne h] at e; exact c.bnew _ _ e
  · by_cases h : a = p
    · subst h; exact c.dom _ hp
    · rw [upd_ne h] at e; exact c.dom _ e
  · obtain ⟨u, e, r, g⟩ := c.own n a od h1 h2
    have ne : a ≠ p := fun z => c.notIn hp n (z ▸ h1)
    exact ⟨u, sh _ _ e, r.mono sb .refl, fun z => by rw [upd_ne ne]; exact g z⟩
theorem Cf.allocO (c : Cf K F B m S H) {p : Addr} {o : HO} {od : OD} (hp : H p = none) (r : RO K B m od o) : Nx K F B m H B (m ++ [p]) (S ++ [od]) (upd H p o) := by
  have sh : Sub H (upd H p o) := fun a u e => by rw [upd_ne (ne_of_none e hp)]; exact e
  have nB : B p = none := by
    cases q : B p with
    | none => rfl
    | some u => rw [c.sub _ _ q] at hp; cases hp
  have cases_ : ∀ (n : Nat) (a : Addr), (m ++ [p])[n]? = some a → m[n]? = some a ∨ (n = m.length ∧ a = p) := fun n a e => by
    by_cases h : n < m.length
    · rw [List.getElem?_append_left h] at e; exact .inl e
    · rw [List.getElem?_append_right (by omega)] at e
      have h2 : n - m.length = 0 := by
        cases q : n - m.length with
        | zero => rfl
        | succ k => rw [q] at e; simp at e
      rw [h2] at e
      simp at e
      exact .inr ⟨by omega, e.symm⟩
  refine ⟨⟨c.b0, c.sub.trans sh, c.bnew, fun a u e n nt => sh _ _ (c.fr a u e n nt), fun a e => ?_, by simp [c.len], fun n a e => Pre.app _ _ (c.pre n a e), fun n a e => ?_, fun i j a h1 h2 => ?_, fun n a od' h1 h2 => ?_, fun q tq => let ⟨g1, g2, g3⟩ := c.tab q tq; ⟨tabG_keep g1 fun o e => sh _ _ e, g2, fun n e => (cases_ n q e).elim (g3 n) fun z => tab_ne g1 hp z.2⟩⟩, .refl, .app, fun _ _ e _ _ => sh _ _ e, fun n a e => (cases_ n a e).imp_right fun z => by rw [z.2]; exact hp, fun a e => by
    by_cases h : a = p
    · subst h; exact hp
    · rw [upd_ne h] at e; exact e, fun _ _ h => .inl h⟩
  · by_cases h : a = p
    · subst h; exact c.dom _ hp
    · rw [upd_ne h] at e; exact c.dom _ e
  · rcases cases_ n a e with e | ⟨_, e⟩
    · exact c.new n a e
    · subst e; exact .inr (c.dom _ hp)
  · rcases cases_ i a h1 with e1 | ⟨e1, f1⟩ <;> rcases cases_ j a h2 with e2 | ⟨e2, f2⟩
    · exact c.nd i j a e1 e2
    · subst f2; exact absurd e1 (c.notIn hp i)
    · subst f1; exact absurd e2 (c.notIn hp j)
    · omega
  · rcases cases_ n a h1 with e | ⟨e, f⟩
    · rw [List.getElem?_append_left (by have := (List.getElem?_eq_some_iff.mp e).1; rw [← c.len]; exact this)] at h2
      obtain ⟨u, e', r', g⟩ := c.own n a od' e h2
      exact ⟨u, sh _ _ e', r'.mono .refl .app, g⟩
    · subst f
      rw [List.getElem?_append_right (by rw [← c.len, e]; exact Nat.le_refl _), e, c.len, Nat.sub_self] at h2
      simp at h2
      subst h2
      exact ⟨o, upd_same, r.mono .refl .app, fun _ => nB⟩
theorem Cf.write (c : Cf K F B m S H) {n : Nat} {a : Addr} {o : HO} {od od0 : OD} (e : m[n]? = some a) (e0 : S[n]? = some od0) (ng : od0 ≠ .gone) (r : RO K B m od o) : Nx K F B m H B m (S.set n od) (upd H a o) := by
  obtain ⟨u, hu, _, g⟩ := c.own n a od0 e e0
  have nB := g ng
  refine ⟨⟨c.b0, fun b v q => ?_, c.bnew, fun b v q nl nt => ?_, fun b q => ?_, by simp [c.len], c.pre, c.new, c.nd, fun k b od' h1 h2 => ?_, fun q tq => let ⟨g1, g2, g3⟩ := c.tab q tq; ⟨tabG_upd g1 fun z => g3 n (by rw [z]; exact e), g2, g3⟩⟩, .refl, .refl, fun b v q h _ => ?_, fun _ _ h => .inl h, fun b q => ?_, fun _ _ h => .inl h⟩
  · rw [upd_ne (ne_of_none q nB)]; exact c.sub _ _ q
  · have ne : b ≠ a := fun z => by
      subst z
      rcases c.new n b e with h | h
      · exact nl (List.mem_of_getElem? h)
      · rw [h] at q; cases q
    rw [upd_ne ne]; exact c.fr b v q nl nt
  · by_cases h : b = a
    · subst h; rw [upd_same] at q; cases q
    · rw [upd_ne h] at q; exact c.dom _ q
  · by_cases hk : k = n
    · subst hk
      rw [e] at h1
      cases h1
      rw [List.getElem?_set_self (List.getElem?_eq_some_iff.mp e0).1] at h2
      cases h2
      exact ⟨o, upd_same, r, fun _ => nB⟩
    · rw [List.getElem?_set_ne (Ne.symm hk)] at h2
      obtain ⟨v, h3, h4, h5⟩ := c.own k b od' h1 h2
      have ne : b ≠ a := fun z => hk (c.nd k n b h1 (z ▸ e))
      exact ⟨v, by rw [upd_ne ne]; exact h3, h4, h5⟩
  · have ne : b ≠ a := fun z => h n (by rw [z]; exact e)
    rw [upd_ne ne]; exact q
  · by_cases h : b = a
    · subst h; rw [upd_same] at q; cases q
    · rw [upd_ne h] at q; exact q
theorem Cf.entry (c : Cf K F B m S H) : Nx K F F.B F.L F.H B m S H :=
  ⟨c, c.b0, c.pre, fun a o q nm nt => c.fr a o q (fun z => by
    obtain ⟨n, hn⟩ := List.getElem?_of_mem z
    exact nm n hn) nt, c.new, c.dom, fun a o q => (c.bnew a o q).imp id .inl⟩
end
end DL
namespace DL
open PySem PySem.Spec PyProof.Rows L2

def onO {α : Type} : Option α → (α → Prop) → Prop
  | some a, k => k a
  | none, _ => False
def onB : W → (Bool → Prop) → Prop
  | .fz (.bl b), k => k b
  | _, _ => False
def ifB (b : Bool) (A B : Prop) : Prop := match b with
  | true => A
  | false => B
theorem onO_ex {α : Type} {o : Option α} {k : α → Prop} (h : onO o k) : ∃ a, o = some a ∧ k a := by
  cases o with
  | none => exact h.elim
  | some a => exact ⟨a, rfl, h⟩
theorem onB_ex {w : W} {k : Bool → Prop} (h : onB w k) : ∃ b, w = .fz (.bl b) ∧ k b := by
  unfold onB at h
  split at h
  · exact ⟨_, rfl, h⟩
  · exact h.elim
theorem ifB_if {b : Bool} {A B : Prop} (h : ifB b A B) : if b = true then A else B := by
  cases b with
  | true => rw [if_pos rfl]; exact h
  | false => rw [if_neg Bool.false_ne_true]; exact h
theorem ifB_of {b : Bool} {A B : Prop} (h1 : b = true → A) (h2 : b = false → B) : ifB b A B := by
  cases b with
  | true => exact h1 rfl
  | false => exact h2 rfl
theorem ifB_d {p A B : Prop} [Decidable p] (h1 : p → A) (h2 : ¬ p → B) : ifB (decide p) A B := ifB_of (fun h => h1 (of_decide_eq_true h)) fun h => h2 (of_decide_eq_false h)
def onV (env : List (Option W)) (i : Nat) (k : W → Prop) : Prop := match env[i]? with
  | some (some w) => k w
  | _ => False
theorem onV_ex {env : List (Option W)} {i : Nat} {k : W → Prop} (h : onV env i k) : ∃ w, env[i]? = some (some w) ∧ k w := by
  unfold onV at h
  split at h
  · exact ⟨_, by assumption, h⟩
  · exact h.elim
abbrev WK := W → Sto → Prop
abbrev DE := En → Sto → WK → Prop
abbrev DA := En → Sto → (List W → Sto → Prop) → Prop
abbrev DT := En → Sto → (Bool → Sto → Prop) → Prop
structure DEnds where
  nx : En → Sto → Prop
  rt : WK
  bk : En → Sto → Prop := fun _ _ => False
  ct : En → Sto → Prop := fun _ _ => False
abbrev DS := DEnds → En → Sto → Prop
abbrev DG := W → En → Sto → (En → Sto → Prop) → Prop
abbrev DGs := List W → En → Sto → (En → Sto → Prop) → Prop

section
variable (K : PySem.W.Frag) (F : Fx)
def ER (B : Hp) (m : List Addr) (env : En) (σ : L2.St) : Prop := env.length = σ.length ∧ ∀ (i : Nat) (w : W), env[i]? = some (some w) → ∃ v, σ[i]? = some (some v) ∧ RW K B m w v
def KW (Kp : WK) (B : Hp) (m : List Addr) (H : Hp) (Q : VK) : Prop := ∀ (w : W) (S' : Sto), Kp w S' → ∀ (v : V) (H' B' : Hp) (m' : List Addr), Nx K F B m H B' m' S' H' → RW K B' m' w v → Q v H'
def lE (dt : DE) : TE := fun σ H Q => ∃ (B : Hp) (m : List Addr) (S : Sto) (env : En) (Kp : WK), Cf K F B m S H ∧ ER K B m env σ ∧ dt env S Kp ∧ KW K F Kp B m H Q
def lA (dt : DA) : TA := fun σ H Q => ∃ (B : Hp) (m : List Addr) (S : Sto) (env : En) (Kp : List W → Sto → Prop), Cf K F B m S H ∧ ER K B m env σ ∧ dt env S Kp ∧
  ∀ (ws : List W) (S' : Sto), Kp ws S' → ∀ (vs : List V) (H' B' : Hp) (m' : List Addr), Nx K F B m H B' m' S' H' → RWL K B' m' ws vs → Q vs H'
def lT (dt : DT) : TT := fun σ H Q => ∃ (B : Hp) (m : List Addr) (S : Sto) (env : En) (Kp : Bool → Sto → Prop), Cf K F B m S H ∧ ER K B m env σ ∧ dt env S Kp ∧
  ∀ (b : Bool) (S' : Sto), Kp b S' → ∀ (H' B' : Hp) (m' : List Addr), Nx K F B m H B' m' S' H' → Q b H'
def KE (Kp : En → Sto → Prop) (B : Hp) (m : List Addr) (H : Hp) (Q : L2.St → Hp → Prop) : Prop := ∀ (env : En) (S' : Sto), Kp env S' → ∀ (σ' : L2.St) (H' B' : Hp) (m' : List Addr), Nx K F B m H B' m' S' H' → ER K B' m' env σ' → Q σ' H'
def lS (ds : DS) : TS := fun D σ H => ∃ (B : Hp) (m : List Addr) (S : Sto) (env : En) (E : DEnds), Cf K F B m S H ∧ ER K B m env σ ∧ ds E env S ∧
  KE K F E.nx B m H D.nx ∧ KW K F E.rt B m H D.rt ∧ KE K F E.bk B m H D.bk ∧ KE K F E.ct B m H D.ct
def lG (dg : DG) : TG := fun v σ H Q => ∃ (B : Hp) (m : List Addr) (S : Sto) (env : En) (w : W) (Kp : En → Sto → Prop), Cf K F B m S H ∧ ER K B m env σ ∧ RW K B m w v ∧ dg w env S Kp ∧ KE K F Kp B m H Q
def lGs (dg : DGs) : TGs := fun vs σ H Q => ∃ (B : Hp) (m : List Addr) (S : Sto) (env : En) (ws : List W) (Kp : En → Sto → Prop), Cf K F B m S H ∧ ER K B m env σ ∧ RWL K B m ws vs ∧ dg ws env S Kp ∧ KE K F Kp B m H Q
abbrev DR2 := W → W → Sto → WK → Prop
abbrev DRL := List W → Sto → WK → Prop
def lR2 (dr : DR2) : R2 := fun x y H Q => ∃ (B : Hp) (m : List Addr) (S : Sto) (wx wy : W) (Kp : WK), Cf K F B m S H ∧ RW K B m wx x ∧ RW K B m wy y ∧ dr wx wy S Kp ∧ KW K F Kp B m H Q
def lRL (dr : DRL) : List V → Hp → VK → Prop := fun xs H Q => ∃ (B : Hp) (m : List Addr) (S : Sto) (ws : List W) (Kp : WK), Cf K F B m S H ∧ RWL K B m ws xs ∧ dr ws S Kp ∧ KW K F Kp B m H Q
end

structure XD where
  cls : Value
  fs : List (Str × D)
inductive RX (K : PySem.W.Frag) (B : Hp) (fs : List (Str × D)) : Option Addr → Prop
  | none : fs = [] → RX K B fs none
  | some {d : Addr} {fvs : List (Str × V)} : B d = some (.xd fvs) → RpF K B fs fvs → RX K B fs (some d)
abbrev XWK := XD → Sto → Prop
structure Xt where
  T : Addr → Prop
  xw : XWK
  lo : Option Nat
abbrev Xt.of (T : Addr → Prop) : Xt := ⟨T, fun _ _ => False, some 1⟩
abbrev Xt.any (T : Addr → Prop) : Xt := ⟨T, fun _ _ => False, none⟩
abbrev Xt.nox (Ξ : Xt) : Xt := ⟨Ξ.T, fun _ _ => False, Ξ.lo⟩
def TakesD (X : Cx) (F : Fx) (xw : XWK) : Prop := ∃ W : WX, Takes X W ∧ ∀ (x : XD) (S' : Sto), xw x S' → ∀ (σ' : L2.St) (H' B' : Hp) (m' : List Addr) (d : Option Addr), Cf X.K F B' m' S' H' → RX X.K B' x.fs d → W x.cls d σ' H'
theorem takes_none {X : Cx} : Takes X (fun _ _ _ _ => False) := fun _ _ ⟨_, _, _, _, _, _, _, _, _, _, _, _, _, _, _, _, z⟩ => z.elim
structure Okf (X : Cx) (Ξ : Xt) (F : Fx) : Prop where
  t : F.T = Ξ.T
  x : TakesD X F Ξ.xw
  l : ∀ n : Nat, Ξ.lo = some n → F.L.length ≤ n
theorem Okf.of {X : Cx} {T : Addr → Prop} {F : Fx} (h : F.T = T) (hl : F.L.length ≤ 1 := by exact Nat.zero_le _) : Okf X (Xt.of T) F := ⟨h, ⟨_, takes_none, fun _ _ z => z.elim⟩, fun n e => by cases e; exact hl⟩
theorem Okf.any {X : Cx} {T : Addr → Prop} {F : Fx} (h : F.T = T) : Okf X (Xt.any T) F := ⟨h, ⟨_, takes_none, fun _ _ z => z.elim⟩, fun n e => by cases e⟩
theorem Okf.nox {X X' : Cx} {Ξ : Xt} {F : Fx} (ok : Okf X Ξ F) : Okf X' Ξ.nox F := ⟨ok.t, ⟨_, takes_none, fun _ _ z => z.elim⟩, ok.l⟩
structure DPE (X : Cx) (Ξ : Xt) (e : Expr) (dt : DE) : Prop where
  run : ∀ F : Fx, Okf X Ξ F → PE X e (lE X.K F dt)
structure DPA (X : Cx) (Ξ : Xt) (es : List Expr) (dt : DA) : Prop where
  run : ∀ F : Fx, Okf X Ξ F → PA X es (lA X.K F dt)
structure DPT (X : Cx) (Ξ : Xt) (e : Expr) (dt : DT) : Prop where
  run : ∀ F : Fx, Okf X Ξ F → PT X e (lT X.K F dt)
structure DPW (X : Cx) (Ξ : Xt) (e : Expr) (dt : DT) : Prop where
  run : ∀ F : Fx, Okf X Ξ F → PW X e (lT X.K F dt)
structure DPS (X : Cx) (Ξ : Xt) (st : Stmt) (ds : DS) : Prop where
  run : ∀ F : Fx, Okf X Ξ F → PS X st (lS X.K F ds)
structure DPSs (X : Cx) (Ξ : Xt) (st : List Stmt) (ds : DS) : Prop where
  run : ∀ F : Fx, Okf X Ξ F → PSs X st (lS X.K F ds)
structure DPG (X : Cx) (Ξ : Xt) (tg : Expr) (dg : DG) : Prop where
  run : ∀ F : Fx, Okf X Ξ F → PG X tg (lG X.K F dg)
structure DPGs (X : Cx) (Ξ : Xt) (tg : List Expr) (dg : DGs) : Prop where
  run : ∀ F : Fx, Okf X Ξ F → PGs X tg (lGs X.K F dg)
def OpD (X : Cx) (f : Value → Value → Sem Value) (dr : DR2) : Prop := ∀ F : Fx, OpR X f (lR2 X.K F dr)
def CallD (X : Cx) (f : Value) (dr : DRL) : Prop := ∀ F : Fx, CallR X f (lRL X.K F dr)
def IxD (X : Cx) (dr : DR2) : Prop := ∀ F : Fx, IxR X (lR2 X.K F dr)

theorem PE.imp {X : Cx} {e : Expr} {t t' : TE} (h : PE X e t) (g : ∀ σ H Q, t' σ H Q → t σ H Q) : PE X e t' := ⟨fun pins s σ H Q I q => h.run pins s σ H Q I (g _ _ _ q)⟩
theorem PA.imp {X : Cx} {e : List Expr} {t t' : TA} (h : PA X e t) (g : ∀ σ H Q, t' σ H Q → t σ H Q) : PA X e t' := ⟨fun p pins s σ H Q I q => h.run p pins s σ H Q I (g _ _ _ q)⟩
theorem PT.imp {X : Cx} {e : Expr} {t t' : TT} (h : PT X e t) (g : ∀ σ H Q, t' σ H Q → t σ H Q) : PT X e t' := ⟨fun pins s σ H Q I q => h.run pins s σ H Q I (g _ _ _ q)⟩
theorem PW.imp {X : Cx} {e : Expr} {t t' : TT} (h : PW X e t) (g : ∀ σ H Q, t' σ H Q → t σ H Q) : PW X e t' := ⟨fun w pins s σ H Q I q => h.run w pins s σ H Q I (g _ _ _ q)⟩
theorem PS.imp {X : Cx} {e : Stmt} {t t' : TS} (h : PS X e t) (g : ∀ D σ H, t' D σ H → t D σ H) : PS X e t' := ⟨fun pins s σ H D I q => h.run pins s σ H D I (g _ _ _ q)⟩
theorem PSs.imp {X : Cx} {e : List Stmt} {t t' : TS} (h : PSs X e t) (g : ∀ D σ H, t' D σ H → t D σ H) : PSs X e t' := ⟨fun pins s σ H D I q => h.run pins s σ H D I (g _ _ _ q)⟩
theorem PG.imp {X : Cx} {e : Expr} {t t' : TG} (h : PG X e t) (g : ∀ v σ H Q, t' v σ H Q → t v σ H Q) : PG X e t' := ⟨fun pins s σ H v u Q I r q => h.run pins s σ H v u Q I r (g _ _ _ _ q)⟩
theorem PGs.imp {X : Cx} {e : List Expr} {t t' : TGs} (h : PGs X e t) (g : ∀ v σ H Q, t' v σ H Q → t v σ H Q) : PGs X e t' := ⟨fun pins s σ H v u Q I r q => h.run pins s σ H v u Q I r (g _ _ _ _ q)⟩
theorem OpR.imp {X : Cx} {f : Value → Value → Sem Value} {r r' : R2} (h : OpR X f r) (g : ∀ x y H Q, r' x y H Q → r x y H Q) : OpR X f r' := fun pins s σ H x y v u Q I rx ry q => h pins s σ H x y v u Q I rx ry (g _ _ _ _ q)
theorem CallR.imp {X : Cx} {f : Value} {r r' : List V → Hp → VK → Prop} (h : CallR X f r) (g : ∀ xs H Q, r' xs H Q → r xs H Q) : CallR X f r' := fun pins s σ H xs us Q I rx q => h pins s σ H xs us Q I rx (g _ _ _ q)
theorem MtR.imp {X : Cx} {id : String} {r r' : V → List V → Hp → VK → Prop} (h : MtR X id r) (g : ∀ x xs H Q, r' x xs H Q → r x xs H Q) : MtR X id r' := fun pins s σ H x xs v us Q I rx rs q => h pins s σ H x xs v us Q I rx rs (g _ _ _ _ q)
theorem IxR.imp {X : Cx} {r r' : R2} (h : IxR X r) (g : ∀ x y H Q, r' x y H Q → r x y H Q) : IxR X r' := fun a b pins s σ H x y v u Q I rx ry q hs => h a b pins s σ H x y v u Q I rx ry (g _ _ _ _ q) hs

section
variable {K : PySem.W.Frag} {F : Fx} {B B' : Hp} {m m' : List Addr} {S S' : Sto} {H H' : Hp} {env : En} {σ : L2.St}
theorem ER.mono (e : ER K B m env σ) (h : Sub B B') (p : Pre m m') : ER K B' m' env σ := ⟨e.1, fun i w q => let ⟨v, a, b⟩ := e.2 i w q; ⟨v, a, b.mono h p⟩⟩
theorem ER.nx (e : ER K B m env σ) (n : Nx K F B m H B' m' S' H') : ER K B' m' env σ := e.mono n.sb n.pr
theorem ER.set {w : W} {v : V} (e : ER K B m env σ) (i : Nat) (r : RW K B m w v) : ER K B m (env.set i (some w)) (σ.set i (some v)) := by
  refine ⟨by simp [e.1], fun j u q => ?_⟩
  by_cases h : j = i
  · subst h
    have hl := (List.getElem?_eq_some_iff.mp q).1
    rw [List.length_set] at hl
    rw [List.getElem?_set_self hl] at q
    cases q
    exact ⟨v, List.getElem?_set_self (by rw [← e.1]; exact hl), r⟩
  · rw [List.getElem?_set_ne (Ne.symm h)] at q ⊢
    exact e.2 j u q
theorem RW.nx {w : W} {v : V} (r : RW K B m w v) (n : Nx K F B m H B' m' S' H') : RW K B' m' w v := r.mono n.sb n.pr
theorem RWL.nx {w : List W} {v : List V} (r : RWL K B m w v) (n : Nx K F B m H B' m' S' H') : RWL K B' m' w v := r.mono n.sb n.pr
theorem KW.nx {Kp : WK} {Q : VK} (k : KW K F Kp B m H Q) (n : Nx K F B m H B' m' S' H') : KW K F Kp B' m' H' Q := fun w S2 h v H2 B2 m2 n2 r => k w S2 h v H2 B2 m2 (n.trans n2) r
theorem KE.nx {Kp : En → Sto → Prop} {Q : L2.St → Hp → Prop} (k : KE K F Kp B m H Q) (n : Nx K F B m H B' m' S' H') : KE K F Kp B' m' H' Q := fun w S2 h v H2 B2 m2 n2 r => k w S2 h v H2 B2 m2 (n.trans n2) r
end

section
variable {X : Cx} {Ξ : Xt} {a b c e : Expr} {es : List Expr} {da db dc de : DE} {das : DA} {pos : Pos}
def dVar (i : Nat) : DE := fun env S Kp => onV env i fun w => Kp w S
def dC (d : D) : DE := fun _ S Kp => Kp (.fz d) S
theorem dpe_of_tVar {i : Nat} (h : PE X e (tVar i)) : DPE X Ξ e (dVar i) := ⟨fun F ok => PE.imp h fun σ H Q ⟨B, m, S, env, Kp, cf, er, h, k⟩ => by
  obtain ⟨w, h1, h2⟩ := onV_ex h
  obtain ⟨v, hv, r⟩ := er.2 i w h1
  exact ⟨v, hv, k w S h2 v H B m cf.nx r⟩⟩
theorem dpe_of_tC {d : D} {v : V} (h : PE X e (tC v)) (r : ∀ K B, Rp K B d v) : DPE X Ξ e (dC d) := ⟨fun F ok => PE.imp h fun σ H Q ⟨B, m, S, env, Kp, cf, er, h2, k⟩ =>
  k _ S h2 v H B m cf.nx (.fz (r _ _))⟩
theorem dpv (i : Nat) {x : Str} {pos : Pos} (hN : X.N[i]? = some x := by rfl) (hv : Vis X.env.scope x := by first | exact Or.inl rfl | exact Or.inr (Or.inl rfl) | exact Or.inr (Or.inr rfl)) (hd : (x == ("__debug__" : Str)) = false := by decide)
    (hcd : (x == ("__classdict__" : Str)) = false := by decide) : DPE X Ξ (.Name x pos) (dVar i) := dpe_of_tVar (pe_var hN hv hd hcd)
theorem dpe_int {i : Int} {j : Nat} : DPE X Ξ (.Constant (.int i) j pos) (dC (.int i)) := dpe_of_tC pe_int fun _ _ => .int
theorem dpe_bl {i : Bool} {j : Nat} : DPE X Ξ (.Constant (.bool i) j pos) (dC (.bl i)) := dpe_of_tC pe_bl fun _ _ => .bl
theorem dpe_str {x : Str} {j : Nat} : DPE X Ξ (.Constant (.str x) j pos) (dC (.str x)) := dpe_of_tC pe_str fun _ _ => .str

def dOp (dr : DR2) (da db : DE) : DE := fun env S Kp => da env S fun x S1 => db env S1 fun y S2 => dr x y S2 Kp
theorem imp_op {K : PySem.W.Frag} {F : Fx} {dr : DR2} {da db : DE} (σ : L2.St) (H : Hp) (Q : VK) (h : lE K F (dOp dr da db) σ H Q) : tOp (lR2 K F dr) (lE K F da) (lE K F db) σ H Q := by
  obtain ⟨B, m, S, env, Kp, cf, er, h, k⟩ := h
  refine ⟨B, m, S, env, _, cf, er, h, fun x S1 h1 vx H1 B1 m1 n1 rx => ?_⟩
  refine ⟨B1, m1, S1, env, _, n1.cf, er.nx n1, h1, fun y S2 h2 vy H2 B2 m2 n2 ry => ?_⟩
  exact ⟨B2, m2, S2, x, y, Kp, n2.cf, rx.nx n2, ry, h2, k.nx (n1.trans n2)⟩
theorem dpe_op {op : Operator} {dr : DR2} (ho : OpD X (binaryOp op) dr) (ha : DPE X Ξ a da) (hb : DPE X Ξ b db) : DPE X Ξ (.BinOp a op b pos) (dOp dr da db) := ⟨fun F ok => PE.imp (pe_op (ho F) (ha.run F ok) (hb.run F ok)) imp_op⟩
theorem dpe_cmp {op : CmpOp} {dr : DR2} (ho : OpD X (compareOp op) dr) (ha : DPE X Ξ a da) (hb : DPE X Ξ b db) (hm : behindInMarks op b = false) : DPE X Ξ (.Compare a [op] [b] pos) (dOp dr da db) := ⟨fun F ok => PE.imp (pe_cmpR (ho F) (ha.run F ok) (hb.run F ok) hm) imp_op⟩
theorem dpe_ix {dr : DR2} (hr : IxD X dr) (ha : DPE X Ξ a da) (hb : DPE X Ξ b db) (hs : PlainIx b) : DPE X Ξ (.Subscript a b pos) (dOp dr da db) := ⟨fun F ok => PE.imp (pe_ix (hr F) (ha.run F ok) (hb.run F ok) hs) imp_op⟩

def dTst (de : DE) : DT := fun env S Kp => de env S fun w S1 => onB w fun b => Kp b S1
theorem RW.bl_of {K : PySem.W.Frag} {B : Hp} {m : List Addr} {k : Bool} {v : V} (r : RW K B m (.fz (.bl k)) v) : v = .bl k := by
  cases r with
  | fz r => cases r; rfl
theorem RW.int_of {K : PySem.W.Frag} {B : Hp} {m : List Addr} {k : Int} {v : V} (r : RW K B m (.fz (.int k)) v) : v = .int k := by
  cases r with
  | fz r => cases r; rfl
theorem RW.str_of {K : PySem.W.Frag} {B : Hp} {m : List Addr} {k : Str} {v : V} (r : RW K B m (.fz (.str k)) v) : v = .str k := by
  cases r with
  | fz r => cases r; rfl
theorem dpt_cmp {op : CmpOp} {dr : DR2} (ho : OpD X (compareOp op) dr) (ha : DPE X Ξ a da) (hb : DPE X Ξ b db) (hm : behindInMarks op b = false) : DPT X Ξ (.Compare a [op] [b] pos) (dTst (dOp dr da db)) := ⟨fun F ok => PT.imp (pt_cmpR (ho F) (ha.run F ok) (hb.run F ok) hm) fun σ H Q ⟨B, m, S, env, Kp, cf, er, h, k⟩ => by
  refine imp_op σ H _ ⟨B, m, S, env, _, cf, er, h, fun w S1 h0 v H1 B1 m1 n1 r => ?_⟩
  obtain ⟨b, e1, h1⟩ := onB_ex h0
  subst e1
  exact ⟨b, r.bl_of, k b S1 h1 H1 B1 m1 n1⟩⟩
end
end DL
namespace DL
open PySem PySem.Spec PyProof.Rows L2

def fzL : List W → Option (List D)
  | [] => some []
  | .fz d :: r => (fzL r).map (d :: ·)
  | .hd _ :: _ => none
  | .tp _ :: _ => none
  | .xo _ _ _ :: _ => none
theorem fzL_map (ds : List D) : fzL (ds.map W.fz) = some ds := by
  induction ds with
  | nil => rfl
  | cons d ds ih => show (fzL (ds.map W.fz)).map (d :: ·) = _; rw [ih]; rfl
theorem fzL_eq : ∀ {ws : List W} {ds : List D}, fzL ws = some ds → ws = ds.map W.fz
  | [], ds, h => by cases h; rfl
  | .fz d :: r, ds, h => by
    unfold fzL at h
    cases e : fzL r with
    | none => rw [e] at h; cases h
    | some ds' =>
      rw [e] at h
      cases h
      rw [List.map_cons, ← fzL_eq e]
  | .hd _ :: _, _, h => by cases h
  | .tp _ :: _, _, h => by cases h
  | .xo _ _ _ :: _, _, h => by cases h
def mkT (ws : List W) : W := match fzL ws with
  | some ds => .fz (.tup ds)
  | none => .tp ws
theorem mkT_fz (ds : List D) : mkT (ds.map W.fz) = .fz (.tup ds) := by unfold mkT; rw [fzL_map]
def vT : W → Option (List W)
  | .fz (.tup ds) => some (ds.map .fz)
  | .tp ws => some ws
  | _ => none
def vL (S : Sto) : W → Option (List W)
  | .fz (.lst ds) => some (ds.map .fz)
  | .hd n => match S[n]? with
    | some (.lst ws) => some ws
    | _ => none
  | _ => none
def vS (S : Sto) (w : W) : Option (List W) := match vT w with
  | some ws => some ws
  | none => vL S w
def truW (S : Sto) : W → Option Bool
  | .fz .non => some false
  | .fz (.bl b) => some b
  | .fz (.int i) => some (i != 0)
  | .fz (.str y) => if y.length ≤ sizeLine then some ((y.length : Int) != 0) else none
  | .fz (.tup ds) => some (!ds.isEmpty)
  | .fz (.lst ds) => some (!ds.isEmpty)
  | .fz (.obj _ _) => none
  | .fz (.scr _) => none
  | .fz (.ty _) => none
  | .tp ws => some (!ws.isEmpty)
  | .xo _ _ _ => none
  | .hd n => match S[n]? with
    | some (.lst ws) => some (!ws.isEmpty)
    | some (.dic ws) => some (!ws.isEmpty)
    | _ => none
section
variable {K : PySem.W.Frag} {F : Fx} {B B' : Hp} {m m' : List Addr} {S S' : Sto} {H H' : Hp} {env : En} {σ : L2.St}
theorem mkT_ok {ws : List W} {vs : List V} {p : Addr} (r : RWL K B m ws vs) (h : SqT K B p vs) : RW K B m (mkT ws) (.ref p) := by
  unfold mkT
  split
  · rename_i ds e
    rw [fzL_eq e] at r
    exact .fz (.tup h r.fz)
  · exact .tp h r
theorem vT_ok {w : W} {x : V} {ws : List W} (r : RW K B m w x) (h : vT w = some ws) : ∃ a vs, x = .ref a ∧ SqT K B a vs ∧ RWL K B m ws vs := by
  unfold vT at h
  split at h
  · cases h
    cases r with
    | fz r => cases r with
      | tup s t => exact ⟨_, _, rfl, s, t.fz⟩
  · cases h
    cases r with
    | tp s t => exact ⟨_, _, rfl, s, t⟩
  · cases h
theorem vL_ok (c : Cf K F B m S H) {w : W} {x : V} {ws : List W} (r : RW K B m w x) (h : vL S w = some ws) : ∃ a vs, x = .ref a ∧ H a = some (.lst vs) ∧ RWL K B m ws vs := by
  unfold vL at h
  split at h
  · cases h
    cases r with
    | fz r => cases r with
      | lst s t => exact ⟨_, _, rfl, c.sub _ _ s, t.fz⟩
  · rename_i n
    cases r with
    | hd e =>
      split at h
      · rename_i ws' e2
        cases h
        obtain ⟨o, h1, ⟨vs, h2, h3⟩, _⟩ := c.own _ _ _ e e2
        subst h2
        exact ⟨_, _, rfl, h1, h3⟩
      · cases h
  · cases h
theorem vS_ok (c : Cf K F B m S H) {w : W} {x : V} {ws : List W} (r : RW K B m w x) (h : vS S w = some ws) : ∃ a vs, x = .ref a ∧ (SqL K H a vs ∨ SqT K H a vs) ∧ RWL K B m ws vs := by
  unfold vS at h
  split at h
  · rename_i ws' e
    cases h
    obtain ⟨a, vs, h1, h2, h3⟩ := vT_ok r e
    exact ⟨a, vs, h1, .inr (c.sub.seqT h2), h3⟩
  · obtain ⟨a, vs, h1, h2, h3⟩ := vL_ok c r h
    exact ⟨a, vs, h1, .inl (.of h2), h3⟩
theorem Cf.lst (c : Cf K F B m S H) {n : Nat} {ws : List W} {x : V} (r : RW K B m (.hd n) x) (h : S[n]? = some (.lst ws)) : ∃ a vs, x = .ref a ∧ m[n]? = some a ∧ H a = some (.lst vs) ∧ RWL K B m ws vs := by
  cases r with
  | hd e =>
    obtain ⟨o, h1, ⟨vs, h2, h3⟩, _⟩ := c.own _ _ _ e h
    subst h2
    exact ⟨_, _, rfl, e, h1, h3⟩
theorem truW_ok (c : Cf K F B m S H) {w : W} {x : V} {k : Bool} (r : RW K B m w x) (h : truW S w = some k) : TruV K x H k := by
  unfold truW at h
  split at h
  · cases h; cases r with | fz r => cases r; rfl
  · cases h; cases r with | fz r => cases r; rfl
  · cases h; cases r with | fz r => cases r; rfl
  · split at h
    · cases h; cases r with | fz r => cases r; exact ⟨by assumption, rfl⟩
    · cases h
  · cases h
    cases r with | fz r => cases r with | tup s t =>
      refine .inr (.inl ⟨_, c.sub.seqT s, ?_⟩)
      have e := t.length
      rename_i ds _ vs
      cases ds <;> cases vs <;> first | rfl | (simp at e)
  · cases h
    cases r with | fz r => cases r with | lst s t =>
      refine .inl ⟨_, .of (c.sub _ _ s), ?_⟩
      have e := t.length
      rename_i ds _ vs
      cases ds <;> cases vs <;> first | rfl | (simp at e)
  · cases h
  · cases h
  · cases h
  · cases h
    cases r with | tp s t =>
      refine .inr (.inl ⟨_, c.sub.seqT s, ?_⟩)
      have e := t.length
      rename_i ds _ vs
      cases ds <;> cases vs <;> first | rfl | (simp at e)
  · cases h
  · split at h
    · rename_i ws e
      cases h
      obtain ⟨a, vs, e1, _, h1, h2⟩ := c.lst r e
      subst e1
      refine .inl ⟨_, .of h1, ?_⟩
      have e := h2.length
      cases ws <;> cases vs <;> first | rfl | (simp at e)
    · rename_i ws e
      cases h
      cases r with
      | hd e1 =>
        obtain ⟨o, h1, ⟨vs, h2, h3⟩, _⟩ := c.own _ _ _ e1 e
        subst h2
        refine .inr (.inr ⟨_, h1, ?_⟩)
        have e := Paired.length h3
        cases ws <;> cases vs <;> first | rfl | (simp at e)
    · cases h
end

section
variable {X : Cx} {Ξ : Xt} {a b c e : Expr} {es rest : List Expr} {da db dc de : DE} {ta tb tc : DT} {das : DA} {pos : Pos}
def dTru (de : DE) : DT := fun env S Kp => de env S fun w S1 => onO (truW S1 w) fun k => Kp k S1
theorem dpt_tru (ha : DPE X Ξ a da) (he : ∀ whole, isTrue a X.env whole = (do let v ← whole; standAt a.pos; holding [v] (truthy v)) := by intro _; rfl) : DPT X Ξ a (dTru da) := ⟨fun F ok => PT.imp (pt_truth (ha.run F ok) he) fun σ H Q ⟨B, m, S, env, Kp, cf, er, h, k⟩ => by
  refine ⟨B, m, S, env, _, cf, er, h, fun w S1 h0 v H1 B1 m1 n1 r => ?_⟩
  obtain ⟨b, e1, h1⟩ := onO_ex h0
  exact ⟨b, truW_ok n1.cf r e1, k b S1 h1 H1 B1 m1 n1⟩⟩
def dAnd (t u : DT) : DT := fun env S Kp => t env S fun c S1 => ifB c (u env S1 Kp) (Kp false S1)
def dOr (t u : DT) : DT := fun env S Kp => t env S fun c S1 => ifB c (Kp true S1) (u env S1 Kp)
def dNot (t : DT) : DT := fun env S Kp => t env S fun c S1 => Kp (!c) S1
theorem DPW.pt (h : DPW X Ξ e ta) : DPT X Ξ e ta := ⟨fun F ok => (h.run F ok).pt⟩
theorem dpw_and1 (ha : DPT X Ξ a ta) : DPW X Ξ (.BoolOp .And [a] pos) ta := ⟨fun F ok => pw_and1 (ha.run F ok)⟩
theorem dpw_or1 (ha : DPT X Ξ a ta) : DPW X Ξ (.BoolOp .Or [a] pos) ta := ⟨fun F ok => pw_or1 (ha.run F ok)⟩
theorem dpw_and (ha : DPT X Ξ a ta) (hb : DPW X Ξ (.BoolOp .And (b :: rest) pos) tb) : DPW X Ξ (.BoolOp .And (a :: b :: rest) pos) (dAnd ta tb) := ⟨fun F ok => PW.imp (pw_and (ha.run F ok) (hb.run F ok)) fun σ H Q ⟨B, m, S, env, Kp, cf, er, h, k⟩ => by
  refine ⟨B, m, S, env, _, cf, er, h, fun c S1 h1 H1 B1 m1 n1 => ?_⟩
  cases c with
  | false => replace h1 := ifB_if h1; rw [if_neg Bool.false_ne_true] at h1 ⊢; exact k _ _ h1 _ _ _ n1
  | true =>
    replace h1 := ifB_if h1
    rw [if_pos rfl] at h1 ⊢
    exact ⟨B1, m1, S1, env, Kp, n1.cf, er.nx n1, h1, fun c S2 h2 H2 B2 m2 n2 => k c S2 h2 H2 B2 m2 (n1.trans n2)⟩⟩
theorem dpw_or (ha : DPT X Ξ a ta) (hb : DPW X Ξ (.BoolOp .Or (b :: rest) pos) tb) : DPW X Ξ (.BoolOp .Or (a :: b :: rest) pos) (dOr ta tb) := ⟨fun F ok => PW.imp (pw_or (ha.run F ok) (hb.run F ok)) fun σ H Q ⟨B, m, S, env, Kp, cf, er, h, k⟩ => by
  refine ⟨B, m, S, env, _, cf, er, h, fun c S1 h1 H1 B1 m1 n1 => ?_⟩
  cases c with
  | true => replace h1 := ifB_if h1; rw [if_pos rfl] at h1 ⊢; exact k _ _ h1 _ _ _ n1
  | false =>
    replace h1 := ifB_if h1
    rw [if_neg Bool.false_ne_true] at h1 ⊢
    exact ⟨B1, m1, S1, env, Kp, n1.cf, er.nx n1, h1, fun c S2 h2 H2 B2 m2 n2 => k c S2 h2 H2 B2 m2 (n1.trans n2)⟩⟩
theorem dpt_not (ha : DPT X Ξ a ta) : DPT X Ξ (.UnaryOp .Not a pos) (dNot ta) := ⟨fun F ok => PT.imp (pt_not (ha.run F ok)) fun σ H Q ⟨B, m, S, env, Kp, cf, er, h, k⟩ =>
  ⟨B, m, S, env, _, cf, er, h, fun c S1 h1 H1 B1 m1 n1 => k _ _ h1 _ _ _ n1⟩⟩
def dNil : DA := fun _ S Kp => Kp [] S
def dCons (ta : DE) (tr : DA) : DA := fun env S Kp => ta env S fun x S1 => tr env S1 fun xs S2 => Kp (x :: xs) S2
theorem dpa_nil : DPA X Ξ [] dNil := ⟨fun F ok => PA.imp pa_nil fun σ H Q ⟨B, m, S, env, Kp, cf, er, h, k⟩ => k _ _ h _ _ _ _ cf.nx .nil⟩
theorem dpa_cons (ha : DPE X Ξ e de) (hr : DPA X Ξ es das) (hs : starEach (e :: es) X.env = (false, eval e X.env) :: starEach es X.env := by rfl) : DPA X Ξ (e :: es) (dCons de das) := ⟨fun F ok => PA.imp (pa_cons (ha.run F ok) (hr.run F ok) hs) fun σ H Q ⟨B, m, S, env, Kp, cf, er, h, k⟩ =>
  ⟨B, m, S, env, _, cf, er, h, fun x S1 h1 v H1 B1 m1 n1 r => ⟨B1, m1, S1, env, _, n1.cf, er.nx n1, h1, fun xs S2 h2 vs H2 B2 m2 n2 r2 => k _ _ h2 _ _ _ _ (n1.trans n2) (.cons (r.nx n2) r2)⟩⟩⟩
def dTup (t : DA) : DE := fun env S Kp => t env S fun ws S1 => ws.length ≤ sizeLine ∧ Kp (mkT ws) S1
theorem dpe_tup {x1 : Nat} (h : DPA X Ξ es das) : DPE X Ξ (.Tuple es x1 pos) (dTup das) := ⟨fun F ok => PE.imp (pe_tup (h.run F ok)) fun σ H Q ⟨B, m, S, env, Kp, cf, er, h, k⟩ =>
  ⟨B, m, S, env, _, cf, er, h, fun ws S1 ⟨hz, h1⟩ vs H1 B1 m1 n1 r => ⟨by rw [← r.length]; exact hz, fun p hp => by
    have n2 := n1.cf.alloc (o := .tup vs) hp
    exact k _ _ h1 _ _ _ _ (n1.trans n2) (mkT_ok (r.nx n2) (.of upd_same))⟩⟩⟩
def newL (own : Bool) (ws : List W) (S : Sto) (Kp : WK) : Prop := match own with
  | true => Kp (.hd S.length) (S ++ [.lst ws])
  | false => onO (fzL ws) fun ds => Kp (.fz (.lst ds)) S
theorem newL_ok {K : PySem.W.Frag} {F : Fx} {B : Hp} {m : List Addr} {S : Sto} {H : Hp} {own : Bool} {ws : List W} {vs : List V} {Kp : WK} {Q : VK} {p : Addr} (cf : Cf K F B m S H) (r : RWL K B m ws vs) (h : newL own ws S Kp) (k : KW K F Kp B m H Q) (hp : H p = none) :
    Q (.ref p) (upd H p (.lst vs)) := by
  unfold newL at h
  split at h
  · have n2 := cf.allocO (od := .lst ws) (o := .lst vs) hp ⟨vs, rfl, r⟩
    refine k _ _ h _ _ _ _ n2 (.hd ?_)
    rw [← cf.len, List.getElem?_append_right (Nat.le_refl _), Nat.sub_self]
    rfl
  · obtain ⟨ds, e, h⟩ := onO_ex h
    have n2 := cf.alloc (o := .lst vs) hp
    have r2 := r.nx n2
    rw [fzL_eq e] at r2
    exact k _ _ h _ _ _ _ n2 (.fz (.lst upd_same r2.fz))
def dLst (own : Bool) (t : DA) : DE := fun env S Kp => t env S fun ws S1 => ws.length ≤ sizeLine ∧ newL own ws S1 Kp
theorem dpe_lst (own : Bool) (h : DPA X Ξ es das) : DPE X Ξ (.List es pos) (dLst own das) := ⟨fun F ok => PE.imp (pe_lst (h.run F ok)) fun σ H Q ⟨B, m, S, env, Kp, cf, er, h, k⟩ =>
  ⟨B, m, S, env, _, cf, er, h, fun ws S1 ⟨hz, h1⟩ vs H1 B1 m1 n1 r => ⟨by rw [← r.length]; exact hz, fun p hp => newL_ok n1.cf r h1 (k.nx n1) hp⟩⟩⟩
end

section
variable {X : Cx} {Ξ : Xt} {st : Stmt} {rest : List Stmt} {t u : DS} {e c : Expr} {de : DE} {pos : Pos} {a b : List Stmt} {tc : DT}
def dNext : DS := fun D env S => D.nx env S
def dSeq (t u : DS) : DS := fun D env S => t { D with nx := u D } env S
theorem dpss_nil : DPSs X Ξ [] dNext := ⟨fun F ok => PSs.imp pss_nil fun D σ H ⟨B, m, S, env, E, cf, er, h, k1, k2, k3, k4⟩ => k1 _ _ h _ _ _ _ cf.nx er⟩
theorem dpss_cons (h1 : DPS X Ξ st t) (h2 : DPSs X Ξ rest u) : DPSs X Ξ (st :: rest) (dSeq t u) := ⟨fun F ok => PSs.imp (pss_cons (h1.run F ok) (h2.run F ok)) fun D σ H ⟨B, m, S, env, E, cf, er, h, k1, k2, k3, k4⟩ =>
  ⟨B, m, S, env, _, cf, er, h, fun env' S1 q σ1 H1 B1 m1 n1 er1 => ⟨B1, m1, S1, env', E, n1.cf, er1, q, k1.nx n1, k2.nx n1, k3.nx n1, k4.nx n1⟩, k2, k3, k4⟩⟩
theorem dpss_one (h1 : DPS X Ξ st t) : DPSs X Ξ [st] t := ⟨fun F ok => pss_one (h1.run F ok)⟩
def dRet (de : DE) : DS := fun D env S => de env S D.rt
theorem dps_ret (he : DPE X Ξ e de) : DPS X Ξ (.Return (some e) pos) (dRet de) := ⟨fun F ok => PS.imp (ps_ret (he.run F ok)) fun D σ H ⟨B, m, S, env, E, cf, er, h, k1, k2, k3, k4⟩ =>
  ⟨B, m, S, env, _, cf, er, h, k2⟩⟩
def dIfS (c : DT) (t u : DS) : DS := fun D env S => c env S fun b S1 => ifB b (t D env S1) (u D env S1)
theorem dps_if (hc : DPT X Ξ c tc) (ha : DPSs X Ξ a t) (hb : DPSs X Ξ b u) : DPS X Ξ (.If c a b pos) (dIfS tc t u) := ⟨fun F ok => PS.imp (ps_if (hc.run F ok) (ha.run F ok) (hb.run F ok)) fun D σ H ⟨B, m, S, env, E, cf, er, h, k1, k2, k3, k4⟩ =>
  ⟨B, m, S, env, _, cf, er, h, fun c S1 h1 H1 B1 m1 n1 => by
    cases c with
    | true => replace h1 := ifB_if h1; rw [if_pos rfl] at h1 ⊢; exact ⟨B1, m1, S1, env, E, n1.cf, er.nx n1, h1, k1.nx n1, k2.nx n1, k3.nx n1, k4.nx n1⟩
    | false => replace h1 := ifB_if h1; rw [if_neg Bool.false_ne_true] at h1 ⊢; exact ⟨B1, m1, S1, env, E, n1.cf, er.nx n1, h1, k1.nx n1, k2.nx n1, k3.nx n1, k4.nx n1⟩⟩⟩
def dgName (i : Nat) : DG := fun w env S Kp => Kp (env.set i (some w)) S
theorem dpg_name {i : Nat} {x : Str} (hN : X.N.Nodup) (hi : X.N[i]? = some x) (hx : Loc X.env.scope x) (hf : X.fn x = true ∨ X.env.scope.names.lookup x = some .local := by first | exact .inl rfl | exact .inr rfl | assumption) : DPG X Ξ (.Name x pos) (dgName i) :=
  ⟨fun F ok => PG.imp (pg_name hN hi hx hf) fun v σ H Q ⟨B, m, S, env, w, Kp, cf, er, r, h, k⟩ => k _ _ h _ _ _ _ cf.nx (er.set i r)⟩
def dAsg (de : DE) (g : DG) : DS := fun D env S => de env S fun w S1 => g w env S1 D.nx
theorem imp_asg {K : PySem.W.Frag} {F : Fx} {de : DE} {g : DG} (D : Ends) (σ : L2.St) (H : Hp) (h : lS K F (dAsg de g) D σ H) : tAsg (lE K F de) (lG K F g) D σ H := by
  obtain ⟨B, m, S, env, E, cf, er, h, k1, k2, k3, k4⟩ := h
  exact ⟨B, m, S, env, _, cf, er, h, fun w S1 h1 v H1 B1 m1 n1 r => ⟨B1, m1, S1, env, w, E.nx, n1.cf, er.nx n1, r, h1, k1.nx n1⟩⟩
theorem dps_asg {tg : Expr} {g : DG} (he : DPE X Ξ e de) (hg : DPG X Ξ tg g) (hs : swapsWithSole [tg] e pos.line X.env = pure false := by rfl) (hw : swappedStores [tg] e X.env = pure none := by rfl)
    (h1 : (assignEach [tg] X.env).map (·.2) = [assign tg X.env] := by rfl) : DPS X Ξ (.Assign [tg] e pos) (dAsg de g) := ⟨fun F ok => PS.imp (ps_asg (he.run F ok) (hg.run F ok) hs hw h1) imp_asg⟩
theorem dps_set {i : Nat} {x : Str} {pos' : Pos} (hN : X.N.Nodup) (hi : X.N[i]? = some x) (hx : Loc X.env.scope x) (he : DPE X Ξ e de) (hs : swapsWith e (some (.Name x pos')) pos.line X.env = pure false := by rfl) (hf : X.fn x = true ∨ X.env.scope.names.lookup x = some .local := by first | exact .inl rfl | exact .inr rfl | assumption) :
    DPS X Ξ (.Assign [.Name x pos'] e pos) (dAsg de (dgName i)) := ⟨fun F ok => PS.imp (ps_set hN hi hx (he.run F ok) hs hf) fun D σ H ⟨B, m, S, env, E, cf, er, h, k1, k2, k3, k4⟩ =>
  ⟨B, m, S, env, _, cf, er, h, fun w S1 h1 v H1 B1 m1 n1 r => k1.nx n1 _ _ h1 _ _ _ _ n1.cf.nx ((er.nx n1).set i r)⟩⟩
def dAug (i : Nat) (de : DE) (dr : DR2) : DS := fun D env S => onV env i fun x => de env S fun y S1 => dr x y S1 fun z S2 => D.nx (env.set i (some z)) S2
theorem dps_aug {i : Nat} {x : Str} {op : Operator} {dr : DR2} {pos' : Pos} (hN : X.N.Nodup) (hi : X.N[i]? = some x) (hx : Loc X.env.scope x) (he : DPE X Ξ e de) (ho : OpD X (inplaceOp op) dr) (hf : X.fn x = true ∨ X.env.scope.names.lookup x = some .local := by first | exact .inl rfl | exact .inr rfl | assumption) :
    DPS X Ξ (.AugAssign (.Name x pos') op e pos) (dAug i de dr) := ⟨fun F ok => PS.imp (ps_aug hN hi hx (he.run F ok) (ho F) hf) fun D σ H ⟨B, m, S, env, E, cf, er, h, k1, k2, k3, k4⟩ => by
  obtain ⟨w, e0, h⟩ := onV_ex h
  obtain ⟨v, hv, r⟩ := er.2 i w e0
  refine ⟨v, hv, B, m, S, env, _, cf, er, h, fun y S1 h1 vy H1 B1 m1 n1 ry => ?_⟩
  exact ⟨B1, m1, S1, w, y, _, n1.cf, r.nx n1, ry, h1, fun z S2 h2 vz H2 B2 m2 n2 rz => k1 _ _ h2 _ _ _ _ (n1.trans n2) ((er.nx (n1.trans n2)).set i rz)⟩⟩
end
end DL
namespace DL
open PySem PySem.Spec PyProof.Rows L2

mutual
def toPy : D → PyData
  | .non => .none
  | .bl b => .bool b
  | .int i => .int i
  | .str x => .str x
  | .tup ds => .tuple (toPyL ds)
  | .lst ds => .list (toPyL ds)
  | .obj _ _ => .none
  | .scr _ => .none
  | .ty _ => .none
def toPyL : List D → List PyData
  | [] => []
  | d :: ds => toPy d :: toPyL ds
end
mutual
def okD : Nat → D → Bool
  | _, .non => true
  | _, .bl _ => true
  | _, .int _ => true
  | _, .str x => PyData.strOk x
  | 0, .tup _ => false
  | 0, .lst _ => false
  | n + 1, .tup ds => okDL n ds
  | n + 1, .lst ds => okDL n ds
  | _, .obj _ _ => false
  | _, .scr _ => false
  | _, .ty _ => false
def okDL : Nat → List D → Bool
  | _, [] => true
  | n, d :: ds => okD n d && okDL n ds
end
mutual
theorem okD_lay : ∀ (d : D) (n : Nat), okD n d = true → (toPy d).canLay0 = true ∧ (toPy d).depth ≤ n
  | .non, n, _ => ⟨rfl, Nat.zero_le _⟩
  | .bl _, n, _ => ⟨rfl, Nat.zero_le _⟩
  | .int _, n, _ => ⟨rfl, Nat.zero_le _⟩
  | .str x, n, h => ⟨by cases n <;> exact h, Nat.zero_le _⟩
  | .tup ds, 0, h => by cases h
  | .lst ds, 0, h => by cases h
  | .tup ds, n + 1, h => by
    obtain ⟨h1, h2⟩ := okDL_lay ds n h
    exact ⟨h1, Nat.succ_le_succ h2⟩
  | .lst ds, n + 1, h => by
    obtain ⟨h1, h2⟩ := okDL_lay ds n h
    exact ⟨h1, Nat.succ_le_succ h2⟩
  | .obj _ _, n, h => by cases n <;> cases h
  | .scr _, n, h => by cases n <;> cases h
  | .ty _, n, h => by cases n <;> cases h
theorem okDL_lay : ∀ (ds : List D) (n : Nat), okDL n ds = true → PyData.canLayAll0 (toPyL ds) = true ∧ PyData.depthAll (toPyL ds) ≤ n
  | [], n, _ => ⟨rfl, Nat.zero_le _⟩
  | d :: ds, n, h => by
    unfold okDL at h
    rw [Bool.and_eq_true] at h
    obtain ⟨h1, h2⟩ := okD_lay d n h.1
    obtain ⟨h3, h4⟩ := okDL_lay ds n h.2
    refine ⟨?_, ?_⟩
    · show ((toPy d).canLay0 && PyData.canLayAll0 (toPyL ds)) = true
      rw [h1, h3]
      rfl
    · show max (toPy d).depth (PyData.depthAll (toPyL ds)) ≤ n
      exact Nat.max_le.mpr ⟨h2, h4⟩
end
mutual
theorem okD_mono : ∀ (d : D) (n k : Nat), n ≤ k → okD n d = true → okD k d = true
  | .non, n, k, _, _ => by cases k <;> rfl
  | .bl _, n, k, _, _ => by cases k <;> rfl
  | .int _, n, k, _, _ => by cases k <;> rfl
  | .str x, n, k, _, h => by cases n <;> cases k <;> exact h
  | .tup ds, 0, k, _, h => by cases h
  | .lst ds, 0, k, _, h => by cases h
  | .tup ds, n + 1, 0, hk, h => by omega
  | .lst ds, n + 1, 0, hk, h => by omega
  | .tup ds, n + 1, k + 1, hk, h => okDL_mono ds n k (by omega) h
  | .lst ds, n + 1, k + 1, hk, h => okDL_mono ds n k (by omega) h
  | .obj _ _, n, k, _, h => by cases n <;> cases h
  | .scr _, n, k, _, h => by cases n <;> cases h
  | .ty _, n, k, _, h => by cases n <;> cases h
theorem okDL_mono : ∀ (ds : List D) (n k : Nat), n ≤ k → okDL n ds = true → okDL k ds = true
  | [], _, _, _, _ => rfl
  | d :: ds, n, k, hk, h => by
    unfold okDL at h ⊢
    rw [Bool.and_eq_true] at h ⊢
    exact ⟨okD_mono d n k hk h.1, okDL_mono ds n k hk h.2⟩
end
theorem okD_shaped {d : D} {n : Nat} (h : okD n d = true) (hn : n ≤ 64) : SeqAt.shaped (toPy d) = true := by
  obtain ⟨h1, h2⟩ := okD_lay d n h
  unfold SeqAt.shaped
  rw [h1, decide_eq_true (Nat.le_trans h2 hn)]
  rfl
mutual
theorem Rp.dp {K : PySem.W.Frag} {B : Hp} : ∀ {d : D} {v : V} (n : Nat), okD n d = true → Rp K B d v → Dp K B v (toPy d)
  | _, _, _, _, .non => .non
  | _, _, _, _, .bl => .bl _
  | _, _, _, _, .int => .int _
  | _, _, _, _, .str => .str _
  | _, _, n + 1, h, .tup s r => .tup s (RpL.dp n h r)
  | _, _, n + 1, h, .lst s r => .lst (.of s) (RpL.dp n h r)
  | _, _, 0, h, .tup s r => by cases h
  | _, _, 0, h, .lst s r => by cases h
  | _, _, n, h, .obj _ _ => by cases n <;> cases h
  | _, _, n, h, .scr _ => by cases n <;> cases h
  | _, _, n, h, .ty => by cases n <;> cases h
theorem RpL.dp {K : PySem.W.Frag} {B : Hp} : ∀ {ds : List D} {vs : List V} (n : Nat), okDL n ds = true → RpL K B ds vs → DpAll K B vs (toPyL ds)
  | _, _, _, _, .nil => .nil
  | d :: ds, _, n, h, .cons r t => by
    unfold okDL at h
    rw [Bool.and_eq_true] at h
    exact .cons (Rp.dp n h.1 r) (RpL.dp n h.2 t)
end
def eqD (a b : D) : Bool := PyData.eqv (toPy a) (toPy b)
def dW (S : Sto) : W → Option D
  | .fz d => some d
  | .hd n => match S[n]? with
    | some (.lst ws) => (fzL ws).map D.lst
    | _ => none
  | .tp _ => none
  | .xo _ _ _ => none
theorem Dp.mono {K : PySem.W.Frag} {H H' : Hp} (s : Sub H H') : ∀ {v : V} {d : PyData}, Dp K H v d → Dp K H' v d := by
  intro v d h
  refine Dp.rec (motive_1 := fun v d _ => Dp K H' v d) (motive_2 := fun v d _ => DpAll K H' v d) .non .bl .int .str (fun h _ ih => .lst (s.seqL h) ih) (fun h _ ih => .tup (s.seqT h) ih) .nil (fun _ _ a b => .cons a b) h
section
variable {K : PySem.W.Frag} {F : Fx} {B B' : Hp} {m m' : List Addr} {S S' : Sto} {H H' : Hp} {env : En} {σ : L2.St}
theorem dW_ok (c : Cf K F B m S H) {w : W} {x : V} {d : D} (r : RW K B m w x) (h : dW S w = some d) : Rp K H d x := by
  unfold dW at h
  split at h
  · cases h
    cases r with
    | fz r => exact r.mono c.sub
  · split at h
    · rename_i ws e
      cases q : fzL ws with
      | none => rw [q] at h; cases h
      | some ds =>
        rw [q] at h
        cases h
        obtain ⟨a, vs, e1, _, h1, h2⟩ := c.lst r e
        subst e1
        rw [fzL_eq q] at h2
        exact .lst h1 (h2.fz.mono c.sub)
    · cases h
  · cases h
  · cases h
end

def strLt (a b : Str) : Bool := decide (a.cps.toList < b.cps.toList)
def addW (own : Bool) : DR2 := fun x y S Kp => match x, y with
  | .fz (.int i), .fz (.int j) => Kp (.fz (.int (i + j))) S
  | .fz (.str a), .fz (.str b) => a.length + b.length ≤ sizeLine ∧ Kp (.fz (.str (a ++ b))) S
  | x, y => match vT x with
    | some xs => onO (vT y) fun ys => xs.length + ys.length ≤ sizeLine ∧ Kp (mkT (xs ++ ys)) S
    | none => onO (vL S x) fun xs => onO (vL S y) fun ys => xs.length + ys.length ≤ sizeLine ∧ newL own (xs ++ ys) S Kp
def intW (C : Int → Int → Prop) (f : Int → Int → Int) : DR2 := fun x y S Kp => match x, y with
  | .fz (.int i), .fz (.int j) => C i j ∧ Kp (.fz (.int (f i j))) S
  | _, _ => False
theorem intW_ex {C : Int → Int → Prop} {f : Int → Int → Int} {x y : W} {S : Sto} {Kp : WK} (h : intW C f x y S Kp) : ∃ i j, x = .fz (.int i) ∧ y = .fz (.int j) ∧ C i j ∧ Kp (.fz (.int (f i j))) S := by
  unfold intW at h
  split at h
  · exact ⟨_, _, rfl, rfl, h⟩
  · exact h.elim
abbrev subW : DR2 := intW (fun _ _ => True) (fun i j => i - j)
def CMulX (i j : Int) : Prop := CMul i j ∨ CMulW i j
abbrev mulW : DR2 := intW CMulX (fun i j => i * j)
abbrev modW : DR2 := intW (fun _ j => 0 < j) (fun i j => i % j)
abbrev fdivW : DR2 := intW CDivW (fun i j => i / j)
abbrev powW : DR2 := intW CPow (fun i j => i ^ j.toNat)
def cmpW (pi : Int → Int → Bool) (ps : Str → Str → Bool) : DR2 := fun x y S Kp => match x, y with
  | .fz (.int i), .fz (.int j) => Kp (.fz (.bl (pi i j))) S
  | .fz (.str a), .fz (.str b) => Kp (.fz (.bl (ps a b))) S
  | _, _ => False
abbrev ltW : DR2 := cmpW (fun i j => decide (i < j)) strLt
abbrev gtW : DR2 := cmpW (fun i j => decide (j < i)) (fun a b => strLt b a)
abbrev geW : DR2 := cmpW (fun i j => decide (j ≤ i)) (fun a b => !strLt a b)
def eqW : DR2 := fun x y S Kp => onO (dW S x) fun a => onO (dW S y) fun b => (okD 64 a = true ∧ okD 64 b = true) ∧ Kp (.fz (.bl (eqD a b))) S
def neW : DR2 := fun x y S Kp => onO (dW S x) fun a => onO (dW S y) fun b => (okD 64 a = true ∧ okD 64 b = true) ∧ Kp (.fz (.bl (!eqD a b))) S
def ixW : DR2 := fun x y S Kp => match y with
  | .fz (.int i) => match x with
    | .fz (.str z) => z.length ≤ sizeLine ∧ onO (atI z.cps.toList i) fun c => Kp (.fz (.str ⟨#[c]⟩)) S
    | x => onO (vS S x) fun ws => onO (atI ws i) fun w => Kp w S
  | _ => False
section
variable {X : Cx} {Ξ : Xt}
theorem KW.here {K : PySem.W.Frag} {F : Fx} {B : Hp} {m : List Addr} {S : Sto} {H : Hp} {Kp : WK} {Q : VK} {w : W} {v : V} (k : KW K F Kp B m H Q) (c : Cf K F B m S H) (h : Kp w S) (r : RW K B m w v) : Q v H := k _ _ h _ _ _ _ c.nx r
theorem od_int {f : Value → Value → Sem Value} {C : Int → Int → Prop} {g : Int → Int → Int} (h : OpR X f (rI C fun i j => .int (g i j))) : OpD X f (intW C g) := fun F => OpR.imp h fun x y H Q ⟨B, m, S, wx, wy, Kp, cf, rx, ry, h0, k⟩ => by
  obtain ⟨i, j, e1, e2, hc, hk⟩ := intW_ex h0
  subst e1; subst e2
  exact ⟨i, j, rx.int_of, ry.int_of, hc, k.here cf hk (.fz .int)⟩
theorem OpR.t {f : Value → Value → Sem Value} {g : Int → Int → V} (h : OpR X f (rI0 g)) : OpR X f (rI (fun _ _ => True) g) := OpR.imp h fun x y H Q ⟨i, j, a, b, _, q⟩ => ⟨i, j, a, b, q⟩
theorem od_sub : OpD X (binaryOp .Sub) subW := od_int (OpR.t op_sub)
theorem od_mul : OpD X (binaryOp .Mult) mulW := od_int (OpR.imp (OpR.or op_mul op_mulW) fun x y H Q ⟨i, j, a, b, h, q⟩ => h.elim (fun h => .inl ⟨i, j, a, b, h, q⟩) fun h => .inr ⟨i, j, a, b, h, q⟩)
theorem od_mod : OpD X (binaryOp .Mod) modW := od_int op_mod
theorem od_fdiv : OpD X (binaryOp .FloorDiv) fdivW := od_int op_fdivW
theorem od_pow : OpD X (binaryOp .Pow) powW := od_int op_pow
theorem imp_add {F : Fx} {own : Bool} (x y : V) (H : Hp) (Q : VK) (h : lR2 X.K F (addW own) x y H Q) : (rI0 (fun i j => .int (i + j)) x y H Q) ∨ ((∃ i j, x = .str i ∧ y = .str j ∧ i.length + j.length ≤ sizeLine ∧ Q (.str (i ++ j)) H) ∨ (rCatA X.K x y H Q ∨ rCat x y H Q)) := by
  obtain ⟨B, m, S, wx, wy, Kp, cf, rx, ry, h, k⟩ := h
  unfold addW at h
  split at h
  · exact .inl ⟨_, _, rx.int_of, ry.int_of, k.here cf h (.fz .int)⟩
  · exact .inr (.inl ⟨_, _, rx.str_of, ry.str_of, h.1, k.here cf h.2 (.fz .str)⟩)
  · split at h
    · rename_i xs e
      obtain ⟨ys, e2, hz, h⟩ := onO_ex h
      obtain ⟨a, vs, ea, sa, ra⟩ := vT_ok rx e
      obtain ⟨b, us, eb, sb, rb⟩ := vT_ok ry e2
      have sa' := cf.sub.seqT sa
      have sb' := cf.sub.seqT sb
      refine .inr (.inr (.inl ⟨a, b, vs, us, ea, eb, sa', sb', by rw [← ra.length, ← rb.length]; exact hz, fun e0 => ?_, fun _ e0 => ?_, fun _ _ p hp => ?_⟩))
      · subst e0
        cases ra
        exact k.here cf h (mkT_ok rb sb)
      · subst e0
        cases rb
        rw [List.append_nil] at h
        exact k.here cf h (mkT_ok ra sa)
      · have n2 := cf.alloc (o := .tup (vs ++ us)) hp
        exact k _ _ h _ _ _ _ n2 (mkT_ok ((ra.nx n2).append (rb.nx n2)) (.of upd_same))
    · obtain ⟨xs, e1, h⟩ := onO_ex h
      obtain ⟨ys, e2, hz, h⟩ := onO_ex h
      obtain ⟨a, vs, ea, sa, ra⟩ := vL_ok cf rx e1
      obtain ⟨b, us, eb, sb, rb⟩ := vL_ok cf ry e2
      exact .inr (.inr (.inr ⟨a, b, vs, us, ea, eb, sa, sb, by rw [← ra.length, ← rb.length]; exact hz, fun p hp => newL_ok cf (ra.append rb) h k hp⟩))
theorem od_add (own : Bool) : OpD X (binaryOp .Add) (addW own) := fun F => OpR.imp (OpR.or op_add (OpR.or op_add_str (OpR.or op_catA op_cat))) imp_add
def iaddW : DR2 := fun x y S Kp => match x, y with
  | .fz (.int i), .fz (.int j) => Kp (.fz (.int (i + j))) S
  | .fz (.str a), .fz (.str b) => a.length + b.length ≤ sizeLine ∧ Kp (.fz (.str (a ++ b))) S
  | .hd n, y => match S[n]? with
    | some (.lst xs) => onO (vL S y) fun ys => xs.length + ys.length ≤ sizeLine ∧ Kp (.hd n) (S.set n (.lst (xs ++ ys)))
    | _ => False
  | _, _ => False
theorem od_iadd : OpD X (inplaceOp .Add) iaddW := fun F => OpR.imp (OpR.or iop_add (OpR.or iop_add_str iop_ext)) fun x y H Q ⟨B, m, S, wx, wy, Kp, cf, rx, ry, h, k⟩ => by
  unfold iaddW at h
  split at h
  · exact .inl ⟨_, _, rx.int_of, ry.int_of, k.here cf h (.fz .int)⟩
  · exact .inr (.inl ⟨_, _, rx.str_of, ry.str_of, h.1, k.here cf h.2 (.fz .str)⟩)
  · rename_i n _
    split at h
    rotate_left
    · exact h.elim
    rename_i xs e1
    obtain ⟨ys, e2, hz, h⟩ := onO_ex h
    obtain ⟨a, vs, ea, em, sa, ra⟩ := cf.lst rx e1
    obtain ⟨b, us, eb, sb, rb⟩ := vL_ok cf ry e2
    have n2 := cf.write (o := .lst (vs ++ us)) (od := .lst (xs ++ ys)) em e1 (fun z => nomatch z) ⟨_, rfl, ra.append rb⟩
    subst ea
    exact .inr (.inr ⟨a, b, vs, us, rfl, eb, sa, sb, by rw [← ra.length, ← rb.length]; exact hz, k _ _ h _ _ _ _ n2 (.hd em)⟩)
  · cases h
theorem op_gt_str : OpR X (compareOp .Gt) (fun x y H Q => ∃ i j, x = .str i ∧ y = .str j ∧ Q (.bl (strLt j i)) H) := by
  intro pins s σ H x y v u Q I rx ry ⟨i, j, e1, e2, q⟩
  subst e1; subst e2
  obtain ⟨t, rfl⟩ := rx
  obtain ⟨t', rfl⟩ := ry
  exact PySem.P.gt_str ⟨_, H, I, by unfold strLt; first | rfl | simp, q⟩
theorem op_ge_str : OpR X (compareOp .GtE) (fun x y H Q => ∃ i j, x = .str i ∧ y = .str j ∧ Q (.bl (!strLt i j)) H) := by
  intro pins s σ H x y v u Q I rx ry ⟨i, j, e1, e2, q⟩
  subst e1; subst e2
  obtain ⟨t, rfl⟩ := rx
  obtain ⟨t', rfl⟩ := ry
  exact PySem.P.ge_str ⟨_, H, I, by unfold strLt; first | rfl | simp, q⟩
theorem od_cmp {op : CmpOp} {pi : Int → Int → Bool} {ps : Str → Str → Bool} (h1 : OpR X (compareOp op) (rI0 fun i j => .bl (pi i j))) (h2 : OpR X (compareOp op) (fun x y H Q => ∃ i j, x = .str i ∧ y = .str j ∧ Q (.bl (ps i j)) H)) :
    OpD X (compareOp op) (cmpW pi ps) := fun F => OpR.imp (OpR.or h1 h2) fun x y H Q ⟨B, m, S, wx, wy, Kp, cf, rx, ry, h, k⟩ => by
  unfold cmpW at h
  split at h
  · exact .inl ⟨_, _, rx.int_of, ry.int_of, k.here cf h (.fz .bl)⟩
  · exact .inr ⟨_, _, rx.str_of, ry.str_of, k.here cf h (.fz .bl)⟩
  · cases h
theorem od_lt : OpD X (compareOp .Lt) ltW := od_cmp op_lt op_lt_str
theorem od_gt : OpD X (compareOp .Gt) gtW := od_cmp op_gt op_gt_str
theorem od_ge : OpD X (compareOp .GtE) geW := od_cmp op_ge op_ge_str
theorem od_eq (hu : X.A.units + 64 < cLine) : OpD X (compareOp .Eq) eqW := fun F => OpR.imp (op_eqD hu) fun x y H Q ⟨B, m, S, wx, wy, Kp, cf, rx, ry, h0, k⟩ => by
  obtain ⟨a, h1, h0⟩ := onO_ex h0
  obtain ⟨b, h2, ⟨h3, h4⟩, h⟩ := onO_ex h0
  exact ⟨toPy a, toPy b, (dW_ok cf rx h1).dp _ h3, (dW_ok cf ry h2).dp _ h4, okD_shaped h3 (Nat.le_refl _), okD_shaped h4 (Nat.le_refl _), k.here cf h (.fz .bl)⟩
theorem od_ne (hu : X.A.units + 64 < cLine) : OpD X (compareOp .NotEq) neW := fun F => OpR.imp (op_neD hu) fun x y H Q ⟨B, m, S, wx, wy, Kp, cf, rx, ry, h0, k⟩ => by
  obtain ⟨a, h1, h0⟩ := onO_ex h0
  obtain ⟨b, h2, ⟨h3, h4⟩, h⟩ := onO_ex h0
  exact ⟨toPy a, toPy b, (dW_ok cf rx h1).dp _ h3, (dW_ok cf ry h2).dp _ h4, okD_shaped h3 (Nat.le_refl _), okD_shaped h4 (Nat.le_refl _), k.here cf h (.fz .bl)⟩
theorem RWL.at {K : PySem.W.Frag} {B : Hp} {m : List Addr} {ws : List W} {vs : List V} (r : RWL K B m ws vs) {i : Int} {w : W} (h : atI ws i = some w) : ∃ v, atI vs i = some v ∧ RW K B m w v := by
  unfold atI at h ⊢
  rw [← r.length]
  cases e : ixN ws.length i with
  | none => rw [e] at h; cases h
  | some j =>
    rw [e] at h
    exact r.get h
theorem ixd : IxD X ixW := fun F => IxR.imp ix_seq fun x y H Q ⟨B, m, S, wx, wy, Kp, cf, rx, ry, h, k⟩ => by
  unfold ixW at h
  split at h
  rotate_left
  · exact h.elim
  split at h
  · obtain ⟨hz, h⟩ := h
    obtain ⟨c, ha, h⟩ := onO_ex h
    exact .inr (.inr ⟨_, _, c, rx.str_of, ry.int_of, hz, ha, k.here cf h (.fz .str)⟩)
  · obtain ⟨ws, hv, h⟩ := onO_ex h
    obtain ⟨w, ha, h⟩ := onO_ex h
    obtain ⟨a, vs, ea, hs, rr⟩ := vS_ok cf rx hv
    obtain ⟨v, hv', rv⟩ := rr.at ha
    rcases hs with hs | hs
    · exact .inl ⟨a, vs, _, v, ea, ry.int_of, hs, hv', k.here cf h rv⟩
    · exact .inr (.inl ⟨a, vs, _, v, ea, ry.int_of, hs, hv', k.here cf h rv⟩)
end
end DL
namespace DL
open PySem PySem.Spec PyProof.Rows L2

mutual
def ren (k n : Nat) : W → W
  | .fz d => .fz d
  | .hd j => .hd (if j < k then j else n + (j - k))
  | .tp ws => .tp (renL k n ws)
  | .xo a d fs => .xo a d fs
def renL (k n : Nat) : List W → List W
  | [] => []
  | w :: ws => ren k n w :: renL k n ws
end
def renOD (k n : Nat) : OD → OD
  | .lst ws => .lst (renL k n ws)
  | .dic kvs => .dic (kvs.map fun p => (p.1, ren k n p.2))
  | .ins C fs => .ins C (fs.map fun p => (p.1, ren k n p.2))
  | .gone => .gone
def mrg (k : Nat) (S S' : Sto) : Sto := (S'.take k).map (renOD k S.length) ++ S.drop k ++ (S'.drop k).map (renOD k S.length)

section
variable {K : PySem.W.Frag} {F : Fx} {B B' : Hp} {m m' : List Addr} {S S' : Sto} {H H' : Hp} {k : Nat}
mutual
theorem RW.unren (hn : m.length = S.length) : ∀ {w : W} {v : V}, RW K B m (ren k S.length w) v → RW K B (m.take k) w v
  | .fz d, _, .fz r => .fz r
  | .hd j, _, h => by
    unfold ren at h
    cases h with
    | hd e =>
      by_cases hj : j < k
      · rw [if_pos hj] at e
        exact .hd (by rw [List.getElem?_take_of_lt hj]; exact e)
      · rw [if_neg hj] at e
        have h1 := (List.getElem?_eq_some_iff.mp e).1
        omega
  | .tp ws, _, .tp s r => .tp s (RWL.unren hn r)
  | .xo _ _ _, _, .xo e0 e r => .xo e0 e r
theorem RWL.unren (hn : m.length = S.length) : ∀ {ws : List W} {vs : List V}, RWL K B m (renL k S.length ws) vs → RWL K B (m.take k) ws vs
  | [], _, .nil => .nil
  | _ :: _, _, .cons r t => .cons (RW.unren hn r) (RWL.unren hn t)
end
mutual
theorem RW.ren (hk : k ≤ m.length) (hn : m.length = S.length) (pr : ∀ (n : Nat) (a : Addr), (m.take k)[n]? = some a → m'[n]? = some a) : ∀ {w : W} {v : V}, RW K B m' w v → RW K B (m ++ m'.drop k) (DL.ren k S.length w) v
  | .fz d, _, .fz r => .fz r
  | .hd j, _, .hd e => by
    unfold DL.ren
    refine .hd ?_
    by_cases hj : j < k
    · rw [if_pos hj, List.getElem?_append_left (by omega)]
      have h1 : m[j]? = some m[j] := List.getElem?_eq_getElem (by omega)
      have h2 := pr j _ (by rw [List.getElem?_take_of_lt hj]; exact h1)
      rw [e] at h2
      rw [h1, h2]
    · rw [if_neg hj, List.getElem?_append_right (by omega), List.getElem?_drop]
      have h3 : k + (S.length + (j - k) - m.length) = j := by omega
      rw [h3]
      exact e
  | .tp ws, _, .tp s r => .tp s (RWL.ren hk hn pr r)
  | .xo _ _ _, _, .xo e0 e r => .xo e0 e r
theorem RWL.ren (hk : k ≤ m.length) (hn : m.length = S.length) (pr : ∀ (n : Nat) (a : Addr), (m.take k)[n]? = some a → m'[n]? = some a) : ∀ {ws : List W} {vs : List V}, RWL K B m' ws vs → RWL K B (m ++ m'.drop k) (renL k S.length ws) vs
  | [], _, .nil => .nil
  | _ :: _, _, .cons r t => .cons (RW.ren hk hn pr r) (RWL.ren hk hn pr t)
end
theorem Paired.mapL {α α' β : Type} {f : α' → α} {R : α → β → Prop} {R' : α' → β → Prop} (h : ∀ a b, R (f a) b → R' a b) : ∀ {xs : List α'} {ys : List β}, Paired R (xs.map f) ys → Paired R' xs ys
  | [], _, .nil => .nil
  | _ :: _, _, .cons r t => .cons (h _ _ r) (Paired.mapL h t)
theorem Paired.mapR {α α' β : Type} {f : α' → α} {R : α → β → Prop} {R' : α' → β → Prop} (h : ∀ a b, R' a b → R (f a) b) : ∀ {xs : List α'} {ys : List β}, Paired R' xs ys → Paired R (xs.map f) ys
  | [], _, .nil => .nil
  | _ :: _, _, .cons r t => .cons (h _ _ r) (Paired.mapR h t)
theorem RO.unren (hn : m.length = S.length) : ∀ {od : OD} {o : HO}, RO K B m (renOD k S.length od) o → RO K B (m.take k) od o
  | .lst _, _, ⟨vs, e, r⟩ => ⟨vs, e, r.unren hn⟩
  | .dic _, _, ⟨vs, e, r⟩ => ⟨vs, e, Paired.mapL (fun _ _ q => ⟨q.1, q.2.unren hn⟩) r⟩
  | .ins _ _, _, ⟨dx, vs, e, r⟩ => ⟨dx, vs, e, Paired.mapL (fun _ _ q => ⟨q.1, q.2.unren hn⟩) r⟩
  | .gone, _, _ => trivial
theorem RO.ren (hk : k ≤ m.length) (hn : m.length = S.length) (pr : ∀ (n : Nat) (a : Addr), (m.take k)[n]? = some a → m'[n]? = some a) : ∀ {od : OD} {o : HO}, RO K B m' od o → RO K B (m ++ m'.drop k) (renOD k S.length od) o
  | .lst _, _, ⟨vs, e, r⟩ => ⟨vs, e, r.ren hk hn pr⟩
  | .dic _, _, ⟨vs, e, r⟩ => ⟨vs, e, Paired.mapR (fun _ _ q => ⟨q.1, q.2.ren hk hn pr⟩) r⟩
  | .ins _ _, _, ⟨dx, vs, e, r⟩ => ⟨dx, vs, e, Paired.mapR (fun _ _ q => ⟨q.1, q.2.ren hk hn pr⟩) r⟩
  | .gone, _, _ => trivial
theorem renOD_gone {n : Nat} {od : OD} (h : od ≠ .gone) : renOD k n od ≠ .gone := by cases od <;> first | exact absurd rfl h | (intro z; cases z)
theorem Cf.lend (c : Cf K F B m S H) {lent : Sto} (hk : k ≤ S.length) (e : S.take k = lent.map (renOD k S.length)) : Cf K ⟨B, H, m.take k, F.T⟩ B (m.take k) lent H := by
  have hl : lent.length = k := by
    have := congrArg List.length e
    rw [List.length_take, List.length_map] at this
    omega
  refine ⟨.refl, c.sub, fun _ _ h => .inl h, fun _ _ h _ _ => h, fun _ h => h, by rw [List.length_take, c.len, hl]; omega, fun _ _ h => h, fun _ _ h => .inl h, fun i j a h1 h2 => ?_, fun n a od h1 h2 => ?_, fun q tq => let ⟨g1, g2, g3⟩ := c.tab q tq; ⟨g1, g2, fun n e => g3 n (by
    have := (List.getElem?_eq_some_iff.mp e).1
    rw [List.length_take] at this
    rw [List.getElem?_take_of_lt (by omega)] at e
    exact e)⟩⟩
  · have g : ∀ i : Nat, (m.take k)[i]? = some a → m[i]? = some a := fun i h => by
      have := (List.getElem?_eq_some_iff.mp h).1
      rw [List.length_take] at this
      rw [List.getElem?_take_of_lt (by omega)] at h
      exact h
    exact c.nd i j a (g i h1) (g j h2)
  · have hn := (List.getElem?_eq_some_iff.mp h2).1
    rw [List.getElem?_take_of_lt (by omega)] at h1
    have h3 : S[n]? = some (renOD k S.length od) := by
      have h4 : (S.take k)[n]? = some (renOD k S.length od) := by rw [e, List.getElem?_map, h2]; rfl
      rw [List.getElem?_take_of_lt (by omega)] at h4
      exact h4
    obtain ⟨o, a1, a2, a3⟩ := c.own n a _ h1 h3
    exact ⟨o, a1, a2.unren c.len, fun z => a3 (renOD_gone z)⟩
theorem Cf.back (c : Cf K F B m S H) (hk : k ≤ S.length) (x : Nx K ⟨B, H, m.take k, F.T⟩ B (m.take k) H B' m' S' H') : Nx K F B m H B' (m ++ m'.drop k) (mrg k S S') H' := by
  obtain ⟨c', sb, pr⟩ := x
  have hkm : k ≤ m.length := by rw [c.len]; exact hk
  have tk : ∀ (n : Nat) (a : Addr), n < k → (m[n]? = some a ↔ (m.take k)[n]? = some a) := fun n a h => by rw [List.getElem?_take_of_lt h]
  have hkm' : k ≤ m'.length := by
    cases k with
    | zero => exact Nat.zero_le _
    | succ j =>
      have h1 : m[j]? = some m[j] := List.getElem?_eq_getElem (by omega)
      have := (List.getElem?_eq_some_iff.mp (pr j _ ((tk j _ (Nat.lt_succ_self _)).mp h1))).1
      omega
  have l1 : (m ++ m'.drop k).length = (mrg k S S').length := by
    unfold mrg
    simp only [List.length_append, List.length_map, List.length_drop, List.length_take]
    have := c.len
    have := c'.len
    omega
  -- the addresses, by place
  have low : ∀ (n : Nat) (a : Addr), n < m.length → (m ++ m'.drop k)[n]? = some a → m[n]? = some a := fun n a h e => by rw [List.getElem?_append_left h] at e; exact e
  have high : ∀ (n : Nat) (a : Addr), ¬ n < m.length → (m ++ m'.drop k)[n]? = some a → m'[k + (n - m.length)]? = some a := fun n a h e => by
    rw [List.getElem?_append_right (by omega), List.getElem?_drop] at e
    exact e
  have newH : ∀ (j : Nat) (a : Addr), k ≤ j → m'[j]? = some a → H a = none := fun j a h e => by
    rcases c'.new j a e with z | z
    · have := (List.getElem?_eq_some_iff.mp z).1
      rw [List.length_take] at this
      omega
    · exact z
  refine ⟨⟨c.b0.trans sb, c'.sub, fun a o e => ?_, fun a o e nl nt => ?_, fun a e => c.dom a (c'.dom a e), l1, fun n a e => Pre.app n a (c.pre n a e), fun n a e => ?_, fun i j a e1 e2 => ?_, fun n a od e1 e2 => ?_, fun q tq => let ⟨g1, g2, g3⟩ := c'.tab q tq; ⟨g1, g2, fun n e => (by
    by_cases h : n < m.length
    · exact (c.tab q tq).2.2 n (low n q h e)
    · exact g3 _ (high n q h e))⟩⟩, sb, .app, fun a o e nm nt => c'.fr a o e (by
    intro z
    obtain ⟨n, hn⟩ := List.getElem?_of_mem z
    exact nm n (by
      have hlt := (List.getElem?_eq_some_iff.mp hn).1
      rw [List.length_take] at hlt
      exact (tk n a (by omega)).mpr hn)) nt, fun n a e => (by
    by_cases h : n < m.length
    · exact .inl (low n a h e)
    · exact .inr (newH _ a (by omega) (high n a h e))), c'.dom, fun a o e => (c'.bnew a o e).imp id .inl⟩
  · rcases c'.bnew a o e with z | z
    · exact c.bnew a o z
    · exact .inr (c.dom a z)
  · have h1 := c.fr a o e nl nt
    refine c'.fr a o h1 (fun z => ?_) nt
    obtain ⟨n, hn⟩ := List.getElem?_of_mem z
    have hlt := (List.getElem?_eq_some_iff.mp hn).1
    rw [List.length_take] at hlt
    have hn' := (tk n a (by omega)).mpr hn
    rcases c.new n a hn' with q | q
    · exact nl (List.mem_of_getElem? q)
    · rw [q] at e; cases e
  · by_cases h : n < m.length
    · exact c.new n a (low n a h e)
    · exact .inr (c.dom a (newH _ a (by omega) (high n a h e)))
  · by_cases h1 : i < m.length <;> by_cases h2 : j < m.length
    · exact c.nd i j a (low i a h1 e1) (low j a h2 e2)
    · have z := newH _ a (by omega) (high j a h2 e2)
      obtain ⟨o, q⟩ := c.there (low i a h1 e1)
      rw [z] at q; cases q
    · have z := newH _ a (by omega) (high i a h1 e1)
      obtain ⟨o, q⟩ := c.there (low j a h2 e2)
      rw [z] at q; cases q
    · have z := c'.nd _ _ a (high i a h1 e1) (high j a h2 e2)
      omega
  · have hSl := c.len
    have hSl' := c'.len
    have t1 : ((S'.take k).map (renOD k S.length)).length = k := by rw [List.length_map, List.length_take]; omega
    have t2 : ((S'.take k).map (renOD k S.length) ++ S.drop k).length = S.length := by rw [List.length_append, t1, List.length_drop]; omega
    by_cases h : n < m.length
    · have e1' := low n a h e1
      by_cases hnk : n < k
      · unfold mrg at e2
        rw [List.getElem?_append_left (by omega), List.getElem?_append_left (by omega), List.getElem?_map, List.getElem?_take_of_lt hnk] at e2
        cases q : S'[n]? with
        | none => rw [q] at e2; cases e2
        | some od' =>
          rw [q] at e2
          cases e2
          obtain ⟨o, a1, a2, a3⟩ := c'.own n a od' (pr n a ((tk n a hnk).mp e1')) q
          exact ⟨o, a1, a2.ren hkm hSl pr, fun z => a3 fun y => z (by rw [y]; rfl)⟩
      · unfold mrg at e2
        rw [List.getElem?_append_left (by omega), List.getElem?_append_right (by omega), t1, List.getElem?_drop] at e2
        have h3 : k + (n - k) = n := by omega
        rw [h3] at e2
        obtain ⟨o, a1, a2, a3⟩ := c.own n a od e1' e2
        refine ⟨o, c'.fr a o a1 (fun z => ?_) (fun tq => (c.tab a tq).2.2 n e1'), a2.mono sb .app, fun z => ?_⟩
        · obtain ⟨i, hi⟩ := List.getElem?_of_mem z
          have hlt := (List.getElem?_eq_some_iff.mp hi).1
          rw [List.length_take] at hlt
          have := c.nd i n a ((tk i a (by omega)).mpr hi) e1'
          omega
        · have nB := a3 z
          cases q : B' a with
          | none => rfl
          | some u =>
            rcases c'.bnew a u q with y | y
            · have y' : B a = some u := y
              rw [nB] at y'; cases y'
            · have y' : H a = none := y
              rw [a1] at y'; cases y'
    · have e1' := high n a h e1
      unfold mrg at e2
      rw [List.getElem?_append_right (by omega), t2, List.getElem?_map, List.getElem?_drop] at e2
      have h3 : k + (n - S.length) = k + (n - m.length) := by omega
      rw [h3] at e2
      cases q : S'[k + (n - m.length)]? with
      | none => rw [q] at e2; cases e2
      | some od' =>
        rw [q] at e2
        cases e2
        obtain ⟨o, a1, a2, a3⟩ := c'.own _ a od' e1' q
        exact ⟨o, a1, a2.ren hkm hSl pr, fun z => a3 fun y => z (by rw [y]; rfl)⟩
end

abbrev DSp := List W → Sto → WK → Prop
def spD (K : PySem.W.Frag) (T : Addr → Prop) (dsp : DSp) : Sp := fun vs H Q _ => ∃ (B : Hp) (L : List Addr) (ws : List W) (lent : Sto) (Kp : WK), Cf K ⟨B, H, L, T⟩ B L lent H ∧ RWL K B L ws vs ∧ dsp ws lent Kp ∧ KW K ⟨B, H, L, T⟩ Kp B L H Q
abbrev PSp := List D → (D → Prop) → Prop
def psp (P : PSp) : DSp := fun ws S Kp => ∃ ds, ws = ds.map W.fz ∧ S = [] ∧ P ds fun d => Kp (.fz d) []
theorem renL_fz (k n : Nat) (ds : List D) : renL k n (ds.map W.fz) = ds.map W.fz := by
  induction ds with
  | nil => rfl
  | cons d ds ih => show ren k n (.fz d) :: renL k n (ds.map W.fz) = _; rw [ih]; rfl
def dCallP (P : PSp) (da : DA) : DE := fun env S Kp => da env S fun ws S1 => onO (fzL ws) fun ds => P ds fun d => Kp (.fz d) S1
def PK (Kp : WK) (S : Sto) : WK := fun w S2 => match w, S2 with
  | .fz d, [] => Kp (.fz d) S
  | _, _ => False
theorem PK_ok {Kp : WK} {S : Sto} {w : W} {S2 : Sto} (h : PK Kp S w S2) : ∃ d, w = .fz d ∧ S2 = [] ∧ Kp (.fz d) S := by
  unfold PK at h
  split at h
  · exact ⟨_, rfl, rfl, h⟩
  · cases h
section
variable {X : Cx} {Ξ : Xt} {k j : Nat} {x : Str} {dsp : DSp} {P : PSp} {p pos : Pos} {e : Expr} {es : List Expr} {da : DA}
abbrev CalD (P : Program) (w : World) (K : PySem.W.Frag) (T : Addr → Prop) (mg : Str → Option Value) (base : Heap) (k : Nat) (x : Str) (dsp : DSp) : Prop := C8.Cal P w K mg base k x (spD K T dsp) []
abbrev CalP (P : Program) (w : World) (K : PySem.W.Frag) (T : Addr → Prop) (mg : Str → Option Value) (base : Heap) (k : Nat) (x : Str) (ps : PSp) : Prop := CalD P w K T mg base k x (psp ps)
theorem dpe_callP (c : CalP X.prog X.w X.K Ξ.T X.mg X.base k x P) (hr : Room j X.A) (hk : k ≤ j) (hg : Gl X x) (ha : DPA X Ξ (e :: es) da)
    (hdb : (x == ("__debug__" : Str)) = false := by decide) (he : starEach (e :: es) X.env = (false, eval e X.env) :: starEach es X.env := by rfl) (hpl : (backTo pos (starEach es X.env)).any (·.1) = false := by rfl) :
    DPE X Ξ (.Call (.Name x p) (e :: es) [] pos) (dCallP P da) := ⟨fun F ok => PE.imp (C8.pe_c c hr hk hg (ha.run F ok) hdb he hpl) fun σ H Q h => by
  obtain ⟨B, m, S, env, Kp, cf, er, h, kw⟩ := h
  refine ⟨B, m, S, env, _, cf, er, h, fun ws S1 h0 vs H1 B1 m1 n1 r => ?_⟩
  obtain ⟨ds, e1, h1⟩ := onO_ex h0
  replace e1 := fzL_eq e1
  show spD X.K Ξ.T (psp P) (vs ++ []) H1 Q E0
  rw [← ok.t]
  rw [List.append_nil]
  subst e1
  have c0 := n1.cf.lend (k := 0) (lent := []) (Nat.zero_le _) rfl
  refine ⟨B1, m1.take 0, ds.map W.fz, [], PK Kp S1, c0, (r.fz).fz, ⟨ds, rfl, rfl, h1⟩, fun w S2 h2 v H2 B2 m2 n2 r2 => ?_⟩
  · obtain ⟨d, ew, eS, h2⟩ := PK_ok h2
    subst eS; subst ew
    have n3 := n1.cf.back (Nat.zero_le _) n2
    have e3 : mrg 0 S1 [] = S1 := by unfold mrg; simp
    rw [e3] at n3
    cases r2 with
    | fz r2 => exact kw _ _ h2 _ _ _ _ (n1.trans n3) (.fz r2)⟩
end
end DL
namespace DL
open PySem PySem.Spec PyProof.Rows L2

def startD (N : List Str) (ws : List W) : En := ws.map some ++ List.replicate (N.length - ws.length) none
section
variable {K : PySem.W.Frag} {F : Fx} {B B' : Hp} {m m' : List Addr} {S S' : Sto} {H H' : Hp}
theorem ER.start {N : List Str} {ws : List W} {vs : List V} (r : RWL K B m ws vs) : ER K B m (startD N ws) (L2.start N vs) := by
  have hl := r.length
  refine ⟨by simp [startD, L2.start, hl], fun i w e => ?_⟩
  unfold startD at e
  by_cases h : i < ws.length
  · rw [List.getElem?_append_left (by simpa using h), List.getElem?_map] at e
    cases q : ws[i]? with
    | none => rw [q] at e; cases e
    | some w' =>
      rw [q] at e
      cases e
      obtain ⟨v, h1, h2⟩ := r.get q
      refine ⟨v, ?_, h2⟩
      unfold L2.start
      rw [List.getElem?_append_left (by rw [List.length_map, ← hl]; exact h), List.getElem?_map, h1]
      rfl
  · rw [List.getElem?_append_right (by simpa using h), List.getElem?_replicate] at e
    split at e <;> cases e
mutual
def bdW (n : Nat) : W → Bool
  | .fz _ => true
  | .hd j => decide (j < n)
  | .tp ws => bdL n ws
  | .xo _ _ _ => true
def bdL (n : Nat) : List W → Bool
  | [] => true
  | w :: ws => bdW n w && bdL n ws
end
def bdO (n : Nat) : OD → Bool
  | .lst ws => bdL n ws
  | .dic kvs => kvs.all fun p => bdW n p.2
  | .ins _ fs => fs.all fun p => bdW n p.2
  | .gone => true
mutual
theorem RW.cut {n : Nat} : ∀ {w : W} {v : V}, bdW n w = true → RW K B m w v → RW K B (m.take n) w v
  | .fz d, _, _, .fz r => .fz r
  | .hd j, _, h, .hd e => .hd (by rw [List.getElem?_take_of_lt (of_decide_eq_true h)]; exact e)
  | .tp ws, _, h, .tp s r => .tp s (RWL.cut h r)
  | .xo _ _ _, _, _, .xo e0 e r => .xo e0 e r
theorem RWL.cut {n : Nat} : ∀ {ws : List W} {vs : List V}, bdL n ws = true → RWL K B m ws vs → RWL K B (m.take n) ws vs
  | [], _, _, .nil => .nil
  | w :: ws, _, h, .cons r t => by
    unfold bdL at h
    rw [Bool.and_eq_true] at h
    exact .cons (RW.cut h.1 r) (RWL.cut h.2 t)
end
theorem Paired.mapA {α β : Type} {R R' : α → β → Prop} : ∀ {xs : List α} {ys : List β}, (∀ a ∈ xs, ∀ b, R a b → R' a b) → Paired R xs ys → Paired R' xs ys
  | _, _, _, .nil => .nil
  | _, _, h, .cons r t => .cons (h _ List.mem_cons_self _ r) (Paired.mapA (fun a ha => h a (List.mem_cons_of_mem _ ha)) t)
theorem RO.cut {n : Nat} : ∀ {od : OD} {o : HO}, bdO n od = true → RO K B m od o → RO K B (m.take n) od o
  | .lst _, _, h, ⟨vs, e, r⟩ => ⟨vs, e, r.cut h⟩
  | .dic _, _, h, ⟨vs, e, r⟩ => ⟨vs, e, Paired.mapA (fun a ha _ q => ⟨q.1, q.2.cut (List.all_eq_true.mp h a ha)⟩) r⟩
  | .ins _ _, _, h, ⟨dx, vs, e, r⟩ => ⟨dx, vs, e, Paired.mapA (fun a ha _ q => ⟨q.1, q.2.cut (List.all_eq_true.mp h a ha)⟩) r⟩
  | .gone, _, _, _ => trivial
theorem take_sub {n i : Nat} {a : Addr} (h : (m.take n)[i]? = some a) : m[i]? = some a ∧ i < n := by
  have := (List.getElem?_eq_some_iff.mp h).1
  rw [List.length_take] at this
  rw [List.getElem?_take_of_lt (by omega)] at h
  exact ⟨h, by omega⟩
theorem Cf.cut {S1 S2 : Sto} (c : Cf K F B m (S1 ++ S2) H) (hl : F.L.length ≤ S1.length) (hb : S1.all (bdO S1.length) = true) : Cf K F B (m.take S1.length) S1 H := by
  have hm := c.len
  rw [List.length_append] at hm
  refine ⟨c.b0, c.sub, c.bnew, c.fr, c.dom, by rw [List.length_take]; omega, fun n a e => ?_, fun n a e => c.new n a (take_sub e).1, fun i j a e1 e2 => c.nd i j a (take_sub e1).1 (take_sub e2).1, fun n a od e1 e2 => ?_, fun q tq => let ⟨g1, g2, g3⟩ := c.tab q tq; ⟨g1, g2, fun n e => g3 n (take_sub e).1⟩⟩
  · have := (List.getElem?_eq_some_iff.mp e).1
    rw [List.getElem?_take_of_lt (by omega)]
    exact c.pre n a e
  · obtain ⟨e1, hn⟩ := take_sub e1
    obtain ⟨o, h1, h2, h3⟩ := c.own n a od e1 (by rw [List.getElem?_append_left hn]; exact e2)
    exact ⟨o, h1, h2.cut (List.all_eq_true.mp hb od (List.mem_of_getElem? e2)), h3⟩
end
theorem Nx.cut {K : PySem.W.Frag} {F : Fx} {B B' : Hp} {m m' : List Addr} {H H' : Hp} {S1 S2 : Sto} (n : Nx K F B m H B' m' (S1 ++ S2) H') (hl : F.L.length ≤ S1.length) (hb : S1.all (bdO S1.length) = true) (hm : m.length ≤ S1.length) :
    Nx K F B m H B' (m'.take S1.length) S1 H' :=
  ⟨n.cf.cut hl hb, n.sb, fun i a q => by
    rw [List.getElem?_take_of_lt (by have := (List.getElem?_eq_some_iff.mp q).1; omega)]; exact n.pr i a q, n.kp, fun i a q => n.nw i a (take_sub q).1, n.dm, n.bn⟩
def fin (l : Nat) (Kp : WK) : WK := fun w S' => ∃ S1 S2, S' = S1 ++ S2 ∧ l ≤ S1.length ∧ bdW S1.length w = true ∧ S1.all (bdO S1.length) = true ∧ Kp w S1
section
variable {P : Program} {w : World} {K : PySem.W.Frag} {T : Addr → Prop} {mg : Str → Option Value} {base : Heap}
theorem Cf.freeze {F : Fx} {B : Hp} {m : List Addr} {S : Sto} {H : Hp} (c : Cf K F B m S H) (hL : F.L = []) {w : W} {v : V} {d : D} (r : RW K B m w v) (h : dW S w = some d) : ∃ B', Cf K F B' [] [] H ∧ Sub B B' ∧ Rp K B' d v := by
  have c0 : Cf K F B (m.take 0) [] H := Cf.cut (S1 := []) (S2 := S) c (by rw [hL]; exact Nat.le_refl _) rfl
  rw [List.take_zero] at c0
  unfold dW at h
  split at h
  · cases h
    cases r with
    | fz r => exact ⟨B, c0, .refl, r⟩
  · split at h
    · rename_i n _ ws e
      cases q : fzL ws with
      | none => rw [q] at h; cases h
      | some ds =>
        rw [q] at h
        cases h
        obtain ⟨a, vs, e1, em, h1, h2⟩ := c.lst r e
        subst e1
        have nB : B a = none := by
          obtain ⟨_, _, _, g⟩ := c.own n a _ em e
          exact g fun z => nomatch z
        have sb : Sub B (upd B a (.lst vs)) := fun x u y => by rw [upd_ne (ne_of_none y nB)]; exact y
        have nH : F.H a = none := by
          rcases c.new n a em with z | z
          · rw [hL] at z; simp at z
          · exact z
        refine ⟨upd B a (.lst vs), ⟨c.b0.trans sb, fun x u y => ?_, fun x u y => ?_, c.fr, c.dom, rfl, c0.pre, c0.new, c0.nd, c0_own, fun q tq => let ⟨g1, g2, g3⟩ := c.tab q tq; ⟨g1, by rw [upd_ne (fun z => g3 n (by rw [z]; exact em))]; exact g2, fun i e => by simp at e⟩⟩, sb, ?_⟩
        · by_cases z : x = a
          · subst z; rw [upd_same] at y; cases y; exact h1
          · rw [upd_ne z] at y; exact c.sub _ _ y
        · by_cases z : x = a
          · subst z; exact .inr nH
          · rw [upd_ne z] at y; exact c.bnew _ _ y
        · rw [fzL_eq q] at h2
          exact .lst upd_same ((h2.mono sb .refl).fz)
    · cases h
  · cases h
  · cases h
where c0_own {B : Hp} {H : Hp} : ∀ (n : Nat) (a : Addr) (od : OD), ([] : List Addr)[n]? = some a → ([] : Sto)[n]? = some od → ∃ o, H a = some o ∧ RO K B [] od o ∧ (od ≠ .gone → B a = none) := fun n a od h => by simp at h
theorem calp {x : Str} {st : Stmt} {f : Addr} {fd : FuncData} {N ps : List Str} {k : Nat} {Q : PSp} {ds : DS} (F : C8.Def K mg x st f fd) (b : Binds K fd ps []) (S : FnScope N ps (C8.fnScope st))
    (len : ∀ xs Kp, Q xs Kp → xs.length = ps.length)
    (hbody : ∀ (cdv : Value) (A : Around) (outer : List Env) (s : Shared) (H : Hp) (E : XK), Room k (A.deeper (envOfC x (C8.fnScope st) s.heap.objs.size f cdv)) → DPSs (cxOf CX0 P w K mg base N x (C8.fnScope st) f cdv A outer s H E).nox (Xt.of T) (C8.fnBody st) ds)
    (hread : ∀ xs Kp, Q xs Kp → ds ⟨fun _ _ => Kp .non, fun u S' => onO (dW S' u) fun d => Kp d, fun _ _ => False, fun _ _ => False⟩ (startD N (xs.map W.fz)) []) : CalP P w K T mg base (k + 1) x Q := by
  refine C8.cal0 F b .nil S (fun vs H Q' E ⟨B, L, ws, lent, Kp, _, r, ⟨xs, e, _, h⟩, _⟩ => by rw [← r.length, e, List.length_map]; exact len _ _ h) fun cdv A outer s H vs Q' E hr ⟨B, L, ws, lent, Kp, c, r, ⟨xs, e, e2, h⟩, kw⟩ => ?_
  subst e; subst e2
  have hL : L = [] := List.eq_nil_of_length_eq_zero c.len
  subst hL
  refine ⟨_, (hbody cdv A outer s H E hr).run ⟨B, H, [], T⟩ (.of rfl), B, [], [], _, _, c, ER.start r, hread xs _ h, ?_, ?_, fun _ _ z => z.elim, fun _ _ z => z.elim⟩
  · rintro env S' hk σ' H' B' m' n er
    have n2 := Nx.cut (S1 := []) (S2 := S') n (Nat.le_refl _) rfl (Nat.le_refl _)
    rw [List.length_nil, List.take_zero] at n2
    exact kw _ _ hk _ _ _ _ n2 (.fz .non)
  · rintro u S' hk v H' B' m' n r'
    obtain ⟨d, hd, hk⟩ := onO_ex hk
    obtain ⟨B2, c2, sb2, r2⟩ := n.cf.freeze rfl r' hd
    exact kw _ _ hk _ _ _ _ ⟨c2, n.sb.trans sb2, .refl, n.kp, fun _ _ h => .inl h, n.dm, fun a o e => (c2.bnew a o e).imp id .inl⟩ (.fz r2)
theorem CalP.imp {k : Nat} {x : Str} {Q Q' : PSp} (c : CalP P w K T mg base k x Q) (h : ∀ xs Kp, Q' xs Kp → Q xs Kp) : CalP P w K T mg base k x Q' := by
  obtain ⟨f, fd, ps, ds, F, r⟩ := c.ex
  exact ⟨f, fd, ps, ds, F.imp fun vs H Q E ⟨B, L, ws, lent, Kp, c, rr, ⟨xs, e, e2, hq⟩, kw⟩ => ⟨B, L, ws, lent, Kp, c, rr, ⟨xs, e, e2, h _ _ hq⟩, kw⟩, r⟩
theorem CalP.mono {j k : Nat} {x : Str} {Q : PSp} (c : CalP P w K T mg base k x Q) (h : k ≤ j) : CalP P w K T mg base j x Q := by
  obtain ⟨f, fd, ps, ds, F, r⟩ := c.ex
  exact ⟨f, fd, ps, ds, F.mono h, r⟩
theorem CalD.imp {k : Nat} {x : Str} {Q Q' : DSp} (c : CalD P w K T mg base k x Q) (h : ∀ xs S Kp, Q' xs S Kp → Q xs S Kp) : CalD P w K T mg base k x Q' := by
  obtain ⟨f, fd, ps, ds, F, r⟩ := c.ex
  exact ⟨f, fd, ps, ds, F.imp fun vs H Q E ⟨B, L, ws, lent, Kp, c, rr, hq, kw⟩ => ⟨B, L, ws, lent, Kp, c, rr, h _ _ _ hq, kw⟩, r⟩
theorem CalD.mono {j k : Nat} {x : Str} {Q : DSp} (c : CalD P w K T mg base k x Q) (h : k ≤ j) : CalD P w K T mg base j x Q := by
  obtain ⟨f, fd, ps, ds, F, r⟩ := c.ex
  exact ⟨f, fd, ps, ds, F.mono h, r⟩
end

def dCB (dr : DRL) (da : DA) : DE := fun env S Kp => da env S fun ws S1 => dr ws S1 Kp
def lenW : DRL := fun ws S Kp => match ws with
  | [.fz (.str z)] => z.length ≤ sizeLine ∧ Kp (.fz (.int (z.length : Int))) S
  | [x] => onO (vS S x) fun ws => Kp (.fz (.int (ws.length : Int))) S
  | _ => False
def ordW : DRL := fun ws S Kp => match ws with
  | [.fz (.str x)] => x.length = 1 ∧ Kp (.fz (.int (x.cps.getD 0 0 : Nat))) S
  | _ => False
def intW1 : DRL := fun ws S Kp => match ws with
  | [.fz (.int i)] => Kp (.fz (.int i)) S
  | [.fz (.bl b)] => Kp (.fz (.int (if b then 1 else 0))) S
  | _ => False
def vSq (S : Sto) (w : W) : Option (List W) := match w with
  | .fz (.scr ns) => some (ns.map fun n => .fz (.int n))
  | w => vS S w
def listW (own : Bool) : DRL := fun ws S Kp => match ws with
  | [x] => onO (vSq S x) fun xs => newL own xs S Kp
  | _ => False
def tupleW : DRL := fun ws S Kp => match ws with
  | [x] => onO (vS S x) fun xs => Kp (mkT xs) S
  | _ => False
def tyW (S : Sto) : W → Option Ty
  | .fz .non => some .non
  | .fz (.bl _) => some .bool
  | .fz (.int _) => some .int
  | .fz (.str _) => some .str
  | .fz (.tup _) => some .tuple
  | .fz (.lst _) => some .list
  | .fz (.obj _ _) => none
  | .fz (.scr _) => none
  | .fz (.ty _) => none
  | .tp _ => some .tuple
  | .xo _ _ _ => none
  | .hd n => match S[n]? with
    | some (.lst _) => some .list
    | some (.dic _) => some .dict
    | _ => none
def isTy : Ty → Ty → Bool
  | .non, .non => true
  | .bool, .bool => true
  | .bool, .int => true
  | .int, .int => true
  | .str, .str => true
  | .tuple, .tuple => true
  | .list, .list => true
  | .dict, .dict => true
  | _, _ => false
theorem kitB_isTy (t T : Ty) (h : T ≠ .non) : kitB t.name T.name = some (isTy t T) := by
  cases T with
  | non => exact absurd rfl h
  | bool => cases t <;> decide +kernel
  | int => cases t <;> decide +kernel
  | str => cases t <;> decide +kernel
  | tuple => cases t <;> decide +kernel
  | list => cases t <;> decide +kernel
  | dict => cases t <;> decide +kernel
def isiW : DRL := fun ws S Kp => match ws with
  | [_, .fz (.ty .non)] => False
  | [x, .fz (.ty T)] => onO (tyW S x) fun t => Kp (.fz (.bl (isTy t T))) S
  | _ => False
section
variable {X : Cx} {Ξ : Xt} {x : Str} {p pos : Pos} {e : Expr} {es : List Expr} {da : DA} {id T : String} {dr : DRL}
theorem imp_CB {K : PySem.W.Frag} {F : Fx} (σ : L2.St) (H : Hp) (Q : VK) (h : lE K F (dCB dr da) σ H Q) : tCB (lRL K F dr) (lA K F da) σ H Q := by
  obtain ⟨B, m, S, env, Kp, cf, er, h, kw⟩ := h
  exact ⟨B, m, S, env, _, cf, er, h, fun ws S1 h1 vs H1 B1 m1 n1 r => ⟨B1, m1, S1, ws, Kp, n1.cf, r, h1, kw.nx n1⟩⟩
theorem dpe_callB (hc : CallD X (.builtin id) dr) (hg : Gl X x) (hm : X.mg x = none) (hv : bootBuiltins x = some (.builtin id)) (ha : DPA X Ξ (e :: es) da) (hn : x ≠ "__name__" := by decide) (hdb : (x == ("__debug__" : Str)) = false := by decide)
    (he : starEach (e :: es) X.env = (false, eval e X.env) :: starEach es X.env := by rfl) (hpl : (backTo pos (starEach es X.env)).any (·.1) = false := by rfl) : DPE X Ξ (.Call (.Name x p) (e :: es) [] pos) (dCB dr da) :=
  ⟨fun F ok => PE.imp (pe_callB (hc F) hg hm hv (ha.run F ok) hn hdb he hpl) imp_CB⟩
theorem dpe_callTy (hc : CallD X (.type T) dr) (hg : Gl X x) (hm : X.mg x = none) (hv : bootBuiltins x = some (.type T)) (ha : DPA X Ξ (e :: es) da) (hn : x ≠ "__name__" := by decide) (hdb : (x == ("__debug__" : Str)) = false := by decide)
    (he : starEach (e :: es) X.env = (false, eval e X.env) :: starEach es X.env := by rfl) (hpl : (backTo pos (starEach es X.env)).any (·.1) = false := by rfl) : DPE X Ξ (.Call (.Name x p) (e :: es) [] pos) (dCB dr da) :=
  ⟨fun F ok => PE.imp (pe_callTy (hc F) hg hm hv (ha.run F ok) hn hdb he hpl) imp_CB⟩
theorem RWL.one {K : PySem.W.Frag} {B : Hp} {m : List Addr} {w : W} {vs : List V} (r : RWL K B m [w] vs) : ∃ v, vs = [v] ∧ RW K B m w v := by
  cases r with
  | cons r t => cases t; exact ⟨_, rfl, r⟩
theorem RWL.two {K : PySem.W.Frag} {B : Hp} {m : List Addr} {w u : W} {vs : List V} (r : RWL K B m [w, u] vs) : ∃ v y, vs = [v, y] ∧ RW K B m w v ∧ RW K B m u y := by
  cases r with
  | cons r t => cases t with | cons r2 t => cases t; exact ⟨_, _, rfl, r, r2⟩
theorem cd_len : CallD X (.builtin "len") lenW := fun F => CallR.imp call_len fun xs H Q ⟨B, m, S, ws, Kp, cf, r, h, k⟩ => by
  unfold lenW at h
  split at h
  · obtain ⟨v, e, rv⟩ := r.one
    subst e
    rw [rv.str_of]
    exact ⟨_, _, rfl, ⟨h.1, rfl⟩, k.here cf h.2 (.fz .int)⟩
  · obtain ⟨v, e, rv⟩ := r.one
    subst e
    obtain ⟨ws, q, h⟩ := onO_ex h
    obtain ⟨a, vs, ea, hs, rr⟩ := vS_ok cf rv q
    subst ea
    refine ⟨.ref a, ws.length, rfl, ?_, k.here cf h (.fz .int)⟩
    rcases hs with hs | hs
    · exact .inl ⟨vs, hs, rr.length⟩
    · exact .inr ⟨vs, hs, rr.length⟩
  · exact h.elim
theorem cd_ord : CallD X (.builtin "ord") ordW := fun F => CallR.imp call_ord fun xs H Q ⟨B, m, S, ws, Kp, cf, r, h, k⟩ => by
  unfold ordW at h
  split at h
  · obtain ⟨v, e, rv⟩ := r.one
    subst e
    rw [rv.str_of]
    exact ⟨_, rfl, h.1, k.here cf h.2 (.fz .int)⟩
  · exact h.elim
theorem cd_int : CallD X (.type "int") intW1 := fun F => CallR.imp call_int1 fun xs H Q ⟨B, m, S, ws, Kp, cf, r, h, k⟩ => by
  unfold intW1 at h
  split at h
  · obtain ⟨v, e, rv⟩ := r.one
    subst e
    rw [rv.int_of]
    exact .inl ⟨_, rfl, k.here cf h (.fz .int)⟩
  · obtain ⟨v, e, rv⟩ := r.one
    subst e
    rw [rv.bl_of]
    exact .inr ⟨_, rfl, k.here cf h (.fz .int)⟩
  · exact h.elim
theorem rwl_ints {K : PySem.W.Frag} {B : Hp} {m : List Addr} : ∀ ns : List Int, RWL K B m (ns.map fun n => .fz (.int n)) (ns.map V.int)
  | [] => .nil
  | _ :: ns => .cons (.fz .int) (rwl_ints ns)
theorem cd_list (own : Bool) : CallD X (.type "list") (listW own) := fun F => CallR.imp call_list_of fun xs H Q ⟨B, m, S, ws, Kp, cf, r, h, k⟩ => by
  unfold listW at h
  split at h
  rotate_left
  · exact h.elim
  obtain ⟨zs, hv, h⟩ := onO_ex h
  obtain ⟨v, e, rv⟩ := r.one
  subst e
  unfold vSq at hv
  split at hv
  · rename_i ns
    cases hv
    cases rv with | fz rv => cases rv with | scr hs =>
      exact ⟨_, _, rfl, .inl (cf.sub.seqL hs), fun l hl => newL_ok cf (rwl_ints ns) h k hl⟩
  · obtain ⟨a, vs, ea, hs, rr⟩ := vS_ok cf rv hv
    subst ea
    exact ⟨a, vs, rfl, hs, fun l hl => newL_ok cf rr h k hl⟩
theorem cd_tuple : CallD X (.type "tuple") tupleW := fun F => CallR.imp call_tuple_of fun xs H Q ⟨B, m, S, ws, Kp, cf, r, h, k⟩ => by
  unfold tupleW at h
  split at h
  rotate_left
  · exact h.elim
  obtain ⟨zs, hv, h⟩ := onO_ex h
  obtain ⟨v, e, rv⟩ := r.one
  subst e
  unfold vS at hv
  split at hv
  · rename_i ws' e2
    cases hv
    obtain ⟨a, vs, ea, hs, rr⟩ := vT_ok rv e2
    subst ea
    exact ⟨a, vs, rfl, .inr ⟨cf.sub.seqT hs, k.here cf h (mkT_ok rr hs)⟩⟩
  · obtain ⟨a, vs, ea, hs, rr⟩ := vL_ok cf rv hv
    subst ea
    refine ⟨a, vs, rfl, .inl ⟨.of hs, fun l hl => ?_⟩⟩
    have n2 := cf.alloc (o := .tup vs) hl
    exact k _ _ h _ _ _ _ n2 (mkT_ok (rr.nx n2) (.of upd_same))
theorem Rd.tyT {K : PySem.W.Frag} {H : Hp} {a : Addr} {vs : List V} (h : SqT K H a vs) : TyX K H (.ref a) (.type "tuple") := by
  rcases h with (h | ⟨o, h⟩) | ⟨o, its, n, h, c, _⟩
  · exact .base (.tup h)
  · exact .fTuple h
  · exact .kTuple h c
theorem tyW_ok {K : PySem.W.Frag} {F : Fx} {B : Hp} {m : List Addr} {S : Sto} {H : Hp} (c : Cf K F B m S H) {w : W} {v : V} {t : Ty} (r : RW K B m w v) (h : tyW S w = some t) : TyX K H v (.type t.name) := by
  unfold tyW at h
  split at h
  · cases h; cases r with | fz r => cases r; exact .base .non
  · cases h; cases r with | fz r => cases r; exact .base (.bl _)
  · cases h; cases r with | fz r => cases r; exact .base (.int _)
  · cases h; cases r with | fz r => cases r; exact .base (.str _)
  · cases h; cases r with | fz r => cases r with | tup s _ => exact Rd.tyT (c.sub.seqT s)
  · cases h; cases r with | fz r => cases r with | lst s _ => exact .base (.lst (c.sub _ _ s))
  · cases h
  · cases h
  · cases h
  · cases h; cases r with | tp s _ => exact Rd.tyT (c.sub.seqT s)
  · cases h
  · split at h
    · rename_i e
      cases h
      obtain ⟨a, vs, ea, _, hs, _⟩ := c.lst r e
      subst ea
      exact .base (.lst hs)
    · rename_i e
      cases h
      cases r with
      | hd e1 =>
        obtain ⟨o, h1, ⟨vs, h2, h3⟩, _⟩ := c.own _ _ _ e1 e
        subst h2
        exact .base (.dK h1)
    · cases h
theorem cd_isi : CallD X (.builtin "isinstance") isiW := fun F => CallR.imp call_isi fun xs H Q ⟨B, m, S, ws, Kp, cf, r, h, k⟩ => by
  unfold isiW at h
  split at h
  · exact h.elim
  · rename_i x T hn
    obtain ⟨t, ht, h⟩ := onO_ex h
    obtain ⟨v, c, e, rv, rc⟩ := r.two
    subst e
    cases rc with | fz rc => cases rc with | ty =>
      exact ⟨v, _, _, _, _, rfl, .ty T.name, tyW_ok cf rv ht, kit_ty (kitB_isTy t T fun z => hn z), k.here cf h (.fz .bl)⟩
  · exact h.elim
theorem dpe_ty {n : Ty} (hg : Gl X x) (hm : X.mg x = none) (hv : bootBuiltins x = some (.type n.name)) (hn : x ≠ "__name__" := by decide) (hd : (x == ("__debug__" : Str)) = false := by decide) : DPE X Ξ (.Name x pos) (dC (.ty n)) :=
  dpe_of_tC (v := .ty n.name) (pe_bltn hg hm hv rfl hn hd) fun _ _ => .ty
end
end DL
namespace DL
open PySem PySem.Spec PyProof.Rows L2

def lstAt (S : Sto) (n : Nat) : Option (List W) := match S[n]? with
  | some (.lst xs) => some xs
  | _ => none
theorem lstAt_eq {S : Sto} {n : Nat} {xs : List W} (h : lstAt S n = some xs) : S[n]? = some (.lst xs) := by
  unfold lstAt at h
  split at h
  · cases h; assumption
  · cases h
section
variable {X : Cx} {Ξ : Xt} {o e : Expr} {es : List Expr} {de dl dh : DE} {da : DA} {pos apos p2 : Pos}
structure DPO (X : Cx) (Ξ : Xt) (e : Option Expr) (dt : En → Sto → (Option Int → Sto → Prop) → Prop) : Prop where
  run : ∀ F : Fx, Okf X Ξ F → PO X e fun σ H Q => ∃ (B : Hp) (m : List Addr) (S : Sto) (env : En) (Kp : Option Int → Sto → Prop), Cf X.K F B m S H ∧ ER X.K B m env σ ∧ dt env S Kp ∧
    ∀ (i : Option Int) (S' : Sto), Kp i S' → ∀ (H' B' : Hp) (m' : List Addr), Nx X.K F B m H B' m' S' H' → Q i H'
theorem PO.imp {e : Option Expr} {t t' : TO} (h : PO X e t) (g : ∀ σ H Q, t' σ H Q → t σ H Q) : PO X e t' := ⟨fun pins s σ H Q I q => h.run pins s σ H Q I (g _ _ _ q)⟩
def cutL {α : Type} (xs : List α) (lo hi : Option Int) : List α := (xs.drop (HT.sIx xs.length 0 lo)).take (HT.sIx xs.length xs.length hi - HT.sIx xs.length 0 lo)
theorem RWL.cutL {K : PySem.W.Frag} {B : Hp} {m : List Addr} {ws : List W} {vs : List V} (r : RWL K B m ws vs) (lo hi : Option Int) : RWL K B m (DL.cutL ws lo hi) (cutV vs lo hi) := by
  unfold DL.cutL cutV
  rw [← r.length]
  exact (r.drop _).take _
end

abbrev DI := En → Sto → (List W → Sto → Prop) → Prop
structure DIt (K : PySem.W.Frag) (F : Fx) (J : It) (ws : List W) (B : Hp) (m : List Addr) : Prop where
  stop : ∀ (B1 : Hp) (m1 : List Addr) (S1 : Sto) (H1 : Hp), Cf K F B1 m1 S1 H1 → Sub B B1 → Pre m m1 → J.stop ws.length H1
  go : ∀ (B1 : Hp) (m1 : List Addr) (S1 : Sto) (H1 : Hp), Cf K F B1 m1 S1 H1 → Sub B B1 → Pre m m1 → ∀ (i : Nat) (w : W), ws[i]? = some w → J.go i H1 ∧ ∀ x H', J.yld i H1 x H' → ∃ B', Nx K F B1 m1 H1 B' m1 S1 H' ∧ RW K B' m1 w x
def lI (K : PySem.W.Frag) (F : Fx) (di : DI) : TI := fun σ H R => ∃ (B : Hp) (m : List Addr) (S : Sto) (env : En) (Kp : List W → Sto → Prop), Cf K F B m S H ∧ ER K B m env σ ∧ di env S Kp ∧
  ∀ (ws : List W) (S' : Sto), Kp ws S' → ∀ (J : It) (H' B' : Hp) (m' : List Addr), Nx K F B m H B' m' S' H' → DIt K F J ws B' m' → R J H'
structure DPI (X : Cx) (Ξ : Xt) (tg e : Expr) (di : DI) : Prop where
  run : ∀ F : Fx, Okf X Ξ F → PI X tg e (lI X.K F di)
theorem PI.imp {X : Cx} {tg e : Expr} {t t' : TI} (h : PI X tg e t) (g : ∀ σ H Q, t' σ H Q → t σ H Q) : PI X tg e t' := ⟨fun pins s σ H Q I q => h.run pins s σ H Q I (g _ _ _ q)⟩
def iAny (K : PySem.W.Frag) (tl : TE) : TI := fun σ H R => tl σ H fun x H1 => (∃ a, x = .ref a ∧ (∃ xs, SqL K H1 a xs) ∧ R (Itl K a) H1) ∨ (∃ a, x = .ref a ∧ (∃ xs, SqT K H1 a xs) ∧ R (Itt K a) H1) ∨ ∃ z, x = .str z ∧ R (Its z) H1
theorem pi_any {X : Cx} {tg l : Expr} {tl : TE} (hl : PE X l tl) : PI X tg l (iAny X.K tl) := by
  refine ⟨fun pins s σ H R I h => ?_⟩
  refine thn (hl.run pins s σ H _ I h) fun v s1 ⟨x, H1, I1, r1, q1⟩ => ?_
  rcases q1 with ⟨a, e, ⟨xs, hq⟩, q⟩ | ⟨a, e, ⟨xs, hq⟩, q⟩ | ⟨z, e, q⟩
  · subst e
    cases r1
    obtain ⟨its, rv, p, hz⟩ := I1.list hq
    refine wpAny_pyIter_list p.isList ?_
    refine ⟨s1.heap.objs.size, [s1.heap.objs.size], _, _, H1, rfl, I1.kept (t' := s1.toks) fun b o e => Heap.get?_push_of_some _ e, turn_list a _, ⟨_, Heap.get?_push_size _ rfl, rfl, rfl⟩, fun b hb => ?_, q⟩
    have e : b = s1.heap.objs.size := by simpa using hb
    subst e
    exact I1.fpOk (Nat.le_refl _) (I1.hok.fresh (Nat.le_refl _))
  · subst e
    cases r1
    obtain ⟨its, rv, p, hz⟩ := I1.tuple hq
    refine wpAny_pyIter_tuple (show s1.heap.IsTuple a its.toArray from p) ?_
    refine ⟨s1.heap.objs.size, [s1.heap.objs.size], _, _, H1, rfl, I1.kept (t' := s1.toks) fun b o e => Heap.get?_push_of_some _ e, turn_tuple a _, ⟨_, Heap.get?_push_size _ rfl, rfl, rfl⟩, fun b hb => ?_, q⟩
    have e : b = s1.heap.objs.size := by simpa using hb
    subst e
    exact I1.fpOk (Nat.le_refl _) (I1.hok.fresh (Nat.le_refl _))
  · subst e
    obtain ⟨t, rfl⟩ := r1
    cases ha : z.cps.all (· < 128)
    · exact wpAny_pyIter_wide ha (pi_one (tk := s1.toks) I1 _ (turn_str _ z t "str_iterator" (.inr rfl)) ⟨_, Heap.get?_push_size _ rfl, rfl, rfl⟩ q)
    · exact wpAny_pyIter_ascii ha (pi_one (tk := s1.toks) I1 _ (turn_str _ z t "str_ascii_iterator" (.inl rfl)) ⟨_, Heap.get?_push_size _ rfl, rfl, rfl⟩ q)
def itW : W → Option (List W)
  | .fz (.lst ds) => some (ds.map .fz)
  | .fz (.tup ds) => some (ds.map .fz)
  | .fz (.str z) => some (z.cps.toList.map fun c => .fz (.str ⟨#[c]⟩))
  | .tp ws => some ws
  | _ => none
section
variable {K : PySem.W.Frag} {F : Fx} {B : Hp} {m : List Addr} {S : Sto} {H : Hp}
theorem dit_lst {a : Addr} {vs : List V} {ws : List W} (h : B a = some (.lst vs)) (r : RWL K B m ws vs) : DIt K F (Itl K a) ws B m := by
  refine ⟨fun B1 m1 S1 H1 c sb pr => ⟨vs, .of (c.sub _ _ (sb _ _ h)), by rw [r.length]; exact Nat.le_refl _⟩, fun B1 m1 S1 H1 c sb pr i w e => ?_⟩
  have h1 : SqL K H1 a vs := .of (c.sub _ _ (sb _ _ h))
  obtain ⟨v, e1, r1⟩ := r.get e
  refine ⟨⟨vs, v, h1, e1⟩, fun x H' ⟨e2, y⟩ => ?_⟩
  subst e2
  have e3 := y vs h1
  rw [e1] at e3
  cases e3
  exact ⟨B1, c.nx, r1.mono sb pr⟩
theorem dit_tup {a : Addr} {vs : List V} {ws : List W} (h : SqT K B a vs) (r : RWL K B m ws vs) : DIt K F (Itt K a) ws B m := by
  refine ⟨fun B1 m1 S1 H1 c sb pr => ⟨vs, c.sub.seqT (sb.seqT h), by rw [r.length]; exact Nat.le_refl _⟩, fun B1 m1 S1 H1 c sb pr i w e => ?_⟩
  have h1 : SqT K H1 a vs := c.sub.seqT (sb.seqT h)
  obtain ⟨v, e1, r1⟩ := r.get e
  refine ⟨⟨vs, v, h1, e1⟩, fun x H' ⟨e2, y⟩ => ?_⟩
  subst e2
  have e3 := y vs h1
  rw [e1] at e3
  cases e3
  exact ⟨B1, c.nx, r1.mono sb pr⟩
theorem dit_str {z : Str} : DIt K F (Its z) (z.cps.toList.map fun c => .fz (.str ⟨#[c]⟩)) B m := by
  refine ⟨fun B1 m1 S1 H1 c sb pr => ?_, fun B1 m1 S1 H1 c sb pr i w e => ?_⟩
  · show z.cps.size ≤ _
    rw [List.length_map, Array.length_toList]
    exact Nat.le_refl _
  · rw [List.getElem?_map] at e
    cases q : z.cps.toList[i]? with
    | none => rw [q] at e; cases e
    | some c =>
      rw [q] at e
      cases e
      rw [Array.getElem?_toList] at q
      refine ⟨(Array.getElem?_eq_some_iff.mp q).1, fun x H' ⟨e2, c', e3, e4⟩ => ?_⟩
      subst e2; subst e4
      rw [q] at e3
      cases e3
      exact ⟨B1, by assumption |> fun (h : Cf K F B1 m1 S1 _) => h.nx, .fz .str⟩
theorem dit_rng {lo : Int} {n : Nat} : DIt K F (Itr lo n) ((List.range n).map fun i => .fz (.int (lo + (i : Nat)))) B m := by
  refine ⟨fun B1 m1 S1 H1 c sb pr => ?_, fun B1 m1 S1 H1 c sb pr i w e => ?_⟩
  · show n ≤ _
    rw [List.length_map, List.length_range]
    exact Nat.le_refl _
  · rw [List.getElem?_map] at e
    cases q : (List.range n)[i]? with
    | none => rw [q] at e; cases e
    | some j =>
      rw [q] at e
      cases e
      obtain ⟨h1, h2⟩ := List.getElem?_eq_some_iff.mp q
      rw [List.length_range] at h1
      rw [List.getElem_range] at h2
      subst h2
      refine ⟨h1, fun x H' ⟨e2, e3⟩ => ?_⟩
      subst e2; subst e3
      exact ⟨B1, c.nx, .fz .int⟩
end
def dIter (de : DE) : DI := fun env S Kp => de env S fun w S1 => onO (itW w) fun ws => Kp ws S1
def dRng1 (da : DA) : DI := fun env S Kp => da env S fun ws S1 => match ws with
  | [.fz (.int j)] => (-(2 ^ 62) ≤ j ∧ j < 2 ^ 62) ∧ Kp ((List.range j.toNat).map fun i => .fz (.int (0 + (i : Nat)))) S1
  | _ => False
section
variable {X : Cx} {Ξ : Xt} {tg e a b : Expr} {de : DE} {da : DA} {p pos : Pos}
theorem dpi_any (he : DPE X Ξ e de) : DPI X Ξ tg e (dIter de) := ⟨fun F ok => PI.imp (pi_any (he.run F ok)) fun σ H R ⟨B, m, S, env, Kp, cf, er, h, k⟩ => by
  refine ⟨B, m, S, env, _, cf, er, h, fun w S1 h0 v H1 B1 m1 n1 r => ?_⟩
  obtain ⟨ws, e1, h1⟩ := onO_ex h0
  unfold itW at e1
  split at e1
  · cases e1
    cases r with | fz r => cases r with | lst s t => exact .inl ⟨_, rfl, ⟨_, .of (n1.cf.sub _ _ s)⟩, k _ _ h1 _ _ _ _ n1 (dit_lst s t.fz)⟩
  · cases e1
    cases r with | fz r => cases r with | tup s t => exact .inr (.inl ⟨_, rfl, ⟨_, n1.cf.sub.seqT s⟩, k _ _ h1 _ _ _ _ n1 (dit_tup s t.fz)⟩)
  · cases e1
    exact .inr (.inr ⟨_, r.str_of, k _ _ h1 _ _ _ _ n1 dit_str⟩)
  · cases e1
    cases r with | tp s t => exact .inr (.inl ⟨_, rfl, ⟨_, n1.cf.sub.seqT s⟩, k _ _ h1 _ _ _ _ n1 (dit_tup s t)⟩)
  · cases e1⟩
theorem Cf.freezeIn {K : PySem.W.Frag} {F : Fx} {B : Hp} {m : List Addr} {S : Sto} {H : Hp} (c : Cf K F B m S H) {n : Nat} {a : Addr} {vs : List V} {ws : List W} (hl : F.L.length ≤ n) (em : m[n]? = some a) (e : S[n]? = some (.lst ws)) (h1 : H a = some (.lst vs)) :
    Nx K F B m H (upd B a (.lst vs)) m (S.set n .gone) H := by
  have nB : B a = none := by
    obtain ⟨_, _, _, g⟩ := c.own n a _ em e
    exact g fun z => nomatch z
  have sb : Sub B (upd B a (.lst vs)) := fun x u y => by rw [upd_ne (ne_of_none y nB)]; exact y
  have nH : F.H a = none := by
    rcases c.new n a em with z | z
    · have := (List.getElem?_eq_some_iff.mp z).1
      omega
    · exact z
  refine ⟨⟨c.b0.trans sb, fun x u y => ?_, fun x u y => ?_, c.fr, c.dom, by simp [c.len], c.pre, c.new, c.nd, fun i x od z1 z2 => ?_, fun q tq => let ⟨g1, g2, g3⟩ := c.tab q tq; ⟨g1, by rw [upd_ne (fun z => g3 n (by rw [z]; exact em))]; exact g2, g3⟩⟩, sb, .refl, fun _ _ h _ _ => h, fun _ _ h => .inl h, fun _ h => h, fun x u y => ?_⟩
  · by_cases z : x = a
    · subst z; rw [upd_same] at y; cases y; exact h1
    · rw [upd_ne z] at y; exact c.sub _ _ y
  · by_cases z : x = a
    · subst z; exact .inr nH
    · rw [upd_ne z] at y; exact c.bnew _ _ y
  · by_cases hk : i = n
    · subst hk
      have hlt : i < S.length := (List.getElem?_eq_some_iff.mp e).1
      rw [List.getElem?_set_self hlt] at z2
      cases z2
      rw [em] at z1
      cases z1
      exact ⟨_, h1, trivial, fun z => absurd rfl z⟩
    · rw [List.getElem?_set_ne (fun z => hk z.symm)] at z2
      obtain ⟨o, q1, q2, q3⟩ := c.own i x od z1 z2
      refine ⟨o, q1, q2.mono sb .refl, fun g => ?_⟩
      rw [upd_ne (fun z => hk (c.nd i n a (by rw [← z]; exact z1) em))]
      exact q3 g
  · by_cases z : x = a
    · subst z; exact .inr (.inr ⟨n, em⟩)
    · rw [upd_ne z] at y; exact .inl y
theorem dpi_range1 (hg : Gl X "range") (hm : X.mg "range" = none) (ha : DPA X Ξ [a] da) (hs : starEach [a] X.env = [(false, eval a X.env)] := by rfl) : DPI X Ξ tg (.Call (.Name "range" p) [a] [] pos) (dRng1 da) := ⟨fun F ok => PI.imp (pi_range1 hg hm (ha.run F ok) hs) fun σ H R ⟨B, m, S, env, Kp, cf, er, h, k⟩ => by
  refine ⟨B, m, S, env, _, cf, er, h, fun ws S1 h1 vs H1 B1 m1 n1 r => ?_⟩
  split at h1
  rotate_left
  · exact h1.elim
  obtain ⟨⟨l1, l2⟩, h1⟩ := h1
  obtain ⟨v, ev, rv⟩ := r.one
  subst ev
  exact ⟨_, by rw [rv.int_of], l1, l2, k _ _ h1 _ _ _ _ n1 dit_rng⟩⟩
end
def loop (g : DG) (tb : DS) (D : DEnds) : List W → En → Sto → Prop
  | [] => fun env S => D.nx env S
  | w :: ws => fun env S => g w env S fun env1 S1 => tb { D with nx := loop g tb D ws, ct := loop g tb D ws, bk := D.nx } env1 S1
def dFor (di : DI) (g : DG) (tb : DS) : DS := fun D env S => di env S fun ws S1 => loop g tb D ws env S1
theorem dps_for {X : Cx} {Ξ : Xt} {tg iter : Expr} {body : List Stmt} {di : DI} {g : DG} {tb : DS} {pos : Pos} (hp : PassesOwn (model X.prog X.w) X.A X.env X.xe) (hc : X.calm = true) (hi : DPI X Ξ tg iter di) (hg : DPG X Ξ tg g) (hb : DPSs X Ξ body tb)
    (hs : ∀ x, foldedSetIterable iter X.env x = pure x := by intro _; rfl) : DPS X Ξ (.For tg iter body [] pos) (dFor di g tb) := ⟨fun F ok => PS.imp (ps_for hp hc (hi.run F ok) (hg.run F ok) (hb.run F ok) hs) fun D σ H ⟨B, m, S, env, E, cf, er, h, k1, k2, k3, k4⟩ => by
  refine ⟨B, m, S, env, _, cf, er, h, fun ws S1 h1 J H1 B1 m1 n1 J1 => ?_⟩
  refine ⟨fun i n σ G => n = ws.length - i ∧ i ≤ ws.length ∧ ∃ B2 m2 S2 env2, Nx X.K F B m H B2 m2 S2 G ∧ Sub B1 B2 ∧ Pre m1 m2 ∧ ER X.K B2 m2 env2 σ ∧ loop g tb E (ws.drop i) env2 S2, ⟨_, rfl, Nat.zero_le _, B1, m1, S1, env, n1, .refl, .refl, er.nx n1, by rw [List.drop_zero]; exact h1⟩, ?_⟩
  rintro i n σ2 H2 ⟨en, hi2, B2, m2, S2, env2, n2, sb, pr, er2, h2⟩
  by_cases hlt : i < ws.length
  · obtain ⟨hgo, hy⟩ := J1.go B2 m2 S2 H2 n2.cf sb pr i ws[i] (List.getElem?_eq_getElem hlt)
    rw [List.drop_eq_getElem_cons hlt] at h2
    refine .inr ⟨hgo, fun σ' G => ∃ B3 m3 S3 env3, Nx X.K F B m H B3 m3 S3 G ∧ Sub B1 B3 ∧ Pre m1 m3 ∧ ER X.K B3 m3 env3 σ' ∧ loop g tb E (ws.drop (i + 1)) env3 S3, fun σ' H' q => ⟨_, ?_, rfl, hlt, q⟩, fun x H3 y => ?_⟩
    · omega
    · obtain ⟨B3, n3, r3⟩ := hy x H3 y
      have nn := n2.trans n3
      refine ⟨B3, m2, S2, env2, ws[i], _, n3.cf, er2.nx n3, r3, h2, fun env4 S4 h4 σ4 H4 B4 m4 n4 er4 => ?_⟩
      have ag : KE X.K F (loop g tb E (ws.drop (i + 1))) B4 m4 H4 fun σ' G => ∃ B3 m3 S3 env3, Nx X.K F B m H B3 m3 S3 G ∧ Sub B1 B3 ∧ Pre m1 m3 ∧ ER X.K B3 m3 env3 σ' ∧ loop g tb E (ws.drop (i + 1)) env3 S3 :=
        fun env5 S5 h5 σ5 H5 B5 m5 n5 er5 => ⟨B5, m5, S5, env5, nn.trans (n4.trans n5), sb.trans (n3.sb.trans (n4.sb.trans n5.sb)), pr.trans (n3.pr.trans (n4.pr.trans n5.pr)), er5, h5⟩
      exact ⟨B4, m4, S4, env4, { E with nx := loop g tb E (ws.drop (i + 1)), ct := loop g tb E (ws.drop (i + 1)), bk := E.nx }, n4.cf, er4, h4, ag, k2.nx (nn.trans n4), k1.nx (nn.trans n4), ag⟩
  · have e : i = ws.length := by omega
    subst e
    rw [List.drop_length] at h2
    exact .inl ⟨J1.stop B2 m2 S2 H2 n2.cf sb pr, k1 _ _ h2 _ _ _ _ n2 er2⟩⟩
structure DPTs (X : Cx) (Ξ : Xt) (ifs : List Expr) (dt : DT) : Prop where
  run : ∀ F : Fx, Okf X Ξ F → PTs X ifs (lT X.K F dt)
def dYes : DT := fun _ S Kp => Kp true S
theorem PTs.imp {X : Cx} {e : List Expr} {t t' : TT} (h : PTs X e t) (g : ∀ σ H Q, t' σ H Q → t σ H Q) : PTs X e t' := ⟨fun pins s σ H Q I q => h.run pins s σ H Q I (g _ _ _ q)⟩
theorem dpts_nil {X : Cx} {Ξ : Xt} : DPTs X Ξ [] dYes := ⟨fun F ok => PTs.imp pts_nil fun σ H Q ⟨B, m, S, env, Kp, cf, er, h, k⟩ => k _ _ h _ _ _ cf.nx⟩
def lcW (g : DG) (tt : DT) (te : DE) (env0 : En) : List W → Sto → (List W → Sto → Prop) → Prop
  | [], S, Kp => Kp [] S
  | w :: ws, S, Kp => g w env0 S fun env1 S1 => tt env1 S1 fun b S2 => ifB b (te env1 S2 fun y S3 => lcW g tt te env0 ws S3 fun ys S4 => Kp (y :: ys) S4) (lcW g tt te env0 ws S2 Kp)
def wipeD (env : En) : List Nat → En
  | [] => env
  | v :: vs => (wipeD env vs).set v none
def own (vs : List Nat) (g : DG) : Prop := ∀ (w : W) (env : En) (S : Sto) (Kp : En → Sto → Prop), g w (wipeD env vs) S Kp → g w (wipeD env vs) S fun env' S' => wipeD env' vs = wipeD env vs ∧ Kp env' S'
def dLc (o : Bool) (di : DI) (g : DG) (tt : DT) (te : DE) (vs : List Nat) : DE := fun env S Kp => di env S fun ws S1 => ws.length ≤ sizeLine ∧ lcW g tt te (wipeD env vs) ws S1 fun ys S2 => newL o ys S2 Kp
section
variable {K : PySem.W.Frag} {F : Fx} {B : Hp} {m : List Addr} {S : Sto} {H : Hp}
theorem ER.unset {env : En} {σ : L2.St} (e : ER K B m env σ) (i : Nat) : ER K B m (env.set i none) (σ.set i none) := by
  refine ⟨by simp [e.1], fun j u q => ?_⟩
  by_cases h : j = i
  · subst h
    have hl := (List.getElem?_eq_some_iff.mp q).1
    rw [List.length_set] at hl
    rw [List.getElem?_set_self hl] at q
    cases q
  · rw [List.getElem?_set_ne (Ne.symm h)] at q ⊢
    exact e.2 j u q
theorem ER.wipe {env : En} {σ : L2.St} (e : ER K B m env σ) : ∀ vs : List Nat, ER K B m (wipeD env vs) (L2.wipe σ vs)
  | [] => e
  | v :: vs => (ER.wipe e vs).unset v
theorem Nx.side {B' : Hp} {m' : List Addr} {S' : Sto} {H' : Hp} {D : Addr} {o : HO} (n : Nx K F B m H B' m' S' H') (f0 : F.H D = none) (nT : ¬ F.T D) (h0 : H D = none) (hb : B' D = none) (hm : ∀ i : Nat, m'[i]? ≠ some D) : Nx K F B m H B' m' S' (upd H' D o) := by
  have ne : ∀ (a : Addr) (u : HO), H a = some u → a ≠ D := fun a u e z => by rw [z, h0] at e; cases e
  have dm : ∀ a : Addr, upd H' D o a = none → H' a = none := fun a e => by
    by_cases h : a = D
    · subst h; rw [upd_same] at e; cases e
    · rw [upd_ne h] at e; exact e
  refine ⟨⟨n.cf.b0, fun a u e => ?_, n.cf.bnew, fun a u e nl nt => ?_, fun a e => n.cf.dom a (dm a e), n.cf.len, n.cf.pre, n.cf.new, n.cf.nd, fun i a od e1 e2 => ?_, fun q tq => let ⟨g1, g2, g3⟩ := n.cf.tab q tq; ⟨tabG_upd g1 fun z => nT (z ▸ tq), g2, g3⟩⟩, n.sb, n.pr, fun a u e nm nt => ?_, n.nw, fun a e => n.dm a (dm a e), n.bn⟩
  · rw [upd_ne (ne_of_none e hb)]; exact n.cf.sub a u e
  · rw [upd_ne (ne_of_none e f0)]; exact n.cf.fr a u e nl nt
  · obtain ⟨u, h1, h2, h3⟩ := n.cf.own i a od e1 e2
    have na : a ≠ D := fun z => hm i (by rw [← z]; exact e1)
    exact ⟨u, by rw [upd_ne na]; exact h1, h2, h3⟩
  · rw [upd_ne (ne a u e)]; exact n.kp a u e nm nt
theorem Nx.adopt {B' : Hp} {m' : List Addr} {S' : Sto} {H' : Hp} {D : Addr} {o : HO} {od : OD} (n : Nx K F B m H B' m' S' H') (f0 : F.H D = none) (nT : ¬ F.T D) (h0 : H D = none) (hb : B' D = none) (hm : ∀ i : Nat, m'[i]? ≠ some D) (e : H' D = some o) (r : RO K B' m' od o) :
    Nx K F B m H B' (m' ++ [D]) (S' ++ [od]) H' := by
  have c := n.cf
  have cases_ : ∀ (k : Nat) (a : Addr), (m' ++ [D])[k]? = some a → m'[k]? = some a ∨ (k = m'.length ∧ a = D) := fun n a e => by
    by_cases h : n < m'.length
    · rw [List.getElem?_append_left h] at e; exact .inl e
    · rw [List.getElem?_append_right (by omega)] at e
      have h2 : n - m'.length = 0 := by
        cases q : n - m'.length with
        | zero => rfl
        | succ k => rw [q] at e; simp at e
      rw [h2] at e
      simp at e
      exact .inr ⟨by omega, e.symm⟩
  refine ⟨⟨c.b0, c.sub, c.bnew, c.fr, c.dom, by simp [c.len], fun k a e => Pre.app _ _ (c.pre k a e), fun k a e => ?_, fun i j a h1 h2 => ?_, fun k a od' h1 h2 => ?_, fun q tq => let ⟨g1, g2, g3⟩ := c.tab q tq; ⟨g1, g2, fun i e => (cases_ i q e).elim (g3 i) fun z => nT (z.2 ▸ tq)⟩⟩, n.sb, n.pr.trans .app, n.kp, fun k a e => ?_, n.dm, n.bn⟩
  · rcases cases_ k a e with e | ⟨_, e⟩
    · exact c.new k a e
    · subst e; exact .inr f0
  · rcases cases_ i a h1 with e1 | ⟨e1, f1⟩ <;> rcases cases_ j a h2 with e2 | ⟨e2, f2⟩
    · exact c.nd i j a e1 e2
    · subst f2; exact absurd e1 (hm i)
    · subst f1; exact absurd e2 (hm j)
    · omega
  · rcases cases_ k a h1 with e1 | ⟨e1, f1⟩
    · rw [List.getElem?_append_left (by have := (List.getElem?_eq_some_iff.mp e1).1; rw [← c.len]; exact this)] at h2
      obtain ⟨u, e', r', g⟩ := c.own k a od' e1 h2
      exact ⟨u, e', r'.mono .refl .app, g⟩
    · subst f1
      rw [List.getElem?_append_right (by rw [← c.len, e1]; exact Nat.le_refl _), e1, c.len, Nat.sub_self] at h2
      simp at h2
      subst h2
      exact ⟨o, e, r.mono .refl .app, fun _ => hb⟩
  · rcases cases_ k a e with e | ⟨_, e⟩
    · exact n.nw k a e
    · subst e; exact .inr h0
theorem Nx.adoptF {B' : Hp} {m' : List Addr} {S' : Sto} {H' : Hp} {D : Addr} {o : HO} (n : Nx K F B m H B' m' S' H') (f0 : F.H D = none) (nT : ¬ F.T D) (h0 : H D = none) (hb : B' D = none) (hm : ∀ i : Nat, m'[i]? ≠ some D) (e : H' D = some o) :
    Nx K F B m H (upd B' D o) m' S' H' := by
  have c := n.cf
  have sb : Sub B' (upd B' D o) := fun a u e => by rw [upd_ne (ne_of_none e hb)]; exact e
  refine ⟨⟨c.b0.trans sb, fun a u q => ?_, fun a u q => ?_, c.fr, c.dom, c.len, c.pre, c.new, c.nd, fun k a od' h1 h2 => ?_, fun q tq => let ⟨g1, g2, g3⟩ := c.tab q tq; ⟨g1, by rw [upd_ne (fun z : q = D => nT (z ▸ tq))]; exact g2, g3⟩⟩, n.sb.trans sb, n.pr, n.kp, n.nw, n.dm, fun a u q => ?_⟩
  · by_cases h : a = D
    · subst h; rw [upd_same] at q; cases q; exact e
    · rw [upd_ne h] at q; exact c.sub a u q
  · by_cases h : a = D
    · subst h; exact .inr f0
    · rw [upd_ne h] at q; exact c.bnew a u q
  · obtain ⟨u, e', r', g⟩ := c.own k a od' h1 h2
    exact ⟨u, e', r'.mono sb .refl, fun z => by
      have na : a ≠ D := fun y => hm k (by rw [← y]; exact h1)
      rw [upd_ne na]; exact g z⟩
  · by_cases h : a = D
    · subst h; exact .inr (.inl h0)
    · rw [upd_ne h] at q; exact n.bn a u q
theorem newL_adopt {B' : Hp} {m' : List Addr} {S' : Sto} {H' : Hp} {D : Addr} {o : Bool} {ws : List W} {vs : List V} {Kp : WK} {Q : VK} (n : Nx K F B m H B' m' S' H') (f0 : F.H D = none) (nT : ¬ F.T D) (h0 : H D = none) (hb : B' D = none) (hm : ∀ i : Nat, m'[i]? ≠ some D)
    (e : H' D = some (.lst vs)) (r : RWL K B' m' ws vs) (h : newL o ws S' Kp) (k : KW K F Kp B m H Q) : Q (.ref D) H' := by
  unfold newL at h
  split at h
  · have n2 := n.adopt (od := .lst ws) f0 nT h0 hb hm e ⟨vs, rfl, r⟩
    refine k _ _ h _ _ _ _ n2 (.hd ?_)
    rw [← n.cf.len, List.getElem?_append_right (Nat.le_refl _), Nat.sub_self]
    rfl
  · obtain ⟨ds, e1, h⟩ := onO_ex h
    have n2 := n.adoptF f0 nT h0 hb hm e
    have sb : Sub B' (upd B' D (.lst vs)) := fun a u e => by rw [upd_ne (ne_of_none e hb)]; exact e
    rw [fzL_eq e1] at r
    exact k _ _ h _ _ _ _ n2 (.fz (.lst upd_same ((r.mono sb .refl).fz)))
end
def Lk (K : PySem.W.Frag) (g : TG) (dg : DG) (vs : List Nat) : Prop := ∀ (F : Fx) (B : Hp) (m : List Addr) (S : Sto) (H : Hp) (env : En) (σ : L2.St) (w : W) (v : V) (Kp : En → Sto → Prop) (Q : L2.St → Hp → Prop), Cf K F B m S H → ER K B m env (wipe σ vs) → RW K B m w v → dg w env S Kp →
  (∀ env' S', Kp env' S' → ∀ σ' : L2.St, wipe σ' vs = wipe σ vs → ∀ (H' B' : Hp) (m' : List Addr), Nx K F B m H B' m' S' H' → ER K B' m' env' σ' → Q σ' H') → g v (wipe σ vs) H Q
theorem wipe_wipe (σ : L2.St) : ∀ vs : List Nat, wipe (wipe σ vs) vs = wipe σ vs := by
  intro vs
  apply List.ext_getElem?
  intro j
  by_cases h : j ∈ vs
  · have z : ∀ (τ : L2.St) (us : List Nat), j ∈ us → (wipe τ us)[j]? = if j < τ.length then some none else none := fun τ us => by
      induction us with
      | nil => intro h; cases h
      | cons u us ih =>
        intro h
        unfold wipe
        by_cases hu : u = j
        · subst hu
          by_cases hl : u < τ.length
          · rw [if_pos hl, List.getElem?_set_self (by rw [wipe_length]; exact hl)]
          · rw [if_neg hl, List.getElem?_eq_none_iff, List.length_set, wipe_length]; omega
        · rw [List.getElem?_set_ne hu]
          exact ih ((List.mem_cons.mp h).resolve_left fun q => hu q.symm)
    rw [z _ _ h, z _ _ h, wipe_length]
  · rw [wipe_out h]
theorem wipe_set (σ : L2.St) (i : Nat) (x : Option V) : ∀ vs : List Nat, i ∈ vs → wipe ((wipe σ vs).set i x) vs = wipe σ vs := by
  intro vs h
  have z : ∀ (τ : L2.St) (us : List Nat), i ∈ us → wipe (τ.set i x) us = wipe τ us := fun τ us => by
    induction us with
    | nil => intro h; cases h
    | cons u us ih =>
      intro h
      unfold wipe
      by_cases hu : u ∈ us ∧ i ∈ us
      · rw [ih hu.2]
      · by_cases hi : i ∈ us
        · rw [ih hi]
        · have e : u = i := ((List.mem_cons.mp h).resolve_right hi).symm
          subst e
          have q : ∀ (ws : List Nat), u ∉ ws → wipe (τ.set u x) ws = (wipe τ ws).set u x := fun ws => by
            induction ws with
            | nil => intro _; rfl
            | cons w ws ih2 =>
              intro hn
              unfold wipe
              rw [ih2 fun z => hn (List.mem_cons_of_mem _ z), List.set_comm]
              intro z; exact hn (by rw [z]; exact List.mem_cons_self)
          rw [q us hi, List.set_set]
  rw [z _ _ h, wipe_wipe]
theorem lk_name {K : PySem.W.Frag} {i : Nat} {vs : List Nat} (h : i ∈ vs) : Lk K (gName i) (dgName i) vs := fun F B m S H env σ w v Kp Q c er r hg k =>
  k _ _ hg _ (wipe_set σ i _ vs h) _ _ _ c.nx (er.set i r)
section
variable {X : Cx} {Ξ : Xt} {elt tg iter : Expr} {ifs : List Expr} {scope : Scope} {ow : List (Str × Nat)} {pos : Pos} {di : DI} {g : TG} {dg : DG} {tt : DT} {te : DE}
theorem imp_lc (o : Bool) (vs : List Nat) (lk : Lk X.K g dg vs) {F : Fx} (σ : L2.St) (H : Hp) (Q : VK) (h : lE X.K F (dLc o di dg tt te vs) σ H Q) : tLc (lI X.K F di) g (lT X.K F tt) (lE X.K F te) vs σ H Q := by
  obtain ⟨B, m, S, env, Kp, cf, er, h, k⟩ := h
  refine ⟨B, m, S, env, _, cf, er, h, fun ws S1 ⟨hz, h1⟩ J H1 B1 m1 n1 J1 D hD => ?_⟩
  have fD : F.H D = none := n1.cf.dom D hD
  have bD : B1 D = none := by
    cases q : B1 D with
    | none => rfl
    | some u => rw [n1.cf.sub _ _ q] at hD; cases hD
  have mD : ∀ i : Nat, m1[i]? ≠ some D := n1.cf.notIn hD
  have nT : ¬ F.T D := fun tq => tab_ne (n1.cf.tab D tq).1 hD rfl
  have er0 : ER X.K B1 m1 (wipeD env vs) (wipe σ vs) := (er.nx n1).wipe vs
  refine ⟨fun i n G => n = ws.length - i ∧ i ≤ ws.length ∧ ∃ (B2 : Hp) (m2 : List Addr) (S2 : Sto) (aw : List W) (av : List V), Nx X.K F B1 m1 H1 B2 m2 S2 G ∧ B2 D = none ∧ (∀ j : Nat, m2[j]? ≠ some D) ∧ G D = some (.lst av) ∧ RWL X.K B2 m2 aw av ∧ aw.length ≤ i ∧
      lcW dg tt te (wipeD env vs) (ws.drop i) S2 fun ys S3 => newL o (aw ++ ys) S3 Kp, ⟨_, rfl, Nat.zero_le _, B1, m1, S1, [], [], n1.cf.nx.side fD nT hD bD mD, bD, mD, upd_same, .nil, Nat.le_refl _, by rw [List.drop_zero]; exact h1⟩, ?_⟩
  rintro i n G ⟨en, hi, B2, m2, S2, aw, av, n2, b2, mm2, eD, ra, la, h2⟩
  by_cases hlt : i < ws.length
  · obtain ⟨hgo, hy⟩ := J1.go B2 m2 S2 G n2.cf n2.sb n2.pr i ws[i] (List.getElem?_eq_getElem hlt)
    rw [List.drop_eq_getElem_cons hlt] at h2
    refine .inr ⟨hgo, fun G' => ∃ (B2 : Hp) (m2 : List Addr) (S2 : Sto) (aw : List W) (av : List V), Nx X.K F B1 m1 H1 B2 m2 S2 G' ∧ B2 D = none ∧ (∀ j : Nat, m2[j]? ≠ some D) ∧ G' D = some (.lst av) ∧ RWL X.K B2 m2 aw av ∧ aw.length ≤ i + 1 ∧
      lcW dg tt te (wipeD env vs) (ws.drop (i + 1)) S2 fun ys S3 => newL o (aw ++ ys) S3 Kp, fun G' q => ⟨_, ?_, rfl, hlt, q⟩, fun x G3 y => ?_⟩
    · omega
    · obtain ⟨B3, n3, r3⟩ := hy x G3 y
      -- a step keeps the list that grows
      have keep : ∀ {Ba Bb : Hp} {ma mb : List Addr} {Sb : Sto} {Ga Gb : Hp} {u : HO}, Nx X.K F Ba ma Ga Bb mb Sb Gb → Ga D = some u → Ba D = none → (∀ j : Nat, ma[j]? ≠ some D) → Gb D = some u ∧ Bb D = none ∧ ∀ j : Nat, mb[j]? ≠ some D := fun {Ba Bb ma mb Sb Ga Gb u} n hu hb hm => by
        refine ⟨n.kp D u hu hm nT, ?_, fun j z => ?_⟩
        · cases q : Bb D with
          | none => rfl
          | some w =>
            rcases n.bn D w q with y | y | ⟨j, y⟩
            · rw [hb] at y; cases y
            · rw [hu] at y; cases y
            · exact (hm j y).elim
        · rcases n.nw j D z with y | y
          · exact hm j y
          · rw [hu] at y; cases y
      obtain ⟨k1, k2, k3⟩ := keep n3 eD b2 mm2
      refine lk F B3 m2 S2 G3 (wipeD env vs) σ ws[i] x _ _ n3.cf ((er0.nx n2).nx n3) r3 h2 fun env4 S4 h4 σ4 hw4 G4 B4 m4 n4 er4 => ⟨hw4, ?_⟩
      obtain ⟨k4, k5, k6⟩ := keep n4 k1 k2 k3
      refine ⟨B4, m4, S4, env4, _, n4.cf, er4, h4, fun b S5 h5 G5 B5 m5 n5 => ?_⟩
      obtain ⟨k7, k8, k9⟩ := keep n5 k4 k5 k6
      have nn := n2.trans (n3.trans (n4.trans n5))
      replace h5 := ifB_if h5
      cases b with
      | false =>
        rw [if_neg Bool.false_ne_true] at h5 ⊢
        exact ⟨B5, m5, S5, aw, av, nn, k8, k9, k7, ((ra.nx n3).nx n4).nx n5, by omega, h5⟩
      | true =>
        rw [if_pos rfl] at h5 ⊢
        refine ⟨B5, m5, S5, env4, _, n5.cf, er4.nx n5, h5, fun w S6 h6 v G6 B6 m6 n6 r6 => ?_⟩
        obtain ⟨k10, k11, k12⟩ := keep n6 k7 k8 k9
        have ra6 := (((ra.nx n3).nx n4).nx n5).nx n6
        refine ⟨av, k10, by rw [← ra6.length]; omega, B6, m6, S6, aw ++ [w], av ++ [v], (nn.trans n6).side fD nT hD k11 k12, k11, k12, upd_same, ra6.append (.cons r6 .nil), by rw [List.length_append]; exact Nat.succ_le_succ la, ?_⟩
        refine cast (congrArg (lcW dg tt te (wipeD env vs) (List.drop (i + 1) ws) S6) (funext fun ys => funext fun S => ?_)) h6
        rw [List.append_assoc]
        rfl
  · have e : i = ws.length := by omega
    subst e
    rw [List.drop_length] at h2
    have h3 : newL o (aw ++ []) S2 Kp := h2
    rw [List.append_nil] at h3
    refine .inl ⟨J1.stop B2 m2 S2 G n2.cf n2.sb n2.pr, ?_⟩
    have hD0 : H D = none := n1.dm D hD
    exact newL_adopt (n1.trans n2) fD nT hD0 b2 mm2 eD ra h3 k
theorem dpe_lc (o : Bool) (lk : Lk X.K g dg (ow.map (·.2))) (hc : X.calm = true) (hN : X.N.Nodup) (hi : DPI X Ξ tg iter di) (bk : BlkOk X.N X.env.scope scope ow)
    (hg : ∀ (s : Shared) (H : Hp) (C : Addr) (cl : List (Str × Addr)) (fp : List Addr), PG (X.blk s H scope (compEnvC scope cl C X.env) fp) tg g) (ht : ∀ (s : Shared) (H : Hp) (C : Addr) (cl : List (Str × Addr)) (fp : List Addr), DPTs (X.blk s H scope (compEnvC scope cl C X.env) fp) Ξ.nox ifs tt)
    (he : ∀ (s : Shared) (H : Hp) (C : Addr) (cl : List (Str × Addr)) (fp : List Addr), DPE (X.blk s H scope (compEnvC scope cl C X.env) fp) Ξ.nox elt te) (hs : ∀ x, foldedSetIterable iter X.env x = pure x := by intro _; rfl) :
    DPE X Ξ (.ListComp elt [⟨tg, iter, ifs, 0⟩] scope pos) (dLc o di dg tt te (ow.map (·.2))) := ⟨fun F ok => PE.imp (pe_lc hc hN (hi.run F ok) bk hg (fun s H C cl fp => (ht s H C cl fp).run F ok.nox) (fun s H C cl fp => (he s H C cl fp).run F ok.nox) hs) (imp_lc o _ lk)⟩
end
end DL
namespace DL
open PySem PySem.Spec PyProof.Rows L2

structure Bi (mg : Str → Option Value) : Prop where
  len : mg "len" = none
  ord : mg "ord" = none
  isi : mg "isinstance" = none
  list : mg "list" = none
  tuple : mg "tuple" = none
  range : mg "range" = none
  int : mg "int" = none
  str : mg "str" = none
  bool : mg "bool" = none
  zip : mg "zip" = none
  sum : mg "sum" = none
  sorted : mg "sorted" = none
  all : mg "all" = none
  dict : mg "dict" = none
  set : mg "set" = none
  enum : mg "enumerate" = none
  rev : mg "reversed" = none
  repr : mg "repr" = none
  max : mg "max" = none
  min : mg "min" = none

section
variable {X : Cx} {Ξ : Xt} {a b c e o : Expr} {es : List Expr} {de da db dl dh : DE} {das : DA} {pos p apos p2 : Pos}
theorem e_len (bi : Bi X.mg) (ha : DPA X Ξ (e :: es) das) (hg : Gl X "len" := by rfl) (he : starEach (e :: es) X.env = (false, eval e X.env) :: starEach es X.env := by rfl) (hpl : (backTo pos (starEach es X.env)).any (·.1) = false := by rfl) : DPE X Ξ (.Call (.Name "len" p) (e :: es) [] pos) (dCB lenW das) := dpe_callB cd_len hg bi.len PySem.boot_len ha (by decide) (by decide) he hpl
theorem e_ord (bi : Bi X.mg) (ha : DPA X Ξ (e :: es) das) (hg : Gl X "ord" := by rfl) (he : starEach (e :: es) X.env = (false, eval e X.env) :: starEach es X.env := by rfl) (hpl : (backTo pos (starEach es X.env)).any (·.1) = false := by rfl) : DPE X Ξ (.Call (.Name "ord" p) (e :: es) [] pos) (dCB ordW das) := dpe_callB cd_ord hg bi.ord PyProof.Rows.boot_ord ha (by decide) (by decide) he hpl
theorem e_isi (bi : Bi X.mg) (ha : DPA X Ξ (e :: es) das) (hg : Gl X "isinstance" := by rfl) (he : starEach (e :: es) X.env = (false, eval e X.env) :: starEach es X.env := by rfl) (hpl : (backTo pos (starEach es X.env)).any (·.1) = false := by rfl) : DPE X Ξ (.Call (.Name "isinstance" p) (e :: es) [] pos) (dCB isiW das) := dpe_callB cd_isi hg bi.isi PyProof.Rows.boot_isinstance ha (by decide) (by decide) he hpl
theorem e_int (bi : Bi X.mg) (ha : DPA X Ξ (e :: es) das) (hg : Gl X "int" := by rfl) (he : starEach (e :: es) X.env = (false, eval e X.env) :: starEach es X.env := by rfl) (hpl : (backTo pos (starEach es X.env)).any (·.1) = false := by rfl) : DPE X Ξ (.Call (.Name "int" p) (e :: es) [] pos) (dCB intW1 das) := dpe_callTy cd_int hg bi.int PyProof.Rows.boot_int ha (by decide) (by decide) he hpl
theorem e_list (own : Bool) (bi : Bi X.mg) (ha : DPA X Ξ (e :: es) das) (hg : Gl X "list" := by rfl) (he : starEach (e :: es) X.env = (false, eval e X.env) :: starEach es X.env := by rfl) (hpl : (backTo pos (starEach es X.env)).any (·.1) = false := by rfl) : DPE X Ξ (.Call (.Name "list" p) (e :: es) [] pos) (dCB (listW own) das) := dpe_callTy (cd_list own) hg bi.list PyProof.Rows.boot_list ha (by decide) (by decide) he hpl
theorem e_tuple (bi : Bi X.mg) (ha : DPA X Ξ (e :: es) das) (hg : Gl X "tuple" := by rfl) (he : starEach (e :: es) X.env = (false, eval e X.env) :: starEach es X.env := by rfl) (hpl : (backTo pos (starEach es X.env)).any (·.1) = false := by rfl) : DPE X Ξ (.Call (.Name "tuple" p) (e :: es) [] pos) (dCB tupleW das) := dpe_callTy cd_tuple hg bi.tuple PyProof.Rows.boot_tuple ha (by decide) (by decide) he hpl
theorem t_str (bi : Bi X.mg) (hg : Gl X "str" := by rfl) : DPE X Ξ (.Name "str" p) (dC (.ty .str)) := dpe_ty (n := .str) hg bi.str PyProof.Rows.boot_str
theorem t_tuple (bi : Bi X.mg) (hg : Gl X "tuple" := by rfl) : DPE X Ξ (.Name "tuple" p) (dC (.ty .tuple)) := dpe_ty (n := .tuple) hg bi.tuple PyProof.Rows.boot_tuple
theorem t_list (bi : Bi X.mg) (hg : Gl X "list" := by rfl) : DPE X Ξ (.Name "list" p) (dC (.ty .list)) := dpe_ty (n := .list) hg bi.list PyProof.Rows.boot_list
theorem i_rng1 {tg : Expr} (bi : Bi X.mg) (ha : DPA X Ξ [a] das) (hg : Gl X "range" := by rfl) (hs : starEach [a] X.env = [(false, eval a X.env)] := by rfl) : DPI X Ξ tg (.Call (.Name "range" p) [a] [] pos) (dRng1 das) := dpi_range1 hg bi.range ha hs
theorem a1 (ha : DPE X Ξ a da) (hs : starEach [a] X.env = (false, eval a X.env) :: starEach [] X.env := by rfl) : DPA X Ξ [a] (dCons da dNil) := dpa_cons ha dpa_nil hs
theorem sset (i : Nat) {x : Str} {pos' : Pos} (hN : X.N.Nodup) (he : DPE X Ξ e de) (hi : X.N[i]? = some x := by rfl) (hx : Loc X.env.scope x := by first | exact Or.inl rfl | exact Or.inr rfl) (hs : swapsWith e (some (.Name x pos')) pos.line X.env = pure false := by rfl) (hf : X.fn x = true ∨ X.env.scope.names.lookup x = some .local := by first | exact .inl rfl | exact .inr rfl) :
    DPS X Ξ (.Assign [.Name x pos'] e pos) (dAsg de (dgName i)) := dps_set hN hi hx he hs hf
theorem gname (i : Nat) {x : Str} (hN : X.N.Nodup) (hi : X.N[i]? = some x := by rfl) (hx : Loc X.env.scope x := by first | exact Or.inl rfl | exact Or.inr rfl) (hf : X.fn x = true ∨ X.env.scope.names.lookup x = some .local := by first | exact .inl rfl | exact .inr rfl) : DPG X Ξ (.Name x pos) (dgName i) := dpg_name hN hi hx hf
theorem saug (i : Nat) {x : Str} {op : Operator} {dr : DR2} {pos' : Pos} (hN : X.N.Nodup) (he : DPE X Ξ e de) (ho : OpD X (inplaceOp op) dr) (hi : X.N[i]? = some x := by rfl) (hx : Loc X.env.scope x := by first | exact Or.inl rfl | exact Or.inr rfl) (hf : X.fn x = true ∨ X.env.scope.names.lookup x = some .local := by first | exact .inl rfl | exact .inr rfl) :
    DPS X Ξ (.AugAssign (.Name x pos') op e pos) (dAug i de dr) := dps_aug hN hi hx he ho hf
theorem e_eq {k : Nat} (hr : Room k X.A) (ha : DPE X Ξ a da) (hb : DPE X Ξ b db) : DPE X Ξ (.Compare a [.Eq] [b] pos) (dOp eqW da db) := dpe_cmp (od_eq hr.units) ha hb (nomark _)
theorem c_lt (ha : DPE X Ξ a da) (hb : DPE X Ξ b db) : DPT X Ξ (.Compare a [.Lt] [b] pos) (dTst (dOp ltW da db)) := dpt_cmp od_lt ha hb (nomark _)
theorem c_gt (ha : DPE X Ξ a da) (hb : DPE X Ξ b db) : DPT X Ξ (.Compare a [.Gt] [b] pos) (dTst (dOp gtW da db)) := dpt_cmp od_gt ha hb (nomark _)
theorem c_ge (ha : DPE X Ξ a da) (hb : DPE X Ξ b db) : DPT X Ξ (.Compare a [.GtE] [b] pos) (dTst (dOp geW da db)) := dpt_cmp od_ge ha hb (nomark _)
theorem c_eq {k : Nat} (hr : Room k X.A) (ha : DPE X Ξ a da) (hb : DPE X Ξ b db) : DPT X Ξ (.Compare a [.Eq] [b] pos) (dTst (dOp eqW da db)) := dpt_cmp (od_eq hr.units) ha hb (nomark _)
theorem c_ne {k : Nat} (hr : Room k X.A) (ha : DPE X Ξ a da) (hb : DPE X Ξ b db) : DPT X Ξ (.Compare a [.NotEq] [b] pos) (dTst (dOp neW da db)) := dpt_cmp (od_ne hr.units) ha hb (nomark _)
theorem e_add (own : Bool) (ha : DPE X Ξ a da) (hb : DPE X Ξ b db) : DPE X Ξ (.BinOp a .Add b pos) (dOp (addW own) da db) := dpe_op (od_add own) ha hb
theorem e_sub (ha : DPE X Ξ a da) (hb : DPE X Ξ b db) : DPE X Ξ (.BinOp a .Sub b pos) (dOp subW da db) := dpe_op od_sub ha hb
theorem e_mul (ha : DPE X Ξ a da) (hb : DPE X Ξ b db) : DPE X Ξ (.BinOp a .Mult b pos) (dOp mulW da db) := dpe_op od_mul ha hb
theorem e_mod (ha : DPE X Ξ a da) (hb : DPE X Ξ b db) : DPE X Ξ (.BinOp a .Mod b pos) (dOp modW da db) := dpe_op od_mod ha hb
theorem e_fdiv (ha : DPE X Ξ a da) (hb : DPE X Ξ b db) : DPE X Ξ (.BinOp a .FloorDiv b pos) (dOp fdivW da db) := dpe_op od_fdiv ha hb
theorem e_pow (ha : DPE X Ξ a da) (hb : DPE X Ξ b db) : DPE X Ξ (.BinOp a .Pow b pos) (dOp powW da db) := dpe_op od_pow ha hb
theorem e_ix (ha : DPE X Ξ a da) (hb : DPE X Ξ b db) (hs : PlainIx b := by exact fun _ _ => rfl) : DPE X Ξ (.Subscript a b pos) (dOp ixW da db) := dpe_ix ixd ha hb hs
def setW : W → W → W → Sto → (Sto → Prop) → Prop := fun o i w S Kp => match o, i with
  | .hd n, .fz (.int k) => onO (lstAt S n) fun ws => onO (ixN ws.length k) fun j => Kp (S.set n (.lst (ws.set j w)))
  | _, _ => False
def dgSub (dO di : DE) : DG := fun w env S Kp => dO env S fun o S1 => di env S1 fun i S2 => setW o i w S2 fun S3 => Kp env S3
theorem dpg_sub {i : Expr} {dO di : DE} (ho : DPE X Ξ o dO) (hi : DPE X Ξ i di)
    (ha : ∀ v, assign (.Subscript o i pos) X.env v = (do
      let ov ← holding [v] (eval o X.env)
      let iv ← holding [v, ov] (eval i X.env)
      standAt pos
      holding [v, ov, iv] (setItem ov iv v)
      release [v, ov, iv] []) := by intro _; rfl) : DPG X Ξ (.Subscript o i pos) (dgSub dO di) := ⟨fun F ok => PG.imp (pg_sub (ho.run F ok) (hi.run F ok) set_list ha) fun v σ H Q ⟨B, m, S, env, w, Kp, cf, er, r, h, k⟩ => by
  refine ⟨B, m, S, env, _, cf, er, h, fun x S1 h1 vx H1 B1 m1 n1 rx => ⟨B1, m1, S1, env, _, n1.cf, er.nx n1, h1, fun y S2 h2 vy H2 B2 m2 n2 ry => ?_⟩⟩
  unfold setW at h2
  split at h2
  rotate_left
  · exact h2.elim
  obtain ⟨ws, e3, h2⟩ := onO_ex h2
  obtain ⟨jj, e4, h2⟩ := onO_ex h2
  replace e3 := lstAt_eq e3
  have nn := n1.trans n2
  obtain ⟨a, vs, ea, em, hs, rr⟩ := nn.cf.lst (rx.nx n2) e3
  have n3 := nn.cf.write (o := .lst (vs.set jj v)) (od := .lst (ws.set jj w)) em e3 (fun z => nomatch z) ⟨_, rfl, rr.set (r.nx nn)⟩
  exact ⟨a, vs, _, jj, ea, ry.int_of, hs, by rw [← rr.length]; exact e4, k _ _ h2 _ _ _ _ (nn.trans n3) ((er.nx nn).nx n3)⟩⟩
theorem ssub {i : Expr} {dO di : DE} {p1 : Pos} (ho : DPE X Ξ o dO) (hi : DPE X Ξ i di) (he : DPE X Ξ e de) (ha : ∀ v, assign (.Subscript o i p1) X.env v = (do
      let ov ← holding [v] (eval o X.env)
      let iv ← holding [v, ov] (eval i X.env)
      standAt p1
      holding [v, ov, iv] (setItem ov iv v)
      release [v, ov, iv] []) := by intro _; rfl) (hs : swapsWithSole [.Subscript o i p1] e pos.line X.env = pure false := by rfl) (hw : swappedStores [.Subscript o i p1] e X.env = pure none := by rfl)
    (h1 : (assignEach [.Subscript o i p1] X.env).map (·.2) = [assign (.Subscript o i p1) X.env] := by rfl) : DPS X Ξ (.Assign [.Subscript o i p1] e pos) (dAsg de (dgSub dO di)) := dps_asg he (dpg_sub ho hi ha) hs hw h1
end
end DL
namespace DL
open PySem PySem.Spec PyProof.Rows L2

structure Df (K : PySem.W.Frag) (mg : Str → Option Value) (x : Str) (st : Stmt) : Prop where
  ex : ∃ f fd, C8.Def K mg x st f fd ∧ fd.defaults = .none
section
variable {P : Program} {w : World} {K : PySem.W.Frag} {T : Addr → Prop} {mg : Str → Option Value} {base : Heap}
theorem Df.calp {x : Str} {st : Stmt} {N ps : List Str} {k : Nat} {Q : PSp} {ds : DS} (D : Df K mg x st) (hb : ∀ (kV doc pm : Value) (an : Option Addr) (cdv ct : Value) (us : List Value), us.length = ps.length → bindArgs (PySem.W.fnOf x x (C8.fnArgs st) (C8.fnBody st) (C8.fnScope st) .none kV doc pm an cdv ct) ⟨us, []⟩ = pure (ps.zip us))
    (S : FnScope N ps (C8.fnScope st)) (len : ∀ xs Kp, Q xs Kp → xs.length = ps.length)
    (hbody : ∀ (f : Addr) (cdv : Value) (A : Around) (outer : List Env) (s : Shared) (H : Hp) (E : XK), Room k (A.deeper (envOfC x (C8.fnScope st) s.heap.objs.size f cdv)) → DPSs (cxOf CX0 P w K mg base N x (C8.fnScope st) f cdv A outer s H E).nox (Xt.of T) (C8.fnBody st) ds)
    (hread : ∀ xs Kp, Q xs Kp → ds ⟨fun _ _ => Kp .non, fun u S' => onO (dW S' u) fun d => Kp d, fun _ _ => False, fun _ _ => False⟩ (startD N (xs.map W.fz)) []) : CalP P w K T mg base (k + 1) x Q := by
  obtain ⟨f, fd, F, df⟩ := D.ex
  exact DL.calp F (F.fn.binds df hb) S len (hbody f) hread
theorem Df.botD {x : Str} {st : Stmt} {ps : List Str} {dsp : DSp} (D : Df K mg x st) (hb : ∀ (kV doc pm : Value) (an : Option Addr) (cdv ct : Value) (us : List Value), us.length = ps.length → bindArgs (PySem.W.fnOf x x (C8.fnArgs st) (C8.fnBody st) (C8.fnScope st) .none kV doc pm an cdv ct) ⟨us, []⟩ = pure (ps.zip us))
    (h : ∀ ws S Kp, ¬ dsp ws S Kp) : CalD P w K T mg base 0 x dsp := by
  obtain ⟨f, fd, F, df⟩ := D.ex
  exact ⟨f, fd, ps, [], ⟨fun vs H Q E ⟨_, _, _, _, _, _, _, z, _⟩ => (h _ _ _ z).elim, fun A outer s H args us vs Q E _ _ _ _ ⟨_, _, _, _, _, _, _, z, _⟩ => (h _ _ _ z).elim⟩, F.mgf, F.kp, F.fn.binds df hb, .nil⟩
theorem Df.bot {x : Str} {st : Stmt} {ps : List Str} {Q : PSp} (D : Df K mg x st) (hb : ∀ (kV doc pm : Value) (an : Option Addr) (cdv ct : Value) (us : List Value), us.length = ps.length → bindArgs (PySem.W.fnOf x x (C8.fnArgs st) (C8.fnBody st) (C8.fnScope st) .none kV doc pm an cdv ct) ⟨us, []⟩ = pure (ps.zip us))
    (h : ∀ xs Kp, ¬ Q xs Kp) : CalP P w K T mg base 0 x Q := D.botD hb fun ws S Kp ⟨_, _, _, z⟩ => h _ _ z
end

def StOk (o : OD) : Prop := ∃ (a p : Int) (ns : List Int) (c : Int), o = .lst [.fz (.int a), .fz (.int p), .fz (.lst (ns.map D.int)), .fz (.int c)] ∧ 0 ≤ p ∧ ns.length ≤ 63
theorem StOk.ren {o : OD} (h : StOk o) (k n : Nat) : renOD k n o = o := by
  obtain ⟨a, p, ns, c, rfl, _⟩ := h
  rfl
def psS (P : PSp) : DSp := fun ws S Kp => ∃ o ds, S = [o] ∧ StOk o ∧ ws = .hd 0 :: ds.map W.fz ∧ P ds fun d => ∀ o', StOk o' → Kp (.fz d) [o']
abbrev CalS (P : Program) (w : World) (K : PySem.W.Frag) (T : Addr → Prop) (mg : Str → Option Value) (base : Heap) (k : Nat) (x : Str) (ps : PSp) : Prop := CalD P w K T mg base k x (psS ps)
def dCallS (P : PSp) (da : DA) : DE := fun env S Kp => da env S fun ws S1 => match S1, ws with
  | o :: rest, .hd n :: ws' => (n = 0 ∧ StOk o) ∧ onO (fzL ws') fun ds => P ds fun d => ∀ o', StOk o' → StOk o' ∧ Kp (.fz d) (o' :: rest)
  | _, _ => False
def SK (Kp : WK) (rest : Sto) : WK := fun w S2 => match w, S2 with
  | .fz d, [o'] => StOk o' ∧ Kp (.fz d) (o' :: rest)
  | _, _ => False
theorem SK_ok {Kp : WK} {rest : Sto} {w : W} {S2 : Sto} (h : SK Kp rest w S2) : ∃ d o', w = .fz d ∧ S2 = [o'] ∧ StOk o' ∧ Kp (.fz d) (o' :: rest) := by
  unfold SK at h
  split at h
  · exact ⟨_, _, rfl, rfl, h⟩
  · cases h
theorem imp_callS {K : PySem.W.Frag} {F : Fx} {T : Addr → Prop} {P : PSp} {da : DA} {E : XK} (hT : F.T = T) (σ : L2.St) (H : Hp) (Q : VK) (h : lE K F (dCallS P da) σ H Q) : tCall (spD K T (psS P)) [] E (lA K F da) σ H Q := by
  subst hT
  obtain ⟨B, m, S, env, Kp, cf, er, h, kw⟩ := h
  refine ⟨B, m, S, env, _, cf, er, h, fun ws S1 h0 vs H1 B1 m1 n1 r => ?_⟩
  show spD K F.T (psS P) (vs ++ []) H1 Q E
  rw [List.append_nil]
  split at h0
  rotate_left
  · exact h0.elim
  rename_i o rest n ws'
  obtain ⟨⟨e0, so⟩, h0⟩ := h0
  obtain ⟨ds, e2, h1⟩ := onO_ex h0
  replace e2 := fzL_eq e2
  subst e0; subst e2
  have c0 := n1.cf.lend (k := 1) (lent := [o]) (Nat.succ_le_succ (Nat.zero_le _)) (by show [o] = [renOD 1 _ o]; rw [so.ren])
  have r' : RWL K B1 m1 (renL 1 (o :: rest).length (.hd 0 :: ds.map W.fz)) vs := by
    show RWL K B1 m1 (.hd 0 :: renL 1 (o :: rest).length (ds.map W.fz)) vs
    rw [renL_fz]
    exact r
  refine ⟨B1, m1.take 1, .hd 0 :: ds.map W.fz, [o], SK Kp rest, c0, r'.unren n1.cf.len, ⟨o, ds, rfl, so, rfl, h1⟩, fun w S2 h2 v H2 B2 m2 n2 r2 => ?_⟩
  obtain ⟨d, o', ew, eS, h2⟩ := SK_ok h2
  subst eS; subst ew
  have n3 := n1.cf.back (Nat.succ_le_succ (Nat.zero_le _)) n2
  obtain ⟨so', h2⟩ := h2
  have e3 : mrg 1 (o :: rest) [o'] = o' :: rest := by
    show (renOD 1 _ o' :: []) ++ rest ++ [] = _
    rw [so'.ren]
    simp
  rw [e3] at n3
  cases r2 with
  | fz r2 => exact kw _ _ h2 _ _ _ _ (n1.trans n3) (.fz r2)
section
variable {X : Cx} {Ξ : Xt} {k j : Nat} {x : Str} {P : PSp} {p pos : Pos} {e : Expr} {es : List Expr} {da : DA}
theorem dpe_callS (c : CalS X.prog X.w X.K Ξ.T X.mg X.base k x P) (hr : Room j X.A) (hk : k ≤ j) (hg : Gl X x) (ha : DPA X Ξ (e :: es) da)
    (hdb : (x == ("__debug__" : Str)) = false := by decide) (he : starEach (e :: es) X.env = (false, eval e X.env) :: starEach es X.env := by rfl) (hpl : (backTo pos (starEach es X.env)).any (·.1) = false := by rfl) :
    DPE X Ξ (.Call (.Name x p) (e :: es) [] pos) (dCallS P da) := ⟨fun F ok => PE.imp (C8.pe_c c hr hk hg (ha.run F ok) hdb he hpl) (imp_callS ok.t)⟩
end
section
variable {P : Program} {w : World} {K : PySem.W.Frag} {T : Addr → Prop} {mg : Str → Option Value} {base : Heap}
def retS (Kp : D → OD → Prop) (u : W) (S' : Sto) : Prop := match S', u with
  | o' :: _, .fz d => StOk o' ∧ Kp d o'
  | o' :: r, .hd (n + 1) => StOk o' ∧ onO (dW (o' :: r) (.hd (n + 1))) fun d => Kp d o'
  | _, _ => False
theorem retS_ex {Kp : D → OD → Prop} {u : W} {S' : Sto} (h : retS Kp u S') : ∃ o' r d, S' = o' :: r ∧ dW S' u = some d ∧ (∀ n : Nat, u = .hd n → 1 ≤ n) ∧ StOk o' ∧ Kp d o' := by
  unfold retS at h
  split at h
  · exact ⟨_, _, _, rfl, rfl, (fun _ z => nomatch z), h⟩
  · obtain ⟨so, h⟩ := h
    obtain ⟨d, e, h⟩ := onO_ex h
    exact ⟨_, _, d, rfl, e, (fun m z => by cases z; omega), so, h⟩
  · exact h.elim
theorem Cf.freezeAt {F : Fx} {B : Hp} {m : List Addr} {S1 S2 : Sto} {H : Hp} (c : Cf K F B m (S1 ++ S2) H) (hl : F.L.length ≤ S1.length) (hb : S1.all (bdO S1.length) = true) {w : W} {v : V} {d : D} (r : RW K B m w v) (h : dW (S1 ++ S2) w = some d) (hn : ∀ n : Nat, w = .hd n → S1.length ≤ n) :
    ∃ B', Cf K F B' (m.take S1.length) S1 H ∧ Sub B B' ∧ Rp K B' d v ∧ ∀ (a : Addr) (o : HO), B' a = some o → B a = some o ∨ ∃ n : Nat, m[n]? = some a ∧ S1.length ≤ n := by
  have c0 : Cf K F B (m.take S1.length) S1 H := c.cut hl hb
  unfold dW at h
  split at h
  · cases h
    cases r with
    | fz r => exact ⟨B, c0, .refl, r, fun _ _ e => .inl e⟩
  · split at h
    · rename_i n _ ws e
      have hn := hn n rfl
      cases q : fzL ws with
      | none => rw [q] at h; cases h
      | some ds =>
        rw [q] at h
        cases h
        obtain ⟨a, vs, e1, em, h1, h2⟩ := c.lst r e
        subst e1
        have nB : B a = none := by
          obtain ⟨_, _, _, g⟩ := c.own n a _ em e
          exact g fun z => nomatch z
        have sb : Sub B (upd B a (.lst vs)) := fun x u y => by rw [upd_ne (ne_of_none y nB)]; exact y
        have nt : ∀ (i : Nat) (x : Addr), (m.take S1.length)[i]? = some x → x ≠ a := fun i x z e2 => by
          have hi : i < S1.length := by
            have := (List.getElem?_eq_some_iff.mp z).1
            rw [List.length_take] at this
            omega
          rw [List.getElem?_take_of_lt hi] at z
          have := c.nd i n a (by rw [← e2]; exact z) em
          omega
        have nH : F.H a = none := by
          rcases c.new n a em with z | z
          · have := (List.getElem?_eq_some_iff.mp z).1
            omega
          · exact z
        refine ⟨upd B a (.lst vs), ⟨c.b0.trans sb, fun x u y => ?_, fun x u y => ?_, c.fr, c.dom, c0.len, c0.pre, c0.new, c0.nd, fun i x od z1 z2 => ?_, fun q tq => let ⟨g1, g2, g3⟩ := c0.tab q tq; ⟨g1, by rw [upd_ne (fun z => (c.tab q tq).2.2 n (by rw [z]; exact em))]; exact g2, g3⟩⟩, sb, ?_, fun x u y => ?_⟩
        · by_cases z : x = a
          · subst z; rw [upd_same] at y; cases y; exact h1
          · rw [upd_ne z] at y; exact c.sub _ _ y
        · by_cases z : x = a
          · subst z; exact .inr nH
          · rw [upd_ne z] at y; exact c.bnew _ _ y
        · obtain ⟨o, q1, q2, q3⟩ := c0.own i x od z1 z2
          exact ⟨o, q1, q2.mono sb .refl, fun g => by rw [upd_ne (nt i x z1)]; exact q3 g⟩
        · rw [fzL_eq q] at h2
          exact .lst upd_same ((h2.mono sb .refl).fz)
        · by_cases z : x = a
          · subst z; exact .inr ⟨n, em, hn⟩
          · rw [upd_ne z] at y; exact .inl y
    · cases h
  · cases h
  · cases h
theorem Df.cals {x : Str} {st : Stmt} {N ps : List Str} {k : Nat} {Q : PSp} {ds : DS} (D : Df K mg x st) (hb : ∀ (kV doc pm : Value) (an : Option Addr) (cdv ct : Value) (us : List Value), us.length = ps.length → bindArgs (PySem.W.fnOf x x (C8.fnArgs st) (C8.fnBody st) (C8.fnScope st) .none kV doc pm an cdv ct) ⟨us, []⟩ = pure (ps.zip us))
    (S : FnScope N ps (C8.fnScope st)) (len : ∀ xs Kp, Q xs Kp → xs.length + 1 = ps.length)
    (hbody : ∀ (f : Addr) (cdv : Value) (A : Around) (outer : List Env) (s : Shared) (H : Hp) (E : XK), Room k (A.deeper (envOfC x (C8.fnScope st) s.heap.objs.size f cdv)) → DPSs (cxOf CX0 P w K mg base N x (C8.fnScope st) f cdv A outer s H E).nox (Xt.of T) (C8.fnBody st) ds)
    (hread : ∀ (o : OD) (xs : List DL.D) (Kp : DL.D → OD → Prop), StOk o → Q xs (fun d => ∀ o', StOk o' → Kp d o') → ds ⟨fun _ S' => retS Kp (.fz .non) S', fun u S' => retS Kp u S', fun _ _ => False, fun _ _ => False⟩ (startD N (.hd 0 :: xs.map W.fz)) [o]) : CalS P w K T mg base (k + 1) x Q := by
  have fl : ∀ o', StOk o' → ([o'] : Sto).all (bdO 1) = true := fun o' ⟨a, p, ns, c, e, _⟩ => by subst e; rfl
  obtain ⟨f, fd, F, df⟩ := D.ex
  refine C8.cal0 F (F.fn.binds df hb) .nil S (fun vs H Q' E ⟨B, L, ws, lent, Kp, _, r, ⟨o, xs, _, _, e, h⟩, _⟩ => by rw [← r.length, e, List.length_cons, List.length_map]; exact len _ _ h) fun cdv A outer s H vs Q' E hr ⟨B, L, ws, lent, Kp, c, r, ⟨o, xs, e1, so, e2, h⟩, kw⟩ => ?_
  subst e1; subst e2
  have hL : L.length = 1 := c.len
  refine ⟨_, (hbody f cdv A outer s H E hr).run ⟨B, H, L, T⟩ (.of rfl (by show L.length ≤ 1; omega)), B, L, [o], _, _, c, ER.start r, hread o xs (fun d o' => Kp (.fz d) [o']) so h, ?_, ?_, fun _ _ z => z.elim, fun _ _ z => z.elim⟩
  · rintro env S' hk0 σ' H' B' m' n er
    obtain ⟨o', r, d, eS, ed, _, so', hk⟩ := retS_ex hk0
    cases ed
    subst eS
    exact kw _ _ hk _ _ _ _ (Nx.cut (S1 := [o']) (S2 := r) n (by show L.length ≤ 1; omega) (fl o' so') (by show L.length ≤ 1; omega)) (.fz .non)
  · rintro u S' hk0 v H' B' m' n r'
    obtain ⟨o', r, d, eS, eu, hn, so', hk⟩ := retS_ex hk0
    subst eS
    have n2 := Nx.cut (S1 := [o']) (S2 := r) n (by show L.length ≤ 1; omega) (fl o' so') (by show L.length ≤ 1; omega)
    obtain ⟨B2, c2, sb2, r2, bn2⟩ := Cf.freezeAt (S1 := [o']) (S2 := r) n.cf (by show L.length ≤ 1; omega) (fl o' so') r' eu hn
    refine kw _ _ hk _ _ _ _ ⟨c2, n2.sb.trans sb2, n2.pr, n2.kp, n2.nw, n2.dm, fun a o e => ?_⟩ (.fz r2)
    rcases bn2 a o e with q | ⟨i, q, hi⟩
    · exact n.bn a o q
    · rcases n.nw i a q with z | z
      · have := (List.getElem?_eq_some_iff.mp z).1
        have hi : 1 ≤ i := hi
        omega
      · exact .inr (.inl z)
end
end DL
namespace DL
open PySem PySem.Spec PyProof.Rows L2

theorem sz {n : Nat} (h : Nat.ble n 1000 = true) : n ≤ sizeLine := Nat.le_trans (Nat.le_of_ble_eq_true h) (by decide)
theorem onO_at {α : Type} {l : List α} {i : Int} {k : α → Prop} (h0 : 0 ≤ i) (h1 : i < l.length) (h : ∀ x, l[i.toNat]? = some x → k x) : onO (atI l i) k := by
  have hl : i.toNat < l.length := by omega
  have e : l[i.toNat]? = some l[i.toNat] := List.getElem?_eq_getElem hl
  have q := atI_nat e
  rw [Int.toNat_of_nonneg h0] at q
  rw [q]
  exact h _ e
theorem posL {j : Int} (h : decide (0 < j) = true) : 0 < j := of_decide_eq_true h
theorem powL {i j : Int} (h : decide (0 ≤ j ∧ j ≤ 1000000 ∧ i.natAbs < 2 ^ 64) = true) : CPow i j := of_decide_eq_true (p := 0 ≤ j ∧ j ≤ 1000000 ∧ i.natAbs < 2 ^ 64) h
theorem mulR {i j : Int} (h : decide (-(2 ^ 64) < j ∧ j < 2 ^ 64) = true) : CMulX i j := .inl (.inr (of_decide_eq_true h))
theorem divW {i j : Int} (h0 : 0 < j) (h : j ≤ 10 ^ 40) : CDivW i j := by
  have e : (10 : Int) ^ 40 < 2 ^ 200 := by decide
  have h2 : j.natAbs < 2 ^ 200 := by
    have e2 : ((2 ^ 200 : Nat) : Int) = 2 ^ 200 := by decide
    omega
  exact ⟨h0, PySem.Flt.log2_lt_of (by decide) (Nat.lt_of_lt_of_le h2 (Nat.pow_le_pow_right (by decide) (by decide)))⟩
section
variable {g : DG} {tt : DT} {te : DE} {env0 : En} {S : Sto}
theorem lcW_filter (f : W → W) (p : W → Bool) {ws : List W} {Kp : List W → Sto → Prop}
    (h : ∀ w ∈ ws, ∀ (A : WK) (Bf : Sto → Prop), (if p w = true then A (f w) S else Bf S) → g w env0 S fun env1 S1 => tt env1 S1 fun b S2 => ifB b (te env1 S2 A) (Bf S2)) (hk : Kp ((ws.filter p).map f) S) : lcW g tt te env0 ws S Kp := by
  induction ws generalizing Kp with
  | nil => exact hk
  | cons w ws ih =>
    have ih' := fun (K2 : List W → Sto → Prop) (k2 : K2 ((ws.filter p).map f) S) => ih (Kp := K2) (fun u hu => h u (List.mem_cons_of_mem _ hu)) k2
    refine h w List.mem_cons_self (fun y S3 => lcW g tt te env0 ws S3 fun ys S4 => Kp (y :: ys) S4) (fun S2 => lcW g tt te env0 ws S2 Kp) ?_
    by_cases hp : p w = true
    · rw [if_pos hp]
      refine ih' _ ?_
      rw [List.filter_cons_of_pos hp] at hk
      exact hk
    · rw [if_neg hp]
      refine ih' _ ?_
      rw [List.filter_cons_of_neg hp] at hk
      exact hk
theorem lcW_map (f : W → W) {ws : List W} {Kp : List W → Sto → Prop}
    (h : ∀ w ∈ ws, ∀ (A : WK) (Bf : Sto → Prop), A (f w) S → g w env0 S fun env1 S1 => tt env1 S1 fun b S2 => ifB b (te env1 S2 A) (Bf S2)) (hk : Kp (ws.map f) S) : lcW g tt te env0 ws S Kp := by
  refine lcW_filter f (fun _ => true) (fun w hw A Bf q => h w hw A Bf (by simpa using q)) ?_
  rw [List.filter_eq_self.mpr fun _ _ => rfl]
  exact hk
theorem lcW_draw (R : W → D → Prop) {ws : List W} {o : OD} {rest : Sto} {Kp : List W → Sto → Prop} (so : StOk o)
    (h : ∀ w ∈ ws, ∀ (o : OD) (A : WK) (Bf : Sto → Prop), StOk o → (∀ d o', R w d → StOk o' → A (.fz d) (o' :: rest)) → g w env0 (o :: rest) fun env1 S1 => tt env1 S1 fun b S2 => ifB b (te env1 S2 A) (Bf S2))
    (hk : ∀ (ds : List D) (o' : OD), ds.length = ws.length → (∀ d ∈ ds, ∃ w ∈ ws, R w d) → StOk o' → Kp (ds.map .fz) (o' :: rest)) : lcW g tt te env0 ws (o :: rest) Kp := by
  induction ws generalizing o Kp with
  | nil => exact hk [] o rfl (by simp) so
  | cons w ws ih =>
    refine h w List.mem_cons_self o (fun y S3 => lcW g tt te env0 ws S3 fun ys S4 => Kp (y :: ys) S4) (fun S2 => lcW g tt te env0 ws S2 Kp) so fun d o' r so' => ?_
    refine ih so' (fun u hu => h u (List.mem_cons_of_mem _ hu)) fun ds o'' hl hr so'' => ?_
    refine hk (d :: ds) o'' (by simp [hl]) (fun x hx => ?_) so''
    rcases List.mem_cons.mp hx with e | e
    · subst e; exact ⟨w, List.mem_cons_self, r⟩
    · obtain ⟨u, hu, q⟩ := hr x e
      exact ⟨u, List.mem_cons_of_mem _ hu, q⟩
end
theorem loop_inv {g : DG} {tb : DS} {E : DEnds} (I : List W → En → Sto → Prop) {ws : List W} {env : En} {S : Sto} (h0 : I ws env S) (hn : ∀ env S, I [] env S → E.nx env S)
    (hs : ∀ (w : W) (ws : List W) (env : En) (S : Sto) (N : En → Sto → Prop), I (w :: ws) env S → (∀ env' S', I ws env' S' → N env' S') → g w env S fun env1 S1 => tb { E with nx := N, ct := N, bk := E.nx } env1 S1) : loop g tb E ws env S := by
  induction ws generalizing env S with
  | nil => exact hn env S h0
  | cons w ws ih => exact hs w ws env S _ h0 fun env' S' h => ih h
section
variable {own : Bool} {S : Sto} {Kp : WK}
theorem newL_F {ds : List D} (h : Kp (.fz (.lst ds)) S) : newL false (ds.map .fz) S Kp := by
  show onO (fzL (ds.map .fz)) _
  rw [fzL_map]
  exact h
theorem addW_lst {i j : List D} (h1 : i.length + j.length ≤ sizeLine) (h2 : Kp (.fz (.lst (i ++ j))) S) : addW false (.fz (.lst i)) (.fz (.lst j)) S Kp := by
  refine ⟨by simpa using h1, ?_⟩
  rw [← List.map_append]
  exact newL_F h2
end
end DL
namespace DL
open PySem PySem.Spec PyProof.Rows L2

section
variable {P : Program} {w : World} {K : PySem.W.Frag} {T : Addr → Prop} {mg : Str → Option Value} {base : Heap}
end
structure DfIn (K : PySem.W.Frag) (x : Str) (st : Stmt) : Prop where
  ex : ∃ (f : Addr) (od an : Option Addr) (sl : Array (Option Value)) (oc kV dc pm cd ct : Value), PySem.W.nsIn K mainGlobals x = some (some (.ref f)) ∧
    K.lookup f = some ⟨oc, od, .func (PySem.W.fnOf x x (C8.fnArgs st) (C8.fnBody st) (C8.fnScope st) .none kV dc pm an cd ct), sl⟩ ∧ PySem.W.codeIn K cd x = true ∧ PySem.W.keepIn K (.ref f) = true
theorem dfin {K : PySem.W.Frag} {x : Str} {st : Stmt} {f : Addr} {od an : Option Addr} {sl : Array (Option Value)} {oc kV dc pm cd ct : Value} (a : PySem.W.nsIn K mainGlobals x = some (some (.ref f)))
    (l : K.lookup f = some ⟨oc, od, .func (PySem.W.fnOf x x (C8.fnArgs st) (C8.fnBody st) (C8.fnScope st) .none kV dc pm an cd ct), sl⟩) (c : PySem.W.codeIn K cd x = true) (k : PySem.W.keepIn K (.ref f) = true) : DfIn K x st :=
  ⟨f, od, an, sl, oc, kV, dc, pm, cd, ct, a, l, c, k⟩
theorem DfIn.df {K : PySem.W.Frag} {x : Str} {st : Stmt} {h : Heap} {mg : Str → Option Value} (D : DfIn K x st) (X : K.In h) (G : h.Ns mainGlobals mg) : Df K mg x st := by
  obtain ⟨f, od, an, sl, oc, kV, dc, pm, cd, ct, a, l, c, k⟩ := D.ex
  exact ⟨f, _, ⟨⟨oc, od, .none, kV, dc, pm, an, cd, ct, sl, rfl, l, c⟩, PySem.W.mg_of X G a, k⟩, rfl⟩
structure BiIn (K : PySem.W.Frag) : Prop where
  len : PySem.W.nsIn K mainGlobals "len" = some none
  ord : PySem.W.nsIn K mainGlobals "ord" = some none
  isi : PySem.W.nsIn K mainGlobals "isinstance" = some none
  list : PySem.W.nsIn K mainGlobals "list" = some none
  tuple : PySem.W.nsIn K mainGlobals "tuple" = some none
  range : PySem.W.nsIn K mainGlobals "range" = some none
  int : PySem.W.nsIn K mainGlobals "int" = some none
  str : PySem.W.nsIn K mainGlobals "str" = some none
  bool : PySem.W.nsIn K mainGlobals "bool" = some none
  zip : PySem.W.nsIn K mainGlobals "zip" = some none
  sum : PySem.W.nsIn K mainGlobals "sum" = some none
  sorted : PySem.W.nsIn K mainGlobals "sorted" = some none
  all : PySem.W.nsIn K mainGlobals "all" = some none
  dict : PySem.W.nsIn K mainGlobals "dict" = some none
  set : PySem.W.nsIn K mainGlobals "set" = some none
  enum : PySem.W.nsIn K mainGlobals "enumerate" = some none
  rev : PySem.W.nsIn K mainGlobals "reversed" = some none
  repr : PySem.W.nsIn K mainGlobals "repr" = some none
  max : PySem.W.nsIn K mainGlobals "max" = some none
  min : PySem.W.nsIn K mainGlobals "min" = some none
theorem BiIn.bi {K : PySem.W.Frag} {h : Heap} {mg : Str → Option Value} (b : BiIn K) (X : K.In h) (G : h.Ns mainGlobals mg) : Bi mg :=
  ⟨PySem.W.mg_none_of X G b.len, PySem.W.mg_none_of X G b.ord, PySem.W.mg_none_of X G b.isi, PySem.W.mg_none_of X G b.list, PySem.W.mg_none_of X G b.tuple, PySem.W.mg_none_of X G b.range, PySem.W.mg_none_of X G b.int, PySem.W.mg_none_of X G b.str, PySem.W.mg_none_of X G b.bool,
   PySem.W.mg_none_of X G b.zip, PySem.W.mg_none_of X G b.sum, PySem.W.mg_none_of X G b.sorted, PySem.W.mg_none_of X G b.all, PySem.W.mg_none_of X G b.dict, PySem.W.mg_none_of X G b.set, PySem.W.mg_none_of X G b.enum, PySem.W.mg_none_of X G b.rev, PySem.W.mg_none_of X G b.repr,
   PySem.W.mg_none_of X G b.max, PySem.W.mg_none_of X G b.min⟩
def spLaw : PSp := fun ds Q => ∃ ns : List Int, ds = [.scr ns] ∧ ns.length ≤ 63 ∧ Q (.bl true)
structure Gn (K : PySem.W.Frag) (T : Addr → Prop) (mg : Str → Option Value) (base : Heap) (x : Str) : Prop where
  ex : ∃ c p : Addr, GxR.TabB base mg c p ∧ T p ∧ ∀ (f : Addr) (oc : Value) (od : Option Addr) (fd : FuncData) (sl : Array (Option Value)), mg x = some (.ref f) → K.lookup f = some ⟨oc, od, .func fd, sl⟩ → fd.code = .ref c
section
variable {P : Program} {w : World} {K : PySem.W.Frag} {T : Addr → Prop} {mg : Str → Option Value} {base : Heap}
end
theorem law_sp {K : PySem.W.Frag} {H : Hp} {a : Addr} {ns : List Int} {ts : List Addr} (hn : ns.length ≤ 63) (hT : ∀ p ∈ ts, H p = some (.tbl #[])) (hS : SqL K H a (ns.map V.int)) : spD K (fun p => p ∈ ts) (psp spLaw) [.ref a] H (fun v _ => v = .bl true) (fun _ _ _ => False) := by
  have sub : Sub (fun b => if b ∈ ts then none else H b) H := fun b o e => by
    have e : (if b ∈ ts then none else H b) = some o := e
    by_cases h : b ∈ ts
    · rw [if_pos h] at e; cases e
    · rw [if_neg h] at e; exact e
  have hS' : SqL K (fun b => if b ∈ ts then none else H b) a (ns.map V.int) := by
    rcases hS with (h | ⟨o, h⟩) | h
    · refine .inl (.inl ?_)
      show (if a ∈ ts then none else H a) = _
      rw [if_neg fun z => by rw [hT a z] at h; cases h]; exact h
    · refine .inl (.inr ⟨o, ?_⟩)
      show (if a ∈ ts then none else H a) = _
      rw [if_neg fun z => by rw [hT a z] at h; cases h]; exact h
    · exact .inr h
  refine ⟨fun b => if b ∈ ts then none else H b, [], [.fz (.scr ns)], [], fun w _ => w = .fz (.bl true), ⟨.refl, sub, fun _ _ h => .inl h, fun _ _ h _ _ => h, fun _ h => h, rfl, fun _ _ h => h, fun _ _ h => .inl h, fun i j a h _ => by simp at h, fun n a od h _ => by simp at h, fun q tq => ⟨⟨#[], hT q tq, trivial⟩, if_pos tq, fun n e => by simp at e⟩⟩, .cons (.fz (.scr hS')) .nil, ⟨[.scr ns], rfl, rfl, ns, rfl, hn, rfl⟩, fun w S' h v H' B' m' _ r => ?_⟩
  subst h
  exact r.bl_of
end DL
namespace DL
open PySem PySem.Spec PyProof.Rows L2

def dicAt (S : Sto) : W → Option (Nat × List (Key × W))
  | .hd n => match S[n]? with
    | some (.dic kvs) => some (n, kvs)
    | _ => none
  | _ => none
def keyW : W → Option Key
  | .fz (.int i) => some (.inl i)
  | .fz (.str x) => some (.inr x)
  | _ => none
def valW (kvs : List (Key × W)) (k : Key) : Option W := (kvs.find? fun kv => decide (kv.1 = k)).map (·.2)
def putW (kvs : List (Key × W)) (k : Key) (v : W) : List (Key × W) :=
  if (kvs.any fun kv => decide (kv.1 = k)) = true then kvs.map (fun kv => if kv.1 = k then (kv.1, v) else kv) else kvs ++ [(k, v)]
section
variable {K : PySem.W.Frag} {F : Fx} {B : Hp} {m : List Addr} {S : Sto} {H : Hp}
theorem Cf.dic (c : Cf K F B m S H) {n : Nat} {kvs : List (Key × W)} {x : V} (r : RW K B m (.hd n) x) (h : S[n]? = some (.dic kvs)) : ∃ a vs, x = .ref a ∧ m[n]? = some a ∧ H a = some (.dK vs) ∧ FK K B m kvs vs := by
  cases r with
  | hd e =>
    obtain ⟨o, h1, ⟨vs, h2, h3⟩, _⟩ := c.own _ _ _ e h
    subst h2
    exact ⟨_, _, rfl, e, h1, h3⟩
theorem FK.val : ∀ {kvs : List (Key × W)} {vs : List (Key × V)} {k : Key}, FK K B m kvs vs → match valW kvs k with
    | some w => ∃ v, valV vs k = some v ∧ RW K B m w v
    | none => valV vs k = none
  | _, _, k, .nil => rfl
  | p :: kvs, q :: vs, k, .cons r t => by
    have ih := FK.val (k := k) t
    obtain ⟨e, r⟩ := r
    by_cases h : p.1 = k
    · have h1 : valW (p :: kvs) k = some p.2 := by simp [valW, List.find?_cons, h]
      rw [h1]
      exact ⟨q.2, valV_pos (e ▸ h), r⟩
    · have h1 : valW (p :: kvs) k = valW kvs k := by simp [valW, List.find?_cons, h]
      rw [h1, valV_neg (show ¬ q.1 = k by rw [← e]; exact h)]
      exact ih
theorem FK.any {k : Key} : ∀ {kvs : List (Key × W)} {vs : List (Key × V)}, FK K B m kvs vs → (kvs.any fun kv => decide (kv.1 = k)) = vs.any fun kv => decide (kv.1 = k)
  | _, _, .nil => rfl
  | p :: kvs, q :: vs, .cons r t => by
    rw [List.any_cons, List.any_cons, FK.any t, r.1]
theorem FK.map {k : Key} {w : W} {v : V} (rv : RW K B m w v) : ∀ {kvs : List (Key × W)} {vs : List (Key × V)}, FK K B m kvs vs → FK K B m (kvs.map fun kv => if kv.1 = k then (kv.1, w) else kv) (vs.map fun kv => if kv.1 = k then (kv.1, v) else kv)
  | _, _, .nil => .nil
  | p :: kvs, q :: vs, .cons r t => by
    refine .cons ?_ (FK.map rv t)
    by_cases h : p.1 = k
    · dsimp only
      rw [if_pos h, if_pos (show q.1 = k by rw [← r.1]; exact h)]
      exact ⟨r.1, rv⟩
    · dsimp only
      rw [if_neg h, if_neg (show ¬ q.1 = k by rw [← r.1]; exact h)]
      exact r
theorem FK.append : ∀ {kvs kvs' : List (Key × W)} {vs vs' : List (Key × V)}, FK K B m kvs vs → FK K B m kvs' vs' → FK K B m (kvs ++ kvs') (vs ++ vs')
  | _, _, _, _, .nil, q => q
  | _, _, _, _, .cons r t, q => .cons r (FK.append t q)
theorem FK.put {kvs : List (Key × W)} {vs : List (Key × V)} {k : Key} {w : W} {v : V} (r : FK K B m kvs vs) (rv : RW K B m w v) : FK K B m (putW kvs k w) (putK vs k v) := by
  unfold putW putK
  rw [r.any]
  split
  · exact r.map rv
  · exact r.append (.cons ⟨rfl, rv⟩ .nil)
theorem FK.len {kvs : List (Key × W)} {vs : List (Key × V)} (r : FK K B m kvs vs) : kvs.length = vs.length := Paired.length r
theorem FK.keys : ∀ {kvs : List (Key × W)} {vs : List (Key × V)}, FK K B m kvs vs → kvs.map (·.1) = vs.map (·.1)
  | _, _, .nil => rfl
  | _, _, .cons r t => by rw [List.map_cons, List.map_cons, FK.keys t, r.1]
end
structure getDW (S : Sto) (x y z : W) (Kp : WK) : Prop where
  get : onO (dicAt S x) fun p => onO (keyW y) fun k => Kp ((valW p.2 k).getD z) S
section
variable {X : Cx} {Ξ : Xt} {o i e value : Expr} {pos pos' apos cpos : Pos} {dd dk dv : DE} {k : Nat}
end
section
variable {X : Cx} {Ξ : Xt}
end
end DL
namespace DL
open PySem PySem.Spec PyProof.Rows L2

theorem ltC_irrefl : ∀ a : List Nat, ltCps a a = false
  | [] => rfl
  | a :: r => by simp [ltCps, ltC_irrefl r]
theorem ltC_asym : ∀ a b : List Nat, ltCps a b = true → ltCps b a = false
  | [], [], h => by cases h
  | [], _ :: _, _ => rfl
  | _ :: _, [], h => by cases h
  | a :: r, b :: t, h => by
    simp only [ltCps, Bool.or_eq_true, Bool.and_eq_true, decide_eq_true_eq, beq_iff_eq] at h
    simp only [ltCps, Bool.or_eq_false_iff, Bool.and_eq_false_iff, decide_eq_false_iff_not, beq_eq_false_iff_ne]
    rcases h with h | ⟨h, g⟩
    · exact ⟨by omega, .inl (by omega)⟩
    · exact ⟨by omega, .inr (ltC_asym r t g)⟩
theorem ltC_trans : ∀ a b c : List Nat, ltCps a b = true → ltCps b c = true → ltCps a c = true
  | [], [], _, h, _ => by cases h
  | [], _ :: _, [], _, g => by cases g
  | [], _ :: _, _ :: _, _, _ => rfl
  | _ :: _, [], _, h, _ => by cases h
  | _ :: _, _ :: _, [], _, g => by cases g
  | a :: r, b :: t, c :: u, h, g => by
    simp only [ltCps, Bool.or_eq_true, Bool.and_eq_true, decide_eq_true_eq, beq_iff_eq] at h g ⊢
    rcases h with h | ⟨h, h2⟩ <;> rcases g with g | ⟨g, g2⟩
    · exact .inl (by omega)
    · exact .inl (by omega)
    · exact .inl (by omega)
    · exact .inr ⟨by omega, ltC_trans r t u h2 g2⟩
theorem ltC_conn : ∀ a b : List Nat, ltCps a b = false → ltCps b a = false → a = b
  | [], [], _, _ => rfl
  | [], _ :: _, h, _ => by cases h
  | _ :: _, [], _, g => by cases g
  | a :: r, b :: t, h, g => by
    simp only [ltCps, Bool.or_eq_false_iff, Bool.and_eq_false_iff, decide_eq_false_iff_not, beq_eq_false_iff_ne] at h g
    have e : a = b := by omega
    subst e
    rw [ltC_conn r t (h.2.resolve_left fun z => z rfl) (g.2.resolve_left fun z => z rfl)]
theorem strLt_eq (a b : Str) : strLt a b = ltCps a.cps.toList b.cps.toList := by
  unfold strLt
  rw [PyProof.Rows.ltCps_eq]
theorem str_of_list {a b : Str} (h : a.cps.toList = b.cps.toList) : a = b := by
  cases a; cases b
  congr 1
  exact Array.toList_inj.mp h
theorem strLt_irrefl (a : Str) : strLt a a = false := by rw [strLt_eq]; exact ltC_irrefl _
theorem strLt_asym {a b : Str} (h : strLt a b = true) : strLt b a = false := by rw [strLt_eq] at *; exact ltC_asym _ _ h
theorem strLt_trans {a b c : Str} (h : strLt a b = true) (g : strLt b c = true) : strLt a c = true := by rw [strLt_eq] at *; exact ltC_trans _ _ _ h g
theorem strLt_conn {a b : Str} (h : strLt a b = false) (g : strLt b a = false) : a = b := by rw [strLt_eq] at *; exact str_of_list (ltC_conn _ _ h g)
theorem strLt_ne {a b : Str} (h : strLt a b = true) : a ≠ b := fun e => by subst e; rw [strLt_irrefl] at h; cases h
theorem strLt_or {a b : Str} (h : a ≠ b) : strLt a b = true ∨ strLt b a = true := by
  cases q : strLt a b with
  | true => exact .inl rfl
  | false =>
    cases q2 : strLt b a with
    | true => exact .inr rfl
    | false => exact absurd (strLt_conn q q2) h
theorem strLt_neg_trans {x y z : Str} (h1 : strLt y x = false) (h2 : strLt z y = false) : strLt z x = false := by
  cases q : strLt z x with
  | false => rfl
  | true =>
    by_cases e : x = y
    · subst e; rw [h2] at q; cases q
    · rcases strLt_or e with r | r
      · have := strLt_trans q r; rw [h2] at this; cases this
      · rw [h1] at r; cases r
def KTup (h : Heap) (v : Value) (k : Str) : Prop := ∃ a o t us n, v = .ref a ∧ h.get? a = some o ∧ o.cls = .type "tuple" ∧ o.data = .seq us n ∧ us[0]? = some (.str k t)
theorem KTup.keeps {h h' : Heap} {v : Value} {k : Str} (p : KTup h v k) (kp : ∀ b o, h.get? b = some o → o.cls = .type "tuple" → h'.get? b = some o) : KTup h' v k := by
  obtain ⟨a, o, t, us, n, e, ho, hc, hd, hf⟩ := p
  exact ⟨a, o, t, us, n, e, kp _ _ ho hc, hc, hd, hf⟩
section
variable {prog : Program} {w : World} {A : Around} {E : Value → Shared → Prop} {s : Shared}
end
section
variable {X : Cx} {Ξ : Xt}
end
end DL
namespace DL
open PySem PySem.Spec PyProof.Rows L2

section
variable {X : Cx} {Ξ : Xt} {k j : Nat} {x : Str} {P : PSp} {p pos : Pos} {e : Expr} {es : List Expr} {da : DA}
end
section
variable {P : Program} {w : World} {K : PySem.W.Frag} {T : Addr → Prop} {mg : Str → Option Value} {base : Heap}
end
end DL
namespace DL
open PySem PySem.Spec PyProof.Rows L2

section
variable {K : PySem.W.Frag} {F : Fx} {B : Hp} {m : List Addr}
end
section
variable {X : Cx} {Ξ : Xt} {e e2 e3 : Expr} {da : DA} {p pos tpos : Pos} {elts : List Expr} {kk : Nat}
end
section
variable {X : Cx} {Ξ : Xt} {elt tg iter tg1 iter1 : Expr} {ifs ifs1 : List Expr} {scope : Scope} {ow : List (Str × Nat)} {vs1 : List Nat} {pos : Pos} {di di1 : DI} {g g1 : TG} {dg dg1 : DG} {tt tt1 : DT} {te : DE}
end
structure CIn (K : PySem.W.Frag) (x : Str) (i : Int) : Prop where
  ex : ∃ t, PySem.W.nsIn K mainGlobals x = some (some (.int i t))
theorem CIn.mg {K : PySem.W.Frag} {x : Str} {i : Int} {h : Heap} {mg : Str → Option Value} (c : CIn K x i) (X : K.In h) (G : h.Ns mainGlobals mg) : ∃ t, mg x = some (.int i t) := by
  obtain ⟨t, e⟩ := c.ex
  exact ⟨t, PySem.W.mg_of X G e⟩
structure CIS (K : PySem.W.Frag) (x : Str) (i : Str) : Prop where
  ex : ∃ t : Tok, PySem.W.nsIn K mainGlobals x = some (some (.str i t))
theorem CIS.mg {K : PySem.W.Frag} {x : Str} {i : Str} {h : Heap} {mg : Str → Option Value} (c : CIS K x i) (X : K.In h) (G : h.Ns mainGlobals mg) : ∃ t, mg x = some (.str i t) := by
  obtain ⟨t, e⟩ := c.ex
  exact ⟨t, PySem.W.mg_of X G e⟩
end DL
set_option maxHeartbeats 2000000
namespace GX
open PySem PySem.Spec PyProof.Rows L2

section
variable {prog : Program} {w : World} {A : Around}
end
abbrev gex (X : Cx) (s : Shared) (H : Hp) (env : Env) (fp : List Addr) (pn : List (Addr × Obj)) : Cx :=
  { X with A := X.A.in1.in1.deeper env, s_0 := s, H_0 := H, env := env, outer := X.stack, stack := env :: X.stack, ex := fp, fn := fun _ => false, pn := pn, xe := fun _ _ => False }
section
variable {X : Cx} {pins : List (Addr × Obj)} {σ : L2.St} {H : Hp} {s : Shared}
end

structure Slept0 (s s' : Shared) : Prop where
  os : s'.os = s.os
  bare : AllBare s'.gens
  keep : ∀ b o, s.heap.get? b = some o → s'.heap.get? b = some o
section
variable {X : Cx} {s3 : Shared} {H3 : Hp} {genv : Env} {fp : List Addr} {pn : List (Addr × Obj)} {σ : L2.St} {vs : List Nat} {elt tg iter : Expr} {ifs : List Expr} {scope : Scope} {pos : Pos} {it : Addr} {tn : Nat → Heap → Prop} {J : It} {g : TG} {tt : TT} {te : TE}
theorem slept_inv {Xg : Cx} {pins : List (Addr × Obj)} {σ' : L2.St} {H : Hp} {s s' : Shared} (I : Inv Xg pins σ' H s) (z : Slept0 s s') : Inv Xg pins σ' H s' :=
  I.call' (ch := []) z.os (Un.kept z.keep) (I.hok.kept z.keep) z.bare fun b hb => by simp at hb
end

section
variable {X : Cx} {pins : List (Addr × Obj)} {σ : L2.St} {H3 : Hp} {s3 : Shared} {genv : Env} {fp : List Addr} {a : Addr} {g : Nat} {go : Obj} {nm qn : Value}
theorem back {pins' : List (Addr × Obj)} {σ' : L2.St} {H' : Hp} {s' s'' : Shared} (I3 : Inv X pins σ H3 s3) (hfp : ∀ b ∈ fp, FpOk X pins H3 b) {pn : List (Addr × Obj)} (I' : Inv (gex X s3 H3 genv fp pn) pins' σ' H' s') (os : s''.os = s'.os) (bare : AllBare s''.gens) (k : ∀ b o, s'.heap.get? b = some o → s''.heap.get? b = some o) : Inv X pins σ H' s'' := by
  have J := slept_inv I' ⟨os, bare, k⟩
  exact I3.call' (ch := fp) J.os J.base J.hok J.bare fun b hb => ⟨(hfp b hb).2.2.2.1, (hfp b hb).2.1, (hfp b hb).2.2.2.2.1, (hfp b hb).2.2.2.2.2⟩
end

section
variable {X : Cx} {pins : List (Addr × Obj)} {σ : L2.St} {H : Hp} {s : Shared}
end
end GX
namespace DL
open PySem PySem.Spec PyProof.Rows L2 GX

section
variable {X : Cx} {Ξ : Xt} {elt tg iter : Expr} {ifs : List Expr} {scope : Scope} {ow : List (Str × Nat)} {pos pp gpos : Pos} {di : DI} {g : TG} {dg : DG} {tt : DT} {te : DE} {cdv : Value} {k : Nat}
end
section
variable {X : Cx} {x y z : Str} {p1 p2 p3 pos : Pos} {k : Nat}
end
section
variable {X : Cx} {Ξ : Xt} {a b : Expr} {da db : DE} {pos : Pos}
end
end DL
namespace DL
open PySem PySem.Spec PyProof.Rows L2

section
variable {X : Cx} {Ξ : Xt}
end
section
variable {X : Cx} {Ξ : Xt} {o i e f : Expr} {pos apos : Pos} {dd dk dv : DE} {k : Nat}
end
section
variable {X : Cx} {Ξ : Xt} {a : Expr} {da : DE} {pos : Pos}
end
end DL
namespace DL
open PySem PySem.Spec PyProof.Rows L2

def spInit (C : Addr) (names : List Str) : Sp := fun vs H Q _ => ∃ (a dx : Addr) (vals : List V), vs = .ref a :: vals ∧ vals.length = names.length ∧ H a = some (.ins C dx []) ∧ Q .non (upd H a (.ins C dx (names.zip vals)))
structure MIn (K : PySem.W.Frag) (x qual : Str) (st : Stmt) (names : List Str) : Prop where
  ex : ∃ (C f : Addr) (od an : Option Addr) (sl : Array (Option Value)) (oc kV dc pm cd ct : Value), PySem.W.nsIn K mainGlobals x = some (some (.ref C)) ∧ Mk K C f ∧
    K.lookup f = some ⟨oc, od, .func (PySem.W.fnOf "__init__" qual (C8.fnArgs st) (C8.fnBody st) (C8.fnScope st) .none kV dc pm an cd ct), sl⟩ ∧ PySem.W.codeIn K cd qual = true ∧ Cls K C ∧ ∀ n ∈ names, NoAttr K C n
structure MDf (K : PySem.W.Frag) (mg : Str → Option Value) (x qual : Str) (st : Stmt) (names : List Str) (C : Addr) : Prop where
  ex : ∃ (f : Addr) (fd : FuncData), Mk K C f ∧ C8.Fun K "__init__" qual st f fd ∧ fd.defaults = .none
  mgC : mg x = some (.ref C)
  cls : Cls K C
  na : ∀ n ∈ names, NoAttr K C n
theorem MIn.df {K : PySem.W.Frag} {x qual : Str} {st : Stmt} {names : List Str} {h : Heap} {mg : Str → Option Value} (D : MIn K x qual st names) (X : K.In h) (G : h.Ns mainGlobals mg) : ∃ C, MDf K mg x qual st names C := by
  obtain ⟨C, f, od, an, sl, oc, kV, dc, pm, cd, ct, a, M, l, k, c, na⟩ := D.ex
  exact ⟨C, ⟨f, _, M, ⟨oc, od, .none, kV, dc, pm, an, cd, ct, sl, rfl, l, k⟩, rfl⟩, PySem.W.mg_of X G a, c, na⟩
structure RecC (P : Program) (w : World) (K : PySem.W.Frag) (mg : Str → Option Value) (base : Heap) (x : Str) (names : List Str) (C : Addr) : Prop where
  mak : C8.Mak P w K mg base 1 x C (spInit C names) []
  cls : Cls K C
  na : ∀ n ∈ names, NoAttr K C n
section
variable {K : PySem.W.Frag} {F : Fx} {B : Hp} {m : List Addr} {S : Sto} {H : Hp}
theorem Cf.fresh (c : Cf K F B m S H) {p : Addr} (h : H p = none) : B p = none ∧ (∀ i : Nat, m[i]? ≠ some p) ∧ ¬ F.T p ∧ F.H p = none := by
  refine ⟨?_, fun i z => ?_, fun tq => tab_ne (c.tab p tq).1 h rfl, c.dom p h⟩
  · cases q : B p with
    | none => rfl
    | some o => have := c.sub _ _ q; rw [h] at this; cases this
  · have hi := (List.getElem?_eq_some_iff.mp z).1
    rw [c.len] at hi
    obtain ⟨o, q1, _⟩ := c.own i p _ z (List.getElem?_eq_getElem hi)
    rw [h] at q1
    cases q1
end
section
variable {X : Cx} {Ξ : Xt} {C : Addr} {names : List Str} {j : Nat} {x f : Str} {e : Expr} {es : List Expr} {da : DA} {de : DE} {p pos : Pos}
end
end DL
set_option maxHeartbeats 2000000
namespace GX
open PySem PySem.Spec PyProof.Rows L2

abbrev sumO (z : Int) (t : Tok) (c : Nat) : Obj := { cls := .type "list", dict := none, data := .seq #[.int z t] c, slots := #[] }
def SumAt (S : Addr) (z : Int) (h : Heap) : Prop := ∃ t c, h.get? S = some (sumO z t c)
structure SlS (S : Addr) (z : Int) (s s' : Shared) : Prop where
  os : s'.os = s.os
  bare : AllBare s'.gens
  keep : ∀ b o, b ≠ S → s.heap.get? b = some o → s'.heap.get? b = some o
  sum : SumAt S z s'.heap
section
variable {prog : Program} {w : World} {A : Around}
end
section
variable {X : Cx} {pins : List (Addr × Obj)} {σ : L2.St} {H : Hp} {s : Shared}
end

section
variable {X : Cx} {s3 : Shared} {H3 : Hp} {genv : Env} {fp : List Addr} {pn : List (Addr × Obj)} {σ : L2.St} {vs : List Nat} {elt tg iter : Expr} {ifs : List Expr} {scope : Scope} {pos : Pos} {it S : Addr} {tn : Nat → Heap → Prop} {J : It} {g : TG} {tt : TT} {te : TE}
end

section
variable {X : Cx} {s3 : Shared} {H3 : Hp} {genv : Env} {fp : List Addr} {a S : Addr} {g : Nat} {go : Obj} {nm qn : Value}
end
end GX
namespace DL
open PySem PySem.Spec PyProof.Rows L2 GX
section
variable {X : Cx} {Ξ : Xt} {elt tg iter : Expr} {ifs : List Expr} {scope : Scope} {ow : List (Str × Nat)} {pos pp gpos : Pos} {di : DI} {g : TG} {dg : DG} {tt : DT} {te : DE} {cdv : Value} {k : Nat}
end
end DL
namespace DL
open PySem PySem.Spec PyProof.Rows L2
section
variable {X : Cx} {Ξ : Xt} {k j : Nat} {x : Str} {P : PSp} {p pos : Pos} {e : Expr} {es : List Expr} {da : DA}
end
section
variable {P : Program} {w : World} {K : PySem.W.Frag} {T : Addr → Prop} {mg : Str → Option Value} {base : Heap}
end
end DL
namespace DL
open PySem PySem.Spec PyProof.Rows L2

def codes (x : Str) : List Int := x.cps.toList.map fun c => ((c : Nat) : Int)
mutual
def enc : D → List Int
  | .str x => 1 :: (x.length : Int) :: codes x
  | .tup ds => 2 :: (ds.length : Int) :: encL ds
  | .int i => [0, i]
  | _ => []
def encL : List D → List Int
  | [] => []
  | d :: ds => enc d ++ encL ds
end
mutual
def isVal : Nat → D → Bool
  | _ + 1, .int _ => true
  | _ + 1, .str x => decide (x.length ≤ 1000)
  | n + 1, .tup ds => decide (ds.length ≤ 1000) && isValL n ds
  | _, _ => false
def isValL : Nat → List D → Bool
  | _, [] => true
  | n, d :: ds => isVal n d && isValL n ds
end
def intsD (ns : List Int) : D := .lst (ns.map .int)
def spEncode (n : Nat) : PSp := fun ds Q => ∃ d, ds = [d] ∧ isVal n d = true ∧ (enc d).length ≤ 10000 ∧ Q (intsD (enc d))
def digI (b m : Int) (ns : List Int) : Int := ((ns.foldl (fun f n => (f * b + n + 1) % m) (1 % m)) * b + (ns.length : Int)) % m
def dig (b m : Int) (v : D) : Int := digI b m (enc v)
def isRule (b m : Int) : Prop := 1 ≤ b ∧ b ≤ 10 ^ 18 ∧ 2 ≤ m ∧ m ≤ 10 ^ 18
def ruleD (b m : Int) : D := .tup [.int b, .int m]
def sign (c : Nat) : Bool := (decide (97 ≤ c) && decide (c ≤ 122)) || (decide (48 ≤ c) && decide (c ≤ 57))
def isKey (x : Str) : Prop := 1 ≤ x.cps.toList.length ∧ x.cps.toList.length ≤ 8 ∧ x.cps.toList.all sign = true
theorem app_l (x y : Str) : (x ++ y).cps.toList = x.cps.toList ++ y.cps.toList := by
  show (x.cps ++ y.cps).toList = _
  simp
def isRow (r : List Int) : Prop := 1 ≤ r.length ∧ r.length ≤ 3 ∧ ∀ i ∈ r, 0 ≤ i ∧ i ≤ 65535
def rowD (r : List Int) : D := .tup (r.map .int)
theorem onO_scr {ns : List Int} {k : List D → Prop} (h : k (ns.map .int)) : onO (fzL (ns.map fun n => W.fz (.int n))) k := by
  have e : (ns.map fun n => W.fz (D.int n)) = (ns.map D.int).map W.fz := by simp
  rw [e, fzL_map]
  exact h
theorem ifB_ne {a b : D} {A B : Prop} (h : eqD a b = true) (k : B) : ifB (!eqD a b) A B := by rw [h]; exact k
theorem dig_range {b m : Int} (h : isRule b m) (v : D) : 0 ≤ dig b m v ∧ dig b m v < m := by
  have hm : 0 < m := by have := h.2.2.1; omega
  exact ⟨Int.emod_nonneg _ (by omega), Int.emod_lt_of_pos _ hm⟩
theorem eqD_int (i : Int) : eqD (.int i) (.int i) = true := by simp [eqD, toPy, PyData.eqv]
theorem isRule.pos {b m : Int} (h : isRule b m) : 0 < m := by have := h.2.2.1; omega
end DL
namespace DL
open PySem PySem.Spec PyProof.Rows L2

mutual
theorem eqv_refl : ∀ d : D, PyData.eqv (toPy d) (toPy d) = true
  | .non => rfl
  | .bl b => by show (b == b) = true; simp
  | .int i => by show (i == i) = true; simp
  | .str x => by show (x == x) = true; simp
  | .tup ds => eqvL_refl ds
  | .lst ds => eqvL_refl ds
  | .obj _ _ => rfl
  | .scr _ => rfl
  | .ty _ => rfl
theorem eqvL_refl : ∀ ds : List D, PyData.eqvAll (toPyL ds) (toPyL ds) = true
  | [] => rfl
  | d :: ds => by
    show (PyData.eqv (toPy d) (toPy d) && PyData.eqvAll (toPyL ds) (toPyL ds)) = true
    rw [eqv_refl d, eqvL_refl ds]
    rfl
end
theorem eqD_refl (d : D) : eqD d d = true := eqv_refl d
theorem eqD_str (a b : Str) : eqD (.str a) (.str b) = decide (a = b) := by
  show (a == b) = _
  by_cases h : a = b
  · subst h; simp
  · simp [h]
abbrev Tab := List (Str × List Int)
def tabR (r : Str × List Int) : D := .tup [.str r.1, rowD r.2]
def tabD (rows : Tab) : D := .lst (rows.map tabR)
def isTab (rows : Tab) : Prop := rows.Pairwise (fun a b => strLt a.1 b.1 = true) ∧ ∀ r ∈ rows, isKey r.1 ∧ isRow r.2
theorem risingS_le : ∀ (p : Str) (l : List Str), risingS p l = true → (p :: l).Pairwise fun a b => strLt b a = false
  | p, [], _ => List.pairwise_singleton _ _
  | p, x :: r, h => by
    simp only [risingS, Bool.and_eq_true, Bool.not_eq_true'] at h
    have ih := risingS_le x r h.2
    have h1 : strLt x p = false := by rw [strLt_eq]; exact h.1
    refine List.pairwise_cons.mpr ⟨fun y hy => ?_, ih⟩
    rcases List.mem_cons.mp hy with rfl | hy
    · exact h1
    · exact strLt_neg_trans h1 ((List.pairwise_cons.mp ih).1 y hy)
theorem sortedS_lt {l : List Str} (h : sortedS l = true) (hn : l.Nodup) : l.Pairwise fun a b => strLt a b = true := by
  have h1 : l.Pairwise fun a b => strLt b a = false := by
    cases l with
    | nil => exact .nil
    | cons x r => exact risingS_le x r h
  refine (h1.and hn).imp fun {a b} h => ?_
  rcases strLt_or h.2 with q | q
  · exact q
  · rw [h.1] at q; cases q
theorem strict_eq {α : Type} {lt : α → α → Prop} (as : ∀ x y, lt x y → ¬ lt y x) : ∀ {a b : List α}, a.Pairwise lt → b.Pairwise lt → a.Perm b → a = b
  | [], b, _, _, p => (List.nil_perm.mp p).symm
  | x :: a, [], _, _, p => by have := p.length_eq; simp at this
  | x :: a, y :: b, ha, hb, p => by
    obtain ⟨ha1, ha2⟩ := List.pairwise_cons.mp ha
    obtain ⟨hb1, hb2⟩ := List.pairwise_cons.mp hb
    have hx : x ∈ y :: b := p.mem_iff.mp List.mem_cons_self
    have hy : y ∈ x :: a := p.mem_iff.mpr List.mem_cons_self
    have e : x = y := by
      rcases List.mem_cons.mp hx with e | h1
      · exact e
      · rcases List.mem_cons.mp hy with e | h2
        · exact e.symm
        · exact absurd (ha1 y h2) (as _ _ (hb1 x h1))
    subst e
    rw [strict_eq as ha2 hb2 ((List.perm_cons x).mp p)]
inductive Ch where
  | put (k : Str) (r : List Int) | rem (k : Str)
def Ch.key : Ch → Str
  | .put k _ => k
  | .rem k => k
def chMid : Ch → Tab
  | .put k r => [(k, r)]
  | .rem _ => []
def chg (rows : Tab) (c : Ch) : Tab := (rows.filter fun p => strLt p.1 c.key) ++ chMid c ++ rows.filter fun p => strLt c.key p.1
theorem okDL_ints (n : Nat) : ∀ r : List Int, okDL n (r.map D.int) = true
  | [] => rfl
  | i :: r => by
    show (okD n (.int i) && okDL n (r.map D.int)) = true
    rw [okDL_ints n r]
    cases n <;> rfl
theorem ok_row (n : Nat) (r : List Int) : okD (n + 1) (rowD r) = true := okDL_ints n r
theorem ok_str {n : Nat} {x : Str} (h : PyData.strOk x = true) : okD n (.str x) = true := by cases n <;> exact h
theorem okDL_of {n : Nat} : ∀ {ds : List D}, (∀ d ∈ ds, okD n d = true) → okDL n ds = true
  | [], _ => rfl
  | d :: ds, h => by
    show (okD n d && okDL n ds) = true
    rw [h d List.mem_cons_self, okDL_of fun e he => h e (List.mem_cons_of_mem _ he)]
    rfl
end DL
namespace DL
open PySem PySem.Spec PyProof.Rows L2

def cellI (r : List Int) (k : Nat) : Int := r.getD k 0
def rankI (k : Str) : Int := (codes k).foldl (fun f c => (f * 131 + c) % 1000003) 7
def rowAt (rows : Tab) (i : Nat) : Str × List Int := rows.getD i ("", [])
def topN (rows : Tab) : Nat := (List.range rows.length).foldl (fun b k => if rankI (rowAt rows b).1 < rankI (rowAt rows k).1 then k else b) 0
theorem top_aux (rows : Tab) : ∀ (l : List Nat) (b : Nat), (∀ k ∈ l, k < rows.length) → b < rows.length → l.foldl (fun b k => if rankI (rowAt rows b).1 < rankI (rowAt rows k).1 then k else b) b < rows.length
  | [], b, _, h => h
  | k :: l, b, hl, h => by
    rw [List.foldl_cons]
    refine top_aux rows l _ (fun j hj => hl j (List.mem_cons_of_mem _ hj)) ?_
    split
    · exact hl k List.mem_cons_self
    · exact h
theorem top_lt {rows : Tab} (h : rows ≠ []) : topN rows < rows.length :=
  top_aux rows _ 0 (fun k hk => List.mem_range.mp hk) (by cases rows with | nil => exact absurd rfl h | cons _ _ => exact Nat.succ_pos _)
theorem rowAt_get {rows : Tab} {i : Nat} (h : i < rows.length) : rows[i]? = some (rowAt rows i) := by
  unfold rowAt
  rw [List.getD_eq_getElem?_getD, List.getElem?_eq_getElem h]
  rfl
structure Link where
  d : Int
  n : Int
  a : Int
  b : Int
  c : Int
def linkD (l : Link) : D := .tup [.int l.d, .int l.n, .tup [.int l.a, .int l.b, .int l.c]]
def entD (k : Str) (r : List Int) (x y : Link) : D := .tup [.str k, rowD r, linkD x, linkD y]
def nodeD (k : Str) (r : List Int) (x y : Link) : D := .tup [.str "node", .str k, rowD r, linkD x, linkD y]
def linkOf (b m : Int) (k : Str) (r : List Int) (x y : Link) : Link := ⟨dig b m (nodeD k r x y), 1 + x.n + y.n, cellI r 0 + x.a + y.a, cellI r 1 + x.b + y.b, cellI r 2 + x.c + y.c⟩
def emptyD : D := .tup [.str "empty"]
def link0 (b m : Int) : Link := ⟨dig b m emptyD, 0, 0, 0, 0⟩
inductive Tr where
  | nil | node (k : Str) (r : List Int) (x y : Tr)
def linkT (b m : Int) : Tr → Link
  | .nil => link0 b m
  | .node k r x y => linkOf b m k r (linkT b m x) (linkT b m y)
def treeF : Nat → Tab → Tr
  | 0, _ => .nil
  | n + 1, rows => if rows.isEmpty then .nil else .node (rowAt rows (topN rows)).1 (rowAt rows (topN rows)).2 (treeF n (rows.take (topN rows))) (treeF n (rows.drop (topN rows + 1)))
theorem treeF_fuel : ∀ (n k : Nat) (rows : Tab), rows.length ≤ n → rows.length ≤ k → treeF n rows = treeF k rows
  | 0, 0, _, _, _ => rfl
  | 0, k + 1, rows, h, _ => by
    have : rows = [] := List.eq_nil_of_length_eq_zero (by omega)
    subst this
    rfl
  | n + 1, 0, rows, _, h => by
    have : rows = [] := List.eq_nil_of_length_eq_zero (by omega)
    subst this
    rfl
  | n + 1, k + 1, rows, h1, h2 => by
    unfold treeF
    cases e : rows.isEmpty with
    | true => rfl
    | false =>
      have ht := top_lt (rows := rows) (by intro z; subst z; cases e)
      rw [if_neg Bool.false_ne_true, if_neg Bool.false_ne_true]
      rw [treeF_fuel n k (rows.take (topN rows)) (by rw [List.length_take]; omega) (by rw [List.length_take]; omega), treeF_fuel n k (rows.drop (topN rows + 1)) (by rw [List.length_drop]; omega) (by rw [List.length_drop]; omega)]
def treeT (rows : Tab) : Tr := treeF rows.length rows
theorem treeT_node {rows : Tab} (h : rows ≠ []) : treeT rows = .node (rowAt rows (topN rows)).1 (rowAt rows (topN rows)).2 (treeT (rows.take (topN rows))) (treeT (rows.drop (topN rows + 1))) := by
  have ht := top_lt h
  have e : treeT rows = treeF (rows.length + 1) rows := treeF_fuel _ _ _ (Nat.le_refl _) (Nat.le_succ _)
  rw [e, treeF, if_neg (by cases rows with | nil => exact absurd rfl h | cons _ _ => exact Bool.false_ne_true)]
  unfold treeT
  rw [treeF_fuel rows.length (rows.take (topN rows)).length (rows.take (topN rows)) (by rw [List.length_take]; omega) (Nat.le_refl _), treeF_fuel rows.length (rows.drop (topN rows + 1)).length (rows.drop (topN rows + 1)) (by rw [List.length_drop]; omega) (Nat.le_refl _)]
theorem isTab.take {rows : Tab} (h : isTab rows) (n : Nat) : isTab (rows.take n) := ⟨h.1.sublist (List.take_sublist _ _), fun r hr => h.2 r (List.mem_of_mem_take hr)⟩
theorem isTab.drop {rows : Tab} (h : isTab rows) (n : Nat) : isTab (rows.drop n) := ⟨h.1.sublist (List.drop_sublist _ _), fun r hr => h.2 r (List.mem_of_mem_drop hr)⟩
theorem isTab.at {rows : Tab} (h : isTab rows) {i : Nat} (hi : i < rows.length) : isKey (rowAt rows i).1 ∧ isRow (rowAt rows i).2 := h.2 _ (List.mem_of_getElem? (rowAt_get hi))
end DL
namespace DL
open PySem PySem.Spec PyProof.Rows L2

structure Wh where
  n : Int
  d : Int
  w : Int
theorem mem2 {a b x : W} {i : Nat} (h : [a, b][i]? = some x) : x = a ∨ x = b := by
  have h := List.mem_of_getElem? h
  simpa using h
structure Ver where
  n : Int
  l : Link
  k : Int
def verD (v : Ver) : D := .tup [.int v.n, linkD v.l, .int v.k]
def sealedD (v : Ver) (g : List Int) : D := .tup [verD v, rowD g]
end DL
namespace DL
open PySem PySem.Spec PyProof.Rows L2

abbrev SV := Ver × List Int
def sx (x : SV) : D := sealedD x.1 x.2
def at_ (l : List SV) (n : Int) : Option SV := l.find? fun x => decide (x.1.n = n)
structure OkL (l : List SV) : Prop where
  lo : ∀ x ∈ l, 0 ≤ x.1.n ∧ x.1.n < 5
  nd : (l.map (·.1.n)).Nodup
  le : l.length ≤ 5
end DL
namespace DL
open PySem PySem.Spec PyProof.Rows L2

def adj {α : Type} (f : α → α → Bool) : List α → Bool
  | x :: y :: r => f x y && adj f (y :: r)
  | _ => true
def verV (v : Ver) : D := .tup [.str "version", .int v.n, linkD v.l, .int v.k]
def vdig (b m : Int) (v : Ver) : Int := dig b m (verV v)
def leadsB (b m : Int) (u v : Ver) : Bool := decide (v.n = u.n + 1) && decide (v.k = vdig b m u)
def histG (b m : Int) : Ver → List Link → List Ver
  | _, [] => []
  | u, l :: r => ⟨u.n + 1, l, vdig b m u⟩ :: histG b m ⟨u.n + 1, l, vdig b m u⟩ r
def histL (b m : Int) (l : Link) (r : List Link) : List Ver := ⟨0, l, 0⟩ :: histG b m ⟨0, l, 0⟩ r
theorem cut_len {α : Type} (l : List α) (lo hi : Option Int) : (cutL l lo hi).length ≤ l.length := by
  unfold cutL
  rw [List.length_take, List.length_drop]
  omega
end DL
namespace DL
open PySem PySem.Spec PyProof.Rows L2
def lettersS : Str := "abcdefghijklmnopqrstuvwxyz0123456789"
def keyB (k : Str) : Bool := (decide (1 ≤ ((k.length : Nat) : Int)) && decide (((k.length : Nat) : Int) ≤ 8)) && k.cps.toList.all fun c => decide (c ∈ lettersS.cps.toList)
theorem len_l (k : Str) : k.length = k.cps.toList.length := by simp [Str.length]
def okT (rows : Tab) : Prop := rows.length ≤ 200 ∧ ∀ r ∈ rows, r.1.length ≤ 100 ∧ r.2.length ≤ 100 ∧ PyData.strOk r.1 = true
theorem okT.okD {rows : Tab} (h : okT rows) : DL.okD 64 (tabD rows) = true := by
  show okDL 63 (rows.map tabR) = true
  refine okDL_of fun d hd => ?_
  obtain ⟨r, hr, rfl⟩ := List.mem_map.mp hd
  show (DL.okD 62 (.str r.1) && (DL.okD 62 (rowD r.2) && true)) = true
  rw [ok_str (h.2 r hr).2.2, ok_row]
  rfl
theorem okT.app {a b : Tab} (h : okT a) (g : okT b) (hl : a.length + b.length ≤ 200) : okT (a ++ b) := ⟨by rw [List.length_append]; exact hl, fun r hr => by
  rcases List.mem_append.mp hr with hr | hr
  · exact h.2 r hr
  · exact g.2 r hr⟩
theorem okT.sub {a b : Tab} (h : okT b) (s : ∀ r ∈ a, r ∈ b) (hl : a.length ≤ b.length) : okT a := ⟨Nat.le_trans hl h.1, fun r hr => h.2 r (s r hr)⟩
theorem cut_mem {α : Type} {l : List α} {lo hi : Option Int} {x : α} (h : x ∈ cutL l lo hi) : x ∈ l := List.mem_of_mem_drop (List.mem_of_mem_take h)
theorem okT.cut {b : Tab} (h : okT b) (lo hi : Option Int) : okT (cutL b lo hi) := h.sub (fun _ hr => cut_mem hr) (cut_len _ _ _)
theorem newL_E {ws : List W} (ds : List D) {S : Sto} {Kp : WK} (e : ws = ds.map W.fz) (h : Kp (.fz (.lst ds)) S) : newL false ws S Kp := by
  rw [e]
  exact newL_F h
end DL
namespace DL
open PySem PySem.Spec PyProof.Rows L2
def back (b m : Int) : List Ver → Bool := adj fun x y => leadsB b m y x
end DL
namespace DL
open PySem PySem.Spec PyProof.Rows L2
def treeO (C : Addr) (b m : Int) : Tr → D
  | .nil => .obj C [("link", linkD (link0 b m)), ("entry", .non), ("left", .non), ("right", .non)]
  | .node k r x y => .obj C [("link", linkD (linkOf b m k r (linkT b m x) (linkT b m y))), ("entry", entD k r (linkT b m x) (linkT b m y)), ("left", treeO C b m x), ("right", treeO C b m y)]
def outB (one two : Str) : Bool := PySem.W.dataLt (toPy (.tup [.int (rankI two), .str one])) (toPy (.tup [.int (rankI one), .str two]))
end DL
namespace DL
open PySem PySem.Spec PyProof.Rows L2
def inB (lo hi : Str) (r : Str × List Int) : Bool := !strLt r.1 lo && strLt r.1 hi
inductive Qy where
  | get (k : Str) | rng (lo hi : Str) | nxt (b : Str) (n : Int) | cnt (lo hi : Str) | sm (c : Int) (lo hi : Str) | plc (b : Str) | at (i : Int)
def getD (rows : Tab) (k : Str) : D := match rows.find? fun r => decide (r.1 = k) with
  | some r => rowD r.2
  | none => .non
theorem mapR (l : Tab) : (l.map tabR).map W.fz = l.map fun r => W.fz (tabR r) := by
  rw [List.map_map]
  rfl
theorem isTab.filter {rows : Tab} (h : isTab rows) (p : Str × List Int → Bool) : ∀ r ∈ rows.filter p, isKey r.1 ∧ isRow r.2 := fun r hr => h.2 r ((List.mem_filter.mp hr).1)
end DL
namespace DL
open PySem PySem.Spec PyProof.Rows L2

def keySt (e : Int × Value) : Str := match e.2 with | .str k _ => k | _ => Str.empty
def GoodSt (w : World) (e : Int × Value) : Prop := ∃ (k : Str) (tk : Tok), e.2 = Value.str k tk ∧ e.1 = hashStr w k
def SetSR (w : World) (h : Heap) (a : Addr) (L : List Str) : Prop :=
  ∃ o es ep t, h.get? a = some o ∧ o.ExactSet ∧ o.data = .set es ep t ∧ (∀ e ∈ es.toList, GoodSt w e) ∧ (es.toList.map keySt).Perm L ∧ L.Nodup ∧
    es.size < scanBound ∧ t.fits es.size = true ∧ Ris t.place.toList ∧ (w.params.followText "set-order" = true ∨ t.led = true)
section
variable {P : Program} {w : World} {A : Around} {E : Value → Shared → Prop} {s : Shared} {a : Addr} {L : List Str} {h h' : Heap}
theorem SetSR.at (R : SetSR w h a L) (k : ∀ o, h.get? a = some o → h'.get? a = some o) : SetSR w h' a L := by
  obtain ⟨o, es, ep, t, ho, r⟩ := R
  exact ⟨o, es, ep, t, k o ho, r⟩
def GotS (xs : List Str) (i : Nat) (L : List Str) : Prop := (∀ x : Str, x ∈ L ↔ x ∈ xs.take i) ∧ L.length ≤ i
theorem GotS.next {xs L L' : List Str} {i : Nat} {x : Str} (g : GotS xs i L) (h : xs[i]? = some x) (h1 : x ∈ L → L' = L) (h2 : x ∉ L → L' = x :: L) : GotS xs (i + 1) L' := by
  have et : xs.take (i + 1) = xs.take i ++ [x] := by rw [List.take_succ, h]; rfl
  by_cases hm : x ∈ L
  · rw [h1 hm]
    refine ⟨fun y => ?_, Nat.le_succ_of_le g.2⟩
    rw [et, List.mem_append, List.mem_singleton, ← g.1 y]
    exact ⟨.inl, fun z => z.elim id fun e => e ▸ hm⟩
  · rw [h2 hm]
    refine ⟨fun y => ?_, Nat.succ_le_succ g.2⟩
    rw [et, List.mem_append, List.mem_singleton, List.mem_cons, ← g.1 y]
    exact Or.comm
end
end DL
namespace DL
open PySem PySem.Spec PyProof.Rows L2
section
variable {X : Cx}
end
section
variable {X : Cx} {Ξ : Xt} {e : Expr} {es : List Expr} {p p' pos pos' : Pos} {de : DE} {das : DA}
end
end DL
namespace DL
open PySem PySem.Spec PyProof.Rows L2
abbrev keysT (t : Tab) : List Str := t.map (·.1)
def isKeys (t u : Tab) (zs : List Str) : Prop := zs.Pairwise (fun a b => strLt a b = true) ∧ ∀ y : Str, y ∈ zs ↔ y ∈ keysT t ++ keysT u
theorem isKeys.eq {t u : Tab} {zs ys : List Str} (h : isKeys t u zs) (g : isKeys t u ys) : zs = ys := by
  refine strict_eq (fun x y h => by intro g; rw [strLt_asym h] at g; cases g) h.1 g.1 ?_
  refine (List.perm_ext_iff_of_nodup (h.1.imp fun {a b} q => strLt_ne q) (g.1.imp fun {a b} q => strLt_ne q)).mpr fun y => (h.2 y).trans (g.2 y).symm
theorem isKeys.of {t u : Tab} {zs : List Str} (nd : zs.Nodup) (hm : ∀ y : Str, y ∈ zs ↔ y ∈ keysT t ++ keysT u) (hs : sortedS zs = true) : isKeys t u zs := ⟨sortedS_lt hs nd, hm⟩
def difB (t u : Tab) (k : Str) : Bool := !eqD (getD t k) (getD u k)
def difR (t u : Tab) (k : Str) : D := .tup [.str k, getD t k, getD u k]
def jnB (u : Tab) (lo hi : Str) (r : Str × List Int) : Bool := inB lo hi r && (keysT u).contains r.1
def jnR (u : Tab) (r : Str × List Int) : D := .tup [.str r.1, rowD r.2, getD u r.1]
end DL
namespace DL
open PySem PySem.Spec PyProof.Rows L2

section
variable {K : PySem.W.Frag} {F : Fx} {B B' : Hp} {m m' : List Addr} {S S' : Sto} {H H' : Hp} {T : Addr → Prop}
end
abbrev GSp := List W → Sto → WK → XWK → Prop
def spG (K : PySem.W.Frag) (T : Addr → Prop) (g : GSp) : Sp := fun vs H Q E => ∃ (B : Hp) (m : List Addr) (ws : List W) (S : Sto) (Kp : WK) (Xp : XWK), Cf K ⟨B, H, m, T⟩ B m S H ∧ RWL K B m ws vs ∧ g ws S Kp Xp ∧ KW K ⟨B, H, m, T⟩ Kp B m H Q ∧
  ∀ (x : XD) (S' : Sto), Xp x S' → ∀ (H' B' : Hp) (m' : List Addr) (d : Option Addr), Nx K ⟨B, H, m, T⟩ B m H B' m' S' H' → RX K B' x.fs d → E x.cls d H'
structure CalX (P : Program) (w : World) (K : PySem.W.Frag) (T : Addr → Prop) (mg : Str → Option Value) (base : Heap) (k : Nat) (x : Str) (g : GSp) : Prop where
  ex : ∃ (f : Addr) (fd : FuncData) (ps : List Str), FnOk P w K mg base (L2.CX P w) k f fd ps (spG K T g) ∧ mg x = some (.ref f) ∧ PySem.W.keepIn K (.ref f) = true ∧ Binds K fd ps []
structure MetX (P : Program) (w : World) (K : PySem.W.Frag) (T : Addr → Prop) (mg : Str → Option Value) (base : Heap) (k : Nat) (C : Addr) (m : Str) (g : GSp) : Prop where
  ex : ∃ (f : Addr) (fd : FuncData) (ps : List Str), Cls K C ∧ Meth K C m f ∧ FnOk P w K mg base (L2.CX P w) k f fd ps (spG K T g) ∧ Binds K fd ps []
theorem CalX.mono {P : Program} {w : World} {K : PySem.W.Frag} {T : Addr → Prop} {mg : Str → Option Value} {base : Heap} {j k : Nat} {x : Str} {g : GSp} (c : CalX P w K T mg base j x g) (h : j ≤ k) : CalX P w K T mg base k x g := by
  obtain ⟨f, fd, ps, F, r⟩ := c.ex
  exact ⟨f, fd, ps, F.mono h, r⟩
theorem MetX.mono {P : Program} {w : World} {K : PySem.W.Frag} {T : Addr → Prop} {mg : Str → Option Value} {base : Heap} {j k : Nat} {C : Addr} {m : Str} {g : GSp} (c : MetX P w K T mg base j C m g) (h : j ≤ k) : MetX P w K T mg base k C m g := by
  obtain ⟨f, fd, ps, a, b, F, r⟩ := c.ex
  exact ⟨f, fd, ps, a, b, F.mono h, r⟩
theorem CalX.imp {P : Program} {w : World} {K : PySem.W.Frag} {T : Addr → Prop} {mg : Str → Option Value} {base : Heap} {k : Nat} {x : Str} {g g' : GSp} (c : CalX P w K T mg base k x g) (h : ∀ ws S Kp Xp, g' ws S Kp Xp → g ws S Kp Xp) : CalX P w K T mg base k x g' := by
  obtain ⟨f, fd, ps, F, r⟩ := c.ex
  exact ⟨f, fd, ps, F.imp fun vs H Q E ⟨B, m, ws, S, Kp, Xp, a, b, c, d⟩ => ⟨B, m, ws, S, Kp, Xp, a, b, h _ _ _ _ c, d⟩, r⟩
structure FldOk (K : PySem.W.Frag) (C : Addr) (f : Str) : Prop where
  cls : Cls K C
  na : NoAttr K C f
def putFW (f : Str) (v : W) : List (Str × W) → List (Str × W)
  | [] => [(f, v)]
  | (g, x) :: r => if g = f then (g, v) :: r else (g, x) :: putFW f v r
section
variable {K : PySem.W.Frag} {F : Fx} {B : Hp} {m : List Addr} {S : Sto} {H : Hp}
theorem FF.put {f : Str} {w : W} {v : V} (rv : RW K B m w v) : ∀ {fs : List (Str × W)} {vs : List (Str × V)}, FF K B m fs vs → FF K B m (putFW f w fs) (putF f v vs)
  | _, _, .nil => .cons ⟨rfl, rv⟩ .nil
  | (g, w0) :: fs, (_, v0) :: vs, .cons ⟨e0, r⟩ t => by
    cases e0
    unfold putFW putF
    split
    · exact .cons ⟨rfl, rv⟩ t
    · exact .cons ⟨rfl, r⟩ (FF.put rv t)
theorem FF.length {fs : List (Str × W)} {vs : List (Str × V)} (r : FF K B m fs vs) : fs.length = vs.length := Paired.length r
theorem FF.zip : ∀ {ns : List Str} {ws : List W} {vs : List V}, RWL K B m ws vs → FF K B m (ns.zip ws) (ns.zip vs)
  | [], _, _, _ => .nil
  | _ :: _, _, _, .nil => .nil
  | _ :: _, _, _, .cons r t => .cons ⟨rfl, r⟩ (FF.zip t)
end
section
variable {X : Cx} {Ξ : Xt} {g : GSp} {C : Addr} {names : List Str} {j k : Nat} {x f mt : Str} {e o value : Expr} {es : List Expr} {da : DA} {de dv : DE} {p pos pos' apos : Pos}
end
section
variable {P : Program} {w : World} {K : PySem.W.Frag} {T : Addr → Prop} {mg : Str → Option Value} {base : Heap}
end
end DL
namespace DL
open PySem PySem.Spec PyProof.Rows L2

structure ScopeS (N ps : List Str) (sc : Scope) : Prop where
  kind : sc.kind = .function
  co : sc.isCoroutine = false
  gen : sc.isGenerator = false
  nd : N.Nodup
  pre : N.take ps.length = ps
  par : ∀ x ∈ ps, sc.names.lookup x = some .local
  nocell : ∀ x ∈ sc.names, x.2 ≠ .cell
  fr : ∀ x ∈ sc.names, x.2 = .free → x.1 = "__class__"
  sup : sc.names.lookup ("super" : Str) = some .globalImplicit
  cls : sc.names.lookup ("__class__" : Str) = some .free
structure SupF (P : Program) (K : PySem.W.Frag) (qual : Str) (st : Stmt) (C f f2 : Addr) : Prop where
  ex : ∃ (oc : Value) (od : Option Addr) (kV doc pm : Value) (an : Option Addr) (cda : Addr) (ct : Value) (cc : Addr) (osl : Array (Option Value)) (ccl : Value) (cdd : Option Addr) (vs : Array Value) (ccs : Array (Option Value)) (file : Str) (tf : Tok) (cl : Value) (cld : Option Addr) (csl : Array (Option Value)),
    K.lookup f = some ⟨oc, od, .func (PySem.W.ksFn "__init__" qual (C8.fnArgs st) (C8.fnBody st) (C8.fnScope st) .none kV doc pm an (.ref cda) ct cc), osl⟩ ∧ PySem.W.codeIn K (.ref cda) qual = true ∧
    K.lookup cda = some ⟨ccl, cdd, .fields vs, ccs⟩ ∧ vs[2]? = some (.str file tf) ∧ ((P.main.file : Str) == file) = true ∧ K.lookup cc = some ⟨cl, cld, .cell (some (.ref C)), csl⟩
  cls : ∃ cd, PySem.W.clsIn K C = some cd
  sub : PySem.W.mroIn K C (.ref C) = some true
  top : (P.main.scope.names.lookup ("super" : Str)).isSome = false
  any : PySem.W.nsIn K cStatics "thirdparty.any" = some none
  nxt : PySem.W.ks_superIn K C C "__init__" = some (some (.ref f2))
  ty : PySem.W.typeIn K (.ref f2) = some (.type "function")
  fi : PySem.W.fnIn K f2 = true
end DL
namespace DL
open PySem PySem.Spec PyProof.Rows L2

structure MakX (P : Program) (w : World) (K : PySem.W.Frag) (T : Addr → Prop) (mg : Str → Option Value) (base : Heap) (k : Nat) (x : Str) (C : Addr) (g : GSp) : Prop where
  ex : ∃ (f : Addr) (fd : FuncData) (ps : List Str), Mk K C f ∧ FnOk P w K mg base (L2.CX P w) k f fd ps (spG K T g) ∧ mg x = some (.ref C) ∧ Binds K fd ps []
section
variable {X : Cx} {Ξ : Xt} {g : GSp} {C : Addr} {j k : Nat} {x : Str} {e : Expr} {es : List Expr} {da : DA} {p pos : Pos}
end
section
variable {P : Program} {w : World} {K : PySem.W.Frag} {T : Addr → Prop} {mg : Str → Option Value} {base : Heap}
end
def goneAt (S : Sto) : W → Sto
  | .hd n => S.set n .gone
  | _ => S
def frzL (S : Sto) : List W → Option (List D)
  | [] => some []
  | w :: ws => (dW S w).bind fun d => (frzL (goneAt S w) ws).map (d :: ·)
def frzT (S : Sto) : W → Option D
  | .tp ws => (frzL S ws).map D.tup
  | w => dW S w
section
variable {K : PySem.W.Frag} {F : Fx} {B : Hp} {m : List Addr} {S : Sto} {H : Hp}
theorem Cf.frz1 (c : Cf K F B m S H) (hL : F.L = []) {w : W} {v : V} {d : D} (r : RW K B m w v) (h : dW S w = some d) : ∃ B', Nx K F B m H B' m (goneAt S w) H ∧ Rp K B' d v := by
  unfold dW at h
  split at h
  · cases h
    cases r with
    | fz r => exact ⟨B, c.nx, r⟩
  · split at h
    · rename_i n _ ws e
      cases q : fzL ws with
      | none => rw [q] at h; cases h
      | some ds =>
        rw [q] at h
        cases h
        obtain ⟨a, vs, e1, em, h1, h2⟩ := c.lst r e
        subst e1
        have n1 := c.freezeIn (n := n) (by rw [hL]; exact Nat.zero_le _) em e h1
        refine ⟨_, n1, ?_⟩
        have h3 := h2.mono n1.sb .refl (m' := m)
        rw [fzL_eq q] at h3
        exact .lst upd_same h3.fz
    · cases h
  · cases h
  · cases h
theorem Cf.frzs : ∀ {ws : List W} {vs : List V} {ds : List D} {B : Hp} {S : Sto}, Cf K F B m S H → F.L = [] → RWL K B m ws vs → frzL S ws = some ds → ∃ B' S', Nx K F B m H B' m S' H ∧ RpL K B' ds vs
  | [], _, ds, B, S, c, _, .nil, h => by cases h; exact ⟨B, S, c.nx, .nil⟩
  | w :: ws, _, ds, B, S, c, hL, .cons r t, h => by
    unfold frzL at h
    cases q : dW S w with
    | none => rw [q] at h; cases h
    | some d =>
      rw [q] at h
      obtain ⟨B1, n1, rd⟩ := c.frz1 hL r q
      cases q2 : frzL (goneAt S w) ws with
      | none => have h' : (frzL (goneAt S w) ws).map (d :: ·) = some ds := h; rw [q2] at h'; cases h'
      | some es =>
        have h' : (frzL (goneAt S w) ws).map (d :: ·) = some ds := h
        rw [q2] at h'
        cases h'
        obtain ⟨B2, S2, n2, rl⟩ := Cf.frzs n1.cf hL (t.mono n1.sb .refl) q2
        exact ⟨B2, S2, n1.trans n2, .cons (rd.mono n2.sb) rl⟩
theorem Cf.frz (c : Cf K F B m S H) (hL : F.L = []) {w : W} {v : V} {d : D} (r : RW K B m w v) (h : frzT S w = some d) : ∃ B' S', Nx K F B m H B' m S' H ∧ Rp K B' d v := by
  unfold frzT at h
  split at h
  · rename_i ws
    cases q : frzL S ws with
    | none => rw [q] at h; cases h
    | some ds =>
      rw [q] at h
      cases h
      cases r with
      | tp s t =>
        obtain ⟨B', S', n, rl⟩ := Cf.frzs c hL t q
        exact ⟨B', S', n, .tup (n.sb.seqT s) rl⟩
  · obtain ⟨B', n, rd⟩ := c.frz1 hL r h
    exact ⟨B', _, n, rd⟩
end
section
variable {P : Program} {w : World} {K : PySem.W.Frag} {T : Addr → Prop} {mg : Str → Option Value} {base : Heap}
end
structure MtIn (K : PySem.W.Frag) (x m qual : Str) (st : Stmt) : Prop where
  ex : ∃ (C f : Addr) (od an : Option Addr) (sl : Array (Option Value)) (oc kV dc pm cd ct : Value), PySem.W.nsIn K mainGlobals x = some (some (.ref C)) ∧ Cls K C ∧ Meth K C m f ∧
    K.lookup f = some ⟨oc, od, .func (PySem.W.fnOf m qual (C8.fnArgs st) (C8.fnBody st) (C8.fnScope st) .none kV dc pm an cd ct), sl⟩ ∧ PySem.W.codeIn K cd qual = true
structure MtDf (K : PySem.W.Frag) (C : Addr) (m qual : Str) (st : Stmt) : Prop where
  ex : ∃ (f : Addr) (fd : FuncData), Cls K C ∧ Meth K C m f ∧ C8.Fun K m qual st f fd ∧ fd.defaults = .none
theorem MtIn.df {K : PySem.W.Frag} {x m qual : Str} {st : Stmt} {h : Heap} {mg : Str → Option Value} {C : Addr} (D : MtIn K x m qual st) (X : K.In h) (G : h.Ns mainGlobals mg) (hC : mg x = some (.ref C)) : MtDf K C m qual st := by
  obtain ⟨C', f, od, an, sl, oc, kV, dc, pm, cd, ct, a, c, me, l, k⟩ := D.ex
  have e := PySem.W.mg_of X G a
  rw [hC] at e
  cases e
  exact ⟨f, _, c, me, ⟨oc, od, .none, kV, dc, pm, an, cd, ct, sl, rfl, l, k⟩, rfl⟩
structure SbIn (P : Program) (K : PySem.W.Frag) (x qual : Str) (st : Stmt) (qual2 : Str) (st2 : Stmt) (names : List Str) : Prop where
  ex : ∃ (C f f2 : Addr) (od2 an2 : Option Addr) (sl2 : Array (Option Value)) (oc2 kV2 dc2 pm2 cd2 ct2 : Value), PySem.W.nsIn K mainGlobals x = some (some (.ref C)) ∧ Mk K C f ∧ Cls K C ∧ (∀ n ∈ names, NoAttr K C n) ∧ SupF P K qual st C f f2 ∧
    K.lookup f2 = some ⟨oc2, od2, .func (PySem.W.fnOf "__init__" qual2 (C8.fnArgs st2) (C8.fnBody st2) (C8.fnScope st2) .none kV2 dc2 pm2 an2 cd2 ct2), sl2⟩ ∧ PySem.W.codeIn K cd2 qual2 = true ∧ PySem.W.nsIn K mainGlobals "super" = some none
structure SbDf (P : Program) (K : PySem.W.Frag) (mg : Str → Option Value) (x qual : Str) (st : Stmt) (qual2 : Str) (st2 : Stmt) (names : List Str) (C : Addr) : Prop where
  ex : ∃ (f f2 : Addr) (fd2 : FuncData), Mk K C f ∧ SupF P K qual st C f f2 ∧ C8.Fun K "__init__" qual2 st2 f2 fd2 ∧ fd2.defaults = .none
  mgC : mg x = some (.ref C)
  cls : Cls K C
  na : ∀ n ∈ names, NoAttr K C n
  sup : mg "super" = none
theorem SbIn.df {P : Program} {K : PySem.W.Frag} {x qual qual2 : Str} {st st2 : Stmt} {names : List Str} {h : Heap} {mg : Str → Option Value} (D : SbIn P K x qual st qual2 st2 names) (X : K.In h) (G : h.Ns mainGlobals mg) : ∃ C, SbDf P K mg x qual st qual2 st2 names C := by
  obtain ⟨C, f, f2, od2, an2, sl2, oc2, kV2, dc2, pm2, cd2, ct2, a, M, c, na, sf, l2, k2, ns⟩ := D.ex
  exact ⟨C, ⟨f, f2, _, M, sf, ⟨oc2, od2, .none, kV2, dc2, pm2, an2, cd2, ct2, sl2, rfl, l2, k2⟩, rfl⟩, PySem.W.mg_of X G a, c, na, PySem.W.mg_none_of X G ns⟩
section
variable {P : Program} {w : World} {K : PySem.W.Frag} {T : Addr → Prop} {mg : Str → Option Value} {base : Heap}
end
end DL
namespace DL
open PySem PySem.Spec PyProof.Rows L2

structure Ext (ex : List Nat) (S S' : Sto) : Prop where
  len : S.length ≤ S'.length
  keep : ∀ i, i < S.length → i ∉ ex → S'[i]? = S[i]?
theorem Ext.refl {ex : List Nat} {S : Sto} : Ext ex S S := ⟨Nat.le_refl _, fun _ _ _ => rfl⟩
theorem Ext.trans {a b c : List Nat} {S S' S'' : Sto} (h : Ext a S S') (g : Ext b S' S'') (s1 : ∀ i ∈ a, i ∈ c) (s2 : ∀ i ∈ b, i < S.length → i ∈ c) : Ext c S S'' :=
  ⟨Nat.le_trans h.len g.len, fun i hi hn => by
    rw [g.keep i (Nat.lt_of_lt_of_le hi h.len) fun z => hn (s2 i z hi), h.keep i hi fun z => hn (s1 i z)]⟩
theorem Ext.app {ex : List Nat} {S T : Sto} : Ext ex S (S ++ T) := ⟨by rw [List.length_append]; omega, fun i hi _ => List.getElem?_append_left hi⟩
theorem Ext.get {ex : List Nat} {S S' : Sto} {i : Nat} {o : OD} (h : Ext ex S S') (e : S[i]? = some o) (n : i ∉ ex) : S'[i]? = some o := by
  rw [h.keep i (List.getElem?_eq_some_iff.mp e).1 n, e]
theorem Ext.set {ex : List Nat} {S : Sto} {i : Nat} {o : OD} (h : i ∈ ex) : Ext ex S (S.set i o) := ⟨by rw [List.length_set]; exact Nat.le_refl _, fun j hj hn => by
  rw [List.getElem?_set_ne (fun z : i = j => hn (by rw [← z]; exact h))]⟩
theorem Ext.mono {a b : List Nat} {S S' : Sto} (h : Ext a S S') (s : ∀ i ∈ a, i < S.length → i ∈ b) : Ext b S S' := ⟨h.len, fun i hi hn => h.keep i hi fun z => hn (s i z hi)⟩
mutual
def plB : D → Bool
  | .non => true
  | .bl _ => true
  | .int _ => true
  | .str x => PyData.strOk x && decide (x.length ≤ 1000)
  | .tup ds => decide (ds.length ≤ 1000) && plBL ds
  | .lst ds => decide (ds.length ≤ 1000) && plBL ds
  | .obj _ _ => false
  | .scr _ => false
  | .ty _ => false
def plBL : List D → Bool
  | [] => true
  | d :: ds => plB d && plBL ds
end
theorem plBL_iff : ∀ {ds : List D}, plBL ds = true ↔ ∀ d ∈ ds, plB d = true
  | [] => ⟨(fun _ _ h => by cases h), fun _ => rfl⟩
  | d :: ds => by
    rw [plBL, Bool.and_eq_true, plBL_iff]
    refine ⟨fun h x hx => ?_, fun h => ⟨h d List.mem_cons_self, fun x hx => h x (List.mem_cons_of_mem _ hx)⟩⟩
    rcases List.mem_cons.mp hx with e | e
    · rw [e]; exact h.1
    · exact h.2 x e
structure PI where
  l : Link
  t : Option Tr
inductive SrcS where
  | kn (es : List D) | gv (cs : List D) (n : Nat)
structure Rf where
  word : Str
  num : Int
def Tr.size : Tr → Nat
  | .nil => 0
  | .node _ _ x y => x.size + y.size + 1
def okTr : Tr → Prop
  | .nil => True
  | .node k r x y => isKey k ∧ isRow r ∧ okTr x ∧ okTr y
def linkOfD : D → Option Link
  | .tup [.int d, .int n, .tup [.int a, .int b, .int c]] => if 0 ≤ d ∧ 0 ≤ n ∧ 0 ≤ a ∧ 0 ≤ b ∧ 0 ≤ c then some ⟨d, n, a, b, c⟩ else none
  | _ => none
def intsOfD : List D → Option (List Int)
  | [] => some []
  | .int i :: ds => (intsOfD ds).map (i :: ·)
  | _ :: _ => none
def rowOfD : D → Option (List Int)
  | .tup ds => (intsOfD ds).bind fun r => if 1 ≤ r.length ∧ r.length ≤ 3 ∧ r.all (fun i => decide (0 ≤ i) && decide (i ≤ 65535)) then some r else none
  | _ => none
def keyOfD : D → Option Str
  | .str k => if 1 ≤ k.cps.toList.length ∧ k.cps.toList.length ≤ 8 ∧ k.cps.toList.all sign = true then some k else none
  | _ => none
def entOfD : D → Option (Str × List Int × Link × Link)
  | .tup [k, r, x, y] => (keyOfD k).bind fun k => (rowOfD r).bind fun r => (linkOfD x).bind fun x => (linkOfD y).bind fun y => some (k, r, x, y)
  | _ => none
abbrev Op := Str × List Int × PI × PI
def opn (b m : Int) : SrcS → PI → Except Rf (Op × SrcS)
  | .kn es, pi => match pi.t with
    | some (.node k r x y) => .ok ((k, r, ⟨linkT b m x, some x⟩, ⟨linkT b m y, some y⟩), .kn (es ++ [entD k r (linkT b m x) (linkT b m y)]))
    | _ => .error ⟨"", 0⟩
  | .gv cs n, pi => match cs[n]? with
    | none => .error ⟨"short", n⟩
    | some d => match entOfD d with
      | none => .error ⟨"form", n⟩
      | some (k, r, x, y) =>
        if (linkOf b m k r x y).d = pi.l.d then (if eqD (linkD (linkOf b m k r x y)) (linkD pi.l) then .ok ((k, r, ⟨x, none⟩, ⟨y, none⟩), .gv cs (n + 1)) else .error ⟨"sums", n⟩) else .error ⟨"digest", n⟩
def SrcS.isKn : SrcS → Bool
  | .kn _ => true
  | .gv _ _ => false
def meas : SrcS → PI → Nat
  | .kn _, pi => match pi.t with
    | some t => t.size
    | none => 0
  | .gv cs n, _ => cs.length - n
def okS (b m : Int) : SrcS → PI → Prop
  | .kn es, pi => es.length ≤ 900 ∧ ∃ t, pi.t = some t ∧ pi.l = linkT b m t ∧ okTr t ∧ es.length + t.size ≤ 900
  | .gv cs n, pi => (cs.length ≤ 900 ∧ n ≤ cs.length ∧ plBL cs = true) ∧ pi.t = none ∧ 0 ≤ pi.l.n
def SrcS.len : SrcS → Nat
  | .kn es => es.length
  | .gv _ n => n
def PI.tsz (pi : PI) : Nat := match pi.t with
  | some t => t.size
  | none => 0
def After : SrcS → SrcS → PI → Prop
  | .kn es, .kn fs, pi => es.length ≤ fs.length ∧ fs.length ≤ es.length + pi.tsz
  | .gv cs n, .gv ds k, _ => ds = cs ∧ n ≤ k ∧ k ≤ cs.length
  | _, _, _ => False
def SrcAt (C : Addr) (S : Sto) (s e : Nat) (b m : Int) : SrcS → Prop
  | .kn es => S[s]? = some (.ins C [("rule", .fz (ruleD b m)), ("entries", .hd e)]) ∧ S[e]? = some (.lst (es.map .fz)) ∧ s ≠ e
  | .gv cs n => S[s]? = some (.ins C [("rule", .fz (ruleD b m)), ("certificate", .fz (.lst cs)), ("position", .fz (.int n))]) ∧ s = e
theorem SrcAt.ext {C : Addr} {S S' : Sto} {s e : Nat} {b m : Int} {st : SrcS} {ex : List Nat} (h : SrcAt C S s e b m st) (x : Ext ex S S') (h1 : s ∉ ex) (h2 : e ∉ ex) : SrcAt C S' s e b m st := by
  cases st with
  | kn es => exact ⟨x.get h.1 h1, x.get h.2.1 h2, h.2.2⟩
  | gv cs n => exact ⟨x.get h.1 h1, h.2⟩
theorem SrcAt.lt {C : Addr} {S : Sto} {s e : Nat} {b m : Int} {st : SrcS} (h : SrcAt C S s e b m st) : s < S.length ∧ e < S.length := by
  cases st with
  | kn es => exact ⟨(List.getElem?_eq_some_iff.mp h.1).1, (List.getElem?_eq_some_iff.mp h.2.1).1⟩
  | gv cs n => exact ⟨(List.getElem?_eq_some_iff.mp h.1).1, h.2 ▸ (List.getElem?_eq_some_iff.mp h.1).1⟩
def trD (CT : Addr) (b m : Int) : Option Tr → D
  | none => .non
  | some t => treeO CT b m t
def PartAt (CP CT : Addr) (b m : Int) (S : Sto) (p : Nat) (pi : PI) : Prop := S[p]? = some (.ins CP [("link", .fz (linkD pi.l)), ("tree", .fz (trD CT b m pi.t)), ("node", .fz .non)])
theorem PartAt.lt {CP CT : Addr} {b m : Int} {S : Sto} {p : Nat} {pi : PI} (h : PartAt CP CT b m S p pi) : p < S.length := (List.getElem?_eq_some_iff.mp h).1
structure Cs where
  P : Addr
  N : Addr
  T : Addr
  R : Addr
def xdOf (R : Addr) (rf : Rf) : XD := ⟨.ref R, [("number", .int rf.num), ("word", .str rf.word)]⟩
structure Wk (c : Cs) (C : Addr) (q : Bool) (S : Sto) (s e p : Nat) (b m : Int) (st : SrcS) (pi : PI) : Prop where
  src : SrcAt C S s e b m st
  part : PartAt c.P c.T b m S p pi
  rule : isRule b m
  ok : okS b m st pi
  kind : st.isKn = q
  ps : p ≠ s
  pe : p ≠ e
structure Opd (c : Cs) (C : Addr) (S S' : Sto) (s e p : Nat) (b m : Int) (nd px py : Nat) (o : Op) (st' : SrcS) : Prop where
  src : SrcAt C S' s e b m st'
  ext : Ext [s, e, p] S S'
  node : S'[nd]? = some (.ins c.N [("key", .fz (.str o.1)), ("row", .fz (rowD o.2.1)), ("left", .hd px), ("right", .hd py)])
  xl : PartAt c.P c.T b m S' px o.2.2.1
  yl : PartAt c.P c.T b m S' py o.2.2.2
  hx : S.length ≤ px
  hy : S.length ≤ py
  hn : S.length ≤ nd
  ne : px ≠ py
  nn : px < nd ∧ py < nd
theorem keyOfD_ok {d : D} {k : Str} (h : keyOfD d = some k) : isKey k ∧ d = .str k := by
  unfold keyOfD at h
  split at h
  · split at h
    · cases h; exact ⟨by assumption, rfl⟩
    · cases h
  · cases h
theorem intsOfD_ok : ∀ {ds : List D} {r : List Int}, intsOfD ds = some r → ds = r.map D.int
  | [], r, h => by cases h; rfl
  | .int i :: ds, r, h => by
    unfold intsOfD at h
    cases q : intsOfD ds with
    | none => rw [q] at h; cases h
    | some r' => rw [q] at h; cases h; rw [intsOfD_ok q]; rfl
  | .non :: _, _, h => by cases h
  | .bl _ :: _, _, h => by cases h
  | .str _ :: _, _, h => by cases h
  | .tup _ :: _, _, h => by cases h
  | .lst _ :: _, _, h => by cases h
  | .obj _ _ :: _, _, h => by cases h
  | .scr _ :: _, _, h => by cases h
  | .ty _ :: _, _, h => by cases h
theorem rowOfD_ok {d : D} {r : List Int} (h : rowOfD d = some r) : isRow r ∧ d = rowD r := by
  unfold rowOfD at h
  split at h
  · rename_i ds
    cases q : intsOfD ds with
    | none => rw [q] at h; cases h
    | some r' =>
      rw [q] at h
      have h' : (if 1 ≤ r'.length ∧ r'.length ≤ 3 ∧ r'.all (fun i => decide (0 ≤ i) && decide (i ≤ 65535)) then some r' else none) = some r := h
      split at h'
      · cases h'
        rename_i z
        refine ⟨⟨z.1, z.2.1, fun i hi => ?_⟩, by rw [intsOfD_ok q]; rfl⟩
        have := List.all_eq_true.mp z.2.2 i hi
        rw [Bool.and_eq_true, decide_eq_true_eq, decide_eq_true_eq] at this
        exact this
      · cases h'
  · cases h
theorem linkOfD_ok {d : D} {l : Link} (h : linkOfD d = some l) : d = linkD l ∧ 0 ≤ l.d ∧ 0 ≤ l.n ∧ 0 ≤ l.a ∧ 0 ≤ l.b ∧ 0 ≤ l.c := by
  unfold linkOfD at h
  split at h
  · split at h
    · cases h; exact ⟨rfl, by assumption⟩
    · cases h
  · cases h
theorem entOfD_ok {d : D} {k : Str} {r : List Int} {x y : Link} (h : entOfD d = some (k, r, x, y)) : d = entD k r x y ∧ isKey k ∧ isRow r ∧ 0 ≤ x.n ∧ 0 ≤ y.n := by
  unfold entOfD at h
  split at h
  · rename_i k' r' x' y'
    cases q1 : keyOfD k' with
    | none => rw [q1] at h; cases h
    | some k1 =>
    cases q2 : rowOfD r' with
    | none => rw [q1, q2] at h; cases h
    | some r1 =>
    cases q3 : linkOfD x' with
    | none => rw [q1, q2, q3] at h; cases h
    | some x1 =>
    cases q4 : linkOfD y' with
    | none => rw [q1, q2, q3, q4] at h; cases h
    | some y1 =>
      rw [q1, q2, q3, q4] at h
      cases h
      obtain ⟨a1, a2⟩ := keyOfD_ok q1
      obtain ⟨b1, b2⟩ := rowOfD_ok q2
      obtain ⟨c1, c2⟩ := linkOfD_ok q3
      obtain ⟨d1, d2⟩ := linkOfD_ok q4
      exact ⟨by rw [a2, b2, c1, d1]; rfl, a1, b1, c2.2.1, d2.2.1⟩
  · cases h
theorem opn_ok {b m : Int} {st st' : SrcS} {pi : PI} {o : Op} (h : opn b m st pi = .ok (o, st')) (hs : okS b m st pi) :
    isKey o.1 ∧ isRow o.2.1 ∧ okS b m st' o.2.2.1 ∧ okS b m st' o.2.2.2 ∧ meas st' o.2.2.1 < meas st pi ∧ meas st' o.2.2.2 < meas st pi ∧ st'.isKn = st.isKn := by
  cases st with
  | kn es =>
    obtain ⟨h0, t, ht, hl, okt, hz⟩ := hs
    unfold opn at h
    dsimp only at h
    rw [ht] at h
    cases t with
    | nil => cases h
    | node k r x y =>
      cases h
      obtain ⟨a1, a2, a3, a4⟩ := okt
      have e1 : (es ++ [entD k r (linkT b m x) (linkT b m y)]).length = es.length + 1 := by rw [List.length_append]; rfl
      have e2 : (Tr.node k r x y).size = x.size + y.size + 1 := rfl
      rw [e2] at hz
      refine ⟨a1, a2, ⟨by omega, x, rfl, rfl, a3, by omega⟩, ⟨by omega, y, rfl, rfl, a4, by omega⟩, ?_, ?_, rfl⟩
      · show x.size < meas (.kn es) pi
        unfold meas
        dsimp only
        rw [ht]
        show x.size < x.size + y.size + 1
        omega
      · show y.size < meas (.kn es) pi
        unfold meas
        dsimp only
        rw [ht]
        show y.size < x.size + y.size + 1
        omega
  | gv cs n =>
    obtain ⟨h0, ht, hn⟩ := hs
    unfold opn at h
    dsimp only at h
    split at h
    · cases h
    · rename_i d hd
      split at h
      · cases h
      · rename_i k r x y he
        obtain ⟨ed, a1, a2, a3, a4⟩ := entOfD_ok he
        split at h
        · split at h
          · cases h
            have hlt := (List.getElem?_eq_some_iff.mp hd).1
            exact ⟨a1, a2, ⟨⟨h0.1, hlt, h0.2.2⟩, rfl, a3⟩, ⟨⟨h0.1, hlt, h0.2.2⟩, rfl, a4⟩, by show cs.length - (n + 1) < cs.length - n; omega, by show cs.length - (n + 1) < cs.length - n; omega, rfl⟩
          · cases h
        · cases h
theorem okS.len {b m : Int} {st : SrcS} {pi : PI} (h : okS b m st pi) : st.len ≤ 900 := by
  cases st with
  | kn es => exact h.1
  | gv cs n => exact Nat.le_trans h.1.2.1 h.1.1
theorem okS.refl {b m : Int} {st : SrcS} {pi : PI} (h : okS b m st pi) : After st st pi := by
  cases st with
  | kn es => exact ⟨Nat.le_refl _, Nat.le_add_right _ _⟩
  | gv cs n => exact ⟨rfl, Nat.le_refl _, h.1.2.1⟩
theorem After.len {st st' : SrcS} {pi : PI} (h : After st st' pi) : st.len ≤ st'.len := by
  cases st <;> cases st' <;> first | exact h.elim | exact h.1 | exact h.2.1
theorem After.kind {st st' : SrcS} {pi : PI} (h : After st st' pi) : st'.isKn = st.isKn := by
  cases st <;> cases st' <;> first | exact h.elim | rfl
theorem Opd.left {c : Cs} {C : Addr} {q : Bool} {S S' : Sto} {s e p : Nat} {b m : Int} {nd px py : Nat} {o : Op} {st st' : SrcS} {pi : PI} (h : Opd c C S S' s e p b m nd px py o st') (w : Wk c C q S s e p b m st pi) (eo : opn b m st pi = .ok (o, st')) : Wk c C q S' s e px b m st' o.2.2.1 := by
  obtain ⟨_, _, k1, k2, _, _, k3⟩ := opn_ok eo w.ok
  have := w.src.lt
  have := h.hx
  exact ⟨h.src, h.xl, w.rule, k1, k3.trans w.kind, by omega, by omega⟩
theorem Opd.right {c : Cs} {C : Addr} {q : Bool} {S S' : Sto} {s e p : Nat} {b m : Int} {nd px py : Nat} {o : Op} {st st' : SrcS} {pi : PI} (h : Opd c C S S' s e p b m nd px py o st') (w : Wk c C q S s e p b m st pi) (eo : opn b m st pi = .ok (o, st')) : Wk c C q S' s e py b m st' o.2.2.2 := by
  obtain ⟨_, _, k1, k2, _, _, k3⟩ := opn_ok eo w.ok
  have := w.src.lt
  have := h.hy
  exact ⟨h.src, h.yl, w.rule, k2, k3.trans w.kind, by omega, by omega⟩
end DL
namespace DL
open PySem PySem.Spec PyProof.Rows L2
structure Ent (c : Cs) (C : Addr) (S S' : Sto) (s e : Nat) (b m : Int) (st' : SrcS) : Prop where
  src : SrcAt C S' s e b m st'
  ext : Ext [s, e] S S'
  len : S'.length = S.length
end DL
namespace DL
open PySem PySem.Spec PyProof.Rows L2
theorem set_app1 {S : Sto} {o : OD} {n : Nat} (h : n = S.length) : (S ++ [o])[n]? = some o := by
  subst h
  rw [List.getElem?_append_right (Nat.le_refl _), Nat.sub_self]
  rfl
theorem app_get {S : Sto} {i : Nat} {o : OD} {T : Sto} (h : S[i]? = some o) : (S ++ T)[i]? = some o := by
  rw [List.getElem?_append_left (List.getElem?_eq_some_iff.mp h).1]
  exact h
end DL
namespace DL
open PySem PySem.Spec PyProof.Rows L2
theorem SrcAt.ins {C : Addr} {S : Sto} {s e : Nat} {b m : Int} {st : SrcS} (h : SrcAt C S s e b m st) : ∃ fs, S[s]? = some (.ins C fs) ∧ fs.lookup ("rule" : Str) = some (.fz (ruleD b m)) ∧ ∀ n ∈ (["opened", "entry_of", "empty", "made", "root", "finish"] : List Str), fs.lookup n = none := by
  cases st with
  | kn es => exact ⟨_, h.1, rfl, fun n hn => by
    simp only [List.mem_cons, List.not_mem_nil, or_false] at hn
    rcases hn with rfl | rfl | rfl | rfl | rfl | rfl <;> rfl⟩
  | gv cs n => exact ⟨_, h.1, rfl, fun n hn => by
    simp only [List.mem_cons, List.not_mem_nil, or_false] at hn
    rcases hn with rfl | rfl | rfl | rfl | rfl | rfl <;> rfl⟩
theorem Ent.part {c : Cs} {C : Addr} {S S' : Sto} {s e p : Nat} {b m : Int} {st st' : SrcS} {pi : PI} {q : Bool} (h : Ent c C S S' s e b m st') (w : Wk c C q S s e p b m st pi) : PartAt c.P c.T b m S' p pi :=
  h.ext.get w.part (by simp only [List.mem_cons, List.not_mem_nil, or_false, not_or]; exact ⟨w.ps, w.pe⟩)
end DL
namespace DL
open PySem PySem.Spec PyProof.Rows L2
def Ends {α : Type} (c : Cs) (C : Addr) (S : Sto) (s e : Nat) (b m : Int) (ex : List Nat) (r : Except Rf (α × SrcS)) (Kp : α → Sto → Prop) (Xp : XWK) : Prop := match r with
  | .ok (a, st') => ∀ S', SrcAt C S' s e b m st' → Ext ex S S' → Kp a S'
  | .error rf => ∀ S', Ext ex S S' → Xp (xdOf c.R rf) S'
theorem Ends.step {α : Type} {c : Cs} {C : Addr} {S S2 : Sto} {s e : Nat} {b m : Int} {ex ex1 ex2 : List Nat} {r : Except Rf (α × SrcS)} {Kp : α → Sto → Prop} {Xp : XWK} (h : Ends c C S s e b m ex r Kp Xp) (x : Ext ex1 S S2) (h1 : ∀ i ∈ ex1, i ∈ ex) (h2 : ∀ i ∈ ex2, i < S.length → i ∈ ex) : Ends c C S2 s e b m ex2 r Kp Xp := by
  unfold Ends at h ⊢
  split
  · exact fun S' a1 a2 => h S' a1 (x.trans a2 h1 h2)
  · exact fun S' a2 => h S' (x.trans a2 h1 h2)
theorem Ends.imp {α : Type} {c : Cs} {C : Addr} {S : Sto} {s e : Nat} {b m : Int} {ex : List Nat} {r : Except Rf (α × SrcS)} {Kp Kq : α → Sto → Prop} {Xp : XWK} (h : Ends c C S s e b m ex r Kp Xp) (g : ∀ a S', Kp a S' → Kq a S') : Ends c C S s e b m ex r Kq Xp := by
  unfold Ends at h ⊢
  split
  · exact fun S' a1 a2 => g _ _ (h S' a1 a2)
  · exact h
def bnd {α β : Type} (r : Except Rf (α × SrcS)) (k : α → SrcS → Except Rf (β × SrcS)) : Except Rf (β × SrcS) := match r with
  | .error e => .error e
  | .ok (a, st) => k a st
theorem Ends.bnd {α β : Type} {c : Cs} {C : Addr} {S : Sto} {s e : Nat} {b m : Int} {ex : List Nat} {r : Except Rf (α × SrcS)} {k : α → SrcS → Except Rf (β × SrcS)} {Kp : β → Sto → Prop} {Kq : α → Sto → Prop} {Xp : XWK} (h : Ends c C S s e b m ex (bnd r k) Kp Xp)
    (g : ∀ a st' S', Ends c C S s e b m ex (k a st') Kp Xp → SrcAt C S' s e b m st' → Ext ex S S' → r = .ok (a, st') → Kq a S') : Ends c C S s e b m ex r Kq Xp := by
  cases r with
  | error rf => exact h
  | ok x => obtain ⟨a, st'⟩ := x; exact fun S' a1 a2 => g a st' S' h a1 a2 rfl
def d4 (x : Int × Int × Int × Int) : D := .lst [.int x.1, .int x.2.1, .int x.2.2.1, .int x.2.2.2]
end DL
namespace DL
open PySem PySem.Spec PyProof.Rows L2
end DL
namespace DL
open PySem PySem.Spec PyProof.Rows L2
end DL
namespace DL
open PySem PySem.Spec PyProof.Rows L2
def Tr.rows : Tr → Tab
  | .nil => []
  | .node k r x y => x.rows ++ (k, r) :: y.rows
def entT (b m : Int) (k : Str) (r : List Int) (x y : Tr) : D := entD k r (linkT b m x) (linkT b m y)
def kn (b m : Int) (t : Tr) : PI := ⟨linkT b m t, some t⟩
inductive Rs where
  | d (x : D) | l (t : Tab)
def Rs.D : Rs → D
  | .d x => x
  | .l t => tabD t
end DL
namespace DL
open PySem PySem.Spec PyProof.Rows L2
def LwE (S : Sto) (f : Nat) (es new : List D) (Kp : WK) (d : D) : Prop := Kp (.fz d) (S.set f (.lst ((es ++ new).map W.fz)))
theorem LwE.nil {S : Sto} {f : Nat} {es : List D} {Kp : WK} {d : D} (h : LwE S f es [] Kp d) (e : S[f]? = some (.lst (es.map W.fz))) : Kp (.fz d) S := by
  unfold LwE at h
  rw [List.append_nil] at h
  have hl := (List.getElem?_eq_some_iff.mp e).1
  have : S.set f (.lst (es.map W.fz)) = S := by
    refine List.ext_getElem? fun i => ?_
    by_cases z : f = i
    · subst z; rw [List.getElem?_set_self hl, e]
    · rw [List.getElem?_set_ne z]
  rw [this] at h
  exact h
theorem LwE.done {S : Sto} {f : Nat} {es : List D} {d0 : D} {Kp : WK} {d : D} (h : LwE S f es [d0] Kp d) : Kp (.fz d) (S.set f (.lst (es.map W.fz ++ [W.fz d0]))) := by
  unfold LwE at h
  rw [List.map_append] at h
  exact h
end DL
namespace DL
open PySem PySem.Spec PyProof.Rows L2
end DL
namespace DL
open PySem PySem.Spec PyProof.Rows L2
def isEnt (e : D) : Prop := ∃ (k : Str) (r : List Int) (x y : Link), e = entD k r x y ∧ isKey k ∧ isRow r
def isEntL (ds : List D) : Prop := ∀ e ∈ ds, isEnt e
theorem isEntL.nil : isEntL [] := fun e h => nomatch h
theorem isEntL.cons {d : D} {ds : List D} (h : isEnt d) (g : isEntL ds) : isEntL (d :: ds) := fun e he => by
  rcases List.mem_cons.mp he with z | z
  · rw [z]; exact h
  · exact g e z
theorem isEntL.app {a b : List D} (h : isEntL a) (g : isEntL b) : isEntL (a ++ b) := fun e he => by
  rcases List.mem_append.mp he with z | z
  · exact h e z
  · exact g e z
end DL
namespace DL
open PySem PySem.Spec PyProof.Rows L2
def mwo (q x : Addr) : HO := .ext fun h => h.get? q = some (PySem.W.kxs_mw "ValueError.__init__" x)
structure SupE (P : Program) (K : PySem.W.Frag) (qual : Str) (st : Stmt) (C f : Addr) : Prop where
  ex : ∃ (oc : Value) (od : Option Addr) (kV doc pm : Value) (an : Option Addr) (cda : Addr) (ct : Value) (cc : Addr) (osl : Array (Option Value)) (ccl : Value) (cdd : Option Addr) (vs : Array Value) (ccs : Array (Option Value)) (file : Str) (tf : Tok) (cl : Value) (cld : Option Addr) (csl : Array (Option Value)),
    K.lookup f = some ⟨oc, od, .func (PySem.W.ksFn "__init__" qual (C8.fnArgs st) (C8.fnBody st) (C8.fnScope st) .none kV doc pm an (.ref cda) ct cc), osl⟩ ∧ PySem.W.codeIn K (.ref cda) qual = true ∧
    K.lookup cda = some ⟨ccl, cdd, .fields vs, ccs⟩ ∧ vs[2]? = some (.str file tf) ∧ ((P.main.file : Str) == file) = true ∧ K.lookup cc = some ⟨cl, cld, .cell (some (.ref C)), csl⟩
  cls : ∃ cd, PySem.W.clsIn K C = some cd
  sub : PySem.W.mroIn K C (.ref C) = some true
  top : (P.main.scope.names.lookup ("super" : Str)).isSome = false
  any : PySem.W.nsIn K cStatics "thirdparty.any" = some none
  nxt : PySem.W.ks_superIn K C C "__init__" = some (some (.builtin "ValueError.__init__"))
  sb : PySem.W.subIn K (.ref C) (.type "ValueError") = some true
  oex : OexC K C
def spRef (C : Addr) : Sp := fun vs H Q _ => ∃ (a : Addr) (wd : Str) (n : Nat), vs = [.ref a, .str wd, .int n] ∧ wd.length ≤ 100 ∧ n ≤ 1000 ∧ H a = some (exo a C none) ∧
  ∀ q dx, H q = none → H dx = none → dx ≠ q → Q .non (upd (upd (upd (upd H q (mwo q a)) dx (exd dx [("word", .str wd)])) a (exo a C (some dx))) dx (exd dx [("number", .int n), ("word", .str wd)]))
structure RefC (P : Program) (w : World) (K : PySem.W.Frag) (mg : Str → Option Value) (base : Heap) (x : Str) (C : Addr) : Prop where
  oex : OexC K C
  ex : ∃ (fI : Addr) (fd : FuncData) (ps : List Str), PySem.W.findIn K (.ref C) "__init__" = some (some (.ref fI)) ∧ PySem.W.typeIn K (.ref fI) = some (.type "function") ∧ FnOk P w K mg base C8.CX0 1 fI fd ps (spRef C) ∧ Binds K fd ps []
  mgC : mg x = some (.ref C)
end DL
namespace DL
open PySem PySem.Spec PyProof.Rows L2
structure CatC (K : PySem.W.Frag) (C : Addr) (fs : List Str) : Prop where
  xf : XfC K C
  one : PySem.W.exmOne K (.ref C) (.ref C) = some true
  no : ∀ f ∈ fs, PySem.W.findIn K (.ref C) f = some none
end DL
namespace DL
open PySem PySem.Spec PyProof.Rows L2
structure ReIn (P : Program) (K : PySem.W.Frag) (x qual : Str) (st : Stmt) (names : List Str) : Prop where
  ex : ∃ (C f : Addr), PySem.W.nsIn K mainGlobals x = some (some (.ref C)) ∧ SupE P K qual st C f ∧ PySem.W.findIn K (.ref C) "__init__" = some (some (.ref f)) ∧ PySem.W.typeIn K (.ref f) = some (.type "function") ∧ CatC K C names ∧ PySem.W.nsIn K mainGlobals "super" = some none
structure ReDf (P : Program) (K : PySem.W.Frag) (mg : Str → Option Value) (x qual : Str) (st : Stmt) (names : List Str) (C : Addr) : Prop where
  ex : ∃ (f : Addr), SupE P K qual st C f ∧ PySem.W.findIn K (.ref C) "__init__" = some (some (.ref f)) ∧ PySem.W.typeIn K (.ref f) = some (.type "function")
  cat : CatC K C names
  mgC : mg x = some (.ref C)
  sup : mg "super" = none
theorem ReIn.df {P : Program} {K : PySem.W.Frag} {x qual : Str} {st : Stmt} {names : List Str} {h : Heap} {mg : Str → Option Value} (D : ReIn P K x qual st names) (X : K.In h) (G : h.Ns mainGlobals mg) : ∃ C, ReDf P K mg x qual st names C := by
  obtain ⟨C, f, a, s, i, t, c, ns⟩ := D.ex
  exact ⟨C, ⟨f, s, i, t⟩, c, PySem.W.mg_of X G a, PySem.W.mg_none_of X G ns⟩
end DL
namespace DL
open PySem PySem.Spec PyProof.Rows L2
end DL
namespace DL
open PySem PySem.Spec PyProof.Rows L2
def refD (rf : Rf) : D := .tup [.str "refused", .str rf.word, .int rf.num]
end DL
namespace DL
open PySem PySem.Spec PyProof.Rows L2
end DL
namespace DL
open PySem PySem.Spec PyProof.Rows L2
def refuW (b m : Int) (e : D) (tail : List D) : Option Str := match tail with
  | [] => some "short"
  | e' :: _ => match entOfD e' with
    | none => some "form"
    | some (k, r, x, y) => match entOfD e with
      | none => none
      | some (k0, r0, x0, y0) => if (linkOf b m k r x y).d = (linkOf b m k0 r0 x0 y0).d then (if eqD (linkD (linkOf b m k r x y)) (linkD (linkOf b m k0 r0 x0 y0)) then none else some "sums") else some "digest"
structure Sim {α : Type} (b m : Int) (fk fg : SrcS → Except Rf (α × SrcS)) (a : α) (w : List D) : Prop where
  kn : ∀ es, fk (.kn es) = .ok (a, .kn (es ++ w))
  gv : ∀ (cs : List D) (k : Nat) (post : List D), cs.drop k = w ++ post → fg (.gv cs k) = .ok (a, .gv cs (k + w.length))
  bad : ∀ (cs : List D) (k : Nat) (p : List D) (e : D) (w' tail : List D) (wd : Str), w = p ++ e :: w' → cs.drop k = p ++ tail → refuW b m e tail = some wd → fg (.gv cs k) = .error ⟨wd, ((k + p.length : Nat) : Int)⟩
theorem Sim.pure {α : Type} {b m : Int} (a : α) : Sim b m (fun st => .ok (a, st)) (fun st => .ok (a, st)) a [] :=
  ⟨fun es => by rw [List.append_nil], fun cs k post _ => rfl, fun cs k p e w' tail wd h => by cases p <;> cases h⟩
theorem drop_more {α : Type} {cs w post : List α} {k : Nat} (h : cs.drop k = w ++ post) : cs.drop (k + w.length) = post := by
  rw [← List.drop_drop, h, List.drop_left]
theorem Sim.bnd {α β : Type} {b m : Int} {fk fg : SrcS → Except Rf (α × SrcS)} {gk gg : α → SrcS → Except Rf (β × SrcS)} {a : α} {c : β} {w v : List D} (h : Sim b m fk fg a w) (g : Sim b m (gk a) (gg a) c v) : Sim b m (fun st => DL.bnd (fk st) gk) (fun st => DL.bnd (fg st) gg) c (w ++ v) := by
  refine ⟨fun es => ?_, fun cs k post hd => ?_, fun cs k p e w' tail wd hw hd hr => ?_⟩
  · show DL.bnd (fk (.kn es)) gk = _
    rw [h.kn]
    show gk a (.kn (es ++ w)) = _
    rw [g.kn, List.append_assoc]
  · show DL.bnd (fg (.gv cs k)) gg = _
    rw [List.append_assoc] at hd
    rw [h.gv cs k _ hd]
    show gg a (.gv cs (k + w.length)) = _
    rw [g.gv cs _ post (drop_more hd), List.length_append, Nat.add_assoc]
  · show DL.bnd (fg (.gv cs k)) gg = _
    rcases List.append_eq_append_iff.mp hw with ⟨p2, e1, e2⟩ | ⟨w2, e1, e2⟩
    · subst e1
      rw [List.append_assoc] at hd
      rw [h.gv cs k _ hd]
      show gg a (.gv cs (k + w.length)) = _
      rw [g.bad cs _ p2 e w' tail wd e2 (drop_more hd) hr, List.length_append, Nat.add_assoc]
    · cases w2 with
      | nil =>
        rw [List.append_nil] at e1
        subst e1
        rw [h.gv cs k _ hd]
        show gg a (.gv cs (k + w.length)) = _
        rw [g.bad cs _ [] e w' tail wd e2.symm (drop_more hd) hr]
        rfl
      | cons z w2 =>
        rw [List.cons_append] at e2
        injection e2 with e3 e4
        subst e3
        rw [h.bad cs k p e w2 tail wd e1 hd hr]
        rfl
structure nnL (l : Link) : Prop where
  d : 0 ≤ l.d
  n : 0 ≤ l.n
  a : 0 ≤ l.a
  b : 0 ≤ l.b
  c : 0 ≤ l.c
end DL
namespace DL
open PySem PySem.Spec PyProof.Rows L2
theorem cellI_nn {r : List Int} (h : isRow r) (k : Nat) : 0 ≤ cellI r k := by
  unfold cellI
  rw [List.getD_eq_getElem?_getD]
  cases e : r[k]? with
  | none => exact Int.le_refl 0
  | some i => exact (h.2.2 i (List.mem_of_getElem? e)).1
theorem linkT_nn {b m : Int} (hr : isRule b m) : ∀ {t : Tr}, okTr t → nnL (linkT b m t)
  | .nil, _ => ⟨(dig_range hr _).1, Int.le_refl 0, Int.le_refl 0, Int.le_refl 0, Int.le_refl 0⟩
  | .node k r x y, h => by
    have hx := linkT_nn hr h.2.2.1
    have hy := linkT_nn hr h.2.2.2
    have c0 := cellI_nn h.2.1 0
    have c1 := cellI_nn h.2.1 1
    have c2 := cellI_nn h.2.1 2
    refine ⟨(dig_range hr _).1, ?_, ?_, ?_, ?_⟩
    · show 0 ≤ 1 + (linkT b m x).n + (linkT b m y).n
      have := hx.n; have := hy.n; omega
    · show 0 ≤ cellI r 0 + (linkT b m x).a + (linkT b m y).a
      have := hx.a; have := hy.a; omega
    · show 0 ≤ cellI r 1 + (linkT b m x).b + (linkT b m y).b
      have := hx.b; have := hy.b; omega
    · show 0 ≤ cellI r 2 + (linkT b m x).c + (linkT b m y).c
      have := hx.c; have := hy.c; omega
section
variable {b m : Int} (hr : isRule b m)
include hr
theorem Sim.seq {α β : Type} {fk fg : SrcS → Except Rf (α × SrcS)} {gk gg : α → SrcS → Except Rf (β × SrcS)} (h : ∃ a w, Sim b m fk fg a w) (g : ∀ a, ∃ c v, Sim b m (gk a) (gg a) c v) : ∃ c v, Sim b m (fun st => DL.bnd (fk st) gk) (fun st => DL.bnd (fg st) gg) c v := by
  obtain ⟨a, w, h⟩ := h
  obtain ⟨c, v, g⟩ := g a
  exact ⟨_, _, h.bnd g⟩
end
end DL
namespace DL
open PySem PySem.Spec PyProof.Rows L2
end DL
namespace DL
open PySem PySem.Spec PyProof.Rows L2
end DL
namespace DL
open PySem PySem.Spec PyProof.Rows L2
def isEn (e : D) : Prop := ∃ (k : Str) (r : List Int) (x y : Link), e = entD k r x y ∧ isKey k ∧ isRow r ∧ nnL x ∧ nnL y
def isEnL (ds : List D) : Prop := ∀ e ∈ ds, isEn e
end DL
namespace DL
open PySem PySem.Spec PyProof.Rows L2
theorem isEnL.cut {ds : List D} (h : isEnL ds) (lo hi : Option Int) : isEnL (cutL ds lo hi) := fun e he => h e (cut_mem he)
theorem isEnL.app {a b : List D} (h : isEnL a) (g : isEnL b) : isEnL (a ++ b) := fun e he => (List.mem_append.mp he).elim (h e) (g e)
theorem isEnL.one {e : D} (h : isEn e) : isEnL [e] := fun x hx => by rw [List.mem_singleton.mp hx]; exact h
structure TurnI (S : Sto) (n : Nat) (ms : List D) (most : Nat) : Prop where
  at_ : S[n]? = some (.lst (ms.map W.fz))
  en : isEnL ms
  len : ms.length ≤ most
end DL
namespace DL
open PySem PySem.Spec PyProof.Rows L2
def vdV (n : Nat) (d : D) : Prop := plB d = true ∧ okD n d = true
def vdL (n : Nat) (ds : List D) : Prop := ds.length ≤ 1000 ∧ ∀ d ∈ ds, vdV n d
theorem okDL_iff {n : Nat} : ∀ {ds : List D}, okDL n ds = true ↔ ∀ d ∈ ds, okD n d = true
  | [] => ⟨(fun _ _ h => by cases h), fun _ => rfl⟩
  | d :: ds => by
    have e : okDL n (d :: ds) = (okD n d && okDL n ds) := rfl
    rw [e, Bool.and_eq_true, okDL_iff]
    refine ⟨fun h x hx => ?_, fun h => ⟨h d List.mem_cons_self, fun x hx => h x (List.mem_cons_of_mem _ hx)⟩⟩
    rcases List.mem_cons.mp hx with e | e
    · rw [e]; exact h.1
    · exact h.2 x e
theorem vdV.tup {n : Nat} {ds : List D} (h : vdL n ds) : vdV (n + 1) (.tup ds) := by
  refine ⟨?_, okDL_iff.mpr fun d hd => (h.2 d hd).2⟩
  show (decide (ds.length ≤ 1000) && plBL ds) = true
  rw [decide_eq_true h.1, plBL_iff.mpr fun d hd => (h.2 d hd).1]
  rfl
mutual
theorem okD_mn : ∀ (d : D) (n : Nat), okD n d = true → okD (n + 1) d = true
  | .non, n, _ => by cases n <;> rfl
  | .bl _, n, _ => by cases n <;> rfl
  | .int _, n, _ => by cases n <;> rfl
  | .str x, n, h => by cases n <;> exact h
  | .tup ds, 0, h => by cases h
  | .tup ds, n + 1, h => okDL_mn ds n h
  | .lst ds, 0, h => by cases h
  | .lst ds, n + 1, h => okDL_mn ds n h
  | .obj _ _, n, h => by cases n <;> cases h
  | .scr _, n, h => by cases n <;> cases h
  | .ty _, n, h => by cases n <;> cases h
theorem okDL_mn : ∀ (ds : List D) (n : Nat), okDL n ds = true → okDL (n + 1) ds = true
  | [], _, _ => rfl
  | d :: ds, n, h => by
    have h : (okD n d && okDL n ds) = true := h
    rw [Bool.and_eq_true] at h
    show (okD (n + 1) d && okDL (n + 1) ds) = true
    rw [okD_mn d n h.1, okDL_mn ds n h.2]
    rfl
end
theorem okD_le {d : D} {n k : Nat} (h : okD n d = true) (hk : n ≤ k) : okD k d = true := by
  obtain ⟨j, rfl⟩ := Nat.exists_eq_add_of_le hk
  clear hk
  induction j with
  | zero => exact h
  | succ j ih => exact okD_mn d _ ih
theorem vdV.le {d : D} {n k : Nat} (h : vdV n d) (hk : n ≤ k) : vdV k d := ⟨h.1, okD_le h.2 hk⟩
theorem vdV.int (n : Nat) (i : Int) : vdV n (.int i) := ⟨rfl, by cases n <;> rfl⟩
theorem vdV.non (n : Nat) : vdV n .non := ⟨rfl, by cases n <;> rfl⟩
theorem vdV.bl (n : Nat) (b : Bool) : vdV n (.bl b) := ⟨rfl, by cases n <;> rfl⟩
theorem vdV.str (n : Nat) {x : Str} (h : PyData.strOk x = true) (hl : x.length ≤ 1000) : vdV n (.str x) := ⟨by show (PyData.strOk x && decide (x.length ≤ 1000)) = true; rw [h, decide_eq_true hl]; rfl, ok_str h⟩
theorem vdL.nil (n : Nat) : vdL n [] := ⟨Nat.zero_le _, fun _ h => nomatch h⟩
theorem vdL.of {n : Nat} {ds : List D} (h : ∀ d ∈ ds, vdV n d) (hl : ds.length ≤ 1000) : vdL n ds := ⟨hl, h⟩
end DL
namespace DL
open PySem PySem.Spec PyProof.Rows L2
section
variable {b m : Int} (hr : isRule b m)
include hr
end
end DL
namespace DL
open PySem PySem.Spec PyProof.Rows L2
end DL
namespace DL
open PySem PySem.Spec PyProof.Rows L2
def clashE (b m : Int) (x g : D) : D := match entOfD x, entOfD g with
  | some (k, r, u, v), some (k', r', u', v') => if dig b m (nodeD k r u v) = dig b m (nodeD k' r' u' v') then .tup [x, g] else .non
  | _, _ => .non
def clashL (b m : Int) : List D → List D → D
  | x :: hs, g :: gs => if eqD x g then clashL b m hs gs else clashE b m x g
  | [], _ => .non
  | _ :: _, [] => .non
def lcOk : List D → List D → Prop
  | x :: hs, g :: gs => if eqD x g then lcOk hs gs else (entOfD g).isSome = true
  | [], _ => True
  | _ :: _, [] => True
end DL
namespace DL
open PySem PySem.Spec PyProof.Rows L2
structure Pre2 (b m : Int) (p p2 : List D) : Prop where
  len : p.length = p2.length
  cl : ∀ a c, clashL b m (p ++ a) (p2 ++ c) = clashL b m a c
  lc : ∀ a c, lcOk a c → lcOk (p ++ a) (p2 ++ c)
theorem Pre2.nil (b m : Int) : Pre2 b m [] [] := ⟨rfl, fun _ _ => rfl, fun _ _ h => h⟩
end DL
namespace DL
open PySem PySem.Spec PyProof.Rows L2
end DL
namespace DL
open PySem PySem.Spec PyProof.Rows L2
end DL
namespace DL
open PySem PySem.Spec PyProof.Rows L2
inductive PA where
  | un (l : Link) (t : Option Tr)
  | op (l : Link) (t : Option Tr) (k : Str) (r : List Int) (x y : PA)
def PA.l : PA → Link
  | .un l _ => l
  | .op l _ _ _ _ _ => l
def PA.t : PA → Option Tr
  | .un _ t => t
  | .op _ t _ _ _ _ => t
def szO : Option Tr → Nat
  | none => 0
  | some t => t.size
def PA.sz : PA → Nat
  | .un _ t => szO t
  | .op _ _ _ _ x y => x.sz + y.sz + 1
def PA.unz : PA → Nat
  | .un _ t => szO t
  | .op _ _ _ _ x y => x.unz + y.unz
def okU (b m : Int) : Bool → Link → Option Tr → Prop
  | true, l, some t => l = linkT b m t ∧ okTr t
  | true, l, none => l.n = 0
  | false, l, none => 0 ≤ l.n
  | false, _, some _ => False
def okA (b m : Int) (q : Bool) : PA → Prop
  | .un l t => okU b m q l t
  | .op _ _ k r x y => isKey k ∧ isRow r ∧ okA b m q x ∧ okA b m q y
def rem : SrcS → Nat
  | .kn _ => 0
  | .gv cs n => cs.length - n
def okP : SrcS → Nat → Prop
  | .kn es, U => es.length + U ≤ 900
  | .gv cs n, _ => cs.length ≤ 900 ∧ n ≤ cs.length ∧ plBL cs = true
def Aft : SrcS → SrcS → Nat → Nat → Prop
  | .kn es, .kn fs, U, V => es.length ≤ fs.length ∧ fs.length + V ≤ es.length + U
  | .gv cs n, .gv ds k, _, _ => ds = cs ∧ n ≤ k ∧ k ≤ cs.length
  | _, _, _, _ => False
theorem okP.le {st : SrcS} {U V : Nat} (h : okP st U) (l : V ≤ U) : okP st V := by
  cases st with
  | kn es => exact Nat.le_trans (Nat.add_le_add_left l _) h
  | gv cs n => exact h
theorem Aft.okP {st st' : SrcS} {U V : Nat} (a : Aft st st' U V) (h : DL.okP st U) : DL.okP st' V := by
  cases st <;> cases st'
  · exact Nat.le_trans a.2 h
  · exact a.elim
  · exact a.elim
  · obtain ⟨rfl, _, a⟩ := a
    exact ⟨h.1, a, h.2.2⟩
theorem Aft.refl {st : SrcS} {U V : Nat} (h : DL.okP st U) (l : V ≤ U) : Aft st st U V := by
  cases st with
  | kn es => exact ⟨Nat.le_refl _, Nat.add_le_add_left l _⟩
  | gv cs n => exact ⟨rfl, Nat.le_refl _, h.2.1⟩
theorem Aft.trans {st st1 st2 : SrcS} {U V Y : Nat} (a : Aft st st1 U V) (c : Aft st1 st2 V Y) : Aft st st2 U Y := by
  cases st <;> cases st1 <;> cases st2 <;> first | exact a.elim | exact c.elim | skip
  · exact ⟨Nat.le_trans a.1 c.1, Nat.le_trans c.2 a.2⟩
  · obtain ⟨rfl, a1, a2⟩ := a
    obtain ⟨rfl, c1, c2⟩ := c
    exact ⟨rfl, Nat.le_trans a1 c1, c2⟩
theorem Aft.le {st st1 : SrcS} {U V U' V' : Nat} (a : Aft st st1 U V) (h1 : U ≤ U') (h2 : V' ≤ V) : Aft st st1 U' V' := by
  cases st <;> cases st1 <;> first | exact a.elim | skip
  · exact ⟨a.1, by have := a.2; omega⟩
  · exact a
theorem Aft.kind {st st1 : SrcS} {U V : Nat} (a : Aft st st1 U V) : st1.isKn = st.isKn := by
  cases st <;> cases st1 <;> first | exact a.elim | rfl
theorem Aft.rem {st st1 : SrcS} {U V : Nat} (a : Aft st st1 U V) : DL.rem st1 ≤ DL.rem st := by
  cases st <;> cases st1 <;> first | exact a.elim | skip
  · exact Nat.le_refl _
  · obtain ⟨rfl, a1, a2⟩ := a
    show _ - _ ≤ _ - _
    omega
abbrev OpA := Str × List Int × PA × PA
def opA (b m : Int) (st : SrcS) : PA → Except Rf (OpA × SrcS)
  | .op _ _ k r x y => .ok ((k, r, x, y), st)
  | .un l t => bnd (opn b m st ⟨l, t⟩) fun o st' => .ok ((o.1, o.2.1, .un o.2.2.1.l o.2.2.1.t, .un o.2.2.2.l o.2.2.2.t), st')
def opd (pa : PA) (o : OpA) : PA := .op pa.l pa.t o.1 o.2.1 o.2.2.1 o.2.2.2
theorem okU.okS {b m : Int} {st : SrcS} {l : Link} {t : Option Tr} (h : okU b m st.isKn l t) (p : okP st (szO t)) (n : l.n ≠ 0) : okS b m st ⟨l, t⟩ := by
  cases st with
  | kn es =>
    cases t with
    | none => exact absurd h n
    | some t => exact ⟨by have : es.length + t.size ≤ 900 := p; omega, t, rfl, h.1, h.2, p⟩
  | gv cs k =>
    cases t with
    | none => exact ⟨p, rfl, h⟩
    | some t => exact h.elim
structure OpOk (b m : Int) (st st' : SrcS) (pa : PA) (o : OpA) : Prop where
  key : isKey o.1
  row : isRow o.2.1
  x : okA b m st'.isKn o.2.2.1
  y : okA b m st'.isKn o.2.2.2
  aft : Aft st st' pa.unz (o.2.2.1.unz + o.2.2.2.unz)
  sz : rem st' + (o.2.2.1.sz + o.2.2.2.sz + 1) ≤ rem st + pa.sz
theorem OpOk.opd {b m : Int} {st st' : SrcS} {pa : PA} {o : OpA} (h : OpOk b m st st' pa o) : okA b m st'.isKn (DL.opd pa o) := ⟨h.key, h.row, h.x, h.y⟩
def emp (b m : Int) : PA := .un (link0 b m) none
def mkA (b m : Int) (k : Str) (r : List Int) (x y : PA) : PA := .op (linkOf b m k r x.l y.l) none k r x y
abbrev SplR := PA × Option (List Int) × PA
def mSplit (b m : Int) : Nat → SrcS → PA → Str → Except Rf (SplR × SrcS)
  | 0, st, _, _ => .ok ((emp b m, none, emp b m), st)
  | f + 1, st, pa, key => if pa.l.n = 0 then .ok ((emp b m, none, emp b m), st) else bnd (opA b m st pa) fun o st1 =>
    if key = o.1 then .ok ((o.2.2.1, some o.2.1, o.2.2.2), st1)
    else if strLt key o.1 then bnd (mSplit b m f st1 o.2.2.1 key) fun q st2 => .ok ((q.1, q.2.1, mkA b m o.1 o.2.1 q.2.2 o.2.2.2), st2)
    else bnd (mSplit b m f st1 o.2.2.2 key) fun q st2 => .ok ((mkA b m o.1 o.2.1 o.2.2.1 q.1, q.2.1, q.2.2), st2)
def mMerge (b m : Int) : Nat → SrcS → PA → PA → Except Rf (PA × SrcS)
  | 0, st, one, _ => .ok (one, st)
  | f + 1, st, one, two => if one.l.n = 0 then .ok (two, st) else if two.l.n = 0 then .ok (one, st) else bnd (opA b m st one) fun o st1 => bnd (opA b m st1 two) fun u st2 =>
    if outB o.1 u.1 then bnd (mMerge b m f st2 o.2.2.2 (opd two u)) fun r st3 => .ok (mkA b m o.1 o.2.1 o.2.2.1 r, st3)
    else bnd (mMerge b m f st2 (opd one o) u.2.2.1) fun r st3 => .ok (mkA b m u.1 u.2.1 r u.2.2.2, st3)
def mPut (b m : Int) : Nat → SrcS → PA → Str → List Int → Except Rf (PA × SrcS)
  | 0, st, pa, _, _ => .ok (pa, st)
  | f + 1, st, pa, key, row => if pa.l.n = 0 then .ok (mkA b m key row (emp b m) (emp b m), st) else bnd (opA b m st pa) fun o st1 =>
    if key = o.1 then .ok (mkA b m key row o.2.2.1 o.2.2.2, st1)
    else if outB key o.1 then bnd (mSplit b m (f + 1) st1 (opd pa o) key) fun q st2 => .ok (mkA b m key row q.1 q.2.2, st2)
    else if strLt key o.1 then bnd (mPut b m f st1 o.2.2.1 key row) fun r st2 => .ok (mkA b m o.1 o.2.1 r o.2.2.2, st2)
    else bnd (mPut b m f st1 o.2.2.2 key row) fun r st2 => .ok (mkA b m o.1 o.2.1 o.2.2.1 r, st2)
def mRem (b m : Int) : Nat → SrcS → PA → Str → Except Rf (PA × SrcS)
  | 0, st, pa, _ => .ok (pa, st)
  | f + 1, st, pa, key => if pa.l.n = 0 then .ok (pa, st) else bnd (opA b m st pa) fun o st1 =>
    if key = o.1 then mMerge b m (f + 1) st1 o.2.2.1 o.2.2.2
    else if strLt key o.1 then bnd (mRem b m f st1 o.2.2.1 key) fun r st2 => .ok (mkA b m o.1 o.2.1 r o.2.2.2, st2)
    else bnd (mRem b m f st1 o.2.2.2 key) fun r st2 => .ok (mkA b m o.1 o.2.1 o.2.2.1 r, st2)
def mChg (b m : Int) (f : Nat) (st : SrcS) (pa : PA) : Ch → Except Rf (PA × SrcS)
  | .put k r => mPut b m f st pa k r
  | .rem k => mRem b m f st pa k
def At (c : Cs) (b m : Int) (S : Sto) : PA → Nat → List Nat → Prop
  | .un l t, p, fp => fp = [p] ∧ S[p]? = some (.ins c.P [("link", .fz (linkD l)), ("tree", .fz (trD c.T b m t)), ("node", .fz .non)])
  | .op l t k r x y, p, fp => ∃ nd px py fx fy, fp = p :: nd :: (fx ++ fy) ∧ S[p]? = some (.ins c.P [("link", .fz (linkD l)), ("tree", .fz (trD c.T b m t)), ("node", .hd nd)]) ∧
    S[nd]? = some (.ins c.N [("key", .fz (.str k)), ("row", .fz (rowD r)), ("left", .hd px), ("right", .hd py)]) ∧ At c b m S x px fx ∧ At c b m S y py fy
theorem At.lt {c : Cs} {b m : Int} {S : Sto} : ∀ {pa : PA} {p : Nat} {fp : List Nat}, At c b m S pa p fp → ∀ i ∈ fp, i < S.length
  | .un l t, p, fp, h, i, hi => by
    rw [h.1, List.mem_singleton] at hi
    rw [hi]
    exact (List.getElem?_eq_some_iff.mp h.2).1
  | .op l t k r x y, p, fp, h, i, hi => by
    obtain ⟨nd, px, py, fx, fy, e, h1, h2, h3, h4⟩ := h
    rw [e] at hi
    rcases List.mem_cons.mp hi with z | hi
    · rw [z]; exact (List.getElem?_eq_some_iff.mp h1).1
    rcases List.mem_cons.mp hi with z | hi
    · rw [z]; exact (List.getElem?_eq_some_iff.mp h2).1
    rcases List.mem_append.mp hi with z | z
    · exact h3.lt i z
    · exact h4.lt i z
theorem At.ext {c : Cs} {b m : Int} {S S' : Sto} {ex : List Nat} (x : Ext ex S S') : ∀ {pa : PA} {p : Nat} {fp : List Nat}, At c b m S pa p fp → (∀ i ∈ fp, i ∉ ex) → At c b m S' pa p fp
  | .un l t, p, fp, h, n => ⟨h.1, x.get h.2 (n p (by rw [h.1]; exact List.mem_cons_self))⟩
  | .op l t k r u v, p, fp, h, n => by
    obtain ⟨nd, px, py, fx, fy, e, h1, h2, h3, h4⟩ := h
    subst e
    exact ⟨nd, px, py, fx, fy, rfl, x.get h1 (n p (by simp)), x.get h2 (n nd (by simp)), h3.ext x fun i hi => n i (by simp [hi]), h4.ext x fun i hi => n i (by simp [hi])⟩
theorem At.part {c : Cs} {b m : Int} {S : Sto} {pa : PA} {p : Nat} {fp : List Nat} (h : At c b m S pa p fp) : ∃ w, S[p]? = some (.ins c.P [("link", .fz (linkD pa.l)), ("tree", .fz (trD c.T b m pa.t)), ("node", w)]) := by
  cases pa with
  | un l t => exact ⟨_, h.2⟩
  | op l t k r x y => obtain ⟨nd, px, py, fx, fy, e, h1, _⟩ := h; exact ⟨_, h1⟩
structure Fresh (S : Sto) (fp gs : List Nat) : Prop where
  nd : gs.Nodup
  sub : ∀ i ∈ gs, i ∈ fp ∨ S.length ≤ i
structure WkA (c : Cs) (C : Addr) (q : Bool) (S : Sto) (s e : Nat) (b m : Int) (st : SrcS) (U : Nat) (fp : List Nat) : Prop where
  src : SrcAt C S s e b m st
  rule : isRule b m
  kind : st.isKn = q
  okp : okP st U
  nd : fp.Nodup
  ns : s ∉ fp
  ne : e ∉ fp
abbrev Rep (α : Type) := Sto → α → W → List Nat → Prop
def rowO : Option (List Int) → D
  | none => .non
  | some r => rowD r
def EndA {α : Type} (c : Cs) (C : Addr) (S : Sto) (s e : Nat) (b m : Int) (fp : List Nat) (R : Rep α) (r : Except Rf (α × SrcS)) (Kp : WK) (Xp : XWK) : Prop := match r with
  | .ok (a, st') => ∀ S' w gs, SrcAt C S' s e b m st' → Ext (s :: e :: fp) S S' → R S' a w gs → Fresh S fp gs → Kp w S'
  | .error rf => ∀ S', Ext (s :: e :: fp) S S' → Xp (xdOf c.R rf) S'
theorem Ext.transF {s e : Nat} {fp fp1 : List Nat} {S S1 S2 : Sto} (a : Ext (s :: e :: fp) S S1) (d : Ext (s :: e :: fp1) S1 S2) (f : ∀ i ∈ fp1, i ∈ fp ∨ S.length ≤ i) : Ext (s :: e :: fp) S S2 := by
  refine a.trans d (fun _ h => h) fun i hi hl => ?_
  rcases List.mem_cons.mp hi with z | hi
  · rw [z]; exact List.mem_cons_self
  rcases List.mem_cons.mp hi with z | hi
  · rw [z]; exact List.mem_cons_of_mem _ List.mem_cons_self
  rcases f i hi with z | z
  · exact List.mem_cons_of_mem _ (List.mem_cons_of_mem _ z)
  · omega
theorem EndA.call {α β : Type} {c : Cs} {C : Addr} {S S1 : Sto} {s e : Nat} {b m : Int} {fp fp1 : List Nat} {R' : Rep β} {R : Rep α} {r : Except Rf (α × SrcS)} {k : α → SrcS → Except Rf (β × SrcS)} {Kp Kq : WK} {Xp : XWK} (h : EndA c C S s e b m fp R' (bnd r k) Kp Xp) (x : Ext (s :: e :: fp) S S1) (f : ∀ i ∈ fp1, i ∈ fp ∨ S.length ≤ i)
    (g : ∀ a st' S' w gs, r = .ok (a, st') → SrcAt C S' s e b m st' → Ext (s :: e :: fp1) S1 S' → Ext (s :: e :: fp) S S' → R S' a w gs → Fresh S1 fp1 gs → EndA c C S s e b m fp R' (k a st') Kp Xp → Kq w S') : EndA c C S1 s e b m fp1 R r Kq Xp := by
  cases r with
  | error rf => exact fun S' y => h S' (x.transF y f)
  | ok v =>
    obtain ⟨a, st'⟩ := v
    exact fun S' w gs h1 h2 h3 h4 => g a st' S' w gs rfl h1 h2 (x.transF h2 f) h3 h4 h
structure OpdA (c : Cs) (C : Addr) (S S' : Sto) (s e p : Nat) (fp : List Nat) (b m : Int) (nd px py : Nat) (fx fy : List Nat) (pa : PA) (o : OpA) (st' : SrcS) : Prop where
  src : SrcAt C S' s e b m st'
  ext : Ext (s :: e :: fp) S S'
  part : S'[p]? = some (.ins c.P [("link", .fz (linkD pa.l)), ("tree", .fz (trD c.T b m pa.t)), ("node", .hd nd)])
  node : S'[nd]? = some (.ins c.N [("key", .fz (.str o.1)), ("row", .fz (rowD o.2.1)), ("left", .hd px), ("right", .hd py)])
  x : At c b m S' o.2.2.1 px fx
  y : At c b m S' o.2.2.2 py fy
  fr : Fresh S fp (p :: nd :: (fx ++ fy))
theorem OpdA.at {c : Cs} {C : Addr} {S S' : Sto} {s e p : Nat} {fp : List Nat} {b m : Int} {nd px py : Nat} {fx fy : List Nat} {pa : PA} {o : OpA} {st' : SrcS} (h : OpdA c C S S' s e p fp b m nd px py fx fy pa o st') : At c b m S' (opd pa o) p (p :: nd :: (fx ++ fy)) :=
  ⟨nd, px, py, fx, fy, rfl, h.part, h.node, h.x, h.y⟩
end DL
namespace DL
open PySem PySem.Spec PyProof.Rows L2
theorem Fresh.step {S S1 : Sto} {fp L fx fy as R : List Nat} (h0 : Fresh S fp L) (pl : L.Perm (fx ++ fy)) (hy : ∀ i ∈ fy, i < S1.length) (l1 : S.length ≤ S1.length) (h1 : Fresh S1 fx as) (pr : R.Perm (as ++ fy)) : Fresh S fp R := by
  have nd := pl.nodup_iff.mp h0.nd
  have hd := List.nodup_append.mp nd
  refine ⟨pr.nodup_iff.mpr (List.nodup_append.mpr ⟨h1.nd, hd.2.1, fun a ha b hb z => ?_⟩), fun i hi => ?_⟩
  · subst z
    rcases h1.sub a ha with z | z
    · exact hd.2.2 a z a hb rfl
    · have := hy a hb; omega
  · rcases List.mem_append.mp (pr.mem_iff.mp hi) with z | z
    · rcases h1.sub i z with z | z
      · exact h0.sub i (pl.mem_iff.mpr (List.mem_append_left _ z))
      · exact .inr (by omega)
    · exact h0.sub i (pl.mem_iff.mpr (List.mem_append_right _ z))
theorem Fresh.made {S S2 : Sto} {fp L R : List Nat} (h0 : Fresh S fp L) (hl : ∀ i ∈ L, i < S2.length) (l : S.length ≤ S2.length) (pr : R.Perm ((S2.length + 1) :: S2.length :: L)) : Fresh S fp R := by
  refine ⟨pr.nodup_iff.mpr (List.nodup_cons.mpr ⟨fun z => ?_, List.nodup_cons.mpr ⟨fun z => ?_, h0.nd⟩⟩), fun i hi => ?_⟩
  · rcases List.mem_cons.mp z with z | z
    · omega
    · have := hl _ z; omega
  · have := hl _ z; omega
  · rcases List.mem_cons.mp (pr.mem_iff.mp hi) with z | z
    · exact .inr (by omega)
    · rcases List.mem_cons.mp z with z | z
      · exact .inr (by omega)
      · exact h0.sub i z
theorem Fresh.one {S S2 : Sto} {fp L R : List Nat} (h0 : Fresh S fp L) (hl : ∀ i ∈ L, i < S2.length) (l : S.length ≤ S2.length) (pr : R.Perm (S2.length :: L)) : Fresh S fp R := by
  refine ⟨pr.nodup_iff.mpr (List.nodup_cons.mpr ⟨fun z => ?_, h0.nd⟩), fun i hi => ?_⟩
  · have := hl _ z; omega
  · rcases List.mem_cons.mp (pr.mem_iff.mp hi) with z | z
    · exact .inr (by omega)
    · exact h0.sub i z
theorem Fresh.drop {S : Sto} {fp L R Z : List Nat} (h : Fresh S fp L) (p : L.Perm (R ++ Z)) : Fresh S fp R :=
  ⟨(List.nodup_append.mp (p.nodup_iff.mp h.nd)).1, fun i hi => h.sub i (p.mem_iff.mpr (List.mem_append_left _ hi))⟩
theorem Fresh.trans {S S1 : Sto} {fp L R : List Nat} (h0 : Fresh S fp L) (l : S.length ≤ S1.length) (h1 : Fresh S1 L R) : Fresh S fp R :=
  ⟨h1.nd, fun i hi => (h1.sub i hi).elim (h0.sub i) fun z => .inr (by omega)⟩
theorem WkA.out {c : Cs} {C : Addr} {q : Bool} {S : Sto} {s e : Nat} {b m : Int} {st : SrcS} {U : Nat} {fp gs : List Nat} (w : WkA c C q S s e b m st U fp) (f : ∀ i ∈ gs, i ∈ fp ∨ S.length ≤ i) : s ∉ gs ∧ e ∉ gs := by
  have := w.src.lt
  refine ⟨fun z => ?_, fun z => ?_⟩
  · rcases f _ z with y | y
    · exact w.ns y
    · omega
  · rcases f _ z with y | y
    · exact w.ne y
    · omega
theorem WkA.go {c : Cs} {C : Addr} {q : Bool} {S S1 : Sto} {s e : Nat} {b m : Int} {st st1 : SrcS} {U V Y : Nat} {fp gs : List Nat} (w : WkA c C q S s e b m st U fp) (src : SrcAt C S1 s e b m st1) (a : Aft st st1 U V) (l : Y ≤ V) (n : gs.Nodup) (f : ∀ i ∈ gs, i ∈ fp ∨ S.length ≤ i) : WkA c C q S1 s e b m st1 Y gs :=
  ⟨src, w.rule, a.kind.trans w.kind, (a.okP w.okp).le l, n, (w.out f).1, (w.out f).2⟩
theorem At.app {c : Cs} {b m : Int} {S T : Sto} {pa : PA} {p : Nat} {fp : List Nat} (h : At c b m S pa p fp) : At c b m (S ++ T) pa p fp := h.ext (Ext.app (ex := [])) (fun _ _ z => nomatch z)
theorem SrcAt.app {C : Addr} {S T : Sto} {s e : Nat} {b m : Int} {st : SrcS} (h : SrcAt C S s e b m st) : SrcAt C (S ++ T) s e b m st := h.ext (Ext.app (ex := [])) (fun z => nomatch z) (fun z => nomatch z)
theorem At.emp {c : Cs} {b m : Int} {S : Sto} : At c b m (S ++ [.ins c.P [("link", .fz (linkD (link0 b m))), ("tree", .fz .non), ("node", .fz .non)]]) (emp b m) S.length [S.length] := ⟨rfl, set_app1 rfl⟩
theorem OpdA.sub {c : Cs} {C : Addr} {S S' : Sto} {s e p : Nat} {fp : List Nat} {b m : Int} {nd px py : Nat} {fx fy : List Nat} {pa : PA} {o : OpA} {st' : SrcS} (h : OpdA c C S S' s e p fp b m nd px py fx fy pa o st') : Fresh S fp (fx ++ fy) :=
  ⟨(List.nodup_cons.mp (List.nodup_cons.mp h.fr.nd).2).2, fun i hi => h.fr.sub i (List.mem_cons_of_mem _ (List.mem_cons_of_mem _ hi))⟩
theorem OpdA.keep {c : Cs} {C : Addr} {q : Bool} {S S' S2 : Sto} {s e p : Nat} {fp : List Nat} {b m : Int} {nd px py : Nat} {fx fy gs : List Nat} {pa : PA} {o : OpA} {st st' : SrcS} {U : Nat} (h : OpdA c C S S' s e p fp b m nd px py fx fy pa o st') (w : WkA c C q S s e b m st U fp) (x : Ext (s :: e :: gs) S' S2) (g : ∀ i ∈ gs, i ∈ fx ++ fy) : S2[nd]? = some (.ins c.N [("key", .fz (.str o.1)), ("row", .fz (rowD o.2.1)), ("left", .hd px), ("right", .hd py)]) := by
  have n := w.out h.fr.sub
  refine x.get h.node fun z => ?_
  rcases List.mem_cons.mp z with z | z
  · subst z; exact n.1 (by simp)
  rcases List.mem_cons.mp z with z | z
  · subst z; exact n.2 (by simp)
  · exact (List.nodup_cons.mp (List.nodup_cons.mp h.fr.nd).2).1 (g _ z)
structure SplOk (b m : Int) (st st' : SrcS) (pa : PA) (a : SplR) : Prop where
  x : okA b m st'.isKn a.1
  y : okA b m st'.isKn a.2.2
  r : ∀ r, a.2.1 = some r → isRow r
  aft : Aft st st' pa.unz (a.1.unz + a.2.2.unz)
  sz : rem st' + (a.1.sz + a.2.2.sz) ≤ rem st + pa.sz
structure ParOk (b m : Int) (st st' : SrcS) (U Z : Nat) (a : PA) : Prop where
  ok : okA b m st'.isKn a
  aft : Aft st st' U a.unz
  sz : rem st' + a.sz ≤ Z
end DL
namespace DL
open PySem PySem.Spec PyProof.Rows L2
theorem outB_gen (one two : Str) : outB one two = (decide (rankI two < rankI one) || (decide (rankI two = rankI one) && strLt one two)) := by
  have e : ∀ (i : Int) (s : Str), PySem.W.keyToks (toPy (.tup [.int i, .str s])) = [Sum.inl 1, Sum.inl i, Sum.inl 1, Sum.inr s.cps.toList, Sum.inl 0] := fun _ _ => rfl
  unfold outB PySem.W.dataLt
  rw [e, e, lex_self, lex_cons, lex_self, lex_cons]
  have b1 : itemOrd.blt (Sum.inl (rankI two)) (Sum.inl (rankI one)) = decide (rankI two < rankI one) := rfl
  have b3 : itemOrd.blt (Sum.inl (rankI one)) (Sum.inl (rankI two)) = decide (rankI one < rankI two) := rfl
  have b2 : itemOrd.blt (Sum.inr one.cps.toList) (Sum.inr two.cps.toList) = strLt one two := rfl
  rw [b1, b2, b3, lex_irrefl, Bool.and_false, Bool.or_false]
  by_cases h : rankI two < rankI one
  · rw [decide_eq_true h, Bool.true_or, Bool.true_or]
  · rw [decide_eq_false h, Bool.false_or, Bool.false_or]
    by_cases h2 : rankI two = rankI one
    · rw [decide_eq_true h2, decide_eq_false (by omega)]
      rfl
    · rw [decide_eq_false h2, decide_eq_true (by omega)]
      rfl
theorem outB_iff {one two : Str} : outB one two = true ↔ rankI two < rankI one ∨ (rankI two = rankI one ∧ strLt one two = true) := by
  rw [outB_gen, Bool.or_eq_true, Bool.and_eq_true, decide_eq_true_eq, decide_eq_true_eq]
def isTp : Tr → Prop
  | .nil => True
  | .node k _ x y => isTp x ∧ isTp y ∧ (∀ u ∈ x.rows, strLt u.1 k = true ∧ outB k u.1 = true) ∧ ∀ u ∈ y.rows, strLt k u.1 = true ∧ outB k u.1 = true
theorem top_of {rows : Tab} {i : Nat} (hi : i < rows.length) (h1 : ∀ j, j < i → rankI (rowAt rows j).1 < rankI (rowAt rows i).1) (h2 : ∀ j, i < j → j < rows.length → rankI (rowAt rows j).1 ≤ rankI (rowAt rows i).1) : topN rows = i := by
  have aux : ∀ n, n ≤ rows.length → (0 < n → (List.range n).foldl (fun b k => if rankI (rowAt rows b).1 < rankI (rowAt rows k).1 then k else b) 0 < n) ∧ (i < n → (List.range n).foldl (fun b k => if rankI (rowAt rows b).1 < rankI (rowAt rows k).1 then k else b) 0 = i) := by
    intro n
    induction n with
    | zero => exact fun _ => ⟨fun z => absurd z (Nat.not_lt_zero _), fun z => absurd z (Nat.not_lt_zero _)⟩
    | succ n ih =>
      intro hn
      obtain ⟨a1, a2⟩ := ih (by omega)
      rw [List.range_succ, List.foldl_append, List.foldl_cons, List.foldl_nil]
      refine ⟨fun _ => ?_, fun hin => ?_⟩
      · split
        · omega
        · by_cases z : 0 < n
          · have := a1 z; omega
          · have : n = 0 := by omega
            subst this
            show (0 : Nat) < 1
            omega
      · by_cases z : i < n
        · rw [a2 z, if_neg]
          have := h2 n z (by omega)
          omega
        · have en : n = i := by omega
          subst en
          by_cases z0 : n = 0
          · subst z0
            show (if rankI (rowAt rows 0).1 < rankI (rowAt rows 0).1 then 0 else 0) = 0
            split <;> rfl
          · rw [if_pos]
            exact h1 _ (a1 (by omega))
  exact (aux rows.length (Nat.le_refl _)).2 hi
theorem rowAt_mem {rows : Tab} {i : Nat} (h : i < rows.length) : rowAt rows i ∈ rows := List.mem_of_getElem? (rowAt_get h)
theorem rowAt_app {a c : Tab} {p : Str × List Int} {j : Nat} : rowAt (a ++ p :: c) j = if j < a.length then rowAt a j else if j = a.length then p else rowAt c (j - a.length - 1) := by
  unfold rowAt
  rw [List.getD_eq_getElem?_getD, List.getD_eq_getElem?_getD, List.getD_eq_getElem?_getD]
  split
  · rw [List.getElem?_append_left (by assumption)]
  · rw [List.getElem?_append_right (by omega)]
    split
    · rename_i h; rw [h, Nat.sub_self]; rfl
    · have : j - a.length = (j - a.length - 1) + 1 := by omega
      rw [this]
      rfl
theorem tp_tree : ∀ {t : Tr}, isTp t → treeT t.rows = t
  | .nil, _ => rfl
  | .node k r x y, h => by
    have hx := tp_tree h.1
    have hy := tp_tree h.2.1
    have e : (Tr.node k r x y).rows = x.rows ++ (k, r) :: y.rows := rfl
    have ne : x.rows ++ (k, r) :: y.rows ≠ [] := by simp
    have ht : topN (x.rows ++ (k, r) :: y.rows) = x.rows.length := by
      refine top_of (by rw [List.length_append, List.length_cons]; omega) (fun j hj => ?_) (fun j hj hl => ?_)
      · rw [rowAt_app, if_pos hj, rowAt_app, if_neg (by omega), if_pos rfl]
        obtain ⟨q1, q2⟩ := h.2.2.1 _ (rowAt_mem hj)
        rw [outB_iff] at q2
        rcases q2 with q2 | ⟨_, q2⟩
        · exact q2
        · rw [strLt_asym q1] at q2; cases q2
      · rw [List.length_append, List.length_cons] at hl
        rw [rowAt_app, if_neg (by omega), if_neg (by omega), rowAt_app, if_neg (by omega), if_pos rfl]
        obtain ⟨q1, q2⟩ := h.2.2.2 _ (rowAt_mem (rows := y.rows) (i := j - x.rows.length - 1) (by omega))
        rw [outB_iff] at q2
        rcases q2 with q2 | ⟨q2, _⟩
        · exact Int.le_of_lt q2
        · exact Int.le_of_eq q2
    rw [e, treeT_node ne, ht]
    have er : rowAt (x.rows ++ (k, r) :: y.rows) x.rows.length = (k, r) := by rw [rowAt_app, if_neg (by omega), if_pos rfl]
    rw [er, List.take_left, show x.rows.length + 1 = (x.rows ++ [(k, r)]).length by rw [List.length_append]; rfl, show x.rows ++ (k, r) :: y.rows = (x.rows ++ [(k, r)]) ++ y.rows by rw [List.append_assoc]; rfl, List.drop_left, hx, hy]
end DL
namespace DL
open PySem PySem.Spec PyProof.Rows L2
def PA.tr : PA → Tr
  | .un _ none => .nil
  | .un _ (some t) => t
  | .op _ _ k r x y => .node k r x.tr y.tr
def PA.strip : PA → PA
  | .un l _ => .un l none
  | .op l _ k r x y => .op l none k r x.strip y.strip
def wfA (b m : Int) : PA → Prop
  | .un l none => l = link0 b m
  | .un l (some t) => l = linkT b m t ∧ okTr t
  | .op l t k r x y => l = linkOf b m k r x.l y.l ∧ isKey k ∧ isRow r ∧ wfA b m x ∧ wfA b m y ∧ (t = none ∨ t = some (.node k r x.tr y.tr))
theorem wfA.l {b m : Int} : ∀ {pa : PA}, wfA b m pa → pa.l = linkT b m pa.tr ∧ okTr pa.tr
  | .un l none, h => ⟨h, True.intro⟩
  | .un l (some t), h => h
  | .op l _ k r x y, h => by
    obtain ⟨x1, x2⟩ := h.2.2.2.1.l
    obtain ⟨y1, y2⟩ := h.2.2.2.2.1.l
    refine ⟨?_, h.2.1, h.2.2.1, x2, y2⟩
    show l = linkOf b m k r (linkT b m x.tr) (linkT b m y.tr)
    rw [h.1, x1, y1]
theorem wfA.nn {b m : Int} (hr : isRule b m) {pa : PA} (h : wfA b m pa) : nnL pa.l := by
  obtain ⟨a, c⟩ := h.l
  rw [a]
  exact linkT_nn hr c
structure Sim2 {α : Type} (b m : Int) (fk fg : SrcS → Except Rf (α × SrcS)) (ak ag : α) (w : List D) : Prop where
  kn : ∀ es, fk (.kn es) = .ok (ak, .kn (es ++ w))
  gv : ∀ (cs : List D) (k : Nat) (post : List D), cs.drop k = w ++ post → fg (.gv cs k) = .ok (ag, .gv cs (k + w.length))
  bad : ∀ (cs : List D) (k : Nat) (p : List D) (e : D) (w' tail : List D) (wd : Str), w = p ++ e :: w' → cs.drop k = p ++ tail → refuW b m e tail = some wd → fg (.gv cs k) = .error ⟨wd, ((k + p.length : Nat) : Int)⟩
  en : isEnL w
theorem Sim2.pure {α : Type} {b m : Int} (a a' : α) : Sim2 b m (fun st => .ok (a, st)) (fun st => .ok (a', st)) a a' [] :=
  ⟨fun es => by rw [List.append_nil], fun cs k post _ => rfl, fun cs k p e w' tail wd h => (by cases p <;> cases h), fun _ z => nomatch z⟩
theorem Sim2.bnd {α β : Type} {b m : Int} {fk fg : SrcS → Except Rf (α × SrcS)} {gk gg : α → SrcS → Except Rf (β × SrcS)} {a a' : α} {c c' : β} {w v : List D} (h : Sim2 b m fk fg a a' w) (g : Sim2 b m (gk a) (gg a') c c' v) : Sim2 b m (fun st => DL.bnd (fk st) gk) (fun st => DL.bnd (fg st) gg) c c' (w ++ v) := by
  refine ⟨fun es => ?_, fun cs k post hd => ?_, fun cs k p e w' tail wd hw hd hr => ?_, h.en.app g.en⟩
  · show DL.bnd (fk (.kn es)) gk = _
    rw [h.kn]
    show gk a (.kn (es ++ w)) = _
    rw [g.kn, List.append_assoc]
  · show DL.bnd (fg (.gv cs k)) gg = _
    rw [List.append_assoc] at hd
    rw [h.gv cs k _ hd]
    show gg a' (.gv cs (k + w.length)) = _
    rw [g.gv cs _ post (drop_more hd), List.length_append, Nat.add_assoc]
  · show DL.bnd (fg (.gv cs k)) gg = _
    rcases List.append_eq_append_iff.mp hw with ⟨p2, e1, e2⟩ | ⟨w2, e1, e2⟩
    · subst e1
      rw [List.append_assoc] at hd
      rw [h.gv cs k _ hd]
      show gg a' (.gv cs (k + w.length)) = _
      rw [g.bad cs _ p2 e w' tail wd e2 (drop_more hd) hr, List.length_append, Nat.add_assoc]
    · cases w2 with
      | nil =>
        rw [List.append_nil] at e1
        subst e1
        rw [h.gv cs k _ hd]
        show gg a' (.gv cs (k + w.length)) = _
        rw [g.bad cs _ [] e w' tail wd e2.symm (drop_more hd) hr]
        rfl
      | cons z w2 =>
        rw [List.cons_append] at e2
        injection e2 with e3 e4
        subst e3
        rw [h.bad cs k p e w2 tail wd e1 hd hr]
        rfl
theorem Sim2.skip {α β : Type} {b m : Int} {fk fg : SrcS → Except Rf (α × SrcS)} {a a' : α} {w : List D} (h : Sim2 b m fk fg a a' w) {F : α → β} {F' : α → β} : Sim2 b m (fun st => DL.bnd (fk st) fun x st' => .ok (F x, st')) (fun st => DL.bnd (fg st) fun x st' => .ok (F' x, st')) (F a) (F' a') w := by
  have := h.bnd (gk := fun x st' => .ok (F x, st')) (gg := fun x st' => .ok (F' x, st')) (Sim2.pure (F a) (F' a'))
  rw [List.append_nil] at this
  exact this
def stripO (o : OpA) : OpA := (o.1, o.2.1, o.2.2.1.strip, o.2.2.2.strip)
structure OpK (b m : Int) (pa : PA) (o : OpA) (w : List D) : Prop where
  tr : pa.tr = .node o.1 o.2.1 o.2.2.1.tr o.2.2.2.tr
  key : isKey o.1
  row : isRow o.2.1
  x : wfA b m o.2.2.1
  y : wfA b m o.2.2.2
  opd : wfA b m (opd pa o)
  sz : o.2.2.1.sz + o.2.2.2.sz + 1 ≤ pa.sz
  sim : Sim2 b m (fun st => opA b m st pa) (fun st => opA b m st pa.strip) o (stripO o) w
abbrev getR (rows : Tab) (key : Str) : Option (List Int) := (rows.find? fun r => decide (r.1 = key)).map (·.2)
def ltR (rows : Tab) (key : Str) : Tab := rows.filter fun r => strLt r.1 key
def gtR (rows : Tab) (key : Str) : Tab := rows.filter fun r => strLt key r.1
structure SplK (b m : Int) (key : Str) (pa : PA) (a : SplR) : Prop where
  x : wfA b m a.1
  y : wfA b m a.2.2
  tx : isTp a.1.tr
  ty : isTp a.2.2.tr
  rx : a.1.tr.rows = ltR pa.tr.rows key
  ry : a.2.2.tr.rows = gtR pa.tr.rows key
  r : a.2.1 = getR pa.tr.rows key
section
variable {b m : Int} (hr : isRule b m)
include hr
structure ParK (b m : Int) (rows : Tab) (a : PA) : Prop where
  wf : wfA b m a
  tp : isTp a.tr
  rows : a.tr.rows = rows
end
theorem ParK.link {b m : Int} {rows : Tab} {a : PA} (h : ParK b m rows a) : a.l = linkT b m (treeT rows) := by
  rw [h.wf.l.1, ← h.rows, tp_tree h.tp]
end DL
namespace DL
open PySem PySem.Spec PyProof.Rows L2
def knA (b m : Int) (t : Tr) : PA := .un (linkT b m t) (some t)
def gvA (l : Link) : PA := .un l none
def knW {α : Type} (r : Except Rf (α × SrcS)) : List D := match r with
  | .ok (_, .kn es) => es
  | _ => []
def certC (b m : Int) (n : Nat) (rows : Tab) (c : Ch) : List D := knW (mChg b m n (.kn []) (knA b m (treeT rows)) c)
theorem Sim2.len {α : Type} {b m : Int} {fk fg : SrcS → Except Rf (α × SrcS)} {a a' : α} {w : List D} {U V : Nat} (s : Sim2 b m fk fg a a' w) (h : ∀ st', fk (.kn []) = .ok (a, st') → Aft (.kn []) st' U V) : w.length ≤ U := by
  have := h _ (s.kn [])
  have h2 : ([] ++ w).length + V ≤ ([] : List D).length + U := this.2
  rw [List.nil_append] at h2
  have h3 : ([] : List D).length = 0 := rfl
  omega
theorem Sim2.knW {α : Type} {b m : Int} {fk fg : SrcS → Except Rf (α × SrcS)} {a a' : α} {w : List D} (s : Sim2 b m fk fg a a' w) : DL.knW (fk (.kn [])) = w := by
  rw [s.kn []]
  rfl
structure ChgS (b m : Int) (n : Nat) (rows : Tab) (c : Ch) (a : PA) : Prop where
  sim : Sim2 b m (fun st => mChg b m n st (knA b m (treeT rows)) c) (fun st => mChg b m n st (gvA (linkT b m (treeT rows))) c) a a.strip (certC b m n rows c)
  par : ParK b m (chg rows c) a
  len : (certC b m n rows c).length ≤ rows.length
end DL
namespace DL
open PySem PySem.Spec PyProof.Rows L2
def jnM (lo hi : Str) (o : OpA) : Option (List Int) → List D
  | none => []
  | some r => if inB lo hi (o.1, o.2.1) then [.tup [.str o.1, rowD o.2.1, rowD r]] else []
def mJoin (b m : Int) : Nat → SrcS → PA → PA → Str → Str → Except Rf (List D × SrcS)
  | 0, st, _, _, _, _ => .ok ([], st)
  | f + 1, st, one, two, lo, hi => if one.l.n = 0 ∨ two.l.n = 0 then .ok ([], st) else bnd (opA b m st one) fun o st1 => bnd (mSplit b m (f + 1) st1 two o.1) fun q st2 =>
    bnd (if strLt lo o.1 then mJoin b m f st2 o.2.2.1 q.1 lo hi else .ok ([], st2)) fun a st3 =>
    bnd (if strLt o.1 hi then mJoin b m f st3 o.2.2.2 q.2.2 lo hi else .ok ([], st3)) fun d st4 => .ok (a ++ jnM lo hi o q.2.1 ++ d, st4)
def mAll (b m : Int) : Nat → SrcS → PA → Except Rf (Tab × SrcS)
  | 0, st, _ => .ok ([], st)
  | f + 1, st, pa => if pa.l.n = 0 then .ok ([], st) else bnd (opA b m st pa) fun o st1 => bnd (mAll b m f st1 o.2.2.1) fun a st2 => bnd (mAll b m f st2 o.2.2.2) fun d st3 => .ok (a ++ [(o.1, o.2.1)] ++ d, st3)
def difM (o : OpA) (r : Option (List Int)) : List D := if eqD (rowO r) (rowD o.2.1) then [] else [.tup [.str o.1, rowD o.2.1, rowO r]]
abbrev DifR := List D × List (PA × PA)
def mDiff (b m : Int) : Nat → SrcS → PA → PA → Except Rf (DifR × SrcS)
  | 0, st, _, _ => .ok (([], []), st)
  | f + 1, st, one, two => if eqD (linkD one.l) (linkD two.l) then .ok (([], [(one, two)]), st)
    else if one.l.n = 0 then bnd (mAll b m (f + 1) st two) fun a st1 => .ok ((a.map fun r => .tup [.str r.1, .non, rowD r.2], []), st1)
    else if two.l.n = 0 then bnd (mAll b m (f + 1) st one) fun a st1 => .ok ((a.map fun r => .tup [.str r.1, rowD r.2, .non], []), st1)
    else bnd (opA b m st one) fun o st1 => bnd (mSplit b m (f + 1) st1 two o.1) fun q st2 =>
      bnd (mDiff b m f st2 o.2.2.1 q.1) fun a st3 => bnd (mDiff b m f st3 o.2.2.2 q.2.2) fun d st4 => .ok ((a.1 ++ difM o q.2.1 ++ d.1, a.2 ++ d.2), st4)
structure TwoOk (st st' : SrcS) (U : Nat) (Z : Nat) (n : Nat) : Prop where
  aft : Aft st st' U 0
  len : n + rem st' ≤ Z
def SkAt (c : Cs) (b m : Int) (S : Sto) : List (PA × PA) → List W → List Nat → Prop
  | [], ws, fs => ws = [] ∧ fs = []
  | (a, d) :: sk, ws, fs => ∃ pa fa pd fd ws' fr, ws = .tp [.hd pa, .hd pd] :: ws' ∧ fs = fa ++ (fd ++ fr) ∧ At c b m S a pa fa ∧ At c b m S d pd fd ∧ SkAt c b m S sk ws' fr
theorem SkAt.lt {c : Cs} {b m : Int} {S : Sto} : ∀ {sk : List (PA × PA)} {ws : List W} {fs : List Nat}, SkAt c b m S sk ws fs → ∀ i ∈ fs, i < S.length
  | [], ws, fs, h, i, hi => by rw [h.2] at hi; cases hi
  | (a, d) :: sk, ws, fs, h, i, hi => by
    obtain ⟨pa, fa, pd, fd, ws', fr, rfl, rfl, h1, h2, h3⟩ := h
    rcases List.mem_append.mp hi with z | z
    · exact h1.lt i z
    rcases List.mem_append.mp z with z | z
    · exact h2.lt i z
    · exact h3.lt i z
theorem SkAt.len {c : Cs} {b m : Int} {S : Sto} : ∀ {sk : List (PA × PA)} {ws : List W} {fs : List Nat}, SkAt c b m S sk ws fs → ws.length = sk.length
  | [], ws, fs, h => by rw [h.1]; rfl
  | (a, d) :: sk, ws, fs, h => by
    obtain ⟨pa, fa, pd, fd, ws', fr, rfl, rfl, h1, h2, h3⟩ := h
    rw [List.length_cons, List.length_cons, h3.len]
theorem SkAt.ext {c : Cs} {b m : Int} {S S' : Sto} {ex : List Nat} (x : Ext ex S S') : ∀ {sk : List (PA × PA)} {ws : List W} {fs : List Nat}, SkAt c b m S sk ws fs → (∀ i ∈ fs, i ∉ ex) → SkAt c b m S' sk ws fs
  | [], ws, fs, h, _ => h
  | (a, d) :: sk, ws, fs, h, n => by
    obtain ⟨pa, fa, pd, fd, ws', fr, rfl, rfl, h1, h2, h3⟩ := h
    exact ⟨pa, fa, pd, fd, ws', fr, rfl, rfl, h1.ext x fun i hi => n i (by simp [hi]), h2.ext x fun i hi => n i (by simp [hi]), h3.ext x fun i hi => n i (by simp [hi])⟩
theorem SkAt.app {c : Cs} {b m : Int} {S : Sto} {sk' : List (PA × PA)} {ws' : List W} {fs' : List Nat} (g : SkAt c b m S sk' ws' fs') : ∀ {sk : List (PA × PA)} {ws : List W} {fs : List Nat}, SkAt c b m S sk ws fs → SkAt c b m S (sk ++ sk') (ws ++ ws') (fs ++ fs')
  | [], ws, fs, h => by rw [h.1, h.2]; exact g
  | (a, d) :: sk, ws, fs, h => by
    obtain ⟨pa, fa, pd, fd, ws2, fr, rfl, rfl, h1, h2, h3⟩ := h
    exact ⟨pa, fa, pd, fd, ws2 ++ ws', fr ++ fs', rfl, by simp [List.append_assoc], h1, h2, SkAt.app g h3⟩
end DL
namespace DL
open PySem PySem.Spec PyProof.Rows L2
def jnF (u : Tab) (lo hi : Str) (t : Tab) : List D := (t.filter (jnB u lo hi)).map (jnR u)
section
variable {b m : Int} (hr : isRule b m)
include hr
end
end DL
namespace DL
open PySem PySem.Spec PyProof.Rows L2
def jnC (b m : Int) (n : Nat) (t u : Tab) (lo hi : Str) : List D := knW (mJoin b m n (.kn []) (knA b m (treeT t)) (knA b m (treeT u)) lo hi)
structure JnS (b m : Int) (n : Nat) (t u : Tab) (lo hi : Str) : Prop where
  sim : Sim2 b m (fun st => mJoin b m n st (knA b m (treeT t)) (knA b m (treeT u)) lo hi) (fun st => mJoin b m n st (gvA (linkT b m (treeT t))) (gvA (linkT b m (treeT u))) lo hi) (jnF u lo hi t) (jnF u lo hi t) (jnC b m n t u lo hi)
  len : (jnC b m n t u lo hi).length ≤ t.length + u.length
end DL
namespace DL
open PySem PySem.Spec PyProof.Rows L2
def difF (t u : Tab) (zs : List Str) : List D := (zs.filter (difB t u)).map (difR t u)
def stripD (a : DifR) : DifR := (a.1, a.2.map fun p => (p.1.strip, p.2.strip))
structure DifK (b m : Int) (t u : Tab) (a : DifR) (zs : List Str) : Prop where
  keys : isKeys t u zs
  eq : (∀ p ∈ a.2, p.1.tr.rows = p.2.tr.rows) → a.1 = difF t u zs
  sk : ∀ p ∈ a.2, wfA b m p.1 ∧ wfA b m p.2 ∧ p.1.l = p.2.l
  sz : ∀ p ∈ a.2, p.1.tr.size ≤ t.length
section
variable {b m : Int} (hr : isRule b m)
include hr
end
end DL
namespace DL
open PySem PySem.Spec PyProof.Rows L2
def isCl (b m : Int) (d : D) : Prop := ∃ k r x y k' r' x' y', d = .tup [entD k r x y, entD k' r' x' y'] ∧ isKey k ∧ isRow r ∧ isKey k' ∧ isRow r' ∧ eqD (entD k r x y) (entD k' r' x' y') = false ∧ dig b m (nodeD k r x y) = dig b m (nodeD k' r' x' y')
theorem isCl.tup {b m : Int} {d : D} (h : isCl b m d) : ∃ e f, d = .tup [e, f] := by obtain ⟨_, _, _, _, _, _, _, _, e, _⟩ := h; exact ⟨_, _, e⟩
def difRun (b m : Int) (n : Nat) (t u : Tab) : Except Rf (DifR × SrcS) := mDiff b m n (.kn []) (knA b m (treeT t)) (knA b m (treeT u))
def difC (b m : Int) (n : Nat) (t u : Tab) : List D := knW (difRun b m n t u)
def difA (b m : Int) (n : Nat) (t u : Tab) : DifR := match difRun b m n t u with
  | .ok (a, _) => a
  | .error _ => ([], [])
structure DifS (b m : Int) (n : Nat) (t u : Tab) (zs : List Str) : Prop where
  sim : Sim2 b m (fun st => mDiff b m n st (knA b m (treeT t)) (knA b m (treeT u))) (fun st => mDiff b m n st (gvA (linkT b m (treeT t))) (gvA (linkT b m (treeT u)))) (difA b m n t u) (stripD (difA b m n t u)) (difC b m n t u)
  dif : DifK b m t u (difA b m n t u) zs
  len : (difC b m n t u).length ≤ t.length + u.length
end DL
namespace DL
open PySem PySem.Spec PyProof.Rows L2
section
variable {K : PySem.W.Frag} {F : Fx} {B : Hp} {m : List Addr} {S : Sto} {H : Hp}
end
section
variable {X : Cx} {Ξ : Xt} {a b : Expr} {da db : DE} {pos : Pos} {k : Nat}
end
end DL
namespace DL
open PySem PySem.Spec PyProof.Rows L2
def lnode (l : D) (e : D) (x y : W) (b : Bool) : OD := .lst [.fz l, .fz e, x, y, .fz (.bl b)]
def LAtT (b m : Int) (S : Sto) : Tr → Nat → List Nat → Prop
  | .nil, p, fp => fp = [p] ∧ S[p]? = some (lnode (linkD (link0 b m)) .non (.fz .non) (.fz .non) true)
  | .node k r x y, p, fp => ∃ px py fx fy, fp = p :: (fx ++ fy) ∧ S[p]? = some (lnode (linkD (linkOf b m k r (linkT b m x) (linkT b m y))) (entT b m k r x y) (.hd px) (.hd py) false) ∧ LAtT b m S x px fx ∧ LAtT b m S y py fy
def LAt (b m : Int) (S : Sto) : PA → Nat → List Nat → Prop
  | .un l none, p, fp => fp = [p] ∧ S[p]? = some (lnode (linkD l) .non (.fz .non) (.fz .non) true)
  | .un _ (some t), p, fp => LAtT b m S t p fp
  | .op l _ k r x y, p, fp => ∃ px py fx fy, fp = p :: (fx ++ fy) ∧ S[p]? = some (lnode (linkD l) (entD k r x.l y.l) (.hd px) (.hd py) true) ∧ LAt b m S x px fx ∧ LAt b m S y py fy
theorem LAtT.lt {b m : Int} {S : Sto} : ∀ {t : Tr} {p : Nat} {fp : List Nat}, LAtT b m S t p fp → ∀ i ∈ fp, i < S.length
  | .nil, p, fp, h, i, hi => by
    rw [h.1, List.mem_singleton] at hi
    rw [hi]
    exact (List.getElem?_eq_some_iff.mp h.2).1
  | .node k r x y, p, fp, h, i, hi => by
    obtain ⟨px, py, fx, fy, e, h1, h2, h3⟩ := h
    rw [e] at hi
    rcases List.mem_cons.mp hi with z | hi
    · rw [z]; exact (List.getElem?_eq_some_iff.mp h1).1
    rcases List.mem_append.mp hi with z | z
    · exact h2.lt i z
    · exact h3.lt i z
theorem LAtT.ext {b m : Int} {S S' : Sto} {ex : List Nat} (x : Ext ex S S') : ∀ {t : Tr} {p : Nat} {fp : List Nat}, LAtT b m S t p fp → (∀ i ∈ fp, i ∉ ex) → LAtT b m S' t p fp
  | .nil, p, fp, h, n => ⟨h.1, x.get h.2 (n p (by rw [h.1]; exact List.mem_cons_self))⟩
  | .node k r u v, p, fp, h, n => by
    obtain ⟨px, py, fx, fy, e, h1, h2, h3⟩ := h
    subst e
    exact ⟨px, py, fx, fy, rfl, x.get h1 (n p (by simp)), h2.ext x fun i hi => n i (by simp [hi]), h3.ext x fun i hi => n i (by simp [hi])⟩
theorem LAt.lt {b m : Int} {S : Sto} : ∀ {pa : PA} {p : Nat} {fp : List Nat}, LAt b m S pa p fp → ∀ i ∈ fp, i < S.length
  | .un l none, p, fp, h, i, hi => by
    rw [h.1, List.mem_singleton] at hi
    rw [hi]
    exact (List.getElem?_eq_some_iff.mp h.2).1
  | .un l (some t), p, fp, h, i, hi => LAtT.lt h i hi
  | .op l t k r x y, p, fp, h, i, hi => by
    obtain ⟨px, py, fx, fy, e, h1, h2, h3⟩ := h
    rw [e] at hi
    rcases List.mem_cons.mp hi with z | hi
    · rw [z]; exact (List.getElem?_eq_some_iff.mp h1).1
    rcases List.mem_append.mp hi with z | z
    · exact h2.lt i z
    · exact h3.lt i z
theorem LAt.ext {b m : Int} {S S' : Sto} {ex : List Nat} (x : Ext ex S S') : ∀ {pa : PA} {p : Nat} {fp : List Nat}, LAt b m S pa p fp → (∀ i ∈ fp, i ∉ ex) → LAt b m S' pa p fp
  | .un l none, p, fp, h, n => ⟨h.1, x.get h.2 (n p (by rw [h.1]; exact List.mem_cons_self))⟩
  | .un l (some t), p, fp, h, n => LAtT.ext x h n
  | .op l t k r u v, p, fp, h, n => by
    obtain ⟨px, py, fx, fy, e, h1, h2, h3⟩ := h
    subst e
    exact ⟨px, py, fx, fy, rfl, x.get h1 (n p (by simp)), h2.ext x fun i hi => n i (by simp [hi]), h3.ext x fun i hi => n i (by simp [hi])⟩
theorem LAt.app {b m : Int} {S T : Sto} {pa : PA} {p : Nat} {fp : List Nat} (h : LAt b m S pa p fp) : LAt b m (S ++ T) pa p fp := h.ext (Ext.app (ex := [])) (fun _ _ z => nomatch z)
theorem LAtT.app {b m : Int} {S T : Sto} {t : Tr} {p : Nat} {fp : List Nat} (h : LAtT b m S t p fp) : LAtT b m (S ++ T) t p fp := h.ext (Ext.app (ex := [])) (fun _ _ z => nomatch z)
theorem LAt.top {b m : Int} {S : Sto} {pa : PA} {p : Nat} {fp : List Nat} (wf : wfA b m pa) (h : LAt b m S pa p fp) : (pa.tr = .nil ∧ S[p]? = some (lnode (linkD pa.l) .non (.fz .non) (.fz .non) true)) ∨
    ∃ k r x y px py bl, pa.tr = .node k r x y ∧ S[p]? = some (lnode (linkD pa.l) (entT b m k r x y) (.hd px) (.hd py) bl) := by
  cases pa with
  | un l t =>
    cases t with
    | none => exact .inl ⟨rfl, h.2⟩
    | some t =>
      have e := wf.1
      cases t with
      | nil => exact .inl ⟨rfl, by show _ = some (lnode (linkD l) _ _ _ _); rw [e]; exact h.2⟩
      | node k r x y =>
        obtain ⟨px, py, fx, fy, _, h1, _⟩ := h
        exact .inr ⟨k, r, x, y, px, py, false, rfl, by show _ = some (lnode (linkD l) _ _ _ _); rw [e]; exact h1⟩
  | op l t k r x y =>
    obtain ⟨px, py, fx, fy, _, h1, _⟩ := h
    refine .inr ⟨k, r, x.tr, y.tr, px, py, true, rfl, ?_⟩
    have e1 := wf.2.2.2.1.l.1
    have e2 := wf.2.2.2.2.1.l.1
    show _ = some (lnode (linkD l) (entD k r (linkT b m x.tr) (linkT b m y.tr)) _ _ _)
    rw [← e1, ← e2]
    exact h1
theorem LAt.link {b m : Int} {S : Sto} {pa : PA} {p : Nat} {fp : List Nat} (wf : wfA b m pa) (h : LAt b m S pa p fp) : ∃ tl, S[p]? = some (.lst (.fz (linkD pa.l) :: tl)) := by
  rcases h.top wf with ⟨_, e⟩ | ⟨_, _, _, _, _, _, _, _, e⟩
  · exact ⟨_, e⟩
  · exact ⟨_, e⟩
def EndL {α : Type} (S : Sto) (e : Nat) (fp : List Nat) (R : Rep α) (r : Except Rf (α × SrcS)) (Kp : WK) : Prop := match r with
  | .ok (a, .kn es') => ∀ S' w gs, S'[e]? = some (.lst (es'.map W.fz)) → Ext (e :: fp) S S' → R S' a w gs → Fresh S fp gs → Kp w S'
  | _ => True
theorem Ext.transL {e : Nat} {fp fp1 : List Nat} {S S1 S2 : Sto} (a : Ext (e :: fp) S S1) (d : Ext (e :: fp1) S1 S2) (f : ∀ i ∈ fp1, i ∈ fp ∨ S.length ≤ i) : Ext (e :: fp) S S2 := by
  refine a.trans d (fun _ h => h) fun i hi hl => ?_
  rcases List.mem_cons.mp hi with z | hi
  · rw [z]; exact List.mem_cons_self
  rcases f i hi with z | z
  · exact List.mem_cons_of_mem _ z
  · omega
theorem EndL.call {α β : Type} {S S1 : Sto} {e : Nat} {fp fp1 : List Nat} {R' : Rep β} {R : Rep α} {r : Except Rf (α × SrcS)} {k : α → SrcS → Except Rf (β × SrcS)} {Kp Kq : WK} (h : EndL S e fp R' (bnd r k) Kp) (x : Ext (e :: fp) S S1) (f : ∀ i ∈ fp1, i ∈ fp ∨ S.length ≤ i)
    (g : ∀ a es' S' w gs, r = .ok (a, .kn es') → S'[e]? = some (.lst (es'.map W.fz)) → Ext (e :: fp1) S1 S' → Ext (e :: fp) S S' → R S' a w gs → Fresh S1 fp1 gs → EndL S e fp R' (k a (.kn es')) Kp → Kq w S') : EndL S1 e fp1 R r Kq := by
  cases r with
  | error rf => exact True.intro
  | ok v =>
    obtain ⟨a, st'⟩ := v
    cases st' with
    | gv _ _ => exact True.intro
    | kn es' => exact fun S' w gs h1 h2 h3 h4 => g a es' S' w gs rfl h1 h2 (x.transL h2 f) h3 h4 h
structure WkL (S : Sto) (e : Nat) (b m : Int) (es : List D) (U : Nat) (fp : List Nat) : Prop where
  src : S[e]? = some (.lst (es.map W.fz))
  rule : isRule b m
  okp : es.length + U ≤ 900
  nd : fp.Nodup
  ne : e ∉ fp
theorem WkL.lt {S : Sto} {e : Nat} {b m : Int} {es : List D} {U : Nat} {fp : List Nat} (w : WkL S e b m es U fp) : e < S.length := (List.getElem?_eq_some_iff.mp w.src).1
theorem WkL.out {S : Sto} {e : Nat} {b m : Int} {es : List D} {U : Nat} {fp gs : List Nat} (w : WkL S e b m es U fp) (f : ∀ i ∈ gs, i ∈ fp ∨ S.length ≤ i) : e ∉ gs := fun z => by
  have := w.lt
  rcases f _ z with y | y
  · exact w.ne y
  · omega
theorem WkL.go {S S1 : Sto} {e : Nat} {b m : Int} {es es1 : List D} {U V Y : Nat} {fp gs : List Nat} (w : WkL S e b m es U fp) (src : S1[e]? = some (.lst (es1.map W.fz))) (a : Aft (.kn es) (.kn es1) U V) (l : Y ≤ V) (n : gs.Nodup) (f : ∀ i ∈ gs, i ∈ fp ∨ S.length ≤ i) : WkL S1 e b m es1 Y gs :=
  ⟨src, w.rule, by have := a.2; have := w.okp; omega, n, w.out f⟩
structure OpdL (b m : Int) (S S' : Sto) (e p : Nat) (fp : List Nat) (px py : Nat) (fx fy : List Nat) (pa : PA) (o : OpA) (es' : List D) : Prop where
  src : S'[e]? = some (.lst (es'.map W.fz))
  ext : Ext (e :: fp) S S'
  top : S'[p]? = some (lnode (linkD pa.l) (entD o.1 o.2.1 o.2.2.1.l o.2.2.2.l) (.hd px) (.hd py) true)
  x : LAt b m S' o.2.2.1 px fx
  y : LAt b m S' o.2.2.2 py fy
  fp : fp = p :: (fx ++ fy)
theorem OpdL.at {b m : Int} {S S' : Sto} {e p : Nat} {fp : List Nat} {px py : Nat} {fx fy : List Nat} {pa : PA} {o : OpA} {es' : List D} (h : OpdL b m S S' e p fp px py fx fy pa o es') : LAt b m S' (opd pa o) p fp :=
  ⟨px, py, fx, fy, h.fp, h.top, h.x, h.y⟩
theorem OpdL.sub {b m : Int} {S S' : Sto} {e p : Nat} {fp : List Nat} {px py : Nat} {fx fy : List Nat} {pa : PA} {o : OpA} {es' : List D} (h : OpdL b m S S' e p fp px py fx fy pa o es') (nd : fp.Nodup) : Fresh S fp (fx ++ fy) := by
  have e := h.fp
  rw [e] at nd
  exact ⟨(List.nodup_cons.mp nd).2, fun i hi => .inl (by rw [e]; exact List.mem_cons_of_mem _ hi)⟩
theorem LAt.emp {b m : Int} {S : Sto} : LAt b m (S ++ [lnode (linkD (link0 b m)) .non (.fz .non) (.fz .non) true]) (emp b m) S.length [S.length] := ⟨rfl, set_app1 rfl⟩
end DL
namespace DL
open PySem PySem.Spec PyProof.Rows L2
section
variable {X : Cx} {Ξ : Xt} {rest : List Stmt} {t : DS}
end
end DL
namespace DL
open PySem PySem.Spec PyProof.Rows L2
def mBat (b m : Int) (n : Nat) : SrcS → PA → List Ch → Except Rf (PA × SrcS)
  | st, pa, [] => .ok (pa, st)
  | st, pa, c :: cs => bnd (mChg b m n st pa c) fun p st' => mBat b m n st' p cs
def chgs (rows : Tab) : List Ch → Tab
  | [] => rows
  | c :: cs => chgs (chg rows c) cs
def batC (b m : Int) (n : Nat) (rows : Tab) (cs : List Ch) : List D := knW (mBat b m n (.kn []) (knA b m (treeT rows)) cs)
structure BatS (b m : Int) (n : Nat) (rows : Tab) (cs : List Ch) (a : PA) : Prop where
  sim : Sim2 b m (fun st => mBat b m n st (knA b m (treeT rows)) cs) (fun st => mBat b m n st (gvA (linkT b m (treeT rows))) cs) a a.strip (batC b m n rows cs)
  par : ParK b m (chgs rows cs) a
  len : (batC b m n rows cs).length ≤ rows.length
end DL
namespace DL
open PySem PySem.Spec PyProof.Rows L2
end DL
namespace DL
open PySem PySem.Spec PyProof.Rows L2
end DL
namespace DL
open PySem PySem.Spec PyProof.Rows L2
section
variable {X : Cx} {Ξ : Xt} {rest : List Stmt} {t : DS}
end
end DL
namespace DL
open PySem PySem.Spec PyProof.Rows L2

section
variable {P : Program} {w : World} {K : PySem.W.Frag} {T : Addr → Prop} {mg : Str → Option Value} {base : Heap}
end
section
variable {X : Cx} {Ξ : Xt} {o e value : Expr} {f : Str} {pos tpos : Pos} {de dv : DE} {dr : DR2} {op : Operator}
end
mutual
def noL : D → Bool
  | .lst _ => false
  | .obj _ _ => false
  | .scr _ => false
  | .tup ds => noLL ds
  | _ => true
def noLL : List D → Bool
  | [] => true
  | d :: ds => noL d && noLL ds
end
section
variable {K : PySem.W.Frag} {F : Fx} {B : Hp} {m : List Addr} {S : Sto} {H : Hp}
def OwnL (m : List Addr) (S : Sto) (a : Addr) : Prop := ∃ (n : Nat) (ds : List D), m[n]? = some a ∧ S[n]? = some (.lst (ds.map W.fz))
open Classical in
noncomputable def lessL (B : Hp) (m : List Addr) (S : Sto) : Hp := fun a => if OwnL m S a then none else B a
mutual
theorem Rp.lessL {B2 : Hp} (hB : ∀ a, OwnL m S a → ∃ vs, B2 a = some (.lst vs)) : ∀ {d : D} {v : V}, noL d = true → Rp K B2 d v → Rp K (DL.lessL B2 m S) d v
  | _, _, _, .non => .non
  | _, _, _, .bl => .bl
  | _, _, _, .int => .int
  | _, _, _, .str => .str
  | _, _, _, .ty => .ty
  | .tup ds, .ref a, h, .tup s r => by
    refine .tup ?_ (RpL.lessL hB h r)
    rcases s with s | s
    · left
      have na : ¬ OwnL m S a := fun z => by
        obtain ⟨vs, e⟩ := hB a z
        rcases s with s | ⟨o, s⟩
        · rw [e] at s; cases s
        · rw [e] at s; cases s
      rcases s with s | ⟨o, s⟩
      · exact .inl (by unfold DL.lessL; rw [if_neg na]; exact s)
      · exact .inr ⟨o, by unfold DL.lessL; rw [if_neg na]; exact s⟩
    · exact .inr s
  | .lst _, _, h, .lst _ _ => by cases h
  | .scr _, _, h, .scr _ => by cases h
  | .obj _ _, _, h, .obj _ _ => by cases h
theorem RpL.lessL {B2 : Hp} (hB : ∀ a, OwnL m S a → ∃ vs, B2 a = some (.lst vs)) : ∀ {ds : List D} {vs : List V}, noLL ds = true → RpL K B2 ds vs → RpL K (DL.lessL B2 m S) ds vs
  | [], _, _, .nil => .nil
  | d :: ds, _, h, .cons r t => by
    unfold noLL at h
    rw [Bool.and_eq_true] at h
    exact .cons (Rp.lessL hB h.1 r) (RpL.lessL hB h.2 t)
end
end
section
variable {X : Cx} {Ξ : Xt} {k j : Nat} {x : Str} {P : PSp} {p pos : Pos} {e : Expr} {es : List Expr} {da : DA}
end
structure AlIn (K : PySem.W.Frag) (x y : Str) : Prop where
  ex : ∃ f : Value, PySem.W.nsIn K mainGlobals x = some (some f) ∧ PySem.W.nsIn K mainGlobals y = some (some f)
theorem AlIn.df {K : PySem.W.Frag} {x y : Str} {h : Heap} {mg : Str → Option Value} (D : AlIn K x y) (X : K.In h) (G : h.Ns mainGlobals mg) : mg x = mg y := by
  obtain ⟨f, a, b⟩ := D.ex
  rw [PySem.W.mg_of X G a, PySem.W.mg_of X G b]
end DL
namespace DL
open PySem PySem.Spec PyProof.Rows L2
end DL
namespace DL
open PySem PySem.Spec PyProof.Rows L2
def verT (b m : Int) : List Tab → List Ver
  | [] => []
  | t :: r => histL b m (linkT b m (treeT t)) (r.map fun x => linkT b m (treeT x))
structure StA (C : Addr) (S : Sto) (s ht hv : Nat) (b m sec : Int) (ts : List Tab) : Prop where
  at_ : S[s]? = some (.ins C [("_rule", .fz (ruleD b m)), ("_secret", .fz (.int sec)), ("_tables", .hd ht), ("_versions", .hd hv)])
  tb : S[ht]? = some (.lst ((ts.map tabD).map W.fz))
  vr : S[hv]? = some (.lst (((verT b m ts).map verD).map W.fz))
  ne : ht ≠ hv
  rule : isRule b m
  tab : ∀ t ∈ ts, isTab t
  few : ts.length ≤ 20
  pos : 1 ≤ s ∧ 1 ≤ ht ∧ 1 ≤ hv
theorem StA.st {C : Addr} {S : Sto} {s ht hv : Nat} {b m sec : Int} {ts : List Tab} (h : StA C S s ht hv b m sec ts) : s ≠ ht ∧ s ≠ hv := by
  constructor
  · intro e
    have h1 := h.at_
    rw [e, h.tb] at h1
    cases h1
  · intro e
    have h1 := h.at_
    rw [e, h.vr] at h1
    cases h1
theorem StA.ext {C : Addr} {S S' : Sto} {s ht hv : Nat} {b m sec : Int} {ts : List Tab} {ex : List Nat} (h : StA C S s ht hv b m sec ts) (x : Ext ex S S') (n : ∀ i ∈ ex, i ≠ s ∧ i ≠ ht ∧ i ≠ hv) : StA C S' s ht hv b m sec ts :=
  ⟨x.get h.at_ fun z => (n s z).1 rfl, x.get h.tb fun z => (n ht z).2.1 rfl, x.get h.vr fun z => (n hv z).2.2 rfl, h.ne, h.rule, h.tab, h.few, h.pos⟩
theorem Ext.st {o o' : OD} {R : Sto} {ex : List Nat} (h : 0 ∈ ex) : Ext ex (o :: R) (o' :: R) := ⟨Nat.le_refl _, fun i hi hn => by
  cases i with
  | zero => exact absurd h hn
  | succ i => rfl⟩
theorem StA.go {C : Addr} {o o' : OD} {R : Sto} {s ht hv : Nat} {b m sec : Int} {ts : List Tab} (h : StA C (o :: R) s ht hv b m sec ts) : StA C (o' :: R) s ht hv b m sec ts := h.ext (Ext.st (ex := [0]) (by simp)) fun i hi => by
  rw [List.mem_singleton.mp hi]
  have := h.pos
  omega
end DL
namespace DL
open PySem PySem.Spec PyProof.Rows L2
structure MbA (C : Addr) (S : Sto) (s hk : Nat) (b m : Int) (cards : List (List Int)) (tk : List SV) : Prop where
  at_ : S[s]? = some (.ins C [("_rule", .fz (ruleD b m)), ("_cards", .fz (.lst (cards.map rowD))), ("_taken", .hd hk)])
  tk_ : S[hk]? = some (.lst ((tk.map sx).map W.fz))
  rule : isRule b m
  few : tk.length ≤ 100
  pos : 1 ≤ s ∧ 1 ≤ hk
theorem MbA.ne {C : Addr} {S : Sto} {s hk : Nat} {b m : Int} {cards : List (List Int)} {tk : List SV} (h : MbA C S s hk b m cards tk) : s ≠ hk := by
  intro e
  have h1 := h.at_
  rw [e, h.tk_] at h1
  cases h1
theorem MbA.ext {C : Addr} {S S' : Sto} {s hk : Nat} {b m : Int} {cards : List (List Int)} {tk : List SV} {ex : List Nat} (h : MbA C S s hk b m cards tk) (x : Ext ex S S') (n : ∀ i ∈ ex, i ≠ s ∧ i ≠ hk) : MbA C S' s hk b m cards tk :=
  ⟨x.get h.at_ fun z => (n s z).1 rfl, x.get h.tk_ fun z => (n hk z).2 rfl, h.rule, h.few, h.pos⟩
theorem MbA.go {C : Addr} {o o' : OD} {R : Sto} {s hk : Nat} {b m : Int} {cards : List (List Int)} {tk : List SV} (h : MbA C (o :: R) s hk b m cards tk) : MbA C (o' :: R) s hk b m cards tk := h.ext (Ext.st (ex := [0]) (by simp)) fun i hi => by
  rw [List.mem_singleton.mp hi]
  have := h.pos
  omega
end DL
namespace DL
open PySem PySem.Spec PyProof.Rows L2
end DL
namespace DL
open PySem PySem.Spec PyProof.Rows L2
structure NdL (l : List SV) : Prop where
  nd : (l.map (·.1.n)).Nodup
  le : l.length ≤ 100
end DL
namespace DL
open PySem PySem.Spec PyProof.Rows L2
def MbN (b m : Int) (v : Ver) (r d : D) : Prop := (∃ rf : Rf, r = refD rf ∧ d = .non) ∨ ∃ l : D, r = .tup [.str "head", l] ∧ d = .tup [.int (v.n + 1), l, .int (vdig b m v)]
theorem MbN.no {b m : Int} {v : Ver} {rf : Rf} : MbN b m v (refD rf) .non := .inl ⟨rf, rfl, rfl⟩
end DL
namespace DL
open PySem PySem.Spec PyProof.Rows L2
structure TwoS (C : Addr) (S : Sto) (hL s1 h1 v1 s2 h2 v2 : Nat) (b m : Int) (ts1 ts2 : List Tab) : Prop where
  a : StA C S s1 h1 v1 b m 77 ts1
  c : StA C S s2 h2 v2 b m 77 ts2
  l : S[hL]? = some (.lst [.hd s1, .hd s2])
  ne : ts1 ≠ [] ∧ ts2 ≠ []
  o : 1 ≤ s1 ∧ 1 ≤ h1 ∧ 1 ≤ v1 ∧ s1 < s2 ∧ h1 < s2 ∧ v1 < s2 ∧ s2 < h2 ∧ s2 < v2 ∧ s2 < hL ∧ h2 < hL ∧ v2 < hL
section
variable {C : Addr} {S S' : Sto} {hL s1 h1 v1 s2 h2 v2 : Nat} {b m : Int} {ts1 ts2 ts : List Tab} {ex : List Nat}
theorem TwoS.ext (T : TwoS C S hL s1 h1 v1 s2 h2 v2 b m ts1 ts2) (x : Ext ex S S') (n : ∀ i ∈ ex, i = 0 ∨ hL < i) : TwoS C S' hL s1 h1 v1 s2 h2 v2 b m ts1 ts2 := by
  have d := T.o
  exact ⟨T.a.ext x fun i hi => by have := n i hi; omega, T.c.ext x fun i hi => by have := n i hi; omega, x.get T.l fun hi => by have := n _ hi; omega, T.ne, d⟩
theorem TwoS.go {o o' : OD} {R : Sto} (T : TwoS C (o :: R) hL s1 h1 v1 s2 h2 v2 b m ts1 ts2) : TwoS C (o' :: R) hL s1 h1 v1 s2 h2 v2 b m ts1 ts2 := T.ext (Ext.st (ex := [0]) (by simp)) fun i hi => .inl (by simpa using hi)
theorem TwoS.le (T : TwoS C S hL s1 h1 v1 s2 h2 v2 b m ts1 ts2) : hL < S.length := (List.getElem?_eq_some_iff.mp T.l).1
end
end DL
namespace DL
open PySem PySem.Spec PyProof.Rows L2
structure OkN (l : List SV) : Prop where
  lo : ∀ x ∈ l, 0 ≤ x.1.n ∧ x.1.n < 20
  nd : (l.map (·.1.n)).Nodup
  le : l.length ≤ 20
structure TwoA (C : Addr) (S : Sto) (hB s1 h1 v1 s2 h2 v2 : Nat) (b m sec : Int) (ts1 ts2 : List Tab) : Prop where
  a : StA C S s1 h1 v1 b m sec ts1
  c : StA C S s2 h2 v2 b m sec ts2
  ne : ts1 ≠ [] ∧ ts2 ≠ []
  o : 1 ≤ s1 ∧ 1 ≤ h1 ∧ 1 ≤ v1 ∧ s1 < s2 ∧ h1 < s2 ∧ v1 < s2 ∧ s2 < h2 ∧ s2 < v2 ∧ s2 < hB ∧ h2 < hB ∧ v2 < hB ∧ hB ≤ S.length
section
variable {C : Addr} {S S' : Sto} {hB s1 h1 v1 s2 h2 v2 : Nat} {b m sec : Int} {ts1 ts2 ts : List Tab} {ex : List Nat}
theorem TwoA.ext (T : TwoA C S hB s1 h1 v1 s2 h2 v2 b m sec ts1 ts2) (x : Ext ex S S') (n : ∀ i ∈ ex, i = 0 ∨ hB ≤ i) : TwoA C S' hB s1 h1 v1 s2 h2 v2 b m sec ts1 ts2 := by
  have d := T.o
  have l := x.len
  exact ⟨T.a.ext x fun i hi => by have := n i hi; omega, T.c.ext x fun i hi => by have := n i hi; omega, T.ne, by omega⟩
theorem TwoA.go {o o' : OD} {R : Sto} (T : TwoA C (o :: R) hB s1 h1 v1 s2 h2 v2 b m sec ts1 ts2) : TwoA C (o' :: R) hB s1 h1 v1 s2 h2 v2 b m sec ts1 ts2 := T.ext (Ext.st (ex := [0]) (by simp)) fun i hi => .inl (by simpa using hi)
end
end DL
namespace DL
open PySem PySem.Spec PyProof.Rows L2
def spRef1 (C : Addr) : Sp := fun vs H Q _ => ∃ (a : Addr) (n : Int), vs = [.ref a, .int n] ∧ -20 ≤ n ∧ n ≤ 1000 ∧ H a = some (exo a C none) ∧
  ∀ q dx, H q = none → H dx = none → dx ≠ q → Q .non (upd (upd (upd H q (mwo q a)) dx (exd dx [("number", .int n)])) a (exo a C (some dx)))
structure RefN (P : Program) (w : World) (K : PySem.W.Frag) (mg : Str → Option Value) (base : Heap) (x : Str) (C : Addr) : Prop where
  oex : OexC K C
  ex : ∃ (fI : Addr) (fd : FuncData) (ps : List Str), PySem.W.findIn K (.ref C) "__init__" = some (some (.ref fI)) ∧ PySem.W.typeIn K (.ref fI) = some (.type "function") ∧ FnOk P w K mg base C8.CX0 1 fI fd ps (spRef1 C) ∧ Binds K fd ps []
  mgC : mg x = some (.ref C)
structure RefT (K : PySem.W.Frag) (mg : Str → Option Value) (x : Str) (C : Addr) : Prop where
  ex : PySem.W.excIn K C [Value.type "ValueError", Value.type "Exception", Value.type "BaseException", Value.type "object"] "ValueError.__new__" = true
  kC : PySem.W.keepIn K (.ref C) = true
  exC : PySem.W.subIn K (.ref C) (.type "BaseException") = some true
  tyC : PySem.W.typeIn K (.ref C) = some (.type "type")
  mgC : mg x = some (.ref C)
structure ExcX (K : PySem.W.Frag) (C : Addr) : Prop where
  is : ExcC K C
  cls : (PySem.W.clsIn K C).isSome = true
  xf : XfC K C
  one : PySem.W.exmOne K (.ref C) (.ref C) = some true
structure IsA (K : PySem.W.Frag) (mg : Str → Option Value) (y : Str) (C : Addr) (b : Bool) : Prop where
  ex : ∃ A, mg y = some (.ref A) ∧ PySem.W.kitOne K (.ref C) (.ref A) = some b
structure IsV (K : PySem.W.Frag) (mg : Str → Option Value) (C : Addr) : Prop where
  no : mg "ValueError" = none
  is : PySem.W.kitOne K (.ref C) (.type "ValueError") = some true
section
variable {X : Cx} {a C : Addr} {oe : Obj} {cls : Value} {d : Option Addr} {pn : List (Addr × Obj)} {n y : Str} {p p2 p3 pos : Pos} {b : Bool}
end
section
variable {X : Cx} {Ξ : Xt} {C : Addr} {x n f y1 y2 word w1 : Str} {i : Nat} {body : List Stmt} {ds : XWK → DS} {np pos pos' : Pos} {p1 p2 p3 p4 p5 p6 p7 p8 p9 a1 a2 a3 a4 b1 b2 b3 b4 c1 c2 c3 c4 d1 d2 d3 d4 : Pos} {j0 j1 x1 x2 : Nat}
end
end DL
namespace DL
open PySem PySem.Spec PyProof.Rows L2
theorem mg_same {mg : Str → Option Value} {x : Str} {C C' : Addr} (h : mg x = some (.ref C)) (g : mg x = some (.ref C')) : C' = C := by
  rw [h] at g
  cases g
  rfl
structure XcIn (K : PySem.W.Frag) (x : Str) : Prop where
  ex : ∃ C, PySem.W.nsIn K mainGlobals x = some (some (.ref C)) ∧ ExcX K C
theorem XcIn.df {K : PySem.W.Frag} {x : Str} {h : Heap} {mg : Str → Option Value} {C : Addr} (D : XcIn K x) (X : K.In h) (G : h.Ns mainGlobals mg) (m : mg x = some (.ref C)) : ExcX K C := by
  obtain ⟨C', a, e⟩ := D.ex
  obtain rfl := mg_same m (PySem.W.mg_of X G a)
  exact e
structure IaIn (K : PySem.W.Frag) (x y : Str) (b : Bool) : Prop where
  ex : ∃ C A, PySem.W.nsIn K mainGlobals x = some (some (.ref C)) ∧ PySem.W.nsIn K mainGlobals y = some (some (.ref A)) ∧ PySem.W.kitOne K (.ref C) (.ref A) = some b
theorem IaIn.df {K : PySem.W.Frag} {x y : Str} {b : Bool} {h : Heap} {mg : Str → Option Value} {C : Addr} (D : IaIn K x y b) (X : K.In h) (G : h.Ns mainGlobals mg) (m : mg x = some (.ref C)) : IsA K mg y C b := by
  obtain ⟨C', A, a, c, e⟩ := D.ex
  obtain rfl := mg_same m (PySem.W.mg_of X G a)
  exact ⟨A, PySem.W.mg_of X G c, e⟩
structure IvIn (K : PySem.W.Frag) (x : Str) : Prop where
  ex : ∃ C, PySem.W.nsIn K mainGlobals x = some (some (.ref C)) ∧ PySem.W.nsIn K mainGlobals "ValueError" = some none ∧ PySem.W.kitOne K (.ref C) (.type "ValueError") = some true
theorem IvIn.df {K : PySem.W.Frag} {x : Str} {h : Heap} {mg : Str → Option Value} {C : Addr} (D : IvIn K x) (X : K.In h) (G : h.Ns mainGlobals mg) (m : mg x = some (.ref C)) : IsV K mg C := by
  obtain ⟨C', a, c, e⟩ := D.ex
  obtain rfl := mg_same m (PySem.W.mg_of X G a)
  exact ⟨PySem.W.mg_none_of X G c, e⟩
structure RtIn (K : PySem.W.Frag) (x : Str) : Prop where
  ex : ∃ C, PySem.W.nsIn K mainGlobals x = some (some (.ref C)) ∧ PySem.W.excIn K C [Value.type "ValueError", Value.type "Exception", Value.type "BaseException", Value.type "object"] "ValueError.__new__" = true ∧ PySem.W.keepIn K (.ref C) = true ∧ PySem.W.subIn K (.ref C) (.type "BaseException") = some true ∧ PySem.W.typeIn K (.ref C) = some (.type "type")
theorem RtIn.df {K : PySem.W.Frag} {x : Str} {h : Heap} {mg : Str → Option Value} (D : RtIn K x) (X : K.In h) (G : h.Ns mainGlobals mg) : ∃ C, RefT K mg x C := by
  obtain ⟨C, a, e1, e2, e3, e4⟩ := D.ex
  exact ⟨C, e1, e2, e3, e4, PySem.W.mg_of X G a⟩
end DL
namespace DL
open PySem PySem.Spec PyProof.Rows L2
def inV (ts : List Tab) (i : Int) : Prop := 0 ≤ i ∧ i < (ts.length : Nat)
instance (ts : List Tab) (i : Int) : Decidable (inV ts i) := inferInstanceAs (Decidable (_ ∧ _))
end DL
namespace DL
open PySem PySem.Spec PyProof.Rows L2
def okRows (t : Tab) : Prop := ∀ r ∈ t, isKey r.1 ∧ isRow r.2
theorem okRows.app {t u : Tab} (h : okRows t) (g : okRows u) : okRows (t ++ u) := fun r hr => (List.mem_append.mp hr).elim (h r) (g r)
structure CpA (C : Addr) (S : Sto) (s hr : Nat) (b m : Int) (hd : Link) (sz : Int) (rows : Tab) : Prop where
  at_ : S[s]? = some (.ins C [("_rule", .fz (ruleD b m)), ("_head", .fz (linkD hd)), ("_size", .fz (.int sz)), ("_rows", .hd hr)])
  rws : S[hr]? = some (.lst ((rows.map tabR).map W.fz))
  rule : isRule b m
  pos : 1 ≤ s ∧ 1 ≤ hr
  sz : 0 ≤ sz ∧ sz ≤ 1000
  keys : okRows rows
  few : rows.length ≤ 100
  nn : 0 ≤ hd.n
theorem CpA.ne {C : Addr} {S : Sto} {s hr : Nat} {b m : Int} {hd : Link} {sz : Int} {rows : Tab} (h : CpA C S s hr b m hd sz rows) : s ≠ hr := by
  intro e
  have h1 := h.at_
  rw [e, h.rws] at h1
  cases h1
theorem CpA.ext {C : Addr} {S S' : Sto} {s hr : Nat} {b m : Int} {hd : Link} {sz : Int} {rows : Tab} {ex : List Nat} (h : CpA C S s hr b m hd sz rows) (x : Ext ex S S') (n : ∀ i ∈ ex, i ≠ s ∧ i ≠ hr) : CpA C S' s hr b m hd sz rows :=
  ⟨x.get h.at_ fun z => (n s z).1 rfl, x.get h.rws fun z => (n hr z).2 rfl, h.rule, h.pos, h.sz, h.keys, h.few, h.nn⟩
theorem CpA.go {C : Addr} {o o' : OD} {R : Sto} {s hr : Nat} {b m : Int} {hd : Link} {sz : Int} {rows : Tab} (h : CpA C (o :: R) s hr b m hd sz rows) : CpA C (o' :: R) s hr b m hd sz rows := h.ext (Ext.st (ex := [0]) (by simp)) fun i hi => by
  rw [List.mem_singleton.mp hi]
  have := h.pos
  omega
end DL
namespace DL
open PySem PySem.Spec PyProof.Rows L2
def BxAt (S : Sto) (hb : Nat) (cs : List D) : Except Rf Nat → Prop
  | .ok k => S[hb]? = some (.lst [.fz (.lst cs), .fz (.int ((k : Nat) : Int)), .fz .non])
  | .error rf => ∃ i : Int, S[hb]? = some (.lst [.fz (.lst cs), .fz (.int i), .fz (refD rf)])
theorem BxAt.ext {S S' : Sto} {hb : Nat} {cs : List D} {r : Except Rf Nat} {ex : List Nat} (h : BxAt S hb cs r) (x : Ext ex S S') (n : hb ∉ ex) : BxAt S' hb cs r := by
  cases r with
  | ok k => exact x.get h n
  | error rf => obtain ⟨i, h⟩ := h; exact ⟨i, x.get h n⟩
theorem BxAt.lt {S : Sto} {hb : Nat} {cs : List D} {r : Except Rf Nat} (h : BxAt S hb cs r) : hb < S.length := by
  cases r with
  | ok k => exact (List.getElem?_eq_some_iff.mp h).1
  | error rf => obtain ⟨i, h⟩ := h; exact (List.getElem?_eq_some_iff.mp h).1
def PtA (S : Sto) (p : Nat) (l : Link) : Prop := S[p]? = some (.lst [.fz (linkD l), .fz .non])
theorem PtA.ext {S S' : Sto} {p : Nat} {l : Link} {ex : List Nat} (h : PtA S p l) (x : Ext ex S S') (n : p ∉ ex) : PtA S' p l := x.get h n
theorem PtA.lt {S : Sto} {p : Nat} {l : Link} (h : PtA S p l) : p < S.length := (List.getElem?_eq_some_iff.mp h).1
def EndB {α : Type} (S : Sto) (hb : Nat) (cs : List D) (ex : List Nat) (r : Except Rf (α × SrcS)) (Kp : α → Sto → Prop) (Ke : Sto → Prop) : Prop := match r with
  | .ok (a, st) => ∀ k S', st = .gv cs k → BxAt S' hb cs (.ok k) → Ext ex S S' → Kp a S'
  | .error rf => ∀ S', BxAt S' hb cs (.error rf) → Ext ex S S' → Ke S'
theorem EndB.step {α : Type} {S S2 : Sto} {hb : Nat} {cs : List D} {ex ex1 ex2 : List Nat} {r : Except Rf (α × SrcS)} {Kp : α → Sto → Prop} {Ke : Sto → Prop} (h : EndB S hb cs ex r Kp Ke) (x : Ext ex1 S S2) (h1 : ∀ i ∈ ex1, i < S.length → i ∈ ex) (h2 : ∀ i ∈ ex2, i < S.length → i ∈ ex) : EndB S2 hb cs ex2 r Kp Ke := by
  have xx : ∀ {S'}, Ext ex2 S2 S' → Ext ex S S' := fun a => (x.mono h1).trans a (fun _ h => h) h2
  unfold EndB at h ⊢
  split
  · exact fun k S' e a1 a2 => h k S' e a1 (xx a2)
  · exact fun S' a1 a2 => h S' a1 (xx a2)
theorem EndB.bnd {α β : Type} {S : Sto} {hb : Nat} {cs : List D} {ex : List Nat} {r : Except Rf (α × SrcS)} {k : α → SrcS → Except Rf (β × SrcS)} {Kp : β → Sto → Prop} {Kq : α → Sto → Prop} {Ke Kf : Sto → Prop} (h : EndB S hb cs ex (bnd r k) Kp Ke)
    (g : ∀ a i S', EndB S hb cs ex (k a (.gv cs i)) Kp Ke → BxAt S' hb cs (.ok i) → Ext ex S S' → r = .ok (a, .gv cs i) → Kq a S') (e : ∀ rf S', r = .error rf → (∀ S', BxAt S' hb cs (.error rf) → Ext ex S S' → Ke S') → BxAt S' hb cs (.error rf) → Ext ex S S' → Kf S') : EndB S hb cs ex r Kq Kf := by
  cases r with
  | error rf => exact fun S' a1 a2 => e rf S' rfl h a1 a2
  | ok x =>
    obtain ⟨a, st'⟩ := x
    intro i S' e1 a1 a2
    subst e1
    exact g a i S' h a1 a2 rfl
structure WkB (S : Sto) (hb p : Nat) (b m : Int) (cs : List D) (k : Nat) (l : Link) : Prop where
  box : BxAt S hb cs (.ok k)
  part : PtA S p l
  rule : isRule b m
  ok : okS b m (.gv cs k) ⟨l, none⟩
  ne : p ≠ hb
end DL
namespace DL
open PySem PySem.Spec PyProof.Rows L2
def BAt (S : Sto) : PA → Nat → List Nat → Prop
  | .un l _, p, fp => fp = [p] ∧ S[p]? = some (.lst [.fz (linkD l), .fz .non])
  | .op l _ k r x y, p, fp => ∃ nd px py fx fy, fp = p :: nd :: (fx ++ fy) ∧ S[p]? = some (.lst [.fz (linkD l), .hd nd]) ∧
    S[nd]? = some (.lst [.fz (.str k), .fz (rowD r), .hd px, .hd py]) ∧ BAt S x px fx ∧ BAt S y py fy
theorem BAt.lt {S : Sto} : ∀ {pa : PA} {p : Nat} {fp : List Nat}, BAt S pa p fp → ∀ i ∈ fp, i < S.length
  | .un l t, p, fp, h, i, hi => by
    rw [h.1, List.mem_singleton] at hi
    rw [hi]
    exact (List.getElem?_eq_some_iff.mp h.2).1
  | .op l t k r x y, p, fp, h, i, hi => by
    obtain ⟨nd, px, py, fx, fy, e, h1, h2, h3, h4⟩ := h
    rw [e] at hi
    rcases List.mem_cons.mp hi with z | hi
    · rw [z]; exact (List.getElem?_eq_some_iff.mp h1).1
    rcases List.mem_cons.mp hi with z | hi
    · rw [z]; exact (List.getElem?_eq_some_iff.mp h2).1
    rcases List.mem_append.mp hi with z | z
    · exact h3.lt i z
    · exact h4.lt i z
theorem BAt.ext {S S' : Sto} {ex : List Nat} (x : Ext ex S S') : ∀ {pa : PA} {p : Nat} {fp : List Nat}, BAt S pa p fp → (∀ i ∈ fp, i ∉ ex) → BAt S' pa p fp
  | .un l t, p, fp, h, n => ⟨h.1, x.get h.2 (n p (by rw [h.1]; exact List.mem_cons_self))⟩
  | .op l t k r u v, p, fp, h, n => by
    obtain ⟨nd, px, py, fx, fy, e, h1, h2, h3, h4⟩ := h
    subst e
    exact ⟨nd, px, py, fx, fy, rfl, x.get h1 (n p (by simp)), x.get h2 (n nd (by simp)), h3.ext x fun i hi => n i (by simp [hi]), h4.ext x fun i hi => n i (by simp [hi])⟩
theorem BAt.app {S T : Sto} {pa : PA} {p : Nat} {fp : List Nat} (h : BAt S pa p fp) : BAt (S ++ T) pa p fp := h.ext (Ext.app (ex := [])) (fun _ _ z => nomatch z)
theorem BAt.part {S : Sto} {pa : PA} {p : Nat} {fp : List Nat} (h : BAt S pa p fp) : ∃ w, S[p]? = some (.lst [.fz (linkD pa.l), w]) := by
  cases pa with
  | un l t => exact ⟨_, h.2⟩
  | op l t k r x y => obtain ⟨nd, px, py, fx, fy, e, h1, _⟩ := h; exact ⟨_, h1⟩
theorem BxAt.app {S T : Sto} {hb : Nat} {cs : List D} {r : Except Rf Nat} (h : BxAt S hb cs r) : BxAt (S ++ T) hb cs r := h.ext (Ext.app (ex := [])) (fun z => nomatch z)
structure WkO (S : Sto) (hb : Nat) (b m : Int) (cs : List D) (k U : Nat) (fp : List Nat) : Prop where
  box : BxAt S hb cs (.ok k)
  rule : isRule b m
  okp : okP (.gv cs k) U
  nd : fp.Nodup
  ne : hb ∉ fp
theorem WkO.out {S : Sto} {hb : Nat} {b m : Int} {cs : List D} {k U : Nat} {fp gs : List Nat} (w : WkO S hb b m cs k U fp) (f : ∀ i ∈ gs, i ∈ fp ∨ S.length ≤ i) : hb ∉ gs := fun z => by
  have := w.box.lt
  rcases f _ z with y | y
  · exact w.ne y
  · omega
theorem WkO.go {S S1 : Sto} {hb : Nat} {b m : Int} {cs : List D} {k k1 U V Y : Nat} {fp gs : List Nat} (w : WkO S hb b m cs k U fp) (box : BxAt S1 hb cs (.ok k1)) (a : Aft (.gv cs k) (.gv cs k1) U V) (n : gs.Nodup) (f : ∀ i ∈ gs, i ∈ fp ∨ S.length ≤ i) : WkO S1 hb b m cs k1 Y gs :=
  ⟨box, w.rule, a.okP w.okp, n, w.out f⟩
theorem Ext.box {hb : Nat} {fp : List Nat} {S S' : Sto} (x : Ext [hb] S S') : Ext (hb :: fp) S S' := x.mono fun i hi _ => by rw [List.mem_singleton.mp hi]; exact List.mem_cons_self
def JP : W → Sto → Prop := fun w S => ∃ p l x, w = .hd p ∧ S[p]? = some (.lst [.fz (linkD l), x])
theorem JP.app {w : W} {S T : Sto} (h : JP w S) : JP w (S ++ T) := by
  obtain ⟨p, l, x, e, h⟩ := h
  exact ⟨p, l, x, e, app_get h⟩
def EndO {α : Type} (S : Sto) (hb : Nat) (cs : List D) (fp : List Nat) (R : Rep α) (J : W → Sto → Prop) (r : Except Rf (α × SrcS)) (Kp : WK) : Prop := match r with
  | .ok (a, st') => ∀ k S' w gs, st' = .gv cs k → BxAt S' hb cs (.ok k) → Ext (hb :: fp) S S' → R S' a w gs → Fresh S fp gs → Kp w S'
  | .error rf => ∀ S' w, BxAt S' hb cs (.error rf) → Ext (hb :: fp) S S' → J w S' → Kp w S'
theorem Ext.transO {hb : Nat} {fp fp1 : List Nat} {S S1 S2 : Sto} (a : Ext (hb :: fp) S S1) (d : Ext (hb :: fp1) S1 S2) (f : ∀ i ∈ fp1, i ∈ fp ∨ S.length ≤ i) : Ext (hb :: fp) S S2 := by
  refine a.trans d (fun _ h => h) fun i hi hl => ?_
  rcases List.mem_cons.mp hi with z | hi
  · rw [z]; exact List.mem_cons_self
  rcases f i hi with z | z
  · exact List.mem_cons_of_mem _ z
  · omega
theorem EndO.call {α β : Type} {S S1 : Sto} {hb : Nat} {cs : List D} {fp fp1 : List Nat} {R' : Rep β} {J' : W → Sto → Prop} {R : Rep α} {J : W → Sto → Prop} {r : Except Rf (α × SrcS)} {k : α → SrcS → Except Rf (β × SrcS)} {Kp Kq : WK} (h : EndO S hb cs fp R' J' (bnd r k) Kp) (x : Ext (hb :: fp) S S1) (f : ∀ i ∈ fp1, i ∈ fp ∨ S.length ≤ i)
    (g : ∀ a i S' w gs, r = .ok (a, .gv cs i) → BxAt S' hb cs (.ok i) → Ext (hb :: fp1) S1 S' → Ext (hb :: fp) S S' → R S' a w gs → Fresh S1 fp1 gs → EndO S hb cs fp R' J' (k a (.gv cs i)) Kp → Kq w S')
    (e : ∀ rf S' w, BxAt S' hb cs (.error rf) → Ext (hb :: fp1) S1 S' → Ext (hb :: fp) S S' → J w S' → (∀ S2 w2, BxAt S2 hb cs (.error rf) → Ext (hb :: fp) S S2 → J' w2 S2 → Kp w2 S2) → Kq w S') : EndO S1 hb cs fp1 R J r Kq := by
  cases r with
  | error rf => exact fun S' w a1 a2 a3 => e rf S' w a1 a2 (x.transO a2 f) a3 h
  | ok v =>
    obtain ⟨a, st'⟩ := v
    intro i S' w gs e1 h1 h2 h3 h4
    subst e1
    exact g a i S' w gs rfl h1 h2 (x.transO h2 f) h3 h4 h
structure OpdO (S S' : Sto) (hb p : Nat) (fp : List Nat) (nd px py : Nat) (fx fy : List Nat) (cs : List D) (k' : Nat) (pa : PA) (o : OpA) : Prop where
  box : BxAt S' hb cs (.ok k')
  ext : Ext (hb :: fp) S S'
  part : S'[p]? = some (.lst [.fz (linkD pa.l), .hd nd])
  node : S'[nd]? = some (.lst [.fz (.str o.1), .fz (rowD o.2.1), .hd px, .hd py])
  x : BAt S' o.2.2.1 px fx
  y : BAt S' o.2.2.2 py fy
  fr : Fresh S fp (p :: nd :: (fx ++ fy))
theorem OpdO.at {S S' : Sto} {hb p : Nat} {fp : List Nat} {nd px py : Nat} {fx fy : List Nat} {cs : List D} {k' : Nat} {pa : PA} {o : OpA} (h : OpdO S S' hb p fp nd px py fx fy cs k' pa o) : BAt S' (opd pa o) p (p :: nd :: (fx ++ fy)) :=
  ⟨nd, px, py, fx, fy, rfl, h.part, h.node, h.x, h.y⟩
theorem OpdO.sub {S S' : Sto} {hb p : Nat} {fp : List Nat} {nd px py : Nat} {fx fy : List Nat} {cs : List D} {k' : Nat} {pa : PA} {o : OpA} (h : OpdO S S' hb p fp nd px py fx fy cs k' pa o) : Fresh S fp (fx ++ fy) :=
  ⟨(List.nodup_cons.mp (List.nodup_cons.mp h.fr.nd).2).2, fun i hi => h.fr.sub i (List.mem_cons_of_mem _ (List.mem_cons_of_mem _ hi))⟩
theorem OpdO.keep {S S' S2 : Sto} {hb p : Nat} {fp : List Nat} {b m : Int} {nd px py : Nat} {fx fy gs : List Nat} {cs : List D} {k k' U : Nat} {pa : PA} {o : OpA} (h : OpdO S S' hb p fp nd px py fx fy cs k' pa o) (w : WkO S hb b m cs k U fp) (x : Ext (hb :: gs) S' S2) (g : ∀ i ∈ gs, i ∈ fx ++ fy) : S2[nd]? = some (.lst [.fz (.str o.1), .fz (rowD o.2.1), .hd px, .hd py]) := by
  have n := w.out h.fr.sub
  refine x.get h.node fun z => ?_
  rcases List.mem_cons.mp z with z | z
  · subst z; exact n (by simp)
  · exact (List.nodup_cons.mp (List.nodup_cons.mp h.fr.nd).2).1 (g _ z)
theorem BAt.emp {b m : Int} {S : Sto} : BAt (S ++ [.lst [.fz (linkD (link0 b m)), .fz .non]]) (emp b m) S.length [S.length] := ⟨rfl, set_app1 rfl⟩
end DL
namespace DL
open PySem PySem.Spec PyProof.Rows L2
theorem BAt.kind {S : Sto} : ∀ {pa : PA} {p : Nat} {fp : List Nat}, BAt S pa p fp → ∀ i ∈ fp, ∃ l, S[i]? = some (.lst l) ∧ (l.length = 2 ∨ l.length = 4)
  | .un l t, p, fp, h, i, hi => by
    rw [h.1, List.mem_singleton] at hi
    rw [hi]
    exact ⟨_, h.2, .inl rfl⟩
  | .op l t k r x y, p, fp, h, i, hi => by
    obtain ⟨nd, px, py, fx, fy, e, h1, h2, h3, h4⟩ := h
    rw [e] at hi
    rcases List.mem_cons.mp hi with z | hi
    · rw [z]; exact ⟨_, h1, .inl rfl⟩
    rcases List.mem_cons.mp hi with z | hi
    · rw [z]; exact ⟨_, h2, .inr rfl⟩
    rcases List.mem_append.mp hi with z | z
    · exact h3.kind i z
    · exact h4.kind i z
theorem BxAt.no {S : Sto} {hb f q : Nat} {cs : List D} {r : Except Rf Nat} {c d : W} (h : BxAt S hb cs r) (g : S[f]? = some (.lst [.hd q, c, d])) : f ≠ hb := fun z => by
  subst z
  cases r with
  | ok k =>
    have h : S[f]? = _ := h
    rw [g] at h
    injection h with h
    injection h with h
    cases h
  | error rf =>
    obtain ⟨i, h⟩ := h
    rw [g] at h
    injection h with h
    injection h with h
    cases h
def bx0 (cs : List D) : OD := .lst [.fz (.lst cs), .fz (.int ((0 : Nat) : Int)), .fz .non]
def pt0 (l : Link) : OD := .lst [.fz (linkD l), .fz .non]
structure Own2 (o : OD) (R : Sto) (b m : Int) (cs : List D) (l1 l2 : Link) : Prop where
  wk : WkO ((o :: R) ++ [bx0 cs] ++ [pt0 l1] ++ [pt0 l2]) (o :: R).length b m cs 0 ((gvA l1).unz + (gvA l2).unz) ([((o :: R) ++ [bx0 cs]).length] ++ [((o :: R) ++ [bx0 cs] ++ [pt0 l1]).length])
  a1 : BAt ((o :: R) ++ [bx0 cs] ++ [pt0 l1] ++ [pt0 l2]) (gvA l1) ((o :: R) ++ [bx0 cs]).length [((o :: R) ++ [bx0 cs]).length]
  a2 : BAt ((o :: R) ++ [bx0 cs] ++ [pt0 l1] ++ [pt0 l2]) (gvA l2) ((o :: R) ++ [bx0 cs] ++ [pt0 l1]).length [((o :: R) ++ [bx0 cs] ++ [pt0 l1]).length]
  ne : 0 ∉ (o :: R).length :: ([((o :: R) ++ [bx0 cs]).length] ++ [((o :: R) ++ [bx0 cs] ++ [pt0 l1]).length])
end DL
set_option maxHeartbeats 2000000
namespace GX
open PySem PySem.Spec PyProof.Rows L2
abbrev lstO (its : Array Value) (c : Nat) : Obj := { cls := .type "list", dict := none, data := .seq its c, slots := #[] }
def TxAt (S : Addr) (z : List Str) (h : Heap) : Prop := ∃ its c, h.get? S = some (lstO its c) ∧ StrsAre its.toList z
structure SlJ (S : Addr) (z : List Str) (s s' : Shared) : Prop where
  os : s'.os = s.os
  bare : AllBare s'.gens
  keep : ∀ b o, b ≠ S → s.heap.get? b = some o → s'.heap.get? b = some o
  sum : TxAt S z s'.heap
section
variable {X : Cx} {pins : List (Addr × Obj)} {σ : L2.St} {H : Hp} {s : Shared}
end

section
variable {X : Cx} {s3 : Shared} {H3 : Hp} {genv : Env} {fp : List Addr} {pn : List (Addr × Obj)} {σ : L2.St} {vs : List Nat} {elt tg iter : Expr} {ifs : List Expr} {scope : Scope} {pos : Pos} {it S : Addr} {tn : Nat → Heap → Prop} {J : It} {g : TG} {tt : TT} {te : TE}
end

section
variable {X : Cx} {s3 : Shared} {H3 : Hp} {genv : Env} {fp : List Addr} {a S : Addr} {g : Nat} {go : Obj} {nm qn : Value}
end
section
variable {prog : Program} {w : World} {A : Around}
end
end GX
namespace DL
open PySem PySem.Spec PyProof.Rows L2 GX
section
variable {X : Cx} {Ξ : Xt} {o elt tg iter : Expr} {ifs : List Expr} {scope : Scope} {ow : List (Str × Nat)} {pos apos gpos : Pos} {de : DE} {di : DI} {g : TG} {dg : DG} {tt : DT} {te : DE} {cdv : Value} {k : Nat}
end
section
variable {X : Cx} {Ξ : Xt} {o e : Expr} {es : List Expr} {de da : DE} {das : DA} {pos apos p : Pos}
end
end DL
namespace DL
open PySem PySem.Spec PyProof.Rows L2
def digitsS : Str := "0123456789"
def digB (w : Str) : Bool := (decide (1 ≤ ((w.length : Nat) : Int)) && decide (((w.length : Nat) : Int) ≤ 5)) && w.cps.toList.all fun c => decide (c ∈ digitsS.cps.toList)
def numV (w : Str) : Int := ((NumText.digitsVal w.cps.toList : Nat) : Int)
def zeroB (w : Str) : Bool := decide (1 < ((w.length : Nat) : Int)) && decide (w.cps.toList[0]? = some 48)
def numO (w : Str) (most : Int) : Option Int := if digB w then (if zeroB w || decide (most < numV w) then none else some (numV w)) else none
def oD : Option Int → D
  | none => .non
  | some i => .int i
def numS (i : Int) : Str := Str.ofString (toString i)
end DL
namespace DL
open PySem PySem.Spec PyProof.Rows L2
theorem strOk_iff {x : Str} : PyData.strOk x = true ↔ ∀ c ∈ x.cps.toList, c < 0x110000 := by
  unfold PyData.strOk
  rw [Array.all_eq_true_iff_forall_mem]
  simp [Array.mem_toList_iff]
theorem low_ok {x : Str} (h : ∀ c ∈ x.cps.toList, c < 128) : PyData.strOk x = true := strOk_iff.mpr fun c hc => Nat.lt_trans (h c hc) (by decide)
end DL
namespace DL
open PySem PySem.Spec PyProof.Rows L2
def okC (c : Nat) : Prop := c < 128 ∧ c ≠ 10
instance : DecidablePred okC := fun c => inferInstanceAs (Decidable (c < 128 ∧ c ≠ 10))
def wordOk (w : Str) : Prop := (∀ c ∈ w.cps.toList, okC c ∧ c ≠ 32) ∧ w.length ≤ 12
theorem w1 : ∀ w ∈ (["1", "2", "3", "4", ""] : List Str), wordOk w := by
  have h : ∀ w ∈ (["1", "2", "3", "4", ""] : List Str), (w.cps.toList.all fun c => decide (c < 128) && decide (c ≠ 10) && decide (c ≠ 32)) = true ∧ w.length ≤ 12 := by decide +kernel
  intro w hw
  obtain ⟨h2, h3⟩ := h w hw
  refine ⟨fun c hc => ?_, h3⟩
  have := List.all_eq_true.mp h2 c hc
  simp only [Bool.and_eq_true, decide_eq_true_eq] at this
  exact ⟨⟨this.1.1, this.1.2⟩, this.2⟩
end DL
namespace DL
open PySem PySem.Spec PyProof.Rows L2
def KdE (K : PySem.W.Frag) (d : Addr) (p : Str × Option Str) : Prop := match p.2 with
  | some v => ∃ t, PySem.W.nsIn K d p.1 = some (some (.str v t))
  | none => PySem.W.nsIn K d p.1 = some none
structure KdG (K : PySem.W.Frag) (w : World) (mg : Str → Option Value) (x : Str) (tb : List (Str × Option Str)) : Prop where
  ex : ∃ d es n, mg x = some (.ref d) ∧ KDict K w d es n ∧ ∀ p ∈ tb, KdE K d p
structure KtG (K : PySem.W.Frag) (mg : Str → Option Value) (x : Str) (ys : List Str) : Prop where
  ex : ∃ a, mg x = some (.ref a) ∧ ∀ H : Hp, SqT K H a (ys.map V.str)
section
variable {X : Cx} {Ξ : Xt} {a : Expr} {da : DE} {x : Str} {tb : List (Str × Option Str)} {ys : List Str} {p pos : Pos}
end
end DL
namespace DL
open PySem PySem.Spec PyProof.Rows L2
section
variable {X : Cx} {Ξ : Xt} {a : Expr} {da : DE} {x : Str} {ys : List Str} {p pos : Pos}
end
structure KdIn (K : PySem.W.Frag) (w : World) (x : Str) (tb : List (Str × Option Str)) : Prop where
  ex : ∃ d es n, PySem.W.nsIn K mainGlobals x = some (some (.ref d)) ∧ KDict K w d es n ∧ ∀ p ∈ tb, KdE K d p
theorem KdIn.df {K : PySem.W.Frag} {w : World} {x : Str} {tb : List (Str × Option Str)} {h : Heap} {mg : Str → Option Value} (c : KdIn K w x tb) (X : K.In h) (G : h.Ns mainGlobals mg) : KdG K w mg x tb :=
  let ⟨d, es, n, e, r⟩ := c.ex
  ⟨d, es, n, PySem.W.mg_of X G e, r⟩
structure KdEs (K : PySem.W.Frag) (d : Addr) (tb : List (Str × Option Str)) : Prop where
  all : ∀ p ∈ tb, KdE K d p
structure KtIn (K : PySem.W.Frag) (x : Str) (ys : List Str) : Prop where
  ex : ∃ a, PySem.W.nsIn K mainGlobals x = some (some (.ref a)) ∧ ∀ H : Hp, SqT K H a (ys.map V.str)
theorem KtIn.df {K : PySem.W.Frag} {x : Str} {ys : List Str} {h : Heap} {mg : Str → Option Value} (c : KtIn K x ys) (X : K.In h) (G : h.Ns mainGlobals mg) : KtG K mg x ys :=
  let ⟨a, e, r⟩ := c.ex
  ⟨a, PySem.W.mg_of X G e, r⟩
end DL
namespace DL
open PySem PySem.Spec PyProof.Rows L2
def bdB (w : Str) : Bool := (decide (1 ≤ ((w.length : Nat) : Int)) && decide (((w.length : Nat) : Int) ≤ 9)) && w.cps.toList.all fun c => decide (c ∈ lettersS.cps.toList)
def bndO (w : Str) : Option Str := if w = "-" then some "" else if bdB w then some w else none
def sD : Option Str → D
  | none => .non
  | some s => .str s
def opD (c : Nat) (w : Str) : D := if c = 107 then (if keyB w then .str w else .non) else if c = 98 then sD (bndO w) else if c = 99 then oD (numO w 100) else if c = 108 then oD (numO w 2) else if c = 110 then oD (numO w 99999) else oD (numO w 65535)
def badO (c : Nat) (w : Str) : Bool := match opD c w with
  | .non => true
  | _ => false
def putK : List (Nat × Bool) := [(107, false), (114, false), (114, true), (114, true)]
structure FitP (rs : List Str) : Prop where
  len : rs.length ≤ 20
  ok : ∀ w ∈ rs, wordOk w
inductive Ws where
  | q (q : Qy) | c (c : Ch)
def wrT (s : Str) : Str := if s = "" then "-" else s
def pw : D → List Str
  | .str s => [wrT s]
  | .int i => [numS i]
  | .tup ds => ds.map fun d => match d with
    | .int i => numS i
    | _ => ""
  | _ => []
inductive GoodL : List (Nat × Bool) → List Str → Prop where
  | nil {ks : List (Nat × Bool)} (h : ks.head?.all (·.2) = true) : GoodL ks []
  | cons {c : Nat} {o : Bool} {w : Str} {ks : List (Nat × Bool)} {ws : List Str} (h : badO c w = false) (r : GoodL ks ws) : GoodL ((c, o) :: ks) (w :: ws)
def wd (d : D) : Str := (pw d).headD ""
end DL
namespace DL
open PySem PySem.Spec PyProof.Rows L2
end DL
namespace DL
open PySem PySem.Spec PyProof.Rows L2
structure FnG (P : Program) (w : World) (K : PySem.W.Frag) (mg : Str → Option Value) (base : Heap) (k : Nat) (f : Addr) (fd : FuncData) (ps : List Str) (sp : Sp) : Prop where
  run : ∀ (A : Around) (outer : List Env) (s : Shared) (H : Hp) (args : Args) (us : List Value) (vs : List V) (Q : VK) (E : XK), A.guards = some [] → Room k A → Env0 P w K mg base A outer s H → BindsTo s fd args (ps.zip us) →
    Vals vs us → sp vs H Q E → codeAny (model P w) A (.call (.ref f) args) (CR CX0 outer P w H s Q E) s
section
variable {P : Program} {w : World} {K : PySem.W.Frag} {T : Addr → Prop} {mg : Str → Option Value} {base : Heap}
theorem fng {x : Str} {st : Stmt} {f : Addr} {fd : FuncData} {N ps : List Str} {k : Nat} {Q : PSp} {ds : DS} (F : C8.Fun K x x st f fd) (S : FnScope N ps (C8.fnScope st))
    (len : ∀ xs Kp, Q xs Kp → xs.length = ps.length)
    (hbody : ∀ (cdv : Value) (A : Around) (outer : List Env) (s : Shared) (H : Hp) (E : XK), A.guards = some [] → Room k (A.deeper (envOfC x (C8.fnScope st) s.heap.objs.size f cdv)) → DPSs (cxOf CX0 P w K mg base N x (C8.fnScope st) f cdv A outer s H E).nox (Xt.of T) (C8.fnBody st) ds)
    (hread : ∀ xs Kp, Q xs Kp → ds ⟨fun _ _ => Kp .non, fun u S' => onO (dW S' u) fun d => Kp d, fun _ _ => False, fun _ _ => False⟩ (startD N (xs.map W.fz)) []) : FnG P w K mg base (k + 1) f fd ps (spD K T (psp Q)) := by
  obtain ⟨oc, od, dV, kV, doc, pm, an, cdv, ct, osl, rfl, lk, hcd⟩ := F.ex
  refine ⟨fun A outer s H args us vs Q' E hg hr e0 bd rv hsp => ?_⟩
  have nv : vs.length = ps.length := by
    obtain ⟨B, L, ws, lent, Kp, _, r, ⟨xs, e, _, h⟩, _⟩ := hsp
    rw [← r.length, e, List.length_map]
    exact len _ _ h
  obtain ⟨t, ht, hq⟩ : ∃ t, PSs (cxOf CX0 P w K mg base N x (C8.fnScope st) f cdv A outer s H E).nox (C8.fnBody st) t ∧ t { nx := fun _ H' => Q' .non H', rt := Q' } (start N vs) H := by
    obtain ⟨B, L, ws, lent, Kp, c, r, ⟨xs, e, e2, h⟩, kw⟩ := hsp
    subst e; subst e2
    have hL : L = [] := List.eq_nil_of_length_eq_zero c.len
    subst hL
    refine ⟨_, (hbody cdv A outer s H E hg (hr.deeper _)).run ⟨B, H, [], T⟩ (.of rfl), B, [], [], _, _, c, ER.start r, hread xs _ h, ?_, ?_, fun _ _ z => z.elim, fun _ _ z => z.elim⟩
    · rintro env S' hk σ' H' B' m' n er
      have n2 := Nx.cut (S1 := []) (S2 := S') n (Nat.le_refl _) rfl (Nat.le_refl _)
      rw [List.length_nil, List.take_zero] at n2
      exact kw _ _ hk _ _ _ _ n2 (.fz .non)
    · rintro u S' hk v H' B' m' n r'
      obtain ⟨d, hd, hk⟩ := onO_ex hk
      obtain ⟨B2, c2, sb2, r2⟩ := n.cf.freeze rfl r' hd
      exact kw _ _ hk _ _ _ _ ⟨c2, n.sb.trans sb2, .refl, n.kp, fun _ _ h => .inl h, n.dm, fun a o e => (c2.bnew a o e).imp id .inl⟩ (.fz r2)
  have kin : K.In s.heap := e0.mod.kin.keeps fun b o z => (e0.bs b o z).1
  have nl : s.heap.NoLimit := e0.mod.nolimit.keeps fun b o z => (e0.bs b o z).1
  have loc : ∀ y ∈ ps.zip us, (C8.fnScope st).names.lookup y.1 = some .local ∨ ((C8.fnScope st).names.lookup y.1 = some .cell ∧ ((cellsFrom (s.heap.objs.size + 1) (C8.fnScope st).names []).lookup y.1).isSome = true) := by
    rintro ⟨n, v⟩ hy
    exact (S.par n (List.of_mem_zip hy).1).imp id fun q => ⟨q, PySem.W.cellsFrom_some _ _ _ (.inl q)⟩
  have crec := PySem.W.codeRec_of kin hcd
  refine codeAny_call_function hr.depth (kin _ _ lk) rfl S.co S.gen rfl crec (bd _ _ _ _ (wpAny_newFunctionEnv_cells S.kind loc ?_))
  rintro env rfl s1 ic
  refine ⟨nl.keeps ic.toInCall.keep, codeAny_func (wpAny_mono (ht.nox.run [] s1 (start N vs) H _ (inv_start S hr.hd e0 nv rv ic) hq) ?_ fun _ _ z => z)⟩
  intro fl s' z
  cases fl with
  | next =>
    obtain ⟨σ', H', J, q⟩ := z
    exact ⟨V.non, H', J.os, J.bare, J.base, J.hok, rfl, q⟩
  | ret u =>
    obtain ⟨v, σ', H', J, ru, q⟩ := z
    exact ⟨v, H', J.os, J.bare, J.base, J.hok, ru, q⟩
  | brk => obtain ⟨_, _, _, q⟩ := z; exact q.elim
  | cont => obtain ⟨_, _, _, q⟩ := z; exact q.elim
end
theorem lawG {P : Program} {w : World} {K : PySem.W.Frag} {mg mb : Str → Option Value} {k : Nat} {fa a : Addr} {fd : FuncData} {x : Str} {sp : Sp} {s₁ : Shared} {vs : List Value} {ns : List Int}
    (KX : K.In s₁.heap) (nG : s₁.heap.Ns mainGlobals mg) (nB : s₁.heap.Ns builtinsNs mb) (bB : ∀ x : Str, x ≠ "__name__" → mb x = bootBuiltins x) (nL : s₁.heap.NoLimit) (g0 : s₁.gens = #[])
    (ha : s₁.heap.get? a = some { cls := .type "list", data := .seq vs.toArray }) (hi : IntsAre vs ns) (hl : ns.length ≤ sizeLine) (hr : Room k callerA)
    (F : ∀ base : Heap, K.In base → base.Ns mainGlobals mg → FnG P w K mg base k fa fd [x] sp) (bd : ∀ (s : Shared) (u : Value), BindsTo s fd ⟨[u], []⟩ [(x, u)])
    (hsp : ∀ H : Hp, SqL K H a (ns.map V.int) → sp [.ref a] H (fun v _ => v = .bl true) fun _ _ _ => False) :
    codeAny (model P w) callerA (.call (.ref fa) ⟨[.ref a], []⟩) (fun r s' => r = .ok (.ret (.bool true)) ∧ OldK s₁.heap s'.heap ∧ s'.os = s₁.os ∧ AllBare s'.gens) s₁ := by
  have rv := vals_ints hi
  -- the script is tracked where it is no object of the module
  obtain ⟨H, h1, h2, h3, hS⟩ : ∃ H : Hp, (∀ b u, H b = some u → b = a ∧ K.lookup a = none ∧ ∃ o, u = .frz o (.lst (ns.map V.int))) ∧ HOk P w H s₁.heap ∧ (∀ b, b ≠ a → H b = none) ∧ SqL K H a (ns.map V.int) := by
    cases q : K.lookup a with
    | some o =>
      have eo := (KX a o q).symm.trans ha
      cases eo
      exact ⟨fun _ => none, fun _ _ z => (nomatch z), fun _ _ z => (nomatch z), fun _ _ => rfl, .inr ⟨_, _, _, q, rfl, rfl, rfl, by rw [List.size_toArray, hi.length]; exact hl, by simpa using rv⟩⟩
    | none =>
      refine ⟨fun b => if b = a then some (.frz { cls := .type "list", data := .seq vs.toArray } (.lst (ns.map V.int))) else none, fun b u z => ?_, fun b u z => ?_, fun b z => if_neg z, .inl (.inr ⟨_, if_pos rfl⟩)⟩
      · by_cases e : b = a
        · exact ⟨e, rfl, _, (Option.some.inj ((if_pos e).symm.trans z)).symm⟩
        · exact nomatch (if_neg e).symm.trans z
      · by_cases e : b = a
        · have z2 := Option.some.inj ((if_pos e).symm.trans z)
          subst z2 e
          exact ⟨ha, by rw [List.length_map]; exact hl, vs, _, rv, ha⟩
        · exact nomatch (if_neg e).symm.trans z
  have free : ∀ {b : Addr} {o : Obj}, s₁.heap.get? b = some o → (∀ l n, o.data ≠ .seq l n) → H b = none := fun {b o} e nd => by
    by_cases z : b = a
    · subst z
      rw [ha] at e
      cases e
      exact absurd rfl (nd _ _)
    · exact h3 b z
  have ns' : ∀ {b : Addr} {m : Str → Option Value}, s₁.heap.Ns b m → (hidT s₁.heap H).Ns b m := fun {b m} ⟨o, es, ep, e, d, r⟩ => ⟨o, es, ep, hidT_get e (free e fun l n z => by rw [d] at z; cases z), d, r⟩
  have K' : K.In (hidT s₁.heap H) := fun b o e => hidT_get (KX b o e) (by
    cases q : H b with
    | none => rfl
    | some u =>
      obtain ⟨rfl, lk, _⟩ := h1 b u q
      rw [lk] at e
      cases e)
  have env0 : Env0 P w K mg (hidT s₁.heap H) callerA [] s₁ H := ⟨rfl, ⟨K', ns' nG, ⟨mb, ns' nB, bB⟩, let ⟨mc, y1, y2⟩ := nL; ⟨mc, ns' y1, y2⟩⟩, fun _ _ e => of_hidT e, Nat.le_of_eq (hidT_size _ _), trivial, fun _ z => (nomatch z), h2, .of_eq g0⟩
  have run := (F _ K' (ns' nG)).run callerA [] s₁ H ⟨[.ref a], []⟩ [.ref a] [.ref a] _ _ rfl hr env0 (bd s₁ (.ref a)) (.cons rfl .nil) (hsp H hS)
  refine codeAny_mono run fun r s' z => ?_
  rcases r with e | fl
  · exact z.elim
  rcases fl with _ | _ | _ | u
  · exact z.elim
  · exact z.elim
  · exact z.elim
  obtain ⟨v, H', os, bare, un, hok', ru, q⟩ := z
  have q : v = .bl true := q
  subst q
  have ru : u = Value.bool true := ru
  subst ru
  refine ⟨rfl, OldK.of_keep fun b o e => ?_, os, bare⟩
  cases q : H b with
  | none => exact un.keep b o e q (fun z => nomatch z) (by simp)
  | some x =>
    obtain ⟨_, _, ob, rfl⟩ := h1 b x q
    have e1 := (h2 b _ q).1
    have e2 := (hok' b _ (un.frzs b ob _ q)).1
    rw [e1] at e
    cases e
    exact e2
theorem law_ofG {P : Program} {w : World} {K : PySem.W.Frag} {h : Heap} {mg : Str → Option Value} {fa : Addr} {x : Str} {st : Stmt} {p : Str} {k : Nat} (X : K.In h) (G : h.Ns mainGlobals mg) (hfa : mg x = some (.ref fa)) (D : DfIn K x st)
    (hb : ∀ (kV doc pm : Value) (an : Option Addr) (cdv ct : Value) (u : Value), bindArgs (PySem.W.fnOf x x (C8.fnArgs st) (C8.fnBody st) (C8.fnScope st) .none kV doc pm an cdv ct) ⟨[u], []⟩ = pure [(p, u)])
    (ok : ∀ (f : Addr) (fd : FuncData), C8.Fun K x x st f fd → ∀ (base : Heap) (T : Addr → Prop), FnG P w K mg base k f fd [p] (spD K T (psp spLaw))) :
    ∃ fd : FuncData, (∀ (s : Shared) (u : Value), BindsTo s fd ⟨[u], []⟩ [(p, u)]) ∧ ∀ (base : Heap) (T : Addr → Prop), FnG P w K mg base k fa fd [p] (spD K T (psp spLaw)) := by
  obtain ⟨f, od, an, sl, oc, kV, dc, pm, cd, ct, a, l, c, kp⟩ := D.ex
  have e := hfa.symm.trans (PySem.W.mg_of X G a)
  cases e
  exact ⟨_, fun s u => .of_eq (hb kV dc pm an cd ct u), fun base T => ok _ _ ⟨oc, od, .none, kV, dc, pm, an, cd, ct, sl, rfl, l, c⟩ base T⟩
theorem walk_GG {l : PySem.W.OpenLaw} {k : Nat} {q : Program} {loose : List Str} {XP : (Str → Option Value) → Heap → Prop} {YP : World → Heap → Prop} {d : DefRec} {K : Params → PySem.W.Frag} {x : Str}
    (hn : l.most = some 63) (hdf : d.params.defaults = []) (hr : Room k callerA) (hY : ∀ (w : World) (h : Heap), YP w h → (K w.params).In h)
    (F : ∀ (w : World) (mg : Str → Option Value) (fa : Addr) (h : Heap), (K w.params).In h → h.Ns mainGlobals mg → mg d.name = some (.ref fa) →
      ∃ fd : FuncData, (∀ (s : Shared) (u : Value), BindsTo s fd ⟨[u], []⟩ [(x, u)]) ∧ ∀ (base : Heap) (T : Addr → Prop), FnG l.prog w (K w.params) mg base k fa fd [x] (spD (K w.params) T (psp spLaw))) :
    PySem.W.WalkO q loose XP YP l.row.toRowW d [] (fun f vs => PySem.call f vs) := by
  refine Att.attach_callB hn hdf fun w s₀ s₁ mg mb fa o pm cd doc a vs ns G Y ho hd hcd hmg hobj hints hlen hbits hg => ?_
  have KX := hY w _ Y
  obtain ⟨fd, bd, hF⟩ := F w mg fa _ KX G.T.g hmg
  have hz : ns.length ≤ sizeLine := Nat.le_trans hlen (by decide)
  exact lawG KX G.T.g G.T.b G.T.builtins G.T.nolimit hg hobj hints hz hr (fun base _ _ => hF base (fun p => p ∈ ([] : List Addr))) bd fun H hS => law_sp (ts := []) hlen (fun p hp => nomatch hp) hS
end DL
namespace DL
open PySem PySem.Spec PyProof.Rows L2
def kindR : PyData → Bool
  | .int _ => true
  | .str _ => true
  | .tuple _ => true
  | _ => false
def fitP (d : PyData) : Prop := kindR d = true ∧ d.showable = true ∧ d.shown.length ≤ sizeLine ∧ d.depth ≤ 60 ∧ d.hasDict = false
def reprW : DRL := fun ws S Kp => match ws with
  | [.fz d] => (okD 60 d = true ∧ fitP (toPy d)) ∧ Kp (.fz (.str (toPy d).shown)) S
  | _ => False
section
variable {X : Cx} {Ξ : Xt} {e : Expr} {es : List Expr} {das : DA} {p pos : Pos}
theorem call_reprD (hg : X.A.guards = some []) (hu : X.A.units + 100 < cLine) : CallR X (.builtin "repr") (fun xs H Q => ∃ v d, xs = [v] ∧ Dp X.K H v d ∧ fitP d ∧ Q (.str d.shown) H) := by
  intro pins s σ H xs us Q I r h
  obtain ⟨v, d, rfl, dp, ⟨k1, k2, k3, k4, k5⟩, q⟩ := h
  obtain ⟨u, rfl, rv⟩ := vals1 r
  cases d with
  | int i =>
    cases dp
    obtain ⟨t, rfl⟩ := rv
    refine PySem.P.repr_of_int ?_ ⟨.str _, H, I.tok _, ⟨_, rfl⟩, q⟩
    exact of_decide_eq_true k2
  | str x =>
    cases dp
    obtain ⟨t, rfl⟩ := rv
    exact PySem.P.repr_of_str ⟨.str _, H, I.tok _, ⟨_, rfl⟩, q⟩ k3
  | tuple ds =>
    obtain ⟨as, rd⟩ := Dp.reads I _ v u dp rv
    cases rd with
    | tuple h1 h2 h3 h4 =>
    refine repr_of_reads' (.tuple h1 h2 h3 h4) k2 (fun z => absurd (z.symm.trans k5) (by decide)) hg (by omega) (fun _ _ z => z) (fun h' t tk hk => ?_) k3
    exact ⟨.str _, H, I.kept hk, ⟨_, rfl⟩, q⟩
  | none => cases k1
  | bool _ => cases k1
  | list _ => cases k1
  | dict _ => cases k1
theorem cd_repr (hg : X.A.guards = some []) (hu : X.A.units + 100 < cLine) : CallD X (.builtin "repr") reprW := fun F => CallR.imp (call_reprD hg hu) fun xs H Q ⟨B, m, S, ws, Kp, cf, r, h, k⟩ => by
  unfold reprW at h
  split at h
  · obtain ⟨v, e, rv⟩ := r.one
    subst e
    obtain ⟨⟨h1, h2⟩, h3⟩ := h
    cases rv with
    | fz rp => exact ⟨v, _, rfl, (rp.mono cf.sub).dp 60 h1, h2, k.here cf h3 (.fz .str)⟩
  · exact h.elim
theorem e_repr {k : Nat} (hg : X.A.guards = some []) (hr : Room k X.A) (bi : Bi X.mg) (ha : DPA X Ξ (e :: es) das) (hgl : Gl X "repr" := by rfl) (he : starEach (e :: es) X.env = (false, eval e X.env) :: starEach es X.env := by rfl) (hpl : (backTo pos (starEach es X.env)).any (·.1) = false := by rfl) : DPE X Ξ (.Call (.Name "repr" p) (e :: es) [] pos) (dCB reprW das) :=
  dpe_callB (cd_repr hg (by have := hr.un; omega)) hgl bi.repr PyProof.Rows.boot_repr ha (by decide) (by decide) he hpl
end
end DL
namespace DL
open PySem PySem.Spec PyProof.Rows L2
def alnum (c : Nat) : Bool := (decide (48 ≤ c) && decide (c ≤ 57)) || (decide (65 ≤ c) && decide (c ≤ 90)) || (decide (97 ≤ c) && decide (c ≤ 122))
def valR : Nat → D → Prop
  | _, .int i => 0 ≤ i ∧ i < 10 ^ 20
  | _, .str x => x.cps.toList.length ≤ 9 ∧ ∀ c ∈ x.cps.toList, alnum c = true
  | n + 1, .tup ds => ds.length ≤ 3 ∧ ∀ d ∈ ds, valR n d
  | _, _ => False
mutual
def sh : D → List Nat
  | .int i => TL.numL i.toNat
  | .str x => 39 :: (x.cps.toList ++ [39])
  | .tup ds => 40 :: shT ds
  | _ => []
def shT : List D → List Nat
  | [] => [41]
  | [d] => sh d ++ [44, 41]
  | d :: e :: r => sh d ++ shS (e :: r)
def shS : List D → List Nat
  | [] => [41]
  | d :: r => 44 :: 32 :: (sh d ++ shS r)
end
def Tl (r : List Nat) : Prop := r = [] ∨ ∃ c t, r = c :: t ∧ (c = 44 ∨ c = 41)
theorem Tl.nd {r : List Nat} (h : Tl r) {c : Nat} {t : List Nat} (e : r = c :: t) : ¬ (48 ≤ c ∧ c ≤ 57) := by
  rcases h with h | ⟨d, u, h, hd⟩
  · rw [h] at e; cases e
  · rw [h] at e
    cases e
    omega
theorem digs_cut : ∀ {a b : List Nat} {r r' : List Nat}, (∀ c ∈ a, 48 ≤ c ∧ c ≤ 57) → (∀ c ∈ b, 48 ≤ c ∧ c ≤ 57) → Tl r → Tl r' → a ++ r = b ++ r' → a = b ∧ r = r'
  | [], [], r, r', _, _, _, _, e => ⟨rfl, e⟩
  | [], c :: b, r, r', _, hb, hr, _, e => absurd (hb c List.mem_cons_self) (hr.nd e)
  | c :: a, [], r, r', ha, _, _, hr', e => absurd (ha c List.mem_cons_self) (hr'.nd e.symm)
  | c :: a, d :: b, r, r', ha, hb, hr, hr', e => by
    injection e with e1 e2
    obtain ⟨h1, h2⟩ := digs_cut (fun x hx => ha x (List.mem_cons_of_mem _ hx)) (fun x hx => hb x (List.mem_cons_of_mem _ hx)) hr hr' e2
    exact ⟨by rw [e1, h1], h2⟩
theorem quote_cut : ∀ {a b : List Nat} {r r' : List Nat}, (∀ c ∈ a, c ≠ 39) → (∀ c ∈ b, c ≠ 39) → a ++ 39 :: r = b ++ 39 :: r' → a = b ∧ r = r'
  | [], [], r, r', _, _, e => ⟨rfl, by injection e⟩
  | [], c :: b, r, r', _, hb, e => by
    injection e with e1 e2
    exact absurd e1.symm (hb c List.mem_cons_self)
  | c :: a, [], r, r', ha, _, e => by
    injection e with e1 e2
    exact absurd e1 (ha c List.mem_cons_self)
  | c :: a, d :: b, r, r', ha, hb, e => by
    injection e with e1 e2
    obtain ⟨h1, h2⟩ := quote_cut (fun x hx => ha x (List.mem_cons_of_mem _ hx)) (fun x hx => hb x (List.mem_cons_of_mem _ hx)) e2
    exact ⟨by rw [e1, h1], h2⟩
theorem alnum_q {c : Nat} (h : alnum c = true) : c ≠ 39 := by
  unfold alnum at h
  simp only [Bool.or_eq_true, Bool.and_eq_true, decide_eq_true_eq] at h
  omega
theorem sh_head {n : Nat} {d : D} (h : valR n d) : ∃ c t, sh d = c :: t ∧ ((48 ≤ c ∧ c ≤ 57 ∧ ∃ i, d = .int i) ∨ (c = 39 ∧ ∃ x, d = .str x) ∨ (c = 40 ∧ ∃ ds, d = .tup ds)) := by
  cases d with
  | int i =>
    show ∃ c t, TL.numL i.toNat = c :: t ∧ _
    cases e : TL.numL i.toNat with
    | nil => exact absurd e (TL.numL_ne _)
    | cons c t =>
      have := TL.numL_digits i.toNat c (by rw [e]; exact List.mem_cons_self)
      exact ⟨c, t, rfl, .inl ⟨this.1, this.2, i, rfl⟩⟩
  | str x => exact ⟨39, _, rfl, .inr (.inl ⟨rfl, x, rfl⟩)⟩
  | tup ds => exact ⟨40, _, rfl, .inr (.inr ⟨rfl, ds, rfl⟩)⟩
  | _ => cases n <;> exact h.elim
theorem shS_tl (ds : List D) (r : List Nat) : Tl (shS ds ++ r) := by
  cases ds with
  | nil => exact .inr ⟨41, r, rfl, .inr rfl⟩
  | cons d ds => exact .inr ⟨44, _, rfl, .inl rfl⟩
theorem sh_inj : ∀ (n : Nat) (d e : D) (r r' : List Nat), valR n d → valR n e → Tl r → Tl r' → sh d ++ r = sh e ++ r' → d = e ∧ r = r' := by
  intro n
  induction n with
  | zero =>
    intro d e r r' hd he hr hr' h
    obtain ⟨c1, t1, q1, k1⟩ := sh_head hd
    obtain ⟨c2, t2, q2, k2⟩ := sh_head he
    have hc : c1 = c2 := by rw [q1, q2] at h; injection h
    subst hc
    rcases k1 with ⟨a1, a2, i, rfl⟩ | ⟨a1, x, rfl⟩ | ⟨a1, ds, rfl⟩
    · rcases k2 with ⟨_, _, j, rfl⟩ | ⟨b1, _⟩ | ⟨b1, _⟩
      · obtain ⟨e1, e2⟩ := digs_cut (TL.numL_digits _) (TL.numL_digits _) hr hr' h
        have := TL.numL_inj e1
        have h1 : 0 ≤ i := hd.1
        have h2 : 0 ≤ j := he.1
        exact ⟨by congr 1; omega, e2⟩
      · omega
      · omega
    · rcases k2 with ⟨_, _, j, rfl⟩ | ⟨b1, y, rfl⟩ | ⟨b1, _⟩
      · omega
      · have h : 39 :: (x.cps.toList ++ [39]) ++ r = 39 :: (y.cps.toList ++ [39]) ++ r' := h
        have h2 : x.cps.toList ++ 39 :: r = y.cps.toList ++ 39 :: r' := by
          rw [List.cons_append, List.cons_append, List.append_assoc, List.append_assoc] at h
          injection h
        obtain ⟨e1, e2⟩ := quote_cut (fun c hc => alnum_q (hd.2 c hc)) (fun c hc => alnum_q (he.2 c hc)) h2
        exact ⟨by congr 1; exact TL.ext_tl e1, e2⟩
      · omega
    · exact hd.elim
  | succ n ih =>
    intro d e r r' hd he hr hr' h
    obtain ⟨c1, t1, q1, k1⟩ := sh_head hd
    obtain ⟨c2, t2, q2, k2⟩ := sh_head he
    have hc : c1 = c2 := by rw [q1, q2] at h; injection h
    subst hc
    rcases k1 with ⟨a1, a2, i, rfl⟩ | ⟨a1, x, rfl⟩ | ⟨a1, ds, rfl⟩
    · rcases k2 with ⟨_, _, j, rfl⟩ | ⟨b1, _⟩ | ⟨b1, _⟩
      · obtain ⟨e1, e2⟩ := digs_cut (TL.numL_digits _) (TL.numL_digits _) hr hr' h
        have := TL.numL_inj e1
        have h1 : 0 ≤ i := hd.1
        have h2 : 0 ≤ j := he.1
        exact ⟨by congr 1; omega, e2⟩
      · omega
      · omega
    · rcases k2 with ⟨_, _, j, rfl⟩ | ⟨b1, y, rfl⟩ | ⟨b1, _⟩
      · omega
      · have h : 39 :: (x.cps.toList ++ [39]) ++ r = 39 :: (y.cps.toList ++ [39]) ++ r' := h
        have h2 : x.cps.toList ++ 39 :: r = y.cps.toList ++ 39 :: r' := by
          rw [List.cons_append, List.cons_append, List.append_assoc, List.append_assoc] at h
          injection h
        obtain ⟨e1, e2⟩ := quote_cut (fun c hc => alnum_q (hd.2 c hc)) (fun c hc => alnum_q (he.2 c hc)) h2
        exact ⟨by congr 1; exact TL.ext_tl e1, e2⟩
      · omega
    · rcases k2 with ⟨_, _, j, rfl⟩ | ⟨b1, _⟩ | ⟨b1, es, rfl⟩
      · omega
      · omega
      · have hS : ∀ (ds es : List D) (r r' : List Nat), (∀ d ∈ ds, valR n d) → (∀ d ∈ es, valR n d) → shS ds ++ r = shS es ++ r' → ds = es ∧ r = r' := by
          intro ds
          induction ds with
          | nil =>
            intro es r r' _ _ h
            cases es with
            | nil => exact ⟨rfl, by injection h⟩
            | cons e es =>
              injection h with h1 h2
              exact absurd h1 (by decide)
          | cons d ds ih2 =>
            intro es r r' h1 h2 h
            cases es with
            | nil =>
              injection h with h1 h2
              exact absurd h1 (by decide)
            | cons e es =>
              have h : 44 :: 32 :: (sh d ++ shS ds) ++ r = 44 :: 32 :: (sh e ++ shS es) ++ r' := h
              rw [List.cons_append, List.cons_append, List.cons_append, List.cons_append, List.append_assoc, List.append_assoc] at h
              injection h with _ h
              injection h with _ h
              obtain ⟨e1, e2⟩ := ih d e _ _ (h1 d List.mem_cons_self) (h2 e List.mem_cons_self) (shS_tl _ _) (shS_tl _ _) h
              obtain ⟨e3, e4⟩ := ih2 es r r' (fun x hx => h1 x (List.mem_cons_of_mem _ hx)) (fun x hx => h2 x (List.mem_cons_of_mem _ hx)) e2
              exact ⟨by rw [e1, e3], e4⟩
        have hd1 : ∀ d ∈ ds, valR n d := hd.2
        have he1 : ∀ d ∈ es, valR n d := he.2
        have h : shT ds ++ r = shT es ++ r' := by
          have h : 40 :: (shT ds ++ r) = 40 :: (shT es ++ r') := h
          injection h
        have fst : ∀ {x : D} {t r2 : List Nat}, valR n x → ¬ (41 :: r2 = sh x ++ t) := fun {x t r2} hx z => by
          obtain ⟨c, u, q, k⟩ := sh_head hx
          rw [q] at z
          injection z with z1 z2
          rcases k with ⟨a, b, _⟩ | ⟨a, _⟩ | ⟨a, _⟩ <;> omega
        have two : ∀ {t : List Nat}, Tl (44 :: t) := fun {t} => .inr ⟨44, t, rfl, .inl rfl⟩
        match ds, es, hd1, he1, h with
        | [], [], _, _, h => exact ⟨rfl, by injection h⟩
        | [], [e], _, he1, h => exact absurd (h.trans (List.append_assoc _ _ _)) (fst (he1 e List.mem_cons_self))
        | [], e :: e2 :: es, _, he1, h => exact absurd (h.trans (List.append_assoc _ _ _)) (fst (he1 e List.mem_cons_self))
        | [d], [], hd1, _, h => exact absurd (h.symm.trans (List.append_assoc _ _ _)) (fst (hd1 d List.mem_cons_self))
        | d :: d2 :: ds, [], hd1, _, h => exact absurd (h.symm.trans (List.append_assoc _ _ _)) (fst (hd1 d List.mem_cons_self))
        | [d], [e], hd1, he1, h =>
          have h : sh d ++ [44, 41] ++ r = sh e ++ [44, 41] ++ r' := h
          rw [List.append_assoc, List.append_assoc] at h
          obtain ⟨e1, e2⟩ := ih d e _ _ (hd1 d List.mem_cons_self) (he1 e List.mem_cons_self) two two h
          injection e2 with _ e2
          injection e2 with _ e2
          exact ⟨by rw [e1], e2⟩
        | [d], e :: e2 :: es, hd1, he1, h =>
          have h : sh d ++ [44, 41] ++ r = sh e ++ shS (e2 :: es) ++ r' := h
          rw [List.append_assoc, List.append_assoc] at h
          obtain ⟨_, e2⟩ := ih d e _ _ (hd1 d List.mem_cons_self) (he1 e List.mem_cons_self) two (shS_tl _ _) h
          injection e2 with _ e2
          injection e2 with e2 _
          exact absurd e2 (by decide)
        | d :: d2 :: ds, [e], hd1, he1, h =>
          have h : sh d ++ shS (d2 :: ds) ++ r = sh e ++ [44, 41] ++ r' := h
          rw [List.append_assoc, List.append_assoc] at h
          obtain ⟨_, e2⟩ := ih d e _ _ (hd1 d List.mem_cons_self) (he1 e List.mem_cons_self) (shS_tl _ _) two h
          injection e2 with _ e2
          injection e2 with e2 _
          exact absurd e2 (by decide)
        | d :: d2 :: ds, e :: e2 :: es, hd1, he1, h =>
          have h : sh d ++ shS (d2 :: ds) ++ r = sh e ++ shS (e2 :: es) ++ r' := h
          rw [List.append_assoc, List.append_assoc] at h
          obtain ⟨e1, e3⟩ := ih d e _ _ (hd1 d List.mem_cons_self) (he1 e List.mem_cons_self) (shS_tl _ _) (shS_tl _ _) h
          obtain ⟨e4, e5⟩ := hS _ _ _ _ (fun x hx => hd1 x (List.mem_cons_of_mem _ hx)) (fun x hx => he1 x (List.mem_cons_of_mem _ hx)) e3
          exact ⟨by rw [e1, e4], e5⟩
end DL
namespace DL
open PySem PySem.Spec PyProof.Rows L2
theorem alnum_rng {c : Nat} (h : alnum c = true) : c < 128 ∧ c ≠ 39 ∧ c ≠ 34 ∧ c ≠ 92 ∧ c ≠ 10 ∧ c ≠ 13 ∧ c ≠ 9 := by
  unfold alnum at h
  simp only [Bool.or_eq_true, Bool.and_eq_true, decide_eq_true_eq] at h
  omega
theorem alnum_print : ∀ c : Fin 128, alnum c.val = true → Builtin.Str.reprChar 39 c.val = [c.val] := by decide +kernel
theorem alnum_repr {c : Nat} (h : alnum c = true) : Builtin.Str.reprChar 39 c = [c] := alnum_print ⟨c, (alnum_rng h).1⟩ h
theorem repr_fold : ∀ (l acc : List Nat), (∀ c ∈ l, alnum c = true) → (l.foldl (fun out c => out ++ (Builtin.Str.reprChar 39 c).toArray) acc.toArray).toList = acc ++ l
  | [], acc, _ => by simp
  | c :: l, acc, h => by
    rw [List.foldl_cons, alnum_repr (h c List.mem_cons_self)]
    have := repr_fold l (acc ++ [c]) fun x hx => h x (List.mem_cons_of_mem _ hx)
    rw [show acc.toArray ++ [c].toArray = (acc ++ [c]).toArray from by simp, this]
    simp
theorem repr_alnum {x : Str} (h : ∀ c ∈ x.cps.toList, alnum c = true) : (reprText x).cps.toList = 39 :: (x.cps.toList ++ [39]) := by
  have q : reprQuote x = 39 := by
    unfold reprQuote
    have : x.cps.contains 39 = false := by
      cases z : x.cps.contains 39 with
      | false => rfl
      | true =>
        rw [Array.contains_iff_mem] at z
        exact absurd rfl (alnum_rng (h 39 (Array.mem_toList_iff.mpr z))).2.1
    rw [this]; rfl
  unfold reprText
  rw [q]
  show ((x.cps.foldl (fun out c => out ++ (Builtin.Str.reprChar 39 c).toArray) #[39]).push 39).toList = _
  rw [Array.toList_push, ← Array.foldl_toList]
  have := repr_fold x.cps.toList [39] h
  rw [show (#[39] : Array Nat) = [39].toArray from rfl, this]
  simp
theorem shown_all : ∀ ds : List D, PyData.shownAll (toPyL ds) = ds.map fun d => (toPy d).shown
  | [] => rfl
  | d :: ds => by
    show (toPy d).shown :: PyData.shownAll (toPyL ds) = _
    rw [shown_all ds]; rfl
theorem shown_sh : ∀ (n : Nat) (d : D), valR n d → (toPy d).shown.cps.toList = sh d := by
  intro n
  induction n with
  | zero =>
    intro d h
    cases d with
    | int i =>
      obtain ⟨m, rfl⟩ : ∃ m : Nat, i = ((m : Nat) : Int) := ⟨i.toNat, by have : 0 ≤ i := h.1; omega⟩
      exact TL.tl_num m
    | str x => exact repr_alnum h.2
    | _ => exact h.elim
  | succ n ih =>
    intro d h
    cases d with
    | int i =>
      obtain ⟨m, rfl⟩ : ∃ m : Nat, i = ((m : Nat) : Int) := ⟨i.toNat, by have : 0 ≤ i := h.1; omega⟩
      exact TL.tl_num m
    | str x => exact repr_alnum h.2
    | tup ds =>
      have h2 : ∀ d ∈ ds, valR n d := h.2
      have e0 : (toPy (.tup ds)).shown = tupleText (PyData.shownAll (toPyL ds)) := by
        show (PyData.tuple (toPyL ds)).shown = _
        simp only [PyData.shown]
      rw [e0, shown_all]
      unfold tupleText
      rw [app_l, app_l]
      have hS : ∀ ds : List D, (∀ d ∈ ds, valR n d) → ds ≠ [] → 44 :: 32 :: (Str.join ", " (ds.map fun d => (toPy d).shown)).cps.toList ++ [41] = shS ds := by
        intro ds
        induction ds with
        | nil => intro _ h; exact absurd rfl h
        | cons d ds ih2 =>
          intro hd _
          have e1 := ih d (hd d List.mem_cons_self)
          cases ds with
          | nil =>
            show 44 :: 32 :: ((toPy d).shown).cps.toList ++ [41] = 44 :: 32 :: (sh d ++ [41])
            rw [e1]; rfl
          | cons d2 ds =>
            have := ih2 (fun x hx => hd x (List.mem_cons_of_mem _ hx)) (by simp)
            have e3 : Str.join ", " ((d :: d2 :: ds).map fun d => (toPy d).shown) = (toPy d).shown ++ ", " ++ Str.join ", " ((d2 :: ds).map fun d => (toPy d).shown) := rfl
            rw [e3, app_l, app_l, e1]
            show _ = 44 :: 32 :: (sh d ++ shS (d2 :: ds))
            rw [← this, show (", " : Str).cps.toList = [44, 32] from by decide +kernel]
            simp
      match ds, h2 with
      | [], _ => decide +kernel
      | [d], h2 =>
        have e1 := ih d (h2 d List.mem_cons_self)
        show ("(" : Str).cps.toList ++ ((toPy d).shown).cps.toList ++ ((if (1 == 1) = true then (",)" : String) else ")" : String) : Str).cps.toList = 40 :: (sh d ++ [44, 41])
        rw [e1, show ("(" : Str).cps.toList = [40] from by decide +kernel, show (Str.ofString (if ((1 : Nat) == 1) = true then (",)" : String) else ")")).cps.toList = [44, 41] from by decide +kernel]
        rfl
      | d :: d2 :: ds, h2 =>
        have e1 := ih d (h2 d List.mem_cons_self)
        have e2 := hS (d2 :: ds) (fun x hx => h2 x (List.mem_cons_of_mem _ hx)) (by simp)
        have e3 : Str.join ", " ((d :: d2 :: ds).map fun d => (toPy d).shown) = (toPy d).shown ++ ", " ++ Str.join ", " ((d2 :: ds).map fun d => (toPy d).shown) := rfl
        have e4 : (((d :: d2 :: ds).map fun d => (toPy d).shown).length == 1) = false := by
          rw [List.length_map, List.length_cons, List.length_cons]
          exact beq_eq_false_iff_ne.mpr (by omega)
        rw [e3, e4, app_l, app_l, e1]
        show _ = 40 :: (sh d ++ shS (d2 :: ds))
        rw [← e2, show ("(" : Str).cps.toList = [40] from by decide +kernel, show (", " : Str).cps.toList = [44, 32] from by decide +kernel, if_neg (by decide), show ((")" : String) : Str).cps.toList = [41] from by decide +kernel]
        simp
    | _ => exact h.elim
theorem shown_inj {n : Nat} {d e : D} (hd : valR n d) (he : valR n e) (h : (toPy d).shown = (toPy e).shown) : d = e := by
  have e1 := shown_sh n d hd
  have e2 := shown_sh n e he
  rw [h, e2] at e1
  have := sh_inj n d e [] [] hd he (.inl rfl) (.inl rfl) (by rw [e1])
  exact this.1
theorem codes_cut : ∀ {a b r r' : List Int}, a.length = b.length → a ++ r = b ++ r' → a = b ∧ r = r'
  | [], [], r, r', _, e => ⟨rfl, e⟩
  | [], _ :: _, _, _, h, _ => by cases h
  | _ :: _, [], _, _, h, _ => by cases h
  | x :: a, y :: b, r, r', h, e => by
    injection e with e1 e2
    obtain ⟨h1, h2⟩ := codes_cut (Nat.succ.inj h) e2
    exact ⟨by rw [e1, h1], h2⟩
theorem codes_inj {x y : Str} (h : codes x = codes y) : x = y := by
  refine TL.ext_tl ?_
  unfold codes at h
  have g : ∀ a b : List Nat, (a.map fun c => ((c : Nat) : Int)) = (b.map fun c => ((c : Nat) : Int)) → a = b := by
    intro a
    induction a with
    | nil => intro b h; cases b with | nil => rfl | cons _ _ => cases h
    | cons x a ih =>
      intro b h
      cases b with
      | nil => cases h
      | cons y b =>
        rw [List.map_cons, List.map_cons] at h
        injection h with h1 h2
        rw [ih b h2, show x = y from by omega]
  exact g _ _ h
theorem codes_len (x : Str) : (codes x).length = x.length := by unfold codes; rw [List.length_map, len_l]
theorem enc_inj : ∀ (n : Nat) (d e : D) (r r' : List Int), valR n d → valR n e → enc d ++ r = enc e ++ r' → d = e ∧ r = r' := by
  have si : ∀ (x : Str) (i : Int) (r r' : List Int), ¬ enc (.str x) ++ r = enc (.int i) ++ r' := fun x i r r' h => by
    injection h with h _
    exact absurd h (by decide)
  have st : ∀ (x : Str) (ds : List D) (r r' : List Int), ¬ enc (.str x) ++ r = enc (.tup ds) ++ r' := fun x i r r' h => by
    injection h with h _
    exact absurd h (by decide)
  have it : ∀ (i : Int) (ds : List D) (r r' : List Int), ¬ enc (.int i) ++ r = enc (.tup ds) ++ r' := fun x i r r' h => by
    injection h with h _
    exact absurd h (by decide)
  have ii : ∀ (i j : Int) (r r' : List Int), enc (.int i) ++ r = enc (.int j) ++ r' → D.int i = D.int j ∧ r = r' := fun i j r r' h => by
    injection h with _ h
    injection h with h1 h2
    exact ⟨by rw [h1], h2⟩
  have ss : ∀ (x y : Str) (r r' : List Int), enc (.str x) ++ r = enc (.str y) ++ r' → D.str x = D.str y ∧ r = r' := fun x y r r' h => by
    have h : 1 :: (x.length : Int) :: (codes x ++ r) = 1 :: (y.length : Int) :: (codes y ++ r') := h
    injection h with _ h
    injection h with h1 h2
    obtain ⟨h3, h4⟩ := codes_cut (by rw [codes_len, codes_len]; omega) h2
    exact ⟨by rw [codes_inj h3], h4⟩
  intro n
  induction n with
  | zero =>
    intro d e r r' hd he h
    cases d with
    | int i =>
      cases e with
      | int j => exact ii i j r r' h
      | str y => exact absurd h.symm (si y i r' r)
      | _ => exact he.elim
    | str x =>
      cases e with
      | int j => exact absurd h (si x j r r')
      | str y => exact ss x y r r' h
      | _ => exact he.elim
    | _ => exact hd.elim
  | succ n ih =>
    intro d e r r' hd he h
    cases d with
    | int i =>
      cases e with
      | int j => exact ii i j r r' h
      | str y => exact absurd h.symm (si y i r' r)
      | tup es => exact absurd h (it i es r r')
      | _ => exact he.elim
    | str x =>
      cases e with
      | int j => exact absurd h (si x j r r')
      | str y => exact ss x y r r' h
      | tup es => exact absurd h (st x es r r')
      | _ => exact he.elim
    | tup ds =>
      cases e with
      | int j => exact absurd h.symm (it j ds r' r)
      | str y => exact absurd h.symm (st y ds r' r)
      | tup es =>
        have h : 2 :: (ds.length : Int) :: (encL ds ++ r) = 2 :: (es.length : Int) :: (encL es ++ r') := h
        injection h with _ h
        injection h with h1 h2
        have hL : ∀ (ds es : List D), (∀ d ∈ ds, valR n d) → (∀ d ∈ es, valR n d) → ds.length = es.length → encL ds ++ r = encL es ++ r' → ds = es ∧ r = r' := by
          intro ds
          induction ds with
          | nil =>
            intro es _ _ hl h
            cases es with
            | nil => exact ⟨rfl, h⟩
            | cons _ _ => cases hl
          | cons d ds ih2 =>
            intro es a1 a2 hl h
            cases es with
            | nil => cases hl
            | cons e es =>
              have h : enc d ++ encL ds ++ r = enc e ++ encL es ++ r' := h
              rw [List.append_assoc, List.append_assoc] at h
              obtain ⟨h3, h4⟩ := ih d e _ _ (a1 d List.mem_cons_self) (a2 e List.mem_cons_self) h
              obtain ⟨h5, h6⟩ := ih2 es (fun x hx => a1 x (List.mem_cons_of_mem _ hx)) (fun x hx => a2 x (List.mem_cons_of_mem _ hx)) (Nat.succ.inj hl) h4
              exact ⟨by rw [h3, h5], h6⟩
        obtain ⟨h3, h4⟩ := hL ds es hd.2 he.2 (by omega) h2
        exact ⟨by rw [h3], h4⟩
      | _ => exact he.elim
    | _ => exact hd.elim
end DL
namespace DL
open PySem PySem.Spec PyProof.Rows L2
def spVal : Nat → PSp
  | 0 => fun _ _ => False
  | n + 1 => fun ds Q => ds = [.int ((n : Nat) : Int)] ∧ ∀ d, valR n d → Q d
theorem valR_int {n : Nat} {i : Int} (h0 : 0 ≤ i) (h1 : i < 10 ^ 20) : valR n (.int i) := by cases n <;> exact ⟨h0, h1⟩
theorem valR_str {n : Nat} {x : Str} (h : x.cps.toList.length ≤ 9 ∧ ∀ c ∈ x.cps.toList, alnum c = true) : valR n (.str x) := by cases n <;> exact h
theorem valR_mono : ∀ {n : Nat} {d : D}, valR n d → valR (n + 1) d := by
  intro n
  induction n with
  | zero =>
    intro d h
    cases d with
    | int i => exact h
    | str x => exact h
    | _ => exact h.elim
  | succ n ih =>
    intro d h
    cases d with
    | int i => exact h
    | str x => exact h
    | tup ds => exact ⟨h.1, fun d hd => ih (h.2 d hd)⟩
    | _ => exact h.elim
def lenR : Nat → Nat
  | 0 => 21
  | n + 1 => 3 * (lenR n + 2) + 2
theorem lenR_ge (n : Nat) : 21 ≤ lenR n := by
  induction n with
  | zero => exact Nat.le_refl _
  | succ n ih => show 21 ≤ 3 * (lenR n + 2) + 2; omega
theorem sh_len : ∀ (n : Nat) (d : D), valR n d → (sh d).length ≤ lenR n := by
  have hi : ∀ (n : Nat) (i : Int), 0 ≤ i → i < 10 ^ 20 → (sh (.int i)).length ≤ lenR n := fun n i h0 h1 => by
    have h2 : i.toNat < 10 ^ 20 := by
      have e : (10 : Int) ^ 20 = ((10 ^ 20 : Nat) : Int) := by decide
      rw [e] at h1
      omega
    have := TL.numL_len (n := i.toNat) (k := 20) (by decide) h2
    exact Nat.le_trans this (Nat.le_trans (by decide) (lenR_ge n))
  have hs : ∀ (n : Nat) (x : Str), x.cps.toList.length ≤ 9 → (sh (.str x)).length ≤ lenR n := fun n x h => by
    refine Nat.le_trans ?_ (lenR_ge n)
    show (x.cps.toList ++ [39]).length + 1 ≤ 21
    rw [List.length_append]
    show x.cps.toList.length + 1 + 1 ≤ 21
    omega
  intro n
  induction n with
  | zero =>
    intro d h
    cases d with
    | int i => exact hi _ _ h.1 h.2
    | str x => exact hs _ _ h.1
    | _ => exact h.elim
  | succ n ih =>
    intro d h
    cases d with
    | int i => exact hi _ _ h.1 h.2
    | str x => exact hs _ _ h.1
    | tup ds =>
      have h1 : ds.length ≤ 3 := h.1
      have h2 : ∀ d ∈ ds, valR n d := h.2
      have hS : ∀ ds : List D, (∀ d ∈ ds, valR n d) → (shS ds).length ≤ ds.length * (lenR n + 2) + 1 := by
        intro ds
        induction ds with
        | nil => intro _; show 1 ≤ 0 * (lenR n + 2) + 1; omega
        | cons d ds ih2 =>
          intro hd
          have a := ih d (hd d List.mem_cons_self)
          have b := ih2 fun x hx => hd x (List.mem_cons_of_mem _ hx)
          show (sh d ++ shS ds).length + 1 + 1 ≤ _
          rw [List.length_append, List.length_cons, Nat.add_mul]
          omega
      have hT : (shT ds).length ≤ ds.length * (lenR n + 2) + 1 := by
        match ds, h2 with
        | [], _ => show 1 ≤ 0 * (lenR n + 2) + 1; omega
        | [d], h2 =>
          have a := ih d (h2 d List.mem_cons_self)
          show (sh d ++ [44, 41]).length ≤ 1 * (lenR n + 2) + 1
          rw [List.length_append]
          show (sh d).length + 2 ≤ _
          omega
        | d :: e :: r, h2 =>
          have a := ih d (h2 d List.mem_cons_self)
          have b := hS (e :: r) fun x hx => h2 x (List.mem_cons_of_mem _ hx)
          show (sh d ++ shS (e :: r)).length ≤ _
          rw [List.length_append, List.length_cons (a := d), Nat.add_mul]
          omega
      have m : ds.length * (lenR n + 2) ≤ 3 * (lenR n + 2) := Nat.mul_le_mul_right _ h1
      show (shT ds).length + 1 ≤ 3 * (lenR n + 2) + 2
      omega
    | _ => exact h.elim
theorem log_20 {i : Int} (h0 : 0 ≤ i) (h1 : i < 10 ^ 20) : i.natAbs.log2 < 1920 := by
  refine Nat.lt_of_le_of_lt (m := 67) ?_ (by decide)
  by_cases z : i.natAbs = 0
  · rw [z]; decide
  · have e : (10 : Int) ^ 20 = ((10 ^ 20 : Nat) : Int) := by decide
    rw [e] at h1
    have h2 : i.natAbs < 2 ^ 67 := Nat.lt_of_lt_of_le (show i.natAbs < 10 ^ 20 by omega) (by decide)
    have := (Nat.log2_lt z).mpr h2
    omega
theorem valR_py : ∀ (n : Nat) (d : D), valR n d → (toPy d).showable = true ∧ (toPy d).depth ≤ n ∧ (toPy d).hasDict = false ∧ okD (n + 1) d = true ∧ isVal (n + 1) d = true ∧ (enc d).length ≤ lenR n := by
  have hi : ∀ (n : Nat) (i : Int), 0 ≤ i → i < 10 ^ 20 → (toPy (.int i)).showable = true ∧ (toPy (.int i)).depth ≤ n ∧ (toPy (.int i)).hasDict = false ∧ okD (n + 1) (.int i) = true ∧ isVal (n + 1) (.int i) = true ∧ (enc (.int i)).length ≤ lenR n := fun n i h0 h1 =>
    ⟨decide_eq_true (log_20 h0 h1), Nat.zero_le _, rfl, rfl, rfl, Nat.le_trans (show 2 ≤ 21 by decide) (lenR_ge n)⟩
  have hs : ∀ (n : Nat) (x : Str), (x.cps.toList.length ≤ 9 ∧ ∀ c ∈ x.cps.toList, alnum c = true) → (toPy (.str x)).showable = true ∧ (toPy (.str x)).depth ≤ n ∧ (toPy (.str x)).hasDict = false ∧ okD (n + 1) (.str x) = true ∧ isVal (n + 1) (.str x) = true ∧ (enc (.str x)).length ≤ lenR n := fun n x h => by
    refine ⟨rfl, Nat.zero_le _, rfl, ?_, ?_, ?_⟩
    · exact low_ok fun c hc => (alnum_rng (h.2 c hc)).1
    · exact decide_eq_true (by rw [len_l]; omega)
    · refine Nat.le_trans ?_ (lenR_ge n)
      show (codes x).length + 1 + 1 ≤ 21
      rw [codes_len, len_l]
      omega
  intro n
  induction n with
  | zero =>
    intro d h
    cases d with
    | int i => exact hi _ _ h.1 h.2
    | str x => exact hs _ _ h
    | _ => exact h.elim
  | succ n ih =>
    intro d h
    cases d with
    | int i => exact hi _ _ h.1 h.2
    | str x => exact hs _ _ h
    | tup ds =>
      have h1 : ds.length ≤ 3 := h.1
      have h2 : ∀ d ∈ ds, valR n d := h.2
      have g : ∀ ds : List D, (∀ d ∈ ds, valR n d) → PyData.showableAll (toPyL ds) = true ∧ PyData.depthAll (toPyL ds) ≤ n ∧ PyData.hasDictAll (toPyL ds) = false ∧ isValL (n + 1) ds = true ∧ (encL ds).length ≤ ds.length * lenR n := by
        intro ds
        induction ds with
        | nil => intro _; exact ⟨rfl, Nat.zero_le _, rfl, rfl, Nat.zero_le _⟩
        | cons d ds ih2 =>
          intro hd
          obtain ⟨a1, a2, a3, a4, a5, a6⟩ := ih d (hd d List.mem_cons_self)
          obtain ⟨b1, b2, b3, b5, b6⟩ := ih2 fun x hx => hd x (List.mem_cons_of_mem _ hx)
          refine ⟨?_, ?_, ?_, ?_, ?_⟩
          · show ((toPy d).showable && PyData.showableAll (toPyL ds)) = true
            rw [a1, b1]; rfl
          · show max (toPy d).depth (PyData.depthAll (toPyL ds)) ≤ n
            omega
          · show ((toPy d).hasDict || PyData.hasDictAll (toPyL ds)) = false
            rw [a3, b3]; rfl
          · show (isVal (n + 1) d && isValL (n + 1) ds) = true
            rw [a5, b5]; rfl
          · show (enc d ++ encL ds).length ≤ _
            rw [List.length_append, List.length_cons, Nat.add_mul]
            omega
      obtain ⟨b1, b2, b3, b5, b6⟩ := g ds h2
      refine ⟨b1, ?_, b3, okDL_iff.mpr fun d hd => (ih d (h2 d hd)).2.2.2.1, ?_, ?_⟩
      · show PyData.depthAll (toPyL ds) + 1 ≤ n + 1
        omega
      · show (decide (ds.length ≤ 1000) && isValL (n + 1) ds) = true
        rw [b5, decide_eq_true (by omega)]; rfl
      · show (encL ds).length + 1 + 1 ≤ 3 * (lenR n + 2) + 2
        have m : ds.length * lenR n ≤ 3 * lenR n := Nat.mul_le_mul_right _ h1
        omega
    | _ => exact h.elim
theorem ifB_and {c d : Bool} {A B : Prop} (h : ifB (c && d) A B) : ifB c (ifB d A B) (ifB false A B) := by
  cases c with
  | true => exact h
  | false => exact h
theorem letters_alnum : ∀ c ∈ ("abcdefghijklmnopqrstuvwxyzABCDEFGHIJKLMNOPQRSTUVWXYZ0123456789" : Str).cps.toList, alnum c = true := by decide +kernel
theorem valR_add {n : Nat} {d : D} (h : valR n d) : ∀ k, valR (n + k) d
  | 0 => h
  | k + 1 => valR_mono (valR_add h k)
theorem sh_low : ∀ (n : Nat) (d : D), valR n d → ∀ c ∈ sh d, c < 128 := by
  have hi : ∀ i : Int, ∀ c ∈ sh (.int i), c < 128 := fun i c hc => by
    have := TL.numL_digits i.toNat c hc
    omega
  have hs : ∀ x : Str, (∀ c ∈ x.cps.toList, alnum c = true) → ∀ c ∈ sh (.str x), c < 128 := fun x h c hc => by
    have hc : c ∈ 39 :: (x.cps.toList ++ [39]) := hc
    simp only [List.mem_cons, List.mem_append, List.not_mem_nil, or_false] at hc
    rcases hc with e | e | e
    · omega
    · exact (alnum_rng (h c e)).1
    · omega
  intro n
  induction n with
  | zero =>
    intro d h
    cases d with
    | int i => exact hi i
    | str x => exact hs x h.2
    | _ => exact h.elim
  | succ n ih =>
    intro d h
    cases d with
    | int i => exact hi i
    | str x => exact hs x h.2
    | tup ds =>
      have h2 : ∀ d ∈ ds, valR n d := h.2
      have hS : ∀ ds : List D, (∀ d ∈ ds, valR n d) → ∀ c ∈ shS ds, c < 128 := by
        intro ds
        induction ds with
        | nil =>
          intro _ c hc
          have hc : c ∈ [41] := hc
          rw [List.mem_singleton.mp hc]; decide
        | cons d ds ih2 =>
          intro hd c hc
          have hc : c ∈ 44 :: 32 :: (sh d ++ shS ds) := hc
          simp only [List.mem_cons, List.mem_append] at hc
          rcases hc with e | e | e | e
          · omega
          · omega
          · exact ih d (hd d List.mem_cons_self) c e
          · exact ih2 (fun x hx => hd x (List.mem_cons_of_mem _ hx)) c e
      intro c hc
      have hc : c ∈ 40 :: shT ds := hc
      rcases List.mem_cons.mp hc with e | hc
      · omega
      match ds, h2, hc with
      | [], _, hc =>
        have hc : c ∈ [41] := hc
        rw [List.mem_singleton.mp hc]; decide
      | [d], h2, hc =>
        have hc : c ∈ sh d ++ [44, 41] := hc
        simp only [List.mem_cons, List.mem_append, List.not_mem_nil, or_false] at hc
        rcases hc with e | e | e
        · exact ih d (h2 d List.mem_cons_self) c e
        · omega
        · omega
      | d :: e :: r, h2, hc =>
        have hc : c ∈ sh d ++ shS (e :: r) := hc
        rcases List.mem_append.mp hc with z | z
        · exact ih d (h2 d List.mem_cons_self) c z
        · exact hS _ (fun x hx => h2 x (List.mem_cons_of_mem _ hx)) c z
    | _ => exact h.elim
theorem eqD_i1 (i j : Int) : eqD (.int i) (.int j) = decide (i = j) := by
  by_cases h : i = j
  · rw [h, decide_eq_true rfl]; exact eqD_int j
  · rw [decide_eq_false h]
    cases z : eqD (.int i) (.int j) with
    | false => rfl
    | true =>
      simp [eqD, toPy, PyData.eqv] at z
      exact absurd z h
theorem eqD_ints : ∀ a b : List Int, eqD (intsD a) (intsD b) = decide (a = b)
  | [], [] => rfl
  | [], y :: b => rfl
  | x :: a, [] => rfl
  | x :: a, y :: b => by
    have e : eqD (intsD (x :: a)) (intsD (y :: b)) = (eqD (.int x) (.int y) && eqD (intsD a) (intsD b)) := rfl
    rw [e, eqD_ints a b, eqD_i1]
    by_cases h1 : x = y
    · by_cases h2 : a = b
      · rw [decide_eq_true h1, decide_eq_true h2, decide_eq_true (by rw [h1, h2])]; rfl
      · rw [decide_eq_true h1, decide_eq_false h2, decide_eq_false (fun z => h2 (List.cons.inj z).2)]; rfl
    · rw [decide_eq_false h1, decide_eq_false (fun z => h1 (List.cons.inj z).1)]; rfl
structure GoodV (d : D) : Prop where
  val : valR 3 d
  ok : okD 60 d = true
  fit : fitP (toPy d)
  iv : isVal 4 d = true
  en : (enc d).length ≤ 10000
  st : okD 64 (.str (toPy d).shown) = true
  et : okD 64 (intsD (enc d)) = true
theorem goodV {d : D} (h : valR 3 d) : GoodV d := by
  obtain ⟨p1, p2, p3, p4, p5, p6⟩ := valR_py 3 d h
  have h59 : valR 59 d := valR_add h 56
  have q := (valR_py 59 d h59).2.2.2.1
  have e := shown_sh 3 d h
  refine ⟨h, q, ⟨?_, p1, ?_, by omega, p3⟩, p5, Nat.le_trans p6 (by decide), ?_, okDL_iff.mpr fun d hd => ?_⟩
  · cases d with
    | int i => rfl
    | str x => rfl
    | tup ds => rfl
    | _ => exact h.elim
  · rw [len_l, e]
    exact Nat.le_trans (sh_len 3 d h) (by decide)
  · refine ok_str (low_ok fun c hc => ?_)
    rw [e] at hc
    exact sh_low 3 d h c hc
  · obtain ⟨i, _, rfl⟩ := List.mem_map.mp hd
    rfl
theorem both_same {d e : D} (hd : GoodV d) (he : GoodV e) : eqD (.str (toPy d).shown) (.str (toPy e).shown) = eqD (intsD (enc d)) (intsD (enc e)) := by
  rw [eqD_str, eqD_ints]
  by_cases h : d = e
  · rw [h, decide_eq_true rfl, decide_eq_true rfl]
  · rw [decide_eq_false (fun z => h (shown_inj hd.val he.val z)), decide_eq_false (fun z => h (enc_inj 3 d e [] [] hd.val he.val (by rw [z])).1)]
theorem consts_ok : ∀ d ∈ ([.tup [], .str "", .int 0, .tup [.int 0], .tup [.str ""], .tup [.tup []]] : List D), valR 3 d := by
  have s0 : ∀ n, valR n (.str "") := fun n => valR_str ⟨by decide +kernel, fun c hc => by rw [show ("" : Str).cps.toList = [] from by decide +kernel] at hc; cases hc⟩
  have i0 : ∀ n, valR n (.int 0) := fun n => valR_int (Int.le_refl 0) (by decide)
  have t0 : ∀ n, valR (n + 1) (.tup []) := fun n => ⟨Nat.zero_le _, fun _ h => nomatch h⟩
  have t1 : ∀ n d, valR n d → valR (n + 1) (.tup [d]) := fun n d h => ⟨by show 1 ≤ 3; decide, fun x hx => by rw [List.mem_singleton.mp hx]; exact h⟩
  intro d hd
  simp only [List.mem_cons, List.not_mem_nil, or_false] at hd
  rcases hd with rfl | rfl | rfl | rfl | rfl | rfl
  · exact t0 2
  · exact s0 3
  · exact i0 3
  · exact t1 2 _ (i0 2)
  · exact t1 2 _ (s0 2)
  · exact t1 2 _ (t0 1)
end DL
namespace DL
open PySem PySem.Spec PyProof.Rows L2
def top (i : Nat) : Stmt := PySem.Challenge.pw_rightrows_k01_encodings.main.body.getD i (.Pass ⟨0, 0, 0, 0⟩)
section
variable {P : Program} {w : World} {K : PySem.W.Frag} {T : Addr → Prop} {mg : Str → Option Value} {base : Heap}
abbrev s_l_draw : Stmt := top 3
abbrev N_l_draw : List Str := ["_law_state", "_law_limit", "_law_digit", "_law_position", "_law_cell", "_law_mixed"]
theorem sc_l_draw : FnScope N_l_draw ["_law_state", "_law_limit"] (C8.fnScope s_l_draw) := C8.fnScope_by (by decide +kernel)
/-- a draw below n -/
def spDraw : PSp := fun ds Q => ∃ n : Int, ds = [.int n] ∧ 0 < n ∧ n ≤ 10 ^ 40 ∧ ∀ r : Int, 0 ≤ r → r < n → Q (.int r)
theorem ok_l_draw (D : Df K mg "_law_draw" s_l_draw) (bi : Bi mg) : CalS P w K T mg base 1 "_law_draw" spDraw := by
  have sc := sc_l_draw
  refine D.cals (k := 0) (Q := spDraw) (fun _ _ _ _ _ _ us hl => match us, hl with | [_, _], _ => rfl) sc (by rintro _ _ ⟨d, rfl, _⟩; rfl)
      (fun f cdv A outer s H E hr =>
      (dpss_cons (dps_if (c_lt (e_ix (dpv 0) dpe_int) (dpv 1))
        (dpss_cons (sset 3 sc.nd (e_ix (dpv 0) dpe_int))
        (dpss_cons (ssub (dpv 0) dpe_int (e_add false (dpv 3) dpe_int))
        (dpss_cons (sset 4 sc.nd dpe_int)
        (dpss_cons (dps_if (c_lt (dpv 3) (e_len bi (a1 (e_ix (dpv 0) dpe_int))))
        (dpss_one (sset 4 sc.nd (e_ix (e_ix (dpv 0) dpe_int) (dpv 3))))
        dpss_nil)
        (dpss_one (dps_if (c_ge (dpv 4) (e_pow dpe_int dpe_int))
        (dpss_one (ssub (dpv 0) dpe_int (dpv 4)))
        (dpss_cons (ssub (dpv 0) dpe_int (e_mod (e_int bi (a1 (e_mul (e_add false (e_add false (e_add false (e_ix (dpv 0) dpe_int) (e_mod (e_int bi (a1 (dpv 4))) dpe_int)) (dpv 3)) dpe_int) dpe_int))) dpe_int))
        (dpss_cons (sset 5 sc.nd (e_mod (e_int bi (a1 (e_add false (e_mul (e_ix (dpv 0) dpe_int) dpe_int) dpe_int))) dpe_int))
        (dpss_one (ssub (dpv 0) dpe_int (e_add false (e_mul (dpv 5) dpe_int) (e_mod (e_int bi (a1 (e_add false (e_mul (dpv 5) dpe_int) (e_ix (dpv 0) dpe_int)))) dpe_int))))))))))))
        dpss_nil)
        (dpss_cons (sset 2 sc.nd (e_mod (e_int bi (a1 (e_ix (dpv 0) dpe_int))) (dpv 1)))
        (dpss_cons (ssub (dpv 0) dpe_int (e_fdiv (e_ix (dpv 0) dpe_int) (dpv 1)))
        (dpss_one (dps_ret (dpv 2))))))
      ) ?_
  rintro o xs Kp ⟨a, p, ns, c, rfl, hp, hn⟩ ⟨n, rfl, h0, h1, hk⟩
  have fin : ∀ a p c : Int, 0 ≤ p → StOk (.lst [.fz (.int (a / n)), .fz (.int p), .fz (.lst (ns.map DL.D.int)), .fz (.int c)]) ∧ Kp (.int (a % n)) (.lst [.fz (.int (a / n)), .fz (.int p), .fz (.lst (ns.map DL.D.int)), .fz (.int c)]) :=
    fun a p c h => ⟨⟨_, _, _, _, rfl, h, hn⟩, hk _ (Int.emod_nonneg _ (by omega)) (Int.emod_lt_of_pos _ h0) _ ⟨_, _, _, _, rfl, h, hn⟩⟩
  refine ifB_d (fun h => ?_) (fun h => ?_)
  · refine ifB_d (fun h2 => ?_) (fun h2 => ?_)
    · refine onO_at hp h2 fun x hx => ?_
      rw [List.getElem?_map, List.getElem?_map] at hx
      cases e : ns[p.toNat]? with
      | none => rw [e] at hx; cases hx
      | some z =>
        rw [e] at hx
        cases hx
        refine ⟨powL rfl, ?_⟩
        refine ifB_d (fun h3 => ?_) (fun h3 => ?_)
        · exact ⟨h0, divW h0 h1, fin _ _ _ (by omega)⟩
        · exact ⟨posL rfl, mulR rfl, posL rfl, mulR rfl, posL rfl, mulR rfl, mulR rfl, posL rfl, h0, divW h0 h1, fin _ _ _ (by omega)⟩
    · exact ⟨powL rfl, posL rfl, mulR rfl, posL rfl, mulR rfl, posL rfl, mulR rfl, mulR rfl, posL rfl, h0, divW h0 h1, fin _ _ _ (by omega)⟩
  · exact ⟨h0, divW h0 h1, fin _ _ _ hp⟩
abbrev s_encode : Stmt := top 1
abbrev N_encode : List Str := ["value", "made", "one", "letter"]
theorem sc_encode : FnScope N_encode ["value"] (C8.fnScope s_encode) := C8.fnScope_by (by decide +kernel)
theorem ok_encode (D : Df K mg "encode" s_encode) (bi : Bi mg) : ∀ n, CalP P w K T mg base n "encode" (spEncode n) := by
  intro n
  induction n with
  | zero => exact D.bot (ps := ["value"]) (fun _ _ _ _ _ _ us hl => match us, hl with | [_], _ => rfl) (by
      rintro xs Kp ⟨d, _, h, _⟩
      cases d <;> simp [isVal] at h)
  | succ n c_encode =>
    have sc := sc_encode
    refine D.calp (Q := spEncode (n + 1)) (fun _ _ _ _ _ _ us hl => match us, hl with | [_], _ => rfl) sc (by rintro _ _ ⟨d, rfl, _⟩; rfl)
      (fun f cdv A outer s H E hr =>
      (dpss_cons (dps_if (dpt_tru (e_isi bi (dpa_cons (dpv 0) (a1 (t_str bi)))))
        (dpss_one (dps_ret (e_add false (dpe_lst false (dpa_cons dpe_int (a1 (e_len bi (a1 (dpv 0)))))) (dpe_lc (ow := [("letter", 3)]) false (lk_name (by decide)) rfl sc.nd (dpi_any (dpv 0)) (blkOk_by (N := N_encode) (sc := C8.fnScope s_encode) (by decide +kernel)) (fun _ _ _ _ _ => pg_name (i := 3) sc.nd rfl (Or.inl rfl)) (fun _ _ _ _ _ => dpts_nil) (fun _ _ _ _ _ => (e_ord bi (a1 (dpv 3))))))))
        dpss_nil)
        (dpss_cons (dps_if (dpt_tru (e_isi bi (dpa_cons (dpv 0) (a1 (t_tuple bi)))))
        (dpss_cons (sset 1 sc.nd (dpe_lst true (dpa_cons dpe_int (a1 (e_len bi (a1 (dpv 0)))))))
        (dpss_cons (dps_for PassesOwn.never rfl (dpi_any (dpv 0)) (gname 2 sc.nd)
        (dpss_one (saug 1 sc.nd (dpe_callP c_encode hr (Nat.le_refl _) (by rfl) (a1 (dpv 2))) od_iadd)))
        (dpss_one (dps_ret (dpv 1)))))
        dpss_nil)
        (dpss_one (dps_ret (dpe_lst false (dpa_cons dpe_int (a1 (dpv 0))))))))
      ) ?_
    rintro xs Kp ⟨d, rfl, hv, hz, hk⟩
    cases d with
    | str x =>
      simp only [isVal, decide_eq_true_eq] at hv
      have hx : x.length ≤ sizeLine := Nat.le_trans hv (by decide)
      have hl : x.cps.toList.length = x.length := by simp [Str.length]
      refine ⟨hx, sz rfl, by simp only [List.length_map, hl]; exact hx, ?_⟩
      refine lcW_map (fun w => match w with | W.fz (.str y) => W.fz (.int (y.cps.getD 0 0 : Nat)) | w => w) (fun w hw A Bf ha => ?_) ?_
      · obtain ⟨c, _, rfl⟩ := List.mem_map.mp hw
        exact ⟨rfl, ha⟩
      · rw [List.map_map]
        have e : (x.cps.toList.map ((fun w => match w with | W.fz (.str y) => W.fz (.int (y.cps.getD 0 0 : Nat)) | w => w) ∘ fun c => W.fz (.str ⟨#[c]⟩))) = ((codes x).map DL.D.int).map W.fz := by
          simp [codes, List.map_map, Function.comp_def]
        rw [e]
        refine newL_F (addW_lst ?_ ?_)
        · simp only [codes, List.length_map, hl, List.length_cons, List.length_nil]
          exact Nat.le_trans (Nat.add_le_add_left hv _) (by decide)
        · exact hk
    | tup ds =>
      simp only [isVal, Bool.and_eq_true, decide_eq_true_eq] at hv
      have hl2 : (encL ds).length ≤ 10000 := by
        simp only [enc, List.length_cons] at hz
        omega
      refine ⟨sz rfl, ?_⟩
      refine loop_inv (I := fun ws env S => ∃ (es : List DL.D) (w2 : Option W) (acc : List Int), ws = es.map W.fz ∧ isValL n es = true ∧ env = [some (W.fz (.tup ds)), some (.hd 0), w2, none] ∧ S = [OD.lst ((acc.map DL.D.int).map W.fz)] ∧ acc ++ encL es = enc (.tup ds) ∧ 2 ≤ acc.length) ?_ ?_ ?_
      · exact ⟨ds, none, [2, (ds.length : Int)], rfl, hv.2, rfl, by simp, rfl, Nat.le_refl _⟩
      · rintro env S ⟨es, w2, acc, h1, h2, h3, h4, h5, h6⟩
        subst h3; subst h4
        cases es with
        | cons _ _ => cases h1
        | nil =>
          have e : acc = enc (.tup ds) := by simpa [encL] using h5
          subst e
          show onO (Option.map DL.D.lst (fzL _)) _
          rw [fzL_map]
          exact hk
      · rintro w ws env S N ⟨es, w2, acc, h1, h2, h3, h4, h5, h6⟩ hN
        subst h3; subst h4
        cases es with
        | nil => cases h1
        | cons e es =>
          cases h1
          unfold isValL at h2
          rw [Bool.and_eq_true] at h2
          have hl : acc.length + ((enc e).length + (encL es).length) ≤ 10002 ∧ (enc e).length ≤ 10000 := by
            have := congrArg List.length h5
            simp only [encL, List.length_append, enc, List.length_cons] at this
            omega
          refine ⟨e, rfl, h2.1, hl.2, ?_⟩
          refine ⟨?_, hN _ _ ⟨es, some (W.fz e), acc ++ enc e, rfl, h2.2, rfl, ?_, ?_, ?_⟩⟩
          · simp only [List.length_map]
            exact Nat.le_trans (show acc.length + (enc e).length ≤ 10010 by omega) (by decide)
          · simp
          · rw [← h5]
            simp [encL]
          · simp only [List.length_append]; omega
    | int i => 
      refine ⟨sz rfl, ?_⟩
      exact hk
    | _ => simp [isVal] at hv
abbrev s_l_codes : Stmt := top 4
abbrev N_l_codes : List Str := ["_law_text", "_law_letter"]
theorem sc_l_codes : FnScope N_l_codes ["_law_text"] (C8.fnScope s_l_codes) := C8.fnScope_by (by decide +kernel)
theorem ok_l_codes (D : Df K mg "_law_codes" s_l_codes) (bi : Bi mg) : CalP P w K T mg base 1 "_law_codes" (fun ds Q => ∃ x : Str, ds = [.str x] ∧ x.length ≤ 1000 ∧ Q (intsD (codes x))) := by
  have sc := sc_l_codes
  refine D.calp (k := 0) (Q := (fun ds Q => ∃ x : Str, ds = [.str x] ∧ x.length ≤ 1000 ∧ Q (intsD (codes x)))) (fun _ _ _ _ _ _ us hl => match us, hl with | [_], _ => rfl) sc (by rintro _ _ ⟨b, rfl, _⟩; rfl)
      (fun f cdv A outer s H E hr =>
      (dpss_one (dps_ret (dpe_lc (ow := [("_law_letter", 1)]) false (lk_name (by decide)) rfl sc.nd (dpi_any (dpv 0)) (blkOk_by (N := N_l_codes) (sc := C8.fnScope s_l_codes) (by decide +kernel)) (fun _ _ _ _ _ => pg_name (i := 1) sc.nd rfl (Or.inl rfl)) (fun _ _ _ _ _ => dpts_nil) (fun _ _ _ _ _ => (e_ord bi (a1 (dpv 1)))))))
      ) ?_
  rintro xs Kp ⟨x, rfl, hx, hk⟩
  have hl : x.cps.toList.length = x.length := by simp [Str.length]
  refine ⟨by simp only [List.length_map, hl]; exact Nat.le_trans hx (by decide), ?_⟩
  refine lcW_map (fun w => match w with | W.fz (.str y) => W.fz (.int (y.cps.getD 0 0 : Nat)) | w => w) (fun w hw A Bf ha => ?_) ?_
  · obtain ⟨c, _, rfl⟩ := List.mem_map.mp hw
    exact ⟨rfl, ha⟩
  · rw [List.map_map]
    have e : (x.cps.toList.map ((fun w => match w with | W.fz (.str y) => W.fz (.int (y.cps.getD 0 0 : Nat)) | w => w) ∘ fun c => W.fz (.str ⟨#[c]⟩))) = ((codes x).map DL.D.int).map W.fz := by
      simp [codes, List.map_map, Function.comp_def]
    rw [e]
    exact newL_F hk
abbrev s_l_encode : Stmt := top 5
abbrev N_l_encode : List Str := ["_law_value_here", "_law_made", "_law_one"]
theorem sc_l_encode : FnScope N_l_encode ["_law_value_here"] (C8.fnScope s_l_encode) := C8.fnScope_by (by decide +kernel)
theorem ok_l_encode (D : Df K mg "_law_encode" s_l_encode) (bi : Bi mg) (c_l_codes : CalP P w K T mg base 1 "_law_codes" (fun ds Q => ∃ x : Str, ds = [.str x] ∧ x.length ≤ 1000 ∧ Q (intsD (codes x)))) : ∀ n, CalP P w K T mg base (n + 1) "_law_encode" (spEncode n) := by
  intro n
  induction n with
  | zero => exact (D.bot (ps := ["_law_value_here"]) (fun _ _ _ _ _ _ us hl => match us, hl with | [_], _ => rfl) (by
      rintro xs Kp ⟨d, _, h, _⟩
      cases d <;> simp [isVal] at h)).mono (Nat.zero_le _)
  | succ n c_l_encode =>
    have sc := sc_l_encode
    have c_l_codes := CalP.mono c_l_codes (show 1 ≤ n + 1 by omega)
    refine D.calp (Q := spEncode (n + 1)) (fun _ _ _ _ _ _ us hl => match us, hl with | [_], _ => rfl) sc (by rintro _ _ ⟨d, rfl, _⟩; rfl)
      (fun f cdv A outer s H E hr =>
      (dpss_cons (dps_if (dpt_tru (e_isi bi (dpa_cons (dpv 0) (a1 (t_str bi)))))
        (dpss_one (dps_ret (e_add false (dpe_lst false (dpa_cons dpe_int (a1 (e_len bi (a1 (dpv 0)))))) (dpe_callP c_l_codes hr (Nat.le_refl _) (by rfl) (a1 (dpv 0))))))
        dpss_nil)
        (dpss_cons (dps_if (dpt_tru (e_isi bi (dpa_cons (dpv 0) (a1 (t_tuple bi)))))
        (dpss_cons (sset 1 sc.nd (dpe_lst false (dpa_cons dpe_int (a1 (e_len bi (a1 (dpv 0)))))))
        (dpss_cons (dps_for PassesOwn.never rfl (dpi_any (dpv 0)) (gname 2 sc.nd)
        (dpss_one (sset 1 sc.nd (e_add false (dpv 1) (dpe_callP c_l_encode hr (Nat.le_refl _) (by rfl) (a1 (dpv 2)))))))
        (dpss_one (dps_ret (dpv 1)))))
        dpss_nil)
        (dpss_one (dps_ret (dpe_lst false (dpa_cons dpe_int (a1 (dpv 0))))))))
      ) ?_
    rintro xs Kp ⟨d, rfl, hv, hz, hk⟩
    cases d with
    | str x =>
      simp only [isVal, decide_eq_true_eq] at hv
      have hx : x.length ≤ sizeLine := Nat.le_trans hv (by decide)
      refine ⟨hx, sz rfl, x, rfl, hv, ?_⟩
      refine addW_lst ?_ hk
      have hl : x.cps.toList.length = x.length := by simp [Str.length]
      simp only [codes, List.length_map, hl, List.length_cons, List.length_nil]
      exact Nat.le_trans (Nat.add_le_add_left hv _) (by decide)
    | tup ds =>
      simp only [isVal, Bool.and_eq_true, decide_eq_true_eq] at hv
      have hl2 : (encL ds).length ≤ 10000 := by
        simp only [enc, List.length_cons] at hz
        omega
      refine ⟨sz rfl, ?_⟩
      refine loop_inv (I := fun ws env S => ∃ (es : List DL.D) (w2 : Option W) (acc : List Int), ws = es.map W.fz ∧ isValL n es = true ∧ env = [some (W.fz (.tup ds)), some (.fz (intsD acc)), w2] ∧ acc ++ encL es = enc (.tup ds) ∧ 2 ≤ acc.length) ?_ ?_ ?_
      · exact ⟨ds, none, [2, (ds.length : Int)], rfl, hv.2, by simp [intsD]; rfl, rfl, Nat.le_refl _⟩
      · rintro env S ⟨es, w2, acc, h1, h2, h3, h5, h6⟩
        subst h3
        cases es with
        | cons _ _ => cases h1
        | nil =>
          have e : acc = enc (.tup ds) := by simpa [encL] using h5
          subst e
          exact hk
      · rintro w ws env S N ⟨es, w2, acc, h1, h2, h3, h5, h6⟩ hN
        subst h3
        cases es with
        | nil => cases h1
        | cons e es =>
          cases h1
          unfold isValL at h2
          rw [Bool.and_eq_true] at h2
          have hl : acc.length + ((enc e).length + (encL es).length) ≤ 10002 ∧ (enc e).length ≤ 10000 := by
            have := congrArg List.length h5
            simp only [encL, List.length_append, enc, List.length_cons] at this
            omega
          refine ⟨e, rfl, h2.1, hl.2, ?_⟩
          refine addW_lst ?_ (hN _ _ ⟨es, some (W.fz e), acc ++ enc e, rfl, h2.2, ?_, ?_, ?_⟩)
          · simp only [List.length_map]
            exact Nat.le_trans (show acc.length + (enc e).length ≤ 10010 by omega) (by decide)
          · simp [intsD]
          · rw [← h5]
            simp [encL]
          · simp only [List.length_append]; omega
    | int i => 
      refine ⟨sz rfl, ?_⟩
      exact hk
    | _ => simp [isVal] at hv
abbrev s_l_value : Stmt := top 6
abbrev N_l_value : List Str := ["_law_state", "_law_deep", "_law_choice", "_law_text", "_law_k", "_law_letters"]
theorem sc_l_value : FnScope N_l_value ["_law_state", "_law_deep"] (C8.fnScope s_l_value) := C8.fnScope_by (by decide +kernel)
theorem ok_l_value (D : Df K mg "_law_value" s_l_value) (bi : Bi mg) (c_l_draw : CalS P w K T mg base 1 "_law_draw" spDraw) : ∀ n, CalS P w K T mg base (n + 1) "_law_value" (spVal n) := by
  intro n
  induction n with
  | zero => exact CalD.mono (D.botD (ps := ["_law_state", "_law_deep"]) (fun _ _ _ _ _ _ us hl => match us, hl with | [_, _], _ => rfl) (by
      rintro ws S Kp h
      obtain ⟨_, _, _, _, _, z⟩ := h
      exact z.elim)) (Nat.zero_le _)
  | succ n c_l_value =>
    have sc := sc_l_value
    have c_l_draw := CalD.mono c_l_draw (show 1 ≤ n + 1 by omega)
    refine D.cals (k := n + 1) (Q := spVal (n + 1)) (fun _ _ _ _ _ _ us hl => match us, hl with | [_, _], _ => rfl) sc (by rintro _ _ ⟨rfl, _⟩; rfl)
      (fun f cdv A outer s H E hr =>
      (dpss_cons (sset 2 sc.nd (dpe_callS c_l_draw hr (Nat.le_refl _) (by rfl) (dpa_cons (dpv 0) (a1 dpe_int))))
        (dpss_cons (dps_if (DPW.pt (dpw_and (c_gt (dpv 1) dpe_int) (dpw_and1 (c_gt (dpv 2) dpe_int))))
        (dpss_one (dps_ret (e_tuple bi (a1 (dpe_lc (ow := [("_law_k", 4)]) false (lk_name (by decide)) rfl sc.nd (i_rng1 bi (a1 (dpe_callS c_l_draw hr (Nat.le_refl _) (by rfl) (dpa_cons (dpv 0) (a1 dpe_int))))) (blkOk_by (N := N_l_value) (sc := C8.fnScope s_l_value) (by decide +kernel)) (fun _ _ _ _ _ => pg_name (i := 4) sc.nd rfl (Or.inl rfl)) (fun _ _ _ _ _ => dpts_nil) (fun _ _ _ _ _ => (dpe_callS c_l_value hr (Nat.le_refl _) (by rfl) (dpa_cons (dpv 0) (a1 (e_sub (dpv 1) dpe_int))))))))))
        dpss_nil)
        (dpss_cons (dps_if (c_eq hr (dpv 2) dpe_int)
        (dpss_cons (sset 3 sc.nd dpe_str)
        (dpss_cons (dps_for PassesOwn.never rfl (i_rng1 bi (a1 (dpe_callS c_l_draw hr (Nat.le_refl _) (by rfl) (dpa_cons (dpv 0) (a1 dpe_int))))) (gname 4 sc.nd)
        (dpss_cons (sset 5 sc.nd dpe_str)
        (dpss_one (sset 3 sc.nd (e_add false (dpv 3) (e_ix (dpv 5) (dpe_callS c_l_draw hr (Nat.le_refl _) (by rfl) (dpa_cons (dpv 0) (a1 dpe_int)))))))))
        (dpss_one (dps_ret (dpv 3)))))
        dpss_nil)
        (dpss_one (dps_ret (dpe_callS c_l_draw hr (Nat.le_refl _) (by rfl) (dpa_cons (dpv 0) (a1 (e_ix (dpe_lst false (dpa_cons dpe_int (a1 (e_pow dpe_int dpe_int)))) (dpe_callS c_l_draw hr (Nat.le_refl _) (by rfl) (dpa_cons (dpv 0) (a1 dpe_int))))))))))))
      ) ?_
    rintro o xs Kp so ⟨rfl, hk⟩
    have done : ∀ (d : DL.D) (o : OD), valR n d → StOk o → StOk o ∧ Kp d o := fun d o h so => ⟨so, hk d h o so⟩
    refine ⟨⟨rfl, so⟩, 5, rfl, by decide, by decide, fun c c0 c1 o so => ⟨so, ?_⟩⟩
    refine ifB_and ?_
    refine ifB_of (fun h => ?_) (fun _ => ?_)
    · have h : (decide (((n : Nat) : Int) > 0) && decide (c > 1)) = true := h
      rw [Bool.and_eq_true, decide_eq_true_eq] at h
      obtain ⟨m, rfl⟩ : ∃ m, n = m + 1 := ⟨n - 1, by have := h.1; omega⟩
      refine ⟨⟨rfl, so⟩, 4, rfl, by decide, by decide, fun q q0 q1 o so => ⟨so, ⟨by omega, by omega⟩, ?_⟩⟩
      refine ⟨by rw [List.length_map, List.length_range]; exact Nat.le_trans (show q.toNat ≤ 3 by omega) (by decide), ?_⟩
      refine lcW_draw (fun _ d => valR m d) so (fun w hw o A Bf so ha => ?_) fun ds o' hl hd so' => ?_
      · refine ⟨trivial, ⟨rfl, so⟩, by show [DL.D.int (((m + 1 : Nat) : Int) - 1)] = [DL.D.int ((m : Nat) : Int)]; rw [show ((m + 1 : Nat) : Int) - 1 = ((m : Nat) : Int) from by omega], fun d hv o so => ⟨so, ha d o hv so⟩⟩
      · rw [List.length_map, List.length_range] at hl
        refine newL_E ds rfl ?_
        have hv : valR (m + 1) (.tup ds) := ⟨by omega, fun d hd' => (hd d hd').elim fun _ z => z.2⟩
        show retS Kp (mkT (ds.map W.fz)) [o']
        rw [mkT_fz]
        exact done _ _ hv so'
    refine ⟨⟨rfl, rfl⟩, ifB_of (fun _ => ?_) (fun _ => ?_)⟩
    · refine ⟨⟨rfl, so⟩, 10, rfl, by decide, by decide, fun m m0 m1 o so => ⟨so, ⟨by omega, by omega⟩, ?_⟩⟩
      refine loop_inv (I := fun ws env S => ∃ (x : Str) (w4 w5 : Option W) (o : OD), env = [some (W.hd 0), some (W.fz (.int ((n : Nat) : Int))), some (W.fz (.int c)), some (W.fz (.str x)), w4, w5] ∧ S = [o] ∧ StOk o ∧ x.cps.toList.length + ws.length = m.toNat ∧ ∀ c ∈ x.cps.toList, alnum c = true) ?_ ?_ ?_
      · exact ⟨_, _, _, _, rfl, rfl, so, by rw [show (("" : Str).cps.toList) = [] by decide, List.length_map, List.length_range]; simp, fun c hc => by rw [show (("" : Str).cps.toList) = [] by decide] at hc; cases hc⟩
      · rintro env S ⟨x, w4, w5, o, rfl, rfl, so, hl, hs⟩
        rw [List.length_nil, Nat.add_zero] at hl
        exact done _ _ (valR_str ⟨by omega, hs⟩) so
      · rintro w ws env S N ⟨x, w4, w5, o, rfl, rfl, so, hl, hs⟩ hN
        rw [List.length_cons] at hl
        refine ⟨⟨rfl, so⟩, 62, rfl, by decide, by decide, fun j j0 j1 o so => ⟨so, by decide, onO_at j0 j1 fun y hy => ?_⟩⟩
        have hya : alnum y = true := letters_alnum y (List.mem_of_getElem? hy)
        have hx : x.length = x.cps.toList.length := by simp [Str.length]
        refine ⟨Nat.le_trans (show x.length + (⟨#[y]⟩ : Str).length ≤ 1000 from ?_) (by decide), hN _ _ ⟨_, _, _, _, rfl, rfl, so, ?_, ?_⟩⟩
        · have : (⟨#[y]⟩ : Str).length = 1 := rfl
          omega
        · rw [app_l, List.length_append]
          show _ + 1 + _ = _
          omega
        · intro d hd
          rw [app_l] at hd
          rcases List.mem_append.mp hd with z | z
          · exact hs d z
          · have z : d ∈ [y] := z
            rw [List.mem_singleton.mp z]; exact hya
    · refine ⟨powL rfl, sz rfl, ⟨rfl, so⟩, 2, rfl, by decide, by decide, fun j j0 j1 o so => ⟨so, onO_at j0 j1 fun y hy => ?_⟩⟩
      rcases mem2 hy with e | e
      · subst e
        exact ⟨⟨rfl, so⟩, 3, rfl, by decide, by decide, fun i i0 i1 o so => ⟨so, done _ o (valR_int i0 (Int.lt_trans i1 (by decide))) so⟩⟩
      · subst e
        exact ⟨⟨rfl, so⟩, 10 ^ 20, rfl, by decide, by decide, fun i i0 i1 o so => ⟨so, done _ o (valR_int i0 i1) so⟩⟩
abbrev s_law : Stmt := top 7
abbrev N_law : List Str := ["_law_script", "_law_state", "_law_values", "_law_one", "_law_actual", "_law_two", "_law_k"]
theorem sc_law : FnScope N_law ["_law_script"] (C8.fnScope s_law) := C8.fnScope_by (by decide +kernel)
set_option maxHeartbeats 2000000 in
theorem ok_law {f0 : Addr} {fd0 : FuncData} (D : C8.Fun K "law" "law" s_law f0 fd0) (bi : Bi mg) (c_l_value : CalS P w K T mg base 5 "_law_value" (spVal 4)) (c_encode : CalP P w K T mg base 4 "encode" (spEncode 4)) (c_l_encode : CalP P w K T mg base 5 "_law_encode" (spEncode 4)) : FnG P w K mg base 6 f0 fd0 ["_law_script"] (spD K T (psp spLaw)) := by
  have sc := sc_law
  refine DL.fng D (k := 5) (Q := spLaw) sc (by rintro _ _ ⟨ns, rfl, _⟩; rfl)
      (fun cdv A outer s H E hg hr =>
      (dpss_cons (sset 1 sc.nd (dpe_lst true (dpa_cons dpe_int (dpa_cons dpe_int (dpa_cons (e_list false bi (a1 (dpv 0))) (a1 dpe_int))))))
        (dpss_cons (sset 2 sc.nd (e_add false (dpe_lc (ow := [("_law_k", 6)]) false (lk_name (by decide)) rfl sc.nd (i_rng1 bi (a1 dpe_int)) (blkOk_by (N := N_law) (sc := C8.fnScope s_law) (by decide +kernel)) (fun _ _ _ _ _ => pg_name (i := 6) sc.nd rfl (Or.inl rfl)) (fun _ _ _ _ _ => dpts_nil) (fun _ _ _ _ _ => (dpe_callS c_l_value hr (Nat.le_refl _) (by rfl) (dpa_cons (dpv 1) (a1 dpe_int))))) (dpe_lst false (dpa_cons (dpe_tup dpa_nil) (dpa_cons dpe_str (dpa_cons dpe_int (dpa_cons (dpe_tup (a1 dpe_int)) (dpa_cons (dpe_tup (a1 dpe_str)) (a1 (dpe_tup (a1 (dpe_tup dpa_nil))))))))))))
        (dpss_cons (dps_for PassesOwn.never rfl (dpi_any (dpv 2)) (gname 3 sc.nd)
        (dpss_cons (sset 4 sc.nd (dpe_callP c_encode hr (by decide) (by rfl) (a1 (dpv 3))))
        (dpss_cons (dps_if (DPW.pt (dpw_or (dpt_not (dpt_tru (e_isi bi (dpa_cons (dpv 4) (a1 (t_list bi)))))) (dpw_or1 (c_ne hr (dpv 4) (dpe_callP c_l_encode hr (Nat.le_refl _) (by rfl) (a1 (dpv 3)))))))
        (dpss_one (dps_ret dpe_bl))
        dpss_nil)
        (dpss_one (dps_for PassesOwn.never rfl (dpi_any (dpv 2)) (gname 5 sc.nd)
        (dpss_one (dps_if (c_ne hr (e_eq hr (e_repr hg hr bi (a1 (dpv 3))) (e_repr hg hr bi (a1 (dpv 5)))) (e_eq hr (dpv 4) (dpe_callP c_encode hr (by decide) (by rfl) (a1 (dpv 5)))))
        (dpss_one (dps_ret dpe_bl))
        dpss_nil)))))))
        (dpss_one (dps_ret dpe_bl)))))
      ) ?_
  rintro xs Kp ⟨ns, rfl, hn, hk⟩
  refine onO_scr ?_
  have so0 : StOk (.lst [.fz (.int 0), .fz (.int 0), .fz (.lst (ns.map DL.D.int)), .fz (.int 1)]) := ⟨0, 0, ns, 1, rfl, by decide, hn⟩
  refine ⟨sz rfl, ⟨by decide, by decide⟩, ?_⟩
  refine ⟨by rw [List.length_map, List.length_range]; exact (show 5 ≤ sizeLine by decide), ?_⟩
  refine lcW_draw (fun _ d => valR 3 d) so0 (fun w hw o A Bf so ha => ⟨⟨rfl, so⟩, rfl, fun d hv o so => ⟨so, ha d o hv so⟩⟩) fun ds o hlen hds so => ?_
  have hd5 : ∀ d ∈ ds, valR 3 d := fun d hd => (hds d hd).elim fun _ z => z.2
  have hl5 : ds.length ≤ 5 := by rw [hlen, List.length_map, List.length_range]; exact Nat.le_refl 5
  refine newL_E ds rfl ?_
  refine ⟨sz rfl, sz rfl, sz rfl, sz rfl, sz rfl, sz rfl, ?_⟩
  refine addW_lst (i := ds) (j := [.tup [], .str "", .int 0, .tup [.int 0], .tup [.str ""], .tup [.tup []]]) (Nat.le_trans (show _ + 6 ≤ 11 by omega) (by decide)) ?_
  obtain ⟨vs, ev⟩ : ∃ vs : List DL.D, vs = ds ++ [.tup [], .str "", .int 0, .tup [.int 0], .tup [.str ""], .tup [.tup []]] := ⟨_, rfl⟩
  rw [← ev]
  have hv : ∀ d ∈ vs, GoodV d := fun d hd => by
    rw [ev] at hd
    rcases List.mem_append.mp hd with z | z
    · exact goodV (hd5 d z)
    · exact goodV (consts_ok d z)
  refine loop_inv (I := fun ws env S => ∃ (l : List DL.D) (w3 w4 w5 w6 : Option W), ws = l.map W.fz ∧ (∀ d ∈ l, GoodV d) ∧ env = [some (W.fz (.scr ns)), some (W.hd 0), some (W.fz (.lst vs)), w3, w4, w5, w6] ∧ S = [o]) ?_ ?_ ?_
  · exact ⟨vs, _, _, _, _, rfl, hv, rfl, rfl⟩
  · rintro env S ⟨l, w3, w4, w5, w6, _, _, rfl, rfl⟩
    exact hk
  rintro w ws env S N ⟨l, w3, w4, w5, w6, hws, hl, rfl, rfl⟩ hN
  cases l with
  | nil => cases hws
  | cons d l =>
  cases hws
  have gd := hl d List.mem_cons_self
  refine ⟨d, rfl, gd.iv, gd.en, ?_⟩
  refine ⟨d, rfl, gd.iv, gd.en, ?_⟩
  refine ⟨⟨gd.et, gd.et⟩, ifB_ne (eqD_refl _) ?_⟩
  refine loop_inv (I := fun ws env S => ∃ (l2 : List DL.D) (w5 w6 : Option W), ws = l2.map W.fz ∧ (∀ d ∈ l2, GoodV d) ∧ env = [some (W.fz (.scr ns)), some (W.hd 0), some (W.fz (.lst vs)), some (W.fz d), some (W.fz (intsD (enc d))), w5, w6] ∧ S = [o]) ?_ ?_ ?_
  · exact ⟨vs, _, _, rfl, hv, rfl, rfl⟩
  · rintro env S ⟨l2, w5, w6, _, _, rfl, rfl⟩
    exact hN _ _ ⟨l, _, _, _, _, rfl, fun x hx => hl x (List.mem_cons_of_mem _ hx), rfl, rfl⟩
  rintro w ws env S M ⟨l2, w5, w6, hws, hl2, rfl, rfl⟩ hM
  cases l2 with
  | nil => cases hws
  | cons e l2 =>
  cases hws
  have ge := hl2 e List.mem_cons_self
  refine ⟨⟨gd.ok, gd.fit⟩, ?_⟩
  refine ⟨⟨ge.ok, ge.fit⟩, ?_⟩
  refine ⟨⟨gd.st, ge.st⟩, ?_⟩
  refine ⟨e, rfl, ge.iv, ge.en, ?_⟩
  refine ⟨⟨gd.et, ge.et⟩, ?_⟩
  refine ⟨⟨rfl, rfl⟩, ?_⟩
  refine ifB_ne (by rw [both_same gd ge]; exact eqD_refl _) ?_
  exact hM _ _ ⟨l2, _, _, rfl, fun x hx => hl2 x (List.mem_cons_of_mem _ hx), rfl, rfl⟩
end
theorem all_mk {l : PySem.W.OpenLaw} {w : World} {K : PySem.W.Frag} {h : Heap} {mg : Str → Option Value} {fa : Addr} (X : K.In h) (G : h.Ns mainGlobals mg) (hfa : mg "law" = some (.ref fa))
    (d_l_draw : DfIn K "_law_draw" s_l_draw) (d_encode : DfIn K "encode" s_encode) (d_l_codes : DfIn K "_law_codes" s_l_codes) (d_l_encode : DfIn K "_law_encode" s_l_encode) (d_l_value : DfIn K "_law_value" s_l_value) (d_law : DfIn K "law" s_law) (b : BiIn K) :
    ∃ fd : FuncData, (∀ (s : Shared) (u : Value), BindsTo s fd ⟨[u], []⟩ [("_law_script", u)]) ∧ ∀ (base : Heap) (T : Addr → Prop), FnG l.prog w K mg base 6 fa fd ["_law_script"] (spD K T (psp spLaw)) := by
  have bi := b.bi X G
  refine law_ofG X G hfa d_law (fun _ _ _ _ _ _ _ => rfl) fun f fd F base T => ?_
  have p_l_draw := ok_l_draw (P := l.prog) (w := w) (K := K) (T := T) (mg := mg) (base := base) (d_l_draw.df X G) bi
  have p_encode := ok_encode (P := l.prog) (w := w) (K := K) (T := T) (mg := mg) (base := base) (d_encode.df X G) bi 4
  have p_l_codes := ok_l_codes (P := l.prog) (w := w) (K := K) (T := T) (mg := mg) (base := base) (d_l_codes.df X G) bi
  have p_l_encode := ok_l_encode (P := l.prog) (w := w) (K := K) (T := T) (mg := mg) (base := base) (d_l_encode.df X G) bi (CalD.mono p_l_codes (by decide)) 4
  have p_l_value := ok_l_value (P := l.prog) (w := w) (K := K) (T := T) (mg := mg) (base := base) (d_l_value.df X G) bi (CalD.mono p_l_draw (by decide)) 4
  exact ok_law F bi (CalD.mono p_l_value (by decide)) (CalD.mono p_encode (by decide)) (CalD.mono p_l_encode (by decide))
end DL
open PySem PySem.W PyProof.Rows in
set_option maxRecDepth 100000 in
set_option maxHeartbeats 0 in
theorem PySem.Challenge.cw_rightrows_k01_encodings_holds : PySem.Challenge.rw_rightrows_k01_encodings.Holds := by
  w_on; o_law; k_head; (case hw => w_witness2)
  k_fill
  refine DL.walk_GG (l := PySem.Challenge.rw_rightrows_k01_encodings) (k := 6) (x := "_law_script") rfl rfl ⟨rfl, by decide, by decide⟩ (fun w h Y => PySem.W.kIn_of Y) ?F
  case F =>
    intro w mg fa h KX G hmg
    refine' DL.all_mk KX G hmg ?d0 ?d1 ?d2 ?d3 ?d4 ?d5 ?bi
    (case d0 => refine' DL.dfin ?a ?l ?c ?k; (case a => k_is); (case l => k_is); (case c => k_is); (case k => k_is))
    (case d1 => refine' DL.dfin ?a ?l ?c ?k; (case a => k_is); (case l => k_is); (case c => k_is); (case k => k_is))
    (case d2 => refine' DL.dfin ?a ?l ?c ?k; (case a => k_is); (case l => k_is); (case c => k_is); (case k => k_is))
    (case d3 => refine' DL.dfin ?a ?l ?c ?k; (case a => k_is); (case l => k_is); (case c => k_is); (case k => k_is))
    (case d4 => refine' DL.dfin ?a ?l ?c ?k; (case a => k_is); (case l => k_is); (case c => k_is); (case k => k_is))
    (case d5 => refine' DL.dfin ?a ?l ?c ?k; (case a => k_is); (case l => k_is); (case c => k_is); (case k => k_is))
    (case bi => refine' ⟨?b0, ?b1, ?b2, ?b3, ?b4, ?b5, ?b6, ?b7, ?b8, ?b9, ?b10, ?b11, ?b12, ?b13, ?b14, ?b15, ?b16, ?b17, ?b18, ?b19⟩ <;> k_is)
#print axioms PySem.Challenge.cw_rightrows_k01_encodings_holds
