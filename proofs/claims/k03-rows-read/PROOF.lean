import PyProof.Rows.All
import Wide.All
import OpenK.AllK
import Wide.FinOn
import HandS.ForMost
import HandS.ForExc
import HandS.Wide
import HandS.Deep
import HandS.TupAny
import HandS.TupMul
import HandS.Style
import HandS.IsInst
import HandS.More
import HandS.SortInts
import HandS.Walk
import KE.GoesEnum
import HandS.SetFor
import KE.GoesNew
import KE.KDictZip
import HandS.EndBits
import PySem.Challenge.RW_slipward_k03_rows_read
set_option Elab.async false
set_option linter.all false
set_option maxRecDepth 100000
set_option maxHeartbeats 1000000
namespace ML
open PySem PySem.Spec PyProof.Rows L2

/-! ### data by value, a store of what changes -/
inductive D where
  | non | bl (b : Bool) | int (i : Int) | str (x : Str) | tup (xs : List D) | obj (n : Nat) | kd (kvs : List (Str × Key)) | kl (ns : List Int)
  deriving Inhabited

inductive Cell where
  | lst (xs : List D)
  | dct (kvs : List (Key × D))
  | set (ns : List Int)
  | ins (c : Nat) (fs : List (Str × D))

abbrev Sto := List Cell

inductive R (α : Type) where
  | ok (a : α) (S : Sto)
  | err (c : Nat) (fs : List (Str × D)) (S : Sto)
  | bad

abbrev M (α : Type) := Sto → R α
def ret {α : Type} (a : α) : M α := fun S => .ok a S
def bad {α : Type} : M α := fun _ => .bad
def bnd {α β : Type} (m : M α) (k : α → M β) : M β := fun S => match m S with
  | .ok a S' => k a S'
  | .err c fs S' => .err c fs S'
  | .bad => .bad
theorem bnd_ret {α β : Type} (a : α) (k : α → M β) : bnd (ret a) k = k a := rfl
theorem bnd_bnd {α β γ : Type} (m : M α) (k : α → M β) (l : β → M γ) : bnd (bnd m k) l = bnd m fun a => bnd (k a) l := by
  funext S
  show (match (match m S with | .ok a S' => k a S' | .err c fs S' => .err c fs S' | .bad => .bad) with | .ok a S' => l a S' | .err c fs S' => .err c fs S' | .bad => .bad) = _
  unfold bnd
  cases m S <;> rfl
theorem bnd_of {α β : Type} {m : M α} {k : α → M β} {S S' : Sto} {a : α} (h : m S = .ok a S') : bnd m k S = k a S' := by
  unfold bnd; rw [h]
def alloc (c : Cell) : M Nat := fun S => .ok S.length (S ++ [c])
def getC (n : Nat) : M Cell := fun S => match S[n]? with
  | some c => .ok c S
  | none => .bad
def setC (n : Nat) (c : Cell) : M Unit := fun S => .ok () (S.set n c)

/-! ### what stands for what -/
/-- the written part, its dicts, its classes -/
structure Wd where
  K : PySem.W.Frag
  w : World
  cls : Nat → Addr

def TupAt (G : Wd) (H : Hp) (a : Addr) (xs : List V) : Prop := H a = some (.tup xs) ∨
    ∃ (o : Obj) (its : Array Value) (n : Nat), G.K.lookup a = some o ∧ o.cls = .type "tuple" ∧ o.data = .seq its n ∧ its.size ≤ sizeLine ∧ Vals xs its.toList
theorem TupAt.sq' {G : Wd} {H : Hp} {a : Addr} {xs : List V} (h : TupAt G H a xs) : SqT G.K H a xs := by
  rcases h with h | h
  · exact .inl (.inl h)
  · exact .inr h

/-- a dict of the module, its keys texts, its values ints or texts -/
def KdAt (G : Wd) (a : Addr) (kvs : List (Str × Key)) : Prop := (∃ es n, KDict G.K G.w a es n) ∧ ∀ x, ∃ r, PySem.W.nsIn G.K a x = some r ∧ RelO ((kvs.lookup x).map kV) r
/-- a list that never changes: the script, or one of the module's -/
def KlAt (G : Wd) (H : Hp) (a : Addr) (ns : List Int) : Prop := (∃ o, H a = some (.frz o (.lst (ns.map V.int)))) ∨
  ∃ (o : Obj) (its : Array Value) (n : Nat), G.K.lookup a = some o ∧ o.cls = .type "list" ∧ o.dict = none ∧ o.data = .seq its n ∧ its.size ≤ sizeLine ∧ Vals (ns.map V.int) its.toList
theorem KlAt.sq {G : Wd} {H : Hp} {a : Addr} {ns : List Int} (h : KlAt G H a ns) : SqL G.K H a (ns.map V.int) := by
  rcases h with ⟨o, h⟩ | h
  · exact .inl (.inr ⟨o, h⟩)
  · exact .inr h
mutual
def DV (G : Wd) (ι : List Addr) (H : Hp) : D → V → Prop
  | .non, v => v = .non
  | .bl b, v => v = .bl b
  | .int i, v => v = .int i
  | .str x, v => v = .str x
  | .tup ds, v => ∃ a xs, v = .ref a ∧ TupAt G H a xs ∧ DVs G ι H ds xs
  | .obj n, v => ∃ a, ι[n]? = some a ∧ v = .ref a
  | .kd kvs, v => ∃ a, v = .ref a ∧ KdAt G a kvs
  | .kl ns, v => ∃ a, v = .ref a ∧ KlAt G H a ns
def DVs (G : Wd) (ι : List Addr) (H : Hp) : List D → List V → Prop
  | [], xs => xs = []
  | d :: ds, xs => ∃ v vs, xs = v :: vs ∧ DV G ι H d v ∧ DVs G ι H ds vs
end

/-- tuples stand -/
def fixd : HO → Bool
  | .tup _ => true
  | .frz _ _ => true
  | _ => false
def Ext (H H' : Hp) : Prop := ∀ a u, fixd u = true → H a = some u → H' a = some u
theorem Ext.refl (H : Hp) : Ext H H := fun _ _ _ h => h
theorem Ext.trans {H H1 H2 : Hp} (a : Ext H H1) (b : Ext H1 H2) : Ext H H2 := fun x o f h => b x o f (a x o f h)
theorem Ext.new {H : Hp} {p : Addr} {o : HO} (h : H p = none) : Ext H (upd H p o) := fun a u _ e => by
  rw [upd_ne (ne_of_none e h)]; exact e
theorem Ext.mut {H : Hp} {p : Addr} {o u : HO} (h : H p = some u) (nt : fixd u = false) : Ext H (upd H p o) := fun a v hv e => by
  have ne : a ≠ p := fun z => by
    rw [z, h] at e
    cases e
    rw [nt] at hv
    cases hv
  rw [upd_ne ne]; exact e
structure GrowE (ι : List Addr) (H : Hp) (ι' : List Addr) (H' : Hp) : Prop where
  pre : ∃ more, ι' = ι ++ more
  ext : Ext H H'
theorem GrowE.same {ι : List Addr} {H H' : Hp} (e : Ext H H') : GrowE ι H ι H' := ⟨⟨[], by simp⟩, e⟩
theorem GrowE.at {ι ι' : List Addr} {H H' : Hp} (g : GrowE ι H ι' H') {n : Nat} {a : Addr} (h : ι[n]? = some a) : ι'[n]? = some a := by
  obtain ⟨m, e⟩ := g.pre
  rw [e, List.getElem?_append_left (List.getElem?_eq_some_iff.mp h).1]
  exact h
/-- .. new cells are at new places, what is not in the store stands, nothing is lost -/
structure Grow (ι : List Addr) (H : Hp) (ι' : List Addr) (H' : Hp) : Prop where
  pre : ∃ more, ι' = ι ++ more ∧ ∀ a ∈ more, H a = none
  ext : Ext H H'
  frm : ∀ a o, H a = some o → a ∉ ι → H' a = some o
  alv : ∀ a o, H a = some o → ∃ o', H' a = some o'
theorem Grow.e {ι ι' : List Addr} {H H' : Hp} (g : Grow ι H ι' H') : GrowE ι H ι' H' := ⟨let ⟨m, e, _⟩ := g.pre; ⟨m, e⟩, g.ext⟩
theorem Grow.refl (ι : List Addr) (H : Hp) : Grow ι H ι H := ⟨⟨[], by simp, fun _ h => nomatch h⟩, Ext.refl H, fun _ _ h _ => h, fun _ o h => ⟨o, h⟩⟩
theorem Grow.trans {ι ι1 ι2 : List Addr} {H H1 H2 : Hp} (a : Grow ι H ι1 H1) (b : Grow ι1 H1 ι2 H2) : Grow ι H ι2 H2 := by
  obtain ⟨m1, e1, f1⟩ := a.pre
  obtain ⟨m2, e2, f2⟩ := b.pre
  have back : ∀ c, H1 c = none → H c = none := fun c h => by
    cases q : H c with
    | none => rfl
    | some o => obtain ⟨o', h'⟩ := a.alv c o q; rw [h] at h'; cases h'
  refine ⟨⟨m1 ++ m2, by rw [e2, e1, List.append_assoc], fun c hc => ?_⟩, a.ext.trans b.ext, fun c o h n => ?_, fun c o h => ?_⟩
  · rcases List.mem_append.mp hc with h | h
    · exact f1 c h
    · exact back c (f2 c h)
  · refine b.frm c o (a.frm c o h n) fun z => ?_
    rw [e1] at z
    rcases List.mem_append.mp z with z | z
    · exact n z
    · rw [f1 c z] at h; cases h
  · obtain ⟨o', h'⟩ := a.alv c o h
    exact b.alv c o' h'
theorem Grow.new {ι : List Addr} {H : Hp} {p : Addr} {o : HO} (h : H p = none) : Grow ι H ι (upd H p o) :=
  ⟨⟨[], by simp, fun _ h => nomatch h⟩, Ext.new h, fun a u e _ => by rw [upd_ne (ne_of_none e h)]; exact e, fun a u e => ⟨u, by rw [upd_ne (ne_of_none e h)]; exact e⟩⟩
theorem Grow.push {ι : List Addr} {H : Hp} {p : Addr} {o : HO} (h : H p = none) : Grow ι H (ι ++ [p]) (upd H p o) :=
  ⟨⟨[p], rfl, fun a ha => by rw [show a = p by simpa using ha]; exact h⟩, Ext.new h, fun a u e _ => by rw [upd_ne (ne_of_none e h)]; exact e, fun a u e => ⟨u, by rw [upd_ne (ne_of_none e h)]; exact e⟩⟩
theorem Grow.mut {ι : List Addr} {H : Hp} {p : Addr} {o u : HO} (hp : p ∈ ι) (h : H p = some u) (nt : fixd u = false) : Grow ι H ι (upd H p o) :=
  ⟨⟨[], by simp, fun _ h => nomatch h⟩, Ext.mut h nt, fun a v e n => by have ne : a ≠ p := fun z => n (by rw [z]; exact hp); rw [upd_ne ne]; exact e, fun a v e => by
    by_cases q : a = p
    · subst q; exact ⟨o, upd_same⟩
    · exact ⟨v, by rw [upd_ne q]; exact e⟩⟩
theorem TupAt.grow {G : Wd} {H H' : Hp} {a : Addr} {xs : List V} (h : TupAt G H a xs) (e : Ext H H') : TupAt G H' a xs := by
  rcases h with h | h
  · exact .inl (e a (.tup xs) rfl h)
  · exact .inr h
mutual
theorem DV.growE {G : Wd} {ι ι' : List Addr} {H H' : Hp} (g : GrowE ι H ι' H') : ∀ {d : D} {v : V}, DV G ι H d v → DV G ι' H' d v
  | .non, _, h => h
  | .bl _, _, h => h
  | .int _, _, h => h
  | .str _, _, h => h
  | .tup ds, _, ⟨a, xs, e, t, r⟩ => ⟨a, xs, e, t.grow g.ext, DVs.growE g r⟩
  | .obj _, _, ⟨a, e, q⟩ => ⟨a, g.at e, q⟩
  | .kd _, _, h => h
  | .kl _, _, ⟨a, e, q⟩ => ⟨a, e, q.imp (fun ⟨o, z⟩ => ⟨o, g.ext a _ rfl z⟩) fun z => z⟩
theorem DVs.growE {G : Wd} {ι ι' : List Addr} {H H' : Hp} (g : GrowE ι H ι' H') : ∀ {ds : List D} {vs : List V}, DVs G ι H ds vs → DVs G ι' H' ds vs
  | [], _, h => h
  | _ :: _, _, ⟨v, vs, e, a, b⟩ => ⟨v, vs, e, DV.growE g a, DVs.growE g b⟩
end

theorem DVs.length {G : Wd} {ι : List Addr} {H : Hp} : ∀ {ds : List D} {vs : List V}, DVs G ι H ds vs → vs.length = ds.length
  | [], _, h => by rw [show _ = [] from h]; rfl
  | _ :: ds, _, ⟨v, vs, e, _, b⟩ => by rw [e, List.length_cons, List.length_cons, DVs.length b]
theorem DVs.get {G : Wd} {ι : List Addr} {H : Hp} : ∀ {ds : List D} {vs : List V} {i : Nat} {d : D}, DVs G ι H ds vs → ds[i]? = some d → ∃ v, vs[i]? = some v ∧ DV G ι H d v
  | [], _, _, _, _, e => by simp at e
  | _ :: _, _, 0, _, ⟨v, vs, e, a, b⟩, q => by
    simp at q; subst q; subst e
    exact ⟨v, rfl, a⟩
  | _ :: _, _, i + 1, _, ⟨v, vs, e, a, b⟩, q => by
    subst e
    obtain ⟨u, h1, h2⟩ := DVs.get b (by simpa using q)
    exact ⟨u, by simpa using h1, h2⟩
theorem DVs.get' {G : Wd} {ι : List Addr} {H : Hp} {ds : List D} {vs : List V} {i : Nat} {v : V} (h : DVs G ι H ds vs) (e : vs[i]? = some v) : ∃ d, ds[i]? = some d ∧ DV G ι H d v := by
  have hl := h.length
  have hi := (List.getElem?_eq_some_iff.mp e).1
  have hd : i < ds.length := by omega
  obtain ⟨u, h1, h2⟩ := h.get (List.getElem?_eq_getElem hd)
  rw [e] at h1; cases h1
  exact ⟨_, List.getElem?_eq_getElem hd, h2⟩
theorem DVs.append {G : Wd} {ι : List Addr} {H : Hp} : ∀ {ds es : List D} {vs us : List V}, DVs G ι H ds vs → DVs G ι H es us → DVs G ι H (ds ++ es) (vs ++ us)
  | [], _, _, _, h, k => by rw [show _ = [] from h]; exact k
  | _ :: _, _, _, _, ⟨v, vs, e, a, b⟩, k => by
    subst e
    exact ⟨v, vs ++ _, rfl, a, DVs.append b k⟩
theorem DVs.one {G : Wd} {ι : List Addr} {H : Hp} {d : D} {v : V} (h : DV G ι H d v) : DVs G ι H [d] [v] := ⟨v, [], rfl, h, rfl⟩
theorem DVs.take {G : Wd} {ι : List Addr} {H : Hp} : ∀ {ds : List D} {vs : List V} (n : Nat), DVs G ι H ds vs → DVs G ι H (ds.take n) (vs.take n)
  | _, _, 0, _ => by simp [DVs]
  | [], _, _ + 1, h => by rw [show _ = [] from h]; rfl
  | _ :: _, _, n + 1, ⟨v, vs, e, a, b⟩ => by
    subst e
    exact ⟨v, vs.take n, rfl, a, DVs.take n b⟩
theorem DVs.drop {G : Wd} {ι : List Addr} {H : Hp} : ∀ {ds : List D} {vs : List V} (n : Nat), DVs G ι H ds vs → DVs G ι H (ds.drop n) (vs.drop n)
  | _, _, 0, h => h
  | [], _, _ + 1, h => by rw [show _ = [] from h]; rfl
  | _ :: _, _, n + 1, ⟨v, vs, e, a, b⟩ => by
    subst e
    exact DVs.drop n b
theorem DVs.set {G : Wd} {ι : List Addr} {H : Hp} {d : D} {v : V} (h : DV G ι H d v) : ∀ {ds : List D} {vs : List V} (n : Nat), DVs G ι H ds vs → DVs G ι H (ds.set n d) (vs.set n v)
  | [], _, _, k => by rw [show _ = [] from k]; rfl
  | _ :: _, _, 0, ⟨u, vs, e, a, b⟩ => by subst e; exact ⟨v, vs, rfl, h, b⟩
  | _ :: _, _, n + 1, ⟨u, vs, e, a, b⟩ => by subst e; exact ⟨u, vs.set n v, rfl, a, DVs.set h n b⟩
theorem DVs.ints {G : Wd} {ι : List Addr} {H : Hp} : ∀ {ns : List Int} {vs : List V}, DVs G ι H (ns.map D.int) vs → vs = ns.map V.int
  | [], _, h => h
  | n :: ns, _, ⟨v, vs, e, a, b⟩ => by
    subst e
    rw [show v = V.int n from a, DVs.ints (ns := ns) b]
    rfl
theorem DVs.of_ints {G : Wd} {ι : List Addr} {H : Hp} : ∀ (ns : List Int), DVs G ι H (ns.map D.int) (ns.map V.int)
  | [] => rfl
  | n :: ns => ⟨.int n, _, rfl, rfl, DVs.of_ints ns⟩

def KDs (G : Wd) (ι : List Addr) (H : Hp) {κ : Type} : List (κ × D) → List (κ × V) → Prop
  | [], xs => xs = []
  | (k, d) :: ds, xs => ∃ v vs, xs = (k, v) :: vs ∧ DV G ι H d v ∧ KDs G ι H ds vs
theorem KDs.growE {G : Wd} {ι ι' : List Addr} {H H' : Hp} (g : GrowE ι H ι' H') {κ : Type} : ∀ {ds : List (κ × D)} {vs : List (κ × V)}, KDs G ι H ds vs → KDs G ι' H' ds vs
  | [], _, h => h
  | (_, _) :: _, _, ⟨v, vs, e, a, b⟩ => ⟨v, vs, e, a.growE g, KDs.growE g b⟩
theorem KDs.length {G : Wd} {ι : List Addr} {H : Hp} {κ : Type} : ∀ {ds : List (κ × D)} {vs : List (κ × V)}, KDs G ι H ds vs → vs.length = ds.length
  | [], _, h => by rw [show _ = [] from h]; rfl
  | (_, _) :: ds, _, ⟨v, vs, e, _, b⟩ => by rw [e, List.length_cons, List.length_cons, KDs.length b]

/-- a cell of the store at its address -/
def CellV (G : Wd) (ι : List Addr) (H : Hp) (a : Addr) : Cell → Prop
  | .lst ds => ∃ xs, H a = some (.lst xs) ∧ DVs G ι H ds xs
  | .dct kvs => ∃ vs, H a = some (.dK vs) ∧ KDs G ι H kvs vs
  | .set ns => ∃ f, H a = some (.set f ns.length) ∧ ns.Nodup ∧ ∀ i, f i = decide (i ∈ ns)
  | .ins c fs => ∃ dx vs, H a = some (.ins (G.cls c) dx vs) ∧ KDs G ι H fs vs

structure Rel (G : Wd) (ι : List Addr) (S : Sto) (H : Hp) : Prop where
  nd : ι.Nodup
  len : ι.length = S.length
  cell : ∀ (n : Nat) (c : Cell) (a : Addr), S[n]? = some c → ι[n]? = some a → CellV G ι H a c

theorem Rel.at {G : Wd} {ι : List Addr} {S : Sto} {H : Hp} (r : Rel G ι S H) {n : Nat} {a : Addr} (h : ι[n]? = some a) : ∃ c, S[n]? = some c ∧ CellV G ι H a c := by
  have h1 := (List.getElem?_eq_some_iff.mp h).1
  have h2 : n < S.length := by rw [← r.len]; exact h1
  exact ⟨S[n], List.getElem?_eq_getElem h2, r.cell n _ a (List.getElem?_eq_getElem h2) h⟩
theorem CellV.some {G : Wd} {ι : List Addr} {H : Hp} {a : Addr} {c : Cell} (h : CellV G ι H a c) : ∃ o, H a = some o ∧ fixd o = false := by
  cases c with
  | lst _ => obtain ⟨xs, e, _⟩ := h; exact ⟨_, e, rfl⟩
  | dct _ => obtain ⟨xs, e, _⟩ := h; exact ⟨_, e, rfl⟩
  | set _ => obtain ⟨xs, e, _⟩ := h; exact ⟨_, e, rfl⟩
  | ins _ _ => obtain ⟨dx, xs, e, _⟩ := h; exact ⟨_, e, rfl⟩
/-- a cell where its own address is as it was -/
theorem CellV.growE {G : Wd} {ι ι' : List Addr} {H H' : Hp} {a : Addr} {c : Cell} (h : CellV G ι H a c) (g : GrowE ι H ι' H') (e : H' a = H a) : CellV G ι' H' a c := by
  cases c with
  | lst _ => obtain ⟨xs, q, r⟩ := h; exact ⟨xs, e.trans q, r.growE g⟩
  | dct _ => obtain ⟨xs, q, r⟩ := h; exact ⟨xs, e.trans q, r.growE g⟩
  | set _ => obtain ⟨xs, q, r⟩ := h; exact ⟨xs, e.trans q, r⟩
  | ins _ _ => obtain ⟨dx, xs, q, r⟩ := h; exact ⟨dx, xs, e.trans q, r.growE g⟩
/-- the heap grew, the cells as they were -/
theorem Rel.keep {G : Wd} {ι : List Addr} {S : Sto} {H H' : Hp} (r : Rel G ι S H) (e : Ext H H') (k : ∀ a o, H a = some o → fixd o = false → H' a = some o) : Rel G ι S H' := by
  refine ⟨r.nd, r.len, fun n c a h1 h2 => ?_⟩
  have h := r.cell n c a h1 h2
  obtain ⟨o, q, nt⟩ := h.some
  exact h.growE (GrowE.same e) ((k a o q nt).trans q.symm)
theorem Rel.new {G : Wd} {ι : List Addr} {S : Sto} {H : Hp} {p : Addr} {o : HO} (r : Rel G ι S H) (hp : H p = none) : Rel G ι S (upd H p o) :=
  r.keep (Ext.new hp) fun a u q _ => by rw [upd_ne (ne_of_none q hp)]; exact q
/-- a new cell -/
theorem Rel.push {G : Wd} {ι : List Addr} {S : Sto} {H : Hp} {p : Addr} {o : HO} {c : Cell} (r : Rel G ι S H) (hp : H p = none) (hc : CellV G (ι ++ [p]) (upd H p o) p c) : Rel G (ι ++ [p]) (S ++ [c]) (upd H p o) := by
  have g : GrowE ι H (ι ++ [p]) (upd H p o) := ⟨⟨[p], rfl⟩, Ext.new hp⟩
  refine ⟨?_, by rw [List.length_append, List.length_append, r.len]; rfl, fun n c' a h1 h2 => ?_⟩
  · refine List.nodup_append.mpr ⟨r.nd, by simp, fun a ha b hb e => ?_⟩
    have e' : b = p := by simpa using hb
    subst e; subst e'
    obtain ⟨n, hn, hn2⟩ := List.getElem_of_mem ha
    obtain ⟨c', _, h⟩ := r.at (n := n) (by rw [List.getElem?_eq_getElem hn, hn2])
    obtain ⟨u, q, _⟩ := h.some
    rw [hp] at q; cases q
  · by_cases hn : n < S.length
    · rw [List.getElem?_append_left hn] at h1
      rw [List.getElem?_append_left (by rw [r.len]; exact hn)] at h2
      have h := r.cell n c' a h1 h2
      obtain ⟨u, q, _⟩ := h.some
      exact h.growE g (upd_ne (ne_of_none q hp))
    · have hlt := (List.getElem?_eq_some_iff.mp h1).1
      rw [List.length_append] at hlt
      have e : n = S.length := by simp at hlt; omega
      subst e
      rw [List.getElem?_append_right (Nat.le_refl _)] at h1
      rw [List.getElem?_append_right (by rw [r.len]; exact Nat.le_refl _), r.len] at h2
      simp at h1 h2
      subst h1; subst h2
      exact hc
/-- a cell changed -/
theorem Rel.upd {G : Wd} {ι : List Addr} {S : Sto} {H : Hp} {n : Nat} {a : Addr} {o : HO} {c : Cell} (r : Rel G ι S H) (ha : ι[n]? = some a) (hc : CellV G ι (L2.upd H a o) a c) : Rel G ι (S.set n c) (L2.upd H a o) ∧ Ext H (L2.upd H a o) := by
  obtain ⟨c0, hn, h0⟩ := r.at ha
  obtain ⟨u, q, nt⟩ := h0.some
  have ex : Ext H (L2.upd H a o) := Ext.mut q nt
  refine ⟨⟨r.nd, by rw [List.length_set]; exact r.len, fun m c' b h1 h2 => ?_⟩, ex⟩
  by_cases hm : n = m
  · subst hm
    rw [ha] at h2; cases h2
    have hl := (List.getElem?_eq_some_iff.mp hn).1
    rw [List.getElem?_set_self hl] at h1
    cases h1
    exact hc
  · rw [List.getElem?_set_ne hm] at h1
    have h := r.cell m c' b h1 h2
    have hb : b ≠ a := fun e => by
      subst e
      exact hm (L2.nd_ix r.nd ha h2)
    exact h.growE (GrowE.same ex) (upd_ne hb)

theorem DV.grow {G : Wd} {ι ι' : List Addr} {H H' : Hp} {d : D} {v : V} (h : DV G ι H d v) (g : Grow ι H ι' H') : DV G ι' H' d v := DV.growE g.e h
theorem DVs.grow {G : Wd} {ι ι' : List Addr} {H H' : Hp} {d : List D} {v : List V} (h : DVs G ι H d v) (g : Grow ι H ι' H') : DVs G ι' H' d v := DVs.growE g.e h
theorem KDs.grow {G : Wd} {ι ι' : List Addr} {H H' : Hp} {κ : Type} {d : List (κ × D)} {v : List (κ × V)} (h : KDs G ι H d v) (g : Grow ι H ι' H') : KDs G ι' H' d v := KDs.growE g.e h
/-! ### what follows from a result -/
def Ok {α : Type} (G : Wd) (ι : List Addr) (H : Hp) (r : R α) (P : List Addr → Sto → Hp → α → Prop) (PE : List Addr → Sto → Hp → Nat → List (Str × D) → Prop) : Prop := match r with
  | .ok a S' => ∀ ι' H', Grow ι H ι' H' → Rel G ι' S' H' → P ι' S' H' a
  | .err c fs S' => ∀ ι' H', Grow ι H ι' H' → Rel G ι' S' H' → PE ι' S' H' c fs
  | .bad => False
section
variable {α β : Type} {G : Wd} {ι ι' : List Addr} {H H' : Hp} {r : R α} {P P' : List Addr → Sto → Hp → α → Prop} {PE PE' : List Addr → Sto → Hp → Nat → List (Str × D) → Prop}
theorem Ok.base (h : Ok G ι H r P PE) (g : Grow ι H ι' H') : Ok G ι' H' r P PE := by
  cases r with
  | ok a S' => exact fun ι2 H2 g2 r2 => h ι2 H2 (g.trans g2) r2
  | err c fs S' => exact fun ι2 H2 g2 r2 => h ι2 H2 (g.trans g2) r2
  | bad => exact h
theorem Ok.imp (h : Ok G ι H r P PE) (f : ∀ ι' S' H' a, Grow ι H ι' H' → Rel G ι' S' H' → P ι' S' H' a → P' ι' S' H' a) (fe : ∀ ι' S' H' c fs, PE ι' S' H' c fs → PE' ι' S' H' c fs) : Ok G ι H r P' PE' := by
  cases r with
  | ok a S' => exact fun ι2 H2 g2 r2 => f _ _ _ _ g2 r2 (h ι2 H2 g2 r2)
  | err c fs S' => exact fun ι2 H2 g2 r2 => fe _ _ _ _ _ (h ι2 H2 g2 r2)
  | bad => exact h
theorem Ok.bnd {m : M α} {k : α → M β} {S : Sto} {P : List Addr → Sto → Hp → β → Prop} (h : Ok G ι H (bnd m k S) P PE) : Ok G ι H (m S) (fun ι' S' H' a => Ok G ι' H' (k a S') P PE) PE := by
  unfold ML.bnd at h
  cases hm : m S with
  | ok a S' =>
    rw [hm] at h
    exact fun ι2 H2 g2 _ => Ok.base h g2
  | err c fs S' => rw [hm] at h; exact h
  | bad => rw [hm] at h; exact h
theorem Ok.fin {a : α} {S : Sto} (h : Ok G ι H (.ok a S) P PE) (rel : Rel G ι S H) : P ι S H a := h ι H (Grow.refl _ _) rel
end
end ML

set_option maxHeartbeats 1000000
namespace ML
open PySem PySem.Spec PyProof.Rows L2

abbrev Loc := List (Option D)
structure EnvOk (G : Wd) (ι : List Addr) (H : Hp) (σ : L2.St) (ρ : Loc) : Prop where
  len : σ.length = ρ.length
  at_ : ∀ (i : Nat) (d : D), ρ[i]? = some (some d) → ∃ v, σ[i]? = some (some v) ∧ DV G ι H d v
theorem EnvOk.grow {G : Wd} {ι ι' : List Addr} {H H' : Hp} {σ : L2.St} {ρ : Loc} (e : EnvOk G ι H σ ρ) (g : Grow ι H ι' H') : EnvOk G ι' H' σ ρ :=
  ⟨e.len, fun i d h => let ⟨v, h1, h2⟩ := e.at_ i d h; ⟨v, h1, h2.grow g⟩⟩
theorem EnvOk.set {G : Wd} {ι : List Addr} {H : Hp} {σ : L2.St} {ρ : Loc} {d : D} {v : V} (e : EnvOk G ι H σ ρ) (i : Nat) (h : DV G ι H d v) : EnvOk G ι H (σ.set i (some v)) (ρ.set i (some d)) := by
  refine ⟨by rw [List.length_set, List.length_set]; exact e.len, fun j x hj => ?_⟩
  by_cases q : i = j
  · subst q
    have hl : i < ρ.length := by
      have := (List.getElem?_eq_some_iff.mp hj).1
      rwa [List.length_set] at this
    rw [List.getElem?_set_self hl] at hj
    cases hj
    exact ⟨v, by rw [List.getElem?_set_self (by rw [e.len]; exact hl)], h⟩
  · rw [List.getElem?_set_ne q] at hj
    obtain ⟨u, h1, h2⟩ := e.at_ j x hj
    exact ⟨u, by rw [List.getElem?_set_ne q]; exact h1, h2⟩
/-- less is known -/
theorem EnvOk.less {G : Wd} {ι : List Addr} {H : Hp} {σ : L2.St} {ρ ρ' : Loc} (e : EnvOk G ι H σ ρ) (hl : ρ'.length = ρ.length) (h : ∀ (i : Nat) (d : D), ρ'[i]? = some (some d) → ρ[i]? = some (some d)) : EnvOk G ι H σ ρ' :=
  ⟨e.len.trans hl.symm, fun i d q => e.at_ i d (h i d q)⟩

def ErrV (G : Wd) (ι : List Addr) (H : Hp) (fs : List (Str × D)) (ad : Option Addr) : Prop := (fs = [] ∧ ad = none) ∨ ∃ a vs, ad = some a ∧ H a = some (.xd vs) ∧ KDs G ι H fs vs
def PErr (G : Wd) (W : WX) (σ : L2.St) : List Addr → Sto → Hp → Nat → List (Str × D) → Prop := fun ι' _ H' c fs => ∀ ad, ErrV G ι' H' fs ad → W (.ref (G.cls c)) ad σ H'

/-! ### the semantics of pieces of syntax, as readings -/
section
variable (X : Cx)
def wE (e : Expr) : TE := fun σ H Q => ∀ pins s, Inv X pins σ H s → wpAny (model X.prog X.w) X.A (eval e X.env) (EP X pins σ Q) X.xe s
def wT (e : Expr) : TT := fun σ H Q => ∀ pins s, Inv X pins σ H s → wpAny (model X.prog X.w) X.A (isTrue e X.env (eval e X.env)) (TP X pins σ Q) X.xe s
def wW (e : Expr) : TT := fun σ H Q => ∀ whole pins s, Inv X pins σ H s → wpAny (model X.prog X.w) X.A (isTrue e X.env whole) (TP X pins σ Q) X.xe s
def wA (es : List Expr) : TA := fun σ H Q => ∀ pos pins s, Inv X pins σ H s → wpAny (model X.prog X.w) X.A (spliced (backTo pos (starEach es X.env))) (AP X pins σ Q) X.xe s
def wOp (f : Value → Value → Sem Value) (x y : V) (H : Hp) (Q : VK) : Prop := ∀ pins s σ v u, Inv X pins σ H s → RelV x v → RelV y u → wpAny (model X.prog X.w) X.A (f v u) (EP X pins σ Q) X.xe s
def wUn (f : Value → Sem Value) (x : V) (H : Hp) (Q : VK) : Prop := ∀ pins s σ v, Inv X pins σ H s → RelV x v → wpAny (model X.prog X.w) X.A (f v) (EP X pins σ Q) X.xe s
def wCall (f : Value) (xs : List V) (H : Hp) (Q : VK) : Prop := ∀ pins s σ us, Inv X pins σ H s → Vals xs us → wpAny (model X.prog X.w) X.A (call f us) (EP X pins σ Q) X.xe s
def wMt (id : String) (x : V) (xs : List V) (H : Hp) (Q : VK) : Prop := ∀ pins s σ v us, Inv X pins σ H s → RelV x v → Vals xs us → wpAny (model X.prog X.w) X.A (call (.builtin id) (v :: us)) (EP X pins σ Q) X.xe s
end
section
variable {X : Cx} {e a b : Expr} {es : List Expr} {σ : L2.St} {H : Hp}
theorem pE : PE X e (wE X e) := ⟨fun pins s σ H Q I h => h pins s I⟩
theorem pT : PT X e (wT X e) := ⟨fun pins s σ H Q I h => h pins s I⟩
theorem pW : PW X e (wW X e) := ⟨fun wh pins s σ H Q I h => h wh pins s I⟩
theorem pA : PA X es (wA X es) := ⟨fun pos pins s σ H Q I h => h pos pins s I⟩
theorem PEw {t : TE} {Q : VK} (h : PE X e t) (q : t σ H Q) : wE X e σ H Q := fun pins s I => h.run pins s σ H Q I q
theorem PTw {t : TT} {Q : Bool → Hp → Prop} (h : PT X e t) (q : t σ H Q) : wT X e σ H Q := fun pins s I => h.run pins s σ H Q I q
theorem PWw {t : TT} {Q : Bool → Hp → Prop} (h : PW X e t) (q : t σ H Q) : wW X e σ H Q := fun wh pins s I => h.run wh pins s σ H Q I q
theorem PAw {t : TA} {Q : List V → Hp → Prop} (h : PA X es t) (q : t σ H Q) : wA X es σ H Q := fun pos pins s I => h.run pos pins s σ H Q I q
theorem pOp {f : Value → Value → Sem Value} : OpR X f (wOp X f) := fun pins s σ H x y v u Q I rx ry q => q pins s σ v u I rx ry
theorem OpRw {f : Value → Value → Sem Value} {r : R2} {x y : V} {Q : VK} (h : OpR X f r) (q : r x y H Q) : wOp X f x y H Q := fun pins s σ v u I rx ry => h pins s σ H x y v u Q I rx ry q
theorem pUn {f : Value → Sem Value} : UnR X f (wUn X f) := fun pins s σ H x v Q I rx q => q pins s σ v I rx
theorem UnRw {f : Value → Sem Value} {r : V → Hp → VK → Prop} {x : V} {Q : VK} (h : UnR X f r) (q : r x H Q) : wUn X f x H Q := fun pins s σ v I rx => h pins s σ H x v Q I rx q
theorem pCall {f : Value} : CallR X f (wCall X f) := fun pins s σ H xs us Q I r q => q pins s σ us I r
theorem CallRw {f : Value} {r : List V → Hp → VK → Prop} {xs : List V} {Q : VK} (h : CallR X f r) (q : r xs H Q) : wCall X f xs H Q := fun pins s σ us I rs => h pins s σ H xs us Q I rs q
theorem pMt {id : String} : MtR X id (wMt X id) := fun pins s σ H x xs v us Q I r rs q => q pins s σ v us I r rs
theorem MtRw {id : String} {r : V → List V → Hp → VK → Prop} {x : V} {xs : List V} {Q : VK} (h : MtR X id r) (q : r x xs H Q) : wMt X id x xs H Q := fun pins s σ v us I rx rs => h pins s σ H x xs v us Q I rx rs q
end

/-! ### what a reading evaluates to -/
abbrev ME (α : Type) := Loc → M α
def EvD (G : Wd) (W : WX) (te : TE) (m : ME D) : Prop := ∀ ι S H σ ρ Q, Rel G ι S H → EnvOk G ι H σ ρ → Ok G ι H (m ρ S) (fun ι' _ H' d => ∀ v, DV G ι' H' d v → Q v H') (PErr G W σ) → te σ H Q
def EvT (G : Wd) (W : WX) (te : TT) (m : ME Bool) : Prop := ∀ ι S H σ ρ Q, Rel G ι S H → EnvOk G ι H σ ρ → Ok G ι H (m ρ S) (fun _ _ H' b => Q b H') (PErr G W σ) → te σ H Q
def EvA (G : Wd) (W : WX) (te : TA) (m : ME (List D)) : Prop := ∀ ι S H σ ρ Q, Rel G ι S H → EnvOk G ι H σ ρ → Ok G ι H (m ρ S) (fun ι' _ H' ds => ∀ vs, DVs G ι' H' ds vs → Q vs H') (PErr G W σ) → te σ H Q
def SE (X : Cx) (G : Wd) (W : WX) (e : Expr) (m : ME D) : Prop := EvD G W (wE X e) m
def ST (X : Cx) (G : Wd) (W : WX) (e : Expr) (m : ME Bool) : Prop := EvT G W (wT X e) m
def SW (X : Cx) (G : Wd) (W : WX) (e : Expr) (m : ME Bool) : Prop := EvT G W (wW X e) m
def SA (X : Cx) (G : Wd) (W : WX) (es : List Expr) (m : ME (List D)) : Prop := EvA G W (wA X es) m

abbrev PQ (G : Wd) (Q : VK) : List Addr → Sto → Hp → D → Prop := fun ι' _ H' d => ∀ v, DV G ι' H' d v → Q v H'
/-- operations by values: none lets an error out -/
def OpD (X : Cx) (G : Wd) (f : Value → Value → Sem Value) (g : D → D → M D) : Prop := ∀ ι S H x y dx dy Q PE, Rel G ι S H → DV G ι H dx x → DV G ι H dy y → Ok G ι H (g dx dy S) (PQ G Q) PE → wOp X f x y H Q
def UnD (X : Cx) (G : Wd) (f : Value → Sem Value) (g : D → M D) : Prop := ∀ ι S H x dx Q PE, Rel G ι S H → DV G ι H dx x → Ok G ι H (g dx S) (PQ G Q) PE → wUn X f x H Q
def CallD (X : Cx) (G : Wd) (f : Value) (g : List D → M D) : Prop := ∀ ι S H xs ds Q PE, Rel G ι S H → DVs G ι H ds xs → Ok G ι H (g ds S) (PQ G Q) PE → wCall X f xs H Q
def MtD (X : Cx) (G : Wd) (id : String) (g : D → List D → M D) : Prop := ∀ ι S H x xs d ds Q PE, Rel G ι S H → DV G ι H d x → DVs G ι H ds xs → Ok G ι H (g d ds S) (PQ G Q) PE → wMt X id x xs H Q

section
variable {X : Cx} {G : Wd} {W : WX} {e a b c : Expr} {es : List Expr} {pos : Pos} {ma mb mc : ME D}
theorem SE.bad : SE X G W e (fun _ => ML.bad) := fun _ _ _ _ _ _ _ _ h => h.elim
theorem ST.bad : ST X G W e (fun _ => ML.bad) := fun _ _ _ _ _ _ _ _ h => h.elim
theorem SA.bad : SA X G W es (fun _ => ML.bad) := fun _ _ _ _ _ _ _ _ h => h.elim
theorem SE.get {te : TE} {m : ME D} (h : PE X e te) (k : EvD G W te m) : SE X G W e m := fun ι S H σ ρ Q r en o => PEw h (k ι S H σ ρ Q r en o)

/-- a value by its D -/
theorem SE.con {d : D} (h : ∀ ι H, ∃ v, DV G ι H d v ∧ ∀ σ Q, Q v H → wE X e σ H Q) : SE X G W e (fun _ => ret d) := fun ι S H σ ρ Q r en o => by
  obtain ⟨v, hv, k⟩ := h ι H
  exact k σ Q (Ok.fin o r v hv)
/-- a slot -/
def getL (ρ : Loc) (i : Nat) : M D := fun S => match ρ[i]? with
  | some (some d) => .ok d S
  | _ => .bad
theorem SE.var {x : Str} {i : Nat} (hN : X.N[i]? = some x) (hv : Vis X.env.scope x) (hd : (x == ("__debug__" : Str)) = false) (hc : (x == ("__classdict__" : Str)) = false) : SE X G W (.Name x pos) (fun ρ => getL ρ i) := fun ι S H σ ρ Q r en o => by
  have o : Ok G ι H (match ρ[i]? with | some (some d) => .ok d S | _ => .bad) (PQ G Q) (PErr G W σ) := o
  cases h : ρ[i]? with
  | none => rw [h] at o; exact o.elim
  | some u =>
    rw [h] at o
    cases u with
    | none => exact o.elim
    | some d =>
      obtain ⟨v, h1, h2⟩ := en.at_ i d h
      exact PEw (pe_var hN hv hd hc) ⟨v, h1, Ok.fin o r v h2⟩
theorem SE.bin {op : Operator} {g : D → D → M D} (ho : OpD X G (binaryOp op) g) (ha : SE X G W a ma) (hb : SE X G W b mb) : SE X G W (.BinOp a op b pos) (fun ρ => bnd (ma ρ) fun x => bnd (mb ρ) fun y => g x y) := fun ι S H σ ρ Q r en o => by
  refine PEw (pe_op pOp pE pE) ?_
  refine ha ι S H σ ρ _ r en (o.bnd.imp (fun ι1 S1 H1 dx g1 r1 h1 x hx => ?_) fun _ _ _ _ _ z => z)
  refine hb ι1 S1 H1 σ ρ _ r1 (en.grow g1) (h1.bnd.imp (fun ι2 S2 H2 dy g2 r2 h2 y hy => ?_) fun _ _ _ _ _ z => z)
  exact ho ι2 S2 H2 x y dx dy Q _ r2 (hx.grow g2) hy h2
theorem SE.un {op : UnaryOp} {g : D → M D} (ho : UnD X G (unaryOp op) g) (ha : SE X G W a ma) : SE X G W (.UnaryOp op a pos) (fun ρ => bnd (ma ρ) g) := fun ι S H σ ρ Q r en o => by
  refine PEw (pe_un pUn pE) ?_
  refine ha ι S H σ ρ _ r en (o.bnd.imp (fun ι1 S1 H1 dx g1 r1 h1 x hx => ?_) fun _ _ _ _ _ z => z)
  exact ho ι1 S1 H1 x dx Q _ r1 hx h1
theorem SE.cmp {op : CmpOp} {g : D → D → M D} (ho : OpD X G (compareOp op) g) (ha : SE X G W a ma) (hb : SE X G W b mb) (hm : behindInMarks op b = false) : SE X G W (.Compare a [op] [b] pos) (fun ρ => bnd (ma ρ) fun x => bnd (mb ρ) fun y => g x y) := fun ι S H σ ρ Q r en o => by
  refine PEw (pe_cmpR pOp pE pE hm) ?_
  refine ha ι S H σ ρ _ r en (o.bnd.imp (fun ι1 S1 H1 dx g1 r1 h1 x hx => ?_) fun _ _ _ _ _ z => z)
  refine hb ι1 S1 H1 σ ρ _ r1 (en.grow g1) (h1.bnd.imp (fun ι2 S2 H2 dy g2 r2 h2 y hy => ?_) fun _ _ _ _ _ z => z)
  exact ho ι2 S2 H2 x y dx dy Q _ r2 (hx.grow g2) hy h2
/-- a bool, as a test -/
def asB : D → M Bool
  | .bl b => ret b
  | _ => bad
theorem asB_ok {ι : List Addr} {S : Sto} {H : Hp} {d : D} {v : V} {Q : Bool → Hp → Prop} {PE} (r : Rel G ι S H) (hv : DV G ι H d v) (o : Ok G ι H (asB d S) (fun _ _ H' b => Q b H') PE) : ∃ k, v = .bl k ∧ Q k H := by
  cases d with
  | bl b => exact ⟨b, hv, Ok.fin o r⟩
  | _ => exact o.elim
theorem ST.cmp {op : CmpOp} {g : D → D → M D} (ho : OpD X G (compareOp op) g) (ha : SE X G W a ma) (hb : SE X G W b mb) (hm : behindInMarks op b = false) : ST X G W (.Compare a [op] [b] pos) (fun ρ => bnd (ma ρ) fun x => bnd (mb ρ) fun y => bnd (g x y) asB) := fun ι S H σ ρ Q r en o => by
  refine PTw (pt_cmpR pOp pE pE hm) ?_
  refine ha ι S H σ ρ _ r en (o.bnd.imp (fun ι1 S1 H1 dx g1 r1 h1 x hx => ?_) fun _ _ _ _ _ z => z)
  refine hb ι1 S1 H1 σ ρ _ r1 (en.grow g1) (h1.bnd.imp (fun ι2 S2 H2 dy g2 r2 h2 y hy => ?_) fun _ _ _ _ _ z => z)
  refine ho ι2 S2 H2 x y dx dy _ _ r2 (hx.grow g2) hy (h2.bnd.imp (fun ι3 S3 H3 dz g3 r3 h3 z hz => ?_) fun _ _ _ _ _ z => z)
  exact asB_ok r3 hz h3
theorem SE.chain {op op' : CmpOp} {g g' : D → D → M D} (ho : OpD X G (compareOp op) g) (ho' : OpD X G (compareOp op') g') (ha : SE X G W a ma) (hb : SE X G W b mb) (hc : SE X G W c mc)
    (hm : behindInMarks op' c = false) : SE X G W (.Compare a [op, op'] [b, c] pos) (fun ρ => bnd (ma ρ) fun x => bnd (mb ρ) fun y => bnd (bnd (g x y) asB) fun k => if k = true then bnd (mc ρ) fun z => g' y z else ret (.bl false)) := fun ι S H σ ρ Q r en o => by
  refine PEw (pe_chain pOp pOp pE pE pE hm) ?_
  refine ha ι S H σ ρ _ r en (o.bnd.imp (fun ι1 S1 H1 dx g1 r1 h1 x hx => ?_) fun _ _ _ _ _ z => z)
  refine hb ι1 S1 H1 σ ρ _ r1 (en.grow g1) (h1.bnd.imp (fun ι2 S2 H2 dy g2 r2 h2 y hy => ?_) fun _ _ _ _ _ z => z)
  refine ho ι2 S2 H2 x y dx dy _ _ r2 (hx.grow g2) hy (h2.bnd.bnd.imp (fun ι3 S3 H3 dz g3 r3 h3 z hz => ?_) fun _ _ _ _ _ z => z)
  obtain ⟨k, ek, h4⟩ := asB_ok (Q := fun k H' => if k = true then wE X c σ H' fun z H3 => wOp X (compareOp op') y z H3 Q else Q (.bl false) H') r3 hz (h3.imp (fun ι4 S4 H4 k g4 r4 h4 => by
    cases k with
    | true =>
      rw [if_pos rfl]
      have h4 : Ok G ι4 H4 (bnd (mc ρ) (fun z => g' dy z) S4) (PQ G Q) (PErr G W σ) := h4
      refine hc ι4 S4 H4 σ ρ _ r4 (en.grow (((g1.trans g2).trans g3).trans g4)) (h4.bnd.imp (fun ι5 S5 H5 du g5 r5 h5 u hu => ?_) fun _ _ _ _ _ z => z)
      exact ho' ι5 S5 H5 y u dy du Q _ r5 (hy.grow ((g3.trans g4).trans g5)) hu h5
    | false =>
      rw [if_neg Bool.false_ne_true]
      exact Ok.fin (P := PQ G Q) h4 r4 (.bl false) rfl) fun _ _ _ _ _ z => z)
  exact ⟨k, ek, h4⟩
/-- a test from a value that is a bool -/
theorem ST.val (h : SE X G W e ma) (he : ∀ whole, isTrue e X.env whole = (do let v ← whole; standAt e.pos; holding [v] (truthy v))) : ST X G W e (fun ρ => bnd (ma ρ) asB) := fun ι S H σ ρ Q r en o => by
  refine PTw (pt_val pE he) ?_
  exact h ι S H σ ρ _ r en (o.bnd.imp (fun ι1 S1 H1 dx g1 r1 h1 x hx => asB_ok r1 hx h1) fun _ _ _ _ _ z => z)
theorem ST.chain {op op' : CmpOp} {g g' : D → D → M D} (ho : OpD X G (compareOp op) g) (ho' : OpD X G (compareOp op') g') (ha : SE X G W a ma) (hb : SE X G W b mb) (hc : SE X G W c mc)
    (hm : behindInMarks op' c = false) : ST X G W (.Compare a [op, op'] [b, c] pos) (fun ρ => bnd (ma ρ) fun x => bnd (mb ρ) fun y => bnd (bnd (g x y) asB) fun k => if k = true then bnd (mc ρ) fun z => bnd (g' y z) asB else ret false) := fun ι S H σ ρ Q r en o => by
  refine PTw (pt_chain pOp pOp pE pE pE hm) ?_
  refine ha ι S H σ ρ _ r en (o.bnd.imp (fun ι1 S1 H1 dx g1 r1 h1 x hx => ?_) fun _ _ _ _ _ z => z)
  refine hb ι1 S1 H1 σ ρ _ r1 (en.grow g1) (h1.bnd.imp (fun ι2 S2 H2 dy g2 r2 h2 y hy => ?_) fun _ _ _ _ _ z => z)
  refine ho ι2 S2 H2 x y dx dy _ _ r2 (hx.grow g2) hy (h2.bnd.bnd.imp (fun ι3 S3 H3 dz g3 r3 h3 z hz => ?_) fun _ _ _ _ _ z => z)
  obtain ⟨k, ek, h4⟩ := asB_ok (Q := fun k H' => if k = true then wE X c σ H' fun z H3 => wOp X (compareOp op') y z H3 (fun w H4 => ∃ k, w = .bl k ∧ Q k H4) else (fun x H' => ∃ k, x = V.bl k ∧ Q k H') (.bl false) H') r3 hz (h3.imp (fun ι4 S4 H4 k g4 r4 h4 => by
    cases k with
    | true =>
      rw [if_pos rfl]
      have h4 : Ok G ι4 H4 (bnd (mc ρ) (fun z => bnd (g' dy z) asB) S4) (fun _ _ H' b => Q b H') (PErr G W σ) := h4
      refine hc ι4 S4 H4 σ ρ _ r4 (en.grow (((g1.trans g2).trans g3).trans g4)) (h4.bnd.imp (fun ι5 S5 H5 du g5 r5 h5 u hu => ?_) fun _ _ _ _ _ z => z)
      exact ho' ι5 S5 H5 y u dy du _ _ r5 (hy.grow ((g3.trans g4).trans g5)) hu (h5.bnd.imp (fun ι6 S6 H6 dw g6 r6 h6 w hw => asB_ok r6 hw h6) fun _ _ _ _ _ z => z)
    | false =>
      rw [if_neg Bool.false_ne_true]
      exact ⟨false, rfl, Ok.fin (P := fun _ _ H' b => Q b H') h4 r4⟩) fun _ _ _ _ _ z => z)
  exact ⟨k, ek, h4⟩
/-! ### and, or, not, if -/
variable {ta tb : ME Bool} {rest : List Expr}
theorem SW.t (h : SW X G W e ta) : ST X G W e ta := fun ι S H σ ρ Q r en o => PTw (PW.pt pW) (h ι S H σ ρ Q r en o)
theorem SW.and1 (h : ST X G W a ta) : SW X G W (.BoolOp .And [a] pos) ta := fun ι S H σ ρ Q r en o => PWw (pw_and1 pT) (h ι S H σ ρ Q r en o)
theorem SW.or1 (h : ST X G W a ta) : SW X G W (.BoolOp .Or [a] pos) ta := fun ι S H σ ρ Q r en o => PWw (pw_or1 pT) (h ι S H σ ρ Q r en o)
theorem SW.and (h : ST X G W a ta) (k : SW X G W (.BoolOp .And (b :: rest) pos) tb) : SW X G W (.BoolOp .And (a :: b :: rest) pos) (fun ρ => bnd (ta ρ) fun c => if c = true then tb ρ else ret false) := fun ι S H σ ρ Q r en o => by
  refine PWw (pw_and pT pW) ?_
  refine h ι S H σ ρ _ r en (o.bnd.imp (fun ι1 S1 H1 c g1 r1 h1 => ?_) fun _ _ _ _ _ z => z)
  cases c with
  | true => exact iteT (k ι1 S1 H1 σ ρ Q r1 (en.grow g1) h1)
  | false => exact iteF (Ok.fin (P := fun _ _ H' b => Q b H') h1 r1)
theorem SW.or (h : ST X G W a ta) (k : SW X G W (.BoolOp .Or (b :: rest) pos) tb) : SW X G W (.BoolOp .Or (a :: b :: rest) pos) (fun ρ => bnd (ta ρ) fun c => if c = true then ret true else tb ρ) := fun ι S H σ ρ Q r en o => by
  refine PWw (pw_or pT pW) ?_
  refine h ι S H σ ρ _ r en (o.bnd.imp (fun ι1 S1 H1 c g1 r1 h1 => ?_) fun _ _ _ _ _ z => z)
  cases c with
  | true => exact iteT (Ok.fin (P := fun _ _ H' b => Q b H') h1 r1)
  | false => exact iteF (k ι1 S1 H1 σ ρ Q r1 (en.grow g1) h1)
theorem ST.not (h : ST X G W a ta) : ST X G W (.UnaryOp .Not a pos) (fun ρ => bnd (ta ρ) fun c => ret (!c)) := fun ι S H σ ρ Q r en o => by
  refine PTw (pt_not pT) ?_
  exact h ι S H σ ρ _ r en (o.bnd.imp (fun ι1 S1 H1 c g1 r1 h1 => Ok.fin (P := fun _ _ H' b => Q b H') h1 r1) fun _ _ _ _ _ z => z)
theorem SE.one {op : BoolOp} (h : SE X G W a ma) : SE X G W (.BoolOp op [a] pos) ma := fun ι S H σ ρ Q r en o => PEw (pe_one pE) (h ι S H σ ρ Q r en o)
theorem SE.and (h : SE X G W a ma) (k : SE X G W (.BoolOp .And (b :: rest) pos) mb) : SE X G W (.BoolOp .And (a :: b :: rest) pos) (fun ρ => bnd (bnd (ma ρ) asB) fun c => if c = true then mb ρ else ret (.bl false)) := fun ι S H σ ρ Q r en o => by
  refine PEw (pe_and pE pE) ?_
  refine h ι S H σ ρ _ r en (o.bnd.bnd.imp (fun ι1 S1 H1 dx g1 r1 h1 x hx => ?_) fun _ _ _ _ _ z => z)
  exact asB_ok (Q := fun c H' => if c = true then wE X (.BoolOp .And (b :: rest) pos) σ H' Q else Q (.bl false) H') r1 hx (h1.imp (fun ι2 S2 H2 c g2 r2 h2 => by
    cases c with
    | true => exact iteT (k ι2 S2 H2 σ ρ Q r2 (en.grow (g1.trans g2)) h2)
    | false => exact iteF (Ok.fin (P := PQ G Q) h2 r2 (.bl false) rfl)) fun _ _ _ _ _ z => z)
theorem SE.or (h : SE X G W a ma) (k : SE X G W (.BoolOp .Or (b :: rest) pos) mb) : SE X G W (.BoolOp .Or (a :: b :: rest) pos) (fun ρ => bnd (bnd (ma ρ) asB) fun c => if c = true then ret (.bl true) else mb ρ) := fun ι S H σ ρ Q r en o => by
  refine PEw (pe_or pE pE) ?_
  refine h ι S H σ ρ _ r en (o.bnd.bnd.imp (fun ι1 S1 H1 dx g1 r1 h1 x hx => ?_) fun _ _ _ _ _ z => z)
  exact asB_ok (Q := fun c H' => if c = true then Q (.bl true) H' else wE X (.BoolOp .Or (b :: rest) pos) σ H' Q) r1 hx (h1.imp (fun ι2 S2 H2 c g2 r2 h2 => by
    cases c with
    | true => exact iteT (Ok.fin (P := PQ G Q) h2 r2 (.bl true) rfl)
    | false => exact iteF (k ι2 S2 H2 σ ρ Q r2 (en.grow (g1.trans g2)) h2)) fun _ _ _ _ _ z => z)
theorem SE.not (h : SE X G W a ma) : SE X G W (.UnaryOp .Not a pos) (fun ρ => bnd (bnd (ma ρ) asB) fun c => ret (.bl (!c))) := fun ι S H σ ρ Q r en o => by
  refine PEw (pe_not pE) ?_
  refine h ι S H σ ρ _ r en (o.bnd.bnd.imp (fun ι1 S1 H1 dx g1 r1 h1 x hx => ?_) fun _ _ _ _ _ z => z)
  exact asB_ok (Q := fun c H' => Q (.bl (!c)) H') r1 hx (h1.imp (fun ι2 S2 H2 c g2 r2 h2 => Ok.fin (P := PQ G Q) h2 r2 (.bl (!c)) rfl) fun _ _ _ _ _ z => z)
theorem SE.ifE (ht : ST X G W c ta) (ha : SE X G W a ma) (hb : SE X G W b mb) : SE X G W (.IfExp c a b pos) (fun ρ => bnd (ta ρ) fun k => if k = true then ma ρ else mb ρ) := fun ι S H σ ρ Q r en o => by
  refine PEw (pe_ifExp pT pE pE) ?_
  refine ht ι S H σ ρ _ r en (o.bnd.imp (fun ι1 S1 H1 k g1 r1 h1 => ?_) fun _ _ _ _ _ z => z)
  cases k with
  | true => exact iteT (ha ι1 S1 H1 σ ρ Q r1 (en.grow g1) h1)
  | false => exact iteF (hb ι1 S1 H1 σ ρ Q r1 (en.grow g1) h1)
/-! ### arguments, displays -/
variable {ms : ME (List D)}
theorem SA.nil : SA X G W [] (fun _ => ret []) := fun ι S H σ ρ Q r en o => PAw pa_nil (Ok.fin o r [] rfl)
theorem SA.cons (h : SE X G W e ma) (k : SA X G W es ms) (hs : starEach (e :: es) X.env = (false, eval e X.env) :: starEach es X.env) : SA X G W (e :: es) (fun ρ => bnd (ma ρ) fun x => bnd (ms ρ) fun xs => ret (x :: xs)) := fun ι S H σ ρ Q r en o => by
  refine PAw (pa_cons pE pA hs) ?_
  refine h ι S H σ ρ _ r en (o.bnd.imp (fun ι1 S1 H1 dx g1 r1 h1 x hx => ?_) fun _ _ _ _ _ z => z)
  refine k ι1 S1 H1 σ ρ _ r1 (en.grow g1) (h1.bnd.imp (fun ι2 S2 H2 ds g2 r2 h2 xs hxs => ?_) fun _ _ _ _ _ z => z)
  exact Ok.fin h2 r2 (x :: xs) ⟨x, xs, rfl, hx.grow g2, hxs⟩
def small (n : Nat) : Bool := decide (n ≤ sizeLine)
def mkTup (ds : List D) : M D := fun S => if ds.length ≤ sizeLine then .ok (.tup ds) S else .bad
def mkLst (ds : List D) : M D := fun S => if ds.length ≤ sizeLine then .ok (.obj S.length) (S ++ [.lst ds]) else .bad
/-- a new tuple at p -/
theorem tup_new {ι : List Addr} {S : Sto} {H : Hp} {ds : List D} {xs : List V} {p : Addr} {Q : VK} {PE} (r : Rel G ι S H) (hx : DVs G ι H ds xs) (hp : H p = none) (o : Ok G ι H (.ok (.tup ds) S) (PQ G Q) PE) : Q (.ref p) (upd H p (.tup xs)) := by
  have g : Grow ι H ι (upd H p (.tup xs)) := Grow.new hp
  exact o ι _ g (r.new hp) (.ref p) ⟨p, xs, rfl, .inl upd_same, hx.grow g⟩
/-- a new cell at p -/
theorem cell_new {ι : List Addr} {S : Sto} {H : Hp} {c : Cell} {u : HO} {p : Addr} {Q : VK} {PE} (r : Rel G ι S H) (hp : H p = none) (hc : CellV G (ι ++ [p]) (upd H p u) p c) (o : Ok G ι H (.ok (.obj S.length) (S ++ [c])) (PQ G Q) PE) : Q (.ref p) (upd H p u) := by
  have g : Grow ι H (ι ++ [p]) (upd H p u) := Grow.push hp
  refine o _ _ g (r.push hp hc) (.ref p) ⟨p, ?_, rfl⟩
  rw [List.getElem?_append_right (by rw [r.len]; exact Nat.le_refl _), r.len]
  simp
theorem grow_push {ι : List Addr} {H : Hp} {p : Addr} {u : HO} (hp : H p = none) : Grow ι H (ι ++ [p]) (upd H p u) := Grow.push hp
theorem SE.tup {k : Nat} (h : SA X G W es ms) : SE X G W (.Tuple es k pos) (fun ρ => bnd (ms ρ) mkTup) := fun ι S H σ ρ Q r en o => by
  refine PEw (pe_tup pA) ?_
  refine h ι S H σ ρ _ r en (o.bnd.imp (fun ι1 S1 H1 ds g1 r1 h1 xs hx => ?_) fun _ _ _ _ _ z => z)
  unfold mkTup at h1
  split at h1
  · rename_i hz
    exact ⟨by rw [hx.length]; exact hz, fun p hp => tup_new r1 hx hp h1⟩
  · exact h1.elim
theorem SE.lst (h : SA X G W es ms) : SE X G W (.List es pos) (fun ρ => bnd (ms ρ) mkLst) := fun ι S H σ ρ Q r en o => by
  refine PEw (pe_lst pA) ?_
  refine h ι S H σ ρ _ r en (o.bnd.imp (fun ι1 S1 H1 ds g1 r1 h1 xs hx => ?_) fun _ _ _ _ _ z => z)
  unfold mkLst at h1
  split at h1
  · rename_i hz
    exact ⟨by rw [hx.length]; exact hz, fun p hp => cell_new (c := .lst ds) r1 hp ⟨xs, upd_same, hx.grow (grow_push hp)⟩ h1⟩
  · exact h1.elim
end
end ML

set_option maxHeartbeats 1000000
namespace ML
open PySem PySem.Spec PyProof.Rows L2

/-! ### lists of the store -/
def asList : Cell → Option (List D)
  | .lst xs => some xs
  | _ => none
def lsOf (S : Sto) (n : Nat) : Option (List D) := S[n]?.bind asList
section
variable {X : Cx} {G : Wd} {ι : List Addr} {S : Sto} {H : Hp}
theorem Rel.obj (r : Rel G ι S H) {n : Nat} {v : V} {c : Cell} (h : DV G ι H (.obj n) v) (e : S[n]? = some c) : ∃ a, ι[n]? = some a ∧ v = .ref a ∧ CellV G ι H a c := by
  obtain ⟨a, h1, h2⟩ := h
  exact ⟨a, h1, h2, r.cell n c a e h1⟩
theorem Rel.ls (r : Rel G ι S H) {n : Nat} {v : V} {ds : List D} (h : DV G ι H (.obj n) v) (e : lsOf S n = some ds) : ∃ a xs, v = .ref a ∧ Rd H a (.lst xs) ∧ DVs G ι H ds xs := by
  unfold lsOf at e
  cases q : S[n]? with
  | none => rw [q] at e; cases e
  | some c =>
    rw [q] at e
    obtain ⟨a, h1, h2, h3⟩ := r.obj h q
    cases c with
    | lst xs => cases e; obtain ⟨ys, h4, h5⟩ := h3; exact ⟨a, ys, h2, .inl h4, h5⟩
    | _ => cases e
theorem Rd.sql {K : PySem.W.Frag} {a : Addr} {xs : List V} (h : Rd H a (.lst xs)) : SqL K H a xs := .inl h
theorem Inv.lstR {pins : List (Addr × Obj)} {σ : L2.St} {s : Shared} {l : Addr} {xs : List V} (I : Inv X pins σ H s) (h : Rd H l (.lst xs)) :
    xs.length ≤ sizeLine ∧ ∃ (its : List Value) (n : Nat), Vals xs its ∧ xs.length = its.length ∧ s.heap.get? l = some { cls := .type "list", data := .seq its.toArray n } := by
  obtain ⟨z, its, n, r, e⟩ := (Rd.ok h I.hok)
  exact ⟨z, its, n, r, r.length, e⟩

/-! ### + - * // % ** << >> & ^ and or -/
def opAdd : D → D → M D
  | .int i, .int j => ret (.int (i + j))
  | .str a, .str b => fun S => if a.length + b.length ≤ sizeLine then .ok (.str (a ++ b)) S else .bad
  | .tup a, .tup b => fun S => if a.length + b.length ≤ sizeLine then .ok (.tup (a ++ b)) S else .bad
  | .obj n, .obj m => fun S => match lsOf S n, lsOf S m with
    | some a, some b => if a.length + b.length ≤ sizeLine then .ok (.obj S.length) (S ++ [.lst (a ++ b)]) else .bad
    | _, _ => .bad
  | .kl a, .obj m => fun S => match lsOf S m with
    | some b => if a.length + b.length ≤ sizeLine then .ok (.obj S.length) (S ++ [.lst (a.map D.int ++ b)]) else .bad
    | _ => .bad
  | _, _ => bad
theorem op_catS : OpR X (binaryOp .Add) (fun x y H Q => ∃ l b xs zs, x = .ref l ∧ y = .ref b ∧ SqL X.K H l xs ∧ SqL X.K H b zs ∧ xs.length + zs.length ≤ sizeLine ∧ ∀ p, H p = none → Q (.ref p) (upd H p (.lst (xs ++ zs)))) := by
  intro pins s σ H x y v u Q I rx ry h
  obtain ⟨l, b, xs, zs, rfl, rfl, hH, hB, hz, q⟩ := h
  cases rx
  cases ry
  obtain ⟨its, r, ⟨⟨cls, dd, data, sl⟩, n, ho, hc, hdn, hd⟩, _⟩ := I.list hH
  obtain ⟨its2, r2, ⟨⟨cls2, dd2, data2, sl2⟩, n2, ho2, hc2, hdn2, hd2⟩, _⟩ := I.list hB
  simp only at hc hd hc2 hd2
  subst hc hd hc2 hd2
  have hl := r.length
  have hl2 := r2.length
  refine concat_meets ⟨_, ho, rfl⟩ ⟨_, ho2, rfl⟩ noFill_list_add seq_list_add PySem.F.slot_list_add PySem.F.entry_list_add (PySem.F.args_list_add_2 (.ref l) (.ref b)) (list_addW l b its.toArray its2.toArray n n2 dd dd2 sl sl2 (by rw [List.size_toArray, List.size_toArray]; omega)) ⟨ho, ho2, ?_⟩
  have ea : its.toArray ++ its2.toArray = (its ++ its2).toArray := by simp
  rw [ea]
  exact ⟨.ref _, _, I.lnew (t' := s.toks) (r.append r2) (by rw [List.length_append]; omega), rfl, q _ I.fresh⟩
theorem op_catR : OpR X (binaryOp .Add) (fun x y H Q => ∃ l b xs zs, x = .ref l ∧ y = .ref b ∧ Rd H l (.lst xs) ∧ Rd H b (.lst zs) ∧ xs.length + zs.length ≤ sizeLine ∧ ∀ p, H p = none → Q (.ref p) (upd H p (.lst (xs ++ zs)))) := by
  intro pins s σ H x y v u Q I rx ry h
  obtain ⟨l, b, xs, zs, rfl, rfl, hH, hB, hz, q⟩ := h
  cases rx
  cases ry
  obtain ⟨z, its, n, r, hl, e⟩ := Inv.lstR I hH
  obtain ⟨z2, its2, n2, r2, hl2, e2⟩ := Inv.lstR I hB
  refine PySem.P.add_list e e2 ?_ (by rw [List.size_toArray, List.size_toArray]; omega)
  have ea : its.toArray ++ its2.toArray = (its ++ its2).toArray := by simp
  rw [ea]
  exact ⟨.ref _, _, I.lnew (t' := s.toks) (r.append r2) (by rw [List.length_append]; omega), rfl, q _ I.fresh⟩
theorem okD {d : D} {v : V} {Q : VK} {PE} (r : Rel G ι S H) (o : Ok G ι H (.ok d S) (PQ G Q) PE) (h : DV G ι H d v) : Q v H := Ok.fin o r v h
theorem TupAt.sx (hK : X.K = G.K) {a : Addr} {xs : List V} (h : TupAt G H a xs) : SqT X.K H a xs := by rw [hK]; exact h.sq'
theorem opD_add (hK : X.K = G.K) : OpD X G (binaryOp .Add) opAdd := fun ι S H x y dx dy Q PE r hx hy o => by
  cases dx <;> cases dy <;> first | exact o.elim | skip
  case int.int i j =>
    obtain rfl : x = .int i := hx
    obtain rfl : y = .int j := hy
    exact OpRw op_add ⟨i, j, rfl, rfl, okD r o rfl⟩
  case str.str a b =>
    obtain rfl : x = .str a := hx
    obtain rfl : y = .str b := hy
    have o : Ok G ι H (if a.length + b.length ≤ sizeLine then .ok (.str (a ++ b)) S else .bad) (PQ G Q) PE := o
    split at o
    · rename_i h
      exact OpRw op_add_str ⟨a, b, rfl, rfl, h, okD r o rfl⟩
    · exact o.elim
  case kl.obj a m =>
    obtain ⟨p, rfl, hk⟩ := hx
    have o : Ok G ι H (match lsOf S m with | some b => (if a.length + b.length ≤ sizeLine then .ok (.obj S.length) (S ++ [.lst (a.map D.int ++ b)]) else .bad) | _ => .bad) (PQ G Q) PE := o
    cases e : lsOf S m with
    | none => rw [e] at o; exact o.elim
    | some b =>
      rw [e] at o
      have o : Ok G ι H (if a.length + b.length ≤ sizeLine then .ok (.obj S.length) (S ++ [.lst (a.map D.int ++ b)]) else .bad) (PQ G Q) PE := o
      obtain ⟨q, ys, rfl, hr, hys⟩ := r.ls hy e
      split at o
      · rename_i h
        have l2 := hys.length
        refine OpRw op_catS ⟨p, q, a.map V.int, ys, rfl, rfl, by rw [hK]; exact hk.sq, .inl hr, by rw [List.length_map, l2]; exact h, fun c hc => ?_⟩
        exact cell_new (c := .lst (a.map D.int ++ b)) r hc ⟨_, upd_same, ((DVs.of_ints a).append hys).grow (grow_push hc)⟩ o
      · exact o.elim
  case tup.tup a b =>
    obtain ⟨p, xs, rfl, tp, hxs⟩ := hx
    obtain ⟨q, ys, rfl, tq, hys⟩ := hy
    have o : Ok G ι H (if a.length + b.length ≤ sizeLine then .ok (.tup (a ++ b)) S else .bad) (PQ G Q) PE := o
    split at o
    · rename_i h
      have l1 := hxs.length
      have l2 := hys.length
      refine OpRw op_catA ⟨p, q, xs, ys, rfl, rfl, tp.sx hK, tq.sx hK, by rw [l1, l2]; exact h, fun e => ?_, fun _ e => ?_, fun _ _ c hc => ?_⟩
      · subst e
        refine okD r o ⟨q, ys, rfl, tq, ?_⟩
        have : a = [] := by cases a with | nil => rfl | cons _ _ => rw [List.length_nil, List.length_cons] at l1; omega
        subst this
        exact hys
      · subst e
        refine okD r o ⟨p, xs, rfl, tp, ?_⟩
        have : b = [] := by cases b with | nil => rfl | cons _ _ => rw [List.length_nil, List.length_cons] at l2; omega
        subst this
        rw [List.append_nil]
        exact hxs
      · exact tup_new r (hxs.append hys) hc o
    · exact o.elim
  case obj.obj n m =>
    have o : Ok G ι H (match lsOf S n, lsOf S m with
      | some a, some b => if a.length + b.length ≤ sizeLine then .ok (.obj S.length) (S ++ [.lst (a ++ b)]) else .bad
      | _, _ => .bad) (PQ G Q) PE := o
    split at o
    · rename_i a b ea eb
      obtain ⟨p, xs, rfl, rp, hxs⟩ := r.ls hx ea
      obtain ⟨q, ys, rfl, rq, hys⟩ := r.ls hy eb
      split at o
      · rename_i h
        have l1 := hxs.length
        have l2 := hys.length
        exact OpRw op_catR ⟨p, q, xs, ys, rfl, rfl, rp, rq, by rw [l1, l2]; exact h, fun c hc => cell_new (c := .lst (a ++ b)) r hc ⟨_, upd_same, (hxs.append hys).grow (grow_push hc)⟩ o⟩
      · exact o.elim
    · exact o.elim
def opSub : D → D → M D
  | .int i, .int j => ret (.int (i - j))
  | _, _ => bad
theorem opD_sub : OpD X G (binaryOp .Sub) opSub := fun ι S H x y dx dy Q PE r hx hy o => by
  cases dx <;> cases dy <;> first | exact o.elim | skip
  case int.int i j =>
    obtain rfl : x = .int i := hx
    obtain rfl : y = .int j := hy
    exact OpRw op_sub ⟨i, j, rfl, rfl, okD r o rfl⟩
def opMul : D → D → M D
  | .int i, .int j => fun S => if i.natAbs.log2 + j.natAbs.log2 < 1000000 then .ok (.int (i * j)) S else .bad
  | .obj n, .int k => fun S => match S[n]? with
    | some (.lst a) => if -(2 ^ 63) ≤ k ∧ k < 2 ^ 63 ∧ a.length * k.toNat ≤ sizeLine then .ok (.obj S.length) (S ++ [.lst (List.replicate k.toNat a).flatten]) else .bad
    | _ => .bad
  | _, _ => bad
theorem DVs.rep {ds : List D} {xs : List V} (h : DVs G ι H ds xs) : ∀ k : Nat, DVs G ι H (List.replicate k ds).flatten (List.replicate k xs).flatten
  | 0 => rfl
  | k + 1 => by
    rw [List.replicate_succ, List.replicate_succ, List.flatten_cons, List.flatten_cons]
    exact h.append (DVs.rep h k)
theorem opD_mul : OpD X G (binaryOp .Mult) opMul := fun ι S H x y dx dy Q PE r hx hy o => by
  cases dx <;> cases dy <;> first | exact o.elim | skip
  case int.int i j =>
    obtain rfl : x = .int i := hx
    obtain rfl : y = .int j := hy
    have o : Ok G ι H (if i.natAbs.log2 + j.natAbs.log2 < 1000000 then .ok (.int (i * j)) S else .bad) (PQ G Q) PE := o
    split at o
    · rename_i h
      exact OpRw op_mulW ⟨i, j, rfl, rfl, h, okD r o rfl⟩
    · exact o.elim
  case obj.int n k =>
    obtain rfl : y = .int k := hy
    have o : Ok G ι H (match S[n]? with
      | some (.lst a) => if -(2 ^ 63) ≤ k ∧ k < 2 ^ 63 ∧ a.length * k.toNat ≤ sizeLine then .ok (.obj S.length) (S ++ [.lst (List.replicate k.toNat a).flatten]) else .bad
      | _ => .bad) (PQ G Q) PE := o
    split at o
    · rename_i a ea
      obtain ⟨p, hp, rfl, xs, hq, hxs⟩ := r.obj hx ea
      split at o
      · rename_i h
        have l1 := hxs.length
        exact OpRw op_rep ⟨p, k, xs, rfl, rfl, hq, h.1, h.2.1, by rw [l1]; exact h.2.2, fun c hc => cell_new (c := .lst (List.replicate k.toNat a).flatten) r hc ⟨_, upd_same, (hxs.rep k.toNat).grow (grow_push hc)⟩ o⟩
      · exact o.elim
    · exact o.elim
def opFdiv : D → D → M D
  | .int i, .int j => fun S => if 0 < j ∧ j.natAbs.log2 < 9000 then .ok (.int (i / j)) S else .bad
  | _, _ => bad
theorem opD_fdiv : OpD X G (binaryOp .FloorDiv) opFdiv := fun ι S H x y dx dy Q PE r hx hy o => by
  cases dx <;> cases dy <;> first | exact o.elim | skip
  case int.int i j =>
    obtain rfl : x = .int i := hx
    obtain rfl : y = .int j := hy
    have o : Ok G ι H (if 0 < j ∧ j.natAbs.log2 < 9000 then .ok (.int (i / j)) S else .bad) (PQ G Q) PE := o
    split at o
    · rename_i h
      exact OpRw op_fdivW ⟨i, j, rfl, rfl, h, okD r o rfl⟩
    · exact o.elim
def opMod : D → D → M D
  | .int i, .int j => fun S => if 0 < j then .ok (.int (i % j)) S else .bad
  | _, _ => bad
theorem opD_mod : OpD X G (binaryOp .Mod) opMod := fun ι S H x y dx dy Q PE r hx hy o => by
  cases dx <;> cases dy <;> first | exact o.elim | skip
  case int.int i j =>
    obtain rfl : x = .int i := hx
    obtain rfl : y = .int j := hy
    have o : Ok G ι H (if 0 < j then .ok (.int (i % j)) S else .bad) (PQ G Q) PE := o
    split at o
    · rename_i h
      exact OpRw op_mod ⟨i, j, rfl, rfl, h, okD r o rfl⟩
    · exact o.elim
def powOk (i j : Int) : Bool := decide (0 ≤ j) && decide (j ≤ 1000000) && decide (i.natAbs < 2 ^ 64)
theorem powOk_c {i j : Int} (h : powOk i j = true) : CPow i j := by
  unfold powOk at h
  simp only [Bool.and_eq_true, decide_eq_true_eq] at h
  exact ⟨h.1.1, h.1.2, h.2⟩
def opPow : D → D → M D
  | .int i, .int j => fun S => if powOk i j = true then .ok (.int (i ^ j.toNat)) S else .bad
  | _, _ => bad
theorem opD_pow : OpD X G (binaryOp .Pow) opPow := fun ι S H x y dx dy Q PE r hx hy o => by
  cases dx <;> cases dy <;> first | exact o.elim | skip
  case int.int i j =>
    obtain rfl : x = .int i := hx
    obtain rfl : y = .int j := hy
    have o : Ok G ι H (if powOk i j = true then .ok (.int (i ^ j.toNat)) S else .bad) (PQ G Q) PE := o
    split at o
    · rename_i h
      exact OpRw op_pow ⟨i, j, rfl, rfl, powOk_c h, okD r o rfl⟩
    · exact o.elim
def opShl : D → D → M D
  | .int i, .int j => fun S => if powOk i j = true then .ok (.int (i * 2 ^ j.toNat)) S else .bad
  | _, _ => bad
theorem opD_shl : OpD X G (binaryOp .LShift) opShl := fun ι S H x y dx dy Q PE r hx hy o => by
  cases dx <;> cases dy <;> first | exact o.elim | skip
  case int.int i j =>
    obtain rfl : x = .int i := hx
    obtain rfl : y = .int j := hy
    have o : Ok G ι H (if powOk i j = true then .ok (.int (i * 2 ^ j.toNat)) S else .bad) (PQ G Q) PE := o
    split at o
    · rename_i h
      exact OpRw op_shl ⟨i, j, rfl, rfl, powOk_c h, okD r o rfl⟩
    · exact o.elim
def opShr : D → D → M D
  | .int i, .int j => fun S => if 0 ≤ j then .ok (.int (i / 2 ^ j.toNat)) S else .bad
  | _, _ => bad
theorem opD_shr : OpD X G (binaryOp .RShift) opShr := fun ι S H x y dx dy Q PE r hx hy o => by
  cases dx <;> cases dy <;> first | exact o.elim | skip
  case int.int i j =>
    obtain rfl : x = .int i := hx
    obtain rfl : y = .int j := hy
    have o : Ok G ι H (if 0 ≤ j then .ok (.int (i / 2 ^ j.toNat)) S else .bad) (PQ G Q) PE := o
    split at o
    · rename_i h
      exact OpRw op_shr ⟨i, j, rfl, rfl, h, okD r o rfl⟩
    · exact o.elim
def opI (f : Int → Int → Int) : D → D → M D
  | .int i, .int j => ret (.int (f i j))
  | _, _ => bad
theorem opD_I {f : Int → Int → Int} {op : Value → Value → Sem Value} (h : OpR X op (rI0 fun i j => .int (f i j))) : OpD X G op (opI f) := fun ι S H x y dx dy Q PE r hx hy o => by
  cases dx <;> cases dy <;> first | exact o.elim | skip
  case int.int i j =>
    obtain rfl : x = .int i := hx
    obtain rfl : y = .int j := hy
    exact OpRw h ⟨i, j, rfl, rfl, okD r o rfl⟩
theorem opD_no {op : Value → Value → Sem Value} : OpD X G op (fun _ _ => bad) := fun ι S H x y dx dy Q PE r hx hy o => o.elim
def evBin : Operator → D → D → M D
  | .Add => opAdd
  | .Sub => opSub
  | .Mult => opMul
  | .FloorDiv => opFdiv
  | .Mod => opMod
  | .Pow => opPow
  | .LShift => opShl
  | .RShift => opShr
  | .BitAnd => opI Builtin.bitAnd
  | .BitOr => opI Builtin.bitOr
  | .BitXor => opI Builtin.bitXor
  | _ => fun _ _ => bad
theorem opD_bin (hK : X.K = G.K) : ∀ op : Operator, OpD X G (binaryOp op) (evBin op)
  | .Add => opD_add hK
  | .Sub => opD_sub
  | .Mult => opD_mul
  | .FloorDiv => opD_fdiv
  | .Mod => opD_mod
  | .Pow => opD_pow
  | .LShift => opD_shl
  | .RShift => opD_shr
  | .BitAnd => opD_I op_and
  | .BitOr => opD_I op_or
  | .BitXor => opD_I op_xor
  | .MatMult => opD_no
  | .Div => opD_no
def unI (f : Int → Int) : D → M D
  | .int i => ret (.int (f i))
  | _ => bad
theorem unD_I {f : Int → Int} {op : Value → Sem Value} (h : UnR X op (rU fun i => .int (f i))) : UnD X G op (unI f) := fun ι S H x dx Q PE r hx o => by
  cases dx <;> first | exact o.elim | skip
  case int i =>
    obtain rfl : x = .int i := hx
    exact UnRw h ⟨i, rfl, okD r o rfl⟩

/-! ### data as a whole: == != in -/
def pyAll (f : D → Option PyData) : List D → Option (List PyData)
  | [] => some []
  | d :: ds => match f d, pyAll f ds with
    | some p, some ps => some (p :: ps)
    | _, _ => none
def pyOf (S : Sto) : Nat → D → Option PyData
  | _, .non => some .none
  | _, .bl b => some (.bool b)
  | _, .int i => some (.int i)
  | _, .str x => some (.str x)
  | _, .kl ns => some (.list (ns.map .int))
  | k + 1, .tup ds => (pyAll (pyOf S k) ds).map .tuple
  | k + 1, .obj n => (lsOf S n).bind fun ds => (pyAll (pyOf S k) ds).map .list
  | _, _ => none
theorem dp_ints : ∀ ns : List Int, DpAll G.K H (ns.map V.int) (ns.map PyData.int)
  | [] => .nil
  | n :: ns => .cons (.int n) (dp_ints ns)
theorem pyAll_dp (r : Rel G ι S H) {f : D → Option PyData} (hf : ∀ d p v, f d = some p → DV G ι H d v → Dp G.K H v p) : ∀ {ds : List D} {ps : List PyData} {vs : List V}, pyAll f ds = some ps → DVs G ι H ds vs → DpAll G.K H vs ps
  | [], ps, vs, e, h => by
    cases e
    rw [show vs = [] from h]
    exact .nil
  | d :: ds, ps, vs, e, ⟨v, us, e2, a, b⟩ => by
    subst e2
    unfold pyAll at e
    split at e
    · rename_i p qs h1 h2
      cases e
      exact .cons (hf d p v h1 a) (pyAll_dp r hf h2 b)
    · cases e
theorem pyOf_dp (r : Rel G ι S H) : ∀ (k : Nat) (d : D) (p : PyData) (v : V), pyOf S k d = some p → DV G ι H d v → Dp G.K H v p
  | k, .non, p, v, e, h => by
    have e : some PyData.none = some p := by cases k <;> exact e
    cases e; rw [show v = .non from h]; exact .non
  | k, .bl b, p, v, e, h => by
    have e : some (PyData.bool b) = some p := by cases k <;> exact e
    cases e; rw [show v = .bl b from h]; exact .bl b
  | k, .int i, p, v, e, h => by
    have e : some (PyData.int i) = some p := by cases k <;> exact e
    cases e; rw [show v = .int i from h]; exact .int i
  | k, .str i, p, v, e, h => by
    have e : some (PyData.str i) = some p := by cases k <;> exact e
    cases e; rw [show v = .str i from h]; exact .str i
  | 0, .tup _, p, v, e, _ => by cases e
  | k + 1, .tup ds, p, v, e, h => by
    obtain ⟨a, xs, e2, t, hx⟩ := h
    subst e2
    have e : (pyAll (pyOf S k) ds).map PyData.tuple = some p := e
    cases q : pyAll (pyOf S k) ds with
    | none => rw [q] at e; cases e
    | some ps =>
      rw [q] at e
      cases e
      exact .tup t.sq' (pyAll_dp r (fun d p v => pyOf_dp r k d p v) q hx)
  | 0, .obj _, p, v, e, _ => by cases e
  | k + 1, .obj n, p, v, e, h => by
    have e : ((lsOf S n).bind fun ds => (pyAll (pyOf S k) ds).map PyData.list) = some p := e
    cases q : lsOf S n with
    | none => rw [q] at e; cases e
    | some ds =>
      rw [q] at e
      have e : (pyAll (pyOf S k) ds).map PyData.list = some p := e
      obtain ⟨a, xs, e2, t, hx⟩ := r.ls h q
      subst e2
      cases q : pyAll (pyOf S k) ds with
      | none => rw [q] at e; cases e
      | some ps =>
        rw [q] at e
        cases e
        exact .lst (Rd.sql t) (pyAll_dp r (fun d p v => pyOf_dp r k d p v) q hx)
  | k, .kl ns, p, v, e, h => by
    have e : some (PyData.list (ns.map .int)) = some p := by cases k <;> exact e
    cases e
    obtain ⟨a, rfl, q⟩ := h
    exact .lst q.sq (dp_ints ns)
  | 0, .kd _, p, v, e, _ => by cases e
  | _ + 1, .kd _, p, v, e, _ => by cases e
/-- the flat ones told apart at once -/
def scEq : D → D → Option Bool
  | .int i, .int j => some (decide (i = j))
  | .str i, .str j => some (decide (i = j))
  | .bl i, .bl j => some (decide (i = j))
  | .non, .non => some true
  | .non, .int _ => some false
  | .int _, .non => some false
  | .non, .str _ => some false
  | .str _, .non => some false
  | .non, .bl _ => some false
  | .bl _, .non => some false
  | .int _, .str _ => some false
  | .str _, .int _ => some false
  | _, _ => none
def opEqN (neg : Bool) (dx dy : D) : M D := fun S => match scEq dx dy with
  | some b => .ok (.bl (b != neg)) S
  | none => match pyOf S 70 dx, pyOf S 70 dy with
    | some p, some q => if (SeqAt.shaped p && SeqAt.shaped q) = true then .ok (.bl (PyData.eqv p q != neg)) S else .bad
    | _, _ => .bad
theorem scEq_ok {dx dy : D} {x y : V} {b : Bool} (e : scEq dx dy = some b) (hx : DV G ι H dx x) (hy : DV G ι H dy y) : scal x y = true ∧ decide (x = y) = b := by
  cases dx <;> cases dy <;> first | (cases e; done) | skip
  all_goals
    rw [show x = _ from hx, show y = _ from hy]
    cases e
    first
      | (refine ⟨rfl, ?_⟩; simp; done)
      | (refine ⟨rfl, ?_⟩; rfl)
theorem opD_eq (hu : X.A.units + 64 < cLine) (hK : X.K = G.K) : OpD X G (compareOp .Eq) (opEqN false) := fun ι S H x y dx dy Q PE r hx hy o => by
  unfold opEqN at o
  split at o
  · rename_i b e
    obtain ⟨h1, h2⟩ := scEq_ok e hx hy
    refine OpRw op_eq ⟨h1, ?_⟩
    rw [h2]
    refine okD r o ?_
    cases b <;> rfl
  · split at o
    · rename_i p q ep eq
      split at o
      · rename_i h
        rw [Bool.and_eq_true] at h
        refine OpRw (op_eqD hu) ⟨p, q, ?_, ?_, h.1, h.2, ?_⟩
        · rw [hK]; exact pyOf_dp r _ _ _ _ ep hx
        · rw [hK]; exact pyOf_dp r _ _ _ _ eq hy
        · refine okD r o ?_
          cases PyData.eqv p q <;> rfl
      · exact o.elim
    · exact o.elim
theorem opD_ne (hu : X.A.units + 64 < cLine) (hK : X.K = G.K) : OpD X G (compareOp .NotEq) (opEqN true) := fun ι S H x y dx dy Q PE r hx hy o => by
  unfold opEqN at o
  split at o
  · rename_i b e
    obtain ⟨h1, h2⟩ := scEq_ok e hx hy
    refine OpRw op_ne ⟨h1, ?_⟩
    rw [h2]
    refine okD r o ?_
    cases b <;> rfl
  · split at o
    · rename_i p q ep eq
      split at o
      · rename_i h
        rw [Bool.and_eq_true] at h
        refine OpRw (op_neD hu) ⟨p, q, ?_, ?_, h.1, h.2, ?_⟩
        · rw [hK]; exact pyOf_dp r _ _ _ _ ep hx
        · rw [hK]; exact pyOf_dp r _ _ _ _ eq hy
        · refine okD r o ?_
          cases PyData.eqv p q <;> rfl
      · exact o.elim
    · exact o.elim
end
end ML

set_option maxHeartbeats 1000000
namespace ML
open PySem PySem.Spec PyProof.Rows L2
section
variable {X : Cx} {G : Wd} {ι : List Addr} {S : Sto} {H : Hp}
/-! ### < <= > >= -/
def intsOf : List D → Option (List Int)
  | [] => some []
  | .int i :: ds => (intsOf ds).map (i :: ·)
  | _ => none
theorem intsOf_eq : ∀ {ds : List D} {ns : List Int}, intsOf ds = some ns → ds = ns.map D.int
  | [], ns, e => by cases e; rfl
  | .int i :: ds, ns, e => by
    have e : (intsOf ds).map (i :: ·) = some ns := e
    cases q : intsOf ds with
    | none => rw [q] at e; cases e
    | some ms =>
      rw [q] at e
      cases e
      rw [intsOf_eq q]
      rfl
  | .non :: _, _, e => by cases e
  | .bl _ :: _, _, e => by cases e
  | .str _ :: _, _, e => by cases e
  | .tup _ :: _, _, e => by cases e
  | .obj _ :: _, _, e => by cases e
  | .kd _ :: _, _, e => by cases e
  | .kl _ :: _, _, e => by cases e
theorem intsOf_map : ∀ ns : List Int, intsOf (ns.map D.int) = some ns
  | [] => rfl
  | n :: ns => by
    show (intsOf (ns.map D.int)).map (n :: ·) = some (n :: ns)
    rw [intsOf_map ns]; rfl
def opLt : D → D → M D
  | .int i, .int j => ret (.bl (decide (i < j)))
  | .str i, .str j => ret (.bl (decide (i.cps.toList < j.cps.toList)))
  | .tup a, .tup b => fun S => match intsOf a, intsOf b with
    | some ns, some ms => .ok (.bl (HT.lexLt ns ms)) S
    | _, _ => .bad
  | _, _ => bad
theorem opD_lt (hK : X.K = G.K) (hu : X.A.units < cLine) : OpD X G (compareOp .Lt) opLt := fun ι S H x y dx dy Q PE r hx hy o => by
  cases dx <;> cases dy <;> first | exact o.elim | skip
  case int.int i j =>
    obtain rfl : x = .int i := hx
    obtain rfl : y = .int j := hy
    exact OpRw op_lt ⟨i, j, rfl, rfl, okD r o rfl⟩
  case str.str i j =>
    obtain rfl : x = .str i := hx
    obtain rfl : y = .str j := hy
    exact OpRw op_lt_str ⟨i, j, rfl, rfl, okD r o rfl⟩
  case tup.tup a b =>
    have o2 : Ok G ι H (match intsOf a, intsOf b with
      | some ns, some ms => .ok (.bl (HT.lexLt ns ms)) S
      | _, _ => .bad) (PQ G Q) PE := o
    clear o
    split at o2
    · rename_i ns ms e1 e2
      have e1 := intsOf_eq e1
      have e2 := intsOf_eq e2
      subst e1; subst e2
      obtain ⟨p, xs, rfl, tp, hxs⟩ := hx
      obtain ⟨q, ys, rfl, tq, hys⟩ := hy
      have f1 := hxs.ints
      have f2 := hys.ints
      subst f1; subst f2
      exact OpRw (op_ltT hu) ⟨p, q, ns, ms, rfl, rfl, tp.sx hK, tq.sx hK, okD r o2 rfl⟩
    · exact o2.elim
def opCmpI (f : Int → Int → Bool) : D → D → M D
  | .int i, .int j => ret (.bl (f i j))
  | _, _ => bad
theorem opD_cmpI {f : Int → Int → Bool} {op : Value → Value → Sem Value} (h : OpR X op (rI0 fun i j => .bl (f i j))) : OpD X G op (opCmpI f) := fun ι S H x y dx dy Q PE r hx hy o => by
  cases dx <;> cases dy <;> first | exact o.elim | skip
  case int.int i j =>
    obtain rfl : x = .int i := hx
    obtain rfl : y = .int j := hy
    exact OpRw h ⟨i, j, rfl, rfl, okD r o rfl⟩
/-! ### is, is not -/
def isNone : D → Bool
  | .non => true
  | _ => false
theorem isNone_dv {d : D} {v : V} (h : DV G ι H d v) : decide (v = .non) = isNone d := by
  cases d with
  | non => rw [show v = .non from h]; rfl
  | bl _ => rw [show v = _ from h]; rfl
  | int _ => rw [show v = _ from h]; rfl
  | str _ => rw [show v = _ from h]; rfl
  | tup _ => obtain ⟨a, xs, e, _⟩ := h; rw [e]; rfl
  | obj _ => obtain ⟨a, _, e⟩ := h; rw [e]; rfl
  | kd _ => obtain ⟨a, e, _⟩ := h; rw [e]; rfl
  | kl _ => obtain ⟨a, e, _⟩ := h; rw [e]; rfl
def opIsN (neg : Bool) : D → D → M D
  | d, .non => ret (.bl (isNone d != neg))
  | .bl a, .bl b => ret (.bl (decide (a = b) != neg))
  | _, _ => bad
theorem opD_is : OpD X G (compareOp .Is) (opIsN false) := fun ι S H x y dx dy Q PE r hx hy o => by
  cases dy with
  | non =>
    obtain rfl : y = .non := hy
    refine OpRw op_isN ⟨rfl, ?_⟩
    rw [isNone_dv hx]
    have o : Ok G ι H (.ok (.bl (isNone dx != false)) S) (PQ G Q) PE := by cases dx <;> exact o
    refine okD r o ?_
    cases isNone dx <;> rfl
  | bl b =>
    cases dx <;> first | exact o.elim | skip
    case bl a =>
      obtain rfl : x = .bl a := hx
      obtain rfl : y = .bl b := hy
      refine OpRw op_isBl ⟨a, b, rfl, rfl, okD r o ?_⟩
      cases decide (a = b) <;> rfl
  | _ => cases dx <;> exact o.elim
theorem opD_isnot : OpD X G (compareOp .IsNot) (opIsN true) := fun ι S H x y dx dy Q PE r hx hy o => by
  cases dy with
  | non =>
    obtain rfl : y = .non := hy
    refine OpRw op_notN ⟨rfl, ?_⟩
    rw [isNone_dv hx]
    have o : Ok G ι H (.ok (.bl (isNone dx != true)) S) (PQ G Q) PE := by cases dx <;> exact o
    refine okD r o ?_
    cases isNone dx <;> rfl
  | bl b =>
    cases dx <;> first | exact o.elim | skip
    case bl a =>
      obtain rfl : x = .bl a := hx
      obtain rfl : y = .bl b := hy
      refine OpRw op_notBl ⟨a, b, rfl, rfl, okD r o ?_⟩
      cases decide (a = b) <;> rfl
  | _ => cases dx <;> exact o.elim
/-! ### in, not in -/
def flatD : D → Bool
  | .non => true
  | .bl _ => true
  | .int _ => true
  | .str _ => true
  | _ => false
def eqF : D → D → Bool
  | .non, .non => true
  | .bl a, .bl b => a == b
  | .bl a, .int b => (if a then 1 else 0) == b
  | .int a, .bl b => a == (if b then 1 else 0)
  | .int a, .int b => a == b
  | .str a, .str b => a == b
  | _, _ => false
def inD (x : D) (ds : List D) : Bool := ds.any fun y => eqF y x
theorem flat_dv {d : D} {v : V} (h : DV G ι H d v) (f : flatD d = true) : flatV v = true := by
  cases d with
  | non => rw [show v = .non from h]; rfl
  | bl _ => rw [show v = _ from h]; rfl
  | int _ => rw [show v = _ from h]; rfl
  | str _ => rw [show v = _ from h]; rfl
  | _ => cases f
theorem eqF_dv {d e : D} {v u : V} (h : DV G ι H d v) (k : DV G ι H e u) (f : flatD d = true) (f' : flatD e = true) : eqV v u = eqF d e := by
  cases d <;> first | cases f; done | skip
  all_goals cases e <;> first | cases f'; done | skip
  all_goals rw [show v = _ from h, show u = _ from k]
  all_goals rfl
theorem all_flat : ∀ {ds : List D} {xs : List V}, DVs G ι H ds xs → ds.all flatD = true → xs.all flatV = true
  | [], xs, h, _ => by rw [show xs = [] from h]; rfl
  | d :: ds, xs, ⟨v, vs, e, a, b⟩, f => by
    subst e
    rw [List.all_cons, Bool.and_eq_true] at f ⊢
    exact ⟨flat_dv a f.1, all_flat b f.2⟩
theorem inD_dv {d : D} {v : V} (h : DV G ι H d v) (fd : flatD d = true) : ∀ {ds : List D} {xs : List V}, DVs G ι H ds xs → ds.all flatD = true → inV v xs = inD d ds
  | [], xs, k, _ => by rw [show xs = [] from k]; rfl
  | e :: ds, xs, ⟨u, vs, ex, a, b⟩, f => by
    subst ex
    rw [List.all_cons, Bool.and_eq_true] at f
    show (eqV u v || inV v vs) = (eqF e d || inD d ds)
    rw [eqF_dv a h f.1 fd, inD_dv h fd b f.2]
/-- a key of a dict -/
def keyD : D → Option Key
  | .int i => some (.inl i)
  | .str x => some (.inr x)
  | _ => none
theorem keyD_dv {d : D} {v : V} {k : Key} (h : DV G ι H d v) (e : keyD d = some k) : v = kV k := by
  cases d with
  | int i => cases e; exact h
  | str i => cases e; exact h
  | _ => cases e
def getK (kvs : List (Key × D)) (k : Key) : Option D := (kvs.find? fun kv => decide (kv.1 = k)).map (·.2)
theorem getK_dv {k : Key} : ∀ {kvs : List (Key × D)} {vs : List (Key × V)}, KDs G ι H kvs vs → (getK kvs k = none → valV vs k = none) ∧ ∀ d, getK kvs k = some d → ∃ v, valV vs k = some v ∧ DV G ι H d v
  | [], vs, h => by rw [show vs = [] from h]; exact ⟨fun _ => rfl, fun d e => by cases e⟩
  | (k', d') :: r, vs, ⟨v, us, e, a, b⟩ => by
    subst e
    obtain ⟨h1, h2⟩ := getK_dv (k := k) b
    by_cases q : k' = k
    · subst q
      refine ⟨fun e => ?_, fun d e => ?_⟩
      · simp [getK] at e
      · have : d' = d := by simpa [getK] using e
        subst this
        exact ⟨v, by simp [valV], a⟩
    · have g1 : getK ((k', d') :: r) k = getK r k := by simp [getK, q]
      have g2 : valV ((k', v) :: us) k = valV us k := by simp [valV, q]
      rw [g1, g2]
      exact ⟨h1, h2⟩
theorem getK_some {k : Key} {kvs : List (Key × D)} {vs : List (Key × V)} (h : KDs G ι H kvs vs) : (valV vs k).isSome = (getK kvs k).isSome := by
  obtain ⟨h1, h2⟩ := getK_dv (k := k) h
  cases q : getK kvs k with
  | none => rw [h1 q]; rfl
  | some d => obtain ⟨v, e, _⟩ := h2 d q; rw [e]; rfl
def opInN (neg : Bool) (dx dy : D) : M D := fun S => match dy with
  | .tup ds => if (flatD dx && ds.all flatD) = true then .ok (.bl (inD dx ds != neg)) S else .bad
  | .str z => (match dx with
    | .str c => (match c.cps.toList with
      | [n] => .ok (.bl (decide (n ∈ z.cps.toList) != neg)) S
      | _ => .bad)
    | _ => .bad)
  | .kd kvs => (match dx with
    | .str x => .ok (.bl ((kvs.lookup x).isSome != neg)) S
    | _ => .bad)
  | .obj n => (match S[n]? with
    | some (.dct kvs) => (match keyD dx with
      | some k => .ok (.bl ((getK kvs k).isSome != neg)) S
      | none => .bad)
    | _ => (match lsOf S n with
      | some ds => if (flatD dx && ds.all flatD) = true then .ok (.bl (inD dx ds != neg)) S else
        (match pyOf S 60 dx, pyAll (pyOf S 60) ds with
        | some p, some ps => if (SeqAt.shaped p && SeqAt.shaped (.list ps)) = true then .ok (.bl (ps.any (fun z => PyData.eqv z p) != neg)) S else .bad
        | _, _ => .bad)
      | none => .bad))
  | _ => .bad
theorem ofOne {c : Str} {n : Nat} (h : c.cps.toList = [n]) : c = ⟨#[n]⟩ := by
  cases c with
  | mk cps =>
    congr 1
    have : cps.toList = (#[n] : Array Nat).toList := h
    simpa using congrArg List.toArray this
/-- what a rule of in, or of not in, must give -/
structure InRules (X : Cx) (G : Wd) (op : CmpOp) (neg : Bool) : Prop where
  seq : OpR X (compareOp op) (rIn X.K neg)
  sign : OpR X (compareOp op) (fun x y H Q => ∃ (c : Nat) (z : Str), x = .str ⟨#[c]⟩ ∧ y = .str z ∧ Q (.bl (decide (c ∈ z.cps.toList) != neg)) H)
  kd : ∀ {d : Addr} {es : Array DictEntry} {n : Nat}, KDict X.K X.w d es n → OpR X (compareOp op) (fun x y H Q => ∃ (z : Str) (r : Option Value), x = .str z ∧ y = .ref d ∧ PySem.W.nsIn X.K d z = some r ∧ Q (.bl (r.isSome != neg)) H)
  dct : OpR X (compareOp op) (fun x y H Q => ∃ a kvs k, x = kV k ∧ y = .ref a ∧ H a = some (.dK kvs) ∧ Q (.bl ((valV kvs k).isSome != neg)) H)
  deep : OpR X (compareOp op) (fun x y H Q => ∃ d ds, Dp X.K H x d ∧ Dp X.K H y (.list ds) ∧ SeqAt.shaped d = true ∧ SeqAt.shaped (.list ds) = true ∧ Q (.bl (ds.any (fun z => PyData.eqv z d) != neg)) H)
theorem bne_f (b : Bool) : (b != false) = b := by cases b <;> rfl
theorem bne_t (b : Bool) : (b != true) = !b := by cases b <;> rfl
theorem inRules (hu : X.A.units + 65 < cLine) : InRules X G .In false where
  seq := op_in_seq
  sign := fun pins s σ H x y v u Q I rx ry ⟨c, z, h1, h2, h3⟩ => op_in_sign pins s σ H x y v u Q I rx ry ⟨c, z, h1, h2, by rw [bne_f] at h3; exact h3⟩
  kd := fun D pins s σ H x y v u Q I rx ry ⟨z, r, h1, h2, h3, h4⟩ => op_in_kd D pins s σ H x y v u Q I rx ry ⟨z, r, h1, h2, h3, by rw [bne_f] at h4; exact h4⟩
  dct := fun pins s σ H x y v u Q I rx ry ⟨a, kvs, k, h1, h2, h3, h4⟩ => by
    subst h2
    obtain rfl : u = .ref a := ry
    refine d_in (by omega) I (DGet.k (k := k) h3) (by rw [← h1]; exact rx) fun s' I' => ⟨.bl _, H, I', rfl, ?_⟩
    rw [bne_f] at h4; exact h4
  deep := fun pins s σ H x y v u Q I rx ry ⟨d, ds, h1, h2, h3, h4, h5⟩ => op_inD hu pins s σ H x y v u Q I rx ry ⟨d, ds, h1, h2, h3, h4, by rw [bne_f] at h5; exact h5⟩
theorem notInRules (hu : X.A.units + 65 < cLine) : InRules X G .NotIn true where
  seq := op_notIn_seq
  sign := fun pins s σ H x y v u Q I rx ry ⟨c, z, h1, h2, h3⟩ => op_notIn_sign pins s σ H x y v u Q I rx ry ⟨c, z, h1, h2, by rw [bne_t] at h3; exact h3⟩
  kd := fun D pins s σ H x y v u Q I rx ry ⟨z, r, h1, h2, h3, h4⟩ => op_notIn_kd D pins s σ H x y v u Q I rx ry ⟨z, r, h1, h2, h3, by rw [bne_t] at h4; exact h4⟩
  dct := fun pins s σ H x y v u Q I rx ry ⟨a, kvs, k, h1, h2, h3, h4⟩ => by
    subst h2
    obtain rfl : u = .ref a := ry
    refine d_notIn (by omega) I (DGet.k (k := k) h3) (by rw [← h1]; exact rx) fun s' I' => ⟨.bl _, H, I', rfl, ?_⟩
    rw [bne_t] at h4; exact h4
  deep := fun pins s σ H x y v u Q I rx ry ⟨d, ds, h1, h2, h3, h4, h5⟩ => op_notInD hu pins s σ H x y v u Q I rx ry ⟨d, ds, h1, h2, h3, h4, by rw [bne_t] at h5; exact h5⟩
theorem opD_inN {op : CmpOp} {neg : Bool} (R : InRules X G op neg) (hK : X.K = G.K) (hw : X.w = G.w) : OpD X G (compareOp op) (opInN neg) := fun ι S H x y dx dy Q PE r hx hy o => by
  have flat : ∀ {p : Addr} {xs : List V} {ds : List D}, y = .ref p → (SqL X.K H p xs ∨ SqT X.K H p xs) → DVs G ι H ds xs → (flatD dx && ds.all flatD) = true → Ok G ι H (.ok (.bl (inD dx ds != neg)) S) (PQ G Q) PE → wOp X (compareOp op) x y H Q := fun {p xs ds} ey hq hxs f o => by
    rw [Bool.and_eq_true] at f
    refine OpRw R.seq ⟨p, xs, ey, hq, flat_dv hx f.1, all_flat hxs f.2, ?_⟩
    rw [inD_dv hx f.1 hxs f.2]
    refine okD r o ?_
    cases neg <;> cases inD dx ds <;> rfl
  cases dy with
  | tup ds =>
    have o : Ok G ι H (if (flatD dx && ds.all flatD) = true then .ok (.bl (inD dx ds != neg)) S else .bad) (PQ G Q) PE := o
    obtain ⟨p, xs, ey, tp, hxs⟩ := hy
    split at o
    · rename_i f
      exact flat ey (.inr (tp.sx hK)) hxs f o
    · exact o.elim
  | str z =>
    cases dx <;> first | exact o.elim | skip
    case str c =>
      have o : Ok G ι H (match c.cps.toList with
        | [n] => .ok (.bl (decide (n ∈ z.cps.toList) != neg)) S
        | _ => .bad) (PQ G Q) PE := o
      split at o
      · rename_i n e
        have e := ofOne e
        subst e
        exact OpRw R.sign ⟨n, z, hx, hy, okD r o rfl⟩
      · exact o.elim
  | kd kvs =>
    cases dx <;> first | exact o.elim | skip
    case str c =>
      obtain ⟨a, rfl, ⟨es, n, hd⟩, hk⟩ := hy
      obtain ⟨res, h1, h2⟩ := hk c
      refine OpRw (R.kd (d := a) (es := es) (n := n) (by rw [hK, hw]; exact hd)) ⟨c, res, hx, rfl, by rw [hK]; exact h1, okD r o ?_⟩
      have e : res.isSome = (kvs.lookup c).isSome := by
        have := h2.isSome_eq
        rw [Option.isSome_map] at this
        exact this.symm
      rw [e]
      rfl
  | obj n =>
    have o : Ok G ι H (match S[n]? with
      | some (.dct kvs) => (match keyD dx with
        | some k => .ok (.bl ((getK kvs k).isSome != neg)) S
        | none => .bad)
      | _ => (match lsOf S n with
        | some ds => if (flatD dx && ds.all flatD) = true then .ok (.bl (inD dx ds != neg)) S else
          (match pyOf S 60 dx, pyAll (pyOf S 60) ds with
          | some p, some ps => if (SeqAt.shaped p && SeqAt.shaped (.list ps)) = true then .ok (.bl (ps.any (fun z => PyData.eqv z p) != neg)) S else .bad
          | _, _ => .bad)
        | none => .bad)) (PQ G Q) PE := o
    split at o
    · rename_i kvs e
      obtain ⟨a, ha, rfl, vs, hv, hk⟩ := r.obj hy e
      split at o
      · rename_i k ek
        refine OpRw R.dct ⟨a, vs, k, keyD_dv hx ek, rfl, hv, ?_⟩
        rw [getK_some hk]
        exact okD r o rfl
      · exact o.elim
    · split at o
      · rename_i ds e
        obtain ⟨a, xs, ey, hr, hxs⟩ := r.ls hy e
        split at o
        · rename_i f
          exact flat ey (.inl (Rd.sql hr)) hxs f o
        · split at o
          · rename_i p ps e1 e2
            split at o
            · rename_i f
              rw [Bool.and_eq_true] at f
              refine OpRw R.deep ⟨p, ps, ?_, ?_, f.1, f.2, okD r o rfl⟩
              · rw [hK]; exact pyOf_dp r _ _ _ _ e1 hx
              · rw [hK, ey]; exact .lst (Rd.sql hr) (pyAll_dp r (fun d p v => pyOf_dp r 60 d p v) e2 hxs)
            · exact o.elim
          · exact o.elim
      · exact o.elim
  | _ => exact o.elim
def evCmp : CmpOp → D → D → M D
  | .Eq => opEqN false
  | .NotEq => opEqN true
  | .Lt => opLt
  | .LtE => opCmpI fun i j => decide (i ≤ j)
  | .Gt => opCmpI fun i j => decide (j < i)
  | .GtE => opCmpI fun i j => decide (j ≤ i)
  | .Is => opIsN false
  | .IsNot => opIsN true
  | .In => opInN false
  | .NotIn => opInN true
theorem opD_cmp (hK : X.K = G.K) (hw : X.w = G.w) (hu : X.A.units + 65 < cLine) : ∀ op : CmpOp, OpD X G (compareOp op) (evCmp op)
  | .Eq => opD_eq (by omega) hK
  | .NotEq => opD_ne (by omega) hK
  | .Lt => opD_lt hK (by omega)
  | .LtE => opD_cmpI op_le
  | .Gt => opD_cmpI op_gt
  | .GtE => opD_cmpI op_ge
  | .Is => opD_is
  | .IsNot => opD_isnot
  | .In => opD_inN (inRules hu) hK hw
  | .NotIn => opD_inN (notInRules hu) hK hw
end
end ML

set_option maxHeartbeats 1000000
namespace ML
open PySem PySem.Spec PyProof.Rows L2
section
variable (X : Cx)
def wIx (x y : V) (H : Hp) (Q : VK) : Prop := ∀ (value slice : Expr) pins s σ v u, Inv X pins σ H s → RelV x v → RelV y u → subscripted slice false v u = operate [v, u] (getItem v u) → wpAny (model X.prog X.w) X.A (subscriptTail value slice v u) (EP X pins σ Q) X.xe s
def wSl (x : V) (lo hi : Option Int) (H : Hp) (Q : VK) : Prop := ∀ pins s σ v vl vu sl, Inv X pins σ H s → RelV x v → s.heap.IsSliceOf sl vl vu .none → IsPart vl lo → IsPart vu hi →
    ∃ T id, typeLookup (.type T) "__getitem__" = pure (some (.builtin id)) ∧ s.TypeIs v T ∧ wpAny (model X.prog X.w) X.A (getItem v (.ref sl)) (EP X pins σ Q) X.xe s
def wO (e : Option Expr) : TO := fun σ H Q => ∀ pins s, Inv X pins σ H s → wpAny (model X.prog X.w) X.A (evalPart e X.env) (fun u s' => ∃ o H', Inv X pins σ H' s' ∧ IsPart u o ∧ Q o H') X.xe s
end
section
variable {X : Cx} {σ : L2.St} {H : Hp}
theorem pIx : IxR X (wIx X) := fun value slice pins s σ H x y v u Q I rx ry q hs => q value slice pins s σ v u I rx ry hs
theorem IxRw {r : R2} {x y : V} {Q : VK} (h : IxR X r) (q : r x y H Q) : wIx X x y H Q := fun value slice pins s σ v u I rx ry hs => h value slice pins s σ H x y v u Q I rx ry q hs
theorem pSl : SlR X (wSl X) := fun pins s σ H x v vl vu lo hi sl Q I rx hs pl pu q => q pins s σ v vl vu sl I rx hs pl pu
theorem SlRw {r : V → Option Int → Option Int → Hp → VK → Prop} {x : V} {lo hi : Option Int} {Q : VK} (h : SlR X r) (q : r x lo hi H Q) : wSl X x lo hi H Q := fun pins s σ v vl vu sl I rx hs pl pu => h pins s σ H x v vl vu lo hi sl Q I rx hs pl pu q
theorem pO {e : Option Expr} : PO X e (wO X e) := ⟨fun pins s σ H Q I h => h pins s I⟩
theorem POw {e : Option Expr} {t : TO} {Q : Option Int → Hp → Prop} (h : PO X e t) (q : t σ H Q) : wO X e σ H Q := fun pins s I => h.run pins s σ H Q I q
end
section
variable {X : Cx} {G : Wd} {ι : List Addr} {S : Sto} {H : Hp} {W : WX} {e a b : Expr} {es : List Expr} {pos : Pos} {ma mb : ME D} {ms : ME (List D)}
/-! ### subscripts -/
theorem DVs.atI {ds : List D} {xs : List V} {i : Int} {d : D} (h : DVs G ι H ds xs) (e : L2.atI ds i = some d) : ∃ v, L2.atI xs i = some v ∧ DV G ι H d v := by
  unfold L2.atI at e ⊢
  rw [h.length]
  cases q : ixN ds.length i with
  | none => rw [q] at e; cases e
  | some j =>
    rw [q] at e
    exact h.get (show ds[j]? = some d from e)
def keyTo : Key → D
  | .inl i => .int i
  | .inr x => .str x
theorem keyTo_dv (k : Key) : DV G ι H (keyTo k) (kV k) := by cases k <;> rfl
def oD : Option D → M D
  | some d => ret d
  | none => bad
def ixObj (n : Nat) (y : D) : M D := fun S => match S[n]? with
    | some (.dct kvs) => (match keyD y with
      | some k => oD (getK kvs k) S
      | none => .bad)
    | _ => (match y, lsOf S n with
      | .int i, some ds => oD (L2.atI ds i) S
      | _, _ => .bad)
def opIx : D → D → M D
  | .tup ds, .int i => oD (L2.atI ds i)
  | .str z, .int i => fun S => if z.length ≤ sizeLine then (match L2.atI z.cps.toList i with
    | some c => .ok (.str ⟨#[c]⟩) S
    | none => .bad) else .bad
  | .kd kvs, .str x => oD ((kvs.lookup x).map keyTo)
  | .kl ns, .int i => oD (L2.atI (ns.map D.int) i)
  | .obj n, y => ixObj n y
  | _, _ => bad
theorem ix_dct (hu : X.A.units + 1 < cLine) : IxR X (fun x y H Q => ∃ a kvs k v, x = .ref a ∧ y = kV k ∧ H a = some (.dK kvs) ∧ valV kvs k = some v ∧ Q v H) := by
  intro value slice pins s σ H x y v u Q I rx ry h hs
  obtain ⟨a, kvs, k, r, rfl, rfl, hl, e, q⟩ := h
  obtain rfl : v = Value.ref a := rx
  have g : DGet H a (kV k) (some r) := by rw [← e]; exact DGet.k hl
  exact tail_any (dict_typeIs I g) slot_dict_getitem.lookup (d_getItem hu I g ry fun w' s' I' rw' => ⟨r, H, I', rw', q⟩) hs
theorem oD_ok {o : Option D} {Q : VK} {PE} (r : Rel G ι S H) (h : Ok G ι H (oD o S) (PQ G Q) PE) : ∃ d, o = some d ∧ ∀ v, DV G ι H d v → Q v H := by
  cases o with
  | none => exact h.elim
  | some d => exact ⟨d, rfl, fun v hv => okD r h hv⟩
theorem ixD (hK : X.K = G.K) (hw : X.w = G.w) (hu : X.A.units + 1 < cLine) : ∀ ι S H x y dx dy Q PE, Rel G ι S H → DV G ι H dx x → DV G ι H dy y → Ok G ι H (opIx dx dy S) (PQ G Q) PE → wIx X x y H Q := fun ι S H x y dx dy Q PE r hx hy o => by
  cases dx with
  | tup ds =>
    cases dy <;> first | exact o.elim | skip
    case int i =>
      obtain rfl : y = .int i := hy
      obtain ⟨p, xs, rfl, tp, hxs⟩ := hx
      obtain ⟨d, e, k⟩ := oD_ok r o
      obtain ⟨v, h1, h2⟩ := hxs.atI e
      exact IxRw ix_tup ⟨p, xs, i, v, rfl, rfl, tp.sx hK, h1, k v h2⟩
  | str z =>
    cases dy <;> first | exact o.elim | skip
    case int i =>
      obtain rfl : y = .int i := hy
      have o2 : Ok G ι H (if z.length ≤ sizeLine then (match L2.atI z.cps.toList i with
        | some c => .ok (.str ⟨#[c]⟩) S
        | none => .bad) else .bad) (PQ G Q) PE := o
      split at o2
      · rename_i hz
        split at o2
        · rename_i c e
          exact IxRw ix_str ⟨z, i, c, hx, rfl, hz, e, okD r o2 rfl⟩
        · exact o2.elim
      · exact o2.elim
  | kd kvs =>
    cases dy <;> first | exact o.elim | skip
    case str z =>
      obtain ⟨p, rfl, ⟨es, n, hd⟩, hk⟩ := hx
      obtain ⟨d, e, k⟩ := oD_ok r o
      obtain ⟨res, h1, h2⟩ := hk z
      cases q : kvs.lookup z with
      | none => rw [q] at e; cases e
      | some key =>
        rw [q] at e h2
        cases e
        obtain ⟨u, e1, e2⟩ := RelO.some_of h2
        subst e1
        exact IxRw ix_kdict ⟨p, z, kV key, rfl, hy, ⟨es, n, u, by rw [hK]; exact hd.at_, by rw [hw]; exact hd.lit, by rw [hK]; exact h1, e2⟩, k _ (keyTo_dv key)⟩
  | obj n =>
    have o2 : Ok G ι H (ixObj n dy S) (PQ G Q) PE := by cases dy <;> exact o
    clear o
    unfold ixObj at o2
    split at o2
    · rename_i kvs e
      obtain ⟨p, ha, rfl, vs, hv, hk⟩ := r.obj hx e
      split at o2
      · rename_i k ek
        obtain ⟨d, e, kq⟩ := oD_ok r o2
        obtain ⟨v, h1, h2⟩ := (getK_dv (k := k) hk).2 d e
        exact IxRw (ix_dct hu) ⟨p, vs, k, v, rfl, keyD_dv hy ek, hv, h1, kq v h2⟩
      · exact o2.elim
    · split at o2
      · rename_i i ds e
        obtain rfl : y = .int i := hy
        obtain ⟨p, xs, rfl, hr, hxs⟩ := r.ls hx e
        obtain ⟨d, e, k⟩ := oD_ok r o2
        obtain ⟨v, h1, h2⟩ := hxs.atI e
        exact IxRw ix_list ⟨p, xs, i, v, rfl, rfl, Rd.sql hr, h1, k v h2⟩
      · exact o2.elim
  | kl ns =>
    cases dy <;> first | exact o.elim | skip
    case int i =>
      obtain rfl : y = .int i := hy
      obtain ⟨p, rfl, hk⟩ := hx
      obtain ⟨d, e, k⟩ := oD_ok r o
      obtain ⟨v, h1, h2⟩ := (DVs.of_ints (G := G) (ι := ι) (H := H) ns).atI e
      exact IxRw ix_list ⟨p, _, i, v, rfl, rfl, by rw [hK]; exact hk.sq, h1, k v h2⟩
  | non => exact o.elim
  | bl _ => exact o.elim
  | int _ => exact o.elim
theorem SE.ix (hK : X.K = G.K) (hw : X.w = G.w) (hu : X.A.units + 1 < cLine) (ha : SE X G W a ma) (hb : SE X G W b mb) (hs : PlainIx b) : SE X G W (.Subscript a b pos) (fun ρ => bnd (ma ρ) fun x => bnd (mb ρ) fun y => opIx x y) := fun ι S H σ ρ Q r en o => by
  refine PEw (pe_ix pIx pE pE hs) ?_
  refine ha ι S H σ ρ _ r en (o.bnd.imp (fun ι1 S1 H1 dx g1 r1 h1 x hx => ?_) fun _ _ _ _ _ z => z)
  refine hb ι1 S1 H1 σ ρ _ r1 (en.grow g1) (h1.bnd.imp (fun ι2 S2 H2 dy g2 r2 h2 y hy => ?_) fun _ _ _ _ _ z => z)
  exact ixD hK hw hu ι2 S2 H2 x y dx dy Q _ r2 (hx.grow g2) hy h2
/-! ### slices -/
def cutL {α : Type} (xs : List α) (lo hi : Option Int) : List α := (xs.drop (HT.sIx xs.length 0 lo)).take (HT.sIx xs.length xs.length hi - HT.sIx xs.length 0 lo)
theorem DVs.cut {ds : List D} {xs : List V} (h : DVs G ι H ds xs) (lo hi : Option Int) : DVs G ι H (cutL ds lo hi) (cutV xs lo hi) := by
  unfold cutL cutV
  rw [h.length]
  exact (h.drop _).take _
def opSl (d : D) (lo hi : Option Int) : M D := fun S => match d with
  | .kl ns => .ok (.obj S.length) (S ++ [.lst (cutL (ns.map D.int) lo hi)])
  | .tup ds => .ok (.tup (cutL ds lo hi)) S
  | .str z => if z.length ≤ sizeLine then .ok (.str (cutS z lo hi)) S else .bad
  | .obj n => (match lsOf S n with
    | some ds => .ok (.obj S.length) (S ++ [.lst (cutL ds lo hi)])
    | none => .bad)
  | _ => .bad
theorem cut_all {α : Type} {xs : List α} {lo hi : Option Int} (h : HT.sIx xs.length 0 lo = 0 ∧ HT.sIx xs.length xs.length hi = xs.length) : cutL xs lo hi = xs := by
  unfold cutL
  rw [h.1, h.2]
  simp
theorem slD (hK : X.K = G.K) : ∀ ι S H x dx lo hi Q PE, Rel G ι S H → DV G ι H dx x → Ok G ι H (opSl dx lo hi S) (PQ G Q) PE → wSl X x lo hi H Q := fun ι S H x dx lo hi Q PE r hx o => by
  cases dx with
  | tup ds =>
    obtain ⟨p, xs, rfl, tp, hxs⟩ := hx
    have hl := hxs.length
    refine SlRw sl_tupA ⟨p, xs, rfl, tp.sx hK, fun h => ?_, fun _ c hc => tup_new r (hxs.cut lo hi) hc o⟩
    refine okD r o ?_
    rw [cut_all (by rw [← hl]; exact h)]
    exact ⟨p, xs, rfl, tp, hxs⟩
  | str z =>
    have o2 : Ok G ι H (if z.length ≤ sizeLine then .ok (.str (cutS z lo hi)) S else .bad) (PQ G Q) PE := o
    split at o2
    · rename_i hz
      exact SlRw sl_str ⟨z, hx, hz, okD r o2 rfl⟩
    · exact o2.elim
  | obj n =>
    have o2 : Ok G ι H (match lsOf S n with
      | some ds => .ok (.obj S.length) (S ++ [.lst (cutL ds lo hi)])
      | none => .bad) (PQ G Q) PE := o
    split at o2
    · rename_i ds e
      obtain ⟨p, xs, rfl, hr, hxs⟩ := r.ls hx e
      exact SlRw sl_list ⟨p, xs, rfl, Rd.sql hr, fun c hc => cell_new (c := .lst (cutL ds lo hi)) r hc ⟨_, upd_same, (hxs.cut lo hi).grow (grow_push hc)⟩ o2⟩
    · exact o2.elim
  | kl ns =>
    obtain ⟨p, rfl, hk⟩ := hx
    exact SlRw sl_list ⟨p, _, rfl, by rw [hK]; exact hk.sq, fun c hc => cell_new (c := .lst (cutL (ns.map D.int) lo hi)) r hc ⟨_, upd_same, ((DVs.of_ints ns).cut lo hi).grow (grow_push hc)⟩ o⟩
  | _ => exact o.elim
def EvO (G : Wd) (W : WX) (te : TO) (m : ME (Option Int)) : Prop := ∀ ι S H σ ρ Q, Rel G ι S H → EnvOk G ι H σ ρ → Ok G ι H (m ρ S) (fun _ _ H' o => Q o H') (PErr G W σ) → te σ H Q
def SO (X : Cx) (G : Wd) (W : WX) (e : Option Expr) (m : ME (Option Int)) : Prop := EvO G W (wO X e) m
def asI : D → M (Option Int)
  | .int i => ret (some i)
  | _ => bad
theorem SO.none : SO X G W none (fun _ => ret none) := fun ι S H σ ρ Q r en o => POw po_none (Ok.fin (P := fun _ _ H' o => Q o H') o r)
theorem SO.some (h : SE X G W e ma) : SO X G W (some e) (fun ρ => bnd (ma ρ) asI) := fun ι S H σ ρ Q r en o => by
  refine POw (po_some pE) ?_
  refine h ι S H σ ρ _ r en (o.bnd.imp (fun ι1 S1 H1 dx g1 r1 h1 x hx => ?_) fun _ _ _ _ _ z => z)
  cases dx with
  | int i => exact ⟨i, hx, Ok.fin (P := fun _ _ H' o => Q o H') h1 r1⟩
  | _ => exact h1.elim
theorem SE.slice {lo hi : Option Expr} {p2 : Pos} {ml mh : ME (Option Int)} (hK : X.K = G.K) (ha : SE X G W a ma) (hl : SO X G W lo ml) (hh : SO X G W hi mh) : SE X G W (.Subscript a (.Slice lo hi none p2) pos) (fun ρ => bnd (ma ρ) fun x => bnd (ml ρ) fun l => bnd (mh ρ) fun h => opSl x l h) := fun ι S H σ ρ Q r en o => by
  refine PEw (pe_slice pSl pE pO pO) ?_
  refine ha ι S H σ ρ _ r en (o.bnd.imp (fun ι1 S1 H1 dx g1 r1 h1 x hx => ?_) fun _ _ _ _ _ z => z)
  refine hl ι1 S1 H1 σ ρ _ r1 (en.grow g1) (h1.bnd.imp (fun ι2 S2 H2 l g2 r2 h2 => ?_) fun _ _ _ _ _ z => z)
  refine hh ι2 S2 H2 σ ρ _ r2 (en.grow (g1.trans g2)) (h2.bnd.imp (fun ι3 S3 H3 u g3 r3 h3 => ?_) fun _ _ _ _ _ z => z)
  exact slD hK ι3 S3 H3 x dx l u Q _ r3 (hx.grow (g2.trans g3)) h3
/-! ### calls of built-ins -/
variable {id T : String} {x : Str} {p : Pos} {g : List D → M D}
theorem SE.callB (hc : CallD X G (.builtin id) g) (hg : Gl X x) (hm : X.mg x = none) (hv : bootBuiltins x = some (.builtin id)) (ha : SA X G W (e :: es) ms) (hn : x ≠ "__name__") (hdb : (x == ("__debug__" : Str)) = false)
    (he : starEach (e :: es) X.env = (false, eval e X.env) :: starEach es X.env) (hpl : (backTo pos (starEach es X.env)).any (·.1) = false) : SE X G W (.Call (.Name x p) (e :: es) [] pos) (fun ρ => bnd (ms ρ) g) := fun ι S H σ ρ Q r en o => by
  refine PEw (pe_callB pCall hg hm hv pA hn hdb he hpl) ?_
  refine ha ι S H σ ρ _ r en (o.bnd.imp (fun ι1 S1 H1 ds g1 r1 h1 xs hx => ?_) fun _ _ _ _ _ z => z)
  exact hc ι1 S1 H1 xs ds Q _ r1 hx h1
theorem SE.callTy (hc : CallD X G (.type T) g) (hg : Gl X x) (hm : X.mg x = none) (hv : bootBuiltins x = some (.type T)) (ha : SA X G W (e :: es) ms) (hn : x ≠ "__name__") (hdb : (x == ("__debug__" : Str)) = false)
    (he : starEach (e :: es) X.env = (false, eval e X.env) :: starEach es X.env) (hpl : (backTo pos (starEach es X.env)).any (·.1) = false) : SE X G W (.Call (.Name x p) (e :: es) [] pos) (fun ρ => bnd (ms ρ) g) := fun ι S H σ ρ Q r en o => by
  refine PEw (pe_callTy pCall hg hm hv pA hn hdb he hpl) ?_
  refine ha ι S H σ ρ _ r en (o.bnd.imp (fun ι1 S1 H1 ds g1 r1 h1 xs hx => ?_) fun _ _ _ _ _ z => z)
  exact hc ι1 S1 H1 xs ds Q _ r1 hx h1
theorem DVs.one_of {d : D} {xs : List V} (h : DVs G ι H [d] xs) : ∃ v, xs = [v] ∧ DV G ι H d v := by
  obtain ⟨v, vs, e, a, b⟩ := h
  rw [show vs = [] from b] at e
  exact ⟨v, e, a⟩
theorem DVs.two_of {d d' : D} {xs : List V} (h : DVs G ι H [d, d'] xs) : ∃ v u, xs = [v, u] ∧ DV G ι H d v ∧ DV G ι H d' u := by
  obtain ⟨v, vs, e, a, b⟩ := h
  obtain ⟨u, e2, c⟩ := b.one_of
  rw [e2] at e
  exact ⟨v, u, e, a, c⟩
def fLen : List D → M D
  | [.str z] => fun S => if z.length ≤ sizeLine then .ok (.int z.length) S else .bad
  | [.tup ds] => ret (.int ds.length)
  | [.kl ns] => ret (.int ns.length)
  | [.obj n] => fun S => match S[n]? with
    | some (.dct kvs) => .ok (.int kvs.length) S
    | _ => (match lsOf S n with
      | some ds => .ok (.int ds.length) S
      | none => .bad)
  | _ => bad
theorem call_len_d : CallR X (.builtin "len") (fun xs H Q => ∃ a kvs, xs = [.ref a] ∧ Rd H a (.dK kvs) ∧ Q (.int kvs.length) H) := by
  intro pins s σ H xs us Q I r h
  obtain ⟨a, kvs, rfl, hq, q⟩ := h
  obtain ⟨u, rfl, rx⟩ := vals1 r
  cases rx
  exact d_len I hq fun t s' I' => ⟨.int kvs.length, H, I', ⟨_, rfl⟩, q⟩
theorem callD_len (hK : X.K = G.K) : CallD X G (.builtin "len") fLen := fun ι S H xs ds Q PE r hx o => by
  unfold fLen at o
  split at o
  · rename_i z
    obtain ⟨v, rfl, h⟩ := hx.one_of
    split at o
    · rename_i hz
      exact CallRw call_len_str ⟨z, by rw [show v = .str z from h], hz, okD r o rfl⟩
    · exact o.elim
  · rename_i ds
    obtain ⟨v, rfl, p, ys, rfl, tp, hys⟩ := hx.one_of
    refine CallRw call_len_seq ⟨p, ys, rfl, .inr (tp.sx hK), ?_⟩
    rw [hys.length]
    exact okD r o rfl
  · rename_i ns
    obtain ⟨v, rfl, p, rfl, hk⟩ := hx.one_of
    refine CallRw call_len_seq ⟨p, ns.map V.int, rfl, .inl (by rw [hK]; exact hk.sq), ?_⟩
    rw [List.length_map]
    exact okD r o rfl
  · rename_i n
    obtain ⟨v, rfl, h⟩ := hx.one_of
    split at o
    · rename_i kvs e
      obtain ⟨p, ha, rfl, vs, hv, hk⟩ := r.obj h e
      refine CallRw call_len_d ⟨p, vs, rfl, .inl hv, ?_⟩
      rw [hk.length]
      exact okD r o rfl
    · split at o
      · rename_i ds e
        obtain ⟨p, ys, rfl, hr, hys⟩ := r.ls h e
        refine CallRw call_len_seq ⟨p, ys, rfl, .inl (Rd.sql hr), ?_⟩
        rw [hys.length]
        exact okD r o rfl
      · exact o.elim
  · exact o.elim
def fII (f : Int → Int → Int) : List D → M D
  | [.int i, .int j] => ret (.int (f i j))
  | _ => bad
theorem callD_II {f : Int → Int → Int} {c : Value} (h : CallR X c (fun xs H Q => ∃ i j, xs = [.int i, .int j] ∧ Q (.int (f i j)) H)) : CallD X G c (fII f) := fun ι S H xs ds Q PE r hx o => by
  unfold fII at o
  split at o
  · rename_i i j
    obtain ⟨v, u, rfl, h1, h2⟩ := hx.two_of
    exact CallRw h ⟨i, j, by rw [show v = .int i from h1, show u = .int j from h2], okD r o rfl⟩
  · exact o.elim
def fInt : List D → M D
  | [.int i] => ret (.int i)
  | [.bl k] => ret (.int (if k then 1 else 0))
  | _ => bad
theorem callD_int : CallD X G (.type "int") fInt := fun ι S H xs ds Q PE r hx o => by
  unfold fInt at o
  split at o
  · rename_i i
    obtain ⟨v, rfl, h⟩ := hx.one_of
    exact CallRw call_int1 (.inl ⟨i, by rw [show v = .int i from h], okD r o rfl⟩)
  · rename_i k
    obtain ⟨v, rfl, h⟩ := hx.one_of
    exact CallRw call_int1 (.inr ⟨k, by rw [show v = .bl k from h], okD r o rfl⟩)
  · exact o.elim
def fStr : List D → M D
  | [.int i] => fun S => if i.natAbs.log2 < 1920 then .ok (.str (toString i)) S else .bad
  | _ => bad
theorem callD_str : CallD X G (.type "str") fStr := fun ι S H xs ds Q PE r hx o => by
  unfold fStr at o
  split at o
  · rename_i i
    obtain ⟨v, rfl, h⟩ := hx.one_of
    split at o
    · rename_i hl
      exact CallRw call_str_int ⟨i, by rw [show v = .int i from h], hl, okD r o rfl⟩
    · exact o.elim
  · exact o.elim
/-- list(x), tuple(x) of a list or tuple -/
def fList : List D → M D
  | [.tup ds] => fun S => .ok (.obj S.length) (S ++ [.lst ds])
  | [.obj n] => fun S => match lsOf S n with
    | some ds => .ok (.obj S.length) (S ++ [.lst ds])
    | none => .bad
  | _ => bad
theorem callD_list (hK : X.K = G.K) : CallD X G (.type "list") fList := fun ι S H xs ds Q PE r hx o => by
  unfold fList at o
  split at o
  · rename_i ds
    obtain ⟨v, rfl, p, ys, rfl, tp, hys⟩ := hx.one_of
    exact CallRw call_list_of ⟨p, ys, rfl, .inr (tp.sx hK), fun c hc => cell_new (c := .lst ds) r hc ⟨_, upd_same, hys.grow (grow_push hc)⟩ o⟩
  · rename_i n
    obtain ⟨v, rfl, h⟩ := hx.one_of
    split at o
    · rename_i ds e
      obtain ⟨p, ys, rfl, hr, hys⟩ := r.ls h e
      exact CallRw call_list_of ⟨p, ys, rfl, .inl (Rd.sql hr), fun c hc => cell_new (c := .lst ds) r hc ⟨_, upd_same, hys.grow (grow_push hc)⟩ o⟩
    · exact o.elim
  · exact o.elim
def fTup : List D → M D
  | [.tup ds] => ret (.tup ds)
  | [.obj n] => fun S => match lsOf S n with
    | some ds => .ok (.tup ds) S
    | none => .bad
  | _ => bad
theorem callD_tup (hK : X.K = G.K) : CallD X G (.type "tuple") fTup := fun ι S H xs ds Q PE r hx o => by
  unfold fTup at o
  split at o
  · rename_i ds
    obtain ⟨v, rfl, p, ys, rfl, tp, hys⟩ := hx.one_of
    exact CallRw call_tuple_of ⟨p, ys, rfl, .inr ⟨tp.sx hK, okD r o ⟨p, ys, rfl, tp, hys⟩⟩⟩
  · rename_i n
    obtain ⟨v, rfl, h⟩ := hx.one_of
    split at o
    · rename_i ds e
      obtain ⟨p, ys, rfl, hr, hys⟩ := r.ls h e
      exact CallRw call_tuple_of ⟨p, ys, rfl, .inl ⟨Rd.sql hr, fun c hc => tup_new r hys hc o⟩⟩
    · exact o.elim
  · exact o.elim
def blsOf : List D → Option (List Bool)
  | [] => some []
  | .bl b :: ds => (blsOf ds).map (b :: ·)
  | _ => none
theorem blsOf_eq : ∀ {ds : List D} {bs : List Bool}, blsOf ds = some bs → ds = bs.map D.bl
  | [], bs, e => by cases e; rfl
  | .bl b :: ds, bs, e => by
    have e : (blsOf ds).map (b :: ·) = some bs := e
    cases q : blsOf ds with
    | none => rw [q] at e; cases e
    | some ms =>
      rw [q] at e
      cases e
      rw [blsOf_eq q]
      rfl
  | .non :: _, _, e => by cases e
  | .int _ :: _, _, e => by cases e
  | .str _ :: _, _, e => by cases e
  | .tup _ :: _, _, e => by cases e
  | .obj _ :: _, _, e => by cases e
  | .kd _ :: _, _, e => by cases e
  | .kl _ :: _, _, e => by cases e
theorem blsOf_map : ∀ bs : List Bool, blsOf (bs.map D.bl) = some bs
  | [] => rfl
  | b :: bs => by
    show (blsOf (bs.map D.bl)).map (b :: ·) = some (b :: bs)
    rw [blsOf_map bs]; rfl
theorem DVs.bls : ∀ {bs : List Bool} {vs : List V}, DVs G ι H (bs.map D.bl) vs → vs = bs.map V.bl
  | [], _, h => h
  | b :: bs, _, ⟨v, vs, e, a, c⟩ => by
    subst e
    rw [show v = V.bl b from a, DVs.bls (bs := bs) c]
    rfl
/-- all, any of a list of truths -/
def fBs (f : List Bool → Bool) : List D → M D
  | [.obj n] => fun S => match (lsOf S n).bind blsOf with
    | some bs => .ok (.bl (f bs)) S
    | none => .bad
  | _ => bad
theorem callD_bs {f : List Bool → Bool} {c : Value} (h : CallR X c (fun vs H Q => ∃ (a : Addr) (bs : List Bool), vs = [V.ref a] ∧ SqL X.K H a (bs.map V.bl) ∧ Q (.bl (f bs)) H)) : CallD X G c (fBs f) := fun ι S H xs ds Q PE r hx o => by
  unfold fBs at o
  split at o
  · rename_i n
    obtain ⟨v, rfl, hv⟩ := hx.one_of
    split at o
    · rename_i bs e
      cases q : lsOf S n with
      | none => rw [q] at e; cases e
      | some ds =>
        rw [q] at e
        have e := blsOf_eq (show blsOf ds = some bs from e)
        subst e
        obtain ⟨p, ys, rfl, hr, hys⟩ := r.ls hv q
        have f1 := hys.bls
        subst f1
        exact CallRw h ⟨p, bs, rfl, Rd.sql hr, okD r o rfl⟩
    · exact o.elim
  · exact o.elim
/-- a function of a list of ints -/
def fNs (f : List Int → Int) (c : List Int → Bool) : List D → M D
  | [.obj n] => fun S => match (lsOf S n).bind intsOf with
    | some ns => if c ns = true then .ok (.int (f ns)) S else .bad
    | none => .bad
  | _ => bad
theorem callD_ns {f : List Int → Int} {c : List Int → Bool} {cv : Value} (h : CallR X cv (fun vs H Q => ∃ (a : Addr) (ns : List Int), vs = [V.ref a] ∧ SqL X.K H a (ns.map V.int) ∧ c ns = true ∧ Q (.int (f ns)) H)) : CallD X G cv (fNs f c) := fun ι S H xs ds Q PE r hx o => by
  unfold fNs at o
  split at o
  · rename_i n
    obtain ⟨v, rfl, hv⟩ := hx.one_of
    split at o
    · rename_i ns e
      split at o
      · rename_i hc
        cases q : lsOf S n with
        | none => rw [q] at e; cases e
        | some ds =>
          rw [q] at e
          have e := intsOf_eq (show intsOf ds = some ns from e)
          subst e
          obtain ⟨p, ys, rfl, hr, hys⟩ := r.ls hv q
          have f1 := hys.ints
          subst f1
          exact CallRw h ⟨p, ns, rfl, Rd.sql hr, hc, okD r o rfl⟩
      · exact o.elim
    · exact o.elim
  · exact o.elim
/-- the rising arrangement of ints -/
def insI (n : Int) : List Int → List Int
  | [] => [n]
  | m :: r => if n ≤ m then n :: m :: r else m :: insI n r
def srtI : List Int → List Int
  | [] => []
  | n :: r => insI n (srtI r)
theorem insI_perm (n : Int) : ∀ l : List Int, (insI n l).Perm (n :: l)
  | [] => .refl _
  | m :: r => by
    unfold insI
    split
    · exact .refl _
    · exact ((insI_perm n r).cons m).trans (.swap n m r)
theorem srtI_perm : ∀ l : List Int, (srtI l).Perm l
  | [] => .refl _
  | n :: r => (insI_perm n _).trans ((srtI_perm r).cons n)
theorem insI_pw (n : Int) : ∀ {l : List Int}, l.Pairwise (· ≤ ·) → (insI n l).Pairwise (· ≤ ·)
  | [], _ => by simp [insI]
  | m :: r, h => by
    unfold insI
    split
    · rename_i hn
      refine List.pairwise_cons.mpr ⟨fun a ha => ?_, h⟩
      rcases List.mem_cons.mp ha with e | ha
      · omega
      · have := (List.pairwise_cons.mp h).1 a ha; omega
    · rename_i hn
      refine List.pairwise_cons.mpr ⟨fun a ha => ?_, insI_pw n (List.pairwise_cons.mp h).2⟩
      rcases List.mem_cons.mp ((insI_perm n r).mem_iff.mp ha) with e | ha
      · omega
      · exact (List.pairwise_cons.mp h).1 a ha
theorem srtI_pw : ∀ l : List Int, (srtI l).Pairwise (· ≤ ·)
  | [] => .nil
  | n :: r => insI_pw n (srtI_pw r)
theorem perm_sorted_eq {l l' : List Int} (p : l.Perm l') (h : l.Pairwise (· ≤ ·)) (h' : l'.Pairwise (· ≤ ·)) : l = l' :=
  p.eq_of_pairwise (fun a b _ _ h1 h2 => Int.le_antisymm h1 h2) h h'
def fSorted : List D → M D
  | [.obj n] => fun S => match (lsOf S n).bind intsOf with
    | some ns => .ok (.obj S.length) (S ++ [.lst ((srtI ns).map D.int)])
    | none => .bad
  | _ => bad
theorem callD_sorted (hc : X.calm = true) : CallD X G (.builtin "sorted") fSorted := fun ι S H xs ds Q PE r hx o => by
  unfold fSorted at o
  split at o
  · rename_i n
    obtain ⟨v, rfl, hv⟩ := hx.one_of
    split at o
    · rename_i ns e
      cases q : lsOf S n with
      | none => rw [q] at e; cases e
      | some ds =>
        rw [q] at e
        have e := intsOf_eq (show intsOf ds = some ns from e)
        subst e
        obtain ⟨p, ys, rfl, hr, hys⟩ := r.ls hv q
        have f1 := hys.ints
        subst f1
        refine CallRw cr_sortedI ⟨p, ns, rfl, Rd.sql hr, fun ms c hp hw hc => ?_⟩
        have em : ms = srtI ns := perm_sorted_eq (hp.trans (srtI_perm ns).symm) hw (srtI_pw ns)
        subst em
        exact cell_new (c := .lst ((srtI ns).map D.int)) r hc ⟨_, upd_same, DVs.of_ints _⟩ o
    · exact o.elim
  · exact o.elim
end
end ML

set_option maxHeartbeats 1000000
namespace ML
open PySem PySem.Spec PyProof.Rows L2

/-! ### what enumerate and zip draw from: a list (0), a tuple (1), a text (2) -/
def signs (z : Str) : List V := z.cps.toList.map fun c => V.str ⟨#[c]⟩
def SrcV (K : PySem.W.Frag) (H : Hp) : Nat → V → List V → Prop
  | 0, x, xs => ∃ a, x = .ref a ∧ SqL K H a xs
  | 1, x, xs => ∃ a, x = .ref a ∧ SqT K H a xs
  | _, x, xs => ∃ z, x = .str z ∧ xs = signs z
def SrcIt : Nat → V → Addr → Nat → Heap → Prop
  | 0, x, it, i, h => ∃ a, x = .ref a ∧ h.IsListIter it a i
  | 1, x, it, i, h => ∃ a, x = .ref a ∧ h.IsTupleIter it a i
  | _, x, it, i, h => ∃ z t, x = .str z ∧ h.IsStrIter it (strIterType z) z t i
section
variable {X : Cx} {pins : List (Addr × Obj)} {σ : L2.St} {H : Hp} {s : Shared} {x : V} {xs ys : List V} {k : Nat} {it : Addr}
theorem SrcV.inj (I : Inv X pins σ H s) (h : SrcV X.K H k x xs) (h' : SrcV X.K H k x ys) : xs = ys := by
  match k, h, h' with
  | 0, h, h' =>
    obtain ⟨a, e, q⟩ := h
    obtain ⟨b, e', q'⟩ := h'
    rw [e] at e'; cases e'
    exact I.list_inj q q'
  | 1, h, h' =>
    obtain ⟨a, e, q⟩ := h
    obtain ⟨b, e', q'⟩ := h'
    rw [e] at e'; cases e'
    exact I.tuple_inj q q'
  | _ + 2, h, h' =>
    obtain ⟨a, e, q⟩ := h
    obtain ⟨b, e', q'⟩ := h'
    rw [e] at e'; cases e'
    exact q.trans q'.symm
theorem SrcIt.ob {h : Heap} {i : Nat} (q : SrcIt k x it i h) : ∃ o, h.get? it = some o ∧ ∀ v, o.data ≠ .cell v := by
  match k, q with
  | 0, q => obtain ⟨a, e, o, ho, hc, hd⟩ := q; exact ⟨o, ho, fun v z => by rw [hd] at z; cases z⟩
  | 1, q => obtain ⟨a, e, o, ho, hc, hd⟩ := q; exact ⟨o, ho, fun v z => by rw [hd] at z; cases z⟩
  | _ + 2, q => obtain ⟨a, t, e, o, ho, hc, hd⟩ := q; exact ⟨o, ho, fun v z => by rw [hd] at z; cases z⟩
theorem SrcIt.at {h h' : Heap} {i : Nat} (q : SrcIt k x it i h) (e : ∀ o, h.get? it = some o → h'.get? it = some o) : SrcIt k x it i h' := by
  match k, q with
  | 0, q => obtain ⟨a, e1, o, ho, r⟩ := q; exact ⟨a, e1, o, e o ho, r⟩
  | 1, q => obtain ⟨a, e1, o, ho, r⟩ := q; exact ⟨a, e1, o, e o ho, r⟩
  | _ + 2, q => obtain ⟨a, t, e1, o, ho, r⟩ := q; exact ⟨a, t, e1, o, e o ho, r⟩
/-- an object that stands is none of the iterator's -/
theorem sq_ne (I : Inv X pins σ H s) {a b : Addr} (h : SqL X.K H a xs ∨ SqT X.K H a xs) (f : FpOk X pins H b) : a ≠ b := by
  intro e
  subst e
  have fin : ∀ o, X.K.lookup a = some o → False := fun o ho => by
    have hb := I.ok.mod.kin a o ho
    rcases f.2.2.2.1 with z | z
    · exact I.ok.noex a o hb z
    · exact absurd (Nat.lt_of_lt_of_le (Heap.lt_size (I.ok.bs a o hb).1) z) (Nat.lt_irrefl _)
  have trk : ∀ u, Rd H a u → False := fun u hu => by
    rcases hu with q | ⟨o, q⟩
    · rw [f.1] at q; cases q
    · rw [f.1] at q; cases q
  rcases h with (h | ⟨o, its, n, ho, _⟩) | (h | ⟨o, its, n, ho, _⟩)
  · exact trk _ h
  · exact fin o ho
  · exact trk _ h
  · exact fin o ho
/-- a source, as it stands, draws -/
structure Drawn (X : Cx) (pins : List (Addr × Obj)) (H : Hp) (h : Heap) (k : Nat) (x : V) (xs : List V) (it : Addr) (i : Nat) (A : Around) : Prop where
  ex : ∃ (fp : List Addr) (P : Nat → Value → Prop) (St : Nat → Heap → Prop), Draws X.prog X.w A it fp xs.length P St ∧ St i h ∧ it ∈ fp ∧ (∀ b ∈ fp, b = it ∨ ∀ c, FpOk X pins H c → b ≠ c) ∧
    (∀ j h', St j h' → SrcIt k x it j h') ∧ ∀ j v, P j v → ∃ y, xs[j]? = some y ∧ RelV y v
theorem drawn (I : Inv X pins σ H s) {A : Around} (hh : A.handled = none) {i : Nat} (src : SrcV X.K H k x xs) (f : FpOk X pins H it) (q : SrcIt k x it i s.heap) : Drawn X pins H s.heap k x xs it i A := by
  match k, src, q with
  | 0, src, q =>
    obtain ⟨a, rfl, sq⟩ := src
    obtain ⟨b, e, hit⟩ := q
    cases e
    obtain ⟨its, rv, p, hz⟩ := I.list sq
    have hl := rv.length
    have ne := sq_ne I (.inl sq) f
    refine ⟨[it, a], fun i v => its.toArray[i]? = some v, fun i h => h.IsListIter it a i ∧ h.IsList a its.toArray, ?_, ⟨hit, p.isList⟩, by simp, fun b hb => ?_, fun j h' st => ⟨a, rfl, st.1⟩, fun j v e => ?_⟩
    · have := Draws.list (prog := X.prog) (w := X.w) (A := A) hh it a ne its.toArray
      rw [List.size_toArray, ← hl] at this
      exact this
    · rcases List.mem_cons.mp hb with z | z
      · exact .inl z
      · have : b = a := by simpa using z
        subst this
        exact .inr fun c fc => sq_ne I (.inl sq) fc
    · have e : its[j]? = some v := by simpa using e
      have hj := (List.getElem?_eq_some_iff.mp e).1
      have : j < xs.length := by omega
      obtain ⟨u, e1, e2⟩ := rv.get (List.getElem?_eq_getElem this)
      rw [e] at e1; cases e1
      exact ⟨_, List.getElem?_eq_getElem this, e2⟩
  | 1, src, q =>
    obtain ⟨a, rfl, sq⟩ := src
    obtain ⟨b, e, hit⟩ := q
    cases e
    obtain ⟨its, rv, p, hz⟩ := I.tuple sq
    have hl := rv.length
    have ne := sq_ne I (.inr sq) f
    refine ⟨[it, a], fun i v => its.toArray[i]? = some v, fun i h => h.IsTupleIter it a i ∧ h.IsTuple a its.toArray, ?_, ⟨hit, p⟩, by simp, fun b hb => ?_, fun j h' st => ⟨a, rfl, st.1⟩, fun j v e => ?_⟩
    · have := Draws.tuple (prog := X.prog) (w := X.w) (A := A) hh it a ne its.toArray
      rw [List.size_toArray, ← hl] at this
      exact this
    · rcases List.mem_cons.mp hb with z | z
      · exact .inl z
      · have : b = a := by simpa using z
        subst this
        exact .inr fun c fc => sq_ne I (.inr sq) fc
    · have e : its[j]? = some v := by simpa using e
      have hj := (List.getElem?_eq_some_iff.mp e).1
      have : j < xs.length := by omega
      obtain ⟨u, e1, e2⟩ := rv.get (List.getElem?_eq_getElem this)
      rw [e] at e1; cases e1
      exact ⟨_, List.getElem?_eq_getElem this, e2⟩
  | _ + 2, src, q =>
    obtain ⟨z, rfl, rfl⟩ := src
    obtain ⟨z', t, e, hit⟩ := q
    cases e
    refine ⟨[it], fun i v => ∃ c u, z.cps[i]? = some c ∧ v = .str ⟨#[c]⟩ u, fun i h => h.IsStrIter it (strIterType z) z t i, ?_, hit, by simp, fun b hb => .inl (by simpa using hb), fun j h' st => ⟨z, t, rfl, st⟩, fun j v e => ?_⟩
    · have := Draws.text (prog := X.prog) (w := X.w) (A := A) hh it z t
      rw [show (signs z).length = z.cps.size by simp [signs]]
      exact this
    · obtain ⟨c, u, e1, rfl⟩ := e
      refine ⟨.str ⟨#[c]⟩, ?_, ⟨u, rfl⟩⟩
      have : z.cps.toList[j]? = some c := by simpa using e1
      unfold signs
      rw [List.getElem?_map, this]
      rfl
end
/-! ### enumerate -/
def Ien (K : PySem.W.Frag) (k : Nat) (x : V) : It :=
  ⟨fun i H => ∃ xs : List V, SrcV K H k x xs ∧ i < xs.length, fun i H v H' => ∃ T y, v = .ref T ∧ H T = none ∧ H' = upd H T (.tup [.int (i : Nat), y]) ∧ ∀ xs, SrcV K H k x xs → xs[i]? = some y, fun i H => ∃ xs : List V, SrcV K H k x xs ∧ xs.length = i⟩
theorem turn_en {P : Program} {w : World} {K : PySem.W.Frag} {elts : List Expr} {kk : Nat} {tpos : Pos} (k : Nat) (x : V) (e it : Addr) :
    Turn P w K (.Tuple elts kk tpos) (Ien K k x) [e, it] e (fun i h => (∃ old, IsEnum h e it ((i : Nat) : Int) old) ∧ SrcIt k x it i h ∧ e ≠ it) where
  mem := by simp
  obj := fun i h st b hb => by
    obtain ⟨⟨old, he⟩, hi, _⟩ := st
    have e' : b = e ∨ b = it := by simpa using hb
    rcases e' with z | z
    · rw [z]; exact ⟨_, he, fun v q => nomatch q⟩
    · rw [z]; exact hi.ob
  keep := fun i h h' st kp => let ⟨⟨old, he⟩, hi, hne⟩ := st; ⟨⟨old, kp e (by simp) _ he⟩, hi.at fun o q => kp it (by simp) o q, hne⟩
  item := by
    intro X hP hw hK hc i pins s σ H E I hf st hg
    subst hP hw hK
    obtain ⟨⟨old, he⟩, hit, hne⟩ := st
    obtain ⟨xs, src, hi⟩ := hg
    obtain ⟨fp, Pd, St, D, hst, hmem, hfp, hback, hP⟩ := (drawn I (A := X.A.in1) (I.ok.hd hc) src (hf it (by simp)) hit).ex
    have hef : e ∉ fp := fun z => by
      rcases hfp e z with q | q
      · exact hne q
      · exact q e (hf e (by simp)) rfl
    have W := PySem.GoesN.ofWalksT (elts := elts) (k := kk) (pos := tpos) (WalksT.enumFrom 0 D e hne hef hmem)
    have he0 : IsEnum s.heap e it (0 + (i : Int)) old := by rw [Int.zero_add]; exact he
    refine wpAny_mono (W.goes i s (fun v s2 => ∃ x' H', Inv X pins σ H' s2 ∧ RelV x' v ∧ (Ien X.K k x).yld i H x' H' ∧ ((∃ old, IsEnum s2.heap e it ((i + 1 : Nat) : Int) old) ∧ SrcIt k x it (i + 1) s2.heap ∧ e ≠ it) ∧ ∀ b ∈ [e, it], H' b = none) E hi ⟨⟨old, he0⟩, hst⟩ fun v h' tk hY hst' hkp _ => ?_) (fun r s1 ⟨v, e1, e2⟩ => ⟨v, e1, e2⟩) fun _ _ q => q
    obtain ⟨T, vals, rfl, hT, ⟨t, u, hu, rfl⟩, hTup⟩ := hY
    obtain ⟨y, hy, ry⟩ := hP i u hu
    obtain ⟨⟨old', he'⟩, hst'⟩ := hst'
    have new : ObjOk X.prog X.w (upd H T (.tup [.int (i : Nat), y])) h' T (.tup [.int (i : Nat), y]) :=
      ⟨by show 2 ≤ sizeLine; decide, [.int (0 + (i : Int)) t, u], .cons ⟨t, by rw [Int.zero_add]⟩ (.cons ry .nil), hTup⟩
    have I1 : Inv X pins σ (upd H T (.tup [.int (i : Nat), y])) { s with heap := h', toks := tk } :=
      I.turnedNew (ch := [e, it]) (fun b ob hb q => hkp b ob hb q) hf hT new
    refine ⟨.ref T, _, I1, rfl, ⟨T, y, rfl, I.hok.fresh hT, rfl, fun ys hys => by rw [SrcV.inj I hys src]; exact hy⟩, ⟨⟨old', ?_⟩, hback _ _ hst', hne⟩, fun b hb => ?_⟩
    · have e1 : (0 : Int) + ((i + 1 : Nat) : Int) = ((i + 1 : Nat) : Int) := by omega
      rw [e1] at he'; exact he'
    · have hb' : b < s.heap.objs.size := by
        have e' : b = e ∨ b = it := by simpa using hb
        rcases e' with z | z
        · rw [z]; exact Heap.lt_size he
        · rw [z]; obtain ⟨o, ho, _⟩ := hit.ob; exact Heap.lt_size ho
      rw [upd_ne (Nat.ne_of_lt (Nat.lt_of_lt_of_le hb' hT))]
      exact (hf b hb).1
  done := by
    intro X hP hw hK hc i pins s σ H E I hf st hg
    subst hP hw hK
    obtain ⟨⟨old, he⟩, hit, hne⟩ := st
    obtain ⟨xs, src, hi⟩ := hg
    obtain ⟨fp, Pd, St, D, hst, hmem, hfp, hback, hP⟩ := (drawn I (A := X.A.in1) (I.ok.hd hc) src (hf it (by simp)) hit).ex
    have hef : e ∉ fp := fun z => by
      rcases hfp e z with q | q
      · exact hne q
      · exact q e (hf e (by simp)) rfl
    have W := PySem.GoesN.ofWalksT (elts := elts) (k := kk) (pos := tpos) (WalksT.enumFrom 0 D e hne hef hmem)
    have he0 : IsEnum s.heap e it (0 + (xs.length : Int)) old := by rw [Int.zero_add, hi]; exact he
    refine W.stops s (fun s1 => Inv X pins σ H s1) E ⟨⟨old, he0⟩, by rw [hi]; exact hst⟩ fun h' tk hkp _ => ?_
    exact I.turnedL (ch := [e, it]) (fun b o hb q => hkp b o hb q) hf
  self := fun A i s Q E st h => let ⟨⟨_, he⟩, _⟩ := st; wpAny_pyIter_enum he h
set_option maxHeartbeats 1000000 in
theorem meets_enum1 {v : Value} {o : Obj} {H : Heap → Prop} (B : Begins v o H) :
    Meets (Builtin.«enumerate.__new__» ⟨[.type "enumerate", v], []⟩) (fun _ R s => H s.heap ∧
      R (.ok (.ret (.ref (s.heap.push o).objs.size))) { s with heap := (s.heap.push o).push { cls := .type "enumerate", data := .fields #[.none, .bool false, .ref s.heap.objs.size, rawInt 0, .none, .none] } }) :=
  .of_wp fun prog w A R s h => by
    obtain ⟨hp, g, d, tk, os⟩ := s; obtain ⟨h1, h⟩ := h
    have hsub := sub_enumerate
    have q1 : ∀ {A' : Around} {E : Value → Shared → Prop} {Q : Value → Shared → Prop}, Q (.ref hp.objs.size) ⟨hp.push o, g, d, tk, os⟩ → wpAny (model prog w) A' (pyIter v) Q E ⟨hp, g, d, tk, os⟩ :=
      fun q => B.iter prog w _ _ ⟨hp, g, d, tk, os⟩ _ h1 q
    wp_walk using q1
    refine wpAny_stack_any fun st => wpAny_pure ?_
    split
    · rename_i c _ _ _ _ _
      cases (c == Value.type "enumerate")
      · wp_walk using q1
        exact ⟨_, rfl, h⟩
      · wp_walk using q1
        exact ⟨_, rfl, h⟩
    · wp_walk using q1
      exact ⟨_, rfl, h⟩
theorem enum1_begins {prog : Program} {w : World} {A : Around} {E : Value → Shared → Prop} {s : Shared} {v : Value} {o : Obj} {H : Heap → Prop} {Q : Value → Shared → Prop} (B : Begins v o H) (h1 : H s.heap)
    (h : ∀ h', IsEnum h' (s.heap.objs.size + 1) s.heap.objs.size 0 .none → h'.get? s.heap.objs.size = some o → h'.objs.size = s.heap.objs.size + 2 →
      (∀ b o, s.heap.get? b = some o → h'.get? b = some o) → Q (.ref (s.heap.objs.size + 1)) { s with heap := h' }) :
    wpAny (model prog w) A (call (.type "enumerate") [v]) Q E s := by
  refine callType_new F.called_enumerate (by decide) (F.typeCall_enumerate_1 _) (F.newCall_enumerate_1 _) (fun obj => F.args_object_init_2 obj _) F.entry_enumerate_new
    (meets_enum1 B) ⟨h1, ?_⟩
  have hz : (s.heap.push o).objs.size = s.heap.objs.size + 1 := Heap.size_push ..
  show _ ∧ _
  rw [hz]
  have he : IsEnum ((s.heap.push o).push { cls := .type "enumerate", data := .fields #[.none, .bool false, .ref s.heap.objs.size, rawInt 0, .none, .none] }) (s.heap.objs.size + 1) s.heap.objs.size 0 .none := by
    have := Heap.get?_push_size (s.heap.push o) (o := { cls := .type "enumerate", data := .fields #[.none, .bool false, .ref s.heap.objs.size, rawInt 0, .none, .none] }) rfl
    rw [hz] at this; exact this
  refine ⟨⟨_, he, rfl⟩, h _ he (Heap.get?_push_of_some _ (Heap.get?_push_size _ B.free)) (by rw [Heap.size_push, hz]) fun b o x => Heap.get?_push_of_some _ (Heap.get?_push_of_some _ x)⟩
/-- the iterator of a source begins -/
theorem src_begins {X : Cx} {pins : List (Addr × Obj)} {σ : L2.St} {H : Hp} {s : Shared} {x : V} {xs : List V} {k : Nat} {v : Value} (I : Inv X pins σ H s) (src : SrcV X.K H k x xs) (r : RelV x v) :
    ∃ (o : Obj) (Hb : Heap → Prop), Begins v o Hb ∧ Hb s.heap ∧ ∀ (it : Addr) (h' : Heap), h'.get? it = some o → SrcIt k x it 0 h' := by
  match k, src with
  | 0, src =>
    obtain ⟨a, rfl, sq⟩ := src
    cases r
    obtain ⟨its, rv, p, hz⟩ := I.list sq
    exact ⟨_, _, begins_list a its.toArray, p.isList, fun it h' e => ⟨a, rfl, _, e, rfl, rfl⟩⟩
  | 1, src =>
    obtain ⟨a, rfl, sq⟩ := src
    cases r
    obtain ⟨its, rv, p, hz⟩ := I.tuple sq
    exact ⟨_, _, begins_tuple a its.toArray, p, fun it h' e => ⟨a, rfl, _, e, rfl, rfl⟩⟩
  | _ + 2, src =>
    obtain ⟨z, rfl, rfl⟩ := src
    obtain ⟨t, rfl⟩ := r
    exact ⟨_, _, begins_text z t, trivial, fun it h' e => ⟨z, t, rfl, _, e, rfl, rfl⟩⟩
def iEn (K : PySem.W.Frag) (ta : TA) : TI := fun σ H R => ta σ H fun vs H1 => ∃ x k xs, vs = [x] ∧ SrcV K H1 k x xs ∧ R (Ien K k x) H1
theorem pi_en {X : Cx} {e : Expr} {ta : TA} {p pos tpos : Pos} {elts : List Expr} {kk : Nat} (hg : Gl X "enumerate") (hm : X.mg "enumerate" = none) (ha : PA X [e] ta) (hs : starEach [e] X.env = [(false, eval e X.env)]) :
    PI X (.Tuple elts kk tpos) (.Call (.Name "enumerate" p) [e] [] pos) (iEn X.K ta) := by
  refine ⟨fun pins s σ H R I h => ?_⟩
  refine Call_ (ld_blt I hg hm boot_enumerate (PyProof.Rows.callWith_type1 (thn (ha.run pos pins s σ H _ I h) fun us s1 ⟨vs, H1, I1, r1, q1⟩ => ?_) hs rfl))
  obtain ⟨x, k, xs, ex, src, q⟩ := q1
  subst ex
  obtain ⟨u, rfl, rx⟩ := vals1 r1
  obtain ⟨o, Hb, B, hb, nx⟩ := src_begins I1 src rx
  refine enum1_begins B hb fun h' he ho hsz hk => wpAny_pyIter_enum he ?_
  have I2 : Inv X pins σ H1 { s1 with heap := h' } := I1.kept (t' := s1.toks) hk
  refine ⟨s1.heap.objs.size + 1, [s1.heap.objs.size + 1, s1.heap.objs.size], _, _, H1, rfl, I2, turn_en k x (s1.heap.objs.size + 1) s1.heap.objs.size, ⟨⟨.none, he⟩, nx _ _ ho, Nat.succ_ne_self _⟩, fun b hb => ?_, q⟩
  have e' : b = s1.heap.objs.size + 1 ∨ b = s1.heap.objs.size := by simpa using hb
  have hle : s1.heap.objs.size ≤ b := by
    rcases e' with z | z
    · rw [z]; exact Nat.le_add_right _ _
    · rw [z]; exact Nat.le_refl _
  exact I1.fpOk hle (I1.hok.fresh hle)
/-! ### zip -/
def Izp (K : PySem.W.Frag) (k j : Nat) (x y : V) : It :=
  ⟨fun i H => ∃ xs ys : List V, SrcV K H k x xs ∧ SrcV K H j y ys ∧ i < min xs.length ys.length,
   fun i H v H' => ∃ T u w, v = .ref T ∧ H T = none ∧ H' = upd H T (.tup [u, w]) ∧ (∀ xs, SrcV K H k x xs → xs[i]? = some u) ∧ ∀ ys, SrcV K H j y ys → ys[i]? = some w,
   fun i H => ∃ xs ys : List V, SrcV K H k x xs ∧ SrcV K H j y ys ∧ min xs.length ys.length = i⟩
structure Apart5 (z TI TO i1 i2 : Addr) : Prop where
  nd : [z, TI, TO, i1, i2].Nodup
theorem turn_zp {P : Program} {w : World} {K : PySem.W.Frag} {elts : List Expr} {kk : Nat} {tpos : Pos} (k j : Nat) (x y : V) {z TI TO i1 i2 : Addr} (A5 : Apart5 z TI TO i1 i2) :
    Turn P w K (.Tuple elts kk tpos) (Izp K k j x y) [z, TI, TO, i1, i2] z (fun i h => IsZip h z TI TO .none ∧ IsTupOf2 h TI (.ref i1) (.ref i2) ∧ (∃ a1 a2, IsTupOf2 h TO a1 a2) ∧ SrcIt k x i1 i h ∧ SrcIt j y i2 i h) where
  mem := by simp
  obj := fun i h st b hb => by
    obtain ⟨hz, hT, ⟨a1, a2, hO⟩, h1, h2⟩ := st
    have e' : b = z ∨ b = TI ∨ b = TO ∨ b = i1 ∨ b = i2 := by simpa using hb
    rcases e' with q | q | q | q | q
    · rw [q]; exact ⟨_, hz, fun v q => nomatch q⟩
    · rw [q]; exact ⟨_, hT, fun v q => nomatch q⟩
    · rw [q]; exact ⟨_, hO, fun v q => nomatch q⟩
    · rw [q]; exact h1.ob
    · rw [q]; exact h2.ob
  keep := fun i h h' st kp => let ⟨hz, hT, ⟨a1, a2, hO⟩, h1, h2⟩ := st; ⟨kp z (by simp) _ hz, kp TI (by simp) _ hT, ⟨a1, a2, kp TO (by simp) _ hO⟩, h1.at fun o q => kp i1 (by simp) o q, h2.at fun o q => kp i2 (by simp) o q⟩
  item := by
    intro X hP hw hK hc i pins s σ H E I hf st hg
    subst hP hw hK
    obtain ⟨hz, hT, hO, hi1, hi2⟩ := st
    obtain ⟨xs, ys, src, src2, hi⟩ := hg
    obtain ⟨fp, Pd, St, D, hst, hmem, hfp, hback, hP⟩ := (drawn I (A := X.A.in1) (I.ok.hd hc) src (hf i1 (by simp)) hi1).ex
    obtain ⟨fp2, Pd2, St2, D2, hst2, hmem2, hfp2, hback2, hP2⟩ := (drawn I (A := X.A.in1) (I.ok.hd hc) src2 (hf i2 (by simp)) hi2).ex
    have nd := A5.nd
    simp only [List.nodup_cons, List.mem_cons, List.not_mem_nil, or_false, not_or] at nd
    have no1 : ∀ b, b ∈ [z, TI, TO, i1, i2] → b ≠ i1 → b ∉ fp := fun b hb ne q => by
      rcases hfp b q with e | e
      · exact ne e
      · exact e b (hf b hb) rfl
    have no2 : ∀ b, b ∈ [z, TI, TO, i1, i2] → b ≠ i2 → b ∉ fp2 := fun b hb ne q => by
      rcases hfp2 b q with e | e
      · exact ne e
      · exact e b (hf b hb) rfl
    have Sp : ZipSep2 z TI TO i1 i2 fp fp2 :=
      { TIz := Ne.symm nd.1.1, TOz := Ne.symm nd.1.2.1, TITO := nd.2.1.1, TIi1 := nd.2.1.2.1, mem1 := hmem, zf1 := no1 z (by simp) nd.1.2.2.1, Tf1 := no1 TO (by simp) nd.2.2.1.1,
        TIi2 := nd.2.1.2.2, mem2 := hmem2, zf2 := no2 z (by simp) nd.1.2.2.2, Tf2 := no2 TO (by simp) nd.2.2.1.2, sep1_2 := no2 i1 (by simp) nd.2.2.2.1, sep2_1 := no1 i2 (by simp) (Ne.symm nd.2.2.2.1) }
    have W := PySem.GoesN.ofWalksT (elts := elts) (k := kk) (pos := tpos) (WalksT.zipD2 Sp D D2)
    refine wpAny_mono (W.goes i s (fun v s2 => ∃ x' H', Inv X pins σ H' s2 ∧ RelV x' v ∧ (Izp X.K k j x y).yld i H x' H' ∧ (IsZip s2.heap z TI TO .none ∧ IsTupOf2 s2.heap TI (.ref i1) (.ref i2) ∧ (∃ a1 a2, IsTupOf2 s2.heap TO a1 a2) ∧ SrcIt k x i1 (i + 1) s2.heap ∧ SrcIt j y i2 (i + 1) s2.heap) ∧ ∀ b ∈ [z, TI, TO, i1, i2], H' b = none) E hi ⟨hz, hT, hO, hst, hst2⟩ fun v h' tk hY hst' hkp _ => ?_) (fun r s1 ⟨v, e1, e2⟩ => ⟨v, e1, e2⟩) fun _ _ q => q
    obtain ⟨T, vals, rfl, hTn, ⟨u1, u2, hu1, hu2, rfl⟩, hTup⟩ := hY
    obtain ⟨y1, hy1, ry1⟩ := hP i u1 hu1
    obtain ⟨y2, hy2, ry2⟩ := hP2 i u2 hu2
    obtain ⟨g1, g2, g3, g4, g5⟩ := hst'
    have new : ObjOk X.prog X.w (upd H T (.tup [y1, y2])) h' T (.tup [y1, y2]) := ⟨by show 2 ≤ sizeLine; decide, [u1, u2], .cons ry1 (.cons ry2 .nil), hTup⟩
    have I1 : Inv X pins σ (upd H T (.tup [y1, y2])) { s with heap := h', toks := tk } :=
      I.turnedNew (ch := [z, TI, TO, i1, i2]) (fun b ob hb q => hkp b ob (fun hm => hb (by
        rcases List.mem_cons.mp hm with e | hm
        · simp [e]
        rcases List.mem_cons.mp hm with e | hm
        · simp [e]
        rcases List.mem_cons.mp hm with e | hm
        · simp [e]
        · have : b = i2 := by simpa using hm
          simp [this])) q) hf hTn new
    refine ⟨.ref T, _, I1, rfl, ⟨T, y1, y2, rfl, I.hok.fresh hTn, rfl, fun zs hzs => by rw [SrcV.inj I hzs src]; exact hy1, fun zs hzs => by rw [SrcV.inj I hzs src2]; exact hy2⟩, ⟨g1, g2, g3, hback _ _ g4, hback2 _ _ g5⟩, fun b hb => ?_⟩
    have hb' : b < s.heap.objs.size := by
      have e' : b = z ∨ b = TI ∨ b = TO ∨ b = i1 ∨ b = i2 := by simpa using hb
      rcases e' with q | q | q | q | q
      · rw [q]; exact Heap.lt_size hz
      · rw [q]; exact Heap.lt_size hT
      · rw [q]; obtain ⟨a1, a2, q⟩ := hO; exact Heap.lt_size q
      · rw [q]; obtain ⟨o, ho, _⟩ := hi1.ob; exact Heap.lt_size ho
      · rw [q]; obtain ⟨o, ho, _⟩ := hi2.ob; exact Heap.lt_size ho
    rw [upd_ne (Nat.ne_of_lt (Nat.lt_of_lt_of_le hb' hTn))]
    exact (hf b hb).1
  done := by
    intro X hP hw hK hc i pins s σ H E I hf st hg
    subst hP hw hK
    obtain ⟨hz, hT, hO, hi1, hi2⟩ := st
    obtain ⟨xs, ys, src, src2, hi⟩ := hg
    obtain ⟨fp, Pd, St, D, hst, hmem, hfp, hback, hP⟩ := (drawn I (A := X.A.in1) (I.ok.hd hc) src (hf i1 (by simp)) hi1).ex
    obtain ⟨fp2, Pd2, St2, D2, hst2, hmem2, hfp2, hback2, hP2⟩ := (drawn I (A := X.A.in1) (I.ok.hd hc) src2 (hf i2 (by simp)) hi2).ex
    have nd := A5.nd
    simp only [List.nodup_cons, List.mem_cons, List.not_mem_nil, or_false, not_or] at nd
    have no1 : ∀ b, b ∈ [z, TI, TO, i1, i2] → b ≠ i1 → b ∉ fp := fun b hb ne q => by
      rcases hfp b q with e | e
      · exact ne e
      · exact e b (hf b hb) rfl
    have no2 : ∀ b, b ∈ [z, TI, TO, i1, i2] → b ≠ i2 → b ∉ fp2 := fun b hb ne q => by
      rcases hfp2 b q with e | e
      · exact ne e
      · exact e b (hf b hb) rfl
    have Sp : ZipSep2 z TI TO i1 i2 fp fp2 :=
      { TIz := Ne.symm nd.1.1, TOz := Ne.symm nd.1.2.1, TITO := nd.2.1.1, TIi1 := nd.2.1.2.1, mem1 := hmem, zf1 := no1 z (by simp) nd.1.2.2.1, Tf1 := no1 TO (by simp) nd.2.2.1.1,
        TIi2 := nd.2.1.2.2, mem2 := hmem2, zf2 := no2 z (by simp) nd.1.2.2.2, Tf2 := no2 TO (by simp) nd.2.2.1.2, sep1_2 := no2 i1 (by simp) nd.2.2.2.1, sep2_1 := no1 i2 (by simp) (Ne.symm nd.2.2.2.1) }
    have W := PySem.GoesN.ofWalksT (elts := elts) (k := kk) (pos := tpos) (WalksT.zipD2 Sp D D2)
    refine W.stops s (fun s1 => Inv X pins σ H s1) E ⟨hz, hT, hO, by rw [hi]; exact hst, by rw [hi]; exact hst2⟩ fun h' tk hkp _ => ?_
    exact I.turnedL (ch := [z, TI, TO, i1, i2]) (fun b o hb q => hkp b o (fun hm => hb (by
        rcases List.mem_cons.mp hm with e | hm
        · simp [e]
        rcases List.mem_cons.mp hm with e | hm
        · simp [e]
        rcases List.mem_cons.mp hm with e | hm
        · simp [e]
        · have : b = i2 := by simpa using hm
          simp [this])) q) hf
  self := fun A i s Q E st h => wpAny_pyIter_zip st.1 h
def iZp (K : PySem.W.Frag) (ta : TA) : TI := fun σ H R => ta σ H fun vs H1 => ∃ x y k j xs ys, vs = [x, y] ∧ SrcV K H1 k x xs ∧ SrcV K H1 j y ys ∧ R (Izp K k j x y) H1
theorem pi_zp {X : Cx} {e e2 : Expr} {ta : TA} {p pos tpos : Pos} {elts : List Expr} {kk : Nat} (hg : Gl X "zip") (hm : X.mg "zip" = none) (ha : PA X [e, e2] ta) (hs : starEach [e, e2] X.env = [(false, eval e X.env), (false, eval e2 X.env)]) (hs2 : starEach [e2] X.env = [(false, eval e2 X.env)]) :
    PI X (.Tuple elts kk tpos) (.Call (.Name "zip" p) [e, e2] [] pos) (iZp X.K ta) := by
  refine ⟨fun pins s σ H R I h => ?_⟩
  refine Call_ (ld_blt I hg hm boot_zip (PyProof.Rows.callWith_type1 (thn (ha.run pos pins s σ H _ I h) fun us s1 ⟨vs, H1, I1, r1, q1⟩ => ?_) (by rw [hs, hs2]) (by rw [hs2]; rfl)))
  obtain ⟨x, y, k, j, xs, ys, ex, src, src2, q⟩ := q1
  subst ex
  obtain ⟨u1, u2, rfl, rx, ry⟩ := vals2 r1
  obtain ⟨o1, Hb1, B1, hb1, nx1⟩ := src_begins I1 src rx
  obtain ⟨o2, Hb2, B2, hb2, nx2⟩ := src_begins I1 src2 ry
  refine zip_begins2 B1 B2 hb1 hb2 fun h' hz hT hO g1 g2 hsz hk => wpAny_pyIter_zip hz ?_
  have I2 : Inv X pins σ H1 { s1 with heap := h' } := I1.kept (t' := s1.toks) hk
  refine ⟨s1.heap.objs.size + 4, [s1.heap.objs.size + 4, s1.heap.objs.size + 2, s1.heap.objs.size + 3, s1.heap.objs.size, s1.heap.objs.size + 1], _, _, H1, rfl, I2, turn_zp k j x y ⟨?_⟩, ⟨hz, hT, ⟨_, _, hO⟩, nx1 _ _ g1, nx2 _ _ g2⟩, fun b hb => ?_, q⟩
  · have ar : ∀ n : Nat, ([n + 4, n + 2, n + 3, n, n + 1] : List Nat).Nodup := fun n => by
      simp only [List.nodup_cons, List.mem_cons, List.not_mem_nil, or_false, not_or, not_false_eq_true, List.nodup_nil, and_true]
      omega
    exact ar _
  · have ar : ∀ n b : Nat, b ∈ ([n + 4, n + 2, n + 3, n, n + 1] : List Nat) → n ≤ b := fun n b h => by
      simp only [List.mem_cons, List.not_mem_nil, or_false] at h
      omega
    have hle : s1.heap.objs.size ≤ b := ar _ _ hb
    exact I1.fpOk hle (I1.hok.fresh hle)
end ML

set_option maxHeartbeats 1000000
namespace ML
open PySem PySem.Spec PyProof.Rows L2

/-! ### slots that may change -/
def Agr (A : Nat → Bool) (σ σ' : L2.St) : Prop := σ'.length = σ.length ∧ ∀ i, A i = false → σ'[i]? = σ[i]?
theorem Agr.refl (A : Nat → Bool) (σ : L2.St) : Agr A σ σ := ⟨rfl, fun _ _ => rfl⟩
theorem Agr.trans {A : Nat → Bool} {σ σ1 σ2 : L2.St} (a : Agr A σ σ1) (b : Agr A σ1 σ2) : Agr A σ σ2 := ⟨b.1.trans a.1, fun i h => (b.2 i h).trans (a.2 i h)⟩
theorem Agr.set {A : Nat → Bool} {σ : L2.St} {i : Nat} {v : Option V} (h : A i = true) : Agr A σ (σ.set i v) := ⟨by rw [List.length_set], fun j hj => by
  have : i ≠ j := fun e => by rw [e, hj] at h; cases h
  rw [List.getElem?_set_ne this]⟩
def wipeL (ρ : Loc) : List Nat → Loc
  | [] => ρ
  | v :: vs => (wipeL ρ vs).set v none
theorem wipe_len (σ : L2.St) : ∀ vs, (wipe σ vs).length = σ.length := wipe_length σ
theorem wipe_get {σ : L2.St} {i : Nat} : ∀ {vs : List Nat}, (wipe σ vs)[i]? = if i ∈ vs then (σ[i]?).map (fun _ => none) else σ[i]?
  | [] => by simp [wipe]
  | v :: vs => by
    unfold wipe
    by_cases hv : v = i
    · subst hv
      rw [if_pos (by simp)]
      by_cases hl : v < σ.length
      · rw [List.getElem?_set_self (by rw [wipe_length]; exact hl), List.getElem?_eq_getElem hl]; rfl
      · rw [List.getElem?_eq_none (by rw [List.length_set, wipe_length]; omega), List.getElem?_eq_none (by omega)]; rfl
    · rw [List.getElem?_set_ne hv, wipe_get]
      by_cases h : i ∈ vs
      · rw [if_pos h, if_pos (by simp [h])]
      · rw [if_neg h, if_neg (by simp only [List.mem_cons, not_or]; exact ⟨fun e => hv e.symm, h⟩)]
theorem wipe_agr {A : Nat → Bool} {σ σ' : L2.St} {vs : List Nat} (hA : ∀ i, A i = true → i ∈ vs) (h : Agr A (wipe σ vs) σ') : wipe σ' vs = wipe σ vs := by
  apply List.ext_getElem?
  intro i
  rw [wipe_get]
  by_cases q : i ∈ vs
  · rw [if_pos q, wipe_get, if_pos q]
    have hl : σ'.length = σ.length := by rw [h.1, wipe_length]
    by_cases z : i < σ.length
    · rw [List.getElem?_eq_getElem z, List.getElem?_eq_getElem (by omega)]; rfl
    · rw [List.getElem?_eq_none (by omega), List.getElem?_eq_none (by omega)]
  · rw [if_neg q]
    refine h.2 i ?_
    cases e : A i with
    | false => rfl
    | true => exact absurd (hA i e) q
theorem EnvOk.wipe {G : Wd} {ι : List Addr} {H : Hp} {σ : L2.St} {ρ : Loc} (e : EnvOk G ι H σ ρ) : ∀ vs, EnvOk G ι H (L2.wipe σ vs) (wipeL ρ vs)
  | [] => e
  | v :: vs => by
    have ih := EnvOk.wipe e vs
    refine ⟨by unfold L2.wipe wipeL; rw [List.length_set, List.length_set]; exact ih.len, fun i d h => ?_⟩
    unfold wipeL at h
    unfold L2.wipe
    by_cases q : v = i
    · subst q
      have hl : v < (wipeL ρ vs).length := by
        have := (List.getElem?_eq_some_iff.mp h).1
        rwa [List.length_set] at this
      rw [List.getElem?_set_self hl] at h
      cases h
    · rw [List.getElem?_set_ne q] at h ⊢
      exact ih.at_ i d h

/-! ### targets -/
def wG (X : Cx) (tg : Expr) : TG := fun v σ H Q => ∀ pins s u, Inv X pins σ H s → RelV v u → wpAny (model X.prog X.w) X.A (assign tg X.env u) (fun _ s' => ∃ σ' H', Inv X pins σ' H' s' ∧ Q σ' H') X.xe s
def wGs (X : Cx) (ts : List Expr) : TGs := fun vs σ H Q => ∀ pins s us, Inv X pins σ H s → Vals vs us → wpAny (model X.prog X.w) X.A (assignInOrder ((assignEach ts X.env).map (·.2)) us) (fun _ s' => ∃ σ' H', Inv X pins σ' H' s' ∧ Q σ' H') X.xe s
def EvG (G : Wd) (A : Nat → Bool) (W : WX) (tg : TG) (m : D → ME Loc) : Prop := ∀ ι S H σ ρ d v Q, Rel G ι S H → EnvOk G ι H σ ρ → DV G ι H d v → Ok G ι H (m d ρ S) (fun ι' _ H' ρ' => ∀ σ', EnvOk G ι' H' σ' ρ' → Agr A σ σ' → Q σ' H') (PErr G W σ) → tg v σ H Q
def EvGs (G : Wd) (A : Nat → Bool) (W : WX) (tg : TGs) (m : List D → ME Loc) : Prop := ∀ ι S H σ ρ ds vs Q, Rel G ι S H → EnvOk G ι H σ ρ → DVs G ι H ds vs → Ok G ι H (m ds ρ S) (fun ι' _ H' ρ' => ∀ σ', EnvOk G ι' H' σ' ρ' → Agr A σ σ' → Q σ' H') (PErr G W σ) → tg vs σ H Q
def SG (X : Cx) (G : Wd) (A : Nat → Bool) (W : WX) (e : Expr) (m : D → ME Loc) : Prop := EvG G A W (wG X e) m
def SGs (X : Cx) (G : Wd) (A : Nat → Bool) (W : WX) (es : List Expr) (m : List D → ME Loc) : Prop := EvGs G A W (wGs X es) m
theorem pG {X : Cx} {tg : Expr} : PG X tg (wG X tg) := ⟨fun pins s σ H v u Q I r h => h pins s u I r⟩
theorem PGw {X : Cx} {tg : Expr} {t : TG} {v : V} {σ : L2.St} {H : Hp} {Q : L2.St → Hp → Prop} (h : PG X tg t) (q : t v σ H Q) : wG X tg v σ H Q := fun pins s u I r => h.run pins s σ H v u Q I r q
theorem pGs {X : Cx} {tg : List Expr} : PGs X tg (wGs X tg) := ⟨fun pins s σ H v u Q I r h => h pins s u I r⟩
theorem PGsw {X : Cx} {tg : List Expr} {t : TGs} {v : List V} {σ : L2.St} {H : Hp} {Q : L2.St → Hp → Prop} (h : PGs X tg t) (q : t v σ H Q) : wGs X tg v σ H Q := fun pins s u I r => h.run pins s σ H v u Q I r q
def gNm (i : Nat) : D → ME Loc := fun d ρ => ret (ρ.set i (some d))
def gTp (n : Nat) (m : List D → ME Loc) : D → ME Loc := fun d ρ => match d with
  | .tup ds => if ds.length = n then m ds ρ else bad
  | _ => bad
def gNl : List D → ME Loc := fun ds ρ => match ds with
  | [] => ret ρ
  | _ => bad
def gCn (m : D → ME Loc) (m2 : List D → ME Loc) : List D → ME Loc := fun ds ρ => match ds with
  | d :: r => bnd (m d ρ) fun ρ' => m2 r ρ'
  | [] => bad
section
variable {X : Cx} {G : Wd} {A : Nat → Bool} {W : WX} {pos : Pos} {e : Expr} {es : List Expr} {m : D → ME Loc} {m2 : List D → ME Loc}
theorem SG.name {i : Nat} {x : Str} (hN : X.N.Nodup) (hi : X.N[i]? = some x) (hx : L2.Loc X.env.scope x) (hf : X.fn x = true ∨ X.env.scope.names.lookup x = some .local) (hA : A i = true) : SG X G A W (.Name x pos) (gNm i) := fun ι S H σ ρ d v Q r en hd o => by
  refine PGw (pg_name hN hi hx hf) ?_
  exact Ok.fin o r (σ.set i (some v)) (en.set i hd) (Agr.set hA)
theorem SG.tup {k n : Nat} (hK : X.K = G.K) (hc : X.calm = true) (h : SGs X G A W es m2) (hn : (assignEach es X.env).length = n) (hst : (assignEach es X.env).findIdx? (·.1) = none) : SG X G A W (.Tuple es k pos) (gTp n m2) := fun ι S H σ ρ d v Q r en hd o => by
  cases d with
  | tup ds =>
    obtain ⟨a, xs, rfl, t, hds⟩ := hd
    have o : Ok G ι H ((if ds.length = n then m2 ds ρ else bad) S) _ _ := o
    by_cases q : ds.length = n
    · rw [if_pos q] at o
      refine PGw (pg_tup hc pGs hn hst) ⟨a, xs, rfl, t.sx hK, hds.length.trans q, ?_⟩
      exact h ι S H σ ρ ds xs Q r en hds o
    · rw [if_neg q] at o; exact o.elim
  | _ => exact o.elim
theorem SGs.nil : SGs X G A W [] gNl := fun ι S H σ ρ ds vs Q r en hd o => by
  cases ds with
  | nil =>
    obtain rfl : vs = [] := hd
    exact PGsw pgs_nil ⟨rfl, Ok.fin o r σ en (Agr.refl _ _)⟩
  | cons _ _ => exact o.elim
theorem PErr.agr {σ σ1 : L2.St} : True := trivial
end
/-- an error's wish at slots that agree -/
def PErrS (G : Wd) (A : Nat → Bool) (W : WX) (σ : L2.St) : List Addr → Sto → Hp → Nat → List (Str × D) → Prop := fun ι' _ H' c fs => ∀ ad σ', ErrV G ι' H' fs ad → Agr A σ σ' → W (.ref (G.cls c)) ad σ' H'
theorem PErrS.at {G : Wd} {A : Nat → Bool} {W : WX} {σ σ1 : L2.St} (a : Agr A σ σ1) : ∀ (ι' : List Addr) (S' : Sto) (H' : Hp) (c : Nat) (fs : List (Str × D)), PErrS G A W σ ι' S' H' c fs → PErr G W σ1 ι' S' H' c fs := fun _ _ _ _ _ h ad v => h ad σ1 v a
theorem PErrS.mv {G : Wd} {A : Nat → Bool} {W : WX} {σ σ1 : L2.St} (a : Agr A σ σ1) : ∀ (ι' : List Addr) (S' : Sto) (H' : Hp) (c : Nat) (fs : List (Str × D)), PErrS G A W σ ι' S' H' c fs → PErrS G A W σ1 ι' S' H' c fs := fun _ _ _ _ _ h ad σ' v b => h ad σ' v (a.trans b)
/-- several targets: their errors at any of the slots between (none in the names' case) -/
theorem SGs.cons {X : Cx} {G : Wd} {A : Nat → Bool} {e : Expr} {es : List Expr} {m : D → ME Loc} {m2 : List D → ME Loc} {W : WX} (h1 : ∀ W, SG X G A W e m) (h2 : ∀ W, SGs X G A W es m2)
    (hs : (assignEach (e :: es) X.env).map (·.2) = assign e X.env :: (assignEach es X.env).map (·.2)) (ne : ∀ d ρ S, (∃ ρ' S', m d ρ S = .ok ρ' S') ∨ m d ρ S = .bad) (ne2 : ∀ d ρ S, (∃ ρ' S', m2 d ρ S = .ok ρ' S') ∨ m2 d ρ S = .bad) : SGs X G A W (e :: es) (gCn m m2) := fun ι S H σ ρ ds vs Q r en hd o => by
  cases ds with
  | nil => exact o.elim
  | cons d ds =>
    obtain ⟨v, vs, rfl, hv, hvs⟩ := hd
    refine PGsw (pgs_cons pG pGs hs) ⟨v, vs, rfl, ?_⟩
    have o : Ok G ι H (bnd (m d ρ) (fun ρ' => m2 ds ρ') S) _ _ := o
    refine h1 (fun _ _ _ _ => True) ι S H σ ρ d v _ r en hv (o.bnd.imp (fun ι1 S1 H1 ρ1 g1 r1 k1 σ1 en1 a1 => ?_) fun _ _ _ _ _ _ _ _ => trivial)
    refine h2 (fun _ _ _ _ => True) ι1 S1 H1 σ1 ρ1 ds vs Q r1 en1 (hvs.grow g1) (k1.imp (fun ι2 S2 H2 ρ2 g2 r2 k2 σ2 en2 a2 => k2 σ2 en2 (a1.trans a2)) fun _ _ _ _ _ _ _ _ => trivial)
/-! ### sources -/
open Classical in
abbrev Gd := List (Nat × List D)
def gdOk (g : Gd) (S : Sto) : Prop := ∀ p ∈ g, lsOf S p.1 = some p.2
structure Src where
  items : List D
  g : Gd
structure WalkD (G : Wd) (J : It) (src : Src) (ι0 : List Addr) (H0 : Hp) : Prop where
  goes : ∀ ι S H i, Grow ι0 H0 ι H → Rel G ι S H → gdOk src.g S → i < src.items.length → J.go i H
  stops : ∀ ι S H, Grow ι0 H0 ι H → Rel G ι S H → gdOk src.g S → J.stop src.items.length H
  yields : ∀ ι S H i x H', Grow ι0 H0 ι H → Rel G ι S H → gdOk src.g S → i < src.items.length → J.yld i H x H' → Grow ι H ι H' ∧ Rel G ι S H' ∧ ∃ d, src.items[i]? = some d ∧ DV G ι H' d x
def wI (X : Cx) (tg iter : Expr) : TI := fun σ H R => ∀ pins s, Inv X pins σ H s → wpAny (model X.prog X.w) X.A (eval iter X.env) (fun v s1 => wpAny (model X.prog X.w) X.A (pyIter v) (PIE X pins σ tg R) X.xe s1) X.xe s
theorem pI {X : Cx} {tg e : Expr} : PI X tg e (wI X tg e) := ⟨fun pins s σ H R I h => h pins s I⟩
theorem PIw {X : Cx} {tg e : Expr} {t : TI} {σ : L2.St} {H : Hp} {R : It → Hp → Prop} (h : PI X tg e t) (q : t σ H R) : wI X tg e σ H R := fun pins s I => h.run pins s σ H R I q
def EvI (G : Wd) (W : WX) (wi : TI) (m : ME Src) : Prop := ∀ ι S H σ ρ R, Rel G ι S H → EnvOk G ι H σ ρ → Ok G ι H (m ρ S) (fun ι' _ H' src => ∀ J, WalkD G J src ι' H' → R J H') (PErr G W σ) → wi σ H R
def SI (X : Cx) (G : Wd) (W : WX) (tg e : Expr) (m : ME Src) : Prop := EvI G W (wI X tg e) m
def strD (z : Str) : List D := z.cps.toList.map fun c => D.str ⟨#[c]⟩
def srcD : D → M Src
  | .tup ds => ret ⟨ds, []⟩
  | .str z => ret ⟨strD z, []⟩
  | .kl ns => ret ⟨ns.map D.int, []⟩
  | .obj n => fun S => match lsOf S n with
    | some ds => .ok ⟨ds, [(n, ds)]⟩ S
    | none => .bad
  | _ => bad
section
variable {X : Cx} {G : Wd} {W : WX} {tg e e2 : Expr} {es : List Expr} {pos p tpos : Pos} {ma : ME D} {ms : ME (List D)}
theorem gd_nil {S : Sto} : gdOk [] S := fun p hp => by cases hp
theorem DVs.signs {ι : List Addr} {H : Hp} : ∀ (l : List Char32), True := fun _ => trivial
theorem strD_dvs {ι : List Addr} {H : Hp} (z : Str) : DVs G ι H (strD z) (signs z) := by
  unfold strD signs
  generalize z.cps.toList = l
  induction l with
  | nil => rfl
  | cons a r ih => exact ⟨_, _, rfl, rfl, ih⟩
/-- a source's values, at the beginning and later -/
theorem src_of {ι : List Addr} {S S' : Sto} {H : Hp} {d : D} {x : V} {src : Src} (hK : X.K = G.K) (r : Rel G ι S H) (hx : DV G ι H d x) (e : srcD d S = .ok src S') :
    S' = S ∧ gdOk src.g S ∧ ∃ k, (k = 0 ∨ k = 1 ∨ k = 2) ∧ ∀ ι' S2 H', Grow ι H ι' H' → Rel G ι' S2 H' → gdOk src.g S2 → ∃ xs, SrcV X.K H' k x xs ∧ DVs G ι' H' src.items xs := by
  cases d with
  | tup ds =>
    cases e
    obtain ⟨a, xs, rfl, t, hds⟩ := hx
    exact ⟨rfl, gd_nil, 1, .inr (.inl rfl), fun ι' S2 H' g r2 _ => ⟨xs, ⟨a, rfl, (t.grow g.ext).sx hK⟩, hds.grow g⟩⟩
  | str z =>
    cases e
    obtain rfl : x = .str z := hx
    exact ⟨rfl, gd_nil, 2, .inr (.inr rfl), fun ι' S2 H' g r2 _ => ⟨signs z, ⟨z, rfl, rfl⟩, strD_dvs z⟩⟩
  | kl ns =>
    cases e
    obtain ⟨a, rfl, hk⟩ := hx
    exact ⟨rfl, gd_nil, 0, .inl rfl, fun ι' S2 H' g r2 _ => ⟨ns.map V.int, ⟨a, rfl, by rw [hK]; exact KlAt.sq (hk.imp (fun ⟨o, z⟩ => ⟨o, g.ext a _ rfl z⟩) fun z => z)⟩, DVs.of_ints ns⟩⟩
  | obj n =>
    have e : (match lsOf S n with | some ds => R.ok ⟨ds, [(n, ds)]⟩ S | none => .bad) = R.ok src S' := e
    cases q : lsOf S n with
    | none => rw [q] at e; cases e
    | some ds =>
      rw [q] at e
      cases e
      refine ⟨rfl, fun p hp => ?_, 0, .inl rfl, fun ι' S2 H' g r2 hg => ?_⟩
      · have : p = (n, ds) := by simpa using hp
        rw [this]; exact q
      · have q2 : lsOf S2 n = some ds := hg (n, ds) (by simp)
        obtain ⟨a, xs, e1, e2, e3⟩ := r2.ls (hx.grow g) q2
        exact ⟨xs, ⟨a, e1, .inl e2⟩, e3⟩
  | _ => cases e
def iAny (K : PySem.W.Frag) (tl : TE) : TI := fun σ H R => tl σ H fun x H1 => (∃ a xs, x = .ref a ∧ SqL K H1 a xs ∧ R (Itl K a) H1) ∨ (∃ a xs, x = .ref a ∧ SqT K H1 a xs ∧ R (Itt K a) H1) ∨ (∃ z, x = .str z ∧ R (Its z) H1)
theorem pi_any {l : Expr} {tl : TE} (hl : PE X l tl) : PI X tg l (iAny X.K tl) := by
  refine ⟨fun pins s σ H R I h => ?_⟩
  refine thn (hl.run pins s σ H _ I h) fun v s1 ⟨x, H1, I1, r1, q1⟩ => ?_
  rcases q1 with ⟨a, xs, rfl, hq, q⟩ | ⟨a, xs, rfl, hq, q⟩ | ⟨z, rfl, q⟩
  · cases r1
    obtain ⟨its, rv, p, hz⟩ := I1.list hq
    refine wpAny_pyIter_list p.isList ?_
    refine ⟨s1.heap.objs.size, [s1.heap.objs.size], _, _, H1, rfl, I1.kept (t' := s1.toks) fun b o e => Heap.get?_push_of_some _ e, turn_list a _, ⟨_, Heap.get?_push_size _ rfl, rfl, rfl⟩, fun b hb => ?_, q⟩
    have e : b = s1.heap.objs.size := by simpa using hb
    subst e
    exact I1.fpOk (Nat.le_refl _) (I1.hok.fresh (Nat.le_refl _))
  · cases r1
    obtain ⟨its, rv, p, hz⟩ := I1.tuple hq
    refine wpAny_pyIter_tuple (show s1.heap.IsTuple a its.toArray from p) ?_
    refine ⟨s1.heap.objs.size, [s1.heap.objs.size], _, _, H1, rfl, I1.kept (t' := s1.toks) fun b o e => Heap.get?_push_of_some _ e, turn_tuple a _, ⟨_, Heap.get?_push_size _ rfl, rfl, rfl⟩, fun b hb => ?_, q⟩
    have e : b = s1.heap.objs.size := by simpa using hb
    subst e
    exact I1.fpOk (Nat.le_refl _) (I1.hok.fresh (Nat.le_refl _))
  · obtain ⟨t, rfl⟩ := r1
    cases ha : z.cps.all (· < 128)
    · exact wpAny_pyIter_wide ha (pi_one (tk := s1.toks) I1 _ (turn_str _ z t "str_iterator" (.inr rfl)) ⟨_, Heap.get?_push_size _ rfl, rfl, rfl⟩ q)
    · exact wpAny_pyIter_ascii ha (pi_one (tk := s1.toks) I1 _ (turn_str _ z t "str_ascii_iterator" (.inl rfl)) ⟨_, Heap.get?_push_size _ rfl, rfl, rfl⟩ q)
theorem get_at {ι : List Addr} {H : Hp} {ds : List D} {xs : List V} {i : Nat} (h : DVs G ι H ds xs) (hi : i < ds.length) : ∃ v d, xs[i]? = some v ∧ ds[i]? = some d ∧ DV G ι H d v := by
  obtain ⟨v, h1, h2⟩ := h.get (List.getElem?_eq_getElem hi)
  exact ⟨v, _, h1, List.getElem?_eq_getElem hi, h2⟩
theorem SI.dir (hK : X.K = G.K) (h : SE X G W e ma) : SI X G W tg e (fun ρ => bnd (ma ρ) srcD) := fun ι S H σ ρ R r en o => by
  refine PIw (pi_any pE) ?_
  refine h ι S H σ ρ _ r en (o.bnd.imp (fun ι1 S1 H1 d g1 r1 h1 x hx => ?_) fun _ _ _ _ _ z => z)
  cases hs : srcD d S1 with
  | bad => rw [hs] at h1; exact h1.elim
  | err c fs S2 => 
    exfalso
    cases d <;> first | (simp [srcD, ret, ML.bad] at hs; done) | skip
    rename_i n
    simp only [srcD] at hs
    cases q : lsOf S1 n <;> rw [q] at hs <;> cases hs
  | ok src S2 =>
    obtain ⟨e1, gd, k, hk, al⟩ := src_of hK r1 hx hs
    subst e1
    rw [hs] at h1
    have R1 := Ok.fin h1 r1
    obtain ⟨xs0, sv0, _⟩ := al _ _ _ (Grow.refl _ _) r1 gd
    rcases hk with rfl | rfl | rfl
    · obtain ⟨a, rfl, sq⟩ := sv0
      refine .inl ⟨a, xs0, rfl, sq, R1 _ ⟨fun ι2 S2 H2 i g r2 hg hi => ?_, fun ι2 S2 H2 g r2 hg => ?_, fun ι2 S2 H2 i x H' g r2 hg hi y => ?_⟩⟩
      · obtain ⟨xs, ⟨a', ea, sv⟩, dv⟩ := al _ _ _ g r2 hg
        cases ea
        obtain ⟨v, d', q1, q2, q3⟩ := get_at dv hi
        exact ⟨xs, v, sv, q1⟩
      · obtain ⟨xs, ⟨a', ea, sv⟩, dv⟩ := al _ _ _ g r2 hg
        cases ea
        exact ⟨xs, sv, by rw [dv.length]; exact Nat.le_refl _⟩
      · obtain ⟨xs, ⟨a', ea, sv⟩, dv⟩ := al _ _ _ g r2 hg
        cases ea
        obtain ⟨v, d', q1, q2, q3⟩ := get_at dv hi
        obtain ⟨rfl, y⟩ := y
        have := y xs sv
        rw [q1] at this; cases this
        exact ⟨Grow.refl _ _, r2, d', q2, q3⟩
    · obtain ⟨a, rfl, sq⟩ := sv0
      refine .inr (.inl ⟨a, xs0, rfl, sq, R1 _ ⟨fun ι2 S2 H2 i g r2 hg hi => ?_, fun ι2 S2 H2 g r2 hg => ?_, fun ι2 S2 H2 i x H' g r2 hg hi y => ?_⟩⟩)
      · obtain ⟨xs, ⟨a', ea, sv⟩, dv⟩ := al _ _ _ g r2 hg
        cases ea
        obtain ⟨v, d', q1, q2, q3⟩ := get_at dv hi
        exact ⟨xs, v, sv, q1⟩
      · obtain ⟨xs, ⟨a', ea, sv⟩, dv⟩ := al _ _ _ g r2 hg
        cases ea
        exact ⟨xs, sv, by rw [dv.length]; exact Nat.le_refl _⟩
      · obtain ⟨xs, ⟨a', ea, sv⟩, dv⟩ := al _ _ _ g r2 hg
        cases ea
        obtain ⟨v, d', q1, q2, q3⟩ := get_at dv hi
        obtain ⟨rfl, y⟩ := y
        have := y xs sv
        rw [q1] at this; cases this
        exact ⟨Grow.refl _ _, r2, d', q2, q3⟩
    · obtain ⟨z, rfl, _⟩ := sv0
      refine .inr (.inr ⟨z, rfl, R1 _ ⟨fun ι2 S2 H2 i g r2 hg hi => ?_, fun ι2 S2 H2 g r2 hg => ?_, fun ι2 S2 H2 i x H' g r2 hg hi y => ?_⟩⟩)
      · obtain ⟨xs, ⟨a', ea, sv⟩, dv⟩ := al _ _ _ g r2 hg
        cases ea
        subst sv
        have hl := dv.length
        have : (signs z).length = z.cps.size := by simp [signs]
        show i < z.cps.size
        omega
      · obtain ⟨xs, ⟨a', ea, sv⟩, dv⟩ := al _ _ _ g r2 hg
        cases ea
        subst sv
        have hl := dv.length
        have : (signs z).length = z.cps.size := by simp [signs]
        show z.cps.size ≤ src.items.length
        omega
      · obtain ⟨xs, ⟨a', ea, sv⟩, dv⟩ := al _ _ _ g r2 hg
        cases ea
        subst sv
        obtain ⟨v, d', q1, q2, q3⟩ := get_at dv hi
        obtain ⟨rfl, c, hc, rfl⟩ := y
        have : (signs z)[i]? = some (V.str ⟨#[c]⟩) := by
          unfold signs
          rw [List.getElem?_map]
          have : z.cps.toList[i]? = some c := by simpa using hc
          rw [this]; rfl
        rw [this] at q1; cases q1
        exact ⟨Grow.refl _ _, r2, d', q2, q3⟩
end
end ML

set_option maxHeartbeats 1000000
namespace ML
open PySem PySem.Spec PyProof.Rows L2
/-! ### ranges, enumerate, zip -/
def small62 (i : Int) : Prop := -(2 ^ 62) ≤ i ∧ i < 2 ^ 62
instance (i : Int) : Decidable (small62 i) := by unfold small62; infer_instance
def rngD (lo : Int) (n : Nat) : List D := (List.range n).map fun i => D.int (lo + (i : Nat))
def rng1 : List D → M Src
  | [.int j] => if small62 j then ret ⟨rngD 0 j.toNat, []⟩ else bad
  | _ => bad
def rng2 : List D → M Src
  | [.int i, .int j] => if small62 i ∧ small62 j then ret ⟨rngD i (j - i).toNat, []⟩ else bad
  | _ => bad
/-- range(i, j, -1) -/
def rng3 : List D → M Src
  | [.int i, .int j, .int c] => if small62 i ∧ small62 j ∧ c = -1 then ret ⟨(List.range (i - j).toNat).map fun k => D.int (i - (k : Nat)), []⟩ else bad
  | _ => bad
def enD : List D → M Src
  | [d] => bnd (srcD d) fun s => ret ⟨s.items.zipIdx.map fun p => .tup [.int (p.2 : Nat), p.1], s.g⟩
  | _ => bad
def zpD : List D → M Src
  | [d, e] => bnd (srcD d) fun s => bnd (srcD e) fun t => ret ⟨List.zipWith (fun a b => .tup [a, b]) s.items t.items, s.g ++ t.g⟩
  | _ => bad
section
variable {X : Cx} {G : Wd} {W : WX} {tg e e2 a b c : Expr} {es : List Expr} {pos p tpos : Pos} {ma : ME D} {ms : ME (List D)}
theorem rngD_len (lo : Int) (n : Nat) : (rngD lo n).length = n := by unfold rngD; simp
theorem walkD_r {J : It} {items : List D} {ι0 : List Addr} {H0 : Hp} (f : Nat → Int) (n : Nat) (hl : items.length = n) (hi : ∀ i, i < n → items[i]? = some (.int (f i))) (go : ∀ i H, i < n → J.go i H) (st : ∀ H, J.stop n H) (yl : ∀ i H x H', J.yld i H x H' → H' = H ∧ x = .int (f i)) : WalkD G J ⟨items, []⟩ ι0 H0 :=
  ⟨fun ι S H i _ _ _ h => go i H (hl ▸ h), fun ι S H _ _ _ => by have h : J.stop n H := st H; rw [← hl] at h; exact h, fun ι S H i x H' g r _ h y => by
    obtain ⟨rfl, rfl⟩ := yl i H x H' y
    exact ⟨Grow.refl _ _, r, _, hi i (hl ▸ h), rfl⟩⟩
theorem ints_of {ι : List Addr} {H : Hp} {i : Int} {x : V} {xs : List V} : True := trivial
theorem SI.r1 (hg : Gl X "range") (hm : X.mg "range" = none) (ha : SA X G W [a] ms) (hs : starEach [a] X.env = [(false, eval a X.env)]) : SI X G W tg (.Call (.Name "range" p) [a] [] pos) (fun ρ => bnd (ms ρ) rng1) := fun ι S H σ ρ R r en o => by
  refine PIw (pi_range1 hg hm pA hs) ?_
  refine ha ι S H σ ρ _ r en (o.bnd.imp (fun ι1 S1 H1 ds g1 r1 h1 xs hx => ?_) fun _ _ _ _ _ z => z)
  match ds, h1, hx with
  | [.int j], h1, hx =>
    obtain ⟨v, vs, rfl, rfl, rfl⟩ := hx
    have h1 : Ok G ι1 H1 ((if small62 j then ret (⟨rngD 0 j.toNat, []⟩ : Src) else bad) S1) _ _ := h1
    by_cases q : small62 j
    · rw [if_pos q] at h1
      refine ⟨j, rfl, q.1, q.2, Ok.fin h1 r1 _ (walkD_r (fun i => 0 + (i : Nat)) j.toNat (rngD_len _ _) (fun i hi => by simp [rngD, hi]) (fun i H h => h) (fun H => Nat.le_refl _) fun i H x H' y => y)⟩
    · rw [if_neg q] at h1; exact h1.elim
theorem SI.r2 (hg : Gl X "range") (hm : X.mg "range" = none) (ha : SA X G W [a, b] ms) (hs : starEach [a, b] X.env = [(false, eval a X.env), (false, eval b X.env)]) (hs2 : starEach [b] X.env = [(false, eval b X.env)]) : SI X G W tg (.Call (.Name "range" p) [a, b] [] pos) (fun ρ => bnd (ms ρ) rng2) := fun ι S H σ ρ R r en o => by
  refine PIw (pi_range2 hg hm pA hs hs2) ?_
  refine ha ι S H σ ρ _ r en (o.bnd.imp (fun ι1 S1 H1 ds g1 r1 h1 xs hx => ?_) fun _ _ _ _ _ z => z)
  match ds, h1, hx with
  | [.int i, .int j], h1, hx =>
    obtain ⟨v, vs, rfl, rfl, v2, vs2, rfl, rfl, rfl⟩ := hx
    have h1 : Ok G ι1 H1 ((if small62 i ∧ small62 j then ret (⟨rngD i (j - i).toNat, []⟩ : Src) else bad) S1) _ _ := h1
    by_cases q : small62 i ∧ small62 j
    · rw [if_pos q] at h1
      refine ⟨i, j, rfl, ⟨q.1.1, q.1.2, q.2.1, q.2.2⟩, Ok.fin h1 r1 _ (walkD_r (fun k => i + (k : Nat)) (j - i).toNat (rngD_len _ _) (fun k hi => by simp [rngD, hi]) (fun i H h => h) (fun H => Nat.le_refl _) fun i H x H' y => y)⟩
    · rw [if_neg q] at h1; exact h1.elim
theorem SI.r3 (hg : Gl X "range") (hm : X.mg "range" = none) (ha : SA X G W [a, b, c] ms) (hs : starEach [a, b, c] X.env = (false, eval a X.env) :: starEach [b, c] X.env) (hs2 : (backTo pos (starEach [b, c] X.env)).any (·.1) = false) : SI X G W tg (.Call (.Name "range" p) [a, b, c] [] pos) (fun ρ => bnd (ms ρ) rng3) := fun ι S H σ ρ R r en o => by
  refine PIw (pi_range3 hg hm pA hs hs2) ?_
  refine ha ι S H σ ρ _ r en (o.bnd.imp (fun ι1 S1 H1 ds g1 r1 h1 xs hx => ?_) fun _ _ _ _ _ z => z)
  match ds, h1, hx with
  | [.int i, .int j, .int c], h1, hx =>
    obtain ⟨v, vs, rfl, rfl, v2, vs2, rfl, rfl, v3, vs3, rfl, rfl, rfl⟩ := hx
    have h2 : Ok G ι1 H1 ((if small62 i ∧ small62 j ∧ c = -1 then ret (⟨(List.range (i - j).toNat).map fun k => D.int (i - (k : Nat)), []⟩ : Src) else bad) S1) _ _ := h1
    by_cases q : small62 i ∧ small62 j ∧ c = -1
    · rw [if_pos q] at h2
      obtain ⟨q1, q2, rfl⟩ := q
      refine ⟨i, j, -1, (i - j).toNat, rfl, RgC.neg q1.1 q1.2 q2.1 q2.2, Ok.fin h2 r1 _ (walkD_r (fun k => i + (k : Nat) * -1) (i - j).toNat (by simp) (fun k hi => by simp [hi]; omega) (fun i H h => h) (fun H => Nat.le_refl _) fun i H x H' y => y)⟩
    · rw [if_neg q] at h2; exact h2.elim
theorem srcD_ok {d : D} {S : Sto} {α : Type} {k : Src → M α} {ι : List Addr} {H : Hp} {P PE} (o : Ok G ι H (bnd (srcD d) k S) P PE) : ∃ src, srcD d S = .ok src S ∧ Ok G ι H (k src S) P PE := by
  unfold bnd at o
  cases d with
  | tup ds => exact ⟨_, rfl, o⟩
  | str z => exact ⟨_, rfl, o⟩
  | kl z => exact ⟨_, rfl, o⟩
  | obj n =>
    simp only [srcD] at o ⊢
    cases q : lsOf S n with
    | none => rw [q] at o; exact o.elim
    | some ds => rw [q] at o; exact ⟨_, rfl, o⟩
  | _ => exact o.elim
theorem SI.en {elts : List Expr} {kk : Nat} (hK : X.K = G.K) (hg : Gl X "enumerate") (hm : X.mg "enumerate" = none) (ha : SA X G W [e] ms) (hs : starEach [e] X.env = [(false, eval e X.env)]) : SI X G W (.Tuple elts kk tpos) (.Call (.Name "enumerate" p) [e] [] pos) (fun ρ => bnd (ms ρ) enD) := fun ι S H σ ρ R r en o => by
  refine PIw (pi_en hg hm pA hs) ?_
  refine ha ι S H σ ρ _ r en (o.bnd.imp (fun ι1 S1 H1 ds g1 r1 h1 xs hx => ?_) fun _ _ _ _ _ z => z)
  match ds, h1, hx with
  | [d], h1, hx =>
    obtain ⟨v, vs, rfl, hv, rfl⟩ := hx
    obtain ⟨src, hs, h1⟩ := srcD_ok (show Ok G ι1 H1 (bnd (srcD d) (fun s => ret (⟨s.items.zipIdx.map fun p => .tup [.int (p.2 : Nat), p.1], s.g⟩ : Src)) S1) _ _ from h1)
    obtain ⟨_, gd, k, hk, al⟩ := src_of hK r1 hv hs
    obtain ⟨xs0, sv0, _⟩ := al _ _ _ (Grow.refl _ _) r1 gd
    refine ⟨v, k, xs0, rfl, sv0, Ok.fin h1 r1 _ ⟨fun ι2 S2 H2 i g r2 hg hi => ?_, fun ι2 S2 H2 g r2 hg => ?_, fun ι2 S2 H2 i x H' g r2 hg hi y => ?_⟩⟩
    · obtain ⟨xs, sv, dv⟩ := al _ _ _ g r2 hg
      refine ⟨xs, sv, ?_⟩
      rw [dv.length]; simpa using hi
    · obtain ⟨xs, sv, dv⟩ := al _ _ _ g r2 hg
      refine ⟨xs, sv, ?_⟩
      rw [dv.length]; simp
    · obtain ⟨xs, sv, dv⟩ := al _ _ _ g r2 hg
      have hi : i < src.items.length := by simpa using hi
      obtain ⟨u, d', q1, q2, q3⟩ := get_at dv hi
      obtain ⟨T, w, rfl, nT, rfl, y⟩ := y
      have := y xs sv
      rw [q1] at this; cases this
      have gr : Grow ι2 H2 ι2 (upd H2 T (.tup [.int (i : Nat), u])) := Grow.new nT
      refine ⟨gr, r2.new nT, .tup [.int (i : Nat), d'], ?_, T, _, rfl, .inl upd_same, ⟨_, _, rfl, rfl, u, [], rfl, q3.grow gr, rfl⟩⟩
      simp [List.getElem?_zipIdx, q2]
theorem SI.zp {elts : List Expr} {kk : Nat} (hK : X.K = G.K) (hg : Gl X "zip") (hm : X.mg "zip" = none) (ha : SA X G W [e, e2] ms) (hs : starEach [e, e2] X.env = [(false, eval e X.env), (false, eval e2 X.env)]) (hs2 : starEach [e2] X.env = [(false, eval e2 X.env)]) : SI X G W (.Tuple elts kk tpos) (.Call (.Name "zip" p) [e, e2] [] pos) (fun ρ => bnd (ms ρ) zpD) := fun ι S H σ ρ R r en o => by
  refine PIw (pi_zp hg hm pA hs hs2) ?_
  refine ha ι S H σ ρ _ r en (o.bnd.imp (fun ι1 S1 H1 ds g1 r1 h1 xs hx => ?_) fun _ _ _ _ _ z => z)
  match ds, h1, hx with
  | [d, f], h1, hx =>
    obtain ⟨v, vs, rfl, hv, v2, vs2, rfl, hv2, rfl⟩ := hx
    obtain ⟨src, hs, h1⟩ := srcD_ok (show Ok G ι1 H1 (bnd (srcD d) (fun s => bnd (srcD f) fun t => ret (⟨List.zipWith (fun a b => .tup [a, b]) s.items t.items, s.g ++ t.g⟩ : Src)) S1) _ _ from h1)
    obtain ⟨src2, hs2, h1⟩ := srcD_ok (show Ok G ι1 H1 (bnd (srcD f) (fun t => ret (⟨List.zipWith (fun a b => .tup [a, b]) src.items t.items, src.g ++ t.g⟩ : Src)) S1) _ _ from h1)
    obtain ⟨_, gd, k, hk, al⟩ := src_of hK r1 hv hs
    obtain ⟨_, gd2, k2, hk2, al2⟩ := src_of hK r1 hv2 hs2
    obtain ⟨xs0, sv0, _⟩ := al _ _ _ (Grow.refl _ _) r1 gd
    obtain ⟨ys0, tv0, _⟩ := al2 _ _ _ (Grow.refl _ _) r1 gd2
    have g1 : ∀ {S : Sto}, gdOk (src.g ++ src2.g) S → gdOk src.g S := fun h p hp => h p (List.mem_append_left _ hp)
    have g2 : ∀ {S : Sto}, gdOk (src.g ++ src2.g) S → gdOk src2.g S := fun h p hp => h p (List.mem_append_right _ hp)
    refine ⟨v, v2, k, k2, xs0, ys0, rfl, sv0, tv0, Ok.fin h1 r1 _ ⟨fun ι2 S2 H2 i g r2 hg hi => ?_, fun ι2 S2 H2 g r2 hg => ?_, fun ι2 S2 H2 i x H' g r2 hg hi y => ?_⟩⟩
    · obtain ⟨xs, sv, dv⟩ := al _ _ _ g r2 (g1 hg)
      obtain ⟨ys, tv, ev⟩ := al2 _ _ _ g r2 (g2 hg)
      refine ⟨xs, ys, sv, tv, ?_⟩
      rw [dv.length, ev.length]; simpa using hi
    · obtain ⟨xs, sv, dv⟩ := al _ _ _ g r2 (g1 hg)
      obtain ⟨ys, tv, ev⟩ := al2 _ _ _ g r2 (g2 hg)
      refine ⟨xs, ys, sv, tv, ?_⟩
      rw [dv.length, ev.length]; simp
    · obtain ⟨xs, sv, dv⟩ := al _ _ _ g r2 (g1 hg)
      obtain ⟨ys, tv, ev⟩ := al2 _ _ _ g r2 (g2 hg)
      have hi : i < src.items.length ∧ i < src2.items.length := by simpa [Nat.lt_min] using hi
      obtain ⟨u, d', q1, q2, q3⟩ := get_at dv hi.1
      obtain ⟨u2, d2, q4, q5, q6⟩ := get_at ev hi.2
      obtain ⟨T, w, w2, rfl, nT, rfl, y, y2⟩ := y
      have := y xs sv
      rw [q1] at this; cases this
      have := y2 ys tv
      rw [q4] at this; cases this
      have gr : Grow ι2 H2 ι2 (upd H2 T (.tup [u, u2])) := Grow.new nT
      refine ⟨gr, r2.new nT, .tup [d', d2], ?_, T, _, rfl, .inl upd_same, ⟨u, _, rfl, q3.grow gr, u2, [], rfl, q6.grow gr, rfl⟩⟩
      show (List.zipWith (fun a b => D.tup [a, b]) src.items src2.items)[i]? = _
      rw [List.getElem?_zipWith, q2, q5]
end

/-! ### comprehensions -/
mutual
def eqD : D → D → Bool
  | .non, .non => true
  | .bl a, .bl b => a == b
  | .int a, .int b => decide (a = b)
  | .str a, .str b => a == b
  | .tup a, .tup b => eqDs a b
  | .obj a, .obj b => a == b
  | .kd a, .kd b => decide (a = b)
  | .kl a, .kl b => decide (a = b)
  | _, _ => false
def eqDs : List D → List D → Bool
  | [], [] => true
  | a :: as, b :: bs => eqD a b && eqDs as bs
  | _, _ => false
end
mutual
theorem eqD_eq : ∀ (a b : D), eqD a b = true → a = b
  | .non, b => by cases b <;> simp [eqD]
  | .bl a, b => by cases b <;> simp [eqD]
  | .int a, b => by cases b <;> simp [eqD]
  | .str a, b => by cases b <;> simp [eqD]
  | .tup a, b => by
    cases b <;> simp only [eqD] <;> intro h <;> first | (cases h; done) | skip
    rw [eqDs_eq a _ h]
  | .obj a, b => by cases b <;> simp [eqD]
  | .kd a, b => by cases b <;> simp [eqD]
  | .kl a, b => by cases b <;> simp [eqD]
theorem eqDs_eq : ∀ (a b : List D), eqDs a b = true → a = b
  | [], b => by cases b <;> simp [eqDs]
  | a :: as, b => by
    cases b <;> simp only [eqDs] <;> intro h <;> first | (cases h; done) | skip
    rw [Bool.and_eq_true] at h
    rw [eqD_eq a _ h.1, eqDs_eq as _ h.2]
end
mutual
theorem eqD_refl : ∀ a : D, eqD a a = true
  | .non => rfl
  | .bl a => by simp [eqD]
  | .int a => by simp [eqD]
  | .str a => by simp [eqD]
  | .tup a => by simp only [eqD]; exact eqDs_refl a
  | .obj a => by simp [eqD]
  | .kd a => by simp [eqD]
  | .kl a => by simp [eqD]
theorem eqDs_refl : ∀ a : List D, eqDs a a = true
  | [] => rfl
  | a :: as => by simp only [eqDs, Bool.and_eq_true]; exact ⟨eqD_refl a, eqDs_refl as⟩
end
def gdB (g : Gd) (S : Sto) : Bool := g.all fun p => match lsOf S p.1 with
  | some ds => eqDs ds p.2
  | none => false
theorem gdB_ok {g : Gd} {S : Sto} (h : gdB g S = true) : gdOk g S := fun p hp => by
  have := List.all_eq_true.mp h p hp
  cases q : lsOf S p.1 with
  | none => rw [q] at this; cases this
  | some ds => rw [q] at this; rw [eqDs_eq _ _ this]
theorem gdOk_b {g : Gd} {S : Sto} (h : gdOk g S) : gdB g S = true := List.all_eq_true.mpr fun p hp => by
  rw [h p hp]
  exact eqDs_refl _
def gd {α : Type} (g : Gd) (m : M α) : M α := fun S => if gdB g S = true then m S else .bad
theorem gd_ok {α : Type} {g : Gd} {m : M α} {S S' : Sto} {a : α} (h : gd g m S = .ok a S') : gdOk g S ∧ m S = .ok a S' := by
  unfold gd at h
  split at h
  · exact ⟨gdB_ok (by assumption), h⟩
  · cases h
theorem gd_nil' {α : Type} (m : M α) : gd [] m = m := by
  funext S
  unfold gd
  rw [if_pos (gdOk_b gd_nil)]
theorem gd_eq {α : Type} {g : Gd} {m : M α} {S : Sto} (h : gdOk g S) : gd g m S = m S := by
  unfold gd
  rw [if_pos (gdOk_b h)]
theorem Ok.gd {α : Type} {G : Wd} {ι : List Addr} {H : Hp} {g : Gd} {m : M α} {S : Sto} {P PE} (o : Ok G ι H (gd g m S) P PE) : gdOk g S ∧ Ok G ι H (m S) P PE := by
  unfold ML.gd at o
  split at o
  · exact ⟨gdB_ok (by assumption), o⟩
  · exact o.elim
theorem bnd_ok {α β : Type} {m : M α} {k : α → M β} {S S' : Sto} {b : β} (h : bnd m k S = .ok b S') : ∃ a S1, m S = .ok a S1 ∧ k a S1 = .ok b S' := by
  unfold bnd at h
  cases hm : m S with
  | ok a S1 => rw [hm] at h; exact ⟨a, S1, rfl, h⟩
  | err c fs S1 => rw [hm] at h; cases h
  | bad => rw [hm] at h; cases h
def noErr {α : Type} (m : M α) : M α := fun S => match m S with
  | .ok a S' => .ok a S'
  | _ => .bad
theorem Ok.noErr {α β : Type} {G : Wd} {ι : List Addr} {H : Hp} {m : M α} {k : α → M β} {S : Sto} {P PE} (o : Ok G ι H (ML.bnd (ML.noErr m) k S) P PE) : ∃ a S', m S = .ok a S' ∧ Ok G ι H (k a S') P PE := by
  unfold ML.bnd ML.noErr at o
  cases hm : m S with
  | ok a S' => rw [hm] at o; exact ⟨a, S', rfl, o⟩
  | err c fs S' => rw [hm] at o; exact o.elim
  | bad => rw [hm] at o; exact o.elim
def lcGo (tg : D → ME Loc) (t : ME Bool) (e : ME D) (g : Gd) (ρ : Loc) : List D → List D → M (List D)
  | [], acc => gd g (ret acc)
  | x :: xs, acc => gd g (bnd (tg x ρ) fun ρ1 => bnd (t ρ1) fun b => if b = true then bnd (e ρ1) fun y => (if acc.length < sizeLine then lcGo tg t e g ρ xs (acc ++ [y]) else bad) else lcGo tg t e g ρ xs acc)
def newL (acc : List D) : M D := fun S => .ok (.obj S.length) (S ++ [.lst acc])
def mLc (vs : List Nat) (mi : ME Src) (tg : D → ME Loc) (t : ME Bool) (e : ME D) : ME D := fun ρ => bnd (mi ρ) fun src => bnd (noErr (lcGo tg t e src.g (wipeL ρ vs) src.items [])) newL
abbrev WF : WX := fun _ _ _ _ => False
def wTs (X : Cx) (ifs : List Expr) : TT := fun σ H Q => ∀ pins s, Inv X pins σ H s → wpAny (model X.prog X.w) X.A (forIn ifs true fun c r => if r = true then do let ok ← isTrue c X.env (eval c X.env); pure (ForInStep.yield ok) else pure (ForInStep.yield r)) (TP X pins σ Q) X.xe s
theorem pTs {X : Cx} {ifs : List Expr} : PTs X ifs (wTs X ifs) := ⟨fun pins s σ H Q I h => h pins s I⟩
theorem PTsw {X : Cx} {ifs : List Expr} {t : TT} {σ : L2.St} {H : Hp} {Q : Bool → Hp → Prop} (h : PTs X ifs t) (q : t σ H Q) : wTs X ifs σ H Q := fun pins s I => h.run pins s σ H Q I q
def STs (X : Cx) (G : Wd) (W : WX) (ifs : List Expr) (m : ME Bool) : Prop := EvT G W (wTs X ifs) m
theorem STs.nil {X : Cx} {G : Wd} {W : WX} : STs X G W [] (fun _ => ret true) := fun ι S H σ ρ Q r en o => PTsw pts_nil (Ok.fin (P := fun _ _ H' b => Q b H') o r)
theorem STs.one {X : Cx} {G : Wd} {W : WX} {c : Expr} {m : ME Bool} (h : ST X G W c m) : STs X G W [c] m := fun ι S H σ ρ Q r en o => PTsw (pts_one pT) (h ι S H σ ρ Q r en o)
theorem Grow.hid {ι0 ι : List Addr} {H0 H : Hp} {p : Addr} {o : HO} (g : Grow ι0 H0 ι H) (h : H0 p = none) : Grow ι0 H0 ι (upd H p o) :=
  ⟨g.pre, fun a xs f e => by rw [upd_ne (ne_of_none e h)]; exact g.ext a xs f e, fun a u e n => by rw [upd_ne (ne_of_none e h)]; exact g.frm a u e n, fun a u e => by
    obtain ⟨u', q⟩ := g.alv a u e
    exact ⟨u', by rw [upd_ne (ne_of_none e h)]; exact q⟩⟩
theorem Rel.pushE {G : Wd} {ι : List Addr} {S : Sto} {H : Hp} {p : Addr} {c : Cell} (r : Rel G ι S H) (hp : p ∉ ι) (hc : CellV G (ι ++ [p]) H p c) : Rel G (ι ++ [p]) (S ++ [c]) H := by
  have g : GrowE ι H (ι ++ [p]) H := ⟨⟨[p], rfl⟩, Ext.refl H⟩
  refine ⟨List.nodup_append.mpr ⟨r.nd, by simp, fun a ha b hb e => ?_⟩, by rw [List.length_append, List.length_append, r.len]; rfl, fun n c' a h1 h2 => ?_⟩
  · have e' : b = p := by simpa using hb
    subst e; subst e'
    exact hp ha
  · by_cases hn : n < S.length
    · rw [List.getElem?_append_left hn] at h1
      rw [List.getElem?_append_left (by rw [r.len]; exact hn)] at h2
      exact (r.cell n c' a h1 h2).growE g rfl
    · have hlt := (List.getElem?_eq_some_iff.mp h1).1
      rw [List.length_append] at hlt
      have e : n = S.length := by simp at hlt; omega
      subst e
      rw [List.getElem?_append_right (Nat.le_refl _)] at h1
      rw [List.getElem?_append_right (by rw [r.len]; exact Nat.le_refl _), r.len] at h2
      simp at h1 h2
      subst h1; subst h2
      exact hc
/-- readings in a block -/
def bG (X : Cx) (scope : Scope) (tg : Expr) : TG := fun v σ H Q => ∀ (s : Shared) (Hb : Hp) (C : Addr) (cl : List (Str × Addr)) (fp : List Addr), wG (X.blk s Hb scope (compEnvC scope cl C X.env) fp) tg v σ H Q
def bTs (X : Cx) (scope : Scope) (ifs : List Expr) : TT := fun σ H Q => ∀ (s : Shared) (Hb : Hp) (C : Addr) (cl : List (Str × Addr)) (fp : List Addr), wTs (X.blk s Hb scope (compEnvC scope cl C X.env) fp) ifs σ H Q
def bE (X : Cx) (scope : Scope) (elt : Expr) : TE := fun σ H Q => ∀ (s : Shared) (Hb : Hp) (C : Addr) (cl : List (Str × Addr)) (fp : List Addr), wE (X.blk s Hb scope (compEnvC scope cl C X.env) fp) elt σ H Q
/-- an untracked address changes -/
theorem Rel.hid {G : Wd} {ι : List Addr} {S : Sto} {H : Hp} {p : Addr} {o u : HO} (r : Rel G ι S H) (hp : p ∉ ι) (h : H p = some u) (nt : fixd u = false) : Rel G ι S (L2.upd H p o) ∧ Ext H (L2.upd H p o) := by
  have ex : Ext H (L2.upd H p o) := Ext.mut h nt
  refine ⟨⟨r.nd, r.len, fun n c a h1 h2 => ?_⟩, ex⟩
  have hn : a ≠ p := fun e => hp (e ▸ List.mem_of_getElem? h2)
  exact (r.cell n c a h1 h2).growE (GrowE.same ex) (upd_ne hn)
theorem Rel.notIn {G : Wd} {ι : List Addr} {S : Sto} {H : Hp} {p : Addr} (r : Rel G ι S H) (h : H p = none) : p ∉ ι := fun hm => by
  obtain ⟨n, hn, e⟩ := List.getElem_of_mem hm
  obtain ⟨c, _, q⟩ := r.at (n := n) (by rw [List.getElem?_eq_getElem hn, e])
  obtain ⟨o, z, _⟩ := q.some
  rw [h] at z; cases z
theorem Grow.notIn {ι ι' : List Addr} {H H' : Hp} {p : Addr} {o : HO} (g : Grow ι H ι' H') (n : p ∉ ι) (h : H p = some o) : p ∉ ι' := fun hm => by
  obtain ⟨m, e, f⟩ := g.pre
  rw [e] at hm
  rcases List.mem_append.mp hm with z | z
  · exact n z
  · rw [f p z] at h; cases h
section
variable {X : Cx} {G : Wd} {W : WX} {tg iter elt : Expr} {ifs : List Expr} {scope : Scope} {own : List (Str × Nat)} {pos : Pos} {mi : ME Src} {mg : D → ME Loc} {mt : ME Bool} {me : ME D} {A : Nat → Bool}
theorem lc_sound (hi : SI X G W tg iter mi) (hA : ∀ i, A i = true → i ∈ own.map (·.2))
    (hg : ∀ (s : Shared) (H : Hp) (C : Addr) (cl : List (Str × Addr)) (fp : List Addr), SG (X.blk s H scope (compEnvC scope cl C X.env) fp) G A WF tg mg) (ht : ∀ (s : Shared) (H : Hp) (C : Addr) (cl : List (Str × Addr)) (fp : List Addr), STs (X.blk s H scope (compEnvC scope cl C X.env) fp) G WF ifs mt)
    (he : ∀ (s : Shared) (H : Hp) (C : Addr) (cl : List (Str × Addr)) (fp : List Addr), SE (X.blk s H scope (compEnvC scope cl C X.env) fp) G WF elt me)
    {ι : List Addr} {S : Sto} {H : Hp} {σ : L2.St} {ρ : Loc} {Q : VK} {PE : List Addr → Sto → Hp → Nat → List (Str × D) → Prop} (hPE : ∀ ι' S' H' c fs, PE ι' S' H' c fs → PErr G W σ ι' S' H' c fs) (r : Rel G ι S H) (en : EnvOk G ι H σ ρ) (o : Ok G ι H (mLc (own.map (·.2)) mi mg mt me ρ S) (PQ G Q) PE) :
    tLc (wI X tg iter) (bG X scope tg) (bTs X scope ifs)
      (bE X scope elt) (own.map (·.2)) σ H Q := by
  refine hi ι S H σ ρ _ r en (o.bnd.imp (fun ι1 S1 H1 src g1 r1 h1 J wk D hD => ?_) hPE)
  obtain ⟨accF, SF, hgo, hend⟩ := Ok.noErr h1
  have Wk : L2.Walk J src.items.length (fun H => ∃ ι S, Grow ι1 H1 ι H ∧ Rel G ι S H ∧ gdOk src.g S) (fun i H x H' => J.yld i H x H') :=
    ⟨fun i H hi ⟨ι2, S2, a, b, c⟩ => wk.goes ι2 S2 H i a b c hi, fun H ⟨ι2, S2, a, b, c⟩ => wk.stops ι2 S2 H a b c, fun i H x H' _ _ y => y⟩
  have enw := (en.grow g1).wipe (own.map (·.2))
  refine lc_it (g := bG X scope tg) (tt := bTs X scope ifs) (te := bE X scope elt) (vs := own.map (·.2)) (σ := σ) (H1 := H1) (D := D) (Qd := fun H => Q (.ref D) H) Wk (fun i H => ∃ ι S acc av, Rel G ι S H ∧ Grow ι1 H1 ι H ∧ H D = some (.lst av) ∧ D ∉ ι ∧ DVs G ι H acc av ∧ lcGo mg mt me src.g (wipeL ρ (own.map (·.2))) (src.items.drop i) acc S = .ok accF SF) ?_ ?_ ?_ ?_
  · exact ⟨ι1, S1, [], [], r1.new hD, Grow.new hD, upd_same, r1.notIn hD, rfl, hgo⟩
  · rintro i H hi ⟨ι2, S2, acc, av, r2, g2, e2, n2, d2, h2⟩
    refine ⟨ι2, S2, g2, r2, ?_⟩
    cases hl : src.items.drop i with
    | nil => rw [hl] at h2; exact (gd_ok h2).1
    | cons x xs => rw [hl] at h2; exact (gd_ok h2).1
  · rintro i x H2 H3 hi ⟨ι2, S2, acc, av, r2, g2, e2, n2, d2, h2⟩ y
    have hdr : src.items.drop i = src.items[i] :: src.items.drop (i + 1) := List.drop_eq_getElem_cons hi
    rw [hdr] at h2
    obtain ⟨gk, h2⟩ := gd_ok h2
    obtain ⟨g3, r3, d, hd, dv⟩ := wk.yields ι2 S2 H2 i x H3 g2 r2 gk hi y
    have : src.items[i] = d := by rw [List.getElem?_eq_getElem hi] at hd; exact Option.some.inj hd
    rw [this] at h2
    obtain ⟨ρ1, S3, ht1, h2⟩ := bnd_ok h2
    obtain ⟨b, S4, hb1, h2⟩ := bnd_ok h2
    have e3 : H3 D = some (.lst av) := g3.frm D _ e2 n2
    intro s Hb C cl fp
    refine hg s Hb C cl fp ι2 S2 H3 _ (wipeL ρ (own.map (·.2))) d x _ r3 (enw.grow (g2.trans g3)) dv ?_
    rw [ht1]
    intro ι4 H4 g4 r4 σ4 en4 ag4
    refine ⟨wipe_agr hA ag4, fun s Hb C cl fp => ?_⟩
    refine ht s Hb C cl fp ι4 S3 H4 σ4 ρ1 _ r4 en4 ?_
    rw [hb1]
    intro ι5 H5 g5 r5
    have n4 := g4.notIn n2 e3
    have e4 : H4 D = some (.lst av) := g4.frm D _ e3 n2
    have e5 : H5 D = some (.lst av) := g5.frm D _ e4 n4
    have n5 := g5.notIn n4 e4
    cases b with
    | false =>
      rw [if_neg Bool.false_ne_true] at h2
      refine iteF ⟨ι5, S4, acc, av, r5, ((g2.trans g3).trans g4).trans g5, e5, n5, d2.grow ((g3.trans g4).trans g5), h2⟩
    | true =>
      rw [if_pos rfl] at h2
      obtain ⟨yd, S6, hy, h2⟩ := bnd_ok h2
      refine iteT fun s Hb C cl fp => ?_
      refine he s Hb C cl fp ι5 S4 H5 σ4 ρ1 _ r5 (en4.grow g5) ?_
      rw [hy]
      intro ι6 H6 g6 r6 yv hyv
      have e6 : H6 D = some (.lst av) := g6.frm D _ e5 n5
      have n6 := g6.notIn n5 e5
      have dd := d2.grow (((g3.trans g4).trans g5).trans g6)
      by_cases hz : acc.length < sizeLine
      · rw [if_pos hz] at h2
        obtain ⟨r7, x7⟩ := r6.hid (o := .lst (av ++ [yv])) n6 e6 rfl
        refine ⟨av, e6, by rw [dd.length]; exact hz, ι6, S6, acc ++ [yd], av ++ [yv], r7, ((((g2.trans g3).trans g4).trans g5).trans g6).hid hD, upd_same, n6, ?_, h2⟩
        exact DVs.growE (GrowE.same x7) (dd.append (DVs.one hyv))
      · rw [if_neg hz] at h2; cases h2
  · rintro H2 ⟨ι2, S2, acc, av, r2, g2, e2, n2, d2, h2⟩
    rw [List.drop_length] at h2
    obtain ⟨_, h2⟩ := gd_ok h2
    cases h2
    have g7 : Grow ι1 H1 (ι2 ++ [D]) H2 := by
      obtain ⟨more, e, f⟩ := g2.pre
      exact ⟨⟨more ++ [D], by rw [e, List.append_assoc], fun c hc => (List.mem_append.mp hc).elim (f c) fun z => by rw [show c = D by simpa using z]; exact hD⟩, g2.ext, g2.frm, g2.alv⟩
    have g8 : GrowE ι2 H2 (ι2 ++ [D]) H2 := ⟨⟨[D], rfl⟩, Ext.refl _⟩
    have r7 := r2.pushE (c := .lst accF) n2 ⟨av, e2, DVs.growE g8 d2⟩
    exact hend (ι2 ++ [D]) H2 g7 r7 (.ref D) ⟨D, by rw [List.getElem?_append_right (by rw [r2.len]; exact Nat.le_refl _), r2.len]; simp, rfl⟩
theorem SE.lc (hc : X.calm = true) (hN : X.N.Nodup) (hi : SI X G W tg iter mi) (ok : blkC X.N X.env.scope scope own = true) (hA : ∀ i, A i = true → i ∈ own.map (·.2))
    (hg : ∀ (s : Shared) (H : Hp) (C : Addr) (cl : List (Str × Addr)) (fp : List Addr), SG (X.blk s H scope (compEnvC scope cl C X.env) fp) G A WF tg mg) (ht : ∀ (s : Shared) (H : Hp) (C : Addr) (cl : List (Str × Addr)) (fp : List Addr), STs (X.blk s H scope (compEnvC scope cl C X.env) fp) G WF ifs mt)
    (he : ∀ (s : Shared) (H : Hp) (C : Addr) (cl : List (Str × Addr)) (fp : List Addr), SE (X.blk s H scope (compEnvC scope cl C X.env) fp) G WF elt me) (hs : ∀ x, foldedSetIterable iter X.env x = pure x) :
    SE X G W (.ListComp elt [⟨tg, iter, ifs, 0⟩] scope pos) (mLc (own.map (·.2)) mi mg mt me) := fun ι S H σ ρ Q r en o => by
  refine PEw (pe_lc (wi := wI X tg iter) (g := bG X scope tg) (tt := bTs X scope ifs)
      (te := bE X scope elt) hc hN pI (blkOk_by ok) (fun s Hb C cl fp => ⟨fun pins s' σ H v u Q I rr h => h s Hb C cl fp pins s' u I rr⟩) (fun s Hb C cl fp => ⟨fun pins s' σ H Q I h => h s Hb C cl fp pins s' I⟩) (fun s Hb C cl fp => ⟨fun pins s' σ H Q I h => h s Hb C cl fp pins s' I⟩) hs) ?_
  exact lc_sound hi hA hg ht he (fun _ _ _ _ _ z => z) r en o
end
end ML

set_option maxHeartbeats 1000000
namespace ML
open PySem PySem.Spec PyProof.Rows L2
/-! ### statements -/
inductive Fl where
  | nx (ρ : Loc) | rt (d : D) | bk (ρ : Loc) | ct (ρ : Loc)
def PFl (G : Wd) (A : Nat → Bool) (σ : L2.St) (E : Ends) : List Addr → Sto → Hp → Fl → Prop := fun ι' _ H' fl => match fl with
  | .nx ρ' => ∀ σ', EnvOk G ι' H' σ' ρ' → Agr A σ σ' → E.nx σ' H'
  | .rt d => ∀ v, DV G ι' H' d v → E.rt v H'
  | .bk ρ' => ∀ σ', EnvOk G ι' H' σ' ρ' → Agr A σ σ' → E.bk σ' H'
  | .ct ρ' => ∀ σ', EnvOk G ι' H' σ' ρ' → Agr A σ σ' → E.ct σ' H'
theorem PFl.mv {G : Wd} {A : Nat → Bool} {σ σ1 : L2.St} {E : Ends} (a : Agr A σ σ1) {ι' : List Addr} {S' : Sto} {H' : Hp} {fl : Fl} (h : PFl G A σ E ι' S' H' fl) : PFl G A σ1 E ι' S' H' fl := by
  cases fl with
  | nx ρ => exact fun σ' en b => h σ' en (a.trans b)
  | rt d => exact h
  | bk ρ => exact fun σ' en b => h σ' en (a.trans b)
  | ct ρ => exact fun σ' en b => h σ' en (a.trans b)
def wS (X : Cx) (st : Stmt) : TS := fun E σ H => ∀ pins s, Inv X pins σ H s → wpAny (model X.prog X.w) X.A (exec st X.env) (SP X pins E) X.xe s
def wSs (X : Cx) (st : List Stmt) : TS := fun E σ H => ∀ pins s, Inv X pins σ H s → wpAny (model X.prog X.w) X.A (execs st X.env) (SP X pins E) X.xe s
theorem pS {X : Cx} {st : Stmt} : PS X st (wS X st) := ⟨fun pins s σ H E I h => h pins s I⟩
theorem pSs {X : Cx} {st : List Stmt} : PSs X st (wSs X st) := ⟨fun pins s σ H E I h => h pins s I⟩
theorem PSw {X : Cx} {st : Stmt} {t : TS} {σ : L2.St} {H : Hp} {E : Ends} (h : PS X st t) (q : t E σ H) : wS X st E σ H := fun pins s I => h.run pins s σ H E I q
theorem PSsw {X : Cx} {st : List Stmt} {t : TS} {σ : L2.St} {H : Hp} {E : Ends} (h : PSs X st t) (q : t E σ H) : wSs X st E σ H := fun pins s I => h.run pins s σ H E I q
def EvS (G : Wd) (A : Nat → Bool) (W : WX) (ts : TS) (m : Loc → M Fl) : Prop := ∀ ι S H σ ρ E, Rel G ι S H → EnvOk G ι H σ ρ → Ok G ι H (m ρ S) (PFl G A σ E) (PErrS G A W σ) → ts E σ H
def SS (X : Cx) (G : Wd) (A : Nat → Bool) (W : WX) (st : Stmt) (m : Loc → M Fl) : Prop := EvS G A W (wS X st) m
def SSs (X : Cx) (G : Wd) (A : Nat → Bool) (W : WX) (st : List Stmt) (m : Loc → M Fl) : Prop := EvS G A W (wSs X st) m
def seqK (k : Loc → M Fl) : Fl → M Fl
  | .nx ρ => k ρ
  | fl => ret fl
/-- behind a turn of a loop -/
def flK (k : Loc → M Fl) : Fl → M Fl
  | .nx ρ => k ρ
  | .ct ρ => k ρ
  | .bk ρ => ret (.nx ρ)
  | .rt d => ret (.rt d)
def forGo (tg : D → ME Loc) (b : Loc → M Fl) (g : Gd) : List D → Loc → M Fl
  | [], ρ => gd g (ret (.nx ρ))
  | x :: xs, ρ => gd g (bnd (tg x ρ) fun ρ1 => bnd (b ρ1) (flK (forGo tg b g xs)))
def whGo (c : ME Bool) (b : Loc → M Fl) : Nat → Loc → M Fl
  | 0, _ => bad
  | n + 1, ρ => bnd (c ρ) fun k => if k = true then bnd (b ρ) (flK (whGo c b n)) else ret (.nx ρ)
open Classical in
noncomputable def whM (c : ME Bool) (b : Loc → M Fl) (ρ : Loc) : M Fl := fun S => if h : ∃ n, whGo c b n ρ S ≠ .bad then whGo c b h.choose ρ S else .bad
def mSet (i : Nat) (me : ME D) : Loc → M Fl := fun ρ => bnd (me ρ) fun d => ret (.nx (ρ.set i (some d)))
def mAsg (me : ME D) (mg : D → ME Loc) : Loc → M Fl := fun ρ => bnd (me ρ) fun d => bnd (mg d ρ) fun ρ' => ret (.nx ρ')
def mEx (me : ME D) : Loc → M Fl := fun ρ => bnd (me ρ) fun _ => ret (.nx ρ)
def mRt (me : ME D) : Loc → M Fl := fun ρ => bnd (me ρ) fun d => ret (.rt d)
def mIf (mc : ME Bool) (a b : Loc → M Fl) : Loc → M Fl := fun ρ => bnd (mc ρ) fun k => if k = true then a ρ else b ρ
def mFor (mi : ME Src) (mg : D → ME Loc) (b : Loc → M Fl) : Loc → M Fl := fun ρ => bnd (mi ρ) fun src => forGo mg b src.g src.items ρ
def mAug (i : Nat) (me : ME D) (g : D → D → M D) : Loc → M Fl := fun ρ => bnd (getL ρ i) fun x => bnd (me ρ) fun y => bnd (g x y) fun z => ret (.nx (ρ.set i (some z)))
def mSeq (a b : Loc → M Fl) : Loc → M Fl := fun ρ => bnd (a ρ) (seqK b)
section
variable {X : Cx} {G : Wd} {A : Nat → Bool} {W : WX} {pos p2 : Pos} {st : Stmt} {sts body : List Stmt} {e iter tg c : Expr} {me : ME D} {mc : ME Bool} {m m1 m2 : Loc → M Fl} {mi : ME Src} {mg : D → ME Loc}
theorem EvD.toS {te : TE} (h : EvD G W te me) {ι : List Addr} {S : Sto} {H : Hp} {σ : L2.St} {ρ : Loc} {Q : VK} (r : Rel G ι S H) (en : EnvOk G ι H σ ρ) (o : Ok G ι H (me ρ S) (PQ G Q) (PErrS G A W σ)) : te σ H Q :=
  h ι S H σ ρ Q r en (o.imp (fun _ _ _ _ _ _ z => z) (PErrS.at (Agr.refl _ _)))
theorem SSs.nil : SSs X G A W [] (fun ρ => ret (.nx ρ)) := fun ι S H σ ρ E r en o => PSsw pss_nil (Ok.fin o r σ en (Agr.refl _ _))
theorem SSs.one (h : SS X G A W st m) : SSs X G A W [st] m := fun ι S H σ ρ E r en o => PSsw (pss_one pS) (h ι S H σ ρ E r en o)
theorem SSs.cons (h : SS X G A W st m1) (k : SSs X G A W sts m2) : SSs X G A W (st :: sts) (mSeq m1 m2) := fun ι S H σ ρ E r en o => by
  refine PSsw (pss_cons pS pSs) ?_
  refine h ι S H σ ρ _ r en (o.bnd.imp (fun ι1 S1 H1 fl g1 r1 h1 => ?_) fun _ _ _ _ _ z => z)
  cases fl with
  | nx ρ1 => exact fun σ1 en1 a1 => k ι1 S1 H1 σ1 ρ1 E r1 en1 (Ok.imp h1 (fun _ _ _ _ _ _ z => PFl.mv a1 z) (PErrS.mv a1))
  | rt d => exact Ok.fin (P := PFl G A σ E) (a := Fl.rt d) h1 r1
  | bk ρ1 => exact Ok.fin (P := PFl G A σ E) (a := Fl.bk ρ1) h1 r1
  | ct ρ1 => exact Ok.fin (P := PFl G A σ E) (a := Fl.ct ρ1) h1 r1
theorem SSs.never : SSs X G A W sts (fun _ => bad) := fun _ _ _ _ _ _ _ _ o => o.elim
theorem SS.never : SS X G A W st (fun _ => bad) := fun _ _ _ _ _ _ _ _ o => o.elim
theorem SS.pass : SS X G A W (.Pass pos) (fun ρ => ret (.nx ρ)) := fun ι S H σ ρ E r en o => PSw ps_pass (Ok.fin o r σ en (Agr.refl _ _))
theorem SS.brk : SS X G A W (.Break pos) (fun ρ => ret (.bk ρ)) := fun ι S H σ ρ E r en o => PSw ps_break (Ok.fin o r σ en (Agr.refl _ _))
theorem SS.cnt : SS X G A W (.Continue pos) (fun ρ => ret (.ct ρ)) := fun ι S H σ ρ E r en o => PSw ps_continue (Ok.fin o r σ en (Agr.refl _ _))
theorem SS.doc {x : Str} {j : Nat} : SS X G A W (.Expr (.Constant (.str x) j pos) p2) (fun ρ => ret (.nx ρ)) := fun ι S H σ ρ E r en o => PSw ps_doc (Ok.fin o r σ en (Agr.refl _ _))
theorem SS.expr (h : SE X G W e me) (hs : swapsWith e none pos.line X.env = pure false) : SS X G A W (.Expr e pos) (mEx me) := fun ι S H σ ρ E r en o => by
  refine PSw (ps_expr pE hs) ?_
  refine EvD.toS h r en (o.bnd.imp (fun ι1 S1 H1 d g1 r1 h1 v hv => ?_) fun _ _ _ _ _ z => z)
  exact Ok.fin h1 r1 σ (en.grow g1) (Agr.refl _ _)
theorem SS.ret (h : SE X G W e me) : SS X G A W (.Return (some e) pos) (mRt me) := fun ι S H σ ρ E r en o => by
  refine PSw (ps_ret pE) ?_
  refine EvD.toS h r en (o.bnd.imp (fun ι1 S1 H1 d g1 r1 h1 v hv => ?_) fun _ _ _ _ _ z => z)
  exact Ok.fin h1 r1 v hv
theorem SS.retN : SS X G A W (.Return none pos) (fun _ => ML.ret (.rt .non)) := fun ι S H σ ρ E r en o => PSw ps_retN (Ok.fin o r .non rfl)
theorem SS.ifS (hc : ST X G W c mc) (ha : SSs X G A W sts m1) (hb : SSs X G A W body m2) : SS X G A W (.If c sts body pos) (mIf mc m1 m2) := fun ι S H σ ρ E r en o => by
  refine PSw (ps_if pT pSs pSs) ?_
  refine hc ι S H σ ρ _ r en (o.bnd.imp (fun ι1 S1 H1 k g1 r1 h1 => ?_) (PErrS.at (Agr.refl _ _)))
  cases k with
  | true => exact iteT (ha ι1 S1 H1 σ ρ E r1 (en.grow g1) h1)
  | false => exact iteF (hb ι1 S1 H1 σ ρ E r1 (en.grow g1) h1)
theorem SS.set {i : Nat} {x : Str} {pos' : Pos} (hN : X.N.Nodup) (hi : X.N[i]? = some x) (hx : L2.Loc X.env.scope x) (he : SE X G W e me) (hs : swapsWith e (some (.Name x pos')) pos.line X.env = pure false) (hf : X.fn x = true ∨ X.env.scope.names.lookup x = some .local) (hA : A i = true) :
    SS X G A W (.Assign [.Name x pos'] e pos) (mSet i me) := fun ι S H σ ρ E r en o => by
  refine PSw (ps_set hN hi hx pE hs hf) ?_
  refine EvD.toS he r en (o.bnd.imp (fun ι1 S1 H1 d g1 r1 h1 v hv => ?_) fun _ _ _ _ _ z => z)
  exact Ok.fin h1 r1 _ ((en.grow g1).set i hv) (Agr.set hA)
theorem SS.asg (he : SE X G W e me) (hg : SG X G A W tg mg) (hs : swapsWithSole [tg] e pos.line X.env = pure false) (hw : swappedStores [tg] e X.env = pure none) (h1 : (assignEach [tg] X.env).map (·.2) = [assign tg X.env]) :
    SS X G A W (.Assign [tg] e pos) (mAsg me mg) := fun ι S H σ ρ E r en o => by
  refine PSw (ps_asg pE pG hs hw h1) ?_
  refine EvD.toS he r en (o.bnd.imp (fun ι1 S1 H1 d g1 r1 h1 v hv => ?_) fun _ _ _ _ _ z => z)
  refine hg ι1 S1 H1 σ ρ d v _ r1 (en.grow g1) hv (h1.bnd.imp (fun ι2 S2 H2 ρ2 g2 r2 h2 σ2 en2 a2 => ?_) (PErrS.at (Agr.refl _ _)))
  exact Ok.fin h2 r2 σ2 en2 a2
/-- a, b = x, y: two local names -/
def mPar (i j : Nat) (ms : ME (List D)) : Loc → M Fl := fun ρ => bnd (ms ρ) fun ds => match ds with
  | [a, b] => ML.ret (.nx ((ρ.set i (some a)).set j (some b)))
  | _ => bad
theorem SS.par {i j : Nat} {x y : Str} {a b : Expr} {ms : ME (List D)} {px py pt : Pos} {kt k2 pt2} (hc : X.calm = true) (hN : X.N.Nodup) (hi : X.N[i]? = some x) (hj : X.N[j]? = some y) (hij : i ≠ j)
    (hx : X.env.scope.names.lookup x = some .local) (hy : X.env.scope.names.lookup y = some .local) (ha : SA X G W [a, b] ms)
    (hw : swappedStores [.Tuple [.Name x px, .Name y py] kt pt] (.Tuple [a, b] k2 pt2) X.env = pure (some [x, y]))
    (hs : swapsWithSole [.Tuple [.Name x px, .Name y py] kt pt] (.Tuple [a, b] k2 pt2) pos.line X.env = pure false) (hA : A i = true) (hB : A j = true) :
    SS X G A W (.Assign [.Tuple [.Name x px, .Name y py] kt pt] (.Tuple [a, b] k2 pt2) pos) (mPar i j ms) := fun ι S H σ ρ E r en o => by
  refine PSw (ps_par hc hN hi hj hij hx hy pA hw hs) ?_
  refine ha ι S H σ ρ _ r en (o.bnd.imp (fun ι1 S1 H1 ds g1 r1 h1 xs hxs => ?_) (PErrS.at (Agr.refl _ _)))
  match ds, h1, hxs with
  | [a, b], h1, hxs =>
    obtain ⟨v, vs, rfl, hv, v2, vs2, rfl, hv2, rfl⟩ := hxs
    exact ⟨v, v2, rfl, Ok.fin h1 r1 _ (((en.grow g1).set i hv).set j hv2) ((Agr.set hA).trans (Agr.set hB))⟩
def IpD (X : Cx) (G : Wd) (op : Operator) (g : D → D → M D) : Prop := ∀ ι S H x y dx dy Q PE pins s σ v u, Rel G ι S H → DV G ι H dx x → DV G ι H dy y → Ok G ι H (g dx dy S) (PQ G Q) PE → Inv X pins σ H s → RelV x v → RelV y u → wpAny (model X.prog X.w) X.A (inplaceOp op v u) (EP X pins σ Q) X.xe s
def wIp (X : Cx) (op : Operator) : TIp := fun x y H Q => ∀ pins s σ v u, Inv X pins σ H s → RelV x v → RelV y u → wpAny (model X.prog X.w) X.A (inplaceOp op v u) (EP X pins σ Q) X.xe s
theorem pIp {op : Operator} : PIp X op (wIp X op) := fun pins s σ H x y v u Q I r1 r2 h => h pins s σ v u I r1 r2
theorem SS.aug {i : Nat} {x : Str} {op : Operator} {g : D → D → M D} {pos' : Pos} (hN : X.N.Nodup) (hi : X.N[i]? = some x) (hx : L2.Loc X.env.scope x) (he : SE X G W e me) (ho : IpD X G op g) (hf : X.fn x = true ∨ X.env.scope.names.lookup x = some .local) (hA : A i = true) :
    SS X G A W (.AugAssign (.Name x pos') op e pos) (mAug i me g) := fun ι S H σ ρ E r en o => by
  refine PSw (ps_aug hN hi hx pE pIp hf) ?_
  have o : Ok G ι H (bnd (getL ρ i) (fun x => bnd (me ρ) fun y => bnd (g x y) fun z => ML.ret (.nx (ρ.set i (some z)))) S) (PFl G A σ E) (PErrS G A W σ) := o
  cases h : ρ[i]? with
  | none =>
    have : getL ρ i S = .bad := by unfold getL; rw [h]
    unfold bnd at o; rw [this] at o; exact o.elim
  | some u =>
    cases u with
    | none =>
      have : getL ρ i S = .bad := by unfold getL; rw [h]
      unfold bnd at o; rw [this] at o; exact o.elim
    | some d =>
      have : getL ρ i S = .ok d S := by unfold getL; rw [h]
      rw [bnd_of this] at o
      obtain ⟨v, h1, h2⟩ := en.at_ i d h
      refine ⟨v, h1, EvD.toS he r en (o.bnd.imp (fun ι1 S1 H1 dy g1 r1 h1 y hy => ?_) fun _ _ _ _ _ z => z)⟩
      intro pins s σ' v' u' I rv ru
      refine ho ι1 S1 H1 v y d dy _ _ pins s σ' v' u' r1 (h2.grow g1) hy (h1.bnd.imp (fun ι2 S2 H2 dz g2 r2 h2 z hz => ?_) fun _ _ _ _ _ z => z) I rv ru
      exact Ok.fin h2 r2 _ ((en.grow (g1.trans g2)).set i hz) (Agr.set hA)
theorem SS.forS {b : Loc → M Fl} (hp : PassesOwn (model X.prog X.w) X.A X.env X.xe) (hc : X.calm = true) (hi : SI X G W tg iter mi) (hg : SG X G A W tg mg) (hb : SSs X G A W body b)
    (hs : ∀ x, foldedSetIterable iter X.env x = pure x) : SS X G A W (.For tg iter body [] pos) (mFor mi mg b) := fun ι S H σ ρ E r en o => by
  refine PSw (ps_for hp hc pI pG pSs hs) ?_
  refine hi ι S H σ ρ _ r en (o.bnd.imp (fun ι1 S1 H1 src g1 r1 h1 J wk => ?_) (PErrS.at (Agr.refl _ _)))
  let Wn : Nat → Nat → L2.St → Hp → Prop := fun i m σ' H' => i + m = src.items.length ∧ ∃ ι' S' ρ', Rel G ι' S' H' ∧ EnvOk G ι' H' σ' ρ' ∧ Grow ι1 H1 ι' H' ∧ Agr A σ σ' ∧ Ok G ι' H' (forGo mg b src.g (src.items.drop i) ρ' S') (PFl G A σ E) (PErrS G A W σ)
  refine ⟨Wn, ⟨src.items.length, by simp, ι1, S1, ρ, r1, en.grow g1, Grow.refl _ _, Agr.refl _ _, h1⟩, fun i m σ2 H2 ⟨em, ι2, S2, ρ2, r2, en2, g2, a2, h2⟩ => ?_⟩
  by_cases hlt : i < src.items.length
  · have hdr : src.items.drop i = src.items[i] :: src.items.drop (i + 1) := List.drop_eq_getElem_cons hlt
    rw [hdr] at h2
    obtain ⟨gk, h2⟩ := h2.gd
    refine .inr ⟨wk.goes ι2 S2 H2 i g2 r2 gk hlt, fun σ' H' => Wn (i + 1) (m - 1) σ' H', fun σ' H' q => ⟨m - 1, by omega, q⟩, fun x H3 y => ?_⟩
    obtain ⟨g3, r3, d, hd, dv⟩ := wk.yields ι2 S2 H2 i x H3 g2 r2 gk hlt y
    have : src.items[i] = d := by rw [List.getElem?_eq_getElem hlt] at hd; exact Option.some.inj hd
    rw [this] at h2
    refine hg ι2 S2 H3 σ2 ρ2 d x _ r3 (en2.grow g3) dv ((h2.base g3).bnd.imp (fun ι4 S4 H4 ρ4 g4 r4 h4 σ4 en4 a4 => ?_) (PErrS.at a2))
    refine hb ι4 S4 H4 σ4 ρ4 _ r4 en4 (h4.bnd.imp (fun ι5 S5 H5 fl g5 r5 h5 => ?_) (PErrS.mv (a2.trans a4)))
    have ge : Grow ι1 H1 ι5 H5 := ((g2.trans g3).trans g4).trans g5
    cases fl with
    | nx ρ5 => exact fun σ5 en5 a5 => ⟨by omega, ι5, S5, ρ5, r5, en5, ge, (a2.trans a4).trans a5, h5⟩
    | ct ρ5 => exact fun σ5 en5 a5 => ⟨by omega, ι5, S5, ρ5, r5, en5, ge, (a2.trans a4).trans a5, h5⟩
    | bk ρ5 => exact fun σ5 en5 a5 => Ok.fin (P := PFl G A σ E) (a := Fl.nx ρ5) h5 r5 σ5 en5 ((a2.trans a4).trans a5)
    | rt d5 => exact fun v hv => Ok.fin (P := PFl G A σ E) (a := Fl.rt d5) h5 r5 v hv
  · have hdr : src.items.drop i = [] := List.drop_eq_nil_of_le (by omega)
    rw [hdr] at h2
    obtain ⟨gk, h2⟩ := h2.gd
    have e : i = src.items.length := by omega
    subst e
    exact .inl ⟨wk.stops ι2 S2 H2 g2 r2 gk, Ok.fin h2 r2 σ2 en2 a2⟩
theorem SS.while {b : Loc → M Fl} (hp : PassesOwn (model X.prog X.w) X.A X.env X.xe) (hc : ST X G W c mc) (hb : SSs X G A W body b) : SS X G A W (.While c body [] pos) (whM mc b) := fun ι S H σ ρ E r en o => by
  refine PSw (ps_while hp pT pSs) ?_
  let Wn : Nat → L2.St → Hp → Prop := fun m σ' H' => ∃ ι' S' ρ', Rel G ι' S' H' ∧ EnvOk G ι' H' σ' ρ' ∧ Agr A σ σ' ∧ Ok G ι' H' (whGo mc b m ρ' S') (PFl G A σ E) (PErrS G A W σ)
  have : ∃ n, Ok G ι H (whGo mc b n ρ S) (PFl G A σ E) (PErrS G A W σ) := by
    unfold whM at o
    split at o
    · exact ⟨_, o⟩
    · exact o.elim
  obtain ⟨n, o⟩ := this
  refine ⟨Wn, ⟨n, ι, S, ρ, r, en, Agr.refl _ _, o⟩, fun m σ2 H2 ⟨ι2, S2, ρ2, r2, en2, a2, h2⟩ => ?_⟩
  cases m with
  | zero => exact h2.elim
  | succ m =>
    refine hc ι2 S2 H2 σ2 ρ2 _ r2 en2 ((show Ok G ι2 H2 (bnd (mc ρ2) (fun k => if k = true then bnd (b ρ2) (flK (whGo mc b m)) else ML.ret (.nx ρ2)) S2) _ _ from h2).bnd.imp (fun ι3 S3 H3 k g3 r3 h3 => ?_) (PErrS.at a2))
    cases k with
    | false =>
      rw [if_neg Bool.false_ne_true] at h3 ⊢
      exact Ok.fin h3 r3 σ2 (en2.grow g3) a2
    | true =>
      rw [if_pos rfl] at h3 ⊢
      refine ⟨Wn m, fun σ' H' q => ⟨m, Nat.lt_succ_self _, q⟩, hb ι3 S3 H3 σ2 ρ2 _ r3 (en2.grow g3) (h3.bnd.imp (fun ι5 S5 H5 fl g5 r5 h5 => ?_) (PErrS.mv a2))⟩
      cases fl with
      | nx ρ5 => exact fun σ5 en5 a5 => ⟨ι5, S5, ρ5, r5, en5, a2.trans a5, h5⟩
      | ct ρ5 => exact fun σ5 en5 a5 => ⟨ι5, S5, ρ5, r5, en5, a2.trans a5, h5⟩
      | bk ρ5 => exact fun σ5 en5 a5 => Ok.fin (P := PFl G A σ E) (a := Fl.nx ρ5) h5 r5 σ5 en5 (a2.trans a5)
      | rt d5 => exact fun v hv => Ok.fin (P := PFl G A σ E) (a := Fl.rt d5) h5 r5 v hv
/-- name = [..] on one line -/
theorem SS.setLc {i : Nat} {y : Str} {py spos : Pos} {elt : Expr} {ifs : List Expr} {scope : Scope} {own : List (Str × Nat)} {mt : ME Bool} {me' : ME D} {B : Nat → Bool} (hc : X.calm = true) (hN : X.N.Nodup) (hy : X.N[i]? = some y) (hyl : X.env.scope.names.lookup y = some .local)
    (hsw : swapsWith (.ListComp elt [⟨tg, iter, ifs, 0⟩] scope pos) (some (.Name y py)) spos.line X.env = pure true) (hi : SI X G W tg iter mi) (ok : blkC X.N X.env.scope scope own = true) (hB : ∀ i, B i = true → i ∈ own.map (·.2))
    (hg : ∀ (s : Shared) (H : Hp) (C : Addr) (cl : List (Str × Addr)) (fp : List Addr), SG (X.blk s H scope (compEnvC scope cl C X.env) fp) G B WF tg mg) (ht : ∀ (s : Shared) (H : Hp) (C : Addr) (cl : List (Str × Addr)) (fp : List Addr), STs (X.blk s H scope (compEnvC scope cl C X.env) fp) G WF ifs mt)
    (he : ∀ (s : Shared) (H : Hp) (C : Addr) (cl : List (Str × Addr)) (fp : List Addr), SE (X.blk s H scope (compEnvC scope cl C X.env) fp) G WF elt me') (hs : ∀ x, foldedSetIterable iter X.env x = pure x) (hA : A i = true) :
    SS X G A W (.Assign [.Name y py] (.ListComp elt [⟨tg, iter, ifs, 0⟩] scope pos) spos) (mSet i (mLc (own.map (·.2)) mi mg mt me')) := fun ι S H σ ρ E r en o => by
  refine PSw (ps_setLc (wi := wI X tg iter) (g := bG X scope tg) (tt := bTs X scope ifs) (te := bE X scope elt) hc hN hy hyl hsw pI (blkOk_by ok) (fun s Hb C cl fp => ⟨fun pins s' σ H v u Q I rr h => h s Hb C cl fp pins s' u I rr⟩) (fun s Hb C cl fp => ⟨fun pins s' σ H Q I h => h s Hb C cl fp pins s' I⟩) (fun s Hb C cl fp => ⟨fun pins s' σ H Q I h => h s Hb C cl fp pins s' I⟩) hs) ?_
  refine lc_sound (PE := PErrS G A W σ) hi hB hg ht he (PErrS.at (Agr.refl _ _)) r en (o.bnd.imp (fun ι1 S1 H1 d g1 r1 h1 v hv => ?_) fun _ _ _ _ _ z => z)
  exact Ok.fin h1 r1 _ ((en.grow g1).set i hv) (Agr.set hA)
end

/-! ### defs -/
def spM (G : Wd) (n : Nat) (m : List D → M D) : Sp := fun vs H Q E => ∃ ι S ds, Rel G ι S H ∧ DVs G ι H ds vs ∧ ds.length = n ∧ Ok G ι H (m ds S) (PQ G Q) (fun ι' _ H' c fs => ∀ ad, ErrV G ι' H' fs ad → E (.ref (G.cls c)) ad H')
structure Hf (P : Program) (w : World) (mg : Str → Option Value) (base : Heap) (G : Wd) (k : Nat) (x : Str) (ps : List Str) (m : List D → M D) : Prop where
  ex : ∃ f fd, FnOk P w G.K mg base (L2.CX P w) k f fd ps (spM G ps.length m) ∧ mg x = some (.ref f) ∧ PySem.W.keepIn G.K (.ref f) = true ∧ Binds G.K fd ps []
theorem Hf.mono {P : Program} {w : World} {mg : Str → Option Value} {base : Heap} {G : Wd} {j k : Nat} {x : Str} {ps : List Str} {m : List D → M D} (h : Hf P w mg base G j x ps m) (le : j ≤ k) : Hf P w mg base G k x ps m := by
  obtain ⟨f, fd, a, b⟩ := h.ex
  exact ⟨f, fd, a.mono le, b⟩
/-- another reading of the same def -/
theorem Hf.eq {P : Program} {w : World} {mg : Str → Option Value} {base : Heap} {G : Wd} {k : Nat} {x : Str} {ps : List Str} {m m' : List D → M D} (h : Hf P w mg base G k x ps m) (e : ∀ ds, ds.length = ps.length → m' ds = m ds) : Hf P w mg base G k x ps m' := by
  obtain ⟨f, fd, a, b⟩ := h.ex
  exact ⟨f, fd, a.imp fun vs H Q E ⟨ι, S, ds, r, hd, hl, o⟩ => ⟨ι, S, ds, r, hd, hl, by rw [← e ds hl]; exact o⟩, b⟩
/-- .. that is told where it is not bad -/
def LeM (m' m : List D → M D) (n : Nat) : Prop := ∀ ds S, ds.length = n → m' ds S = .bad ∨ m' ds S = m ds S
theorem Hf.le {P : Program} {w : World} {mg : Str → Option Value} {base : Heap} {G : Wd} {k : Nat} {x : Str} {ps : List Str} {m m' : List D → M D} (h : Hf P w mg base G k x ps m) (e : LeM m' m ps.length) : Hf P w mg base G k x ps m' := by
  obtain ⟨f, fd, a, b⟩ := h.ex
  refine ⟨f, fd, a.imp fun vs H Q E ⟨ι, S, ds, r, hd, hl, o⟩ => ⟨ι, S, ds, r, hd, hl, ?_⟩, b⟩
  rcases e ds S hl with z | z
  · rw [z] at o; exact o.elim
  · rw [← z]; exact o
def startL (N : List Str) (ds : List D) : Loc := ds.map some ++ List.replicate (N.length - ds.length) none
theorem start_env {G : Wd} {ι : List Addr} {H : Hp} {N : List Str} {ds : List D} {vs : List V} (h : DVs G ι H ds vs) : EnvOk G ι H (L2.start N vs) (startL N ds) := by
  have hl := h.length
  refine ⟨by unfold L2.start startL; simp [hl], fun i d e => ?_⟩
  unfold startL at e
  unfold L2.start
  by_cases hi : i < ds.length
  · rw [List.getElem?_append_left (by rw [List.length_map]; exact hi), List.getElem?_map] at e
    rw [List.getElem?_append_left (by rw [List.length_map, hl]; exact hi), List.getElem?_map]
    cases q : ds[i]? with
    | none => rw [q] at e; cases e
    | some d' =>
      rw [q] at e
      obtain ⟨v, h1, h2⟩ := h.get q
      have : d' = d := by simpa using e
      subst this
      exact ⟨v, by rw [h1]; rfl, h2⟩
  · rw [List.getElem?_append_right (by simpa using Nat.not_lt.mp hi)] at e
    rw [List.getElem?_replicate] at e
    split at e <;> cases e
def flD : Fl → M D
  | .nx _ => ret .non
  | .rt d => ret d
  | _ => bad
def defM (N : List Str) (mb : Loc → M Fl) : List D → M D := fun ds => bnd (mb (startL N ds)) flD
/-- what a body knows of its context -/
structure Bc (X : Cx) (G : Wd) (k : Nat) (W : WX) : Prop where
  hK : X.K = G.K
  hw : X.w = G.w
  hc : X.calm = true
  room : Room k X.A
  tk : Takes X W
structure Bd (X : Cx) (G : Wd) (k : Nat) (W : WX) : Prop extends Bc X G k W where
  po : PassesOwn (model X.prog X.w) X.A X.env X.xe
theorem Bc.blk {X : Cx} {G : Wd} {k : Nat} {W : WX} (b : Bc X G k W) (s : Shared) (H : Hp) (scope : Scope) (cenv : Env) (fp : List Addr) : Bc (X.blk s H scope cenv fp) G k WF :=
  ⟨b.hK, b.hw, b.hc, b.room, takes0⟩
theorem Bc.hu {X : Cx} {G : Wd} {k : Nat} {W : WX} (b : Bc X G k W) : X.A.units + 65 < cLine := by have := b.room.un; omega
section
variable {P : Program} {w : World} {mg : Str → Option Value} {base : Heap} {G : Wd} {k : Nat}
theorem Hf.mk' {x qual : Str} {st : Stmt} {f : Addr} {fd : FuncData} {N ps : List Str} {mb : Loc → M Fl} (F : Fun G.K x qual st f fd) (hw : w = G.w) (S : FnScope N ps (defScope st)) (bn : Binds G.K fd ps []) (gm : mg x = some (.ref f))
    (body : ∀ (cdv : Value) (A : Around) (outer : List Env) (s : Shared) (H : Hp) (E : XK), Bd (cxOf (L2.CX P w) P w G.K mg base N qual (defScope st) f cdv A outer s H E) G k (fun cls d _ H => E cls d H) →
      SSs (cxOf (L2.CX P w) P w G.K mg base N qual (defScope st) f cdv A outer s H E) G (fun _ => true) (fun cls d _ H => E cls d H) (defBody st) mb) : Hf P w mg base G (k + 1) x ps (defM N mb) := by
  refine ⟨f, fd, F.okX S (fun vs H Q E ⟨ι, S', ds, r, hd, hl, o⟩ => hd.length.trans hl) (fun cdv A outer s H vs Q E hr ⟨ι, S', ds, r, hd, hl, o⟩ => ?_), gm, F.kp, bn⟩
  refine ⟨_, pSs, body cdv A outer s H E ⟨⟨rfl, hw, rfl, hr, takes_of rfl rfl rfl rfl⟩, passes_of rfl⟩ ι S' H _ (startL N ds) _ r (start_env hd) ?_⟩
  have o : Ok G ι H (bnd (mb (startL N ds)) flD S') _ _ := o
  refine o.bnd.imp (fun ι1 S1 H1 fl g1 r1 h1 => ?_) fun ι1 S1 H1 c fs h ad σ' v _ => h ad v
  cases fl with
  | nx ρ => exact fun σ' _ _ => Ok.fin (P := PQ G Q) (a := D.non) h1 r1 .non rfl
  | rt d => exact fun v hv => Ok.fin (P := PQ G Q) (a := d) h1 r1 v hv
  | bk ρ => exact h1.elim
  | ct ρ => exact h1.elim
end
section
variable {X : Cx} {G : Wd} {k j : Nat} {W : WX} {x : Str} {ps : List Str} {m : List D → M D} {e : Expr} {es : List Expr} {p pos : Pos} {ms : ME (List D)}
theorem pe_callS0 {CX : CXT} {f : Addr} {fd : FuncData} {sp : Sp} {E : L2.St → XK} (F : FnOk X.prog X.w X.K X.mg X.base CX k f fd ps sp) (hr : Room k X.A) (hg : Gl X x) (hm : X.mg x = some (.ref f)) (hk : PySem.W.keepIn X.K (.ref f) = true) (hb : Binds X.K fd ps []) (hx : ∀ σ, PassesAt CX X σ (E σ))
    (hdb : (x == ("__debug__" : Str)) = false) : PE X (.Call (.Name x p) [] [] pos) (tCallS sp E tNil) := by
  refine ⟨fun pins s σ H Q I h => ?_⟩
  refine wpAny_Call_Name_kw (ld_glob I hg hm ?_ hdb)
  exact PySem.W.callWith_K0 I.kIn hk (run_fnS (us := []) F hr hb (hx σ) I .nil h)
def mCall (n : Nat) (m : List D → M D) (ms : ME (List D)) : ME D := fun ρ => bnd (ms ρ) fun ds => if ds.length = n then m ds else bad
theorem SE.call (h : Hf X.prog X.w X.mg X.base G j x ps m) (b : Bc X G k W) (le : j ≤ k) (hg : Gl X x) (ha : SA X G W (e :: es) ms) (hdb : (x == ("__debug__" : Str)) = false) (he : starEach (e :: es) X.env = (false, eval e X.env) :: starEach es X.env) (hpl : (backTo pos (starEach es X.env)).any (·.1) = false) :
    SE X G W (.Call (.Name x p) (e :: es) [] pos) (mCall ps.length m ms) := fun ι S H σ ρ Q r en o => by
  obtain ⟨f, fd, F, hm, hk, hb⟩ := h.ex
  rw [← b.hK] at F hk hb
  refine PEw (pe_callS F (b.room.mono le) hg hm hk hb (fun σ => passAt b.tk σ) pA hdb he hpl) ?_
  refine ha ι S H σ ρ _ r en (o.bnd.imp (fun ι1 S1 H1 ds g1 r1 h1 xs hxs => ?_) fun _ _ _ _ _ z => z)
  by_cases q : ds.length = ps.length
  · rw [if_pos q] at h1
    exact ⟨ι1, S1, ds, r1, hxs, q, h1⟩
  · rw [if_neg q] at h1; exact h1.elim
theorem SE.call0 (h : Hf X.prog X.w X.mg X.base G j x ps m) (b : Bc X G k W) (le : j ≤ k) (hg : Gl X x) (hps : ps = []) (hdb : (x == ("__debug__" : Str)) = false) :
    SE X G W (.Call (.Name x p) [] [] pos) (fun _ => m []) := fun ι S H σ ρ Q r en o => by
  subst hps
  obtain ⟨f, fd, F, hm, hk, hb⟩ := h.ex
  rw [← b.hK] at F hk hb
  exact PEw (pe_callS0 F (b.room.mono le) hg hm hk hb (fun σ => passAt b.tk σ) hdb) ⟨ι, S, [], r, rfl, rfl, o⟩
end
end ML

set_option maxHeartbeats 1000000
namespace ML
open PySem PySem.Spec PyProof.Rows L2
/-! ### list(zip(x, y)): the pairs stay out -/
abbrev ZHeld (h : Heap) (z TI TO T : Addr) (f : Bool) : Prop := IsZipHeld h z TI TO T f
section
variable {prog : Program} {w : World} {A : Around} {E : Value → Shared → Prop} {s : Shared} {z TI TO T i1 i2 : Addr} {f1 f2 : List Addr} {n1 n2 i : Nat} {P1 P2 : Nat → Value → Prop} {S1 S2 : Nat → Heap → Prop} {f : Bool} {oT : Obj}
theorem zh_item {Q : Value → Shared → Prop} (Z : ZipSep2 z TI TO i1 i2 f1 f2) (D1 : Draws prog w A i1 f1 n1 P1 S1) (D2 : Draws prog w A i2 f2 n2 P2 S2) (zh : ZHeld s.heap z TI TO T f) (al : s.heap.get? T = some oT) (pI : IsTupOf2 s.heap TI (.ref i1) (.ref i2)) (t1 : S1 i s.heap) (t2 : S2 i s.heap) (l1 : i < n1) (l2 : i < n2)
    (q : ∀ x y h' tk, P1 i x → P2 i y → ZHeld h' z TI TO T true → S1 (i + 1) h' → S2 (i + 1) h' → IsTupOf2 h' s.heap.objs.size x y → h'.objs.size = s.heap.objs.size + 1 → (∀ c o, c ≠ z → c ≠ i1 → c ≠ i2 → s.heap.get? c = some o → h'.get? c = some o) → Q (.ref s.heap.objs.size) { s with heap := h', toks := tk }) :
    wpAny (model prog w) A (Builtin.«zip.__next__» ⟨[.ref z], []⟩) (fun fin s' => ∃ v, fin = .done (.ret v) ∧ Q v s') E s := by
  obtain ⟨hp, g, d, k0, os⟩ := s
  show wpAny (model prog w) A (field (.ref z) 2 >>= _) _ E ⟨hp, g, d, k0, os⟩
  apply wpAny_bind; apply wpAny_field zh rfl (x := .bool false) rfl
  show wpAny (model prog w) A (field (.ref z) 3 >>= _) _ E ⟨hp, g, d, k0, os⟩
  apply wpAny_bind; apply wpAny_field zh rfl (x := .ref TI) rfl
  apply wpAny_bind; apply wpAny_seqItems pI rfl
  show wpAny (model prog w) A (Builtin.SmallTypes.ownedTupleIsFree (.ref z) >>= _) _ E ⟨hp, g, d, k0, os⟩
  apply wpAny_bind; apply wpAny_tupleHeld_zip zh al
  intro g1 zh1 b1
  simp only [Bool.false_eq_true, if_false]
  apply wpAny_bind
  rw [← Array.forIn_toList]
  simp only [List.forIn_cons, List.forIn_nil]
  apply wpAny_bind; apply wpAny_bind; apply wpAny_holding
  show wpAny (model prog w) A (Builtin.SmallTypes.nextOf (.ref i1) >>= _) _ E ⟨g1, g, d, k0, os⟩
  apply wpAny_bind
  refine D1.item i ⟨g1, g, d, k0, os⟩ _ _ l1 (D1.over t1 b1 Z.zf1) fun x g2 k1 hx u1 b2 => wpAny_pure (wpAny_pure ?_)
  apply wpAny_bind; apply wpAny_bind; apply wpAny_holding
  show wpAny (model prog w) A (Builtin.SmallTypes.nextOf (.ref i2) >>= _) _ E ⟨g2, g, d, k1, os⟩
  apply wpAny_bind
  refine D2.item i ⟨g2, g, d, k1, os⟩ _ _ l2 (D2.over (D2.over t2 b1 Z.zf2) b2 Z.sep1_2) fun y g3 k2 hy u2 b3 => wpAny_pure (wpAny_pure (wpAny_pure ?_))
  show wpAny (model prog w) A (newTuple [x, y] >>= _) _ E ⟨g3, g, d, k2, os⟩
  apply wpAny_bind; refine wpAny_newTuple ?_
  have sz : g3.objs.size = hp.objs.size := b3.1.trans (b2.1.trans b1.1)
  have z3 : ZHeld g3 z TI TO T true := b3.extBut _ _ Z.zi2 (b2.extBut _ _ Z.zi1 zh1)
  have kk : ∀ c o, c ≠ z → c ≠ i1 → c ≠ i2 → hp.get? c = some o → g3.get? c = some o := fun c o a1 a2 a3 e => b3.extBut _ _ a3 (b2.extBut _ _ a2 (b1.extBut _ _ a1 e))
  have u1' : S1 (i + 1) g3 := D1.over u1 b3 Z.sep2_1
  refine wpAny_pure ⟨_, rfl, ?_⟩
  show Q (.ref g3.objs.size) ⟨g3.push { cls := .type "tuple", data := .seq #[x, y] }, g, d, k2, os⟩
  have pp : IsTupOf2 (g3.push { cls := .type "tuple", data := .seq #[x, y] }) g3.objs.size x y := Heap.get?_push_size _ rfl
  have p4 : (g3.push { cls := .type "tuple", data := .seq #[x, y] }).objs.size = g3.objs.size + 1 := Heap.size_push ..
  rw [sz] at pp p4 ⊢
  exact q x y _ k2 hx hy (Heap.get?_push_of_some _ z3) (D1.frame _ _ _ u1' fun b _ o e => Heap.get?_push_of_some _ e) (D2.frame _ _ _ u2 fun b _ o e => Heap.get?_push_of_some _ e) pp p4 fun c o a1 a2 a3 e => Heap.get?_push_of_some _ (kk c o a1 a2 a3 e)
theorem zh_end {Q : Fin → Shared → Prop} (Z : ZipSep2 z TI TO i1 i2 f1 f2) (D1 : Draws prog w A i1 f1 n1 P1 S1) (D2 : Draws prog w A i2 f2 n2 P2 S2) (zh : ZHeld s.heap z TI TO T f) (al : s.heap.get? T = some oT) (pI : IsTupOf2 s.heap TI (.ref i1) (.ref i2)) (t1 : S1 i s.heap) (t2 : S2 i s.heap) (l1 : i ≤ n1) (l2 : i ≤ n2) (fin : i = n1 ∨ i = n2)
    (q : ∀ h' tk e, (∀ c o, c ≠ z → c ≠ i1 → c ≠ i2 → s.heap.get? c = some o → h'.get? c = some o) → (∃ o, h'.get? e = some o ∧ o.cls = .type "StopIteration") → E (.ref e) { s with heap := h', toks := tk }) :
    wpAny (model prog w) A (Builtin.«zip.__next__» ⟨[.ref z], []⟩) Q E s := by
  obtain ⟨hp, g, d, k0, os⟩ := s
  show wpAny (model prog w) A (field (.ref z) 2 >>= _) _ E ⟨hp, g, d, k0, os⟩
  apply wpAny_bind; apply wpAny_field zh rfl (x := .bool false) rfl
  show wpAny (model prog w) A (field (.ref z) 3 >>= _) _ E ⟨hp, g, d, k0, os⟩
  apply wpAny_bind; apply wpAny_field zh rfl (x := .ref TI) rfl
  apply wpAny_bind; apply wpAny_seqItems pI rfl
  show wpAny (model prog w) A (Builtin.SmallTypes.ownedTupleIsFree (.ref z) >>= _) _ E ⟨hp, g, d, k0, os⟩
  apply wpAny_bind; apply wpAny_tupleHeld_zip zh al
  intro g1 zh1 b1
  simp only [Bool.false_eq_true, if_false]
  apply wpAny_bind
  rw [← Array.forIn_toList]
  simp only [List.forIn_cons, List.forIn_nil]
  apply wpAny_bind; apply wpAny_bind; apply wpAny_holding
  show wpAny (model prog w) A (Builtin.SmallTypes.nextOf (.ref i1) >>= _) _ E ⟨g1, g, d, k0, os⟩
  apply wpAny_bind
  by_cases lt : i < n1
  · refine D1.item i ⟨g1, g, d, k0, os⟩ _ _ lt (D1.over t1 b1 Z.zf1) fun x g2 k1 hx u1 b2 => wpAny_pure (wpAny_pure ?_)
    have e2 : i = n2 := by omega
    apply wpAny_bind; apply wpAny_bind; apply wpAny_holding
    show wpAny (model prog w) A (Builtin.SmallTypes.nextOf (.ref i2) >>= _) _ E ⟨g2, g, d, k1, os⟩
    apply wpAny_bind
    refine D2.done ⟨g2, g, d, k1, os⟩ _ _ (by rw [← e2]; exact D2.over (D2.over t2 b1 Z.zf2) b2 Z.sep1_2) fun h' e b3 he => ?_
    exact q h' k1 e (fun c o a1 a2 a3 x => b3 _ _ a3 (b2.extBut _ _ a2 (b1.extBut _ _ a1 x))) he
  · have e1 : i = n1 := by omega
    refine D1.done ⟨g1, g, d, k0, os⟩ _ _ (by rw [← e1]; exact D1.over t1 b1 Z.zf1) fun h' e b3 he => ?_
    exact q h' k0 e (fun c o a1 a2 _ x => b3 _ _ a2 (b1.extBut _ _ a1 x)) he
end
/-- the state of the zip at turn i, its last pair held or none given yet -/
def ZH (k j : Nat) (x y : V) (z TI TO i1 i2 : Addr) (i : Nat) (h : Heap) : Prop := IsTupOf2 h TI (.ref i1) (.ref i2) ∧ SrcIt k x i1 i h ∧ SrcIt j y i2 i h ∧
  ((IsZip h z TI TO .none ∧ ∃ a1 a2, IsTupOf2 h TO a1 a2) ∨ ((∃ o, h.get? TO = some o ∧ ∀ v, o.data ≠ .cell v) ∧ ∃ T f oT, ZHeld h z TI TO T f ∧ h.get? T = some oT ∧ T ≠ z ∧ T ≠ i1 ∧ T ≠ i2 ∧ T ≠ TO))
section
variable {X : Cx} {pins : List (Addr × Obj)} {σ : L2.St} {H : Hp} {s : Shared} {k j : Nat} {x y : V} {xs ys : List V} {z TI TO i1 i2 : Addr} {i : Nat} {A : Around}
theorem ZH.typ {h : Heap} (st : ZH k j x y z TI TO i1 i2 i h) : ∃ o, h.get? z = some o ∧ o.cls = .type "zip" := by
  obtain ⟨_, _, _, ⟨hz, _⟩ | ⟨_, T, f, oT, hz, _⟩⟩ := st
  · exact ⟨_, hz, rfl⟩
  · exact ⟨_, hz, rfl⟩
theorem ZH.at {h h' : Heap} (st : ZH k j x y z TI TO i1 i2 i h) (e : ∀ b o, h.get? b = some o → (∃ y, o.cls = .type y ∧ y ≠ "list") → h'.get? b = some o) (al : ∀ b o, h.get? b = some o → ∃ o', h'.get? b = some o') (nl : ∀ b ∈ [z, TI, TO, i1, i2], ∀ o, h.get? b = some o → h'.get? b = some o) : ZH k j x y z TI TO i1 i2 i h' := by
  obtain ⟨a, b, c, d⟩ := st
  refine ⟨nl _ (by simp) _ a, b.at fun o => nl _ (by simp) o, c.at fun o => nl _ (by simp) o, ?_⟩
  rcases d with ⟨hz, a1, a2, hO⟩ | ⟨⟨oO, hO, hc⟩, T, f, oT, hz, hT, n1, n2, n3⟩
  · exact .inl ⟨nl _ (by simp) _ hz, a1, a2, nl _ (by simp) _ hO⟩
  · obtain ⟨o', hT'⟩ := al _ _ hT
    exact .inr ⟨⟨oO, nl _ (by simp) _ hO, hc⟩, T, f, o', nl _ (by simp) _ hz, hT', n1, n2, n3⟩
theorem zsep {f1 f2 : List Addr} (nd : [z, TI, TO, i1, i2].Nodup) (f : ∀ b ∈ [z, TI, TO, i1, i2], FpOk X pins H b) (m1 : i1 ∈ f1) (h1 : ∀ b ∈ f1, b = i1 ∨ ∀ c, FpOk X pins H c → b ≠ c) (m2 : i2 ∈ f2) (h2 : ∀ b ∈ f2, b = i2 ∨ ∀ c, FpOk X pins H c → b ≠ c) : ZipSep2 z TI TO i1 i2 f1 f2 := by
  simp only [List.nodup_cons, List.mem_cons, List.not_mem_nil, or_false, not_or] at nd
  have no1 : ∀ b, b ∈ [z, TI, TO, i1, i2] → b ≠ i1 → b ∉ f1 := fun b hb ne q => by
    rcases h1 b q with e | e
    · exact ne e
    · exact e b (f b hb) rfl
  have no2 : ∀ b, b ∈ [z, TI, TO, i1, i2] → b ≠ i2 → b ∉ f2 := fun b hb ne q => by
    rcases h2 b q with e | e
    · exact ne e
    · exact e b (f b hb) rfl
  exact { TIz := Ne.symm nd.1.1, TOz := Ne.symm nd.1.2.1, TITO := nd.2.1.1, TIi1 := nd.2.1.2.1, mem1 := m1, zf1 := no1 z (by simp) nd.1.2.2.1, Tf1 := no1 TO (by simp) nd.2.2.1.1, TIi2 := nd.2.1.2.2, mem2 := m2, zf2 := no2 z (by simp) nd.1.2.2.2, Tf2 := no2 TO (by simp) nd.2.2.1.2, sep1_2 := no2 i1 (by simp) nd.2.2.2.1, sep2_1 := no1 i2 (by simp) (Ne.symm nd.2.2.2.1) }
theorem zh_next {E : Value → Shared → Prop} (hh : A.handled = none) (I : Inv X pins σ H s) (nd : [z, TI, TO, i1, i2].Nodup) (f : ∀ b ∈ [z, TI, TO, i1, i2], FpOk X pins H b) (src : SrcV X.K H k x xs) (src2 : SrcV X.K H j y ys) (st : ZH k j x y z TI TO i1 i2 i s.heap) (l1 : i < xs.length) (l2 : i < ys.length) :
    wpAny (model X.prog X.w) A (pyNext (.ref z)) (fun r s1 => ∃ T u v h' tk, r = some (.ref T) ∧ s1 = { s with heap := h', toks := tk } ∧ Inv X pins σ (upd H T (.tup [u, v])) s1 ∧ H T = none ∧ xs[i]? = some u ∧ ys[i]? = some v ∧ ZH k j x y z TI TO i1 i2 (i + 1) h' ∧ (∀ b ∈ [z, TI, TO, i1, i2], FpOk X pins (upd H T (.tup [u, v])) b) ∧ ∀ b o, b ∉ [z, TI, TO, i1, i2] → s.heap.get? b = some o → h'.get? b = some o) E s := by
  have hh1 : A.in1.handled = none := hh
  obtain ⟨pI, si1, si2, dz⟩ := st
  obtain ⟨fp, P1, S1, D1, st1, m1, h1, back1, pv1⟩ := (drawn I (A := A.in1) hh1 src (f i1 (by simp)) si1).ex
  obtain ⟨fp2, P2, S2, D2, st2, m2, h2, back2, pv2⟩ := (drawn I (A := A.in1) hh1 src2 (f i2 (by simp)) si2).ex
  have Z := zsep nd f m1 h1 m2 h2
  have fin : ∀ (u v : Value) (h' : Heap) (tk : Nat), P1 i u → P2 i v → S1 (i + 1) h' → S2 (i + 1) h' → IsTupOf2 h' TI (.ref i1) (.ref i2) → IsTupOf2 h' s.heap.objs.size u v → ((∃ o, h'.get? TO = some o ∧ ∀ v, o.data ≠ .cell v) ∧ ∃ T f oT, ZHeld h' z TI TO T f ∧ h'.get? T = some oT ∧ T ≠ z ∧ T ≠ i1 ∧ T ≠ i2 ∧ T ≠ TO) →
      (∀ c o, c ≠ z → c ≠ TO → c ≠ i1 → c ≠ i2 → s.heap.get? c = some o → h'.get? c = some o) → ∃ T u v h2 tk2, some (Value.ref s.heap.objs.size) = some (.ref T) ∧ ({ s with heap := h', toks := tk } : Shared) = { s with heap := h2, toks := tk2 } ∧ Inv X pins σ (upd H T (.tup [u, v])) { s with heap := h', toks := tk } ∧ H T = none ∧ xs[i]? = some u ∧ ys[i]? = some v ∧ ZH k j x y z TI TO i1 i2 (i + 1) h2 ∧ (∀ b ∈ [z, TI, TO, i1, i2], FpOk X pins (upd H T (.tup [u, v])) b) ∧ ∀ b o, b ∉ [z, TI, TO, i1, i2] → s.heap.get? b = some o → h2.get? b = some o := by
    intro u v h' tk hu hv t1 t2 pI' pT dz' kp
    obtain ⟨a, ha, ra⟩ := pv1 i u hu
    obtain ⟨b, hb, rb⟩ := pv2 i v hv
    have new : ObjOk X.prog X.w (upd H s.heap.objs.size (.tup [a, b])) h' s.heap.objs.size (.tup [a, b]) := ⟨by show 2 ≤ sizeLine; decide, [u, v], .cons ra (.cons rb .nil), ⟨_, pT, rfl, _, rfl⟩⟩
    have I1 : Inv X pins σ (upd H s.heap.objs.size (.tup [a, b])) { s with heap := h', toks := tk } := I.turnedNew (ch := [z, TI, TO, i1, i2]) (fun b ob hb q => kp b ob (fun e => hb (by simp [e])) (fun e => hb (by simp [e])) (fun e => hb (by simp [e])) (fun e => hb (by simp [e])) q) f (Nat.le_refl _) new
    refine ⟨s.heap.objs.size, a, b, h', tk, rfl, rfl, I1, I.hok.fresh (Nat.le_refl _), ha, hb, ⟨pI', back1 _ _ t1, back2 _ _ t2, .inr dz'⟩, fun c hc => ?_, fun c o hc e => kp c o (fun q => hc (by simp [q])) (fun q => hc (by simp [q])) (fun q => hc (by simp [q])) (fun q => hc (by simp [q])) e⟩
    have hlt : c < s.heap.objs.size := by
      have e' : c = z ∨ c = TI ∨ c = TO ∨ c = i1 ∨ c = i2 := by simpa using hc
      rcases e' with q | q | q | q | q
      · rw [q]; rcases dz with ⟨hz, _⟩ | ⟨_, T, f, oT, hz, _⟩ <;> exact Heap.lt_size hz
      · rw [q]; exact Heap.lt_size pI
      · rw [q]; rcases dz with ⟨_, a1, a2, hO⟩ | ⟨⟨oO, hO, _⟩, _⟩ <;> exact Heap.lt_size hO
      · rw [q]; obtain ⟨o, ho, _⟩ := si1.ob; exact Heap.lt_size ho
      · rw [q]; obtain ⟨o, ho, _⟩ := si2.ob; exact Heap.lt_size ho
    exact ⟨by rw [upd_ne (Nat.ne_of_lt hlt)]; exact (f c hc).1, (f c hc).2⟩
  have nz : s.heap.objs.size ≠ z ∧ s.heap.objs.size ≠ i1 ∧ s.heap.objs.size ≠ i2 ∧ s.heap.objs.size ≠ TO := by
    refine ⟨?_, ?_, ?_, ?_⟩
    · rcases dz with ⟨hz, _⟩ | ⟨_, T, f, oT, hz, _⟩ <;> exact Nat.ne_of_gt (Heap.lt_size hz)
    · obtain ⟨o, ho, _⟩ := si1.ob; exact Nat.ne_of_gt (Heap.lt_size ho)
    · obtain ⟨o, ho, _⟩ := si2.ob; exact Nat.ne_of_gt (Heap.lt_size ho)
    · rcases dz with ⟨_, a1, a2, hO⟩ | ⟨⟨oO, hO, _⟩, _⟩ <;> exact Nat.ne_of_gt (Heap.lt_size hO)
  rcases dz with ⟨hz, a1, a2, hO⟩ | ⟨⟨oO, hO, hOc⟩, T, fb, oT, hz, hT, n1, n2, n3, n4⟩
  · refine wpAny_pyNext_zipD2_item Z D1 D2 hz pI hO st1 st2 l1 l2 fun u v h' tk hu hv b1 b2 d1 d2 b5 b6 kp => ?_
    refine fin u v h' tk hu hv d1 d2 (kp _ _ Z.TIz Z.TITO Z.TIi1 Z.TIi2 pI) b5 ⟨⟨_, b2, fun v q => nomatch q⟩, s.heap.objs.size, false, _, b1, b5, nz.1, nz.2.1, nz.2.2.1, nz.2.2.2⟩ kp
  · have ty : s.TypeIs (.ref z) "zip" := ⟨_, hz, rfl⟩
    unfold pyNext
    apply wpAny_bind; apply wpAny_attempt
    apply wpAny_callSpecial?_slot (name := Str.ofString "__next__") ty F.slot_zip_next
    refine wpAny_call_entry F.slot_zip_next ty F.entry_zip_next (zh_item Z D1 D2 hz hT pI st1 st2 l1 l2 fun u v h' tk hu hv b1 d1 d2 b5 b6 kp => wpAny_pure ?_) (F.args_zip_next_1 _)
    exact fin u v h' tk hu hv d1 d2 (kp _ _ Z.TIz Z.TIi1 Z.TIi2 pI) b5 ⟨⟨oO, kp _ _ Z.TOz Z.Ti1 Z.Ti2 hO, hOc⟩, T, true, oT, b1, kp _ _ n1 n2 n3 hT, n1, n2, n3, n4⟩ fun c o c1 _ c3 c4 e => kp c o c1 c3 c4 e
theorem zh_stop {E : Value → Shared → Prop} {Q : Option Value → Shared → Prop} (hh : A.handled = none) (I : Inv X pins σ H s) (nd : [z, TI, TO, i1, i2].Nodup) (f : ∀ b ∈ [z, TI, TO, i1, i2], FpOk X pins H b) (src : SrcV X.K H k x xs) (src2 : SrcV X.K H j y ys) (st : ZH k j x y z TI TO i1 i2 i s.heap) (e : i = min xs.length ys.length)
    (q : ∀ h' tk, Inv X pins σ H { s with heap := h', toks := tk } → (∀ b o, b ∉ [z, TI, TO, i1, i2] → s.heap.get? b = some o → h'.get? b = some o) → Q none { s with heap := h', toks := tk }) :
    wpAny (model X.prog X.w) A (pyNext (.ref z)) Q E s := by
  have hh1 : A.in1.handled = none := hh
  obtain ⟨pI, si1, si2, dz⟩ := st
  obtain ⟨fp, P1, S1, D1, st1, m1, h1, back1, pv1⟩ := (drawn I (A := A.in1) hh1 src (f i1 (by simp)) si1).ex
  obtain ⟨fp2, P2, S2, D2, st2, m2, h2, back2, pv2⟩ := (drawn I (A := A.in1) hh1 src2 (f i2 (by simp)) si2).ex
  have Z := zsep nd f m1 h1 m2 h2
  have fin : ∀ (h' : Heap) (tk : Nat), (∀ c o, c ≠ z → c ≠ TO → c ≠ i1 → c ≠ i2 → s.heap.get? c = some o → h'.get? c = some o) → Q none { s with heap := h', toks := tk } := fun h' tk kp =>
    have kp' : ∀ b o, b ∉ [z, TI, TO, i1, i2] → s.heap.get? b = some o → h'.get? b = some o := fun b o hb e => kp b o (fun q => hb (by simp [q])) (fun q => hb (by simp [q])) (fun q => hb (by simp [q])) (fun q => hb (by simp [q])) e
    q h' tk (I.turnedL (ch := [z, TI, TO, i1, i2]) kp' f) kp'
  have e1 : i ≤ xs.length := by omega
  have e2 : i ≤ ys.length := by omega
  have e3 : i = xs.length ∨ i = ys.length := by omega
  rcases dz with ⟨hz, a1, a2, hO⟩ | ⟨⟨oO, hO, hOc⟩, T, fb, oT, hz, hT, n1, n2, n3, n4⟩
  · exact wpAny_pyNext_zipD2_end Z D1 D2 hz pI hO st1 st2 e1 e2 e3 fun h' tk kp => fin h' tk kp
  · have ty : s.TypeIs (.ref z) "zip" := ⟨_, hz, rfl⟩
    unfold pyNext
    apply wpAny_bind; apply wpAny_attempt
    apply wpAny_callSpecial?_slot (name := Str.ofString "__next__") ty F.slot_zip_next
    refine wpAny_call_entry F.slot_zip_next ty F.entry_zip_next (zh_end Z D1 D2 hz hT pI st1 st2 e1 e2 e3 fun h' tk e kp he => ?_) (F.args_zip_next_1 _)
    obtain ⟨oe, ge, ce⟩ := he
    refine wpAny_bind (wpAny_isInstance (T := "StopIteration") (b := true) ⟨oe, ge, ce⟩ isSubtype_stop ?_)
    exact wpAny_pure (fin h' tk fun c o c1 _ c3 c4 e => kp c o c1 c3 c4 e)
end
end ML

set_option maxHeartbeats 1000000
namespace ML
open PySem PySem.Spec PyProof.Rows L2
theorem no_len_zip : typeLookup (.type "zip") "__len__" = pure none := by rw [typeLookup_type, builtinLookup_eq_fast]; kernel_rfl
theorem no_hint_zip : typeLookup (.type "zip") "__length_hint__" = pure none := by rw [typeLookup_type, builtinLookup_eq_fast]; kernel_rfl
theorem SrcV.keep {K : PySem.W.Frag} {H H' : Hp} {k : Nat} {x : V} {xs : List V} (e : ∀ a o, H a = some o → H' a = some o) (h : SrcV K H k x xs) : SrcV K H' k x xs := by
  match k, h with
  | 0, ⟨a, ea, sq⟩ => exact ⟨a, ea, by
    rcases sq with (h | ⟨o, h⟩) | h
    · exact .inl (.inl (e _ _ h))
    · exact .inl (.inr ⟨o, e _ _ h⟩)
    · exact .inr h⟩
  | 1, ⟨a, ea, sq⟩ => exact ⟨a, ea, by
    rcases sq with (h | ⟨o, h⟩) | h
    · exact .inl (.inl (e _ _ h))
    · exact .inl (.inr ⟨o, e _ _ h⟩)
    · exact .inr h⟩
  | _ + 2, h => exact h
theorem Vals.one' (T : Addr) : Vals [V.ref T] [Value.ref T] := .cons (show RelV (V.ref T) (Value.ref T) from rfl) .nil
/-- the pairs of xs and ys, as far as i -/
structure Prs (H0 H : Hp) (S : Addr) (xs ys l : List V) (i : Nat) : Prop where
  len : l.length = i
  at_ : H S = some (.lst l)
  keep : ∀ a o, H0 a = some o → H a = some o
  prs : ∀ m, m < i → ∃ T u v, l[m]? = some (.ref T) ∧ H T = some (.tup [u, v]) ∧ H0 T = none ∧ T ≠ S ∧ xs[m]? = some u ∧ ys[m]? = some v
section
variable {X : Cx} {pins : List (Addr × Obj)} {σ : L2.St} {k j : Nat} {x y : V} {xs ys : List V} {z TI TO i1 i2 S : Addr} {A : Around} {H0 : Hp}
theorem zip_loop {R : Result → Shared → Prop} {res : Value} (hh : A.handled = none) (nd : [z, TI, TO, i1, i2].Nodup) (hS0 : H0 S = none) (nS : S ∉ [z, TI, TO, i1, i2]) (src : SrcV X.K H0 k x xs) (src2 : SrcV X.K H0 j y ys) (hz : min xs.length ys.length ≤ sizeLine)
    (hR : ∀ (H : Hp) (s : Shared) (l : List V), Inv X pins σ H s → Prs H0 H S xs ys l (min xs.length ys.length) → R (.ok (.ret res)) s) :
    ∀ (n i : Nat) (H : Hp) (s : Shared) (l : List V), min xs.length ys.length - i = n → i ≤ min xs.length ys.length → Inv X pins σ H s → (∀ b ∈ [z, TI, TO, i1, i2], FpOk X pins H b) → ZH k j x y z TI TO i1 i2 i s.heap → Prs H0 H S xs ys l i →
      codeAny (model X.prog X.w) A (.builtin "list.extend.loop" ⟨[.ref S, .ref z, res], []⟩) R s := by
  intro n
  induction n with
  | zero =>
    intro i H s l e1 e2 I f st pr
    have e : i = min xs.length ys.length := by omega
    refine codeAny_builtin F.entry_extend_loop ?_
    rw [Around.under_plainId F.plain_extend_loop (_ : Args)]
    show wpAny (model X.prog X.w) A.in1 (pyNext (.ref z) >>= _) _ _ s
    apply wpAny_bind
    refine zh_stop (A := A.in1) hh I nd f (src.keep pr.keep) (src2.keep pr.keep) st e fun h' tk I' kp => wpAny_pure (hR H _ l I' (e ▸ pr))
  | succ n ih =>
    intro i H s l e1 e2 I f st pr
    have lt : i < min xs.length ys.length := by omega
    have l1 : i < xs.length := by omega
    have l2 : i < ys.length := by omega
    refine codeAny_builtin F.entry_extend_loop ?_
    rw [Around.under_plainId F.plain_extend_loop (_ : Args)]
    show wpAny (model X.prog X.w) A.in1 (pyNext (.ref z) >>= _) _ _ s
    apply wpAny_bind
    refine thn (zh_next (A := A.in1) hh I nd f (src.keep pr.keep) (src2.keep pr.keep) st l1 l2) fun r s1 ⟨T, u, v, h', tk, er, es, I1, nT, hu, hv, st1, f1, kp⟩ => ?_
    subst er
    have TS : T ≠ S := fun e => by rw [e, pr.at_] at nT; cases nT
    have hS1 : (upd H T (.tup [u, v])) S = some (.lst l) := by rw [upd_ne (Ne.symm TS)]; exact pr.at_
    obtain ⟨z0, its, c, ri, hl, eS⟩ := I1.lstM hS1
    have hl' : its.length = i := by rw [← hl]; exact pr.len
    show wpAny (model X.prog X.w) A.in1 (updateSeq S (·.push (.ref T)) >>= _) _ _ s1
    apply wpAny_bind
    refine wpAny_updateSeq eS rfl (wpAny_pure ⟨plainId_quiet F.plain_extend_loop _, ?_⟩) (by rw [List.size_toArray]; omega) (by show (its.toArray.push (.ref T)).size ≤ sizeLine + 1; rw [Array.size_push, List.size_toArray]; omega)
    have gS := Heap.get?_update_self (Obj.mapSeq (·.push (Value.ref T))) eS rfl
    have oth : ∀ b o, b ≠ S → s1.heap.get? b = some o → (s1.heap.update S (Obj.mapSeq (·.push (Value.ref T)))).get? b = some o := fun b o hb e => (Heap.get?_update_other _ _ (Ne.symm hb)).trans e
    have I2 : Inv X pins σ (upd (upd H T (.tup [u, v])) S (.lst (l ++ [.ref T]))) { s1 with heap := s1.heap.update S (Obj.mapSeq (·.push (Value.ref T))) } := by
      refine I1.write (t' := s1.toks) (by rw [hS1]; trivial) (.inl rfl) oth ⟨_, gS⟩ ⟨by rw [List.length_append, pr.len]; show i + 1 ≤ sizeLine; omega, its ++ [Value.ref T], c + 1, ri.append (Vals.one' T), ?_⟩
      rw [gS]
      simp [Obj.mapSeq]
    have f2 : ∀ b ∈ [z, TI, TO, i1, i2], FpOk X pins (upd (upd H T (.tup [u, v])) S (.lst (l ++ [.ref T]))) b := fun b hb => by
      have nb : b ≠ S := fun e => nS (e ▸ hb)
      exact ⟨by rw [upd_ne nb]; exact (f1 b hb).1, (f1 b hb).2⟩
    refine ih (i + 1) _ _ (l ++ [.ref T]) (by omega) lt I2 f2 ?_ ⟨by rw [List.length_append, pr.len]; rfl, upd_same, fun a o e => ?_, fun m hm => ?_⟩
    · rw [es] at oth ⊢
      refine st1.at (fun b o e hc => ?_) (fun b o e => ?_) fun b hb o e => oth b o (fun q => nS (q ▸ hb)) e
      · by_cases q : b = S
        · subst q
          rw [es] at eS
          rw [e] at eS; cases eS
          obtain ⟨y, hy, ny⟩ := hc
          cases hy
          exact absurd rfl ny
        · exact oth b o q e
      · by_cases q : b = S
        · subst q
          rw [es] at gS
          exact ⟨_, gS⟩
        · exact ⟨o, oth b o q e⟩
    · have na : a ≠ S := fun q => by rw [q, hS0] at e; cases e
      have e' := pr.keep a o e
      rw [upd_ne na, upd_ne (ne_of_none e' nT)]
      exact e'
    · by_cases q : m < i
      · obtain ⟨T', u', v', q1, q2, q3, q4, q5⟩ := pr.prs m q
        refine ⟨T', u', v', by rw [List.getElem?_append_left (by rw [pr.len]; exact q)]; exact q1, ?_, q3, q4, q5⟩
        rw [upd_ne q4, upd_ne (ne_of_none q2 nT)]
        exact q2
      · have e : m = i := by omega
        subst e
        refine ⟨T, u, v, by rw [List.getElem?_append_right (by rw [pr.len]; exact Nat.le_refl _), pr.len]; simp, by rw [upd_ne TS, upd_same], ?_, TS, hu, hv⟩
        cases q : H0 T with
        | none => rfl
        | some o => rw [pr.keep T o q] at nT; cases nT
/-- list(z) of a zip just made -/
theorem call_list_zip {Q : VK} {s : Shared} {E : Value → Shared → Prop} (hh : A.handled = none) (I : Inv X pins σ H0 s) (nd : [z, TI, TO, i1, i2].Nodup) (f : ∀ b ∈ [z, TI, TO, i1, i2], FpOk X pins H0 b) (lt : ∀ b ∈ [z, TI, TO, i1, i2], b < s.heap.objs.size) (src : SrcV X.K H0 k x xs) (src2 : SrcV X.K H0 j y ys) (pI : IsTupOf2 s.heap TI (.ref i1) (.ref i2)) (si1 : SrcIt k x i1 0 s.heap) (si2 : SrcIt j y i2 0 s.heap) (hzz : IsZip s.heap z TI TO .none) {a1 a2 : Value} (hO : IsTupOf2 s.heap TO a1 a2) (hz : min xs.length ys.length ≤ sizeLine)
    (q : ∀ (H : Hp) (l : List V), Prs H0 H s.heap.objs.size xs ys l (min xs.length ys.length) → Q (.ref s.heap.objs.size) H) : wpAny (model X.prog X.w) A (call (.type "list") [.ref z]) (EP X pins σ Q) E s := by
  have nS : s.heap.objs.size ∉ [z, TI, TO, i1, i2] := fun h => Nat.lt_irrefl _ (lt _ h)
  have st : ZH k j x y z TI TO i1 i2 0 s.heap := ⟨pI, si1, si2, .inl ⟨hzz, a1, a2, hO⟩⟩
  have hS0 : H0 s.heap.objs.size = none := I.hok.fresh (Nat.le_refl _)
  have hSz : s.heap.objs.size ≠ z := fun e => nS (by rw [e]; simp)
  refine callType_codes (Q₁ := fun obj s₁ => obj = .ref s.heap.objs.size ∧ s₁ = { s with heap := s.heap.push { cls := .type "list", data := .seq #[] } }) F.called_list (F.typeCall_list_1 (.ref z)) F.entry_list_init (code_list_new (.ref z) ⟨rfl, rfl⟩) fun obj s₁ hx => ?_
  obtain ⟨e1, e2⟩ := hx
  subst e1; subst e2
  have g0 : (s.heap.push { cls := .type "list", data := .seq #[] }).get? s.heap.objs.size = some { cls := .type "list", data := .seq #[] } := Heap.get?_push_size s.heap rfl
  refine ⟨⟨_, g0, rfl⟩, F.args_list_init_2 _ _, ?_⟩
  generalize hR : (wants (fun r s₂ => r = Value.none ∧ EP X pins σ Q (.ref s.heap.objs.size) s₂) E) = R
  show wpAny (model X.prog X.w) A.in1.in1 (do let old ← Builtin.List.listItems (.ref s.heap.objs.size); Builtin.List.listUpdate (.ref s.heap.objs.size) (fun _ => #[]); letGo old.toList.reverse; Builtin.List.listExtendWith (.ref s.heap.objs.size) (.ref z) .none) _ _ _
  apply wpAny_bind
  unfold Builtin.List.listItems
  apply wpAny_bind; apply wpAny_seqItems g0 rfl; apply wpAny_pure
  show wpAny (model X.prog X.w) A.in1.in1 (updateSeq s.heap.objs.size (fun _ => #[]) >>= fun _ => letGo (#[] : Array Value).toList.reverse >>= fun _ => Builtin.List.listExtendWith (.ref s.heap.objs.size) (.ref z) .none) _ _ _
  apply wpAny_bind
  refine wpAny_updateSeq g0 rfl ?_
  have g1 := Heap.get?_update_self (Obj.mapSeq (fun _ => (#[] : Array Value))) g0 rfl
  apply wpAny_bind; apply wpAny_letGo
  unfold Builtin.List.listExtendWith
  have k1 : ∀ b o, s.heap.get? b = some o → ((s.heap.push { cls := .type "list", data := .seq #[] }).update s.heap.objs.size (Obj.mapSeq (fun _ => (#[] : Array Value)))).get? b = some o := fun b o e =>
    (Heap.get?_update_other _ _ (Nat.ne_of_gt (Heap.lt_size e))).trans (Heap.get?_push_of_some _ e)
  obtain ⟨oz, hoz, hcz⟩ := st.typ
  have tz : ∀ h', (h'.get? z = some oz) → ({ s with heap := h' } : Shared).TypeIs (.ref z) "zip" := fun h' e => ⟨oz, e, hcz⟩
  apply wpAny_bind; refine wpAny_typeOf (tz _ (k1 _ _ hoz)) ?_
  have q1 : Builtin.List.listSameRef (.ref s.heap.objs.size) (.ref z) = false := by simp [Builtin.List.listSameRef, hSz]
  have q2 : (Value.type "zip" == Value.type "list") = false := by decide
  have q3 : (Value.type "zip" == Value.type "tuple") = false := by decide
  simp only [q1, q2, q3, Bool.or_false, Bool.false_eq_true, if_false]
  apply wpAny_bind
  refine wpAny_pyIter_zip (k1 _ _ hzz) ?_
  apply wpAny_bind; apply wpAny_holding
  unfold Builtin.List.listLengthHint
  apply wpAny_bind; refine wpAny_specialOf (tz _ (k1 _ _ hoz)) no_len_zip ?_
  show wpAny (model X.prog X.w) A.in1.in1 (specialOf (Value.ref z) (Str.ofString "__length_hint__") >>= _) _ _ _
  apply wpAny_bind; refine wpAny_specialOf (tz _ (k1 _ _ hoz)) no_hint_zip ?_
  apply wpAny_pure
  show wpAny (model X.prog X.w) A.in1.in1 (rule "list.extend.makes-room" >>= fun _ => Builtin.List.listTouch (.ref s.heap.objs.size) >>= fun _ => again (.builtin "list.extend.loop" ⟨[.ref s.heap.objs.size, .ref z, .none], []⟩)) _ _ _
  apply wpAny_bind; apply wpAny_rule
  apply wpAny_bind
  show wpAny (model X.prog X.w) A.in1.in1 (updateSeq s.heap.objs.size (·.push .none) >>= fun _ => updateSeq s.heap.objs.size (·.pop)) _ _ _
  apply wpAny_bind; refine wpAny_updateSeq g1 rfl ?_
  have g2 := Heap.get?_update_self (Obj.mapSeq (·.push Value.none)) g1 rfl
  refine wpAny_updateSeq (hz := by seq_fits) g2 rfl ?_
  have g3 := Heap.get?_update_self (Obj.mapSeq (·.pop)) g2 rfl
  refine wpAny_pure ⟨plainId_quiet F.plain_extend_loop _, ?_⟩
  have k3 : ∀ b o, s.heap.get? b = some o → ((((s.heap.push { cls := .type "list", data := .seq #[] }).update s.heap.objs.size (Obj.mapSeq (fun _ => (#[] : Array Value)))).update s.heap.objs.size (Obj.mapSeq (·.push Value.none))).update s.heap.objs.size (Obj.mapSeq (·.pop))).get? b = some o := fun b o e =>
    (Heap.get?_update_other _ _ (Nat.ne_of_gt (Heap.lt_size e))).trans ((Heap.get?_update_other _ _ (Nat.ne_of_gt (Heap.lt_size e))).trans (k1 b o e))
  have I1 : Inv X pins σ (upd H0 s.heap.objs.size (.lst [])) { s with heap := _ } := I.laid (t' := s.toks) k3 (Nat.le_refl _) ⟨Nat.zero_le _, [], _, .nil, g3⟩
  refine zip_loop (A := A.in1) hh nd hS0 nS src src2 hz (fun H s' l I' pr => ?_) _ 0 _ _ [] rfl (Nat.zero_le _) I1 (fun b hb => have nb : b ≠ s.heap.objs.size := fun e => nS (by rw [← e]; exact hb); ⟨by rw [upd_ne nb]; exact (f b hb).1, (f b hb).2⟩) (st.at (fun b o e _ => k3 b o e) (fun b o e => ⟨o, k3 b o e⟩) fun b _ o e => k3 b o e)
    ⟨rfl, upd_same, fun a o e => by rw [upd_ne (ne_of_none e hS0)]; exact e, fun m hm => absurd hm (Nat.not_lt_zero m)⟩
  rw [← hR]
  exact ⟨rfl, .ref s.heap.objs.size, H, I', rfl, q H l pr⟩
end
/-- list(zip(a, b)) -/
def mLzip (ms : ME (List D)) : ME D := fun ρ => bnd (ms ρ) fun ds => match ds with
  | [d, e] => bnd (srcD d) fun s => bnd (srcD e) fun t => if min s.items.length t.items.length ≤ sizeLine then newL (List.zipWith (fun a b => .tup [a, b]) s.items t.items) else bad
  | _ => bad
section
variable {X : Cx} {G : Wd} {W : WX} {e e2 : Expr} {ms : ME (List D)} {p p2 pos pos2 : Pos}
theorem prs_dvs {ι ι' : List Addr} {H0 H : Hp} {S : Addr} {xs ys : List V} {l : List V} {n : Nat} {ds es : List D} (pr : Prs H0 H S xs ys l n) (g : GrowE ι H0 ι' H) (hn : n = min ds.length es.length) (hx : DVs G ι H0 ds xs) (hy : DVs G ι H0 es ys) : DVs G ι' H (List.zipWith (fun a b => .tup [a, b]) ds es) l := by
  have key : ∀ (ms : List D) (zs : List V), ms.length = zs.length → (∀ (i : Nat) (d : D), ms[i]? = some d → ∃ v : V, zs[i]? = some v ∧ DV G ι' H d v) → DVs G ι' H ms zs := by
    intro ms
    induction ms with
    | nil => intro zs hl _; cases zs with
      | nil => rfl
      | cons _ _ => cases hl
    | cons m ms ih => intro zs hl h; cases zs with
      | nil => cases hl
      | cons z zs =>
        obtain ⟨v, e1, e2⟩ := h 0 m rfl
        cases e1
        exact ⟨z, zs, rfl, e2, ih zs (by simpa using hl) fun i d hd => h (i + 1) d hd⟩
  refine key _ l (by rw [List.length_zipWith, pr.len, hn]) fun i d hd => ?_
  rw [List.getElem?_zipWith] at hd
  cases h1 : ds[i]? with
  | none => rw [h1] at hd; cases hd
  | some a =>
    cases h2 : es[i]? with
    | none => rw [h1, h2] at hd; cases hd
    | some b =>
      rw [h1, h2] at hd
      obtain rfl : D.tup [a, b] = d := Option.some.inj hd
      have i1 := (List.getElem?_eq_some_iff.mp h1).1
      have i2 := (List.getElem?_eq_some_iff.mp h2).1
      obtain ⟨T, u, v, e1, e2, e3, e4, e5, e6⟩ := pr.prs i (by omega)
      obtain ⟨u', q1, q2⟩ := hx.get h1
      obtain ⟨v', q3, q4⟩ := hy.get h2
      rw [e5] at q1; cases q1
      rw [e6] at q3; cases q3
      exact ⟨.ref T, e1, T, [u, v], rfl, .inl e2, u, [v], rfl, DV.growE g q2, v, [], rfl, DV.growE g q4, rfl⟩
theorem SE.lzip (hK : X.K = G.K) (hc : X.calm = true) (hg : Gl X "list") (hm : X.mg "list" = none) (hg2 : Gl X "zip") (hm2 : X.mg "zip" = none) (ha : SA X G W [e, e2] ms) (hs : starEach [e, e2] X.env = [(false, eval e X.env), (false, eval e2 X.env)]) (hs2 : starEach [e2] X.env = [(false, eval e2 X.env)])
    (hs3 : starEach [.Call (.Name "zip" p) [e, e2] [] pos] X.env = (false, eval (.Call (.Name "zip" p) [e, e2] [] pos) X.env) :: starEach [] X.env) : SE X G W (.Call (.Name "list" p2) [.Call (.Name "zip" p) [e, e2] [] pos] [] pos2) (mLzip ms) := fun ι S H σ ρ Q r en o pins s I => by
  refine Call_ (ld_blt I hg hm boot_list (PyProof.Rows.callWith_type1 (args_cons ?_ hs3) hs3))
  refine Call_ (ld_blt I hg2 hm2 boot_zip (PyProof.Rows.callWith_type1 ?_ (by rw [hs, hs2]) (by rw [hs2]; rfl)))
  have P := ha ι S H σ ρ (fun vs H1 => ∃ x y k j xs ys ι1 S1 ds es, vs = [x, y] ∧ SrcV X.K H1 k x xs ∧ SrcV X.K H1 j y ys ∧ DVs G ι1 H1 ds xs ∧ DVs G ι1 H1 es ys ∧ Rel G ι1 S1 H1 ∧ min ds.length es.length ≤ sizeLine ∧ Ok G ι1 H1 (newL (List.zipWith (fun a b => .tup [a, b]) ds es) S1) (PQ G Q) (PErr G W σ)) r en (o.bnd.imp (fun ι1 S1 H1 ds g1 r1 h1 xs hx => ?_) fun _ _ _ _ _ z => z)
  · refine thn (P pos pins s I) fun us s1 ⟨vs, H1, I1, r1, x, y, k, j, xs, ys, ι1, S1, ds, es, evs, sv, sv2, dx, dy, rr, hz, o1⟩ => ?_
    subst evs
    obtain ⟨u1, u2, rfl, rx, ry⟩ := vals2 r1
    obtain ⟨o1', Hb1, B1, hb1, nx1⟩ := src_begins I1 sv rx
    obtain ⟨o2', Hb2, B2, hb2, nx2⟩ := src_begins I1 sv2 ry
    refine zip_begins2 B1 B2 hb1 hb2 fun h' hz' hT hO g1 g2 hsz hk => ?_
    refine args_nil ?_
    have I2 : Inv X pins σ H1 { s1 with heap := h' } := I1.kept (t' := s1.toks) hk
    have ar : ∀ n : Nat, ([n + 4, n + 2, n + 3, n, n + 1] : List Nat).Nodup := fun n => by
      simp only [List.nodup_cons, List.mem_cons, List.not_mem_nil, or_false, not_or, not_false_eq_true, List.nodup_nil, and_true]
      omega
    have ar2 : ∀ n b : Nat, b ∈ ([n + 4, n + 2, n + 3, n, n + 1] : List Nat) → n ≤ b ∧ b < n + 5 := fun n b h => by
      simp only [List.mem_cons, List.not_mem_nil, or_false] at h
      omega
    refine call_list_zip (x := x) (y := y) (k := k) (j := j) (xs := xs) (ys := ys) (I2.ok.hd hc) I2 (ar s1.heap.objs.size) (fun b hb => ?_) (fun b hb => ?_) sv sv2 hT (nx1 _ _ g1) (nx2 _ _ g2) hz' hO (by rw [dx.length, dy.length]; exact hz) fun H' l pr => ?_
    · exact I1.fpOk (ar2 _ _ hb).1 (I1.hok.fresh (ar2 _ _ hb).1)
    · show b < h'.objs.size
      rw [hsz]; exact (ar2 _ _ hb).2
    · have hS0 : H1 h'.objs.size = none := I2.hok.fresh (Nat.le_refl _)
      have gE : GrowE ι1 H1 (ι1 ++ [h'.objs.size]) H' := ⟨⟨[_], rfl⟩, fun a u _ e => pr.keep a u e⟩
      have gr : Grow ι1 H1 (ι1 ++ [h'.objs.size]) H' := ⟨⟨[_], rfl, fun c hc => by rw [show c = h'.objs.size by simpa using hc]; exact hS0⟩, fun a u _ e => pr.keep a u e, fun a u e _ => pr.keep a u e, fun a u e => ⟨u, pr.keep a u e⟩⟩
      have rk : Rel G ι1 S1 H' := rr.keep (fun a u _ e => pr.keep a u e) fun a u e _ => pr.keep a u e
      have nin : h'.objs.size ∉ ι1 := rr.notIn hS0
      have dd := prs_dvs (ι := ι1) pr gE (by rw [dx.length, dy.length]) dx dy
      have rp := rk.pushE (c := .lst (List.zipWith (fun a b => .tup [a, b]) ds es)) nin ⟨l, pr.at_, dd⟩
      exact o1 (ι1 ++ [h'.objs.size]) H' gr rp (.ref h'.objs.size) ⟨h'.objs.size, by rw [List.getElem?_append_right (by rw [rk.len]; exact Nat.le_refl _), rk.len]; simp, rfl⟩
  · match ds, h1, hx with
    | [d, f], h1, hx =>
      obtain ⟨v, vs, rfl, hv, v2, vs2, rfl, hv2, rfl⟩ := hx
      obtain ⟨src, hs, h1⟩ := srcD_ok (show Ok G ι1 H1 (bnd (srcD d) (fun s => bnd (srcD f) fun t => if min s.items.length t.items.length ≤ sizeLine then newL (List.zipWith (fun a b => .tup [a, b]) s.items t.items) else ML.bad) S1) _ _ from h1)
      obtain ⟨src2, hs2, h1⟩ := srcD_ok (show Ok G ι1 H1 (bnd (srcD f) (fun t => if min src.items.length t.items.length ≤ sizeLine then newL (List.zipWith (fun a b => .tup [a, b]) src.items t.items) else ML.bad) S1) _ _ from h1)
      obtain ⟨_, gd, k, hk, al⟩ := src_of hK r1 hv hs
      obtain ⟨_, gd2, k2, hk2, al2⟩ := src_of hK r1 hv2 hs2
      obtain ⟨xs0, sv0, dv0⟩ := al _ _ _ (Grow.refl _ _) r1 gd
      obtain ⟨ys0, tv0, ev0⟩ := al2 _ _ _ (Grow.refl _ _) r1 gd2
      by_cases q : min src.items.length src2.items.length ≤ sizeLine
      · rw [if_pos q] at h1
        exact ⟨v, v2, k, k2, xs0, ys0, ι1, S1, src.items, src2.items, rfl, sv0, tv0, dv0, ev0, r1, q, h1⟩
      · rw [if_neg q] at h1; exact h1.elim
end
end ML

set_option maxHeartbeats 1000000
namespace ML
open PySem PySem.Spec PyProof.Rows L2
/-! ### constants, names of the module -/
section
variable {X : Cx} {G : Wd} {W : WX} {pos p apos cpos : Pos} {e : Expr} {es : List Expr} {ma mo : ME D} {ms : ME (List D)}
theorem SE.int {i : Int} {j : Nat} : SE X G W (.Constant (.int i) j pos) (fun _ => ret (.int i)) := SE.con fun _ H => ⟨.int i, rfl, fun σ Q h => PEw pe_int h⟩
theorem SE.bl {b : Bool} {j : Nat} : SE X G W (.Constant (.bool b) j pos) (fun _ => ret (.bl b)) := SE.con fun _ H => ⟨.bl b, rfl, fun σ Q h => PEw pe_bl h⟩
theorem SE.non {j : Nat} : SE X G W (.Constant .none j pos) (fun _ => ret .non) := SE.con fun _ H => ⟨.non, rfl, fun σ Q h => PEw pe_non h⟩
theorem SE.str {x : Str} {j : Nat} : SE X G W (.Constant (.str x) j pos) (fun _ => ret (.str x)) := SE.con fun _ H => ⟨.str x, rfl, fun σ Q h => PEw pe_str h⟩
/-- a name of the module that stands for a value -/
structure Gv (mg : Str → Option Value) (G : Wd) (x : Str) (d : D) : Prop where
  ex : ∃ v u, mg x = some u ∧ RelV v u ∧ ∀ ι H, DV G ι H d v
theorem SE.glob {x : Str} {d : D} (g : Gv X.mg G x d) (hg : Gl X x) (hd : (x == ("__debug__" : Str)) = false) : SE X G W (.Name x pos) (fun _ => ret d) := by
  obtain ⟨v, u, hm, r, hv⟩ := g.ex
  exact SE.con fun ι H => ⟨v, hv ι H, fun σ Q h => PEw (pe_glob hg hm r hd) h⟩
/-! ### methods of built-in types -/
inductive Rt where
  | l | s | d | t
def Rt.nm : Rt → String
  | .l => "list"
  | .s => "str"
  | .d => "dict"
  | .t => "set"
def isRt : Rt → D → M Unit
  | .s, .str _ => ret ()
  | .l, .obj n => fun S => match lsOf S n with
    | some _ => .ok () S
    | none => .bad
  | .d, .obj n => fun S => match S[n]? with
    | some (.dct _) => .ok () S
    | _ => .bad
  | .t, .obj n => fun S => match S[n]? with
    | some (.set _) => .ok () S
    | _ => .bad
  | _, _ => bad
theorem isRt_ty {ι : List Addr} {S : Sto} {H : Hp} {x : V} {d : D} {t : Rt} {β : Type} {k : M β} {P PE} (r : Rel G ι S H) (h : DV G ι H d x) (o : Ok G ι H (bnd (isRt t d) (fun _ => k) S) P PE) : tyV X.K t.nm x H ∧ Ok G ι H (k S) P PE := by
  cases t <;> cases d <;> first | exact o.elim | skip
  case l.obj n =>
    simp only [bnd, isRt] at o
    cases q : lsOf S n with
    | none => rw [q] at o; exact o.elim
    | some ds =>
      rw [q] at o
      obtain ⟨a, xs, rfl, e2, e3⟩ := r.ls h q
      exact ⟨.inl ⟨rfl, xs, .inl e2⟩, o⟩
  case s.str z =>
    obtain rfl : x = .str z := h
    exact ⟨rfl, o⟩
  case d.obj n =>
    simp only [bnd, isRt] at o
    cases q : S[n]? with
    | none => rw [q] at o; exact o.elim
    | some c =>
      rw [q] at o
      cases c <;> first | exact o.elim | skip
      obtain ⟨a, _, rfl, vs, e2, e3⟩ := r.obj h q
      exact ⟨.inr (.inr (.inl ⟨rfl, .inl ⟨vs, e2⟩⟩)), o⟩
  case t.obj n =>
    simp only [bnd, isRt] at o
    cases q : S[n]? with
    | none => rw [q] at o; exact o.elim
    | some c =>
      rw [q] at o
      cases c <;> first | exact o.elim | skip
      obtain ⟨a, _, rfl, f, e2, e3⟩ := r.obj h q
      exact ⟨.inr (.inr (.inr ⟨rfl, f, _, e2⟩)), o⟩
def mBm (t : Rt) (g : D → List D → M D) (mo : ME D) (ms : ME (List D)) : ME D := fun ρ => bnd (mo ρ) fun o => bnd (isRt t o) fun _ => bnd (ms ρ) fun xs => g o xs
def mBm0 (t : Rt) (g : D → List D → M D) (mo : ME D) : ME D := fun ρ => bnd (mo ρ) fun o => bnd (isRt t o) fun _ => g o []
theorem SE.bm0 {t : Rt} {name : Str} {id : String} {g : D → List D → M D} (pa : PlainAttrs t.nm) (slot : Slot t.nm name id) (hty : typeOf (.builtin id) = pure (.type "method_descriptor")) (hm : MtD X G id g) (ho : SE X G W e mo)
    (hbase : attributeBase e name X.env (eval e X.env) = eval e X.env) (hline : (apos.endLine == cpos.line) = true) : SE X G W (.Call (.Attribute e name apos) [] [] cpos) (mBm0 t g mo) := fun ι S H σ ρ Q r en o => by
  refine PEw (pe_bm0 pa slot hty pMt pE hbase hline) ?_
  refine ho ι S H σ ρ _ r en (o.bnd.imp (fun ι1 S1 H1 d g1 r1 h1 x hx => ?_) fun _ _ _ _ _ z => z)
  obtain ⟨ty, h2⟩ := isRt_ty (X := X) (k := g d []) r1 hx h1
  exact ⟨ty, hm ι1 S1 H1 x [] d [] Q _ r1 hx rfl h2⟩
theorem SE.bm {t : Rt} {name : Str} {id : String} {g : D → List D → M D} {a : Expr} (pa : PlainAttrs t.nm) (slot : Slot t.nm name id) (hty : typeOf (.builtin id) = pure (.type "method_descriptor")) (hm : MtD X G id g) (ho : SE X G W e mo) (ha : SA X G W (a :: es) ms)
    (hbase : attributeBase e name X.env (eval e X.env) = eval e X.env)
    (hfew : ((backTo cpos (starEach (a :: es) X.env)).all (fun x => !x.1) && (backToKw cpos (keywordEach [] X.env)).all (fun x => x.1.isSome) && decide ((a :: es).length + ([] : List Keyword).length + (if ([] : List Keyword).isEmpty then 0 else 1) < 30)) = true)
    (hline : (apos.endLine == cpos.line) = true) (hs1 : starEach (a :: es) X.env = (false, eval a X.env) :: starEach es X.env) (hs2 : (backTo cpos (starEach es X.env)).any (·.1) = false) :
    SE X G W (.Call (.Attribute e name apos) (a :: es) [] cpos) (mBm t g mo ms) := fun ι S H σ ρ Q r en o => by
  refine PEw (pe_bm pa slot hty pMt pE pA hbase hfew hline hs1 hs2) ?_
  refine ho ι S H σ ρ _ r en (o.bnd.imp (fun ι1 S1 H1 d g1 r1 h1 x hx => ?_) fun _ _ _ _ _ z => z)
  obtain ⟨ty, h2⟩ := isRt_ty (X := X) (k := bnd (ms ρ) fun xs => g d xs) r1 hx h1
  refine ⟨ty, ?_⟩
  refine ha ι1 S1 H1 σ ρ _ r1 (en.grow g1) (h2.bnd.imp (fun ι2 S2 H2 ds g2 r2 h2 xs hxs => ?_) fun _ _ _ _ _ z => z)
  exact hm ι2 S2 H2 x xs d ds Q _ r2 (hx.grow g2) hxs h2
end
/-- list.append -/
def gApp : D → List D → M D
  | .obj n, [d] => fun S => match S[n]? with
    | some (.lst ds) => if ds.length < sizeLine then .ok .non (S.set n (.lst (ds ++ [d]))) else .bad
    | _ => .bad
  | _, _ => bad
/-- list.extend of a list -/
def gExt : D → List D → M D
  | .obj n, [.obj m] => fun S => match S[n]?, S[m]? with
    | some (.lst ds), some (.lst es) => if ds.length + es.length ≤ sizeLine then .ok .non (S.set n (.lst (ds ++ es))) else .bad
    | _, _ => .bad
  | _, _ => bad
/-- dict.get -/
def gGet : D → List D → M D
  | .obj n, [k] => fun S => match S[n]?, keyD k with
    | some (.dct kvs), some k => .ok ((getK kvs k).getD .non) S
    | _, _ => .bad
  | .obj n, [k, x] => fun S => match S[n]?, keyD k with
    | some (.dct kvs), some k => .ok ((getK kvs k).getD x) S
    | _, _ => .bad
  | _, _ => bad
def putD (kvs : List (Key × D)) (k : Key) (v : D) : List (Key × D) := if (kvs.any fun kv => decide (kv.1 = k)) = true then kvs.map (fun kv => if kv.1 = k then (kv.1, v) else kv) else kvs ++ [(k, v)]
def mergeD (kvs more : List (Key × D)) : List (Key × D) := more.foldl (fun acc kv => putD acc kv.1 kv.2) kvs
def gUpd : D → List D → M D
  | .obj n, [.obj m] => fun S => match S[n]?, S[m]? with
    | some (.dct a), some (.dct b) => if n ≠ m ∧ a.length + b.length ≤ sizeLine then .ok .non (S.set n (.dct (mergeD a b))) else .bad
    | _, _ => .bad
  | _, _ => bad
section
variable {X : Cx} {G : Wd}
theorem updD {ι : List Addr} {S : Sto} {H : Hp} {n : Nat} {a : Addr} {o : HO} {c : Cell} {d : D} {Q : VK} {PE} (r : Rel G ι S H) (ha : ι[n]? = some a) {v : V} (hv : ∀ ι H, DV G ι H d v) {u : HO} (hu : H a = some u) (nt : fixd u = false) (hc : CellV G ι (upd H a o) a c) (ok : Ok G ι H (.ok d (S.set n c)) (PQ G Q) PE) : Q v (upd H a o) := by
  obtain ⟨r2, ex⟩ := r.upd ha hc
  exact ok ι _ (Grow.mut (List.mem_of_getElem? ha) hu nt) r2 v (hv _ _)
theorem mtD_append : MtD X G "list.append" gApp := fun ι S H x xs d ds Q PE r hx hxs o => by
  match d, ds, o, hx, hxs with
  | .obj n, [y], o, hx, hxs =>
    obtain ⟨v, rfl, hy⟩ := hxs.one_of
    have o : Ok G ι H (match S[n]? with | some (.lst ds) => (if ds.length < sizeLine then R.ok D.non (S.set n (.lst (ds ++ [y]))) else .bad) | _ => .bad) (PQ G Q) PE := o
    cases q : S[n]? with
    | none => rw [q] at o; exact o.elim
    | some c =>
      rw [q] at o
      cases c <;> first | exact o.elim | skip
      rename_i ds
      obtain ⟨a, ha, rfl, zs, e1, e2⟩ := r.obj hx q
      have o : Ok G ι H (if ds.length < sizeLine then R.ok D.non (S.set n (.lst (ds ++ [y]))) else .bad) (PQ G Q) PE := o
      by_cases z : ds.length < sizeLine
      · rw [if_pos z] at o
        refine MtRw mt_append ⟨a, zs, v, rfl, rfl, e1, by rw [e2.length]; exact z, ?_⟩
        have ex : Ext H (upd H a (.lst (zs ++ [v]))) := Ext.mut e1 rfl
        exact updD (d := .non) (c := .lst (ds ++ [y])) r ha (fun _ _ => rfl) e1 rfl ⟨_, upd_same, DVs.growE (GrowE.same ex) (e2.append (DVs.one hy))⟩ o
      · rw [if_neg z] at o; exact o.elim
theorem mtD_extend : MtD X G "list.extend" gExt := fun ι S H x xs d ds Q PE r hx hxs o => by
  match d, ds, o, hx, hxs with
  | .obj n, [.obj m], o, hx, hxs =>
    obtain ⟨v, rfl, hy⟩ := hxs.one_of
    have o : Ok G ι H (match S[n]?, S[m]? with | some (.lst ds), some (.lst es) => (if ds.length + es.length ≤ sizeLine then R.ok D.non (S.set n (.lst (ds ++ es))) else .bad) | _, _ => .bad) (PQ G Q) PE := o
    cases q : S[n]? with
    | none => rw [q] at o; exact o.elim
    | some c =>
      cases q2 : S[m]? with
      | none => rw [q, q2] at o; cases c <;> exact o.elim
      | some c2 =>
        rw [q, q2] at o
        cases c <;> cases c2 <;> first | exact o.elim | skip
        rename_i ds es
        obtain ⟨a, ha, rfl, zs, e1, e2⟩ := r.obj hx q
        obtain ⟨b, hb, rfl, ws, e3, e4⟩ := r.obj hy q2
        have o : Ok G ι H (if ds.length + es.length ≤ sizeLine then R.ok D.non (S.set n (.lst (ds ++ es))) else .bad) (PQ G Q) PE := o
        by_cases z : ds.length + es.length ≤ sizeLine
        · rw [if_pos z] at o
          refine MtRw mt_extend ⟨a, b, zs, ws, rfl, rfl, e1, e3, by rw [e2.length, e4.length]; exact z, ?_⟩
          have ex : Ext H (upd H a (.lst (zs ++ ws))) := Ext.mut e1 rfl
          exact updD (d := .non) (c := .lst (ds ++ es)) r ha (fun _ _ => rfl) e1 rfl ⟨_, upd_same, DVs.growE (GrowE.same ex) (e2.append e4)⟩ o
        · rw [if_neg z] at o; exact o.elim
theorem mtD_get (hu : X.A.units + 1 < cLine) : MtD X G "dict.get" gGet := fun ι S H x xs d ds Q PE r hx hxs o pins s σ v us I rx rus => by
  match d, ds, o, hx, hxs with
  | .obj n, [k], o, hx, hxs =>
    obtain ⟨y, rfl, hy⟩ := hxs.one_of
    have o : Ok G ι H (match S[n]?, keyD k with | some (.dct kvs), some k => R.ok ((getK kvs k).getD .non) S | _, _ => .bad) (PQ G Q) PE := o
    cases q : S[n]? with
    | none => rw [q] at o; exact o.elim
    | some c =>
      cases q2 : keyD k with
      | none => rw [q, q2] at o; cases c <;> exact o.elim
      | some key =>
        rw [q, q2] at o
        cases c <;> first | exact o.elim | skip
        rename_i kvs
        obtain ⟨a, ha, rfl, zs, e1, e2⟩ := r.obj hx q
        obtain rfl := keyD_dv hy q2
        obtain ⟨u, rfl, ru⟩ := vals1 rus
        obtain rfl : v = .ref a := rx
        have o : Ok G ι H (R.ok ((getK kvs key).getD .non) S) (PQ G Q) PE := o
        refine d_get1 (o := valV zs key) hu I (.inl ⟨zs, key, .inl e1, rfl, rfl⟩) ru fun w' s' I' rw' => ⟨_, H, I', rw', okD r o ?_⟩
        obtain ⟨h1, h2⟩ := getK_dv (k := key) e2
        cases g : getK kvs key with
        | none => rw [h1 g]; rfl
        | some d' => obtain ⟨u', e3, e4⟩ := h2 d' g; rw [e3]; exact e4
  | .obj n, [k, z], o, hx, hxs =>
    obtain ⟨y, rest, rfl, hy, w, r2, rfl, hz, rfl⟩ := hxs
    have o : Ok G ι H (match S[n]?, keyD k with | some (.dct kvs), some k => R.ok ((getK kvs k).getD z) S | _, _ => .bad) (PQ G Q) PE := o
    cases q : S[n]? with
    | none => rw [q] at o; exact o.elim
    | some c =>
      cases q2 : keyD k with
      | none => rw [q, q2] at o; cases c <;> exact o.elim
      | some key =>
        rw [q, q2] at o
        cases c <;> first | exact o.elim | skip
        rename_i kvs
        obtain ⟨a, ha, rfl, zs, e1, e2⟩ := r.obj hx q
        obtain rfl := keyD_dv hy q2
        obtain ⟨u, u2, rfl, ru, ru2⟩ := vals2 rus
        obtain rfl : v = .ref a := rx
        have o : Ok G ι H (R.ok ((getK kvs key).getD z) S) (PQ G Q) PE := o
        refine d_get2 (o := valV zs key) hu I (.inl ⟨zs, key, .inl e1, rfl, rfl⟩) ru ru2 fun w' s' I' rw' => ⟨_, H, I', rw', okD r o ?_⟩
        obtain ⟨h1, h2⟩ := getK_dv (k := key) e2
        cases g : getK kvs key with
        | none => rw [h1 g]; exact hz
        | some d' => obtain ⟨u', e3, e4⟩ := h2 d' g; rw [e3]; exact e4
theorem KDs.any {ι : List Addr} {H : Hp} {k : Key} : ∀ {kvs : List (Key × D)} {vs : List (Key × V)}, KDs G ι H kvs vs → (vs.any fun kv => decide (kv.1 = k)) = (kvs.any fun kv => decide (kv.1 = k))
  | [], vs, h => by rw [show vs = [] from h]; rfl
  | (k', d') :: r, vs, ⟨v, us, e, a, b⟩ => by subst e; rw [List.any_cons, List.any_cons, KDs.any b]
theorem KDs.append {ι : List Addr} {H : Hp} {κ : Type} : ∀ {kvs ls : List (κ × D)} {vs ws : List (κ × V)}, KDs G ι H kvs vs → KDs G ι H ls ws → KDs G ι H (kvs ++ ls) (vs ++ ws)
  | [], _, _, _, h, k => by rw [show _ = [] from h]; exact k
  | (_, _) :: _, _, _, _, ⟨v, vs, e, a, b⟩, k => by subst e; exact ⟨v, _, rfl, a, KDs.append b k⟩
theorem KDs.put {ι : List Addr} {H : Hp} {kvs : List (Key × D)} {vs : List (Key × V)} (h : KDs G ι H kvs vs) (k : Key) {d : D} {v : V} (hv : DV G ι H d v) : KDs G ι H (putD kvs k d) (putK vs k v) := by
  unfold putD putK
  rw [h.any]
  by_cases q : (kvs.any fun kv => decide (kv.1 = k)) = true
  · rw [if_pos q, if_pos q]
    clear q
    induction kvs generalizing vs with
    | nil => rw [show vs = [] from h]; rfl
    | cons p r ih =>
      obtain ⟨v', us, e, a, b⟩ := h
      subst e
      have := ih b
      by_cases z : p.1 = k
      · simp only [List.map_cons, z, if_true]
        exact ⟨v, _, rfl, hv, this⟩
      · simp only [List.map_cons, z, if_false]
        exact ⟨v', _, rfl, a, this⟩
  · rw [if_neg q, if_neg q]
    exact h.append ⟨v, [], rfl, hv, rfl⟩
theorem KDs.mergeD {ι : List Addr} {H : Hp} : ∀ {more : List (Key × D)} {ms : List (Key × V)} {kvs : List (Key × D)} {vs : List (Key × V)}, KDs G ι H more ms → KDs G ι H kvs vs → KDs G ι H (ML.mergeD kvs more) (mergeK vs ms)
  | [], _, _, _, h, k => by rw [show _ = [] from h]; exact k
  | (k', d) :: r, _, kvs, vs, ⟨v, us, e, a, b⟩, k => by subst e; exact KDs.mergeD (more := r) (ms := us) (kvs := putD kvs k' d) (vs := putK vs k' v) b (k.put k' a)
theorem mtD_update : MtD X G "dict.update" gUpd := fun ι S H x xs d ds Q PE r hx hxs o pins s σ v us I rx rus => by
  match d, ds, o, hx, hxs with
  | .obj n, [.obj m], o, hx, hxs =>
    obtain ⟨y, rfl, hy⟩ := hxs.one_of
    have o : Ok G ι H (match S[n]?, S[m]? with | some (.dct a), some (.dct b) => (if n ≠ m ∧ a.length + b.length ≤ sizeLine then R.ok D.non (S.set n (.dct (mergeD a b))) else .bad) | _, _ => .bad) (PQ G Q) PE := o
    cases q : S[n]? with
    | none => rw [q] at o; exact o.elim
    | some c =>
      cases q2 : S[m]? with
      | none => rw [q, q2] at o; cases c <;> exact o.elim
      | some c2 =>
        rw [q, q2] at o
        cases c <;> cases c2 <;> first | exact o.elim | skip
        rename_i ka kb
        obtain ⟨a, ha, rfl, zs, e1, e2⟩ := r.obj hx q
        obtain ⟨b, hb, rfl, ws, e3, e4⟩ := r.obj hy q2
        obtain ⟨u, rfl, ru⟩ := vals1 rus
        obtain rfl : v = .ref a := rx
        obtain rfl : u = .ref b := ru
        have o : Ok G ι H (if n ≠ m ∧ ka.length + kb.length ≤ sizeLine then R.ok D.non (S.set n (.dct (mergeD ka kb))) else .bad) (PQ G Q) PE := o
        by_cases z : n ≠ m ∧ ka.length + kb.length ≤ sizeLine
        · rw [if_pos z] at o
          have hne : a ≠ b := fun e => by
            subst e
            exact z.1 (L2.nd_ix r.nd ha hb)
          obtain ⟨z1, hd1, v1, rel1, dd1⟩ := dk_of I.hok e1
          obtain ⟨z2, hd2, v2, rel2, dd2⟩ := dk_of I.hok e3
          have hl : zs.length + ws.length ≤ sizeLine := by rw [e2.length, e4.length]; exact z.2
          refine call_meetsIn PySem.F.slot_dict_update dd1.typeIs PySem.F.entry_dict_update (PySem.F.args_dict_update_2 (.ref a) (.ref b)) (meets_dict_update (mixKind X.prog X.w) a b hne hd2) ⟨v1, v2, dd1, dd2, by rw [← rel1.length, ← rel2.length]; exact hl, fun h' hm _ hs => ?_⟩
          have hl2 : (mergeK zs ws).length ≤ sizeLine := by have := length_mergeK ws zs; omega
          have he : ∃ q, h'.get? a = some q := let ⟨q, _, _, hq, _⟩ := hm; ⟨q, hq⟩
          have ex : Ext H (upd H a (.dK (mergeK zs ws))) := Ext.mut e1 rfl
          refine ⟨.non, _, d_write (t' := s.toks) I (by rw [e1]; exact True.intro) hs he (dk_new hl2 hd1 (rel2.merge rel1) hm), rfl, ?_⟩
          exact updD (d := .non) (c := .dct (mergeD ka kb)) r ha (fun _ _ => rfl) e1 rfl ⟨_, upd_same, KDs.growE (GrowE.same ex) (KDs.mergeD e4 e2)⟩ o
        · rw [if_neg z] at o; exact o.elim
end
end ML

set_option maxHeartbeats 1000000
namespace ML
open PySem PySem.Spec PyProof.Rows L2
/-! ### isinstance(x, T), T a built-in type -/
inductive TyN where
  | non | bl | int | str | tup | lst | dct | set
  deriving DecidableEq
def TyN.nm : TyN → String
  | .non => "NoneType"
  | .bl => "bool"
  | .int => "int"
  | .str => "str"
  | .tup => "tuple"
  | .lst => "list"
  | .dct => "dict"
  | .set => "set"
def isB (t T : TyN) : Bool := decide (t = T) || (decide (t = .bl) && decide (T = .int))
theorem isB_kit (t T : TyN) (h : T ≠ .non) : kitB t.nm T.nm = some (isB t T) := by
  cases T <;> first | exact absurd rfl h | skip
  all_goals cases t <;> decide +kernel
def tyN (S : Sto) : D → Option TyN
  | .non => some .non
  | .bl _ => some .bl
  | .int _ => some .int
  | .str _ => some .str
  | .tup _ => some .tup
  | .kd _ => some .dct
  | .kl _ => some .lst
  | .obj n => match S[n]? with
    | some (.lst _) => some .lst
    | some (.dct _) => some .dct
    | some (.set _) => some .set
    | _ => none
def mIsi (T : TyN) (me : ME D) : ME D := fun ρ => bnd (me ρ) fun d S => match tyN S d with
  | some t => .ok (.bl (isB t T)) S
  | none => .bad
section
variable {X : Cx} {G : Wd} {W : WX} {pos p p2 : Pos} {e : Expr} {me : ME D}
theorem tyX_of {ι : List Addr} {S : Sto} {H : Hp} {d : D} {v : V} {t : TyN} (hK : X.K = G.K) (r : Rel G ι S H) (h : DV G ι H d v) (e : tyN S d = some t) : TyX X.K H v (.type t.nm) := by
  cases d with
  | non => cases e; obtain rfl : v = .non := h; exact .base .non
  | bl b => cases e; obtain rfl : v = .bl b := h; exact .base (.bl b)
  | int i => cases e; obtain rfl : v = .int i := h; exact .base (.int i)
  | str x => cases e; obtain rfl : v = .str x := h; exact .base (.str x)
  | tup ds =>
    cases e
    obtain ⟨a, xs, rfl, tp, _⟩ := h
    rcases tp with h | ⟨o, its, n, hk, hc, _⟩
    · exact .base (.tup h)
    · exact .kTuple (by rw [hK]; exact hk) hc
  | kd kvs =>
    cases e
    obtain ⟨a, rfl, ⟨es, n, kd⟩, _⟩ := h
    exact .kDict (by rw [hK]; exact kd.at_) rfl
  | kl ns =>
    cases e
    obtain ⟨a, rfl, ⟨o, h⟩ | ⟨o, its, n, hk, hc, _⟩⟩ := h
    · exact .base (.frz h)
    · exact .kList (by rw [hK]; exact hk) hc
  | obj n =>
    simp only [tyN] at e
    cases q : S[n]? with
    | none => rw [q] at e; cases e
    | some c =>
      rw [q] at e
      obtain ⟨a, _, rfl, hc⟩ := r.obj h q
      cases c with
      | lst ds => cases e; obtain ⟨xs, e1, _⟩ := hc; exact .base (.lst e1)
      | dct ds => cases e; obtain ⟨xs, e1, _⟩ := hc; exact .base (.dK e1)
      | set ds => cases e; obtain ⟨f, e1, _⟩ := hc; exact .set e1
      | ins _ _ => cases e
theorem SE.isi {T : Str} {t : TyN} (hK : X.K = G.K) (ht : t ≠ .non) (h : SE X G W e me) (hg : Gl X "isinstance") (hm : X.mg "isinstance" = none) (hgT : Gl X T) (hmT : X.mg T = none) (hvT : bootBuiltins T = some (.type t.nm)) (hnT : T ≠ "__name__") (hdT : (T == ("__debug__" : Str)) = false)
    (hs1 : starEach [e, .Name T p2] X.env = (false, eval e X.env) :: starEach [.Name T p2] X.env) (hs2 : starEach [.Name T p2] X.env = (false, eval (.Name T p2) X.env) :: starEach [] X.env) (hpl : (backTo pos (starEach [.Name T p2] X.env)).any (·.1) = false) :
    SE X G W (.Call (.Name "isinstance" p) [e, .Name T p2] [] pos) (mIsi t me) := fun ι S H σ ρ Q r en o => by
  refine PEw (pe_callB call_isi hg hm boot_isinstance (pa_cons pE (pa_cons (pe_bltn (v := .ty t.nm) hgT hmT hvT rfl hnT hdT) pa_nil hs2) hs1) (by decide) (by decide) hs1 hpl) ?_
  refine h ι S H σ ρ _ r en (o.bnd.imp (fun ι1 S1 H1 d g1 r1 h1 x hx => ?_) fun _ _ _ _ _ z => z)
  cases q : tyN S1 d with
  | none => rw [q] at h1; exact h1.elim
  | some t' =>
    rw [q] at h1
    exact ⟨x, .ty t.nm, _, _, isB t' t, rfl, .ty _, tyX_of hK r1 hx q, kit_ty (isB_kit t' t ht), okD r1 h1 rfl⟩
end
/-! ### {k: v, ..} -/
def mPrs : List (ME D × ME D) → ME (List (D × D))
  | [] => fun _ => ret []
  | (k, v) :: r => fun ρ => bnd (k ρ) fun x => bnd (v ρ) fun y => bnd (mPrs r ρ) fun ps => ret ((x, y) :: ps)
def keysD : List (D × D) → Option (List (Key × D))
  | [] => some []
  | (k, d) :: r => (keyD k).bind fun k => (keysD r).map fun rs => (k, d) :: rs
def newDct (ps : List (D × D)) : M D := fun S => match keysD ps with
  | some kvs => if kvs.length ≤ 15 then .ok (.obj S.length) (S ++ [.dct (mergeD [] kvs)]) else .bad
  | none => .bad
def mDisp (prs : List (ME D × ME D)) : ME D := fun ρ => bnd (noErr (mPrs prs ρ)) newDct
def PDs (G : Wd) (ι : List Addr) (H : Hp) : List (D × D) → List (V × V) → Prop
  | [], vs => vs = []
  | (k, d) :: r, vs => ∃ x y us, vs = (x, y) :: us ∧ DV G ι H k x ∧ DV G ι H d y ∧ PDs G ι H r us
inductive SPrs (X : Cx) (G : Wd) (W : WX) (pos : Pos) : List (Option Expr) → List Expr → List (TE × TE) → List (ME D × ME D) → Prop where
  | nil : SPrs X G W pos [] [] [] []
  | cons {k v : Expr} {ks : List (Option Expr)} {vs : List Expr} {ts : List (TE × TE)} {mk mv : ME D} {ms : List (ME D × ME D)} (hk : SE X G W k mk) (hv : SE X G W v mv) (r : SPrs X G W pos ks vs ts ms) : SPrs X G W pos (some k :: ks) (v :: vs) ((wE X k, wE X v) :: ts) ((mk, mv) :: ms)
section
variable {X : Cx} {G : Wd} {W : WX} {pos : Pos} {keys : List (Option Expr)} {values : List Expr}
theorem SPrs.pps {ks : List (Option Expr)} {vs : List Expr} {ts : List (TE × TE)} {ms : List (ME D × ME D)} (h : SPrs X G W pos ks vs ts ms) : PPs X pos ks vs ts := by
  induction h with
  | nil => exact pps_nil
  | cons hk hv r ih => exact pps_cons pE pE ih
theorem SPrs.run {ks : List (Option Expr)} {vs : List Expr} {ts : List (TE × TE)} {ms : List (ME D × ME D)} (h : SPrs X G W pos ks vs ts ms) {ι0 : List Addr} {H0 : Hp} {p : Addr} {σ : L2.St} {ρ : Loc} {SF : Sto} : ∀ {psF : List (D × D)} {ι : List Addr} {S : Sto} {H : Hp} {Q : List (V × V) → Hp → Prop}, Rel G ι S H → EnvOk G ι H σ ρ → Grow ι0 H0 ι H → H p = some (.dK []) → p ∉ ι → mPrs ms ρ S = .ok psF SF →
    (∀ ι' H' vps, Grow ι0 H0 ι' H' → Rel G ι' SF H' → H' p = some (.dK []) → p ∉ ι' → PDs G ι' H' psF vps → Grow ι H ι' H' → Q vps H') → tPairs ts σ H Q := by
  induction h with
  | nil =>
    intro psF ι S H Q r en g e n hm q
    cases hm
    exact q ι H [] g r e n rfl (Grow.refl _ _)
  | cons hk hv _ ih =>
    intro psF ι S H Q r en g e n hm q
    obtain ⟨x, S1, h1, hm⟩ := bnd_ok hm
    obtain ⟨y, S2, h2, hm⟩ := bnd_ok hm
    obtain ⟨ps, S3, h3, hm⟩ := bnd_ok hm
    cases hm
    refine hk ι S H σ ρ _ r en ?_
    rw [h1]
    intro ι1 H1 g1 r1 vx hx
    refine hv ι1 S1 H1 σ ρ _ r1 (en.grow g1) ?_
    rw [h2]
    intro ι2 H2 g2 r2 vy hy
    have e1 := g1.frm p _ e n
    have n1 := g1.notIn n e
    have e2 := g2.frm p _ e1 n1
    have n2 := g2.notIn n1 e1
    refine ih r2 (en.grow (g1.trans g2)) ((g.trans g1).trans g2) e2 n2 h3 fun ι3 H3 vps g3 r3 e3 n3 pd g4 => ?_
    exact q ι3 H3 _ g3 r3 e3 n3 ⟨vx, vy, vps, rfl, hx.grow (g2.trans g4), hy.grow g4, pd⟩ ((g1.trans g2).trans g4)
theorem keysD_of {ι : List Addr} {H : Hp} : ∀ {ps : List (D × D)} {vps : List (V × V)} {kvs : List (Key × D)}, PDs G ι H ps vps → keysD ps = some kvs → ∃ ks : List (Key × V), vps = ks.map (fun kv => (kV kv.1, kv.2)) ∧ KDs G ι H kvs ks ∧ ks.length = kvs.length
  | [], vps, kvs, h, e => by
    cases e
    rw [show vps = [] from h]
    exact ⟨[], rfl, rfl, rfl⟩
  | (k, d) :: r, vps, kvs, ⟨x, y, us, e1, hx, hy, hr⟩, e => by
    unfold keysD at e
    cases q : keyD k with
    | none => rw [q] at e; cases e
    | some key =>
      rw [q] at e
      cases q2 : keysD r with
      | none => rw [q2] at e; cases e
      | some rs =>
        rw [q2] at e
        cases e
        obtain ⟨ks, f1, f2, f3⟩ := keysD_of hr q2
        have := keyD_dv hx q
        subst this
        subst f1
        exact ⟨(key, y) :: ks, e1, ⟨y, ks, rfl, hy, f2⟩, by simp [f3]⟩
theorem SE.disp {ts : List (TE × TE)} {ms : List (ME D × ME D)} (h : SPrs X G W pos keys values ts ms) (hall : keys.all (·.isSome) = true) (hl : keys.length = values.length) (h0 : keys ≠ []) (h15 : keys.length ≤ 15) : SE X G W (.Dict keys values pos) (mDisp ms) := fun ι S H σ ρ Q r en o => by
  refine PEw (pe_disp h.pps hall hl h0 h15) fun p hp => ?_
  obtain ⟨psF, SF, hm, hend⟩ := Ok.noErr (show Ok G ι H (bnd (noErr (mPrs ms ρ)) newDct S) (PQ G Q) (PErr G W σ) from o)
  have g0 : Grow ι H ι (upd H p (.dK [])) := Grow.new hp
  refine h.run (ι0 := ι) (H0 := H) (r.new hp) (en.grow g0) g0 upd_same (r.notIn hp) hm fun ι' H' vps g' r' e' n' pd _ => ⟨e', ?_⟩
  unfold newDct at hend
  cases q : keysD psF with
  | none => rw [q] at hend; exact hend.elim
  | some kvs =>
    rw [q] at hend
    have hend : Ok G ι H (if kvs.length ≤ 15 then R.ok (.obj SF.length) (SF ++ [.dct (mergeD [] kvs)]) else .bad) (PQ G Q) (PErr G W σ) := hend
    by_cases z : kvs.length ≤ 15
    · rw [if_pos z] at hend
      obtain ⟨ks, f1, f2, f3⟩ := keysD_of pd q
      refine ⟨ks, f1, by omega, ?_⟩
      obtain ⟨r2, x2⟩ := r'.hid (o := .dK (mergeK [] ks)) n' e' rfl
      have gE : GrowE ι' H' (ι' ++ [p]) (upd H' p (.dK (mergeK [] ks))) := ⟨⟨[p], rfl⟩, x2⟩
      have r3 := r2.pushE (c := .dct (mergeD [] kvs)) n' ⟨_, upd_same, KDs.growE gE (KDs.mergeD f2 (rfl : KDs G ι' H' ([] : List (Key × D)) []))⟩
      have g4 : Grow ι H (ι' ++ [p]) (upd H' p (.dK (mergeK [] ks))) := by
        have g3 := g'.hid (o := .dK (mergeK [] ks)) hp
        obtain ⟨more, e, f⟩ := g3.pre
        exact ⟨⟨more ++ [p], by rw [e, List.append_assoc], fun c hc => (List.mem_append.mp hc).elim (f c) fun z => by rw [show c = p by simpa using z]; exact hp⟩, g3.ext, g3.frm, g3.alv⟩
      exact hend _ _ g4 r3 (.ref p) ⟨p, by rw [List.getElem?_append_right (by rw [r2.len]; exact Nat.le_refl _), r2.len]; simp, rfl⟩
    · rw [if_neg z] at hend; exact hend.elim
end
end ML

set_option maxHeartbeats 1000000
namespace ML
open PySem PySem.Spec PyProof.Rows L2
/-! ### what stands at the top -/
def absD : Value → Option D
  | .none => some .non
  | .bool b => some (.bl b)
  | .int i _ => some (.int i)
  | .str x _ => some (.str x)
  | _ => none
theorem absD_ok {G : Wd} {u : Value} {d : D} (h : absD u = some d) : ∃ v, RelV v u ∧ ∀ ι H, DV G ι H d v := by
  cases u <;> cases h
  · exact ⟨.non, rfl, fun _ _ => rfl⟩
  · exact ⟨.bl _, rfl, fun _ _ => rfl⟩
  · exact ⟨.int _, ⟨_, rfl⟩, fun _ _ => rfl⟩
  · exact ⟨.str _, ⟨_, rfl⟩, fun _ _ => rfl⟩
theorem absDs_ok {G : Wd} : ∀ {us : List Value} {ds : List D}, us.map absD = ds.map some → ∃ vs, Vals vs us ∧ ∀ ι H, DVs G ι H ds vs
  | [], [], _ => ⟨[], .nil, fun _ _ => rfl⟩
  | [], _ :: _, h => by cases h
  | _ :: _, [], h => by cases h
  | u :: us, d :: ds, h => by
    rw [List.map_cons, List.map_cons] at h
    injection h with h1 h2
    obtain ⟨v, a, b⟩ := absD_ok (G := G) h1
    obtain ⟨vs, a2, b2⟩ := absDs_ok (G := G) h2
    exact ⟨v :: vs, .cons a a2, fun ι H => ⟨v, vs, rfl, b ι H, b2 ι H⟩⟩
/-- a text, an int, .. of the module -/
theorem Gv.lit {mg : Str → Option Value} {G : Wd} {x : Str} {u : Value} {d : D} (hm : mg x = some u) (h : absD u = some d) : Gv mg G x d := by
  obtain ⟨v, a, b⟩ := absD_ok (G := G) h
  exact ⟨v, u, hm, a, b⟩
/-- a tuple of such -/
theorem Gv.tup {mg : Str → Option Value} {G : Wd} {x : Str} {a : Addr} {o : Obj} {its : Array Value} {n : Nat} {ds : List D} (hm : mg x = some (.ref a)) (hl : G.K.lookup a = some o) (hc : o.cls = .type "tuple") (hd : o.data = .seq its n) (h : its.toList.map absD = ds.map some) (hz : ds.length ≤ sizeLine) : Gv mg G x (.tup ds) := by
  obtain ⟨vs, r, d⟩ := absDs_ok (G := G) h
  refine ⟨.ref a, .ref a, hm, rfl, fun ι H => ⟨a, vs, rfl, .inr ⟨o, its, n, hl, hc, hd, ?_, r⟩, d ι H⟩⟩
  have e1 : its.toList.length = ds.length := by have := congrArg List.length h; simpa using this
  rw [← Array.length_toList, e1]; exact hz
def entD (e : DictEntry) : Option (Str × Key) := match e.key, e.val with
  | .str x _, .int i _ => some (x, .inl i)
  | .str x _, .str y _ => some (x, .inr y)
  | _, _ => none
theorem ent_find {x : Str} : ∀ {es : List DictEntry} {kvs : List (Str × Key)}, es.map entD = kvs.map some → (∃ r, (match es.find? (·.key.isStr x) with
      | some e => some (some e.val)
      | none => if es.any (·.refKey) then none else some none) = some r ∧ RelO ((kvs.lookup x).map kV) r) ∧ es.any (·.refKey) = false
  | [], [], _ => ⟨⟨none, rfl, True.intro⟩, rfl⟩
  | [], _ :: _, h => by cases h
  | _ :: _, [], h => by cases h
  | e :: es, (k, v) :: kvs, h => by
    rw [List.map_cons, List.map_cons] at h
    injection h with h1 h2
    obtain ⟨⟨r, q1, q2⟩, q3⟩ := ent_find (x := x) h2
    have hk : ∃ t, e.key = .str k t ∧ RelV (kV v) e.val := by
      unfold entD at h1
      cases hk : e.key <;> rw [hk] at h1 <;> first | (cases h1; done) | skip
      cases hv : e.val <;> rw [hv] at h1 <;> first | (cases h1; done) | skip
      · cases h1; exact ⟨_, rfl, _, rfl⟩
      · cases h1; exact ⟨_, rfl, _, rfl⟩
    obtain ⟨t, hk, hv⟩ := hk
    have hr : e.refKey = false := by unfold DictEntry.refKey; rw [hk]
    refine ⟨?_, by rw [List.any_cons, hr, q3]; rfl⟩
    by_cases q : (k == x) = true
    · have e1 : e.key.isStr x = true := by rw [hk]; exact q
      have : k = x := by simpa using q
      subst this
      refine ⟨some e.val, by rw [List.find?_cons, e1], ?_⟩
      rw [List.lookup_cons, beq_self_eq_true]
      exact hv
    · have e1 : e.key.isStr x = false := by
        rw [hk]
        exact Bool.eq_false_iff.mpr q
      have e2 : (x == k) = false := by
        rw [Bool.eq_false_iff]
        intro z
        have : x = k := by simpa using z
        exact q (by rw [this]; simp)
      refine ⟨r, ?_, by rw [List.lookup_cons, e2]; exact q2⟩
      rw [List.find?_cons, e1, List.any_cons, hr]
      exact q1
/-- a dict of texts to texts or ints -/
theorem Gv.kd {mg : Str → Option Value} {G : Wd} {x : Str} {a : Addr} {es : Array DictEntry} {n : Nat} {kvs : List (Str × Key)} (hm : mg x = some (.ref a)) (hl : G.K.lookup a = some ⟨.type "dict", none, .dict es n, #[]⟩) (lit : PySem.W.KeysLit G.w.params es.toList) (low : (a == sysModules) = false) (h : es.toList.map entD = kvs.map some) : Gv mg G x (.kd kvs) := by
  refine ⟨.ref a, .ref a, hm, rfl, fun ι H => ⟨a, rfl, ⟨es, n, hl, lit, low⟩, fun y => ?_⟩⟩
  obtain ⟨⟨r, q1, q2⟩, _⟩ := ent_find (x := y) h
  refine ⟨r, ?_, q2⟩
  unfold PySem.W.nsIn
  rw [hl]
  exact q1
/-! ### what a call leaves behind is forgotten -/
mutual
def hfD : D → Bool
  | .obj _ => false
  | .tup ds => hfDs ds
  | _ => true
def hfDs : List D → Bool
  | [] => true
  | d :: ds => hfD d && hfDs ds
end
mutual
theorem DV.hf {G : Wd} {ι ι' : List Addr} {H : Hp} : ∀ {d : D} {v : V}, hfD d = true → DV G ι H d v → DV G ι' H d v
  | .non, _, _, h => h
  | .bl _, _, _, h => h
  | .int _, _, _, h => h
  | .str _, _, _, h => h
  | .tup ds, _, f, ⟨a, xs, e, t, r⟩ => ⟨a, xs, e, t, DVs.hf (show hfDs ds = true from f) r⟩
  | .obj _, _, f, _ => by cases f
  | .kd _, _, _, h => h
  | .kl _, _, _, h => h
theorem DVs.hf {G : Wd} {ι ι' : List Addr} {H : Hp} : ∀ {ds : List D} {vs : List V}, hfDs ds = true → DVs G ι H ds vs → DVs G ι' H ds vs
  | [], _, _, h => h
  | d :: ds, _, f, ⟨v, vs, e, a, b⟩ => by
    have f : (hfD d && hfDs ds) = true := f
    rw [Bool.and_eq_true] at f
    exact ⟨v, vs, e, DV.hf f.1 a, DVs.hf f.2 b⟩
end
mutual
/-- the handles of d are old ones -/
theorem DV.back {G : Wd} {ι more : List Addr} {H H' : Hp} : ∀ {d : D} {u v : V}, DV G ι H d u → DV G (ι ++ more) H' d v → DV G ι H' d v
  | .non, _, _, _, h => h
  | .bl _, _, _, _, h => h
  | .int _, _, _, _, h => h
  | .str _, _, _, _, h => h
  | .tup ds, _, _, ⟨_, _, _, _, r0⟩, ⟨a, xs, e, t, r⟩ => ⟨a, xs, e, t, DVs.back r0 r⟩
  | .obj n, _, _, ⟨a0, e0, _⟩, ⟨a, e, q⟩ => ⟨a, by rw [List.getElem?_append_left (List.getElem?_eq_some_iff.mp e0).1] at e; exact e, q⟩
  | .kd _, _, _, _, h => h
  | .kl _, _, _, _, h => h
theorem DVs.back {G : Wd} {ι more : List Addr} {H H' : Hp} : ∀ {ds : List D} {us vs : List V}, DVs G ι H ds us → DVs G (ι ++ more) H' ds vs → DVs G ι H' ds vs
  | [], _, _, _, h => h
  | d :: ds, _, _, ⟨_, _, _, a0, b0⟩, ⟨v, vs, e, a, b⟩ => ⟨v, vs, e, DV.back a0 a, DVs.back b0 b⟩
end
theorem KDs.back {G : Wd} {ι more : List Addr} {H H' : Hp} {κ : Type} : ∀ {ds : List (κ × D)} {us vs : List (κ × V)}, KDs G ι H ds us → KDs G (ι ++ more) H' ds vs → KDs G ι H' ds vs
  | [], _, _, _, h => h
  | (_, _) :: _, _, _, ⟨_, _, _, a0, b0⟩, ⟨v, vs, e, a, b⟩ => ⟨v, vs, e, DV.back a0 a, KDs.back b0 b⟩
theorem Rel.back {G : Wd} {ι more : List Addr} {S T : Sto} {H H' : Hp} (r0 : Rel G ι S H) (r : Rel G (ι ++ more) (S ++ T) H') : Rel G ι S H' := by
  refine ⟨r0.nd, r0.len, fun n c a h1 h2 => ?_⟩
  have hn := (List.getElem?_eq_some_iff.mp h1).1
  have h0 := r0.cell n c a h1 h2
  have h := r.cell n c a (by rw [List.getElem?_append_left hn]; exact h1) (by rw [List.getElem?_append_left (by rw [r0.len]; exact hn)]; exact h2)
  cases c with
  | lst _ => obtain ⟨_, _, b0⟩ := h0; obtain ⟨xs, e, b⟩ := h; exact ⟨xs, e, DVs.back b0 b⟩
  | dct _ => obtain ⟨_, _, b0⟩ := h0; obtain ⟨xs, e, b⟩ := h; exact ⟨xs, e, KDs.back b0 b⟩
  | set _ => exact h
  | ins _ _ => obtain ⟨_, _, _, b0⟩ := h0; obtain ⟨dx, xs, e, b⟩ := h; exact ⟨dx, xs, e, KDs.back b0 b⟩
theorem Grow.back {ι more : List Addr} {H H' : Hp} (g : Grow ι H (ι ++ more) H') : Grow ι H ι H' := ⟨⟨[], by simp, fun _ h => nomatch h⟩, g.ext, g.frm, g.alv⟩
/-- m' tells what m tells, but for new cells that nothing told leads to -/
def LeG (m' m : List D → M D) (n : Nat) : Prop := ∀ ds S, ds.length = n → m' ds S = .bad ∨ m' ds S = m ds S ∨
  (∃ d T, m' ds S = .ok d S ∧ m ds S = .ok d (S ++ T) ∧ hfD d = true) ∨ ∃ c fs T, m' ds S = .err c fs S ∧ m ds S = .err c fs (S ++ T) ∧ fs.all (fun p => hfD p.2) = true
theorem KDs.hf {G : Wd} {ι ι' : List Addr} {H : Hp} : ∀ {ds : List (Str × D)} {vs : List (Str × V)}, ds.all (fun p => hfD p.2) = true → KDs G ι H ds vs → KDs G ι' H ds vs
  | [], _, _, h => h
  | (_, d) :: _, _, f, ⟨v, vs, e, a, b⟩ => by
    rw [List.all_cons, Bool.and_eq_true] at f
    exact ⟨v, vs, e, DV.hf f.1 a, KDs.hf f.2 b⟩
theorem Ok.gc {G : Wd} {m' m : List D → M D} {n : Nat} (le : LeG m' m n) {ι : List Addr} {S : Sto} {H : Hp} {ds : List D} (hl : ds.length = n) (r : Rel G ι S H) {Q : VK} {E : XK}
    (o : Ok G ι H (m' ds S) (PQ G Q) (fun ι' _ H' c fs => ∀ ad, ErrV G ι' H' fs ad → E (.ref (G.cls c)) ad H')) : Ok G ι H (m ds S) (PQ G Q) (fun ι' _ H' c fs => ∀ ad, ErrV G ι' H' fs ad → E (.ref (G.cls c)) ad H') := by
  rcases le ds S hl with e | e | ⟨d, T, e1, e2, f⟩ | ⟨c, fs, T, e1, e2, f⟩
  · rw [e] at o; exact o.elim
  · rw [← e]; exact o
  · rw [e1] at o
    rw [e2]
    intro ι' H' g' r' v hv
    obtain ⟨more, rfl, _⟩ := g'.pre
    exact o ι H' g'.back (r.back r') v (DV.hf f hv)
  · rw [e1] at o
    rw [e2]
    intro ι' H' g' r' ad hv
    obtain ⟨more, rfl, _⟩ := g'.pre
    refine o ι H' g'.back (r.back r') ad ?_
    rcases hv with ⟨e, e'⟩ | ⟨a, vs, e, h1, h2⟩
    · exact .inl ⟨e, e'⟩
    · exact .inr ⟨a, vs, e, h1, KDs.hf f h2⟩
theorem Hf.gc {P : Program} {w : World} {mg : Str → Option Value} {base : Heap} {G : Wd} {k : Nat} {x : Str} {ps : List Str} {m m' : List D → M D} (h : Hf P w mg base G k x ps m) (le : LeG m' m ps.length) : Hf P w mg base G k x ps m' := by
  obtain ⟨f, fd, a, b⟩ := h.ex
  exact ⟨f, fd, a.imp fun vs H Q E ⟨ι, S, ds, r, hd, hl, o⟩ => ⟨ι, S, ds, r, hd, hl, Ok.gc le hl r o⟩, b⟩
/-! ### the law's end -/
/-- what a law's def must tell -/
def LawOk (m : List D → M D) : Prop := ∀ ns : List Int, ns.length ≤ 63 → (∀ z ∈ ns, Builtin.Int.intBits z ≤ 1048576) → ∃ S', m [.kl ns] [] = .ok (.bl true) S'
theorem law_sp {G : Wd} {m : List D → M D} (h : LawOk m) (H : Hp) (a : Addr) (ns : List Int) (hl : ns.length ≤ 63) (hb : ∀ z ∈ ns, Builtin.Int.intBits z ≤ 1048576) (on : Only H) (hS : SqL G.K H a (ns.map V.int)) : spM G 1 m [.ref a] H (fun v _ => v = .bl true) fun _ _ _ => False := by
  obtain ⟨S', e⟩ := h ns hl hb
  refine ⟨[], [], [.kl ns], ⟨List.nodup_nil, rfl, fun n c a h _ => by simp at h⟩, ⟨.ref a, [], rfl, ⟨a, rfl, ?_⟩, rfl⟩, rfl, ?_⟩
  · rcases hS with (z | ⟨o, z⟩) | z
    · rcases on a with q | ⟨o, xs, q⟩
      · rw [q] at z; cases z
      · rw [q] at z; cases z
    · exact .inl ⟨o, z⟩
    · exact .inr z
  · rw [e]
    exact fun ι' H' _ _ v hv => hv
end ML

set_option maxHeartbeats 1000000
namespace ML
open PySem PySem.Spec PyProof.Rows L2
/-! ### the mirrors by name, the rules in short -/
def mV (i : Nat) : ME D := fun ρ => getL ρ i
def mC (d : D) : ME D := fun _ => ret d
def mBin (g : D → D → M D) (a b : ME D) : ME D := fun ρ => bnd (a ρ) fun x => bnd (b ρ) fun y => g x y
def mUn (g : D → M D) (a : ME D) : ME D := fun ρ => bnd (a ρ) g
def mChV (g g' : D → D → M D) (a b c : ME D) : ME D := fun ρ => bnd (a ρ) fun x => bnd (b ρ) fun y => bnd (bnd (g x y) asB) fun k => if k = true then bnd (c ρ) fun z => g' y z else ret (.bl false)
def mChT (g g' : D → D → M D) (a b c : ME D) : ME Bool := fun ρ => bnd (a ρ) fun x => bnd (b ρ) fun y => bnd (bnd (g x y) asB) fun k => if k = true then bnd (c ρ) fun z => bnd (g' y z) asB else ret false
def mCmpT (g : D → D → M D) (a b : ME D) : ME Bool := fun ρ => bnd (a ρ) fun x => bnd (b ρ) fun y => bnd (g x y) asB
def mValT (a : ME D) : ME Bool := fun ρ => bnd (a ρ) asB
def mAndT (a b : ME Bool) : ME Bool := fun ρ => bnd (a ρ) fun c => if c = true then b ρ else ret false
def mOrT (a b : ME Bool) : ME Bool := fun ρ => bnd (a ρ) fun c => if c = true then ret true else b ρ
def mNotT (a : ME Bool) : ME Bool := fun ρ => bnd (a ρ) fun c => ret (!c)
def mAndV (a b : ME D) : ME D := fun ρ => bnd (bnd (a ρ) asB) fun c => if c = true then b ρ else ret (.bl false)
def mOrV (a b : ME D) : ME D := fun ρ => bnd (bnd (a ρ) asB) fun c => if c = true then ret (.bl true) else b ρ
def mNotV (a : ME D) : ME D := fun ρ => bnd (bnd (a ρ) asB) fun c => ret (.bl (!c))
def mIfE (t : ME Bool) (a b : ME D) : ME D := fun ρ => bnd (t ρ) fun k => if k = true then a ρ else b ρ
def mNil : ME (List D) := fun _ => ret []
def mCons (a : ME D) (b : ME (List D)) : ME (List D) := fun ρ => bnd (a ρ) fun x => bnd (b ρ) fun xs => ret (x :: xs)
def mTupE (a : ME (List D)) : ME D := fun ρ => bnd (a ρ) mkTup
def mLstE (a : ME (List D)) : ME D := fun ρ => bnd (a ρ) mkLst
def mIx (a b : ME D) : ME D := fun ρ => bnd (a ρ) fun x => bnd (b ρ) fun y => opIx x y
def mSl (a : ME D) (l h : ME (Option Int)) : ME D := fun ρ => bnd (a ρ) fun x => bnd (l ρ) fun l => bnd (h ρ) fun h => opSl x l h
def mNoI : ME (Option Int) := fun _ => ret none
def mSoI (a : ME D) : ME (Option Int) := fun ρ => bnd (a ρ) asI
def mB (g : List D → M D) (a : ME (List D)) : ME D := fun ρ => bnd (a ρ) g
def mSrc (a : ME D) : ME Src := fun ρ => bnd (a ρ) srcD
def mSrcA (g : List D → M Src) (a : ME (List D)) : ME Src := fun ρ => bnd (a ρ) g
def mNx : Loc → M Fl := fun ρ => ret (.nx ρ)
def mBk : Loc → M Fl := fun ρ => ret (.bk ρ)
def mCt : Loc → M Fl := fun ρ => ret (.ct ρ)
def mRtN : Loc → M Fl := fun _ => ret (.rt .non)
def mYes : ME Bool := fun _ => ret true
def evUn : UnaryOp → D → M D
  | .USub => unI fun i => -i
  | _ => fun _ => bad
section
variable {X : Cx} {G : Wd} {W : WX} {k : Nat} {A : Nat → Bool} {pos p p2 apos : Pos} {e a b c : Expr} {es : List Expr} {ma mb mc : ME D} {ta tb : ME Bool} {ms : ME (List D)} {x : Str}
theorem e_var (i : Nat) (hN : X.N[i]? = some x) (hv : Vis X.env.scope x) (hd : (x == ("__debug__" : Str)) = false) (hc : (x == ("__classdict__" : Str)) = false) : SE X G W (.Name x pos) (mV i) := SE.var hN hv hd hc
theorem e_glob {d : D} (g : Gv X.mg G x d) (hg : Gl X x) (hd : (x == ("__debug__" : Str)) = false) : SE X G W (.Name x pos) (mC d) := SE.glob g hg hd
theorem e_int {i : Int} {j : Nat} : SE X G W (.Constant (.int i) j pos) (mC (.int i)) := SE.int
theorem e_bl {i : Bool} {j : Nat} : SE X G W (.Constant (.bool i) j pos) (mC (.bl i)) := SE.bl
theorem e_non {j : Nat} : SE X G W (.Constant .none j pos) (mC .non) := SE.non
theorem e_str {i : Str} {j : Nat} : SE X G W (.Constant (.str i) j pos) (mC (.str i)) := SE.str
theorem e_bin (q : Bc X G k W) {op : Operator} (ha : SE X G W a ma) (hb : SE X G W b mb) : SE X G W (.BinOp a op b pos) (mBin (evBin op) ma mb) := SE.bin (opD_bin q.hK op) ha hb
theorem unD_ev : ∀ op : UnaryOp, UnD X G (unaryOp op) (evUn op)
  | .USub => unD_I un_neg
  | .UAdd => fun _ _ _ _ _ _ _ _ _ o => o.elim
  | .Invert => fun _ _ _ _ _ _ _ _ _ o => o.elim
  | .Not => fun _ _ _ _ _ _ _ _ _ o => o.elim
theorem e_un {op : UnaryOp} (ha : SE X G W a ma) : SE X G W (.UnaryOp op a pos) (mUn (evUn op) ma) := SE.un (unD_ev op) ha
theorem e_cmp (q : Bc X G k W) {op : CmpOp} (ha : SE X G W a ma) (hb : SE X G W b mb) (hm : behindInMarks op b = false) : SE X G W (.Compare a [op] [b] pos) (mBin (evCmp op) ma mb) := SE.cmp (opD_cmp q.hK q.hw q.hu op) ha hb hm
theorem t_cmp (q : Bc X G k W) {op : CmpOp} (ha : SE X G W a ma) (hb : SE X G W b mb) (hm : behindInMarks op b = false) : ST X G W (.Compare a [op] [b] pos) (mCmpT (evCmp op) ma mb) := ST.cmp (opD_cmp q.hK q.hw q.hu op) ha hb hm
theorem e_chain (q : Bc X G k W) {op op' : CmpOp} (ha : SE X G W a ma) (hb : SE X G W b mb) (hc : SE X G W c mc) (hm : behindInMarks op' c = false) : SE X G W (.Compare a [op, op'] [b, c] pos) (mChV (evCmp op) (evCmp op') ma mb mc) := SE.chain (opD_cmp q.hK q.hw q.hu op) (opD_cmp q.hK q.hw q.hu op') ha hb hc hm
theorem t_chain (q : Bc X G k W) {op op' : CmpOp} (ha : SE X G W a ma) (hb : SE X G W b mb) (hc : SE X G W c mc) (hm : behindInMarks op' c = false) : ST X G W (.Compare a [op, op'] [b, c] pos) (mChT (evCmp op) (evCmp op') ma mb mc) := ST.chain (opD_cmp q.hK q.hw q.hu op) (opD_cmp q.hK q.hw q.hu op') ha hb hc hm
theorem t_val (h : SE X G W e ma) (he : ∀ whole, isTrue e X.env whole = (do let v ← whole; standAt e.pos; holding [v] (truthy v))) : ST X G W e (mValT ma) := ST.val h he
theorem w_and1 (h : ST X G W a ta) : SW X G W (.BoolOp .And [a] pos) ta := SW.and1 h
theorem w_or1 (h : ST X G W a ta) : SW X G W (.BoolOp .Or [a] pos) ta := SW.or1 h
theorem w_and (h : ST X G W a ta) (r : SW X G W (.BoolOp .And (b :: es) pos) tb) : SW X G W (.BoolOp .And (a :: b :: es) pos) (mAndT ta tb) := SW.and h r
theorem w_or (h : ST X G W a ta) (r : SW X G W (.BoolOp .Or (b :: es) pos) tb) : SW X G W (.BoolOp .Or (a :: b :: es) pos) (mOrT ta tb) := SW.or h r
theorem t_not (h : ST X G W a ta) : ST X G W (.UnaryOp .Not a pos) (mNotT ta) := ST.not h
theorem e_one {op : BoolOp} (h : SE X G W a ma) : SE X G W (.BoolOp op [a] pos) ma := SE.one h
theorem e_and (h : SE X G W a ma) (r : SE X G W (.BoolOp .And (b :: es) pos) mb) : SE X G W (.BoolOp .And (a :: b :: es) pos) (mAndV ma mb) := SE.and h r
theorem e_or (h : SE X G W a ma) (r : SE X G W (.BoolOp .Or (b :: es) pos) mb) : SE X G W (.BoolOp .Or (a :: b :: es) pos) (mOrV ma mb) := SE.or h r
theorem e_not (h : SE X G W a ma) : SE X G W (.UnaryOp .Not a pos) (mNotV ma) := SE.not h
theorem e_ifE (ht : ST X G W c ta) (ha : SE X G W a ma) (hb : SE X G W b mb) : SE X G W (.IfExp c a b pos) (mIfE ta ma mb) := SE.ifE ht ha hb
theorem a_nil : SA X G W [] mNil := SA.nil
theorem a_cons (h : SE X G W e ma) (r : SA X G W es ms) (hs : starEach (e :: es) X.env = (false, eval e X.env) :: starEach es X.env) : SA X G W (e :: es) (mCons ma ms) := SA.cons h r hs
theorem e_tup {j : Nat} (h : SA X G W es ms) : SE X G W (.Tuple es j pos) (mTupE ms) := SE.tup h
theorem e_lst (h : SA X G W es ms) : SE X G W (.List es pos) (mLstE ms) := SE.lst h
theorem e_ix (q : Bc X G k W) (ha : SE X G W a ma) (hb : SE X G W b mb) (hs : PlainIx b) : SE X G W (.Subscript a b pos) (mIx ma mb) := SE.ix q.hK q.hw (by have := q.hu; omega) ha hb hs
theorem e_sl (q : Bc X G k W) {lo hi : Option Expr} {ml mh : ME (Option Int)} (ha : SE X G W a ma) (hl : SO X G W lo ml) (hh : SO X G W hi mh) : SE X G W (.Subscript a (.Slice lo hi none p2) pos) (mSl ma ml mh) := SE.slice q.hK ha hl hh
theorem o_none : SO X G W none mNoI := SO.none
theorem o_some (h : SE X G W e ma) : SO X G W (some e) (mSoI ma) := SO.some h
theorem e_cB {id : String} {g : List D → M D} (hc : CallD X G (.builtin id) g) (hg : Gl X x) (hm : X.mg x = none) (hv : bootBuiltins x = some (.builtin id)) (ha : SA X G W (e :: es) ms) (hn : x ≠ "__name__") (hdb : (x == ("__debug__" : Str)) = false)
    (he : starEach (e :: es) X.env = (false, eval e X.env) :: starEach es X.env) (hpl : (backTo pos (starEach es X.env)).any (·.1) = false) : SE X G W (.Call (.Name x p) (e :: es) [] pos) (mB g ms) := SE.callB hc hg hm hv ha hn hdb he hpl
theorem e_cT {T : String} {g : List D → M D} (hc : CallD X G (.type T) g) (hg : Gl X x) (hm : X.mg x = none) (hv : bootBuiltins x = some (.type T)) (ha : SA X G W (e :: es) ms) (hn : x ≠ "__name__") (hdb : (x == ("__debug__" : Str)) = false)
    (he : starEach (e :: es) X.env = (false, eval e X.env) :: starEach es X.env) (hpl : (backTo pos (starEach es X.env)).any (·.1) = false) : SE X G W (.Call (.Name x p) (e :: es) [] pos) (mB g ms) := SE.callTy hc hg hm hv ha hn hdb he hpl
/-- what each built-in function of a list of arguments tells -/
theorem e_len (q : Bc X G k W) (hg : Gl X "len") (hm : X.mg "len" = none) (ha : SA X G W (e :: es) ms) (he : starEach (e :: es) X.env = (false, eval e X.env) :: starEach es X.env) (hpl : (backTo pos (starEach es X.env)).any (·.1) = false) : SE X G W (.Call (.Name "len" p) (e :: es) [] pos) (mB fLen ms) := SE.callB (callD_len q.hK) hg hm PySem.boot_len ha (by decide) (by decide) he hpl
theorem e_tuple (q : Bc X G k W) (hg : Gl X "tuple") (hm : X.mg "tuple" = none) (ha : SA X G W (e :: es) ms) (he : starEach (e :: es) X.env = (false, eval e X.env) :: starEach es X.env) (hpl : (backTo pos (starEach es X.env)).any (·.1) = false) : SE X G W (.Call (.Name "tuple" p) (e :: es) [] pos) (mB fTup ms) := SE.callTy (callD_tup q.hK) hg hm boot_tuple ha (by decide) (by decide) he hpl
theorem e_list (q : Bc X G k W) (hg : Gl X "list") (hm : X.mg "list" = none) (ha : SA X G W (e :: es) ms) (he : starEach (e :: es) X.env = (false, eval e X.env) :: starEach es X.env) (hpl : (backTo pos (starEach es X.env)).any (·.1) = false) : SE X G W (.Call (.Name "list" p) (e :: es) [] pos) (mB fList ms) := SE.callTy (callD_list q.hK) hg hm boot_list ha (by decide) (by decide) he hpl
theorem i_dir {tg : Expr} (q : Bc X G k W) (h : SE X G W e ma) : SI X G W tg e (mSrc ma) := SI.dir q.hK h
theorem i_r1 {tg : Expr} (hg : Gl X "range") (hm : X.mg "range" = none) (ha : SA X G W [a] ms) (hs : starEach [a] X.env = [(false, eval a X.env)]) : SI X G W tg (.Call (.Name "range" p) [a] [] pos) (mSrcA rng1 ms) := SI.r1 hg hm ha hs
theorem i_r2 {tg : Expr} (hg : Gl X "range") (hm : X.mg "range" = none) (ha : SA X G W [a, b] ms) (hs : starEach [a, b] X.env = [(false, eval a X.env), (false, eval b X.env)]) (hs2 : starEach [b] X.env = [(false, eval b X.env)]) : SI X G W tg (.Call (.Name "range" p) [a, b] [] pos) (mSrcA rng2 ms) := SI.r2 hg hm ha hs hs2
theorem i_r3 {tg : Expr} (hg : Gl X "range") (hm : X.mg "range" = none) (ha : SA X G W [a, b, c] ms) (hs : starEach [a, b, c] X.env = (false, eval a X.env) :: starEach [b, c] X.env) (hs2 : (backTo pos (starEach [b, c] X.env)).any (·.1) = false) : SI X G W tg (.Call (.Name "range" p) [a, b, c] [] pos) (mSrcA rng3 ms) := SI.r3 hg hm ha hs hs2
theorem i_en {elts : List Expr} {j : Nat} (q : Bc X G k W) (hg : Gl X "enumerate") (hm : X.mg "enumerate" = none) (ha : SA X G W [e] ms) (hs : starEach [e] X.env = [(false, eval e X.env)]) : SI X G W (.Tuple elts j p2) (.Call (.Name "enumerate" p) [e] [] pos) (mSrcA enD ms) := SI.en q.hK hg hm ha hs
theorem i_zp {elts : List Expr} {j : Nat} (q : Bc X G k W) (hg : Gl X "zip") (hm : X.mg "zip" = none) (ha : SA X G W [a, b] ms) (hs : starEach [a, b] X.env = [(false, eval a X.env), (false, eval b X.env)]) (hs2 : starEach [b] X.env = [(false, eval b X.env)]) : SI X G W (.Tuple elts j p2) (.Call (.Name "zip" p) [a, b] [] pos) (mSrcA zpD ms) := SI.zp q.hK hg hm ha hs hs2
end
end ML

set_option maxHeartbeats 1000000
namespace ML
open PySem PySem.Spec PyProof.Rows L2
section
variable {P : Program} {w : World} {mg : Str → Option Value} {base : Heap} {G : Wd} {k : Nat}
theorem fn_mk {x qual : Str} {st : Stmt} {f : Addr} {fd : FuncData} {N ps : List Str} {mb : Loc → M Fl} (F : Fun G.K x qual st f fd) (hw : w = G.w) (S : FnScope N ps (defScope st))
    (body : ∀ (cdv : Value) (A : Around) (outer : List Env) (s : Shared) (H : Hp) (E : XK), Bd (cxOf (L2.CX P w) P w G.K mg base N qual (defScope st) f cdv A outer s H E) G k (fun cls d _ H => E cls d H) →
      SSs (cxOf (L2.CX P w) P w G.K mg base N qual (defScope st) f cdv A outer s H E) G (fun _ => true) (fun cls d _ H => E cls d H) (defBody st) mb) : FnOk P w G.K mg base (L2.CX P w) (k + 1) f fd ps (spM G ps.length (defM N mb)) := by
  refine F.okX S (fun vs H Q E ⟨ι, S', ds, r, hd, hl, o⟩ => hd.length.trans hl) (fun cdv A outer s H vs Q E hr ⟨ι, S', ds, r, hd, hl, o⟩ => ?_)
  refine ⟨_, pSs, body cdv A outer s H E ⟨⟨rfl, hw, rfl, hr, takes_of rfl rfl rfl rfl⟩, passes_of rfl⟩ ι S' H _ (startL N ds) _ r (start_env hd) ?_⟩
  have o : Ok G ι H (bnd (mb (startL N ds)) flD S') _ _ := o
  refine o.bnd.imp (fun ι1 S1 H1 fl g1 r1 h1 => ?_) fun ι1 S1 H1 c fs h ad σ' v _ => h ad v
  cases fl with
  | nx ρ => exact fun σ' _ _ => Ok.fin (P := PQ G Q) (a := D.non) h1 r1 .non rfl
  | rt d => exact fun v hv => Ok.fin (P := PQ G Q) (a := d) h1 r1 v hv
  | bk ρ => exact h1.elim
  | ct ρ => exact h1.elim
theorem Hf.of {x : Str} {ps : List Str} {m : List D → M D} {f : Addr} {fd : FuncData} (F : FnOk P w G.K mg base (L2.CX P w) k f fd ps (spM G ps.length m)) (gm : mg x = some (.ref f)) (kp : PySem.W.keepIn G.K (.ref f) = true) (bn : Binds G.K fd ps []) : Hf P w mg base G k x ps m := ⟨f, fd, F, gm, kp, bn⟩
end
/-! ### targets let no error out -/
theorem ne_nm {i : Nat} (d : D) (ρ : Loc) (S : Sto) : (∃ ρ' S', gNm i d ρ S = .ok ρ' S') ∨ gNm i d ρ S = .bad := .inl ⟨_, _, rfl⟩
theorem ne_nl (ds : List D) (ρ : Loc) (S : Sto) : (∃ ρ' S', gNl ds ρ S = .ok ρ' S') ∨ gNl ds ρ S = .bad := by
  cases ds with
  | nil => exact .inl ⟨_, _, rfl⟩
  | cons _ _ => exact .inr rfl
theorem ne_cn {m : D → ME Loc} {m2 : List D → ME Loc} (h1 : ∀ d ρ S, (∃ ρ' S', m d ρ S = .ok ρ' S') ∨ m d ρ S = .bad) (h2 : ∀ d ρ S, (∃ ρ' S', m2 d ρ S = .ok ρ' S') ∨ m2 d ρ S = .bad) (ds : List D) (ρ : Loc) (S : Sto) : (∃ ρ' S', gCn m m2 ds ρ S = .ok ρ' S') ∨ gCn m m2 ds ρ S = .bad := by
  cases ds with
  | nil => exact .inr rfl
  | cons d r =>
    show (∃ ρ' S', bnd (m d ρ) (fun ρ' => m2 r ρ') S = .ok ρ' S') ∨ bnd (m d ρ) (fun ρ' => m2 r ρ') S = .bad
    unfold bnd
    rcases h1 d ρ S with ⟨ρ1, S1, e⟩ | e
    · rw [e]; exact h2 r ρ1 S1
    · rw [e]; exact .inr rfl
theorem ne_tp {n : Nat} {m : List D → ME Loc} (h : ∀ d ρ S, (∃ ρ' S', m d ρ S = .ok ρ' S') ∨ m d ρ S = .bad) (d : D) (ρ : Loc) (S : Sto) : (∃ ρ' S', gTp n m d ρ S = .ok ρ' S') ∨ gTp n m d ρ S = .bad := by
  cases d with
  | tup ds =>
    show (∃ ρ' S', (if ds.length = n then m ds ρ else bad) S = .ok ρ' S') ∨ (if ds.length = n then m ds ρ else bad) S = .bad
    by_cases q : ds.length = n
    · rw [if_pos q]; exact h ds ρ S
    · rw [if_neg q]; exact .inr rfl
  | _ => exact .inr rfl
end ML

set_option maxHeartbeats 1000000
namespace ML
open PySem PySem.Spec PyProof.Rows L2
/-! ### what is seen of the text, by Bool -/
def isSt : Expr → Bool
  | .Starred _ _ => true
  | _ => false
def noSt : List Expr → Bool
  | [] => true
  | e :: es => !isSt e && noSt es
theorem star1 {e : Expr} {es : List Expr} {env : Env} (h : isSt e = false) : starEach (e :: es) env = (false, eval e env) :: starEach es env := by
  cases e <;> first | (cases h; done) | (simp only [starEach])
theorem starP {pos : Pos} {env : Env} : ∀ {es : List Expr}, noSt es = true → (backTo pos (starEach es env)).any (·.1) = false
  | [], _ => by simp [starEach, backTo]
  | e :: es, h => by
    unfold noSt at h
    rw [Bool.and_eq_true, Bool.not_eq_true'] at h
    rw [star1 h.1]
    show (false || (backTo pos (starEach es env)).any (·.1)) = false
    rw [starP h.2]; rfl
theorem starA {pos : Pos} {env : Env} : ∀ {es : List Expr}, noSt es = true → (backTo pos (starEach es env)).all (fun x => !x.1) = true
  | [], _ => by simp [starEach, backTo]
  | e :: es, h => by
    unfold noSt at h
    rw [Bool.and_eq_true, Bool.not_eq_true'] at h
    rw [star1 h.1]
    show (true && (backTo pos (starEach es env)).all (fun x => !x.1)) = true
    rw [starA h.2]; rfl
theorem starF {pos : Pos} {env : Env} {es : List Expr} (h : noSt es = true) (hl : es.length < 30) : ((backTo pos (starEach es env)).all (fun x => !x.1) && (backToKw pos (keywordEach [] env)).all (fun x => x.1.isSome) && decide (es.length + ([] : List Keyword).length + (if ([] : List Keyword).isEmpty then 0 else 1) < 30)) = true := by
  rw [starA h]
  simp [keywordEach, backToKw, hl]
theorem star1' {e : Expr} {env : Env} (h : isSt e = false) : starEach [e] env = [(false, eval e env)] := by rw [star1 h]; simp only [starEach]
theorem star2' {e e2 : Expr} {env : Env} (h : isSt e = false) (h2 : isSt e2 = false) : starEach [e, e2] env = [(false, eval e env), (false, eval e2 env)] := by rw [star1 h, star1' h2]
/-- no call without arguments of a name: super is none of it -/
def noSup : Expr → Bool
  | .Call (.Name _ _) [] [] _ => false
  | _ => true
theorem abase {o : Expr} {n : Str} {env : Env} {w : Sem Value} (h : noSup o = true) : attributeBase o n env w = w := by
  unfold attributeBase
  split
  · cases h
  · rfl
def noCmp : Expr → Bool
  | .ListComp .. => false
  | .SetComp .. => false
  | .DictComp .. => false
  | _ => true
theorem nosw {e : Expr} {t : Option Expr} {l : Nat} {env : Env} (h : noCmp e = true) : swapsWith e t l env = pure false := by
  unfold swapsWith
  cases e <;> first | (cases h; done) | rfl
section
variable {X : Cx} {G : Wd} {W : WX} {k : Nat} {A : Nat → Bool} {pos p p2 apos cpos : Pos} {e a b c : Expr} {es : List Expr} {ma mb mc mo : ME D} {ms : ME (List D)} {x : Str}
theorem a_c (h : SE X G W e ma) (r : SA X G W es ms) (hs : isSt e = false) : SA X G W (e :: es) (mCons ma ms) := SA.cons h r (star1 hs)
theorem c_len (q : Bc X G k W) (hg : Gl X "len") (hm : X.mg "len" = none) (ha : SA X G W (e :: es) ms) (hs : noSt (e :: es) = true) : SE X G W (.Call (.Name "len" p) (e :: es) [] pos) (mB fLen ms) := by
  have hs' := hs
  unfold noSt at hs
  rw [Bool.and_eq_true, Bool.not_eq_true'] at hs
  exact e_len q hg hm ha (star1 hs.1) (starP hs.2)
theorem c_tuple (q : Bc X G k W) (hg : Gl X "tuple") (hm : X.mg "tuple" = none) (ha : SA X G W (e :: es) ms) (hs : noSt (e :: es) = true) : SE X G W (.Call (.Name "tuple" p) (e :: es) [] pos) (mB fTup ms) := by
  unfold noSt at hs
  rw [Bool.and_eq_true, Bool.not_eq_true'] at hs
  exact e_tuple q hg hm ha (star1 hs.1) (starP hs.2)
theorem c_list (q : Bc X G k W) (hg : Gl X "list") (hm : X.mg "list" = none) (ha : SA X G W (e :: es) ms) (hs : noSt (e :: es) = true) : SE X G W (.Call (.Name "list" p) (e :: es) [] pos) (mB fList ms) := by
  unfold noSt at hs
  rw [Bool.and_eq_true, Bool.not_eq_true'] at hs
  exact e_list q hg hm ha (star1 hs.1) (starP hs.2)
theorem c_B {id : String} {g : List D → M D} (hc : CallD X G (.builtin id) g) (hg : Gl X x) (hm : X.mg x = none) (hv : bootBuiltins x = some (.builtin id)) (ha : SA X G W (e :: es) ms) (hn : x ≠ "__name__") (hdb : (x == ("__debug__" : Str)) = false) (hs : noSt (e :: es) = true) : SE X G W (.Call (.Name x p) (e :: es) [] pos) (mB g ms) := by
  unfold noSt at hs
  rw [Bool.and_eq_true, Bool.not_eq_true'] at hs
  exact SE.callB hc hg hm hv ha hn hdb (star1 hs.1) (starP hs.2)
theorem c_T {T : String} {g : List D → M D} (hc : CallD X G (.type T) g) (hg : Gl X x) (hm : X.mg x = none) (hv : bootBuiltins x = some (.type T)) (ha : SA X G W (e :: es) ms) (hn : x ≠ "__name__") (hdb : (x == ("__debug__" : Str)) = false) (hs : noSt (e :: es) = true) : SE X G W (.Call (.Name x p) (e :: es) [] pos) (mB g ms) := by
  unfold noSt at hs
  rw [Bool.and_eq_true, Bool.not_eq_true'] at hs
  exact SE.callTy hc hg hm hv ha hn hdb (star1 hs.1) (starP hs.2)
theorem c_fn {j : Nat} {ps : List Str} {m : List D → M D} (x : Str) (h : Hf X.prog X.w X.mg X.base G j x ps m) (b : Bc X G k W) (le : j ≤ k) (hg : Gl X x) (ha : SA X G W (e :: es) ms) (hdb : (x == ("__debug__" : Str)) = false) (hs : noSt (e :: es) = true) : SE X G W (.Call (.Name x p) (e :: es) [] pos) (mCall ps.length m ms) := by
  unfold noSt at hs
  rw [Bool.and_eq_true, Bool.not_eq_true'] at hs
  exact SE.call h b le hg ha hdb (star1 hs.1) (starP hs.2)
theorem c_fn0 {j : Nat} {m : List D → M D} (x : Str) (h : Hf X.prog X.w X.mg X.base G j x [] m) (b : Bc X G k W) (le : j ≤ k) (hg : Gl X x) (hdb : (x == ("__debug__" : Str)) = false) : SE X G W (.Call (.Name x p) [] [] pos) (fun _ => m []) := SE.call0 h b le hg rfl hdb
theorem c_isi {T : Str} (t : TyN) (q : Bc X G k W) (ht : t ≠ .non) (h : SE X G W e ma) (hg : Gl X "isinstance") (hm : X.mg "isinstance" = none) (hgT : Gl X T) (hmT : X.mg T = none) (hvT : bootBuiltins T = some (.type t.nm)) (hnT : T ≠ "__name__") (hdT : (T == ("__debug__" : Str)) = false) (hs : isSt e = false) : SE X G W (.Call (.Name "isinstance" p) [e, .Name T p2] [] pos) (mIsi t ma) :=
  SE.isi q.hK ht h hg hm hgT hmT hvT hnT hdT (star1 hs) (star1 rfl) (starP rfl)
theorem c_lzip (q : Bc X G k W) (hg : Gl X "list") (hm : X.mg "list" = none) (hg2 : Gl X "zip") (hm2 : X.mg "zip" = none) (ha : SA X G W [a, b] ms) (hs : isSt a = false) (hs2 : isSt b = false) : SE X G W (.Call (.Name "list" p2) [.Call (.Name "zip" p) [a, b] [] pos] [] cpos) (mLzip ms) :=
  SE.lzip q.hK q.hc hg hm hg2 hm2 ha (star2' hs hs2) (star1' hs2) (star1 rfl)
theorem c_bm {t : Rt} {name : Str} {id : String} {g : D → List D → M D} (pa : PlainAttrs t.nm) (slot : Slot t.nm name id) (hty : typeOf (.builtin id) = pure (.type "method_descriptor")) (hm : MtD X G id g) (ho : SE X G W e mo) (ha : SA X G W (a :: es) ms) (hb : noSup e = true) (hs : noSt (a :: es) = true) (hl : (a :: es).length < 30) (hline : (apos.endLine == cpos.line) = true) : SE X G W (.Call (.Attribute e name apos) (a :: es) [] cpos) (mBm t g mo ms) := by
  have h2 := hs
  unfold noSt at h2
  rw [Bool.and_eq_true, Bool.not_eq_true'] at h2
  exact SE.bm pa slot hty hm ho ha (abase hb) (starF hs hl) hline (star1 h2.1) (starP h2.2)
theorem c_bm0 {t : Rt} {name : Str} {id : String} {g : D → List D → M D} (pa : PlainAttrs t.nm) (slot : Slot t.nm name id) (hty : typeOf (.builtin id) = pure (.type "method_descriptor")) (hm : MtD X G id g) (ho : SE X G W e mo) (hb : noSup e = true) (hline : (apos.endLine == cpos.line) = true) : SE X G W (.Call (.Attribute e name apos) [] [] cpos) (mBm0 t g mo) := SE.bm0 pa slot hty hm ho (abase hb) hline
theorem s_expr (h : SE X G W e ma) (hs : noCmp e = true) : SS X G A W (.Expr e pos) (mEx ma) := SS.expr h (nosw hs)
theorem s_set (i : Nat) {pos' : Pos} (hN : X.N.Nodup) (hi : X.N[i]? = some x) (hx : L2.Loc X.env.scope x) (he : SE X G W e ma) (hs : noCmp e = true) (hf : X.fn x = true ∨ X.env.scope.names.lookup x = some .local) (hA : A i = true) : SS X G A W (.Assign [.Name x pos'] e pos) (mSet i ma) := SS.set hN hi hx he (nosw hs) hf hA
theorem j_r1 {tg : Expr} (hg : Gl X "range") (hm : X.mg "range" = none) (ha : SA X G W [a] ms) (hs : isSt a = false) : SI X G W tg (.Call (.Name "range" p) [a] [] pos) (mSrcA rng1 ms) := SI.r1 hg hm ha (star1' hs)
theorem j_r2 {tg : Expr} (hg : Gl X "range") (hm : X.mg "range" = none) (ha : SA X G W [a, b] ms) (hs : isSt a = false) (hs2 : isSt b = false) : SI X G W tg (.Call (.Name "range" p) [a, b] [] pos) (mSrcA rng2 ms) := SI.r2 hg hm ha (star2' hs hs2) (star1' hs2)
theorem j_r3 {tg : Expr} (hg : Gl X "range") (hm : X.mg "range" = none) (ha : SA X G W [a, b, c] ms) (hs : noSt [a, b, c] = true) : SI X G W tg (.Call (.Name "range" p) [a, b, c] [] pos) (mSrcA rng3 ms) := by
  unfold noSt at hs
  rw [Bool.and_eq_true, Bool.not_eq_true'] at hs
  exact SI.r3 hg hm ha (star1 hs.1) (starP hs.2)
theorem j_en {elts : List Expr} {j : Nat} (q : Bc X G k W) (hg : Gl X "enumerate") (hm : X.mg "enumerate" = none) (ha : SA X G W [e] ms) (hs : isSt e = false) : SI X G W (.Tuple elts j p2) (.Call (.Name "enumerate" p) [e] [] pos) (mSrcA enD ms) := SI.en q.hK hg hm ha (star1' hs)
theorem j_zp {elts : List Expr} {j : Nat} (q : Bc X G k W) (hg : Gl X "zip") (hm : X.mg "zip" = none) (ha : SA X G W [a, b] ms) (hs : isSt a = false) (hs2 : isSt b = false) : SI X G W (.Tuple elts j p2) (.Call (.Name "zip" p) [a, b] [] pos) (mSrcA zpD ms) := SI.zp q.hK hg hm ha (star2' hs hs2) (star1' hs2)
theorem s_nil : SSs X G A W [] mNx := SSs.nil
theorem s_pass : SS X G A W (.Pass pos) mNx := SS.pass
theorem s_brk : SS X G A W (.Break pos) mBk := SS.brk
theorem s_cnt : SS X G A W (.Continue pos) mCt := SS.cnt
theorem s_retN : SS X G A W (.Return none pos) mRtN := SS.retN
theorem s_doc {y : Str} {j : Nat} : SS X G A W (.Expr (.Constant (.str y) j pos) p2) mNx := SS.doc
theorem l_yes : STs X G W [] mYes := STs.nil
end
end ML

set_option maxHeartbeats 1000000
namespace ML
open PySem PySem.Spec PyProof.Rows L2
/-! the mirrors, not to be looked into by unification (printed by mk18.py) -/
structure JE (X : Cx) (G : Wd) (W : WX) (e : Expr) (m : ME D) : Prop where
  run : SE X G W e m
structure JA (X : Cx) (G : Wd) (W : WX) (e : List Expr) (m : ME (List D)) : Prop where
  run : SA X G W e m
structure JT (X : Cx) (G : Wd) (W : WX) (e : Expr) (m : ME Bool) : Prop where
  run : ST X G W e m
structure JW (X : Cx) (G : Wd) (W : WX) (e : Expr) (m : ME Bool) : Prop where
  run : SW X G W e m
structure JTs (X : Cx) (G : Wd) (W : WX) (e : List Expr) (m : ME Bool) : Prop where
  run : STs X G W e m
structure JO (X : Cx) (G : Wd) (W : WX) (e : Option Expr) (m : ME (Option Int)) : Prop where
  run : SO X G W e m
structure JI (X : Cx) (G : Wd) (W : WX) (tg e : Expr) (m : ME Src) : Prop where
  run : SI X G W tg e m
structure JS (X : Cx) (G : Wd) (A : Nat → Bool) (W : WX) (e : Stmt) (m : ML.Loc → M Fl) : Prop where
  run : SS X G A W e m
structure JSs (X : Cx) (G : Wd) (A : Nat → Bool) (W : WX) (e : List Stmt) (m : ML.Loc → M Fl) : Prop where
  run : SSs X G A W e m
structure JG (X : Cx) (G : Wd) (A : Nat → Bool) (W : WX) (e : Expr) (m : D → ME ML.Loc) : Prop where
  run : SG X G A W e m
structure JGs (X : Cx) (G : Wd) (A : Nat → Bool) (W : WX) (e : List Expr) (m : List D → ME ML.Loc) : Prop where
  run : SGs X G A W e m
theorem n_SW_t {X : Cx} {G : Wd} {W : WX} {e : Expr} {m : ME Bool} (h : JW X G W e m) : JT X G W e m := ⟨SW.t h.run⟩
@[irreducible] def nV := @mV
@[irreducible] def nC := @mC
@[irreducible] def nBin := @mBin
@[irreducible] def nUn := @mUn
@[irreducible] def nChV := @mChV
@[irreducible] def nChT := @mChT
@[irreducible] def nCmpT := @mCmpT
@[irreducible] def nValT := @mValT
@[irreducible] def nAndT := @mAndT
@[irreducible] def nOrT := @mOrT
@[irreducible] def nNotT := @mNotT
@[irreducible] def nAndV := @mAndV
@[irreducible] def nOrV := @mOrV
@[irreducible] def nNotV := @mNotV
@[irreducible] def nIfE := @mIfE
@[irreducible] def nNil := @mNil
@[irreducible] def nCons := @mCons
@[irreducible] def nTupE := @mTupE
@[irreducible] def nLstE := @mLstE
@[irreducible] def nIx := @mIx
@[irreducible] def nSl := @mSl
@[irreducible] def nNoI := @mNoI
@[irreducible] def nSoI := @mSoI
@[irreducible] def nB := @mB
@[irreducible] def nSrc := @mSrc
@[irreducible] def nSrcA := @mSrcA
@[irreducible] def nNx := @mNx
@[irreducible] def nBk := @mBk
@[irreducible] def nCt := @mCt
@[irreducible] def nRtN := @mRtN
@[irreducible] def nYes := @mYes
@[irreducible] def nSet := @mSet
@[irreducible] def nAsg := @mAsg
@[irreducible] def nEx := @mEx
@[irreducible] def nRt := @mRt
@[irreducible] def nIf := @mIf
@[irreducible] def nFor := @mFor
@[irreducible] def nAug := @mAug
@[irreducible] def nSeq := @mSeq
@[irreducible] def nPar := @mPar
@[irreducible] def nCall := @mCall
@[irreducible] def nBm := @mBm
@[irreducible] def nBm0 := @mBm0
@[irreducible] def nIsi := @mIsi
@[irreducible] def nDisp := @mDisp
@[irreducible] def nLzip := @mLzip
@[irreducible] def nLc := @mLc
@[irreducible] def hNm := @gNm
@[irreducible] def hTp := @gTp
@[irreducible] def hNl := @gNl
@[irreducible] def hCn := @gCn
@[irreducible] noncomputable def nWh := @whM
section
variable {X : Cx} {G : Wd} {A : Nat → Bool} {W : WX} {pos : Pos} {e : Expr} {es : List Expr} {m : D → ME Loc} {m2 : List D → ME Loc}
theorem n_SG_name {i : Nat} {x : Str} (hN : X.N.Nodup) (hi : X.N[i]? = some x) (hx : L2.Loc X.env.scope x) (hf : X.fn x = true ∨ X.env.scope.names.lookup x = some .local) (hA : A i = true) : JG X G A W (.Name x pos) (hNm i) := by
  unfold hNm; exact ⟨SG.name hN hi hx hf hA⟩
end
section
variable {X : Cx} {G : Wd} {A : Nat → Bool} {W : WX} {pos : Pos} {e : Expr} {es : List Expr} {m : D → ME Loc} {m2 : List D → ME Loc}
theorem n_SG_tup {k n : Nat} (hK : X.K = G.K) (hc : X.calm = true) (h : JGs X G A W es m2) (hn : (assignEach es X.env).length = n) (hst : (assignEach es X.env).findIdx? (·.1) = none) : JG X G A W (.Tuple es k pos) (hTp n m2) := by
  unfold hTp; exact ⟨SG.tup hK hc h.run hn hst⟩
end
section
variable {X : Cx} {G : Wd} {A : Nat → Bool} {W : WX} {pos : Pos} {e : Expr} {es : List Expr} {m : D → ME Loc} {m2 : List D → ME Loc}
theorem n_SGs_nil  : JGs X G A W [] hNl := by
  unfold hNl; exact ⟨SGs.nil ⟩
end
section

theorem n_SGs_cons {X : Cx} {G : Wd} {A : Nat → Bool} {e : Expr} {es : List Expr} {m : D → ME Loc} {m2 : List D → ME Loc} {W : WX} (h1 : ∀ W, JG X G A W e m) (h2 : ∀ W, JGs X G A W es m2) (hs : (assignEach (e :: es) X.env).map (·.2) = assign e X.env :: (assignEach es X.env).map (·.2)) (ne : ∀ d ρ S, (∃ ρ' S', m d ρ S = .ok ρ' S') ∨ m d ρ S = .bad) (ne2 : ∀ d ρ S, (∃ ρ' S', m2 d ρ S = .ok ρ' S') ∨ m2 d ρ S = .bad) : JGs X G A W (e :: es) (hCn m m2) := by
  unfold hCn; exact ⟨SGs.cons (fun W => (h1 W).run) (fun W => (h2 W).run) hs ne ne2⟩
end
section

theorem n_STs_one {X : Cx} {G : Wd} {W : WX} {c : Expr} {m : ME Bool} (h : JT X G W c m) : JTs X G W [c] m := by
  exact ⟨STs.one h.run⟩
end
section
variable {X : Cx} {G : Wd} {W : WX} {tg iter elt : Expr} {ifs : List Expr} {scope : Scope} {own : List (Str × Nat)} {pos : Pos} {mi : ME Src} {mg : D → ME Loc} {mt : ME Bool} {me : ME D} {A : Nat → Bool}
theorem n_SE_lc (hc : X.calm = true) (hN : X.N.Nodup) (hi : JI X G W tg iter mi) (ok : blkC X.N X.env.scope scope own = true) (hA : ∀ i, A i = true → i ∈ own.map (·.2)) (hg : ∀ (s : Shared) (H : Hp) (C : Addr) (cl : List (Str × Addr)) (fp : List Addr), JG (X.blk s H scope (compEnvC scope cl C X.env) fp) G A WF tg mg) (ht : ∀ (s : Shared) (H : Hp) (C : Addr) (cl : List (Str × Addr)) (fp : List Addr), JTs (X.blk s H scope (compEnvC scope cl C X.env) fp) G WF ifs mt) (he : ∀ (s : Shared) (H : Hp) (C : Addr) (cl : List (Str × Addr)) (fp : List Addr), JE (X.blk s H scope (compEnvC scope cl C X.env) fp) G WF elt me) (hs : ∀ x, foldedSetIterable iter X.env x = pure x) :
    JE X G W (.ListComp elt [⟨tg, iter, ifs, 0⟩] scope pos) (nLc (own.map (·.2)) mi mg mt me) := by
  unfold nLc; exact ⟨SE.lc hc hN hi.run ok hA (fun s H C cl fp => (hg s H C cl fp).run) (fun s H C cl fp => (ht s H C cl fp).run) (fun s H C cl fp => (he s H C cl fp).run) hs⟩
end
section
variable {X : Cx} {G : Wd} {A : Nat → Bool} {W : WX} {pos p2 : Pos} {st : Stmt} {sts body : List Stmt} {e iter tg c : Expr} {me : ME D} {mc : ME Bool} {m m1 m2 : Loc → M Fl} {mi : ME Src} {mg : D → ME Loc}
theorem n_SSs_one (h : JS X G A W st m) : JSs X G A W [st] m := by
  exact ⟨SSs.one h.run⟩
end
section
variable {X : Cx} {G : Wd} {A : Nat → Bool} {W : WX} {pos p2 : Pos} {st : Stmt} {sts body : List Stmt} {e iter tg c : Expr} {me : ME D} {mc : ME Bool} {m m1 m2 : Loc → M Fl} {mi : ME Src} {mg : D → ME Loc}
theorem n_SSs_cons (h : JS X G A W st m1) (k : JSs X G A W sts m2) : JSs X G A W (st :: sts) (nSeq m1 m2) := by
  unfold nSeq; exact ⟨SSs.cons h.run k.run⟩
end
section
variable {X : Cx} {G : Wd} {A : Nat → Bool} {W : WX} {pos p2 : Pos} {st : Stmt} {sts body : List Stmt} {e iter tg c : Expr} {me : ME D} {mc : ME Bool} {m m1 m2 : Loc → M Fl} {mi : ME Src} {mg : D → ME Loc}
theorem n_SS_ret (h : JE X G W e me) : JS X G A W (.Return (some e) pos) (nRt me) := by
  unfold nRt; exact ⟨SS.ret h.run⟩
end
section
variable {X : Cx} {G : Wd} {A : Nat → Bool} {W : WX} {pos p2 : Pos} {st : Stmt} {sts body : List Stmt} {e iter tg c : Expr} {me : ME D} {mc : ME Bool} {m m1 m2 : Loc → M Fl} {mi : ME Src} {mg : D → ME Loc}
theorem n_SS_ifS (hc : JT X G W c mc) (ha : JSs X G A W sts m1) (hb : JSs X G A W body m2) : JS X G A W (.If c sts body pos) (nIf mc m1 m2) := by
  unfold nIf; exact ⟨SS.ifS hc.run ha.run hb.run⟩
end
section
variable {X : Cx} {G : Wd} {A : Nat → Bool} {W : WX} {pos p2 : Pos} {st : Stmt} {sts body : List Stmt} {e iter tg c : Expr} {me : ME D} {mc : ME Bool} {m m1 m2 : Loc → M Fl} {mi : ME Src} {mg : D → ME Loc}
theorem n_SS_asg (he : JE X G W e me) (hg : JG X G A W tg mg) (hs : swapsWithSole [tg] e pos.line X.env = pure false) (hw : swappedStores [tg] e X.env = pure none) (h1 : (assignEach [tg] X.env).map (·.2) = [assign tg X.env]) :
    JS X G A W (.Assign [tg] e pos) (nAsg me mg) := by
  unfold nAsg; exact ⟨SS.asg he.run hg.run hs hw h1⟩
end
section
variable {X : Cx} {G : Wd} {A : Nat → Bool} {W : WX} {pos p2 : Pos} {st : Stmt} {sts body : List Stmt} {e iter tg c : Expr} {me : ME D} {mc : ME Bool} {m m1 m2 : Loc → M Fl} {mi : ME Src} {mg : D → ME Loc}
theorem n_SS_par {i j : Nat} {x y : Str} {a b : Expr} {ms : ME (List D)} {px py pt : Pos} {kt k2 pt2} (hc : X.calm = true) (hN : X.N.Nodup) (hi : X.N[i]? = some x) (hj : X.N[j]? = some y) (hij : i ≠ j) (hx : X.env.scope.names.lookup x = some .local) (hy : X.env.scope.names.lookup y = some .local) (ha : JA X G W [a, b] ms) (hw : swappedStores [.Tuple [.Name x px, .Name y py] kt pt] (.Tuple [a, b] k2 pt2) X.env = pure (some [x, y])) (hs : swapsWithSole [.Tuple [.Name x px, .Name y py] kt pt] (.Tuple [a, b] k2 pt2) pos.line X.env = pure false) (hA : A i = true) (hB : A j = true) :
    JS X G A W (.Assign [.Tuple [.Name x px, .Name y py] kt pt] (.Tuple [a, b] k2 pt2) pos) (nPar i j ms) := by
  unfold nPar; exact ⟨SS.par hc hN hi hj hij hx hy ha.run hw hs hA hB⟩
end
section
variable {X : Cx} {G : Wd} {A : Nat → Bool} {W : WX} {pos p2 : Pos} {st : Stmt} {sts body : List Stmt} {e iter tg c : Expr} {me : ME D} {mc : ME Bool} {m m1 m2 : Loc → M Fl} {mi : ME Src} {mg : D → ME Loc}
theorem n_SS_aug {i : Nat} {x : Str} {op : Operator} {g : D → D → M D} {pos' : Pos} (hN : X.N.Nodup) (hi : X.N[i]? = some x) (hx : L2.Loc X.env.scope x) (he : JE X G W e me) (ho : IpD X G op g) (hf : X.fn x = true ∨ X.env.scope.names.lookup x = some .local) (hA : A i = true) :
    JS X G A W (.AugAssign (.Name x pos') op e pos) (nAug i me g) := by
  unfold nAug; exact ⟨SS.aug hN hi hx he.run ho hf hA⟩
end
section
variable {X : Cx} {G : Wd} {A : Nat → Bool} {W : WX} {pos p2 : Pos} {st : Stmt} {sts body : List Stmt} {e iter tg c : Expr} {me : ME D} {mc : ME Bool} {m m1 m2 : Loc → M Fl} {mi : ME Src} {mg : D → ME Loc}
theorem n_SS_forS {b : Loc → M Fl} (hp : PassesOwn (model X.prog X.w) X.A X.env X.xe) (hc : X.calm = true) (hi : JI X G W tg iter mi) (hg : JG X G A W tg mg) (hb : JSs X G A W body b) (hs : ∀ x, foldedSetIterable iter X.env x = pure x) : JS X G A W (.For tg iter body [] pos) (nFor mi mg b) := by
  unfold nFor; exact ⟨SS.forS hp hc hi.run hg.run hb.run hs⟩
end
section
variable {X : Cx} {G : Wd} {A : Nat → Bool} {W : WX} {pos p2 : Pos} {st : Stmt} {sts body : List Stmt} {e iter tg c : Expr} {me : ME D} {mc : ME Bool} {m m1 m2 : Loc → M Fl} {mi : ME Src} {mg : D → ME Loc}
theorem n_SS_while {b : Loc → M Fl} (hp : PassesOwn (model X.prog X.w) X.A X.env X.xe) (hc : JT X G W c mc) (hb : JSs X G A W body b) : JS X G A W (.While c body [] pos) (nWh mc b) := by
  unfold nWh; exact ⟨SS.while hp hc.run hb.run⟩
end
section
variable {X : Cx} {G : Wd} {A : Nat → Bool} {W : WX} {pos p2 : Pos} {st : Stmt} {sts body : List Stmt} {e iter tg c : Expr} {me : ME D} {mc : ME Bool} {m m1 m2 : Loc → M Fl} {mi : ME Src} {mg : D → ME Loc}
theorem n_SS_setLc {i : Nat} {y : Str} {py spos : Pos} {elt : Expr} {ifs : List Expr} {scope : Scope} {own : List (Str × Nat)} {mt : ME Bool} {me' : ME D} {B : Nat → Bool} (hc : X.calm = true) (hN : X.N.Nodup) (hy : X.N[i]? = some y) (hyl : X.env.scope.names.lookup y = some .local) (hsw : swapsWith (.ListComp elt [⟨tg, iter, ifs, 0⟩] scope pos) (some (.Name y py)) spos.line X.env = pure true) (hi : JI X G W tg iter mi) (ok : blkC X.N X.env.scope scope own = true) (hB : ∀ i, B i = true → i ∈ own.map (·.2)) (hg : ∀ (s : Shared) (H : Hp) (C : Addr) (cl : List (Str × Addr)) (fp : List Addr), JG (X.blk s H scope (compEnvC scope cl C X.env) fp) G B WF tg mg) (ht : ∀ (s : Shared) (H : Hp) (C : Addr) (cl : List (Str × Addr)) (fp : List Addr), JTs (X.blk s H scope (compEnvC scope cl C X.env) fp) G WF ifs mt) (he : ∀ (s : Shared) (H : Hp) (C : Addr) (cl : List (Str × Addr)) (fp : List Addr), JE (X.blk s H scope (compEnvC scope cl C X.env) fp) G WF elt me') (hs : ∀ x, foldedSetIterable iter X.env x = pure x) (hA : A i = true) :
    JS X G A W (.Assign [.Name y py] (.ListComp elt [⟨tg, iter, ifs, 0⟩] scope pos) spos) (nSet i (nLc (own.map (·.2)) mi mg mt me')) := by
  unfold nSet nLc; exact ⟨SS.setLc hc hN hy hyl hsw hi.run ok hB (fun s H C cl fp => (hg s H C cl fp).run) (fun s H C cl fp => (ht s H C cl fp).run) (fun s H C cl fp => (he s H C cl fp).run) hs hA⟩
end
section
variable {X : Cx} {G : Wd} {W : WX} {pos : Pos} {keys : List (Option Expr)} {values : List Expr}
theorem n_SE_disp {ts : List (TE × TE)} {ms : List (ME D × ME D)} (h : SPrs X G W pos keys values ts ms) (hall : keys.all (·.isSome) = true) (hl : keys.length = values.length) (h0 : keys ≠ []) (h15 : keys.length ≤ 15) : JE X G W (.Dict keys values pos) (nDisp ms) := by
  unfold nDisp; exact ⟨SE.disp h hall hl h0 h15⟩
end
section
variable {X : Cx} {G : Wd} {W : WX} {k : Nat} {A : Nat → Bool} {pos p p2 apos : Pos} {e a b c : Expr} {es : List Expr} {ma mb mc : ME D} {ta tb : ME Bool} {ms : ME (List D)} {x : Str}
theorem n_e_var (i : Nat) (hN : X.N[i]? = some x) (hv : Vis X.env.scope x) (hd : (x == ("__debug__" : Str)) = false) (hc : (x == ("__classdict__" : Str)) = false) : JE X G W (.Name x pos) (nV i) := by
  unfold nV; exact ⟨e_var i hN hv hd hc⟩
end
section
variable {X : Cx} {G : Wd} {W : WX} {k : Nat} {A : Nat → Bool} {pos p p2 apos : Pos} {e a b c : Expr} {es : List Expr} {ma mb mc : ME D} {ta tb : ME Bool} {ms : ME (List D)} {x : Str}
theorem n_e_glob {d : D} (g : Gv X.mg G x d) (hg : Gl X x) (hd : (x == ("__debug__" : Str)) = false) : JE X G W (.Name x pos) (nC d) := by
  unfold nC; exact ⟨e_glob g hg hd⟩
end
section
variable {X : Cx} {G : Wd} {W : WX} {k : Nat} {A : Nat → Bool} {pos p p2 apos : Pos} {e a b c : Expr} {es : List Expr} {ma mb mc : ME D} {ta tb : ME Bool} {ms : ME (List D)} {x : Str}
theorem n_e_int {i : Int} {j : Nat} : JE X G W (.Constant (.int i) j pos) (nC (.int i)) := by
  unfold nC; exact ⟨e_int ⟩
end
section
variable {X : Cx} {G : Wd} {W : WX} {k : Nat} {A : Nat → Bool} {pos p p2 apos : Pos} {e a b c : Expr} {es : List Expr} {ma mb mc : ME D} {ta tb : ME Bool} {ms : ME (List D)} {x : Str}
theorem n_e_bl {i : Bool} {j : Nat} : JE X G W (.Constant (.bool i) j pos) (nC (.bl i)) := by
  unfold nC; exact ⟨e_bl ⟩
end
section
variable {X : Cx} {G : Wd} {W : WX} {k : Nat} {A : Nat → Bool} {pos p p2 apos : Pos} {e a b c : Expr} {es : List Expr} {ma mb mc : ME D} {ta tb : ME Bool} {ms : ME (List D)} {x : Str}
theorem n_e_non {j : Nat} : JE X G W (.Constant .none j pos) (nC .non) := by
  unfold nC; exact ⟨e_non ⟩
end
section
variable {X : Cx} {G : Wd} {W : WX} {k : Nat} {A : Nat → Bool} {pos p p2 apos : Pos} {e a b c : Expr} {es : List Expr} {ma mb mc : ME D} {ta tb : ME Bool} {ms : ME (List D)} {x : Str}
theorem n_e_str {i : Str} {j : Nat} : JE X G W (.Constant (.str i) j pos) (nC (.str i)) := by
  unfold nC; exact ⟨e_str ⟩
end
section
variable {X : Cx} {G : Wd} {W : WX} {k : Nat} {A : Nat → Bool} {pos p p2 apos : Pos} {e a b c : Expr} {es : List Expr} {ma mb mc : ME D} {ta tb : ME Bool} {ms : ME (List D)} {x : Str}
theorem n_e_bin (q : Bc X G k W) {op : Operator} (ha : JE X G W a ma) (hb : JE X G W b mb) : JE X G W (.BinOp a op b pos) (nBin (evBin op) ma mb) := by
  unfold nBin; exact ⟨e_bin q ha.run hb.run⟩
end
section
variable {X : Cx} {G : Wd} {W : WX} {k : Nat} {A : Nat → Bool} {pos p p2 apos : Pos} {e a b c : Expr} {es : List Expr} {ma mb mc : ME D} {ta tb : ME Bool} {ms : ME (List D)} {x : Str}
theorem n_e_un {op : UnaryOp} (ha : JE X G W a ma) : JE X G W (.UnaryOp op a pos) (nUn (evUn op) ma) := by
  unfold nUn; exact ⟨e_un ha.run⟩
end
section
variable {X : Cx} {G : Wd} {W : WX} {k : Nat} {A : Nat → Bool} {pos p p2 apos : Pos} {e a b c : Expr} {es : List Expr} {ma mb mc : ME D} {ta tb : ME Bool} {ms : ME (List D)} {x : Str}
theorem n_e_cmp (q : Bc X G k W) {op : CmpOp} (ha : JE X G W a ma) (hb : JE X G W b mb) (hm : behindInMarks op b = false) : JE X G W (.Compare a [op] [b] pos) (nBin (evCmp op) ma mb) := by
  unfold nBin; exact ⟨e_cmp q ha.run hb.run hm⟩
end
section
variable {X : Cx} {G : Wd} {W : WX} {k : Nat} {A : Nat → Bool} {pos p p2 apos : Pos} {e a b c : Expr} {es : List Expr} {ma mb mc : ME D} {ta tb : ME Bool} {ms : ME (List D)} {x : Str}
theorem n_t_cmp (q : Bc X G k W) {op : CmpOp} (ha : JE X G W a ma) (hb : JE X G W b mb) (hm : behindInMarks op b = false) : JT X G W (.Compare a [op] [b] pos) (nCmpT (evCmp op) ma mb) := by
  unfold nCmpT; exact ⟨t_cmp q ha.run hb.run hm⟩
end
section
variable {X : Cx} {G : Wd} {W : WX} {k : Nat} {A : Nat → Bool} {pos p p2 apos : Pos} {e a b c : Expr} {es : List Expr} {ma mb mc : ME D} {ta tb : ME Bool} {ms : ME (List D)} {x : Str}
theorem n_e_chain (q : Bc X G k W) {op op' : CmpOp} (ha : JE X G W a ma) (hb : JE X G W b mb) (hc : JE X G W c mc) (hm : behindInMarks op' c = false) : JE X G W (.Compare a [op, op'] [b, c] pos) (nChV (evCmp op) (evCmp op') ma mb mc) := by
  unfold nChV; exact ⟨e_chain q ha.run hb.run hc.run hm⟩
end
section
variable {X : Cx} {G : Wd} {W : WX} {k : Nat} {A : Nat → Bool} {pos p p2 apos : Pos} {e a b c : Expr} {es : List Expr} {ma mb mc : ME D} {ta tb : ME Bool} {ms : ME (List D)} {x : Str}
theorem n_t_chain (q : Bc X G k W) {op op' : CmpOp} (ha : JE X G W a ma) (hb : JE X G W b mb) (hc : JE X G W c mc) (hm : behindInMarks op' c = false) : JT X G W (.Compare a [op, op'] [b, c] pos) (nChT (evCmp op) (evCmp op') ma mb mc) := by
  unfold nChT; exact ⟨t_chain q ha.run hb.run hc.run hm⟩
end
section
variable {X : Cx} {G : Wd} {W : WX} {k : Nat} {A : Nat → Bool} {pos p p2 apos : Pos} {e a b c : Expr} {es : List Expr} {ma mb mc : ME D} {ta tb : ME Bool} {ms : ME (List D)} {x : Str}
theorem n_t_val (h : JE X G W e ma) (he : ∀ whole, isTrue e X.env whole = (do let v ← whole; standAt e.pos; holding [v] (truthy v))) : JT X G W e (nValT ma) := by
  unfold nValT; exact ⟨t_val h.run he⟩
end
section
variable {X : Cx} {G : Wd} {W : WX} {k : Nat} {A : Nat → Bool} {pos p p2 apos : Pos} {e a b c : Expr} {es : List Expr} {ma mb mc : ME D} {ta tb : ME Bool} {ms : ME (List D)} {x : Str}
theorem n_w_and1 (h : JT X G W a ta) : JW X G W (.BoolOp .And [a] pos) ta := by
  exact ⟨w_and1 h.run⟩
end
section
variable {X : Cx} {G : Wd} {W : WX} {k : Nat} {A : Nat → Bool} {pos p p2 apos : Pos} {e a b c : Expr} {es : List Expr} {ma mb mc : ME D} {ta tb : ME Bool} {ms : ME (List D)} {x : Str}
theorem n_w_or1 (h : JT X G W a ta) : JW X G W (.BoolOp .Or [a] pos) ta := by
  exact ⟨w_or1 h.run⟩
end
section
variable {X : Cx} {G : Wd} {W : WX} {k : Nat} {A : Nat → Bool} {pos p p2 apos : Pos} {e a b c : Expr} {es : List Expr} {ma mb mc : ME D} {ta tb : ME Bool} {ms : ME (List D)} {x : Str}
theorem n_w_and (h : JT X G W a ta) (r : JW X G W (.BoolOp .And (b :: es) pos) tb) : JW X G W (.BoolOp .And (a :: b :: es) pos) (nAndT ta tb) := by
  unfold nAndT; exact ⟨w_and h.run r.run⟩
end
section
variable {X : Cx} {G : Wd} {W : WX} {k : Nat} {A : Nat → Bool} {pos p p2 apos : Pos} {e a b c : Expr} {es : List Expr} {ma mb mc : ME D} {ta tb : ME Bool} {ms : ME (List D)} {x : Str}
theorem n_w_or (h : JT X G W a ta) (r : JW X G W (.BoolOp .Or (b :: es) pos) tb) : JW X G W (.BoolOp .Or (a :: b :: es) pos) (nOrT ta tb) := by
  unfold nOrT; exact ⟨w_or h.run r.run⟩
end
section
variable {X : Cx} {G : Wd} {W : WX} {k : Nat} {A : Nat → Bool} {pos p p2 apos : Pos} {e a b c : Expr} {es : List Expr} {ma mb mc : ME D} {ta tb : ME Bool} {ms : ME (List D)} {x : Str}
theorem n_t_not (h : JT X G W a ta) : JT X G W (.UnaryOp .Not a pos) (nNotT ta) := by
  unfold nNotT; exact ⟨t_not h.run⟩
end
section
variable {X : Cx} {G : Wd} {W : WX} {k : Nat} {A : Nat → Bool} {pos p p2 apos : Pos} {e a b c : Expr} {es : List Expr} {ma mb mc : ME D} {ta tb : ME Bool} {ms : ME (List D)} {x : Str}
theorem n_e_one {op : BoolOp} (h : JE X G W a ma) : JE X G W (.BoolOp op [a] pos) ma := by
  exact ⟨e_one h.run⟩
end
section
variable {X : Cx} {G : Wd} {W : WX} {k : Nat} {A : Nat → Bool} {pos p p2 apos : Pos} {e a b c : Expr} {es : List Expr} {ma mb mc : ME D} {ta tb : ME Bool} {ms : ME (List D)} {x : Str}
theorem n_e_and (h : JE X G W a ma) (r : JE X G W (.BoolOp .And (b :: es) pos) mb) : JE X G W (.BoolOp .And (a :: b :: es) pos) (nAndV ma mb) := by
  unfold nAndV; exact ⟨e_and h.run r.run⟩
end
section
variable {X : Cx} {G : Wd} {W : WX} {k : Nat} {A : Nat → Bool} {pos p p2 apos : Pos} {e a b c : Expr} {es : List Expr} {ma mb mc : ME D} {ta tb : ME Bool} {ms : ME (List D)} {x : Str}
theorem n_e_or (h : JE X G W a ma) (r : JE X G W (.BoolOp .Or (b :: es) pos) mb) : JE X G W (.BoolOp .Or (a :: b :: es) pos) (nOrV ma mb) := by
  unfold nOrV; exact ⟨e_or h.run r.run⟩
end
section
variable {X : Cx} {G : Wd} {W : WX} {k : Nat} {A : Nat → Bool} {pos p p2 apos : Pos} {e a b c : Expr} {es : List Expr} {ma mb mc : ME D} {ta tb : ME Bool} {ms : ME (List D)} {x : Str}
theorem n_e_not (h : JE X G W a ma) : JE X G W (.UnaryOp .Not a pos) (nNotV ma) := by
  unfold nNotV; exact ⟨e_not h.run⟩
end
section
variable {X : Cx} {G : Wd} {W : WX} {k : Nat} {A : Nat → Bool} {pos p p2 apos : Pos} {e a b c : Expr} {es : List Expr} {ma mb mc : ME D} {ta tb : ME Bool} {ms : ME (List D)} {x : Str}
theorem n_e_ifE (ht : JT X G W c ta) (ha : JE X G W a ma) (hb : JE X G W b mb) : JE X G W (.IfExp c a b pos) (nIfE ta ma mb) := by
  unfold nIfE; exact ⟨e_ifE ht.run ha.run hb.run⟩
end
section
variable {X : Cx} {G : Wd} {W : WX} {k : Nat} {A : Nat → Bool} {pos p p2 apos : Pos} {e a b c : Expr} {es : List Expr} {ma mb mc : ME D} {ta tb : ME Bool} {ms : ME (List D)} {x : Str}
theorem n_a_nil  : JA X G W [] nNil := by
  unfold nNil; exact ⟨a_nil ⟩
end
section
variable {X : Cx} {G : Wd} {W : WX} {k : Nat} {A : Nat → Bool} {pos p p2 apos : Pos} {e a b c : Expr} {es : List Expr} {ma mb mc : ME D} {ta tb : ME Bool} {ms : ME (List D)} {x : Str}
theorem n_e_tup {j : Nat} (h : JA X G W es ms) : JE X G W (.Tuple es j pos) (nTupE ms) := by
  unfold nTupE; exact ⟨e_tup h.run⟩
end
section
variable {X : Cx} {G : Wd} {W : WX} {k : Nat} {A : Nat → Bool} {pos p p2 apos : Pos} {e a b c : Expr} {es : List Expr} {ma mb mc : ME D} {ta tb : ME Bool} {ms : ME (List D)} {x : Str}
theorem n_e_lst (h : JA X G W es ms) : JE X G W (.List es pos) (nLstE ms) := by
  unfold nLstE; exact ⟨e_lst h.run⟩
end
section
variable {X : Cx} {G : Wd} {W : WX} {k : Nat} {A : Nat → Bool} {pos p p2 apos : Pos} {e a b c : Expr} {es : List Expr} {ma mb mc : ME D} {ta tb : ME Bool} {ms : ME (List D)} {x : Str}
theorem n_e_ix (q : Bc X G k W) (ha : JE X G W a ma) (hb : JE X G W b mb) (hs : PlainIx b) : JE X G W (.Subscript a b pos) (nIx ma mb) := by
  unfold nIx; exact ⟨e_ix q ha.run hb.run hs⟩
end
section
variable {X : Cx} {G : Wd} {W : WX} {k : Nat} {A : Nat → Bool} {pos p p2 apos : Pos} {e a b c : Expr} {es : List Expr} {ma mb mc : ME D} {ta tb : ME Bool} {ms : ME (List D)} {x : Str}
theorem n_e_sl (q : Bc X G k W) {lo hi : Option Expr} {ml mh : ME (Option Int)} (ha : JE X G W a ma) (hl : JO X G W lo ml) (hh : JO X G W hi mh) : JE X G W (.Subscript a (.Slice lo hi none p2) pos) (nSl ma ml mh) := by
  unfold nSl; exact ⟨e_sl q ha.run hl.run hh.run⟩
end
section
variable {X : Cx} {G : Wd} {W : WX} {k : Nat} {A : Nat → Bool} {pos p p2 apos : Pos} {e a b c : Expr} {es : List Expr} {ma mb mc : ME D} {ta tb : ME Bool} {ms : ME (List D)} {x : Str}
theorem n_o_none  : JO X G W none nNoI := by
  unfold nNoI; exact ⟨o_none ⟩
end
section
variable {X : Cx} {G : Wd} {W : WX} {k : Nat} {A : Nat → Bool} {pos p p2 apos : Pos} {e a b c : Expr} {es : List Expr} {ma mb mc : ME D} {ta tb : ME Bool} {ms : ME (List D)} {x : Str}
theorem n_o_some (h : JE X G W e ma) : JO X G W (some e) (nSoI ma) := by
  unfold nSoI; exact ⟨o_some h.run⟩
end
section
variable {X : Cx} {G : Wd} {W : WX} {k : Nat} {A : Nat → Bool} {pos p p2 apos : Pos} {e a b c : Expr} {es : List Expr} {ma mb mc : ME D} {ta tb : ME Bool} {ms : ME (List D)} {x : Str}
theorem n_i_dir {tg : Expr} (q : Bc X G k W) (h : JE X G W e ma) : JI X G W tg e (nSrc ma) := by
  unfold nSrc; exact ⟨i_dir q h.run⟩
end
section

theorem n_ne_nm {i : Nat} (d : D) (ρ : Loc) (S : Sto) : (∃ ρ' S', hNm i d ρ S = .ok ρ' S') ∨ hNm i d ρ S = .bad := by
  unfold hNm; exact ne_nm d ρ S
end
section

theorem n_ne_nl (ds : List D) (ρ : Loc) (S : Sto) : (∃ ρ' S', hNl ds ρ S = .ok ρ' S') ∨ hNl ds ρ S = .bad := by
  unfold hNl; exact ne_nl ds ρ S
end
section

theorem n_ne_cn {m : D → ME Loc} {m2 : List D → ME Loc} (h1 : ∀ d ρ S, (∃ ρ' S', m d ρ S = .ok ρ' S') ∨ m d ρ S = .bad) (h2 : ∀ d ρ S, (∃ ρ' S', m2 d ρ S = .ok ρ' S') ∨ m2 d ρ S = .bad) (ds : List D) (ρ : Loc) (S : Sto) : (∃ ρ' S', hCn m m2 ds ρ S = .ok ρ' S') ∨ hCn m m2 ds ρ S = .bad := by
  unfold hCn; exact ne_cn h1 h2 ds ρ S
end
section

theorem n_ne_tp {n : Nat} {m : List D → ME Loc} (h : ∀ d ρ S, (∃ ρ' S', m d ρ S = .ok ρ' S') ∨ m d ρ S = .bad) (d : D) (ρ : Loc) (S : Sto) : (∃ ρ' S', hTp n m d ρ S = .ok ρ' S') ∨ hTp n m d ρ S = .bad := by
  unfold hTp; exact ne_tp h d ρ S
end
section
variable {X : Cx} {G : Wd} {W : WX} {k : Nat} {A : Nat → Bool} {pos p p2 apos cpos : Pos} {e a b c : Expr} {es : List Expr} {ma mb mc mo : ME D} {ms : ME (List D)} {x : Str}
theorem n_a_c (h : JE X G W e ma) (r : JA X G W es ms) (hs : isSt e = false) : JA X G W (e :: es) (nCons ma ms) := by
  unfold nCons; exact ⟨a_c h.run r.run hs⟩
end
section
variable {X : Cx} {G : Wd} {W : WX} {k : Nat} {A : Nat → Bool} {pos p p2 apos cpos : Pos} {e a b c : Expr} {es : List Expr} {ma mb mc mo : ME D} {ms : ME (List D)} {x : Str}
theorem n_c_len (q : Bc X G k W) (hg : Gl X "len") (hm : X.mg "len" = none) (ha : JA X G W (e :: es) ms) (hs : noSt (e :: es) = true) : JE X G W (.Call (.Name "len" p) (e :: es) [] pos) (nB fLen ms) := by
  unfold nB; exact ⟨c_len q hg hm ha.run hs⟩
end
section
variable {X : Cx} {G : Wd} {W : WX} {k : Nat} {A : Nat → Bool} {pos p p2 apos cpos : Pos} {e a b c : Expr} {es : List Expr} {ma mb mc mo : ME D} {ms : ME (List D)} {x : Str}
theorem n_c_tuple (q : Bc X G k W) (hg : Gl X "tuple") (hm : X.mg "tuple" = none) (ha : JA X G W (e :: es) ms) (hs : noSt (e :: es) = true) : JE X G W (.Call (.Name "tuple" p) (e :: es) [] pos) (nB fTup ms) := by
  unfold nB; exact ⟨c_tuple q hg hm ha.run hs⟩
end
section
variable {X : Cx} {G : Wd} {W : WX} {k : Nat} {A : Nat → Bool} {pos p p2 apos cpos : Pos} {e a b c : Expr} {es : List Expr} {ma mb mc mo : ME D} {ms : ME (List D)} {x : Str}
theorem n_c_list (q : Bc X G k W) (hg : Gl X "list") (hm : X.mg "list" = none) (ha : JA X G W (e :: es) ms) (hs : noSt (e :: es) = true) : JE X G W (.Call (.Name "list" p) (e :: es) [] pos) (nB fList ms) := by
  unfold nB; exact ⟨c_list q hg hm ha.run hs⟩
end
section
variable {X : Cx} {G : Wd} {W : WX} {k : Nat} {A : Nat → Bool} {pos p p2 apos cpos : Pos} {e a b c : Expr} {es : List Expr} {ma mb mc mo : ME D} {ms : ME (List D)} {x : Str}
theorem n_c_B {id : String} {g : List D → M D} (hc : CallD X G (.builtin id) g) (hg : Gl X x) (hm : X.mg x = none) (hv : bootBuiltins x = some (.builtin id)) (ha : JA X G W (e :: es) ms) (hn : x ≠ "__name__") (hdb : (x == ("__debug__" : Str)) = false) (hs : noSt (e :: es) = true) : JE X G W (.Call (.Name x p) (e :: es) [] pos) (nB g ms) := by
  unfold nB; exact ⟨c_B hc hg hm hv ha.run hn hdb hs⟩
end
section
variable {X : Cx} {G : Wd} {W : WX} {k : Nat} {A : Nat → Bool} {pos p p2 apos cpos : Pos} {e a b c : Expr} {es : List Expr} {ma mb mc mo : ME D} {ms : ME (List D)} {x : Str}
theorem n_c_T {T : String} {g : List D → M D} (hc : CallD X G (.type T) g) (hg : Gl X x) (hm : X.mg x = none) (hv : bootBuiltins x = some (.type T)) (ha : JA X G W (e :: es) ms) (hn : x ≠ "__name__") (hdb : (x == ("__debug__" : Str)) = false) (hs : noSt (e :: es) = true) : JE X G W (.Call (.Name x p) (e :: es) [] pos) (nB g ms) := by
  unfold nB; exact ⟨c_T hc hg hm hv ha.run hn hdb hs⟩
end
section
variable {X : Cx} {G : Wd} {W : WX} {k : Nat} {A : Nat → Bool} {pos p p2 apos cpos : Pos} {e a b c : Expr} {es : List Expr} {ma mb mc mo : ME D} {ms : ME (List D)} {x : Str}
theorem n_c_fn {j : Nat} {ps : List Str} {m : List D → M D} (x : Str) (h : Hf X.prog X.w X.mg X.base G j x ps m) (b : Bc X G k W) (le : j ≤ k) (hg : Gl X x) (ha : JA X G W (e :: es) ms) (hdb : (x == ("__debug__" : Str)) = false) (hs : noSt (e :: es) = true) : JE X G W (.Call (.Name x p) (e :: es) [] pos) (nCall ps.length m ms) := by
  unfold nCall; exact ⟨c_fn x h b le hg ha.run hdb hs⟩
end
section
variable {X : Cx} {G : Wd} {W : WX} {k : Nat} {A : Nat → Bool} {pos p p2 apos cpos : Pos} {e a b c : Expr} {es : List Expr} {ma mb mc mo : ME D} {ms : ME (List D)} {x : Str}
theorem n_c_fn0 {j : Nat} {m : List D → M D} (x : Str) (h : Hf X.prog X.w X.mg X.base G j x [] m) (b : Bc X G k W) (le : j ≤ k) (hg : Gl X x) (hdb : (x == ("__debug__" : Str)) = false) : JE X G W (.Call (.Name x p) [] [] pos) (fun _ => m []) := by
  exact ⟨c_fn0 x h b le hg hdb⟩
end
section
variable {X : Cx} {G : Wd} {W : WX} {k : Nat} {A : Nat → Bool} {pos p p2 apos cpos : Pos} {e a b c : Expr} {es : List Expr} {ma mb mc mo : ME D} {ms : ME (List D)} {x : Str}
theorem n_c_isi {T : Str} (t : TyN) (q : Bc X G k W) (ht : t ≠ .non) (h : JE X G W e ma) (hg : Gl X "isinstance") (hm : X.mg "isinstance" = none) (hgT : Gl X T) (hmT : X.mg T = none) (hvT : bootBuiltins T = some (.type t.nm)) (hnT : T ≠ "__name__") (hdT : (T == ("__debug__" : Str)) = false) (hs : isSt e = false) : JE X G W (.Call (.Name "isinstance" p) [e, .Name T p2] [] pos) (nIsi t ma)  := by
  unfold nIsi; exact ⟨c_isi t q ht h.run hg hm hgT hmT hvT hnT hdT hs⟩
end
section
variable {X : Cx} {G : Wd} {W : WX} {k : Nat} {A : Nat → Bool} {pos p p2 apos cpos : Pos} {e a b c : Expr} {es : List Expr} {ma mb mc mo : ME D} {ms : ME (List D)} {x : Str}
theorem n_c_lzip (q : Bc X G k W) (hg : Gl X "list") (hm : X.mg "list" = none) (hg2 : Gl X "zip") (hm2 : X.mg "zip" = none) (ha : JA X G W [a, b] ms) (hs : isSt a = false) (hs2 : isSt b = false) : JE X G W (.Call (.Name "list" p2) [.Call (.Name "zip" p) [a, b] [] pos] [] cpos) (nLzip ms)  := by
  unfold nLzip; exact ⟨c_lzip q hg hm hg2 hm2 ha.run hs hs2⟩
end
section
variable {X : Cx} {G : Wd} {W : WX} {k : Nat} {A : Nat → Bool} {pos p p2 apos cpos : Pos} {e a b c : Expr} {es : List Expr} {ma mb mc mo : ME D} {ms : ME (List D)} {x : Str}
theorem n_c_bm {t : Rt} {name : Str} {id : String} {g : D → List D → M D} (pa : PlainAttrs t.nm) (slot : Slot t.nm name id) (hty : typeOf (.builtin id) = pure (.type "method_descriptor")) (hm : MtD X G id g) (ho : JE X G W e mo) (ha : JA X G W (a :: es) ms) (hb : noSup e = true) (hs : noSt (a :: es) = true) (hl : (a :: es).length < 30) (hline : (apos.endLine == cpos.line) = true) : JE X G W (.Call (.Attribute e name apos) (a :: es) [] cpos) (nBm t g mo ms) := by
  unfold nBm; exact ⟨c_bm pa slot hty hm ho.run ha.run hb hs hl hline⟩
end
section
variable {X : Cx} {G : Wd} {W : WX} {k : Nat} {A : Nat → Bool} {pos p p2 apos cpos : Pos} {e a b c : Expr} {es : List Expr} {ma mb mc mo : ME D} {ms : ME (List D)} {x : Str}
theorem n_c_bm0 {t : Rt} {name : Str} {id : String} {g : D → List D → M D} (pa : PlainAttrs t.nm) (slot : Slot t.nm name id) (hty : typeOf (.builtin id) = pure (.type "method_descriptor")) (hm : MtD X G id g) (ho : JE X G W e mo) (hb : noSup e = true) (hline : (apos.endLine == cpos.line) = true) : JE X G W (.Call (.Attribute e name apos) [] [] cpos) (nBm0 t g mo) := by
  unfold nBm0; exact ⟨c_bm0 pa slot hty hm ho.run hb hline⟩
end
section
variable {X : Cx} {G : Wd} {W : WX} {k : Nat} {A : Nat → Bool} {pos p p2 apos cpos : Pos} {e a b c : Expr} {es : List Expr} {ma mb mc mo : ME D} {ms : ME (List D)} {x : Str}
theorem n_s_expr (h : JE X G W e ma) (hs : noCmp e = true) : JS X G A W (.Expr e pos) (nEx ma) := by
  unfold nEx; exact ⟨s_expr h.run hs⟩
end
section
variable {X : Cx} {G : Wd} {W : WX} {k : Nat} {A : Nat → Bool} {pos p p2 apos cpos : Pos} {e a b c : Expr} {es : List Expr} {ma mb mc mo : ME D} {ms : ME (List D)} {x : Str}
theorem n_s_set (i : Nat) {pos' : Pos} (hN : X.N.Nodup) (hi : X.N[i]? = some x) (hx : L2.Loc X.env.scope x) (he : JE X G W e ma) (hs : noCmp e = true) (hf : X.fn x = true ∨ X.env.scope.names.lookup x = some .local) (hA : A i = true) : JS X G A W (.Assign [.Name x pos'] e pos) (nSet i ma) := by
  unfold nSet; exact ⟨s_set i hN hi hx he.run hs hf hA⟩
end
section
variable {X : Cx} {G : Wd} {W : WX} {k : Nat} {A : Nat → Bool} {pos p p2 apos cpos : Pos} {e a b c : Expr} {es : List Expr} {ma mb mc mo : ME D} {ms : ME (List D)} {x : Str}
theorem n_j_r1 {tg : Expr} (hg : Gl X "range") (hm : X.mg "range" = none) (ha : JA X G W [a] ms) (hs : isSt a = false) : JI X G W tg (.Call (.Name "range" p) [a] [] pos) (nSrcA rng1 ms) := by
  unfold nSrcA; exact ⟨j_r1 hg hm ha.run hs⟩
end
section
variable {X : Cx} {G : Wd} {W : WX} {k : Nat} {A : Nat → Bool} {pos p p2 apos cpos : Pos} {e a b c : Expr} {es : List Expr} {ma mb mc mo : ME D} {ms : ME (List D)} {x : Str}
theorem n_j_r2 {tg : Expr} (hg : Gl X "range") (hm : X.mg "range" = none) (ha : JA X G W [a, b] ms) (hs : isSt a = false) (hs2 : isSt b = false) : JI X G W tg (.Call (.Name "range" p) [a, b] [] pos) (nSrcA rng2 ms) := by
  unfold nSrcA; exact ⟨j_r2 hg hm ha.run hs hs2⟩
end
section
variable {X : Cx} {G : Wd} {W : WX} {k : Nat} {A : Nat → Bool} {pos p p2 apos cpos : Pos} {e a b c : Expr} {es : List Expr} {ma mb mc mo : ME D} {ms : ME (List D)} {x : Str}
theorem n_j_r3 {tg : Expr} (hg : Gl X "range") (hm : X.mg "range" = none) (ha : JA X G W [a, b, c] ms) (hs : noSt [a, b, c] = true) : JI X G W tg (.Call (.Name "range" p) [a, b, c] [] pos) (nSrcA rng3 ms) := by
  unfold nSrcA; exact ⟨j_r3 hg hm ha.run hs⟩
end
section
variable {X : Cx} {G : Wd} {W : WX} {k : Nat} {A : Nat → Bool} {pos p p2 apos cpos : Pos} {e a b c : Expr} {es : List Expr} {ma mb mc mo : ME D} {ms : ME (List D)} {x : Str}
theorem n_j_en {elts : List Expr} {j : Nat} (q : Bc X G k W) (hg : Gl X "enumerate") (hm : X.mg "enumerate" = none) (ha : JA X G W [e] ms) (hs : isSt e = false) : JI X G W (.Tuple elts j p2) (.Call (.Name "enumerate" p) [e] [] pos) (nSrcA enD ms) := by
  unfold nSrcA; exact ⟨j_en q hg hm ha.run hs⟩
end
section
variable {X : Cx} {G : Wd} {W : WX} {k : Nat} {A : Nat → Bool} {pos p p2 apos cpos : Pos} {e a b c : Expr} {es : List Expr} {ma mb mc mo : ME D} {ms : ME (List D)} {x : Str}
theorem n_j_zp {elts : List Expr} {j : Nat} (q : Bc X G k W) (hg : Gl X "zip") (hm : X.mg "zip" = none) (ha : JA X G W [a, b] ms) (hs : isSt a = false) (hs2 : isSt b = false) : JI X G W (.Tuple elts j p2) (.Call (.Name "zip" p) [a, b] [] pos) (nSrcA zpD ms) := by
  unfold nSrcA; exact ⟨j_zp q hg hm ha.run hs hs2⟩
end
section
variable {X : Cx} {G : Wd} {W : WX} {k : Nat} {A : Nat → Bool} {pos p p2 apos cpos : Pos} {e a b c : Expr} {es : List Expr} {ma mb mc mo : ME D} {ms : ME (List D)} {x : Str}
theorem n_s_nil  : JSs X G A W [] nNx := by
  unfold nNx; exact ⟨s_nil ⟩
end
section
variable {X : Cx} {G : Wd} {W : WX} {k : Nat} {A : Nat → Bool} {pos p p2 apos cpos : Pos} {e a b c : Expr} {es : List Expr} {ma mb mc mo : ME D} {ms : ME (List D)} {x : Str}
theorem n_s_pass  : JS X G A W (.Pass pos) nNx := by
  unfold nNx; exact ⟨s_pass ⟩
end
section
variable {X : Cx} {G : Wd} {W : WX} {k : Nat} {A : Nat → Bool} {pos p p2 apos cpos : Pos} {e a b c : Expr} {es : List Expr} {ma mb mc mo : ME D} {ms : ME (List D)} {x : Str}
theorem n_s_brk  : JS X G A W (.Break pos) nBk := by
  unfold nBk; exact ⟨s_brk ⟩
end
section
variable {X : Cx} {G : Wd} {W : WX} {k : Nat} {A : Nat → Bool} {pos p p2 apos cpos : Pos} {e a b c : Expr} {es : List Expr} {ma mb mc mo : ME D} {ms : ME (List D)} {x : Str}
theorem n_s_cnt  : JS X G A W (.Continue pos) nCt := by
  unfold nCt; exact ⟨s_cnt ⟩
end
section
variable {X : Cx} {G : Wd} {W : WX} {k : Nat} {A : Nat → Bool} {pos p p2 apos cpos : Pos} {e a b c : Expr} {es : List Expr} {ma mb mc mo : ME D} {ms : ME (List D)} {x : Str}
theorem n_s_retN  : JS X G A W (.Return none pos) nRtN := by
  unfold nRtN; exact ⟨s_retN ⟩
end
section
variable {X : Cx} {G : Wd} {W : WX} {k : Nat} {A : Nat → Bool} {pos p p2 apos cpos : Pos} {e a b c : Expr} {es : List Expr} {ma mb mc mo : ME D} {ms : ME (List D)} {x : Str}
theorem n_s_doc {y : Str} {j : Nat} : JS X G A W (.Expr (.Constant (.str y) j pos) p2) nNx := by
  unfold nNx; exact ⟨s_doc ⟩
end
section
variable {X : Cx} {G : Wd} {W : WX} {k : Nat} {A : Nat → Bool} {pos p p2 apos cpos : Pos} {e a b c : Expr} {es : List Expr} {ma mb mc mo : ME D} {ms : ME (List D)} {x : Str}
theorem n_l_yes  : JTs X G W [] nYes := by
  unfold nYes; exact ⟨l_yes ⟩
end
end ML

set_option maxHeartbeats 1000000
namespace ML
open PySem PySem.Spec PyProof.Rows L2
/-! ### running mirrors -/
def T {α : Type} (m : M α) (S : Sto) (Q : α → Sto → Prop) : Prop := ∃ a S', m S = .ok a S' ∧ Q a S'
section
variable {α β : Type} {m : M α} {k : α → M β} {S S' : Sto} {a : α} {Q Q' : α → Sto → Prop} {P : β → Sto → Prop}
theorem T.bnd (h : T m S fun a S' => T (k a) S' P) : T (bnd m k) S P := by
  obtain ⟨a, S1, e, b, S2, e2, q⟩ := h
  exact ⟨b, S2, by unfold ML.bnd; rw [e]; exact e2, q⟩
theorem T.ret (h : Q a S) : T (ret a) S Q := ⟨a, S, rfl, h⟩
theorem T.mono (h : T m S Q) (q : ∀ a S', Q a S' → Q' a S') : T m S Q' := let ⟨a, S', e, h⟩ := h; ⟨a, S', e, q a S' h⟩
theorem T.of (e : m S = .ok a S') (h : Q a S') : T m S Q := ⟨a, S', e, h⟩
theorem T.noErr (h : T m S Q) : T (noErr m) S Q := by
  obtain ⟨a, S1, e, q⟩ := h
  exact ⟨a, S1, by unfold ML.noErr; rw [e], q⟩
theorem T.gd {g : Gd} (hg : gdOk g S) (h : T m S Q) : T (gd g m) S Q := by
  obtain ⟨a, S1, e, q⟩ := h
  exact ⟨a, S1, by rw [gd_eq hg]; exact e, q⟩
theorem T.eq (h : T m S Q) (e : m S = .ok a S') : Q a S' := by
  obtain ⟨b, S1, e2, q⟩ := h
  rw [e] at e2; cases e2; exact q
end
/-- a for, turn by turn -/
theorem T.forGo {tg : D → ME ML.Loc} {b : ML.Loc → M Fl} {g : Gd} {Q : Fl → Sto → Prop} (I : Nat → ML.Loc → Sto → Prop) : ∀ (xs : List D) (i : Nat) (ρ : ML.Loc) (S : Sto), I i ρ S → (∀ j ρ S, I j ρ S → gdOk g S) →
    (∀ j x ρ S, xs[j]? = some x → I (i + j) ρ S → T (ML.bnd (tg x ρ) b) S fun fl S' => (∃ ρ', fl = .nx ρ' ∧ I (i + j + 1) ρ' S') ∨ (∃ ρ', fl = .ct ρ' ∧ I (i + j + 1) ρ' S')) →
    (∀ ρ S, I (i + xs.length) ρ S → Q (.nx ρ) S) → T (forGo tg b g xs ρ) S Q
  | [], i, ρ, S, h, hg, _, hd => T.gd (hg i ρ S h) (T.ret (hd ρ S h))
  | x :: xs, i, ρ, S, h, hg, hs, hd => by
    refine T.gd (hg i ρ S h) ?_
    show T (ML.bnd (tg x ρ) fun ρ1 => ML.bnd (b ρ1) (flK (ML.forGo tg b g xs))) S Q
    have h0 := hs 0 x ρ S rfl h
    have e : (ML.bnd (tg x ρ) fun ρ1 => ML.bnd (b ρ1) (flK (ML.forGo tg b g xs))) = ML.bnd (ML.bnd (tg x ρ) b) (flK (ML.forGo tg b g xs)) := (bnd_bnd _ _ _).symm
    rw [e]
    refine T.bnd (h0.mono fun fl S' q => ?_)
    have next : ∀ ρ', I (i + 0 + 1) ρ' S' → T (ML.forGo tg b g xs ρ') S' Q := fun ρ' q => by
      refine T.forGo I xs (i + 1) ρ' S' q hg (fun j y ρ2 S2 hj hi => ?_) fun ρ2 S2 hi => hd ρ2 S2 ?_
      · have := hs (j + 1) y ρ2 S2 hj (by rw [show i + (j + 1) = i + 1 + j by omega]; exact hi)
        rw [show i + (j + 1) + 1 = i + 1 + j + 1 by omega] at this
        exact this
      · rw [List.length_cons, show i + (xs.length + 1) = i + 1 + xs.length by omega]; exact hi
    rcases q with ⟨ρ', rfl, q⟩ | ⟨ρ', rfl, q⟩
    · exact next ρ' q
    · exact next ρ' q
/-- a comprehension whose items are told by pure functions -/
theorem lcGo_pure {tg : D → ME ML.Loc} {t : ME Bool} {e : ME D} {g : Gd} {ρ : ML.Loc} (p : D → Bool) (f : D → D) {S : Sto} (hg : gdOk g S) : ∀ (xs acc : List D), acc.length + xs.length ≤ sizeLine →
    (∀ x ∈ xs, ∃ ρ1, tg x ρ S = .ok ρ1 S ∧ t ρ1 S = .ok (p x) S ∧ (p x = true → e ρ1 S = .ok (f x) S)) → lcGo tg t e g ρ xs acc S = .ok (acc ++ (xs.filter p).map f) S
  | [], acc, _, _ => by
    show gd g (ret acc) S = _
    rw [gd_eq hg]
    simp [ret]
  | x :: xs, acc, hz, h => by
    obtain ⟨ρ1, h1, h2, h3⟩ := h x (by simp)
    rw [List.length_cons] at hz
    show gd g (bnd (tg x ρ) fun ρ1 => bnd (t ρ1) fun b => if b = true then bnd (e ρ1) fun y => (if acc.length < sizeLine then lcGo tg t e g ρ xs (acc ++ [y]) else bad) else lcGo tg t e g ρ xs acc) S = _
    rw [gd_eq hg, bnd_of h1, bnd_of h2]
    cases q : p x with
    | true =>
      rw [if_pos rfl, bnd_of (h3 q), if_pos (by omega), lcGo_pure p f hg xs (acc ++ [f x]) (by rw [List.length_append]; simp; omega) fun y hy => h y (by simp [hy])]
      simp [List.filter_cons, q]
    | false =>
      rw [if_neg Bool.false_ne_true, lcGo_pure p f hg xs acc (by omega) fun y hy => h y (by simp [hy])]
      simp [List.filter_cons, q]
/-! ### the store, seen from its end -/
theorem gA {S L : Sto} {k : Nat} : (S ++ L)[S.length + k]? = L[k]? := by rw [List.getElem?_append_right (by omega)]; congr 1; omega
theorem gA0 {S L : Sto} : (S ++ L)[S.length]? = L[0]? := by rw [List.getElem?_append_right (Nat.le_refl _)]; congr 1; omega
theorem sA {S L : Sto} {k : Nat} {c : Cell} : (S ++ L).set (S.length + k) c = S ++ L.set k c := by rw [List.set_append_right _ _ (by omega)]; congr 2; omega
theorem sA0 {S L : Sto} {c : Cell} : (S ++ L).set S.length c = S ++ L.set 0 c := by rw [List.set_append_right _ _ (Nat.le_refl _)]; congr 2; omega
theorem gO {S L : Sto} {n : Nat} {c : Cell} (h : S[n]? = some c) : (S ++ L)[n]? = some c := by rw [List.getElem?_append_left (List.getElem?_eq_some_iff.mp h).1]; exact h
end ML

set_option maxHeartbeats 1000000
namespace ML
open PySem PySem.Spec PyProof.Rows L2
/-! ### == of flat sequences -/
def flP : D → Option PyData
  | .non => some .none
  | .bl b => some (.bool b)
  | .int i => some (.int i)
  | .str x => if PyData.strOk x = true then some (.str x) else none
  | _ => none
def flPs : List D → Option (List PyData)
  | [] => some []
  | d :: ds => (flP d).bind fun p => (flPs ds).map fun ps => p :: ps
theorem flP_ok {S : Sto} {k : Nat} {d : D} {p : PyData} (h : flP d = some p) : pyOf S k d = some p ∧ PyData.canLay0 p = true ∧ PyData.depth p = 0 ∧ PyData.eqv p p = true := by
  cases d with
  | non => cases h; exact ⟨by cases k <;> rfl, by simp [PyData.canLay0], by simp [PyData.depth], by simp [PyData.eqv]⟩
  | bl b => cases h; exact ⟨by cases k <;> rfl, by simp [PyData.canLay0], by simp [PyData.depth], by simp [PyData.eqv]⟩
  | int b => cases h; exact ⟨by cases k <;> rfl, by simp [PyData.canLay0], by simp [PyData.depth], by simp [PyData.eqv]⟩
  | str x =>
    have h : (if PyData.strOk x = true then some (PyData.str x) else none) = some p := h
    by_cases q : PyData.strOk x = true
    · rw [if_pos q] at h
      cases h
      exact ⟨by cases k <;> rfl, by simp [PyData.canLay0, q], by simp [PyData.depth], by simp [PyData.eqv]⟩
    · rw [if_neg q] at h; cases h
  | _ => cases h
theorem flPs_ok {S : Sto} {k : Nat} : ∀ {ds : List D} {ps : List PyData}, flPs ds = some ps → pyAll (pyOf S k) ds = some ps ∧ PyData.canLayAll0 ps = true ∧ PyData.depthAll ps = 0 ∧ PyData.eqvAll ps ps = true ∧ ps.length = ds.length
  | [], ps, h => by cases h; exact ⟨rfl, by simp [PyData.canLayAll0], by simp [PyData.depthAll], by simp [PyData.eqvAll], rfl⟩
  | d :: ds, ps, h => by
    unfold flPs at h
    cases q : flP d with
    | none => rw [q] at h; cases h
    | some p =>
      rw [q] at h
      cases q2 : flPs ds with
      | none => rw [q2] at h; cases h
      | some qs =>
        rw [q2] at h
        cases h
        obtain ⟨a1, a2, a3, a4⟩ := flP_ok (S := S) (k := k) q
        obtain ⟨b1, b2, b3, b4, b5⟩ := flPs_ok (S := S) (k := k) q2
        exact ⟨by simp [pyAll, a1, b1], by simp [PyData.canLayAll0, a2, b2], by simp [PyData.depthAll, a3, b3], by simp [PyData.eqvAll, a4, b4], by simp [b5]⟩
theorem eqT_same {S : Sto} {neg : Bool} {ds : List D} {ps : List PyData} (h : flPs ds = some ps) : opEqN neg (.tup ds) (.tup ds) S = .ok (.bl (true != neg)) S := by
  obtain ⟨b1, b2, b3, b4, b5⟩ := flPs_ok (S := S) (k := 69) h
  have e : pyOf S 70 (.tup ds) = some (.tuple ps) := by simp [pyOf, b1]
  unfold opEqN
  rw [show scEq (.tup ds) (.tup ds) = none from rfl, e]
  have sh : SeqAt.shaped (.tuple ps) = true := by
    unfold SeqAt.shaped
    simp [PyData.canLay0, PyData.depth, b2, b3]
  simp [sh, PyData.eqv, b4]
theorem eqL_same {S : Sto} {neg : Bool} {n m : Nat} {ds : List D} {ps : List PyData} (h : flPs ds = some ps) (hn : lsOf S n = some ds) (hm : lsOf S m = some ds) : opEqN neg (.obj n) (.obj m) S = .ok (.bl (true != neg)) S := by
  obtain ⟨b1, b2, b3, b4, b5⟩ := flPs_ok (S := S) (k := 69) h
  have e : ∀ n, lsOf S n = some ds → pyOf S 70 (.obj n) = some (.list ps) := fun n hn => by simp [pyOf, hn, b1]
  unfold opEqN
  rw [show scEq (.obj n) (.obj m) = none from rfl, e n hn, e m hm]
  have sh : SeqAt.shaped (.list ps) = true := by
    unfold SeqAt.shaped
    simp [PyData.canLay0, PyData.depth, b2, b3]
  simp [sh, PyData.eqv, b4]
theorem eqT_nil {S : Sto} {neg : Bool} {d : D} {ds : List D} {ps : List PyData} (h : flPs (d :: ds) = some ps) : opEqN neg (.tup (d :: ds)) (.tup []) S = .ok (.bl (false != neg)) S := by
  obtain ⟨b1, b2, b3, b4, b5⟩ := flPs_ok (S := S) (k := 69) h
  have e : pyOf S 70 (.tup (d :: ds)) = some (.tuple ps) := by simp [pyOf, b1]
  have e2 : pyOf S 70 (.tup []) = some (.tuple []) := by simp [pyOf, pyAll]
  unfold opEqN
  rw [show scEq (.tup (d :: ds)) (.tup []) = none from rfl, e, e2]
  have sh : SeqAt.shaped (.tuple ps) = true := by
    unfold SeqAt.shaped
    simp [PyData.canLay0, PyData.depth, b2, b3]
  have sh2 : SeqAt.shaped (.tuple []) = true := by
    unfold SeqAt.shaped
    simp [PyData.canLay0, PyData.depth, PyData.canLayAll0, PyData.depthAll]
  cases ps with
  | nil => simp at b5
  | cons p ps => simp [sh, sh2, PyData.eqv, PyData.eqvAll]
/-! ### [b for a, b in pairs if a == s] -/
def selS (s : Str) (cs : List Str) (bs : List D) : List D := ((cs.zip bs).filter fun p => decide (p.1 = s)).map (·.2)
def prsD (cs : List Str) (bs : List D) : List D := (cs.zip bs).map fun p => .tup [.str p.1, p.2]
theorem lc_pairs {i j : Nat} {ρ : ML.Loc} {e2 : ME D} {s : Str} {S : Sto} {g : Gd} (hi : i < ρ.length) (hj : j < ρ.length) (hij : i ≠ j) (he : ∀ a b, e2 ((ρ.set i a).set j b) S = .ok (.str s) S) (cs : List Str) (bs : List D) (hg : gdOk g S) (hz : bs.length ≤ sizeLine) :
    lcGo (gTp 2 (gCn (gNm i) (gCn (gNm j) gNl))) (mCmpT (evCmp .Eq) (mV i) e2) (mV j) g ρ (prsD cs bs) [] S = .ok (selS s cs bs) S := by
  have key := lcGo_pure (tg := gTp 2 (gCn (gNm i) (gCn (gNm j) gNl))) (t := mCmpT (evCmp .Eq) (mV i) e2) (e := mV j) (g := g) (ρ := ρ) (fun x => match x with | .tup [.str c, _] => decide (c = s) | _ => false) (fun x => match x with | .tup [_, b] => b | d => d) (S := S) hg (prsD cs bs) [] (by simp [prsD]; omega) (fun x hx => ?_)
  · rw [key]
    congr 1
    unfold prsD selS
    rw [List.filter_map, List.map_map, List.nil_append]
    rfl
  · obtain ⟨⟨c, b⟩, _, rfl⟩ := List.mem_map.mp hx
    have l1 : ((ρ.set i (some (.str c))).set j (some b))[i]? = some (some (.str c)) := by
      rw [List.getElem?_set_ne (Ne.symm hij), List.getElem?_set_self hi]
    have l2 : ((ρ.set i (some (.str c))).set j (some b))[j]? = some (some b) := by
      rw [List.getElem?_set_self (by rw [List.length_set]; exact hj)]
    refine ⟨(ρ.set i (some (.str c))).set j (some b), rfl, ?_, fun _ => ?_⟩
    · unfold mCmpT mV getL
      simp only [bnd, l1, he]
      simp [evCmp, opEqN, scEq, asB, ML.ret]
    · unfold mV getL
      simp only [l2]
end ML

set_option maxHeartbeats 4000000
namespace K03
open PySem PySem.Spec PyProof.Rows L2 ML
def v_A_PLACE : D := .str "p"
def v_FORMS : D := .kd [("set", .inr "sn"), ("copy", .inr "sr"), ("add", .inr "srr"), ("less", .inr "srr"), ("same", .inr "srr"), ("mix", .inr "srr"), ("pick", .inr "srrr"), ("ask", .inr "sk"), ("take", .inr "sr"), ("tell", .inr "r"), ("put", .inr "rr"), ("go", .inr "p"), ("if", .inr "rp"), ("end", .inr ""), ("hold", .inr "rr"), ("tell2", .inr "rr"), ("put2", .inr "rrrr"), ("if2", .inr "rrp"), ("tell3", .inr "rrr"), ("put3", .inr "rrrrrr"), ("if3", .inr "rrrp"), ("keep", .inr "")]
def v_READ_BOX : D := .str "r"
def v_SET_BOX : D := .str "s"
def v_WAYS : D := .tup [.str "go", .str "if", .str "if2", .str "if3", .str "end"]
def m_parts_of : ML.Loc → M Fl :=
  (mRt (mB fTup (mCons (mLc [2, 3] (mSrcA zpD (mCons (mIx (mC v_FORMS) (mIx (mV 0) (mC (.int 0)))) (mCons (mSl (mV 0) (mSoI (mC (.int 1))) mNoI) mNil))) (gTp 2 (gCn (gNm 2) (gCn (gNm 3) gNl))) (mCmpT (evCmp .Eq) (mV 2) (mV 1)) (mV 3)) mNil)))
def w__parts_of : ML.Loc → M Fl :=
  (nRt (nB fTup (nCons (nLc [2, 3] (nSrcA zpD (nCons (nIx (nC v_FORMS) (nIx (nV 0) (nC (.int 0)))) (nCons (nSl (nV 0) (nSoI (nC (.int 1))) nNoI) nNil))) (hTp 2 (hCn (hNm 2) (hCn (hNm 3) hNl))) (nCmpT (evCmp .Eq) (nV 2) (nV 1)) (nV 3)) nNil)))
theorem mw_parts_of : m_parts_of = w__parts_of := by with_unfolding_all rfl
def n_parts_of : List Str := ["row", "sort", "own", "part"]
def d_parts_of : List D → M D := defM n_parts_of m_parts_of
theorem dw_parts_of : d_parts_of = defM n_parts_of w__parts_of := by unfold d_parts_of; rw [mw_parts_of]
@[reducible] def c_parts_of : List D → M D := d_parts_of
def m_is_way : ML.Loc → M Fl :=
  (mRt (mBin (evCmp .In) (mIx (mV 0) (mC (.int 0))) (mC v_WAYS)))
def w__is_way : ML.Loc → M Fl :=
  (nRt (nBin (evCmp .In) (nIx (nV 0) (nC (.int 0))) (nC v_WAYS)))
theorem mw_is_way : m_is_way = w__is_way := by with_unfolding_all rfl
def n_is_way : List Str := ["row"]
def d_is_way : List D → M D := defM n_is_way m_is_way
theorem dw_is_way : d_is_way = defM n_is_way w__is_way := by unfold d_is_way; rw [mw_is_way]
@[reducible] def c_is_way : List D → M D := d_is_way
def m__law_mixed : ML.Loc → M Fl :=
  (mSeq (mSet 2 (mBin (evBin .Mod) (mIx (mBin (evBin .Add) (mV 0) (mLstE (mCons (mC (.int 0)) mNil))) (mBin (evBin .Mod) (mV 1) (mB (fII fun i j => if j > i then j else i) (mCons (mC (.int 1)) (mCons (mB fLen (mCons (mV 0) mNil)) mNil))))) (mBin (evBin .Pow) (mC (.int 10)) (mC (.int 60)))))
  (mSeq (mSet 3 (mBin (evBin .Add) (mC (.int 91520834467120936671528473920164857)) (mBin (evBin .Mult) (mC (.int 2)) (mV 1))))
  (mRt (mBin (evBin .Mod) (mBin (evBin .Mult) (mBin (evBin .Add) (mBin (evBin .Add) (mV 2) (mC (.int 1))) (mBin (evBin .Mult) (mBin (evBin .Mult) (mC (.int 1009)) (mV 1)) (mV 1))) (mV 3)) (mC (.int 170141183460469231731687303715884105727))))))
def w___law_mixed : ML.Loc → M Fl :=
  (nSeq (nSet 2 (nBin (evBin .Mod) (nIx (nBin (evBin .Add) (nV 0) (nLstE (nCons (nC (.int 0)) nNil))) (nBin (evBin .Mod) (nV 1) (nB (fII fun i j => if j > i then j else i) (nCons (nC (.int 1)) (nCons (nB fLen (nCons (nV 0) nNil)) nNil))))) (nBin (evBin .Pow) (nC (.int 10)) (nC (.int 60)))))
  (nSeq (nSet 3 (nBin (evBin .Add) (nC (.int 91520834467120936671528473920164857)) (nBin (evBin .Mult) (nC (.int 2)) (nV 1))))
  (nRt (nBin (evBin .Mod) (nBin (evBin .Mult) (nBin (evBin .Add) (nBin (evBin .Add) (nV 2) (nC (.int 1))) (nBin (evBin .Mult) (nBin (evBin .Mult) (nC (.int 1009)) (nV 1)) (nV 1))) (nV 3)) (nC (.int 170141183460469231731687303715884105727))))))
theorem mw__law_mixed : m__law_mixed = w___law_mixed := by with_unfolding_all rfl
def n__law_mixed : List Str := ["_law_script", "_law_k", "_law_cell", "_law_times"]
def d__law_mixed : List D → M D := defM n__law_mixed m__law_mixed
theorem dw__law_mixed : d__law_mixed = defM n__law_mixed w___law_mixed := by unfold d__law_mixed; rw [mw__law_mixed]
@[reducible] def c__law_mixed : List D → M D := d__law_mixed
def m__law_turned : ML.Loc → M Fl :=
  (mSeq (mSet 2 (mIx (mLstE (mCons (mC (.int 73029184756102938475610293847561029)) (mCons (mC (.int 58203947561830297465018273645019283)) mNil))) (mBin (evBin .Mod) (mV 1) (mC (.int 2)))))
  (mSeq (mIf (mCmpT (evCmp .Gt) (mBin (evBin .Mod) (mV 1) (mC (.int 4))) (mC (.int 1))) (mSet 2 (mIx (mLstE (mCons (mC (.int 99182736455463728190019283746556473)) (mCons (mC (.int 31415926535897932384626433832795029)) mNil))) (mBin (evBin .Mod) (mV 1) (mC (.int 2))))) mNx)
  (mRt (mBin (evBin .Mod) (mBin (evBin .Mult) (mBin (evBin .Add) (mBin (evBin .Add) (mV 0) (mC (.int 1))) (mBin (evBin .Mult) (mBin (evBin .Mult) (mC (.int 5081)) (mV 1)) (mV 1))) (mV 2)) (mC (.int 170141183460469231731687303715884105727))))))
def w___law_turned : ML.Loc → M Fl :=
  (nSeq (nSet 2 (nIx (nLstE (nCons (nC (.int 73029184756102938475610293847561029)) (nCons (nC (.int 58203947561830297465018273645019283)) nNil))) (nBin (evBin .Mod) (nV 1) (nC (.int 2)))))
  (nSeq (nIf (nCmpT (evCmp .Gt) (nBin (evBin .Mod) (nV 1) (nC (.int 4))) (nC (.int 1))) (nSet 2 (nIx (nLstE (nCons (nC (.int 99182736455463728190019283746556473)) (nCons (nC (.int 31415926535897932384626433832795029)) nNil))) (nBin (evBin .Mod) (nV 1) (nC (.int 2))))) nNx)
  (nRt (nBin (evBin .Mod) (nBin (evBin .Mult) (nBin (evBin .Add) (nBin (evBin .Add) (nV 0) (nC (.int 1))) (nBin (evBin .Mult) (nBin (evBin .Mult) (nC (.int 5081)) (nV 1)) (nV 1))) (nV 2)) (nC (.int 170141183460469231731687303715884105727))))))
theorem mw__law_turned : m__law_turned = w___law_turned := by with_unfolding_all rfl
def n__law_turned : List Str := ["_law_number", "_law_k", "_law_times"]
def d__law_turned : List D → M D := defM n__law_turned m__law_turned
theorem dw__law_turned : d__law_turned = defM n__law_turned w___law_turned := by unfold d__law_turned; rw [mw__law_turned]
@[reducible] def c__law_turned : List D → M D := d__law_turned
def m__law_form : ML.Loc → M Fl :=
  (mSeq (mSet 1 (mDisp [((mC (.str "set")), (mC (.str "sn"))), ((mC (.str "copy")), (mC (.str "sr"))), ((mC (.str "add")), (mC (.str "srr"))), ((mC (.str "less")), (mC (.str "srr"))), ((mC (.str "same")), (mC (.str "srr"))), ((mC (.str "mix")), (mC (.str "srr")))]))
  (mSeq (mEx (mBm .d gUpd (mV 1) (mCons (mDisp [((mC (.str "pick")), (mC (.str "srrr"))), ((mC (.str "ask")), (mC (.str "sk"))), ((mC (.str "take")), (mC (.str "sr"))), ((mC (.str "tell")), (mC (.str "r"))), ((mC (.str "put")), (mC (.str "rr"))), ((mC (.str "go")), (mC (.str "p"))), ((mC (.str "if")), (mC (.str "rp")))]) mNil)))
  (mSeq (mEx (mBm .d gUpd (mV 1) (mCons (mDisp [((mC (.str "end")), (mC (.str ""))), ((mC (.str "hold")), (mC (.str "rr"))), ((mC (.str "tell2")), (mC (.str "rr"))), ((mC (.str "put2")), (mC (.str "rrrr"))), ((mC (.str "if2")), (mC (.str "rrp"))), ((mC (.str "tell3")), (mC (.str "rrr")))]) mNil)))
  (mSeq (mEx (mBm .d gUpd (mV 1) (mCons (mDisp [((mC (.str "put3")), (mC (.str "rrrrrr"))), ((mC (.str "if3")), (mC (.str "rrrp"))), ((mC (.str "keep")), (mC (.str "")))]) mNil)))
  (mRt (mBm .d gGet (mV 1) (mCons (mV 0) (mCons (mC .non) mNil))))))))
def w___law_form : ML.Loc → M Fl :=
  (nSeq (nSet 1 (nDisp [((nC (.str "set")), (nC (.str "sn"))), ((nC (.str "copy")), (nC (.str "sr"))), ((nC (.str "add")), (nC (.str "srr"))), ((nC (.str "less")), (nC (.str "srr"))), ((nC (.str "same")), (nC (.str "srr"))), ((nC (.str "mix")), (nC (.str "srr")))]))
  (nSeq (nEx (nBm .d gUpd (nV 1) (nCons (nDisp [((nC (.str "pick")), (nC (.str "srrr"))), ((nC (.str "ask")), (nC (.str "sk"))), ((nC (.str "take")), (nC (.str "sr"))), ((nC (.str "tell")), (nC (.str "r"))), ((nC (.str "put")), (nC (.str "rr"))), ((nC (.str "go")), (nC (.str "p"))), ((nC (.str "if")), (nC (.str "rp")))]) nNil)))
  (nSeq (nEx (nBm .d gUpd (nV 1) (nCons (nDisp [((nC (.str "end")), (nC (.str ""))), ((nC (.str "hold")), (nC (.str "rr"))), ((nC (.str "tell2")), (nC (.str "rr"))), ((nC (.str "put2")), (nC (.str "rrrr"))), ((nC (.str "if2")), (nC (.str "rrp"))), ((nC (.str "tell3")), (nC (.str "rrr")))]) nNil)))
  (nSeq (nEx (nBm .d gUpd (nV 1) (nCons (nDisp [((nC (.str "put3")), (nC (.str "rrrrrr"))), ((nC (.str "if3")), (nC (.str "rrrp"))), ((nC (.str "keep")), (nC (.str "")))]) nNil)))
  (nRt (nBm .d gGet (nV 1) (nCons (nV 0) (nCons (nC .non) nNil))))))))
theorem mw__law_form : m__law_form = w___law_form := by with_unfolding_all rfl
def n__law_form : List Str := ["_law_word", "_law_some"]
def d__law_form : List D → M D := defM n__law_form m__law_form
theorem dw__law_form : d__law_form = defM n__law_form w___law_form := by unfold d__law_form; rw [mw__law_form]
@[reducible] def c__law_form : List D → M D := d__law_form
def m__law_sorts : ML.Loc → M Fl :=
  (mSeq (mSet 0 (mLstE (mCons (mC (.str "set")) (mCons (mC (.str "tell3")) (mCons (mC (.str "copy")) (mCons (mC (.str "keep")) (mCons (mC (.str "add")) (mCons (mC (.str "if3")) (mCons (mC (.str "less")) (mCons (mC (.str "put2")) (mCons (mC (.str "same")) (mCons (mC (.str "go")) (mCons (mC (.str "mix")) (mCons (mC (.str "put3")) (mCons (mC (.str "pick")) mNil)))))))))))))))
  (mRt (mBin (evBin .Add) (mV 0) (mLstE (mCons (mC (.str "tell2")) (mCons (mC (.str "ask")) (mCons (mC (.str "if2")) (mCons (mC (.str "take")) (mCons (mC (.str "hold")) (mCons (mC (.str "tell")) (mCons (mC (.str "end")) (mCons (mC (.str "put")) (mCons (mC (.str "if")) mNil)))))))))))))
def w___law_sorts : ML.Loc → M Fl :=
  (nSeq (nSet 0 (nLstE (nCons (nC (.str "set")) (nCons (nC (.str "tell3")) (nCons (nC (.str "copy")) (nCons (nC (.str "keep")) (nCons (nC (.str "add")) (nCons (nC (.str "if3")) (nCons (nC (.str "less")) (nCons (nC (.str "put2")) (nCons (nC (.str "same")) (nCons (nC (.str "go")) (nCons (nC (.str "mix")) (nCons (nC (.str "put3")) (nCons (nC (.str "pick")) nNil)))))))))))))))
  (nRt (nBin (evBin .Add) (nV 0) (nLstE (nCons (nC (.str "tell2")) (nCons (nC (.str "ask")) (nCons (nC (.str "if2")) (nCons (nC (.str "take")) (nCons (nC (.str "hold")) (nCons (nC (.str "tell")) (nCons (nC (.str "end")) (nCons (nC (.str "put")) (nCons (nC (.str "if")) nNil)))))))))))))
theorem mw__law_sorts : m__law_sorts = w___law_sorts := by with_unfolding_all rfl
def n__law_sorts : List Str := ["_law_some"]
def d__law_sorts : List D → M D := defM n__law_sorts m__law_sorts
theorem dw__law_sorts : d__law_sorts = defM n__law_sorts w___law_sorts := by unfold d__law_sorts; rw [mw__law_sorts]
@[reducible] def c__law_sorts : List D → M D := d__law_sorts
def m_reads : ML.Loc → M Fl :=
  (mRt (mCall 2 c_parts_of (mCons (mV 0) (mCons (mC v_READ_BOX) mNil))))
def w__reads : ML.Loc → M Fl :=
  (nRt (nCall 2 c_parts_of (nCons (nV 0) (nCons (nC v_READ_BOX) nNil))))
theorem mw_reads : m_reads = w__reads := by with_unfolding_all rfl
def n_reads : List Str := ["row"]
def d_reads : List D → M D := defM n_reads m_reads
theorem dw_reads : d_reads = defM n_reads w__reads := by unfold d_reads; rw [mw_reads]
@[reducible] def c_reads : List D → M D := d_reads
def m_sets : ML.Loc → M Fl :=
  (mSeq (mSet 1 (mCall 2 c_parts_of (mCons (mV 0) (mCons (mC v_SET_BOX) mNil))))
  (mRt (mIfE (mCmpT (evCmp .NotEq) (mV 1) (mTupE mNil)) (mIx (mV 1) (mC (.int 0))) (mC .non))))
def w__sets : ML.Loc → M Fl :=
  (nSeq (nSet 1 (nCall 2 c_parts_of (nCons (nV 0) (nCons (nC v_SET_BOX) nNil))))
  (nRt (nIfE (nCmpT (evCmp .NotEq) (nV 1) (nTupE nNil)) (nIx (nV 1) (nC (.int 0))) (nC .non))))
theorem mw_sets : m_sets = w__sets := by with_unfolding_all rfl
def n_sets : List Str := ["row", "found"]
def d_sets : List D → M D := defM n_sets m_sets
theorem dw_sets : d_sets = defM n_sets w__sets := by unfold d_sets; rw [mw_sets]
@[reducible] def c_sets : List D → M D := d_sets
def m_leads : ML.Loc → M Fl :=
  (mSeq (mSet 1 (mCall 2 c_parts_of (mCons (mV 0) (mCons (mC v_A_PLACE) mNil))))
  (mRt (mIfE (mCmpT (evCmp .NotEq) (mV 1) (mTupE mNil)) (mIx (mV 1) (mC (.int 0))) (mC .non))))
def w__leads : ML.Loc → M Fl :=
  (nSeq (nSet 1 (nCall 2 c_parts_of (nCons (nV 0) (nCons (nC v_A_PLACE) nNil))))
  (nRt (nIfE (nCmpT (evCmp .NotEq) (nV 1) (nTupE nNil)) (nIx (nV 1) (nC (.int 0))) (nC .non))))
theorem mw_leads : m_leads = w__leads := by with_unfolding_all rfl
def n_leads : List Str := ["row", "found"]
def d_leads : List D → M D := defM n_leads m_leads
theorem dw_leads : d_leads = defM n_leads w__leads := by unfold d_leads; rw [mw_leads]
@[reducible] def c_leads : List D → M D := d_leads
def m_law : ML.Loc → M Fl :=
  (mSeq (mFor (mSrcA rng1 (mCons (mBin (evBin .Add) (mC (.int 1)) (mB (fII fun i j => if j < i then j else i) (mCons (mC (.int 30)) (mCons (mB fLen (mCons (mV 0) mNil)) mNil)))) mNil)) (gNm 1) (mSeq (mSet 2 (mCall 2 c__law_mixed (mCons (mV 0) (mCons (mV 1) mNil))))
  (mFor (mSrcA enD (mCons (fun _ => c__law_sorts []) mNil)) (gTp 2 (gCn (gNm 3) (gCn (gNm 4) gNl))) (mSeq (mSet 5 (mLstE mNil))
  (mSeq (mFor (mSrcA enD (mCons (mCall 1 c__law_form (mCons (mV 4) mNil)) mNil)) (gTp 2 (gCn (gNm 6) (gCn (gNm 7) gNl))) (mSeq (mSet 8 (mBin (evBin .FloorDiv) (mCall 2 c__law_turned (mCons (mCall 2 c__law_turned (mCons (mV 2) (mCons (mV 3) mNil))) (mCons (mV 6) mNil))) (mC (.int 7))))
  (mEx (mBm .l gApp (mV 5) (mCons (mBin (evBin .Mod) (mV 8) (mIx (mDisp [((mC (.str "s")), (mC (.int 32))), ((mC (.str "r")), (mIx (mLstE (mCons (mC (.int 32)) (mCons (mC (.int 3)) mNil))) (mBin (evBin .Mod) (mBin (evBin .FloorDiv) (mV 2) (mC (.int 5))) (mC (.int 2))))), ((mC (.str "n")), (mC (.int 16))), ((mC (.str "k")), (mC (.int 8))), ((mC (.str "p")), (mC (.int 400)))]) (mV 7))) mNil)))))
  (mSeq (mSet 9 (mBin (evBin .Add) (mTupE (mCons (mV 4) mNil)) (mB fTup (mCons (mV 5) mNil))))
  (mSeq (mSet 10 (mLzip (mCons (mCall 1 c__law_form (mCons (mV 4) mNil)) (mCons (mV 5) mNil))))
  (mSeq (mSet 11 (mLstE (mCons (mIx (mBin (evBin .Add) (mLc [7, 15] (mSrc (mV 10)) (gTp 2 (gCn (gNm 7) (gCn (gNm 15) gNl))) (mCmpT (evCmp .Eq) (mV 7) (mC (.str "s"))) (mV 15)) (mLstE (mCons (mC .non) mNil))) (mC (.int 0))) mNil)))
  (mSeq (mEx (mBm .l gApp (mV 11) (mCons (mIx (mBin (evBin .Add) (mLc [7, 15] (mSrc (mV 10)) (gTp 2 (gCn (gNm 7) (gCn (gNm 15) gNl))) (mCmpT (evCmp .Eq) (mV 7) (mC (.str "p"))) (mV 15)) (mLstE (mCons (mC .non) mNil))) (mC (.int 0))) mNil)))
  (mFor (mSrcA rng1 (mCons (mC (.int 2)) mNil)) (gNm 12) (mSeq (mSet 13 (mCall 1 c_reads (mCons (mV 9) mNil)))
  (mSeq (mIf (mOrT (mNotT (mValT (mIsi .tup (mV 13)))) (mCmpT (evCmp .NotEq) (mB fList (mCons (mV 13) mNil)) (mLc [7, 15] (mSrc (mV 10)) (gTp 2 (gCn (gNm 7) (gCn (gNm 15) gNl))) (mCmpT (evCmp .Eq) (mV 7) (mC (.str "r"))) (mV 15)))) (mRt (mC (.bl false))) mNx)
  (mSeq (mIf (mOrT (mCmpT (evCmp .NotEq) (mLstE (mCons (mCall 1 c_sets (mCons (mV 9) mNil)) (mCons (mCall 1 c_leads (mCons (mV 9) mNil)) mNil))) (mV 11)) (mCmpT (evCmp .NotEq) (mV 9) (mBin (evBin .Add) (mTupE (mCons (mV 4) mNil)) (mB fTup (mCons (mV 5) mNil))))) (mRt (mC (.bl false))) mNx)
  (mSeq (mSet 14 (mCall 1 c_is_way (mCons (mV 9) mNil)))
  (mIf (mOrT (mNotT (mValT (mIsi .bl (mV 14)))) (mCmpT (evCmp .NotEq) (mV 14) (mBin (evCmp .In) (mV 4) (mTupE (mCons (mC (.str "go")) (mCons (mC (.str "if")) (mCons (mC (.str "if2")) (mCons (mC (.str "if3")) (mCons (mC (.str "end")) mNil))))))))) (mRt (mC (.bl false))) mNx)))))))))))))))
  (mRt (mC (.bl true))))
def w__law : ML.Loc → M Fl :=
  (nSeq (nFor (nSrcA rng1 (nCons (nBin (evBin .Add) (nC (.int 1)) (nB (fII fun i j => if j < i then j else i) (nCons (nC (.int 30)) (nCons (nB fLen (nCons (nV 0) nNil)) nNil)))) nNil)) (hNm 1) (nSeq (nSet 2 (nCall 2 c__law_mixed (nCons (nV 0) (nCons (nV 1) nNil))))
  (nFor (nSrcA enD (nCons (fun _ => c__law_sorts []) nNil)) (hTp 2 (hCn (hNm 3) (hCn (hNm 4) hNl))) (nSeq (nSet 5 (nLstE nNil))
  (nSeq (nFor (nSrcA enD (nCons (nCall 1 c__law_form (nCons (nV 4) nNil)) nNil)) (hTp 2 (hCn (hNm 6) (hCn (hNm 7) hNl))) (nSeq (nSet 8 (nBin (evBin .FloorDiv) (nCall 2 c__law_turned (nCons (nCall 2 c__law_turned (nCons (nV 2) (nCons (nV 3) nNil))) (nCons (nV 6) nNil))) (nC (.int 7))))
  (nEx (nBm .l gApp (nV 5) (nCons (nBin (evBin .Mod) (nV 8) (nIx (nDisp [((nC (.str "s")), (nC (.int 32))), ((nC (.str "r")), (nIx (nLstE (nCons (nC (.int 32)) (nCons (nC (.int 3)) nNil))) (nBin (evBin .Mod) (nBin (evBin .FloorDiv) (nV 2) (nC (.int 5))) (nC (.int 2))))), ((nC (.str "n")), (nC (.int 16))), ((nC (.str "k")), (nC (.int 8))), ((nC (.str "p")), (nC (.int 400)))]) (nV 7))) nNil)))))
  (nSeq (nSet 9 (nBin (evBin .Add) (nTupE (nCons (nV 4) nNil)) (nB fTup (nCons (nV 5) nNil))))
  (nSeq (nSet 10 (nLzip (nCons (nCall 1 c__law_form (nCons (nV 4) nNil)) (nCons (nV 5) nNil))))
  (nSeq (nSet 11 (nLstE (nCons (nIx (nBin (evBin .Add) (nLc [7, 15] (nSrc (nV 10)) (hTp 2 (hCn (hNm 7) (hCn (hNm 15) hNl))) (nCmpT (evCmp .Eq) (nV 7) (nC (.str "s"))) (nV 15)) (nLstE (nCons (nC .non) nNil))) (nC (.int 0))) nNil)))
  (nSeq (nEx (nBm .l gApp (nV 11) (nCons (nIx (nBin (evBin .Add) (nLc [7, 15] (nSrc (nV 10)) (hTp 2 (hCn (hNm 7) (hCn (hNm 15) hNl))) (nCmpT (evCmp .Eq) (nV 7) (nC (.str "p"))) (nV 15)) (nLstE (nCons (nC .non) nNil))) (nC (.int 0))) nNil)))
  (nFor (nSrcA rng1 (nCons (nC (.int 2)) nNil)) (hNm 12) (nSeq (nSet 13 (nCall 1 c_reads (nCons (nV 9) nNil)))
  (nSeq (nIf (nOrT (nNotT (nValT (nIsi .tup (nV 13)))) (nCmpT (evCmp .NotEq) (nB fList (nCons (nV 13) nNil)) (nLc [7, 15] (nSrc (nV 10)) (hTp 2 (hCn (hNm 7) (hCn (hNm 15) hNl))) (nCmpT (evCmp .Eq) (nV 7) (nC (.str "r"))) (nV 15)))) (nRt (nC (.bl false))) nNx)
  (nSeq (nIf (nOrT (nCmpT (evCmp .NotEq) (nLstE (nCons (nCall 1 c_sets (nCons (nV 9) nNil)) (nCons (nCall 1 c_leads (nCons (nV 9) nNil)) nNil))) (nV 11)) (nCmpT (evCmp .NotEq) (nV 9) (nBin (evBin .Add) (nTupE (nCons (nV 4) nNil)) (nB fTup (nCons (nV 5) nNil))))) (nRt (nC (.bl false))) nNx)
  (nSeq (nSet 14 (nCall 1 c_is_way (nCons (nV 9) nNil)))
  (nIf (nOrT (nNotT (nValT (nIsi .bl (nV 14)))) (nCmpT (evCmp .NotEq) (nV 14) (nBin (evCmp .In) (nV 4) (nTupE (nCons (nC (.str "go")) (nCons (nC (.str "if")) (nCons (nC (.str "if2")) (nCons (nC (.str "if3")) (nCons (nC (.str "end")) nNil))))))))) (nRt (nC (.bl false))) nNx)))))))))))))))
  (nRt (nC (.bl true))))
theorem mw_law : m_law = w__law := by with_unfolding_all rfl
def n_law : List Str := ["_law_script", "_law_k", "_law_number", "_law_place", "_law_word", "_law_parts", "_law_j", "_law_sort", "_law_more", "_law_row", "_law_pairs", "_law_due", "_law_turn", "_law_read", "_law_told", "_law_part"]
def d_law : List D → M D := defM n_law m_law
theorem dw_law : d_law = defM n_law w__law := by unfold d_law; rw [mw_law]
@[reducible] def c_law : List D → M D := d_law
end K03

set_option maxHeartbeats 4000000
namespace K03
open PySem PySem.Spec PyProof.Rows L2 ML
def topS (i : Nat) : Stmt := PySem.Challenge.pw_slipward_k03_rows_read.main.body.getD i (.Pass ⟨0, 0, 0, 0⟩)
abbrev s_parts_of : Stmt := topS 6
theorem sc_parts_of : FnScope n_parts_of ["row", "sort"] (defScope s_parts_of) := ⟨rfl, rfl, rfl, by decide +kernel, rfl, by decide +kernel, by decide +kernel⟩
theorem w_parts_of {P : Program} {w : World} {mg : Str → Option Value} {base : Heap} {G : Wd} (hw : w = G.w) (hb_tuple : mg "tuple" = none) (hb_zip : mg "zip" = none) (hg_FORMS : Gv mg G "FORMS" v_FORMS) {f : Addr} {fd : FuncData} (F : Fun G.K "parts_of" "parts_of" s_parts_of f fd) : FnOk P w G.K mg base (L2.CX P w) 1 f fd ["row", "sort"] (spM G 2 d_parts_of) := by
  rw [dw_parts_of]
  refine fn_mk (k := 0) (N := n_parts_of) (ps := ["row", "sort"]) (mb := w__parts_of) F hw sc_parts_of fun cdv A outer s H E qd => ?_
  have q := qd.toBc
  refine JSs.run ?_
  unfold w__parts_of
  exact (n_SSs_one (n_SS_ret (n_c_tuple q rfl hb_tuple (n_a_c (n_SE_lc (own := [("own", 2), ("part", 3)]) (A := fun i => i == 2 || i == 3) q.hc sc_parts_of.nd (n_j_zp q rfl hb_zip (n_a_c (n_e_ix q (n_e_glob hg_FORMS rfl rfl) (n_e_ix q (n_e_var 0 rfl (.inl rfl) rfl rfl) n_e_int (fun _ _ => rfl)) (fun _ _ => rfl)) (n_a_c (n_e_sl q (n_e_var 0 rfl (.inl rfl) rfl rfl) (n_o_some n_e_int) n_o_none) n_a_nil rfl) rfl) rfl rfl) rfl (fun i h => by simp at h ⊢; omega) (fun _ _ _ _ _ => (n_SG_tup (n := 2) (q.blk _ _ _ _ _).hK (q.blk _ _ _ _ _).hc (n_SGs_cons (fun _ => (n_SG_name (i := 2) sc_parts_of.nd rfl (.inl rfl) (.inr rfl) rfl)) (fun _ => (n_SGs_cons (fun _ => (n_SG_name (i := 3) sc_parts_of.nd rfl (.inl rfl) (.inr rfl) rfl)) (fun _ => n_SGs_nil) rfl n_ne_nm n_ne_nl)) rfl n_ne_nm (n_ne_cn n_ne_nm n_ne_nl)) rfl rfl)) (fun _ _ _ _ _ => (n_STs_one (n_t_cmp (q.blk _ _ _ _ _) (n_e_var 2 rfl (.inl rfl) rfl rfl) (n_e_var 1 rfl (.inr (.inl rfl)) rfl rfl) rfl))) (fun _ _ _ _ _ => (n_e_var 3 rfl (.inl rfl) rfl rfl)) (fun _ => rfl)) n_a_nil rfl) rfl)))
abbrev s_is_way : Stmt := topS 10
theorem sc_is_way : FnScope n_is_way ["row"] (defScope s_is_way) := ⟨rfl, rfl, rfl, by decide +kernel, rfl, by decide +kernel, by decide +kernel⟩
theorem w_is_way {P : Program} {w : World} {mg : Str → Option Value} {base : Heap} {G : Wd} (hw : w = G.w) (hg_WAYS : Gv mg G "WAYS" v_WAYS) {f : Addr} {fd : FuncData} (F : Fun G.K "is_way" "is_way" s_is_way f fd) : FnOk P w G.K mg base (L2.CX P w) 1 f fd ["row"] (spM G 1 d_is_way) := by
  rw [dw_is_way]
  refine fn_mk (k := 0) (N := n_is_way) (ps := ["row"]) (mb := w__is_way) F hw sc_is_way fun cdv A outer s H E qd => ?_
  have q := qd.toBc
  refine JSs.run ?_
  unfold w__is_way
  exact (n_SSs_one (n_SS_ret (n_e_cmp q (n_e_ix q (n_e_var 0 rfl (.inl rfl) rfl rfl) n_e_int (fun _ _ => rfl)) (n_e_glob hg_WAYS rfl rfl) rfl)))
abbrev s__law_mixed : Stmt := topS 12
theorem sc__law_mixed : FnScope n__law_mixed ["_law_script", "_law_k"] (defScope s__law_mixed) := ⟨rfl, rfl, rfl, by decide +kernel, rfl, by decide +kernel, by decide +kernel⟩
theorem w__law_mixed {P : Program} {w : World} {mg : Str → Option Value} {base : Heap} {G : Wd} (hw : w = G.w) (hb_len : mg "len" = none) (hb_max : mg "max" = none) {f : Addr} {fd : FuncData} (F : Fun G.K "_law_mixed" "_law_mixed" s__law_mixed f fd) : FnOk P w G.K mg base (L2.CX P w) 1 f fd ["_law_script", "_law_k"] (spM G 2 d__law_mixed) := by
  rw [dw__law_mixed]
  refine fn_mk (k := 0) (N := n__law_mixed) (ps := ["_law_script", "_law_k"]) (mb := w___law_mixed) F hw sc__law_mixed fun cdv A outer s H E qd => ?_
  have q := qd.toBc
  refine JSs.run ?_
  unfold w___law_mixed
  exact (n_SSs_cons (n_s_set 2 sc__law_mixed.nd rfl (.inl rfl) (n_e_bin q (n_e_ix q (n_e_bin q (n_e_var 0 rfl (.inl rfl) rfl rfl) (n_e_lst (n_a_c n_e_int n_a_nil rfl))) (n_e_bin q (n_e_var 1 rfl (.inl rfl) rfl rfl) (n_c_B (callD_II (call_max2 q.hc)) rfl hb_max boot_max (n_a_c n_e_int (n_a_c (n_c_len q rfl hb_len (n_a_c (n_e_var 0 rfl (.inl rfl) rfl rfl) n_a_nil rfl) rfl) n_a_nil rfl) rfl) (by decide) rfl rfl)) (fun _ _ => rfl)) (n_e_bin q n_e_int n_e_int)) rfl (.inl rfl) rfl)
  (n_SSs_cons (n_s_set 3 sc__law_mixed.nd rfl (.inl rfl) (n_e_bin q n_e_int (n_e_bin q n_e_int (n_e_var 1 rfl (.inl rfl) rfl rfl))) rfl (.inl rfl) rfl)
  (n_SSs_one (n_SS_ret (n_e_bin q (n_e_bin q (n_e_bin q (n_e_bin q (n_e_var 2 rfl (.inl rfl) rfl rfl) n_e_int) (n_e_bin q (n_e_bin q n_e_int (n_e_var 1 rfl (.inl rfl) rfl rfl)) (n_e_var 1 rfl (.inl rfl) rfl rfl))) (n_e_var 3 rfl (.inl rfl) rfl rfl)) n_e_int)))))
abbrev s__law_turned : Stmt := topS 13
theorem sc__law_turned : FnScope n__law_turned ["_law_number", "_law_k"] (defScope s__law_turned) := ⟨rfl, rfl, rfl, by decide +kernel, rfl, by decide +kernel, by decide +kernel⟩
theorem w__law_turned {P : Program} {w : World} {mg : Str → Option Value} {base : Heap} {G : Wd} (hw : w = G.w) {f : Addr} {fd : FuncData} (F : Fun G.K "_law_turned" "_law_turned" s__law_turned f fd) : FnOk P w G.K mg base (L2.CX P w) 1 f fd ["_law_number", "_law_k"] (spM G 2 d__law_turned) := by
  rw [dw__law_turned]
  refine fn_mk (k := 0) (N := n__law_turned) (ps := ["_law_number", "_law_k"]) (mb := w___law_turned) F hw sc__law_turned fun cdv A outer s H E qd => ?_
  have q := qd.toBc
  refine JSs.run ?_
  unfold w___law_turned
  exact (n_SSs_cons (n_s_set 2 sc__law_turned.nd rfl (.inl rfl) (n_e_ix q (n_e_lst (n_a_c n_e_int (n_a_c n_e_int n_a_nil rfl) rfl)) (n_e_bin q (n_e_var 1 rfl (.inl rfl) rfl rfl) n_e_int) (fun _ _ => rfl)) rfl (.inl rfl) rfl)
  (n_SSs_cons (n_SS_ifS (n_t_cmp q (n_e_bin q (n_e_var 1 rfl (.inl rfl) rfl rfl) n_e_int) n_e_int rfl) (n_SSs_one (n_s_set 2 sc__law_turned.nd rfl (.inl rfl) (n_e_ix q (n_e_lst (n_a_c n_e_int (n_a_c n_e_int n_a_nil rfl) rfl)) (n_e_bin q (n_e_var 1 rfl (.inl rfl) rfl rfl) n_e_int) (fun _ _ => rfl)) rfl (.inl rfl) rfl)) n_s_nil)
  (n_SSs_one (n_SS_ret (n_e_bin q (n_e_bin q (n_e_bin q (n_e_bin q (n_e_var 0 rfl (.inl rfl) rfl rfl) n_e_int) (n_e_bin q (n_e_bin q n_e_int (n_e_var 1 rfl (.inl rfl) rfl rfl)) (n_e_var 1 rfl (.inl rfl) rfl rfl))) (n_e_var 2 rfl (.inl rfl) rfl rfl)) n_e_int)))))
abbrev s__law_form : Stmt := topS 14
theorem sc__law_form : FnScope n__law_form ["_law_word"] (defScope s__law_form) := ⟨rfl, rfl, rfl, by decide +kernel, rfl, by decide +kernel, by decide +kernel⟩
theorem w__law_form {P : Program} {w : World} {mg : Str → Option Value} {base : Heap} {G : Wd} (hw : w = G.w) {f : Addr} {fd : FuncData} (F : Fun G.K "_law_form" "_law_form" s__law_form f fd) : FnOk P w G.K mg base (L2.CX P w) 1 f fd ["_law_word"] (spM G 1 d__law_form) := by
  rw [dw__law_form]
  refine fn_mk (k := 0) (N := n__law_form) (ps := ["_law_word"]) (mb := w___law_form) F hw sc__law_form fun cdv A outer s H E qd => ?_
  have q := qd.toBc
  refine JSs.run ?_
  unfold w___law_form
  exact (n_SSs_cons (n_s_set 1 sc__law_form.nd rfl (.inl rfl) (n_SE_disp (.cons n_e_str.run n_e_str.run (.cons n_e_str.run n_e_str.run (.cons n_e_str.run n_e_str.run (.cons n_e_str.run n_e_str.run (.cons n_e_str.run n_e_str.run (.cons n_e_str.run n_e_str.run .nil)))))) rfl rfl (fun h => nomatch h) (by decide)) rfl (.inl rfl) rfl)
  (n_SSs_cons (n_s_expr (n_c_bm (t := .d) PySem.F.plainAttrs_dict PySem.F.slot_dict_update PySem.F.type_dict_update mtD_update (n_e_var 1 rfl (.inl rfl) rfl rfl) (n_a_c (n_SE_disp (.cons n_e_str.run n_e_str.run (.cons n_e_str.run n_e_str.run (.cons n_e_str.run n_e_str.run (.cons n_e_str.run n_e_str.run (.cons n_e_str.run n_e_str.run (.cons n_e_str.run n_e_str.run (.cons n_e_str.run n_e_str.run .nil))))))) rfl rfl (fun h => nomatch h) (by decide)) n_a_nil rfl) rfl rfl (by decide) rfl) rfl)
  (n_SSs_cons (n_s_expr (n_c_bm (t := .d) PySem.F.plainAttrs_dict PySem.F.slot_dict_update PySem.F.type_dict_update mtD_update (n_e_var 1 rfl (.inl rfl) rfl rfl) (n_a_c (n_SE_disp (.cons n_e_str.run n_e_str.run (.cons n_e_str.run n_e_str.run (.cons n_e_str.run n_e_str.run (.cons n_e_str.run n_e_str.run (.cons n_e_str.run n_e_str.run (.cons n_e_str.run n_e_str.run .nil)))))) rfl rfl (fun h => nomatch h) (by decide)) n_a_nil rfl) rfl rfl (by decide) rfl) rfl)
  (n_SSs_cons (n_s_expr (n_c_bm (t := .d) PySem.F.plainAttrs_dict PySem.F.slot_dict_update PySem.F.type_dict_update mtD_update (n_e_var 1 rfl (.inl rfl) rfl rfl) (n_a_c (n_SE_disp (.cons n_e_str.run n_e_str.run (.cons n_e_str.run n_e_str.run (.cons n_e_str.run n_e_str.run .nil))) rfl rfl (fun h => nomatch h) (by decide)) n_a_nil rfl) rfl rfl (by decide) rfl) rfl)
  (n_SSs_one (n_SS_ret (n_c_bm (t := .d) PySem.F.plainAttrs_dict PySem.F.slot_dict_get PySem.F.type_dict_get (mtD_get (by have := q.hu; omega)) (n_e_var 1 rfl (.inl rfl) rfl rfl) (n_a_c (n_e_var 0 rfl (.inl rfl) rfl rfl) (n_a_c n_e_non n_a_nil rfl) rfl) rfl rfl (by decide) rfl)))))))
abbrev s__law_sorts : Stmt := topS 15
theorem sc__law_sorts : FnScope n__law_sorts [] (defScope s__law_sorts) := ⟨rfl, rfl, rfl, by decide +kernel, rfl, by decide +kernel, by decide +kernel⟩
theorem w__law_sorts {P : Program} {w : World} {mg : Str → Option Value} {base : Heap} {G : Wd} (hw : w = G.w) {f : Addr} {fd : FuncData} (F : Fun G.K "_law_sorts" "_law_sorts" s__law_sorts f fd) : FnOk P w G.K mg base (L2.CX P w) 1 f fd [] (spM G 0 d__law_sorts) := by
  rw [dw__law_sorts]
  refine fn_mk (k := 0) (N := n__law_sorts) (ps := []) (mb := w___law_sorts) F hw sc__law_sorts fun cdv A outer s H E qd => ?_
  have q := qd.toBc
  refine JSs.run ?_
  unfold w___law_sorts
  exact (n_SSs_cons (n_s_set 0 sc__law_sorts.nd rfl (.inl rfl) (n_e_lst (n_a_c n_e_str (n_a_c n_e_str (n_a_c n_e_str (n_a_c n_e_str (n_a_c n_e_str (n_a_c n_e_str (n_a_c n_e_str (n_a_c n_e_str (n_a_c n_e_str (n_a_c n_e_str (n_a_c n_e_str (n_a_c n_e_str (n_a_c n_e_str n_a_nil rfl) rfl) rfl) rfl) rfl) rfl) rfl) rfl) rfl) rfl) rfl) rfl) rfl)) rfl (.inl rfl) rfl)
  (n_SSs_one (n_SS_ret (n_e_bin q (n_e_var 0 rfl (.inl rfl) rfl rfl) (n_e_lst (n_a_c n_e_str (n_a_c n_e_str (n_a_c n_e_str (n_a_c n_e_str (n_a_c n_e_str (n_a_c n_e_str (n_a_c n_e_str (n_a_c n_e_str (n_a_c n_e_str n_a_nil rfl) rfl) rfl) rfl) rfl) rfl) rfl) rfl) rfl))))))
abbrev s_reads : Stmt := topS 7
theorem sc_reads : FnScope n_reads ["row"] (defScope s_reads) := ⟨rfl, rfl, rfl, by decide +kernel, rfl, by decide +kernel, by decide +kernel⟩
theorem w_reads {P : Program} {w : World} {mg : Str → Option Value} {base : Heap} {G : Wd} (hw : w = G.w) (hg_READ_BOX : Gv mg G "READ_BOX" v_READ_BOX) (h_parts_of : Hf P w mg base G 1 "parts_of" ["row", "sort"] c_parts_of) {f : Addr} {fd : FuncData} (F : Fun G.K "reads" "reads" s_reads f fd) : FnOk P w G.K mg base (L2.CX P w) 2 f fd ["row"] (spM G 1 d_reads) := by
  rw [dw_reads]
  refine fn_mk (k := 1) (N := n_reads) (ps := ["row"]) (mb := w__reads) F hw sc_reads fun cdv A outer s H E qd => ?_
  have q := qd.toBc
  refine JSs.run ?_
  unfold w__reads
  exact (n_SSs_one (n_SS_ret (n_c_fn "parts_of" h_parts_of q (by omega) rfl (n_a_c (n_e_var 0 rfl (.inl rfl) rfl rfl) (n_a_c (n_e_glob hg_READ_BOX rfl rfl) n_a_nil rfl) rfl) rfl rfl)))
abbrev s_sets : Stmt := topS 8
theorem sc_sets : FnScope n_sets ["row"] (defScope s_sets) := ⟨rfl, rfl, rfl, by decide +kernel, rfl, by decide +kernel, by decide +kernel⟩
theorem w_sets {P : Program} {w : World} {mg : Str → Option Value} {base : Heap} {G : Wd} (hw : w = G.w) (hg_SET_BOX : Gv mg G "SET_BOX" v_SET_BOX) (h_parts_of : Hf P w mg base G 1 "parts_of" ["row", "sort"] c_parts_of) {f : Addr} {fd : FuncData} (F : Fun G.K "sets" "sets" s_sets f fd) : FnOk P w G.K mg base (L2.CX P w) 2 f fd ["row"] (spM G 1 d_sets) := by
  rw [dw_sets]
  refine fn_mk (k := 1) (N := n_sets) (ps := ["row"]) (mb := w__sets) F hw sc_sets fun cdv A outer s H E qd => ?_
  have q := qd.toBc
  refine JSs.run ?_
  unfold w__sets
  exact (n_SSs_cons (n_s_set 1 sc_sets.nd rfl (.inl rfl) (n_c_fn "parts_of" h_parts_of q (by omega) rfl (n_a_c (n_e_var 0 rfl (.inl rfl) rfl rfl) (n_a_c (n_e_glob hg_SET_BOX rfl rfl) n_a_nil rfl) rfl) rfl rfl) rfl (.inl rfl) rfl)
  (n_SSs_one (n_SS_ret (n_e_ifE (n_t_cmp q (n_e_var 1 rfl (.inl rfl) rfl rfl) (n_e_tup n_a_nil) rfl) (n_e_ix q (n_e_var 1 rfl (.inl rfl) rfl rfl) n_e_int (fun _ _ => rfl)) n_e_non))))
abbrev s_leads : Stmt := topS 9
theorem sc_leads : FnScope n_leads ["row"] (defScope s_leads) := ⟨rfl, rfl, rfl, by decide +kernel, rfl, by decide +kernel, by decide +kernel⟩
theorem w_leads {P : Program} {w : World} {mg : Str → Option Value} {base : Heap} {G : Wd} (hw : w = G.w) (hg_A_PLACE : Gv mg G "A_PLACE" v_A_PLACE) (h_parts_of : Hf P w mg base G 1 "parts_of" ["row", "sort"] c_parts_of) {f : Addr} {fd : FuncData} (F : Fun G.K "leads" "leads" s_leads f fd) : FnOk P w G.K mg base (L2.CX P w) 2 f fd ["row"] (spM G 1 d_leads) := by
  rw [dw_leads]
  refine fn_mk (k := 1) (N := n_leads) (ps := ["row"]) (mb := w__leads) F hw sc_leads fun cdv A outer s H E qd => ?_
  have q := qd.toBc
  refine JSs.run ?_
  unfold w__leads
  exact (n_SSs_cons (n_s_set 1 sc_leads.nd rfl (.inl rfl) (n_c_fn "parts_of" h_parts_of q (by omega) rfl (n_a_c (n_e_var 0 rfl (.inl rfl) rfl rfl) (n_a_c (n_e_glob hg_A_PLACE rfl rfl) n_a_nil rfl) rfl) rfl rfl) rfl (.inl rfl) rfl)
  (n_SSs_one (n_SS_ret (n_e_ifE (n_t_cmp q (n_e_var 1 rfl (.inl rfl) rfl rfl) (n_e_tup n_a_nil) rfl) (n_e_ix q (n_e_var 1 rfl (.inl rfl) rfl rfl) n_e_int (fun _ _ => rfl)) n_e_non))))
abbrev s_law : Stmt := topS 16
theorem sc_law : FnScope n_law ["_law_script"] (defScope s_law) := ⟨rfl, rfl, rfl, by decide +kernel, rfl, by decide +kernel, by decide +kernel⟩
theorem w_law {P : Program} {w : World} {mg : Str → Option Value} {base : Heap} {G : Wd} (hw : w = G.w) (hb_bool : mg "bool" = none) (hb_enumerate : mg "enumerate" = none) (hb_isinstance : mg "isinstance" = none) (hb_len : mg "len" = none) (hb_list : mg "list" = none) (hb_min : mg "min" = none) (hb_range : mg "range" = none) (hb_tuple : mg "tuple" = none) (hb_zip : mg "zip" = none) (h__law_form : Hf P w mg base G 1 "_law_form" ["_law_word"] c__law_form) (h__law_mixed : Hf P w mg base G 1 "_law_mixed" ["_law_script", "_law_k"] c__law_mixed) (h__law_sorts : Hf P w mg base G 1 "_law_sorts" [] c__law_sorts) (h__law_turned : Hf P w mg base G 1 "_law_turned" ["_law_number", "_law_k"] c__law_turned) (h_is_way : Hf P w mg base G 1 "is_way" ["row"] c_is_way) (h_leads : Hf P w mg base G 2 "leads" ["row"] c_leads) (h_reads : Hf P w mg base G 2 "reads" ["row"] c_reads) (h_sets : Hf P w mg base G 2 "sets" ["row"] c_sets) {f : Addr} {fd : FuncData} (F : Fun G.K "law" "law" s_law f fd) : FnOk P w G.K mg base (L2.CX P w) 3 f fd ["_law_script"] (spM G 1 d_law) := by
  rw [dw_law]
  refine fn_mk (k := 2) (N := n_law) (ps := ["_law_script"]) (mb := w__law) F hw sc_law fun cdv A outer s H E qd => ?_
  have q := qd.toBc
  refine JSs.run ?_
  unfold w__law
  exact (n_SSs_cons (n_SS_forS qd.po q.hc (n_j_r1 rfl hb_range (n_a_c (n_e_bin q n_e_int (n_c_B (callD_II (call_min2 q.hc)) rfl hb_min boot_min (n_a_c n_e_int (n_a_c (n_c_len q rfl hb_len (n_a_c (n_e_var 0 rfl (.inl rfl) rfl rfl) n_a_nil rfl) rfl) n_a_nil rfl) rfl) (by decide) rfl rfl)) n_a_nil rfl) rfl) (n_SG_name (i := 1) sc_law.nd rfl (.inl rfl) (.inl rfl) rfl) (n_SSs_cons (n_s_set 2 sc_law.nd rfl (.inl rfl) (n_c_fn "_law_mixed" h__law_mixed q (by omega) rfl (n_a_c (n_e_var 0 rfl (.inl rfl) rfl rfl) (n_a_c (n_e_var 1 rfl (.inl rfl) rfl rfl) n_a_nil rfl) rfl) rfl rfl) rfl (.inl rfl) rfl)
  (n_SSs_one (n_SS_forS qd.po q.hc (n_j_en q rfl hb_enumerate (n_a_c (n_c_fn0 "_law_sorts" h__law_sorts q (by omega) rfl rfl) n_a_nil rfl) rfl) (n_SG_tup (n := 2) q.hK q.hc (n_SGs_cons (fun _ => (n_SG_name (i := 3) sc_law.nd rfl (.inl rfl) (.inl rfl) rfl)) (fun _ => (n_SGs_cons (fun _ => (n_SG_name (i := 4) sc_law.nd rfl (.inl rfl) (.inl rfl) rfl)) (fun _ => n_SGs_nil) rfl n_ne_nm n_ne_nl)) rfl n_ne_nm (n_ne_cn n_ne_nm n_ne_nl)) rfl rfl) (n_SSs_cons (n_s_set 5 sc_law.nd rfl (.inl rfl) (n_e_lst n_a_nil) rfl (.inl rfl) rfl)
  (n_SSs_cons (n_SS_forS qd.po q.hc (n_j_en q rfl hb_enumerate (n_a_c (n_c_fn "_law_form" h__law_form q (by omega) rfl (n_a_c (n_e_var 4 rfl (.inl rfl) rfl rfl) n_a_nil rfl) rfl rfl) n_a_nil rfl) rfl) (n_SG_tup (n := 2) q.hK q.hc (n_SGs_cons (fun _ => (n_SG_name (i := 6) sc_law.nd rfl (.inl rfl) (.inl rfl) rfl)) (fun _ => (n_SGs_cons (fun _ => (n_SG_name (i := 7) sc_law.nd rfl (.inl rfl) (.inl rfl) rfl)) (fun _ => n_SGs_nil) rfl n_ne_nm n_ne_nl)) rfl n_ne_nm (n_ne_cn n_ne_nm n_ne_nl)) rfl rfl) (n_SSs_cons (n_s_set 8 sc_law.nd rfl (.inl rfl) (n_e_bin q (n_c_fn "_law_turned" h__law_turned q (by omega) rfl (n_a_c (n_c_fn "_law_turned" h__law_turned q (by omega) rfl (n_a_c (n_e_var 2 rfl (.inl rfl) rfl rfl) (n_a_c (n_e_var 3 rfl (.inl rfl) rfl rfl) n_a_nil rfl) rfl) rfl rfl) (n_a_c (n_e_var 6 rfl (.inl rfl) rfl rfl) n_a_nil rfl) rfl) rfl rfl) n_e_int) rfl (.inl rfl) rfl)
  (n_SSs_one (n_s_expr (n_c_bm (t := .l) PySem.F.plainAttrs_list PySem.F.slot_list_append PySem.F.type_list_append mtD_append (n_e_var 5 rfl (.inl rfl) rfl rfl) (n_a_c (n_e_bin q (n_e_var 8 rfl (.inl rfl) rfl rfl) (n_e_ix q (n_SE_disp (.cons n_e_str.run n_e_int.run (.cons n_e_str.run (n_e_ix q (n_e_lst (n_a_c n_e_int (n_a_c n_e_int n_a_nil rfl) rfl)) (n_e_bin q (n_e_bin q (n_e_var 2 rfl (.inl rfl) rfl rfl) n_e_int) n_e_int) (fun _ _ => rfl)).run (.cons n_e_str.run n_e_int.run (.cons n_e_str.run n_e_int.run (.cons n_e_str.run n_e_int.run .nil))))) rfl rfl (fun h => nomatch h) (by decide)) (n_e_var 7 rfl (.inl rfl) rfl rfl) (fun _ _ => rfl))) n_a_nil rfl) rfl rfl (by decide) rfl) rfl))) (fun _ => rfl))
  (n_SSs_cons (n_s_set 9 sc_law.nd rfl (.inl rfl) (n_e_bin q (n_e_tup (n_a_c (n_e_var 4 rfl (.inl rfl) rfl rfl) n_a_nil rfl)) (n_c_tuple q rfl hb_tuple (n_a_c (n_e_var 5 rfl (.inl rfl) rfl rfl) n_a_nil rfl) rfl)) rfl (.inl rfl) rfl)
  (n_SSs_cons (n_s_set 10 sc_law.nd rfl (.inl rfl) (n_c_lzip q rfl hb_list rfl hb_zip (n_a_c (n_c_fn "_law_form" h__law_form q (by omega) rfl (n_a_c (n_e_var 4 rfl (.inl rfl) rfl rfl) n_a_nil rfl) rfl rfl) (n_a_c (n_e_var 5 rfl (.inl rfl) rfl rfl) n_a_nil rfl) rfl) rfl rfl) rfl (.inl rfl) rfl)
  (n_SSs_cons (n_s_set 11 sc_law.nd rfl (.inl rfl) (n_e_lst (n_a_c (n_e_ix q (n_e_bin q (n_SE_lc (own := [("_law_sort", 7), ("_law_part", 15)]) (A := fun i => i == 7 || i == 15) q.hc sc_law.nd (n_i_dir q (n_e_var 10 rfl (.inl rfl) rfl rfl)) rfl (fun i h => by simp at h ⊢; omega) (fun _ _ _ _ _ => (n_SG_tup (n := 2) (q.blk _ _ _ _ _).hK (q.blk _ _ _ _ _).hc (n_SGs_cons (fun _ => (n_SG_name (i := 7) sc_law.nd rfl (.inl rfl) (.inr rfl) rfl)) (fun _ => (n_SGs_cons (fun _ => (n_SG_name (i := 15) sc_law.nd rfl (.inl rfl) (.inr rfl) rfl)) (fun _ => n_SGs_nil) rfl n_ne_nm n_ne_nl)) rfl n_ne_nm (n_ne_cn n_ne_nm n_ne_nl)) rfl rfl)) (fun _ _ _ _ _ => (n_STs_one (n_t_cmp (q.blk _ _ _ _ _) (n_e_var 7 rfl (.inl rfl) rfl rfl) n_e_str rfl))) (fun _ _ _ _ _ => (n_e_var 15 rfl (.inl rfl) rfl rfl)) (fun _ => rfl)) (n_e_lst (n_a_c n_e_non n_a_nil rfl))) n_e_int (fun _ _ => rfl)) n_a_nil rfl)) rfl (.inl rfl) rfl)
  (n_SSs_cons (n_s_expr (n_c_bm (t := .l) PySem.F.plainAttrs_list PySem.F.slot_list_append PySem.F.type_list_append mtD_append (n_e_var 11 rfl (.inl rfl) rfl rfl) (n_a_c (n_e_ix q (n_e_bin q (n_SE_lc (own := [("_law_sort", 7), ("_law_part", 15)]) (A := fun i => i == 7 || i == 15) q.hc sc_law.nd (n_i_dir q (n_e_var 10 rfl (.inl rfl) rfl rfl)) rfl (fun i h => by simp at h ⊢; omega) (fun _ _ _ _ _ => (n_SG_tup (n := 2) (q.blk _ _ _ _ _).hK (q.blk _ _ _ _ _).hc (n_SGs_cons (fun _ => (n_SG_name (i := 7) sc_law.nd rfl (.inl rfl) (.inr rfl) rfl)) (fun _ => (n_SGs_cons (fun _ => (n_SG_name (i := 15) sc_law.nd rfl (.inl rfl) (.inr rfl) rfl)) (fun _ => n_SGs_nil) rfl n_ne_nm n_ne_nl)) rfl n_ne_nm (n_ne_cn n_ne_nm n_ne_nl)) rfl rfl)) (fun _ _ _ _ _ => (n_STs_one (n_t_cmp (q.blk _ _ _ _ _) (n_e_var 7 rfl (.inl rfl) rfl rfl) n_e_str rfl))) (fun _ _ _ _ _ => (n_e_var 15 rfl (.inl rfl) rfl rfl)) (fun _ => rfl)) (n_e_lst (n_a_c n_e_non n_a_nil rfl))) n_e_int (fun _ _ => rfl)) n_a_nil rfl) rfl rfl (by decide) rfl) rfl)
  (n_SSs_one (n_SS_forS qd.po q.hc (n_j_r1 rfl hb_range (n_a_c n_e_int n_a_nil rfl) rfl) (n_SG_name (i := 12) sc_law.nd rfl (.inl rfl) (.inl rfl) rfl) (n_SSs_cons (n_s_set 13 sc_law.nd rfl (.inl rfl) (n_c_fn "reads" h_reads q (by omega) rfl (n_a_c (n_e_var 9 rfl (.inl rfl) rfl rfl) n_a_nil rfl) rfl rfl) rfl (.inl rfl) rfl)
  (n_SSs_cons (n_SS_ifS (n_SW_t (n_w_or (n_t_not (n_t_val (n_c_isi .tup q (by decide) (n_e_var 13 rfl (.inl rfl) rfl rfl) rfl hb_isinstance rfl hb_tuple boot_tuple (by decide) rfl rfl) (fun _ => rfl))) (n_w_or1 (n_t_cmp q (n_c_list q rfl hb_list (n_a_c (n_e_var 13 rfl (.inl rfl) rfl rfl) n_a_nil rfl) rfl) (n_SE_lc (own := [("_law_sort", 7), ("_law_part", 15)]) (A := fun i => i == 7 || i == 15) q.hc sc_law.nd (n_i_dir q (n_e_var 10 rfl (.inl rfl) rfl rfl)) rfl (fun i h => by simp at h ⊢; omega) (fun _ _ _ _ _ => (n_SG_tup (n := 2) (q.blk _ _ _ _ _).hK (q.blk _ _ _ _ _).hc (n_SGs_cons (fun _ => (n_SG_name (i := 7) sc_law.nd rfl (.inl rfl) (.inr rfl) rfl)) (fun _ => (n_SGs_cons (fun _ => (n_SG_name (i := 15) sc_law.nd rfl (.inl rfl) (.inr rfl) rfl)) (fun _ => n_SGs_nil) rfl n_ne_nm n_ne_nl)) rfl n_ne_nm (n_ne_cn n_ne_nm n_ne_nl)) rfl rfl)) (fun _ _ _ _ _ => (n_STs_one (n_t_cmp (q.blk _ _ _ _ _) (n_e_var 7 rfl (.inl rfl) rfl rfl) n_e_str rfl))) (fun _ _ _ _ _ => (n_e_var 15 rfl (.inl rfl) rfl rfl)) (fun _ => rfl)) rfl)))) (n_SSs_one (n_SS_ret n_e_bl)) n_s_nil)
  (n_SSs_cons (n_SS_ifS (n_SW_t (n_w_or (n_t_cmp q (n_e_lst (n_a_c (n_c_fn "sets" h_sets q (by omega) rfl (n_a_c (n_e_var 9 rfl (.inl rfl) rfl rfl) n_a_nil rfl) rfl rfl) (n_a_c (n_c_fn "leads" h_leads q (by omega) rfl (n_a_c (n_e_var 9 rfl (.inl rfl) rfl rfl) n_a_nil rfl) rfl rfl) n_a_nil rfl) rfl)) (n_e_var 11 rfl (.inl rfl) rfl rfl) rfl) (n_w_or1 (n_t_cmp q (n_e_var 9 rfl (.inl rfl) rfl rfl) (n_e_bin q (n_e_tup (n_a_c (n_e_var 4 rfl (.inl rfl) rfl rfl) n_a_nil rfl)) (n_c_tuple q rfl hb_tuple (n_a_c (n_e_var 5 rfl (.inl rfl) rfl rfl) n_a_nil rfl) rfl)) rfl)))) (n_SSs_one (n_SS_ret n_e_bl)) n_s_nil)
  (n_SSs_cons (n_s_set 14 sc_law.nd rfl (.inl rfl) (n_c_fn "is_way" h_is_way q (by omega) rfl (n_a_c (n_e_var 9 rfl (.inl rfl) rfl rfl) n_a_nil rfl) rfl rfl) rfl (.inl rfl) rfl)
  (n_SSs_one (n_SS_ifS (n_SW_t (n_w_or (n_t_not (n_t_val (n_c_isi .bl q (by decide) (n_e_var 14 rfl (.inl rfl) rfl rfl) rfl hb_isinstance rfl hb_bool boot_bool (by decide) rfl rfl) (fun _ => rfl))) (n_w_or1 (n_t_cmp q (n_e_var 14 rfl (.inl rfl) rfl rfl) (n_e_cmp q (n_e_var 4 rfl (.inl rfl) rfl rfl) (n_e_tup (n_a_c n_e_str (n_a_c n_e_str (n_a_c n_e_str (n_a_c n_e_str (n_a_c n_e_str n_a_nil rfl) rfl) rfl) rfl) rfl)) rfl) rfl)))) (n_SSs_one (n_SS_ret n_e_bl)) n_s_nil)))))) (fun _ => rfl))))))))) (fun _ => rfl)))) (fun _ => rfl))
  (n_SSs_one (n_SS_ret n_e_bl)))
end K03

set_option maxHeartbeats 4000000
namespace K03
open PySem PySem.Spec PyProof.Rows L2 ML
theorem fz1 : (mergeD [] ([(Sum.inr "set", D.str "sn"), (Sum.inr "copy", D.str "sr"), (Sum.inr "add", D.str "srr"), (Sum.inr "less", D.str "srr"), (Sum.inr "same", D.str "srr"), (Sum.inr "mix", D.str "srr")] : List (Key × D))).length + (mergeD [] ([(Sum.inr "pick", D.str "srrr"), (Sum.inr "ask", D.str "sk"), (Sum.inr "take", D.str "sr"), (Sum.inr "tell", D.str "r"), (Sum.inr "put", D.str "rr"), (Sum.inr "go", D.str "p"), (Sum.inr "if", D.str "rp")] : List (Key × D))).length ≤ sizeLine := by decide +kernel
theorem fz2 : (mergeD (mergeD [] ([(Sum.inr "set", D.str "sn"), (Sum.inr "copy", D.str "sr"), (Sum.inr "add", D.str "srr"), (Sum.inr "less", D.str "srr"), (Sum.inr "same", D.str "srr"), (Sum.inr "mix", D.str "srr")] : List (Key × D))) (mergeD [] ([(Sum.inr "pick", D.str "srrr"), (Sum.inr "ask", D.str "sk"), (Sum.inr "take", D.str "sr"), (Sum.inr "tell", D.str "r"), (Sum.inr "put", D.str "rr"), (Sum.inr "go", D.str "p"), (Sum.inr "if", D.str "rp")] : List (Key × D)))).length + (mergeD [] ([(Sum.inr "end", D.str ""), (Sum.inr "hold", D.str "rr"), (Sum.inr "tell2", D.str "rr"), (Sum.inr "put2", D.str "rrrr"), (Sum.inr "if2", D.str "rrp"), (Sum.inr "tell3", D.str "rrr")] : List (Key × D))).length ≤ sizeLine := by decide +kernel
theorem fz3 : (mergeD (mergeD (mergeD [] ([(Sum.inr "set", D.str "sn"), (Sum.inr "copy", D.str "sr"), (Sum.inr "add", D.str "srr"), (Sum.inr "less", D.str "srr"), (Sum.inr "same", D.str "srr"), (Sum.inr "mix", D.str "srr")] : List (Key × D))) (mergeD [] ([(Sum.inr "pick", D.str "srrr"), (Sum.inr "ask", D.str "sk"), (Sum.inr "take", D.str "sr"), (Sum.inr "tell", D.str "r"), (Sum.inr "put", D.str "rr"), (Sum.inr "go", D.str "p"), (Sum.inr "if", D.str "rp")] : List (Key × D)))) (mergeD [] ([(Sum.inr "end", D.str ""), (Sum.inr "hold", D.str "rr"), (Sum.inr "tell2", D.str "rr"), (Sum.inr "put2", D.str "rrrr"), (Sum.inr "if2", D.str "rrp"), (Sum.inr "tell3", D.str "rrr")] : List (Key × D)))).length + (mergeD [] ([(Sum.inr "put3", D.str "rrrrrr"), (Sum.inr "if3", D.str "rrrp"), (Sum.inr "keep", D.str "")] : List (Key × D))).length ≤ sizeLine := by decide +kernel
def fDict : List (Key × D) := mergeD (mergeD (mergeD (mergeD [] ([(Sum.inr "set", D.str "sn"), (Sum.inr "copy", D.str "sr"), (Sum.inr "add", D.str "srr"), (Sum.inr "less", D.str "srr"), (Sum.inr "same", D.str "srr"), (Sum.inr "mix", D.str "srr")] : List (Key × D))) (mergeD [] ([(Sum.inr "pick", D.str "srrr"), (Sum.inr "ask", D.str "sk"), (Sum.inr "take", D.str "sr"), (Sum.inr "tell", D.str "r"), (Sum.inr "put", D.str "rr"), (Sum.inr "go", D.str "p"), (Sum.inr "if", D.str "rp")] : List (Key × D)))) (mergeD [] ([(Sum.inr "end", D.str ""), (Sum.inr "hold", D.str "rr"), (Sum.inr "tell2", D.str "rr"), (Sum.inr "put2", D.str "rrrr"), (Sum.inr "if2", D.str "rrp"), (Sum.inr "tell3", D.str "rrr")] : List (Key × D)))) (mergeD [] ([(Sum.inr "put3", D.str "rrrrrr"), (Sum.inr "if3", D.str "rrrp"), (Sum.inr "keep", D.str "")] : List (Key × D)))
theorem form_ev (w : Str) (S : Sto) : ∃ T, d__law_form [.str w] S = .ok ((getK fDict (.inr w)).getD .non) (S ++ T) := by
  simp [d__law_form, defM, m__law_form, n__law_form, startL, mSeq, mSet, mEx, mRt, mBm, mDisp, mPrs, noErr, newDct, keysD, keyD, bnd, ML.ret, seqK, flD, mC, mV, getL, mCons, mNil, isRt, gUpd, gGet, gA, gA0, sA, sA0, fz1, fz2, fz3]
  rfl
def sortsL : List D := [.str "set", .str "tell3", .str "copy", .str "keep", .str "add", .str "if3", .str "less", .str "put2", .str "same", .str "go", .str "mix", .str "put3", .str "pick", .str "tell2", .str "ask", .str "if2", .str "take", .str "hold", .str "tell", .str "end", .str "put", .str "if"]
theorem leSz {n : Nat} (h : n ≤ 1000000) : n ≤ sizeLine := by rw [sizeLine_eq]; omega
theorem sorts_ev (S : Sto) : ∃ T, d__law_sorts [] S = .ok (.obj (S.length + 2)) (S ++ T) ∧ T.length = 3 ∧ T[2]? = some (.lst sortsL) := by
  simp [d__law_sorts, defM, m__law_sorts, n__law_sorts, startL, mSeq, mSet, mRt, mBin, evBin, opAdd, mLstE, mkLst, bnd, ML.ret, seqK, flD, mC, mV, getL, mCons, mNil, lsOf, asList, gA, gA0, leSz, sortsL]
theorem mulOk {i j : Int} (hi : i.natAbs < 2 ^ 1000) (hj : j.natAbs < 2 ^ 1000) : i.natAbs.log2 + j.natAbs.log2 < 1000000 := by
  have h1 : i.natAbs.log2 ≤ 1000 := Nat.le_of_lt_succ (by
    by_cases z : i.natAbs = 0
    · rw [z]; decide
    · exact Nat.lt_succ_of_lt ((Nat.log2_lt z).mpr hi))
  have h2 : j.natAbs.log2 ≤ 1000 := Nat.le_of_lt_succ (by
    by_cases z : j.natAbs = 0
    · rw [z]; decide
    · exact Nat.lt_succ_of_lt ((Nat.log2_lt z).mpr hj))
  omega
end K03

set_option maxHeartbeats 4000000
namespace K03
open PySem PySem.Spec PyProof.Rows L2 ML
abbrev MM : Int := 170141183460469231731687303715884105727
theorem big {i : Int} (h : 0 ≤ i) (h2 : i < 2 ^ 900) : i.natAbs < 2 ^ 1000 := by omega
theorem at2_0 {x y : D} : L2.atI [x, y] 0 = some x := rfl
theorem at2_1 {x y : D} : L2.atI [x, y] 1 = some y := rfl
theorem tfin (t a b : Int) (S T : Sto) (ht : 0 ≤ t) (ht2 : t < 2 ^ 200) (ha : 0 ≤ a) (ha2 : a < 2 ^ 200) (hb : 0 ≤ b) (hb2 : b < 1000) (r : D) (ρ : ML.Loc) (h0 : ρ[0]? = some (some (.int a))) (h1 : ρ[1]? = some (some (.int b))) (h2 : ρ[2]? = some (some (.int t))) :
    ∃ i, (mRt (mBin (evBin .Mod) (mBin (evBin .Mult) (mBin (evBin .Add) (mBin (evBin .Add) (mV 0) (mC (.int 1))) (mBin (evBin .Mult) (mBin (evBin .Mult) (mC (.int 5081)) (mV 1)) (mV 1))) (mV 2)) (mC (.int 170141183460469231731687303715884105727)))) ρ S = .ok (.rt (.int i)) S ∧ 0 ≤ i ∧ i < MM := by
  have b1 : 0 ≤ 5081 * b := by omega
  have b2 : 5081 * b < 5081 * 1000 := by omega
  have b3 : 0 ≤ 5081 * b * b := Int.mul_nonneg b1 hb
  have b4 : 5081 * b * b ≤ 5081 * 1000 * 1000 := Int.mul_le_mul (by omega) (by omega) hb (by omega)
  have c1 := mulOk (i := 5081) (j := b) (by decide) (big hb (by omega))
  have c2 := mulOk (i := 5081 * b) (j := b) (big b1 (by omega)) (big hb (by omega))
  have c3 := mulOk (i := a + 1 + 5081 * b * b) (j := t) (big (by omega) (by omega)) (big ht (by omega))
  refine ⟨((a + 1 + 5081 * b * b) * t) % MM, ?_, Int.emod_nonneg _ (by decide), Int.emod_lt_of_pos _ (by decide)⟩
  simp only [mRt, mBin, evBin, opMod, opMul, opAdd, mV, mC, getL, bnd, ML.ret, h0, h1, h2, c1, c2, c3, if_true]
  rfl
theorem turned_ev (a b : Int) (S : Sto) (ha : 0 ≤ a) (ha2 : a < 2 ^ 200) (hb : 0 ≤ b) (hb2 : b < 1000) : ∃ i T, d__law_turned [.int a, .int b] S = .ok (.int i) (S ++ T) ∧ 0 ≤ i ∧ i < MM := by
  have e1 : b % 2 = 0 ∨ b % 2 = 1 := by omega
  have step : ∃ (t : Int) (T : Sto), 0 ≤ t ∧ t < 2 ^ 200 ∧ d__law_turned [.int a, .int b] S = bnd (fun S => (mRt (mBin (evBin .Mod) (mBin (evBin .Mult) (mBin (evBin .Add) (mBin (evBin .Add) (mV 0) (mC (.int 1))) (mBin (evBin .Mult) (mBin (evBin .Mult) (mC (.int 5081)) (mV 1)) (mV 1))) (mV 2)) (mC (.int 170141183460469231731687303715884105727)))) [some (.int a), some (.int b), some (.int t)] S) flD (S ++ T) := by
    by_cases q : b % 4 > 1
    · rcases e1 with e | e
      · refine ⟨99182736455463728190019283746556473, [.lst [.int 73029184756102938475610293847561029, .int 58203947561830297465018273645019283], .lst [.int 99182736455463728190019283746556473, .int 31415926535897932384626433832795029]], by decide, by decide, ?_⟩
        simp [d__law_turned, defM, m__law_turned, n__law_turned, startL, mSeq, mSet, mIf, mCmpT, evCmp, opCmpI, mIx, opIx, ixObj, oD, asB, mBin, evBin, opMod, mLstE, mkLst, bnd, ML.ret, seqK, mC, mV, getL, mCons, mNil, mNx, lsOf, asList, gA, gA0, leSz, e, at2_0, q]
      · refine ⟨31415926535897932384626433832795029, [.lst [.int 73029184756102938475610293847561029, .int 58203947561830297465018273645019283], .lst [.int 99182736455463728190019283746556473, .int 31415926535897932384626433832795029]], by decide, by decide, ?_⟩
        simp [d__law_turned, defM, m__law_turned, n__law_turned, startL, mSeq, mSet, mIf, mCmpT, evCmp, opCmpI, mIx, opIx, ixObj, oD, asB, mBin, evBin, opMod, mLstE, mkLst, bnd, ML.ret, seqK, mC, mV, getL, mCons, mNil, mNx, lsOf, asList, gA, gA0, leSz, e, at2_1, q]
    · rcases e1 with e | e
      · refine ⟨73029184756102938475610293847561029, [.lst [.int 73029184756102938475610293847561029, .int 58203947561830297465018273645019283]], by decide, by decide, ?_⟩
        simp [d__law_turned, defM, m__law_turned, n__law_turned, startL, mSeq, mSet, mIf, mCmpT, evCmp, opCmpI, mIx, opIx, ixObj, oD, asB, mBin, evBin, opMod, mLstE, mkLst, bnd, ML.ret, seqK, mC, mV, getL, mCons, mNil, mNx, lsOf, asList, gA, gA0, leSz, e, at2_0, q]
      · refine ⟨58203947561830297465018273645019283, [.lst [.int 73029184756102938475610293847561029, .int 58203947561830297465018273645019283]], by decide, by decide, ?_⟩
        simp [d__law_turned, defM, m__law_turned, n__law_turned, startL, mSeq, mSet, mIf, mCmpT, evCmp, opCmpI, mIx, opIx, ixObj, oD, asB, mBin, evBin, opMod, mLstE, mkLst, bnd, ML.ret, seqK, mC, mV, getL, mCons, mNil, mNx, lsOf, asList, gA, gA0, leSz, e, at2_1, q]
  obtain ⟨t, T, t1, t2, e⟩ := step
  obtain ⟨i, e2, i1, i2⟩ := tfin t a b (S ++ T) T t1 t2 ha ha2 hb hb2 .non [some (.int a), some (.int b), some (.int t)] rfl rfl rfl
  refine ⟨i, T, ?_, i1, i2⟩
  rw [e, bnd_of (S' := S ++ T) (a := .rt (.int i)) e2]
  rfl
end K03

set_option maxHeartbeats 4000000
namespace K03
open PySem PySem.Spec PyProof.Rows L2 ML
theorem atI_in {xs : List D} {i : Int} (h0 : 0 ≤ i) (h1 : i < xs.length) : L2.atI xs i = xs[i.toNat]? := by
  unfold L2.atI L2.ixN
  rw [if_pos h0, if_pos h1]
  rfl
theorem cell_at (ns : List Int) (i : Int) (h0 : 0 ≤ i) (h1 : i < ns.length + 1) : ∃ c, L2.atI (ns.map D.int ++ [D.int 0]) i = some (.int c) := by
  rw [atI_in h0 (by simp; omega)]
  by_cases q : i.toNat < ns.length
  · exact ⟨ns[i.toNat], by rw [List.getElem?_append_left (by simpa using q), List.getElem?_map, List.getElem?_eq_getElem q]; rfl⟩
  · have e : i.toNat = ns.length := by omega
    refine ⟨0, ?_⟩
    rw [e, List.getElem?_append_right (by simp)]
    simp
theorem xfin (t a b : Int) (S : Sto) (ht : 0 ≤ t) (ht2 : t < 2 ^ 200) (ha : 0 ≤ a) (ha2 : a < 2 ^ 300) (hb : 0 ≤ b) (hb2 : b < 1000) (ρ : ML.Loc) (h0 : ρ[2]? = some (some (.int a))) (h1 : ρ[1]? = some (some (.int b))) (h2 : ρ[3]? = some (some (.int t))) :
    ∃ i, (mRt (mBin (evBin .Mod) (mBin (evBin .Mult) (mBin (evBin .Add) (mBin (evBin .Add) (mV 2) (mC (.int 1))) (mBin (evBin .Mult) (mBin (evBin .Mult) (mC (.int 1009)) (mV 1)) (mV 1))) (mV 3)) (mC (.int 170141183460469231731687303715884105727)))) ρ S = .ok (.rt (.int i)) S ∧ 0 ≤ i ∧ i < MM := by
  have b1 : 0 ≤ 1009 * b := by omega
  have b3 : 0 ≤ 1009 * b * b := Int.mul_nonneg b1 hb
  have b4 : 1009 * b * b ≤ 1009 * 1000 * 1000 := Int.mul_le_mul (by omega) (by omega) hb (by omega)
  have c1 := mulOk (i := 1009) (j := b) (by decide) (big hb (by omega))
  have c2 := mulOk (i := 1009 * b) (j := b) (big b1 (by omega)) (big hb (by omega))
  have c3 := mulOk (i := a + 1 + 1009 * b * b) (j := t) (big (by omega) (by omega)) (big ht (by omega))
  refine ⟨((a + 1 + 1009 * b * b) * t) % MM, ?_, Int.emod_nonneg _ (by decide), Int.emod_lt_of_pos _ (by decide)⟩
  simp only [mRt, mBin, evBin, opMod, opMul, opAdd, mV, mC, getL, bnd, ML.ret, h0, h1, h2, c1, c2, c3, if_true]
  rfl
theorem pow60 : powOk 10 60 = true := by decide
theorem mixed_ev (ns : List Int) (k : Int) (S : Sto) (hl : ns.length ≤ 63) (hk : 0 ≤ k) (hk2 : k < 1000) : ∃ i T, d__law_mixed [.kl ns, .int k] S = .ok (.int i) (S ++ T) ∧ 0 ≤ i ∧ i < MM := by
  have hz : ns.length + 1 ≤ sizeLine := leSz (by omega)
  have c1 := mulOk (i := 2) (j := k) (by decide) (big hk (by omega))
  have hm : 0 < (if (ns.length : Int) > 1 then (ns.length : Int) else 1) ∧ (if (ns.length : Int) > 1 then (ns.length : Int) else 1) ≤ ns.length + 1 := by
    split <;> omega
  generalize hM : (if (ns.length : Int) > 1 then (ns.length : Int) else 1) = M at hm
  have i0 := Int.emod_nonneg k (show M ≠ 0 by omega)
  have i1 := Int.emod_lt_of_pos k hm.1
  obtain ⟨c, hc⟩ := cell_at ns (k % M) i0 (by omega)
  have c0 : 0 ≤ c % 10 ^ 60 := Int.emod_nonneg _ (by decide)
  have c2 : c % 10 ^ 60 < 10 ^ 60 := Int.emod_lt_of_pos _ (by decide)
  obtain ⟨i, e2, i1, i2⟩ := xfin (91520834467120936671528473920164857 + 2 * k) (c % 10 ^ 60) k (S ++ [.lst [.int 0], .lst (ns.map D.int ++ [.int 0])]) (by omega) (by omega) c0 (by omega) hk hk2 [some (.kl ns), some (.int k), some (.int (c % 10 ^ 60)), some (.int (91520834467120936671528473920164857 + 2 * k))] rfl rfl rfl
  refine ⟨i, [.lst [.int 0], .lst (ns.map D.int ++ [.int 0])], ?_, i1, i2⟩
  have step : d__law_mixed [.kl ns, .int k] S = bnd (fun S => (mRt (mBin (evBin .Mod) (mBin (evBin .Mult) (mBin (evBin .Add) (mBin (evBin .Add) (mV 2) (mC (.int 1))) (mBin (evBin .Mult) (mBin (evBin .Mult) (mC (.int 1009)) (mV 1)) (mV 1))) (mV 3)) (mC (.int 170141183460469231731687303715884105727)))) [some (.kl ns), some (.int k), some (.int (c % 10 ^ 60)), some (.int (91520834467120936671528473920164857 + 2 * k))] S) flD (S ++ [.lst [.int 0], .lst (ns.map D.int ++ [.int 0])]) := by
    unfold d__law_mixed defM m__law_mixed
    have q1 : (mBin (evBin .Mod) (mIx (mBin (evBin .Add) (mV 0) (mLstE (mCons (mC (.int 0)) mNil))) (mBin (evBin .Mod) (mV 1) (mB (fII fun i j => if j > i then j else i) (mCons (mC (.int 1)) (mCons (mB fLen (mCons (mV 0) mNil)) mNil))))) (mBin (evBin .Pow) (mC (.int 10)) (mC (.int 60)))) (startL n__law_mixed [.kl ns, .int k]) S = .ok (.int (c % 10 ^ 60)) (S ++ [.lst [.int 0], .lst (ns.map D.int ++ [.int 0])]) := by
      simp [n__law_mixed, startL, mIx, opIx, ixObj, oD, mBin, evBin, opMod, opPow, opAdd, mLstE, mkLst, mB, fII, fLen, bnd, ML.ret, mC, mV, getL, mCons, mNil, lsOf, asList, gA, gA0, leSz, hz, hM, hm.1, hc, pow60]
    have q2 : mSet 2 (mBin (evBin .Mod) (mIx (mBin (evBin .Add) (mV 0) (mLstE (mCons (mC (.int 0)) mNil))) (mBin (evBin .Mod) (mV 1) (mB (fII fun i j => if j > i then j else i) (mCons (mC (.int 1)) (mCons (mB fLen (mCons (mV 0) mNil)) mNil))))) (mBin (evBin .Pow) (mC (.int 10)) (mC (.int 60)))) (startL n__law_mixed [.kl ns, .int k]) S = .ok (.nx [some (.kl ns), some (.int k), some (.int (c % 10 ^ 60)), none]) (S ++ [.lst [.int 0], .lst (ns.map D.int ++ [.int 0])]) := by
      unfold mSet
      rw [bnd_of q1]; rfl
    unfold mSeq
    rw [bnd_bnd, bnd_of q2]
    simp only [seqK, mSet, mBin, evBin, opAdd, opMul, mC, mV, getL, bnd, ML.ret, c1, if_true, List.getElem?_cons_zero, List.getElem?_cons_succ, List.set_cons_zero, List.set_cons_succ]
  rw [step, bnd_of (a := .rt (.int i)) e2]
  rfl
end K03

set_option maxHeartbeats 4000000
namespace K03
open PySem PySem.Spec PyProof.Rows L2 ML
def sgn (f : Str) : List Str := f.cps.toList.map fun c => (⟨#[c]⟩ : Str)
theorem zip_prs (bs : List D) : ∀ cs : List Str, List.zipWith (fun a b => D.tup [a, b]) (cs.map D.str) bs = prsD cs bs := by
  induction bs with
  | nil => intro cs; cases cs <;> rfl
  | cons b bs ih => intro cs; cases cs with
    | nil => rfl
    | cons c cs =>
      have := ih cs
      unfold prsD at this ⊢
      simp only [List.map_cons, List.zipWith_cons_cons, List.zip_cons_cons, this]
theorem strD_sgn (f : Str) : strD f = (sgn f).map D.str := by
  unfold strD sgn
  rw [List.map_map]
  rfl
theorem cut1 (x : D) (r : List D) : cutL (x :: r) (some 1) none = r := by
  unfold cutL
  rw [show HT.sIx (x :: r).length 0 (some 1) = min 1 (x :: r).length from HT.sIx_nat (x :: r).length 0 1, HT.sIx_none]
  rw [show min 1 (x :: r).length = 1 by rw [List.length_cons]; omega]
  show List.take ((x :: r).length - 1) r = r
  rw [List.length_cons, Nat.add_sub_cancel]
  exact List.take_length
theorem parts_ev {FL : List (Str × Key)} (hv : v_FORMS = .kd FL) {w f s : Str} (h : FL.lookup w = some (.inr f)) (ps : List D) (hz : ps.length ≤ 1000) (S : Sto) : d_parts_of [.tup (.str w :: ps), .str s] S = .ok (.tup (selS s (sgn f) ps)) (S ++ [.lst (selS s (sgn f) ps)]) := by
  have q0 : (mSrcA zpD (mCons (mIx (mC v_FORMS) (mIx (mV 0) (mC (.int 0)))) (mCons (mSl (mV 0) (mSoI (mC (.int 1))) mNoI) mNil))) [some (.tup (.str w :: ps)), some (.str s), none, none] S = .ok ⟨prsD (sgn f) ps, []⟩ S := by
    rw [hv]
    simp [mSrcA, zpD, mCons, mIx, mC, mV, getL, opIx, oD, L2.atI, L2.ixN, mSl, mSoI, mNoI, asI, opSl, cut1, mNil, bnd, ML.ret, h, keyTo, srcD, strD_sgn, zip_prs]
  have q1 : (mLc [2, 3] (mSrcA zpD (mCons (mIx (mC v_FORMS) (mIx (mV 0) (mC (.int 0)))) (mCons (mSl (mV 0) (mSoI (mC (.int 1))) mNoI) mNil))) (gTp 2 (gCn (gNm 2) (gCn (gNm 3) gNl))) (mCmpT (evCmp .Eq) (mV 2) (mV 1)) (mV 3)) [some (.tup (.str w :: ps)), some (.str s), none, none] S = .ok (.obj S.length) (S ++ [.lst (selS s (sgn f) ps)]) := by
    unfold mLc
    rw [bnd_of q0]
    have q2 := lc_pairs (i := 2) (j := 3) (ρ := wipeL [some (.tup (.str w :: ps)), some (.str s), none, none] [2, 3]) (e2 := mV 1) (s := s) (S := S) (g := []) (by simp [wipeL]) (by simp [wipeL]) (by decide) (fun a b => by simp [wipeL, mV, getL]) (sgn f) ps gd_nil (by rw [sizeLine_eq]; omega)
    have q3 : noErr (lcGo (gTp 2 (gCn (gNm 2) (gCn (gNm 3) gNl))) (mCmpT (evCmp .Eq) (mV 2) (mV 1)) (mV 3) [] (wipeL [some (.tup (.str w :: ps)), some (.str s), none, none] [2, 3]) (prsD (sgn f) ps) []) S = .ok (selS s (sgn f) ps) S := by unfold noErr; rw [q2]
    exact bnd_of q3
  have fin : ∀ (m : ME D) (ρ : ML.Loc) (l : List D), m ρ S = .ok (.obj S.length) (S ++ [.lst l]) → bnd (mRt (mB fTup (mCons m mNil)) ρ) flD S = .ok (.tup l) (S ++ [.lst l]) := by
    intro m ρ l hm
    simp [mRt, mB, mCons, mNil, bnd, ML.ret, hm, fTup, lsOf, asList, flD]
  exact fin _ _ _ q1
theorem reads_ev {FL : List (Str × Key)} (hv : v_FORMS = .kd FL) {w f : Str} (h : FL.lookup w = some (.inr f)) (ps : List D) (hz : ps.length ≤ 1000) (S : Sto) : d_reads [.tup (.str w :: ps)] S = .ok (.tup (selS "r" (sgn f) ps)) (S ++ [.lst (selS "r" (sgn f) ps)]) := by
  have q := parts_ev hv h ps hz S (s := "r")
  unfold d_reads defM m_reads
  show bnd (mRt _ [some (.tup (.str w :: ps))]) flD S = _
  simp [mRt, mCall, mCons, mNil, mV, mC, getL, bnd, ML.ret, v_READ_BOX, q, flD]
def hdN : List D → D
  | [] => .non
  | d :: _ => d
theorem sets_ev {FL : List (Str × Key)} (hv : v_FORMS = .kd FL) {w f : Str} (h : FL.lookup w = some (.inr f)) (ps : List D) (hz : ps.length ≤ 1000) {qs : List PyData} (hf : flPs (selS "s" (sgn f) ps) = some qs) (S : Sto) : d_sets [.tup (.str w :: ps)] S = .ok (hdN (selS "s" (sgn f) ps)) (S ++ [.lst (selS "s" (sgn f) ps)]) := by
  have q := parts_ev hv h ps hz S (s := "s")
  unfold d_sets defM m_sets
  show bnd (mSeq _ _ [some (.tup (.str w :: ps)), none]) flD S = _
  generalize selS "s" (sgn f) ps = l at q hf ⊢
  cases l with
  | nil =>
    have e := eqT_same (neg := true) (S := S ++ [.lst []]) hf
    simp [mSeq, mSet, mRt, mIfE, mCmpT, evCmp, mCall, mCons, mNil, mV, mC, getL, bnd, ML.ret, v_SET_BOX, q, flD, seqK, mTupE, mkTup, leSz, e, asB, hdN]
  | cons d l =>
    have e := eqT_nil (neg := true) (S := S ++ [.lst (d :: l)]) hf
    simp [mSeq, mSet, mRt, mIfE, mCmpT, evCmp, mCall, mCons, mNil, mV, mC, getL, bnd, ML.ret, v_SET_BOX, q, flD, seqK, mTupE, mkTup, leSz, e, asB, hdN, mIx, opIx, oD, L2.atI, L2.ixN]
theorem leads_ev {FL : List (Str × Key)} (hv : v_FORMS = .kd FL) {w f : Str} (h : FL.lookup w = some (.inr f)) (ps : List D) (hz : ps.length ≤ 1000) {qs : List PyData} (hf : flPs (selS "p" (sgn f) ps) = some qs) (S : Sto) : d_leads [.tup (.str w :: ps)] S = .ok (hdN (selS "p" (sgn f) ps)) (S ++ [.lst (selS "p" (sgn f) ps)]) := by
  have q := parts_ev hv h ps hz S (s := "p")
  unfold d_leads defM m_leads
  show bnd (mSeq _ _ [some (.tup (.str w :: ps)), none]) flD S = _
  generalize selS "p" (sgn f) ps = l at q hf ⊢
  cases l with
  | nil =>
    have e := eqT_same (neg := true) (S := S ++ [.lst []]) hf
    simp [mSeq, mSet, mRt, mIfE, mCmpT, evCmp, mCall, mCons, mNil, mV, mC, getL, bnd, ML.ret, v_A_PLACE, q, flD, seqK, mTupE, mkTup, leSz, e, asB, hdN]
  | cons d l =>
    have e := eqT_nil (neg := true) (S := S ++ [.lst (d :: l)]) hf
    simp [mSeq, mSet, mRt, mIfE, mCmpT, evCmp, mCall, mCons, mNil, mV, mC, getL, bnd, ML.ret, v_A_PLACE, q, flD, seqK, mTupE, mkTup, leSz, e, asB, hdN, mIx, opIx, oD, L2.atI, L2.ixN]
def wayL : List D := [.str "go", .str "if", .str "if2", .str "if3", .str "end"]
theorem way_ev (w : Str) (ps : List D) (S : Sto) : d_is_way [.tup (.str w :: ps)] S = .ok (.bl (inD (.str w) wayL)) S := by
  unfold d_is_way defM m_is_way
  show bnd (mRt _ [some (.tup (.str w :: ps))]) flD S = _
  simp [mRt, mBin, evCmp, mIx, opIx, oD, L2.atI, L2.ixN, mV, mC, getL, bnd, ML.ret, v_WAYS, opInN, flatD, flD, wayL]
end K03

set_option maxHeartbeats 4000000
namespace K03
open PySem PySem.Spec PyProof.Rows L2 ML
def st8 : ML.Loc → M Fl := (mSet 8 (mBin (evBin .FloorDiv) (mCall 2 c__law_turned (mCons (mCall 2 c__law_turned (mCons (mV 2) (mCons (mV 3) mNil))) (mCons (mV 6) mNil))) (mC (.int 7))))
def ap2 : ML.Loc → M Fl := (mEx (mBm .l gApp (mV 5) (mCons (mBin (evBin .Mod) (mV 8) (mIx (mDisp [((mC (.str "s")), (mC (.int 32))), ((mC (.str "r")), (mIx (mLstE (mCons (mC (.int 32)) (mCons (mC (.int 3)) mNil))) (mBin (evBin .Mod) (mBin (evBin .FloorDiv) (mV 2) (mC (.int 5))) (mC (.int 2))))), ((mC (.str "n")), (mC (.int 16))), ((mC (.str "k")), (mC (.int 8))), ((mC (.str "p")), (mC (.int 400)))]) (mV 7))) mNil)))
def s13 : ML.Loc → M Fl := (mSet 13 (mCall 1 c_reads (mCons (mV 9) mNil)))
def if1 : ML.Loc → M Fl := (mIf (mOrT (mNotT (mValT (mIsi .tup (mV 13)))) (mCmpT (evCmp .NotEq) (mB fList (mCons (mV 13) mNil)) (mLc [7, 15] (mSrc (mV 10)) (gTp 2 (gCn (gNm 7) (gCn (gNm 15) gNl))) (mCmpT (evCmp .Eq) (mV 7) (mC (.str "r"))) (mV 15)))) (mRt (mC (.bl false))) mNx)
def if2 : ML.Loc → M Fl := (mIf (mOrT (mCmpT (evCmp .NotEq) (mLstE (mCons (mCall 1 c_sets (mCons (mV 9) mNil)) (mCons (mCall 1 c_leads (mCons (mV 9) mNil)) mNil))) (mV 11)) (mCmpT (evCmp .NotEq) (mV 9) (mBin (evBin .Add) (mTupE (mCons (mV 4) mNil)) (mB fTup (mCons (mV 5) mNil))))) (mRt (mC (.bl false))) mNx)
def s14 : ML.Loc → M Fl := (mSet 14 (mCall 1 c_is_way (mCons (mV 9) mNil)))
def if3 : ML.Loc → M Fl := (mIf (mOrT (mNotT (mValT (mIsi .bl (mV 14)))) (mCmpT (evCmp .NotEq) (mV 14) (mBin (evCmp .In) (mV 4) (mTupE (mCons (mC (.str "go")) (mCons (mC (.str "if")) (mCons (mC (.str "if2")) (mCons (mC (.str "if3")) (mCons (mC (.str "end")) mNil))))))))) (mRt (mC (.bl false))) mNx)
def B2 : ML.Loc → M Fl := mSeq st8 ap2
def B3 : ML.Loc → M Fl := mSeq s13 (mSeq if1 (mSeq if2 (mSeq s14 if3)))
def st9 : ML.Loc → M Fl := (mSet 9 (mBin (evBin .Add) (mTupE (mCons (mV 4) mNil)) (mB fTup (mCons (mV 5) mNil))))
def st10 : ML.Loc → M Fl := (mSet 10 (mLzip (mCons (mCall 1 c__law_form (mCons (mV 4) mNil)) (mCons (mV 5) mNil))))
def st11 : ML.Loc → M Fl := (mSet 11 (mLstE (mCons (mIx (mBin (evBin .Add) (mLc [7, 15] (mSrc (mV 10)) (gTp 2 (gCn (gNm 7) (gCn (gNm 15) gNl))) (mCmpT (evCmp .Eq) (mV 7) (mC (.str "s"))) (mV 15)) (mLstE (mCons (mC .non) mNil))) (mC (.int 0))) mNil)))
def apd : ML.Loc → M Fl := (mEx (mBm .l gApp (mV 11) (mCons (mIx (mBin (evBin .Add) (mLc [7, 15] (mSrc (mV 10)) (gTp 2 (gCn (gNm 7) (gCn (gNm 15) gNl))) (mCmpT (evCmp .Eq) (mV 7) (mC (.str "p"))) (mV 15)) (mLstE (mCons (mC .non) mNil))) (mC (.int 0))) mNil)))
def st5 : ML.Loc → M Fl := (mSet 5 (mLstE mNil))
def st2 : ML.Loc → M Fl := (mSet 2 (mCall 2 c__law_mixed (mCons (mV 0) (mCons (mV 1) mNil))))
def src0 : ME Src := (mSrcA rng1 (mCons (mBin (evBin .Add) (mC (.int 1)) (mB (fII fun i j => if j < i then j else i) (mCons (mC (.int 30)) (mCons (mB fLen (mCons (mV 0) mNil)) mNil)))) mNil))
def src1 : ME Src := (mSrcA enD (mCons (fun _ => c__law_sorts []) mNil))
def src2 : ME Src := (mSrcA enD (mCons (mCall 1 c__law_form (mCons (mV 4) mNil)) mNil))
def src3 : ME Src := (mSrcA rng1 (mCons (mC (.int 2)) mNil))
def B1 : ML.Loc → M Fl := mSeq st5 (mSeq (mFor src2 (gTp 2 (gCn (gNm 6) (gCn (gNm 7) gNl))) B2) (mSeq st9 (mSeq st10 (mSeq st11 (mSeq apd (mFor src3 (gNm 12) B3))))))
def B0 : ML.Loc → M Fl := mSeq st2 (mFor src1 (gTp 2 (gCn (gNm 3) (gCn (gNm 4) gNl))) B1)
theorem law_eq : m_law = mSeq (mFor src0 (gNm 1) B0) (mRt (mC (.bl true))) := rfl
def FL : List (Str × Key) := match v_FORMS with
  | .kd l => l
  | _ => []
theorem hvF : v_FORMS = .kd FL := rfl
def okC : List Str := ["s", "r", "n", "k", "p"]
def okW : D → Bool
  | .str w => (match getK fDict (.inr w), FL.lookup w with
    | some (.str f), some (.inr g) => decide (f = g) && decide ((sgn f).length ≤ 6) && (sgn f).all (fun c => decide (c ∈ okC))
    | _, _ => false)
  | _ => false
theorem all_okW : sortsL.all okW = true := by decide +kernel
theorem word_of {i : Nat} {x : D} (h : sortsL[i]? = some x) : ∃ w f, x = .str w ∧ getK fDict (.inr w) = some (.str f) ∧ FL.lookup w = some (.inr f) ∧ (sgn f).length ≤ 6 ∧ (∀ c ∈ sgn f, c ∈ okC) ∧ i < 22 := by
  have hi := (List.getElem?_eq_some_iff.mp h).1
  have h1 := List.all_eq_true.mp all_okW x (List.mem_of_getElem? h)
  cases x with
  | str w =>
    have h1 : (match getK fDict (.inr w), FL.lookup w with
      | some (.str f), some (.inr g) => decide (f = g) && decide ((sgn f).length ≤ 6) && (sgn f).all (fun c => decide (c ∈ okC))
      | _, _ => false) = true := h1
    split at h1
    · rename_i f g e1 e2
      simp only [Bool.and_eq_true, decide_eq_true_eq, List.all_eq_true] at h1
      obtain ⟨⟨rfl, h2⟩, h3⟩ := h1
      exact ⟨w, f, rfl, e1, e2, h2, h3, hi⟩
    · cases h1
  | _ => cases h1
theorem ints_fl : ∀ {l : List D}, (∀ d ∈ l, ∃ i, d = D.int i) → ∃ ps, flPs l = some ps
  | [], _ => ⟨[], rfl⟩
  | d :: l, h => by
    obtain ⟨i, rfl⟩ := h d (by simp)
    obtain ⟨ps, e⟩ := ints_fl (l := l) fun x hx => h x (by simp [hx])
    exact ⟨.int i :: ps, by simp [flPs, flP, e]⟩
theorem sel_ints {s : Str} {cs : List Str} {bs : List D} (h : ∀ d ∈ bs, ∃ i, d = D.int i) : ∀ d ∈ selS s cs bs, ∃ i, d = D.int i := by
  intro d hd
  unfold selS at hd
  obtain ⟨⟨c, b⟩, hp, rfl⟩ := List.mem_map.mp hd
  have := (List.mem_filter.mp hp).1
  exact h _ (List.of_mem_zip this).2
theorem hd_fl {l : List D} (h : ∀ d ∈ l, ∃ i, d = D.int i) : hdN l = .non ∨ ∃ i, hdN l = .int i := by
  cases l with
  | nil => exact .inl rfl
  | cons d l => obtain ⟨i, rfl⟩ := h d (by simp); exact .inr ⟨i, rfl⟩
theorem two_fl {a b : D} (ha : a = .non ∨ ∃ i, a = .int i) (hb : b = .non ∨ ∃ i, b = .int i) : ∃ ps, flPs [a, b] = some ps := by
  rcases ha with rfl | ⟨i, rfl⟩ <;> rcases hb with rfl | ⟨j, rfl⟩ <;> exact ⟨_, rfl⟩
/-- more % {..}[sort] is appended -/
def kvC (v : Int) : List (Key × D) := mergeD [] [(.inr "s", .int 32), (.inr "r", .int v), (.inr "n", .int 16), (.inr "k", .int 8), (.inr "p", .int 400)]
theorem kvC_get {c : Str} (h : c ∈ okC) : ∃ u : Int, 0 < u ∧ (getK (kvC 32) (.inr c) = some (.int u)) := by
  simp only [okC, List.mem_cons, List.not_mem_nil, or_false] at h
  rcases h with rfl | rfl | rfl | rfl | rfl
  · exact ⟨32, by decide, by kernel_rfl⟩
  · exact ⟨32, by decide, by kernel_rfl⟩
  · exact ⟨16, by decide, by kernel_rfl⟩
  · exact ⟨8, by decide, by kernel_rfl⟩
  · exact ⟨400, by decide, by kernel_rfl⟩
theorem kvC_get3 {c : Str} (h : c ∈ okC) : ∃ u : Int, 0 < u ∧ (getK (kvC 3) (.inr c) = some (.int u)) := by
  simp only [okC, List.mem_cons, List.not_mem_nil, or_false] at h
  rcases h with rfl | rfl | rfl | rfl | rfl
  · exact ⟨32, by decide, by kernel_rfl⟩
  · exact ⟨3, by decide, by kernel_rfl⟩
  · exact ⟨16, by decide, by kernel_rfl⟩
  · exact ⟨8, by decide, by kernel_rfl⟩
  · exact ⟨400, by decide, by kernel_rfl⟩
theorem l5 : Nat.log2 5 < 9000 := by decide
theorem app_ev {ρ : ML.Loc} {S : Sto} {num more : Int} {c : Str} {hp : Nat} {l : List D} (h2 : ρ[2]? = some (some (.int num))) (h5 : ρ[5]? = some (some (.obj hp))) (h7 : ρ[7]? = some (some (.str c))) (h8 : ρ[8]? = some (some (.int more))) (hc : c ∈ okC) (hS : S[hp]? = some (.lst l)) (hl : l.length ≤ 1000) :
    ∃ i T, ap2 ρ S = .ok (.nx ρ) ((S ++ T).set hp (.lst (l ++ [.int i]))) := by
  have hlt : l.length < sizeLine := by rw [sizeLine_eq]; omega
  have hS2 : ∀ T : Sto, (S ++ T)[hp]? = some (.lst l) := fun T => gO hS
  have e1 : num / 5 % 2 = 0 ∨ num / 5 % 2 = 1 := by omega
  rcases e1 with e | e
  · obtain ⟨u, hu, hg⟩ := kvC_get hc
    refine ⟨more % u, [.lst [.int 32, .int 3], .dct (kvC 32)], ?_⟩
    have hg' : getK (mergeD [] [(Sum.inr (Str.ofString "s"), D.int 32), (Sum.inr (Str.ofString "r"), D.int 32), (Sum.inr (Str.ofString "n"), D.int 16), (Sum.inr (Str.ofString "k"), D.int 8), (Sum.inr (Str.ofString "p"), D.int 400)]) (.inr c) = some (.int u) := hg
    simp [ap2, mEx, mBm, mDisp, mPrs, noErr, newDct, keysD, keyD, mIx, opIx, ixObj, oD, mBin, evBin, opMod, opFdiv, mLstE, mkLst, mCons, mNil, mV, mC, getL, bnd, ML.ret, h2, h5, h7, h8, isRt, lsOf, asList, hS, hS2, gApp, gA, gA0, leSz, e, at2_0, hg', hu, hlt, kvC, l5]
  · obtain ⟨u, hu, hg⟩ := kvC_get3 hc
    refine ⟨more % u, [.lst [.int 32, .int 3], .dct (kvC 3)], ?_⟩
    have hg' : getK (mergeD [] [(Sum.inr (Str.ofString "s"), D.int 32), (Sum.inr (Str.ofString "r"), D.int 3), (Sum.inr (Str.ofString "n"), D.int 16), (Sum.inr (Str.ofString "k"), D.int 8), (Sum.inr (Str.ofString "p"), D.int 400)]) (.inr c) = some (.int u) := hg
    simp [ap2, mEx, mBm, mDisp, mPrs, noErr, newDct, keysD, keyD, mIx, opIx, ixObj, oD, mBin, evBin, opMod, opFdiv, mLstE, mkLst, mCons, mNil, mV, mC, getL, bnd, ML.ret, h2, h5, h7, h8, isRt, lsOf, asList, hS, hS2, gApp, gA, gA0, leSz, e, at2_1, hg', hu, hlt, kvC, l5]
end K03

set_option maxHeartbeats 4000000
namespace K03
open PySem PySem.Spec PyProof.Rows L2 ML
theorem st8_ev {ρ : ML.Loc} {S : Sto} {num place j : Int} (h2 : ρ[2]? = some (some (.int num))) (h3 : ρ[3]? = some (some (.int place))) (h6 : ρ[6]? = some (some (.int j))) (n0 : 0 ≤ num) (n1 : num < MM) (p0 : 0 ≤ place) (p1 : place < 1000) (j0 : 0 ≤ j) (j1 : j < 1000) : ∃ i T, st8 ρ S = .ok (.nx (ρ.set 8 (some (.int i)))) (S ++ T) := by
  have big1 : MM < 2 ^ 200 := by decide
  obtain ⟨i1, T1, e1, a0, a1⟩ := turned_ev num place S n0 (by omega) p0 p1
  obtain ⟨i2, T2, e2, _, _⟩ := turned_ev i1 j (S ++ T1) a0 (by omega) j0 j1
  refine ⟨i2 / 7, T1 ++ T2, ?_⟩
  have l7 : Nat.log2 7 < 9000 := by decide
  simp [st8, mSet, mBin, evBin, opFdiv, mCall, mCons, mNil, mV, mC, getL, bnd, ML.ret, h2, h3, h6, e1, e2, l7]
theorem B2_ev {ρ : ML.Loc} {S : Sto} {num place j : Int} {c : Str} {hp : Nat} {l : List D} (hl16 : ρ.length = 16) (h2 : ρ[2]? = some (some (.int num))) (h3 : ρ[3]? = some (some (.int place))) (h5 : ρ[5]? = some (some (.obj hp))) (h6 : ρ[6]? = some (some (.int j))) (h7 : ρ[7]? = some (some (.str c))) (n0 : 0 ≤ num) (n1 : num < MM) (p0 : 0 ≤ place) (p1 : place < 1000) (j0 : 0 ≤ j) (j1 : j < 1000)
    (hc : c ∈ okC) (hS : S[hp]? = some (.lst l)) (hl : l.length ≤ 1000) : ∃ v i T, B2 ρ S = .ok (.nx (ρ.set 8 v)) ((S ++ T).set hp (.lst (l ++ [.int i]))) := by
  obtain ⟨i, T, e⟩ := st8_ev (S := S) h2 h3 h6 n0 n1 p0 p1 j0 j1
  have g8 : (ρ.set 8 (some (.int i)))[8]? = some (some (.int i)) := by rw [List.getElem?_set_self (by omega)]
  obtain ⟨i2, T2, e2⟩ := app_ev (ρ := ρ.set 8 (some (.int i))) (S := S ++ T) (num := num) (c := c) (hp := hp) (l := l) (by rw [List.getElem?_set_ne (by decide)]; exact h2) (by rw [List.getElem?_set_ne (by decide)]; exact h5) (by rw [List.getElem?_set_ne (by decide)]; exact h7) g8 hc (gO hS) hl
  refine ⟨some (.int i), i2, T ++ T2, ?_⟩
  show bnd (st8 ρ) (seqK ap2) S = _
  rw [bnd_of e]
  show ap2 (ρ.set 8 (some (.int i))) (S ++ T) = _
  rw [e2, List.append_assoc]
/-- the slots that stand through the inner loops -/
structure Sl (ns : List Int) (num place : Int) (w : Str) (hp : Nat) (ρ : ML.Loc) : Prop where
  len : ρ.length = 16
  s0 : ρ[0]? = some (some (.kl ns))
  s2 : ρ[2]? = some (some (.int num))
  s3 : ρ[3]? = some (some (.int place))
  s4 : ρ[4]? = some (some (.str w))
  s5 : ρ[5]? = some (some (.obj hp))
theorem Sl.set {ns : List Int} {num place : Int} {w : Str} {hp : Nat} {ρ : ML.Loc} (h : Sl ns num place w hp ρ) {i : Nat} (hi : 5 < i) (v : Option D) : Sl ns num place w hp (ρ.set i v) :=
  ⟨by rw [List.length_set]; exact h.len, by rw [List.getElem?_set_ne (by omega)]; exact h.s0, by rw [List.getElem?_set_ne (by omega)]; exact h.s2, by rw [List.getElem?_set_ne (by omega)]; exact h.s3, by rw [List.getElem?_set_ne (by omega)]; exact h.s4, by rw [List.getElem?_set_ne (by omega)]; exact h.s5⟩
def J2 (ns : List Int) (num place : Int) (w : Str) (hp h0 : Nat) (j : Nat) (ρ : ML.Loc) (S : Sto) : Prop := Sl ns num place w hp ρ ∧ S[h0]? = some (.lst sortsL) ∧ ∃ qs : List D, qs.length = j ∧ (∀ d ∈ qs, ∃ i, d = D.int i) ∧ S[hp]? = some (.lst qs)
theorem for2_ev {ns : List Int} {num place : Int} {w f : Str} {hp h0 : Nat} (hne : h0 ≠ hp) (n0 : 0 ≤ num) (n1 : num < MM) (p0 : 0 ≤ place) (p1 : place < 1000) (hf : (sgn f).length ≤ 6) (hok : ∀ c ∈ sgn f, c ∈ okC) {ρ : ML.Loc} {S : Sto} (h : J2 ns num place w hp h0 0 ρ S) :
    T (forGo (gTp 2 (gCn (gNm 6) (gCn (gNm 7) gNl))) B2 [] ((strD f).zipIdx.map fun p => .tup [.int (p.2 : Nat), p.1]) ρ) S fun fl S' => ∃ ρ', fl = .nx ρ' ∧ J2 ns num place w hp h0 (sgn f).length ρ' S' := by
  have hlen : ((strD f).zipIdx.map fun p => D.tup [.int (p.2 : Nat), p.1]).length = (sgn f).length := by rw [strD_sgn]; simp
  refine T.forGo (J2 ns num place w hp h0) _ 0 ρ S h (fun _ _ _ _ => gd_nil) (fun j x ρ S hx hi => ?_) fun ρ S hi => ⟨ρ, rfl, by rw [hlen, Nat.zero_add] at hi; exact hi⟩
  have hj : j < (sgn f).length := by rw [← hlen]; exact (List.getElem?_eq_some_iff.mp hx).1
  have hx2 : x = .tup [.int (j : Nat), .str (sgn f)[j]] := by
    rw [strD_sgn] at hx
    simp [List.getElem?_zipIdx, List.getElem?_map, List.getElem?_eq_getElem hj] at hx
    exact hx.symm
  subst hx2
  obtain ⟨sl, hh0, qs, q1, q2, q3⟩ := hi
  have sl2 := (sl.set (i := 6) (by decide) (some (.int (j : Nat)))).set (i := 7) (by decide) (some (.str (sgn f)[j]))
  obtain ⟨v, i, T0, e⟩ := B2_ev (ρ := (ρ.set 6 (some (.int (j : Nat)))).set 7 (some (.str (sgn f)[j]))) (S := S) (j := (j : Nat)) (c := (sgn f)[j]) sl2.len sl2.s2 sl2.s3 sl2.s5 (by rw [List.getElem?_set_ne (by decide), List.getElem?_set_self (by rw [sl.len]; decide)]) (by rw [List.getElem?_set_self (by rw [List.length_set, sl.len]; decide)]) n0 n1 p0 p1 (by omega) (by omega) (hok _ (List.getElem_mem hj)) q3 (by omega)
  refine T.of (show bnd (gTp 2 (gCn (gNm 6) (gCn (gNm 7) gNl)) (.tup [.int (j : Nat), .str (sgn f)[j]]) ρ) B2 S = _ from e) (.inl ⟨_, rfl, sl2.set (by decide) v, ?_, qs ++ [.int i], by rw [List.length_append, q1]; rfl, fun d hd => ?_, ?_⟩)
  · rw [List.getElem?_set_ne (Ne.symm hne)]; exact gO hh0
  · rcases List.mem_append.mp hd with z | z
    · exact q2 d z
    · exact ⟨i, by simpa using z⟩
  · rw [List.getElem?_set_self (by rw [List.length_append]; have := (List.getElem?_eq_some_iff.mp q3).1; omega)]
theorem gd_one {S : Sto} {n : Nat} {ds : List D} (h : lsOf S n = some ds) : gdOk [(n, ds)] S := fun p hp => by
  have e : p = (n, ds) := by simpa using hp
  rw [e]; exact h
/-- [part for sort, part in pairs if sort == s] -/
theorem lcL_ev {ρ : ML.Loc} {S : Sto} {hq : Nat} {s : Str} {cs : List Str} {bs : List D} (hl16 : ρ.length = 16) (h10 : ρ[10]? = some (some (.obj hq))) (hS : S[hq]? = some (.lst (prsD cs bs))) (hz : bs.length ≤ 1000) :
    mLc [7, 15] (mSrc (mV 10)) (gTp 2 (gCn (gNm 7) (gCn (gNm 15) gNl))) (mCmpT (evCmp .Eq) (mV 7) (mC (.str s))) (mV 15) ρ S = .ok (.obj S.length) (S ++ [.lst (selS s cs bs)]) := by
  have hls : lsOf S hq = some (prsD cs bs) := by simp [lsOf, hS, asList]
  have q0 : mSrc (mV 10) ρ S = .ok ⟨prsD cs bs, [(hq, prsD cs bs)]⟩ S := by simp [mSrc, mV, getL, bnd, h10, srcD, hls]
  have hw : (wipeL ρ [7, 15]).length = 16 := by simp [wipeL, hl16]
  have q2 := lc_pairs (i := 7) (j := 15) (ρ := wipeL ρ [7, 15]) (e2 := mC (.str s)) (s := s) (S := S) (g := [(hq, prsD cs bs)]) (by omega) (by omega) (by decide) (fun a b => rfl) cs bs (gd_one hls) (by rw [sizeLine_eq]; omega)
  unfold mLc
  rw [bnd_of q0]
  have q3 : noErr (lcGo (gTp 2 (gCn (gNm 7) (gCn (gNm 15) gNl))) (mCmpT (evCmp .Eq) (mV 7) (mC (.str s))) (mV 15) [(hq, prsD cs bs)] (wipeL ρ [7, 15]) (prsD cs bs) []) S = .ok (selS s cs bs) S := by unfold noErr; rw [q2]
  exact bnd_of q3
end K03

set_option maxHeartbeats 4000000
namespace K03
open PySem PySem.Spec PyProof.Rows L2 ML
/-- what stands while the functions are asked -/
structure St3 (w f : Str) (qs : List D) (hp hq hd : Nat) (S : Sto) : Prop where
  p : S[hp]? = some (.lst qs)
  q : S[hq]? = some (.lst (prsD (sgn f) qs))
  d : S[hd]? = some (.lst [hdN (selS "s" (sgn f) qs), hdN (selS "p" (sgn f) qs)])
theorem St3.more {w f : Str} {qs : List D} {hp hq hd : Nat} {S : Sto} (h : St3 w f qs hp hq hd S) (T : Sto) : St3 w f qs hp hq hd (S ++ T) := ⟨gO h.p, gO h.q, gO h.d⟩
structure Sl3 (w : Str) (qs : List D) (hp hq hd : Nat) (ρ : ML.Loc) : Prop where
  len : ρ.length = 16
  s4 : ρ[4]? = some (some (.str w))
  s5 : ρ[5]? = some (some (.obj hp))
  s9 : ρ[9]? = some (some (.tup (.str w :: qs)))
  s10 : ρ[10]? = some (some (.obj hq))
  s11 : ρ[11]? = some (some (.obj hd))
theorem Sl3.set {w : Str} {qs : List D} {hp hq hd : Nat} {ρ : ML.Loc} (h : Sl3 w qs hp hq hd ρ) {i : Nat} (hi : 11 < i) (v : Option D) : Sl3 w qs hp hq hd (ρ.set i v) :=
  ⟨by rw [List.length_set]; exact h.len, by rw [List.getElem?_set_ne (by omega)]; exact h.s4, by rw [List.getElem?_set_ne (by omega)]; exact h.s5, by rw [List.getElem?_set_ne (by omega)]; exact h.s9, by rw [List.getElem?_set_ne (by omega)]; exact h.s10, by rw [List.getElem?_set_ne (by omega)]; exact h.s11⟩
section
variable {w f : Str} {qs : List D} {hp hq hd : Nat} {ρ : ML.Loc} {S : Sto}
theorem s13_ev (hw : FL.lookup w = some (.inr f)) (hz : qs.length ≤ 1000) (sl : Sl3 w qs hp hq hd ρ) : s13 ρ S = .ok (.nx (ρ.set 13 (some (.tup (selS "r" (sgn f) qs))))) (S ++ [.lst (selS "r" (sgn f) qs)]) := by
  have e := reads_ev hvF hw qs hz S
  simp [s13, mSet, mCall, mCons, mNil, mV, getL, bnd, ML.ret, sl.s9, e]
theorem if1_ev (hz : qs.length ≤ 1000) (hi : ∀ d ∈ qs, ∃ i, d = D.int i) (sl : Sl3 w qs hp hq hd ρ) (h13 : ρ[13]? = some (some (.tup (selS "r" (sgn f) qs)))) (st : St3 w f qs hp hq hd S) : ∃ T, if1 ρ S = .ok (.nx ρ) (S ++ T) := by
  obtain ⟨ps, fl⟩ := ints_fl (sel_ints (s := "r") (cs := sgn f) hi)
  have e := lcL_ev (ρ := ρ) (S := S ++ [.lst (selS "r" (sgn f) qs)]) (s := "r") sl.len sl.s10 (st.more _).q hz
  have q := eqL_same (neg := true) (S := S ++ [.lst (selS "r" (sgn f) qs)] ++ [.lst (selS "r" (sgn f) qs)]) (n := S.length) (m := (S ++ [Cell.lst (selS "r" (sgn f) qs)]).length) fl (by simp [lsOf, asList]) (by simp [lsOf, asList])
  refine ⟨[.lst (selS "r" (sgn f) qs), .lst (selS "r" (sgn f) qs)], ?_⟩
  unfold if1
  generalize (mLc [7, 15] (mSrc (mV 10)) (gTp 2 (gCn (gNm 7) (gCn (gNm 15) gNl))) (mCmpT (evCmp .Eq) (mV 7) (mC (.str "r"))) (mV 15)) = m at e ⊢
  simp only [List.append_assoc, List.singleton_append, List.length_append, List.length_singleton] at e q
  simp [mIf, mOrT, mNotT, mValT, mIsi, tyN, isB, asB, mCmpT, evCmp, mB, fList, mCons, mNil, mV, getL, bnd, ML.ret, h13, e, q, mNx]
theorem if2_ev (hw : FL.lookup w = some (.inr f)) (hsw : PyData.strOk w = true) (hz : qs.length ≤ 1000) (hi : ∀ d ∈ qs, ∃ i, d = D.int i) (sl : Sl3 w qs hp hq hd ρ) (st : St3 w f qs hp hq hd S) : ∃ T, if2 ρ S = .ok (.nx ρ) (S ++ T) := by
  obtain ⟨p1, f1⟩ := ints_fl (sel_ints (s := "s") (cs := sgn f) hi)
  obtain ⟨p2, f2⟩ := ints_fl (sel_ints (s := "p") (cs := sgn f) hi)
  obtain ⟨p3, f3⟩ := ints_fl hi
  have e1 := sets_ev hvF hw qs hz f1 S
  have e2 := leads_ev hvF hw qs hz f2 (S ++ [.lst (selS "s" (sgn f) qs)])
  obtain ⟨p4, f4⟩ := two_fl (hd_fl (sel_ints (s := "s") (cs := sgn f) hi)) (hd_fl (sel_ints (s := "p") (cs := sgn f) hi))
  have f5 : flPs (.str w :: qs) = some (.str w :: p3) := by simp [flPs, flP, hsw, f3]
  generalize hA : selS "s" (sgn f) qs = A at e1 e2 f4 st
  generalize hB : selS "p" (sgn f) qs = B at e1 e2 f4 st
  have st2 : S[hd]? = some (.lst [hdN A, hdN B]) := by have := st.d; rw [hA, hB] at this; exact this
  have q := eqL_same (neg := true) (S := S ++ [.lst A, .lst B, .lst [hdN A, hdN B]]) (n := S.length + 2) (m := hd) f4 (by simp [lsOf, asList, gA]) (by simp only [lsOf, gO st2]; rfl)
  have q2 := eqT_same (neg := true) (S := S ++ [.lst A, .lst B, .lst [hdN A, hdN B]]) f5
  have lp : lsOf (S ++ [.lst A, .lst B, .lst [hdN A, hdN B]]) hp = some qs := by simp only [lsOf, gO st.p]; rfl
  have z1 : 1 + qs.length ≤ sizeLine := by rw [sizeLine_eq]; omega
  have z2 : qs.length + 1 ≤ sizeLine := by rw [sizeLine_eq]; omega
  refine ⟨[.lst A, .lst B, .lst [hdN A, hdN B]], ?_⟩
  simp only [List.append_assoc, List.singleton_append, List.cons_append, List.nil_append] at e2
  simp [if2, mIf, mOrT, mCmpT, evCmp, mLstE, mkLst, mTupE, mkTup, mCall, mB, fTup, mBin, evBin, opAdd, mCons, mNil, mV, getL, bnd, ML.ret, sl.s9, sl.s11, sl.s4, sl.s5, e1, e2, q, q2, lp, asB, mNx, leSz, z1, z2]
theorem s14_ev (sl : Sl3 w qs hp hq hd ρ) : s14 ρ S = .ok (.nx (ρ.set 14 (some (.bl (inD (.str w) wayL))))) S := by
  have e := way_ev w qs S
  simp [s14, mSet, mCall, mCons, mNil, mV, getL, bnd, ML.ret, sl.s9, e]
theorem if3_ev (sl : Sl3 w qs hp hq hd ρ) (h14 : ρ[14]? = some (some (.bl (inD (.str w) wayL)))) : if3 ρ S = .ok (.nx ρ) S := by
  simp [if3, mIf, mOrT, mNotT, mValT, mIsi, tyN, isB, asB, mCmpT, evCmp, mBin, opInN, flatD, mTupE, mkTup, mCons, mNil, mV, mC, getL, bnd, ML.ret, h14, sl.s4, opEqN, scEq, leSz, mNx, wayL]
theorem B3_ev (hw : FL.lookup w = some (.inr f)) (hsw : PyData.strOk w = true) (hz : qs.length ≤ 1000) (hi : ∀ d ∈ qs, ∃ i, d = D.int i) (sl : Sl3 w qs hp hq hd ρ) (st : St3 w f qs hp hq hd S) : ∃ v v2 T, B3 ρ S = .ok (.nx ((ρ.set 13 v).set 14 v2)) (S ++ T) := by
  have e1 := s13_ev (S := S) hw hz sl
  have sl2 := sl.set (i := 13) (by decide) (some (.tup (selS "r" (sgn f) qs)))
  have st2 := st.more [.lst (selS "r" (sgn f) qs)]
  obtain ⟨T1, e2⟩ := if1_ev hz hi sl2 (by rw [List.getElem?_set_self (by rw [sl.len]; decide)]) st2
  obtain ⟨T2, e3⟩ := if2_ev hw hsw hz hi sl2 (st2.more T1)
  have e4 := s14_ev (S := S ++ [.lst (selS "r" (sgn f) qs)] ++ T1 ++ T2) sl2
  have sl3 := sl2.set (i := 14) (by decide) (some (.bl (inD (.str w) wayL)))
  have e5 := if3_ev (S := S ++ [.lst (selS "r" (sgn f) qs)] ++ T1 ++ T2) sl3 (by rw [List.getElem?_set_self (by rw [sl2.len]; decide)])
  refine ⟨some (.tup (selS "r" (sgn f) qs)), some (.bl (inD (.str w) wayL)), [.lst (selS "r" (sgn f) qs)] ++ T1 ++ T2, ?_⟩
  show bnd (s13 ρ) (seqK (mSeq if1 (mSeq if2 (mSeq s14 if3)))) S = _
  rw [bnd_of e1]
  show bnd (if1 _) (seqK (mSeq if2 (mSeq s14 if3))) _ = _
  rw [bnd_of e2]
  show bnd (if2 _) (seqK (mSeq s14 if3)) _ = _
  rw [bnd_of e3]
  show bnd (s14 _) (seqK if3) _ = _
  rw [bnd_of e4]
  show if3 _ _ = _
  rw [e5]
  simp only [List.append_assoc]
end
end K03

set_option maxHeartbeats 4000000
namespace K03
open PySem PySem.Spec PyProof.Rows L2 ML
section
variable {ns : List Int} {num place : Int} {w f : Str} {qs : List D} {hp hq hd h0 : Nat} {ρ : ML.Loc} {S : Sto}
theorem lsOf_of {n : Nat} {ds : List D} (h : S[n]? = some (.lst ds)) : lsOf S n = some ds := by simp [lsOf, h, asList]
theorem st9_ev (hz : qs.length ≤ 1000) (sl : Sl ns num place w hp ρ) (hS : S[hp]? = some (.lst qs)) : st9 ρ S = .ok (.nx (ρ.set 9 (some (.tup (.str w :: qs))))) S := by
  have z1 : 1 + qs.length ≤ sizeLine := by rw [sizeLine_eq]; omega
  have z2 : qs.length + 1 ≤ sizeLine := by rw [sizeLine_eq]; omega
  simp [st9, mSet, mBin, evBin, opAdd, mTupE, mkTup, mB, fTup, mCons, mNil, mV, getL, bnd, ML.ret, sl.s4, sl.s5, lsOf_of hS, leSz, z1, z2]
theorem st10_ev (hz : qs.length ≤ 1000) (hf : getK fDict (.inr w) = some (.str f)) (sl : Sl ns num place w hp ρ) (hS : S[hp]? = some (.lst qs)) : ∃ T : Sto, st10 ρ S = .ok (.nx (ρ.set 10 (some (.obj (S ++ T).length)))) (S ++ T ++ [.lst (prsD (sgn f) qs)]) := by
  obtain ⟨T, e⟩ := form_ev w S
  rw [hf] at e
  refine ⟨T, ?_⟩
  have hz2 : min (strD f).length qs.length ≤ sizeLine := by rw [sizeLine_eq]; omega
  have q : mLzip (mCons (mCall 1 c__law_form (mCons (mV 4) mNil)) (mCons (mV 5) mNil)) ρ S = .ok (.obj (S ++ T).length) (S ++ T ++ [.lst (prsD (sgn f) qs)]) := by
    unfold mLzip
    have a : (mCons (mCall 1 c__law_form (mCons (mV 4) mNil)) (mCons (mV 5) mNil)) ρ S = .ok [.str f, .obj hp] (S ++ T) := by
      simp [mCons, mNil, mCall, mV, getL, bnd, ML.ret, sl.s4, sl.s5, e]
    rw [bnd_of a]
    have l := lsOf_of (S := S ++ T) (gO hS)
    simp only [bnd, srcD, ML.ret, l, hz2, if_true]
    rw [show List.zipWith (fun a b => D.tup [a, b]) (strD f) qs = prsD (sgn f) qs by rw [strD_sgn, zip_prs]]
    rfl
  unfold st10 mSet
  rw [bnd_of q]; rfl
theorem fst_hd (A : List D) : L2.atI (A ++ [.non]) 0 = some (hdN A) := by
  cases A with
  | nil => rfl
  | cons d l =>
    rw [atI_in (by decide) (by simp; omega)]
    rfl
theorem st11_ev (hz : qs.length ≤ 1000) (hl16 : ρ.length = 16) (h10 : ρ[10]? = some (some (.obj hq))) (hS : S[hq]? = some (.lst (prsD (sgn f) qs))) : ∃ T : Sto, st11 ρ S = .ok (.nx (ρ.set 11 (some (.obj (S ++ T).length)))) (S ++ T ++ [.lst [hdN (selS "s" (sgn f) qs)]]) := by
  have e := lcL_ev (s := "s") (S := S) hl16 h10 hS hz
  have hl : (selS "s" (sgn f) qs).length ≤ qs.length := by unfold selS; rw [List.length_map]; exact Nat.le_trans (List.length_filter_le _ _) (by simp; omega)
  refine ⟨[.lst (selS "s" (sgn f) qs), .lst [.non], .lst (selS "s" (sgn f) qs ++ [.non])], ?_⟩
  unfold st11
  generalize (mLc [7, 15] (mSrc (mV 10)) (gTp 2 (gCn (gNm 7) (gCn (gNm 15) gNl))) (mCmpT (evCmp .Eq) (mV 7) (mC (.str "s"))) (mV 15)) = m at e ⊢
  generalize selS "s" (sgn f) qs = A at e hl ⊢
  have z : A.length + 1 ≤ sizeLine := by rw [sizeLine_eq]; omega
  simp [mSet, mLstE, mkLst, mIx, opIx, ixObj, oD, mBin, evBin, opAdd, mCons, mNil, mC, bnd, ML.ret, e, lsOf, asList, gA, gA0, leSz, z, fst_hd]
theorem apd_ev {a : D} (hz : qs.length ≤ 1000) (hl16 : ρ.length = 16) (h10 : ρ[10]? = some (some (.obj hq))) (h11 : ρ[11]? = some (some (.obj hd))) (hS : S[hq]? = some (.lst (prsD (sgn f) qs))) (hd1 : S[hd]? = some (.lst [a])) : ∃ T : Sto, apd ρ S = .ok (.nx ρ) ((S ++ T).set hd (.lst [a, hdN (selS "p" (sgn f) qs)])) := by
  have e := lcL_ev (s := "p") (S := S) hl16 h10 hS hz
  have hl : (selS "p" (sgn f) qs).length ≤ qs.length := by unfold selS; rw [List.length_map]; exact Nat.le_trans (List.length_filter_le _ _) (by simp; omega)
  refine ⟨[.lst (selS "p" (sgn f) qs), .lst [.non], .lst (selS "p" (sgn f) qs ++ [.non])], ?_⟩
  unfold apd
  generalize (mLc [7, 15] (mSrc (mV 10)) (gTp 2 (gCn (gNm 7) (gCn (gNm 15) gNl))) (mCmpT (evCmp .Eq) (mV 7) (mC (.str "p"))) (mV 15)) = m at e ⊢
  generalize selS "p" (sgn f) qs = A at e hl ⊢
  have z : A.length + 1 ≤ sizeLine := by rw [sizeLine_eq]; omega
  have z1 : 1 < sizeLine := by rw [sizeLine_eq]; omega
  have l1 := lsOf_of hd1
  have g1 : ∀ T : Sto, (S ++ T)[hd]? = some (.lst [a]) := fun T => gO hd1
  have l2 : lsOf S hd = some [a] := l1
  simp only [lsOf] at l2
  simp [mEx, mBm, isRt, gApp, mLstE, mkLst, mIx, opIx, ixObj, oD, mBin, evBin, opAdd, mCons, mNil, mC, mV, getL, bnd, ML.ret, e, lsOf, asList, gA, gA0, leSz, z, z1, fst_hd, h11, hd1, g1]
def J3 (ns : List Int) (num place : Int) (w f : Str) (qs : List D) (hp hq hd h0 : Nat) (_ : Nat) (ρ : ML.Loc) (S : Sto) : Prop := Sl ns num place w hp ρ ∧ Sl3 w qs hp hq hd ρ ∧ St3 w f qs hp hq hd S ∧ S[h0]? = some (.lst sortsL)
theorem for3_ev (hw : FL.lookup w = some (.inr f)) (hsw : PyData.strOk w = true) (hz : qs.length ≤ 1000) (hi : ∀ d ∈ qs, ∃ i, d = D.int i) (h : J3 ns num place w f qs hp hq hd h0 0 ρ S) :
    T (mFor src3 (gNm 12) B3 ρ) S fun fl S' => ∃ ρ', fl = .nx ρ' ∧ J3 ns num place w f qs hp hq hd h0 0 ρ' S' := by
  have q : src3 ρ S = .ok ⟨rngD 0 2, []⟩ S := by
    have : small62 2 := by decide
    simp [src3, mSrcA, rng1, mCons, mNil, mC, bnd, ML.ret, this]
  unfold mFor
  refine T.bnd (T.of q ?_)
  refine T.forGo (J3 ns num place w f qs hp hq hd h0) _ 0 ρ S h (fun _ _ _ _ => gd_nil) (fun j x ρ S _ h => ?_) fun ρ S h => ⟨ρ, rfl, h⟩
  obtain ⟨sl, sl3, st, hh⟩ := h
  obtain ⟨v, v2, T0, e⟩ := B3_ev (ρ := ρ.set 12 (some x)) (S := S) hw hsw hz hi (sl3.set (by decide) _) st
  exact T.of (show bnd (gNm 12 x ρ) B3 S = _ from e) (.inl ⟨_, rfl, ((sl.set (by decide) _).set (by decide) v).set (by decide) v2, ((sl3.set (by decide) _).set (by decide) v).set (by decide) v2, st.more T0, gO hh⟩)
end
end K03

set_option maxHeartbeats 4000000
namespace K03
open PySem PySem.Spec PyProof.Rows L2 ML
theorem all_ok2 : (sortsL.all fun x => match x with | .str w => PyData.strOk w | _ => false) = true := by decide +kernel
theorem sw_of {i : Nat} {w : Str} (h : sortsL[i]? = some (.str w)) : PyData.strOk w = true := List.all_eq_true.mp all_ok2 _ (List.mem_of_getElem? h)
theorem nil_ints : ∀ d ∈ ([] : List D), ∃ i, d = D.int i := fun d h => by cases h
/-- what the loop over the words keeps -/
structure J1 (ns : List Int) (num : Int) (h0 : Nat) (ρ : ML.Loc) (S : Sto) : Prop where
  len : ρ.length = 16
  s0 : ρ[0]? = some (some (.kl ns))
  s2 : ρ[2]? = some (some (.int num))
  h : S[h0]? = some (.lst sortsL)
theorem B1_T {ns : List Int} {num place : Int} {w f : Str} {h0 : Nat} {ρ : ML.Loc} {S : Sto} (h : J1 ns num h0 ρ S) (h3 : ρ[3]? = some (some (.int place))) (h4 : ρ[4]? = some (some (.str w))) (n0 : 0 ≤ num) (n1 : num < MM) (p0 : 0 ≤ place) (p1 : place < 1000)
    (hg : getK fDict (.inr w) = some (.str f)) (hw : FL.lookup w = some (.inr f)) (hsw : PyData.strOk w = true) (h6 : (sgn f).length ≤ 6) (hok : ∀ c ∈ sgn f, c ∈ okC) : T (B1 ρ) S fun fl S' => ∃ ρ', fl = .nx ρ' ∧ J1 ns num h0 ρ' S' := by
  have hlt : h0 < S.length := (List.getElem?_eq_some_iff.mp h.h).1
  have hne : h0 ≠ S.length := by omega
  -- parts = []
  have e5 : st5 ρ S = .ok (.nx (ρ.set 5 (some (.obj S.length)))) (S ++ [.lst []]) := by simp [st5, mSet, mLstE, mkLst, mNil, bnd, ML.ret]
  have sl : Sl ns num place w S.length (ρ.set 5 (some (.obj S.length))) := ⟨by rw [List.length_set]; exact h.len, by rw [List.getElem?_set_ne (by decide)]; exact h.s0, by rw [List.getElem?_set_ne (by decide)]; exact h.s2, by rw [List.getElem?_set_ne (by decide)]; exact h3, by rw [List.getElem?_set_ne (by decide)]; exact h4, by rw [List.getElem?_set_self (by rw [h.len]; decide)]⟩
  unfold B1
  refine T.bnd (T.of e5 ?_)
  -- for j, sort in enumerate(form)
  generalize ρ.set 5 (some (.obj S.length)) = ρ1 at sl ⊢
  have g0 : (S ++ [Cell.lst []])[S.length]? = some (.lst []) := by rw [gA0]; rfl
  have gh : (S ++ [Cell.lst []])[h0]? = some (.lst sortsL) := gO h.h
  generalize S.length = hp at sl g0 hne ⊢
  generalize S ++ [Cell.lst []] = S1 at g0 gh ⊢
  obtain ⟨T1, ef⟩ := form_ev w S1
  rw [hg] at ef
  have es2 : src2 ρ1 S1 = .ok ⟨(strD f).zipIdx.map fun p => .tup [.int (p.2 : Nat), p.1], []⟩ (S1 ++ T1) := by
    simp [src2, mSrcA, enD, mCons, mNil, mCall, mV, getL, bnd, ML.ret, sl.s4, ef, srcD]
  show T (mSeq _ _ ρ1) S1 _
  refine T.bnd ?_
  unfold mFor
  refine T.bnd (T.of es2 ?_)
  refine (for2_ev (f := f) hne n0 n1 p0 p1 h6 hok (show J2 ns num place w hp h0 0 ρ1 (S1 ++ T1) from ⟨sl, gO gh, [], rfl, nil_ints, gO g0⟩)).mono fun fl S2 ⟨ρ2, efl, sl2, gh2, qs, q1, q2, q3⟩ => ?_
  subst efl
  have hz : qs.length ≤ 1000 := by omega
  -- row
  show T (mSeq st9 _ ρ2) S2 _
  refine T.bnd (T.of (st9_ev hz sl2 q3) ?_)
  have sl3 := sl2.set (i := 9) (by decide) (some (.tup (.str w :: qs)))
  have r9 : (ρ2.set 9 (some (.tup (.str w :: qs))))[9]? = some (some (.tup (.str w :: qs))) := by rw [List.getElem?_set_self (by rw [sl2.len]; decide)]
  generalize ρ2.set 9 (some (.tup (.str w :: qs))) = ρ3 at sl3 r9 ⊢
  -- pairs
  obtain ⟨T2, e10⟩ := st10_ev (S := S2) hz hg sl3 q3
  show T (mSeq st10 _ ρ3) S2 _
  refine T.bnd (T.of e10 ?_)
  have sl4 := sl3.set (i := 10) (by decide) (some (.obj (S2 ++ T2).length))
  have r9b : (ρ3.set 10 (some (.obj (S2 ++ T2).length)))[9]? = some (some (.tup (.str w :: qs))) := by rw [List.getElem?_set_ne (by decide)]; exact r9
  have r10 : (ρ3.set 10 (some (.obj (S2 ++ T2).length)))[10]? = some (some (.obj (S2 ++ T2).length)) := by rw [List.getElem?_set_self (by rw [sl3.len]; decide)]
  have gq : (S2 ++ T2 ++ [Cell.lst (prsD (sgn f) qs)])[(S2 ++ T2).length]? = some (.lst (prsD (sgn f) qs)) := by rw [gA0]; rfl
  have gp : (S2 ++ T2 ++ [Cell.lst (prsD (sgn f) qs)])[hp]? = some (.lst qs) := gO (gO q3)
  have gh3 : (S2 ++ T2 ++ [Cell.lst (prsD (sgn f) qs)])[h0]? = some (.lst sortsL) := gO (gO gh2)
  generalize ρ3.set 10 (some (.obj (S2 ++ T2).length)) = ρ4 at sl4 r9b r10 ⊢
  generalize (S2 ++ T2).length = hq at r10 gq ⊢
  generalize S2 ++ T2 ++ [Cell.lst (prsD (sgn f) qs)] = S3 at gq gp gh3 ⊢
  -- due
  obtain ⟨T3, e11⟩ := st11_ev (S := S3) hz sl4.len r10 gq
  show T (mSeq st11 _ ρ4) S3 _
  refine T.bnd (T.of e11 ?_)
  have sl5 := sl4.set (i := 11) (by decide) (some (.obj (S3 ++ T3).length))
  have r9c : (ρ4.set 11 (some (.obj (S3 ++ T3).length)))[9]? = some (some (.tup (.str w :: qs))) := by rw [List.getElem?_set_ne (by decide)]; exact r9b
  have r10c : (ρ4.set 11 (some (.obj (S3 ++ T3).length)))[10]? = some (some (.obj hq)) := by rw [List.getElem?_set_ne (by decide)]; exact r10
  have r11 : (ρ4.set 11 (some (.obj (S3 ++ T3).length)))[11]? = some (some (.obj (S3 ++ T3).length)) := by rw [List.getElem?_set_self (by rw [sl4.len]; decide)]
  have gd1 : (S3 ++ T3 ++ [Cell.lst [hdN (selS "s" (sgn f) qs)]])[(S3 ++ T3).length]? = some (.lst [hdN (selS "s" (sgn f) qs)]) := by rw [gA0]; rfl
  have gq4 : (S3 ++ T3 ++ [Cell.lst [hdN (selS "s" (sgn f) qs)]])[hq]? = some (.lst (prsD (sgn f) qs)) := gO (gO gq)
  have gp4 : (S3 ++ T3 ++ [Cell.lst [hdN (selS "s" (sgn f) qs)]])[hp]? = some (.lst qs) := gO (gO gp)
  have gh4 : (S3 ++ T3 ++ [Cell.lst [hdN (selS "s" (sgn f) qs)]])[h0]? = some (.lst sortsL) := gO (gO gh3)
  have dq : (S3 ++ T3).length ≠ hq := by have := (List.getElem?_eq_some_iff.mp gq).1; rw [List.length_append]; omega
  have dp : (S3 ++ T3).length ≠ hp := by have := (List.getElem?_eq_some_iff.mp gp).1; rw [List.length_append]; omega
  have dh : (S3 ++ T3).length ≠ h0 := by have := (List.getElem?_eq_some_iff.mp gh3).1; rw [List.length_append]; omega
  generalize ρ4.set 11 (some (.obj (S3 ++ T3).length)) = ρ5 at sl5 r9c r10c r11 ⊢
  generalize (S3 ++ T3).length = hd at r11 gd1 dq dp dh ⊢
  generalize S3 ++ T3 ++ [Cell.lst [hdN (selS "s" (sgn f) qs)]] = S4 at gd1 gq4 gp4 gh4 ⊢
  -- due.append
  obtain ⟨T4, ea⟩ := apd_ev (S := S4) hz sl5.len r10c r11 gq4 gd1
  show T (mSeq apd _ ρ5) S4 _
  refine T.bnd (T.of ea ?_)
  have st : St3 w f qs hp hq hd ((S4 ++ T4).set hd (.lst [hdN (selS "s" (sgn f) qs), hdN (selS "p" (sgn f) qs)])) :=
    ⟨by rw [List.getElem?_set_ne dp]; exact gO gp4, by rw [List.getElem?_set_ne dq]; exact gO gq4, by rw [List.getElem?_set_self (by rw [List.length_append]; have := (List.getElem?_eq_some_iff.mp gd1).1; omega)]⟩
  have gh5 : ((S4 ++ T4).set hd (.lst [hdN (selS "s" (sgn f) qs), hdN (selS "p" (sgn f) qs)]))[h0]? = some (.lst sortsL) := by rw [List.getElem?_set_ne dh]; exact gO gh4
  refine (for3_ev (f := f) hw hsw hz q2 (h0 := h0) (show J3 ns num place w f qs hp hq hd h0 0 ρ5 _ from ⟨sl5, ⟨sl5.len, sl5.s4, sl5.s5, r9c, r10c, r11⟩, st, gh5⟩)).mono fun fl S5 ⟨ρ6, efl, sl6, _, _, gh6⟩ => ⟨ρ6, efl, sl6.len, sl6.s0, sl6.s2, gh6⟩
theorem B0_T {ns : List Int} {k : Int} {ρ : ML.Loc} {S : Sto} (hl : ns.length ≤ 63) (hl16 : ρ.length = 16) (s0 : ρ[0]? = some (some (.kl ns))) (s1 : ρ[1]? = some (some (.int k))) (k0 : 0 ≤ k) (k1 : k < 1000) : T (B0 ρ) S fun fl S' => ∃ ρ', fl = .nx ρ' ∧ ρ'.length = 16 ∧ ρ'[0]? = some (some (.kl ns)) := by
  obtain ⟨num, T1, em, n0, n1⟩ := mixed_ev ns k S hl k0 k1
  have e2 : st2 ρ S = .ok (.nx (ρ.set 2 (some (.int num)))) (S ++ T1) := by
    simp [st2, mSet, mCall, mCons, mNil, mV, getL, bnd, ML.ret, s0, s1, em]
  unfold B0
  refine T.bnd (T.of e2 ?_)
  have a0 : (ρ.set 2 (some (.int num))).length = 16 := by rw [List.length_set]; exact hl16
  have a1 : (ρ.set 2 (some (.int num)))[0]? = some (some (.kl ns)) := by rw [List.getElem?_set_ne (by decide)]; exact s0
  have a2 : (ρ.set 2 (some (.int num)))[2]? = some (some (.int num)) := by rw [List.getElem?_set_self (by rw [hl16]; decide)]
  generalize ρ.set 2 (some (.int num)) = ρ1 at a0 a1 a2 ⊢
  generalize S ++ T1 = S1
  obtain ⟨T2, es, tl, t2⟩ := sorts_ev S1
  have gh : (S1 ++ T2)[S1.length + 2]? = some (.lst sortsL) := by rw [gA]; exact t2
  have e1 : src1 ρ1 S1 = .ok ⟨sortsL.zipIdx.map fun p => .tup [.int (p.2 : Nat), p.1], [(S1.length + 2, sortsL)]⟩ (S1 ++ T2) := by
    simp [src1, mSrcA, enD, mCons, mNil, bnd, ML.ret, es, srcD, lsOf_of gh]
  show T (mFor _ _ _ ρ1) S1 _
  unfold mFor
  refine T.bnd (T.of e1 ?_)
  refine T.forGo (fun _ ρ S => J1 ns num (S1.length + 2) ρ S) _ 0 ρ1 _ ⟨a0, a1, a2, gh⟩ (fun _ _ _ h => gd_one (lsOf_of h.h)) (fun j x ρ S hx h => ?_) fun ρ S h => ⟨ρ, rfl, h.len, h.s0⟩
  have hx2 : ∃ y, sortsL[j]? = some y ∧ x = .tup [.int (j : Nat), y] := by
    rw [List.getElem?_map, List.getElem?_zipIdx] at hx
    cases q : sortsL[j]? with
    | none => rw [q] at hx; simp at hx
    | some y => rw [q] at hx; exact ⟨y, rfl, by simpa using hx.symm⟩
  obtain ⟨y, hy, rfl⟩ := hx2
  obtain ⟨w, f, rfl, g1, g2, g3, g4, g5⟩ := word_of hy
  have b := B1_T (ρ := (ρ.set 3 (some (.int (j : Nat)))).set 4 (some (.str w))) (S := S) (place := (j : Nat)) (w := w) (f := f) (h0 := S1.length + 2) (ns := ns) (num := num)
    ⟨by rw [List.length_set, List.length_set]; exact h.len, by rw [List.getElem?_set_ne (by decide), List.getElem?_set_ne (by decide)]; exact h.s0, by rw [List.getElem?_set_ne (by decide), List.getElem?_set_ne (by decide)]; exact h.s2, h.h⟩
    (by rw [List.getElem?_set_ne (by decide), List.getElem?_set_self (by rw [h.len]; decide)]) (by rw [List.getElem?_set_self (by rw [List.length_set, h.len]; decide)]) n0 n1 (by omega) (by omega) g1 g2 (sw_of hy) g3 g4
  exact (show T (bnd (gTp 2 (gCn (gNm 3) (gCn (gNm 4) gNl)) (.tup [.int (j : Nat), .str w]) ρ) B1) S _ from b).mono fun fl S' ⟨ρ', e, q⟩ => .inl ⟨ρ', e, q⟩
theorem law_sound : LawOk d_law := by
  intro ns hl _
  have key : T (d_law [.kl ns]) [] fun d _ => d = .bl true := by
    unfold d_law defM
    rw [law_eq]
    have r0 : (startL n_law [.kl ns]).length = 16 := rfl
    have r1 : (startL n_law [.kl ns])[0]? = some (some (.kl ns)) := rfl
    generalize startL n_law [.kl ns] = ρ at r0 r1
    refine T.bnd (T.bnd ?_)
    have e0 : src0 ρ [] = .ok ⟨rngD 0 (1 + (if (ns.length : Int) < 30 then (ns.length : Int) else 30)).toNat, []⟩ [] := by
      have z : small62 (1 + (if (ns.length : Int) < 30 then (ns.length : Int) else 30)) := by
        unfold small62
        split <;> omega
      simp [src0, mSrcA, rng1, mBin, evBin, opAdd, mB, fII, fLen, mCons, mNil, mC, mV, getL, bnd, ML.ret, r1, z]
    unfold mFor
    refine T.bnd (T.of e0 ?_)
    refine T.forGo (fun _ ρ _ => ρ.length = 16 ∧ ρ[0]? = some (some (.kl ns))) _ 0 ρ [] ⟨r0, r1⟩ (fun _ _ _ _ => gd_nil) (fun j x ρ S hx ⟨a0, a1⟩ => ?_) fun ρ S _ => ?_
    · have hj : j < 31 ∧ x = .int (0 + (j : Nat)) := by
        unfold rngD at hx
        rw [List.getElem?_map] at hx
        cases q : (List.range (1 + (if (ns.length : Int) < 30 then (ns.length : Int) else 30)).toNat)[j]? with
        | none => rw [q] at hx; cases hx
        | some y =>
          rw [q] at hx
          obtain ⟨h1, h2⟩ := List.getElem?_eq_some_iff.mp q
          rw [List.getElem_range] at h2
          rw [List.length_range] at h1
          subst h2
          refine ⟨?_, by cases hx; rfl⟩
          split at h1 <;> omega
      obtain ⟨hj, rfl⟩ := hj
      have b := B0_T (ρ := ρ.set 1 (some (.int (0 + (j : Nat))))) (S := S) (k := 0 + (j : Nat)) hl (by rw [List.length_set]; exact a0) (by rw [List.getElem?_set_ne (by decide)]; exact a1) (by rw [List.getElem?_set_self (by rw [a0]; decide)]) (by omega) (by omega)
      exact (show T (bnd (gNm 1 (.int (0 + (j : Nat))) ρ) B0) S _ from b).mono fun fl S' ⟨ρ', e, q⟩ => .inl ⟨ρ', e, q⟩
    · show T (mRt (mC (.bl true)) ρ) S _
      exact T.of (a := .rt (.bl true)) (S' := S) rfl (T.of (a := .bl true) (S' := S) rfl rfl)
  obtain ⟨a, S', e, rfl⟩ := key
  exact ⟨S', e⟩
end K03

set_option maxHeartbeats 4000000
namespace K03
open PySem PySem.Spec PyProof.Rows L2 ML
theorem le_parts_of : LeG c_parts_of d_parts_of 2 := fun _ _ _ => .inr (.inl rfl)
theorem le_is_way : LeG c_is_way d_is_way 1 := fun _ _ _ => .inr (.inl rfl)
theorem le__law_mixed : LeG c__law_mixed d__law_mixed 2 := fun _ _ _ => .inr (.inl rfl)
theorem le__law_turned : LeG c__law_turned d__law_turned 2 := fun _ _ _ => .inr (.inl rfl)
theorem le__law_form : LeG c__law_form d__law_form 1 := fun _ _ _ => .inr (.inl rfl)
theorem le__law_sorts : LeG c__law_sorts d__law_sorts 0 := fun _ _ _ => .inr (.inl rfl)
theorem le_reads : LeG c_reads d_reads 1 := fun _ _ _ => .inr (.inl rfl)
theorem le_sets : LeG c_sets d_sets 1 := fun _ _ _ => .inr (.inl rfl)
theorem le_leads : LeG c_leads d_leads 1 := fun _ _ _ => .inr (.inl rfl)
end K03

set_option maxHeartbeats 4000000
namespace K03
open PySem PySem.Spec PyProof.Rows L2 ML
theorem cx_no {P : Program} {w : World} {outer : List Env} {H : Hp} {s : Shared} {e : Value} {s2 : Shared} (h : L2.CX P w outer H s (fun _ _ _ => False) e s2) : False := by
  obtain ⟨_, _, _, _, _, _, _, _, _, _, _, _, z⟩ := h
  exact z
def kvs_FORMS : List (Str × Key) := [("set", .inr "sn"), ("copy", .inr "sr"), ("add", .inr "srr"), ("less", .inr "srr"), ("same", .inr "srr"), ("mix", .inr "srr"), ("pick", .inr "srrr"), ("ask", .inr "sk"), ("take", .inr "sr"), ("tell", .inr "r"), ("put", .inr "rr"), ("go", .inr "p"), ("if", .inr "rp"), ("end", .inr ""), ("hold", .inr "rr"), ("tell2", .inr "rr"), ("put2", .inr "rrrr"), ("if2", .inr "rrp"), ("tell3", .inr "rrr"), ("put3", .inr "rrrrrr"), ("if3", .inr "rrrp"), ("keep", .inr "")]
def ds_WAYS : List D := [.str "go", .str "if", .str "if2", .str "if3", .str "end"]
theorem all_mk {l : PySem.W.OpenLaw} {w : World} {K : PySem.W.Frag} {h : Heap} {mg : Str → Option Value} {fa : Addr} {f0 : Addr} {od0 an0 : Option Addr} {sl0 : Array (Option Value)} {oc0 kV0 dc0 pm0 cd0 ct0 : Value} {f1 : Addr} {od1 an1 : Option Addr} {sl1 : Array (Option Value)} {oc1 kV1 dc1 pm1 cd1 ct1 : Value} {f2 : Addr} {od2 an2 : Option Addr} {sl2 : Array (Option Value)} {oc2 kV2 dc2 pm2 cd2 ct2 : Value} {f3 : Addr} {od3 an3 : Option Addr} {sl3 : Array (Option Value)} {oc3 kV3 dc3 pm3 cd3 ct3 : Value} {f4 : Addr} {od4 an4 : Option Addr} {sl4 : Array (Option Value)} {oc4 kV4 dc4 pm4 cd4 ct4 : Value} {f5 : Addr} {od5 an5 : Option Addr} {sl5 : Array (Option Value)} {oc5 kV5 dc5 pm5 cd5 ct5 : Value} {f6 : Addr} {od6 an6 : Option Addr} {sl6 : Array (Option Value)} {oc6 kV6 dc6 pm6 cd6 ct6 : Value} {f7 : Addr} {od7 an7 : Option Addr} {sl7 : Array (Option Value)} {oc7 kV7 dc7 pm7 cd7 ct7 : Value} {f8 : Addr} {od8 an8 : Option Addr} {sl8 : Array (Option Value)} {oc8 kV8 dc8 pm8 cd8 ct8 : Value} {f9 : Addr} {od9 an9 : Option Addr} {sl9 : Array (Option Value)} {oc9 kV9 dc9 pm9 cd9 ct9 : Value} {gUA_PLACE : Value} {gAFORMS : Addr} {gEFORMS : Array DictEntry} {gNFORMS : Nat} {gUREAD_BOX : Value} {gUSET_BOX : Value} {gAWAYS : Addr} {gOWAYS : Obj} {gIWAYS : Array Value} {gNWAYS : Nat} (X : K.In h) (Gn : h.Ns mainGlobals mg) (hfa : mg "law" = some (.ref fa))
    (a0 : PySem.W.nsIn K mainGlobals "parts_of" = some (some (.ref f0))) (l0 : K.lookup f0 = some ⟨oc0, od0, .func (PySem.W.fnOf "parts_of" "parts_of" (defArgs s_parts_of) (defBody s_parts_of) (defScope s_parts_of) .none kV0 dc0 pm0 an0 cd0 ct0), sl0⟩) (c0 : PySem.W.codeIn K cd0 "parts_of" = true) (k0 : PySem.W.keepIn K (.ref f0) = true) (a1 : PySem.W.nsIn K mainGlobals "is_way" = some (some (.ref f1))) (l1 : K.lookup f1 = some ⟨oc1, od1, .func (PySem.W.fnOf "is_way" "is_way" (defArgs s_is_way) (defBody s_is_way) (defScope s_is_way) .none kV1 dc1 pm1 an1 cd1 ct1), sl1⟩) (c1 : PySem.W.codeIn K cd1 "is_way" = true) (k1 : PySem.W.keepIn K (.ref f1) = true) (a2 : PySem.W.nsIn K mainGlobals "_law_mixed" = some (some (.ref f2))) (l2 : K.lookup f2 = some ⟨oc2, od2, .func (PySem.W.fnOf "_law_mixed" "_law_mixed" (defArgs s__law_mixed) (defBody s__law_mixed) (defScope s__law_mixed) .none kV2 dc2 pm2 an2 cd2 ct2), sl2⟩) (c2 : PySem.W.codeIn K cd2 "_law_mixed" = true) (k2 : PySem.W.keepIn K (.ref f2) = true) (a3 : PySem.W.nsIn K mainGlobals "_law_turned" = some (some (.ref f3))) (l3 : K.lookup f3 = some ⟨oc3, od3, .func (PySem.W.fnOf "_law_turned" "_law_turned" (defArgs s__law_turned) (defBody s__law_turned) (defScope s__law_turned) .none kV3 dc3 pm3 an3 cd3 ct3), sl3⟩) (c3 : PySem.W.codeIn K cd3 "_law_turned" = true) (k3 : PySem.W.keepIn K (.ref f3) = true) (a4 : PySem.W.nsIn K mainGlobals "_law_form" = some (some (.ref f4))) (l4 : K.lookup f4 = some ⟨oc4, od4, .func (PySem.W.fnOf "_law_form" "_law_form" (defArgs s__law_form) (defBody s__law_form) (defScope s__law_form) .none kV4 dc4 pm4 an4 cd4 ct4), sl4⟩) (c4 : PySem.W.codeIn K cd4 "_law_form" = true) (k4 : PySem.W.keepIn K (.ref f4) = true) (a5 : PySem.W.nsIn K mainGlobals "_law_sorts" = some (some (.ref f5))) (l5 : K.lookup f5 = some ⟨oc5, od5, .func (PySem.W.fnOf "_law_sorts" "_law_sorts" (defArgs s__law_sorts) (defBody s__law_sorts) (defScope s__law_sorts) .none kV5 dc5 pm5 an5 cd5 ct5), sl5⟩) (c5 : PySem.W.codeIn K cd5 "_law_sorts" = true) (k5 : PySem.W.keepIn K (.ref f5) = true) (a6 : PySem.W.nsIn K mainGlobals "reads" = some (some (.ref f6))) (l6 : K.lookup f6 = some ⟨oc6, od6, .func (PySem.W.fnOf "reads" "reads" (defArgs s_reads) (defBody s_reads) (defScope s_reads) .none kV6 dc6 pm6 an6 cd6 ct6), sl6⟩) (c6 : PySem.W.codeIn K cd6 "reads" = true) (k6 : PySem.W.keepIn K (.ref f6) = true) (a7 : PySem.W.nsIn K mainGlobals "sets" = some (some (.ref f7))) (l7 : K.lookup f7 = some ⟨oc7, od7, .func (PySem.W.fnOf "sets" "sets" (defArgs s_sets) (defBody s_sets) (defScope s_sets) .none kV7 dc7 pm7 an7 cd7 ct7), sl7⟩) (c7 : PySem.W.codeIn K cd7 "sets" = true) (k7 : PySem.W.keepIn K (.ref f7) = true) (a8 : PySem.W.nsIn K mainGlobals "leads" = some (some (.ref f8))) (l8 : K.lookup f8 = some ⟨oc8, od8, .func (PySem.W.fnOf "leads" "leads" (defArgs s_leads) (defBody s_leads) (defScope s_leads) .none kV8 dc8 pm8 an8 cd8 ct8), sl8⟩) (c8 : PySem.W.codeIn K cd8 "leads" = true) (k8 : PySem.W.keepIn K (.ref f8) = true) (a9 : PySem.W.nsIn K mainGlobals "law" = some (some (.ref f9))) (l9 : K.lookup f9 = some ⟨oc9, od9, .func (PySem.W.fnOf "law" "law" (defArgs s_law) (defBody s_law) (defScope s_law) .none kV9 dc9 pm9 an9 cd9 ct9), sl9⟩) (c9 : PySem.W.codeIn K cd9 "law" = true) (k9 : PySem.W.keepIn K (.ref f9) = true) (gaA_PLACE : PySem.W.nsIn K mainGlobals "A_PLACE" = some (some gUA_PLACE)) (geA_PLACE : absD gUA_PLACE = some v_A_PLACE) (gaFORMS : PySem.W.nsIn K mainGlobals "FORMS" = some (some (.ref gAFORMS))) (glFORMS : K.lookup gAFORMS = some ⟨.type "dict", none, .dict gEFORMS gNFORMS, #[]⟩) (gkFORMS : PySem.W.KeysLit w.params gEFORMS.toList) (gsFORMS : (gAFORMS == sysModules) = false) (geFORMS : gEFORMS.toList.map entD = kvs_FORMS.map some) (gaREAD_BOX : PySem.W.nsIn K mainGlobals "READ_BOX" = some (some gUREAD_BOX)) (geREAD_BOX : absD gUREAD_BOX = some v_READ_BOX) (gaSET_BOX : PySem.W.nsIn K mainGlobals "SET_BOX" = some (some gUSET_BOX)) (geSET_BOX : absD gUSET_BOX = some v_SET_BOX) (gaWAYS : PySem.W.nsIn K mainGlobals "WAYS" = some (some (.ref gAWAYS))) (glWAYS : K.lookup gAWAYS = some gOWAYS) (gcWAYS : gOWAYS.cls = .type "tuple") (gdWAYS : gOWAYS.data = .seq gIWAYS gNWAYS) (geWAYS : gIWAYS.toList.map absD = ds_WAYS.map some) (zbool : PySem.W.nsIn K mainGlobals "bool" = some none) (zenumerate : PySem.W.nsIn K mainGlobals "enumerate" = some none) (zisinstance : PySem.W.nsIn K mainGlobals "isinstance" = some none) (zlen : PySem.W.nsIn K mainGlobals "len" = some none) (zlist : PySem.W.nsIn K mainGlobals "list" = some none) (zmax : PySem.W.nsIn K mainGlobals "max" = some none) (zmin : PySem.W.nsIn K mainGlobals "min" = some none) (zrange : PySem.W.nsIn K mainGlobals "range" = some none) (ztuple : PySem.W.nsIn K mainGlobals "tuple" = some none) (zzip : PySem.W.nsIn K mainGlobals "zip" = some none) :
    ∃ fd : FuncData, (∀ (s : Shared) (v : Value), BindsTo s fd ⟨[v], []⟩ [("_law_script", v)]) ∧ ∀ base : Heap, K.In base → base.Ns mainGlobals mg → FnOk l.prog w K mg base (L2.CX l.prog w) 3 fa fd ["_law_script"] (spM ⟨K, w, fun _ => 0⟩ 1 d_law) := by
  have e := hfa.symm.trans (PySem.W.mg_of X Gn a9)
  cases e
  have F0 := fun_mk (st := s_parts_of) l0 c0 k0
  have F1 := fun_mk (st := s_is_way) l1 c1 k1
  have F2 := fun_mk (st := s__law_mixed) l2 c2 k2
  have F3 := fun_mk (st := s__law_turned) l3 c3 k3
  have F4 := fun_mk (st := s__law_form) l4 c4 k4
  have F5 := fun_mk (st := s__law_sorts) l5 c5 k5
  have F6 := fun_mk (st := s_reads) l6 c6 k6
  have F7 := fun_mk (st := s_sets) l7 c7 k7
  have F8 := fun_mk (st := s_leads) l8 c8 k8
  have F9 := fun_mk (st := s_law) l9 c9 k9
  refine ⟨PySem.W.fnOf "law" "law" (defArgs s_law) (defBody s_law) (defScope s_law) .none kV9 dc9 pm9 an9 cd9 ct9, fun s v => .of_eq rfl, fun base _ _ => ?_⟩
  let G : Wd := ⟨K, w, fun _ => 0⟩
  have hg_A_PLACE : Gv mg G "A_PLACE" v_A_PLACE := Gv.lit (PySem.W.mg_of X Gn gaA_PLACE) geA_PLACE
  have hg_FORMS : Gv mg G "FORMS" v_FORMS := Gv.kd (PySem.W.mg_of X Gn gaFORMS) glFORMS gkFORMS gsFORMS geFORMS
  have hg_READ_BOX : Gv mg G "READ_BOX" v_READ_BOX := Gv.lit (PySem.W.mg_of X Gn gaREAD_BOX) geREAD_BOX
  have hg_SET_BOX : Gv mg G "SET_BOX" v_SET_BOX := Gv.lit (PySem.W.mg_of X Gn gaSET_BOX) geSET_BOX
  have hg_WAYS : Gv mg G "WAYS" v_WAYS := Gv.tup (PySem.W.mg_of X Gn gaWAYS) glWAYS gcWAYS gdWAYS geWAYS (by decide)
  have hb_bool : mg "bool" = none := PySem.W.mg_none_of X Gn zbool
  have hb_enumerate : mg "enumerate" = none := PySem.W.mg_none_of X Gn zenumerate
  have hb_isinstance : mg "isinstance" = none := PySem.W.mg_none_of X Gn zisinstance
  have hb_len : mg "len" = none := PySem.W.mg_none_of X Gn zlen
  have hb_list : mg "list" = none := PySem.W.mg_none_of X Gn zlist
  have hb_max : mg "max" = none := PySem.W.mg_none_of X Gn zmax
  have hb_min : mg "min" = none := PySem.W.mg_none_of X Gn zmin
  have hb_range : mg "range" = none := PySem.W.mg_none_of X Gn zrange
  have hb_tuple : mg "tuple" = none := PySem.W.mg_none_of X Gn ztuple
  have hb_zip : mg "zip" = none := PySem.W.mg_none_of X Gn zzip
  have h_parts_of : Hf l.prog w mg base G 1 "parts_of" ["row", "sort"] c_parts_of := (Hf.of (w_parts_of (G := G) rfl hb_tuple hb_zip hg_FORMS F0) (PySem.W.mg_of X Gn a0) F0.kp (F0.binds fun _ _ _ _ _ _ us hl => match us, hl with | [_, _], _ => rfl)).gc le_parts_of
  have h_is_way : Hf l.prog w mg base G 1 "is_way" ["row"] c_is_way := (Hf.of (w_is_way (G := G) rfl hg_WAYS F1) (PySem.W.mg_of X Gn a1) F1.kp (F1.binds fun _ _ _ _ _ _ us hl => match us, hl with | [_], _ => rfl)).gc le_is_way
  have h__law_mixed : Hf l.prog w mg base G 1 "_law_mixed" ["_law_script", "_law_k"] c__law_mixed := (Hf.of (w__law_mixed (G := G) rfl hb_len hb_max F2) (PySem.W.mg_of X Gn a2) F2.kp (F2.binds fun _ _ _ _ _ _ us hl => match us, hl with | [_, _], _ => rfl)).gc le__law_mixed
  have h__law_turned : Hf l.prog w mg base G 1 "_law_turned" ["_law_number", "_law_k"] c__law_turned := (Hf.of (w__law_turned (G := G) rfl  F3) (PySem.W.mg_of X Gn a3) F3.kp (F3.binds fun _ _ _ _ _ _ us hl => match us, hl with | [_, _], _ => rfl)).gc le__law_turned
  have h__law_form : Hf l.prog w mg base G 1 "_law_form" ["_law_word"] c__law_form := (Hf.of (w__law_form (G := G) rfl  F4) (PySem.W.mg_of X Gn a4) F4.kp (F4.binds fun _ _ _ _ _ _ us hl => match us, hl with | [_], _ => rfl)).gc le__law_form
  have h__law_sorts : Hf l.prog w mg base G 1 "_law_sorts" [] c__law_sorts := (Hf.of (w__law_sorts (G := G) rfl  F5) (PySem.W.mg_of X Gn a5) F5.kp (F5.binds fun _ _ _ _ _ _ us hl => match us, hl with | [], _ => rfl)).gc le__law_sorts
  have h_reads : Hf l.prog w mg base G 2 "reads" ["row"] c_reads := (Hf.of (w_reads (G := G) rfl hg_READ_BOX h_parts_of F6) (PySem.W.mg_of X Gn a6) F6.kp (F6.binds fun _ _ _ _ _ _ us hl => match us, hl with | [_], _ => rfl)).gc le_reads
  have h_sets : Hf l.prog w mg base G 2 "sets" ["row"] c_sets := (Hf.of (w_sets (G := G) rfl hg_SET_BOX h_parts_of F7) (PySem.W.mg_of X Gn a7) F7.kp (F7.binds fun _ _ _ _ _ _ us hl => match us, hl with | [_], _ => rfl)).gc le_sets
  have h_leads : Hf l.prog w mg base G 2 "leads" ["row"] c_leads := (Hf.of (w_leads (G := G) rfl hg_A_PLACE h_parts_of F8) (PySem.W.mg_of X Gn a8) F8.kp (F8.binds fun _ _ _ _ _ _ us hl => match us, hl with | [_], _ => rfl)).gc le_leads
  exact w_law (G := G) rfl hb_bool hb_enumerate hb_isinstance hb_len hb_list hb_min hb_range hb_tuple hb_zip h__law_form h__law_mixed h__law_sorts h__law_turned h_is_way h_leads h_reads h_sets F9
end K03
open PySem PySem.W PyProof.Rows
set_option maxHeartbeats 0 in
theorem PySem.Challenge.cw_slipward_k03_rows_read_holds : PySem.Challenge.rw_slipward_k03_rows_read.Holds := by
  w_on; o_law; k_head; (case hw => w_witness2)
  k_fill
  refine L2.walk_ofB (l := PySem.Challenge.rw_slipward_k03_rows_read) (n := 63) (k := 3) (x := "_law_script") (CX := fun w => L2.CX PySem.Challenge.rw_slipward_k03_rows_read.prog w) (sp := fun w => ML.spM ⟨_, w, fun _ => 0⟩ 1 K03.d_law) rfl (by decide) rfl ⟨rfl, by decide, by decide⟩ (fun w h Y => PySem.W.kIn_of Y) ?F (fun w H a ns hl hb on hS => ML.law_sp K03.law_sound H a ns hl hb on hS) (fun w H s e s' h => K03.cx_no h)
  case F =>
    intro w mg fa h KX G hmg
    refine' K03.all_mk KX G hmg ?a0 ?l0 ?c0 ?k0 ?a1 ?l1 ?c1 ?k1 ?a2 ?l2 ?c2 ?k2 ?a3 ?l3 ?c3 ?k3 ?a4 ?l4 ?c4 ?k4 ?a5 ?l5 ?c5 ?k5 ?a6 ?l6 ?c6 ?k6 ?a7 ?l7 ?c7 ?k7 ?a8 ?l8 ?c8 ?k8 ?a9 ?l9 ?c9 ?k9 ?gaA_PLACE ?geA_PLACE ?gaFORMS ?glFORMS ?gkFORMS ?gsFORMS ?geFORMS ?gaREAD_BOX ?geREAD_BOX ?gaSET_BOX ?geSET_BOX ?gaWAYS ?glWAYS ?gcWAYS ?gdWAYS ?geWAYS ?zbool ?zenumerate ?zisinstance ?zlen ?zlist ?zmax ?zmin ?zrange ?ztuple ?zzip
    (case a0 => k_is); (case l0 => k_is); (case c0 => k_is); (case k0 => k_is); (case a1 => k_is); (case l1 => k_is); (case c1 => k_is); (case k1 => k_is); (case a2 => k_is); (case l2 => k_is); (case c2 => k_is); (case k2 => k_is); (case a3 => k_is); (case l3 => k_is); (case c3 => k_is); (case k3 => k_is); (case a4 => k_is); (case l4 => k_is); (case c4 => k_is); (case k4 => k_is); (case a5 => k_is); (case l5 => k_is); (case c5 => k_is); (case k5 => k_is); (case a6 => k_is); (case l6 => k_is); (case c6 => k_is); (case k6 => k_is); (case a7 => k_is); (case l7 => k_is); (case c7 => k_is); (case k7 => k_is); (case a8 => k_is); (case l8 => k_is); (case c8 => k_is); (case k8 => k_is); (case a9 => k_is); (case l9 => k_is); (case c9 => k_is); (case k9 => k_is); (case gaA_PLACE => k_is); (case geA_PLACE => rfl); (case gaFORMS => k_is); (case glFORMS => k_is); (case gkFORMS => exact ⟨⟨_, _, rfl, rfl⟩, ⟨_, _, rfl, rfl⟩, ⟨_, _, rfl, rfl⟩, ⟨_, _, rfl, rfl⟩, ⟨_, _, rfl, rfl⟩, ⟨_, _, rfl, rfl⟩, ⟨_, _, rfl, rfl⟩, ⟨_, _, rfl, rfl⟩, ⟨_, _, rfl, rfl⟩, ⟨_, _, rfl, rfl⟩, ⟨_, _, rfl, rfl⟩, ⟨_, _, rfl, rfl⟩, ⟨_, _, rfl, rfl⟩, ⟨_, _, rfl, rfl⟩, ⟨_, _, rfl, rfl⟩, ⟨_, _, rfl, rfl⟩, ⟨_, _, rfl, rfl⟩, ⟨_, _, rfl, rfl⟩, ⟨_, _, rfl, rfl⟩, ⟨_, _, rfl, rfl⟩, ⟨_, _, rfl, rfl⟩, ⟨_, _, rfl, rfl⟩, trivial⟩); (case gsFORMS => rfl); (case geFORMS => rfl); (case gaREAD_BOX => k_is); (case geREAD_BOX => rfl); (case gaSET_BOX => k_is); (case geSET_BOX => rfl); (case gaWAYS => k_is); (case glWAYS => k_is); (case gcWAYS => rfl); (case gdWAYS => rfl); (case geWAYS => rfl); (case zbool => k_is); (case zenumerate => k_is); (case zisinstance => k_is); (case zlen => k_is); (case zlist => k_is); (case zmax => k_is); (case zmin => k_is); (case zrange => k_is); (case ztuple => k_is); (case zzip => k_is)
